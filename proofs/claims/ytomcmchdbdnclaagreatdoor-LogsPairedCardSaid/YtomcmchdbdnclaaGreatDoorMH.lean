/-
 What is proved: the library's sort by a function. Condition: its text lies in the program.
-/
import Derived.Test.YtomcmchdbdnclaaGreatDoorMG
import Derived.Shelf.SlSortCmp.NoneTotal
set_option linter.all false
open Array renaming getElem?_modify->K6,range->iL,size_range->WJ,getElem?_append_left->Ee
open Go.Proofs renaming sortWorldK->Ao
open Go.Sort renaming grow->tn,mapBlock->rb,putRowK->Lm,putRow->Ap,ahead->rf
open List renaming getElem?_map->bB,getElem?_eq_getElem->bx,mem_of_getElem?->dJ,getElem?_eq_none->nh,getD_eq_getElem?_getD->bP,ext_getElem?->iK,range->dB
open List.cons renaming injEq->K5
open Nat renaming zero_le->dX,zero_add->cn,mul_comm->al0
open Option.some renaming injEq->aM
namespace Go.AL
open Go Go.Proofs
variable [Dr]
theorem uV:∀(ks:List Kd) (r:List G),(dq ks r).length=ks.length
 | [],_=>rfl
 |_::ks,r=>by simp[dq,uV ks]
theorem abw:∀(k:Kd) (g:G),dm (pW k g)=true/\(pW k g).oneCell'=true
 |.int _,_=>⟨rfl,rfl⟩
 |.str,_=>⟨rfl,rfl⟩
 |.bool,_=>⟨rfl,rfl⟩
 |.list _,_=>⟨rfl,rfl⟩
theorem yo:∀(ks:List Kd) (r:List G),∀ v∈dq ks r,dm v=true/\v.oneCell'=true
 | [],_,v,h=>by simp[dq]at h
 | k::ks,r,v,h=>by
  simp only[dq,List.mem_cons]at h;rcases h with rfl|h
  ·exact abw _ _
  ·exact yo ks r.tail v h
theorem yp{E:Env}:∀{ks:List Kd} {r:List G} {vs:List Value},Kd.cz ks=true->(ae E (aD ks r) vs↔vs=dq ks r)
 | [],r,[],_=>by simp[aD,ae,dq]
 | [],r,_::_,_=>by simp[aD,ae,dq]
 |_::_,r,[],_=>by simp[aD,ae,dq]
 |.list _::_,_,_::_,h=>by simp[Kd.cz]at h
 | .int k::ks,r,v::vs,h=>by
  simp only[Kd.cz]at h;simp only[aD,ae,yp (ks:=ks) h,dq,jM,pW,rel,K5]
 | .str::ks,r,v::vs,h=>by
  simp only[Kd.cz]at h;simp only[aD,ae,yp (ks:=ks) h,dq,jM,pW,rel,K5]
 | .bool::ks,r,v::vs,h=>by
  simp only[Kd.cz]at h;simp only[aD,ae,yp (ks:=ks) h,dq,jM,pW,rel,K5]
theorem GW{E:Env}{ks:List Kd}(r:List G)(h:Kd.cz ks=true):ae E (aD ks r) (dq ks r):=(yp h).2 rfl
theorem Pj{E:Env}{ks:List Kd}{r:List G}{b o:Nat}(g:Kd.cz ks=true)(h:cu E (aD ks r) b o):∀ c,c<ks.length->E.w.cell? ⟨b,o+c,none⟩=some (dq ks r)[c]! := by
 obtain⟨vs,h1,_,k⟩:=wW h;have e:=(yp g).1 h1;subst e;intro c d;refine k c _ ?_;rw[bx (by rw[uV]; exact d),getElem!_pos _ c (by rw[uV]; exact d)]
theorem abx{w w':World}(h:@Ext wR w w'):∃ q os,w'=tn (w.drewN q) os:=by
 obtain⟨h1,g,k,u,v,d⟩:=h;have d:=d rfl;refine⟨w'.drawn-w.drawn,w'.heap.extract w.heap.size w'.heap.size,?_⟩;cases w with
 | mk U V W os ou =>
  cases w' with
  | mk y I M N O =>
   simp only at h1 g k u v d;subst k u v;simp only[tn,World.drewN,World.mk.injEq,eq_self,true_and,and_true];refine⟨?_,by omega⟩;apply Array.ext_getElem?;intro i;rw[Array.getElem?_append];split
   ·exact g i (by assumption)
   ·rw [Array.getElem?_extract]
    split
    ·congr 1
     omega
    ·rw[Array.getElem?_eq_none (by omega)]
def bare(w:World):Env:={ w:=w,H:=[],loc:=[],X:=⟨fun _=>False,fun _=>False,dZ⟩ }
theorem aby(w:World)(d:rj (bare w)):al (bare w):=⟨rfl,fun i j b m n h=>by simp[bare]at h,fun i b m h=>by simp[bare]at h,fun b h=>h.elim,fun i o h=>by simp[bare]at h,d,fun l k l' k' b m n hk=>by simp[bare,dZ]at hk,fun i b m l k n hi=>by simp[bare]at hi,fun l k b m hk=>by simp[bare,dZ]at hk,fun i j o o' l hi=>by simp[bare]at hi,fun l _ k q hk=>by simp[bare,dZ]at hk⟩
theorem abz{P:Program}{g:FuncId}{args:List AV}{n:Int} (h:@dn wR P g args [] (.lit (.int .i64 n)) []) {cs:Array Value} (w:World) (d:rj (bare w)) (hr:ae (bare w) args cs.toList) :
  Calls P g cs w fun e w'=>e=.returned (.int .i64 n)/\∃ q os,w'=tn (w.drewN q) os:=by
 refine(h (bare w) cs rfl (aby w d) hr).mono ?_;rintro e w' ⟨c,v,H',rfl,⟨rfl,rfl⟩,N,r',h1,O,u⟩;simp only[rel]at h1;subst h1;cases u with
 |mk _ y I _ _ _ _ M =>
 refine⟨rfl,abx (@Ext.mk wR _ _ y (fun b hb=>I b hb ?_) M)⟩;rintro(⟨i,c,hi⟩|⟨l,k,c,hk⟩)
 ·simp[bare]at hi
 ·simp[bare,dZ]at hk
def yq(C:List G->Option (List G))(r s:List G):Int:=(gi ((C [.l [r],.l [s]]).getD []) 0).int
def gy(rows:List (List G))(i:Nat):List G:=rows.getD i (rows.headD [])
theorem yr{rows:List (List G)}(h:rows≠[])(i:Nat):gy rows i∈rows:=by
 unfold gy;rw[bP];cases hi:rows[i]? with
 |some x=>exact dJ hi
 | none =>
  cases rows with
  |nil=>exact(h rfl).elim
  |cons x l=>simp
abbrev nN(C:List G->Option (List G))(rows:List (List G))(i j:Nat):Int:=yq C (gy rows i) (gy rows j)
structure se (C:List G->Option (List G)) (rows:List (List G)):Prop where
 ans:∀ r∈rows,∀ s∈rows,∃ n,C [.l [r],.l [s]]=some [.i n]
 swo:Go.Sort.SWO (ltOf (nN C rows))
 small:rows.length<4611686018427387904
noncomputable def mW(C:List G->Option (List G))(rows:List (List G)):Array Nat:=Go.Sort.pdq (ltOf (nN C rows)) (iL rows.length) 0 (iL rows.length).size (Lib.bitLen (iL rows.length).size) true true
noncomputable def sf(C:List G->Option (List G))(rows:List (List G)):List (List G):=(mW C rows).toList.map (gy rows)
open Classical in
noncomputable def sk(C:List G->Option (List G))(d:List G):Option (List G) :=
 if (gi d 0).rows=[] then some [.l []] else if se C (gi d 0).rows then some [.l (sf C (gi d 0).rows)] else none
theorem Cf{C:List G->Option (List G)}{rows:List (List G)}(h:se C rows):Go.Sort.PermIn 0 (iL rows.length).size (iL rows.length) (mW C rows)/\Go.Sort.SortedIn (ltOf (nN C rows)) 0 (iL rows.length).size (mW C rows) :=
 Go.Sort.pdq_sorts _ h.swo _ 0 _ _ true true (dX _) (Nat.le_refl _) (Or.inl rfl)
theorem abB{C:List G->Option (List G)}{rows:List (List G)}(h:se C rows):(mW C rows).toList.Perm (dB rows.length):=by
 have:=(Cf h).1.2.2;have e:=(Cf h).1.1;simp only[WJ]at this e;rw[show (mW C rows).extract 0 rows.length=mW C rows by rw[<-e]; simp,show (iL rows.length).extract 0 rows.length=iL rows.length by simp]at this;simpa using this
theorem Pk{C:List G->Option (List G)}{rows:List (List G)}(h:se C rows):(mW C rows).size=rows.length:=by
 have:=(Cf h).1.1;simpa using this
theorem abC(rows:List (List G)):(dB rows.length).map (gy rows)=rows:=by
 apply iK;intro i;rw[bB];by_cases h:i<rows.length
 ·rw [List.getElem?_range h, bx h]
  simp[gy,bP,h]
 ·rw [nh (by simpa using h), nh (by omega)]
  rfl
theorem Pl{C:List G->Option (List G)}{rows:List (List G)}(h:se C rows):(sf C rows).Perm rows:=by
 have:=(abB h).map (gy rows);rw[abC]at this;exact this
theorem abD{C:List G->Option (List G)}{rows:List (List G)}(h:se C rows):(sf C rows).Pairwise fun a b=>¬ yq C b a<0:=by
 unfold sf;rw[List.pairwise_map,List.pairwise_iff_getElem];intro i j hi d g;have:=(Cf h).2 i j (dX _) g (by rw[WJ,<-Pk h]; simpa using d);simp only[Array.length_toList]at hi d;rw[getElem!_pos _ i hi,getElem!_pos _ j d]at this;simpa[ltOf,nN]using this
section
variable {P:Program} {ρ:Go.Shelf.Ren}
theorem abE{E:Env}{K:List Kd}{rows:List (List G)}{b m:Nat}(v:Kd.cz K=true)(u:isRow E.w b (m*K.length)) (hr:cy E K.length (rows.map (aD K)) b 0) (d:Array Nat) (q:d.size=rows.length) (hi:∀ i,i<rows.length->d[i]! = i) :
  Go.Sort.HoldsK (fun i=>dq K (gy rows i)) K.length E.w b 0 d:=by
 intro t g;rw[Go.Sort.size_flatK,q]at g;have hk:0<K.length:=by
  rcases Nat.eq_zero_or_pos K.length with h|h
  ·rw[h]at g; simp at g
  ·exact h
 have k:t / K.length<rows.length:=Nat.div_lt_of_lt_mul (by rw[al0]; exact g);rw[Go.Sort.get_flatK _ _ _ _ (by rw[q]; exact g),hi _ k];have y:(rows.map (aD K))[t / K.length]? = some (aD K (gy rows (t / K.length))):=by
  rw[bB,bx k];simp[gy,bP,k]
 have:=Pj v (lN hr y).2 (t%K.length) (Nat.mod_lt _ hk);refine⟨?_,?_⟩
 ·rw [show 0 + t = 0 + t / K.length * K.length + t % K.length by rw [cn, cn, al0, Nat.div_add_mod]]
  exact this
 ·obtain ⟨cs, el, h1, _⟩ := u
  simp[World.frozen?,h1]
theorem GX{w:World}{d:Nat}{f:Array Value->Array Value}{x:Nat}(h:x≠d):(rb w d f).heap[x]? = w.heap[x]? := by
 simp[rb,K6,Ne.symm h]
theorem Pm{E:Env}(HE:al E){K:List Kd}{rows rows':List (List G)}{b m:Nat}(hs:Kd.cz K=true) (hH:E.H=[.vec K.length 0 (rows.map (aD K))]) (d:E.loc[0]? = some (some (b,m))) (hrow:isRow E.w b (m*K.length))
  (hr:cy E K.length (rows.map (aD K)) b 0) (hm:rows'.length<=m) {w':World} (y:E.w.heap.size<=w'.heap.size) (hsame:∀ x,x<E.w.heap.size->x≠b->w'.heap[x]? = E.w.heap[x]?) (hrow':isRow w' b (m*K.length))
  (W:∀ i c,i<rows'.length->c<K.length->w'.cell? ⟨b,i*K.length+c,none⟩=some (dq K (rows'.getD i []))[c]!) (I:eE E.w w') :
  cM E (.tuple []) [.vec K.length 0 (rows'.map (aD K))] (.tuple #[]) w':=by
 have h0:E.H[0]? = some (ab.vec K.length 0 (rows.map (aD K))):=by rw[hH]; rfl
 have O:∀ x,x<E.w.heap.size->(∀ n,E.loc[0]? ≠ some (some (x,n)))->w'.heap[x]? = E.w.heap[x]? := fun x g hn=>hsame x g fun e=>hn m (by rw[d,e]);have eset:E.H.set 0 (ab.vec K.length 0 (rows'.map (aD K)))=[.vec K.length 0 (rows'.map (aD K))]:=by rw[hH]; rfl
 have M:E.loc.set 0 (some (b,m))=E.loc:=by
  apply iK;intro i;rw[List.getElem?_set];split
  ·rename_i e
   subst e;split
   ·exact d.symm
   ·rename_i h; exact(h (aG d)).elim
  ·rfl
 have N:(∀ v,(ab.vec K.length 0 (rows'.map (aD K))).aF = some v->(ab.vec K.length 0 (rows.map (aD K))).aF = some v/\E.loc[0]? = some (some (b,m))):=fun v k=>⟨k,d⟩
 have U:∀ v u,(ab.vec K.length 0 (rows'.map (aD K))).aF = some v->(ab.vec K.length 0 (rows.map (aD K))).aF = some u->u<=v:=fun v u k hu=>by
  simp only[ab.aF,aM]at k hu;omega
 have hle:=Env.k_ (E:=E) (w':=w') (id:=0) (o:=.vec K.length 0 (rows.map (aD K))) (o':=.vec K.length 0 (rows'.map (aD K))) (l:=some (b,m)) h0 HE.len y O (fun b' n' e=>.inr ⟨m,by cases e; exact d⟩) (.inl N) U (fun _ h=>by simp[ab.aF]at h) I;have hobj:aI { w:=w',H:=E.H.set 0 (ab.vec K.length 0 (rows'.map (aD K))),loc:=E.loc.set 0 (some (b,m)),X:=E.X } 0 (.vec K.length 0 (rows'.map (aD K))):=by
  simp only[aI];refine .inr ⟨b,m,by rw[M]; exact d,hrow',by simpa using hm,?_,?_⟩
  ·intro r hr
   obtain⟨x,_,rfl⟩:=List.mem_map.1 hr;exact fW _ _
  ·rw [mD]
   intro i r hi;rw[bB]at hi;cases g:rows'[i]? with
   |none=>rw[g]at hi; cases hi
   | some x =>
    rw[g]at hi;cases hi;refine⟨rh _ _,?_⟩;rw[jo];intro c a ha;have q:c<K.length:=by have:=aG ha; rwa [rh]at this
    have hlt:=aG g;have hget:rows'.getD i []=x:=by rw[bP,g]; rfl
    have k:(dq K x)[c]? = some (dq K x)[c]! := by rw[bx (by rw[uV]; exact q),getElem!_pos _ c (by rw[uV]; exact q)]
    refine⟨(dq K x)[c]!,?_,(yo K x _ (dJ k)).1,?_⟩
    ·have := W i c hlt q
     rw[hget]at this;rw[show 0+i*K.length+c=i*K.length+c by omega];exact this
    ·exact(ow.1 (GW x hs)).2 c a _ ha k
 have V:=al.mE HE h0 y O (fun b' n' e=>.inr ⟨m,by cases e; exact d⟩) (.inl N) U (fun _ h=>by simp[ab.aF]at h) hobj I;rw[eset,M]at hle V;exact⟨E.loc,E.X.r,by simp[rel,ae],V,hle⟩
theorem Pn(L:SlLaysF0.n6 P ρ)(K:List Kd)(O:Kd.cz K=true) (aE:∀ w,(isAgg (ρ.t 24)).run P w=.ok true w) (zE:∀ w,(Go.sizeOf (ρ.t 24)).run P w=.ok K.length w) (g:FuncId) (hg:jd P g=true)
  (C:List G->Option (List G)) (hC:∀ d r,C d=some r->@dn wR P g (fU [] [.s (.row K),.s (.row K)] d) [] (eI (fU [] [.s (.int .i64)] r)) []) (d r:List G) (h:sk C d=some r) :
  dn P (ρ.f 6) (fU (cI [.vec K 0] d) [.s (.vec 0 K.length),.s (.fn g)] (ew 1 d)) (ah (cN (cI [.vec K 0] d) [.vec K 0] d)) (eI []) (ah (cN (cI [.vec K 0] r) [.vec K 0] r)):=by
 have e1:gi d 0=d.headD default:=rfl;intro E cargs hH HE M;simp only[fU,qb,eV,cI,cN,fy,ah,List.map_cons,List.map_nil,af.den,dh.ver,dh.len,List.getD_cons_zero,<-e1]at hH M;obtain⟨cs⟩:=cargs
 match cs,M with
 | [c0,c1],M =>
 simp only[ae,and_true]at M;obtain⟨h0,h1⟩:=M;simp only[rel,ae]at h1;obtain⟨cb,rfl,W⟩:=h1;have W:cb=#[]:=by
  obtain⟨cb⟩:=cb;cases cb with
  |nil=>rfl
  |cons x l=>simp[ae]at W
 subst W;simp only[rel]at h0;obtain⟨⟨base,cap,rfl,hcap,hbase⟩,_,hlive⟩:=h0;have hl0:E.H[0]? = some (ab.vec K.length 0 ((gi d 0).rows.map (aD K))):=by rw[hH]; rfl
 obtain⟨hn,q⟩:=hlive ⟨_,hl0,rfl⟩;unfold sk at h;split at h
 ·rename_i u
  cases h;have hH':E.H=[ab.vec K.length 0 []]:=by rw[hH,u]; rfl
  rw[u];refine(AnyF.slices_SortFunc_none L base cap _ E.w).mono ?_;rintro e w' ⟨rfl,rfl⟩;refine⟨_,.tuple [],[ab.vec K.length 0 []],rfl,⟨rfl,rfl⟩,E.loc,E.X.r,by simp[rel,ae],?_,?_⟩
  ·rw [<- hH']
   exact HE
  ·rw [<- hH']
   exact Env.le.refl E
 ·rename_i u
  split at h
  case isFalse=>cases h
  rename_i N;cases h;have hpos:0<(gi d 0).rows.length:=List.length_pos_iff.2 u;rcases HE.obj 0 _ hl0 with⟨_,e2⟩|⟨b,m,U,V,hm,hcl,hr⟩
  ·exact(u (by simpa using e2)).elim
  obtain⟨_,o,ho,hc⟩:=q b m U;have hmm:(gi d 0).rows.length<=m:=by simpa using hm
  have ho:o=0:=by have:=ho (by omega); omega
  subst ho;generalize hrs:(gi d 0).rows=rows at *;rw[hc];have I:(iL rows.length).size=rows.length:=WJ;have hdi:∀ i,i<rows.length->(iL rows.length)[i]! = i:=fun i hi=>by rw[getElem!_pos _ i (by rw[I]; exact hi)]; simp
  have hH0:=abE O V hr (iL rows.length) I hdi;have hblk:b<E.w.heap.size:=(HE.lt 0 b m U).1;have hcmp:CmpLays P g #[] (fun i=>dq K (gy rows i)) K.length (nN C rows) b 0 (iL rows.length).size E.w:=by
   intro mm os dk _ x y;obtain⟨n,hn⟩:=N.ans _ (yr u x) _ (yr u y);have:=hC _ _ hn;simp only[fU,qb,eV,ew,Sh.sz,fI.sz,List.headD_cons,List.tail_cons,eI,G.row,G.rows,G.int]at this;have e:nN C rows x y=n:=by
    simp only[nN,yq,hn];rfl
   rw[e];have ht:rj (bare (Ao (fun i=>dq K (gy rows i)) K.length E.w b 0 mm dk os)):=fun p hp=>by
    obtain⟨h1,t,f,h2⟩:=HE.fY p hp;have hne:p.1≠b:=fun e=>h1.2.1 (.inl ⟨0,m,by rw[e]; exact U⟩);have hsame:(Ao (fun i=>dq K (gy rows i)) K.length E.w b 0 mm dk os).heap[p.1]? = E.w.heap[p.1]? := by
     unfold Ao Lm Ap tn;simp only[];rw[Ee (by simpa[rb,rf]using h1.1),GX hne];rfl
    refine⟨⟨(Array.getElem?_eq_some_iff.1 (hsame.trans h2)).1,?_,fun h=>h⟩,t,f,by rw[<-h2]; exact hsame⟩;rintro(⟨i,c,hi⟩|⟨l,k,c,hk⟩)
    ·simp[bare]at hi
    ·simp[bare,dZ]at hk
   exact abz this _ ht (by
    simp only[ae,rel,and_true,Array.toList_append,List.append_nil];exact⟨⟨_,rfl,fun v q=>(yo K _ v q).1,GW _ O⟩,⟨_,rfl,fun v q=>(yo K _ v q).1,GW _ O⟩⟩)
  have:=AnyQ.slices_SortFunc_eq L K.length aE zE (fun i=>dq K (gy rows i)) (fun x=>uV _ _) (fun x v q=>(yo K _ v q).2) (nN C rows) N.swo g #[] b 0 (m-0) (iL rows.length) E.w
   (fun args w=>MK hg args w) hcmp hH0 hblk (by rw[I]; exact N.small)
  rw[I]at this;refine this.mono ?_;rintro e w' ⟨rfl,n,os,rfl⟩;refine⟨_,.tuple [],_,rfl,⟨rfl,rfl⟩,?_⟩;have eN:Go.Sort.pdq (ltOf (nN C rows)) (iL rows.length) 0 rows.length (Lib.bitLen rows.length) true true=mW C rows:=by
   unfold mW;rw[I]
  rw[eN];have hsz:=Pk N;have hlen:(sf C rows).length=rows.length:=(Pl N).length_eq;have hh:=holdsK_sortWorldK_c (fun i=>dq K (gy rows i)) K.length E.w b 0 (iL rows.length) (mW C rows) n os hH0 hblk (by rw[hsz,I]);refine Pm (rows':=sf C rows) HE O hH U V hr (by rw[hlen]; exact hmm) ?_ ?_ ?_ ?_ ?_
  ·unfold Ao Lm
   rw[Go.Sort.size_grow,Go.Sort.size_putRow];show E.w.heap.size<=E.w.heap.size+_
   omega
  ·intro x hx hxb
   unfold Ao Lm Ap tn;simp only[];rw[Ee (by simpa[rb,rf]using hx),GX hxb];rfl
  ·obtain ⟨cs, el, g1, g2⟩ := V
   unfold Ao Lm Ap tn;unfold isRow;simp only[];rw[Ee (by simpa[rb,rf]using hblk)];simp only[rb,rf,K6,if_true,g1,Option.map_some];exact⟨_,_,rfl,by simp[Go.Sort.putCells,g2]⟩
  ·intro i c hi hc
   rw[hlen]at hi;have:=(hh.cell (i:=i) (c:=c) (by rw[hsz]; exact hi) hc).1;rw[cn]at this;rw[this];congr 2;have hi':i<(mW C rows).size:=by rw[hsz]; exact hi
   simp only[sf,bP,bB,Array.getElem?_toList];rw[Array.getElem?_eq_getElem hi',getElem!_pos _ i hi'];rfl
  ·exact⟨rfl,rfl,rfl,fun _=>Nat.le_add_right _ _⟩
end
end Go.AL
