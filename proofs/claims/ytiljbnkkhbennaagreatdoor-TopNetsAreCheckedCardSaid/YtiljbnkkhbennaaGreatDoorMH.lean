/-
 What is proved here: the library's sort of a slice by a function that compares,as a function on data (by the kit's own contracts). No program in sight; what is asked is that the library's text lies in the program.
-/
import Derived.Test.YtiljbnkkhbennaaGreatDoorMG
import Derived.Shelf.SlSortCmp.NoneTotal
set_option linter.all false
open Array renaming getElem?_modify→Kb,range→gW,size_range→VV,getElem?_append_left→Di
open Go.Proofs renaming sortWorldK→y9
open Go.Sort renaming grow→sE,mapBlock→qP,putRowK→Kz,putRow→y_,ahead→qQ
open List renaming getElem?_map→bU,getElem?_eq_getElem→bf,mem_of_getElem?→eZ,getElem?_eq_none→nQ,getD_eq_getElem?_getD→bz,ext_getElem?→kR,range→dI
open List.cons renaming injEq→C7
open Nat renaming zero_le→fg,zero_add→di,mul_comm→al9
open Option.some renaming injEq→aY
namespace Go.AL
open Go Go.Proofs
variable [Dr]
theorem uf:∀(ks:List Kd) (r:List G),(dA ks r).length=ks.length
 | [],_=>rfl
 |_::ks,r=>by simp[dA,uf ks]
theorem aav:∀(k:Kd) (g:G),dJ (pO k g)=true∧(pO k g).oneCell'=true
 |.int _,_=>⟨rfl,rfl⟩
 |.str,_=>⟨rfl,rfl⟩
 |.bool,_=>⟨rfl,rfl⟩
 |.list _,_=>⟨rfl,rfl⟩
theorem xc:∀(ks:List Kd) (r:List G),∀ v∈dA ks r,dJ v=true∧v.oneCell'=true
 | [],_,v,h=>by simp[dA]at h
 | k::ks,r,v,h=>by
  simp only[dA,List.mem_cons]at h;rcases h with rfl|h
  ·exact aav _ _
  ·exact xc ks r.tail v h
theorem xd{E:Env}:∀{ks:List Kd} {r:List G} {vs:List Value},Kd.cH ks=true→(af E (aH ks r) vs↔vs=dA ks r)
 | [],r,[],_=>by simp[aH,af,dA]
 | [],r,_::_,_=>by simp[aH,af,dA]
 |_::_,r,[],_=>by simp[aH,af,dA]
 |.list _::_,_,_::_,h=>by simp[Kd.cH]at h
 | .int k::ks,r,v::vs,h=>by
  simp only[Kd.cH]at h;simp only[aH,af,xd (ks:=ks) h,dA,jt,pO,rel,C7]
 | .str::ks,r,v::vs,h=>by
  simp only[Kd.cH]at h;simp only[aH,af,xd (ks:=ks) h,dA,jt,pO,rel,C7]
 | .bool::ks,r,v::vs,h=>by
  simp only[Kd.cH]at h;simp only[aH,af,xd (ks:=ks) h,dA,jt,pO,rel,C7]
theorem F4{E:Env}{ks:List Kd}(r:List G)(h:Kd.cH ks=true):af E (aH ks r) (dA ks r):=(xd h).2 rfl
theorem Oq{E:Env}{ks:List Kd}{r:List G}{b o:Nat}(k:Kd.cH ks=true)(h:cw E (aH ks r) b o):∀ c,c<ks.length→E.w.cell? ⟨b,o+c,none⟩=some (dA ks r)[c]! := by
 obtain⟨vs,h1,_,q⟩:=vD h;have e:=(xd k).1 h1;subst e;intro c d;refine q c _ ?_;rw[bf (by rw[uf]; exact d),getElem!_pos _ c (by rw[uf]; exact d)]
theorem aaw{w w':World}(h:@Ext vz w w'):∃ q os,w'=sE (w.drewN q) os:=by
 obtain⟨h1,k,B,I,J,d⟩:=h;have d:=d rfl;refine⟨w'.drawn-w.drawn,w'.heap.extract w.heap.size w'.heap.size,?_⟩;cases w with
 | mk W tp dr os ou =>
  cases w' with
  | mk M N O U V =>
   simp only at h1 k B I J d;subst B I J;simp only[sE,World.drewN,World.mk.injEq,eq_self,true_and,and_true];refine⟨?_,by omega⟩;apply Array.ext_getElem?;intro i;rw[Array.getElem?_append];split
   ·exact k i (by assumption)
   ·rw [Array.getElem?_extract]
    split
    ·congr 1
     omega
    ·rw[Array.getElem?_eq_none (by omega)]
def bare(w:World):Env:={ w:=w,H:=[],loc:=[],X:=⟨fun _=>False,fun _=>False,dY⟩ }
theorem aax(w:World)(d:qS (bare w)):aq (bare w):=⟨rfl,fun i j b m n h=>by simp[bare]at h,fun i b m h=>by simp[bare]at h,fun b h=>h.elim,fun i o h=>by simp[bare]at h,d,fun l k l' k' b m n hk=>by simp[bare,dY]at hk,fun i b m l k n hi=>by simp[bare]at hi,fun l k b m hk=>by simp[bare,dY]at hk,fun i j o o' l hi=>by simp[bare]at hi,fun l _ k q hk=>by simp[bare,dY]at hk⟩
theorem aay{P:Program}{g:FuncId}{args:List AV}{n:Int} (h:@dC vz P g args [] (.lit (.int .i64 n)) []) {cs:Array Value} (w:World) (d:qS (bare w)) (hr:af (bare w) args cs.toList) :
  Calls P g cs w fun e w'=>e=.returned (.int .i64 n)∧∃ q os,w'=sE (w.drewN q) os:=by
 refine(h (bare w) cs rfl (aax w d) hr).mono ?_;rintro e w' ⟨c,v,H',rfl,⟨rfl,rfl⟩,N,r',h1,O,B⟩;simp only[rel]at h1;subst h1;cases B with
 |mk _ I J _ _ _ _ M =>
 refine⟨rfl,aaw (@Ext.mk vz _ _ I (fun b hb=>J b hb ?_) M)⟩;rintro(⟨i,c,hi⟩|⟨l,k,c,hk⟩)
 ·simp[bare]at hi
 ·simp[bare,dY]at hk
def xf(C:List G→Option (List G))(r s:List G):Int:=(gi ((C [.l [r],.l [s]]).getD []) 0).int
def fW(rows:List (List G))(i:Nat):List G:=rows.getD i (rows.headD [])
theorem xg{rows:List (List G)}(h:rows≠[])(i:Nat):fW rows i∈rows:=by
 unfold fW;rw[bz];cases hi:rows[i]? with
 |some x=>exact eZ hi
 | none =>
  cases rows with
  |nil=>exact(h rfl).elim
  |cons x l=>simp
abbrev nr(C:List G→Option (List G))(rows:List (List G))(i j:Nat):Int:=xf C (fW rows i) (fW rows j)
structure rP (C:List G→Option (List G)) (rows:List (List G)):Prop where
 ans:∀ r∈rows,∀ s∈rows,∃ n,C [.l [r],.l [s]]=some [.i n]
 swo:Go.Sort.SWO (ltOf (nr C rows))
 small:rows.length<4611686018427387904
noncomputable def l_(C:List G→Option (List G))(rows:List (List G)):Array Nat:=Go.Sort.pdq (ltOf (nr C rows)) (gW rows.length) 0 (gW rows.length).size (Lib.bitLen (gW rows.length).size) true true
noncomputable def rQ(C:List G→Option (List G))(rows:List (List G)):List (List G):=(l_ C rows).toList.map (fW rows)
open Classical in
noncomputable def rR(C:List G→Option (List G))(d:List G):Option (List G) :=
 if (gi d 0).rows=[] then some [.l []] else if rP C (gi d 0).rows then some [.l (rQ C (gi d 0).rows)] else none
theorem Bp{C:List G→Option (List G)}{rows:List (List G)}(h:rP C rows):Go.Sort.PermIn 0 (gW rows.length).size (gW rows.length) (l_ C rows)∧Go.Sort.SortedIn (ltOf (nr C rows)) 0 (gW rows.length).size (l_ C rows) :=
 Go.Sort.pdq_sorts _ h.swo _ 0 _ _ true true (fg _) (Nat.le_refl _) (Or.inl rfl)
theorem aaA{C:List G→Option (List G)}{rows:List (List G)}(h:rP C rows):(l_ C rows).toList.Perm (dI rows.length):=by
 have:=(Bp h).1.2.2;have e:=(Bp h).1.1;simp only[VV]at this e;rw[show (l_ C rows).extract 0 rows.length=l_ C rows by rw[←e]; simp,show (gW rows.length).extract 0 rows.length=gW rows.length by simp]at this;simpa using this
theorem Ot{C:List G→Option (List G)}{rows:List (List G)}(h:rP C rows):(l_ C rows).size=rows.length:=by
 have:=(Bp h).1.1;simpa using this
theorem aaB(rows:List (List G)):(dI rows.length).map (fW rows)=rows:=by
 apply kR;intro i;rw[bU];by_cases h:i<rows.length
 ·rw [List.getElem?_range h, bf h]
  simp[fW,bz,h]
 ·rw [nQ (by simpa using h), nQ (by omega)]
  rfl
theorem Ou{C:List G→Option (List G)}{rows:List (List G)}(h:rP C rows):(rQ C rows).Perm rows:=by
 have:=(aaA h).map (fW rows);rw[aaB]at this;exact this
theorem aaC{C:List G→Option (List G)}{rows:List (List G)}(h:rP C rows):(rQ C rows).Pairwise fun a b=>¬ xf C b a<0:=by
 unfold rQ;rw[List.pairwise_map,List.pairwise_iff_getElem];intro i j hi d k;have:=(Bp h).2 i j (fg _) k (by rw[VV,←Ot h]; simpa using d);simp only[Array.length_toList]at hi d;rw[getElem!_pos _ i hi,getElem!_pos _ j d]at this;simpa[ltOf,nr]using this
section
variable {P:Program} {ρ:Go.Shelf.Ren}
theorem aaD{E:Env}{K:List Kd}{rows:List (List G)}{b m:Nat}(J:Kd.cH K=true)(I:isRow E.w b (m*K.length)) (hr:cL E K.length (rows.map (aH K)) b 0) (d:Array Nat) (B:d.size=rows.length) (hi:∀ i,i<rows.length→d[i]! = i) :
  Go.Sort.HoldsK (fun i=>dA K (fW rows i)) K.length E.w b 0 d:=by
 intro t k;rw[Go.Sort.size_flatK,B]at k;have hk:0<K.length:=by
  rcases Nat.eq_zero_or_pos K.length with h|h
  ·rw[h]at k; simp at k
  ·exact h
 have q:t / K.length<rows.length:=Nat.div_lt_of_lt_mul (by rw[al9]; exact k);rw[Go.Sort.get_flatK _ _ _ _ (by rw[B]; exact k),hi _ q];have M:(rows.map (aH K))[t / K.length]? = some (aH K (fW rows (t / K.length))):=by
  rw[bU,bf q];simp[fW,bz,q]
 have:=Oq J (mR hr M).2 (t%K.length) (Nat.mod_lt _ hk);refine⟨?_,?_⟩
 ·rw [show 0 + t = 0 + t / K.length * K.length + t % K.length by rw [di, di, al9, Nat.div_add_mod]]
  exact this
 ·obtain ⟨cs, el, h1, _⟩ := I
  simp[World.frozen?,h1]
theorem F5{w:World}{d:Nat}{f:Array Value→Array Value}{x:Nat}(h:x≠d):(qP w d f).heap[x]? = w.heap[x]? := by
 simp[qP,Kb,Ne.symm h]
theorem Ov{E:Env}(HE:aq E){K:List Kd}{rows rows':List (List G)}{b m:Nat}(hs:Kd.cH K=true) (hH:E.H=[.vec K.length 0 (rows.map (aH K))]) (d:E.loc[0]? = some (some (b,m))) (hrow:isRow E.w b (m*K.length))
  (hr:cL E K.length (rows.map (aH K)) b 0) (hm:rows'.length≤m) {w':World} (I:E.w.heap.size≤w'.heap.size) (W:∀ x,x<E.w.heap.size→x≠b→w'.heap[x]? = E.w.heap[x]?) (hrow':isRow w' b (m*K.length))
  (V:∀ i c,i<rows'.length→c<K.length→w'.cell? ⟨b,i*K.length+c,none⟩=some (dA K (rows'.getD i []))[c]!) (J:ep E.w w') :
  cZ E (.tuple []) [.vec K.length 0 (rows'.map (aH K))] (.tuple #[]) w':=by
 have h0:E.H[0]? = some (ad.vec K.length 0 (rows.map (aH K))):=by rw[hH]; rfl
 have aA:∀ x,x<E.w.heap.size→(∀ n,E.loc[0]? ≠ some (some (x,n)))→w'.heap[x]? = E.w.heap[x]? := fun x k hn=>W x k fun e=>hn m (by rw[d,e]);have eset:E.H.set 0 (ad.vec K.length 0 (rows'.map (aH K)))=[.vec K.length 0 (rows'.map (aH K))]:=by rw[hH]; rfl
 have M:E.loc.set 0 (some (b,m))=E.loc:=by
  apply kR;intro i;rw[List.getElem?_set];split
  ·rename_i e
   subst e;split
   ·exact d.symm
   ·rename_i h; exact(h (aK d)).elim
  ·rfl
 have N:(∀ v,(ad.vec K.length 0 (rows'.map (aH K))).aG = some v→(ad.vec K.length 0 (rows.map (aH K))).aG = some v∧E.loc[0]? = some (some (b,m))):=fun v q=>⟨q,d⟩
 have O:∀ v u,(ad.vec K.length 0 (rows'.map (aH K))).aG = some v→(ad.vec K.length 0 (rows.map (aH K))).aG = some u→u≤v:=fun v u q hu=>by
  simp only[ad.aG,aY]at q hu;omega
 have hle:=Env.km (E:=E) (w':=w') (id:=0) (o:=.vec K.length 0 (rows.map (aH K))) (o':=.vec K.length 0 (rows'.map (aH K))) (l:=some (b,m)) h0 HE.len I aA (fun b' n' e=>.inr ⟨m,by cases e; exact d⟩) (.inl N) O (fun _ h=>by simp[ad.aG]at h) J;have hobj:aN { w:=w',H:=E.H.set 0 (ad.vec K.length 0 (rows'.map (aH K))),loc:=E.loc.set 0 (some (b,m)),X:=E.X } 0 (.vec K.length 0 (rows'.map (aH K))):=by
  simp only[aN];refine .inr ⟨b,m,by rw[M]; exact d,hrow',by simpa using hm,?_,?_⟩
  ·intro r hr
   obtain⟨x,_,rfl⟩:=List.mem_map.1 hr;exact gb _ _
  ·rw [mO]
   intro i r hi;rw[bU]at hi;cases k:rows'[i]? with
   |none=>rw[k]at hi; cases hi
   | some x =>
    rw[k]at hi;cases hi;refine⟨qR _ _,?_⟩;rw[jv];intro c a ha;have B:c<K.length:=by have:=aK ha; rwa [qR]at this
    have hlt:=aK k;have hget:rows'.getD i []=x:=by rw[bz,k]; rfl
    have q:(dA K x)[c]? = some (dA K x)[c]! := by rw[bf (by rw[uf]; exact B),getElem!_pos _ c (by rw[uf]; exact B)]
    refine⟨(dA K x)[c]!,?_,(xc K x _ (eZ q)).1,?_⟩
    ·have := V i c hlt B
     rw[hget]at this;rw[show 0+i*K.length+c=i*K.length+c by omega];exact this
    ·exact(n_.1 (F4 x hs)).2 c a _ ha q
 have U:=aq.lR HE h0 I aA (fun b' n' e=>.inr ⟨m,by cases e; exact d⟩) (.inl N) O (fun _ h=>by simp[ad.aG]at h) hobj J;rw[eset,M]at hle U;exact⟨E.loc,E.X.r,by simp[rel,af],U,hle⟩
theorem Ow(L:SlLaysF0.n6 P ρ)(K:List Kd)(M:Kd.cH K=true) (aE:∀ w,(isAgg (ρ.t 24)).run P w=.ok true w) (zE:∀ w,(Go.sizeOf (ρ.t 24)).run P w=.ok K.length w) (g:FuncId) (hg:fw P g=true)
  (C:List G→Option (List G)) (hC:∀ d r,C d=some r→@dC vz P g (fB [] [.s (.row K),.s (.row K)] d) [] (c9 (fB [] [.s (.int .i64)] r)) []) (d r:List G) (h:rR C d=some r) :
  dC P (ρ.f 6) (fB (cC [.vec K 0] d) [.s (.vec 0 K.length),.s (.fn g)] (eO 1 d)) (aj (cN (cC [.vec K 0] d) [.vec K 0] d)) (c9 []) (aj (cN (cC [.vec K 0] r) [.vec K 0] r)):=by
 have e1:gi d 0=d.headD default:=rfl;intro E cargs hH HE J;simp only[fB,pZ,fb,cC,cN,fC,aj,List.map_cons,List.map_nil,ah.den,dm.ae,dm.len,List.getD_cons_zero,←e1]at hH J;obtain⟨cs⟩:=cargs
 match cs,J with
 | [c0,c1],J =>
 simp only[af,and_true]at J;obtain⟨h0,h1⟩:=J;simp only[rel,af]at h1;obtain⟨N,rfl,V⟩:=h1;have V:N=#[]:=by
  obtain⟨N⟩:=N;cases N with
  |nil=>rfl
  |cons x l=>simp[af]at V
 subst V;simp only[rel]at h0;obtain⟨⟨base,cap,rfl,hcap,hbase⟩,_,hlive⟩:=h0;have hl0:E.H[0]? = some (ad.vec K.length 0 ((gi d 0).rows.map (aH K))):=by rw[hH]; rfl
 obtain⟨hn,q⟩:=hlive ⟨_,hl0,rfl⟩;unfold rR at h;split at h
 ·rename_i B
  cases h;have hH':E.H=[ad.vec K.length 0 []]:=by rw[hH,B]; rfl
  rw[B];refine(AnyF.slices_SortFunc_none L base cap _ E.w).mono ?_;rintro e w' ⟨rfl,rfl⟩;refine⟨_,.tuple [],[ad.vec K.length 0 []],rfl,⟨rfl,rfl⟩,E.loc,E.X.r,by simp[rel,af],?_,?_⟩
  ·rw [← hH']
   exact HE
  ·rw [← hH']
   exact Env.le.refl E
 ·rename_i B
  split at h
  case isFalse=>cases h
  rename_i bF;cases h;have hpos:0<(gi d 0).rows.length:=List.length_pos_iff.2 B;rcases HE.obj 0 _ hl0 with⟨_,e2⟩|⟨b,m,O,U,hm,hcl,hr⟩
  ·exact(B (by simpa using e2)).elim
  obtain⟨_,o,ho,hc⟩:=q b m O;have hmm:(gi d 0).rows.length≤m:=by simpa using hm
  have ho:o=0:=by have:=ho (by omega); omega
  subst ho;generalize hrs:(gi d 0).rows=rows at *;rw[hc];have I:(gW rows.length).size=rows.length:=VV;have hdi:∀ i,i<rows.length→(gW rows.length)[i]! = i:=fun i hi=>by rw[getElem!_pos _ i (by rw[I]; exact hi)]; simp
  have hH0:=aaD M U hr (gW rows.length) I hdi;have hblk:b<E.w.heap.size:=(HE.lt 0 b m O).1;have hcmp:CmpLays P g #[] (fun i=>dA K (fW rows i)) K.length (nr C rows) b 0 (gW rows.length).size E.w:=by
   intro mm os dk _ x y;obtain⟨n,hn⟩:=bF.ans _ (xg B x) _ (xg B y);have:=hC _ _ hn;simp only[fB,pZ,fb,eO,Sh.sz,fl.sz,List.headD_cons,List.tail_cons,c9,G.row,G.rows,G.int]at this;have e:nr C rows x y=n:=by
    simp only[nr,xf,hn];rfl
   rw[e];have ht:qS (bare (y9 (fun i=>dA K (fW rows i)) K.length E.w b 0 mm dk os)):=fun p hp=>by
    obtain⟨h1,t,f,h2⟩:=HE.fH p hp;have aA:p.1≠b:=fun e=>h1.2.1 (.inl ⟨0,m,by rw[e]; exact O⟩);have hsame:(y9 (fun i=>dA K (fW rows i)) K.length E.w b 0 mm dk os).heap[p.1]? = E.w.heap[p.1]? := by
     unfold y9 Kz y_ sE;simp only[];rw[Di (by simpa[qP,qQ]using h1.1),F5 aA];rfl
    refine⟨⟨(Array.getElem?_eq_some_iff.1 (hsame.trans h2)).1,?_,fun h=>h⟩,t,f,by rw[←h2]; exact hsame⟩;rintro(⟨i,c,hi⟩|⟨l,k,c,hk⟩)
    ·simp[bare]at hi
    ·simp[bare,dY]at hk
   exact aay this _ ht (by
    simp only[af,rel,and_true,Array.toList_append,List.append_nil];exact⟨⟨_,rfl,fun v q=>(xc K _ v q).1,F4 _ M⟩,⟨_,rfl,fun v q=>(xc K _ v q).1,F4 _ M⟩⟩)
  have:=AnyQ.slices_SortFunc_eq L K.length aE zE (fun i=>dA K (fW rows i)) (fun x=>uf _ _) (fun x v q=>(xc K _ v q).2) (nr C rows) bF.swo g #[] b 0 (m-0) (gW rows.length) E.w
   (fun args w=>Ei hg args w) hcmp hH0 hblk (by rw[I]; exact bF.small)
  rw[I]at this;refine this.mono ?_;rintro e w' ⟨rfl,n,os,rfl⟩;refine⟨_,.tuple [],_,rfl,⟨rfl,rfl⟩,?_⟩;have eN:Go.Sort.pdq (ltOf (nr C rows)) (gW rows.length) 0 rows.length (Lib.bitLen rows.length) true true=l_ C rows:=by
   unfold l_;rw[I]
  rw[eN];have W:=Ot bF;have hlen:(rQ C rows).length=rows.length:=(Ou bF).length_eq;have hh:=holdsK_sortWorldK_c (fun i=>dA K (fW rows i)) K.length E.w b 0 (gW rows.length) (l_ C rows) n os hH0 hblk (by rw[W,I]);refine Ov (rows':=rQ C rows) HE M hH O U hr (by rw[hlen]; exact hmm) ?_ ?_ ?_ ?_ ?_
  ·unfold y9 Kz
   rw[Go.Sort.size_grow,Go.Sort.size_putRow];show E.w.heap.size≤E.w.heap.size+_
   omega
  ·intro x hx hxb
   unfold y9 Kz y_ sE;simp only[];rw[Di (by simpa[qP,qQ]using hx),F5 hxb];rfl
  ·obtain ⟨cs, el, g1, g2⟩ := U
   unfold y9 Kz y_ sE;unfold isRow;simp only[];rw[Di (by simpa[qP,qQ]using hblk)];simp only[qP,qQ,Kb,if_true,g1,Option.map_some];exact⟨_,_,rfl,by simp[Go.Sort.putCells,g2]⟩
  ·intro i c hi hc
   rw[hlen]at hi;have:=(hh.cell (i:=i) (c:=c) (by rw[W]; exact hi) hc).1;rw[di]at this;rw[this];congr 2;have hi':i<(l_ C rows).size:=by rw[W]; exact hi
   simp only[rQ,bz,bU,Array.getElem?_toList];rw[Array.getElem?_eq_getElem hi',getElem!_pos _ i hi'];rfl
  ·exact⟨rfl,rfl,rfl,fun _=>Nat.le_add_right _ _⟩
end
end Go.AL
