/-
 What is proved here: the library's sort of a slice by a function that compares,as a function on data (by the kit's own contracts). No program in sight; what is asked is that the library's text lies in the program.
-/
import Derived.Test.YtgglclbdiagpoaaGreatDoorMG
import Derived.Shelf.SlSortCmp.NoneTotal
set_option linter.all false
open Array renaming getElem?_modify→tU,range→gD,getElem?_append_left→I2,size_range→SI
open Go.Proofs renaming sortWorldK→xJ
open Go.Sort renaming grow→qR,mapBlock→xI,putRowK→I4,putRow→SL,ahead→I5
open List renaming range→er,getElem?_map→bR,getElem?_eq_getElem→bd,mem_of_getElem?→fa,getElem?_eq_none→nz,getD_eq_getElem?_getD→b_,ext_getElem?→kP
open List.cons renaming injEq→IF
open Nat renaming zero_le→dB,zero_add→cR,mul_comm→ah0
open Option.some renaming injEq→aX
namespace Go.AL
open Go Go.Proofs
variable [Dr]
theorem sE:∀(ks:List Kd) (r:List G),(dm ks r).length=ks.length
 | [],_=>rfl
 |_::ks,r=>by simp[dm,sE ks]
theorem Xr:∀(k:Kd) (g:G),dw (oa k g)=true∧(oa k g).oneCell'=true
 |.int _,_=>⟨rfl,rfl⟩
 |.str,_=>⟨rfl,rfl⟩
 |.bool,_=>⟨rfl,rfl⟩
 |.list _,_=>⟨rfl,rfl⟩
theorem vG:∀(ks:List Kd) (r:List G),∀ v∈dm ks r,dw v=true∧v.oneCell'=true
 | [],_,v,h=>by simp[dm]at h
 | k::ks,r,v,h=>by
  simp only[dm,List.mem_cons]at h;rcases h with rfl|h
  ·exact Xr _ _
  ·exact vG ks r.tail v h
theorem vH{E:Env}:∀{ks:List Kd} {r:List G} {vs:List Value},Kd.cy ks=true→(ae E (aK ks r) vs↔vs=dm ks r)
 | [],r,[],_=>by simp[aK,ae,dm]
 | [],r,_::_,_=>by simp[aK,ae,dm]
 |_::_,r,[],_=>by simp[aK,ae,dm]
 |.list _::_,_,_::_,h=>by simp[Kd.cy]at h
 | .int k::ks,r,v::vs,h=>by
  simp only[Kd.cy]at h;simp only[aK,ae,vH (ks:=ks) h,dm,ic,oa,rel,IF]
 | .str::ks,r,v::vs,h=>by
  simp only[Kd.cy]at h;simp only[aK,ae,vH (ks:=ks) h,dm,ic,oa,rel,IF]
 | .bool::ks,r,v::vs,h=>by
  simp only[Kd.cy]at h;simp only[aK,ae,vH (ks:=ks) h,dm,ic,oa,rel,IF]
theorem Ed{E:Env}{ks:List Kd}(r:List G)(h:Kd.cy ks=true):ae E (aK ks r) (dm ks r):=(vH h).2 rfl
theorem Xs{E:Env}{ks:List Kd}{r:List G}{b o:Nat}(g:Kd.cy ks=true)(h:cf E (aK ks r) b o):∀ c,c<ks.length→E.w.cell? ⟨b,o+c,none⟩=some (dm ks r)[c]! := by
 obtain⟨vs,h1,_,k⟩:=um h;have e:=(vH g).1 h1;subst e;intro c d;refine k c _ ?_;rw[bd (by rw[sE]; exact d),getElem!_pos _ c (by rw[sE]; exact d)]
theorem Xt{w w':World}(h:@Ext mB w w'):∃ q os,w'=qR (w.drewN q) os:=by
 obtain⟨h1,g,k,t,u,d⟩:=h;have d:=d rfl;refine⟨w'.drawn-w.drawn,w'.heap.extract w.heap.size w'.heap.size,?_⟩;cases w with
 | mk J M N os O =>
  cases w' with
  | mk v y z B I =>
   simp only at h1 g k t u d;subst k t u;simp only[qR,World.drewN,World.mk.injEq,eq_self,true_and,and_true];refine⟨?_,by omega⟩;apply Array.ext_getElem?;intro i;rw[Array.getElem?_append];split
   ·exact g i (by assumption)
   ·rw [Array.getElem?_extract]
    split
    ·congr 1
     omega
    ·rw[Array.getElem?_eq_none (by omega)]
def bare(w:World):Env:={ w:=w,H:=[],loc:=[],X:=⟨fun _=>False,fun _=>False,eD⟩ }
theorem Xu(w:World)(d:mD (bare w)):aq (bare w):=⟨rfl,fun i j b m n h=>by simp[bare]at h,fun i b m h=>by simp[bare]at h,fun b h=>h.elim,fun i o h=>by simp[bare]at h,d,fun l k l' k' b m n hk=>by simp[bare,eD]at hk,fun i b m l k n hi=>by simp[bare]at hi,fun l k b m hk=>by simp[bare,eD]at hk,fun i j o o' l hi=>by simp[bare]at hi,fun l _ k q hk=>by simp[bare,eD]at hk⟩
theorem Xv{P:Program}{g:FuncId}{args:List AV}{n:Int} (h:@cq mB P g args [] (.lit (.int .i64 n)) []) {cs:Array Value} (w:World) (d:mD (bare w)) (t:ae (bare w) args cs.toList) :
  Calls P g cs w fun e w'=>e=.returned (.int .i64 n)∧∃ q os,w'=qR (w.drewN q) os:=by
 refine(h (bare w) cs rfl (Xu w d) t).mono ?_;rintro e w' ⟨c,v,H',rfl,⟨rfl,rfl⟩,I,r',h1,J,u⟩;simp only[rel]at h1;subst h1;cases u with
 |mk _ y z _ _ _ _ B =>
 refine⟨rfl,Xt (@Ext.mk mB _ _ y (fun b hb=>z b hb ?_) B)⟩;rintro(⟨i,c,hi⟩|⟨l,k,c,hk⟩)
 ·simp[bare]at hi
 ·simp[bare,eD]at hk
def vI(C:List G→Option (List G))(r s:List G):Int:=(gi ((C [.l [r],.l [s]]).getD []) 0).int
def fA(rows:List (List G))(i:Nat):List G:=rows.getD i (rows.headD [])
theorem vJ{rows:List (List G)}(h:rows≠[])(i:Nat):fA rows i∈rows:=by
 unfold fA;rw[b_];cases hi:rows[i]? with
 |some x=>exact fa hi
 | none =>
  cases rows with
  |nil=>exact(h rfl).elim
  |cons x l=>simp
abbrev lX(C:List G→Option (List G))(rows:List (List G))(i j:Nat):Int:=vI C (fA rows i) (fA rows j)
structure qg (C:List G→Option (List G)) (rows:List (List G)):Prop where
 Xw:∀ r∈rows,∀ s∈rows,∃ n,C [.l [r],.l [s]]=some [.i n]
 swo:Go.Sort.SWO (ltOf (lX C rows))
 small:rows.length<4611686018427387904
noncomputable def lp(C:List G→Option (List G))(rows:List (List G)):Array Nat:=Go.Sort.pdq (ltOf (lX C rows)) (gD rows.length) 0 (gD rows.length).size (Lib.bitLen (gD rows.length).size) true true
noncomputable def qh(C:List G→Option (List G))(rows:List (List G)):List (List G):=(lp C rows).toList.map (fA rows)
open Classical in
noncomputable def sF(C:List G→Option (List G))(d:List G):Option (List G) :=
 if (gi d 0).rows=[] then some [.l []] else if qg C (gi d 0).rows then some [.l (qh C (gi d 0).rows)] else none
theorem zC{C:List G→Option (List G)}{rows:List (List G)}(h:qg C rows):Go.Sort.PermIn 0 (gD rows.length).size (gD rows.length) (lp C rows)∧Go.Sort.SortedIn (ltOf (lX C rows)) 0 (gD rows.length).size (lp C rows) :=
 Go.Sort.pdq_sorts _ h.swo _ 0 _ _ true true (dB _) (Nat.le_refl _) (Or.inl rfl)
theorem Xx{C:List G→Option (List G)}{rows:List (List G)}(h:qg C rows):(lp C rows).toList.Perm (er rows.length):=by
 have:=(zC h).1.2.2;have e:=(zC h).1.1;simp only[SI]at this e;rw[show (lp C rows).extract 0 rows.length=lp C rows by rw[←e]; simp,show (gD rows.length).extract 0 rows.length=gD rows.length by simp]at this;simpa using this
theorem MG{C:List G→Option (List G)}{rows:List (List G)}(h:qg C rows):(lp C rows).size=rows.length:=by
 have:=(zC h).1.1;simpa using this
theorem Xy(rows:List (List G)):(er rows.length).map (fA rows)=rows:=by
 apply kP;intro i;rw[bR];by_cases h:i<rows.length
 ·rw [List.getElem?_range h, bd h]
  simp[fA,b_,h]
 ·rw [nz (by simpa using h), nz (by omega)]
  rfl
theorem MH{C:List G→Option (List G)}{rows:List (List G)}(h:qg C rows):(qh C rows).Perm rows:=by
 have:=(Xx h).map (fA rows);rw[Xy]at this;exact this
theorem Xz{C:List G→Option (List G)}{rows:List (List G)}(h:qg C rows):(qh C rows).Pairwise fun a b=>¬ vI C b a<0:=by
 unfold qh;rw[List.pairwise_map,List.pairwise_iff_getElem];intro i j hi d g;have:=(zC h).2 i j (dB _) g (by rw[SI,←MG h]; simpa using d);simp only[Array.length_toList]at hi d;rw[getElem!_pos _ i hi,getElem!_pos _ j d]at this;simpa[ltOf,lX]using this
section
variable {P:Program} {ρ:Go.Shelf.Ren}
theorem XA{E:Env}{K:List Kd}{rows:List (List G)}{b m:Nat}(v:Kd.cy K=true)(u:isRow E.w b (m*K.length)) (y:cz E K.length (rows.map (aK K)) b 0) (d:Array Nat) (q:d.size=rows.length) (hi:∀ i,i<rows.length→d[i]! = i) :
  Go.Sort.HoldsK (fun i=>dm K (fA rows i)) K.length E.w b 0 d:=by
 intro t g;rw[Go.Sort.size_flatK,q]at g;have hk:0<K.length:=by
  rcases Nat.eq_zero_or_pos K.length with h|h
  ·rw[h]at g; simp at g
  ·exact h
 have k:t / K.length<rows.length:=Nat.div_lt_of_lt_mul (by rw[ah0]; exact g);rw[Go.Sort.get_flatK _ _ _ _ (by rw[q]; exact g),hi _ k];have z:(rows.map (aK K))[t / K.length]? = some (aK K (fA rows (t / K.length))):=by
  rw[bR,bd k];simp[fA,b_,k]
 have:=Xs v (mF y z).2 (t%K.length) (Nat.mod_lt _ hk);refine⟨?_,?_⟩
 ·rw [show 0 + t = 0 + t / K.length * K.length + t % K.length by rw [cR, cR, ah0, Nat.div_add_mod]]
  exact this
 ·obtain ⟨cs, el, h1, _⟩ := u
  simp[World.frozen?,h1]
theorem MI{w:World}{sG:Nat}{f:Array Value→Array Value}{x:Nat}(h:x≠sG):(xI w sG f).heap[x]? = w.heap[x]? := by
 simp[xI,tU,Ne.symm h]
theorem XB{E:Env}(HE:aq E){K:List Kd}{rows rows':List (List G)}{b m:Nat}(hs:Kd.cy K=true) (hH:E.H=[.vec K.length 0 (rows.map (aK K))]) (d:E.loc[0]? = some (some (b,m))) (hrow:isRow E.w b (m*K.length))
  (N:cz E K.length (rows.map (aK K)) b 0) (hm:rows'.length≤m) {w':World} (t:E.w.heap.size≤w'.heap.size) (R:∀ x,x<E.w.heap.size→x≠b→w'.heap[x]? = E.w.heap[x]?) (U:isRow w' b (m*K.length))
  (O:∀ i c,i<rows'.length→c<K.length→w'.cell? ⟨b,i*K.length+c,none⟩=some (dm K (rows'.getD i []))[c]!) (y:dC E.w w') :
  cL E (.tuple []) [.vec K.length 0 (rows'.map (aK K))] (.tuple #[]) w':=by
 have h0:E.H[0]? = some (ab.vec K.length 0 (rows.map (aK K))):=by rw[hH]; rfl
 have I:∀ x,x<E.w.heap.size→(∀ n,E.loc[0]? ≠ some (some (x,n)))→w'.heap[x]? = E.w.heap[x]? := fun x g hn=>R x g fun e=>hn m (by rw[d,e]);have V:E.H.set 0 (ab.vec K.length 0 (rows'.map (aK K)))=[.vec K.length 0 (rows'.map (aK K))]:=by rw[hH]; rfl
 have z:E.loc.set 0 (some (b,m))=E.loc:=by
  apply kP;intro i;rw[List.getElem?_set];split
  ·rename_i e
   subst e;split
   ·exact d.symm
   ·rename_i h; exact(h (aL d)).elim
  ·rfl
 have B:(∀ v,(ab.vec K.length 0 (rows'.map (aK K))).aF = some v→(ab.vec K.length 0 (rows.map (aK K))).aF = some v∧E.loc[0]? = some (some (b,m))):=fun v k=>⟨k,d⟩
 have J:∀ v u,(ab.vec K.length 0 (rows'.map (aK K))).aF = some v→(ab.vec K.length 0 (rows.map (aK K))).aF = some u→u≤v:=fun v u k hu=>by
  simp only[ab.aF,aX]at k hu;omega
 have hle:=Env.jE (E:=E) (w':=w') (id:=0) (o:=.vec K.length 0 (rows.map (aK K))) (o':=.vec K.length 0 (rows'.map (aK K))) (l:=some (b,m)) h0 HE.len t I (fun b' n' e=>.inr ⟨m,by cases e; exact d⟩) (.inl B) J (fun _ h=>by simp[ab.aF]at h) y;have W:aR { w:=w',H:=E.H.set 0 (ab.vec K.length 0 (rows'.map (aK K))),loc:=E.loc.set 0 (some (b,m)),X:=E.X } 0 (.vec K.length 0 (rows'.map (aK K))):=by
  simp only[aR];refine .inr ⟨b,m,by rw[z]; exact d,U,by simpa using hm,?_,?_⟩
  ·intro r N
   obtain⟨x,_,rfl⟩:=List.mem_map.1 N;exact fW _ _
  ·rw [lH]
   intro i r hi;rw[bR]at hi;cases g:rows'[i]? with
   |none=>rw[g]at hi; cases hi
   | some x =>
    rw[g]at hi;cases hi;refine⟨qX _ _,?_⟩;rw[iL];intro c a ha;have q:c<K.length:=by have:=aL ha; rwa [qX]at this
    have hlt:=aL g;have hget:rows'.getD i []=x:=by rw[b_,g]; rfl
    have k:(dm K x)[c]? = some (dm K x)[c]! := by rw[bd (by rw[sE]; exact q),getElem!_pos _ c (by rw[sE]; exact q)]
    refine⟨(dm K x)[c]!,?_,(vG K x _ (fa k)).1,?_⟩
    ·have := O i c hlt q
     rw[hget]at this;rw[show 0+i*K.length+c=i*K.length+c by omega];exact this
    ·exact(mC.1 (Ed x hs)).2 c a _ ha k
 have M:=aq.k0 HE h0 t I (fun b' n' e=>.inr ⟨m,by cases e; exact d⟩) (.inl B) J (fun _ h=>by simp[ab.aF]at h) W y;rw[V,z]at hle M;exact⟨E.loc,E.X.r,by simp[rel,ae],M,hle⟩
theorem XC(L:SlLaysF0.n6 P ρ)(K:List Kd)(J:Kd.cy K=true) (aE:∀ w,(isAgg (ρ.t 24)).run P w=.ok true w) (zE:∀ w,(Go.sizeOf (ρ.t 24)).run P w=.ok K.length w) (g:FuncId) (hg:iv P g=true)
  (C:List G→Option (List G)) (hC:∀ d r,C d=some r→@cq mB P g (bV [] [.s (.row K),.s (.row K)] d) [] (df (bV [] [.s (.int .i64)] r)) []) (d r:List G) (h:sF C d=some r) :
  cq P (ρ.f 6) (bV (bQ [.vec K 0] d) [.s (.vec 0 K.length),.s (.fn g)] (cD 1 d)) (ai (ca (bQ [.vec K 0] d) [.vec K 0] d)) (df []) (ai (ca (bQ [.vec K 0] r) [.vec K 0] r)):=by
 have e1:gi d 0=d.headD default:=rfl;intro E cargs hH HE B;simp only[bV,gO,dp,bQ,ca,eA,ai,List.map_cons,List.map_nil,ah.den,c8.ad,c8.len,List.getD_cons_zero,←e1]at hH B;obtain⟨cs⟩:=cargs
 match cs,B with
 | [c0,c1],B =>
 simp only[ae,and_true]at B;obtain⟨h0,h1⟩:=B;simp only[rel,ae]at h1;obtain⟨M,rfl,R⟩:=h1;have R:M=#[]:=by
  obtain⟨M⟩:=M;cases M with
  |nil=>rfl
  |cons x l=>simp[ae]at R
 subst R;simp only[rel]at h0;obtain⟨⟨base,cap,rfl,hcap,hbase⟩,_,hlive⟩:=h0;have hl0:E.H[0]? = some (ab.vec K.length 0 ((gi d 0).rows.map (aK K))):=by rw[hH]; rfl
 obtain⟨V,q⟩:=hlive ⟨_,hl0,rfl⟩;unfold sF at h;split at h
 ·rename_i u
  cases h;have hH':E.H=[ab.vec K.length 0 []]:=by rw[hH,u]; rfl
  rw[u];refine(AnyF.slices_SortFunc_none L base cap _ E.w).mono ?_;rintro e w' ⟨rfl,rfl⟩;refine⟨_,.tuple [],[ab.vec K.length 0 []],rfl,⟨rfl,rfl⟩,E.loc,E.X.r,by simp[rel,ae],?_,?_⟩
  ·rw [← hH']
   exact HE
  ·rw [← hH']
   exact Env.le.refl E
 ·rename_i u
  split at h
  case isFalse=>cases h
  rename_i I;cases h;have hpos:0<(gi d 0).rows.length:=List.length_pos_iff.2 u;rcases HE.obj 0 _ hl0 with⟨_,e2⟩|⟨b,m,N,O,hm,hcl,hr⟩
  ·exact(u (by simpa using e2)).elim
  obtain⟨_,o,ho,W⟩:=q b m N;have hmm:(gi d 0).rows.length≤m:=by simpa using hm
  have ho:o=0:=by have:=ho (by omega); omega
  subst ho;generalize hrs:(gi d 0).rows=rows at *;rw[W];have z:(gD rows.length).size=rows.length:=SI;have hdi:∀ i,i<rows.length→(gD rows.length)[i]! = i:=fun i hi=>by rw[getElem!_pos _ i (by rw[z]; exact hi)]; simp
  have hH0:=XA J O hr (gD rows.length) z hdi;have hblk:b<E.w.heap.size:=(HE.lt 0 b m N).1;have hcmp:CmpLays P g #[] (fun i=>dm K (fA rows i)) K.length (lX C rows) b 0 (gD rows.length).size E.w:=by
   intro mm os dk _ x y;obtain⟨n,V⟩:=I.Xw _ (vJ u x) _ (vJ u y);have:=hC _ _ V;simp only[bV,gO,dp,cD,Sh.sz,dn.sz,List.headD_cons,List.tail_cons,df,G.row,G.rows,G.int]at this;have e:lX C rows x y=n:=by
    simp only[lX,vI,V];rfl
   rw[e];have ht:mD (bare (xJ (fun i=>dm K (fA rows i)) K.length E.w b 0 mm dk os)):=fun p hp=>by
    obtain⟨h1,t,f,h2⟩:=HE.fh p hp;have hne:p.1≠b:=fun e=>h1.2.1 (.inl ⟨0,m,by rw[e]; exact N⟩);have hsame:(xJ (fun i=>dm K (fA rows i)) K.length E.w b 0 mm dk os).heap[p.1]? = E.w.heap[p.1]? := by
     unfold xJ I4 SL qR;simp only[];rw[I2 (by simpa[xI,I5]using h1.1),MI hne];rfl
    refine⟨⟨(Array.getElem?_eq_some_iff.1 (hsame.trans h2)).1,?_,fun h=>h⟩,t,f,by rw[←h2]; exact hsame⟩;rintro(⟨i,c,hi⟩|⟨l,k,c,hk⟩)
    ·simp[bare]at hi
    ·simp[bare,eD]at hk
   exact Xv this _ ht (by
    simp only[ae,rel,and_true,Array.toList_append,List.append_nil];exact⟨⟨_,rfl,fun v q=>(vG K _ v q).1,Ed _ J⟩,⟨_,rfl,fun v q=>(vG K _ v q).1,Ed _ J⟩⟩)
  have:=AnyQ.slices_SortFunc_eq L K.length aE zE (fun i=>dm K (fA rows i)) (fun x=>sE _ _) (fun x v q=>(vG K _ v q).2) (lX C rows) I.swo g #[] b 0 (m-0) (gD rows.length) E.w
   (fun args w=>Kc hg args w) hcmp hH0 hblk (by rw[z]; exact I.small)
  rw[z]at this;refine this.mono ?_;rintro e w' ⟨rfl,n,os,rfl⟩;refine⟨_,.tuple [],_,rfl,⟨rfl,rfl⟩,?_⟩;have eN:Go.Sort.pdq (ltOf (lX C rows)) (gD rows.length) 0 rows.length (Lib.bitLen rows.length) true true=lp C rows:=by
   unfold lp;rw[z]
  rw[eN];have U:=MG I;have hlen:(qh C rows).length=rows.length:=(MH I).length_eq;have hh:=holdsK_sortWorldK_c (fun i=>dm K (fA rows i)) K.length E.w b 0 (gD rows.length) (lp C rows) n os hH0 hblk (by rw[U,z]);refine XB (rows':=qh C rows) HE J hH N O hr (by rw[hlen]; exact hmm) ?_ ?_ ?_ ?_ ?_
  ·unfold xJ I4
   rw[Go.Sort.size_grow,Go.Sort.size_putRow];show E.w.heap.size≤E.w.heap.size+_
   omega
  ·intro x hx hxb
   unfold xJ I4 SL qR;simp only[];rw[I2 (by simpa[xI,I5]using hx),MI hxb];rfl
  ·obtain ⟨cs, el, g1, g2⟩ := O
   unfold xJ I4 SL qR;unfold isRow;simp only[];rw[I2 (by simpa[xI,I5]using hblk)];simp only[xI,I5,tU,if_true,g1,Option.map_some];exact⟨_,_,rfl,by simp[Go.Sort.putCells,g2]⟩
  ·intro i c hi W
   rw[hlen]at hi;have:=(hh.cell (i:=i) (c:=c) (by rw[U]; exact hi) W).1;rw[cR]at this;rw[this];congr 2;have hi':i<(lp C rows).size:=by rw[U]; exact hi
   simp only[qh,b_,bR,Array.getElem?_toList];rw[Array.getElem?_eq_getElem hi',getElem!_pos _ i hi'];rfl
  ·exact⟨rfl,rfl,rfl,fun _=>Nat.le_add_right _ _⟩
end
end Go.AL
