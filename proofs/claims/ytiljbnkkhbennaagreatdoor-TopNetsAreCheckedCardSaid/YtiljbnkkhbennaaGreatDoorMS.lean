/-
 What is proved here: the best way to join two rising lists,reckoned from the ends,is the same from both sides. No condition.
-/
import Derived.Test.YtiljbnkkhbennaaGreatDoorMF
set_option linter.all false
open Bool renaming and_true→eS,and_eq_true→az,true_and→iO,or_eq_true→vp,not_true→yY,false_or→mH,eq_iff_iff→mI,or_false→vu
open Function renaming comp→Dg
open Go.ByteArray renaming toList_eq→sF
open Go.Lib renaming compareBytes→eT
open Go.Op renaming bytesLess→mD
open Int renaming toNat_natCast→ba,le_refl→VY,le_trans→VZ,natCast_succ→V0
open List renaming length_cons→cn,append_nil→dh,append_assoc→gT,getElem?_append_left→cT,length_map→cD,mem_map→cF,getElem?_map→bU,getElem_of_mem→mC,getElem?_eq_getElem→bf,getElem?_eq_none→nQ,getElem?_append_right→iM,getElem?_set_self→bC,getElem?_set→eC,all_eq_true→dB,getD_eq_getElem?_getD→bz,mem_cons→bN,map_cons→dj,cons_append→lH,ext_getElem?→kR,length_take→jq,length_set→pd,length_append→eD,mem_append→cQ,map_map→mF,nil_append→ki,replicate→cd,length_range→vm,mem_flatten→Kj,all_cons→lJ,mem_cons_self→cU,mem_cons_of_mem→dw,length_replicate→C',map_append→iP,nodup_cons→lL,range'→pk,range'_succ→yX,range→dI,mem_append_left→qN,any_eq_true→iQ,mem_range→fG,mem_singleton→po,length_nil→lN,map_nil→qO,length→y5,getElem?_range→vr,getElem_mem→mN,mem_filter→nZ,mem_append_right→vt,filter_cons→Kw,range_succ→Dh,pairwise_map→pr,pairwise_iff_getElem→y8,pairwise_cons→pt,any_cons→zd,getElem?_take_of_lt→KA,any_eq_false→Dl,foldl_append→ze,eq_replicate_iff→amk,getElem?_replicate→aml,sum_cons→V3,filter_append→amm,filter_nil→V4,nodup_append→V6,length_filter_le→amn,Nodup→Dm,length_singleton→sG,filter_map→amp,mergeSort_perm→V7,le_trans→amq,le_total→amr,pairwise_mergeSort→V8
open List.Perm renaming refl→pq
open List.Sublist renaming refl→amS
open List.cons renaming injEq→C7
open Nat renaming le_refl→aD,le_trans→o9,zero_le→fg,lt_or_ge→kg,zero_add→di,beq→ab,eq_of_beq_eq_true→bk,sub_self→nU,blt→eh,blt_eq→iR,beq_refl→mJ,lt_trichotomy→Dk,exists_eq_add_of_le→amj,le_succ_of_le→V5,le_of_not_lt→amo
open Option renaming map_some→eg,getD_some→ga
open UInt8 renaming le_antisymm→Dj,not_lt→pv
namespace Go.Proofs.gl
open Go Go.AL Go.Proofs
noncomputable section
structure eA (F:Nat→Nat→Int) (n m:Nat) (ok:Nat→Nat→Bool) (w:Nat→Nat→Int):Prop where
 mv:∀ i k,n≤i∨m≤k→F i k=0
 step:∀ i k,i<n→k<m→F i k=if ok i k=true then max (max (F (i+1) k) (F i (k+1))) (w i k+F (i+1) (k+1)) else max (F (i+1) k) (F i (k+1))
structure Fair (n m:Nat) (ok:Nat→Nat→Bool) (w:Nat→Nat→Int):Prop where
 pos:∀ i k,i<n→k<m→ok i k=true→0<w i k
 ajB:∀ i p k q,i<p→p<n→k<q→q<m→ok i q=true→ok p k=true→ok i k=true∧ok p q=true∧w i q+w p k≤w i k+w p q
section
variable {F:Nat→Nat→Int} {n m:Nat} {ok:Nat→Nat→Bool} {w:Nat→Nat→Int}
theorem eA.flip(h:eA F n m ok w):eA (fun k i=>F i k) m n (fun k i=>ok i k) (fun k i=>w i k):=by
 refine⟨fun k i hk=>h.mv i k hk.symm,fun k i hk hi=>?_⟩;have:=h.step i k hi hk;rw[this];split<;>omega
theorem Fair.flip(h:Fair n m ok w):Fair m n (fun k i=>ok i k) (fun k i=>w i k):=by
 refine⟨fun k i hk hi ho=>h.pos i k hi hk ho,fun k q i p d I B J h1 M=>?_⟩;obtain⟨a,b,c⟩:=h.ajB i p k q B J d I M h1;exact⟨a,b,by omega⟩
theorem CI{d:Nat→Nat→Int}(h:eA F n m ok w)(h':eA d n m ok w):∀(s i k:Nat),(n-i)+(m-k)≤s→F i k=d i k
 | s,i,k,q=>by
  by_cases he:n≤i∨m≤k
  ·rw[h.mv i k he,h'.mv i k he]
  ·have hi : i < n := by omega
   have hk:k<m:=by omega
   cases s with
   |zero=>omega
   | succ s =>
    rw[h.step i k hi hk,h'.step i k hi hk,CI h h' s (i+1) k (by omega),CI h h' s i (k+1) (by omega),CI h h' s (i+1) (k+1) (by omega)]
theorem eA.down(h:eA F n m ok w)(i k:Nat):F (i+1) k≤F i k:=by
 by_cases he:n≤i∨m≤k
 ·rw [h.mv i k he, h.mv (i + 1) k (by omega)]
  exact VY _
 ·rw [h.step i k (by omega) (by omega)]
  split<;>omega
theorem eA.right(h:eA F n m ok w)(i k:Nat):F i (k+1)≤F i k:=h.flip.down k i
theorem eA.Jr(h:eA F n m ok w)(i k:Nat):∀ d,F (i+d) k≤F i k
 |0=>VY _
 |d+1=>VZ (h.down (i+d) k) (h.Jr i k d)
theorem eA.mono(h:eA F n m ok w){i p k q:Nat}(h1:i≤p)(B:k≤q):F p q≤F i k:=by
 obtain⟨d,rfl⟩:=amj h1;obtain⟨e,rfl⟩:=amj B;exact VZ (h.Jr i (k+e) d) (h.flip.Jr k i e)
theorem eA.take(h:eA F n m ok w){i p k q:Nat}(h1:i≤p)(d:k≤q)(B:p<n)(I:q<m)(ho:ok p q=true):w p q+F (p+1) (q+1)≤F i k:=by
 refine VZ ?_ (h.mono h1 d);rw[h.step p q B I,if_pos ho];omega
theorem eA.Js(h:eA F n m ok w)(i k:Nat):0≤F i k:=by
 have h1:=h.mono (i:=i) (p:=i+n) (k:=k) (q:=k) (by omega) (aD _);rw[h.mv (i+n) k (.inl (by omega))]at h1;exact h1
theorem eA.row(h:eA F n m ok w){i:Nat}(hi:i<n):∀(s k:Nat),m-k≤s→F i k=F (i+1) k∨∃ q,k≤q∧q<m∧ok i q=true∧F i k=w i q+F (i+1) (q+1)
 | s,k,I=>by
  by_cases hk:k<m
  ·cases s with
   |zero=>omega
   | succ s =>
    have h0:=h.step i k hi hk;have h1:=h.down i k;have J:=h.right (i+1) k;by_cases ho:ok i k=true
    ·rw [if_pos ho] at h0
     by_cases e:F i k=w i k+F (i+1) (k+1)
     ·exact .inr ⟨k,aD _,hk,ho,e⟩
     ·by_cases d : F i k = F (i + 1) k
      ·exact .inl d
      ·have B : F i k = F i (k + 1) := by omega
       rcases h.row hi s (k+1) (by omega)with g|⟨q,g1,g2,g3,g4⟩
       ·exact .inl (by omega)
       ·exact .inr ⟨q,by omega,g2,g3,by omega⟩
    ·rw [if_neg ho] at h0
     by_cases d:F i k=F (i+1) k
     ·exact .inl d
     ·have B : F i k = F i (k + 1) := by omega
      rcases h.row hi s (k+1) (by omega)with g|⟨q,g1,g2,g3,g4⟩
      ·exact .inl (by omega)
      ·exact .inr ⟨q,by omega,g2,g3,by omega⟩
  ·exact .inl (by rw[h.mv i k (.inr (by omega)),h.mv (i+1) k (.inr (by omega))])
def gR(P:Nat→Bool):Nat→Nat→Option Nat
 |_,0=>none
 |q,t+1=>bif P q then some q else gR P (q+1) t
theorem CJ{P:Nat→Bool}:∀{t q x:Nat},gR P q t=some x→q≤x∧x<q+t∧P x=true∧∀ y,q≤y→y<x→P y=false
 |0,_,_,h=>by cases h
 | t+1,q,x,h=>by
  unfold gR at h;cases k:P q with
  | true =>
   rw[k]at h;cases h;exact⟨aD _,by omega,k,fun y h1 B=>by omega⟩
  | false =>
   rw[k]at h;obtain⟨a,b,c,d⟩:=CJ (t:=t) h;exact⟨by omega,by omega,c,fun y h1 B=>by
    by_cases e:y=q
    ·subst e; exact k
    ·exact d y (by omega) B⟩
theorem T8{P:Nat→Bool}:∀{t q:Nat},gR P q t=none→∀ y,q≤y→y<q+t→P y=false
 |0,q,_,y,h1,k=>by omega
 | t+1,q,h,y,h1,k=>by
  unfold gR at h;cases d:P q with
  |true=>rw[d]at h; cases h
  | false =>
   rw[d]at h;by_cases e:y=q
   ·subst e; exact d
   ·exact T8 (t:=t) h y (by omega) (by omega)
theorem ajC{P:Nat→Bool}{t q x:Nat}(h1:q≤x)(B:x<q+t)(k:P x=true)(I:∀ y,q≤y→y<x→P y=false):gR P q t=some x:=by
 cases h:gR P q t with
 |none=>rw[T8 h x h1 B]at k; cases k
 | some z =>
  obtain⟨a,b,c,d⟩:=CJ h;rcases Dk z x with g|g|g
  ·rw[I z a g]at c; cases c
  ·rw[g]
  ·rw[d x h1 g]at k; cases k
def iw(F:Nat→Nat→Int)(ok:Nat→Nat→Bool)(w:Nat→Nat→Int)(v:Int)(i q:Nat):Bool:=ok i q&&(w i q+F (i+1) (q+1)==v)
theorem Jt{v:Int}{i q:Nat}:iw F ok w v i q=true↔ok i q=true∧w i q+F (i+1) (q+1)=v:=by
 unfold iw;rw[az,beq_iff_eq]
def ix(F:Nat→Nat→Int)(m:Nat)(ok:Nat→Nat→Bool)(w:Nat→Nat→Int):Nat→Nat→Nat→List (Nat × Nat)
 |0,_,_=>[]
 | t+1,i,f=>match gR (iw F ok w (F i f) i) f (m-f) with
  |some q=>(i,q)::ix F m ok w t (i+1) (q+1)
  |none=>ix F m ok w t (i+1) f
theorem CK{t i f q:Nat} (h:gR (iw F ok w (F i f) i) f (m-f)=some q):ix F m ok w (t+1) i f=(i,q)::ix F m ok w t (i+1) (q+1):=by
 rw[ix,h]
theorem Ju{t i f:Nat} (h:gR (iw F ok w (F i f) i) f (m-f)=none):ix F m ok w (t+1) i f=ix F m ok w t (i+1) f:=by
 rw[ix,h]
theorem CL:∀(t i f:Nat),∀ x∈ix F m ok w t i f,i≤x.1∧x.1<i+t∧f≤x.2∧x.2<m∧ok x.1 x.2=true
 |0,_,_,x,h=>by cases h
 | t+1,i,f,x,h=>by
  cases k:gR (iw F ok w (F i f) i) f (m-f)with
  | none =>
   rw[Ju k]at h;obtain⟨a,b,c,d,e⟩:=CL t (i+1) f x h;exact⟨by omega,by omega,c,d,e⟩
  | some q =>
   rw[CK k]at h;obtain⟨B,J,I,_⟩:=CJ k;rcases bN.1 h with rfl|h
   ·exact⟨aD _,by simp,B,by simp; omega,(Jt.1 I).1⟩
   ·obtain ⟨a, b, c, d, e⟩ := CL t (i + 1) (q + 1) x h
    exact⟨by omega,by omega,by omega,d,e⟩
theorem Jv:∀(t i f:Nat),(ix F m ok w t i f).Pairwise fun x y=>x.1<y.1∧x.2<y.2
 |0,_,_=>.nil
 | t+1,i,f=>by
  cases d:gR (iw F ok w (F i f) i) f (m-f)with
  |none=>rw[Ju d]; exact Jv t (i+1) f
  | some q =>
   rw[CK d];refine .cons (fun y k=>?_) (Jv t (i+1) (q+1));obtain⟨a,_,c,_,_⟩:=CL t (i+1) (q+1) y k;exact⟨by simp; omega,by simp; omega⟩
end
def oY(n m:Nat)(ok:Nat→Nat→Bool)(w:Nat→Nat→Int)(i k:Nat):Int :=
 if h:i<n∧k<m then
  if ok i k=true then max (max (oY n m ok w (i+1) k) (oY n m ok w i (k+1))) (w i k+oY n m ok w (i+1) (k+1)) else max (oY n m ok w (i+1) k) (oY n m ok w i (k+1))
 else 0
termination_by (n-i)+(m-k)
theorem T9(n m:Nat)(ok:Nat→Nat→Bool)(w:Nat→Nat→Int):eA (oY n m ok w) n m ok w :=
 ⟨fun i k h => by rw [oY, dif_neg (by omega)], fun i k hi hk => by
  conv=>lhs; rw[oY]
  rw[dif_pos ⟨hi,hk⟩]⟩
theorem eA.le{F:Nat→Nat→Int}{n m:Nat}{ok:Nat→Nat→Bool}{w:Nat→Nat→Int}(h:eA F n m ok w){W:Int}(d:0≤W)(hw:∀ i k,w i k≤W):∀(t i k:Nat),n-i=t→F i k≤W*(t:Int)
 |0,i,k,B=>by rw[h.mv i k (.inl (by omega))]; simp
 | t+1,i,k,B=>by
  have e:W*((t+1:Nat):Int)=W*(t:Int)+W:=by rw[V0,Int.mul_add,Int.mul_one]
  rw[e];rcases h.row (i:=i) (by omega) (m-k) k (aD _)with g|⟨q,_,_,_,g⟩
  ·have := h.le d hw t (i + 1) k (by omega)
   omega
  ·have := h.le d hw t (i + 1) (q + 1) (by omega)
   have:=hw i q;omega
def gD(r:List G):Int:=(gi r 0).int
def lB(r:List G):Int:=(gi r 1).int
def aR(r:List G):ByteArray:=(gi r 2).str
def bB(r:List G):ByteArray:=(gi r 3).str
def iJ(r:List G):Prop:=aU [.int .i64,.int .i64,.str,.str,.int .i64,.int .i64,.str,.str] r=r ∧ -1000000000000≤gD r∧gD r≤1000000000000
def jn(p q:List G):Int:=if gD q-gD p>gD p-gD q then gD q-gD p else gD p-gD q
def qx(off:Int)(p q:List G):Bool:=((aR p).toList==(aR q).toList)&&((lB p==lB q)&&bx (jn p q) off)
theorem CM{p q:List G}(d:iJ p)(k:iJ q):0≤jn p q∧jn p q≤2000000000000:=by
 obtain⟨_,h1,B⟩:=d;obtain⟨_,I,J⟩:=k;unfold jn;split<;>omega
theorem Jw{p q:List G}(d:iJ p)(k:iJ q):uJ [.l [p],.l [q]]=some [.i (jn p q)]:=by
 obtain⟨_,h1,B⟩:=d;obtain⟨_,I,J⟩:=k;unfold gD at h1 B I J;refine aa.toEq ?_;unfold uJ jn gD
 (dsimp +instances only[Aa,Ab,Ac,Ad,Ae,Af,Ag])
 exact aa.pos (ib.2 ⟨by omega,by omega⟩) (aa.pos (ib.2 ⟨by omega,by omega⟩) (aa.some rfl))
theorem T_(off:Int){p q:List G}(d:iJ p)(k:iJ q):uK [.l [p],.l [q],.i off]=some [.t (qx off p q)]:=by
 refine aa.toEq ?_;unfold uK qx
 (dsimp +instances only[Aa,Ab,Ac,Ad,Ae,Af,Ag])
 refine aa.test (fun h=>?_) fun h=>?_
 ·have h : ((aR p).toList == (aR q).toList) = true := h
  rw[h];refine aa.test (fun h=>?_) fun h=>?_
  ·have h : (lB p == lB q) = true := h
   rw[h,d.1,k.1];refine aa.cE (Jw d k) ?_;exact aa.some rfl
  ·have h : (lB p == lB q) = false := h
   rw[h];exact aa.some rfl
 ·have h : ((aR p).toList == (aR q).toList) = false := h
  rw[h];exact aa.some rfl
structure JC (a b:List (List G)) (X Y:List Nat):Prop where
 ha:∀ z∈a,iJ z
 hb:∀ z∈b,iJ z
 hX:∀ i∈X,i<a.length
 hY:∀ i∈Y,i<b.length
 na:a.length≤100000
 nb:b.length≤100000
 nX:X.length≤1000
 nY:Y.length≤1000
def bG(X:List Nat):List (List G):=X.map fun(i:Nat)=>[G.i (i:Int)]
theorem nH(X:List Nat):(bG X).length=X.length:=cD _
theorem uZ{X:List Nat}{i:Nat}(hi:i<X.length):(bG X).getD i []=[.i ((X.getD i 0:Nat):Int)]:=by
 unfold bG;rw[bz,bU,bf hi,bz,bf hi];rfl
theorem nI{α:Type}{l:List α}{i:Nat}{z:α}(h:i<l.length):l.getD i z∈l:=by
 rw[bz,bf h];exact mN h
def iK(a:List (List G))(X:List Nat)(i:Nat):List G:=a.getD (X.getD i 0) []
def ff(a b:List (List G))(X Y:List Nat)(off:Int)(i k:Nat):Bool:=qx off (iK a X i) (iK b Y k)
def wJ(a b:List (List G))(X Y:List Nat)(i k:Nat):Int:=10000000000-jn (iK a X i) (iK b Y k)
theorem JC.CN{a b:List (List G)}{X Y:List Nat}(J:JC a b X Y){i:Nat}(hi:i<X.length):X.getD i 0<a.length∧iJ (iK a X i):=by
 have h:=J.hX _ (nI (z:=0) hi);exact⟨h,J.ha _ (nI h)⟩
theorem JC.CO{a b:List (List G)}{X Y:List Nat}(J:JC a b X Y){i:Nat}(hi:i<Y.length):Y.getD i 0<b.length∧iJ (iK b Y i):=by
 have h:=J.hY _ (nI (z:=0) hi);exact⟨h,J.hb _ (nI h)⟩
theorem ajD{a b:List (List G)}{X Y:List Nat}(J:JC a b X Y)(off:Int)(B:List (List G)){i k:Nat}(hi:i<X.length)(hk:k<Y.length) :
  Ch [.l a,.l b,.l (bG X),.l (bG Y),.i off,.l B,.i (i:Int),.i (k:Int)]=some [.l a,.l b,.l (bG X),.l (bG Y),.i off,.l B,.i (wJ a b X Y i k),.t (ff a b X Y off i k)]:=by
 obtain⟨h1,d⟩:=J.CN hi;obtain⟨O,q⟩:=J.CO hk;have N:=CM d q;refine aa.toEq ?_;unfold Ch
 (dsimp +instances only[Aa,Ab,Ac,Ad,Ae,Af,Ag])
 simp only[ba,uZ hi,uZ hk,nH]
 (dsimp +instances only[Aa,Ab,Ac,Ad,Ae,Af,Ag])
 simp only[ba];refine aa.p (aa.p (aa.p (aa.p ?_)));have I:a.getD (X.getD i 0) []=iK a X i:=rfl;have M:b.getD (Y.getD k 0) []=iK b Y k:=rfl;rw[I,M,d.1,q.1];refine aa.cE (Jw d q) ?_
 (dsimp +instances only[Aa,Ab,Ac,Ad,Ae,Af,Ag])
 refine aa.pos (ib.2 ⟨by omega,by omega⟩) ?_;refine aa.cE (T_ off d q) ?_
 (dsimp +instances only[Aa,Ab,Ac,Ad,Ae,Af,Ag])
 refine aa.pos ?_ (aa.some rfl);simp
theorem Ua{a b:List (List G)}{X Y:List Nat}(J:JC a b X Y)(off:Int)(B:List (List G)){i k:Nat}(hi:i<X.length)(hk:k<Y.length) :
  Cj [.l [[.l a,.l b,.l (bG X),.l (bG Y),.i off,.l B]],.i (i:Int),.i (k:Int)]=some [.i (wJ a b X Y i k),.t (ff a b X Y off i k)]:=by
 obtain⟨h1,d⟩:=J.CN hi;obtain⟨O,q⟩:=J.CO hk;have N:=CM d q;refine aa.toEq ?_;unfold Cj
 (dsimp +instances only[Aa,Ab,Ac,Ad,Ae,Af,Ag])
 simp only[ba,uZ hi,uZ hk,nH]
 (dsimp +instances only[Aa,Ab,Ac,Ad,Ae,Af,Ag])
 simp only[ba];refine aa.p (aa.p (aa.p (aa.p ?_)));have I:a.getD (X.getD i 0) []=iK a X i:=rfl;have M:b.getD (Y.getD k 0) []=iK b Y k:=rfl;rw[I,M,d.1,q.1];refine aa.cE (Jw d q) ?_
 (dsimp +instances only[Aa,Ab,Ac,Ad,Ae,Af,Ag])
 refine aa.pos (ib.2 ⟨by omega,by omega⟩) ?_;refine aa.cE (T_ off d q) ?_;exact aa.some rfl
def d_(F:Nat→Nat→Int)(m i t:Nat):List (List G):=(dI (m+1)).map fun j=>[G.i (if t≤j then F i j else 0)]
def dX(F:Nat→Nat→Int)(n m i:Nat):List (List G):=(dI (n+1)).map fun p=>[G.l (if i≤p then d_ F m p 0 else [])]
theorem qy(F:Nat→Nat→Int)(m i t:Nat):(d_ F m i t).length=m+1:=by unfold d_; rw[cD,vm]
theorem u9(F:Nat→Nat→Int)(n m i:Nat):(dX F n m i).length=n+1:=by unfold dX; rw[cD,vm]
theorem yr{F:Nat→Nat→Int}{m i t j:Nat}(d:j≤m):(d_ F m i t).getD j []=[.i (if t≤j then F i j else 0)]:=by
 unfold d_;rw[bz,bU,vr (by omega)];rfl
theorem Jx{F:Nat→Nat→Int}{n m i p:Nat}(d:p≤n):(dX F n m i).getD p []=[.l (if i≤p then d_ F m p 0 else [])]:=by
 unfold dX;rw[bz,bU,vr (by omega)];rfl
theorem ajE{F:Nat→Nat→Int}{m i t:Nat}:(d_ F m i (t+1)).set t [.i (F i t)]=d_ F m i t:=by
 apply kR;intro j;unfold d_;rw[eC,bU,bU,cD,vm];by_cases d:j<m+1
 ·rw [vr d]
  by_cases e:t=j
  ·subst e
   rw[if_pos rfl,if_pos d];simp
  ·rw [if_neg e]
   simp only[eg];by_cases h:t≤j
   ·rw[if_pos h,if_pos (by omega)]
   ·rw[if_neg h,if_neg (by omega)]
 ·rw [nQ (by simp; omega)]
  by_cases e:t=j
  ·subst e
   rw[if_pos rfl,if_neg d];rfl
  ·rw [if_neg e]
   rfl
theorem ajF{F:Nat→Nat→Int}{m i:Nat}(h:F i m=0):d_ F m i m=cd (m+1) [.i 0]:=by
 rw[amk];refine⟨qy F m i m,fun x d=>?_⟩;unfold d_ at d;obtain⟨j,k,rfl⟩:=cF.1 d;rw[fG]at k;by_cases e:m≤j
 ·rw[if_pos e,show j=m from by omega,h]
 ·rw[if_neg e]
theorem ajG{F:Nat→Nat→Int}{m i:Nat}(h:∀ k,F i k=0):d_ F m i 0=cd (m+1) [.i 0]:=by
 rw[amk];refine⟨qy F m i 0,fun x d=>?_⟩;unfold d_ at d;obtain⟨j,q,rfl⟩:=cF.1 d;rw[if_pos (fg _),h]
theorem ajH{F:Nat→Nat→Int}{n m i:Nat}:(dX F n m (i+1)).set i [.l (d_ F m i 0)]=dX F n m i:=by
 apply kR;intro j;unfold dX;rw[eC,bU,bU,cD,vm];by_cases d:j<n+1
 ·rw [vr d]
  by_cases e:i=j
  ·subst e
   rw[if_pos rfl,if_pos d];simp
  ·rw [if_neg e]
   simp only[eg];by_cases h:i≤j
   ·rw[if_pos h,if_pos (by omega)]
   ·rw[if_neg h,if_neg (by omega)]
 ·rw [nQ (by simp; omega)]
  by_cases e:i=j
  ·subst e
   rw[if_pos rfl,if_neg d];rfl
  ·rw [if_neg e]
   rfl
theorem ajI{F:Nat→Nat→Int}{n m:Nat}(h:∀ k,F n k=0):(cd (n+1) ([.l []]:List G)).set n [.l (cd (m+1) [.i 0])]=dX F n m n:=by
 apply kR;intro j;unfold dX;rw[eC,bU,aml,C'];by_cases d:j<n+1
 ·rw [vr d]
  by_cases e:n=j
  ·subst e
   rw[if_pos rfl,if_pos d,eg,if_pos (aD _),ajG h]
  ·rw[if_neg e,if_pos d,eg,if_neg (by omega)]
 ·rw [nQ (by simp; omega)]
  by_cases e:n=j
  ·subst e
   rw[if_pos rfl,if_neg d];rfl
  ·rw [if_neg e, if_neg d]
   rfl
theorem Jy(k:Kd)(r:List G)(v:G):dR [k] r 0 [v]=[v]:=by
 simp[dR,pL]
theorem Ub{a b x y d row:List (List G)}{off:Int}{i k:Nat}(hk:k≤100000) :
  xZ [.l a,.l b,.l x,.l y,.i off,.l d,.l row,.i (i:Int),.i (k:Int)]=some (some 0,[.l a,.l b,.l x,.l y,.i off,.l d,.l row,.i (i:Int),.i ((k:Int)-1)]):=by
 refine aa.toEq ?_;unfold xZ
 (dsimp +instances only[Aa,Ab,Ac,Ad,Ae,Af,Ag])
 exact aa.pos (ib.2 ⟨by omega,by omega⟩) (aa.pos (by simp) (aa.some rfl))
theorem Uc{a b:List (List G)}{X Y:List Nat}(J:JC a b X Y)(off:Int){F:Nat→Nat→Int}(hF:eA F X.length Y.length (ff a b X Y off) (wJ a b X Y)){i:Nat}(hi:i<X.length):∀ t:Nat,t≤Y.length →
  bq x2 [.l a,.l b,.l (bG X),.l (bG Y),.i off,.l (dX F X.length Y.length (i+1)),.l (d_ F Y.length i t),.i (i:Int),.i ((t:Int)-1)] (t+1) fun c g=>c=0∧g=[.l a,.l b,.l (bG X),.l (bG Y),.i off,.l (dX F X.length Y.length (i+1)),.l (d_ F Y.length i 0),.i (i:Int)]
 | 0,_=>by
  refine bq.stop (x:=0) (aa.toEq ?_) ⟨rfl,rfl⟩;unfold x2
  (dsimp +instances only[Aa,Ab,Ac,Ad,Ae,Af,Ag])
  exact aa.neg (by rw[eV]; decide) (aa.pos (by simp) (aa.some rfl))
 | t+1,ht=>by
  have nX:=J.nX;have nY:=J.nY;have hW:∀ i k,F i k≤10000000000*((X.length-i:Nat):Int):=fun i k=>hF.le (W:=10000000000) (by omega) (fun i k=>by
   unfold wJ jn;split<;>omega) _ i k rfl
  have b1:=hF.Js (i+1) t;have b2:=hF.Js (i+1) (t+1);have b3:=hW (i+1) (t+1);have hwo : -2000000000000≤wJ a b X Y i t∧wJ a b X Y i t≤10000000000:=by
   have:=CM (J.CN hi).2 (J.CO (show t<Y.length by omega)).2;unfold wJ;omega
  have ih:=Uc J off hF hi t (by omega);have e0:((t+1:Nat):Int)-1=(t:Int):=by omega
  rw[e0];refine bq.next (aa.toEq ?_) ih
  have e1:((i:Int)+1).toNat=i+1:=by omega
  have e2:((t:Int)+1).toNat=t+1:=by omega
  have hM:(dX F X.length Y.length (i+1)).getD (i+1) []=[.l (d_ F Y.length (i+1) 0)]:=by rw[Jx (by omega),if_pos (aD _)]
  have V:(d_ F Y.length (i+1) 0).getD t []=[.i (F (i+1) t)]:=by rw[yr (by omega),if_pos (fg _)]
  have I:(d_ F Y.length (i+1) 0).getD (t+1) []=[.i (F (i+1) (t+1))]:=by rw[yr (by omega),if_pos (fg _)]
  have M:(d_ F Y.length i (t+1)).getD (t+1) []=[.i (F i (t+1))]:=by rw[yr (by omega),if_pos (aD _)]
  have d:=hF.step i t hi (by omega);have q:∀ v,v=F i t→(d_ F Y.length i (t+1)).set t [.i v]=d_ F Y.length i t:=fun v hv=>by rw[hv,ajE]
  have B:∀ v:Int,((d_ F Y.length i (t+1)).set t [.i v]).getD t []=[.i v]:=fun v=>by
   rw[bz,bC (by rw[qy]; omega)];rfl
  have N:=u9 F X.length Y.length (i+1);have O:=qy F Y.length i (t+1);have U:=qy F Y.length (i+1) 0;generalize hRR:d_ F Y.length i (t+1)=R at M q B O⊢;unfold x2
  (dsimp +instances only[Aa,Ab,Ac,Ad,Ae,Af,Ag])
  simp only[ba,e1,e2,di,hM]
  (dsimp +instances only[Aa,Ab,Ac,Ad,Ae,Af,Ag])
  simp only[V,I,M,Jy,N,O,U,pd,B,List.set_set]
  (dsimp +instances only[Aa,Ab,Ac,Ad,Ae,Af,Ag])
  refine aa.p (aa.p (aa.p (aa.p (aa.p (aa.p (aa.p (aa.p (aa.p (aa.p ?_)))))))));refine aa.nt (aa.eq (ajD J off _ hi (show t<Y.length by omega))) (by simp) ?_;rintro _ rfl
  (dsimp +instances only[Aa,Ab,Ac,Ad,Ae,Af,Ag])
  simp only[hM]
  (dsimp +instances only[Aa,Ab,Ac,Ad,Ae,Af,Ag])
  simp only[I,N,U]
  (dsimp +instances only[Aa,Ab,Ac,Ad,Ae,Af,Ag])
  refine aa.test (fun h=>?_) fun h=>?_
  ·rw [if_pos h] at d
   refine aa.p (aa.p (aa.p (aa.p (aa.p (aa.p (aa.p (aa.pos (ib.2 ⟨by omega,by omega⟩) (aa.p (aa.p ?_)))))))));refine aa.tail (P:=fun u g=>u=0∧g=[.l a,.l b,.l (bG X),.l (bG Y),.i off,.l (dX F X.length Y.length (i+1)),.l (d_ F Y.length i t),.i (i:Int),.i ((t:Int)-1)]) ⟨_,Ub (by omega),0,rfl,?_,?_⟩ (by simp) ?_
   ·rfl
   ·rw [q _ ?_]
    rw[d];split<;>split<;>omega
   ·rintro _ _ ⟨rfl, rfl⟩
    (dsimp +instances only[Aa,Ab,Ac,Ad,Ae,Af,Ag])
    exact aa.pos (by simp) (aa.some rfl)
  ·rw [if_neg (by rw [h]; decide)] at d
   refine aa.tail (P:=fun u g=>u=0∧g=[.l a,.l b,.l (bG X),.l (bG Y),.i off,.l (dX F X.length Y.length (i+1)),.l (d_ F Y.length i t),.i (i:Int),.i ((t:Int)-1)]) ⟨_,Ub (by omega),0,rfl,?_,?_⟩ (by simp) ?_
   ·rfl
   ·rw [q _ ?_]
    rw[d];split<;>omega
   ·rintro _ _ ⟨rfl, rfl⟩
    (dsimp +instances only[Aa,Ab,Ac,Ad,Ae,Af,Ag])
    exact aa.pos (by simp) (aa.some rfl)
theorem Ud{a b:List (List G)}{X Y:List Nat}(J:JC a b X Y)(off:Int){F:Nat→Nat→Int}(hF:eA F X.length Y.length (ff a b X Y off) (wJ a b X Y)):∀ t:Nat,t≤X.length →
  bq x4 [.l a,.l b,.l (bG X),.l (bG Y),.i off,.l (dX F X.length Y.length t),.i ((t:Int)-1)] (t+1) fun c g=>c=0∧g=[.l a,.l b,.l (bG X),.l (bG Y),.i off,.l (dX F X.length Y.length 0)]
 | 0,_=>by
  refine bq.stop (x:=0) (aa.toEq ?_) ⟨rfl,rfl⟩;unfold x4
  (dsimp +instances only[Aa,Ab,Ac,Ad,Ae,Af,Ag])
  exact aa.neg (by rw[eV]; decide) (aa.pos (by simp) (aa.some rfl))
 | t+1,M=>by
  have nX:=J.nX;have nY:=J.nY;have q:=Ud J off hF t (by omega);have B:((t+1:Nat):Int)-1=(t:Int):=by omega
  rw[B];refine bq.next (aa.toEq ?_) q
  have I:((Y.length:Int)+1).toNat=Y.length+1:=by omega
  have d:(cd (Y.length+1) ([.i 0]:List G))=d_ F Y.length t Y.length:=(ajF (hF.mv t Y.length (.inr (aD _)))).symm;have k:=Uc J off hF (show t<X.length by omega) Y.length (aD _);unfold x4
  (dsimp +instances only[Aa,Ab,Ac,Ad,Ae,Af,Ag])
  simp only[nH,I,d];refine aa.p (aa.p (aa.p (aa.p ?_)));refine aa.loop (k.to (by omega)) (by simp[qy]) ?_;rintro _ _ ⟨rfl,rfl⟩
  (dsimp +instances only[Aa,Ab,Ac,Ad,Ae,Af,Ag])
  simp only[ba,di,Jy,u9];refine aa.p (aa.pos (by simp; omega) (aa.p (aa.pos (by simp[u9]) (aa.some ?_))));rw[ajH]
theorem ajJ{a b:List (List G)}{X Y:List Nat}(J:JC a b X Y)(off:Int){F:Nat→Nat→Int}(hF:eA F X.length Y.length (ff a b X Y off) (wJ a b X Y)) :
  Ci [.l a,.l b,.l (bG X),.l (bG Y),.i off,.l []]=some [.l a,.l b,.l (bG X),.l (bG Y),.i off,.l (dX F X.length Y.length 0)]:=by
 have nX:=J.nX;have nY:=J.nY;have q:((X.length:Int)+1).toNat=X.length+1:=by omega
 have B:((Y.length:Int)+1).toNat=Y.length+1:=by omega
 have d:(cd (X.length+1) ([.l []]:List G)).set X.length [.l (cd (Y.length+1) [.i 0])]=dX F X.length Y.length X.length:=ajI fun k=>hF.mv X.length k (.inl (aD _));refine aa.toEq ?_;unfold Ci
 (dsimp +instances only[Aa,Ab,Ac,Ad,Ae,Af,Ag])
 simp only[nH,q,B,di,Jy,d,C',u9];refine aa.p (aa.p (aa.p (aa.p (aa.p (aa.pos (by simp) (aa.p ?_))))));refine aa.loop ((Ud J off hF X.length (aD _)).to (by omega)) (by simp) ?_;rintro _ _ ⟨rfl,rfl⟩
 (dsimp +instances only[Aa,Ab,Ac,Ad,Ae,Af,Ag])
 exact aa.pos (by simp) (aa.some rfl)
def nJ(X Y:List Nat)(p:Nat × Nat):List G:=[.i ((X.getD p.1 0:Nat):Int),.i ((Y.getD p.2 0:Nat):Int)]
def Ue(X Y:List Nat)(out:List (List G))(i:Nat):Option Nat→List (List G)
 |some q=>out++[nJ X Y (i,q)]
 |none=>out
def Uf(f:Nat):Option Nat→Nat
 |some q=>q+1
 |none=>f
theorem Jz{a b d out:List (List G)}{X Y:List Nat}(off:Int){f i k n:Nat}(hi:i<X.length)(hk:k<Y.length)(nY:Y.length≤1000)(ho:out.length≤100000)(t:Bool) :
  uL [.l a,.l b,.l (bG X),.l (bG Y),.i off,.l d,.l out,.i (f:Int),.i (i:Int),.i (k:Int),.i (n:Int),.i (i:Int),.t t] =
   bif t then some (some 0,[.l a,.l b,.l (bG X),.l (bG Y),.i off,.l d,.l (out++[nJ X Y (i,k)]),.i ((k+1:Nat):Int),.i (n:Int),.i (i:Int)])
   else some (some 1,[.l a,.l b,.l (bG X),.l (bG Y),.i off,.l d,.l out,.i (f:Int),.i (i:Int),.i (k:Int),.i (n:Int),.i (i:Int)]):=by
 cases t with
 | false =>
  refine aa.toEq ?_;unfold uL
  (dsimp +instances only[Aa,Ab,Ac,Ad,Ae,Af,Ag])
  exact aa.neg rfl (aa.pos (by simp) (aa.some rfl))
 | true =>
  refine aa.toEq ?_;unfold uL
  (dsimp +instances only[Aa,Ab,Ac,Ad,Ae,Af,Ag])
  simp only[ba,uZ hi,uZ hk,nH]
  (dsimp +instances only[Aa,Ab,Ac,Ad,Ae,Af,Ag])
  exact aa.pos rfl (aa.p (aa.p (aa.pos (by simp; omega) (aa.p (aa.pos (by simp) (aa.some rfl))))))
section
variable {a b:List (List G)} {X Y:List Nat} {F:Nat→Nat→Int}
theorem Ug(J:JC a b X Y)(off:Int)(hF:eA F X.length Y.length (ff a b X Y off) (wJ a b X Y))(out:List (List G))(ho:out.length≤100000){f i:Nat}(hi:i<X.length)(hf:f≤Y.length):∀ t k:Nat,k+t=Y.length →
  bq r_ [.l a,.l b,.l (bG X),.l (bG Y),.i off,.l (dX F X.length Y.length 0),.l out,.i (f:Int),.i (i:Int),.i (k:Int),.i (X.length:Int),.i (i:Int)] (t+1)
   fun c g=>c=0∧g=[.l a,.l b,.l (bG X),.l (bG Y),.i off,.l (dX F X.length Y.length 0),.l (Ue X Y out i (gR (iw F (ff a b X Y off) (wJ a b X Y) (F i f) i) k t)),.i (Uf f (gR (iw F (ff a b X Y off) (wJ a b X Y) (F i f) i) k t):Int),.i (X.length:Int),.i (i:Int)]
 | 0,k,hk=>by
  refine bq.stop (x:=0) (aa.toEq ?_) ⟨rfl,rfl⟩;have nY:=J.nY;unfold r_
  (dsimp +instances only[Aa,Ab,Ac,Ad,Ae,Af,Ag])
  simp only[nH];exact aa.n (aa.pos (by simp) (aa.some rfl))
 | t+1,k,hk=>by
  have nX:=J.nX;have nY:=J.nY;have q:k<Y.length:=by omega
  have hW:∀ i k,F i k≤10000000000*((X.length-i:Nat):Int):=fun i k=>hF.le (W:=10000000000) (by omega) (fun i k=>by
   unfold wJ jn;split<;>omega) _ i k rfl
  have b2:=hF.Js (i+1) (k+1);have b3:=hW (i+1) (k+1);have hwo : -2000000000000≤wJ a b X Y i k∧wJ a b X Y i k≤10000000000:=by
   have:=CM (J.CN hi).2 (J.CO q).2;unfold wJ;omega
  have V:((i:Int)+1).toNat=i+1:=by omega
  have e2:((k:Int)+1).toNat=k+1:=by omega
  have I:(dX F X.length Y.length 0).getD (i+1) []=[.l (d_ F Y.length (i+1) 0)]:=by rw[Jx (by omega),if_pos (fg _)]
  have M:(dX F X.length Y.length 0).getD i []=[.l (d_ F Y.length i 0)]:=by rw[Jx (by omega),if_pos (fg _)]
  have N:(d_ F Y.length (i+1) 0).getD (k+1) []=[.i (F (i+1) (k+1))]:=by rw[yr (by omega),if_pos (fg _)]
  have O:(d_ F Y.length i 0).getD f []=[.i (F i f)]:=by rw[yr (by omega),if_pos (fg _)]
  have U:∀ c:Bool,iw F (ff a b X Y off) (wJ a b X Y) (F i f) i k=c→gR (iw F (ff a b X Y off) (wJ a b X Y) (F i f) i) k (t+1)=bif c then some k else gR (iw F (ff a b X Y off) (wJ a b X Y) (F i f) i) (k+1) t:=fun c hc=>by rw[←hc]; rfl
  have go:iw F (ff a b X Y off) (wJ a b X Y) (F i f) i k=false→aa (r_ [.l a,.l b,.l (bG X),.l (bG Y),.i off,.l (dX F X.length Y.length 0),.l out,.i (f:Int),.i (i:Int),.i (k:Int),.i (X.length:Int),.i (i:Int)])
    (fun o=>o=(none,[.l a,.l b,.l (bG X),.l (bG Y),.i off,.l (dX F X.length Y.length 0),.l out,.i (f:Int),.i (i:Int),.i ((k+1:Nat):Int),.i (X.length:Int),.i (i:Int)])):=fun d=>by
   unfold r_
   (dsimp +instances only[Aa,Ab,Ac,Ad,Ae,Af,Ag])
   simp only[nH];refine aa.p ?_;refine aa.cE (Ua J off _ hi q) ?_
   (dsimp +instances only[Aa,Ab,Ac,Ad,Ae,Af,Ag])
   simp only[ba,V,e2,I,M]
   (dsimp +instances only[Aa,Ab,Ac,Ad,Ae,Af,Ag])
   simp only[N,O,u9,qy]
   (dsimp +instances only[Aa,Ab,Ac,Ad,Ae,Af,Ag])
   refine aa.test (fun h=>?_) fun h=>?_
   ·refine aa.p (aa.p (aa.p (aa.p (aa.pos (ib.2 ⟨by omega, by omega⟩) (aa.p (aa.p ?_))))))
    have B:(wJ a b X Y i k+F (i+1) (k+1)==F i f)=false:=by
     unfold iw at d
     rwa [h,iO]at d
    rw[B];refine aa.tail (P:=fun u g=>u=1∧g=[.l a,.l b,.l (bG X),.l (bG Y),.i off,.l (dX F X.length Y.length 0),.l out,.i (f:Int),.i (i:Int),.i (k:Int),.i (X.length:Int),.i (i:Int)]) ⟨_,Jz off hi q nY ho false,1,rfl,rfl,rfl⟩ (by simp) ?_;rintro _ _ ⟨rfl,rfl⟩
    (dsimp +instances only[Aa,Ab,Ac,Ad,Ae,Af,Ag])
    exact aa.neg rfl (aa.p (aa.pos (by simp) (aa.some rfl)))
   ·refine aa.tail (P := fun u g => u = 1 ∧ g = [.l a, .l b, .l (bG X), .l (bG Y), .i off, .l (dX F X.length Y.length 0), .l out, .i (f : Int), .i (i : Int), .i (k : Int), .i (X.length : Int), .i (i : Int)]) ⟨_, Jz off hi q nY ho false, 1, rfl, rfl, rfl⟩ (by simp) ?_
    rintro _ _ ⟨rfl,rfl⟩
    (dsimp +instances only[Aa,Ab,Ac,Ad,Ae,Af,Ag])
    exact aa.neg rfl (aa.p (aa.pos (by simp) (aa.some rfl)))
  cases d:iw F (ff a b X Y off) (wJ a b X Y) (F i f) i k with
  | false =>
   rw[U false d,cond_false];exact bq.next (aa.toEq (go d)) (Ug J off hF out ho hi hf t (k+1) (by omega))
  | true =>
   rw[U true d,cond_true];obtain⟨o1,o2⟩:=Jt.1 d;refine bq.stop (x:=0) (aa.toEq ?_) ⟨rfl,rfl⟩;unfold r_
   (dsimp +instances only[Aa,Ab,Ac,Ad,Ae,Af,Ag])
   simp only[nH];refine aa.p ?_;refine aa.cE (Ua J off _ hi q) ?_
   (dsimp +instances only[Aa,Ab,Ac,Ad,Ae,Af,Ag])
   simp only[ba,V,e2,I,M]
   (dsimp +instances only[Aa,Ab,Ac,Ad,Ae,Af,Ag])
   simp only[N,O,u9,qy]
   (dsimp +instances only[Aa,Ab,Ac,Ad,Ae,Af,Ag])
   refine aa.pos o1 ?_;refine aa.p (aa.p (aa.p (aa.p (aa.pos (ib.2 ⟨by omega,by omega⟩) (aa.p (aa.p ?_))))));have B:(wJ a b X Y i k+F (i+1) (k+1)==F i f)=true:=by rw[beq_iff_eq]; exact o2
   rw[B];refine aa.tail (P:=fun u g=>u=0∧g=[.l a,.l b,.l (bG X),.l (bG Y),.i off,.l (dX F X.length Y.length 0),.l (out++[nJ X Y (i,k)]),.i ((k+1:Nat):Int),.i (X.length:Int),.i (i:Int)]) ⟨_,Jz off hi q nY ho true,0,rfl,rfl,rfl⟩ (by simp) ?_;rintro _ _ ⟨rfl,rfl⟩
   (dsimp +instances only[Aa,Ab,Ac,Ad,Ae,Af,Ag])
   exact aa.pos rfl (aa.pos (by simp) (aa.some rfl))
theorem JA(J:JC a b X Y)(off:Int)(hF:eA F X.length Y.length (ff a b X Y off) (wJ a b X Y)):∀(t i f:Nat) (out:List (List G)),i+t=X.length→f≤Y.length→out.length+t≤100000 →
  bq uM [.l a,.l b,.l (bG X),.l (bG Y),.i off,.l (dX F X.length Y.length 0),.l out,.i (f:Int),.i (X.length:Int),.i (i:Int)] (t+1)
   fun c g=>c=0∧g=[.l a,.l b,.l (bG X),.l (bG Y),.i off,.l (dX F X.length Y.length 0),.l (out++(ix F Y.length (ff a b X Y off) (wJ a b X Y) t i f).map (nJ X Y))]
 | 0,i,f,out,hi,k,ho=>by
  have e:out++(ix F Y.length (ff a b X Y off) (wJ a b X Y) 0 i f).map (nJ X Y)=out:=by rw[ix,qO,dh]
  rw[e];refine bq.stop (x:=0) (aa.toEq ?_) ⟨rfl,rfl⟩;unfold uM
  (dsimp +instances only[Aa,Ab,Ac,Ad,Ae,Af,Ag])
  exact aa.n (aa.pos (by simp) (aa.some rfl))
 | t+1,i,f,out,hi,k,ho=>by
  have nX:=J.nX;have nY:=J.nY;have B:=Ug J off hF out (by omega) (f:=f) (i:=i) (by omega) k (Y.length-f) f (by omega);have step:∀ q,gR (iw F (ff a b X Y off) (wJ a b X Y) (F i f) i) f (Y.length-f)=q→aa (uM [.l a,.l b,.l (bG X),.l (bG Y),.i off,.l (dX F X.length Y.length 0),.l out,.i (f:Int),.i (X.length:Int),.i (i:Int)])
    (fun o=>o=(none,[.l a,.l b,.l (bG X),.l (bG Y),.i off,.l (dX F X.length Y.length 0),.l (Ue X Y out i q),.i (Uf f q:Int),.i (X.length:Int),.i ((i+1:Nat):Int)])):=fun q d=>by
   rw[d]at B;unfold uM
   (dsimp +instances only[Aa,Ab,Ac,Ad,Ae,Af,Ag])
   refine aa.p ?_;refine aa.loop (B.to (by omega)) (by simp) ?_;rintro _ _ ⟨rfl,rfl⟩
   (dsimp +instances only[Aa,Ab,Ac,Ad,Ae,Af,Ag])
   exact aa.p (aa.pos (by simp) (aa.some rfl))
  cases d:gR (iw F (ff a b X Y off) (wJ a b X Y) (F i f) i) f (Y.length-f)with
  | none =>
   have:=JA J off hF t (i+1) f out (by omega) k (by omega);rw[Ju d];exact bq.next (aa.toEq (step none d)) this
  | some q =>
   obtain⟨I,M,_,_⟩:=CJ d;have:=JA J off hF t (i+1) (q+1) (out++[nJ X Y (i,q)]) (by omega) (by omega) (by simp; omega);rw[CK d,dj];rw[gT]at this;exact bq.next (aa.toEq (step (some q) d)) this
theorem ajK(J:JC a b X Y)(off:Int)(hF:eA F X.length Y.length (ff a b X Y off) (wJ a b X Y)) :
  Ck [.l a,.l b,.l (bG X),.l (bG Y),.i off,.l []]=some [.l a,.l b,.l (bG X),.l (bG Y),.i off,.l (dX F X.length Y.length 0),.l ((ix F Y.length (ff a b X Y off) (wJ a b X Y) X.length 0 0).map (nJ X Y))]:=by
 have nX:=J.nX;refine aa.toEq ?_;unfold Ck
 (dsimp +instances only[Aa,Ab,Ac,Ad,Ae,Af,Ag])
 refine aa.cE (ajJ J off hF) ?_
 (dsimp +instances only[Aa,Ab,Ac,Ad,Ae,Af,Ag])
 simp only[nH];have h:=JA J off hF X.length 0 0 [] (by omega) (fg _) (by simp; omega);rw[ki]at h;refine aa.loop (h.to (by omega)) (by first|rfl|simp) ?_;rintro _ _ ⟨rfl,rfl⟩
 (dsimp +instances only[Aa,Ab,Ac,Ad,Ae,Af,Ag])
 exact aa.pos (by simp) (aa.some rfl)
end
abbrev GK:=ByteArray × Int
def dG(k:GK):List G:=[.s k.1,.i k.2]
theorem ajL(k:GK):aI [.str,.int .i64] (dG k) (dG k)=true:=by
 show ((k.1.toList==k.1.toList)&&((k.2==k.2)&&true))=true
 simp
theorem ajM{k k':GK}(h:k≠k'):aI [.str,.int .i64] (dG k) (dG k')=false:=by
 show ((k.1.toList==k'.1.toList)&&((k.2==k'.2)&&true))=false
 cases h1:k.1.toList==k'.1.toList with
 |false=>rfl
 | true =>
  cases d:k.2==k'.2 with
  |false=>rfl
  |true=>exact(h (Prod.ext (Lr (eq_of_beq h1)) (eq_of_beq d))).elim
def ke(i:Nat)(e:GK × List Nat):List G:=[.l [dG e.1],.l [[.l (bG e.2)]],.i (i:Int),.t true]
def bA:Nat→List (GK × List Nat)→List (List G)
 |_,[]=>[]
 |i,e::L=>ke i e::bA (i+1) L
theorem yt:∀(i:Nat) (L:List (GK × List Nat)),(bA i L).length=L.length
 |_,[]=>rfl
 |i,_::L=>by simp[bA,yt (i+1) L]
theorem u_:∀(i:Nat) (A B:List (GK × List Nat)),bA i (A++B)=bA i A++bA (i+A.length) B
 |i,[],B=>by simp[bA]
 | i,e::A,B=>by
  simp only[lH,bA,u_ (i+1) A B,cn];rw[show i+1+A.length=i+(A.length+1) from by omega]
def lC(k:GK)(v:Nat):List (GK × List Nat)→List (GK × List Nat)
 | []=>[(k,[v])]
 |e::L=>if e.1=k then (e.1,e.2++[v])::L else e::lC k v L
theorem CP(k:GK):∀ L:List (GK × List Nat),(∀ e∈L,e.1≠k)∨∃ A vs B,L=A++(k,vs)::B∧∀ e∈A,e.1≠k
 | []=>.inl fun e h=>by cases h
 | e::L=>by
  by_cases he:e.1=k
  ·exact .inr ⟨[],e.2,L,by rw[←he]; rfl,fun e h=>by cases h⟩
  ·rcases CP k L with h | ⟨A, vs, B, rfl, h⟩
   ·exact .inl fun x d=>by
     rcases bN.1 d with rfl|d
     ·exact he
     ·exact h x d
   ·exact .inr ⟨e::A,vs,B,rfl,fun x d=>by
     rcases bN.1 d with rfl|d
     ·exact he
     ·exact h x d⟩
theorem CQ{k:GK}(v:Nat):∀{L:List (GK × List Nat)},(∀ e∈L,e.1≠k)→lC k v L=L++[(k,[v])]
 | [],_=>rfl
 | e::L,h=>by
  rw[lC,if_neg (h e cU),CQ v fun x d=>h x (dw _ d)];rfl
theorem CR{k:GK}(v:Nat)(vs:List Nat)(B:List (GK × List Nat)):∀{A:List (GK × List Nat)},(∀ e∈A,e.1≠k)→lC k v (A++(k,vs)::B)=A++(k,vs++[v])::B
 | [],_=>by rw[ki,lC,if_pos rfl,ki]
 | e::A,h=>by
  rw[lH,lC,if_neg (h e cU),CR v vs B fun x d=>h x (dw _ d)];rfl
theorem JB(k:GK)(R:List (List G)):∀(A:List (GK × List Nat)) (i j:Nat),(∀ e∈A,e.1≠k)→bW [.str,.int .i64] (dG k) (bA i A++R) j=bW [.str,.int .i64] (dG k) R (j+A.length)
 | [],_,_,_=>rfl
 | e::A,i,j,h=>by
  rw[bA,lH,bW,show (gi (ke i e) 0).row=dG e.1 from rfl,ajM (Ne.symm (h e cU)),cond_false,JB k R A (i+1) (j+1) fun x d=>h x (dw _ d),cn];congr 1;omega
theorem Uh{k:GK}{L:List (GK × List Nat)}(h:∀ e∈L,e.1≠k)(i j:Nat):bW [.str,.int .i64] (dG k) (bA i L) j=none:=by
 have:=JB k [] L i j h;rw[dh]at this;exact this
theorem Ui{k:GK}{A:List (GK × List Nat)}(h:∀ e∈A,e.1≠k)(i:Nat)(r:List G)(hr:(gi r 0).row=dG k)(R:List (List G)):bW [.str,.int .i64] (dG k) (bA i A++r::R) 0=some (A.length,r):=by
 rw[JB k (r::R) A i 0 h,bW,hr,ajL,cond_true,di]
theorem Uj(R:List (List G)):∀(A:List (GK × List Nat)) (i j c:Nat),i+A.length≤c→fJ (c:Int) (bA i A++R) j=fJ (c:Int) R (j+A.length)
 | [],_,_,_,_=>rfl
 | e::A,i,j,c,h=>by
  rw[cn]at h;have hb:(((gi (ke i e) 2).int.toNat:Int)==(c:Int))=false:=by
   show (((i:Int).toNat:Int)==(c:Int))=false
   rw[ba,beq_eq_false_iff_ne];omega
  rw[bA,lH,fJ,hb,cond_false,Uj R A (i+1) (j+1) c (by omega),cn];congr 1;omega
theorem Uk(A:List (GK × List Nat))(r:List G)(R:List (List G))(hr:(gi r 2).int=(A.length:Int)):fJ (A.length:Int) (bA 0 A++r::R) 0=some (A.length,r):=by
 rw[Uj (r::R) A 0 0 A.length (by omega),fJ,hr,ba,show ((A.length:Int)==(A.length:Int))=true from by simp,cond_true,di]
theorem yu{α:Type}(p:List α)(x y:α)(q:List α)(n:Nat)(h:p.length=n):(p++x::q).set n y=p++y::q:=by
 subst h;rw[List.set_append_right _ _ (aD _),nU,List.set_cons_zero]
def qz(L:List (GK × List Nat)):Nat:=(L.map fun e=>e.2.length).sum
theorem ajN{L:List (GK × List Nat)}{e:GK × List Nat}(h:e∈L):e.2.length≤qz L:=by
 induction L with
 |nil=>cases h
 | cons x L d =>
  unfold qz at d⊢;rw[dj,V3];rcases bN.1 h with rfl|h
  ·omega
  ·have := d h
   omega
theorem Ul(k:GK)(v:Nat):∀ L:List (GK × List Nat),qz (lC k v L)=qz L+1
 | []=>rfl
 | e::L=>by
  have d:=Ul k v L;rw[lC];split
  ·unfold qz
   simp;omega
  ·unfold qz at d ⊢
   rw[dj,V3,dj,V3,d];omega
theorem ajO(L:List (GK × List Nat))(k:GK)(v:Nat) :
  fI [.str,.int .i64] (bA 0 L) (dG k)=true∧(eW [.str,.int .i64] (bA 0 L) (dG k)).length≤qz L ∧
   tD (oD [.str,.int .i64] (bA 0 L) (dG k) L.length) (oC [.str,.int .i64] (bA 0 L) (dG k) L.length:Nat)=true ∧
   tC (oD [.str,.int .i64] (bA 0 L) (dG k) L.length) (oC [.str,.int .i64] (bA 0 L) (dG k) L.length:Nat) (eW [.str,.int .i64] (bA 0 L) (dG k)++[[.i (v:Int)]])=bA 0 (lC k v L) ∧
   dM [.str,.int .i64] (bA 0 L) (dG k) L.length=(lC k v L).length:=by
 rcases CP k L with h1|⟨A,vs,B,rfl,N⟩
 ·have d := Uh h1 0 0
  have q:eW [.str,.int .i64] (bA 0 L) (dG k)=[]:=by unfold eW; rw[d]
  have I:oD [.str,.int .i64] (bA 0 L) (dG k) L.length=bA 0 L++[[.l [dG k],.l [[.l []]],.i (L.length:Int),.t false]]:=by unfold oD; rw[d]
  have J:oC [.str,.int .i64] (bA 0 L) (dG k) L.length=L.length:=by unfold oC; rw[d]
  have M:=Uk L [.l [dG k],.l [[.l []]],.i (L.length:Int),.t false] [] rfl;refine⟨by unfold fI; rw[d],by rw[q]; simp,?_,?_,?_⟩
  ·rw [I, J]
   unfold tD;rw[M];rfl
  ·rw [I, J, q, CQ v h1, u_]
   unfold tC;rw[M];simp only[];rw[yu _ _ _ _ _ (yt 0 L),di];rfl
  ·rw [CQ v h1]
   unfold dM du;rw[d];simp
 ·have d:bW [.str,.int .i64] (dG k) (bA 0 (A++(k,vs)::B)) 0=some (A.length,ke A.length (k,vs)):=by
   rw[u_,bA,di];exact Ui N 0 (ke A.length (k,vs)) rfl _
  have q:eW [.str,.int .i64] (bA 0 (A++(k,vs)::B)) (dG k)=bG vs:=by unfold eW; rw[d]; rfl
  have I:oD [.str,.int .i64] (bA 0 (A++(k,vs)::B)) (dG k) (A++(k,vs)::B).length=bA 0 A++[.l [dG k],.l [[.l (bG vs)]],.i (A.length:Int),.t false]::bA (A.length+1) B:=by
   unfold oD;rw[d,u_,bA,di];exact yu _ _ _ _ _ (yt 0 A)
  have J:oC [.str,.int .i64] (bA 0 (A++(k,vs)::B)) (dG k) (A++(k,vs)::B).length=A.length:=by
   unfold oC;rw[d];show ((A.length:Int).toNat)=A.length
   exact ba _
  have M:=Uk A [.l [dG k],.l [[.l (bG vs)]],.i (A.length:Int),.t false] (bA (A.length+1) B) rfl;refine⟨by unfold fI; rw[d]; rfl,by rw[q,nH]; exact ajN (e:=(k,vs)) (by simp),?_,?_,?_⟩
  ·rw [I, J]
   unfold tD;rw[M];rfl
  ·rw [I, J, q, CR v vs B N, u_, bA, di]
   unfold tC;rw[M];simp only[];rw[yu _ _ _ _ _ (yt 0 A)];have O:bG vs++[[G.i (v:Int)]]=bG (vs++[v]):=by unfold bG; rw[iP]; rfl
   rw[O];rfl
  ·rw [CR v vs B N]
   unfold dM du;rw[d];simp
def cK(r:List G):GK:=(aR r,lB r)
def mw(l:List (List G))(s:ByteArray)(i:Nat):Bool:=(bB (l.getD i [])).toList==s.toList
def oZ(l:List (List G))(s:ByteArray)(L:List (GK × List Nat))(i:Nat):List (GK × List Nat):=bif mw l s i then lC (cK (l.getD i [])) i L else L
def nK(l:List (List G))(s:ByteArray)(n:Nat):List (GK × List Nat):=(dI n).foldl (oZ l s) []
theorem Um(l:List (List G))(s:ByteArray)(n:Nat):nK l s (n+1)=oZ l s (nK l s n) n:=by
 unfold nK;rw[Dh,ze];rfl
def gq(l:List (List G))(s:ByteArray)(k:GK)(n:Nat):List Nat:=(dI n).filter fun i=>mw l s i&&decide (cK (l.getD i [])=k)
theorem JD(l:List (List G))(s:ByteArray)(k:GK)(n:Nat):gq l s k (n+1)=gq l s k n++if mw l s n=true∧cK (l.getD n [])=k then [n] else []:=by
 unfold gq;rw[Dh,amm];congr 1;by_cases h1:mw l s n=true
 ·by_cases d : cK (l.getD n []) = k
  ·rw[if_pos ⟨h1,d⟩,Kw,if_pos (by rw[h1,iO,decide_eq_true_eq]; exact d),V4]
  ·rw[if_neg fun e=>d e.2,Kw,if_neg (by rw[h1,iO,decide_eq_true_eq]; exact d),V4]
 ·rw[if_neg fun e=>h1 e.1,Kw,if_neg (by rw[az]; exact fun e=>h1 e.1),V4]
structure GI (l:List (List G)) (s:ByteArray) (n:Nat) (L:List (GK × List Nat)):Prop where
 JE:qz L≤n
 len:L.length≤n
 nd:(L.map (·.1)).Nodup
 sq:∀ e∈L,e.2=gq l s e.1 n∧e.2≠[]
 all:∀ k,gq l s k n≠[]→∃ e∈L,e.1=k
theorem GI.zero(l:List (List G))(s:ByteArray):GI l s 0 []:=⟨aD _,aD _,by simp,by simp,fun k h=>(h rfl).elim⟩
theorem GI.step{l:List (List G)}{s:ByteArray}{n:Nat}{L:List (GK × List Nat)}(h:GI l s n L):GI l s (n+1) (oZ l s L n):=by
 unfold oZ;cases hw:mw l s n with
 | false =>
  have e:∀ k,gq l s k (n+1)=gq l s k n:=fun k=>by rw[JD,if_neg (by rw[hw]; simp),dh]
  exact⟨V5 h.JE,V5 h.len,h.nd,fun x d=>by rw[e]; exact h.sq x d,fun k hk=>by rw[e]at hk; exact h.all k hk⟩
 | true =>
  rw[cond_true];have M:gq l s (cK (l.getD n [])) (n+1)=gq l s (cK (l.getD n [])) n++[n]:=by rw[JD,if_pos ⟨hw,rfl⟩]
  have I:∀ k,cK (l.getD n [])≠k→gq l s k (n+1)=gq l s k n:=fun k hk=>by rw[JD,if_neg (fun e=>hk e.2),dh]
  have N:=Ul (cK (l.getD n [])) n L;have h3:=h.JE;have U:=h.len;rcases CP (cK (l.getD n [])) L with h1|⟨A,vs,B,rfl,O⟩
  ·rw [CQ n h1] at N ⊢
   refine⟨by omega,by simp; omega,?_,fun x d=>?_,fun k hk=>?_⟩
   ·rw [iP, V6]
    refine⟨h.nd,by simp,fun a ha b hb=>?_⟩;obtain⟨e,he,rfl⟩:=cF.1 ha;simp at hb;subst hb;exact h1 e he
   ·rcases cQ.1 d with d | d
    ·rw [I x.1 (Ne.symm (h1 x d))]
     exact h.sq x d
    ·have d := po.1 d
     subst d;show [n]=gq l s (cK (l.getD n [])) (n+1)∧[n]≠[]
     rw[M];have:gq l s (cK (l.getD n [])) n=[]:=by
      cases V:gq l s (cK (l.getD n [])) n with
      |nil=>rfl
      | cons y ys =>
       obtain⟨e,he,hk⟩:=h.all (cK (l.getD n [])) (by rw[V]; simp);exact(h1 e he hk).elim
     rw[this];simp
   ·by_cases e : cK (l.getD n []) = k
    ·exact⟨_,vt _ cU,e⟩
    ·rw [I k e] at hk
     obtain⟨x,d,q⟩:=h.all k hk;exact⟨x,qN _ d,q⟩
  ·rw [CR n vs B O] at N ⊢
   have J:=h.nd;rw[iP,dj]at J;have W:∀ e∈B,e.1≠cK (l.getD n []):=fun e he hk=>by
    have:=(V6.1 J).2.1;rw[lL]at this;exact this.1 (hk▸cF.2 ⟨e,he,rfl⟩)
   refine⟨by omega,by simp at U⊢; omega,?_,fun x d=>?_,fun k hk=>?_⟩
   ·rw [iP, dj]
    exact J
   ·rcases cQ.1 d with d | d
    ·rw [I x.1 (Ne.symm (O x d))]
     exact h.sq x (qN _ d)
    ·rcases bN.1 d with rfl | d
     ·have := h.sq (cK (l.getD n []), vs) (by simp)
      simp only at this⊢;rw[M,←this.1];simp
     ·rw [I x.1 (Ne.symm (W x d))]
      exact h.sq x (vt _ (dw _ d))
   ·by_cases e : cK (l.getD n []) = k
    ·exact⟨_,vt _ cU,e⟩
    ·rw [I k e] at hk
     obtain⟨x,d,q⟩:=h.all k hk;rcases cQ.1 d with d|d
     ·exact⟨x,qN _ d,q⟩
     ·rcases bN.1 d with rfl | d
      ·exact(e q).elim
      ·exact⟨x,vt _ (dw _ d),q⟩
theorem GI.to(l:List (List G))(s:ByteArray):∀ n,GI l s n (nK l s n)
 |0=>GI.zero l s
 | n+1=>by
  rw[Um];exact(GI.to l s n).step
def gr(l:List (List G))(s:ByteArray):List (GK × List Nat):=nK l s l.length
theorem ajP(l:List (List G))(hn:l.length≤100000)(s:ByteArray) :
  gN uI [.l [],.i 0,.s s,.l l,.i (l.length:Int),.i 0] fun c g=>c=0∧g=[.l (bA 0 (gr l s)),.i ((gr l s).length:Int)]:=by
 have r:=Bv (st:=uI) (σ:=List (GK × List Nat)) (fun L i=>[.l (bA 0 L),.i (L.length:Int),.s s,.l l,.i (l.length:Int),.i (i:Int)]) l (fun L=>(0,[.l (bA 0 L),.i (L.length:Int)]))
  (fun L i=>L=nK l s i) [] (by omega) rfl
  (fun L i z d hi q hm M => by
   have B:=GI.to l s i;rw[←d]at B;have N:=B.JE;have k:oZ l s L i=nK l s (i+1):=by rw[Um,d]
   obtain⟨I,a2,a3,a4,a5⟩:=ajO L (cK z) i;unfold uI
   (dsimp +instances only[Aa,Ab,Ac,Ad,Ae,Af,Ag])
   simp only[ba,q];refine aa.p (aa.p ?_);have J:([.s (gi z 2).str,.i (gi z 1).int]:List G)=dG (cK z):=rfl;rw[J,a4,a5];refine aa.test (fun h=>?_) fun h=>?_
   ·have e:oZ l s L i=lC (cK z) i L:=by
     unfold oZ mw;rw[q,show ((bB z).toList==s.toList)=true from h,cond_true]
    rw[e]at k;exact aa.pos I (aa.pos (by simp; omega) (aa.pos (by rw[a3]; simp) (aa.p (aa.some ⟨_,rfl,k⟩))))
   ·have e:oZ l s L i=L:=by
     unfold oZ mw;rw[q,show ((bB z).toList==s.toList)=false from h,cond_false]
    rw[e]at k;exact aa.p (aa.some ⟨L,rfl,k⟩))
  (fun L d => by
   unfold uI
   (dsimp +instances only[Aa,Ab,Ac,Ad,Ae,Af,Ag])
   simp only[ba];exact aa.n (aa.some rfl))
 refine r.mono ?_;rintro c g ⟨L,d,rfl,rfl⟩;exact⟨rfl,by rw[d]; rfl⟩
theorem Un:∀(i:Nat) (L:List (GK × List Nat)),A8 (bA i L)=true
 |_,[]=>rfl
 | i,e::L=>by
  have:=Un (i+1) L;unfold A8 at this⊢;rw[bA,lJ,this];rfl
theorem Uo(l:List (List G))(hn:l.length≤100000)(s:ByteArray):xX [.l l,.s s]=some [.l (bA 0 (gr l s)),.i ((gr l s).length:Int)]:=by
 refine aa.toEq ?_;unfold xX
 (dsimp +instances only[Aa,Ab,Ac,Ad,Ae,Af,Ag])
 refine aa.loop (ajP l hn s) (by first|rfl|simp) ?_;rintro _ _ ⟨rfl,rfl⟩
 (dsimp +instances only[Aa,Ab,Ac,Ad,Ae,Af,Ag])
 simp only[ba];exact aa.pos (by rw[Un]; rfl) (aa.some rfl)
theorem ajQ(l:List (List G))(s:ByteArray)(k:GK):bZ [.str,.int .i64] (bA 0 (gr l s)) (dG k) [.l []]=[.l (bG (gq l s k l.length))]:=by
 have q:=GI.to l s l.length;show bZ [.str,.int .i64] (bA 0 (nK l s l.length)) (dG k) [.l []]=_
 rcases CP k (nK l s l.length)with h1|⟨A,vs,B,he,I⟩
 ·have:gq l s k l.length=[]:=by
   cases d:gq l s k l.length with
   |nil=>rfl
   | cons y M =>
    obtain⟨e,he,hk⟩:=q.all k (by rw[d]; simp);exact(h1 e he hk).elim
  unfold bZ;rw[Uh h1,this];rfl
 ·have J:bW [.str,.int .i64] (dG k) (bA 0 (nK l s l.length)) 0=some (A.length,ke A.length (k,vs)):=by
   rw[he,u_,bA,di];exact Ui I 0 (ke A.length (k,vs)) rfl _
  have d:=q.sq (k,vs) (by rw[he]; simp);unfold bZ;rw[J];show [G.l (bG vs)]=_
  rw[show vs=gq l s k l.length from d.1]
def CS(A B:List (List G))(off:Int)(X Y:List Nat):List (Nat × Nat):=ix (oY X.length Y.length (ff A B X Y off) (wJ A B X Y)) Y.length (ff A B X Y off) (wJ A B X Y) X.length 0 0
def cS(A:List (List G))(d:ByteArray)(k:GK):List Nat:=gq A d k A.length
def kf(A B:List (List G))(ac d:ByteArray)(off:Int)(k:GK):List (List G):=(CS A B off (cS A d k) (cS B ac k)).map (nJ (cS A d k) (cS B ac k))
def iL(A B:List (List G))(ac d:ByteArray)(off:Int):List (List G):=((gr A d).map fun e=>kf A B ac d off e.1).flatten
def my(r s:List G):Int:=ew (gi r 0).int (gi s 0).int
def jN(A B:List (List G))(ac d:ByteArray)(off:Int):List (List G):=eu (bM my) (iL A B ac d off)
theorem mz{A:List (List G)}{s:ByteArray}{k:GK}{i:Nat}:i∈cS A s k↔i<A.length∧mw A s i=true∧cK (A.getD i [])=k:=by
 unfold cS gq;rw[nZ,fG,az,decide_eq_true_eq]
theorem Up(A:List (List G))(s:ByteArray)(k:GK):(cS A s k).length≤A.length:=by
 unfold cS gq;have:=amn (fun i=>mw A s i&&decide (cK (A.getD i [])=k)) (dI A.length)
 rwa [vm]at this
theorem ajR(A:List (List G))(s:ByteArray)(k:GK):(cS A s k).Pairwise (·<·):=(List.pairwise_lt_range).filter _
structure iy (A B:List (List G)):Prop where
 ha:∀ z∈A,iJ z
 hb:∀ z∈B,iJ z
 na:A.length≤1000
 nb:B.length≤1000
theorem iy.flip{A B:List (List G)}(h:iy A B):iy B A:=⟨h.hb,h.ha,h.nb,h.na⟩
theorem iy.jc{A B:List (List G)}(h:iy A B)(ac d:ByteArray)(k:GK):JC A B (cS A d k) (cS B ac k):=by
 have h1:=h.na;have q:=h.nb;have I:=Up A d k;have J:=Up B ac k;exact⟨h.ha,h.hb,fun i hi=>(mz.1 hi).1,fun i hi=>(mz.1 hi).1,by omega,by omega,by omega,by omega⟩
theorem yv{A B:List (List G)}{off:Int}{X Y:List Nat}{x:Nat × Nat}(h:x∈CS A B off X Y):x.1<X.length∧x.2<Y.length∧ff A B X Y off x.1 x.2=true:=by
 obtain⟨_,b,_,d,e⟩:=CL _ _ _ x h;exact⟨by omega,d,e⟩
theorem ajS(A B:List (List G))(off:Int)(X Y:List Nat):(CS A B off X Y).length≤X.length:=by
 have key:∀(F:Nat→Nat→Int) (m:Nat) (ok:Nat→Nat→Bool) (w:Nat→Nat→Int) (t i f:Nat),(ix F m ok w t i f).length≤t:=by
  intro F m ok w t
  induction t with
  |zero=>intro i f; exact aD _
  | succ t d =>
   intro i f;rw[ix];split
   ·rw [cn]
    exact Nat.succ_le_succ (d _ _)
   ·exact V5 (d _ _)
 exact key _ _ _ _ _ _ _
def JF(r:List G):Prop:=∃ i k:Nat,r=[.i (i:Int),.i (k:Int)]∧i≤100000∧k≤100000
theorem ajT:rW uN JF my:=by
 rintro _ _ ⟨i,k,rfl,h1,q⟩ ⟨d,k',rfl,B,I⟩;refine⟨(i:Int)-(d:Int),?_,?_⟩
 ·refine aa.toEq ?_
  unfold uN
  (dsimp +instances only[Aa,Ab,Ac,Ad,Ae,Af,Ag])
  exact aa.pos (ib.2 ⟨by omega,by omega⟩) (aa.some rfl)
 ·show (i : Int) - (d : Int) < 0 ↔ ew (i : Int) (d : Int) < 0
  rw[se];omega
theorem JG:fk (bM my) (fun _=>True):=Jg (fun a b=>jM.flip _ _) fun a b d h1 k=>jM.le _ _ _ h1 k
theorem JH{A B:List (List G)}(h:iy A B){ac d:ByteArray}{off:Int}{k:GK}{r:List G}(hr:r∈kf A B ac d off k) :
  ∃ i j:Nat,r=[.i (i:Int),.i (j:Int)]∧i∈cS A d k∧j∈cS B ac k∧qx off (A.getD i []) (B.getD j [])=true:=by
 obtain⟨x,q,rfl⟩:=cF.1 hr;obtain⟨a,b,c⟩:=yv q;exact⟨_,_,rfl,nI a,nI b,c⟩
theorem JI{A B:List (List G)}(h:iy A B){ac d:ByteArray}{off:Int}{r:List G}(hr:r∈iL A B ac d off) :
  ∃(k:GK) (i j:Nat),r=[.i (i:Int),.i (j:Int)]∧i∈cS A d k∧j∈cS B ac k∧qx off (A.getD i []) (B.getD j [])=true:=by
 obtain⟨l,q,hr⟩:=Kj.1 hr;obtain⟨e,_,rfl⟩:=cF.1 q;obtain⟨i,j,h1⟩:=JH h hr;exact⟨_,i,j,h1⟩
theorem JJ{A B:List (List G)}(h:iy A B){ac d:ByteArray}{off:Int}:∀ r∈iL A B ac d off,JF r:=fun r hr=>by
 obtain⟨k,i,j,rfl,h1,q,_⟩:=JI h hr;have:=(mz.1 h1).1;have:=(mz.1 q).1;have:=h.na;have:=h.nb;exact⟨i,j,rfl,by omega,by omega⟩
theorem JK{A B:List (List G)}(h:iy A B)(ac d:ByteArray)(off:Int):(iL A B ac d off).Pairwise fun a b=>(gi a 0).int≠(gi b 0).int:=by
 have O:=GI.to A d A.length;unfold iL;rw[List.pairwise_flatten];refine⟨fun l U=>?_,?_⟩
 ·obtain ⟨e, _, rfl⟩ := cF.1 U
  unfold kf;rw[pr];refine(Jv _ _ _).imp_of_mem fun {x y} k q M he=>?_;obtain⟨I,_,_⟩:=yv (A:=A) (B:=B) (off:=off) k;obtain⟨b1,_,_⟩:=yv (A:=A) (B:=B) (off:=off) q;have he:(((cS A d e.1).getD x.1 0:Nat):Int)=(((cS A d e.1).getD y.1 0:Nat):Int):=he;have hr:=y8.1 (ajR A d e.1) x.1 y.1 I b1 M.1;rw[bz,bf I,bz,bf b1]at he;simp only[ga]at he;omega
 ·rw [pr]
  have N:(gr A d).Pairwise fun e e'=>e.1≠e'.1:=by
   have:=O.nd;unfold Dm at this
   rwa [pr]at this
  refine N.imp fun {e e'} aA x k y q he=>?_;obtain⟨i,j,rfl,h1,_⟩:=JH h k;obtain⟨J,W,rfl,V,_⟩:=JH h q;have he:(i:Int)=(J:Int):=he;have he:i=J:=by omega
  subst he;exact aA ((mz.1 h1).2.2.symm.trans (mz.1 V).2.2)
theorem Uq{A B:List (List G)}(h:iy A B)(ac d:ByteArray)(off:Int):∀ a∈iL A B ac d off,∀ b∈iL A B ac d off,bM my a b=false→bM my b a=false→a=b:=by
 intro a ha b hb h1 k;unfold bM my at h1 k;rw[dD,decide_eq_false_iff_not,se]at h1 k;have he:(gi a 0).int=(gi b 0).int:=by omega
 obtain⟨i,hi,rfl⟩:=mC ha;obtain⟨j,q,rfl⟩:=mC hb;have I:=y8.1 (JK h ac d off);rcases Dk i j with g|g|g
 ·exact(I i j hi q g he).elim
 ·subst g; rfl
 ·exact(I j i q hi g he.symm).elim
theorem ajU{A B:List (List G)}(h:iy A B)(ac d:ByteArray)(off:Int){out:List (List G)}(k:out.Perm (iL A B ac d off))(hn:out.length<100000):x6 [.l out]=some [.l (jN A B ac d off)]:=by
 have h1:=OP (C:=uN) (Q:=JF) ajT (JG.mono fun _ _=>trivial) out (fun y q=>JJ h y (k.mem_iff.1 q)) hn fun a ha b hb=>Uq h ac d off a (k.mem_iff.1 ha) b (k.mem_iff.1 hb);unfold x6;rw[h1];have e:eu (bM my) (iL A B ac d off)=eu (bM my) out:=aaV JG k.symm (fun _ _=>trivial) (Uq h ac d off);rw[←e];rfl
def CT(r:List G):GK:=((gi (gi r 0).row 0).str,(gi (gi r 0).row 1).int)
theorem Ur:∀(i:Nat) (L:List (GK × List Nat)) (r:List G),r∈bA i L→∃(j:Nat) (e:GK × List Nat),e∈L∧r=ke j e
 |_,[],_,h=>by cases h
 | i,e::L,r,h=>by
  rcases bN.1 h with rfl|h
  ·exact⟨i,e,cU,rfl⟩
  ·obtain ⟨j, e', h1, d⟩ := Ur (i + 1) L r h
   exact⟨j,e',dw _ h1,d⟩
theorem Us{β:Type}(f:GK→β):∀(i:Nat) (L:List (GK × List Nat)),(bA i L).map (fun r=>f (CT r))=L.map fun e=>f e.1
 |_,[]=>rfl
 | i,e::L=>by
  simp only[bA,dj,Us f (i+1) L];rfl
theorem Ut:∀(i:Nat) (L:List (GK × List Nat)),(bA i L).map da=(dI L.length).map (i+·)
 |_,[]=>rfl
 | i,e::L=>by
  simp only[bA,dj,Ut (i+1) L,cn,List.range_succ_eq_map,mF];rw[show da (ke i e)=i from by simp[da,ke,gi,G.int]];congr 1;refine List.map_congr_left fun x _=>?_;simp only[Dg];omega
theorem JL:∀ l:List Nat,l.Nodup→nodupB l=true
 | [],_=>rfl
 | a::l,d=>by
  obtain⟨h1,k⟩:=lL.1 d;simp only[nodupB,JL l k,eS,Bool.not_eq_true'];cases q:l.any (ab a)with
  |false=>rfl
  | true =>
   obtain⟨x,B,e⟩:=iQ.1 q;rw[bk e]at h1;exact(h1 B).elim
theorem ajV(L:List (GK × List Nat)):ls (bA 0 L) L.length=true:=by
 have hb:(bA 0 L).map da=dI L.length:=by
  rw[Ut];simp
 unfold ls;rw[hb,az];refine⟨JL _ List.nodup_range,?_⟩;rw[dB];intro r hr;have:da r∈(bA 0 L).map da:=cF.2 ⟨r,hr,rfl⟩;rw[hb,fG]at this;simpa using this
theorem Uu{st:List G→List G→Option (List G)}{a7:List G→Nat}{r:List G}{q:List (List G)}{d d':List G}(h:st r d=some d')(ha:a7 d'=a7 d):cO st a7 (r::q) d=cO st a7 q d':=by
 simp only[cO,h];rw[ha,show ab (a7 d) (a7 d)=true from mJ _,cond_true]
theorem Uv{A B:List (List G)}(h:iy A B)(ac k:ByteArray)(off:Int)(I a7:Nat):∀(q out:List (List G)),(∀ r∈q,r∈bA 0 (gr A k))→out.length+1000*q.length≤1000000 →
  cO Cl (fun d=>(gi d 8).int.toNat) q [.s ac,.l A,.s k,.l B,.l (bA 0 (gr B ac)),.i (I:Int),.l out,.i off,.i (a7:Int)] =
   some [.s ac,.l A,.s k,.l B,.l (bA 0 (gr B ac)),.i (I:Int),.l (out++(q.map fun r=>kf A B ac k off (CT r)).flatten),.i off,.i (a7:Int)]
 | [],out,_,_=>by simp[cO]
 | r::q,out,M,N=>by
  simp only[cn]at N;obtain⟨j,e,he,rfl⟩:=Ur 0 _ r (M r cU);have O:=(GI.to A k A.length).sq e he;have hk:CT (ke j e)=e.1:=rfl;have hX:e.2=cS A k e.1:=O.1;have J:=h.jc ac k e.1;have hlen:(kf A B ac k off e.1).length≤1000:=by
   unfold kf;rw[cD];exact o9 (ajS _ _ _ _ _) J.nX
  have st:Cl (ke j e) [.s ac,.l A,.s k,.l B,.l (bA 0 (gr B ac)),.i (I:Int),.l out,.i off,.i (a7:Int)]=some [.s ac,.l A,.s k,.l B,.l (bA 0 (gr B ac)),.i (I:Int),.l (out++kf A B ac k off e.1),.i off,.i (a7:Int)]:=by
   have U:(gi (gi (ke j e) 1).row 0).rows=bG e.2:=rfl;have V:aU [.str,.int .i64] (gi (ke j e) 0).row=dG e.1:=rfl;refine aa.toEq ?_;unfold Cl;rw[U,V]
   (dsimp +instances only[Aa,Ab,Ac,Ad,Ae,Af,Ag])
   rw[ajQ,hX]
   (dsimp +instances only[Aa,Ab,Ac,Ad,Ae,Af,Ag])
   refine aa.cE (ajK J off (T9 _ _ _ _)) ?_
   (dsimp +instances only[Aa,Ab,Ac,Ad,Ae,Af,Ag])
   simp only[ba];exact aa.pos (by
    show ((ab out.length out.length)&&decide (out.length+(kf A B ac k off e.1).length≤1048576))=true
    rw[mJ,iO,decide_eq_true_eq];omega) (aa.pos (by rw[mJ]; rfl) (aa.some rfl))
  rw[Uu st rfl,Uv h ac k off I a7 q _ (fun x W=>M x (dw _ W)) (by rw[eD]; omega)];rw[dj,List.flatten_cons,hk,gT]
theorem CU:∀(n:Nat) (l:List Nat),l.Nodup→(∀ x∈l,x<n)→l.length≤n
 | 0,l,_,h=>by
  cases l with
  |nil=>exact aD _
  |cons x l=>exact absurd (h x cU) (by omega)
 | n+1,l,hn,h=>by
  by_cases hm:n∈l
  ·have h1:=CU n (l.erase n) (hn.erase n) fun x d=>by
    have k:=h x (List.mem_of_mem_erase d);have q:x≠n:=fun e=>by
     subst e;exact(List.Nodup.not_mem_erase hn) d
    omega
   rw[List.length_erase_of_mem hm]at h1;omega
  ·have:=CU n l hn fun x d=>by
    have k:=h x d;have q:x≠n:=fun e=>hm (e▸d);omega
   omega
theorem ajW{A B:List (List G)}(h:iy A B)(ac d:ByteArray)(off:Int) :
  IG [.s ac,.l A,.s d,.l B,.l (bA 0 (gr A d)),.i ((gr A d).length:Int),.l (bA 0 (gr B ac)),.i ((gr B ac).length:Int),.l [],.i off]=some (some 0,[.l (jN A B ac d off)]):=by
 have U:=GI.to A d A.length;have V:=U.len;have na:=h.na;show jG Cm Cn (bA 0 (gr A d)) (((gr A d).length:Int).toNat) _=_
 rw[ba];refine ON (ajV _) fun b p I=>⟨rfl,?_⟩
 have hpn:p.length≤1000:=by
  have:=I.length_eq;rw[yt]at this;have:(gr A d).length≤A.length:=V;omega
 have J:((p.map fun r=>kf A B ac d off (CT r)).flatten).Perm (iL A B ac d off):=by
  unfold iL;rw[←Us (fun k=>kf A B ac d off k) 0 (gr A d)];exact(I.map _).flatten
 have hall:(iL A B ac d off).length≤1000:=by
  have O:((iL A B ac d off).map fun r=>(gi r 0).int.toNat).Nodup:=by
   unfold Dm;rw[pr];refine(JK h ac d off).imp_of_mem fun {x y} q W aA he=>aA ?_;obtain⟨i,k,rfl,_⟩:=JJ h x q;obtain⟨M,k',rfl,_⟩:=JJ h y W;have he:((i:Int)).toNat=((M:Int)).toNat:=he;show (i:Int)=(M:Int)
   omega
  have N:((iL A B ac d off).map fun r=>(gi r 0).int.toNat) ⊆ dI A.length:=by
   intro x q;obtain⟨r,hr,rfl⟩:=cF.1 q;obtain⟨k,i,j,rfl,h1,_⟩:=JI h hr;rw[fG];exact(mz.1 h1).1
  have:=CU A.length _ O fun x q=>fG.1 (N q);rw[cD]at this;omega
 refine⟨_,Uv h ac d off (gr B ac).length b p [] (fun r hr=>I.mem_iff.1 hr) (by simp; omega),?_⟩;rw[ki];refine aa.toEq ?_;unfold Cn
 (dsimp +instances only[Aa,Ab,Ac,Ad,Ae,Af,Ag])
 have hl:=J.length_eq;refine aa.nt (aa.eq (ajU h ac d off J (by omega))) (by simp) ?_;rintro _ rfl
 (dsimp +instances only[Aa,Ab,Ac,Ad,Ae,Af,Ag])
 refine aa.pos ?_ (aa.some rfl);rw[hl];unfold jN;rw[BA,mJ];rfl
theorem ajX{A B:List (List G)}(h:iy A B)(ac d:ByteArray)(off:Int):Co [.l [[.s ac,.l A]],.l [[.s d,.l B]],.i off]=some [.l (jN A B ac d off)]:=by
 have na:=h.na;have nb:=h.nb;refine aa.toEq ?_;unfold Co
 (dsimp +instances only[Aa,Ab,Ac,Ad,Ae,Af,Ag])
 refine aa.cE (Uo A (by omega) d) ?_
 (dsimp +instances only[Aa,Ab,Ac,Ad,Ae,Af,Ag])
 refine aa.cE (Uo B (by omega) ac) ?_
 (dsimp +instances only[Aa,Ab,Ac,Ad,Ae,Af,Ag])
 simp only[ba];refine aa.tail (P:=fun u g=>u=0∧g=[.l (jN A B ac d off)]) ⟨_,ajW h ac d off,0,rfl,rfl,rfl⟩ (by first|rfl|simp) ?_;rintro _ _ ⟨rfl,rfl⟩
 (dsimp +instances only[Aa,Ab,Ac,Ad,Ae,Af,Ag])
 exact aa.pos (by simp) (aa.some rfl)
theorem Uw{off:Int}{p q:List G}:qx off p q=true↔aR p=aR q∧lB p=lB q∧jn p q≤off:=by
 unfold qx;rw[oW,az,az,eV,decide_eq_true_eq,decide_eq_true_eq,beq_iff_eq]
theorem Ux{A:List (List G)}{s:ByteArray}{k:GK}{i:Nat}(hi:i<(cS A s k).length):aR (iK A (cS A s k) i)=k.1∧lB (iK A (cS A s k) i)=k.2:=by
 have h:=(mz.1 (nI (z:=0) hi)).2.2;unfold cK at h;rw[Prod.ext_iff]at h;exact h
theorem Uy{A B:List (List G)}{ac d:ByteArray}{off:Int}{r:List G}:r∈iL A B ac d off↔∃ k,r∈kf A B ac d off k:=by
 constructor
 ·intro h
  obtain⟨l,I,hr⟩:=Kj.1 h;obtain⟨e,_,rfl⟩:=cF.1 I;exact⟨_,hr⟩
 ·rintro ⟨k, h⟩
  have h':=h;unfold kf at h';obtain⟨x,J,_⟩:=cF.1 h';have h1:=(yv J).1;obtain⟨e,he,rfl⟩:=(GI.to A d A.length).all k (by
   intro q;have q:cS A d k=[]:=q;rw[q]at h1;simp at h1)
  exact Kj.2 ⟨_,cF.2 ⟨e,he,rfl⟩,h⟩
theorem CV(A B:List (List G))(ac d:ByteArray)(off:Int):(jN A B ac d off).Perm (iL A B ac d off):=ny (lt:=bM my) _
theorem ajY{A B:List (List G)}(h:iy A B)(ac d:ByteArray)(off:Int):(jN A B ac d off).Pairwise fun a b=>(gi a 0).int<(gi b 0).int:=by
 have h1:=xo (lt:=bM my) JG (l:=iL A B ac d off) (fun _ _=>trivial);have k:(jN A B ac d off).Pairwise fun a b=>(gi a 0).int≠(gi b 0).int:=(JK h ac d off).perm (CV A B ac d off).symm (fun aA e=>aA e.symm);refine h1.imp₂ (fun {a b} g1 g2=>?_) k;unfold bM my at g1;rw[dD,decide_eq_false_iff_not,se]at g1;omega
theorem CW{A B:List (List G)}(h:iy A B){ac d:ByteArray}{off:Int}{r:List G}(hr:r∈jN A B ac d off) :
  ∃ i j:Nat,r=[.i (i:Int),.i (j:Int)]∧i<A.length∧j<B.length∧mw A d i=true∧mw B ac j=true∧qx off (A.getD i []) (B.getD j [])=true:=by
 obtain⟨k,i,j,rfl,h1,I,J⟩:=JI h ((CV A B ac d off).mem_iff.1 hr);have q:=mz.1 h1;have a2:=mz.1 I;exact⟨i,j,rfl,q.1,a2.1,q.2.1,a2.2.1,J⟩
theorem ajZ{A B:List (List G)}(h:iy A B)(ac d:ByteArray)(off:Int):(jN A B ac d off).length≤A.length:=by
 have q:((jN A B ac d off).map fun r=>(gi r 0).int.toNat).Nodup:=by
  unfold Dm;rw[pr];refine((ajY h ac d off).imp_of_mem ?_);intro a b ha hb I e;obtain⟨i,j,rfl,_⟩:=CW h ha;obtain⟨k,M,rfl,_⟩:=CW h hb;have N:((i:Int)).toNat=((k:Int)).toNat:=e;have e':i=k:=by omega
  subst e';exact absurd I (Int.lt_irrefl _)
 have:=CU A.length _ q fun x J=>by
  obtain⟨r,hr,rfl⟩:=cF.1 J;obtain⟨i,j,rfl,hi,_⟩:=CW h hr;show ((i:Int).toNat)<_
  rwa [ba]
 simpa using this
theorem nL(ks:List Kd)(r:List G)(rs:List (List G))(key:List G):eW ks (r::rs) key=bif aI ks key (gi r 0).row then iD r else eW ks rs key:=by
 unfold eW;simp only[bW];cases aI ks key (gi r 0).row with
 |true=>rfl
 | false =>
  simp only[cond_false];rw[oO ks key rs (0+1)];cases bW ks key rs 0<;>rfl
theorem nM(ks:List Kd)(r:List G)(rs:List (List G))(key:List G):fI ks (r::rs) key=bif aI ks key (gi r 0).row then (gi r 3).bool else fI ks rs key:=by
 unfold fI;simp only[bW];cases aI ks key (gi r 0).row with
 |true=>rfl
 | false =>
  simp only[cond_false];rw[oO ks key rs (0+1)];cases bW ks key rs 0<;>rfl
theorem yw(ks:List Kd)(r:List G)(rs:List (List G))(key:List G):jB ks (r::rs) key=bif aI ks key (gi r 0).row then [gi r 0,gi r 1,gi r 2,.t false]::rs else r::jB ks rs key:=by
 unfold jB;simp only[bW];cases aI ks key (gi r 0).row with
 |true=>rfl
 | false =>
  simp only[cond_false];rw[oO ks key rs (0+1)];cases bW ks key rs 0<;>rfl
theorem yx(ks:List Kd)(r:List G)(rs:List (List G))(key:List G)(v:List (List G))(c:Nat):la ks (r::rs) key v c=bif aI ks key (gi r 0).row then [.l [key],.l [[.l v]],.i (gi r 2).int,.t true]::rs else r::la ks rs key v c:=by
 unfold la;simp only[bW];cases aI ks key (gi r 0).row with
 |true=>rfl
 | false =>
  simp only[cond_false];rw[oO ks key rs (0+1)];cases bW ks key rs 0<;>rfl
theorem Uz(ks:List Kd)(k key:List G):∀ rows:List (List G),eW ks (jB ks rows k) key=eW ks rows key
 | []=>rfl
 | r::rs=>by
  rw[yw];cases h:aI ks k (gi r 0).row with
  | true =>
   rw[cond_true,nL,nL];rfl
  |false=>rw[cond_false,nL,nL,Uz ks k key rs]
theorem UA(ks:List Kd){k key:List G}(aA:aI ks key k=false):∀ rows:List (List G),fI ks (jB ks rows k) key=fI ks rows key
 | []=>rfl
 | r::rs=>by
  rw[yw];cases h:aI ks k (gi r 0).row with
  | true =>
   have e:aI ks key (gi r 0).row=false:=by rw[←xl h]; exact aA
   rw[cond_true,nM,nM,e];show (bif aI ks key (gi r 0).row then _ else _)=_
   rw[e];rfl
  |false=>rw[cond_false,nM,nM,UA ks aA rs]
theorem UB(ks:List Kd)(k key:List G)(v:List (List G))(c:Nat):∀ rows:List (List G),eW ks (la ks rows k v c) key=bif aI ks key k then v else eW ks rows key
 | []=>by
  show eW ks [[.l [k],.l [[.l v]],.i (c:Int),.t true]] key=_
  rw[nL];rfl
 | r::rs=>by
  rw[yx,nL];cases h:aI ks k (gi r 0).row with
  | true =>
   rw[cond_true,nL];have e:aI ks key (gi r 0).row=aI ks key k:=(xl h).symm;rw[e];show (bif aI ks key k then _ else _)=_
   cases aI ks key k<;>rfl
  | false =>
   rw[cond_false,nL,UB ks k key v c rs];cases d:aI ks key (gi r 0).row with
   |false=>rfl
   | true =>
    cases q:aI ks key k with
    |false=>rfl
    | true =>
     have:aI ks k (gi r 0).row=true:=rU (by rw[rT]; exact q) d;rw[this]at h;cases h
theorem UC(ks:List Kd)(k key:List G)(v:List (List G))(c:Nat):∀ rows:List (List G),fI ks (la ks rows k v c) key=bif aI ks key k then true else fI ks rows key
 | []=>by
  show fI ks [[.l [k],.l [[.l v]],.i (c:Int),.t true]] key=_
  rw[nM];rfl
 | r::rs=>by
  rw[yx,nM];cases h:aI ks k (gi r 0).row with
  | true =>
   rw[cond_true,nM];have e:aI ks key (gi r 0).row=aI ks key k:=(xl h).symm;rw[e];show (bif aI ks key k then _ else _)=_
   cases aI ks key k<;>rfl
  | false =>
   rw[cond_false,nM,UC ks k key v c rs];cases d:aI ks key (gi r 0).row with
   |false=>rfl
   | true =>
    cases q:aI ks key k with
    |false=>rfl
    | true =>
     have:aI ks k (gi r 0).row=true:=rU (by rw[rT]; exact q) d;rw[this]at h;cases h
theorem lD(s k:ByteArray):aI [.str] [.s s] [.s k]=decide (s=k):=by
 show ((s.toList==k.toList)&&true)=_
 rw[eS,oW]
structure qA (Q:List G→Prop) (m:List (List G)) (n:ByteArray→Nat):Prop where
 fI:∀ k,fI [.str] m [.s k]=true
 get:∀ k,(eW [.str] m [.s k]).length≤n k∧∀ z∈eW [.str] m [.s k],Q z
theorem qA.nil(Q:List G→Prop):qA Q [] fun _=>0:=⟨fun _=>rfl,fun _=>⟨aD _,by intro z d; cases d⟩⟩
theorem qA.add{Q:List G→Prop}{m:List (List G)}{n:ByteArray→Nat}(h:qA Q m n)(k:ByteArray){x:List G}(B:Q x)(c:Nat) :
  qA Q (la [.str] (jB [.str] m [.s k]) [.s k] (eW [.str] m [.s k]++[x]) c) fun s=>if s=k then n s+1 else n s:=by
 refine⟨fun s=>?_,fun s=>?_⟩
 ·rw [UC, lD]
  by_cases e:s=k
  ·rw[decide_eq_true e]; rfl
  ·rw [decide_eq_false e, cond_false, UA _ (by rw [lD]; exact decide_eq_false e)]
   exact h.fI s
 ·rw [UB, lD]
  obtain⟨h1,q⟩:=h.get s;by_cases e:s=k
  ·subst e
   rw[decide_eq_true rfl,cond_true];simp only[if_true];refine⟨by rw[eD]; simp; omega,fun z d=>?_⟩;rcases cQ.1 d with d|d
   ·exact q z d
   ·rw[po.1 d]; exact B
  ·rw [decide_eq_false e, cond_false, Uz]
   simp only[if_neg e];exact⟨h1,q⟩
theorem qA.mono{Q:List G→Prop}{m:List (List G)}{n d:ByteArray→Nat}(h:qA Q m n)(hn:∀ k,n k≤d k):qA Q m d :=
 ⟨h.fI,fun k=>⟨o9 (h.get k).1 (hn k),(h.get k).2⟩⟩
def UD(r:List G):Prop:=dT r∧0≤(gi r 0).int∧(gi r 0).int≤1000000
def JM(m:List (List G))(B:Int):Prop:=∀ k,0≤(gi (bZ [.str] m [.s k] [.i 0]) 0).int∧(gi (bZ [.str] m [.s k] [.i 0]) 0).int≤B
theorem JM.add{m:List (List G)}{B:Int}(h:JM m B)(k:ByteArray)(c:Nat):JM (dv [.str] m [.s k] [.i ((gi (bZ [.str] m [.s k] [.i 0]) 0).int+1)] c) (B+1):=fun s=>by
 have h1:=h k;have d:=h s;rw[oP,lD];by_cases e:s=k
 ·rw [decide_eq_true e, cond_true]
  show 0≤(gi (bZ [.str] m [.s k] [.i 0]) 0).int+1∧(gi (bZ [.str] m [.s k] [.i 0]) 0).int+1≤B+1
  omega
 ·rw [decide_eq_false e, cond_false]
  omega
def yy(K:List Kd)(C:List G→Option (List G))(d:List G):Option (Option Nat × List G) :=
 (bif (ao (gi d 3).int (gi d 2).int) then (bif ((aJ (gi d 3).int)&&(ao (gi d 3).int (((gi d 0).rows.length:Nat):Int))) then (ar (C [.l [(aU K ((gi d 0).rows.getD (((gi d 3).int).toNat) []))],.l [(aU [.str,.list K] (gi d 1).row)]]) fun g1=>(bif (gi g1 0).bool then some (some 0,[.i (gi d 3).int]) else (bif (aw ((gi d 3).int+1)) then some (none,[.l (gi d 0).rows,.l [(aU [.str,.list K] (gi d 1).row)],.i (gi d 2).int,.i ((gi d 3).int+1)]) else none))) else none) else some (some 1,[]))
def UE(K:List Kd)(C:List G→Option (List G))(d:List G):Option (List G) :=
 (ar (aO true (bX (yy K C) [.l (gi d 0).rows,.l [(aU [.str,.list K] (aU [.str,.list K] (gi d 1).row))],.i (((gi d 0).rows.length:Nat):Int),.i 0]) fun k g2=>(bif ab k 0 then some [.i (gi g2 0).int] else some [.i (-1)])) fun g1=>some [.t (bx 0 (gi g1 0).int)])
def jO(c:ByteArray)(L:List (List G)):Bool:=L.any fun z=>(gi z 3).str.toList==c.toList
section
variable {C:List G→Option (List G)} {c:ByteArray} {A:List (List G)} (hC:∀ z,dT z→C [.l [z],.l [[.s c,.l A]]]=some [.t ((gi z 3).str.toList==c.toList)])
include hC
theorem UF:∀(q p:List (List G)),(∀ z∈p++q,dT z)→p.length+q.length<100000 →
  bq (yy [.int .i64,.int .i64,.str,.str,.int .i64,.int .i64,.str,.str] C) [.l (p++q),.l [[.s c,.l A]],.i ((p.length+q.length:Nat):Int),.i (p.length:Int)] (q.length+1) fun x g=>(x=0∧jO c q=true∧∃ v:Int,0≤v∧g=[.i v])∨x=1∧jO c q=false
 | [],p,B,I=>by
  refine bq.stop (x:=1) (d':=[]) (aa.toEq ?_) (.inr ⟨rfl,rfl⟩);unfold yy
  (dsimp +instances only[Aa,Ab,Ac,Ad,Ae,Af,Ag])
  (repeat first|refine aa.p ?_|refine aa.n ?_)
  exact aa.some rfl
 | x::q,p,B,I=>by
  simp only[cn]at I;have d:dT x:=B x (by simp);have g1:(p++x::q).getD (p.length:Int).toNat []=x:=nw _ _ _ _ _ (by simp);have hlen:(p++x::q).length=p.length+q.length+1:=by simp; omega
  cases k:(gi x 3).str.toList==c.toList with
  | true =>
   refine bq.stop (x:=0) (d':=[.i (p.length:Int)]) (aa.toEq ?_) (.inl ⟨rfl,by simp only[jO,zd,k,Bool.true_or],_,by omega,rfl⟩);unfold yy
   (dsimp +instances only[Aa,Ab,Ac,Ad,Ae,Af,Ag])
   simp only[g1,hlen,cn,d.eta]
   (repeat first|refine aa.p ?_|refine aa.n ?_)
   refine aa.cE (hC x d) ?_
   (dsimp +instances only[Aa,Ab,Ac,Ad,Ae,Af,Ag])
   exact aa.pos k (aa.some rfl)
  | false =>
   have J:=UF q (p++[x]) (by simpa using B) (by simp; omega);have M:(p++[x])++q=p++x::q:=by simp
   have N:(((p++[x]).length+q.length:Nat):Int)=((p.length+(x::q).length:Nat):Int):=by simp; omega
   have O:(((p++[x]).length:Nat):Int)=(p.length:Int)+1:=by simp
   rw[M,N,O]at J;have U:jO c (x::q)=jO c q:=by simp only[jO,zd,k,mH]
   rw[U];refine bq.next (aa.toEq ?_) J
   unfold yy
   (dsimp +instances only[Aa,Ab,Ac,Ad,Ae,Af,Ag])
   simp only[g1,hlen,cn,d.eta]
   (repeat first|refine aa.p ?_|refine aa.n ?_)
   refine aa.cE (hC x d) ?_
   (dsimp +instances only[Aa,Ab,Ac,Ad,Ae,Af,Ag])
   refine aa.neg k (aa.p (aa.some rfl))
theorem aj0(L:List (List G))(k:∀ z∈L,dT z)(q:L.length<100000):UE [.int .i64,.int .i64,.str,.str,.int .i64,.int .i64,.str,.str] C [.l L,.l [[.s c,.l A]]]=some [.t (jO c L)]:=by
 refine aa.toEq ?_;unfold UE
 (dsimp +instances only[Aa,Ab,Ac,Ad,Ae,Af,Ag])
 have h1:=UF hC L [] (by simpa using k) (by simpa using q);have h0:((0:Nat):Int)=0:=rfl;simp only[ki,lN,di,h0]at h1;refine aa.call (P:=fun g=>∃ v:Int,g=[.i v]∧bx 0 v=jO c L) ?_ ?_
 ·refine aa.loop (h1.to (by omega)) (by (first|rfl|assumption|(simp only [aw,sl]<;>omega))) ?_
  rintro x g (⟨rfl,d,v,B,rfl⟩|⟨rfl,d⟩)
  ·exact aa.some ⟨v,rfl,by rw[d,eV]; exact decide_eq_true B⟩
  ·exact aa.some ⟨-1,rfl,by rw[d]; rfl⟩
 ·rintro _ ⟨v, rfl, d⟩
  exact aa.some (congrArg (fun b=>[G.t b]) d)
end
def sr(c:ByteArray)(L:List (List G)):Int:=bif !jL c then 3 else bif gO L != 0 then gO L else bif jO c L then 6 else 0
theorem UG{c:ByteArray}{L:List (List G)}(h:sr c L=0):gO L=0:=by
 unfold sr at h;cases h1:jL c with
 |false=>rw[h1]at h; cases h
 | true =>
  rw[h1]at h;cases d:gO L != 0 with
  |false=>simpa using d
  | true =>
   rw[d]at h;simp only[yY,cond_false,cond_true]at h;exact h
theorem UD.m{z:List G}(h:UD z):iJ z:=by
 obtain⟨h,h0,h1⟩:=h;exact⟨h.eta,by unfold gD; omega,by unfold gD; omega⟩
def gE(k:Nat):List Nat→Option Nat
 | []=>none
 |a::l=>bif a==k then some 0 else (gE k l).map (·+1)
theorem JN{k:Nat}:∀{l:List Nat},gE k l=none↔k∉l
 | []=>by simp[gE]
 | a::l=>by
  unfold gE;cases h:a==k with
  |true=>simp at h; simp[h]
  | false =>
   simp at h;simp only[cond_false,Option.map_eq_none_iff,JN,bN,not_or];exact⟨fun g=>⟨fun e=>h e.symm,g⟩,fun g=>g.2⟩
theorem JO{k:Nat}:∀{l:List Nat} {n:Nat},gE k l=some n→n<l.length∧l.getD n 0=k
 | [],n,h=>by cases h
 | a::l,n,h=>by
  unfold gE at h;cases e:a==k with
  | true =>
   rw[e]at h;cases h;simp at e;exact⟨by simp,by simpa using e⟩
  | false =>
   rw[e]at h;simp only[cond_false,Option.map_eq_some_iff]at h;obtain⟨m,h1,rfl⟩:=h;obtain⟨q,d⟩:=JO h1;exact⟨by simp; omega,by simpa using d⟩
theorem JP{k:Nat}:∀{l:List Nat},k∉l→gE k (l++[k])=some l.length
 | [],_=>by simp[gE]
 | a::l,h=>by
  simp only[bN,not_or]at h;have e:(a==k)=false:=by simp; exact fun e=>h.1 e.symm
  show (bif a==k then some 0 else (gE k (l++[k])).map (·+1))=_
  rw[e,JP h.2];rfl
theorem JQ(a b:Int):aI [.int .i64] [.i a] [.i b]=decide (a=b):=by
 show ((a==b)&&true)=decide (a=b)
 rw[eS];exact Bool.beq_eq_decide_eq a b
def dq:Nat→List Nat→List (List G)
 |_,[]=>[]
 |i,k::ks=>[.l [[.i (k:Int)]],.i (i:Int),.i (i:Int)]::dq (i+1) ks
theorem UH:∀(i:Nat) (A B:List Nat),dq i (A++B)=dq i A++dq (i+A.length) B
 |i,[],B=>by simp[dq]
 | i,a::A,B=>by
  show _::dq (i+1) (A++B)=_::(dq (i+1) A++dq (i+(A.length+1)) B)
  rw[UH (i+1) A B,show i+1+A.length=i+(A.length+1) by omega]
theorem JR(k:Nat):∀(ks:List Nat) (i j:Nat),bW [.int .i64] [.i (k:Int)] (dq i ks) j=(gE k ks).map fun n=>(j+n,([.l [[.i (k:Int)]],.i ((i+n:Nat):Int),.i ((i+n:Nat):Int)]:List G))
 | [],_,_=>rfl
 | a::ks,i,j=>by
  have d:=JR k ks (i+1) (j+1);have e:aI [.int .i64] [.i (k:Int)] ((gi [.l [[.i (a:Int)]],.i (i:Int),.i (i:Int)] 0).row)=(a==k):=by
   show aI [.int .i64] [.i (k:Int)] [.i (a:Int)]=_
   rw[JQ];by_cases h:a=k
   ·subst h; simp
   ·have q : ¬ (k : Int) = (a : Int) := fun e => h (by omega)
    simp[h,q]
  show (bif _ then some (j,_) else bW _ _ (dq (i+1) ks) (j+1))=_
  rw[e,d];show _=Option.map _ (bif a==k then some 0 else (gE k ks).map (·+1))
  cases h:a==k with
  | true =>
   simp at h;subst h;rfl
  | false =>
   simp only[cond_false,Option.map_map];congr 1
   funext n
   simp only[Dg];rw[show j+1+n=j+(n+1) by omega,show i+1+n=i+(n+1) by omega]
theorem aj1(k:Nat)(ks:List Nat):du [.int .i64] (dq 0 ks) [.i (k:Int)]=(gE k ks).isSome:=by
 unfold du;rw[JR,Option.isSome_map]
theorem JS(k:Nat)(ks:List Nat):lb [.int .i64] (dq 0 ks) [.i (k:Int)]=gE k ks:=by
 unfold lb;rw[JR];cases h:gE k ks with
 |none=>rfl
 | some n =>
  show (bif bx 0 ((0+n:Nat):Int) then some ((0+n:Nat):Int).toNat else none)=some n
  rw[eV,decide_eq_true (by omega:(0:Int)≤((0+n:Nat):Int))];simp
theorem JT(r:List G):∀(ks:List Nat) (i j c:Nat),i+ks.length≤c→fJ (c:Int) (dq i ks++[r]) j=fJ (c:Int) [r] (j+ks.length)
 | [],i,j,c,_=>rfl
 | a::ks,i,j,c,h=>by
  simp only[cn]at h;have d:=JT r ks (i+1) (j+1) c (by omega);show (bif ((i:Int).toNat:Int)==(c:Int) then _ else fJ (c:Int) (dq (i+1) ks++[r]) (j+1))=_
  have e:(((i:Int).toNat:Int)==(c:Int))=false:=by
   rw[ba];simp;omega
  rw[e,d,show j+1+ks.length=j+(ks.length+1) by omega];rfl
theorem UI:∀(i:Nat) (ks:List Nat),(dq i ks).length=ks.length
 |_,[]=>rfl
 |i,_::ks=>by simp[dq,UI (i+1) ks]
def va(k c:Nat):List G:=[.l [[.i (k:Int)]],.i (-1),.i (c:Int)]
theorem UJ(k c j:Nat):fJ (c:Int) [va k c] j=some (j,va k c):=by
 show (bif ((c:Int).toNat:Int)==(c:Int) then _ else _)=_
 rw[ba];simp
theorem aj2(k:Nat)(ks:List Nat):tH (dq 0 ks++[va k ks.length]) (ks.length:Int)=true:=by
 unfold tH;rw[JT _ _ _ _ _ (by omega),UJ];rfl
theorem aj3(k:Nat)(ks:List Nat):tJ (dq 0 ks++[va k ks.length]) (ks.length:Int) ks.length=dq 0 (ks++[k]):=by
 unfold tJ;rw[JT _ _ _ _ _ (by omega),UJ,UH];show (dq 0 ks++[va k ks.length]).set (0+ks.length) _=_
 rw[yu (dq 0 ks) _ _ [] _ (by rw[UI,di])];rw[di];rfl
def gS(d:List G→List G × List G)(q:List (List G))(a:List (List G) × Nat):List (List G) × Nat :=
 q.foldl (fun a r=>(dv [.int .i64] a.1 (d r).1 (d r).2 a.2,dM [.int .i64] a.1 (d r).1 a.2)) a
def nN(a:List (List G) × Nat):List G:=[.l a.1,.i (a.2:Int)]
def vc(r:List G):List G × List G:=([.i (gi r 0).int],[.i (gi r 1).int])
def UK(r:List G):List G × List G:=([.i (gi r 1).int],[.t true])
def lE(p:List (List G)):List G:=nN (gS vc p ([],0))
def nO(p:List (List G)):List G:=nN (gS UK p ([],0))
theorem UL(d:List G→List G × List G)(p:List (List G))(r:List G)(a:List (List G) × Nat) :
  gS d (p++[r]) a=(dv [.int .i64] (gS d p a).1 (d r).1 (d r).2 (gS d p a).2,dM [.int .i64] (gS d p a).1 (d r).1 (gS d p a).2):=by
 unfold gS;rw[ze];rfl
theorem UM(M:List (List G))(a:List (List G) × Nat)(key val:List G) :
  tG (M++[nN a]) (some M.length) [.int .i64] key val=M++[nN (dv [.int .i64] a.1 key val a.2,dM [.int .i64] a.1 key a.2)]:=by
 unfold tG;have e:jX (M++[nN a]) (some M.length)=nN a:=by
  show (M++[nN a]).getD M.length []=_
  rw[bz];simp
 rw[e];show (M++[nN a]).set M.length _=_
 rw[yu M _ _ [] _ rfl];show M++[[.l (dv [.int .i64] a.1 key val (a.2:Int).toNat),.i ((dM [.int .i64] a.1 key (a.2:Int).toNat:Nat):Int)]]=_
 rw[ba];rfl
theorem UN(M:List (List G))(x:List G):m_ (M++[x]) (some M.length)=true:=by
 show eh M.length (M++[x]).length=true
 simp
theorem UO(d:List G→List G × List G)(key:List G):∀(q:List (List G)) (a:List (List G) × Nat),du [.int .i64] (gS d q a).1 key=(q.any (fun r=>aI [.int .i64] key (d r).1)||du [.int .i64] a.1 key)
 | [],a=>rfl
 | r::q,a=>by
  show du [.int .i64] (gS d q (_,_)).1 key=_
  rw[UO d key q];simp only[zd];rw[Bw];cases aI [.int .i64] key (d r).1<;>cases du [.int .i64] a.1 key<;>simp
theorem UP(d:List G→List G × List G)(key z:List G):∀(q:List (List G)) (a:List (List G) × Nat),(∃ r∈q,aI [.int .i64] key (d r).1=true∧bZ [.int .i64] (gS d q a).1 key z=(d r).2) ∨
  (∀ r∈q,aI [.int .i64] key (d r).1=false)∧bZ [.int .i64] (gS d q a).1 key z=bZ [.int .i64] a.1 key z
 | [],a=>.inr ⟨fun _ h=>(by cases h),rfl⟩
 | r::q,a=>by
  show (∃ _,_∧_∧bZ [.int .i64] (gS d q (dv [.int .i64] a.1 (d r).1 (d r).2 a.2,_)).1 key z=_)∨_∧bZ [.int .i64] (gS d q (dv [.int .i64] a.1 (d r).1 (d r).2 a.2,_)).1 key z=_
  rcases UP d key z q (dv [.int .i64] a.1 (d r).1 (d r).2 a.2,dM [.int .i64] a.1 (d r).1 a.2)with⟨s,h1,k,I⟩|⟨h1,k⟩
  ·exact .inl ⟨s,dw _ h1,k,I⟩
  ·rw [k, oP]
   cases e:aI [.int .i64] key (d r).1 with
   |true=>exact .inl ⟨r,by simp,e,rfl⟩
   | false =>
    refine .inr ⟨fun s B=>?_,rfl⟩;rcases bN.1 B with rfl|B
    ·exact e
    ·exact h1 s B
structure yz (m i:Nat) (r:List (List G)):Prop where
 len:r.length=m
 val:∀ j,j<m→∃ v:Int,r.getD j []=[.i v]∧0≤v∧v≤(i:Int)+(j:Int)
theorem yz.set{m i k:Nat}{r:List (List G)}(h:yz m i r){v:Int}(h0:0≤v)(h1:v≤(i:Int)+(k:Int)):yz m i (r.set k [.i v]):=by
 refine⟨by rw[pd,h.len],fun j d=>?_⟩;by_cases e:k=j
 ·subst e
  refine⟨v,?_,h0,h1⟩;rw[bz,bC (by rw[h.len]; exact d)];rfl
 ·obtain ⟨w, g1, g2⟩ := h.val j d
  refine⟨w,?_,g2⟩;rw[bz,List.getElem?_set_ne e,←bz,g1]
theorem yz.zero(m i:Nat):yz m i (cd m [.i 0]):=by
 refine⟨C' ..,fun j d=>⟨0,?_,VY 0,by omega⟩⟩;rw[bz,aml,if_pos d];rfl
structure mA (L:List (List G)) (C:Nat→ByteArray) (A:Nat→List (List G)):Prop where
 get:∀ i,i<L.length→L.getD i []=[.s (C i),.l (A i)]
 n:L.length≤40
 jk:∀ i,i<L.length→∀ z∈A i,iJ z∧(gi z 3).str.size≤100
 na:∀ i,i<L.length→(A i).length≤40
 cs:∀ i,i<L.length→(C i).size≤100
 nP:∀ i j,i<j→j<L.length→cJ (C i) (C j)<0
theorem aj4:((dI 80).all fun n=>kp .u64 (IntKind.u64.wrap ((n:Nat):Int)) 1==((n / 2:Nat):Int))=true:=by kernel_rfl
theorem aj5(i j:Nat)(h:i+j<80):kp .u64 (IntKind.u64.wrap ((i:Int)+(j:Int))) 1=(((i+j) / 2:Nat):Int):=by
 have:=dB.1 aj4 (i+j) (fG.2 h);rw[beq_iff_eq]at this;rw[←this];congr 2
section
variable {L:List (List G)} {C:Nat→ByteArray} {A:Nat→List (List G)} (S:mA L C A)
include S
theorem mA.two{i k:Nat}(hi:i<L.length)(hk:k<L.length):iy (A i) (A k) :=
 ⟨fun z d=>(S.jk i hi z d).1,fun z d=>(S.jk k hk z d).1,by have:=S.na i hi; omega,by have:=S.na k hk; omega⟩
theorem mA.mem{i j:Nat}(hi:i<L.length)(d:j<(A i).length):iJ ((A i).getD j [])∧(gi ((A i).getD j []) 3).str.size≤100 :=
 S.jk i hi _ (by rw[bz,bf d]; exact mN d)
theorem mA.key{i:Nat}(hi:i<L.length):(gi (L.getD i []) 0).str=C i:=by rw[S.get i hi]; rfl
theorem JU(s:ByteArray):∀(m i j:Nat),j≤i+m→i≤j→j≤L.length→(∀ t,t<i→cJ (C t) s<0)→(∀ t,j≤t→t<L.length→¬ cJ (C t) s<0) →
  bq uH [.l L,.s s,.i (L.length:Int),.i (i:Int),.i (j:Int)] (m+1) fun x g=>x=0∧∃ p:Nat,g=[.l L,.s s,.i (L.length:Int),.i (p:Int)]∧p≤L.length∧(∀ t,t<p→cJ (C t) s<0)∧(∀ t,p≤t→t<L.length→¬ cJ (C t) s<0)
 | m,i,j,hm,U,B,h1,I=>by
  have V:=S.n;by_cases he:i=j
  ·subst he
   refine bq.stop (x:=0) (aa.toEq ?_) ⟨rfl,i,rfl,B,h1,I⟩;unfold uH
   (dsimp +instances only[Aa,Ab,Ac,Ad,Ae,Af,Ag])
   exact aa.n (aa.some rfl)
  ·obtain ⟨m', rfl⟩ : ∃ m', m = m' + 1 := ⟨m - 1, by omega⟩
   have N:=aj5 i j (by omega);have q:(i+j) / 2<L.length:=by omega
   have J:=S.get _ q;have step:∀ o,(bif ao (cJ (C ((i+j) / 2)) s) 0 then some ((none:Option Nat),[G.l L,.s s,.i (L.length:Int),.i (((i+j) / 2+1:Nat):Int),.i (j:Int)]) else some (none,[.l L,.s s,.i (L.length:Int),.i (i:Int),.i (((i+j) / 2:Nat):Int)]))=some o →
     uH [.l L,.s s,.i (L.length:Int),.i (i:Int),.i (j:Int)]=some o:=fun o ho=>by
    refine aa.toEq ?_;unfold uH
    (dsimp +instances only[Aa,Ab,Ac,Ad,Ae,Af,Ag])
    simp only[N,ba,J];refine aa.p (aa.p (aa.p (aa.p ?_)));refine aa.call (P:=fun g=>g=[.i (cJ (C ((i+j) / 2)) s)]) (aa.eq rfl) ?_;rintro _ rfl
    (dsimp +instances only[Aa,Ab,Ac,Ad,Ae,Af,Ag])
    refine aa.test (fun h=>?_) fun h=>?_
    ·rw [h, cond_true] at ho
     refine aa.p (aa.some ?_);cases ho;rfl
    ·rw [h, cond_false] at ho
     refine aa.some ?_;cases ho;rfl
   by_cases d:cJ (C ((i+j) / 2)) s<0
   ·refine bq.next (step _ (by rw [dD, decide_eq_true d]; rfl)) (JU s m' _ j (by omega) (by omega) B (fun t O => ?_) I)
    rcases kg t ((i+j) / 2)with h|h
    ·exact gB.tr _ _ _ (S.nP t _ h q) d
    ·rw [show t = (i + j) / 2 by omega]
     exact d
   ·refine bq.next (step _ (by rw [dD, decide_eq_false d]; rfl)) (JU s m' i _ (by omega) (by omega) (by omega) h1 (fun t O M k => ?_))
    rcases kg ((i+j) / 2) t with h|h
    ·exact d (gB.tr _ _ _ (S.nP _ t h M) k)
    ·rw [show t = (i + j) / 2 by omega] at k
     exact d k
theorem UQ(s:ByteArray):aa (xW [.l L,.s s]) fun g=>∃(p:Nat) (b:Bool),g=[.i (p:Int),.t b]∧(b=true→p<L.length∧C p=s)∧(b=false→∀ k,k<L.length→C k≠s):=by
 have N:=S.n;unfold xW
 (dsimp +instances only[Aa,Ab,Ac,Ad,Ae,Af,Ag])
 refine aa.call (P:=fun g=>∃(p:Nat) (b:Bool),g=[.i (p:Int),.t b]∧(b=true→p<L.length∧C p=s)∧(b=false→∀ k,k<L.length→C k≠s)) ?_ ?_
 ·unfold Io
  (dsimp +instances only[Aa,Ab,Ac,Ad,Ae,Af,Ag])
  refine aa.loop ((JU S s L.length 0 L.length (by omega) (by omega) (aD _) (fun t I=>by omega) (fun t h1 d=>by omega)).to (by omega)) rfl ?_;rintro _ _ ⟨rfl,p,rfl,O,J,M⟩
  (dsimp +instances only[Aa,Ab,Ac,Ad,Ae,Af,Ag])
  have q:∀ t,t<L.length→C t=s→t=p:=fun t I e=>by
   have h0:cJ (C t) s=0:=lx.2 e;have h1:p≤t:=amo fun h=>by have:=J t h; omega
   refine Nat.le_antisymm (amo fun h=>?_) h1;have d:=S.nP p t h I;rw[e]at d;exact M p (aD _) (by omega) d
  refine aa.test (fun h=>?_) fun h=>?_
  ·simp only [dD, decide_eq_true_eq] at h
   have B:p<L.length:=by omega
   simp only[ba,S.get p B];refine aa.p ?_;refine aa.call (P:=fun g=>g=[.i (cJ (C p) s)]) (aa.eq rfl) ?_;rintro _ rfl;refine aa.some ⟨p,_,rfl,fun hb=>⟨B,?_⟩,fun hb k hk e=>?_⟩
   ·have hb : (cJ (C p) s == 0) = true := hb
    rw[beq_iff_eq]at hb;exact lx.1 hb
   ·have := q k hk e
    subst this;have hb:(cJ (C k) s==0)=false:=hb;rw[lx.2 e]at hb;cases hb
  ·simp only [dD, decide_eq_false_iff_not] at h
   exact aa.some ⟨p,false,rfl,fun hb=>(by cases hb),fun _ k hk e=>by have:=q k hk e; omega⟩
 ·rintro _ ⟨p, b, rfl, h⟩
  exact aa.some ⟨p,b,rfl,h⟩
end
def dH(A:Nat→List (List G))(C:Nat→ByteArray)(own:Nat)(off:Int)(k:Nat):List (List G):=jN (A own) (A k) (C own) (C k) off
def mB(k:Nat)(ks:List Nat):List Nat:=match gE k ks with
 |some _=>ks
 |none=>ks++[k]
theorem aj6(k:Nat)(ks:List Nat):∃ n,gE k (mB k ks)=some n:=by
 unfold mB;cases h:gE k ks with
 |some n=>exact⟨n,h⟩
 |none=>exact⟨_,JP (JN.1 h)⟩
theorem UR{L R1 R2 M T:List (List G)}{own off k:Int}{c1 c2:Nat}(h1:lb [.int .i64] R1 [.i k]=some M.length)(d:lb [.int .i64] R2 [.i k]=some T.length):∀(q p:List (List G)),p.length+q.length≤100000 →
  bq x8 [.l L,.i own,.i off,.l R1,.l (M++[nN (gS vc p ([],0))]),.i (c1:Int),.l R2,.l (T++[nN (gS UK p ([],0))]),.i (c2:Int),.i k,.l (p++q),.i ((p.length+q.length:Nat):Int),.i (p.length:Int)] (q.length+1) fun x g =>
   x=0∧g=[.l L,.i own,.i off,.l R1,.l (M++[lE (p++q)]),.i (c1:Int),.l R2,.l (T++[nO (p++q)]),.i (c2:Int)]
 | [],p,B=>by
  refine bq.stop (x:=0) (aa.toEq ?_) ⟨rfl,rfl⟩;unfold x8
  (dsimp +instances only[Aa,Ab,Ac,Ad,Ae,Af,Ag])
  refine aa.n (aa.some ?_);rw[dh];rfl
 | r::q,p,B=>by
  simp only[cn]at B;have I:=UR (L:=L) (own:=own) (off:=off) (c1:=c1) (c2:=c2) h1 d q (p++[r]) (by simp; omega);have g1:(p++r::q).getD (p.length:Int).toNat []=r:=nw _ _ _ _ _ (by simp);rw[ba]at g1;have hlen:(p++r::q).length=p.length+q.length+1:=by simp; omega
  have J:(p++[r])++q=p++r::q:=by simp
  have N:(((p++[r]).length+q.length:Nat):Int)=((p.length+(r::q).length:Nat):Int):=by simp; omega
  have O:(((p++[r]).length:Nat):Int)=(p.length:Int)+1:=by simp
  rw[J,N,O]at I;refine bq.next (aa.toEq ?_) I
  unfold x8
  (dsimp +instances only[Aa,Ab,Ac,Ad,Ae,Af,Ag])
  simp only[g1,hlen,cn,ba,h1,d];refine aa.p (aa.p (aa.pos rfl (aa.pos (UN _ _) (aa.pos rfl (aa.pos (UN _ _) (aa.p (aa.some ?_)))))));rw[UM,UM,UL,UL];rfl
section
variable {L:List (List G)} {C:Nat→ByteArray} {A:Nat→List (List G)} (S:mA L C A) {own:Nat} (ho:own<L.length) (off:Int)
include S ho
theorem aj7{k:Nat}(hk:k<L.length)(ks:List Nat):x9 [G.l L,.i (own:Int),.i off,.l (dq 0 ks),.l (ks.map fun k=>lE (dH A C own off k)),.i ((ks.length:Nat):Int),.l (dq 0 ks),.l (ks.map fun k=>nO (dH A C own off k)),.i ((ks.length:Nat):Int),.i (k:Int)]=some [G.l L,.i (own:Int),.i off,.l (dq 0 (mB k ks)),.l ((mB k ks).map fun k=>lE (dH A C own off k)),.i (((mB k ks).length:Nat):Int),.l (dq 0 (mB k ks)),.l ((mB k ks).map fun k=>nO (dH A C own off k)),.i (((mB k ks).length:Nat):Int)]:=by
 refine aa.toEq ?_;unfold x9
 (dsimp +instances only[Aa,Ab,Ac,Ad,Ae,Af,Ag])
 simp only[JS,aj1,ba];unfold mB;cases h:gE k ks with
 |some n=>exact aa.pos rfl (aa.some rfl)
 | none =>
  have d:=aj2 k ks;have q:=aj3 k ks;unfold va at d q;refine aa.pos rfl (aa.neg rfl (aa.pos rfl (aa.pos d (aa.pos rfl (aa.pos d (aa.p (aa.p ?_)))))));simp only[S.get own ho,S.get k hk];refine aa.cE (ajX (S.two ho hk) (C own) (C k) off) ?_
  (dsimp +instances only[Aa,Ab,Ac,Ad,Ae,Af,Ag])
  simp only[cD];rw[q];have hb:=ajZ (S.two ho hk) (C own) (C k) off;have hn:=S.na own ho;have hg:lb [.int .i64] (dq 0 (ks++[k])) [.i (k:Int)]=some ks.length:=by rw[JS]; exact JP (JN.1 h)
  have hr:=UR (L:=L) (own:=(own:Int)) (off:=off) (k:=(k:Int)) (R1:=dq 0 (ks++[k])) (R2:=dq 0 (ks++[k])) (M:=ks.map fun k=>lE (dH A C own off k)) (T:=ks.map fun k=>nO (dH A C own off k)) (c1:=ks.length+1) (c2:=ks.length+1)
   (by rw[cD]; exact hg) (by rw[cD]; exact hg) (dH A C own off k) [] (by unfold dH; simp; omega)
  simp only[ki,lN,di]at hr;refine aa.loop (hr.to (by unfold dH; omega)) rfl ?_;rintro _ _ ⟨rfl,rfl⟩
  (dsimp +instances only[Aa,Ab,Ac,Ad,Ae,Af,Ag])
  refine aa.some ?_;simp only[ba,iP,dj,qO,eD,sG]
def yA(x y:List G):Bool:=(gi x 4).int==(gi y 5).int&&(gi x 6).str.toList==(gi y 7).str.toList
omit S ho in
theorem aj8(x y:List G):x_ [.l [x],.l [y]]=some [.t (yA x y)]:=by
 refine aa.toEq ?_;unfold x_ yA
 (dsimp +instances only[Aa,Ab,Ac,Ad,Ae,Af,Ag])
 refine aa.test (fun h=>aa.some ?_) fun h=>aa.some ?_<;>rw[h]<;>rfl
end
theorem aj9(f:Nat→List G){ks:List Nat}{n k:Nat}(h:gE k ks=some n):jX (ks.map f) (some n)=f k:=by
 obtain⟨h1,d⟩:=JO h;show (ks.map f).getD n []=_
 rw[bz,bU];rw[bz]at d;rw[bf h1]at d⊢;simp only[ga]at d;simp only[eg,ga,d]
theorem aj_(f:Nat→List G){ks:List Nat}{n k:Nat}(h:gE k ks=some n):m_ (ks.map f) (some n)=true:=by
 obtain⟨h1,d⟩:=JO h;show eh n (ks.map f).length=true
 rw[cD];simpa using h1
section
variable {L:List (List G)} {C:Nat→ByteArray} {A:Nat→List (List G)} (S:mA L C A)
include S
theorem mA.inj{i j:Nat}(hi:i<L.length)(k:j<L.length)(h:C i=C j):i=j:=by
 rcases Dk i j with d|d|d
 ·have := S.nP i j d k
  rw[lx.2 h]at this;omega
 ·exact d
 ·have := S.nP j i d hi
  rw[lx.2 h.symm]at this;omega
end
def CX(L:List (List G))(C:Nat→ByteArray)(A:Nat→List (List G))(own:Nat)(off:Int)(i:Nat):Prop :=
 ∃ k j:Nat,k<L.length∧C k=(gi ((A own).getD i []) 3).str∧[G.i (i:Int),.i (j:Int)]∈dH A C own off k
def vd(L:List (List G))(C:Nat→ByteArray)(A:Nat→List (List G))(own:Nat)(off:Int)(i:Nat)(row:List G):Prop :=
 ∃ (kd:Int) (w:ByteArray) (v:Int),row=[.i (i:Int),.i kd,.s w,.i v] ∧
  ((∃ k j : Nat, k < L.length ∧ j < (A k).length ∧ C k = (gi ((A own).getD i []) 3).str ∧ w = C k ∧ v = (j : Int) ∧ [G.i (i : Int), .i (j : Int)] ∈ dH A C own off k ∧
    ((kd=1∧yA ((A k).getD j []) ((A own).getD i [])=true)∨(kd=3∧yA ((A k).getD j []) ((A own).getD i [])=false))) ∨
   (¬ CX L C A own off i∧((kd=2∧∃ k:Nat,k<L.length∧w=C k∧0≤v∧v<((A k).length:Int))∨((kd=4∨kd=5)∧w=⟨#[]⟩∧v = -1))))
def aj'(L:List (List G))(C:Nat→ByteArray)(A:Nat→List (List G))(own:Nat)(off:Int)(i:Nat)(row:List G):Prop :=
 row=[.i (i:Int),.i 6,.s ⟨#[]⟩,.i (-1)]∨vd L C A own off i row
def JV(L:List (List G))(C:Nat→ByteArray)(A:Nat→List (List G))(own:Nat)(off:Int)(d:List (List G)):Prop :=
 ∀ j,j<d.length→aj' L C A own off j (d.getD j [])
section
variable {L:List (List G)} {C:Nat→ByteArray} {A:Nat→List (List G)} (S:mA L C A) {own:Nat} (ho:own<L.length) (off:Int)
include S ho
theorem aka{k:Nat}(hk:k<L.length)(i:Nat):(du [.int .i64] (gS vc (dH A C own off k) ([],0)).1 [.i (i:Int)]=true→∃ j:Nat,j<(A k).length∧[G.i (i:Int),.i (j:Int)]∈dH A C own off k∧bZ [.int .i64] (gS vc (dH A C own off k) ([],0)).1 [.i (i:Int)] [.i 0]=[.i (j:Int)]) ∧
  (du [.int .i64] (gS vc (dH A C own off k) ([],0)).1 [.i (i:Int)]=false→∀ j:Nat,[G.i (i:Int),.i (j:Int)]∉dH A C own off k):=by
 have B:∀ r∈dH A C own off k,∃ a b:Nat,r=[.i (a:Int),.i (b:Int)]∧b<(A k).length:=fun r hr=>by
  obtain⟨a,b,h1,_,d,_⟩:=CW (S.two ho hk) hr;exact⟨a,b,h1,d⟩
 rw[UO,OB,vu];constructor
 ·intro h
  rcases UP vc [.i (i:Int)] [.i 0] (dH A C own off k) ([],0)with⟨r,h1,d,q⟩|⟨h1,_⟩
  ·obtain ⟨a, b, rfl, hb⟩ := B r h1
   have d:aI [.int .i64] [.i (i:Int)] [.i (a:Int)]=true:=d;rw[JQ,decide_eq_true_eq]at d;have:i=a:=by omega
   subst this;exact⟨b,hb,h1,q⟩
  ·obtain ⟨r, d, q⟩ := iQ.1 h
   rw[h1 r d]at q;cases q
 ·intro h j I
  have:=Dl.1 h _ I;apply this;show aI [.int .i64] [.i (i:Int)] [.i (i:Int)]=true
  rw[JQ];simp
end
theorem JW{r:List G}:dF r=0↔ch (gi r 0).int 0 345686399999=true∧ch (gi r 1).int 1 3=true∧jK (gi r 2).str=true∧jL (gi r 3).str=true∧ch (gi r 4).int 0 99999=true∧ch (gi r 5).int 0 99999=true ∧
  nG (gi r 6).str=true∧nG (gi r 7).str=true:=by
 unfold dF;generalize ch (gi r 0).int 0 345686399999=b1;generalize ch (gi r 1).int 1 3=d;generalize jK (gi r 2).str=k;generalize jL (gi r 3).str=q;generalize ch (gi r 4).int 0 99999=B;generalize ch (gi r 5).int 0 99999=I;generalize nG (gi r 6).str=J;generalize nG (gi r 7).str=M;cases b1<;>cases d<;>cases k<;>cases q<;>cases B<;>cases I<;>cases J<;>cases M<;>simp
theorem US:∀{l:List (List G)} {o:Option (List G)},eH o l=0→∀ x∈l,dF x=0
 | [],_,_,_,h=>by cases h
 | y::q,o,h,x,d=>by
  have key:dF y=0∧eH (some y) q=0:=by
   cases o with
   | none =>
    simp only[eH]at h;split at h
    ·contradiction
    ·rename_i h1
     exact⟨by simpa using h1,h⟩
   | some z =>
    simp only[eH]at h;split at h
    ·contradiction
    ·rename_i h1
     split at h
     ·cases h
     ·exact⟨by simpa using h1,h⟩
  rcases bN.1 d with rfl|d
  ·exact key.1
  ·exact US key.2 x d
theorem UT{l:List (List G)}(h:gO l=0):∀ x∈l,dF x=0:=by
 unfold gO at h;split at h
 ·cases h
 ·exact US h
theorem akb{c:ByteArray}{L:List (List G)}(h:sr c L=0):jL c=true∧jO c L=false:=by
 unfold sr at h;cases h1:jL c with
 |false=>rw[h1]at h; cases h
 | true =>
  rw[h1]at h;cases d:gO L != 0 with
  | true =>
   rw[d]at h;simp only[yY,cond_false,cond_true]at h;rw[h]at d;cases d
  | false =>
   rw[d]at h;cases k:jO c L with
   |true=>rw[k]at h; cases h
   |false=>exact⟨rfl,rfl⟩
structure su (L:List (List G)) (C:Nat→ByteArray) (A:Nat→List (List G)):Prop where
 get:∀ i,i<L.length→L.getD i []=[.s (C i),.l (A i)]
 n:L.length≤40
 jk:∀ i,i<L.length→∀ z∈A i,dT z
 na:∀ i,i<L.length→(A i).length≤40
 call:∀ i,i<L.length→C i∈calls
 nP:∀ i j,i<j→j<L.length→cJ (C i) (C j)<0
 less:∀ i,0<i→i<L.length→(mD (C i).toList (C (i-1)).toList||((C i).toList==(C (i-1)).toList))=false
 fault:∀ i,i<L.length→sr (C i) (A i)=0
theorem UU{c:ByteArray}(h:c∈calls):c.size≤100:=by
 have d:calls.all (fun c=>Nat.ble c.size 100)=true:=by kernel_rfl
 simpa using dB.1 d c h
section
variable {L:List (List G)} {C:Nat→ByteArray} {A:Nat→List (List G)} (R:su L C A)
include R
theorem su.yB{i:Nat}(hi:i<L.length):∀ z∈A i,dT z∧dF z=0:=fun z d=>⟨R.jk i hi z d,UT (UG (R.fault i hi)) z d⟩
theorem su.UW:mA L C A:=by
 refine⟨R.get,R.n,fun i hi z k=>?_,R.na,fun i hi=>UU (R.call i hi),R.nP⟩;obtain⟨h1,q⟩:=R.yB hi z k;have d:=(JW.1 q).1;unfold ch at d;simp only[eV,az,decide_eq_true_eq]at d;refine⟨⟨h1.eta,?_,?_⟩,?_⟩
 ·unfold gD; omega
 ·unfold gD; omega
 ·obtain ⟨t, m, b, c, s, h, x, y, rfl, _, _, _, _, _, B, _⟩ := h1
  exact UU B
theorem akc{i:Nat}(hi:i<L.length):Ce [.l [[.i (i:Int)]],.l [[.s (C i),.l (A i)]],.l [[.l L]]]=some [.i 0]:=by
 have hn:=R.n;refine aa.toEq ?_;unfold Ce
 (dsimp +instances only[Aa,Ab,Ac,Ad,Ae,Af,Ag])
 refine aa.test (fun h=>?_) fun _=>aa.some rfl;rw[dD,decide_eq_true_eq]at h;have e:((i:Int)-1).toNat=i-1:=by omega
 have d:=R.less i (by omega) hi;have hg:=R.get (i-1) (by omega);simp only[e,hg]
 (dsimp +instances only[Aa,Ab,Ac,Ad,Ae,Af,Ag])
 refine aa.p (aa.p (aa.neg ?_ (aa.some rfl)));exact d
theorem akd{i:Nat}(hi:i<L.length):Cg [.l [[.s (C i),.l (A i)]],.l [[.i (i:Int)]],.l [[.s (C i),.l (A i)]],.l [[.l L]]]=some [.i 0]:=by
 have d:=R.fault i hi;obtain⟨h1,k⟩:=akb d;have q:=UG d;have hn:=R.na i hi;refine aa.toEq ?_;unfold Cg
 (dsimp +instances only[Aa,Ab,Ac,Ad,Ae,Af,Ag])
 refine aa.cE (TD (R.call i hi)) ?_
 (dsimp +instances only[Aa,Ab,Ac,Ad,Ae,Af,Ag])
 refine aa.neg (by rw[h1]; rfl) ?_;refine aa.cE (akc R hi) ?_;refine aa.neg rfl ?_;refine aa.cE (TH (A i) (R.jk i hi) (by omega)) ?_
 (dsimp +instances only[Aa,Ab,Ac,Ad,Ae,Af,Ag])
 rw[q];refine aa.neg rfl ?_;refine aa.call (aa.eq (aj0 (C:=Cf) (c:=C i) (A:=A i) (fun z B=>by
  refine aa.toEq ?_;unfold Cf
  (dsimp +instances only[Aa,Ab,Ac,Ad,Ae,Af,Ag])
  exact aa.some rfl) (A i) (R.jk i hi) (by omega))) ?_
 rintro _ rfl
 (dsimp +instances only[Aa,Ab,Ac,Ad,Ae,Af,Ag])
 exact aa.neg k (aa.some rfl)
theorem UX:∀(k i:Nat),i+k=L.length→bq xV [.l L,.l L,.i (L.length:Int),.i (i:Int)] (k+1) fun x _=>x=1
 | 0,i,hi=>by
  refine bq.stop (x:=1) (d':=[]) (aa.toEq ?_) rfl;unfold xV
  (dsimp +instances only[Aa,Ab,Ac,Ad,Ae,Af,Ag])
  exact aa.n (aa.some rfl)
 | k+1,i,hi=>by
  have hn:=R.n;refine bq.next (d1:=[.l L,.l L,.i (L.length:Int),.i ((i:Int)+1)]) (aa.toEq ?_) (UX k (i+1) (by omega))
  unfold xV
  (dsimp +instances only[Aa,Ab,Ac,Ad,Ae,Af,Ag])
  simp only[ba,R.get i (by omega:i<L.length)];refine aa.p (aa.p ?_);refine aa.cE (akd R (i:=i) (by omega)) ?_;exact aa.neg rfl (aa.p (aa.some rfl))
theorem UY:uG [.l L]=some [.i 0]:=by
 have hn:=R.n;refine aa.toEq ?_;unfold uG
 (dsimp +instances only[Aa,Ab,Ac,Ad,Ae,Af,Ag])
 refine aa.n ?_;refine aa.loop ((UX R L.length 0 (by omega)).to (by omega)) rfl ?_;rintro x g rfl;exact aa.neg rfl (aa.some rfl)
end
theorem JX(r s:List G):cP r s=fD (ew (gi r 0).int (gi s 0).int) (fD (cJ (gi r 3).str (gi s 3).str) (fD (cJ (gi r 2).str (gi s 2).str) (ew (gi r 1).int (gi s 1).int))):=rfl
theorem ake(a b d:List G)(h1:cP a b<0)(k:cP b d<0):cP a d<0:=by
 rw[JX]at *;exact Jf jM _ _ _ _ _ _ h1 k fun g1 g2=>Jf gB _ _ _ _ _ _ g1 g2 fun q B=>Jf gB _ _ _ _ _ _ q B fun m1 m2=>jM.tr _ _ _ m1 m2
theorem UZ:∀{l:List (List G)} {y:List G},(∀ x∈l,dF x=0)→(y::l).Pairwise (fun a b=>cP a b<0)→eH (some y) l=0
 | [],_,_,_=>rfl
 | x::q,y,h0,h=>by
  obtain⟨h1,d⟩:=pt.1 h;have B:=h1 x cU;simp only[eH];rw[if_neg (by simpa using h0 x cU),if_neg (by omega)];exact UZ (fun z k=>h0 z (dw _ k)) d
theorem U0{l:List (List G)}(h0:∀ x∈l,dF x=0)(h:l.Pairwise (fun a b=>cP a b<0))(hn:l.length≤2000):gO l=0:=by
 unfold gO;rw[if_neg (by omega)];cases l with
 |nil=>rfl
 | cons x q =>
  simp only[eH];rw[if_neg (by simpa using h0 x cU)];exact UZ (fun z d=>h0 z (dw _ d)) h
def Good(z:List G):Prop:=dT z∧dF z=0
theorem akf{L:List (List G)}{C:Nat→ByteArray}{A:Nat→List (List G)}{own:Nat}{off:Int}{d:List (List G)}(B:JV L C A own off d){j:Nat}(I:j<d.length) :
  ∃(kd:Int) (w:ByteArray) (v:Int),d.getD j []=[.i (j:Int),.i kd,.s w,.i v]∧(kd=2→∃ k:Nat,k<L.length∧w=C k)∧(kd=3→∃ k i:Nat,k<L.length∧i<(A k).length∧w=C k∧v=(i:Int)):=by
 rcases B j I with h|⟨kd,w,v,h,⟨k,i,h1,q,N,J,M,O,U⟩|⟨_,⟨rfl,k,h1,q,_⟩|⟨h1,rfl,rfl⟩⟩⟩
 ·exact⟨6,_,_,h,fun e=>(by omega),fun e=>(by omega)⟩
 ·exact⟨kd,w,v,h,fun e=>(by omega),fun _=>⟨k,i,h1,q,J,M⟩⟩
 ·exact⟨2,w,v,h,fun _=>⟨k,h1,q⟩,fun e=>(by omega)⟩
 ·exact⟨kd,_,_,h,fun e=>(by omega),fun e=>(by omega)⟩
section
variable {L:List (List G)} {C:Nat→ByteArray} {A:Nat→List (List G)} (R:su L C A) {own:Nat} (ho:own<L.length) (off:Int)
include R ho
theorem su.row{j:Nat}(d:j<(A own).length):Good ((A own).getD j []) :=
 R.yB ho _ (by rw[bz,bf d]; exact mN d)
theorem U1{k:List (List G)}(J:k.length=(A own).length)(I:JV L C A own off k):∀(d i:Nat) (out:List (List G)),i+d=k.length→out.Sublist ((A own).take i) →
  bq uP [.l out,.l L,.i (own:Int),.l k,.i (k.length:Int),.i (i:Int)] (d+1) fun x g=>x=0∧∃ v,g=[.l v]∧v.Sublist (A own)
 | 0,i,out,hi,B=>by
  refine bq.stop (x:=0) (aa.toEq ?_) ⟨rfl,out,rfl,B.trans (List.take_sublist _ _)⟩;unfold uP
  (dsimp +instances only[Aa,Ab,Ac,Ad,Ae,Af,Ag])
  exact aa.n (aa.p (aa.some rfl))
 | d+1,i,out,hi,B=>by
  have U:=R.na own ho;have V:out.length≤i:=o9 B.length_le (by rw[jq]; omega);obtain⟨kd,w,v,hr,_,_⟩:=akf I (j:=i) (by omega);have M:=R.row ho (j:=i) (by omega);have step:aa (uP [.l out,.l L,.i (own:Int),.l k,.i (k.length:Int),.i (i:Int)]) fun o=>∃ q,o=(none,[.l q,.l L,.i (own:Int),.l k,.i (k.length:Int),.i ((i:Int)+1)])∧(q=out∨q=out++[(A own).getD i []]):=by
   unfold uP
   (dsimp +instances only[Aa,Ab,Ac,Ad,Ae,Af,Ag])
   simp only[ba,hr,R.get own ho]
   (dsimp +instances only[Aa,Ab,Ac,Ad,Ae,Af,Ag])
   simp only[ba,M.1.eta];refine aa.p (aa.p ?_);refine aa.test (fun _=>?_) fun _=>aa.test (fun _=>?_) fun _=>?_
   ·exact aa.p (aa.p (aa.p (aa.p (aa.p (aa.some ⟨_,rfl,.inr rfl⟩)))))
   ·exact aa.p (aa.p (aa.p (aa.p (aa.p (aa.some ⟨_,rfl,.inr rfl⟩)))))
   ·exact aa.p (aa.p (aa.some ⟨_,rfl,.inl rfl⟩))
  obtain⟨o,h,q,rfl,N⟩:=step;have O:(A own).take (i+1)=(A own).take i++[(A own).getD i []]:=by
   rw[bz,bf (by omega:i<(A own).length)];exact(List.take_append_getElem (by omega:i<(A own).length)).symm
  refine bq.next h (U1 J I d (i+1) q (by omega) ?_)
  rw[O];rcases N with rfl|rfl
  ·exact B.trans (List.sublist_append_left _ _)
  ·exact B.append (amS _)
omit ho in
omit R ho in
end
def yC(n i k:Nat):Int:=10000000000*((n-max i k:Nat):Int)
theorem akg{n:Nat}{ok:Nat→Nat→Bool}{w:Nat→Nat→Int}(d:∀ i k,i<n→k<n→(ok i k=true↔i=k))(hw:∀ i,i<n→w i i=10000000000):eA (yC n) n n ok w:=by
 refine⟨fun i k h=>?_,fun i k hi hk=>?_⟩
 ·unfold yC
  have:n-max i k=0:=by omega
  rw[this];rfl
 ·unfold yC
  by_cases e:i=k
  ·subst e
   rw[if_pos ((d i i hi hi).2 rfl),hw i hi];omega
  ·rw [if_neg (fun h => e ((d i k hi hk).1 h))]
   omega
theorem U2{F:Nat→Nat→Int}{n:Nat}{ok:Nat→Nat→Bool}{w:Nat→Nat→Int}(h:eA F n n ok w)(d:∀ i k,i<n→k<n→(ok i k=true↔i=k))(hw:∀ i,i<n→w i i=10000000000) :
  ∀(t i:Nat),i+t=n→∀ p,i≤p→p<n→(p,p)∈ix F n ok w t i i
 |0,i,hi,p,h1,q=>by omega
 | t+1,i,hi,p,h1,q=>by
  have hF:∀ a b,F a b=yC n a b:=fun a b=>CI h (akg d hw) _ a b (aD _);have B:gR (iw F ok w (F i i) i) i (n-i)=some i:=ajC (aD _) (by omega) (Jt.2 ⟨(d i i (by omega) (by omega)).2 rfl,by rw[hw i (by omega),hF,hF]; unfold yC; omega⟩) (fun y I J=>by omega);rw[CK B];by_cases e:p=i
  ·subst e
   exact cU
  ·exact dw _ (U2 h d hw t (i+1) (by omega) p (by omega) q)
theorem akh{α:Type}(A:List α)(z:α):(dI A.length).map (fun i=>A.getD i z)=A:=by
 refine List.ext_getElem (by simp) fun i h1 d=>?_;simp only[List.getElem_map,List.getElem_range,bz,bf d,ga]
theorem U3(A:List (List G))(s:ByteArray)(k:GK):(cS A s k).map (fun i=>A.getD i [])=A.filter fun z=>(bB z).toList==s.toList&&decide (cK z=k):=by
 have h:=amp (f:=fun i=>A.getD i []) (p:=fun z:List G=>(bB z).toList==s.toList&&decide (cK z=k)) (l:=dI A.length);rw[akh]at h;rw[h];rfl
theorem ve{A:List (List G)}{s:ByteArray}{k:GK}{p:Nat}(d:p<(cS A s k).length):iK A (cS A s k) p=(A.filter fun z=>(bB z).toList==s.toList&&decide (cK z=k)).getD p []:=by
 rw[←U3];unfold iK;simp only[bz,bU,bf d,eg,ga]
theorem qB(A:List (List G))(s:ByteArray)(k:GK):(cS A s k).length=(A.filter fun z=>(bB z).toList==s.toList&&decide (cK z=k)).length:=by
 rw[←U3,cD]
def fY(g:ByteArray)(z:List G):List G:=[.i (gi z 0).int,.i (gi z 1).int,.s (gi z 2).str,.s g,.i (gi z 5).int,.i (gi z 4).int,.s (gi z 7).str,.s (gi z 6).str]
def dc(g:ByteArray)(X:List (List G))(c:ByteArray):List (List G):=(X.filter fun z=>decide (bB z=c)).map (fY g)
def yD(X:List (List G)):Prop:=X.Pairwise fun a b=>cP a b<0
theorem aki{a b:List G}(h:cP a b<0)(h1:bB a=bB b)(d:cK a=cK b):gD a<gD b:=by
 rw[JX]at h;have k:cJ (gi a 3).str (gi b 3).str=0:=lx.2 h1;have q:cJ (gi a 2).str (gi b 2).str=0:=lx.2 (congrArg (·.1) d);have B:ew (gi a 1).int (gi b 1).int=0:=TL.2 (congrArg (·.2) d);rw[k,q,B]at h;refine se.1 ?_;by_cases e:ew (gi a 0).int (gi b 0).int=0
 ·rw [e] at h
  exact absurd h (by decide)
 ·unfold fD at h
  rw[if_pos e]at h;exact h
theorem yE(g:ByteArray)(X:List (List G))(c:ByteArray)(k:GK):(dc g X c).filter (fun z=>(bB z).toList==g.toList&&decide (cK z=k))=(X.filter fun z=>(bB z).toList==c.toList&&decide (cK z=k)).map (fY g):=by
 unfold dc;rw[amp,List.filter_filter];congr 1;refine List.filter_congr fun z _=>?_;have d:bB (fY g z)=g:=rfl;have q:cK (fY g z)=cK z:=rfl;simp only[Dg,d,q,oW];simp[Bool.and_comm]
section
variable {X:List (List G)} (hX:yD X) (hM:∀ z∈X,iJ z) (g c:ByteArray)
include hX in
theorem U4(k:GK){p q:Nat}(I:p<q) (d:q<(X.filter fun z=>(bB z).toList==c.toList&&decide (cK z=k)).length) :
  gD ((X.filter fun z=>(bB z).toList==c.toList&&decide (cK z=k)).getD p [])<gD ((X.filter fun z=>(bB z).toList==c.toList&&decide (cK z=k)).getD q []):=by
 have B:p<(X.filter fun z=>(bB z).toList==c.toList&&decide (cK z=k)).length:=by omega
 have h:=y8.1 (hX.filter fun z=>(bB z).toList==c.toList&&decide (cK z=k)) p q B d I;simp only[bz,bf B,bf d,ga];have key:∀ z:List G,((bB z).toList==c.toList&&decide (cK z=k))=true→bB z=c∧cK z=k:=fun z J=>by
  simpa only[oW,az,decide_eq_true_eq]using J
 have m1:=key _ (nZ.1 (mN B)).2;have m2:=key _ (nZ.1 (mN d)).2;exact aki h (m1.1.trans m2.1.symm) (m1.2.trans m2.2.symm)
include hX in
theorem JY(k:GK){p q:Nat}(B:p<(cS X c k).length)(M:q<(cS X c k).length) :
  ff X (dc g X c) (cS X c k) (cS (dc g X c) g k) 0 p q=true↔p=q:=by
 have hl:(cS (dc g X c) g k).length=(cS X c k).length:=by rw[qB,yE,cD,←qB]
 have W:=ve B;have N:=ve (A:=dc g X c) (s:=g) (k:=k) (p:=q) (by omega);rw[yE]at N;have V:=B;have J:=M;rw[qB]at V J;have hz:((X.filter fun z=>(bB z).toList==c.toList&&decide (cK z=k)).map (fY g)).getD q []=fY g ((X.filter fun z=>(bB z).toList==c.toList&&decide (cK z=k)).getD q []):=by
  simp only[bz,bU,bf J,eg,ga]
 rw[hz]at N;unfold ff;rw[W,N,Uw];have O:=Ux (A:=X) (s:=c) (k:=k) B;have U:=Ux (A:=X) (s:=c) (k:=k) M;rw[ve B]at O;rw[ve M]at U;generalize I:(X.filter fun z=>(bB z).toList==c.toList&&decide (cK z=k))=P at *;have b1:aR (fY g (P.getD q []))=aR (P.getD q []):=rfl;have b2:lB (fY g (P.getD q []))=lB (P.getD q []):=rfl;have b3:jn (P.getD p []) (fY g (P.getD q []))=jn (P.getD p []) (P.getD q []):=rfl;rw[b1,b2,b3,O.1,O.2,U.1,U.2];constructor
 ·rintro ⟨_, _, h⟩
  unfold jn at h;rcases Dk p q with d|d|d
  ·have := U4 hX c k d (by rw [I]; exact J)
   rw[I]at this;split at h<;>omega
  ·exact d
  ·have := U4 hX c k d (by rw [I]; exact V)
   rw[I]at this;split at h<;>omega
 ·rintro rfl
  refine⟨rfl,rfl,?_⟩;unfold jn;split<;>omega
include hX in
theorem U5{i:Nat}(hi:i<X.length)(I:bB (X.getD i [])=c):∃ j:Nat,[G.i (i:Int),.i (j:Int)]∈jN X (dc g X c) g c 0:=by
 obtain⟨k,hk⟩:∃ k,k=cK (X.getD i []):=⟨_,rfl⟩
 have J:(cS (dc g X c) g k).length=(cS X c k).length:=by rw[qB,yE,cD,←qB]
 have q:i∈cS X c k:=mz.2 ⟨hi,by
  show (bB (X.getD i [])).toList==c.toList
  rw[oW,decide_eq_true I],hk.symm⟩
 obtain⟨p,d,B⟩:=mC q;refine⟨(cS (dc g X c) g k).getD p 0,?_⟩;refine(CV _ _ _ _ _).mem_iff.2 (Uy.2 ⟨k,?_⟩);unfold kf;refine cF.2 ⟨(p,p),?_,?_⟩
 ·unfold CS
  rw[J];refine U2 (T9 _ _ _ _) (fun a b ha hb=>JY hX g c k ha hb) (fun a ha=>?_) _ 0 (by omega) p (by omega) d;have ho:=(JY hX g c k ha ha).2 rfl;unfold ff at ho;rw[Uw]at ho;have M:=ho.2.2;unfold wJ;have:0≤jn (iK X (cS X c k) a) (iK (dc g X c) (cS (dc g X c) g k) a):=by
   unfold jn;split<;>omega
  omega
 ·unfold nJ
  simp only[bz,bf d,ga,B]
include hX in
theorem akj{i j:Nat}(h:[G.i (i:Int),.i (j:Int)]∈jN X (dc g X c) g c 0):(dc g X c).getD j []=fY g (X.getD i []):=by
 obtain⟨k,hk⟩:=Uy.1 ((CV _ _ _ _ _).mem_iff.1 h);unfold kf at hk;obtain⟨⟨p,q⟩,N,he⟩:=cF.1 hk;obtain⟨h1,B,O⟩:=yv N;have W:(cS (dc g X c) g k).length=(cS X c k).length:=by rw[qB,yE,cD,←qB]
 have B:q<(cS (dc g X c) g k).length:=B;have h1:p<(cS X c k).length:=h1;have e:p=q:=(JY hX g c k h1 (by omega)).1 O;subst e;unfold nJ at he;simp only[C7,G.i.injEq,and_true]at he;obtain⟨I,J⟩:=he;have I:(cS X c k).getD p 0=i:=by omega
 have J:(cS (dc g X c) g k).getD p 0=j:=by omega
 have U:=ve h1;have d:=ve B;rw[yE]at d;have M:=h1;rw[qB]at M;have V:((X.filter fun z=>(bB z).toList==c.toList&&decide (cK z=k)).map (fY g)).getD p []=fY g ((X.filter fun z=>(bB z).toList==c.toList&&decide (cK z=k)).getD p []):=by
  simp only[bz,bU,bf M,eg,ga]
 rw[V,←U]at d;unfold iK at d;rw[I,J]at d;exact d
end
theorem JZ{α:Type}{P:List α→Prop}(nil:P [])(snoc:∀ X z,P X→P (X++[z]))(X:List α):P X:=by
 rw[←List.reverse_reverse X]
 induction X.reverse with
 |nil=>exact nil
 | cons z l d =>
  rw[List.reverse_cons];exact snoc _ _ d
def hasB(cs:List ByteArray)(c:ByteArray):Bool:=cs.any fun x=>decide (x=c)
theorem sv{cs:List ByteArray}{c:ByteArray}:hasB cs c=true↔c∈cs:=by
 unfold hasB;rw[iQ];constructor
 ·rintro ⟨x, d, e⟩
  rw[←of_decide_eq_true e];exact d
 ·exact fun h=>⟨c,h,decide_eq_true rfl⟩
def jP(cs:List ByteArray)(c:ByteArray):List ByteArray:=if hasB cs c=true then cs else cs++[c]
def df(X:List (List G)):List ByteArray:=X.foldl (fun cs z=>jP cs (bB z)) []
theorem yF(X:List (List G))(z:List G):df (X++[z])=jP (df X) (bB z):=by
 unfold df;rw[ze];rfl
theorem akk{cs:List ByteArray}{c x:ByteArray}:x∈jP cs c↔x∈cs∨x=c:=by
 unfold jP;split
 ·rename_i h
  rw[sv]at h;exact⟨fun d=>.inl d,fun d=>d.elim id fun e=>e▸h⟩
 ·simp
theorem vf(X:List (List G)):∀ c,c∈df X↔∃ z∈X,bB z=c:=by
 induction X using JZ with
 |nil=>intro c; simp[df]
 | snoc X z k =>
  intro c;rw[yF,akk,k];constructor
  ·rintro (⟨y, d, rfl⟩ | rfl)
   ·exact⟨y,by simp[d],rfl⟩
   ·exact⟨z,by simp,rfl⟩
  ·rintro ⟨y, d, rfl⟩
   rcases cQ.1 d with d|d
   ·exact .inl ⟨y,d,rfl⟩
   ·rw [po.1 d]
    exact .inr rfl
theorem U6(X:List (List G)):(df X).Nodup:=by
 induction X using JZ with
 |nil=>exact List.nodup_nil
 | snoc X z d =>
  rw[yF];unfold jP;split
  ·exact d
  ·rename_i h
   rw[sv]at h;rw[V6];refine⟨d,by simp,fun a ha b hb e=>?_⟩;rw[po]at hb;exact h (hb▸e▸ha)
theorem U7(X:List (List G)):(df X).length≤X.length:=by
 induction X using JZ with
 |nil=>exact aD _
 | snoc X z d =>
  rw[yF,eD];unfold jP;split
  ·simp only[sG]; omega
  ·rw[eD]; simp only[sG]; omega
def eQ(f:ByteArray→List (List G)):Nat→List ByteArray→List (List G)
 |_,[]=>[]
 |i,c::cs=>[.l [[.s c]],.l [[.l (f c)]],.i (i:Int),.t true]::eQ f (i+1) cs
theorem U8{f d:ByteArray→List (List G)}:∀{cs:List ByteArray} {i:Nat},(∀ c∈cs,f c=d c)→eQ f i cs=eQ d i cs
 | [],_,_=>rfl
 | c::cs,i,h=>by
  rw[eQ,eQ,h c cU,U8 fun x k=>h x (dw _ k)]
theorem U9(f:ByteArray→List (List G))(c:ByteArray):∀(cs:List ByteArray) (i:Nat),fI [.str] (eQ f i cs) [.s c]=true
 | [],_=>rfl
 | x::cs,i=>by
  rw[eQ,nM,U9 f c cs (i+1)];show (bif aI [.str] [.s c] [.s x] then true else true)=true
  cases aI [.str] [.s c] [.s x]<;>rfl
theorem U_{f:ByteArray→List (List G)}{c:ByteArray}:∀{cs:List ByteArray} {i:Nat},(c∉cs→f c=[])→eW [.str] (eQ f i cs) [.s c]=f c
 | [],_,h=>(h (by simp)).symm
 | x::cs,i,h=>by
  rw[eQ,nL];show (bif aI [.str] [.s c] [.s x] then f x else _)=_
  rw[lD];by_cases e:c=x
  ·rw[decide_eq_true e,e]; rfl
  ·rw [decide_eq_false e, cond_false]
   exact U_ fun d=>h (by simp[e,d])
theorem U'(f:ByteArray→List (List G))(c:ByteArray):∀(cs:List ByteArray) (i:Nat),du [.str] (eQ f i cs) [.s c]=hasB cs c
 | [],_=>rfl
 | x::cs,i=>by
  rw[eQ,nu,U' f c cs (i+1)];show (aI [.str] [.s c] [.s x]||_)=(decide (x=c)||hasB cs c)
  rw[lD];congr 1;rw[mI,decide_eq_true_eq,decide_eq_true_eq];exact⟨fun h=>h.symm,fun h=>h.symm⟩
theorem Va(ks:List Kd)(k key:List G):∀ rows:List (List G),du ks (jB ks rows k) key=du ks rows key
 | []=>rfl
 | r::rs=>by
  rw[yw];cases aI ks k (gi r 0).row with
  | true =>
   rw[cond_true,nu,nu];rfl
  |false=>rw[cond_false,nu,nu,Va ks k key rs]
theorem Vb{f:ByteArray→List (List G)}{c:ByteArray}{v:List (List G)}{k:Nat}:∀{cs:List ByteArray} {i:Nat},cs.Nodup→(c∉cs→k=i+cs.length) →
  la [.str] (jB [.str] (eQ f i cs) [.s c]) [.s c] v k=eQ (fun x=>if x=c then v else f x) i (jP cs c)
 | [],i,_,h=>by
  have e:=h (by simp);simp only[lN,Nat.add_zero]at e;subst e;have ha:jP [] c=[c]:=by unfold jP; rw[if_neg (by simp[hasB])]; rfl
  rw[ha];simp only[eQ,if_true];rfl
 | x::cs,i,hn,h=>by
  obtain⟨q,hn⟩:=lL.1 hn;rw[eQ,yw];show la [.str] (bif aI [.str] [.s c] [.s x] then _ else _) _ _ _=_
  rw[lD];by_cases e:c=x
  ·subst e
   rw[decide_eq_true rfl,cond_true,yx];show (bif aI [.str] [.s c] [.s c] then _ else _)=_
   rw[lD,decide_eq_true rfl,cond_true];have ha:jP (c::cs) c=c::cs:=by unfold jP; rw[if_pos (sv.2 cU)]
   rw[ha,eQ];simp only[if_true];refine congrArg _ (U8 fun y B=>?_);have:y≠c:=fun e=>q (e▸B);simp only[if_neg this]
  ·rw [decide_eq_false e, cond_false, yx]
   show (bif aI [.str] [.s c] [.s x] then _ else _)=_
   rw[lD,decide_eq_false e,cond_false,Vb hn fun d=>by
    have:=h (by simp[e,d]);simp only[cn]at this;omega]
   have ha:jP (x::cs) c=x::jP cs c:=by
    unfold jP;by_cases d:c∈cs
    ·rw[if_pos (sv.2 d),if_pos (sv.2 (dw _ d))]
    ·rw [if_neg (fun h => d (sv.1 h)), if_neg (fun h => (bN.1 (sv.1 h)).elim e d)]
     rfl
   rw[ha,eQ];have:x≠c:=fun h=>e h.symm;simp only[if_neg this]
def dV(g:ByteArray)(X p:List (List G)):List (List G):=[.l [[.s g]],.l [[.l X]],.i 0,.t false,.t true]::eQ (dc g p) 1 (df p)
theorem Vc{g:ByteArray}{p:List (List G)}{c:ByteArray}(h:c∉df p):dc g p c=[]:=by
 unfold dc;rw[List.filter_eq_nil_iff.2 fun z d=>by
  simp only[decide_eq_true_eq];exact fun e=>h ((vf p c).2 ⟨z,d,e⟩)]
 rfl
theorem akl(g:ByteArray)(p:List (List G))(z:List G):dc g (p++[z])=fun x=>if x=bB z then dc g p (bB z)++[fY g z] else dc g p x:=by
 funext x
 unfold dc;rw[amm,iP];by_cases e:x=bB z
 ·subst e
  simp
 ·rw [if_neg e]
  have:¬ bB z=x:=fun h=>e h.symm;simp[this]
section
variable (g:ByteArray) (X p:List (List G)) (z:List G) (aA:bB z≠g)
include aA
theorem yG:aI [.str] [.s (bB z)] [.s g]=false:=by rw[lD]; exact decide_eq_false aA
theorem akm:fI [.str] (dV g X p) [.s (bB z)]=true:=by
 unfold dV;rw[nM];show (bif aI [.str] [.s (bB z)] [.s g] then _ else _)=_
 rw[yG g z aA,cond_false,U9]
theorem akn:eW [.str] (dV g X p) [.s (bB z)]=dc g p (bB z):=by
 unfold dV;rw[nL];show (bif aI [.str] [.s (bB z)] [.s g] then _ else _)=_
 rw[yG g z aA,cond_false,U_ Vc]
theorem ako:jB [.str] (dV g X p) [.s (bB z)]=[.l [[.s g]],.l [[.l X]],.i 0,.t false,.t true]::jB [.str] (eQ (dc g p) 1 (df p)) [.s (bB z)]:=by
 unfold dV;rw[yw];show (bif aI [.str] [.s (bB z)] [.s g] then _ else _)=_
 rw[yG g z aA,cond_false]
theorem akp:la [.str] (jB [.str] (dV g X p) [.s (bB z)]) [.s (bB z)] (dc g p (bB z)++[fY g z]) ((df p).length+1)=dV g X (p++[z]):=by
 rw[ako g X p z aA,yx];show (bif aI [.str] [.s (bB z)] [.s g] then _ else _)=_
 rw[yG g z aA,cond_false,Vb (U6 p) (fun _=>by omega)];unfold dV;rw[yF,akl]
theorem akq:dM [.str] (jB [.str] (dV g X p) [.s (bB z)]) [.s (bB z)] ((df p).length+1)=(df (p++[z])).length+1:=by
 unfold dM;rw[Va];unfold dV;rw[nu];show (bif (aI [.str] [.s (bB z)] [.s g]||_) then _ else _)=_
 rw[yG g z aA,mH,U',yF];unfold jP;cases h:hasB (df p) (bB z)with
 |true=>rw[if_pos rfl]; rfl
 |false=>rw[if_neg (by simp),eD]; rfl
end
theorem J0(g:ByteArray)(p:List (List G))(c:ByteArray):(dc g p c).length≤p.length:=by
 unfold dc;rw[cD];exact amn _ _
theorem Vd(g:ByteArray)(X:List (List G))(hg:∀ z∈X,bB z≠g)(hn:X.length≤1000):∀(q p:List (List G)),p++q=X →
  bq xT [.l (dV g X p),.i (((df p).length+1:Nat):Int),.s g,.l X,.i (X.length:Int),.i (p.length:Int)] (q.length+1) fun x d=>x=0∧d=[.l (dV g X X),.i (((df X).length+1:Nat):Int)]
 | [],p,k=>by
  rw[dh]at k;subst k;refine bq.stop (x:=0) (aa.toEq ?_) ⟨rfl,rfl⟩;unfold xT
  (dsimp +instances only[Aa,Ab,Ac,Ad,Ae,Af,Ag])
  simp only[ba];exact aa.n (aa.some rfl)
 | z::q,p,k=>by
  have I:=congrArg y5 k;rw[eD,cn]at I;have J:X.getD p.length []=z:=by rw[←k]; simp
  have B:z∈X:=by rw[←k]; simp
  have aA:=hg z B;have N:=J0 g p (bB z);refine bq.next (d1:=[.l (dV g X (p++[z])),.i (((df (p++[z])).length+1:Nat):Int),.s g,.l X,.i (X.length:Int),.i ((p++[z]).length:Int)]) (aa.toEq ?_) (Vd g X hg hn q (p++[z]) (by rw[←k]; simp))
  unfold xT
  (dsimp +instances only[Aa,Ab,Ac,Ad,Ae,Af,Ag])
  simp only[ba,J];rw[show (gi z 3).str=bB z from rfl,akm g X p z aA,akn g X p z aA];have M:dc g p (bB z)++[[.i (gi z 0).int,.i (gi z 1).int,.s (gi z 2).str,.s g,.i (gi z 5).int,.i (gi z 4).int,.s (gi z 7).str,.s (gi z 6).str]]=dc g p (bB z)++[fY g z]:=rfl;simp only[M];rw[akp g X p z aA,akq g X p z aA];refine aa.p (aa.p (aa.pos rfl (aa.pos (by rw[mJ,iO,decide_eq_true_eq]; omega) ?_)));refine aa.pos ?_ ?_
  ·rw [eD, sG]
   exact mJ _
  ·refine aa.p (aa.some ?_)
   simp only[eD,sG,Int.natCast_add,V0]
theorem Ve:∀{a b:List UInt8},eT a b<0→a<b
 | [],[],h=>by simp[eT]at h
 | [],b::k,_=>List.nil_lt_cons b k
 |a::l,[],h=>by simp[eT]at h
 | a::l,b::k,h=>by
  simp only[eT]at h;rw[List.cons_lt_cons_iff];by_cases h1:a<b
  ·exact .inl h1
  ·rw [if_neg h1] at h
   by_cases d:b<a
   ·rw [if_pos d] at h
    omega
   ·rw [if_neg d] at h
    exact .inr ⟨Dj (pv.1 d) (pv.1 h1),Ve h⟩
theorem Vf:∀ a b:List UInt8,mD a b=decide (eT a b<0)
 | [],[]=>by simp[mD,eT]
 | [],_::_=>by simp[mD,eT]
 |_::_,[]=>by simp[mD,eT]
 | a::x,b::y=>by
  simp only[mD,eT,Vf x y];by_cases h1:a<b
  ·simp[h1]
  ·by_cases d : b < a
   ·have aA : ¬ a = b := fun e => h1 (by rw [e] at d ⊢; exact d)
    simp[h1,d,aA]
   ·have e : a = b := Dj (pv.1 d) (pv.1 h1)
    simp[h1,d,e]
theorem J1(l:List ByteArray):(iG (l.map fun s=>[G.s s])).Perm (l.map fun s=>[G.s s]):=by
 unfold iG;refine((V7 _ _).map _).trans ?_;rw[mF,mF];exact pq _
theorem akr{l:List ByteArray}(hn:l.Nodup):(iG (l.map fun s=>[G.s s])).Pairwise fun a b=>cJ (gi a 0).str (gi b 0).str<0:=by
 have tr:∀ a b c:List UInt8,decide (a≤b)=true→decide (b≤c)=true→decide (a≤c)=true:=fun a b c h1 d=>by simp only[decide_eq_true_eq]at *; exact amq h1 d
 have to:∀ a b:List UInt8,(decide (a≤b)||decide (b≤a))=true:=fun a b=>by simp only[vp,decide_eq_true_eq]; exact amr a b
 have k:(iG (l.map fun s=>[G.s s])).Nodup:=(J1 l).nodup_iff.2 (by
  unfold Dm at *;rw[pr];exact hn.imp fun {a b} h e=>h (by simpa using e))
 have hr:(iG (l.map fun s=>[G.s s])).Pairwise fun a b=>a≠b→cJ (gi a 0).str (gi b 0).str<0:=by
  unfold iG;rw[pr];refine(V8 tr to _).imp fun {a b} h aA=>?_;simp only[decide_eq_true_eq]at h;have B:¬ cJ (⟨b.toArray⟩:ByteArray) (⟨a.toArray⟩:ByteArray)<0:=fun d=>List.not_lt.2 h (Ve d);have I:=gB.flip (⟨a.toArray⟩:ByteArray) (⟨b.toArray⟩:ByteArray);by_cases q:cJ (⟨a.toArray⟩:ByteArray) (⟨b.toArray⟩:ByteArray)=0
  ·exact(aA (by rw[gB.eq _ _ q])).elim
  ·show cJ (⟨a.toArray⟩ : ByteArray) (⟨b.toArray⟩ : ByteArray) < 0
   omega
 unfold Dm at k;exact(List.pairwise_and_iff.2 ⟨k,hr⟩).imp fun h=>h.2 h.1
theorem aks{l l':List ByteArray}(h:l.Perm l'):iG (l.map fun s=>[G.s s])=iG (l'.map fun s=>[G.s s]):=by
 have tr:∀ a b c:List UInt8,decide (a≤b)=true→decide (b≤c)=true→decide (a≤c)=true:=fun a b c h1 d=>by simp only[decide_eq_true_eq]at *; exact amq h1 d
 have to:∀ a b:List UInt8,(decide (a≤b)||decide (b≤a))=true:=fun a b=>by simp only[vp,decide_eq_true_eq]; exact amr a b
 unfold iG;congr 1;have k:(((l.map fun s=>[G.s s]).map fun r=>(gi r 0).str.data.toList).mergeSort fun x y=>decide (x≤y)).Perm (((l'.map fun s=>[G.s s]).map fun r=>(gi r 0).str.data.toList).mergeSort fun x y=>decide (x≤y)) :=
  (V7 _ _).trans (((h.map _).map _).trans (V7 _ _).symm)
 refine k.eq_of_pairwise (le:=fun a b=>decide (a≤b)=true) (fun a b _ _ h1 d=>?_) (V8 tr to _) (V8 tr to _);simp only[decide_eq_true_eq]at h1 d;exact List.le_antisymm h1 d
def lF(r:List G):ByteArray:=(gi (gi r 0).row 0).str
theorem Vg(f:ByteArray→List (List G)):∀(cs:List ByteArray) (i:Nat),(eQ f i cs).map lF=cs
 | [],_=>rfl
 | c::cs,i=>by
  rw[eQ,dj,Vg f cs (i+1)];rfl
theorem Vh(g:ByteArray)(X p:List (List G)):(dV g X p).map lF=g::df p:=by
 unfold dV;rw[dj,Vg];rfl
theorem Vi(f:ByteArray→List (List G)):∀(cs:List ByteArray) (i:Nat),(eQ f i cs).map da=(pk i cs.length)
 | [],_=>rfl
 | c::cs,i=>by
  rw[eQ,dj,Vi f cs (i+1),cn,yX];rfl
theorem akt(g:ByteArray)(X p:List (List G)):ls (dV g X p) ((df p).length+1)=true:=by
 have hb:(dV g X p).map da=pk 0 ((df p).length+1):=by
  unfold dV;rw[dj,Vi,yX];rfl
 unfold ls;rw[hb,JL _ List.nodup_range',iO,dB];intro r hr;have:da r∈pk 0 ((df p).length+1):=by rw[←hb]; exact List.mem_map_of_mem hr
 rw[List.mem_range'_1]at this;rw[iR];omega
theorem Vj(f:ByteArray→List (List G)):∀(cs:List ByteArray) (i:Nat),ua (eQ f i cs)=true
 | [],_=>rfl
 | c::cs,i=>by
  have:=Vj f cs (i+1);unfold ua at *;rw[eQ,lJ,this];rfl
theorem aku(g:ByteArray)(X p:List (List G)):ua (dV g X p)=true:=by
 have:=Vj (dc g p) (df p) 1;unfold ua at *;unfold dV;rw[lJ,this];rfl
theorem akv(g:ByteArray)(X p:List (List G)):(dV g X p).length=(df p).length+1:=by
 rw[←cD (f:=lF),Vh,cn]
def fE(g:ByteArray)(X:List (List G))(k:ByteArray):List (List G):=if k=g then X else dc g X k
theorem Vk{f:ByteArray→List (List G)}{c:ByteArray}:∀{cs:List ByteArray} {i:Nat},(c∉cs→f c=[])→bZ [.str] (eQ f i cs) [.s c] [.l []]=[.l (f c)]
 | [],_,h=>by rw[eQ,xm,h (by simp)]
 | x::cs,i,h=>by
  rw[eQ,ui];show (bif aI [.str] [.s c] [.s x] then [G.l (f x)] else _)=_
  rw[lD];by_cases e:c=x
  ·rw[decide_eq_true e,e]; rfl
  ·rw [decide_eq_false e, cond_false]
   exact Vk fun d=>h (by simp[e,d])
theorem akw(g:ByteArray)(X:List (List G))(k:ByteArray):bZ [.str] (dV g X X) [.s k] [.l []]=[.l (fE g X k)]:=by
 unfold dV fE;rw[ui];show (bif aI [.str] [.s k] [.s g] then [G.l X] else _)=_
 rw[lD];by_cases e:k=g
 ·rw[decide_eq_true e,if_pos e]; rfl
 ·rw[decide_eq_false e,cond_false,if_neg e,Vk Vc]
def eR(g:ByteArray)(X:List (List G)):List (List G):=iG ((g::df X).map fun s=>[G.s s])
def yH(g:ByteArray)(X:List (List G))(r:List G):List G:=[.s (gi r 0).str,.l (fE g X (gi r 0).str)]
def jo(g:ByteArray)(X:List (List G)):List (List G):=(eR g X).map (yH g X)
theorem Vl(g:ByteArray)(X:List (List G)):(eR g X).length=(df X).length+1:=by
 unfold eR;rw[F7,cD,cn]
theorem Vm(rows:List (List G))(k a7:Nat):∀(q out:List (List G)),out.length+q.length≤100000 →
  cO uF (fun d=>(gi d 3).int.toNat) q [.l rows,.i (k:Int),.l out,.i (a7:Int)]=some [.l rows,.i (k:Int),.l (out++q.map fun r=>[G.s (lF r)]),.i (a7:Int)]
 | [],out,_=>by simp[cO]
 | r::q,out,B=>by
  simp only[cn]at B;have st:uF r [.l rows,.i (k:Int),.l out,.i (a7:Int)]=some [.l rows,.i (k:Int),.l (out++[[G.s (lF r)]]),.i (a7:Int)]:=by
   refine aa.toEq ?_;unfold uF
   (dsimp +instances only[Aa,Ab,Ac,Ad,Ae,Af,Ag])
   simp only[ba];exact aa.pos (by rw[mJ,iO,decide_eq_true_eq]; omega) (aa.pos (by simp) (aa.some rfl))
  rw[Uu st rfl,Vm rows k a7 q _ (by rw[eD,sG]; omega)];rw[dj,gT];rfl
theorem akx(g:ByteArray)(X:List (List G))(q:Nat)(hn:(eR g X).length≤1000):gN xU [.l (dV g X X),.i (q:Int),.l [],.l (eR g X),.i ((eR g X).length:Int),.i 0] fun x d=>x=0∧d=[.l (dV g X X),.i (q:Int),.l (jo g X)]:=by
 refine(Bv (σ:=List (List G)) (fun s i=>[.l (dV g X X),.i (q:Int),.l s,.l (eR g X),.i ((eR g X).length:Int),.i (i:Int)]) (eR g X) (fun s=>(0,[.l (dV g X X),.i (q:Int),.l s])) (fun s i=>s=((eR g X).take i).map (yH g X)) [] (by omega) rfl ?_ ?_).mono ?_
 ·rintro s i z k hi B hm I
  have J:((eR g X).take (i+1)).map (yH g X)=s++[yH g X z]:=by rw[I,iP,k]; rfl
  have M:s.length≤1000:=by rw[k,cD,jq]; omega
  unfold xU
  (dsimp +instances only[Aa,Ab,Ac,Ad,Ae,Af,Ag])
  simp only[ba,di,B];rw[akw];exact aa.p (aa.p (aa.p (aa.pos (by rw[mJ,iO,decide_eq_true_eq]; omega) (aa.p (aa.pos (by simp) (aa.some ⟨s++[yH g X z],rfl,J.symm⟩))))))
 ·rintro s k
  unfold xU
  (dsimp +instances only[Aa,Ab,Ac,Ad,Ae,Af,Ag])
  simp only[ba];exact aa.n (aa.pos (by simp) (aa.some rfl))
 ·rintro x d ⟨s, k, rfl, rfl⟩
  refine⟨rfl,?_⟩;rw[k,List.take_length];rfl
theorem aky(g:ByteArray)(X:List (List G))(hg:∀ z∈X,bB z≠g)(hn:X.length≤900):Cd [.s g,.l X]=some [.l (jo g X)]:=by
 have M:=U7 X;have hk:=Vl g X;refine aa.toEq ?_;unfold Cd
 (dsimp +instances only[Aa,Ab,Ac,Ad,Ae,Af,Ag])
 refine aa.loop ((Vd g X hg (by omega) X [] rfl).to (by omega)) rfl ?_;rintro _ _ ⟨rfl,rfl⟩
 (dsimp +instances only[Aa,Ab,Ac,Ad,Ae,Af,Ag])
 simp only[ba];refine aa.pos (by rw[aku]; rfl) ?_;have B:H7 [.l (dV g X X),.i (((df X).length+1:Nat):Int),.l []]=some (some 0,[.l (dV g X X),.i (((df X).length+1:Nat):Int),.l (jo g X)]):=by
  show jG Cb Cc (dV g X X) ((((df X).length+1:Nat):Int).toNat) _=_
  rw[ba];refine ON (akt g X X) fun b p k=>⟨rfl,?_⟩
  have J:p.length=(df X).length+1:=by rw[k.length_eq,akv]
  refine⟨_,Vm (dV g X X) ((df X).length+1) b p [] (by simp; omega),?_⟩;rw[ki];have I:iG (p.map fun r=>[G.s (lF r)])=eR g X:=by
   have e:(p.map fun r=>[G.s (lF r)])=(p.map lF).map fun s=>[G.s s]:=by rw[mF]; rfl
   rw[e];unfold eR;exact aks (by rw[←Vh g X X]; exact k.map lF)
  have h1:xQ [.l (p.map fun r=>[G.s (lF r)])]=some [.l (eR g X)]:=by
   unfold xQ Bu
   (dsimp +instances only[Aa,Ab,Ac,Ad,Ae,Af,Ag])
   rw[show eh (p.map fun r=>[G.s (lF r)]).length 1000000=true by simp; omega,I];rfl
  refine aa.toEq ?_;unfold Cc
  (dsimp +instances only[Aa,Ab,Ac,Ad,Ae,Af,Ag])
  simp only[ba];refine aa.nt (aa.eq h1) (by simp) ?_;rintro _ rfl
  (dsimp +instances only[Aa,Ab,Ac,Ad,Ae,Af,Ag])
  have q:(p.map fun r=>[G.s (lF r)]).length=(eR g X).length:=by rw[cD]; omega
  rw[q];refine aa.loop (akx g X _ (by omega)) (by simp) ?_;rintro _ _ ⟨rfl,rfl⟩
  (dsimp +instances only[Aa,Ab,Ac,Ad,Ae,Af,Ag])
  simp only[ba];exact aa.pos (by simp) (aa.some rfl)
 refine aa.tail (P:=fun x d=>x=0∧d=[.l (dV g X X),.i (((df X).length+1:Nat):Int),.l (jo g X)]) ⟨_,B,0,rfl,rfl,rfl⟩ rfl ?_;rintro _ _ ⟨rfl,rfl⟩
 (dsimp +instances only[Aa,Ab,Ac,Ad,Ae,Af,Ag])
 exact aa.pos (by simp) (aa.some rfl)
theorem Vn:∀{l:List (List G)} {y:List G},eH (some y) l=0→(y::l).Pairwise fun a b=>cP a b<0
 | [],y,_=>by simp
 | x::q,y,h=>by
  simp only[eH]at h;split at h
  ·contradiction
  ·split at h
   ·cases h
   ·rename_i h0
    have B:=Vn h;have k:cP y x<0:=by omega
    refine pt.2 ⟨fun z d=>?_,B⟩;rcases bN.1 d with rfl|d
    ·exact k
    ·exact ake _ _ _ k ((pt.1 B).1 z d)
theorem akz{l:List (List G)}(h:gO l=0):l.Pairwise fun a b=>cP a b<0:=by
 unfold gO at h;split at h
 ·cases h
 ·cases l with
  |nil=>exact List.Pairwise.nil
  | cons x q =>
   simp only[eH]at h;split at h
   ·contradiction
   ·exact Vn h
def fp(g:ByteArray)(X:List (List G))(i:Nat):ByteArray:=(gi ((eR g X).getD i []) 0).str
theorem akA(a b:ByteArray)(h:cJ b a<0):(mD a.toList b.toList||(a.toList==b.toList))=false:=by
 have k:=gB.flip b a;rw[oW,sF,sF,Vf];have h1:¬ eT a.data.toList b.data.toList<0:=fun d=>by
  have:cJ a b<0:=d;omega
 rw[decide_eq_false h1,decide_eq_false (fun e=>by
  rw[e,lx.2 rfl]at h;omega)]
 rfl
theorem akB(g:ByteArray){a b:List G}(h:cP a b<0)(d:bB a=bB b):cP (fY g a) (fY g b)<0:=by
 rw[JX]at h⊢;have k:cJ (gi a 3).str (gi b 3).str=0:=lx.2 d;have q:cJ (gi (fY g a) 3).str (gi (fY g b) 3).str=0:=lx.2 rfl;rw[k]at h;rw[q];exact h
section
variable {g:ByteArray} {X:List (List G)} (yI:g∈calls) (bF:jL g=true) (hX:yD X) (hC:∀ z∈X,dT z) (hF:∀ z∈X,dF z=0) (hg:∀ z∈X,bB z≠g)
theorem akC(yI:g∈calls){z:List G}(h:dT z):dT (fY g z):=by
 obtain⟨t,m,b,c,s,h,x,y,rfl,h1,d,k,q,B,M,I,J⟩:=h;exact⟨t,m,b,g,h,s,y,x,rfl,h1,d,q,k,B,yI,J,I⟩
theorem akD(bF:jL g=true){z:List G}(h:dF z=0):dF (fY g z)=0:=by
 rw[JW]at h⊢;obtain⟨h1,d,k,J,q,B,I⟩:=h;exact⟨h1,d,k,bF,B,q,I.symm⟩
theorem Vo{i:Nat}(hi:i<(eR g X).length):fp g X i∈g::df X:=by
 have hm:(eR g X).getD i []∈eR g X:=nI hi;have:=(J1 (g::df X)).mem_iff.1 hm;obtain⟨s,d,e⟩:=cF.1 this;unfold fp;rw[←e];exact d
include yI bF hX hC hF hg in
theorem akE(hn:X.length≤39):su (jo g X) (fp g X) (fun i=>fE g X (fp g X i)):=by
 have hk:=Vl g X;have hf:=U7 X;have hl:(jo g X).length=(eR g X).length:=by unfold jo; rw[cD]
 have V:g∉df X:=fun h=>by
  obtain⟨z,d,e⟩:=(vf X g).1 h;exact hg z d e
 have hr:=akr (l:=g::df X) (lL.2 ⟨V,U6 X⟩);have nP:∀ i j,i<j→j<(jo g X).length→cJ (fp g X i) (fp g X j)<0:=fun i j W hj=>by
  have h1:i<(eR g X).length:=by omega
  have q:j<(eR g X).length:=by omega
  have:=y8.1 hr i j h1 q W;unfold fp;simp only[bz,bf h1,bf q,ga];exact this
 have O:∀ k,∀ z∈fE g X k,dT z:=fun k z d=>by
  unfold fE at d;split at d
  ·exact hC z d
  ·unfold dc at d
   obtain⟨y,I,rfl⟩:=cF.1 d;exact akC yI (hC y (nZ.1 I).1)
 have U:∀ k,(fE g X k).length≤X.length:=fun k=>by
  unfold fE;split
  ·exact aD _
  ·exact J0 g X k
 refine⟨fun i hi=>?_,by omega,fun i hi=>O _,fun i hi=>by have:=U (fp g X i); omega,fun i hi=>?_,nP,fun i h0 hi=>akA _ _ (nP (i-1) i (by omega) hi),fun i hi=>?_⟩
 ·have h1 : i < (eR g X).length := by omega
  unfold jo fp;simp only[bz,bU,bf h1,eg,ga];rfl
 ·rcases bN.1 (Vo (by omega : i < (eR g X).length)) with e | e
  ·rw[e]; exact yI
  ·obtain ⟨z, d, e⟩ := (vf X _).1 e
   rw[←e];obtain⟨t,m,b,c,s,h,x,y,rfl,h1,q,h3,h4,h5,h6,h7,h8⟩:=hC z d;exact h6
 ·have hin := Vo (by omega : i < (eR g X).length)
  by_cases e:fp g X i=g
  ·rw [e]
   have J:fE g X g=X:=by unfold fE; rw[if_pos rfl]
   rw[J];unfold sr;have h1:gO X=0:=U0 hF hX (by omega);have q:jO g X=false:=by
    unfold jO;rw[Dl];intro z d h;rw[oW,decide_eq_true_eq]at h;exact hg z d h
   rw[bF,h1,q];rfl
  ·have hcf : fp g X i ∈ df X := (bN.1 hin).resolve_left e
   obtain⟨z,d,ez⟩:=(vf X _).1 hcf;have hoc:jL (fp g X i)=true:=by
    rw[←ez];exact(JW.1 (hF z d)).2.2.2.1
   have J:fE g X (fp g X i)=dc g X (fp g X i):=by unfold fE; rw[if_neg e]
   rw[J];unfold sr;have h1:gO (dc g X (fp g X i))=0:=by
    refine U0 (fun x B=>?_) ?_ (by have:=J0 g X (fp g X i); omega)
    ·unfold dc at B
     obtain⟨y,I,rfl⟩:=cF.1 B;exact akD bF (hF y (nZ.1 I).1)
    ·unfold dc
     rw[pr];refine((hX.filter _).imp_of_mem fun {a b} ha hb h=>?_);have M:=(nZ.1 ha).2;have N:=(nZ.1 hb).2;rw[decide_eq_true_eq]at M N;exact akB g h (M.trans N.symm)
   have q:jO (fp g X i) (dc g X (fp g X i))=false:=by
    unfold jO;rw[Dl];intro x B h;rw[oW,decide_eq_true_eq]at h;unfold dc at B;obtain⟨y,I,rfl⟩:=cF.1 B;exact e h.symm
   rw[hoc,h1,q];rfl
theorem Vp{k:ByteArray}(hk:k∈g::df X):∃ i,i<(eR g X).length∧fp g X i=k:=by
 have:[G.s k]∈eR g X:=(J1 (g::df X)).mem_iff.2 (cF.2 ⟨k,hk,rfl⟩);obtain⟨i,hi,e⟩:=mC this;refine⟨i,hi,?_⟩;unfold fp;rw[bz,bf hi,ga,e];rfl
end
def fZ(z:List G):List G:=[.s (gi z 3).str,.s (gi z 2).str,.i (gi z 1).int]
def qC(row:List G):Bool:=((gi row 1).int==1)||((gi row 1).int==3)
def seenIn(l out:List (List G))(key:List G):Bool:=(dI out.length).any fun j=>aI [.str,.str,.int .i64] key (fZ (l.getD j []))&&qC (out.getD j [])
theorem Vq(l out:List (List G))(row key:List G):seenIn l (out++[row]) key=(seenIn l out key||(aI [.str,.str,.int .i64] key (fZ (l.getD out.length []))&&qC row)):=by
 unfold seenIn;rw[eD,sG,Dh,List.any_append,zd,List.any_nil,vu];congr 1
 ·rw [mI, iQ, iQ]
  have e:∀ j∈dI out.length,(out++[row]).getD j []=out.getD j []:=fun j d=>by
   rw[fG]at d;rw[bz,cT d,bz]
  constructor
  ·rintro ⟨j, d, h⟩
   exact⟨j,d,by rw[←e j d]; exact h⟩
  ·rintro ⟨j, d, h⟩
   exact⟨j,d,by rw[e j d]; exact h⟩
 ·congr 2
  rw[bz,iM (aD _),nU];rfl
theorem akF{l out:List (List G)}{a b:List G}(h:aI [.str,.str,.int .i64] a b=true):seenIn l out a=seenIn l out b:=by
 unfold seenIn;congr 1
 funext j
 rw[OA h]
def J2(i:Nat):List G:=[.i (i:Int),.i 6,.s ⟨#[]⟩,.i (-1)]
def qD(L:List (List G))(C:Nat→ByteArray)(A:Nat→List (List G))(own:Nat)(off:Int)(out:List (List G)):Prop :=
 ∀ j,j<out.length→(out.getD j []=J2 j∧seenIn (A own) (out.take j) (fZ ((A own).getD j []))=true)∨(vd L C A own off j (out.getD j [])∧seenIn (A own) (out.take j) (fZ ((A own).getD j []))=false)
def J3(l out seen:List (List G)):Prop:=∀ key,(gi (bZ [.str,.str,.int .i64] seen key [.t false]) 0).bool=seenIn l out key
section
variable {L:List (List G)} {C:Nat→ByteArray} {A:Nat→List (List G)} (S:mA L C A) {own:Nat} (ho:own<L.length) (off:Int) (hJ:∀ i,i<(A own).length→CX L C A own off i)
include S ho hJ
theorem akG{i:Nat}(hi:i<(A own).length)(ks:List Nat):aa (Cp [G.l L,.i (own:Int),.i off,.l (dq 0 ks),.l (ks.map fun k=>lE (dH A C own off k)),.i ((ks.length:Nat):Int),.l (dq 0 ks),.l (ks.map fun k=>nO (dH A C own off k)),.i ((ks.length:Nat):Int),.i (i:Int)]) fun g=>∃(q:List Nat) (row:List G),g=[G.l L,.i (own:Int),.i off,.l (dq 0 q),.l (q.map fun k=>lE (dH A C own off k)),.i ((q.length:Nat):Int),.l (dq 0 q),.l (q.map fun k=>nO (dH A C own off k)),.i ((q.length:Nat):Int),.l [row]]∧vd L C A own off i row:=by
 obtain⟨J,hzs⟩:=S.mem ho hi;have hna:=S.na own ho;have hn:=S.n;have hzm:iJ (aU [.int .i64,.int .i64,.str,.str,.int .i64,.int .i64,.str,.str] ((A own).getD i [])):=by rw[J.1]; exact J
 unfold Cp
 (dsimp +instances only[Aa,Ab,Ac,Ad,Ae,Af,Ag])
 simp only[ba,S.get own ho]
 (dsimp +instances only[Aa,Ab,Ac,Ad,Ae,Af,Ag])
 refine aa.p (aa.p ?_);refine aa.call (UQ S _) ?_;rintro _ ⟨p,b,rfl,W,hF⟩
 (dsimp +instances only[Aa,Ab,Ac,Ad,Ae,Af,Ag])
 refine aa.test (fun hb=>?_) fun hb=>?_
 ·obtain ⟨d, B⟩ := W hb
  refine aa.cE (aj7 S ho off d ks) ?_
  (dsimp +instances only[Aa,Ab,Ac,Ad,Ae,Af,Ag])
  obtain⟨n,hn⟩:=aj6 p ks;simp only[ba,JS,hn,aj9 (fun k=>lE (dH A C own off k)) hn];refine aa.pos rfl (aa.pos (aj_ _ hn) ?_);obtain⟨j1,j2⟩:=aka S ho off d i;refine aa.test (fun hm=>?_) fun hm=>?_
  ·obtain ⟨j, M, O, V⟩ := j1 hm
   have hnk:=S.na p d;have hg:bZ [.int .i64] (gi (lE (dH A C own off p)) 0).rows [.i (i:Int)] [.i 0]=[.i (j:Int)]:=V;simp only[hg]
   (dsimp +instances only[Aa,Ab,Ac,Ad,Ae,Af,Ag])
   simp only[ba,S.get own ho,S.get p d]
   (dsimp +instances only[Aa,Ab,Ac,Ad,Ae,Af,Ag])
   obtain⟨hy,hys⟩:=S.mem d M;simp only[J.1,hy.1];refine aa.p (aa.p ?_);refine aa.cE (aj8 _ _) ?_
   (dsimp +instances only[Aa,Ab,Ac,Ad,Ae,Af,Ag])
   refine aa.test (fun N=>?_) fun N=>?_
   ·exact aa.some ⟨mB p ks,_,rfl,1,_,(j:Int),rfl,.inl ⟨p,j,d,M,B,B.symm,rfl,O,.inl ⟨rfl,N⟩⟩⟩
   ·exact aa.some ⟨mB p ks,_,rfl,3,_,(j:Int),rfl,.inl ⟨p,j,d,M,B,B.symm,rfl,O,.inr ⟨rfl,N⟩⟩⟩
  ·obtain ⟨k, j, hk, I, U⟩ := hJ i hi
   have:=S.inj hk d (I.trans B.symm);subst this;exact(j2 hm j U).elim
 ·obtain ⟨k, j, hk, I, U⟩ := hJ i hi
  exact(hF hb k hk I).elim
theorem Vr{len:Nat}(hlen:len=(A own).length):∀(d i:Nat) (ks:List Nat) (seen:List (List G)) (J:Nat) (out:List (List G)),i+d=len→out.length=i→qD L C A own off out→J3 (A own) out seen →
  bq uO [G.l L,.i (own:Int),.i off,.l (dq 0 ks),.l (ks.map fun k=>lE (dH A C own off k)),.i ((ks.length:Nat):Int),.l (dq 0 ks),.l (ks.map fun k=>nO (dH A C own off k)),.i ((ks.length:Nat):Int),.l seen,.i (J:Int),.l out,.l (A own),.i (len:Int),.i (i:Int)] (d+1) fun e g =>
   e=0∧∃(q:List Nat) (out:List (List G)),g=[G.l L,.i (own:Int),.i off,.l (dq 0 q),.l (q.map fun k=>lE (dH A C own off k)),.i ((q.length:Nat):Int),.l (dq 0 q),.l (q.map fun k=>nO (dH A C own off k)),.i ((q.length:Nat):Int),.l out]∧out.length=len∧qD L C A own off out
 | 0,i,ks,seen,J,out,hi,V,O,M=>by
  refine bq.stop (x:=0) (aa.toEq ?_) ⟨rfl,ks,out,rfl,by omega,O⟩;unfold uO
  (dsimp +instances only[Aa,Ab,Ac,Ad,Ae,Af,Ag])
  refine aa.n (aa.p (aa.some ?_));simp only[ba]
 | d+1,i,ks,seen,J,out,hi,V,O,M=>by
  have hna:=S.na own ho;have add:∀ row,((row=J2 i∧seenIn (A own) out (fZ ((A own).getD i []))=true)∨(vd L C A own off i row∧seenIn (A own) out (fZ ((A own).getD i []))=false))→qD L C A own off (out++[row]):=fun row hr j hj=>by
   rw[eD,sG]at hj;by_cases e:j=i
   ·subst e
    rw[bz,iM (by omega),show j-out.length=0 by omega,List.take_left' (by omega)];exact hr
   ·have := O j (by omega)
    rw[bz]at this⊢;rw[cT (by omega),List.take_append_of_le_length (by omega)];exact this
  have step:aa (uO [G.l L,.i (own:Int),.i off,.l (dq 0 ks),.l (ks.map fun k=>lE (dH A C own off k)),.i ((ks.length:Nat):Int),.l (dq 0 ks),.l (ks.map fun k=>nO (dH A C own off k)),.i ((ks.length:Nat):Int),.l seen,.i (J:Int),.l out,.l (A own),.i (len:Int),.i (i:Int)]) fun o =>
    ∃(q:List Nat) (I:List (List G)) (N:Nat) (row:List G),o=(none,[G.l L,.i (own:Int),.i off,.l (dq 0 q),.l (q.map fun k=>lE (dH A C own off k)),.i ((q.length:Nat):Int),.l (dq 0 q),.l (q.map fun k=>nO (dH A C own off k)),.i ((q.length:Nat):Int),.l I,.i (N:Int),.l (out++[row]),.l (A own),.i (len:Int),.i ((i:Int)+1)]) ∧
     ((row=J2 i∧seenIn (A own) out (fZ ((A own).getD i []))=true)∨(vd L C A own off i row∧seenIn (A own) out (fZ ((A own).getD i []))=false))∧J3 (A own) (out++[row]) I:=by
   have hk:=M (fZ ((A own).getD i []));have put:∀(row:List G) (c:Nat) (b:Bool),b=qC row→seenIn (A own) out (fZ ((A own).getD i []))=false→J3 (A own) (out++[row]) (dv [.str,.str,.int .i64] seen (fZ ((A own).getD i [])) [.t b] c):=fun row c b hb hn key=>by
    rw[oP,Vq,V];cases hr:aI [.str,.str,.int .i64] key (fZ ((A own).getD i []))with
    | true =>
     rw[akF hr,hn,mH,iO,←hb];rfl
    | false =>
     rw[Bool.false_and,vu];exact M key
   unfold uO
   (dsimp +instances only[Aa,Ab,Ac,Ad,Ae,Af,Ag])
   simp only[ba];refine aa.p (aa.p ?_);refine aa.test (fun U=>?_) fun U=>?_
   ·have B : seenIn (A own) out (fZ ((A own).getD i [])) = true := by rw [← hk]; exact U
    refine aa.p (aa.p (aa.p (aa.some ⟨ks,_,_,_,rfl,.inl ⟨rfl,B⟩,fun key=>?_⟩)));rw[Vq];rw[show qC [.i (i:Int),.i 6,.s ⟨#[]⟩,.i (-1)]=false from rfl,Bool.and_false,vu];exact M key
   ·have B : seenIn (A own) out (fZ ((A own).getD i [])) = false := by rw [← hk]; exact U
    refine aa.call (akG S ho off hJ (by omega) ks) ?_;rintro _ ⟨q,row,rfl,hr⟩;have W:aU ma row=row:=by
     obtain⟨kd,w,v,rfl,_⟩:=hr;rfl
    (dsimp +instances only[Aa,Ab,Ac,Ad,Ae,Af,Ag])
    simp only[ba,W];refine aa.test (fun h1=>?_) fun h1=>?_
    ·exact aa.p (aa.p (aa.p (aa.some ⟨q,_,_,row,rfl,.inr ⟨hr,B⟩,put row _ true (by unfold qC; rw[h1]; rfl) B⟩)))
    ·exact aa.p (aa.p (aa.p (aa.some ⟨q,_,_,row,rfl,.inr ⟨hr,B⟩,put row _ _ (by unfold qC; rw[h1]; rfl) B⟩)))
  obtain⟨o,h,q,I,N,row,rfl,hr,hs'⟩:=step;exact bq.next h (Vr hlen d (i+1) q I N (out++[row]) (by omega) (by simp; omega) (add row hr) hs')
theorem akH:aa (Cq [.l L,.i (own:Int),.i off,.l [],.i 0,.l [],.i 0]) fun g=>∃ out,g=[.l [],.l [],.l [],.l out]∧out.length=(A own).length∧qD L C A own off out:=by
 have q:=S.na own ho;have hn:=S.n;unfold Cq
 (dsimp +instances only[Aa,Ab,Ac,Ad,Ae,Af,Ag])
 simp only[ba,S.get own ho]
 (dsimp +instances only[Aa,Ab,Ac,Ad,Ae,Af,Ag])
 refine aa.pos rfl (aa.p ?_);have hr:=Vr S ho off hJ (len:=(A own).length) rfl (A own).length 0 [] [] 0 [] (by omega) rfl (fun j d=>by cases d) (fun key=>rfl);refine aa.loop (hr.to (by omega)) rfl ?_;rintro _ _ ⟨rfl,B,out,rfl,h1,k⟩
 (dsimp +instances only[Aa,Ab,Ac,Ad,Ae,Af,Ag])
 exact aa.p (aa.some ⟨out,rfl,h1,k⟩)
theorem Vs(h0:0≤off)(h1:off≤300)(k:uG [.l L]=some [.i 0]):aa (sb [.l L,.s (C own),.i off]) fun g =>
  ∃ out,g=[.l out,.i (own:Int),.i 0]∧out.length=(A own).length∧qD L C A own off out:=by
 unfold sb
 (dsimp +instances only[Aa,Ab,Ac,Ad,Ae,Af,Ag])
 refine aa.cE k ?_;refine aa.neg rfl ?_;refine aa.call (P:=fun g=>g=[.i 0]) ?_ ?_
 ·unfold Ii
  (dsimp +instances only[Aa,Ab,Ac,Ad,Ae,Af,Ag])
  refine aa.cE (nF off 0 3600000) ?_;refine aa.neg ?_ (aa.some rfl);show (!(bx 0 off&&bx off 3600000))=false
  rw[eV,eV,decide_eq_true h0,decide_eq_true (by omega:off≤3600000)];rfl
 rintro _ rfl;refine aa.neg rfl ?_;refine aa.call (UQ S (C own)) ?_;rintro _ ⟨p,b,rfl,B,hF⟩
 (dsimp +instances only[Aa,Ab,Ac,Ad,Ae,Af,Ag])
 refine aa.test (fun hb=>absurd rfl (hF (by simpa using hb) own ho)) fun hb=>?_;obtain⟨d,q⟩:=B (by simpa using hb);have:=S.inj d ho q;subst this;refine aa.call (P:=fun g=>g=[.l L,.i (p:Int),.i off,.l [],.i 0,.l [],.i 0]) (aa.eq rfl) ?_;rintro _ rfl
 (dsimp +instances only[Aa,Ab,Ac,Ad,Ae,Af,Ag])
 refine aa.call (akH S d off hJ) ?_;rintro _ ⟨out,rfl,I,J⟩;exact aa.some ⟨out,rfl,I,J⟩
end
def CY(X out:List (List G)):Prop :=
 ∀ j,j<X.length→((gi (out.getD j []) 1).int=6∧∃ i,i<j∧aI [.str,.str,.int .i64] (fZ (X.getD j [])) (fZ (X.getD i []))=true)∨((gi (out.getD j []) 1).int=1∧∀ i,i<j→aI [.str,.str,.int .i64] (fZ (X.getD j [])) (fZ (X.getD i []))=false)
theorem akI(g:ByteArray)(z:List G):yA (fY g z) z=true:=by
 show ((gi z 5).int==(gi z 5).int&&(gi z 7).str.toList==(gi z 7).str.toList)=true
 simp
theorem CZ{l out:List (List G)}{key:List G}:seenIn l out key=true↔∃ j,j<out.length∧aI [.str,.str,.int .i64] key (fZ (l.getD j []))=true∧qC (out.getD j [])=true:=by
 unfold seenIn;rw[iQ];simp only[fG,az]
theorem akJ{g:ByteArray}{X L:List (List G)}{C:Nat→ByteArray}{A:Nat→List (List G)}{own:Nat}(ho:own<L.length)(hX:yD X)(hg:∀ z∈X,bB z≠g)(B:C own=g)(J:∀ i,i<L.length→A i=fE g X (C i))
  (N:∀ k∈df X,∃ i,i<L.length∧C i=k):∀ i,i<(A own).length→CX L C A own 0 i:=by
 have d:A own=X:=by rw[J own ho,B]; unfold fE; rw[if_pos rfl]
 intro j q;rw[d]at q;have I:X.getD j []∈X:=nI q;obtain⟨k,hk,M⟩:=N (bB (X.getD j [])) ((vf X _).2 ⟨_,I,rfl⟩);obtain⟨i,hi⟩:=U5 hX g (bB (X.getD j [])) q rfl;refine⟨k,i,hk,by rw[d]; exact M,?_⟩;unfold dH;rw[d,J k hk,B,M];unfold fE;rw[if_neg (hg _ I)];exact hi
theorem akK{g:ByteArray}{X L:List (List G)}{C:Nat→ByteArray}{A:Nat→List (List G)}(S:mA L C A){own:Nat}(ho:own<L.length)(hX:yD X)(hg:∀ z∈X,bB z≠g)(U:C own=g)(M:∀ i,i<L.length→A i=fE g X (C i))
  (hall:∀ k∈df X,∃ i,i<L.length∧C i=k) {out:List (List G)} (hl:out.length=(A own).length) (h:qD L C A own 0 out):out.length=X.length∧CY X out:=by
 have B:A own=X:=by rw[M own ho,U]; unfold fE; rw[if_pos rfl]
 rw[B]at hl;refine⟨hl,?_⟩;have yB:∀ j,j<X.length→vd L C A own 0 j (out.getD j [])→(gi (out.getD j []) 1).int=1:=by
  intro j I N;obtain⟨kd,w,v,hrow,N⟩:=N;rw[hrow];have J:X.getD j []∈X:=nI I;have V:∀ k,k<L.length→C k=bB (X.getD j [])→dH A C own 0 k=jN X (dc g X (bB (X.getD j []))) g (bB (X.getD j [])) 0:=fun k hk d=>by
   unfold dH;rw[B,M k hk,U,d];unfold fE;rw[if_neg (hg _ J)]
  rcases N with⟨k,i,hk,hi,d,hw,hv,hp,O⟩|⟨hn,_⟩
  ·rw [B] at d O
   have d:C k=bB (X.getD j []):=d;rw[V k hk d]at hp;have hm:=akj hX g (bB (X.getD j [])) hp;have hAk:A k=dc g X (bB (X.getD j [])):=by rw[M k hk,d]; unfold fE; rw[if_neg (hg _ J)]
   rw[hAk,hm,akI]at O;rcases O with⟨h1,_⟩|⟨_,q⟩
   ·exact h1
   ·cases q
  ·refine (hn ?_).elim
   obtain⟨k,hk,d⟩:=hall (bB (X.getD j [])) ((vf X _).2 ⟨_,J,rfl⟩);obtain⟨i,hi⟩:=U5 hX g (bB (X.getD j [])) I rfl;exact⟨k,i,hk,by rw[B]; exact d,by rw[V k hk d]; exact hi⟩
 intro j I;have hj':j<out.length:=by omega
 have tk:∀ i,i<j→(out.take j).getD i []=out.getD i []:=fun i hi=>by
  rw[bz,KA hi,bz]
 have tl:(out.take j).length=j:=by rw[jq]; omega
 rcases h j hj' with⟨h1,q⟩|⟨h1,q⟩
 ·rw [B] at q
  obtain⟨i,hi,he,_⟩:=CZ.1 q;exact .inl ⟨by rw[h1]; rfl,i,by omega,he⟩
 ·rw [B] at q
  refine .inr ⟨yB j I h1,fun i hi=>?_⟩;cases he:aI [.str,.str,.int .i64] (fZ (X.getD j [])) (fZ (X.getD i []))with
  |false=>rfl
  | true =>
   have:seenIn X (out.take j) (fZ (X.getD j []))=true:=by
    rcases h i (by omega)with⟨g1,g2⟩|⟨g1,g2⟩
    ·rw [B] at g2
     obtain⟨n,hn,aA,W⟩:=CZ.1 g2;have hni:n<i:=by
      rw[jq]at hn;omega
     have e1:(out.take i).getD n []=out.getD n []:=by rw[bz,KA hni,bz]
     rw[e1]at W;exact CZ.2 ⟨n,by omega,rU he aA,by rw[tk n (by omega)]; exact W⟩
    ·refine CZ.2 ⟨i, by omega, he, ?_⟩
     rw[tk i hi];unfold qC;rw[yB i (by omega) g1];rfl
   rw[this]at q;cases q
theorem akL{L:List (List G)}{C:Nat→ByteArray}{A:Nat→List (List G)}{own:Nat}{off:Int}{d:List (List G)}(h:qD L C A own off d):JV L C A own off d:=fun j k=>(h j k).elim (fun h=>.inl h.1) fun h=>.inr h.1
theorem akM{L:List (List G)}{C:Nat→ByteArray}{A:Nat→List (List G)}(R:su L C A){own:Nat}(ho:own<L.length)(off:Int)(hJ:∀ i,i<(A own).length→CX L C A own off i)(h0:0≤off)(h1:off≤300):aa (Cr [.l L,.s (C own),.i off]) fun g=>∃ v,g=[.l v,.i 0]∧v.Sublist (A own):=by
 have I:=R.na own ho;unfold Cr
 (dsimp +instances only[Aa,Ab,Ac,Ad,Ae,Af,Ag])
 refine aa.call (Vs R.UW ho off hJ h0 h1 (UY R)) ?_;rintro _ ⟨k,rfl,q,B⟩
 (dsimp +instances only[Aa,Ab,Ac,Ad,Ae,Af,Ag])
 refine aa.neg rfl ?_;refine aa.loop ((U1 R ho off q (akL B) k.length 0 [] (by omega) (List.nil_sublist _)).to (by omega)) rfl ?_;rintro _ _ ⟨rfl,v,rfl,d⟩
 (dsimp +instances only[Aa,Ab,Ac,Ad,Ae,Af,Ag])
 have:=d.length_le;exact aa.p (aa.some ⟨v,rfl,d⟩)
def kN(d:List (List G))(k:Int):Int:=((d.countP fun f=>(gi f 1).int==k:Nat):Int)
theorem akN(p:List (List G))(z:List G)(k:Int):kN (p++[z]) k=bif (gi z 1).int==k then kN p k+1 else kN p k:=by
 unfold kN;rw[List.countP_append,List.countP_cons,List.countP_nil];cases (gi z 1).int==k<;>simp
theorem qE(p:List (List G))(k:Int):0≤kN p k∧kN p k≤(p.length:Int):=by
 unfold kN;have:=List.countP_le_length (p:=fun f:List G=>(gi f 1).int==k) (l:=p);omega
theorem Vt(d:List (List G))(hk:∀ f∈d,0≤(gi f 1).int∧(gi f 1).int≤6)(hn:d.length≤1000):∀(q p:List (List G)),p++q=d →
  bq yb [.i 0,.i 0,.i 0,.i 0,.i 0,.i 0,.i 0,.i (kN p 0),.i (kN p 1),.i (kN p 2),.i (kN p 3),.i (kN p 4),.i (kN p 5),.i (kN p 6),.l d,.i (d.length:Int),.i (p.length:Int)] (q.length+1) fun x g =>
   x=0∧g=[.i 0,.i 0,.i 0,.i 0,.i 0,.i 0,.i 0,.i (kN d 0),.i (kN d 1),.i (kN d 2),.i (kN d 3),.i (kN d 4),.i (kN d 5),.i (kN d 6)]
 | [],p,k=>by
  rw[dh]at k;subst k;refine bq.stop (x:=0) (aa.toEq ?_) ⟨rfl,rfl⟩;unfold yb
  (dsimp +instances only[Aa,Ab,Ac,Ad,Ae,Af,Ag])
  exact aa.n (aa.some rfl)
 | z::q,p,k=>by
  have J:=congrArg y5 k;rw[eD,cn]at J;have M:d.getD p.length []=z:=by rw[←k]; simp
  have B:z∈d:=by rw[←k]; simp
  refine bq.next (d1:=[.i 0,.i 0,.i 0,.i 0,.i 0,.i 0,.i 0,.i (kN (p++[z]) 0),.i (kN (p++[z]) 1),.i (kN (p++[z]) 2),.i (kN (p++[z]) 3),.i (kN (p++[z]) 4),.i (kN (p++[z]) 5),.i (kN (p++[z]) 6),.l d,.i (d.length:Int),.i ((p++[z]).length:Int)]) (aa.toEq ?_) (Vt d hk hn q (p++[z]) (by rw[←k]; simp))
  unfold yb
  (dsimp +instances only[Aa,Ab,Ac,Ad,Ae,Af,Ag])
  simp only[ba,M,akN];have I:((p++[z]).length:Int)=(p.length:Int)+1:=by simp
  rw[I];refine aa.p (aa.p ?_);have hk:=hk z B;generalize O:(gi z 1).int=kd at hk⊢;have b0:=qE p 0;have b1:=qE p 1;have U:=qE p 2;have V:=qE p 3;have W:=qE p 4;have b5:=qE p 5;have b6:=qE p 6;have N:kd=0∨kd=1∨kd=2∨kd=3∨kd=4∨kd=5∨kd=6:=by omega
  rcases N with rfl|rfl|rfl|rfl|rfl|rfl|rfl
  ·exact aa.pos rfl (aa.pos rfl (aa.pos (ib.2 (show _∧_ from⟨by show _≤kN p 0+1; omega,by show kN p 0+1≤_; omega⟩)) (aa.pos rfl (aa.pos rfl (aa.p (aa.some rfl))))))
  ·exact aa.pos rfl (aa.pos rfl (aa.pos (ib.2 (show _∧_ from⟨by show _≤kN p 1+1; omega,by show kN p 1+1≤_; omega⟩)) (aa.pos rfl (aa.pos rfl (aa.p (aa.some rfl))))))
  ·exact aa.pos rfl (aa.pos rfl (aa.pos (ib.2 (show _∧_ from⟨by show _≤kN p 2+1; omega,by show kN p 2+1≤_; omega⟩)) (aa.pos rfl (aa.pos rfl (aa.p (aa.some rfl))))))
  ·exact aa.pos rfl (aa.pos rfl (aa.pos (ib.2 (show _∧_ from⟨by show _≤kN p 3+1; omega,by show kN p 3+1≤_; omega⟩)) (aa.pos rfl (aa.pos rfl (aa.p (aa.some rfl))))))
  ·exact aa.pos rfl (aa.pos rfl (aa.pos (ib.2 (show _∧_ from⟨by show _≤kN p 4+1; omega,by show kN p 4+1≤_; omega⟩)) (aa.pos rfl (aa.pos rfl (aa.p (aa.some rfl))))))
  ·exact aa.pos rfl (aa.pos rfl (aa.pos (ib.2 (show _∧_ from⟨by show _≤kN p 5+1; omega,by show kN p 5+1≤_; omega⟩)) (aa.pos rfl (aa.pos rfl (aa.p (aa.some rfl))))))
  ·exact aa.pos rfl (aa.pos rfl (aa.pos (ib.2 (show _∧_ from⟨by show _≤kN p 6+1; omega,by show kN p 6+1≤_; omega⟩)) (aa.pos rfl (aa.pos rfl (aa.p (aa.some rfl))))))
theorem akO(d:List (List G))(hk:∀ f∈d,0≤(gi f 1).int∧(gi f 1).int≤6)(hn:d.length≤1000):Cs [.l d]=some [.l [[.i (kN d 0),.i (kN d 1),.i (kN d 2),.i (kN d 3),.i (kN d 4),.i (kN d 5),.i (kN d 6)]]]:=by
 refine aa.toEq ?_;unfold Cs
 (dsimp +instances only[Aa,Ab,Ac,Ad,Ae,Af,Ag])
 refine aa.loop (bq.to (Vt d hk hn d [] rfl) (by omega)) rfl ?_;rintro _ _ ⟨rfl,rfl⟩;exact aa.some rfl
def kP:List (List G):=[[.s ⟨#[]⟩],[.s ⟨#[103,111,111,100]⟩],[.s ⟨#[99,97,108,108]⟩],[.s ⟨#[104,101,97,114,100]⟩],[.s ⟨#[109,105,115,115,105,110,103]⟩],[.s ⟨#[117,110,107,110,111,119,110]⟩],[.s ⟨#[116,119,105,99,101]⟩]]
theorem akP{n:Int}(h0:0≤n)(h1:n<100):um [.i n]=some [.s (uk n)]:=by
 refine aa.toEq ?_;unfold um
 (dsimp +instances only[Aa,Ab,Ac,Ad,Ae,Af,Ag])
 exact aa.pos (by simp only[jW,dD,az,decide_eq_true_eq]; omega) (aa.some rfl)
def gF(k:Nat)(n:Int):List G:=[.s (gi (kP.getD k []) 0).str,.s (uk n)]
theorem akQ(a0 d a2 a3 a4 a5 k:Int):qn [.i a0,.i d,.i a2,.i a3,.i a4,.i a5,.i k,.l [],.l kP,.i 7,.i 0]=some (none,[.i a0,.i d,.i a2,.i a3,.i a4,.i a5,.i k,.l [],.l kP,.i 7,.i 1]):=by
 have q:kP.length=7:=rfl;have hw:((gi (kP.getD 0 []) 0).str.toList==(⟨#[]⟩:ByteArray).toList)=true:=by
  show ((⟨#[]⟩:ByteArray).toList==(⟨#[]⟩:ByteArray).toList)=true
  simp
 refine aa.toEq ?_;unfold qn
 (dsimp +instances only[Aa,Ab,Ac,Ad,Ae,Af,Ag])
 simp only[show ((0:Int)).toNat=0 from rfl,q,hw];exact aa.pos rfl (aa.pos rfl (aa.neg rfl (aa.pos rfl (aa.pos rfl (aa.some rfl)))))
theorem vg(a0 d a2 a3 a4 a5 q n:Int)(k:Nat)(out:List (List G))(h1:1≤k)(J:k<7) (I:(([a0,d,a2,a3,a4,a5,q]:List Int).getD (0+(k*1)) 0)=n) (h0:0≤n) (hn:n<100) (ho:out.length≤1000) (hw:((gi (kP.getD k []) 0).str.toList==(⟨#[]⟩:ByteArray).toList)=false) :
  qn [.i a0,.i d,.i a2,.i a3,.i a4,.i a5,.i q,.l out,.l kP,.i 7,.i (k:Int)]=some (none,[.i a0,.i d,.i a2,.i a3,.i a4,.i a5,.i q,.l (out++[gF k n]),.l kP,.i 7,.i ((k+1:Nat):Int)]):=by
 have B:kP.length=7:=rfl;refine aa.toEq ?_;unfold qn
 (dsimp +instances only[Aa,Ab,Ac,Ad,Ae,Af,Ag])
 simp only[ba,I,B,hw];refine aa.p (aa.p (aa.pos rfl (aa.p (aa.pos (by rw[iR]; omega) ?_))));refine aa.cE (akP h0 hn) ?_
 (dsimp +instances only[Aa,Ab,Ac,Ad,Ae,Af,Ag])
 refine aa.pos (by rw[mJ,iO,decide_eq_true_eq]; omega) (aa.p (aa.pos (by simp) (aa.some ?_)));rw[V0];rfl
theorem akR(a0 d a2 a3 a4 a5 q:Int)(b1:0≤d∧d<100)(I:0≤a2∧a2<100)(J:0≤a3∧a3<100)(M:0≤a4∧a4<100)(N:0≤a5∧a5<100)(O:0≤q∧q<100) :
  bq qn [.i a0,.i d,.i a2,.i a3,.i a4,.i a5,.i q,.l [],.l kP,.i 7,.i 0] 8 fun x g=>x=0∧g=[.l [gF 1 d,gF 2 a2,gF 3 a3,gF 4 a4,gF 5 a5,gF 6 q]]:=by
 have w:∀ k,1≤k→k<7→((gi (kP.getD k []) 0).str.toList==(⟨#[]⟩:ByteArray).toList)=false:=fun k h1 V=>by
  have W:((dI 7).all fun k=>ab k 0 || !nz (gi (kP.getD k []) 0).str ⟨#[]⟩)=true:=by kernel_rfl
  have B:=dB.1 W k (fG.2 V);rw[oW,decide_eq_false_iff_not];intro e;rw[e,show nz (⟨#[]⟩:ByteArray) ⟨#[]⟩=true by kernel_rfl]at B;cases U:ab k 0 with
  |true=>have:=bk U; omega
  |false=>rw[U]at B; cases B
 refine bq.next (akQ _ _ _ _ _ _ _) ?_
 refine bq.next (vg a0 d a2 a3 a4 a5 q d 1 [] (by omega) (by omega) rfl b1.1 b1.2 (by simp) (w 1 (by omega) (by omega))) ?_
 refine bq.next (vg a0 d a2 a3 a4 a5 q a2 2 _ (by omega) (by omega) rfl I.1 I.2 (by simp) (w 2 (by omega) (by omega))) ?_
 refine bq.next (vg a0 d a2 a3 a4 a5 q a3 3 _ (by omega) (by omega) rfl J.1 J.2 (by simp) (w 3 (by omega) (by omega))) ?_
 refine bq.next (vg a0 d a2 a3 a4 a5 q a4 4 _ (by omega) (by omega) rfl M.1 M.2 (by simp) (w 4 (by omega) (by omega))) ?_
 refine bq.next (vg a0 d a2 a3 a4 a5 q a5 5 _ (by omega) (by omega) rfl N.1 N.2 (by simp) (w 5 (by omega) (by omega))) ?_
 refine bq.next (vg a0 d a2 a3 a4 a5 q q 6 _ (by omega) (by omega) rfl O.1 O.2 (by simp) (w 6 (by omega) (by omega))) ?_
 refine bq.stop (x:=0) (aa.toEq ?_) ⟨rfl,rfl⟩;unfold qn
 (dsimp +instances only[Aa,Ab,Ac,Ad,Ae,Af,Ag])
 exact aa.neg rfl (aa.pos (by simp) (aa.some rfl))
def J4(d:List (List G)):List (List G):=[gF 1 (kN d 1),gF 2 (kN d 2),gF 3 (kN d 3),gF 4 (kN d 4),gF 5 (kN d 5),gF 6 (kN d 6)]
theorem akS{L:List (List G)}{s:ByteArray}{off own:Int}{P:List (List G)→Prop}(h:aa (sb [.l L,.s s,.i off]) fun g=>∃ out,g=[.l out,.i own,.i 0]∧P out)(q:∀ out,P out→out.length<100∧∀ f∈out,0≤(gi f 1).int∧(gi f 1).int≤6) :
  aa (Cu [.l L,.s s,.i off]) fun g=>∃ out,g=[.l (J4 out),.i 0]∧P out:=by
 unfold Cu
 (dsimp +instances only[Aa,Ab,Ac,Ad,Ae,Af,Ag])
 refine aa.call h ?_;rintro _ ⟨out,rfl,d⟩
 (dsimp +instances only[Aa,Ab,Ac,Ad,Ae,Af,Ag])
 obtain⟨hn,hk⟩:=q out d;refine aa.neg rfl ?_;refine aa.cE (akO out hk (by omega)) ?_
 (dsimp +instances only[Aa,Ab,Ac,Ad,Ae,Af,Ag])
 refine aa.call (P:=fun g=>g=[.l kP]) (aa.eq rfl) ?_;rintro _ rfl
 (dsimp +instances only[Aa,Ab,Ac,Ad,Ae,Af,Ag])
 have b:∀ k,0≤kN out k∧kN out k<100:=fun k=>by have:=qE out k; omega
 refine aa.loop (bq.to (akR _ _ _ _ _ _ _ (b 1) (b 2) (b 3) (b 4) (b 5) (b 6)) (by omega)) rfl ?_;rintro _ _ ⟨rfl,rfl⟩
 (dsimp +instances only[Aa,Ab,Ac,Ad,Ae,Af,Ag])
 exact aa.pos (by simp) (aa.some ⟨out,rfl,d⟩)
def eB:ByteArray:=⟨#[103,52,122,122,122]⟩
theorem akT:eB∈calls:=vt _ (po.2 rfl)
theorem akU:jL eB=true:=by kernel_rfl
theorem akV{c:ByteArray}(h:c∈kJ):c≠eB:=by
 have k:(kJ.all fun c => !nz c eB)=true:=by kernel_rfl
 have d:=dB.1 k c h;rintro rfl;rw[show nz eB eB=true by kernel_rfl]at d;cases d
theorem akW{d:List G}(h:cu d):bB (cz d)≠eB:=by
 obtain⟨si,no,at_,kd,t,m,b,c,s,h,x,y,bd,a_,ot,rfl,h1⟩:=h;exact akV h1.2.2.2.2.1.2.2.2.1
theorem C0{d:List (List G)}{k:Int}(h:∀ f∈d,(gi f 1).int≠k):kN d k=0:=by
 unfold kN;rw[List.countP_eq_zero.2 fun f q=>by simpa using h f q];rfl
theorem Vu{X d:List (List G)}(q:d.length=X.length)(hg:CY X d):∀ f∈d,(gi f 1).int=1∨(gi f 1).int=6:=fun f k=>by
 obtain⟨i,hi,rfl⟩:=mC k;have h:=hg i (by omega);rw[bz,bf hi,ga]at h;rcases h with⟨h,_⟩|⟨h,_⟩
 ·exact .inr h
 ·exact .inl h
theorem C1(k:Nat):((gi (gF k 0) 1).str.toList==(⟨#[48]⟩:ByteArray).toList)=true:=by
 have e:uk 0=(⟨#[48]⟩:ByteArray):=by kernel_rfl
 show ((uk 0).toList==_)=true
 rw[e];simp
theorem akX(rows:List (List G)):I' [.l rows]=some [.t true]:=by
 refine aa.toEq ?_;unfold I'
 (dsimp +instances only[Aa,Ab,Ac,Ad,Ae,Af,Ag])
 refine aa.call (yc rows 0 0 16 (by omega) (by omega) (by omega) (by omega) (by omega)) ?_;rintro _ ⟨n,rfl,n0,n1⟩
 (dsimp +instances only[Aa,Ab,Ac,Ad,Ae,Af,Ag])
 refine aa.call (ai9 rows _ n (by omega) (by omega) n0 (by omega)) ?_;rintro _ ⟨p,x,rfl,p0,p1,J,M,bF⟩
 (dsimp +instances only[Aa,Ab,Ac,Ad,Ae,Af,Ag])
 have hask:sk x 200=0:=by
  unfold sk;rw[bF.mo,show ch 200 0 345686399999=true from rfl];rfl
 have N:=aju x 200 J M;rw[hask]at N;refine aa.call (P:=fun g=>g=[.l (mu x 200),.l (Jq x 200),.i 0]) (aa.eq N) ?_;rintro _ rfl
 (dsimp +instances only[Aa,Ab,Ac,Ad,Ae,Af,Ag])
 have hXl:=T7 x 200;have hC:=ajz x 200 J M;have B:=ajA x 200 J M bF;have hF:=UT B;have hX:yD (mu x 200):=akz B;have hg:∀ z∈mu x 200,bB z≠eB:=fun z V=>by
  unfold mu at V;obtain⟨d,hd,rfl⟩:=cF.1 V;exact akW (J d (CH hd).1)
 generalize mu x 200=X at hXl hC B hF hX hg⊢;refine aa.neg rfl ?_;refine aa.cE (TH X hC (by omega)) ?_
 (dsimp +instances only[Aa,Ab,Ac,Ad,Ae,Af,Ag])
 refine aa.neg (by rw[B]; rfl) ?_;refine aa.call (P:=fun g=>g=[.l (jo eB X)]) (aa.eq (aky eB X hg (by omega))) ?_;rintro _ rfl
 (dsimp +instances only[Aa,Ab,Ac,Ad,Ae,Af,Ag])
 have R:=akE akT akU hX hC hF hg (by omega);have S:=R.UW;have U:=UY R;have hlen:(jo eB X).length=(eR eB X).length:=by unfold jo; rw[cD]
 obtain⟨own,ho,I⟩:=Vp (g:=eB) (X:=X) (k:=eB) cU;have ho:own<(jo eB X).length:=by omega
 refine aa.cE U ?_;refine aa.neg rfl ?_;have O:∀ k∈df X,∃ i,i<(jo eB X).length∧fp eB X i=k:=fun k hk=>by
  obtain⟨i,hi,e⟩:=Vp (g:=eB) (X:=X) (k:=k) (dw _ hk);exact⟨i,by omega,e⟩
 have hJ:=akJ (A:=fun i=>fE eB X (fp eB X i)) ho hX hg I (fun i _=>rfl) O;have W:=Vs S ho 0 hJ (by omega) (by omega) U;have fv:=akM R ho 0 hJ (by omega) (by omega);rw[I]at W fv;have hgo:∀{out:List (List G)},out.length=(fE eB X (fp eB X own)).length→qD (jo eB X) (fp eB X) (fun i=>fE eB X (fp eB X i)) own 0 out→out.length=X.length∧CY X out:=fun hl h =>
  akK S ho hX hg I (fun i _=>rfl) O hl h
 have hAo:fE eB X eB=X:=by unfold fE; rw[if_pos rfl]
 refine aa.call (P:=fun g=>∃ v,g=[.l v,.i 0]∧v.length≤X.length) (fv.mono fun g ⟨v,e,h⟩=>⟨v,e,by
  have:=h.length_le;rw[hAo]at this;exact this⟩) ?_
 rintro _ ⟨v,rfl,hv⟩
 (dsimp +instances only[Aa,Ab,Ac,Ad,Ae,Af,Ag])
 have fo2:aa (sb [.l (jo eB X),.s eB,.i 0]) fun g=>∃ out,g=[.l out,.i (own:Int),.i 0]∧(out.length=X.length∧CY X out):=W.mono fun g ⟨out,e,h1,h2⟩=>⟨out,e,hgo (by rw[I]; exact h1) h2⟩
 have fc:=akS fo2 fun out h=>⟨by omega,fun f q=>by rcases Vu h.1 h.2 f q with h|h<;>omega⟩
 refine aa.call fc ?_;rintro _ ⟨out,rfl,o1,o2⟩
 (dsimp +instances only[Aa,Ab,Ac,Ad,Ae,Af,Ag])
 have hk:=Vu o1 o2;have z2:kN out 2=0:=C0 fun f q=>by rcases hk f q with h|h<;>omega
 have z3:kN out 3=0:=C0 fun f q=>by rcases hk f q with h|h<;>omega
 have z4:kN out 4=0:=C0 fun f q=>by rcases hk f q with h|h<;>omega
 have z5:kN out 5=0:=C0 fun f q=>by rcases hk f q with h|h<;>omega
 have ec:J4 out=[gF 1 (kN out 1),gF 2 0,gF 3 0,gF 4 0,gF 5 0,gF 6 (kN out 6)]:=by unfold J4; rw[z2,z3,z4,z5]
 rw[ec];refine aa.neg rfl (aa.neg rfl (aa.neg rfl (aa.pos rfl (aa.pos (C1 2) (aa.pos rfl (aa.pos (C1 3) (aa.pos rfl (aa.pos (C1 4) (aa.pos rfl (aa.pos (C1 5) (aa.p ⟨_,rfl,rfl⟩)))))))))))
end
end Go.Proofs.gl
