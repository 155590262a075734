/-
 What is proved here: the pairs of two logs,as the program reckons them. No condition.
-/
import Derived.Test.YtgglclbdiagpoaaGreatDoorMF
set_option linter.all false
open Bool renaming and_true→fG,and_eq_true→ar
open ByteArray renaming data→S6
open Function renaming comp→IY
open Go.ByteArray renaming toList_eq→xP
open Go.Lib renaming toList_data→dW
open Int renaming toNat_natCast→bp
open List renaming range→er,length_cons→cw,length_map→dv,mem_map→di,getElem_of_mem→ny,getElem?_eq_getElem→bd,all_eq_true→bO,getD_eq_getElem?_getD→b_,mem_cons→bS,map_cons→cY,length_append→dV,nil_append→mq,mem_flatten→BN,mem_cons_self→cH,mem_cons_of_mem→cI,any_eq_true→jz,mem_range→gF,mem_singleton→ib,pairwise_map→xH,pairwise_iff_getElem→SJ,Nodup→S5
open Nat renaming le_refl→aH,lt_or_ge→h_,zero_add→cR,beq→af,blt→cJ,beq_refl→pC,lt_trichotomy→S1,le_of_not_lt→aiq
open Option renaming getD_some→nI
namespace Go.Proofs.iU
open Go Go.AL Go.Proofs
noncomputable section
def By(A B:List (List G))(off:Int)(X Y:List Nat):List (Nat × Nat):=gT (lA X.length Y.length (dU A B X Y off) (wJ A B X Y)) Y.length (dU A B X Y off) (wJ A B X Y) X.length 0 0
def e_(A:List (List G))(d:ByteArray)(k:GK):List Nat:=fP A d k A.length
def jX(A B:List (List G))(ac d:ByteArray)(off:Int)(k:GK):List (List G):=(By A B off (e_ A d k) (e_ B ac k)).map (pc (e_ A d k) (e_ B ac k))
def hZ(A B:List (List G))(ac d:ByteArray)(off:Int):List (List G):=((fQ A d).map fun e=>jX A B ac d off e.1).flatten
def lB(r s:List G):Int:=kH (gi r 0).int (gi s 0).int
def jY(A B:List (List G))(ac d:ByteArray)(off:Int):List (List G):=kA (eI lB) (hZ A B ac d off)
theorem ml{A:List (List G)}{s:ByteArray}{k:GK}{i:Nat}:i∈e_ A s k↔i<A.length∧kN A s i=true∧fo (A.getD i [])=k:=by
 unfold e_ fP;rw[List.mem_filter,gF,ar,decide_eq_true_eq]
theorem RG(A:List (List G))(s:ByteArray)(k:GK):(e_ A s k).length≤A.length:=by
 unfold e_ fP;have:=List.length_filter_le (fun i=>kN A s i&&decide (fo (A.getD i [])=k)) (er A.length)
 rwa [List.length_range]at this
theorem RH(A:List (List G))(s:ByteArray)(k:GK):(e_ A s k).Pairwise (·<·):=(List.pairwise_lt_range).filter _
structure gU (A B:List (List G)):Prop where
 ha:∀ z∈A,gA z
 hb:∀ z∈B,gA z
 na:A.length≤1000
 nb:B.length≤1000
theorem gU.flip{A B:List (List G)}(h:gU A B):gU B A:=⟨h.hb,h.ha,h.nb,h.na⟩
theorem gU.jc{A B:List (List G)}(h:gU A B)(ac d:ByteArray)(k:GK):JC A B (e_ A d k) (e_ B ac k):=by
 have h1:=h.na;have g:=h.nb;have q:=RG A d k;have t:=RG B ac k;exact⟨h.ha,h.hb,fun i hi=>(ml.1 hi).1,fun i hi=>(ml.1 hi).1,by omega,by omega,by omega,by omega⟩
theorem Bz{A B:List (List G)}{off:Int}{X Y:List Nat}{x:Nat × Nat}(h:x∈By A B off X Y):x.1<X.length∧x.2<Y.length∧dU A B X Y off x.1 x.2=true:=by
 obtain⟨_,b,_,d,e⟩:=Br _ _ _ x h;exact⟨by omega,d,e⟩
theorem agm(A B:List (List G))(off:Int)(X Y:List Nat):(By A B off X Y).length≤X.length:=by
 have key:∀(F:Nat→Nat→Int) (m:Nat) (ok:Nat→Nat→Bool) (w:Nat→Nat→Int) (t i f:Nat),(gT F m ok w t i f).length≤t:=by
  intro F m ok w t
  induction t with
  |zero=>intro i f; exact aH _
  | succ t d =>
   intro i f;rw[gT];split
   ·rw [cw]
    exact Nat.succ_le_succ (d _ _)
   ·exact Nat.le_succ_of_le (d _ _)
 exact key _ _ _ _ _ _ _
/-! ### d program -/
def Ig(r:List G):Prop:=∃ i k:Nat,r=[.i (i:Int),.i (k:Int)]∧i≤100000∧k≤100000
theorem agn:sL td Ig lB:=by
 rintro _ _ ⟨i,k,rfl,h1,g⟩ ⟨d,k',rfl,h,q⟩;refine⟨(i:Int)-(d:Int),?_,?_⟩
 ·refine aa.toEq ?_
  unfold td
  (dsimp +instances only[Aa,Ab,Ac,Ad,Ae,Af,Ag])
  exact aa.pos (eG.2 ⟨by omega,by omega⟩) (aa.some rfl)
 ·show (i : Int) - (d : Int) < 0 ↔ kH (i : Int) (d : Int) < 0
  rw[tC];omega
theorem Ih:fj (eI lB) (fun _=>True):=aeK (fun a b=>Qt.flip _ _) fun a b d h1 g=>Qt.le _ _ _ h1 g
theorem Ii{A B:List (List G)}(h:gU A B){ac d:ByteArray}{off:Int}{k:GK}{r:List G}(g:r∈jX A B ac d off k) :
  ∃ i j:Nat,r=[.i (i:Int),.i (j:Int)]∧i∈e_ A d k∧j∈e_ B ac k∧o_ off (A.getD i []) (B.getD j [])=true:=by
 obtain⟨x,q,rfl⟩:=di.1 g;obtain⟨a,b,c⟩:=Bz q;exact⟨_,_,rfl,tM a,tM b,c⟩
theorem Ij{A B:List (List G)}(h:gU A B){ac g:ByteArray}{off:Int}{r:List G}(d:r∈hZ A B ac g off) :
  ∃(k:GK) (i j:Nat),r=[.i (i:Int),.i (j:Int)]∧i∈e_ A g k∧j∈e_ B ac k∧o_ off (A.getD i []) (B.getD j [])=true:=by
 obtain⟨l,q,d⟩:=BN.1 d;obtain⟨e,_,rfl⟩:=di.1 q;obtain⟨i,j,h1⟩:=Ii h d;exact⟨_,i,j,h1⟩
theorem Ik{A B:List (List G)}(h:gU A B){ac d:ByteArray}{off:Int}:∀ r∈hZ A B ac d off,Ig r:=fun r g=>by
 obtain⟨k,i,j,rfl,h1,q,_⟩:=Ij h g;have:=(ml.1 h1).1;have:=(ml.1 q).1;have:=h.na;have:=h.nb;exact⟨i,j,rfl,by omega,by omega⟩
theorem Il{A B:List (List G)}(h:gU A B)(ac d:ByteArray)(off:Int):(hZ A B ac d off).Pairwise fun a b=>(gi a 0).int≠(gi b 0).int:=by
 have I:=GI.to A d A.length;unfold hZ;rw[List.pairwise_flatten];refine⟨fun l J=>?_,?_⟩
 ·obtain ⟨e, _, rfl⟩ := di.1 J
  unfold jX;rw[xH];refine(H6 _ _ _).imp_of_mem fun {x y} g k u he=>?_;obtain⟨q,_,_⟩:=Bz (A:=A) (B:=B) (off:=off) g;obtain⟨b1,_,_⟩:=Bz (A:=A) (B:=B) (off:=off) k;have he:(((e_ A d e.1).getD x.1 0:Nat):Int)=(((e_ A d e.1).getD y.1 0:Nat):Int):=he;have N:=SJ.1 (RH A d e.1) x.1 y.1 q b1 u.1;rw[b_,bd q,b_,bd b1]at he;simp only[nI]at he;omega
 ·rw [xH]
  have v:(fQ A d).Pairwise fun e e'=>e.1≠e'.1:=by
   have:=I.nd;unfold S5 at this
   rwa [xH]at this
  refine v.imp fun {e e'} z x g y k he=>?_;obtain⟨i,j,rfl,h1,_⟩:=Ii h g;obtain⟨t,O,rfl,M,_⟩:=Ii h k;have he:(i:Int)=(t:Int):=he;have he:i=t:=by omega
  subst he;exact z ((ml.1 h1).2.2.symm.trans (ml.1 M).2.2)
theorem RI{A B:List (List G)}(h:gU A B)(ac d:ByteArray)(off:Int):∀ a∈hZ A B ac d off,∀ b∈hZ A B ac d off,eI lB a b=false→eI lB b a=false→a=b:=by
 intro a ha b hb h1 k;unfold eI lB at h1 k;rw[aZ,decide_eq_false_iff_not,tC]at h1 k;have he:(gi a 0).int=(gi b 0).int:=by omega
 obtain⟨i,hi,rfl⟩:=ny ha;obtain⟨j,q,rfl⟩:=ny hb;have t:=SJ.1 (Il h ac d off);rcases S1 i j with g|g|g
 ·exact(t i j hi q g he).elim
 ·subst g; rfl
 ·exact(t j i q hi g he.symm).elim
theorem ago{A B:List (List G)}(h:gU A B)(ac d:ByteArray)(off:Int){out:List (List G)}(g:out.Perm (hZ A B ac d off))(k:out.length<100000):te [.l out]=some [.l (jY A B ac d off)]:=by
 have h1:=Yf (C:=td) (Q:=Ig) agn (Ih.mono fun _ _=>trivial) out (fun y q=>Ik h y (g.mem_iff.1 q)) k fun a ha b hb=>RI h ac d off a (g.mem_iff.1 ha) b (g.mem_iff.1 hb);unfold te;rw[h1];have e:kA (eI lB) (hZ A B ac d off)=kA (eI lB) out:=Yb Ih g.symm (fun _ _=>trivial) (RI h ac d off);rw[←e];rfl
def BA(r:List G):GK:=((gi (gi r 0).row 0).str,(gi (gi r 0).row 1).int)
theorem RJ:∀(i:Nat) (L:List (GK × List Nat)) (r:List G),r∈bg i L→∃(j:Nat) (e:GK × List Nat),e∈L∧r=jt j e
 |_,[],_,h=>by cases h
 | i,e::L,r,h=>by
  rcases bS.1 h with rfl|h
  ·exact⟨i,e,cH,rfl⟩
  ·obtain ⟨j, e', h1, d⟩ := RJ (i + 1) L r h
   exact⟨j,e',cI _ h1,d⟩
theorem RL{β:Type}(f:GK→β):∀(i:Nat) (L:List (GK × List Nat)),(bg i L).map (fun r=>f (BA r))=L.map fun e=>f e.1
 |_,[]=>rfl
 | i,e::L=>by
  simp only[bg,cY,RL f (i+1) L];rfl
theorem RM:∀(i:Nat) (L:List (GK × List Nat)),(bg i L).map fk=(er L.length).map (i+·)
 |_,[]=>rfl
 | i,e::L=>by
  simp only[bg,cY,RM (i+1) L,cw,List.range_succ_eq_map,List.map_map];rw[show fk (jt i e)=i from by simp[fk,jt,gi,G.int]];congr 1;refine List.map_congr_left fun x _=>?_;simp only[IY];omega
theorem RN:∀ l:List Nat,l.Nodup→nodupB l=true
 | [],_=>rfl
 | a::l,d=>by
  obtain⟨h1,g⟩:=List.nodup_cons.1 d;simp only[nodupB,RN l g,fG,Bool.not_eq_true'];cases h:l.any (af a)with
  |false=>rfl
  | true =>
   obtain⟨x,k,e⟩:=jz.1 h;rw[Nat.eq_of_beq_eq_true e]at h1;exact(h1 k).elim
theorem agp(L:List (GK × List Nat)):qd (bg 0 L) L.length=true:=by
 have hb:(bg 0 L).map fk=er L.length:=by
  rw[RM];simp
 unfold qd;rw[hb,ar];refine⟨RN _ List.nodup_range,?_⟩;rw[bO];intro r d;have:fk r∈(bg 0 L).map fk:=di.2 ⟨r,d,rfl⟩;rw[hb,gF]at this;simpa using this
theorem agq{st:List G→List G→Option (List G)}{cd:List G→Nat}{r:List G}{q:List (List G)}{d d':List G}(h:st r d=some d')(ha:cd d'=cd d):eZ st cd (r::q) d=eZ st cd q d':=by
 simp only[eZ,h];rw[ha,show af (cd d) (cd d)=true from pC _,cond_true]
theorem RO{A B:List (List G)}(h:gU A B)(ac g:ByteArray)(off:Int)(k cd:Nat):∀(q out:List (List G)),(∀ r∈q,r∈bg 0 (fQ A g))→out.length+1000*q.length≤1000000 →
  eZ AX (fun d=>(gi d 8).int.toNat) q [.s ac,.l A,.s g,.l B,.l (bg 0 (fQ B ac)),.i (k:Int),.l out,.i off,.i (cd:Int)] =
   some [.s ac,.l A,.s g,.l B,.l (bg 0 (fQ B ac)),.i (k:Int),.l (out++(q.map fun r=>jX A B ac g off (BA r)).flatten),.i off,.i (cd:Int)]
 | [],out,_,_=>by simp[eZ]
 | r::q,out,t,u=>by
  simp only[cw]at u;obtain⟨j,e,he,rfl⟩:=RJ 0 _ r (t r cH);have v:=(GI.to A g A.length).qI e he;have hk:BA (jt j e)=e.1:=rfl;have hX:e.2=e_ A g e.1:=v.1;have J:=h.jc ac g e.1;have hlen:(jX A B ac g off e.1).length≤1000:=by
   unfold jX;rw[dv];exact Nat.le_trans (agm _ _ _ _ _) J.nX
  have st:AX (jt j e) [.s ac,.l A,.s g,.l B,.l (bg 0 (fQ B ac)),.i (k:Int),.l out,.i off,.i (cd:Int)]=some [.s ac,.l A,.s g,.l B,.l (bg 0 (fQ B ac)),.i (k:Int),.l (out++jX A B ac g off e.1),.i off,.i (cd:Int)]:=by
   have y:(gi (gi (jt j e) 1).row 0).rows=bt e.2:=rfl;have z:be [.str,.int .i64] (gi (jt j e) 0).row=du e.1:=rfl;refine aa.toEq ?_;unfold AX;rw[y,z]
   (dsimp +instances only[Aa,Ab,Ac,Ad,Ae,Af,Ag])
   rw[agl,hX]
   (dsimp +instances only[Aa,Ab,Ac,Ad,Ae,Af,Ag])
   refine aa.cE (age J off (Rq _ _ _ _)) ?_
   (dsimp +instances only[Aa,Ab,Ac,Ad,Ae,Af,Ag])
   simp only[bp];exact aa.pos (by
    show ((af out.length out.length)&&decide (out.length+(jX A B ac g off e.1).length≤1048576))=true
    rw[pC,Bool.true_and,decide_eq_true_eq];omega) (aa.pos (by rw[pC]; rfl) (aa.some rfl))
  rw[agq st rfl,RO h ac g off k cd q _ (fun x I=>t x (cI _ I)) (by rw[dV]; omega)];rw[cY,List.flatten_cons,hk,List.append_assoc]
theorem BB:∀(n:Nat) (l:List Nat),l.Nodup→(∀ x∈l,x<n)→l.length≤n
 | 0,l,_,h=>by
  cases l with
  |nil=>exact aH _
  |cons x l=>exact absurd (h x cH) (by omega)
 | n+1,l,g,h=>by
  by_cases hm:n∈l
  ·have h1:=BB n (l.erase n) (g.erase n) fun x d=>by
    have k:=h x (List.mem_of_mem_erase d);have q:x≠n:=fun e=>by
     subst e;exact(List.Nodup.not_mem_erase g) d
    omega
   rw[List.length_erase_of_mem hm]at h1;omega
  ·have:=BB n l g fun x d=>by
    have k:=h x d;have q:x≠n:=fun e=>hm (e▸d);omega
   omega
theorem agr{A B:List (List G)}(h:gU A B)(ac d:ByteArray)(off:Int) :
  GR [.s ac,.l A,.s d,.l B,.l (bg 0 (fQ A d)),.i ((fQ A d).length:Int),.l (bg 0 (fQ B ac)),.i ((fQ B ac).length:Int),.l [],.i off]=some (some 0,[.l (jY A B ac d off)]):=by
 have M:=GI.to A d A.length;have N:=M.len;have na:=h.na;show qe AY AZ (bg 0 (fQ A d)) (((fQ A d).length:Int).toNat) _=_
 rw[bp];refine Yc (agp _) fun b p q=>⟨rfl,?_⟩
 have V:p.length≤1000:=by
  have:=q.length_eq;rw[xm]at this;have:(fQ A d).length≤A.length:=N;omega
 have u:((p.map fun r=>jX A B ac d off (BA r)).flatten).Perm (hZ A B ac d off):=by
  unfold hZ;rw[←RL (fun k=>jX A B ac d off k) 0 (fQ A d)];exact(q.map _).flatten
 have U:(hZ A B ac d off).length≤1000:=by
  have I:((hZ A B ac d off).map fun r=>(gi r 0).int.toNat).Nodup:=by
   unfold S5;rw[xH];refine(Il h ac d off).imp_of_mem fun {x y} g O J he=>J ?_;obtain⟨i,k,rfl,_⟩:=Ik h x g;obtain⟨v,k',rfl,_⟩:=Ik h y O;have he:((i:Int)).toNat=((v:Int)).toNat:=he;show (i:Int)=(v:Int)
   omega
  have z:((hZ A B ac d off).map fun r=>(gi r 0).int.toNat) ⊆ er A.length:=by
   intro x g;obtain⟨r,t,rfl⟩:=di.1 g;obtain⟨k,i,j,rfl,h1,_⟩:=Ij h t;rw[gF];exact(ml.1 h1).1
  have:=BB A.length _ I fun x g=>gF.1 (z g);rw[dv]at this;omega
 refine⟨_,RO h ac d off (fQ B ac).length b p [] (fun r t=>q.mem_iff.1 t) (by simp; omega),?_⟩;rw[mq];refine aa.toEq ?_;unfold AZ
 (dsimp +instances only[Aa,Ab,Ac,Ad,Ae,Af,Ag])
 have R:=u.length_eq;refine aa.vN (aa.eq (ago h ac d off u (by omega))) (by simp) ?_;rintro _ rfl
 (dsimp +instances only[Aa,Ab,Ac,Ad,Ae,Af,Ag])
 refine aa.pos ?_ (aa.some rfl);rw[R];unfold jY;rw[X_,pC];rfl
theorem ags{A B:List (List G)}(h:gU A B)(ac d:ByteArray)(off:Int):A0 [.l [[.s ac,.l A]],.l [[.s d,.l B]],.i off]=some [.l (jY A B ac d off)]:=by
 have na:=h.na;have nb:=h.nb;refine aa.toEq ?_;unfold A0
 (dsimp +instances only[Aa,Ab,Ac,Ad,Ae,Af,Ag])
 refine aa.cE (RF A (by omega) d) ?_
 (dsimp +instances only[Aa,Ab,Ac,Ad,Ae,Af,Ag])
 refine aa.cE (RF B (by omega) ac) ?_
 (dsimp +instances only[Aa,Ab,Ac,Ad,Ae,Af,Ag])
 simp only[bp];refine aa.tail (P:=fun u g=>u=0∧g=[.l (jY A B ac d off)]) ⟨_,agr h ac d off,0,rfl,rfl,rfl⟩ (by first|rfl|simp) ?_;rintro _ _ ⟨rfl,rfl⟩
 (dsimp +instances only[Aa,Ab,Ac,Ad,Ae,Af,Ag])
 exact aa.pos (by simp) (aa.some rfl)
theorem agt{off:Int}{p q:List G}:o_ off p q=true↔aN p=aN q∧nt p=nt q∧me p q≤off:=by
 unfold o_;rw[HB,ar,ar,bx,decide_eq_true_eq,decide_eq_true_eq,beq_iff_eq]
theorem agu{A B:List (List G)}{ac d:ByteArray}{off:Int}{r:List G}:r∈hZ A B ac d off↔∃ k,r∈jX A B ac d off k:=by
 constructor
 ·intro h
  obtain⟨l,q,t⟩:=BN.1 h;obtain⟨e,_,rfl⟩:=di.1 q;exact⟨_,t⟩
 ·rintro ⟨k, h⟩
  have h':=h;unfold jX at h';obtain⟨x,u,_⟩:=di.1 h';have h1:=(Bz u).1;obtain⟨e,he,rfl⟩:=(GI.to A d A.length).all k (by
   intro g;have g:e_ A d k=[]:=g;rw[g]at h1;simp at h1)
  exact BN.2 ⟨_,di.2 ⟨e,he,rfl⟩,h⟩
/-! ### g sorted d -/
theorem Im(A B:List (List G))(ac d:ByteArray)(off:Int):(jY A B ac d off).Perm (hZ A B ac d off):=sK (lt:=eI lB) _
theorem agv{A B:List (List G)}(h:gU A B)(ac d:ByteArray)(off:Int):(jY A B ac d off).Pairwise fun a b=>(gi a 0).int<(gi b 0).int:=by
 have h1:=zT (lt:=eI lB) Ih (l:=hZ A B ac d off) (fun _ _=>trivial);have k:(jY A B ac d off).Pairwise fun a b=>(gi a 0).int≠(gi b 0).int:=(Il h ac d off).perm (Im A B ac d off).symm (fun g e=>g e.symm);refine h1.imp₂ (fun {a b} g1 g2=>?_) k;unfold eI lB at g1;rw[aZ,decide_eq_false_iff_not,tC]at g1;omega
theorem BC{A B:List (List G)}(h:gU A B){ac d:ByteArray}{off:Int}{r:List G}(q:r∈jY A B ac d off) :
  ∃ i j:Nat,r=[.i (i:Int),.i (j:Int)]∧i<A.length∧j<B.length∧kN A d i=true∧kN B ac j=true∧o_ off (A.getD i []) (B.getD j [])=true:=by
 obtain⟨k,i,j,rfl,h1,t,u⟩:=Ij h ((Im A B ac d off).mem_iff.1 q);have g:=ml.1 h1;have a2:=ml.1 t;exact⟨i,j,rfl,g.1,a2.1,g.2.1,a2.2.1,u⟩
theorem agw{A B:List (List G)}(h:gU A B)(ac d:ByteArray)(off:Int):(jY A B ac d off).length≤A.length:=by
 have k:((jY A B ac d off).map fun r=>(gi r 0).int.toNat).Nodup:=by
  unfold S5;rw[xH];refine((agv h ac d off).imp_of_mem ?_);intro a b ha hb q e;obtain⟨i,j,rfl,_⟩:=BC h ha;obtain⟨g,v,rfl,_⟩:=BC h hb;have y:((i:Int)).toNat=((g:Int)).toNat:=e;have e':i=g:=by omega
  subst e';exact absurd q (Int.lt_irrefl _)
 have:=BB A.length _ k fun x t=>by
  obtain⟨r,u,rfl⟩:=di.1 t;obtain⟨i,j,rfl,hi,_⟩:=BC h u;show ((i:Int).toNat)<_
  rwa [bp]
 simpa using this
def fR(k:Nat):List Nat→Option Nat
 | []=>none
 |a::l=>bif a==k then some 0 else (fR k l).map (·+1)
theorem Io{k:Nat}:∀{l:List Nat},fR k l=none↔k∉l
 | []=>by simp[fR]
 | a::l=>by
  unfold fR;cases h:a==k with
  |true=>simp at h; simp[h]
  | false =>
   simp at h;simp only[cond_false,Option.map_eq_none_iff,Io,bS,not_or];exact⟨fun g=>⟨fun e=>h e.symm,g⟩,fun g=>g.2⟩
theorem BD{k:Nat}:∀{l:List Nat} {n:Nat},fR k l=some n→n<l.length∧l.getD n 0=k
 | [],n,h=>by cases h
 | a::l,n,h=>by
  unfold fR at h;cases e:a==k with
  | true =>
   rw[e]at h;cases h;simp at e;exact⟨by simp,by simpa using e⟩
  | false =>
   rw[e]at h;simp only[cond_false,Option.map_eq_some_iff]at h;obtain⟨m,h1,rfl⟩:=h;obtain⟨g,d⟩:=BD h1;exact⟨by simp; omega,by simpa using d⟩
theorem Ip{k:Nat}:∀{l:List Nat},k∉l→fR k (l++[k])=some l.length
 | [],_=>by simp[fR]
 | a::l,h=>by
  simp only[bS,not_or]at h;have e:(a==k)=false:=by simp; exact fun e=>h.1 e.symm
  show (bif a==k then some 0 else (fR k (l++[k])).map (·+1))=_
  rw[e,Ip h.2];rfl
theorem Iq(a b:Int):bL [.int .i64] [.i a] [.i b]=decide (a=b):=by
 show ((a==b)&&true)=decide (a=b)
 rw[fG];exact Bool.beq_eq_decide_eq a b
def bl:Nat→List Nat→List (List G)
 |_,[]=>[]
 |i,k::ks=>[.l [[.i (k:Int)]],.i (i:Int),.i (i:Int)]::bl (i+1) ks
theorem RP:∀(i:Nat) (A B:List Nat),bl i (A++B)=bl i A++bl (i+A.length) B
 |i,[],B=>by simp[bl]
 | i,a::A,B=>by
  show _::bl (i+1) (A++B)=_::(bl (i+1) A++bl (i+(A.length+1)) B)
  rw[RP (i+1) A B,show i+1+A.length=i+(A.length+1) by omega]
theorem Ir(k:Nat):∀(ks:List Nat) (i j:Nat),ch [.int .i64] [.i (k:Int)] (bl i ks) j=(fR k ks).map fun n=>(j+n,([.l [[.i (k:Int)]],.i ((i+n:Nat):Int),.i ((i+n:Nat):Int)]:List G))
 | [],_,_=>rfl
 | a::ks,i,j=>by
  have d:=Ir k ks (i+1) (j+1);have e:bL [.int .i64] [.i (k:Int)] ((gi [.l [[.i (a:Int)]],.i (i:Int),.i (i:Int)] 0).row)=(a==k):=by
   show bL [.int .i64] [.i (k:Int)] [.i (a:Int)]=_
   rw[Iq];by_cases h:a=k
   ·subst h; simp
   ·have g : ¬ (k : Int) = (a : Int) := fun e => h (by omega)
    simp[h,g]
  show (bif _ then some (j,_) else ch _ _ (bl (i+1) ks) (j+1))=_
  rw[e,d];show _=Option.map _ (bif a==k then some 0 else (fR k ks).map (·+1))
  cases h:a==k with
  | true =>
   simp at h;subst h;rfl
  | false =>
   simp only[cond_false,Option.map_map];congr 1
   funext n
   simp only[IY];rw[show j+1+n=j+(n+1) by omega,show i+1+n=i+(n+1) by omega]
theorem agx(k:Nat)(ks:List Nat):dP [.int .i64] (bl 0 ks) [.i (k:Int)]=(fR k ks).isSome:=by
 unfold dP;rw[Ir,Option.isSome_map]
theorem BE(k:Nat)(ks:List Nat):fK [.int .i64] (bl 0 ks) [.i (k:Int)]=fR k ks:=by
 unfold fK;rw[Ir];cases h:fR k ks with
 |none=>rfl
 | some n =>
  show (bif aG 0 ((0+n:Nat):Int) then some ((0+n:Nat):Int).toNat else none)=some n
  rw[bx,decide_eq_true (by omega:(0:Int)≤((0+n:Nat):Int))];simp
theorem Is(r:List G):∀(ks:List Nat) (i j c:Nat),i+ks.length≤c→fi (c:Int) (bl i ks++[r]) j=fi (c:Int) [r] (j+ks.length)
 | [],i,j,c,_=>rfl
 | a::ks,i,j,c,h=>by
  simp only[cw]at h;have d:=Is r ks (i+1) (j+1) c (by omega);show (bif ((i:Int).toNat:Int)==(c:Int) then _ else fi (c:Int) (bl (i+1) ks++[r]) (j+1))=_
  have e:(((i:Int).toNat:Int)==(c:Int))=false:=by
   rw[bp];simp;omega
  rw[e,d,show j+1+ks.length=j+(ks.length+1) by omega];rfl
theorem RQ:∀(i:Nat) (ks:List Nat),(bl i ks).length=ks.length
 |_,[]=>rfl
 |i,_::ks=>by simp[bl,RQ (i+1) ks]
def tQ(k c:Nat):List G:=[.l [[.i (k:Int)]],.i (-1),.i (c:Int)]
theorem RR(k c j:Nat):fi (c:Int) [tQ k c] j=some (j,tQ k c):=by
 show (bif ((c:Int).toNat:Int)==(c:Int) then _ else _)=_
 rw[bp];simp
theorem agy(k:Nat)(ks:List Nat):r7 (bl 0 ks++[tQ k ks.length]) (ks.length:Int)=true:=by
 unfold r7;rw[Is _ _ _ _ _ (by omega),RR];rfl
theorem agz(k:Nat)(ks:List Nat):r8 (bl 0 ks++[tQ k ks.length]) (ks.length:Int) ks.length=bl 0 (ks++[k]):=by
 unfold r8;rw[Is _ _ _ _ _ (by omega),RR,RP];show (bl 0 ks++[tQ k ks.length]).set (0+ks.length) _=_
 rw[xn (bl 0 ks) _ _ [] _ (by rw[RQ,cR])];rw[cR];rfl
def gB(d:List G→List G × List G)(q:List (List G))(a:List (List G) × Nat):List (List G) × Nat :=
 q.foldl (fun a r=>(gv [.int .i64] a.1 (d r).1 (d r).2 a.2,gx [.int .i64] a.1 (d r).1 a.2)) a
def mn(a:List (List G) × Nat):List G:=[.l a.1,.i (a.2:Int)]
def tR(r:List G):List G × List G:=([.i (gi r 0).int],[.i (gi r 1).int])
def RS(r:List G):List G × List G:=([.i (gi r 1).int],[.t true])
def en(p:List (List G)):List G:=mn (gB tR p ([],0))
def ep(p:List (List G)):List G:=mn (gB RS p ([],0))
theorem RT(d:List G→List G × List G)(p:List (List G))(r:List G)(a:List (List G) × Nat) :
  gB d (p++[r]) a=(gv [.int .i64] (gB d p a).1 (d r).1 (d r).2 (gB d p a).2,gx [.int .i64] (gB d p a).1 (d r).1 (gB d p a).2):=by
 unfold gB;rw[List.foldl_append];rfl
theorem RU(M:List (List G))(a:List (List G) × Nat)(key val:List G) :
  rZ (M++[mn a]) (some M.length) [.int .i64] key val=M++[mn (gv [.int .i64] a.1 key val a.2,gx [.int .i64] a.1 key a.2)]:=by
 unfold rZ;have e:gL (M++[mn a]) (some M.length)=mn a:=by
  show (M++[mn a]).getD M.length []=_
  rw[b_];simp
 rw[e];show (M++[mn a]).set M.length _=_
 rw[xn M _ _ [] _ rfl];show M++[[.l (gv [.int .i64] a.1 key val (a.2:Int).toNat),.i ((gx [.int .i64] a.1 key (a.2:Int).toNat:Nat):Int)]]=_
 rw[bp];rfl
theorem RV(M:List (List G))(x:List G):lh (M++[x]) (some M.length)=true:=by
 show cJ M.length (M++[x]).length=true
 simp
theorem RW(d:List G→List G × List G)(key:List G):∀(q:List (List G)) (a:List (List G) × Nat),dP [.int .i64] (gB d q a).1 key=(q.any (fun r=>bL [.int .i64] key (d r).1)||dP [.int .i64] a.1 key)
 | [],a=>rfl
 | r::q,a=>by
  show dP [.int .i64] (gB d q (_,_)).1 key=_
  rw[RW d key q];simp only[List.any_cons];rw[MT];cases bL [.int .i64] key (d r).1<;>cases dP [.int .i64] a.1 key<;>simp
theorem RX(d:List G→List G × List G)(key z:List G):∀(q:List (List G)) (a:List (List G) × Nat),(∃ r∈q,bL [.int .i64] key (d r).1=true∧dI [.int .i64] (gB d q a).1 key z=(d r).2) ∨
  (∀ r∈q,bL [.int .i64] key (d r).1=false)∧dI [.int .i64] (gB d q a).1 key z=dI [.int .i64] a.1 key z
 | [],a=>.inr ⟨fun _ h=>(by cases h),rfl⟩
 | r::q,a=>by
  show (∃ _,_∧_∧dI [.int .i64] (gB d q (gv [.int .i64] a.1 (d r).1 (d r).2 a.2,_)).1 key z=_)∨_∧dI [.int .i64] (gB d q (gv [.int .i64] a.1 (d r).1 (d r).2 a.2,_)).1 key z=_
  rcases RX d key z q (gv [.int .i64] a.1 (d r).1 (d r).2 a.2,gx [.int .i64] a.1 (d r).1 a.2)with⟨s,h1,g,t⟩|⟨h1,g⟩
  ·exact .inl ⟨s,cI _ h1,g,t⟩
  ·rw [g, MS]
   cases e:bL [.int .i64] key (d r).1 with
   |true=>exact .inl ⟨r,by simp,e,rfl⟩
   | false =>
    refine .inr ⟨fun s k=>?_,rfl⟩;rcases bS.1 k with rfl|k
    ·exact e
    ·exact h1 s k
structure fS (m i:Nat) (r:List (List G)):Prop where
 len:r.length=m
 val:∀ j,j<m→∃ v:Int,r.getD j []=[.i v]∧0≤v∧v≤(i:Int)+(j:Int)
theorem fS.set{m i k:Nat}{r:List (List G)}(h:fS m i r){v:Int}(h0:0≤v)(h1:v≤(i:Int)+(k:Int)):fS m i (r.set k [.i v]):=by
 refine⟨by rw[List.length_set,h.len],fun j d=>?_⟩;by_cases e:k=j
 ·subst e
  refine⟨v,?_,h0,h1⟩;rw[b_,List.getElem?_set_self (by rw[h.len]; exact d)];rfl
 ·obtain ⟨w, g1, g2⟩ := h.val j d
  refine⟨w,?_,g2⟩;rw[b_,List.getElem?_set_ne e,←b_,g1]
theorem fS.zero(m i:Nat):fS m i (List.replicate m [.i 0]):=by
 refine⟨List.length_replicate ..,fun j d=>⟨0,?_,Int.le_refl 0,by omega⟩⟩;rw[b_,List.getElem?_replicate,if_pos d];rfl
def It(r0 r1 r2:List (List G))(a b:ByteArray)(i m:Nat)(h k q t:Int)(x:Nat)(g:List G):Prop :=
 x=0∧∃ d:List (List G),g=[.l r0,.l r1,.l r2,.l d,.s a,.s b,.i (i:Int),.i h,.i k,.i q,.i t]∧fS m i d
def agA(r:List G)(x:Nat)(g:List G):Prop:=x=0∧g=r
theorem agB{r0 r1 r2 row:List (List G)}{a b:ByteArray}{i k m:Nat}{g q u y:Int}{f:Bool}(hk:k<m)(d:fS m i row)(B:f=true→2≤i∧2≤k∧fS m (i-2) r1)(hi:i≤1000)(hm:m≤1000) :
  aa (oQ [.l r0,.l r1,.l r2,.l row,.s a,.s b,.i (i:Int),.i (k:Int),.i g,.i q,.i u,.i y,.t f]) fun o=>∃ x,o.1=some x∧It r0 r1 r2 a b i m g q u y x o.2:=by
 unfold oQ
 (dsimp +instances only[Aa,Ab,Ac,Ad,Ae,Af,Ag])
 refine aa.test (fun h=>?_) fun h=>?_
 ·obtain ⟨h1, N, z⟩ := B h
  obtain⟨v,I,v0,v1⟩:=d.val k hk;obtain⟨w,hw,O,R⟩:=z.val (k-2) (by omega);have J:((k:Int)).toNat=k:=bp k;have M:((k:Int)-2).toNat=k-2:=by omega
  have U:=d.len;have V:=z.len;simp only[J,M,cR,I,hw,tO]
  (dsimp +instances only[Aa,Ab,Ac,Ad,Ae,Af,Ag])
  refine aa.p (aa.p (aa.p (aa.p (aa.p (aa.p (aa.p (aa.p ?_)))))));refine aa.some ⟨0,rfl,rfl,_,rfl,d.set ?_ ?_⟩<;>split<;>omega
 ·exact aa.p (aa.some ⟨0,rfl,rfl,_,rfl,d⟩)
theorem agC{r0 r1 r2 row:List (List G)}{a b:ByteArray}{i k m:Nat}{c d q u v:Int}(hk1:1≤k)(hk:k<m)(hb:m=b.size+1)(hi1:1≤i)(ha:i≤a.size)(y:fS m i row)(z:fS m (i-1) r2)(h1:2≤i→fS m (i-2) r1)(c0:0≤c)(c1:c≤1)(hi:i≤1000)(hm:m≤1000) :
  aa (tf [.l r0,.l r1,.l r2,.l row,.s a,.s b,.i (i:Int),.i (k:Int),.i c,.i d,.i q,.i u,.i v]) fun o=>∃ x,o.1=some x∧It r0 r1 r2 a b i m d q u v x o.2:=by
 unfold tf
 (dsimp +instances only[Aa,Ab,Ac,Ad,Ae,Af,Ag])
 obtain⟨v1,M,v10,v11⟩:=z.val k hk;obtain⟨v2,N,v20,v21⟩:=y.val (k-1) (by omega);obtain⟨v3,O,v30,v31⟩:=z.val (k-1) (by omega);have U:((k:Int)).toNat=k:=bp k;have W:((k:Int)-1).toNat=k-1:=by omega
 have l1:=y.len;have l2:=z.len;simp only[U,W,cR,M,N,O,tO]
 (dsimp +instances only[Aa,Ab,Ac,Ad,Ae,Af,Ag])
 obtain⟨V,hV,V0,V1⟩:∃ V:Int,(if v3+c<(if v2+1<v1+1 then v2+1 else v1+1) then v3+c else (if v2+1<v1+1 then v2+1 else v1+1))=V∧0≤V∧V≤(i:Int)+(k:Int):=by
  refine⟨_,rfl,?_,?_⟩<;>split<;>(try split)<;>omega
 simp only[hV];have I:=y.set V0 V1;refine aa.p (aa.p (aa.p (aa.p (aa.p (aa.p (aa.p (aa.p (aa.p (aa.p (aa.p ?_))))))))));have fin:∀(f:Bool),(f=true→2≤i∧2≤k)→aa (bh (af row.length (row.set k [.i V]).length&&true) (dD (oQ [.l r0,.l r1,.l r2,.l (row.set k [.i V]),.s a,.s b,.i (i:Int),.i (k:Int),.i d,.i q,.i u,.i v,.t f])) fun cg g=>(bif (af (gi g 3).rows.length (gi g 3).rows.length)&&true then some ((some 0:Option Nat),[G.l (gi g 0).rows,.l (gi g 1).rows,.l (gi g 2).rows,.l (gi g 3).rows,.s (gi g 4).str,.s (gi g 5).str,.i (gi g 6).int,.i (gi g 7).int,.i (gi g 8).int,.i (gi g 9).int,.i (gi g 10).int]) else none))
   fun o=>∃ x,o.1=some x∧It r0 r1 r2 a b i m d q u v x o.2:=fun f B=>by
  refine aa.tail (agB hk I (fun h=>⟨(B h).1,(B h).2,h1 (B h).1⟩) hi hm) (by(first|rfl|assumption|(simp only[ay,sl]<;>omega))) ?_;rintro _ _ ⟨rfl,J,rfl,R⟩
  (dsimp +instances only[Aa,Ab,Ac,Ad,Ae,Af,Ag])
  exact aa.p (aa.some ⟨0,rfl,rfl,J,rfl,R⟩)
 refine aa.test (fun g1=>?_) fun g1=>fin false (fun h=>by cases h);rw[aZ,decide_eq_true_eq]at g1;refine aa.test (fun g2=>?_) fun g2=>fin false (fun h=>by cases h);rw[aZ,decide_eq_true_eq]at g2;refine aa.p (aa.p (aa.p (aa.p ?_)));refine aa.test (fun g3=>?_) fun g3=>fin false (fun h=>by cases h);refine aa.p (aa.p (aa.p (aa.p ?_)));exact fin _ fun _=>⟨by omega,by omega⟩
theorem Iu{r0 r1 r2 row:List (List G)}{a b:ByteArray}{d g h q:Int}{k:Nat}(hk:k≤1000) :
  aa (oP [.l r0,.l r1,.l r2,.l row,.s a,.s b,.i d,.i g,.i h,.i q,.i (k:Int)]) fun o=>∃ x,o.1=some x∧agA [.l r0,.l r1,.l r2,.l row,.s a,.s b,.i d,.i g,.i h,.i q,.i ((k:Int)+1)] x o.2:=by
 unfold oP
 (dsimp +instances only[Aa,Ab,Ac,Ad,Ae,Af,Ag])
 exact aa.p (aa.p (aa.some ⟨0,rfl,rfl,rfl⟩))
theorem RY{r0 r1 r2:List (List G)}{a b:ByteArray}{i m:Nat}{n:Int}(hb:m=b.size+1)(ha:i≤a.size)(v:1≤i→fS m (i-1) r2)(h1:2≤i→fS m (i-2) r1)(hi:i≤1000)(hm:m≤1000):∀(t k:Nat) (row:List (List G)),k+t=m→fS m i row →
  a6 tg [.l r0,.l r1,.l r2,.l row,.s a,.s b,.i (i:Int),.i n,.i (i:Int),.i (m:Int),.i (k:Int)] (t+1) fun x g=>x=0∧∃ d,g=[.l r0,.l r1,.l r2,.l d,.s a,.s b,.i n,.i (i:Int)]∧fS m i d
 | 0,k,row,hk,q=>by
  refine a6.stop (x:=0) (aa.toEq ?_) ⟨rfl,row,rfl,q⟩;unfold tg
  (dsimp +instances only[Aa,Ab,Ac,Ad,Ae,Af,Ag])
  exact aa.n (aa.p (aa.some rfl))
 | t+1,k,row,hk,q=>by
  have step:aa (tg [.l r0,.l r1,.l r2,.l row,.s a,.s b,.i (i:Int),.i n,.i (i:Int),.i (m:Int),.i (k:Int)]) fun o=>∃ d,o=(none,[.l r0,.l r1,.l r2,.l d,.s a,.s b,.i (i:Int),.i n,.i (i:Int),.i (m:Int),.i ((k:Int)+1)])∧fS m i d:=by
   unfold tg
   (dsimp +instances only[Aa,Ab,Ac,Ad,Ae,Af,Ag])
   have J:=q.len;have y:((k:Int)).toNat=k:=bp k;simp only[y,cR,tO];refine aa.p (aa.test (fun g0=>?_) fun g0=>aa.test (fun g1=>?_) fun g1=>?_)
   ·refine aa.p (aa.p ?_)
    refine aa.tail (Iu (k:=k) (by omega)) (by(first|rfl|assumption|(simp only[ay,sl]<;>omega))) ?_;rintro _ _ ⟨rfl,rfl⟩
    (dsimp +instances only[Aa,Ab,Ac,Ad,Ae,Af,Ag])
    exact aa.p (aa.some ⟨_,rfl,q.set (by omega) (by omega)⟩)
   ·refine aa.p (aa.p ?_)
    refine aa.tail (Iu (k:=k) (by omega)) (by(first|rfl|assumption|(simp only[ay,sl]<;>omega))) ?_;rintro _ _ ⟨rfl,rfl⟩
    (dsimp +instances only[Aa,Ab,Ac,Ad,Ae,Af,Ag])
    exact aa.p (aa.some ⟨_,rfl,q.set (by omega) (by omega)⟩)
   ·have i1:1≤i:=by
     have:¬ ((i:Int)=0):=by simpa using g0
     omega
    have z:1≤k:=by
     have:¬ ((k:Int)=0):=by simpa using g1
     omega
    have fin:∀ c:Int,0≤c→c≤1→aa (bh (af row.length row.length&&true) (dD (tf [.l r0,.l r1,.l r2,.l row,.s a,.s b,.i (i:Int),.i (k:Int),.i c,.i n,.i (i:Int),.i (m:Int),.i (k:Int)])) fun B g=>bh (af (gi g 3).rows.length (gi g 3).rows.length&&true) (dD (oP [.l (gi g 0).rows,.l (gi g 1).rows,.l (gi g 2).rows,.l (gi g 3).rows,.s (gi g 4).str,.s (gi g 5).str,.i (gi g 6).int,.i (gi g 7).int,.i (gi g 8).int,.i (gi g 9).int,.i (gi g 10).int])) fun B g=>(bif (af (gi g 3).rows.length (gi g 3).rows.length)&&true then some ((none:Option Nat),[G.l (gi g 0).rows,.l (gi g 1).rows,.l (gi g 2).rows,.l (gi g 3).rows,.s (gi g 4).str,.s (gi g 5).str,.i (gi g 6).int,.i (gi g 7).int,.i (gi g 8).int,.i (gi g 9).int,.i (gi g 10).int]) else none))
      fun o=>∃ d,o=(none,[.l r0,.l r1,.l r2,.l d,.s a,.s b,.i (i:Int),.i n,.i (i:Int),.i (m:Int),.i ((k:Int)+1)])∧fS m i d:=fun c I c1=>by
     refine aa.tail (agC z (by omega) hb i1 ha q (v i1) h1 I c1 hi hm) (by(first|rfl|assumption|(simp only[ay,sl]<;>omega))) ?_;rintro _ _ ⟨rfl,d,rfl,u⟩
     (dsimp +instances only[Aa,Ab,Ac,Ad,Ae,Af,Ag])
     refine aa.tail (Iu (k:=k) (by omega)) (by(first|rfl|assumption|(simp only[ay,sl]<;>omega))) ?_;rintro _ _ ⟨rfl,rfl⟩
     (dsimp +instances only[Aa,Ab,Ac,Ad,Ae,Af,Ag])
     exact aa.p (aa.some ⟨d,rfl,u⟩)
    refine aa.p (aa.p (aa.p (aa.p ?_)));exact aa.test (fun _=>fin 0 (by omega) (by omega)) fun _=>fin 1 (by omega) (by omega)
  obtain⟨o,h,d,rfl,u⟩:=step;exact a6.next h (RY hb ha v h1 hi hm t (k+1) d (by omega) u)
theorem RZ{a b:ByteArray}{m:Nat}(hb:m=b.size+1)(ha:a.size≤100)(hm:m≤1000):∀(t i:Nat) (r0 r1 r2:List (List G)),i+t=a.size+1→(1≤i→fS m (i-1) r2)→(2≤i→fS m (i-2) r1) →
  a6 th [.l r0,.l r1,.l r2,.s a,.s b,.i ((a.size:Nat)+1:Int),.i (i:Int)] (t+1) fun x g=>x=0∧∃ r0 r1 r2,g=[.l r0,.l r1,.l r2,.s b]∧r2.length=m
 | 0,i,r0,r1,r2,hi,d,h1=>by
  refine a6.stop (x:=0) (aa.toEq ?_) ⟨rfl,r0,r1,r2,rfl,(d (by omega)).len⟩;unfold th
  (dsimp +instances only[Aa,Ab,Ac,Ad,Ae,Af,Ag])
  exact aa.n (aa.some rfl)
 | t+1,i,r0,r1,r2,hi,d,h1=>by
  have step:aa (th [.l r0,.l r1,.l r2,.s a,.s b,.i ((a.size:Nat)+1:Int),.i (i:Int)]) fun o=>∃ row,o=(none,[.l r1,.l r2,.l row,.s a,.s b,.i ((a.size:Nat)+1:Int),.i ((i:Int)+1)])∧fS m i row:=by
   unfold th
   (dsimp +instances only[Aa,Ab,Ac,Ad,Ae,Af,Ag])
   have q:(((b.size:Nat):Int)+1).toNat=m:=by omega
   simp only[q];refine aa.p (aa.p (aa.p ?_));refine aa.loop ((RY hb (by omega) d h1 (by omega) hm m 0 _ (by omega) (fS.zero m i)).to (by omega)) (by(first|rfl|assumption|(simp only[ay,sl]<;>omega))) ?_;rintro _ _ ⟨rfl,row,rfl,k⟩
   (dsimp +instances only[Aa,Ab,Ac,Ad,Ae,Af,Ag])
   exact aa.p (aa.p (aa.some ⟨row,rfl,k⟩))
  obtain⟨o,h,row,rfl,k⟩:=step;exact a6.next h (RZ hb ha hm t (i+1) r1 r2 row (by omega) (fun _=>k) (fun h=>d (by omega)))
theorem agD{a b:ByteArray}(ha:a.size≤100)(hb:b.size≤100):aa (A1 [.s a,.s b]) fun g=>∃ v:Int,g=[.i v]:=by
 unfold A1
 (dsimp +instances only[Aa,Ab,Ac,Ad,Ae,Af,Ag])
 refine aa.p ?_;refine aa.loop ((RZ (m:=b.size+1) rfl ha (by omega) (a.size+1) 0 [] [] [] (by omega) (fun h=>by omega) (fun h=>by omega)).to (by omega)) (by(first|rfl|assumption|(simp only[ay,sl]<;>omega))) ?_;rintro _ _ ⟨rfl,r0,r1,r2,rfl,d⟩
 (dsimp +instances only[Aa,Ab,Ac,Ad,Ae,Af,Ag])
 exact aa.p (aa.some ⟨_,rfl⟩)
structure nv (L:List (List G)) (C:Nat→ByteArray) (A:Nat→List (List G)):Prop where
 get:∀ i,i<L.length→L.getD i []=[.s (C i),.l (A i)]
 n:L.length≤4
 Iv:∀ i,i<L.length→∀ z∈A i,gA z∧(gi z 3).str.size≤100
 na:∀ i,i<L.length→(A i).length≤14
 cs:∀ i,i<L.length→(C i).size≤100
 xo:∀ i j,i<j→j<L.length→fl (C i) (C j)<0
theorem agE:((er 8).all fun n=>j7 .u64 (IntKind.u64.wrap ((n:Nat):Int)) 1==((n / 2:Nat):Int))=true:=by kernel_rfl
theorem agF(i j:Nat)(h:i+j<8):j7 .u64 (IntKind.u64.wrap ((i:Int)+(j:Int))) 1=(((i+j) / 2:Nat):Int):=by
 have:=bO.1 agE (i+j) (gF.2 h);rw[beq_iff_eq]at this;rw[←this];congr 2
section
variable {L:List (List G)} {C:Nat→ByteArray} {A:Nat→List (List G)} (S:nv L C A)
include S
theorem nv.two{i k:Nat}(hi:i<L.length)(hk:k<L.length):gU (A i) (A k) :=
 ⟨fun z d=>(S.Iv i hi z d).1,fun z d=>(S.Iv k hk z d).1,by have:=S.na i hi; omega,by have:=S.na k hk; omega⟩
theorem nv.mem{i j:Nat}(hi:i<L.length)(d:j<(A i).length):gA ((A i).getD j [])∧(gi ((A i).getD j []) 3).str.size≤100 :=
 S.Iv i hi _ (by rw[b_,bd d]; exact List.getElem_mem d)
theorem nv.key{i:Nat}(hi:i<L.length):(gi (L.getD i []) 0).str=C i:=by rw[S.get i hi]; rfl
theorem Iw(s:ByteArray):∀(m i j:Nat),j≤i+m→i≤j→j≤L.length→(∀ t,t<i→fl (C t) s<0)→(∀ t,j≤t→t<L.length→¬ fl (C t) s<0) →
  a6 s8 [.l L,.s s,.i (L.length:Int),.i (i:Int),.i (j:Int)] (m+1) fun x g=>x=0∧∃ p:Nat,g=[.l L,.s s,.i (L.length:Int),.i (p:Int)]∧p≤L.length∧(∀ t,t<p→fl (C t) s<0)∧(∀ t,p≤t→t<L.length→¬ fl (C t) s<0)
 | m,i,j,hm,J,u,h1,v=>by
  have M:=S.n;by_cases he:i=j
  ·subst he
   refine a6.stop (x:=0) (aa.toEq ?_) ⟨rfl,i,rfl,u,h1,v⟩;unfold s8
   (dsimp +instances only[Aa,Ab,Ac,Ad,Ae,Af,Ag])
   exact aa.n (aa.some rfl)
  ·obtain ⟨m', rfl⟩ : ∃ m', m = m' + 1 := ⟨m - 1, by omega⟩
   have B:=agF i j (by omega);have q:(i+j) / 2<L.length:=by omega
   have y:=S.get _ q;have step:∀ o,(bif ak (fl (C ((i+j) / 2)) s) 0 then some ((none:Option Nat),[G.l L,.s s,.i (L.length:Int),.i (((i+j) / 2+1:Nat):Int),.i (j:Int)]) else some (none,[.l L,.s s,.i (L.length:Int),.i (i:Int),.i (((i+j) / 2:Nat):Int)]))=some o →
     s8 [.l L,.s s,.i (L.length:Int),.i (i:Int),.i (j:Int)]=some o:=fun o ho=>by
    refine aa.toEq ?_;unfold s8
    (dsimp +instances only[Aa,Ab,Ac,Ad,Ae,Af,Ag])
    simp only[B,bp,y];refine aa.p (aa.p (aa.p (aa.p ?_)));refine aa.call (P:=fun g=>g=[.i (fl (C ((i+j) / 2)) s)]) (aa.eq rfl) ?_;rintro _ rfl
    (dsimp +instances only[Aa,Ab,Ac,Ad,Ae,Af,Ag])
    refine aa.test (fun h=>?_) fun h=>?_
    ·rw [h, cond_true] at ho
     refine aa.p (aa.some ?_);cases ho;rfl
    ·rw [h, cond_false] at ho
     refine aa.some ?_;cases ho;rfl
   by_cases d:fl (C ((i+j) / 2)) s<0
   ·refine a6.next (step _ (by rw [aZ, decide_eq_true d]; rfl)) (Iw s m' _ j (by omega) (by omega) u (fun t I => ?_) v)
    rcases h_ t ((i+j) / 2)with h|h
    ·exact Qu.tr _ _ _ (S.xo t _ h q) d
    ·rw [show t = (i + j) / 2 by omega]
     exact d
   ·refine a6.next (step _ (by rw [aZ, decide_eq_false d]; rfl)) (Iw s m' i _ (by omega) (by omega) (by omega) h1 (fun t I z k => ?_))
    rcases h_ ((i+j) / 2) t with h|h
    ·exact d (Qu.tr _ _ _ (S.xo _ t h z) k)
    ·rw [show t = (i + j) / 2 by omega] at k
     exact d k
theorem R0(s:ByteArray):aa (wK [.l L,.s s]) fun g=>∃(p:Nat) (b:Bool),g=[.i (p:Int),.t b]∧(b=true→p<L.length∧C p=s)∧(b=false→∀ k,k<L.length→C k≠s):=by
 have B:=S.n;unfold wK
 (dsimp +instances only[Aa,Ab,Ac,Ad,Ae,Af,Ag])
 refine aa.call (P:=fun g=>∃(p:Nat) (b:Bool),g=[.i (p:Int),.t b]∧(b=true→p<L.length∧C p=s)∧(b=false→∀ k,k<L.length→C k≠s)) ?_ ?_
 ·unfold Gw
  (dsimp +instances only[Aa,Ab,Ac,Ad,Ae,Af,Ag])
  refine aa.loop ((Iw S s L.length 0 L.length (by omega) (by omega) (aH _) (fun t v=>by omega) (fun t h1 d=>by omega)).to (by omega)) rfl ?_;rintro _ _ ⟨rfl,p,rfl,I,y,z⟩
  (dsimp +instances only[Aa,Ab,Ac,Ad,Ae,Af,Ag])
  have q:∀ t,t<L.length→C t=s→t=p:=fun t v e=>by
   have h0:fl (C t) s=0:=qB.2 e;have h1:p≤t:=aiq fun h=>by have:=y t h; omega
   refine Nat.le_antisymm (aiq fun h=>?_) h1;have d:=S.xo p t h v;rw[e]at d;exact z p (aH _) (by omega) d
  refine aa.test (fun h=>?_) fun h=>?_
  ·simp only [aZ, decide_eq_true_eq] at h
   have u:p<L.length:=by omega
   simp only[bp,S.get p u];refine aa.p ?_;refine aa.call (P:=fun g=>g=[.i (fl (C p) s)]) (aa.eq rfl) ?_;rintro _ rfl;refine aa.some ⟨p,_,rfl,fun hb=>⟨u,?_⟩,fun hb k hk e=>?_⟩
   ·have hb : (fl (C p) s == 0) = true := hb
    rw[beq_iff_eq]at hb;exact qB.1 hb
   ·have := q k hk e
    subst this;have hb:(fl (C k) s==0)=false:=hb;rw[qB.2 e]at hb;cases hb
  ·simp only [aZ, decide_eq_false_iff_not] at h
   exact aa.some ⟨p,false,rfl,fun hb=>(by cases hb),fun _ k hk e=>by have:=q k hk e; omega⟩
 ·rintro _ ⟨p, b, rfl, h⟩
  exact aa.some ⟨p,b,rfl,h⟩
end
def bz(A:Nat→List (List G))(C:Nat→ByteArray)(own:Nat)(off:Int)(k:Nat):List (List G):=jY (A own) (A k) (C own) (C k) off
def ju(k:Nat)(ks:List Nat):List Nat:=match fR k ks with
 |some _=>ks
 |none=>ks++[k]
theorem R3(k:Nat)(ks:List Nat):∃ n,fR k (ju k ks)=some n:=by
 unfold ju;cases h:fR k ks with
 |some n=>exact⟨n,h⟩
 |none=>exact⟨_,Ip (Io.1 h)⟩
theorem R4{L R1 R2 M T:List (List G)}{own off k:Int}{c1 c2:Nat}(h1:fK [.int .i64] R1 [.i k]=some M.length)(d:fK [.int .i64] R2 [.i k]=some T.length):∀(q p:List (List G)),p.length+q.length≤100000 →
  a6 wT [.l L,.i own,.i off,.l R1,.l (M++[mn (gB tR p ([],0))]),.i (c1:Int),.l R2,.l (T++[mn (gB RS p ([],0))]),.i (c2:Int),.i k,.l (p++q),.i ((p.length+q.length:Nat):Int),.i (p.length:Int)] (q.length+1) fun x g =>
   x=0∧g=[.l L,.i own,.i off,.l R1,.l (M++[en (p++q)]),.i (c1:Int),.l R2,.l (T++[ep (p++q)]),.i (c2:Int)]
 | [],p,h=>by
  refine a6.stop (x:=0) (aa.toEq ?_) ⟨rfl,rfl⟩;unfold wT
  (dsimp +instances only[Aa,Ab,Ac,Ad,Ae,Af,Ag])
  refine aa.n (aa.some ?_);rw[List.append_nil];rfl
 | r::q,p,h=>by
  simp only[cw]at h;have t:=R4 (L:=L) (own:=own) (off:=off) (c1:=c1) (c2:=c2) h1 d q (p++[r]) (by simp; omega);have g1:(p++r::q).getD (p.length:Int).toNat []=r:=sJ _ _ _ _ _ (by simp);rw[bp]at g1;have hlen:(p++r::q).length=p.length+q.length+1:=by simp; omega
  have u:(p++[r])++q=p++r::q:=by simp
  have v:(((p++[r]).length+q.length:Nat):Int)=((p.length+(r::q).length:Nat):Int):=by simp; omega
  have y:(((p++[r]).length:Nat):Int)=(p.length:Int)+1:=by simp
  rw[u,v,y]at t;refine a6.next (aa.toEq ?_) t
  unfold wT
  (dsimp +instances only[Aa,Ab,Ac,Ad,Ae,Af,Ag])
  simp only[g1,hlen,cw,bp,h1,d];refine aa.p (aa.p (aa.pos rfl (aa.pos (RV _ _) (aa.pos rfl (aa.pos (RV _ _) (aa.p (aa.some ?_)))))));rw[RU,RU,RT,RT];rfl
section
variable {L:List (List G)} {C:Nat→ByteArray} {A:Nat→List (List G)} (S:nv L C A) {own:Nat} (ho:own<L.length) (off:Int)
include S ho
theorem R5{k:Nat}(hk:k<L.length)(ks:List Nat):wU [G.l L,.i (own:Int),.i off,.l (bl 0 ks),.l (ks.map fun k=>en (bz A C own off k)),.i ((ks.length:Nat):Int),.l (bl 0 ks),.l (ks.map fun k=>ep (bz A C own off k)),.i ((ks.length:Nat):Int),.i (k:Int)]=some [G.l L,.i (own:Int),.i off,.l (bl 0 (ju k ks)),.l ((ju k ks).map fun k=>en (bz A C own off k)),.i (((ju k ks).length:Nat):Int),.l (bl 0 (ju k ks)),.l ((ju k ks).map fun k=>ep (bz A C own off k)),.i (((ju k ks).length:Nat):Int)]:=by
 refine aa.toEq ?_;unfold wU
 (dsimp +instances only[Aa,Ab,Ac,Ad,Ae,Af,Ag])
 simp only[BE,agx,bp];unfold ju;cases h:fR k ks with
 |some n=>exact aa.pos rfl (aa.some rfl)
 | none =>
  have d:=agy k ks;have g:=agz k ks;unfold tQ at d g;refine aa.pos rfl (aa.neg rfl (aa.pos rfl (aa.pos d (aa.pos rfl (aa.pos d (aa.p (aa.p ?_)))))));simp only[S.get own ho,S.get k hk];refine aa.cE (ags (S.two ho hk) (C own) (C k) off) ?_
  (dsimp +instances only[Aa,Ab,Ac,Ad,Ae,Af,Ag])
  simp only[dv];rw[g];have hb:=agw (S.two ho hk) (C own) (C k) off;have u:=S.na own ho;have q:fK [.int .i64] (bl 0 (ks++[k])) [.i (k:Int)]=some ks.length:=by rw[BE]; exact Ip (Io.1 h)
  have t:=R4 (L:=L) (own:=(own:Int)) (off:=off) (k:=(k:Int)) (R1:=bl 0 (ks++[k])) (R2:=bl 0 (ks++[k])) (M:=ks.map fun k=>en (bz A C own off k)) (T:=ks.map fun k=>ep (bz A C own off k)) (c1:=ks.length+1) (c2:=ks.length+1)
   (by rw[dv]; exact q) (by rw[dv]; exact q) (bz A C own off k) [] (by unfold bz; simp; omega)
  simp only[mq,List.length_nil,cR]at t;refine aa.loop (t.to (by unfold bz; omega)) rfl ?_;rintro _ _ ⟨rfl,rfl⟩
  (dsimp +instances only[Aa,Ab,Ac,Ad,Ae,Af,Ag])
  refine aa.some ?_;simp only[bp,List.map_append,cY,List.map_nil,dV,List.length_singleton]
def BF(x y:List G):Bool:=(gi x 4).int==(gi y 5).int&&(gi x 6).str.toList==(gi y 7).str.toList
omit S ho in
theorem R6(x y:List G):wV [.l [x],.l [y]]=some [.t (BF x y)]:=by
 refine aa.toEq ?_;unfold wV BF
 (dsimp +instances only[Aa,Ab,Ac,Ad,Ae,Af,Ag])
 refine aa.test (fun h=>aa.some ?_) fun h=>aa.some ?_<;>rw[h]<;>rfl
theorem R7{k:Nat}(hk:k<L.length){t m s h:Int}{b c x y:ByteArray}(u:gA [.i t,.i m,.s b,.s c,.i s,.i h,.s x,.s y]){ks:List Nat}{n:Nat}(q:fR k ks=some n):∀(d i:Nat),i+d=(A k).length →
  a6 tk [G.l L,.i (own:Int),.i off,.l (bl 0 ks),.l (ks.map fun k=>en (bz A C own off k)),.i ((ks.length:Nat):Int),.l (bl 0 ks),.l (ks.map fun k=>ep (bz A C own off k)),.i ((ks.length:Nat):Int),.i t,.i m,.s b,.s c,.i s,.i h,.s x,.s y,.i (k:Int),.l (A k),.i ((A k).length:Int),.i (i:Int)] (d+1) fun e g =>
   (e=0∧∃ v:Nat,v<(A k).length∧g=[G.l L,.i (own:Int),.i off,.l (bl 0 ks),.l (ks.map fun k=>en (bz A C own off k)),.i ((ks.length:Nat):Int),.l (bl 0 ks),.l (ks.map fun k=>ep (bz A C own off k)),.i ((ks.length:Nat):Int),.i (v:Int)])∨e=1∧g=[G.l L,.i (own:Int),.i off,.l (bl 0 ks),.l (ks.map fun k=>en (bz A C own off k)),.i ((ks.length:Nat):Int),.l (bl 0 ks),.l (ks.map fun k=>ep (bz A C own off k)),.i ((ks.length:Nat):Int)]
 | 0,i,hi=>by
  refine a6.stop (x:=1) (aa.toEq ?_) (.inr ⟨rfl,rfl⟩);unfold tk
  (dsimp +instances only[Aa,Ab,Ac,Ad,Ae,Af,Ag])
  refine aa.n (aa.some ?_);simp only[bp]
 | d+1,i,hi=>by
  have M:=S.na k hk;have J:=R7 hk u q d (i+1) (by omega);obtain⟨z,N⟩:=S.mem (i:=k) (j:=i) hk (by omega);have step:aa (tk [G.l L,.i (own:Int),.i off,.l (bl 0 ks),.l (ks.map fun k=>en (bz A C own off k)),.i ((ks.length:Nat):Int),.l (bl 0 ks),.l (ks.map fun k=>ep (bz A C own off k)),.i ((ks.length:Nat):Int),.i t,.i m,.s b,.s c,.i s,.i h,.s x,.s y,.i (k:Int),.l (A k),.i ((A k).length:Int),.i (i:Int)]) fun o =>
    o=(some 0,[G.l L,.i (own:Int),.i off,.l (bl 0 ks),.l (ks.map fun k=>en (bz A C own off k)),.i ((ks.length:Nat):Int),.l (bl 0 ks),.l (ks.map fun k=>ep (bz A C own off k)),.i ((ks.length:Nat):Int),.i (i:Int)])∨o=(none,[G.l L,.i (own:Int),.i off,.l (bl 0 ks),.l (ks.map fun k=>en (bz A C own off k)),.i ((ks.length:Nat):Int),.l (bl 0 ks),.l (ks.map fun k=>ep (bz A C own off k)),.i ((ks.length:Nat):Int),.i t,.i m,.s b,.s c,.i s,.i h,.s x,.s y,.i (k:Int),.l (A k),.i ((A k).length:Int),.i ((i:Int)+1)]):=by
   unfold tk
   (dsimp +instances only[Aa,Ab,Ac,Ad,Ae,Af,Ag])
   have B:=(BD q).1;have I:lh (ks.map fun k=>ep (bz A C own off k)) (some n)=true:=by
    show cJ n (ks.map fun k=>ep (bz A C own off k)).length=true
    rw[dv];simpa using B
   simp only[bp,BE,q,z.1];refine aa.p (aa.p (aa.p ?_));have out:aa (bif ay ((i:Int)+1) then some ((none:Option Nat),[G.l L,.i (own:Int),.i off,.l (bl 0 ks),.l (ks.map fun k=>en (bz A C own off k)),.i ((ks.length:Nat):Int),.l (bl 0 ks),.l (ks.map fun k=>ep (bz A C own off k)),.i ((ks.length:Nat):Int),.i t,.i m,.s b,.s c,.i s,.i h,.s x,.s y,.i (k:Int),.l (A k),.i ((A k).length:Int),.i ((i:Int)+1)]) else none) fun o =>
    o=(some 0,[G.l L,.i (own:Int),.i off,.l (bl 0 ks),.l (ks.map fun k=>en (bz A C own off k)),.i ((ks.length:Nat):Int),.l (bl 0 ks),.l (ks.map fun k=>ep (bz A C own off k)),.i ((ks.length:Nat):Int),.i (i:Int)])∨o=(none,[G.l L,.i (own:Int),.i off,.l (bl 0 ks),.l (ks.map fun k=>en (bz A C own off k)),.i ((ks.length:Nat):Int),.l (bl 0 ks),.l (ks.map fun k=>ep (bz A C own off k)),.i ((ks.length:Nat):Int),.i t,.i m,.s b,.s c,.i s,.i h,.s x,.s y,.i (k:Int),.l (A k),.i ((A k).length:Int),.i ((i:Int)+1)]):=aa.p (aa.some (.inr rfl))
   refine aa.test (fun _=>?_) fun _=>out;refine aa.cE (H9 off u z) ?_;refine aa.test (fun _=>?_) fun _=>out;refine aa.pos rfl (aa.pos I (aa.test (fun _=>?_) fun _=>out));refine aa.cE (R6 _ _) ?_;exact aa.test (fun _=>aa.some (.inl rfl)) fun _=>out
  obtain⟨o,h,rfl|rfl⟩:=step
  ·exact a6.stop h (.inl ⟨rfl,i,by omega,rfl⟩)
  ·exact a6.next h J
theorem agG{k:Nat}(hk:k<L.length){t m s h:Int}{b c x y:ByteArray}(u:gA [.i t,.i m,.s b,.s c,.i s,.i h,.s x,.s y])(q:c.size≤100)(ks:List Nat) :
  aa (A2 [G.l L,.i (own:Int),.i off,.l (bl 0 ks),.l (ks.map fun k=>en (bz A C own off k)),.i ((ks.length:Nat):Int),.l (bl 0 ks),.l (ks.map fun k=>ep (bz A C own off k)),.i ((ks.length:Nat):Int),.l [[.i t,.i m,.s b,.s c,.i s,.i h,.s x,.s y]],.i (k:Int)]) fun g=>∃(d:List Nat) (v:Int),g=[G.l L,.i (own:Int),.i off,.l (bl 0 d),.l (d.map fun k=>en (bz A C own off k)),.i ((d.length:Nat):Int),.l (bl 0 d),.l (d.map fun k=>ep (bz A C own off k)),.i ((d.length:Nat):Int),.i v]∧(0≤v→v<((A k).length:Int)):=by
 have B:=S.na k hk;unfold A2
 (dsimp +instances only[Aa,Ab,Ac,Ad,Ae,Af,Ag])
 simp only[bp,S.get k hk];refine aa.p ?_;refine aa.call (agD (S.cs k hk) q) ?_;rintro _ ⟨v,rfl⟩
 (dsimp +instances only[Aa,Ab,Ac,Ad,Ae,Af,Ag])
 refine aa.test (fun _=>aa.some ⟨ks,-1,rfl,fun h=>by omega⟩) fun _=>?_;refine aa.cE (R5 S ho off hk ks) ?_
 (dsimp +instances only[Aa,Ab,Ac,Ad,Ae,Af,Ag])
 simp only[bp,S.get k hk];refine aa.p ?_;obtain⟨n,z⟩:=R3 k ks;refine aa.loop ((R7 S ho off hk u z (A k).length 0 (by omega)).to (by omega)) rfl ?_;rintro _ _ (⟨rfl,v,I,rfl⟩|⟨rfl,rfl⟩)
 ·(dsimp +instances only [Aa,Ab,Ac,Ad,Ae,Af,Ag])
  simp only[bp];exact aa.pos rfl (aa.some ⟨ju k ks,(v:Int),rfl,fun _=>by omega⟩)
 ·(dsimp +instances only [Aa,Ab,Ac,Ad,Ae,Af,Ag])
  simp only[bp];exact aa.neg rfl (aa.some ⟨ju k ks,-1,rfl,fun h=>by omega⟩)
def BG(L:List (List G))(A:Nat→List (List G))(s v:Int):Prop:=0≤s→∃ k:Nat,s=(k:Int)∧k<L.length∧0≤v∧v<((A k).length:Int)
theorem R8{t m s h:Int}{b c x y:ByteArray}(J:gA [.i t,.i m,.s b,.s c,.i s,.i h,.s x,.s y])(I:c.size≤100):∀(d i:Nat) (ks:List Nat) (u v:Int),i+d=L.length→BG L A u v →
  a6 tn [G.l L,.i (own:Int),.i off,.l (bl 0 ks),.l (ks.map fun k=>en (bz A C own off k)),.i ((ks.length:Nat):Int),.l (bl 0 ks),.l (ks.map fun k=>ep (bz A C own off k)),.i ((ks.length:Nat):Int),.i t,.i m,.s b,.s c,.i s,.i h,.s x,.s y,.i u,.i v,.l L,.i (L.length:Int),.i (i:Int)] (d+1) fun e g =>
   (e=0∨e=1)∧∃(q:List Nat) (u v:Int),g=[G.l L,.i (own:Int),.i off,.l (bl 0 q),.l (q.map fun k=>en (bz A C own off k)),.i ((q.length:Nat):Int),.l (bl 0 q),.l (q.map fun k=>ep (bz A C own off k)),.i ((q.length:Nat):Int),.i u,.i v]∧BG L A u v
 | 0,i,ks,u,v,hi,z=>by
  refine a6.stop (x:=1) (aa.toEq ?_) ⟨.inr rfl,ks,u,v,rfl,z⟩;unfold tn
  (dsimp +instances only[Aa,Ab,Ac,Ad,Ae,Af,Ag])
  refine aa.n (aa.some ?_);simp only[bp]
 | d+1,i,ks,u,v,hi,z=>by
  have R:=S.n;have B:i<L.length:=by omega
  have step:aa (tn [G.l L,.i (own:Int),.i off,.l (bl 0 ks),.l (ks.map fun k=>en (bz A C own off k)),.i ((ks.length:Nat):Int),.l (bl 0 ks),.l (ks.map fun k=>ep (bz A C own off k)),.i ((ks.length:Nat):Int),.i t,.i m,.s b,.s c,.i s,.i h,.s x,.s y,.i u,.i v,.l L,.i (L.length:Int),.i (i:Int)]) fun o =>
    (∃ q:List Nat,o=(some 0,[G.l L,.i (own:Int),.i off,.l (bl 0 q),.l (q.map fun k=>en (bz A C own off k)),.i ((q.length:Nat):Int),.l (bl 0 q),.l (q.map fun k=>ep (bz A C own off k)),.i ((q.length:Nat):Int),.i (-1),.i (-1)]))∨∃(q:List Nat) (u v:Int),o=(none,[G.l L,.i (own:Int),.i off,.l (bl 0 q),.l (q.map fun k=>en (bz A C own off k)),.i ((q.length:Nat):Int),.l (bl 0 q),.l (q.map fun k=>ep (bz A C own off k)),.i ((q.length:Nat):Int),.i t,.i m,.s b,.s c,.i s,.i h,.s x,.s y,.i u,.i v,.l L,.i (L.length:Int),.i ((i:Int)+1)])∧BG L A u v:=by
   unfold tn
   (dsimp +instances only[Aa,Ab,Ac,Ad,Ae,Af,Ag])
   simp only[bp,S.get i B];refine aa.p (aa.p ?_);refine aa.test (fun _=>aa.p (aa.some (.inr ⟨ks,u,v,rfl,z⟩))) fun _=>?_;refine aa.test (fun _=>aa.p (aa.some (.inr ⟨ks,u,v,rfl,z⟩))) fun _=>?_;refine aa.call (agG S ho off B J I ks) ?_;rintro _ ⟨q,w,rfl,hw⟩
   (dsimp +instances only[Aa,Ab,Ac,Ad,Ae,Af,Ag])
   simp only[bp];refine aa.test (fun h0=>?_) fun _=>aa.p (aa.some (.inr ⟨q,u,v,rfl,z⟩));rw[bx,decide_eq_true_eq]at h0;refine aa.test (fun _=>aa.some (.inl ⟨q,rfl⟩)) fun _=>?_;exact aa.p (aa.some (.inr ⟨q,(i:Int),w,rfl,fun _=>⟨i,rfl,B,h0,hw h0⟩⟩))
  obtain⟨o,h,⟨q,rfl⟩|⟨q,N,O,rfl,M⟩⟩:=step
  ·exact a6.stop h ⟨.inl rfl,q,-1,-1,rfl,fun h=>by omega⟩
  ·exact a6.next h (R8 J I d (i+1) q N O (by omega) M)
theorem agH{t m s h:Int}{b c x y:ByteArray}(B:gA [.i t,.i m,.s b,.s c,.i s,.i h,.s x,.s y])(z:c.size≤100)(ks:List Nat) :
  aa (tq [G.l L,.i (own:Int),.i off,.l (bl 0 ks),.l (ks.map fun k=>en (bz A C own off k)),.i ((ks.length:Nat):Int),.l (bl 0 ks),.l (ks.map fun k=>ep (bz A C own off k)),.i ((ks.length:Nat):Int),.l [[.i t,.i m,.s b,.s c,.i s,.i h,.s x,.s y]]]) fun g=>∃(d:List Nat) (u v:Int),g=[G.l L,.i (own:Int),.i off,.l (bl 0 d),.l (d.map fun k=>en (bz A C own off k)),.i ((d.length:Nat):Int),.l (bl 0 d),.l (d.map fun k=>ep (bz A C own off k)),.i ((d.length:Nat):Int),.i u,.i v]∧BG L A u v:=by
 have I:=S.n;unfold tq
 (dsimp +instances only[Aa,Ab,Ac,Ad,Ae,Af,Ag])
 simp only[bp];refine aa.loop ((R8 S ho off B z L.length 0 ks (-1) 0 (by omega) (fun h=>by omega)).to (by omega)) rfl ?_;rintro _ _ ⟨rfl|rfl,d,u,v,rfl,q⟩
 ·(dsimp +instances only [Aa,Ab,Ac,Ad,Ae,Af,Ag])
  simp only[bp];exact aa.pos rfl (aa.some ⟨d,u,v,rfl,q⟩)
 ·(dsimp +instances only [Aa,Ab,Ac,Ad,Ae,Af,Ag])
  simp only[bp];exact aa.neg rfl (aa.some ⟨d,u,v,rfl,q⟩)
end
theorem agI(f:Nat→List G){ks:List Nat}{n k:Nat}(h:fR k ks=some n):gL (ks.map f) (some n)=f k:=by
 obtain⟨h1,d⟩:=BD h;show (ks.map f).getD n []=_
 rw[b_,List.getElem?_map];rw[b_]at d;rw[bd h1]at d⊢;simp only[nI]at d;simp only[Option.map_some,nI,d]
theorem agJ(f:Nat→List G){ks:List Nat}{n k:Nat}(h:fR k ks=some n):lh (ks.map f) (some n)=true:=by
 obtain⟨h1,d⟩:=BD h;show cJ n (ks.map f).length=true
 rw[dv];simpa using h1
section
variable {L:List (List G)} {C:Nat→ByteArray} {A:Nat→List (List G)} (S:nv L C A)
include S
theorem nv.inj{i j:Nat}(hi:i<L.length)(g:j<L.length)(h:C i=C j):i=j:=by
 rcases S1 i j with d|d|d
 ·have := S.xo i j d g
  rw[qB.2 h]at this;omega
 ·exact d
 ·have := S.xo j i d hi
  rw[qB.2 h.symm]at this;omega
end
def Ix(L:List (List G))(C:Nat→ByteArray)(A:Nat→List (List G))(own:Nat)(off:Int)(i:Nat):Prop :=
 ∃ k j:Nat,k<L.length∧C k=(gi ((A own).getD i []) 3).str∧[G.i (i:Int),.i (j:Int)]∈bz A C own off k
def qJ(L:List (List G))(C:Nat→ByteArray)(A:Nat→List (List G))(own:Nat)(off:Int)(i:Nat)(row:List G):Prop :=
 ∃ (d:Int) (w:ByteArray) (v:Int),row=[.i (i:Int),.i d,.s w,.i v] ∧
  ((∃ k j : Nat, k < L.length ∧ j < (A k).length ∧ C k = (gi ((A own).getD i []) 3).str ∧ w = C k ∧ v = (j : Int) ∧ [G.i (i : Int), .i (j : Int)] ∈ bz A C own off k ∧
    ((d=1∧BF ((A k).getD j []) ((A own).getD i [])=true)∨(d=3∧BF ((A k).getD j []) ((A own).getD i [])=false))) ∨
   (¬ Ix L C A own off i∧((d=2∧∃ k:Nat,k<L.length∧w=C k∧0≤v∧v<((A k).length:Int))∨((d=4∨d=5)∧w=⟨#[]⟩∧v = -1))))
section
variable {L:List (List G)} {C:Nat→ByteArray} {A:Nat→List (List G)} (S:nv L C A) {own:Nat} (ho:own<L.length) (off:Int)
include S ho
theorem agK{k:Nat}(hk:k<L.length)(i:Nat):(dP [.int .i64] (gB tR (bz A C own off k) ([],0)).1 [.i (i:Int)]=true→∃ j:Nat,j<(A k).length∧[G.i (i:Int),.i (j:Int)]∈bz A C own off k∧dI [.int .i64] (gB tR (bz A C own off k) ([],0)).1 [.i (i:Int)] [.i 0]=[.i (j:Int)]) ∧
  (dP [.int .i64] (gB tR (bz A C own off k) ([],0)).1 [.i (i:Int)]=false→∀ j:Nat,[G.i (i:Int),.i (j:Int)]∉bz A C own off k):=by
 have q:∀ r∈bz A C own off k,∃ a b:Nat,r=[.i (a:Int),.i (b:Int)]∧b<(A k).length:=fun r t=>by
  obtain⟨a,b,h1,_,d,_⟩:=BC (S.two ho hk) t;exact⟨a,b,h1,d⟩
 rw[RW,MP,Bool.or_false];constructor
 ·intro h
  rcases RX tR [.i (i:Int)] [.i 0] (bz A C own off k) ([],0)with⟨r,h1,d,g⟩|⟨h1,_⟩
  ·obtain ⟨a, b, rfl, hb⟩ := q r h1
   have d:bL [.int .i64] [.i (i:Int)] [.i (a:Int)]=true:=d;rw[Iq,decide_eq_true_eq]at d;have:i=a:=by omega
   subst this;exact⟨b,hb,h1,g⟩
  ·obtain ⟨r, d, g⟩ := jz.1 h
   rw[h1 r d]at g;cases g
 ·intro h j u
  have:=List.any_eq_false.1 h _ u;apply this;show bL [.int .i64] [.i (i:Int)] [.i (i:Int)]=true
  rw[Iq];simp
theorem agL{i:Nat}(hi:i<(A own).length)(ks:List Nat):aa (A3 [G.l L,.i (own:Int),.i off,.l (bl 0 ks),.l (ks.map fun k=>en (bz A C own off k)),.i ((ks.length:Nat):Int),.l (bl 0 ks),.l (ks.map fun k=>ep (bz A C own off k)),.i ((ks.length:Nat):Int),.i (i:Int)]) fun g=>∃(d:List Nat) (row:List G),g=[G.l L,.i (own:Int),.i off,.l (bl 0 d),.l (d.map fun k=>en (bz A C own off k)),.i ((d.length:Nat):Int),.l (bl 0 d),.l (d.map fun k=>ep (bz A C own off k)),.i ((d.length:Nat):Int),.l [row]]∧qJ L C A own off i row:=by
 obtain⟨B,N⟩:=S.mem ho hi;have hna:=S.na own ho;have y:=S.n;have O:gA (be [.int .i64,.int .i64,.str,.str,.int .i64,.int .i64,.str,.str] ((A own).getD i [])):=by rw[B.1]; exact B
 unfold A3
 (dsimp +instances only[Aa,Ab,Ac,Ad,Ae,Af,Ag])
 simp only[bp,S.get own ho]
 (dsimp +instances only[Aa,Ab,Ac,Ad,Ae,Af,Ag])
 refine aa.p (aa.p ?_);refine aa.call (R0 S _) ?_;rintro _ ⟨p,b,rfl,W,hF⟩
 (dsimp +instances only[Aa,Ab,Ac,Ad,Ae,Af,Ag])
 have last:∀(ks:List Nat) (b:Bool),¬ Ix L C A own off i→aa (aj (tq [G.l L,.i (own:Int),.i off,.l (bl 0 ks),.l (ks.map fun k=>en (bz A C own off k)),.i ((ks.length:Nat):Int),.l (bl 0 ks),.l (ks.map fun k=>ep (bz A C own off k)),.i ((ks.length:Nat):Int),.l [be [.int .i64,.int .i64,.str,.str,.int .i64,.int .i64,.str,.str] ((A own).getD i [])]]) fun g=>(bif aG 0 (gi g 9).int then (bif (aI (gi g 9).int)&&(ak (gi g 9).int (((gi g 0).rows.length:Nat):Int)) then some [.l (gi g 0).rows,.i (gi g 1).int,.i (gi g 2).int,.l (gi g 3).rows,.l (gi g 4).rows,.i (((gi g 5).int.toNat:Nat):Int),.l (gi g 6).rows,.l (gi g 7).rows,.i (((gi g 8).int.toNat:Nat):Int),.l [[.i (i:Int),.i 2,.s (gi ((gi g 0).rows.getD ((gi g 9).int.toNat) []) 0).str,.i (gi g 10).int]]] else none) else (bif b then some [.l (gi g 0).rows,.i (gi g 1).int,.i (gi g 2).int,.l (gi g 3).rows,.l (gi g 4).rows,.i (((gi g 5).int.toNat:Nat):Int),.l (gi g 6).rows,.l (gi g 7).rows,.i (((gi g 8).int.toNat:Nat):Int),.l [[.i (i:Int),.i 4,.s ⟨#[]⟩,.i (-1)]]] else some [.l (gi g 0).rows,.i (gi g 1).int,.i (gi g 2).int,.l (gi g 3).rows,.l (gi g 4).rows,.i (((gi g 5).int.toNat:Nat):Int),.l (gi g 6).rows,.l (gi g 7).rows,.i (((gi g 8).int.toNat:Nat):Int),.l [[.i (i:Int),.i 5,.s ⟨#[]⟩,.i (-1)]]])))
   fun g=>∃(d:List Nat) (row:List G),g=[G.l L,.i (own:Int),.i off,.l (bl 0 d),.l (d.map fun k=>en (bz A C own off k)),.i ((d.length:Nat):Int),.l (bl 0 d),.l (d.map fun k=>ep (bz A C own off k)),.i ((d.length:Nat):Int),.l [row]]∧qJ L C A own off i row:=fun ks b q=>by
  refine aa.call (agH S ho off O N ks) ?_;rintro _ ⟨d,u,v,rfl,hm⟩
  (dsimp +instances only[Aa,Ab,Ac,Ad,Ae,Af,Ag])
  simp only[bp];refine aa.test (fun h0=>?_) fun _=>?_
  ·rw [bx, decide_eq_true_eq] at h0
   obtain⟨k,rfl,hk,R,U⟩:=hm h0;simp only[bp,S.get k hk];refine aa.p (aa.some ⟨d,_,rfl,2,C k,v,rfl,.inr ⟨q,.inl ⟨rfl,k,hk,rfl,R,U⟩⟩⟩)
  ·refine aa.test (fun _=>aa.some ⟨d,_,rfl,4,⟨#[]⟩,-1,rfl,.inr ⟨q,.inr ⟨.inl rfl,rfl,rfl⟩⟩⟩) fun _=>aa.some ⟨d,_,rfl,5,⟨#[]⟩,-1,rfl,.inr ⟨q,.inr ⟨.inr rfl,rfl,rfl⟩⟩⟩
 refine aa.test (fun hb=>?_) fun hb=>?_
 ·obtain ⟨h, t⟩ := W hb
  refine aa.cE (R5 S ho off h ks) ?_
  (dsimp +instances only[Aa,Ab,Ac,Ad,Ae,Af,Ag])
  obtain⟨n,y⟩:=R3 p ks;simp only[bp,BE,y,agI (fun k=>en (bz A C own off k)) y];refine aa.pos rfl (aa.pos (agJ _ y) ?_);obtain⟨j1,j2⟩:=agK S ho off h i;refine aa.test (fun hm=>?_) fun hm=>?_
  ·obtain ⟨j, q, J, V⟩ := j1 hm
   have hnk:=S.na p h;have hg:dI [.int .i64] (gi (en (bz A C own off p)) 0).rows [.i (i:Int)] [.i 0]=[.i (j:Int)]:=V;simp only[hg]
   (dsimp +instances only[Aa,Ab,Ac,Ad,Ae,Af,Ag])
   simp only[bp,S.get own ho,S.get p h]
   (dsimp +instances only[Aa,Ab,Ac,Ad,Ae,Af,Ag])
   obtain⟨hy,hys⟩:=S.mem h q;simp only[B.1,hy.1];refine aa.p (aa.p ?_);refine aa.cE (R6 _ _) ?_
   (dsimp +instances only[Aa,Ab,Ac,Ad,Ae,Af,Ag])
   refine aa.test (fun I=>?_) fun I=>?_
   ·exact aa.some ⟨ju p ks,_,rfl,1,_,(j:Int),rfl,.inl ⟨p,j,h,q,t,t.symm,rfl,J,.inl ⟨rfl,I⟩⟩⟩
   ·exact aa.some ⟨ju p ks,_,rfl,3,_,(j:Int),rfl,.inl ⟨p,j,h,q,t,t.symm,rfl,J,.inr ⟨rfl,I⟩⟩⟩
  ·refine last (ju p ks) b ?_
   rintro⟨k,j,hk,z,M⟩;have:=S.inj hk h (z.trans t.symm);subst this;exact j2 hm j M
 ·refine last ks b ?_
  rintro⟨k,j,hk,z,M⟩;exact hF hb k hk z
end
def eC:ByteArray:=⟨#[107,49,97,98]⟩
def eQ:ByteArray:=⟨#[119,49,97,119]⟩
def nw(t:Int)(c:ByteArray)(s h:Int):List G:=[.i t,.i 1,.s ⟨#[98]⟩,.s c,.i s,.i h,.s ⟨#[]⟩,.s ⟨#[]⟩]
def fF:List (List G):=[[.s eC,.l [nw 5 eQ 1 2]],[.s eQ,.l [nw 9 eC 2 1]]]
theorem agM{c:ByteArray}(k:c=eC∨c=eQ):lu [.s c,.s dQ]=some [.i 1]:=by
 have key:∀ c:ByteArray,a6 wq [.s c,.s dQ,.i 4] 3 (fun x g=>x=0∧g=[.i 1])→c.size=4→lu [.s c,.s dQ]=some [.i 1]:=fun c h d=>by
  refine aa.toEq ?_;unfold lu
  (dsimp +instances only[Aa,Ab,Ac,Ad,Ae,Af,Ag])
  refine aa.neg (by rw[dW,dW]; rfl) ?_;refine aa.neg (by rw[d]; rfl) ?_;refine aa.call (P:=fun g=>g=[.t false]) ⟨_,by rw[d]; rfl,rfl⟩ ?_;rintro _ rfl;refine aa.neg rfl (aa.neg rfl ?_);rw[d];refine aa.loop (h.to (by omega)) rfl ?_;rintro _ _ ⟨rfl,rfl⟩;exact aa.pos rfl (aa.some rfl)
 rcases k with rfl|rfl
 ·refine key eC ?_ rfl
  refine a6.next (d1:=[.s eC,.s dQ,.i 3]) (by kernel_rfl) ?_
  refine a6.next (d1:=[.s eC,.s dQ,.i 2]) (by kernel_rfl) ?_
  exact a6.stop (x:=0) (d':=[.i 1]) (by kernel_rfl) ⟨rfl,rfl⟩
 ·refine key eQ ?_ rfl
  refine a6.next (d1:=[.s eQ,.s dQ,.i 3]) (by kernel_rfl) ?_
  refine a6.next (d1:=[.s eQ,.s dQ,.i 2]) (by kernel_rfl) ?_
  exact a6.stop (x:=0) (d':=[.i 1]) (by kernel_rfl) ⟨rfl,rfl⟩
theorem R9{c:ByteArray}(d:c=eC∨c=eQ):iV c=true:=by
 have g:c_ c=1:=by
  unfold c_;rw[agM d];rfl
 have hb:dE c=true:=by
  refine HI ?_;unfold qC;rw[g];rcases d with rfl|rfl
  ·exact⟨by kernel_rfl,by decide,by decide,by decide,by decide,by decide,by decide⟩
  ·exact⟨by kernel_rfl,by decide,by decide,by decide,by decide,by decide,by decide⟩
 unfold iV;rw[hb];rcases d with rfl|rfl<;>rfl
theorem R_{t s h:Int}{c:ByteArray}(d:c=eC∨c=eQ)(k:0≤t∧t≤9)(q:0≤s∧s≤9)(u:0≤h∧h≤9):iX (nw t c s h)∧ly (nw t c s h)=0:=by
 have v:bN (⟨#[98]⟩:ByteArray)=true:=by kernel_rfl
 have g:bN (⟨#[]⟩:ByteArray)=true:=by kernel_rfl
 have y:bN c=true∧c.size≤900000:=by rcases d with rfl|rfl<;>exact⟨by kernel_rfl,by decide⟩
 refine⟨⟨t,1,_,c,s,h,_,_,rfl,⟨by omega,by omega⟩,⟨by omega,by omega⟩,⟨v,by decide⟩,y,⟨g,by decide⟩,⟨g,by decide⟩⟩,?_⟩;have z:qF (⟨#[98]⟩:ByteArray)=true:=by kernel_rfl
 have B:np (⟨#[]⟩:ByteArray)=true:=by kernel_rfl
 have I:=R9 d;have b1:cB t 0 345686399999=true:=by unfold cB; rw[bx,bx,decide_eq_true k.1,decide_eq_true (by omega:t≤345686399999)]; rfl
 have J:cB s 0 99999=true:=by unfold cB; rw[bx,bx,decide_eq_true q.1,decide_eq_true (by omega:s≤99999)]; rfl
 have M:cB h 0 99999=true:=by unfold cB; rw[bx,bx,decide_eq_true u.1,decide_eq_true (by omega:h≤99999)]; rfl
 have N:cB 1 1 3=true:=by kernel_rfl
 show (bif !cB t 0 345686399999 then 1 else bif !cB 1 1 3 then 4 else bif !qF (⟨#[98]⟩:ByteArray) then 5 else bif !iV c then 3 else bif !cB s 0 99999 then 1 else bif !cB h 0 99999 then 1 else bif !np (⟨#[]⟩:ByteArray) then 5 else bif !np (⟨#[]⟩:ByteArray) then 5 else 0)=(0:Int)
 rw[b1,J,M,N,z,B,I];rfl
def lC(i:Nat):ByteArray:=if i=0 then eC else eQ
def da(i:Nat):List (List G):=if i=0 then [nw 5 eQ 1 2] else [nw 9 eC 2 1]
theorem R':nv fF lC da:=by
 have d:∀ i,i<fF.length→i=0∨i=1:=fun i hi=>by
  have:i<2:=hi;omega
 refine⟨fun i hi=>?_,by decide,fun i hi z g=>?_,fun i hi=>?_,fun i hi=>?_,fun i j u k=>?_⟩
 ·rcases d i hi with rfl|rfl<;>rfl
 ·rcases d i hi with rfl | rfl
  ·rw [ib.1 g]
   exact⟨⟨rfl,by decide,by decide⟩,by decide⟩
  ·rw [ib.1 g]
   exact⟨⟨rfl,by decide,by decide⟩,by decide⟩
 ·rcases d i hi with rfl|rfl<;>decide
 ·rcases d i hi with rfl|rfl<;>decide
 ·have k : j < 2 := k
  have q:i=0:=by omega
  have t:j=1:=by omega
  subst q t;have h:ak (fl eC eQ) 0=true:=by kernel_rfl
  rw[aZ,decide_eq_true_eq]at h;exact h
theorem agN(r:List G)(c:ByteArray)(A:List (List G))(he:be [.int .i64,.int .i64,.str,.str,.int .i64,.int .i64,.str,.str] r=r) (h:((gi r 3).str.toList==c.toList)=false):AQ [.l [r],.l [[.s c,.l A]]]=some [.t false]:=by
 refine aa.toEq ?_;unfold AQ
 (dsimp +instances only[Aa,Ab,Ac,Ad,Ae,Af,Ag])
 refine aa.call (P:=fun g=>g=[.i (-1)]) ?_ ?_
 ·unfold Gl
  (dsimp +instances only[Aa,Ab,Ac,Ad,Ae,Af,Ag])
  have key:a6 wI [.l [r],.l [[.s c,.l A]],.i 1,.i 0] 2 fun x g=>x=1:=by
   refine a6.next (d1:=[.l [r],.l [[.s c,.l A]],.i 1,.i 1]) (aa.toEq ?_) (a6.stop (x:=1) (d':=[]) (aa.toEq ?_) rfl)
   ·unfold wI
    (dsimp +instances only[Aa,Ab,Ac,Ad,Ae,Af,Ag])
    refine aa.pos rfl (aa.pos rfl ?_);have e:([r]:List (List G)).getD (0:Int).toNat []=r:=rfl;simp only[e,he];refine aa.call (P:=fun g=>g=[.t ((gi r 3).str.toList==c.toList)]) (aa.eq rfl) ?_;rintro _ rfl;exact aa.neg h (aa.pos rfl (aa.some rfl))
   ·unfold wI
    (dsimp +instances only[Aa,Ab,Ac,Ad,Ae,Af,Ag])
    exact aa.neg rfl (aa.some rfl)
  refine aa.loop (key.to (by omega)) rfl ?_;rintro x g rfl;exact aa.neg rfl (aa.some rfl)
 ·rintro _ rfl
  exact aa.some rfl
theorem Sa(c:ByteArray)(r:List G)(i:Int)(g:c=eC∨c=eQ)(d:iX r∧ly r=0) (h:((gi r 3).str.toList==c.toList)=false) (ho:wE [.l [[.i i]],.l [[.s c,.l [r]]],.l [[.l fF]]]=some [.i 0]) :
  AR [.l [[.s c,.l [r]]],.l [[.i i]],.l [[.s c,.l [r]]],.l [[.l fF]]]=some [.i 0]:=by
 have k:bN c=true∧c.size≤900000:=by rcases g with rfl|rfl<;>exact⟨by kernel_rfl,by decide⟩
 refine aa.toEq ?_;unfold AR
 (dsimp +instances only[Aa,Ab,Ac,Ad,Ae,Af,Ag])
 refine aa.cE (HN c k.1 k.2) ?_
 (dsimp +instances only[Aa,Ab,Ac,Ad,Ae,Af,Ag])
 refine aa.neg (by rw[R9 g]; rfl) ?_;refine aa.cE ho ?_;refine aa.neg rfl ?_;refine aa.cE (aft [r] (fun z q=>by rw[ib.1 q]; exact d.1) (by simp)) ?_;have t:xg [r]=0:=by
  unfold xg;rw[if_neg (by simp)];unfold iY;rw[if_neg (by rw[d.2]; simp)];rfl
 (dsimp +instances only[Aa,Ab,Ac,Ad,Ae,Af,Ag])
 refine aa.neg (by rw[t]; rfl) ?_;refine aa.cE (agN r c [r] d.1.eta h) ?_;exact aa.neg rfl (aa.some rfl)
theorem agO:AS [.l fF]=some [.i 0]:=by
 have ha:=R_ (t:=5) (s:=1) (h:=2) (.inr rfl:eQ=eC∨eQ=eQ) (by omega) (by omega) (by omega);have hb:=R_ (t:=9) (s:=2) (h:=1) (.inl rfl:eC=eC∨eC=eQ) (by omega) (by omega) (by omega);have d:(eQ.toList==eC.toList)=false:=by rw[HB]; exact decide_eq_false fun e=>by have:=congrArg S6 e; revert this; decide
 have k:(eC.toList==eQ.toList)=false:=by rw[HB]; exact decide_eq_false fun e=>by have:=congrArg S6 e; revert this; decide
 have o1:wE [.l [[.i 1]],.l [[.s eQ,.l [nw 9 eC 2 1]]],.l [[.l fF]]]=some [.i 0]:=by
  refine aa.toEq ?_;unfold wE
  (dsimp +instances only[Aa,Ab,Ac,Ad,Ae,Af,Ag])
  refine aa.pos rfl (aa.pos rfl (aa.pos rfl (aa.neg ?_ (aa.some rfl))));show (Op.bytesLess eQ.toList eC.toList||(eQ.toList==eC.toList))=false
  rw[d,xP,xP]
  kernel_rfl
 refine aa.toEq ?_;unfold AS
 (dsimp +instances only[Aa,Ab,Ac,Ad,Ae,Af,Ag])
 refine aa.neg rfl ?_;have key:a6 s7 [.l fF,.l fF,.i 2,.i 0] 3 fun x g=>x=1:=by
  refine a6.next (d1:=[.l fF,.l fF,.i 2,.i 1]) (aa.toEq ?_) (a6.next (d1:=[.l fF,.l fF,.i 2,.i 2]) (aa.toEq ?_) (a6.stop (x:=1) (d':=[]) (aa.toEq ?_) rfl))
  ·unfold s7
   (dsimp +instances only[Aa,Ab,Ac,Ad,Ae,Af,Ag])
   refine aa.pos rfl (aa.pos rfl ?_);refine aa.cE (Sa eC (nw 5 eQ 1 2) 0 (.inl rfl) ha d rfl) ?_;exact aa.neg rfl (aa.pos rfl (aa.some rfl))
  ·unfold s7
   (dsimp +instances only[Aa,Ab,Ac,Ad,Ae,Af,Ag])
   refine aa.pos rfl (aa.pos rfl ?_);refine aa.cE (Sa eQ (nw 9 eC 2 1) 1 (.inr rfl) hb k o1) ?_;exact aa.neg rfl (aa.pos rfl (aa.some rfl))
  ·unfold s7
   (dsimp +instances only[Aa,Ab,Ac,Ad,Ae,Af,Ag])
   exact aa.neg rfl (aa.some rfl)
 refine aa.loop (key.to (by omega)) rfl ?_;rintro x g rfl;exact aa.neg rfl (aa.some rfl)
theorem agP:Ix fF lC da 0 4 0:=by
 refine⟨1,0,by decide,rfl,?_⟩;have N:=R'.two (i:=0) (k:=1) (by decide) (by decide);show _∈jY (da 0) (da 1) (lC 0) (lC 1) 4
 refine(Im _ _ _ _ _).mem_iff.2 (agu.2 ⟨(⟨#[98]⟩,1),?_⟩);have g:∀(A:List (List G)) (s:ByteArray),A.length=1→kN A s 0=true→fo (A.getD 0 [])=((⟨#[98]⟩:ByteArray),(1:Int))→e_ A s (⟨#[98]⟩,1)=[0]:=fun A s h1 t v=>by
  have hm:∀ i,i∈e_ A s (⟨#[98]⟩,1)↔i=0:=fun i=>by
   rw[ml];constructor
   ·rintro⟨h,_⟩; omega
   ·rintro rfl; exact⟨by omega,t,v⟩
  have d:=RH A s (⟨#[98]⟩,1);generalize e_ A s (⟨#[98]⟩,1)=l at hm d
  match l,hm,d with
  | [],hm,_=>exact absurd ((hm 0).2 rfl) (by simp)
  | [a],hm,_=>rw[(hm a).1 (by simp)]
  | a::b::_,hm,d =>
   have h1:=(hm a).1 (by simp);have t:=(hm b).1 (by simp);have:=(List.pairwise_cons.1 d).1 b (by simp);omega
 have z:e_ (da 0) (lC 1) (⟨#[98]⟩,1)=[0]:=g _ _ rfl (by show (eQ.toList==eQ.toList)=true; rw[beq_self_eq_true]) rfl;have I:e_ (da 1) (lC 0) (⟨#[98]⟩,1)=[0]:=g _ _ rfl (by show (eC.toList==eC.toList)=true; rw[beq_self_eq_true]) rfl;unfold jX;rw[z,I];refine di.2 ⟨(0,0),?_,rfl⟩;unfold By;have B:=Rq 1 1 (dU (da 0) (da 1) [0] [0] 4) (wJ (da 0) (da 1) [0] [0]);have q:dU (da 0) (da 1) [0] [0] 4 0 0=true:=agt.2 ⟨rfl,rfl,by decide⟩;have hw:wJ (da 0) (da 1) [0] [0] 0 0=9999999996:=by decide
 show (0,0)∈gT (lA 1 1 (dU (da 0) (da 1) [0] [0] 4) (wJ (da 0) (da 1) [0] [0])) 1 (dU (da 0) (da 1) [0] [0] 4) (wJ (da 0) (da 1) [0] [0]) 1 0 0
 generalize lA 1 1 (dU (da 0) (da 1) [0] [0] 4) (wJ (da 0) (da 1) [0] [0])=F at B⊢;have s1:=B.step 0 0 (by omega) (by omega);have s2:=B.kK 1 0 (.inl (by omega));have J:=B.kK 0 1 (.inr (by omega));have u:=B.kK 1 1 (.inl (by omega));rw[if_pos q,s2,J,u,hw]at s1;have M:gz (gS F (dU (da 0) (da 1) [0] [0] 4) (wJ (da 0) (da 1) [0] [0]) (F 0 0) 0) 0 (1-0)=some 0:=af8 (by omega) (by omega) (H4.2 ⟨q,by rw[hw,u,s1]; omega⟩) (fun y _ O=>by omega);rw[Bq M];exact cH
theorem agQ:tv []=some [.t true]:=by
 have ho:0<fF.length:=by decide
 have S:=R';refine aa.toEq ?_;unfold tv;refine aa.call (P:=fun g=>∃(row:List G),g=[.l [row],.i 0]∧qJ fF lC da 0 4 0 row) ?_ ?_
 ·unfold Hb
  (dsimp +instances only[Aa,Ab,Ac,Ad,Ae,Af,Ag])
  refine aa.call (P:=fun g=>∃(row:List G),g=[.l [row],.i 0,.i 0]∧qJ fF lC da 0 4 0 row) ?_ ?_
  ·unfold G'
   (dsimp +instances only[Aa,Ab,Ac,Ad,Ae,Af,Ag])
   refine aa.cE agO ?_;refine aa.neg rfl ?_;refine aa.call (P:=fun g=>g=[.i 0]) ⟨_,by kernel_rfl,rfl⟩ ?_;rintro _ rfl;refine aa.neg rfl ?_;refine aa.call (R0 S eC) ?_;rintro _ ⟨p,b,rfl,V,W⟩
   (dsimp +instances only[Aa,Ab,Ac,Ad,Ae,Af,Ag])
   have hb:b=true:=by
    cases b with
    |true=>rfl
    |false=>exact absurd rfl (W rfl 0 ho)
   obtain⟨hp,M⟩:=V hb;have N:=S.inj hp ho (by rw[M]; rfl);subst N;refine aa.neg (by rw[hb]; rfl) ?_;refine aa.call (P:=fun g=>g=[.l fF,.i 0,.i 4,.l [],.i 0,.l [],.i 0]) (aa.eq rfl) ?_;rintro _ rfl
   (dsimp +instances only[Aa,Ab,Ac,Ad,Ae,Af,Ag])
   refine aa.call (P:=fun g=>∃(row:List G),g=[.l [],.l [],.l [],.l [row]]∧qJ fF lC da 0 4 0 row) ?_ ?_
   ·unfold G9
    (dsimp +instances only[Aa,Ab,Ac,Ad,Ae,Af,Ag])
    simp only[bp];refine aa.pos rfl (aa.pos rfl ?_);have key:a6 tu [.l fF,.i 0,.i 4,.l [],.l [],.i 0,.l [],.l [],.i 0,.l [],.i 0,.l [],.l (da 0),.i 1,.i 0] 2 fun x g=>x=0∧∃(row:List G) (v1 v2 v3 v4 v5 v6 I J v9:G),g=[v1,v2,v3,v4,v5,v6,I,J,v9,.l [row]]∧qJ fF lC da 0 4 0 row:=by
     have step:aa (tu [.l fF,.i 0,.i 4,.l [],.l [],.i 0,.l [],.l [],.i 0,.l [],.i 0,.l [],.l (da 0),.i 1,.i 0]) fun o=>∃(row:List G) (u:List (List G)) (y z:Int) (a b c d e:List (List G)) (m1 m2 m3:Nat),o=(none,[.l u,.i y,.i z,.l a,.l b,.i (m1:Int),.l c,.l d,.i (m2:Int),.l e,.i (m3:Int),.l [row],.l (da 0),.i 1,.i 1])∧qJ fF lC da 0 4 0 row:=by
      unfold tu
      (dsimp +instances only[Aa,Ab,Ac,Ad,Ae,Af,Ag])
      refine aa.pos rfl (aa.pos rfl ?_);refine aa.neg rfl ?_;refine aa.call (agL S ho 4 (i:=0) (by decide) []) ?_;rintro _ ⟨ks',row,rfl,q⟩;have O:be aQ row=row:=by
       obtain⟨kd,w,v,rfl,_⟩:=q;rfl
      (dsimp +instances only[Aa,Ab,Ac,Ad,Ae,Af,Ag])
      simp only[bp,O];exact aa.test (fun _=>aa.pos rfl (aa.pos rfl (aa.pos rfl (aa.some ⟨row,_,_,_,_,_,_,_,_,_,_,_,rfl,q⟩)))) fun _=>aa.pos rfl (aa.pos rfl (aa.pos rfl (aa.some ⟨row,_,_,_,_,_,_,_,_,_,_,_,rfl,q⟩)))
     obtain⟨o,h,row,u,y,z,a,b,c,d,e,m1,m2,m3,rfl,q⟩:=step;refine a6.next h (a6.stop (x:=0) (d':=[.l u,.i y,.i z,.l a,.l b,.i (m1:Int),.l c,.l d,.i (m2:Int),.l [row]]) (aa.toEq ?_) ⟨rfl,row,_,_,_,_,_,_,_,_,_,rfl,q⟩)
     unfold tu
     (dsimp +instances only[Aa,Ab,Ac,Ad,Ae,Af,Ag])
     simp only[bp];exact aa.neg rfl (aa.pos rfl (aa.some rfl))
    refine aa.loop (key.to (by omega)) rfl ?_;rintro _ _ ⟨rfl,row,v1,v2,v3,v4,v5,v6,I,J,v9,rfl,q⟩
    (dsimp +instances only[Aa,Ab,Ac,Ad,Ae,Af,Ag])
    exact aa.pos rfl (aa.some ⟨row,rfl,q⟩)
   ·rintro _ ⟨row, rfl, q⟩
    exact aa.some ⟨row,rfl,q⟩
  ·rintro _ ⟨row, rfl, q⟩
   exact aa.some ⟨row,rfl,q⟩
 ·rintro _ ⟨row, rfl, q⟩
  (dsimp +instances only[Aa,Ab,Ac,Ad,Ae,Af,Ag])
  refine aa.pos rfl (aa.pos rfl (aa.pos rfl (aa.some ?_)));have hk:(gi (([row]:List (List G)).getD 0 []) 1).int=1:=by
   obtain⟨kd,w,v,rfl,⟨k,j,hk,hj,R,_,_,_,⟨rfl,_⟩|⟨rfl,hs⟩⟩|⟨U,_⟩⟩:=q
   ·rfl
   ·exfalso
    have hk2:k<2:=hk;have:k=0∨k=1:=by omega
    rcases this with rfl|rfl
    ·have : eC = eQ := R
     have:=congrArg S6 this
     revert this
     decide
    ·have hj1 : j < 1 := hj
     have:j=0:=by omega
     subst this;have B:((2:Int)==2&&((⟨#[]⟩:ByteArray).toList==(⟨#[]⟩:ByteArray).toList))=false:=hs;rw[beq_self_eq_true,beq_self_eq_true]at B;cases B
   ·exact absurd agP U
  rw[hk];rfl
theorem agR(rows:List (List G)):Ba [.l rows]=some [.t true]:=af6 agQ rows
end
end Go.Proofs.iU
