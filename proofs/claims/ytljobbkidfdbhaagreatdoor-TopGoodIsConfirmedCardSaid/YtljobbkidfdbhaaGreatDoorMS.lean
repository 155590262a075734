/-
 What is proved here: the pairs of two logs,as the program reckons them. No condition.
-/
import Derived.Test.YtljobbkidfdbhaaGreatDoorMF
set_option linter.all false
open Bool renaming and_true→fO,and_eq_true→ax,not_eq_true'→l_,not_true→Hg,or_false→AT
open ByteArray renaming size_append→afh
open Function renaming comp→Ho
open Go.ByteArray renaming toList_eq→wU
open Go.Op renaming bytesLess→k9
open Int renaming toNat_natCast→a_,le_refl→tu,eq_ofNat_of_zero_le→Rb
open List renaming length_cons→cw,append_nil→cO,length_map→dJ,mem_map→dD,getElem_of_mem→oG,getElem?_eq_getElem→bI,all_eq_true→cM,getD_eq_getElem?_getD→cf,mem_cons→bW,map_cons→du,length_take→kr,length_append→fb,nil_append→lb,mem_cons_self→cW,mem_cons_of_mem→c9,map_append→kA,range→dv,any_eq_true→iQ,mem_range→eC,length_nil→ma,getElem_mem→nm,pairwise_map→wQ,pairwise_iff_getElem→Q1,pairwise_cons→np,any_append→AY,Nodup→Ra,any_cons→AZ,length_singleton→afe,take_append_getElem→aff,any_nil→afg
open List.Pairwise renaming take→afF
open List.Sublist renaming refl→afG
open Nat renaming le_refl→aB,le_trans→lV,lt_or_ge→jq,zero_add→cP,beq→ad,ble→c_,blt→fe,ble_eq→qn,beq_refl→tq,lt_trichotomy→afc,le_of_not_lt→afd
open Option renaming getD_some→l7
namespace Go.Proofs.fW
open Go Go.AL Go.Proofs
noncomputable section
def Gs(A B:List (List G))(off:Int)(X Y:List Nat):List (Nat × Nat):=gQ (mT X.length Y.length (e9 A B X Y off) (wJ A B X Y)) Y.length (e9 A B X Y off) (wJ A B X Y) X.length 0 0
def gE(A:List (List G))(d:ByteArray)(k:GK):List Nat:=fA A d k A.length
def lR(A B:List (List G))(ac d:ByteArray)(off:Int)(k:GK):List (List G):=(Gs A B off (gE A d k) (gE B ac k)).map (oz (gE A d k) (gE B ac k))
def iw(A B:List (List G))(ac d:ByteArray)(off:Int):List (List G):=((fB A d).map fun e=>lR A B ac d off e.1).flatten
def k8(r s:List G):Int:=eA (gi r 0).int (gi s 0).int
def km(A B:List (List G))(ac d:ByteArray)(off:Int):List (List G):=dq (bY k8) (iw A B ac d off)
theorem mW{A:List (List G)}{s:ByteArray}{k:GK}{i:Nat}:i∈gE A s k↔i<A.length∧k0 A s i=true∧fm (A.getD i [])=k:=by
 unfold gE fA;rw[List.mem_filter,eC,ax,decide_eq_true_eq]
theorem PN(A:List (List G))(s:ByteArray)(k:GK):(gE A s k).length≤A.length:=by
 unfold gE fA;have:=List.length_filter_le (fun i=>k0 A s i&&decide (fm (A.getD i [])=k)) (dv A.length)
 rwa [List.length_range]at this
theorem acR(A:List (List G))(s:ByteArray)(k:GK):(gE A s k).Pairwise (·<·):=(List.pairwise_lt_range).filter _
structure gF (A B:List (List G)):Prop where
 ha:∀ z∈A,fN z
 hb:∀ z∈B,fN z
 na:A.length≤1000
 nb:B.length≤1000
theorem gF.flip{A B:List (List G)}(h:gF A B):gF B A:=⟨h.hb,h.ha,h.nb,h.na⟩
theorem gF.jc{A B:List (List G)}(h:gF A B)(ac d:ByteArray)(k:GK):JC A B (gE A d k) (gE B ac k):=by
 have h1:=h.na;have g:=h.nb;have q:=PN A d k;have u:=PN B ac k;exact⟨h.ha,h.hb,fun i hi=>(mW.1 hi).1,fun i hi=>(mW.1 hi).1,by omega,by omega,by omega,by omega⟩
theorem Gt{A B:List (List G)}{off:Int}{X Y:List Nat}{x:Nat × Nat}(h:x∈Gs A B off X Y):x.1<X.length∧x.2<Y.length∧e9 A B X Y off x.1 x.2=true:=by
 obtain⟨_,b,_,d,e⟩:=Am _ _ _ x h;exact⟨by omega,d,e⟩
theorem acS(A B:List (List G))(off:Int)(X Y:List Nat):(Gs A B off X Y).length≤X.length:=by
 have key:∀(F:Nat→Nat→Int) (m:Nat) (ok:Nat→Nat→Bool) (w:Nat→Nat→Int) (t i f:Nat),(gQ F m ok w t i f).length≤t:=by
  intro F m ok w t
  induction t with
  |zero=>intro i f; exact aB _
  | succ t d =>
   intro i f;rw[gQ];split
   ·rw [cw]
    exact Nat.succ_le_succ (d _ _)
   ·exact Nat.le_succ_of_le (d _ _)
 exact key _ _ _ _ _ _ _
/-! ### d program -/
def Gu(r:List G):Prop:=∃ i k:Nat,r=[.i (i:Int),.i (k:Int)]∧i≤100000∧k≤100000
theorem acT:rW sv Gu k8:=by
 rintro _ _ ⟨i,k,rfl,h1,g⟩ ⟨d,k',rfl,h,q⟩;refine⟨(i:Int)-(d:Int),?_,?_⟩
 ·refine aa.toEq ?_
  unfold sv
  (dsimp +instances only[Aa,Ab,Ac,Ad,Ae,Af,Ag])
  exact aa.pos (kP.2 ⟨by omega,by omega⟩) (aa.some rfl)
 ·show (i : Int) - (d : Int) < 0 ↔ eA (i : Int) (d : Int) < 0
  rw[sM];omega
theorem Gv:eZ (bY k8) (fun _=>True):=aco (fun a b=>Ak.flip _ _) fun a b d h1 g=>Ak.le _ _ _ h1 g
theorem Gw{A B:List (List G)}(h:gF A B){ac d:ByteArray}{off:Int}{k:GK}{r:List G}(g:r∈lR A B ac d off k) :
  ∃ i j:Nat,r=[.i (i:Int),.i (j:Int)]∧i∈gE A d k∧j∈gE B ac k∧sP off (A.getD i []) (B.getD j [])=true:=by
 obtain⟨x,q,rfl⟩:=dD.1 g;obtain⟨a,b,c⟩:=Gt q;exact⟨_,_,rfl,sR a,sR b,c⟩
theorem Gx{A B:List (List G)}(h:gF A B){ac g:ByteArray}{off:Int}{r:List G}(d:r∈iw A B ac g off) :
  ∃(k:GK) (i j:Nat),r=[.i (i:Int),.i (j:Int)]∧i∈gE A g k∧j∈gE B ac k∧sP off (A.getD i []) (B.getD j [])=true:=by
 obtain⟨l,q,d⟩:=List.mem_flatten.1 d;obtain⟨e,_,rfl⟩:=dD.1 q;obtain⟨i,j,h1⟩:=Gw h d;exact⟨_,i,j,h1⟩
theorem Gy{A B:List (List G)}(h:gF A B){ac d:ByteArray}{off:Int}:∀ r∈iw A B ac d off,Gu r:=fun r g=>by
 obtain⟨k,i,j,rfl,h1,q,_⟩:=Gx h g;have:=(mW.1 h1).1;have:=(mW.1 q).1;have:=h.na;have:=h.nb;exact⟨i,j,rfl,by omega,by omega⟩
theorem Gz{A B:List (List G)}(h:gF A B)(ac d:ByteArray)(off:Int):(iw A B ac d off).Pairwise fun a b=>(gi a 0).int≠(gi b 0).int:=by
 have M:=GI.to A d A.length;unfold iw;rw[List.pairwise_flatten];refine⟨fun l N=>?_,?_⟩
 ·obtain ⟨e, _, rfl⟩ := dD.1 N
  unfold lR;rw[wQ];refine(Gh _ _ _).imp_of_mem fun {x y} g k v he=>?_;obtain⟨q,_,_⟩:=Gt (A:=A) (B:=B) (off:=off) g;obtain⟨b1,_,_⟩:=Gt (A:=A) (B:=B) (off:=off) k;have he:(((gE A d e.1).getD x.1 0:Nat):Int)=(((gE A d e.1).getD y.1 0:Nat):Int):=he;have U:=Q1.1 (acR A d e.1) x.1 y.1 q b1 v.1;rw[cf,bI q,cf,bI b1]at he;simp only[l7]at he;omega
 ·rw [wQ]
  have I:(fB A d).Pairwise fun e e'=>e.1≠e'.1:=by
   have:=M.nd;unfold Ra at this
   rwa [wQ]at this
  refine I.imp fun {e e'} J x g y k he=>?_;obtain⟨i,j,rfl,h1,_⟩:=Gw h g;obtain⟨u,V,rfl,O,_⟩:=Gw h k;have he:(i:Int)=(u:Int):=he;have he:i=u:=by omega
  subst he;exact J ((mW.1 h1).2.2.symm.trans (mW.1 O).2.2)
theorem PO{A B:List (List G)}(h:gF A B)(ac d:ByteArray)(off:Int):∀ a∈iw A B ac d off,∀ b∈iw A B ac d off,bY k8 a b=false→bY k8 b a=false→a=b:=by
 intro a ha b hb h1 k;unfold bY k8 at h1 k;rw[dm,decide_eq_false_iff_not,sM]at h1 k;have he:(gi a 0).int=(gi b 0).int:=by omega
 obtain⟨i,hi,rfl⟩:=oG ha;obtain⟨j,q,rfl⟩:=oG hb;have u:=Q1.1 (Gz h ac d off);rcases afc i j with g|g|g
 ·exact(u i j hi q g he).elim
 ·subst g; rfl
 ·exact(u j i q hi g he.symm).elim
theorem acU{A B:List (List G)}(h:gF A B)(ac d:ByteArray)(off:Int){out:List (List G)}(g:out.Perm (iw A B ac d off))(k:out.length<100000):sw [.l out]=some [.l (km A B ac d off)]:=by
 have h1:=Wc (C:=sv) (Q:=Gu) acT (Gv.mono fun _ _=>trivial) out (fun y q=>Gy h y (g.mem_iff.1 q)) k fun a ha b hb=>PO h ac d off a (g.mem_iff.1 ha) b (g.mem_iff.1 hb);unfold sw;rw[h1];have e:dq (bY k8) (iw A B ac d off)=dq (bY k8) out:=V9 Gv g.symm (fun _ _=>trivial) (PO h ac d off);rw[←e];rfl
def Av(r:List G):GK:=((gi (gi r 0).row 0).str,(gi (gi r 0).row 1).int)
theorem PQ:∀(i:Nat) (L:List (GK × List Nat)) (r:List G),r∈bu i L→∃(j:Nat) (e:GK × List Nat),e∈L∧r=jl j e
 |_,[],_,h=>by cases h
 | i,e::L,r,h=>by
  rcases bW.1 h with rfl|h
  ·exact⟨i,e,cW,rfl⟩
  ·obtain ⟨j, e', h1, d⟩ := PQ (i + 1) L r h
   exact⟨j,e',c9 _ h1,d⟩
theorem PR{β:Type}(f:GK→β):∀(i:Nat) (L:List (GK × List Nat)),(bu i L).map (fun r=>f (Av r))=L.map fun e=>f e.1
 |_,[]=>rfl
 | i,e::L=>by
  simp only[bu,du,PR f (i+1) L];rfl
theorem PS:∀(i:Nat) (L:List (GK × List Nat)),(bu i L).map cV=(dv L.length).map (i+·)
 |_,[]=>rfl
 | i,e::L=>by
  simp only[bu,du,PS (i+1) L,cw,List.range_succ_eq_map,List.map_map];rw[show cV (jl i e)=i from by simp[cV,jl,gi,G.int]];congr 1;refine List.map_congr_left fun x _=>?_;simp only[Ho];omega
theorem PT:∀ l:List Nat,l.Nodup→nodupB l=true
 | [],_=>rfl
 | a::l,d=>by
  obtain⟨h1,g⟩:=List.nodup_cons.1 d;simp only[nodupB,PT l g,fO,l_];cases h:l.any (ad a)with
  |false=>rfl
  | true =>
   obtain⟨x,k,e⟩:=iQ.1 h;rw[Nat.eq_of_beq_eq_true e]at h1;exact(h1 k).elim
theorem acV(L:List (GK × List Nat)):lB (bu 0 L) L.length=true:=by
 have hb:(bu 0 L).map cV=dv L.length:=by
  rw[PS];simp
 unfold lB;rw[hb,ax];refine⟨PT _ List.nodup_range,?_⟩;rw[cM];intro r d;have:cV r∈(bu 0 L).map cV:=dD.2 ⟨r,d,rfl⟩;rw[hb,eC]at this;simpa using this
theorem acW{st:List G→List G→Option (List G)}{a7:List G→Nat}{r:List G}{q:List (List G)}{d d':List G}(h:st r d=some d')(ha:a7 d'=a7 d):cH st a7 (r::q) d=cH st a7 q d':=by
 simp only[cH,h];rw[ha,show ad (a7 d) (a7 d)=true from tq _,cond_true]
theorem PU{A B:List (List G)}(h:gF A B)(ac g:ByteArray)(off:Int)(clk a7:Nat):∀(q out:List (List G)),(∀ r∈q,r∈bu 0 (fB A g))→out.length+1000*q.length≤1000000 →
  cH zL (fun d=>(gi d 8).int.toNat) q [.s ac,.l A,.s g,.l B,.l (bu 0 (fB B ac)),.i (clk:Int),.l out,.i off,.i (a7:Int)] =
   some [.s ac,.l A,.s g,.l B,.l (bu 0 (fB B ac)),.i (clk:Int),.l (out++(q.map fun r=>lR A B ac g off (Av r)).flatten),.i off,.i (a7:Int)]
 | [],out,_,_=>by simp[cH]
 | r::q,out,k,u=>by
  simp only[cw]at u;obtain⟨j,e,he,rfl⟩:=PQ 0 _ r (k r cW);have v:=(GI.to A g A.length).qa e he;have hk:Av (jl j e)=e.1:=rfl;have hX:e.2=gE A g e.1:=v.1;have J:=h.jc ac g e.1;have hlen:(lR A B ac g off e.1).length≤1000:=by
   unfold lR;rw[dJ];exact lV (acS _ _ _ _ _) J.nX
  have st:zL (jl j e) [.s ac,.l A,.s g,.l B,.l (bu 0 (fB B ac)),.i (clk:Int),.l out,.i off,.i (a7:Int)]=some [.s ac,.l A,.s g,.l B,.l (bu 0 (fB B ac)),.i (clk:Int),.l (out++lR A B ac g off e.1),.i off,.i (a7:Int)]:=by
   have y:(gi (gi (jl j e) 1).row 0).rows=bE e.2:=rfl;have I:aH [.str,.int .i64] (gi (jl j e) 0).row=dh e.1:=rfl;refine aa.toEq ?_;unfold zL;rw[y,I]
   (dsimp +instances only[Aa,Ab,Ac,Ad,Ae,Af,Ag])
   rw[acQ,hX]
   (dsimp +instances only[Aa,Ab,Ac,Ad,Ae,Af,Ag])
   refine aa.cE (acK J off (acC _ _ _ _)) ?_
   (dsimp +instances only[Aa,Ab,Ac,Ad,Ae,Af,Ag])
   simp only[a_];exact aa.pos (by
    show ((ad out.length out.length)&&decide (out.length+(lR A B ac g off e.1).length≤1048576))=true
    rw[tq,Bool.true_and,decide_eq_true_eq];omega) (aa.pos (by rw[tq]; rfl) (aa.some rfl))
  rw[acW st rfl,PU h ac g off clk a7 q _ (fun x M=>k x (c9 _ M)) (by rw[fb]; omega)];rw[du,List.flatten_cons,hk,List.append_assoc]
theorem Aw:∀(n:Nat) (l:List Nat),l.Nodup→(∀ x∈l,x<n)→l.length≤n
 | 0,l,_,h=>by
  cases l with
  |nil=>exact aB _
  |cons x l=>exact absurd (h x cW) (by omega)
 | n+1,l,g,h=>by
  by_cases hm:n∈l
  ·have h1:=Aw n (l.erase n) (g.erase n) fun x d=>by
    have k:=h x (List.mem_of_mem_erase d);have q:x≠n:=fun e=>by
     subst e;exact(List.Nodup.not_mem_erase g) d
    omega
   rw[List.length_erase_of_mem hm]at h1;omega
  ·have:=Aw n l g fun x d=>by
    have k:=h x d;have q:x≠n:=fun e=>hm (e▸d);omega
   omega
theorem acX{A B:List (List G)}(h:gF A B)(ac d:ByteArray)(off:Int) :
  Fm [.s ac,.l A,.s d,.l B,.l (bu 0 (fB A d)),.i ((fB A d).length:Int),.l (bu 0 (fB B ac)),.i ((fB B ac).length:Int),.l [],.i off]=some (some 0,[.l (km A B ac d off)]):=by
 have O:=GI.to A d A.length;have U:=O.len;have na:=h.na;show jK zM zN (bu 0 (fB A d)) (((fB A d).length:Int).toNat) _=_
 rw[a_];refine V_ (acV _) fun b p q=>⟨rfl,?_⟩
 have hpn:p.length≤1000:=by
  have:=q.length_eq;rw[wh]at this;have:(fB A d).length≤A.length:=U;omega
 have v:((p.map fun r=>lR A B ac d off (Av r)).flatten).Perm (iw A B ac d off):=by
  unfold iw;rw[←PR (fun k=>lR A B ac d off k) 0 (fB A d)];exact(q.map _).flatten
 have hall:(iw A B ac d off).length≤1000:=by
  have M:((iw A B ac d off).map fun r=>(gi r 0).int.toNat).Nodup:=by
   unfold Ra;rw[wQ];refine(Gz h ac d off).imp_of_mem fun {x y} g V N he=>N ?_;obtain⟨i,k,rfl,_⟩:=Gy h x g;obtain⟨I,k',rfl,_⟩:=Gy h y V;have he:((i:Int)).toNat=((I:Int)).toNat:=he;show (i:Int)=(I:Int)
   omega
  have J:((iw A B ac d off).map fun r=>(gi r 0).int.toNat) ⊆ dv A.length:=by
   intro x g;obtain⟨r,u,rfl⟩:=dD.1 g;obtain⟨k,i,j,rfl,h1,_⟩:=Gx h u;rw[eC];exact(mW.1 h1).1
  have:=Aw A.length _ M fun x g=>eC.1 (J g);rw[dJ]at this;omega
 refine⟨_,PU h ac d off (fB B ac).length b p [] (fun r u=>q.mem_iff.1 u) (by simp; omega),?_⟩;rw[lb];refine aa.toEq ?_;unfold zN
 (dsimp +instances only[Aa,Ab,Ac,Ad,Ae,Af,Ag])
 have W:=v.length_eq;refine aa.oe (aa.eq (acU h ac d off v (by omega))) (by simp) ?_;rintro _ rfl
 (dsimp +instances only[Aa,Ab,Ac,Ad,Ae,Af,Ag])
 refine aa.pos ?_ (aa.some rfl);rw[W];unfold km;rw[Du,tq];rfl
theorem acY{A B:List (List G)}(h:gF A B)(ac d:ByteArray)(off:Int):zO [.l [[.s ac,.l A]],.l [[.s d,.l B]],.i off]=some [.l (km A B ac d off)]:=by
 have na:=h.na;have nb:=h.nb;refine aa.toEq ?_;unfold zO
 (dsimp +instances only[Aa,Ab,Ac,Ad,Ae,Af,Ag])
 refine aa.cE (PM A (by omega) d) ?_
 (dsimp +instances only[Aa,Ab,Ac,Ad,Ae,Af,Ag])
 refine aa.cE (PM B (by omega) ac) ?_
 (dsimp +instances only[Aa,Ab,Ac,Ad,Ae,Af,Ag])
 simp only[a_];refine aa.tail (P:=fun u g=>u=0∧g=[.l (km A B ac d off)]) ⟨_,acX h ac d off,0,rfl,rfl,rfl⟩ (by first|rfl|simp) ?_;rintro _ _ ⟨rfl,rfl⟩
 (dsimp +instances only[Aa,Ab,Ac,Ad,Ae,Af,Ag])
 exact aa.pos (by simp) (aa.some rfl)
/-! ### g sorted d -/
theorem PV(A B:List (List G))(ac d:ByteArray)(off:Int):(km A B ac d off).Perm (iw A B ac d off):=rV (lt:=bY k8) _
theorem acZ{A B:List (List G)}(h:gF A B)(ac d:ByteArray)(off:Int):(km A B ac d off).Pairwise fun a b=>(gi a 0).int<(gi b 0).int:=by
 have h1:=zl (lt:=bY k8) Gv (l:=iw A B ac d off) (fun _ _=>trivial);have k:(km A B ac d off).Pairwise fun a b=>(gi a 0).int≠(gi b 0).int:=(Gz h ac d off).perm (PV A B ac d off).symm (fun g e=>g e.symm);refine h1.imp₂ (fun {a b} g1 g2=>?_) k;unfold bY k8 at g1;rw[dm,decide_eq_false_iff_not,sM]at g1;omega
theorem Ax{A B:List (List G)}(h:gF A B){ac d:ByteArray}{off:Int}{r:List G}(q:r∈km A B ac d off) :
  ∃ i j:Nat,r=[.i (i:Int),.i (j:Int)]∧i<A.length∧j<B.length∧k0 A d i=true∧k0 B ac j=true∧sP off (A.getD i []) (B.getD j [])=true:=by
 obtain⟨k,i,j,rfl,h1,u,v⟩:=Gx h ((PV A B ac d off).mem_iff.1 q);have g:=mW.1 h1;have a2:=mW.1 u;exact⟨i,j,rfl,g.1,a2.1,g.2.1,a2.2.1,v⟩
theorem ac0{A B:List (List G)}(h:gF A B)(ac d:ByteArray)(off:Int):(km A B ac d off).length≤A.length:=by
 have k:((km A B ac d off).map fun r=>(gi r 0).int.toNat).Nodup:=by
  unfold Ra;rw[wQ];refine((acZ h ac d off).imp_of_mem ?_);intro a b ha hb q e;obtain⟨i,j,rfl,_⟩:=Ax h ha;obtain⟨g,y,rfl,_⟩:=Ax h hb;have I:((i:Int)).toNat=((g:Int)).toNat:=e;have e':i=g:=by omega
  subst e';exact absurd q (Int.lt_irrefl _)
 have:=Aw A.length _ k fun x u=>by
  obtain⟨r,v,rfl⟩:=dD.1 u;obtain⟨i,j,rfl,hi,_⟩:=Ax h v;show ((i:Int).toNat)<_
  rwa [a_]
 simpa using this
theorem oB(ks:List Kd)(r:List G)(rs:List (List G))(key:List G):cn ks (r::rs) key=bif aR ks key (gi r 0).row then j0 r else cn ks rs key:=by
 unfold cn;simp only[bS];cases aR ks key (gi r 0).row with
 |true=>rfl
 | false =>
  simp only[cond_false];rw[mL ks key rs (0+1)];cases bS ks key rs 0<;>rfl
theorem oC(ks:List Kd)(r:List G)(rs:List (List G))(key:List G):eh ks (r::rs) key=bif aR ks key (gi r 0).row then (gi r 3).bool else eh ks rs key:=by
 unfold eh;simp only[bS];cases aR ks key (gi r 0).row with
 |true=>rfl
 | false =>
  simp only[cond_false];rw[mL ks key rs (0+1)];cases bS ks key rs 0<;>rfl
theorem PW(ks:List Kd)(r:List G)(rs:List (List G))(key:List G):gq ks (r::rs) key=bif aR ks key (gi r 0).row then [gi r 0,gi r 1,gi r 2,.t false]::rs else r::gq ks rs key:=by
 unfold gq;simp only[bS];cases aR ks key (gi r 0).row with
 |true=>rfl
 | false =>
  simp only[cond_false];rw[mL ks key rs (0+1)];cases bS ks key rs 0<;>rfl
theorem PX(ks:List Kd)(r:List G)(rs:List (List G))(key:List G)(v:List (List G))(c:Nat):kR ks (r::rs) key v c=bif aR ks key (gi r 0).row then [.l [key],.l [[.l v]],.i (gi r 2).int,.t true]::rs else r::kR ks rs key v c:=by
 unfold kR;simp only[bS];cases aR ks key (gi r 0).row with
 |true=>rfl
 | false =>
  simp only[cond_false];rw[mL ks key rs (0+1)];cases bS ks key rs 0<;>rfl
theorem GA(ks:List Kd)(k key:List G):∀ rows:List (List G),cn ks (gq ks rows k) key=cn ks rows key
 | []=>rfl
 | r::rs=>by
  rw[PW];cases h:aR ks k (gi r 0).row with
  | true =>
   rw[cond_true,oB,oB];rfl
  |false=>rw[cond_false,oB,oB,GA ks k key rs]
theorem GB(ks:List Kd){k key:List G}(d:aR ks key k=false):∀ rows:List (List G),eh ks (gq ks rows k) key=eh ks rows key
 | []=>rfl
 | r::rs=>by
  rw[PW];cases h:aR ks k (gi r 0).row with
  | true =>
   have e:aR ks key (gi r 0).row=false:=by rw[←vh h]; exact d
   rw[cond_true,oC,oC,e];show (bif aR ks key (gi r 0).row then _ else _)=_
   rw[e];rfl
  |false=>rw[cond_false,oC,oC,GB ks d rs]
theorem PY(ks:List Kd)(k key:List G)(v:List (List G))(c:Nat):∀ rows:List (List G),cn ks (kR ks rows k v c) key=bif aR ks key k then v else cn ks rows key
 | []=>by
  show cn ks [[.l [k],.l [[.l v]],.i (c:Int),.t true]] key=_
  rw[oB];rfl
 | r::rs=>by
  rw[PX,oB];cases h:aR ks k (gi r 0).row with
  | true =>
   rw[cond_true,oB];have e:aR ks key (gi r 0).row=aR ks key k:=(vh h).symm;rw[e];show (bif aR ks key k then _ else _)=_
   cases aR ks key k<;>rfl
  | false =>
   rw[cond_false,oB,PY ks k key v c rs];cases d:aR ks key (gi r 0).row with
   |false=>rfl
   | true =>
    cases g:aR ks key k with
    |false=>rfl
    | true =>
     have:aR ks k (gi r 0).row=true:=pM (by rw[pL]; exact g) d;rw[this]at h;cases h
theorem PZ(ks:List Kd)(k key:List G)(v:List (List G))(c:Nat):∀ rows:List (List G),eh ks (kR ks rows k v c) key=bif aR ks key k then true else eh ks rows key
 | []=>by
  show eh ks [[.l [k],.l [[.l v]],.i (c:Int),.t true]] key=_
  rw[oC];rfl
 | r::rs=>by
  rw[PX,oC];cases h:aR ks k (gi r 0).row with
  | true =>
   rw[cond_true,oC];have e:aR ks key (gi r 0).row=aR ks key k:=(vh h).symm;rw[e];show (bif aR ks key k then _ else _)=_
   cases aR ks key k<;>rfl
  | false =>
   rw[cond_false,oC,PZ ks k key v c rs];cases d:aR ks key (gi r 0).row with
   |false=>rfl
   | true =>
    cases g:aR ks key k with
    |false=>rfl
    | true =>
     have:aR ks k (gi r 0).row=true:=pM (by rw[pL]; exact g) d;rw[this]at h;cases h
theorem wo(s k:ByteArray):aR [.str] [.s s] [.s k]=decide (s=k):=by
 show ((s.toList==k.toList)&&true)=_
 rw[fO,F_]
structure fZ (Q:List G→Prop) (m:List (List G)) (n:ByteArray→Nat):Prop where
 eh:∀ k,eh [.str] m [.s k]=true
 get:∀ k,(cn [.str] m [.s k]).length≤n k∧∀ z∈cn [.str] m [.s k],Q z
theorem fZ.nil(Q:List G→Prop):fZ Q [] fun _=>0:=⟨fun _=>rfl,fun _=>⟨aB _,by intro z d; cases d⟩⟩
theorem fZ.add{Q:List G→Prop}{m:List (List G)}{n:ByteArray→Nat}(h:fZ Q m n)(k:ByteArray){x:List G}(q:Q x)(c:Nat) :
  fZ Q (kR [.str] (gq [.str] m [.s k]) [.s k] (cn [.str] m [.s k]++[x]) c) fun s=>if s=k then n s+1 else n s:=by
 refine⟨fun s=>?_,fun s=>?_⟩
 ·rw [PZ, wo]
  by_cases e:s=k
  ·rw[decide_eq_true e]; rfl
  ·rw [decide_eq_false e, cond_false, GB _ (by rw [wo]; exact decide_eq_false e)]
   exact h.eh s
 ·rw [PY, wo]
  obtain⟨h1,g⟩:=h.get s;by_cases e:s=k
  ·subst e
   rw[decide_eq_true rfl,cond_true];simp only[if_true];refine⟨by rw[fb]; simp; omega,fun z d=>?_⟩;rcases List.mem_append.1 d with d|d
   ·exact g z d
   ·rw[List.mem_singleton.1 d]; exact q
  ·rw [decide_eq_false e, cond_false, GA]
   simp only[if_neg e];exact⟨h1,g⟩
theorem fZ.mono{Q:List G→Prop}{m:List (List G)}{n d:ByteArray→Nat}(h:fZ Q m n)(g:∀ k,n k≤d k):fZ Q m d :=
 ⟨h.eh,fun k=>⟨lV (h.get k).1 (g k),(h.get k).2⟩⟩
def jm(r:List G):Prop:=dy r∧0≤(gi r 0).int∧(gi r 0).int≤1000000
theorem ac1{t m s h:Int}{b c x y:ByteArray}(d:0≤t∧t≤1000000)(hm:0≤m∧m≤10)(hb:b∈kZ)(g:c∈calls)(u:0≤s∧s≤1000)(v:0≤h∧h≤1000)(k:x∈names)(q:y∈names) :
  jm [.i t,.i m,.s b,.s c,.i s,.i h,.s x,.s y] :=
 ⟨⟨t,m,b,c,s,h,x,y,rfl,by unfold small; omega,by unfold small; omega,by unfold small; omega,by unfold small; omega,hb,g,k,q⟩,d⟩
def jn(m:List (List G))(B:Int):Prop:=∀ k,0≤(gi (aw [.str] m [.s k] [.i 0]) 0).int∧(gi (aw [.str] m [.s k] [.i 0]) 0).int≤B
theorem jn.add{m:List (List G)}{B:Int}(h:jn m B)(k:ByteArray)(c:Nat):jn (aI [.str] m [.s k] [.i ((gi (aw [.str] m [.s k] [.i 0]) 0).int+1)] c) (B+1):=fun s=>by
 have h1:=h k;have d:=h s;rw[vj,wo];by_cases e:s=k
 ·rw [decide_eq_true e, cond_true]
  show 0≤(gi (aw [.str] m [.s k] [.i 0]) 0).int+1∧(gi (aw [.str] m [.s k] [.i 0]) 0).int+1≤B+1
  omega
 ·rw [decide_eq_false e, cond_false]
  omega
theorem P0{Q:List G→Prop}{l aG ser cs:List (List G)}{clk c2:Nat}{n:ByteArray→Nat}(d:fZ Q aG n){a t nn i:Int}{b:ByteArray}(O:n b≤1000){g h q u:Int}{v y B I:ByteArray}(N:Q [.i g,.i h,.s v,.s y,.i q,.i u,.s B,.s I])(f:Bool) :
  ∃(J:List (List G)) (M:Nat),r_ [.l l,.i a,.l aG,.i (clk:Int),.l ser,.i (c2:Int),.l cs,.i t,.s b,.l [[.i g,.i h,.s v,.s y,.i q,.i u,.s B,.s I]],.i nn,.i i,.t f] =
   some (some 0,[.l l,.i a,.l J,.i (M:Int),.l ser,.i (c2:Int),.l cs,.i t,.i nn,.i i])∧fZ Q J (fun s=>if s=b then n s+1 else n s):=by
 have U:=(d.get b).1;cases f with
 | false =>
  refine⟨aG,clk,aa.toEq ?_,d.mono fun k=>by split<;>omega⟩;unfold r_
  (dsimp +instances only[Aa,Ab,Ac,Ad,Ae,Af,Ag])
  simp only[a_];exact aa.neg rfl (aa.some rfl)
 | true =>
  refine⟨kR [.str] (gq [.str] aG [.s b]) [.s b] (cn [.str] aG [.s b]++[[.i g,.i h,.s v,.s y,.i q,.i u,.s B,.s I]]) clk,bl [.str] (gq [.str] aG [.s b]) [.s b] clk,aa.toEq ?_,d.add b N clk⟩;unfold r_
  (dsimp +instances only[Aa,Ab,Ac,Ad,Ae,Af,Ag])
  simp only[a_];exact aa.pos rfl (aa.pos (d.eh b) (aa.pos (by simp; omega) (aa.pos (by simp) (aa.some rfl))))
theorem P1{Q:List G→Prop}{l aG ser cs:List (List G)}{clk c2:Nat}{n:ByteArray→Nat}(y:fZ Q aG n){a t nn i:Int}(ha:0≤a)(ha1:a≤100000){b:ByteArray}(B:n b≤1000){I J M N:Int}{O k U V:ByteArray}(W:Q [.i I,.i J,.s O,.s k,.i M,.i N,.s U,.s V]) :
  ∃(d:List (List G)) (h:Nat) (q:Int),a≤q∧q≤a+1∧sa [.l l,.i a,.l aG,.i (clk:Int),.l ser,.i (c2:Int),.l cs,.i t,.s b,.l [[.i I,.i J,.s O,.s k,.i M,.i N,.s U,.s V]],.i nn,.i i] =
   some (some 0,[.l l,.i q,.l d,.i (h:Int),.l ser,.i (c2:Int),.l cs,.i t,.i nn,.i i])∧fZ Q d (fun s=>if s=b then n s+1 else n s):=by
 cases hb : !(k.toList==b.toList)with
 | false =>
  obtain⟨d,h,h1,v⟩:=P0 (l:=l) (ser:=ser) (cs:=cs) (clk:=clk) (c2:=c2) y (a:=a) (t:=t) (nn:=nn) (i:=i) (b:=b) B W false;refine⟨d,h,a,tu _,by omega,aa.toEq ?_,v⟩;unfold sa
  (dsimp +instances only[Aa,Ab,Ac,Ad,Ae,Af,Ag])
  simp only[a_];refine aa.neg hb ?_;refine aa.tail (P:=fun u g=>u=0∧g=[.l l,.i a,.l d,.i (h:Int),.l ser,.i (c2:Int),.l cs,.i t,.i nn,.i i]) ⟨_,h1,0,rfl,rfl,rfl⟩ (by first|rfl|simp) ?_;rintro _ _ ⟨rfl,rfl⟩
  (dsimp +instances only[Aa,Ab,Ac,Ad,Ae,Af,Ag])
  simp only[a_];exact aa.some rfl
 | true =>
  obtain⟨_,hf,f,rfl⟩:=acf l a 8 ha (by omega) (by omega) (by omega);obtain⟨d,h,h1,v⟩:=P0 (l:=l) (ser:=ser) (cs:=cs) (clk:=clk) (c2:=c2) y (a:=a+1) (t:=t) (nn:=nn) (i:=i) (b:=b) B W (!f);refine⟨d,h,a+1,by omega,tu _,aa.toEq ?_,v⟩;unfold sa
  (dsimp +instances only[Aa,Ab,Ac,Ad,Ae,Af,Ag])
  simp only[a_];refine aa.pos hb ?_;refine aa.cE hf ?_
  (dsimp +instances only[Aa,Ab,Ac,Ad,Ae,Af,Ag])
  refine aa.tail (P:=fun u g=>u=0∧g=[.l l,.i (a+1),.l d,.i (h:Int),.l ser,.i (c2:Int),.l cs,.i t,.i nn,.i i]) ⟨_,h1,0,rfl,rfl,rfl⟩ (by first|rfl|simp) ?_;rintro _ _ ⟨rfl,rfl⟩
  (dsimp +instances only[Aa,Ab,Ac,Ad,Ae,Af,Ag])
  simp only[a_];exact aa.some rfl
theorem sV{Q:List G→Prop}{l aG ser cs:List (List G)}{clk c2:Nat}{n:Nat}(y:fZ Q aG fun _=>n){a t nn i:Int}(ha:0≤a)(M:a≤100000){q b:ByteArray}(hab:q≠b)(hn:n≤999){N O U V:Int}{W B x6 x7:ByteArray}(hx:Q [.i N,.i O,.s W,.s B,.i U,.i V,.s x6,.s x7]){y0 y1 y4 y5:Int}{y2 y3 y6 y7:ByteArray}(hy:Q [.i y0,.i y1,.s y2,.s y3,.i y4,.i y5,.s y6,.s y7]) :
  ∃(h:List (List G)) (v:Nat) (d:Int),a≤d∧d≤a+1∧lI [.l l,.i a,.l aG,.i (clk:Int),.l ser,.i (c2:Int),.i N,.i O,.s W,.s B,.i U,.i V,.s x6,.s x7,.l cs,.i t,.s q,.s b,.l [[.i y0,.i y1,.s y2,.s y3,.i y4,.i y5,.s y6,.s y7]],.i nn,.i i] =
   some (some 0,[.l l,.i d,.l h,.i (v:Int),.l ser,.i (c2:Int),.l cs,.i t,.i nn,.i i])∧fZ Q h (fun _=>n+1):=by
 have hl:=(y.get q).1;cases hc : !(B.toList==q.toList)with
 | false =>
  obtain⟨h,v,d,g1,g2,h1,I⟩:=P1 (l:=l) (ser:=ser) (cs:=cs) (clk:=clk) (c2:=c2) y (a:=a) (t:=t) (nn:=nn) (i:=i) ha M (b:=b) (by omega) hy;refine⟨h,v,d,g1,g2,aa.toEq ?_,I.mono fun k=>by split<;>omega⟩;unfold lI
  (dsimp +instances only[Aa,Ab,Ac,Ad,Ae,Af,Ag])
  simp only[a_];refine aa.neg hc ?_;refine aa.tail (P:=fun u g=>u=0∧g=[.l l,.i d,.l h,.i (v:Int),.l ser,.i (c2:Int),.l cs,.i t,.i nn,.i i]) ⟨_,h1,0,rfl,rfl,rfl⟩ (by first|rfl|simp) ?_;rintro _ _ ⟨rfl,rfl⟩
  (dsimp +instances only[Aa,Ab,Ac,Ad,Ae,Af,Ag])
  simp only[a_];exact aa.some rfl
 | true =>
  obtain⟨h,v,d,g1,g2,h1,I⟩:=P1 (l:=l) (ser:=ser) (cs:=cs) (clk:=bl [.str] (gq [.str] aG [.s q]) [.s q] clk) (c2:=c2) (y.add q hx clk) (a:=a) (t:=t) (nn:=nn) (i:=i) ha M (b:=b) (by split<;>omega) hy;refine⟨h,v,d,g1,g2,aa.toEq ?_,I.mono fun k=>?_⟩
  ·unfold lI
   (dsimp +instances only[Aa,Ab,Ac,Ad,Ae,Af,Ag])
   simp only[a_];refine aa.pos hc (aa.pos (y.eh q) (aa.pos (by simp; omega) (aa.pos (by simp) ?_)));refine aa.tail (P:=fun u g=>u=0∧g=[.l l,.i d,.l h,.i (v:Int),.l ser,.i (c2:Int),.l cs,.i t,.i nn,.i i]) ⟨_,h1,0,rfl,rfl,rfl⟩ (by first|rfl|simp) ?_;rintro _ _ ⟨rfl,rfl⟩
   (dsimp +instances only[Aa,Ab,Ac,Ad,Ae,Af,Ag])
   simp only[a_];exact aa.some rfl
  ·by_cases J : k = b
   ·rw [if_pos J, if_neg (fun e => hab (e.symm.trans J))]
    exact aB _
   ·rw [if_neg J]
    split<;>omega
theorem jn.mono{m:List (List G)}{B d:Int}(h:jn m B)(hb:B≤d):jn m d:=fun k=>⟨(h k).1,Int.le_trans (h k).2 hb⟩
theorem jn.nil:jn [] 0:=fun k=>⟨tu 0,tu 0⟩
theorem sW{X:Option (Option Nat × List G)}{l d ser cs:List (List G)}{k t nn i:Int}{h c2:Nat}
  (hX:X=some (some 0,[.l l,.i k,.l d,.i (h:Int),.l ser,.i (c2:Int),.l cs,.i t,.i nn,.i i])) (hi:ao (i+1)=true) :
  aa (aN true (bU X) fun v g17=>(aN true (bU (jh [.l (gi g17 0).rows,.i (gi g17 1).int,.l (gi g17 2).rows,.i (((gi g17 3).int.toNat:Nat):Int),.l (gi g17 4).rows,.i (((gi g17 5).int.toNat:Nat):Int),.l (gi g17 6).rows,.i (gi g17 7).int,.i (gi g17 8).int,.i (gi g17 9).int])) fun y g18=>some ((none:Option Nat),([.l (gi g18 0).rows,.i (gi g18 1).int,.l (gi g18 2).rows,.i (((gi g18 3).int.toNat:Nat):Int),.l (gi g18 4).rows,.i (((gi g18 5).int.toNat:Nat):Int),.l (gi g18 6).rows,.i (gi g18 7).int,.i (gi g18 8).int,.i (gi g18 9).int]:List G))))
   fun o=>o=(none,[.l l,.i k,.l d,.i (h:Int),.l ser,.i (c2:Int),.l cs,.i t,.i nn,.i (i+1)]):=by
 refine aa.tail (P:=fun u g=>u=0∧g=[.l l,.i k,.l d,.i (h:Int),.l ser,.i (c2:Int),.l cs,.i t,.i nn,.i i]) ⟨_,hX,0,rfl,rfl,rfl⟩ (by first|rfl|simp) ?_;rintro _ _ ⟨rfl,rfl⟩
 (dsimp +instances only[Aa,Ab,Ac,Ad,Ae,Af,Ag])
 simp only[a_];have q:jh [.l l,.i k,.l d,.i (h:Int),.l ser,.i (c2:Int),.l cs,.i t,.i nn,.i i]=some (some 0,[.l l,.i k,.l d,.i (h:Int),.l ser,.i (c2:Int),.l cs,.i t,.i nn,.i (i+1)]):=by
  refine aa.toEq ?_;unfold jh
  (dsimp +instances only[Aa,Ab,Ac,Ad,Ae,Af,Ag])
  simp only[a_];exact aa.pos hi (aa.some rfl)
 refine aa.tail (P:=fun u g=>u=0∧g=[.l l,.i k,.l d,.i (h:Int),.l ser,.i (c2:Int),.l cs,.i t,.i nn,.i (i+1)]) ⟨_,q,0,rfl,rfl,rfl⟩ (by first|rfl|simp) ?_;rintro _ _ ⟨rfl,rfl⟩
 (dsimp +instances only[Aa,Ab,Ac,Ad,Ae,Af,Ag])
 simp only[a_];exact aa.some rfl
theorem ac2{l d ser cs:List (List G)}{k t nn i:Int}{h c2:Nat}(hi:ao (i+1)=true) :
  aa (aN true (bU (jh [.l l,.i k,.l d,.i (h:Int),.l ser,.i (c2:Int),.l cs,.i t,.i nn,.i i])) fun v g18=>some ((none:Option Nat),([.l (gi g18 0).rows,.i (gi g18 1).int,.l (gi g18 2).rows,.i (((gi g18 3).int.toNat:Nat):Int),.l (gi g18 4).rows,.i (((gi g18 5).int.toNat:Nat):Int),.l (gi g18 6).rows,.i (gi g18 7).int,.i (gi g18 8).int,.i (gi g18 9).int]:List G)))
   fun o=>o=(none,[.l l,.i k,.l d,.i (h:Int),.l ser,.i (c2:Int),.l cs,.i t,.i nn,.i (i+1)]):=by
 have q:jh [.l l,.i k,.l d,.i (h:Int),.l ser,.i (c2:Int),.l cs,.i t,.i nn,.i i]=some (some 0,[.l l,.i k,.l d,.i (h:Int),.l ser,.i (c2:Int),.l cs,.i t,.i nn,.i (i+1)]):=by
  refine aa.toEq ?_;unfold jh
  (dsimp +instances only[Aa,Ab,Ac,Ad,Ae,Af,Ag])
  simp only[a_];exact aa.pos hi (aa.some rfl)
 refine aa.tail (P:=fun u g=>u=0∧g=[.l l,.i k,.l d,.i (h:Int),.l ser,.i (c2:Int),.l cs,.i t,.i nn,.i (i+1)]) ⟨_,q,0,rfl,rfl,rfl⟩ (by first|rfl|simp) ?_;rintro _ _ ⟨rfl,rfl⟩
 (dsimp +instances only[Aa,Ab,Ac,Ad,Ae,Af,Ag])
 simp only[a_];exact aa.some rfl
theorem ac3{l aG ser cs:List (List G)}{clk c2 n:Nat}{B:Int}(N:fZ jm aG fun _=>n)(hS:jn ser B)(hc0:(c_ 1 cs.length&&c_ cs.length 1000000)=true) (hcs:(cs.all fun x=>ow calls (gi x 0).str)=true)
  (hB:0≤B) (hB1:B≤900) {a t nn i:Int} (ha:0≤a) (ha1:a≤90000) (ht:0≤t) (ht1:t≤900000) (hn:n≤900) (hi0:0≤i) (hi:i<nn) (hnn:nn≤100000) :
  aa (sb [.l l,.i a,.l aG,.i (clk:Int),.l ser,.i (c2:Int),.l cs,.i t,.i nn,.i i]) fun o=>∃(b:Int) (g:List (List G)) (J:Nat) (ser':List (List G)) (c2':Nat) (t':Int),o=(none,[.l l,.i b,.l g,.i (J:Int),.l ser',.i (c2':Int),.l cs,.i t',.i nn,.i (i+1)]) ∧
   a≤b∧b≤a+10∧fZ jm g (fun _=>n+1)∧jn ser' (B+2)∧t≤t'∧t'≤t+1000:=by
 have M:ao (i+1)=true:=by simp only[ao,sl]<;>omega
 unfold sb
 (dsimp +instances only[Aa,Ab,Ac,Ad,Ae,Af,Ag])
 (repeat first|refine aa.p ?_|refine aa.n ?_)
 refine aa.call (F5 0 1000 l a _ ha (by omega) (by kernel_rfl) (by kernel_rfl)) ?_;rintro _ ⟨v,rfl,hd0,hd1⟩
 (dsimp +instances only[Aa,Ab,Ac,Ad,Ae,Af,Ag])
 (repeat first|refine aa.p ?_|refine aa.n ?_)
 refine aa.call (sL calls l (a+1) cs (by omega) (by omega) hc0 hcs) ?_;rintro _ ⟨I,rfl,hca⟩
 (dsimp +instances only[Aa,Ab,Ac,Ad,Ae,Af,Ag])
 refine aa.call (sL calls l (a+1+1) _ (by omega) (by omega) (by kernel_rfl) (by kernel_rfl)) ?_;rintro _ ⟨b,rfl,hb⟩
 (dsimp +instances only[Aa,Ab,Ac,Ad,Ae,Af,Ag])
 simp only[a_];by_cases k:I=b
 ·refine aa.pos (by rw [k, F_]; exact decide_eq_true rfl) ?_
  refine(ac2 M).mono ?_;rintro _ rfl;exact⟨_,_,_,_,_,_,rfl,by omega,by omega,N.mono fun _=>by omega,hS.mono (by omega),by omega,by omega⟩
 refine aa.neg (by rw[F_]; exact decide_eq_false k) ?_;obtain⟨s1,e1⟩:∃ z,z=aI [.str] ser [.s I] [.i ((gi (aw [.str] ser [.s I] [.i 0]) 0).int+1)] c2:=⟨_,rfl⟩
 have hS1:jn s1 (B+1):=e1▸hS.add I c2;obtain⟨k1,f1⟩:∃ z,z=bl [.str] ser [.s I] c2:=⟨_,rfl⟩
 obtain⟨s2,e2⟩:∃ z,z=aI [.str] s1 [.s b] [.i ((gi (aw [.str] s1 [.s b] [.i 0]) 0).int+1)] k1:=⟨_,rfl⟩
 have u:jn s2 (B+2):=by
  have:=hS1.add b k1;rw[←e2]at this;exact this.mono (by omega)
 obtain⟨V,f2⟩:∃ z,z=bl [.str] s1 [.s b] k1:=⟨_,rfl⟩
 simp only[←f1,←e1];simp only[←f2,←e2];have v1:=hS I;have v2:=hS1 b;obtain⟨p,ep⟩:∃ p,p=(gi (aw [.str] s2 [.s I] [.i 0]) 0).int:=⟨_,rfl⟩
 obtain⟨q,eq⟩:∃ p,p=(gi (aw [.str] s2 [.s b] [.i 0]) 0).int:=⟨_,rfl⟩
 simp only[←ep,←eq];have v3:0≤p∧p≤B+2:=ep▸u I;have v4:0≤q∧q≤B+2:=eq▸u b
 (repeat first|refine aa.p ?_|refine aa.n ?_)
 refine aa.call (sL kZ l (a+1+1+1) _ (by omega) (by omega) (by kernel_rfl) (by kernel_rfl)) ?_;rintro _ ⟨bd,rfl,O⟩
 (dsimp +instances only[Aa,Ab,Ac,Ad,Ae,Af,Ag])
 refine aa.call (F5 1 2 l (a+1+1+1+1) _ (by omega) (by omega) (by kernel_rfl) (by kernel_rfl)) ?_;rintro _ ⟨m,rfl,hm0,hm1⟩
 (dsimp +instances only[Aa,Ab,Ac,Ad,Ae,Af,Ag])
 refine aa.call (F5 0 200 l (a+1+1+1+1+1) _ (by omega) (by omega) (by kernel_rfl) (by kernel_rfl)) ?_;rintro _ ⟨d2,rfl,hd2,hd3⟩
 (dsimp +instances only[Aa,Ab,Ac,Ad,Ae,Af,Ag])
 (repeat first|refine aa.p ?_|refine aa.n ?_)
 refine aa.call (v7 l (a+1+1+1+1+1+1) 8 (by omega) (by omega) (by omega) (by omega)) ?_;rintro _ ⟨cs',rfl,hc3,hc4⟩
 (dsimp +instances only[Aa,Ab,Ac,Ad,Ae,Af,Ag])
 have hb':b∈calls:=hb;have hx0:(⟨#[]⟩:ByteArray)∈names:=z8 (by kernel_rfl);have U:(⟨#[120]⟩:ByteArray)∈names:=z8 (by kernel_rfl);have mk:∀{t' m' s h:Int} {b' c x y:ByteArray},0≤t'∧t'≤1000000→0≤m'∧m'≤10→b'∈kZ→c∈calls→0≤s∧s≤1000→0≤h∧h≤1000→x∈names→y∈names→jm [.i t',.i m',.s b',.s c,.i s,.i h,.s x,.s y]:=fun h1 d h3 h4 h5 h6 h7 h8=>ac1 h1 d h3 h4 h5 h6 h7 h8;have W:∀{c:ByteArray} {h:Int} {y:ByteArray},c∈calls→0≤h∧h≤1000→y∈names→jm [.i (t+v),.i m,.s bd,.s c,.i p,.i h,.s ⟨#[]⟩,.s y]:=fun h1 d h3=>mk (by omega) (by omega) O h1 (by omega) d hx0 h3;have hy:∀{b' c:ByteArray},b'∈kZ→c∈calls→jm [.i (t+v+d2),.i m,.s b',.s c,.i q,.i p,.s ⟨#[120]⟩,.s ⟨#[]⟩]:=fun h0 h1=>mk (by omega) (by omega) h0 h1 (by omega) (by omega) U hx0;by_cases c0:cs'=0
 ·refine aa.pos (by simp [c0]) ?_
  refine aa.call (sL calls l (a+1+1+1+1+1+1+1) _ (by omega) (by omega) (by kernel_rfl) (by kernel_rfl)) ?_;rintro _ ⟨w,rfl,hw⟩
  (dsimp +instances only[Aa,Ab,Ac,Ad,Ae,Af,Ag])
  obtain⟨g,J,a',g1,g2,h1,d⟩:=sV (l:=l) (ser:=s2) (cs:=cs) (clk:=clk) (c2:=V) N (a:=a+1+1+1+1+1+1+1+1) (t:=t+v) (nn:=nn) (i:=i) (by omega) (by omega) k (by omega) (W hw (h:=q) (by omega) U) (hy O hca);refine(sW h1 M).mono ?_;rintro _ rfl;exact⟨_,_,_,_,_,_,rfl,by omega,by omega,d,u,by omega,by omega⟩
 refine aa.neg (by simp[c0]) ?_;by_cases c1:cs'=1
 ·refine aa.pos (by simp [c1]) ?_
  refine aa.call (sL calls l (a+1+1+1+1+1+1+1) _ (by omega) (by omega) (by kernel_rfl) (by kernel_rfl)) ?_;rintro _ ⟨w,rfl,hw⟩
  (dsimp +instances only[Aa,Ab,Ac,Ad,Ae,Af,Ag])
  obtain⟨g,J,a',g1,g2,h1,d⟩:=sV (l:=l) (ser:=s2) (cs:=cs) (clk:=clk) (c2:=V) N (a:=a+1+1+1+1+1+1+1+1) (t:=t+v) (nn:=nn) (i:=i) (by omega) (by omega) k (by omega) (W hb (h:=q) (by omega) U) (hy O hw);refine(sW h1 M).mono ?_;rintro _ rfl;exact⟨_,_,_,_,_,_,rfl,by omega,by omega,d,u,by omega,by omega⟩
 refine aa.neg (by simp[c1]) ?_;by_cases c2':cs'=2
 ·refine aa.pos (by simp [c2']) ?_
  (repeat first|refine aa.p ?_|refine aa.n ?_)
  obtain⟨g,J,a',g1,g2,h1,d⟩:=sV (l:=l) (ser:=s2) (cs:=cs) (clk:=clk) (c2:=V) N (a:=a+1+1+1+1+1+1+1) (t:=t+v) (nn:=nn) (i:=i) (by omega) (by omega) k (by omega) (W hb (h:=q+1) (by omega) U) (hy O hca);refine(sW h1 M).mono ?_;rintro _ rfl;exact⟨_,_,_,_,_,_,rfl,by omega,by omega,d,u,by omega,by omega⟩
 refine aa.neg (by simp[c2']) ?_;by_cases c3:cs'=3
 ·refine aa.pos (by simp [c3]) ?_
  obtain⟨g,J,a',g1,g2,h1,d⟩:=sV (l:=l) (ser:=s2) (cs:=cs) (clk:=clk) (c2:=V) N (a:=a+1+1+1+1+1+1+1) (t:=t+v) (nn:=nn) (i:=i) (by omega) (by omega) k (by omega) (W hb (h:=q) (by omega) hx0) (hy O hca);refine(sW h1 M).mono ?_;rintro _ rfl;exact⟨_,_,_,_,_,_,rfl,by omega,by omega,d,u,by omega,by omega⟩
 refine aa.neg (by simp[c3]) ?_;by_cases c4:cs'=4
 ·refine aa.pos (by simp [c4]) ?_
  refine aa.call (sL kZ l (a+1+1+1+1+1+1+1) _ (by omega) (by omega) (by kernel_rfl) (by kernel_rfl)) ?_;rintro _ ⟨w,rfl,hw⟩
  (dsimp +instances only[Aa,Ab,Ac,Ad,Ae,Af,Ag])
  obtain⟨g,J,a',g1,g2,h1,d⟩:=sV (l:=l) (ser:=s2) (cs:=cs) (clk:=clk) (c2:=V) N (a:=a+1+1+1+1+1+1+1+1) (t:=t+v) (nn:=nn) (i:=i) (by omega) (by omega) k (by omega) (W hb (h:=q) (by omega) U) (hy hw hca);refine(sW h1 M).mono ?_;rintro _ rfl;exact⟨_,_,_,_,_,_,rfl,by omega,by omega,d,u,by omega,by omega⟩
 refine aa.neg (by simp[c4]) ?_;obtain⟨g,J,a',g1,g2,h1,d⟩:=sV (l:=l) (ser:=s2) (cs:=cs) (clk:=clk) (c2:=V) N (a:=a+1+1+1+1+1+1+1) (t:=t+v) (nn:=nn) (i:=i) (by omega) (by omega) k (by omega) (W hb (h:=q) (by omega) U) (hy O hca);refine(sW h1 M).mono ?_;rintro _ rfl;exact⟨_,_,_,_,_,_,rfl,by omega,by omega,d,u,by omega,by omega⟩
theorem P2{l cs:List (List G)}(v:(c_ 1 cs.length&&c_ cs.length 1000000)=true) (y:(cs.all fun x=>ow calls (gi x 0).str)=true) {n:Nat} (W:n≤14):∀(k i:Nat) (aG ser:List (List G)) (clk c2:Nat) (a t:Int),i+k=n→0≤a→a≤1000+10*i→0≤t→t≤1000*i→fZ jm aG (fun _=>i)→jn ser (2*i) →
  aX sb [.l l,.i a,.l aG,.i (clk:Int),.l ser,.i (c2:Int),.l cs,.i t,.i (n:Int),.i (i:Int)] (k+1) fun c g=>c=0∧∃(b:Int) (d:List (List G)) (q:Nat),g=[.l l,.i b,.l d,.i (q:Int),.l cs]∧a≤b∧b≤a+10*k∧fZ jm d (fun _=>n)
 | 0,i,aG,ser,clk,c2,a,t,hi,ha,O,B,U,u,I=>by
  refine aX.stop (x:=0) (aa.toEq ?_) ⟨rfl,a,aG,clk,rfl,by omega,by omega,u.mono fun _=>by omega⟩;unfold sb
  (dsimp +instances only[Aa,Ab,Ac,Ad,Ae,Af,Ag])
  simp only[a_]
  (repeat first|refine aa.p ?_|refine aa.n ?_)
  exact aa.some rfl
 | k+1,i,aG,ser,clk,c2,a,t,hi,ha,O,B,U,u,I=>by
  obtain⟨_,h,b,d,q,M,V,t',rfl,g1,g2,g3,g4,g5,g6⟩:=ac3 (l:=l) (clk:=clk) (c2:=c2) u I v y (by omega) (by omega) (a:=a) (t:=t) (nn:=n) (i:=i) ha (by omega) B (by omega) (by omega) (by omega) (by omega) (by omega);have ih:=P2 (l:=l) v y W k (i+1) d M q V b t' (by omega) (by omega) (by omega) (by omega) (by omega) g3 (g4.mono (by omega));refine aX.next h (ih.mono ?_)
  rintro c g ⟨rfl,b',J,N,rfl,q1,q2,q3⟩;exact⟨rfl,b',J,N,rfl,by omega,by omega,q3⟩
def oD(r s:List G):Bool:=dO r s==0
theorem ac4:zh [.int .i64,.int .i64,.str,.str,.int .i64,.int .i64,.str,.str] vE dy oD:=⟨fun r s d g=>by
 refine aa.toEq ?_;unfold vE
 (dsimp +instances only[Aa,Ab,Ac,Ad,Ae,Af,Ag])
 simp only[d.eta,g.eta];refine aa.cE (Pd d g) ?_;exact aa.some rfl,fun _ h=>h.eta⟩
def zS:List G:=[.i 0,.i 0,.s (⟨#[]⟩:ByteArray),.s (⟨#[]⟩:ByteArray),.i 0,.i 0,.s (⟨#[]⟩:ByteArray),.s (⟨#[]⟩:ByteArray)]
def GC(c:ByteArray)(r:List G):Prop:=∃ L:List (List G),r=[.s c,.l L]∧(∀ z∈L,jm z)∧L.length≤14
def kn(c:ByteArray):List G:=[.s c]
theorem P3{l:List (List G)}{a:Int}:∀(q p:List ByteArray) (aG acc:List (List G)) (clk:Nat),(∀ c∈q,eh [.str] aG [.s c]=true∧(cn [.str] aG [.s c]).length≤14∧∀ z∈cn [.str] aG [.s c],jm z)→q.Pairwise (·≠·)→acc.length=p.length→p.length+q.length≤100 →
  aX sc [.l l,.i a,.l aG,.i (clk:Int),.l acc,.l ((p++q).map kn),.i ((p.length+q.length:Nat):Int),.i (p.length:Int)] (q.length+1) fun c g=>c=0∧∃ L:List (List G),g=[.l l,.i a,.l (acc++L)]∧L.length=q.length∧∀ i,i<q.length→GC (q.getD i ⟨#[]⟩) (L.getD i [])
 | [],p,aG,acc,clk,k,u,I,N=>by
  refine aX.stop (x:=0) (aa.toEq ?_) ⟨rfl,[],rfl,rfl,fun i hi=>by cases hi⟩;unfold sc
  (dsimp +instances only[Aa,Ab,Ac,Ad,Ae,Af,Ag])
  (repeat first|refine aa.p ?_|refine aa.n ?_)
  exact aa.some (by simp)
 | c::q,p,aG,acc,clk,k,u,I,N=>by
  simp only[cw]at N;obtain⟨h1,h2,v⟩:=k c (by simp);have g1:((p++c::q).map kn).getD (p.length:Int).toNat []=kn c:=by
   rw[kA,du];exact kf _ _ _ _ _ (by simp)
  have hc:((p++c::q).map kn).length=p.length+(q.length+1):=by simp
  obtain⟨M,O⟩:∃ M,M=cn [.str] aG [.s c]:=⟨_,rfl⟩
  rw[←O]at h2 v;have U:=VY (lt:=bY dO) v;have hsl:=Du (bY dO) M;have hle:(gO oD (dq (bY dO) M)).length≤(dq (bY dO) M).length:=V7 _ _;have V:=P3 (l:=l) (a:=a) q (p++[c]) (gq [.str] aG [.s c]) (acc++[[.s c,.l (gO oD (dq (bY dO) M))]]) clk (by
   intro x W;obtain⟨y,B,q3⟩:=k x (c9 _ W);have hne:x≠c:=fun e=>(np.1 u).1 x W e.symm;rw[GA,GB _ (by rw[wo]; exact decide_eq_false hne)];exact⟨y,B,q3⟩) (np.1 u).2 (by simp[I]) (by simp; omega)
  have key:aa (sc [.l l,.i a,.l aG,.i (clk:Int),.l acc,.l ((p++c::q).map kn),.i ((p.length+(c::q).length:Nat):Int),.i (p.length:Int)]) fun o=>o=(none,[.l l,.i a,.l (gq [.str] aG [.s c]),.i (clk:Int),.l (acc++[[.s c,.l (gO oD (dq (bY dO) M))]]),.l ((p++c::q).map kn),.i ((p.length+(c::q).length:Nat):Int),.i ((p.length:Int)+1)]):=by
   unfold sc
   (dsimp +instances only[Aa,Ab,Ac,Ad,Ae,Af,Ag])
   simp only[g1,hc,kn,cw]
   (dsimp +instances only[Aa,Ab,Ac,Ad,Ae,Af,Ag])
   simp only[a_,←O]
   (repeat first|refine aa.p ?_|refine aa.n ?_)
   refine aa.oe (aa.eq (V5 ach M (fun z d=>(v z d).1) (by omega))) (by simp) ?_;rintro _ rfl
   (dsimp +instances only[Aa,Ab,Ac,Ad,Ae,Af,Ag])
   refine aa.oe (P:=fun g=>∃ J,g=[.l (gO oD (dq (bY dO) M)++J),.i ((gO oD (dq (bY dO) M)).length:Int)]∧(gO oD (dq (bY dO) M)++J).length=(dq (bY dO) M).length)
    (V8 (Z:=zS) ac4 (dq (bY dO) M) (fun z d=>(U z d).1) (by omega)) (by simp[hsl]) ?_
   rintro _ ⟨J,rfl,hJ⟩
   (dsimp +instances only[Aa,Ab,Ac,Ad,Ae,Af,Ag])
   simp only[a_,List.take_left'];refine aa.pos (by simp) (aa.pos (by simp; omega) (aa.p (aa.pos (by simp) (aa.some ?_))));rfl
  obtain⟨_,h,rfl⟩:=key;have e:((p++[c])++q).map kn=(p++c::q).map kn:=by simp
  have e2:(((p++[c]).length+q.length:Nat):Int)=((p.length+(c::q).length:Nat):Int):=by simp; omega
  have e3:(((p++[c]).length:Nat):Int)=(p.length:Int)+1:=by simp
  rw[e,e2,e3]at V;refine aX.next h (V.mono ?_)
  rintro x g ⟨rfl,L,rfl,y,B⟩;refine⟨rfl,[.s c,.l (gO oD (dq (bY dO) M))]::L,by simp,by simp[y],fun i hi=>?_⟩;cases i with
  |zero=>exact⟨_,rfl,fun z d=>U z (V6 d),by omega⟩
  |succ i=>exact B i (by simpa using hi)
def C4:List ByteArray:=[⟨#[107,49,97,98]⟩,⟨#[111,104,50,97,98,99]⟩,⟨#[111,104,50,97,98,100]⟩,⟨#[119,49,97,119]⟩]
theorem ac5(l:List (List G)):aa (zH [.l l,.i 0]) fun g=>∃(b:Int) (L:List (List G)) (m:Nat),g=[.l l,.i b,.l L]∧0≤b∧b≤1000∧1≤m∧m≤4∧L.length=m∧∀ i,i<m→GC (C4.getD i ⟨#[]⟩) (L.getD i []):=by
 unfold zH
 (dsimp +instances only[Aa,Ab,Ac,Ad,Ae,Af,Ag])
 refine aa.call (O_ l 0 1 4 (by omega) (by omega) (by omega) (by omega) (by omega)) ?_;rintro _ ⟨m,rfl,O,U⟩;obtain⟨m,rfl⟩:=Rb (by omega:0≤m)
 (dsimp +instances only[Aa,Ab,Ac,Ad,Ae,Af,Ag])
 (repeat first|refine aa.p ?_|refine aa.n ?_)
 refine aa.call (O_ l (0+1) 0 14 (by omega) (by omega) (by omega) (by omega) (by omega)) ?_;rintro _ ⟨n,rfl,v,V⟩;obtain⟨n,rfl⟩:=Rb v
 (dsimp +instances only[Aa,Ab,Ac,Ad,Ae,Af,Ag])
 obtain⟨cs,k⟩:∃ cs,cs=C4.take m:=⟨_,rfl⟩
 have y:cs.length=m:=by
  rw[k,kr];show min m 4=m
  omega
 have B:([[.s (⟨#[107,49,97,98]⟩:ByteArray)],[.s (⟨#[111,104,50,97,98,99]⟩:ByteArray)],[.s (⟨#[111,104,50,97,98,100]⟩:ByteArray)],[.s (⟨#[119,49,97,119]⟩:ByteArray)]]:List (List G)).take ((m:Int).toNat)=cs.map kn:=by
  rw[k,List.map_take];rfl
 simp only[B];have I:=P2 (l:=l) (cs:=cs.map kn) (by rw[dJ,y]; simp; omega) (by
  rw[List.all_map,cM];intro c q;rw[k]at q;have:c∈C4:=List.mem_of_mem_take q;have d:C4.all (fun c=>ow calls c)=true:=by kernel_rfl
  exact cM.1 d c this) (by omega:n≤14) n 0 [] [] 0 0 (0+1+1) 0 (by omega) (by omega) (by omega) (by omega) (by omega) (fZ.nil _) (by exact jn.nil)
 refine aa.loop (I.to (by omega)) (by(first|rfl|assumption|(simp only[ao,sl]<;>omega))) ?_;rintro c g ⟨rfl,b,aG,clk,rfl,W,h3,d⟩
 (dsimp +instances only[Aa,Ab,Ac,Ad,Ae,Af,Ag])
 simp only[a_];have J:cs.Pairwise (·≠·):=by
  rw[k];refine afF ?_;have d:(decide (C4.Pairwise fun a b=>a.data.toList≠b.data.toList))=true:=by kernel_rfl
  exact(of_decide_eq_true d).imp fun h e=>h (by rw[e])
 have u:=P3 (l:=l) (a:=b) cs [] aG [] clk (fun c _=>⟨d.eh c,lV (d.get c).1 (by omega),(d.get c).2⟩) J rfl (by simp; omega);simp only[lb,ma,cP]at u;have M:((cs.map kn).length:Int)=(cs.length:Int):=by rw[dJ]
 simp only[M];refine aa.loop (u.to (by omega)) (by(first|rfl|assumption|(simp only[ao,sl]<;>omega))) ?_;rintro c g ⟨rfl,L,rfl,q1,N⟩
 (dsimp +instances only[Aa,Ab,Ac,Ad,Ae,Af,Ag])
 refine aa.pos (by simp) (aa.some ⟨b,L,m,rfl,by omega,by omega,by omega,by omega,by omega,fun i hi=>?_⟩);have:=N i (by omega)
 rwa [k,cf,List.getElem?_take,if_pos hi,←cf]at this
def wq(K:List Kd)(C:List G→Option (List G))(d:List G):Option (Option Nat × List G) :=
 (bif (aj (gi d 3).int (gi d 2).int) then (bif ((az (gi d 3).int)&&(aj (gi d 3).int (((gi d 0).rows.length:Nat):Int))) then (aA (C [.l [(aH K ((gi d 0).rows.getD (((gi d 3).int).toNat) []))],.l [(aH [.str,.list K] (gi d 1).row)]]) fun g1=>(bif (gi g1 0).bool then some (some 0,[.i (gi d 3).int]) else (bif (ao ((gi d 3).int+1)) then some (none,[.l (gi d 0).rows,.l [(aH [.str,.list K] (gi d 1).row)],.i (gi d 2).int,.i ((gi d 3).int+1)]) else none))) else none) else some (some 1,[]))
def P4(K:List Kd)(C:List G→Option (List G))(d:List G):Option (List G) :=
 (aA (aN true (bT (wq K C) [.l (gi d 0).rows,.l [(aH [.str,.list K] (aH [.str,.list K] (gi d 1).row))],.i (((gi d 0).rows.length:Nat):Int),.i 0]) fun g g2=>(bif ad g 0 then some [.i (gi g2 0).int] else some [.i (-1)])) fun g1=>some [.t (be 0 (gi g1 0).int)])
def kp(c:ByteArray)(L:List (List G)):Bool:=L.any fun z=>(gi z 3).str.toList==c.toList
section
variable {C:List G→Option (List G)} {c:ByteArray} {A:List (List G)} (hC:∀ z,dy z→C [.l [z],.l [[.s c,.l A]]]=some [.t ((gi z 3).str.toList==c.toList)])
include hC
theorem P5:∀(q p:List (List G)),(∀ z∈p++q,dy z)→p.length+q.length<100000 →
  aX (wq [.int .i64,.int .i64,.str,.str,.int .i64,.int .i64,.str,.str] C) [.l (p++q),.l [[.s c,.l A]],.i ((p.length+q.length:Nat):Int),.i (p.length:Int)] (q.length+1) fun x g=>(x=0∧kp c q=true∧∃ v:Int,0≤v∧g=[.i v])∨x=1∧kp c q=false
 | [],p,k,u=>by
  refine aX.stop (x:=1) (d':=[]) (aa.toEq ?_) (.inr ⟨rfl,rfl⟩);unfold wq
  (dsimp +instances only[Aa,Ab,Ac,Ad,Ae,Af,Ag])
  (repeat first|refine aa.p ?_|refine aa.n ?_)
  exact aa.some rfl
 | x::q,p,k,u=>by
  simp only[cw]at u;have d:dy x:=k x (by simp);have g1:(p++x::q).getD (p.length:Int).toNat []=x:=kf _ _ _ _ _ (by simp);have hlen:(p++x::q).length=p.length+q.length+1:=by simp; omega
  cases h:(gi x 3).str.toList==c.toList with
  | true =>
   refine aX.stop (x:=0) (d':=[.i (p.length:Int)]) (aa.toEq ?_) (.inl ⟨rfl,by simp only[kp,AZ,h,Bool.true_or],_,by omega,rfl⟩);unfold wq
   (dsimp +instances only[Aa,Ab,Ac,Ad,Ae,Af,Ag])
   simp only[g1,hlen,cw,d.eta]
   (repeat first|refine aa.p ?_|refine aa.n ?_)
   refine aa.cE (hC x d) ?_
   (dsimp +instances only[Aa,Ab,Ac,Ad,Ae,Af,Ag])
   exact aa.pos h (aa.some rfl)
  | false =>
   have y:=P5 q (p++[x]) (by simpa using k) (by simp; omega);have B:(p++[x])++q=p++x::q:=by simp
   have I:(((p++[x]).length+q.length:Nat):Int)=((p.length+(x::q).length:Nat):Int):=by simp; omega
   have J:(((p++[x]).length:Nat):Int)=(p.length:Int)+1:=by simp
   rw[B,I,J]at y;have M:kp c (x::q)=kp c q:=by simp only[kp,AZ,h,Bool.false_or]
   rw[M];refine aX.next (aa.toEq ?_) y
   unfold wq
   (dsimp +instances only[Aa,Ab,Ac,Ad,Ae,Af,Ag])
   simp only[g1,hlen,cw,d.eta]
   (repeat first|refine aa.p ?_|refine aa.n ?_)
   refine aa.cE (hC x d) ?_
   (dsimp +instances only[Aa,Ab,Ac,Ad,Ae,Af,Ag])
   refine aa.neg h (aa.p (aa.some rfl))
theorem P6(L:List (List G))(h:∀ z∈L,dy z)(k:L.length<100000):P4 [.int .i64,.int .i64,.str,.str,.int .i64,.int .i64,.str,.str] C [.l L,.l [[.s c,.l A]]]=some [.t (kp c L)]:=by
 refine aa.toEq ?_;unfold P4
 (dsimp +instances only[Aa,Ab,Ac,Ad,Ae,Af,Ag])
 have h1:=P5 hC L [] (by simpa using h) (by simpa using k);have h0:((0:Nat):Int)=0:=rfl;simp only[lb,ma,cP,h0]at h1;refine aa.call (P:=fun g=>∃ v:Int,g=[.i v]∧be 0 v=kp c L) ?_ ?_
 ·refine aa.loop (h1.to (by omega)) (by (first|rfl|assumption|(simp only [ao,sl]<;>omega))) ?_
  rintro x g (⟨rfl,d,v,q,rfl⟩|⟨rfl,d⟩)
  ·exact aa.some ⟨v,rfl,by rw[d,eu]; exact decide_eq_true q⟩
  ·exact aa.some ⟨-1,rfl,by rw[d]; rfl⟩
 ·rintro _ ⟨v, rfl, d⟩
  exact aa.some (congrArg (fun b=>[G.t b]) d)
end
def kq(c:ByteArray)(L:List (List G)):Int:=bif !ji c then 3 else bif gB L != 0 then gB L else bif kp c L then 6 else 0
theorem GD{c:ByteArray}{L:List (List G)}(h:kq c L=0):gB L=0:=by
 unfold kq at h;cases h1:ji c with
 |false=>rw[h1]at h; cases h
 | true =>
  rw[h1]at h;cases d:gB L != 0 with
  |false=>simpa using d
  | true =>
   rw[d]at h;simp only[Hg,cond_false,cond_true]at h;exact h
theorem jm.m{z:List G}(h:jm z):fN z:=by
 obtain⟨h,h0,h1⟩:=h;exact⟨h.eta,by unfold iu; omega,by unfold iu; omega⟩
def fC(k:Nat):List Nat→Option Nat
 | []=>none
 |a::l=>bif a==k then some 0 else (fC k l).map (·+1)
theorem GF{k:Nat}:∀{l:List Nat},fC k l=none↔k∉l
 | []=>by simp[fC]
 | a::l=>by
  unfold fC;cases h:a==k with
  |true=>simp at h; simp[h]
  | false =>
   simp at h;simp only[cond_false,Option.map_eq_none_iff,GF,bW,not_or];exact⟨fun g=>⟨fun e=>h e.symm,g⟩,fun g=>g.2⟩
theorem Ay{k:Nat}:∀{l:List Nat} {n:Nat},fC k l=some n→n<l.length∧l.getD n 0=k
 | [],n,h=>by cases h
 | a::l,n,h=>by
  unfold fC at h;cases e:a==k with
  | true =>
   rw[e]at h;cases h;simp at e;exact⟨by simp,by simpa using e⟩
  | false =>
   rw[e]at h;simp only[cond_false,Option.map_eq_some_iff]at h;obtain⟨m,h1,rfl⟩:=h;obtain⟨g,d⟩:=Ay h1;exact⟨by simp; omega,by simpa using d⟩
theorem GG{k:Nat}:∀{l:List Nat},k∉l→fC k (l++[k])=some l.length
 | [],_=>by simp[fC]
 | a::l,h=>by
  simp only[bW,not_or]at h;have e:(a==k)=false:=by simp; exact fun e=>h.1 e.symm
  show (bif a==k then some 0 else (fC k (l++[k])).map (·+1))=_
  rw[e,GG h.2];rfl
theorem GH(a b:Int):aR [.int .i64] [.i a] [.i b]=decide (a=b):=by
 show ((a==b)&&true)=decide (a=b)
 rw[fO];exact Bool.beq_eq_decide_eq a b
def bk:Nat→List Nat→List (List G)
 |_,[]=>[]
 |i,k::ks=>[.l [[.i (k:Int)]],.i (i:Int),.i (i:Int)]::bk (i+1) ks
theorem P7:∀(i:Nat) (A B:List Nat),bk i (A++B)=bk i A++bk (i+A.length) B
 |i,[],B=>by simp[bk]
 | i,a::A,B=>by
  show _::bk (i+1) (A++B)=_::(bk (i+1) A++bk (i+(A.length+1)) B)
  rw[P7 (i+1) A B,show i+1+A.length=i+(A.length+1) by omega]
theorem GJ(k:Nat):∀(ks:List Nat) (i j:Nat),bS [.int .i64] [.i (k:Int)] (bk i ks) j=(fC k ks).map fun n=>(j+n,([.l [[.i (k:Int)]],.i ((i+n:Nat):Int),.i ((i+n:Nat):Int)]:List G))
 | [],_,_=>rfl
 | a::ks,i,j=>by
  have d:=GJ k ks (i+1) (j+1);have e:aR [.int .i64] [.i (k:Int)] ((gi [.l [[.i (a:Int)]],.i (i:Int),.i (i:Int)] 0).row)=(a==k):=by
   show aR [.int .i64] [.i (k:Int)] [.i (a:Int)]=_
   rw[GH];by_cases h:a=k
   ·subst h; simp
   ·have g : ¬ (k : Int) = (a : Int) := fun e => h (by omega)
    simp[h,g]
  show (bif _ then some (j,_) else bS _ _ (bk (i+1) ks) (j+1))=_
  rw[e,d];show _=Option.map _ (bif a==k then some 0 else (fC k ks).map (·+1))
  cases h:a==k with
  | true =>
   simp at h;subst h;rfl
  | false =>
   simp only[cond_false,Option.map_map];congr 1
   funext n
   simp only[Ho];rw[show j+1+n=j+(n+1) by omega,show i+1+n=i+(n+1) by omega]
theorem ac6(k:Nat)(ks:List Nat):dN [.int .i64] (bk 0 ks) [.i (k:Int)]=(fC k ks).isSome:=by
 unfold dN;rw[GJ,Option.isSome_map]
theorem Az(k:Nat)(ks:List Nat):fp [.int .i64] (bk 0 ks) [.i (k:Int)]=fC k ks:=by
 unfold fp;rw[GJ];cases h:fC k ks with
 |none=>rfl
 | some n =>
  show (bif be 0 ((0+n:Nat):Int) then some ((0+n:Nat):Int).toNat else none)=some n
  rw[eu,decide_eq_true (by omega:(0:Int)≤((0+n:Nat):Int))];simp
theorem GL(r:List G):∀(ks:List Nat) (i j c:Nat),i+ks.length≤c→eY (c:Int) (bk i ks++[r]) j=eY (c:Int) [r] (j+ks.length)
 | [],i,j,c,_=>rfl
 | a::ks,i,j,c,h=>by
  simp only[cw]at h;have d:=GL r ks (i+1) (j+1) c (by omega);show (bif ((i:Int).toNat:Int)==(c:Int) then _ else eY (c:Int) (bk (i+1) ks++[r]) (j+1))=_
  have e:(((i:Int).toNat:Int)==(c:Int))=false:=by
   rw[a_];simp;omega
  rw[e,d,show j+1+ks.length=j+(ks.length+1) by omega];rfl
theorem P8:∀(i:Nat) (ks:List Nat),(bk i ks).length=ks.length
 |_,[]=>rfl
 |i,_::ks=>by simp[bk,P8 (i+1) ks]
def sX(k c:Nat):List G:=[.l [[.i (k:Int)]],.i (-1),.i (c:Int)]
theorem P9(k c j:Nat):eY (c:Int) [sX k c] j=some (j,sX k c):=by
 show (bif ((c:Int).toNat:Int)==(c:Int) then _ else _)=_
 rw[a_];simp
theorem ac7(k:Nat)(ks:List Nat):rj (bk 0 ks++[sX k ks.length]) (ks.length:Int)=true:=by
 unfold rj;rw[GL _ _ _ _ _ (by omega),P9];rfl
theorem ac8(k:Nat)(ks:List Nat):rk (bk 0 ks++[sX k ks.length]) (ks.length:Int) ks.length=bk 0 (ks++[k]):=by
 unfold rk;rw[GL _ _ _ _ _ (by omega),P9,P7];show (bk 0 ks++[sX k ks.length]).set (0+ks.length) _=_
 rw[wm (bk 0 ks) _ _ [] _ (by rw[P8,cP])];rw[cP];rfl
def f_(d:List G→List G × List G)(q:List (List G))(a:List (List G) × Nat):List (List G) × Nat :=
 q.foldl (fun a r=>(aI [.int .i64] a.1 (d r).1 (d r).2 a.2,bl [.int .i64] a.1 (d r).1 a.2)) a
def lS(a:List (List G) × Nat):List G:=[.l a.1,.i (a.2:Int)]
def sY(r:List G):List G × List G:=([.i (gi r 0).int],[.i (gi r 1).int])
def P_(r:List G):List G × List G:=([.i (gi r 1).int],[.t true])
def dA(p:List (List G)):List G:=lS (f_ sY p ([],0))
def dB(p:List (List G)):List G:=lS (f_ P_ p ([],0))
theorem P'(d:List G→List G × List G)(p:List (List G))(r:List G)(a:List (List G) × Nat) :
  f_ d (p++[r]) a=(aI [.int .i64] (f_ d p a).1 (d r).1 (d r).2 (f_ d p a).2,bl [.int .i64] (f_ d p a).1 (d r).1 (f_ d p a).2):=by
 unfold f_;rw[List.foldl_append];rfl
theorem Qa(M:List (List G))(a:List (List G) × Nat)(key val:List G) :
  rh (M++[lS a]) (some M.length) [.int .i64] key val=M++[lS (aI [.int .i64] a.1 key val a.2,bl [.int .i64] a.1 key a.2)]:=by
 unfold rh;have e:gr (M++[lS a]) (some M.length)=lS a:=by
  show (M++[lS a]).getD M.length []=_
  rw[cf];simp
 rw[e];show (M++[lS a]).set M.length _=_
 rw[wm M _ _ [] _ rfl];show M++[[.l (aI [.int .i64] a.1 key val (a.2:Int).toNat),.i ((bl [.int .i64] a.1 key (a.2:Int).toNat:Nat):Int)]]=_
 rw[a_];rfl
theorem Qb(M:List (List G))(x:List G):kS (M++[x]) (some M.length)=true:=by
 show fe M.length (M++[x]).length=true
 simp
theorem Qc(d:List G→List G × List G)(key:List G):∀(q:List (List G)) (a:List (List G) × Nat),dN [.int .i64] (f_ d q a).1 key=(q.any (fun r=>aR [.int .i64] key (d r).1)||dN [.int .i64] a.1 key)
 | [],a=>rfl
 | r::q,a=>by
  show dN [.int .i64] (f_ d q (_,_)).1 key=_
  rw[Qc d key q];simp only[AZ];rw[Lm];cases aR [.int .i64] key (d r).1<;>cases dN [.int .i64] a.1 key<;>simp
theorem Qd(d:List G→List G × List G)(key z:List G):∀(q:List (List G)) (a:List (List G) × Nat),(∃ r∈q,aR [.int .i64] key (d r).1=true∧aw [.int .i64] (f_ d q a).1 key z=(d r).2) ∨
  (∀ r∈q,aR [.int .i64] key (d r).1=false)∧aw [.int .i64] (f_ d q a).1 key z=aw [.int .i64] a.1 key z
 | [],a=>.inr ⟨fun _ h=>(by cases h),rfl⟩
 | r::q,a=>by
  show (∃ _,_∧_∧aw [.int .i64] (f_ d q (aI [.int .i64] a.1 (d r).1 (d r).2 a.2,_)).1 key z=_)∨_∧aw [.int .i64] (f_ d q (aI [.int .i64] a.1 (d r).1 (d r).2 a.2,_)).1 key z=_
  rcases Qd d key z q (aI [.int .i64] a.1 (d r).1 (d r).2 a.2,bl [.int .i64] a.1 (d r).1 a.2)with⟨s,h1,g,u⟩|⟨h1,g⟩
  ·exact .inl ⟨s,c9 _ h1,g,u⟩
  ·rw [g, vj]
   cases e:aR [.int .i64] key (d r).1 with
   |true=>exact .inl ⟨r,by simp,e,rfl⟩
   | false =>
    refine .inr ⟨fun s k=>?_,rfl⟩;rcases bW.1 k with rfl|k
    ·exact e
    ·exact h1 s k
structure fD (m i:Nat) (r:List (List G)):Prop where
 len:r.length=m
 val:∀ j,j<m→∃ v:Int,r.getD j []=[.i v]∧0≤v∧v≤(i:Int)+(j:Int)
theorem fD.set{m i k:Nat}{r:List (List G)}(h:fD m i r){v:Int}(h0:0≤v)(h1:v≤(i:Int)+(k:Int)):fD m i (r.set k [.i v]):=by
 refine⟨by rw[List.length_set,h.len],fun j d=>?_⟩;by_cases e:k=j
 ·subst e
  refine⟨v,?_,h0,h1⟩;rw[cf,List.getElem?_set_self (by rw[h.len]; exact d)];rfl
 ·obtain ⟨w, g1, g2⟩ := h.val j d
  refine⟨w,?_,g2⟩;rw[cf,List.getElem?_set_ne e,←cf,g1]
theorem fD.zero(m i:Nat):fD m i (List.replicate m [.i 0]):=by
 refine⟨List.length_replicate ..,fun j d=>⟨0,?_,tu 0,by omega⟩⟩;rw[cf,List.getElem?_replicate,if_pos d];rfl
def GM(r0 r1 r2:List (List G))(a b:ByteArray)(i m:Nat)(h k q u:Int)(x:Nat)(g:List G):Prop :=
 x=0∧∃ d:List (List G),g=[.l r0,.l r1,.l r2,.l d,.s a,.s b,.i (i:Int),.i h,.i k,.i q,.i u]∧fD m i d
def ac9(r:List G)(x:Nat)(g:List G):Prop:=x=0∧g=r
theorem ac_{r0 r1 r2 row:List (List G)}{a b:ByteArray}{i k m:Nat}{g q u y:Int}{f:Bool}(hk:k<m)(d:fD m i row)(I:f=true→2≤i∧2≤k∧fD m (i-2) r1)(hi:i≤1000)(hm:m≤1000) :
  aa (ot [.l r0,.l r1,.l r2,.l row,.s a,.s b,.i (i:Int),.i (k:Int),.i g,.i q,.i u,.i y,.t f]) fun o=>∃ x,o.1=some x∧GM r0 r1 r2 a b i m g q u y x o.2:=by
 unfold ot
 (dsimp +instances only[Aa,Ab,Ac,Ad,Ae,Af,Ag])
 refine aa.test (fun h=>?_) fun h=>?_
 ·obtain ⟨h1, O, B⟩ := I h
  obtain⟨v,J,v0,v1⟩:=d.val k hk;obtain⟨w,hw,U,V⟩:=B.val (k-2) (by omega);have M:((k:Int)).toNat=k:=a_ k;have N:((k:Int)-2).toNat=k-2:=by omega
  have l1:=d.len;have l2:=B.len;simp only[M,N,cP,J,hw,sT]
  (dsimp +instances only[Aa,Ab,Ac,Ad,Ae,Af,Ag])
  refine aa.p (aa.p (aa.p (aa.p (aa.p (aa.p (aa.p (aa.p ?_)))))));refine aa.some ⟨0,rfl,rfl,_,rfl,d.set ?_ ?_⟩<;>split<;>omega
 ·exact aa.p (aa.some ⟨0,rfl,rfl,_,rfl,d⟩)
theorem ac'{r0 r1 r2 row:List (List G)}{a b:ByteArray}{i k m:Nat}{c d q u v:Int}(hk1:1≤k)(hk:k<m)(hb:m=b.size+1)(hi1:1≤i)(ha:i≤a.size)(y:fD m i row)(B:fD m (i-1) r2)(h1:2≤i→fD m (i-2) r1)(c0:0≤c)(c1:c≤1)(hi:i≤1000)(hm:m≤1000) :
  aa (sx [.l r0,.l r1,.l r2,.l row,.s a,.s b,.i (i:Int),.i (k:Int),.i c,.i d,.i q,.i u,.i v]) fun o=>∃ x,o.1=some x∧GM r0 r1 r2 a b i m d q u v x o.2:=by
 unfold sx
 (dsimp +instances only[Aa,Ab,Ac,Ad,Ae,Af,Ag])
 obtain⟨v1,N,v10,v11⟩:=B.val k hk;obtain⟨v2,O,v20,v21⟩:=y.val (k-1) (by omega);obtain⟨v3,U,v30,v31⟩:=B.val (k-1) (by omega);have n1:((k:Int)).toNat=k:=a_ k;have n2:((k:Int)-1).toNat=k-1:=by omega
 have l1:=y.len;have l2:=B.len;simp only[n1,n2,cP,N,O,U,sT]
 (dsimp +instances only[Aa,Ab,Ac,Ad,Ae,Af,Ag])
 obtain⟨V,hV,V0,V1⟩:∃ V:Int,(if v3+c<(if v2+1<v1+1 then v2+1 else v1+1) then v3+c else (if v2+1<v1+1 then v2+1 else v1+1))=V∧0≤V∧V≤(i:Int)+(k:Int):=by
  refine⟨_,rfl,?_,?_⟩<;>split<;>(try split)<;>omega
 simp only[hV];have J:=y.set V0 V1;refine aa.p (aa.p (aa.p (aa.p (aa.p (aa.p (aa.p (aa.p (aa.p (aa.p (aa.p ?_))))))))));have fin:∀(f:Bool),(f=true→2≤i∧2≤k)→aa (aN (ad row.length (row.set k [.i V]).length&&true) (bU (ot [.l r0,.l r1,.l r2,.l (row.set k [.i V]),.s a,.s b,.i (i:Int),.i (k:Int),.i d,.i q,.i u,.i v,.t f])) fun cg g=>(bif (ad (gi g 3).rows.length (gi g 3).rows.length)&&true then some ((some 0:Option Nat),[G.l (gi g 0).rows,.l (gi g 1).rows,.l (gi g 2).rows,.l (gi g 3).rows,.s (gi g 4).str,.s (gi g 5).str,.i (gi g 6).int,.i (gi g 7).int,.i (gi g 8).int,.i (gi g 9).int,.i (gi g 10).int]) else none))
   fun o=>∃ x,o.1=some x∧GM r0 r1 r2 a b i m d q u v x o.2:=fun f I=>by
  refine aa.tail (ac_ hk J (fun h=>⟨(I h).1,(I h).2,h1 (I h).1⟩) hi hm) (by(first|rfl|assumption|(simp only[ao,sl]<;>omega))) ?_;rintro _ _ ⟨rfl,M,rfl,W⟩
  (dsimp +instances only[Aa,Ab,Ac,Ad,Ae,Af,Ag])
  exact aa.p (aa.some ⟨0,rfl,rfl,M,rfl,W⟩)
 refine aa.test (fun g1=>?_) fun g1=>fin false (fun h=>by cases h);rw[dm,decide_eq_true_eq]at g1;refine aa.test (fun g2=>?_) fun g2=>fin false (fun h=>by cases h);rw[dm,decide_eq_true_eq]at g2;refine aa.p (aa.p (aa.p (aa.p ?_)));refine aa.test (fun g3=>?_) fun g3=>fin false (fun h=>by cases h);refine aa.p (aa.p (aa.p (aa.p ?_)));exact fin _ fun _=>⟨by omega,by omega⟩
theorem GN{r0 r1 r2 row:List (List G)}{a b:ByteArray}{d g h q:Int}{k:Nat}(hk:k≤1000) :
  aa (oq [.l r0,.l r1,.l r2,.l row,.s a,.s b,.i d,.i g,.i h,.i q,.i (k:Int)]) fun o=>∃ x,o.1=some x∧ac9 [.l r0,.l r1,.l r2,.l row,.s a,.s b,.i d,.i g,.i h,.i q,.i ((k:Int)+1)] x o.2:=by
 unfold oq
 (dsimp +instances only[Aa,Ab,Ac,Ad,Ae,Af,Ag])
 exact aa.p (aa.p (aa.some ⟨0,rfl,rfl,rfl⟩))
theorem Qe{r0 r1 r2:List (List G)}{a b:ByteArray}{i m:Nat}{n:Int}(hb:m=b.size+1)(ha:i≤a.size)(v:1≤i→fD m (i-1) r2)(h1:2≤i→fD m (i-2) r1)(hi:i≤1000)(hm:m≤1000):∀(t k:Nat) (row:List (List G)),k+t=m→fD m i row →
  aX sA [.l r0,.l r1,.l r2,.l row,.s a,.s b,.i (i:Int),.i n,.i (i:Int),.i (m:Int),.i (k:Int)] (t+1) fun x g=>x=0∧∃ d,g=[.l r0,.l r1,.l r2,.l d,.s a,.s b,.i n,.i (i:Int)]∧fD m i d
 | 0,k,row,hk,q=>by
  refine aX.stop (x:=0) (aa.toEq ?_) ⟨rfl,row,rfl,q⟩;unfold sA
  (dsimp +instances only[Aa,Ab,Ac,Ad,Ae,Af,Ag])
  exact aa.n (aa.p (aa.some rfl))
 | t+1,k,row,hk,q=>by
  have step:aa (sA [.l r0,.l r1,.l r2,.l row,.s a,.s b,.i (i:Int),.i n,.i (i:Int),.i (m:Int),.i (k:Int)]) fun o=>∃ d,o=(none,[.l r0,.l r1,.l r2,.l d,.s a,.s b,.i (i:Int),.i n,.i (i:Int),.i (m:Int),.i ((k:Int)+1)])∧fD m i d:=by
   unfold sA
   (dsimp +instances only[Aa,Ab,Ac,Ad,Ae,Af,Ag])
   have l1:=q.len;have y:((k:Int)).toNat=k:=a_ k;simp only[y,cP,sT];refine aa.p (aa.test (fun g0=>?_) fun g0=>aa.test (fun g1=>?_) fun g1=>?_)
   ·refine aa.p (aa.p ?_)
    refine aa.tail (GN (k:=k) (by omega)) (by(first|rfl|assumption|(simp only[ao,sl]<;>omega))) ?_;rintro _ _ ⟨rfl,rfl⟩
    (dsimp +instances only[Aa,Ab,Ac,Ad,Ae,Af,Ag])
    exact aa.p (aa.some ⟨_,rfl,q.set (by omega) (by omega)⟩)
   ·refine aa.p (aa.p ?_)
    refine aa.tail (GN (k:=k) (by omega)) (by(first|rfl|assumption|(simp only[ao,sl]<;>omega))) ?_;rintro _ _ ⟨rfl,rfl⟩
    (dsimp +instances only[Aa,Ab,Ac,Ad,Ae,Af,Ag])
    exact aa.p (aa.some ⟨_,rfl,q.set (by omega) (by omega)⟩)
   ·have i1:1≤i:=by
     have:¬ ((i:Int)=0):=by simpa using g0
     omega
    have B:1≤k:=by
     have:¬ ((k:Int)=0):=by simpa using g1
     omega
    have fin:∀ c:Int,0≤c→c≤1→aa (aN (ad row.length row.length&&true) (bU (sx [.l r0,.l r1,.l r2,.l row,.s a,.s b,.i (i:Int),.i (k:Int),.i c,.i n,.i (i:Int),.i (m:Int),.i (k:Int)])) fun I g=>aN (ad (gi g 3).rows.length (gi g 3).rows.length&&true) (bU (oq [.l (gi g 0).rows,.l (gi g 1).rows,.l (gi g 2).rows,.l (gi g 3).rows,.s (gi g 4).str,.s (gi g 5).str,.i (gi g 6).int,.i (gi g 7).int,.i (gi g 8).int,.i (gi g 9).int,.i (gi g 10).int])) fun I g=>(bif (ad (gi g 3).rows.length (gi g 3).rows.length)&&true then some ((none:Option Nat),[G.l (gi g 0).rows,.l (gi g 1).rows,.l (gi g 2).rows,.l (gi g 3).rows,.s (gi g 4).str,.s (gi g 5).str,.i (gi g 6).int,.i (gi g 7).int,.i (gi g 8).int,.i (gi g 9).int,.i (gi g 10).int]) else none))
      fun o=>∃ d,o=(none,[.l r0,.l r1,.l r2,.l d,.s a,.s b,.i (i:Int),.i n,.i (i:Int),.i (m:Int),.i ((k:Int)+1)])∧fD m i d:=fun c J c1=>by
     refine aa.tail (ac' B (by omega) hb i1 ha q (v i1) h1 J c1 hi hm) (by(first|rfl|assumption|(simp only[ao,sl]<;>omega))) ?_;rintro _ _ ⟨rfl,d,rfl,u⟩
     (dsimp +instances only[Aa,Ab,Ac,Ad,Ae,Af,Ag])
     refine aa.tail (GN (k:=k) (by omega)) (by(first|rfl|assumption|(simp only[ao,sl]<;>omega))) ?_;rintro _ _ ⟨rfl,rfl⟩
     (dsimp +instances only[Aa,Ab,Ac,Ad,Ae,Af,Ag])
     exact aa.p (aa.some ⟨d,rfl,u⟩)
    refine aa.p (aa.p (aa.p (aa.p ?_)));exact aa.test (fun _=>fin 0 (by omega) (by omega)) fun _=>fin 1 (by omega) (by omega)
  obtain⟨o,h,d,rfl,u⟩:=step;exact aX.next h (Qe hb ha v h1 hi hm t (k+1) d (by omega) u)
theorem Qf{a b:ByteArray}{m:Nat}(hb:m=b.size+1)(ha:a.size≤100)(hm:m≤1000):∀(t i:Nat) (r0 r1 r2:List (List G)),i+t=a.size+1→(1≤i→fD m (i-1) r2)→(2≤i→fD m (i-2) r1) →
  aX sB [.l r0,.l r1,.l r2,.s a,.s b,.i ((a.size:Nat)+1:Int),.i (i:Int)] (t+1) fun x g=>x=0∧∃ r0 r1 r2,g=[.l r0,.l r1,.l r2,.s b]∧r2.length=m
 | 0,i,r0,r1,r2,hi,d,h1=>by
  refine aX.stop (x:=0) (aa.toEq ?_) ⟨rfl,r0,r1,r2,rfl,(d (by omega)).len⟩;unfold sB
  (dsimp +instances only[Aa,Ab,Ac,Ad,Ae,Af,Ag])
  exact aa.n (aa.some rfl)
 | t+1,i,r0,r1,r2,hi,d,h1=>by
  have step:aa (sB [.l r0,.l r1,.l r2,.s a,.s b,.i ((a.size:Nat)+1:Int),.i (i:Int)]) fun o=>∃ row,o=(none,[.l r1,.l r2,.l row,.s a,.s b,.i ((a.size:Nat)+1:Int),.i ((i:Int)+1)])∧fD m i row:=by
   unfold sB
   (dsimp +instances only[Aa,Ab,Ac,Ad,Ae,Af,Ag])
   have q:(((b.size:Nat):Int)+1).toNat=m:=by omega
   simp only[q];refine aa.p (aa.p (aa.p ?_));refine aa.loop ((Qe hb (by omega) d h1 (by omega) hm m 0 _ (by omega) (fD.zero m i)).to (by omega)) (by(first|rfl|assumption|(simp only[ao,sl]<;>omega))) ?_;rintro _ _ ⟨rfl,row,rfl,k⟩
   (dsimp +instances only[Aa,Ab,Ac,Ad,Ae,Af,Ag])
   exact aa.p (aa.p (aa.some ⟨row,rfl,k⟩))
  obtain⟨o,h,row,rfl,k⟩:=step;exact aX.next h (Qf hb ha hm t (i+1) r1 r2 row (by omega) (fun _=>k) (fun h=>d (by omega)))
theorem ada{a b:ByteArray}(ha:a.size≤100)(hb:b.size≤100):aa (zP [.s a,.s b]) fun g=>∃ v:Int,g=[.i v]:=by
 unfold zP
 (dsimp +instances only[Aa,Ab,Ac,Ad,Ae,Af,Ag])
 refine aa.p ?_;refine aa.loop ((Qf (m:=b.size+1) rfl ha (by omega) (a.size+1) 0 [] [] [] (by omega) (fun h=>by omega) (fun h=>by omega)).to (by omega)) (by(first|rfl|assumption|(simp only[ao,sl]<;>omega))) ?_;rintro _ _ ⟨rfl,r0,r1,r2,rfl,d⟩
 (dsimp +instances only[Aa,Ab,Ac,Ad,Ae,Af,Ag])
 exact aa.p (aa.some ⟨_,rfl⟩)
structure lT (L:List (List G)) (C:Nat→ByteArray) (A:Nat→List (List G)):Prop where
 get:∀ i,i<L.length→L.getD i []=[.s (C i),.l (A i)]
 n:L.length≤4
 lU:∀ i,i<L.length→∀ z∈A i,fN z∧(gi z 3).str.size≤100
 na:∀ i,i<L.length→(A i).length≤14
 cs:∀ i,i<L.length→(C i).size≤100
 lN:∀ i j,i<j→j<L.length→df (C i) (C j)<0
theorem adb:((dv 8).all fun n=>dT .u64 (IntKind.u64.wrap ((n:Nat):Int)) 1==((n / 2:Nat):Int))=true:=by kernel_rfl
theorem ade(i j:Nat)(h:i+j<8):dT .u64 (IntKind.u64.wrap ((i:Int)+(j:Int))) 1=(((i+j) / 2:Nat):Int):=by
 have:=cM.1 adb (i+j) (eC.2 h);rw[beq_iff_eq]at this;rw[←this];congr 2
section
variable {L:List (List G)} {C:Nat→ByteArray} {A:Nat→List (List G)} (S:lT L C A)
include S
theorem lT.two{i k:Nat}(hi:i<L.length)(hk:k<L.length):gF (A i) (A k) :=
 ⟨fun z d=>(S.lU i hi z d).1,fun z d=>(S.lU k hk z d).1,by have:=S.na i hi; omega,by have:=S.na k hk; omega⟩
theorem lT.mem{i j:Nat}(hi:i<L.length)(d:j<(A i).length):fN ((A i).getD j [])∧(gi ((A i).getD j []) 3).str.size≤100 :=
 S.lU i hi _ (by rw[cf,bI d]; exact nm d)
theorem lT.key{i:Nat}(hi:i<L.length):(gi (L.getD i []) 0).str=C i:=by rw[S.get i hi]; rfl
theorem GO(s:ByteArray):∀(m i j:Nat),j≤i+m→i≤j→j≤L.length→(∀ t,t<i→df (C t) s<0)→(∀ t,j≤t→t<L.length→¬ df (C t) s<0) →
  aX sg [.l L,.s s,.i (L.length:Int),.i (i:Int),.i (j:Int)] (m+1) fun x g=>x=0∧∃ p:Nat,g=[.l L,.s s,.i (L.length:Int),.i (p:Int)]∧p≤L.length∧(∀ t,t<p→df (C t) s<0)∧(∀ t,p≤t→t<L.length→¬ df (C t) s<0)
 | m,i,j,hm,M,u,h1,v=>by
  have N:=S.n;by_cases he:i=j
  ·subst he
   refine aX.stop (x:=0) (aa.toEq ?_) ⟨rfl,i,rfl,u,h1,v⟩;unfold sg
   (dsimp +instances only[Aa,Ab,Ac,Ad,Ae,Af,Ag])
   exact aa.n (aa.some rfl)
  ·obtain ⟨m', rfl⟩ : ∃ m', m = m' + 1 := ⟨m - 1, by omega⟩
   have I:=ade i j (by omega);have q:(i+j) / 2<L.length:=by omega
   have y:=S.get _ q;have step:∀ o,(bif aj (df (C ((i+j) / 2)) s) 0 then some ((none:Option Nat),[G.l L,.s s,.i (L.length:Int),.i (((i+j) / 2+1:Nat):Int),.i (j:Int)]) else some (none,[.l L,.s s,.i (L.length:Int),.i (i:Int),.i (((i+j) / 2:Nat):Int)]))=some o →
     sg [.l L,.s s,.i (L.length:Int),.i (i:Int),.i (j:Int)]=some o:=fun o ho=>by
    refine aa.toEq ?_;unfold sg
    (dsimp +instances only[Aa,Ab,Ac,Ad,Ae,Af,Ag])
    simp only[I,a_,y];refine aa.p (aa.p (aa.p (aa.p ?_)));refine aa.call (P:=fun g=>g=[.i (df (C ((i+j) / 2)) s)]) (aa.eq rfl) ?_;rintro _ rfl
    (dsimp +instances only[Aa,Ab,Ac,Ad,Ae,Af,Ag])
    refine aa.test (fun h=>?_) fun h=>?_
    ·rw [h, cond_true] at ho
     refine aa.p (aa.some ?_);cases ho;rfl
    ·rw [h, cond_false] at ho
     refine aa.some ?_;cases ho;rfl
   by_cases d:df (C ((i+j) / 2)) s<0
   ·refine aX.next (step _ (by rw [dm, decide_eq_true d]; rfl)) (GO s m' _ j (by omega) (by omega) u (fun t J => ?_) v)
    rcases jq t ((i+j) / 2)with h|h
    ·exact Al.tr _ _ _ (S.lN t _ h q) d
    ·rw [show t = (i + j) / 2 by omega]
     exact d
   ·refine aX.next (step _ (by rw [dm, decide_eq_false d]; rfl)) (GO s m' i _ (by omega) (by omega) (by omega) h1 (fun t J B k => ?_))
    rcases jq ((i+j) / 2) t with h|h
    ·exact d (Al.tr _ _ _ (S.lN _ t h B) k)
    ·rw [show t = (i + j) / 2 by omega] at k
     exact d k
theorem Qg(s:ByteArray):aa (vF [.l L,.s s]) fun g=>∃(p:Nat) (b:Bool),g=[.i (p:Int),.t b]∧(b=true→p<L.length∧C p=s)∧(b=false→∀ k,k<L.length→C k≠s):=by
 have I:=S.n;unfold vF
 (dsimp +instances only[Aa,Ab,Ac,Ad,Ae,Af,Ag])
 refine aa.call (P:=fun g=>∃(p:Nat) (b:Bool),g=[.i (p:Int),.t b]∧(b=true→p<L.length∧C p=s)∧(b=false→∀ k,k<L.length→C k≠s)) ?_ ?_
 ·unfold EX
  (dsimp +instances only[Aa,Ab,Ac,Ad,Ae,Af,Ag])
  refine aa.loop ((GO S s L.length 0 L.length (by omega) (by omega) (aB _) (fun t v=>by omega) (fun t h1 d=>by omega)).to (by omega)) rfl ?_;rintro _ _ ⟨rfl,p,rfl,J,y,B⟩
  (dsimp +instances only[Aa,Ab,Ac,Ad,Ae,Af,Ag])
  have q:∀ t,t<L.length→C t=s→t=p:=fun t v e=>by
   have h0:df (C t) s=0:=p7.2 e;have h1:p≤t:=afd fun h=>by have:=y t h; omega
   refine Nat.le_antisymm (afd fun h=>?_) h1;have d:=S.lN p t h v;rw[e]at d;exact B p (aB _) (by omega) d
  refine aa.test (fun h=>?_) fun h=>?_
  ·simp only [dm, decide_eq_true_eq] at h
   have u:p<L.length:=by omega
   simp only[a_,S.get p u];refine aa.p ?_;refine aa.call (P:=fun g=>g=[.i (df (C p) s)]) (aa.eq rfl) ?_;rintro _ rfl;refine aa.some ⟨p,_,rfl,fun hb=>⟨u,?_⟩,fun hb k hk e=>?_⟩
   ·have hb : (df (C p) s == 0) = true := hb
    rw[beq_iff_eq]at hb;exact p7.1 hb
   ·have := q k hk e
    subst this;have hb:(df (C k) s==0)=false:=hb;rw[p7.2 e]at hb;cases hb
  ·simp only [dm, decide_eq_false_iff_not] at h
   exact aa.some ⟨p,false,rfl,fun hb=>(by cases hb),fun _ k hk e=>by have:=q k hk e; omega⟩
 ·rintro _ ⟨p, b, rfl, h⟩
  exact aa.some ⟨p,b,rfl,h⟩
end
def bz(A:Nat→List (List G))(C:Nat→ByteArray)(own:Nat)(off:Int)(k:Nat):List (List G):=km (A own) (A k) (C own) (C k) off
def jo(k:Nat)(ks:List Nat):List Nat:=match fC k ks with
 |some _=>ks
 |none=>ks++[k]
theorem Qh(k:Nat)(ks:List Nat):∃ n,fC k (jo k ks)=some n:=by
 unfold jo;cases h:fC k ks with
 |some n=>exact⟨n,h⟩
 |none=>exact⟨_,GG (GF.1 h)⟩
theorem Qi{L R1 R2 M T:List (List G)}{own off k:Int}{c1 c2:Nat}(h1:fp [.int .i64] R1 [.i k]=some M.length)(d:fp [.int .i64] R2 [.i k]=some T.length):∀(q p:List (List G)),p.length+q.length≤100000 →
  aX vO [.l L,.i own,.i off,.l R1,.l (M++[lS (f_ sY p ([],0))]),.i (c1:Int),.l R2,.l (T++[lS (f_ P_ p ([],0))]),.i (c2:Int),.i k,.l (p++q),.i ((p.length+q.length:Nat):Int),.i (p.length:Int)] (q.length+1) fun x g =>
   x=0∧g=[.l L,.i own,.i off,.l R1,.l (M++[dA (p++q)]),.i (c1:Int),.l R2,.l (T++[dB (p++q)]),.i (c2:Int)]
 | [],p,h=>by
  refine aX.stop (x:=0) (aa.toEq ?_) ⟨rfl,rfl⟩;unfold vO
  (dsimp +instances only[Aa,Ab,Ac,Ad,Ae,Af,Ag])
  refine aa.n (aa.some ?_);rw[cO];rfl
 | r::q,p,h=>by
  simp only[cw]at h;have u:=Qi (L:=L) (own:=own) (off:=off) (c1:=c1) (c2:=c2) h1 d q (p++[r]) (by simp; omega);have g1:(p++r::q).getD (p.length:Int).toNat []=r:=kf _ _ _ _ _ (by simp);rw[a_]at g1;have hlen:(p++r::q).length=p.length+q.length+1:=by simp; omega
  have v:(p++[r])++q=p++r::q:=by simp
  have y:(((p++[r]).length+q.length:Nat):Int)=((p.length+(r::q).length:Nat):Int):=by simp; omega
  have B:(((p++[r]).length:Nat):Int)=(p.length:Int)+1:=by simp
  rw[v,y,B]at u;refine aX.next (aa.toEq ?_) u
  unfold vO
  (dsimp +instances only[Aa,Ab,Ac,Ad,Ae,Af,Ag])
  simp only[g1,hlen,cw,a_,h1,d];refine aa.p (aa.p (aa.pos rfl (aa.pos (Qb _ _) (aa.pos rfl (aa.pos (Qb _ _) (aa.p (aa.some ?_)))))));rw[Qa,Qa,P',P'];rfl
section
variable {L:List (List G)} {C:Nat→ByteArray} {A:Nat→List (List G)} (S:lT L C A) {own:Nat} (ho:own<L.length) (off:Int)
include S ho
theorem Qj{k:Nat}(hk:k<L.length)(ks:List Nat):vP [G.l L,.i (own:Int),.i off,.l (bk 0 ks),.l (ks.map fun k=>dA (bz A C own off k)),.i ((ks.length:Nat):Int),.l (bk 0 ks),.l (ks.map fun k=>dB (bz A C own off k)),.i ((ks.length:Nat):Int),.i (k:Int)]=some [G.l L,.i (own:Int),.i off,.l (bk 0 (jo k ks)),.l ((jo k ks).map fun k=>dA (bz A C own off k)),.i (((jo k ks).length:Nat):Int),.l (bk 0 (jo k ks)),.l ((jo k ks).map fun k=>dB (bz A C own off k)),.i (((jo k ks).length:Nat):Int)]:=by
 refine aa.toEq ?_;unfold vP
 (dsimp +instances only[Aa,Ab,Ac,Ad,Ae,Af,Ag])
 simp only[Az,ac6,a_];unfold jo;cases h:fC k ks with
 |some n=>exact aa.pos rfl (aa.some rfl)
 | none =>
  have d:=ac7 k ks;have g:=ac8 k ks;unfold sX at d g;refine aa.pos rfl (aa.neg rfl (aa.pos rfl (aa.pos d (aa.pos rfl (aa.pos d (aa.p (aa.p ?_)))))));simp only[S.get own ho,S.get k hk];refine aa.cE (acY (S.two ho hk) (C own) (C k) off) ?_
  (dsimp +instances only[Aa,Ab,Ac,Ad,Ae,Af,Ag])
  simp only[dJ];rw[g];have hb:=ac0 (S.two ho hk) (C own) (C k) off;have v:=S.na own ho;have q:fp [.int .i64] (bk 0 (ks++[k])) [.i (k:Int)]=some ks.length:=by rw[Az]; exact GG (GF.1 h)
  have u:=Qi (L:=L) (own:=(own:Int)) (off:=off) (k:=(k:Int)) (R1:=bk 0 (ks++[k])) (R2:=bk 0 (ks++[k])) (M:=ks.map fun k=>dA (bz A C own off k)) (T:=ks.map fun k=>dB (bz A C own off k)) (c1:=ks.length+1) (c2:=ks.length+1)
   (by rw[dJ]; exact q) (by rw[dJ]; exact q) (bz A C own off k) [] (by unfold bz; simp; omega)
  simp only[lb,ma,cP]at u;refine aa.loop (u.to (by unfold bz; omega)) rfl ?_;rintro _ _ ⟨rfl,rfl⟩
  (dsimp +instances only[Aa,Ab,Ac,Ad,Ae,Af,Ag])
  refine aa.some ?_;simp only[a_,kA,du,List.map_nil,fb,afe]
def AA(x y:List G):Bool:=(gi x 4).int==(gi y 5).int&&(gi x 6).str.toList==(gi y 7).str.toList
omit S ho in
theorem Qk(x y:List G):vQ [.l [x],.l [y]]=some [.t (AA x y)]:=by
 refine aa.toEq ?_;unfold vQ AA
 (dsimp +instances only[Aa,Ab,Ac,Ad,Ae,Af,Ag])
 refine aa.test (fun h=>aa.some ?_) fun h=>aa.some ?_<;>rw[h]<;>rfl
theorem Ql{k:Nat}(hk:k<L.length){t m s h:Int}{b c x y:ByteArray}(u:fN [.i t,.i m,.s b,.s c,.i s,.i h,.s x,.s y]){ks:List Nat}{n:Nat}(q:fC k ks=some n):∀(d i:Nat),i+d=(A k).length →
  aX sC [G.l L,.i (own:Int),.i off,.l (bk 0 ks),.l (ks.map fun k=>dA (bz A C own off k)),.i ((ks.length:Nat):Int),.l (bk 0 ks),.l (ks.map fun k=>dB (bz A C own off k)),.i ((ks.length:Nat):Int),.i t,.i m,.s b,.s c,.i s,.i h,.s x,.s y,.i (k:Int),.l (A k),.i ((A k).length:Int),.i (i:Int)] (d+1) fun e g =>
   (e=0∧∃ v:Nat,v<(A k).length∧g=[G.l L,.i (own:Int),.i off,.l (bk 0 ks),.l (ks.map fun k=>dA (bz A C own off k)),.i ((ks.length:Nat):Int),.l (bk 0 ks),.l (ks.map fun k=>dB (bz A C own off k)),.i ((ks.length:Nat):Int),.i (v:Int)])∨e=1∧g=[G.l L,.i (own:Int),.i off,.l (bk 0 ks),.l (ks.map fun k=>dA (bz A C own off k)),.i ((ks.length:Nat):Int),.l (bk 0 ks),.l (ks.map fun k=>dB (bz A C own off k)),.i ((ks.length:Nat):Int)]
 | 0,i,hi=>by
  refine aX.stop (x:=1) (aa.toEq ?_) (.inr ⟨rfl,rfl⟩);unfold sC
  (dsimp +instances only[Aa,Ab,Ac,Ad,Ae,Af,Ag])
  refine aa.n (aa.some ?_);simp only[a_]
 | d+1,i,hi=>by
  have N:=S.na k hk;have M:=Ql hk u q d (i+1) (by omega);obtain⟨B,O⟩:=S.mem (i:=k) (j:=i) hk (by omega);have step:aa (sC [G.l L,.i (own:Int),.i off,.l (bk 0 ks),.l (ks.map fun k=>dA (bz A C own off k)),.i ((ks.length:Nat):Int),.l (bk 0 ks),.l (ks.map fun k=>dB (bz A C own off k)),.i ((ks.length:Nat):Int),.i t,.i m,.s b,.s c,.i s,.i h,.s x,.s y,.i (k:Int),.l (A k),.i ((A k).length:Int),.i (i:Int)]) fun o =>
    o=(some 0,[G.l L,.i (own:Int),.i off,.l (bk 0 ks),.l (ks.map fun k=>dA (bz A C own off k)),.i ((ks.length:Nat):Int),.l (bk 0 ks),.l (ks.map fun k=>dB (bz A C own off k)),.i ((ks.length:Nat):Int),.i (i:Int)])∨o=(none,[G.l L,.i (own:Int),.i off,.l (bk 0 ks),.l (ks.map fun k=>dA (bz A C own off k)),.i ((ks.length:Nat):Int),.l (bk 0 ks),.l (ks.map fun k=>dB (bz A C own off k)),.i ((ks.length:Nat):Int),.i t,.i m,.s b,.s c,.i s,.i h,.s x,.s y,.i (k:Int),.l (A k),.i ((A k).length:Int),.i ((i:Int)+1)]):=by
   unfold sC
   (dsimp +instances only[Aa,Ab,Ac,Ad,Ae,Af,Ag])
   have I:=(Ay q).1;have J:kS (ks.map fun k=>dB (bz A C own off k)) (some n)=true:=by
    show fe n (ks.map fun k=>dB (bz A C own off k)).length=true
    rw[dJ];simpa using I
   simp only[a_,Az,q,B.1];refine aa.p (aa.p (aa.p ?_));have out:aa (bif ao ((i:Int)+1) then some ((none:Option Nat),[G.l L,.i (own:Int),.i off,.l (bk 0 ks),.l (ks.map fun k=>dA (bz A C own off k)),.i ((ks.length:Nat):Int),.l (bk 0 ks),.l (ks.map fun k=>dB (bz A C own off k)),.i ((ks.length:Nat):Int),.i t,.i m,.s b,.s c,.i s,.i h,.s x,.s y,.i (k:Int),.l (A k),.i ((A k).length:Int),.i ((i:Int)+1)]) else none) fun o =>
    o=(some 0,[G.l L,.i (own:Int),.i off,.l (bk 0 ks),.l (ks.map fun k=>dA (bz A C own off k)),.i ((ks.length:Nat):Int),.l (bk 0 ks),.l (ks.map fun k=>dB (bz A C own off k)),.i ((ks.length:Nat):Int),.i (i:Int)])∨o=(none,[G.l L,.i (own:Int),.i off,.l (bk 0 ks),.l (ks.map fun k=>dA (bz A C own off k)),.i ((ks.length:Nat):Int),.l (bk 0 ks),.l (ks.map fun k=>dB (bz A C own off k)),.i ((ks.length:Nat):Int),.i t,.i m,.s b,.s c,.i s,.i h,.s x,.s y,.i (k:Int),.l (A k),.i ((A k).length:Int),.i ((i:Int)+1)]):=aa.p (aa.some (.inr rfl))
   refine aa.test (fun _=>?_) fun _=>out;refine aa.cE (Gk off u B) ?_;refine aa.test (fun _=>?_) fun _=>out;refine aa.pos rfl (aa.pos J (aa.test (fun _=>?_) fun _=>out));refine aa.cE (Qk _ _) ?_;exact aa.test (fun _=>aa.some (.inl rfl)) fun _=>out
  obtain⟨o,h,rfl|rfl⟩:=step
  ·exact aX.stop h (.inl ⟨rfl,i,by omega,rfl⟩)
  ·exact aX.next h M
theorem adf{k:Nat}(hk:k<L.length){t m s h:Int}{b c x y:ByteArray}(u:fN [.i t,.i m,.s b,.s c,.i s,.i h,.s x,.s y])(q:c.size≤100)(ks:List Nat) :
  aa (zQ [G.l L,.i (own:Int),.i off,.l (bk 0 ks),.l (ks.map fun k=>dA (bz A C own off k)),.i ((ks.length:Nat):Int),.l (bk 0 ks),.l (ks.map fun k=>dB (bz A C own off k)),.i ((ks.length:Nat):Int),.l [[.i t,.i m,.s b,.s c,.i s,.i h,.s x,.s y]],.i (k:Int)]) fun g=>∃(d:List Nat) (v:Int),g=[G.l L,.i (own:Int),.i off,.l (bk 0 d),.l (d.map fun k=>dA (bz A C own off k)),.i ((d.length:Nat):Int),.l (bk 0 d),.l (d.map fun k=>dB (bz A C own off k)),.i ((d.length:Nat):Int),.i v]∧(0≤v→v<((A k).length:Int)):=by
 have I:=S.na k hk;unfold zQ
 (dsimp +instances only[Aa,Ab,Ac,Ad,Ae,Af,Ag])
 simp only[a_,S.get k hk];refine aa.p ?_;refine aa.call (ada (S.cs k hk) q) ?_;rintro _ ⟨v,rfl⟩
 (dsimp +instances only[Aa,Ab,Ac,Ad,Ae,Af,Ag])
 refine aa.test (fun _=>aa.some ⟨ks,-1,rfl,fun h=>by omega⟩) fun _=>?_;refine aa.cE (Qj S ho off hk ks) ?_
 (dsimp +instances only[Aa,Ab,Ac,Ad,Ae,Af,Ag])
 simp only[a_,S.get k hk];refine aa.p ?_;obtain⟨n,B⟩:=Qh k ks;refine aa.loop ((Ql S ho off hk u B (A k).length 0 (by omega)).to (by omega)) rfl ?_;rintro _ _ (⟨rfl,v,J,rfl⟩|⟨rfl,rfl⟩)
 ·(dsimp +instances only [Aa,Ab,Ac,Ad,Ae,Af,Ag])
  simp only[a_];exact aa.pos rfl (aa.some ⟨jo k ks,(v:Int),rfl,fun _=>by omega⟩)
 ·(dsimp +instances only [Aa,Ab,Ac,Ad,Ae,Af,Ag])
  simp only[a_];exact aa.neg rfl (aa.some ⟨jo k ks,-1,rfl,fun h=>by omega⟩)
def AB(L:List (List G))(A:Nat→List (List G))(s v:Int):Prop:=0≤s→∃ k:Nat,s=(k:Int)∧k<L.length∧0≤v∧v<((A k).length:Int)
theorem Qm{t m s h:Int}{b c x y:ByteArray}(M:fN [.i t,.i m,.s b,.s c,.i s,.i h,.s x,.s y])(J:c.size≤100):∀(d i:Nat) (ks:List Nat) (u v:Int),i+d=L.length→AB L A u v →
  aX sD [G.l L,.i (own:Int),.i off,.l (bk 0 ks),.l (ks.map fun k=>dA (bz A C own off k)),.i ((ks.length:Nat):Int),.l (bk 0 ks),.l (ks.map fun k=>dB (bz A C own off k)),.i ((ks.length:Nat):Int),.i t,.i m,.s b,.s c,.i s,.i h,.s x,.s y,.i u,.i v,.l L,.i (L.length:Int),.i (i:Int)] (d+1) fun e g =>
   (e=0∨e=1)∧∃(q:List Nat) (u v:Int),g=[G.l L,.i (own:Int),.i off,.l (bk 0 q),.l (q.map fun k=>dA (bz A C own off k)),.i ((q.length:Nat):Int),.l (bk 0 q),.l (q.map fun k=>dB (bz A C own off k)),.i ((q.length:Nat):Int),.i u,.i v]∧AB L A u v
 | 0,i,ks,u,v,hi,B=>by
  refine aX.stop (x:=1) (aa.toEq ?_) ⟨.inr rfl,ks,u,v,rfl,B⟩;unfold sD
  (dsimp +instances only[Aa,Ab,Ac,Ad,Ae,Af,Ag])
  refine aa.n (aa.some ?_);simp only[a_]
 | d+1,i,ks,u,v,hi,B=>by
  have V:=S.n;have I:i<L.length:=by omega
  have step:aa (sD [G.l L,.i (own:Int),.i off,.l (bk 0 ks),.l (ks.map fun k=>dA (bz A C own off k)),.i ((ks.length:Nat):Int),.l (bk 0 ks),.l (ks.map fun k=>dB (bz A C own off k)),.i ((ks.length:Nat):Int),.i t,.i m,.s b,.s c,.i s,.i h,.s x,.s y,.i u,.i v,.l L,.i (L.length:Int),.i (i:Int)]) fun o =>
    (∃ q:List Nat,o=(some 0,[G.l L,.i (own:Int),.i off,.l (bk 0 q),.l (q.map fun k=>dA (bz A C own off k)),.i ((q.length:Nat):Int),.l (bk 0 q),.l (q.map fun k=>dB (bz A C own off k)),.i ((q.length:Nat):Int),.i (-1),.i (-1)]))∨∃(q:List Nat) (u v:Int),o=(none,[G.l L,.i (own:Int),.i off,.l (bk 0 q),.l (q.map fun k=>dA (bz A C own off k)),.i ((q.length:Nat):Int),.l (bk 0 q),.l (q.map fun k=>dB (bz A C own off k)),.i ((q.length:Nat):Int),.i t,.i m,.s b,.s c,.i s,.i h,.s x,.s y,.i u,.i v,.l L,.i (L.length:Int),.i ((i:Int)+1)])∧AB L A u v:=by
   unfold sD
   (dsimp +instances only[Aa,Ab,Ac,Ad,Ae,Af,Ag])
   simp only[a_,S.get i I];refine aa.p (aa.p ?_);refine aa.test (fun _=>aa.p (aa.some (.inr ⟨ks,u,v,rfl,B⟩))) fun _=>?_;refine aa.test (fun _=>aa.p (aa.some (.inr ⟨ks,u,v,rfl,B⟩))) fun _=>?_;refine aa.call (adf S ho off I M J ks) ?_;rintro _ ⟨q,w,rfl,hw⟩
   (dsimp +instances only[Aa,Ab,Ac,Ad,Ae,Af,Ag])
   simp only[a_];refine aa.test (fun h0=>?_) fun _=>aa.p (aa.some (.inr ⟨q,u,v,rfl,B⟩));rw[eu,decide_eq_true_eq]at h0;refine aa.test (fun _=>aa.some (.inl ⟨q,rfl⟩)) fun _=>?_;exact aa.p (aa.some (.inr ⟨q,(i:Int),w,rfl,fun _=>⟨i,rfl,I,h0,hw h0⟩⟩))
  obtain⟨o,h,⟨q,rfl⟩|⟨q,O,U,rfl,N⟩⟩:=step
  ·exact aX.stop h ⟨.inl rfl,q,-1,-1,rfl,fun h=>by omega⟩
  ·exact aX.next h (Qm M J d (i+1) q O U (by omega) N)
theorem adg{t m s h:Int}{b c x y:ByteArray}(I:fN [.i t,.i m,.s b,.s c,.i s,.i h,.s x,.s y])(B:c.size≤100)(ks:List Nat) :
  aa (sE [G.l L,.i (own:Int),.i off,.l (bk 0 ks),.l (ks.map fun k=>dA (bz A C own off k)),.i ((ks.length:Nat):Int),.l (bk 0 ks),.l (ks.map fun k=>dB (bz A C own off k)),.i ((ks.length:Nat):Int),.l [[.i t,.i m,.s b,.s c,.i s,.i h,.s x,.s y]]]) fun g=>∃(d:List Nat) (u v:Int),g=[G.l L,.i (own:Int),.i off,.l (bk 0 d),.l (d.map fun k=>dA (bz A C own off k)),.i ((d.length:Nat):Int),.l (bk 0 d),.l (d.map fun k=>dB (bz A C own off k)),.i ((d.length:Nat):Int),.i u,.i v]∧AB L A u v:=by
 have J:=S.n;unfold sE
 (dsimp +instances only[Aa,Ab,Ac,Ad,Ae,Af,Ag])
 simp only[a_];refine aa.loop ((Qm S ho off I B L.length 0 ks (-1) 0 (by omega) (fun h=>by omega)).to (by omega)) rfl ?_;rintro _ _ ⟨rfl|rfl,d,u,v,rfl,q⟩
 ·(dsimp +instances only [Aa,Ab,Ac,Ad,Ae,Af,Ag])
  simp only[a_];exact aa.pos rfl (aa.some ⟨d,u,v,rfl,q⟩)
 ·(dsimp +instances only [Aa,Ab,Ac,Ad,Ae,Af,Ag])
  simp only[a_];exact aa.neg rfl (aa.some ⟨d,u,v,rfl,q⟩)
end
theorem adh(f:Nat→List G){ks:List Nat}{n k:Nat}(h:fC k ks=some n):gr (ks.map f) (some n)=f k:=by
 obtain⟨h1,d⟩:=Ay h;show (ks.map f).getD n []=_
 rw[cf,List.getElem?_map];rw[cf]at d;rw[bI h1]at d⊢;simp only[l7]at d;simp only[Option.map_some,l7,d]
theorem adi(f:Nat→List G){ks:List Nat}{n k:Nat}(h:fC k ks=some n):kS (ks.map f) (some n)=true:=by
 obtain⟨h1,d⟩:=Ay h;show fe n (ks.map f).length=true
 rw[dJ];simpa using h1
section
variable {L:List (List G)} {C:Nat→ByteArray} {A:Nat→List (List G)} (S:lT L C A)
include S
theorem lT.inj{i j:Nat}(hi:i<L.length)(g:j<L.length)(h:C i=C j):i=j:=by
 rcases afc i j with d|d|d
 ·have := S.lN i j d g
  rw[p7.2 h]at this;omega
 ·exact d
 ·have := S.lN j i d hi
  rw[p7.2 h.symm]at this;omega
end
def Qn(L:List (List G))(C:Nat→ByteArray)(A:Nat→List (List G))(own:Nat)(off:Int)(i:Nat):Prop :=
 ∃ k j:Nat,k<L.length∧C k=(gi ((A own).getD i []) 3).str∧[G.i (i:Int),.i (j:Int)]∈bz A C own off k
def GP(L:List (List G))(C:Nat→ByteArray)(A:Nat→List (List G))(own:Nat)(off:Int)(i:Nat)(row:List G):Prop :=
 ∃ (d:Int) (w:ByteArray) (v:Int),row=[.i (i:Int),.i d,.s w,.i v] ∧
  ((∃ k j : Nat, k < L.length ∧ j < (A k).length ∧ C k = (gi ((A own).getD i []) 3).str ∧ w = C k ∧ v = (j : Int) ∧ [G.i (i : Int), .i (j : Int)] ∈ bz A C own off k ∧
    ((d=1∧AA ((A k).getD j []) ((A own).getD i [])=true)∨(d=3∧AA ((A k).getD j []) ((A own).getD i [])=false))) ∨
   (¬ Qn L C A own off i∧((d=2∧∃ k:Nat,k<L.length∧w=C k∧0≤v∧v<((A k).length:Int))∨((d=4∨d=5)∧w=⟨#[]⟩∧v = -1))))
def GQ(L:List (List G))(C:Nat→ByteArray)(A:Nat→List (List G))(own:Nat)(off:Int)(i:Nat)(row:List G):Prop :=
 row=[.i (i:Int),.i 6,.s ⟨#[]⟩,.i (-1)]∨GP L C A own off i row
def oE(L:List (List G))(C:Nat→ByteArray)(A:Nat→List (List G))(own:Nat)(off:Int)(d:List (List G)):Prop :=
 ∀ j,j<d.length→GQ L C A own off j (d.getD j [])
section
variable {L:List (List G)} {C:Nat→ByteArray} {A:Nat→List (List G)} (S:lT L C A) {own:Nat} (ho:own<L.length) (off:Int)
include S ho
theorem adj{k:Nat}(hk:k<L.length)(i:Nat):(dN [.int .i64] (f_ sY (bz A C own off k) ([],0)).1 [.i (i:Int)]=true→∃ j:Nat,j<(A k).length∧[G.i (i:Int),.i (j:Int)]∈bz A C own off k∧aw [.int .i64] (f_ sY (bz A C own off k) ([],0)).1 [.i (i:Int)] [.i 0]=[.i (j:Int)]) ∧
  (dN [.int .i64] (f_ sY (bz A C own off k) ([],0)).1 [.i (i:Int)]=false→∀ j:Nat,[G.i (i:Int),.i (j:Int)]∉bz A C own off k):=by
 have q:∀ r∈bz A C own off k,∃ a b:Nat,r=[.i (a:Int),.i (b:Int)]∧b<(A k).length:=fun r u=>by
  obtain⟨a,b,h1,_,d,_⟩:=Ax (S.two ho hk) u;exact⟨a,b,h1,d⟩
 rw[Qc,Ll,AT];constructor
 ·intro h
  rcases Qd sY [.i (i:Int)] [.i 0] (bz A C own off k) ([],0)with⟨r,h1,d,g⟩|⟨h1,_⟩
  ·obtain ⟨a, b, rfl, hb⟩ := q r h1
   have d:aR [.int .i64] [.i (i:Int)] [.i (a:Int)]=true:=d;rw[GH,decide_eq_true_eq]at d;have:i=a:=by omega
   subst this;exact⟨b,hb,h1,g⟩
  ·obtain ⟨r, d, g⟩ := iQ.1 h
   rw[h1 r d]at g;cases g
 ·intro h j v
  have:=List.any_eq_false.1 h _ v;apply this;show aR [.int .i64] [.i (i:Int)] [.i (i:Int)]=true
  rw[GH];simp
theorem adk{i:Nat}(hi:i<(A own).length)(ks:List Nat):aa (zR [G.l L,.i (own:Int),.i off,.l (bk 0 ks),.l (ks.map fun k=>dA (bz A C own off k)),.i ((ks.length:Nat):Int),.l (bk 0 ks),.l (ks.map fun k=>dB (bz A C own off k)),.i ((ks.length:Nat):Int),.i (i:Int)]) fun g=>∃(d:List Nat) (row:List G),g=[G.l L,.i (own:Int),.i off,.l (bk 0 d),.l (d.map fun k=>dA (bz A C own off k)),.i ((d.length:Nat):Int),.l (bk 0 d),.l (d.map fun k=>dB (bz A C own off k)),.i ((d.length:Nat):Int),.l [row]]∧GP L C A own off i row:=by
 obtain⟨J,U⟩:=S.mem ho hi;have hna:=S.na own ho;have B:=S.n;have V:fN (aH [.int .i64,.int .i64,.str,.str,.int .i64,.int .i64,.str,.str] ((A own).getD i [])):=by rw[J.1]; exact J
 unfold zR
 (dsimp +instances only[Aa,Ab,Ac,Ad,Ae,Af,Ag])
 simp only[a_,S.get own ho]
 (dsimp +instances only[Aa,Ab,Ac,Ad,Ae,Af,Ag])
 refine aa.p (aa.p ?_);refine aa.call (Qg S _) ?_;rintro _ ⟨p,b,rfl,hT,hF⟩
 (dsimp +instances only[Aa,Ab,Ac,Ad,Ae,Af,Ag])
 have last:∀(ks:List Nat) (b:Bool),¬ Qn L C A own off i→aa (aA (sE [G.l L,.i (own:Int),.i off,.l (bk 0 ks),.l (ks.map fun k=>dA (bz A C own off k)),.i ((ks.length:Nat):Int),.l (bk 0 ks),.l (ks.map fun k=>dB (bz A C own off k)),.i ((ks.length:Nat):Int),.l [aH [.int .i64,.int .i64,.str,.str,.int .i64,.int .i64,.str,.str] ((A own).getD i [])]]) fun g=>(bif be 0 (gi g 9).int then (bif (az (gi g 9).int)&&(aj (gi g 9).int (((gi g 0).rows.length:Nat):Int)) then some [.l (gi g 0).rows,.i (gi g 1).int,.i (gi g 2).int,.l (gi g 3).rows,.l (gi g 4).rows,.i (((gi g 5).int.toNat:Nat):Int),.l (gi g 6).rows,.l (gi g 7).rows,.i (((gi g 8).int.toNat:Nat):Int),.l [[.i (i:Int),.i 2,.s (gi ((gi g 0).rows.getD ((gi g 9).int.toNat) []) 0).str,.i (gi g 10).int]]] else none) else (bif b then some [.l (gi g 0).rows,.i (gi g 1).int,.i (gi g 2).int,.l (gi g 3).rows,.l (gi g 4).rows,.i (((gi g 5).int.toNat:Nat):Int),.l (gi g 6).rows,.l (gi g 7).rows,.i (((gi g 8).int.toNat:Nat):Int),.l [[.i (i:Int),.i 4,.s ⟨#[]⟩,.i (-1)]]] else some [.l (gi g 0).rows,.i (gi g 1).int,.i (gi g 2).int,.l (gi g 3).rows,.l (gi g 4).rows,.i (((gi g 5).int.toNat:Nat):Int),.l (gi g 6).rows,.l (gi g 7).rows,.i (((gi g 8).int.toNat:Nat):Int),.l [[.i (i:Int),.i 5,.s ⟨#[]⟩,.i (-1)]]])))
   fun g=>∃(d:List Nat) (row:List G),g=[G.l L,.i (own:Int),.i off,.l (bk 0 d),.l (d.map fun k=>dA (bz A C own off k)),.i ((d.length:Nat):Int),.l (bk 0 d),.l (d.map fun k=>dB (bz A C own off k)),.i ((d.length:Nat):Int),.l [row]]∧GP L C A own off i row:=fun ks b q=>by
  refine aa.call (adg S ho off V U ks) ?_;rintro _ ⟨d,u,v,rfl,hm⟩
  (dsimp +instances only[Aa,Ab,Ac,Ad,Ae,Af,Ag])
  simp only[a_];refine aa.test (fun h0=>?_) fun _=>?_
  ·rw [eu, decide_eq_true_eq] at h0
   obtain⟨k,rfl,hk,W,hv1⟩:=hm h0;simp only[a_,S.get k hk];refine aa.p (aa.some ⟨d,_,rfl,2,C k,v,rfl,.inr ⟨q,.inl ⟨rfl,k,hk,rfl,W,hv1⟩⟩⟩)
  ·refine aa.test (fun _=>aa.some ⟨d,_,rfl,4,⟨#[]⟩,-1,rfl,.inr ⟨q,.inr ⟨.inl rfl,rfl,rfl⟩⟩⟩) fun _=>aa.some ⟨d,_,rfl,5,⟨#[]⟩,-1,rfl,.inr ⟨q,.inr ⟨.inr rfl,rfl,rfl⟩⟩⟩
 refine aa.test (fun hb=>?_) fun hb=>?_
 ·obtain ⟨h, y⟩ := hT hb
  refine aa.cE (Qj S ho off h ks) ?_
  (dsimp +instances only[Aa,Ab,Ac,Ad,Ae,Af,Ag])
  obtain⟨n,B⟩:=Qh p ks;simp only[a_,Az,B,adh (fun k=>dA (bz A C own off k)) B];refine aa.pos rfl (aa.pos (adi _ B) ?_);obtain⟨j1,j2⟩:=adj S ho off h i;refine aa.test (fun hm=>?_) fun hm=>?_
  ·obtain ⟨j, q, N, hjg⟩ := j1 hm
   have hnk:=S.na p h;have hg:aw [.int .i64] (gi (dA (bz A C own off p)) 0).rows [.i (i:Int)] [.i 0]=[.i (j:Int)]:=hjg;simp only[hg]
   (dsimp +instances only[Aa,Ab,Ac,Ad,Ae,Af,Ag])
   simp only[a_,S.get own ho,S.get p h]
   (dsimp +instances only[Aa,Ab,Ac,Ad,Ae,Af,Ag])
   obtain⟨hy,hys⟩:=S.mem h q;simp only[J.1,hy.1];refine aa.p (aa.p ?_);refine aa.cE (Qk _ _) ?_
   (dsimp +instances only[Aa,Ab,Ac,Ad,Ae,Af,Ag])
   refine aa.test (fun M=>?_) fun M=>?_
   ·exact aa.some ⟨jo p ks,_,rfl,1,_,(j:Int),rfl,.inl ⟨p,j,h,q,y,y.symm,rfl,N,.inl ⟨rfl,M⟩⟩⟩
   ·exact aa.some ⟨jo p ks,_,rfl,3,_,(j:Int),rfl,.inl ⟨p,j,h,q,y,y.symm,rfl,N,.inr ⟨rfl,M⟩⟩⟩
  ·refine last (jo p ks) b ?_
   rintro⟨k,j,hk,I,O⟩;have:=S.inj hk h (I.trans y.symm);subst this;exact j2 hm j O
 ·refine last ks b ?_
  rintro⟨k,j,hk,I,O⟩;exact hF hb k hk I
theorem Qo{len:Nat}(hlen:len=(A own).length):∀(d i:Nat) (ks:List Nat) (seen:List (List G)) (clk:Nat) (out:List (List G)),i+d=len→out.length=i→oE L C A own off out →
  aX sF [G.l L,.i (own:Int),.i off,.l (bk 0 ks),.l (ks.map fun k=>dA (bz A C own off k)),.i ((ks.length:Nat):Int),.l (bk 0 ks),.l (ks.map fun k=>dB (bz A C own off k)),.i ((ks.length:Nat):Int),.l seen,.i (clk:Int),.l out,.l (A own),.i (len:Int),.i (i:Int)] (d+1) fun e g =>
   e=0∧∃(q:List Nat) (out:List (List G)),g=[G.l L,.i (own:Int),.i off,.l (bk 0 q),.l (q.map fun k=>dA (bz A C own off k)),.i ((q.length:Nat):Int),.l (bk 0 q),.l (q.map fun k=>dB (bz A C own off k)),.i ((q.length:Nat):Int),.l out]∧out.length=len∧oE L C A own off out
 | 0,i,ks,seen,clk,out,hi,M,I=>by
  refine aX.stop (x:=0) (aa.toEq ?_) ⟨rfl,ks,out,rfl,by omega,I⟩;unfold sF
  (dsimp +instances only[Aa,Ab,Ac,Ad,Ae,Af,Ag])
  refine aa.n (aa.p (aa.some ?_));simp only[a_]
 | d+1,i,ks,seen,clk,out,hi,M,I=>by
  have O:=S.na own ho;have add:∀ row,GQ L C A own off i row→oE L C A own off (out++[row]):=fun row u j N=>by
   rw[fb,afe]at N;by_cases e:j=i
   ·subst e
    rw[cf,List.getElem?_append_right (by omega),show j-out.length=0 by omega];exact u
   ·have := I j (by omega)
    rw[cf]at this⊢;rw[List.getElem?_append_left (by omega)];exact this
  have step:aa (sF [G.l L,.i (own:Int),.i off,.l (bk 0 ks),.l (ks.map fun k=>dA (bz A C own off k)),.i ((ks.length:Nat):Int),.l (bk 0 ks),.l (ks.map fun k=>dB (bz A C own off k)),.i ((ks.length:Nat):Int),.l seen,.i (clk:Int),.l out,.l (A own),.i (len:Int),.i (i:Int)]) fun o =>
    ∃(q:List Nat) (y:List (List G)) (B:Nat) (row:List G),o=(none,[G.l L,.i (own:Int),.i off,.l (bk 0 q),.l (q.map fun k=>dA (bz A C own off k)),.i ((q.length:Nat):Int),.l (bk 0 q),.l (q.map fun k=>dB (bz A C own off k)),.i ((q.length:Nat):Int),.l y,.i (B:Int),.l (out++[row]),.l (A own),.i (len:Int),.i ((i:Int)+1)])∧GQ L C A own off i row:=by
   unfold sF
   (dsimp +instances only[Aa,Ab,Ac,Ad,Ae,Af,Ag])
   simp only[a_];refine aa.p (aa.p ?_);refine aa.test (fun _=>?_) fun _=>?_
   ·exact aa.p (aa.p (aa.p (aa.some ⟨ks,_,_,_,rfl,.inl rfl⟩)))
   ·refine aa.call (adk S ho off (by omega) ks) ?_
    rintro _ ⟨q,row,rfl,u⟩;have J:aH jf row=row:=by
     obtain⟨U,w,v,rfl,_⟩:=u;rfl
    (dsimp +instances only[Aa,Ab,Ac,Ad,Ae,Af,Ag])
    simp only[a_,J];refine aa.test (fun _=>?_) fun _=>?_
    ·exact aa.p (aa.p (aa.p (aa.some ⟨q,_,_,row,rfl,.inr u⟩)))
    ·exact aa.p (aa.p (aa.p (aa.some ⟨q,_,_,row,rfl,.inr u⟩)))
  obtain⟨o,h,q,y,B,row,rfl,u⟩:=step;exact aX.next h (Qo hlen d (i+1) q y B (out++[row]) (by omega) (by simp; omega) (add row u))
theorem adl:aa (zT [.l L,.i (own:Int),.i off,.l [],.i 0,.l [],.i 0]) fun g=>∃ out,g=[.l [],.l [],.l [],.l out]∧out.length=(A own).length∧oE L C A own off out:=by
 have q:=S.na own ho;have v:=S.n;unfold zT
 (dsimp +instances only[Aa,Ab,Ac,Ad,Ae,Af,Ag])
 simp only[a_,S.get own ho]
 (dsimp +instances only[Aa,Ab,Ac,Ad,Ae,Af,Ag])
 refine aa.pos rfl (aa.p ?_);have d:=Qo S ho off (len:=(A own).length) rfl (A own).length 0 [] [] 0 [] (by omega) rfl (fun j h=>by cases h);refine aa.loop (d.to (by omega)) rfl ?_;rintro _ _ ⟨rfl,u,out,rfl,h1,k⟩
 (dsimp +instances only[Aa,Ab,Ac,Ad,Ae,Af,Ag])
 exact aa.p (aa.some ⟨out,rfl,h1,k⟩)
omit ho in
theorem adm(h0:0≤off)(h1:off≤300)(h:lJ [.l L]=some [.i 0])(s:ByteArray):aa (sG [.l L,.s s,.i off]) fun g =>
  (∃ own out,own<L.length∧C own=s∧g=[.l out,.i (own:Int),.i 0]∧out.length=(A own).length∧oE L C A own off out)∨(∀ k,k<L.length→C k≠s)∧g=[.l [],.i 0,.i 8]:=by
 unfold sG
 (dsimp +instances only[Aa,Ab,Ac,Ad,Ae,Af,Ag])
 refine aa.cE h ?_;refine aa.neg rfl ?_;refine aa.call (P:=fun g=>g=[.i 0]) ?_ ?_
 ·unfold ES
  (dsimp +instances only[Aa,Ab,Ac,Ad,Ae,Af,Ag])
  refine aa.cE (ox off 0 3600000) ?_;refine aa.neg ?_ (aa.some rfl);show (!(be 0 off&&be off 3600000))=false
  rw[eu,eu,decide_eq_true h0,decide_eq_true (by omega:off≤3600000)];rfl
 rintro _ rfl;refine aa.neg rfl ?_;refine aa.call (Qg S s) ?_;rintro _ ⟨p,b,rfl,u,v⟩
 (dsimp +instances only[Aa,Ab,Ac,Ad,Ae,Af,Ag])
 refine aa.test (fun hb=>aa.some (.inr ⟨v (by simpa using hb),rfl⟩)) fun hb=>?_;obtain⟨d,q⟩:=u (by simpa using hb);refine aa.call (P:=fun g=>g=[.l L,.i (p:Int),.i off,.l [],.i 0,.l [],.i 0]) (aa.eq rfl) ?_;rintro _ rfl
 (dsimp +instances only[Aa,Ab,Ac,Ad,Ae,Af,Ag])
 refine aa.call (adl S d off) ?_;rintro _ ⟨out,rfl,y,B⟩;exact aa.some (.inl ⟨p,out,d,q,rfl,y,B⟩)
theorem adn(h0:0≤off)(h1:off≤300)(h:lJ [.l L]=some [.i 0]):aa (sG [.l L,.s (C own),.i off]) fun g =>
  ∃ out,g=[.l out,.i (own:Int),.i 0]∧out.length=(A own).length∧oE L C A own off out:=by
 refine(adm S off h0 h1 h (C own)).mono ?_;rintro _ (⟨p,out,q,k,rfl,d,u⟩|⟨d,_⟩)
 ·have := S.inj q ho k
  subst this;exact⟨out,rfl,d,u⟩
 ·exact absurd rfl (d own ho)
end
theorem ado{r:List G}:fX r=0↔cL (gi r 0).int 0 345686399999=true∧cL (gi r 1).int 1 3=true∧lL (gi r 2).str=true∧ji (gi r 3).str=true∧cL (gi r 4).int 0 99999=true∧cL (gi r 5).int 0 99999=true ∧
  mQ (gi r 6).str=true∧mQ (gi r 7).str=true:=by
 unfold fX;generalize cL (gi r 0).int 0 345686399999=b1;generalize cL (gi r 1).int 1 3=d;generalize lL (gi r 2).str=g;generalize ji (gi r 3).str=h;generalize cL (gi r 4).int 0 99999=k;generalize cL (gi r 5).int 0 99999=q;generalize mQ (gi r 6).str=u;generalize mQ (gi r 7).str=v;cases b1<;>cases d<;>cases g<;>cases h<;>cases k<;>cases q<;>cases u<;>cases v<;>simp
theorem Qp:∀{l:List (List G)} {o:Option (List G)},eR o l=0→∀ x∈l,fX x=0
 | [],_,_,_,h=>by cases h
 | y::q,o,h,x,d=>by
  have key:fX y=0∧eR (some y) q=0:=by
   cases o with
   | none =>
    simp only[eR]at h;split at h
    ·contradiction
    ·rename_i h1
     exact⟨by simpa using h1,h⟩
   | some z =>
    simp only[eR]at h;split at h
    ·contradiction
    ·rename_i h1
     split at h
     ·cases h
     ·exact⟨by simpa using h1,h⟩
  rcases bW.1 d with rfl|d
  ·exact key.1
  ·exact Qp key.2 x d
theorem Qq{l:List (List G)}(h:gB l=0):∀ x∈l,fX x=0:=by
 unfold gB at h;split at h
 ·cases h
 ·exact Qp h
theorem adp{c:ByteArray}{L:List (List G)}(h:kq c L=0):ji c=true∧kp c L=false:=by
 unfold kq at h;cases h1:ji c with
 |false=>rw[h1]at h; cases h
 | true =>
  rw[h1]at h;cases d:gB L != 0 with
  | true =>
   rw[d]at h;simp only[Hg,cond_false,cond_true]at h;rw[h]at d;cases d
  | false =>
   rw[d]at h;cases g:kp c L with
   |true=>rw[g]at h; cases h
   |false=>exact⟨rfl,rfl⟩
structure qb (L:List (List G)) (C:Nat→ByteArray) (A:Nat→List (List G)):Prop where
 get:∀ i,i<L.length→L.getD i []=[.s (C i),.l (A i)]
 n:L.length≤4
 lU:∀ i,i<L.length→∀ z∈A i,dy z
 na:∀ i,i<L.length→(A i).length≤14
 call:∀ i,i<L.length→C i∈calls
 lN:∀ i j,i<j→j<L.length→df (C i) (C j)<0
 less:∀ i,0<i→i<L.length→(k9 (C i).toList (C (i-1)).toList||((C i).toList==(C (i-1)).toList))=false
 fault:∀ i,i<L.length→kq (C i) (A i)=0
theorem Qr{c:ByteArray}(h:c∈calls):c.size≤100:=by
 have d:calls.all (fun c=>c_ c.size 100)=true:=by kernel_rfl
 simpa using cM.1 d c h
section
variable {L:List (List G)} {C:Nat→ByteArray} {A:Nat→List (List G)} (R:qb L C A)
include R
theorem qb.GR{i:Nat}(hi:i<L.length):∀ z∈A i,dy z∧fX z=0:=fun z d=>⟨R.lU i hi z d,Qq (GD (R.fault i hi)) z d⟩
theorem qb.adq:lT L C A:=by
 refine⟨R.get,R.n,fun i hi z g=>?_,R.na,fun i hi=>Qr (R.call i hi),R.lN⟩;obtain⟨h1,k⟩:=R.GR hi z g;have d:=(ado.1 k).1;unfold cL at d;simp only[eu,ax,decide_eq_true_eq]at d;refine⟨⟨h1.eta,?_,?_⟩,?_⟩
 ·unfold iu; omega
 ·unfold iu; omega
 ·obtain ⟨t, m, b, c, s, h, x, y, rfl, _, _, _, _, _, q, _⟩ := h1
  exact Qr q
theorem ads{i:Nat}(hi:i<L.length):sd [.l [[.i (i:Int)]],.l [[.s (C i),.l (A i)]],.l [[.l L]]]=some [.i 0]:=by
 have k:=R.n;refine aa.toEq ?_;unfold sd
 (dsimp +instances only[Aa,Ab,Ac,Ad,Ae,Af,Ag])
 refine aa.test (fun h=>?_) fun _=>aa.some rfl;rw[dm,decide_eq_true_eq]at h;have e:((i:Int)-1).toNat=i-1:=by omega
 have d:=R.less i (by omega) hi;have g:=R.get (i-1) (by omega);simp only[e,g]
 (dsimp +instances only[Aa,Ab,Ac,Ad,Ae,Af,Ag])
 refine aa.p (aa.p (aa.neg ?_ (aa.some rfl)));exact d
theorem adt{i:Nat}(hi:i<L.length):sf [.l [[.s (C i),.l (A i)]],.l [[.i (i:Int)]],.l [[.s (C i),.l (A i)]],.l [[.l L]]]=some [.i 0]:=by
 have d:=R.fault i hi;obtain⟨h1,g⟩:=adp d;have h:=GD d;have k:=R.na i hi;refine aa.toEq ?_;unfold sf
 (dsimp +instances only[Aa,Ab,Ac,Ad,Ae,Af,Ag])
 refine aa.cE (Ah (R.call i hi)) ?_
 (dsimp +instances only[Aa,Ab,Ac,Ad,Ae,Af,Ag])
 refine aa.neg (by rw[h1]; rfl) ?_;refine aa.cE (ads R hi) ?_;refine aa.neg rfl ?_;refine aa.cE (F8 (A i) (R.lU i hi) (by omega)) ?_
 (dsimp +instances only[Aa,Ab,Ac,Ad,Ae,Af,Ag])
 rw[h];refine aa.neg rfl ?_;refine aa.call (aa.eq (P6 (C:=se) (c:=C i) (A:=A i) (fun z q=>by
  refine aa.toEq ?_;unfold se
  (dsimp +instances only[Aa,Ab,Ac,Ad,Ae,Af,Ag])
  exact aa.some rfl) (A i) (R.lU i hi) (by omega))) ?_
 rintro _ rfl
 (dsimp +instances only[Aa,Ab,Ac,Ad,Ae,Af,Ag])
 exact aa.neg g (aa.some rfl)
theorem Qs:∀(k i:Nat),i+k=L.length→aX mP [.l L,.l L,.i (L.length:Int),.i (i:Int)] (k+1) fun x _=>x=1
 | 0,i,hi=>by
  refine aX.stop (x:=1) (d':=[]) (aa.toEq ?_) rfl;unfold mP
  (dsimp +instances only[Aa,Ab,Ac,Ad,Ae,Af,Ag])
  exact aa.n (aa.some rfl)
 | k+1,i,hi=>by
  have d:=R.n;refine aX.next (d1:=[.l L,.l L,.i (L.length:Int),.i ((i:Int)+1)]) (aa.toEq ?_) (Qs k (i+1) (by omega))
  unfold mP
  (dsimp +instances only[Aa,Ab,Ac,Ad,Ae,Af,Ag])
  simp only[a_,R.get i (by omega:i<L.length)];refine aa.p (aa.p ?_);refine aa.cE (adt R (i:=i) (by omega)) ?_;exact aa.neg rfl (aa.p (aa.some rfl))
theorem adu:lJ [.l L]=some [.i 0]:=by
 have d:=R.n;refine aa.toEq ?_;unfold lJ
 (dsimp +instances only[Aa,Ab,Ac,Ad,Ae,Af,Ag])
 refine aa.n ?_;refine aa.loop ((Qs R L.length 0 (by omega)).to (by omega)) rfl ?_;rintro x g rfl;exact aa.neg rfl (aa.some rfl)
end
/-! ### g order of d -/
theorem adv(r s:List G):dO r s=fy (eA (gi r 0).int (gi s 0).int) (fy (df (gi r 3).str (gi s 3).str) (fy (df (gi r 2).str (gi s 2).str) (eA (gi r 1).int (gi s 1).int))):=rfl
theorem adw(a b d:List G)(h1:dO a b<0)(g:dO b d<0):dO a d<0:=by
 rw[adv]at *;exact F' Ak _ _ _ _ _ _ h1 g fun g1 g2=>F' Al _ _ _ _ _ _ g1 g2 fun h k=>F' Al _ _ _ _ _ _ h k fun m1 m2=>Ak.tr _ _ _ m1 m2
theorem Qt:∀{l:List (List G)} {y:List G},(∀ x∈l,fX x=0)→(y::l).Pairwise (fun a b=>dO a b<0)→eR (some y) l=0
 | [],_,_,_=>rfl
 | x::q,y,h0,h=>by
  obtain⟨h1,d⟩:=np.1 h;have k:=h1 x cW;simp only[eR];rw[if_neg (by simpa using h0 x cW),if_neg (by omega)];exact Qt (fun z g=>h0 z (c9 _ g)) d
theorem adx{l:List (List G)}(h0:∀ x∈l,fX x=0)(h:l.Pairwise (fun a b=>dO a b<0))(g:l.length≤2000):gB l=0:=by
 unfold gB;rw[if_neg (by omega)];cases l with
 |nil=>rfl
 | cons x q =>
  simp only[eR];rw[if_neg (by simpa using h0 x cW)];exact Qt (fun z d=>h0 z (c9 _ d)) h
def Good(z:List G):Prop:=dy z∧fX z=0
theorem ady{L:List (List G)}{C:Nat→ByteArray}{A:Nat→List (List G)}{own:Nat}{off:Int}{g:List (List G)}(u:oE L C A own off g){j:Nat}(y:j<g.length) :
  ∃(d:Int) (w:ByteArray) (v:Int),g.getD j []=[.i (j:Int),.i d,.s w,.i v]∧(d=2→∃ k:Nat,k<L.length∧w=C k)∧(d=3→∃ k i:Nat,k<L.length∧i<(A k).length∧w=C k∧v=(i:Int)):=by
 rcases u j y with h|⟨d,w,v,h,⟨k,i,h1,q,J,B,I,M,N⟩|⟨_,⟨rfl,k,h1,q,_⟩|⟨h1,rfl,rfl⟩⟩⟩
 ·exact⟨6,_,_,h,fun e=>(by omega),fun e=>(by omega)⟩
 ·exact⟨d,w,v,h,fun e=>(by omega),fun _=>⟨k,i,h1,q,B,I⟩⟩
 ·exact⟨2,w,v,h,fun _=>⟨k,h1,q⟩,fun e=>(by omega)⟩
 ·exact⟨d,_,_,h,fun e=>(by omega),fun e=>(by omega)⟩
section
variable {L:List (List G)} {C:Nat→ByteArray} {A:Nat→List (List G)} (R:qb L C A) {own:Nat} (ho:own<L.length) (off:Int)
include R ho
theorem qb.row{j:Nat}(d:j<(A own).length):Good ((A own).getD j []) :=
 R.GR ho _ (by rw[cf,bI d]; exact nm d)
theorem Qu{k:List (List G)}(B:k.length=(A own).length)(y:oE L C A own off k):∀(d i:Nat) (out:List (List G)),i+d=k.length→out.Sublist ((A own).take i) →
  aX sH [.l out,.l L,.i (own:Int),.l k,.i (k.length:Int),.i (i:Int)] (d+1) fun x g=>x=0∧∃ v,g=[.l v]∧v.Sublist (A own)
 | 0,i,out,hi,u=>by
  refine aX.stop (x:=0) (aa.toEq ?_) ⟨rfl,out,rfl,u.trans (List.take_sublist _ _)⟩;unfold sH
  (dsimp +instances only[Aa,Ab,Ac,Ad,Ae,Af,Ag])
  exact aa.n (aa.p (aa.some rfl))
 | d+1,i,out,hi,u=>by
  have O:=R.na own ho;have U:out.length≤i:=lV u.length_le (by rw[kr]; omega);obtain⟨V,w,v,I,_,_⟩:=ady y (j:=i) (by omega);have J:=R.row ho (j:=i) (by omega);have step:aa (sH [.l out,.l L,.i (own:Int),.l k,.i (k.length:Int),.i (i:Int)]) fun o=>∃ q,o=(none,[.l q,.l L,.i (own:Int),.l k,.i (k.length:Int),.i ((i:Int)+1)])∧(q=out∨q=out++[(A own).getD i []]):=by
   unfold sH
   (dsimp +instances only[Aa,Ab,Ac,Ad,Ae,Af,Ag])
   simp only[a_,I,R.get own ho]
   (dsimp +instances only[Aa,Ab,Ac,Ad,Ae,Af,Ag])
   simp only[a_,J.1.eta];refine aa.p (aa.p ?_);refine aa.test (fun _=>?_) fun _=>aa.test (fun _=>?_) fun _=>?_
   ·exact aa.p (aa.p (aa.p (aa.p (aa.p (aa.some ⟨_,rfl,.inr rfl⟩)))))
   ·exact aa.p (aa.p (aa.p (aa.p (aa.p (aa.some ⟨_,rfl,.inr rfl⟩)))))
   ·exact aa.p (aa.p (aa.some ⟨_,rfl,.inl rfl⟩))
  obtain⟨o,h,q,rfl,M⟩:=step;have N:(A own).take (i+1)=(A own).take i++[(A own).getD i []]:=by
   rw[cf,bI (by omega:i<(A own).length)];exact(aff (by omega:i<(A own).length)).symm
  refine aX.next h (Qu B y d (i+1) q (by omega) ?_)
  rw[N];rcases M with rfl|rfl
  ·exact u.trans (List.sublist_append_left _ _)
  ·exact u.append (afG _)
theorem adz(h0:0≤off)(h1:off≤300):aa (sI [.l L,.s (C own),.i off]) fun g=>∃ v,g=[.l v,.i 0]∧v.Sublist (A own):=by
 have u:=R.na own ho;unfold sI
 (dsimp +instances only[Aa,Ab,Ac,Ad,Ae,Af,Ag])
 refine aa.call (adn R.adq ho off h0 h1 (adu R)) ?_;rintro _ ⟨h,rfl,k,q⟩
 (dsimp +instances only[Aa,Ab,Ac,Ad,Ae,Af,Ag])
 refine aa.neg rfl ?_;refine aa.loop ((Qu R ho off k q h.length 0 [] (by omega) (List.nil_sublist _)).to (by omega)) rfl ?_;rintro _ _ ⟨rfl,v,rfl,d⟩
 (dsimp +instances only[Aa,Ab,Ac,Ad,Ae,Af,Ag])
 have:=d.length_le;exact aa.p (aa.some ⟨v,rfl,d⟩)
omit ho in
omit R ho in
end
/-! ### h d g -/
def ix(i:Nat):ByteArray:=C4.getD i ⟨#[]⟩
def qc(X:List (List G))(i:Nat):List (List G):=(gi (X.getD i []) 1).rows
theorem adA:∀ i j,i<j→j<4→df (ix i) (ix j)<0:=by
 have h:((dv 4).all fun j=>(dv j).all fun i=>aj (df (ix i) (ix j)) 0)=true:=by kernel_rfl
 intro i j d g;have h1:=cM.1 (cM.1 h j (eC.2 g)) i (eC.2 d)
 rwa [dm,decide_eq_true_eq]at h1
theorem adB:∀ i,i<4→ix i∈calls:=by
 have h:((dv 4).all fun i=>ow calls (ix i))=true:=by kernel_rfl
 exact fun i hi=>z8 (cM.1 h i (eC.2 hi))
theorem adC:∀ i,0<i→i<4→(k9 (ix i).toList (ix (i-1)).toList||((ix i).toList==(ix (i-1)).toList))=false:=by
 intro i h0 d;have e:∀ a b:ByteArray,(k9 a.data.toList b.data.toList||pR a b)=false→(k9 a.toList b.toList||(a.toList==b.toList))=false:=fun a b h=>by
  rw[wU,wU];exact h
 have h:((dv 4).all fun i=>ad i 0 || !(k9 (ix i).data.toList (ix (i-1)).data.toList||pR (ix i) (ix (i-1))))=true:=by kernel_rfl
 have h1:=cM.1 h i (eC.2 d);refine e _ _ ?_;simp only[Bool.or_eq_true,l_,Lk]at h1;rcases h1 with h1|h1
 ·omega
 ·exact h1
section
variable {L:List (List G)} {C:Nat→ByteArray} {A:Nat→List (List G)} (S:lT L C A) {own:Nat} (ho:own<L.length) (off:Int)
include S ho
end
structure AD (L:List (List G)) (C:Nat→ByteArray) (A:Nat→List (List G)):Prop where
 get:∀ i,i<L.length→L.getD i []=[.s (C i),.l (A i)]
 n:L.length≤4
 lU:∀ i,i<L.length→∀ z∈A i,jm z
 na:∀ i,i<L.length→(A i).length≤14
 call:∀ i,i<L.length→C i∈calls
 lN:∀ i j,i<j→j<L.length→df (C i) (C j)<0
 less:∀ i,0<i→i<L.length→(k9 (C i).toList (C (i-1)).toList||((C i).toList==(C (i-1)).toList))=false
theorem adD{X:List (List G)}{m:Nat}(q:X.length=m)(hm:m≤4)(hX:∀ i,i<m→GC (C4.getD i ⟨#[]⟩) (X.getD i [])):AD X ix (qc X):=by
 have d:∀ i,i<X.length→X.getD i []=[.s (ix i),.l (qc X i)]∧(∀ z∈qc X i,jm z)∧(qc X i).length≤14:=fun i hi=>by
  obtain⟨L,h1,h,k⟩:=hX i (by omega);have e:qc X i=L:=by unfold qc; rw[h1]; rfl
  rw[e];exact⟨h1,h,k⟩
 exact⟨fun i hi=>(d i hi).1,by omega,fun i hi=>(d i hi).2.1,fun i hi=>(d i hi).2.2,fun i hi=>adB i (by omega),fun i j g u=>adA i j g (by omega),fun i h0 hi=>adC i h0 (by omega)⟩
section
variable {L:List (List G)} {C:Nat→ByteArray} {A:Nat→List (List G)} (R:AD L C A)
include R
theorem AD.right(h:∀ i,i<L.length→kq (C i) (A i)=0):qb L C A:=⟨R.get,R.n,fun i hi z d=>(R.lU i hi z d).1,R.na,R.call,R.lN,R.less,h⟩
theorem adE{i:Nat}(hi:i<L.length):sd [.l [[.i (i:Int)]],.l [[.s (C i),.l (A i)]],.l [[.l L]]]=some [.i 0]:=by
 have k:=R.n;refine aa.toEq ?_;unfold sd
 (dsimp +instances only[Aa,Ab,Ac,Ad,Ae,Af,Ag])
 refine aa.test (fun h=>?_) fun _=>aa.some rfl;rw[dm,decide_eq_true_eq]at h;have e:((i:Int)-1).toNat=i-1:=by omega
 have d:=R.less i (by omega) hi;have g:=R.get (i-1) (by omega);simp only[e,g]
 (dsimp +instances only[Aa,Ab,Ac,Ad,Ae,Af,Ag])
 refine aa.p (aa.p (aa.neg ?_ (aa.some rfl)));exact d
theorem adF{i:Nat}(hi:i<L.length):sf [.l [[.s (C i),.l (A i)]],.l [[.i (i:Int)]],.l [[.s (C i),.l (A i)]],.l [[.l L]]]=some [.i (kq (C i) (A i))]:=by
 have h:=R.na i hi;have d:∀ z∈A i,dy z:=fun z g=>(R.lU i hi z g).1;refine aa.toEq ?_;unfold sf kq
 (dsimp +instances only[Aa,Ab,Ac,Ad,Ae,Af,Ag])
 refine aa.cE (Ah (R.call i hi)) ?_
 (dsimp +instances only[Aa,Ab,Ac,Ad,Ae,Af,Ag])
 cases ji (C i)with
 |false=>exact aa.some rfl
 | true =>
  refine aa.neg rfl ?_;refine aa.cE (adE R hi) ?_;refine aa.neg rfl ?_;refine aa.cE (F8 (A i) d (by omega)) ?_
  (dsimp +instances only[Aa,Ab,Ac,Ad,Ae,Af,Ag])
  cases gB (A i) != 0 with
  |true=>exact aa.some rfl
  | false =>
   refine aa.neg rfl ?_;refine aa.call (aa.eq (P6 (C:=se) (c:=C i) (A:=A i) (fun z g=>by
    refine aa.toEq ?_;unfold se
    (dsimp +instances only[Aa,Ab,Ac,Ad,Ae,Af,Ag])
    exact aa.some rfl) (A i) d (by omega))) ?_
   rintro _ rfl
   (dsimp +instances only[Aa,Ab,Ac,Ad,Ae,Af,Ag])
   cases kp (C i) (A i)<;>exact aa.some rfl
theorem Qv:∀(k i:Nat),i+k=L.length→aX mP [.l L,.l L,.i (L.length:Int),.i (i:Int)] (k+1) fun x g=>(x=0∧∃ e:Int,g=[.i e]∧e≠0)∨x=1∧∀ j,i≤j→j<L.length→kq (C j) (A j)=0
 | 0,i,hi=>by
  refine aX.stop (x:=1) (d':=[]) (aa.toEq ?_) (.inr ⟨rfl,fun j h1 d=>by omega⟩);unfold mP
  (dsimp +instances only[Aa,Ab,Ac,Ad,Ae,Af,Ag])
  exact aa.n (aa.some rfl)
 | k+1,i,hi=>by
  have y:=R.n;have q:=Qv k (i+1) (by omega);have step:aa (mP [.l L,.l L,.i (L.length:Int),.i (i:Int)]) fun o=>(o=(some 0,[.i (kq (C i) (A i))])∧kq (C i) (A i)≠0)∨o=(none,[.l L,.l L,.i (L.length:Int),.i ((i:Int)+1)])∧kq (C i) (A i)=0:=by
   unfold mP
   (dsimp +instances only[Aa,Ab,Ac,Ad,Ae,Af,Ag])
   simp only[a_,R.get i (by omega:i<L.length)];refine aa.p (aa.p ?_);refine aa.cE (adF R (i:=i) (by omega)) ?_
   (dsimp +instances only[Aa,Ab,Ac,Ad,Ae,Af,Ag])
   exact aa.test (fun h=>aa.some (.inl ⟨rfl,by simpa using h⟩)) fun h=>aa.p (aa.some (.inr ⟨rfl,by simpa using h⟩))
  obtain⟨o,h,⟨rfl,he⟩|⟨rfl,he⟩⟩:=step
  ·exact aX.stop h (.inl ⟨rfl,_,rfl,he⟩)
  ·refine aX.next h (q.mono ?_)
   rintro x g (d|⟨rfl,d⟩)
   ·exact .inl d
   ·refine .inr ⟨rfl, fun j B u => ?_⟩
    by_cases v:j=i
    ·rw[v]; exact he
    ·exact d j (by omega) u
theorem adG:aa (lJ [.l L]) fun g=>∃ e:Int,g=[.i e]∧(e=0→qb L C A):=by
 have d:=R.n;unfold lJ
 (dsimp +instances only[Aa,Ab,Ac,Ad,Ae,Af,Ag])
 refine aa.n ?_;refine aa.loop ((Qv R L.length 0 (by omega)).to (by omega)) rfl ?_;rintro x g (⟨rfl,e,rfl,he⟩|⟨rfl,h⟩)
 ·exact aa.pos rfl (aa.some ⟨e,rfl,fun h=>absurd h he⟩)
 ·exact aa.neg rfl (aa.some ⟨0,rfl,fun _=>R.right fun i hi=>h i (Nat.zero_le _) hi⟩)
end
section
variable {L:List (List G)} {C:Nat→ByteArray} {A:Nat→List (List G)}
end
/-! ### g is handed back is d -/
section
variable {L:List (List G)} {C:Nat→ByteArray} {A:Nat→List (List G)} (R:AD L C A)
include R
end
theorem Qw:∀{l:List (List G)} {y:List G},eR (some y) l=0→(y::l).Pairwise fun a b=>dO a b<0
 | [],y,_=>by simp
 | x::q,y,h=>by
  simp only[eR]at h;split at h
  ·contradiction
  ·split at h
   ·cases h
   ·rename_i h0
    have k:=Qw h;have g:dO y x<0:=by omega
    refine np.2 ⟨fun z d=>?_,k⟩;rcases bW.1 d with rfl|d
    ·exact g
    ·exact adw _ _ _ g ((np.1 k).1 z d)
theorem adH{l:List (List G)}(h:gB l=0):l.Pairwise fun a b=>dO a b<0:=by
 unfold gB at h;split at h
 ·cases h
 ·cases l with
  |nil=>exact List.Pairwise.nil
  | cons x q =>
   simp only[eR]at h;split at h
   ·contradiction
   ·exact Qw h
theorem adI{x p:List (List G)}(h:gB x=0)(k:x.length≤1000)(d:p.Sublist x):gB p=0:=by
 have:=d.length_le;exact adx (fun z g=>Qq h z (d.subset g)) ((adH h).sublist d) (by omega)
def iP(i:Nat)(z:List G):List G:=[.i (i:Int),.i 2,.i (gi z 1).int,.s (gi z 3).str,.s (gi z 2).str]
def dC(v:List (List G))(n:Nat):List (List G):=(dv n).map fun j=>iP j (v.getD j [])
theorem GS(v:List (List G))(n:Nat):(dC v n).length=n:=by simp[dC]
theorem adJ(v:List (List G))(n:Nat):dC v (n+1)=dC v n++[iP n (v.getD n [])]:=by simp[dC,List.range_succ]
theorem GU(v:List (List G)){n j:Nat}(h:j<n):(dC v n).getD j []=iP j (v.getD j []):=by
 simp[dC,cf,h]
theorem adK{z:List G}(h:dy z){i:Nat}(hi:i≤1000):gC (iP i z):=by
 obtain⟨t,m,b,c,s,h',x,y,rfl,_,d,_,_,g,k,_,_⟩:=h;exact⟨i,2,m,c,b,rfl,⟨by omega,by omega⟩,⟨by omega,by omega⟩,d,k,g⟩
theorem adL{v:List (List G)}(g:∀ z∈v,dy z)(k:v.length≤1000):∀ z∈dC v v.length,gC z:=fun z h=>by
 obtain⟨j,d,rfl⟩:=dD.1 h;have d:=eC.1 d;exact adK (g _ (pK d)) (by omega)
theorem adM{v:List (List G)}(k:∀ z∈v,Good z)(I:v.length≤1000):mR (dC v v.length)=0:=by
 unfold mR;rw[GS,if_neg (by omega)];refine Pt fun i hi=>?_;unfold gD;rw[GU v hi];have q:=k _ (pK hi);have h0:wa (iP i (v.getD i []))=0:=by
  have h:=q.2;unfold fX at h;unfold wa;have u:cL (gi (iP i (v.getD i [])) 0).int 0 345686399999=true:=by
   show cL (i:Int) 0 345686399999=true
   unfold cL;simp only[ax,eu,decide_eq_true_eq];omega
  have y:cL (gi (iP i (v.getD i [])) 1).int 1 3=true:=rfl;rw[u,y];show (bif !cL (gi (v.getD i []) 1).int 1 3 then 4 else bif !ji (gi (v.getD i []) 3).str then 3 else bif !lL (gi (v.getD i []) 2).str then 5 else 0:Int)=0
  cases hm:cL (gi (v.getD i []) 1).int 1 3 with
  |false=>rw[hm]at h; cases d:cL (gi (v.getD i []) 0).int 0 345686399999<;>rw[d]at h<;>cases h
  | true =>
   cases hk:lL (gi (v.getD i []) 2).str with
   |false=>rw[hm,hk]at h; cases d:cL (gi (v.getD i []) 0).int 0 345686399999<;>rw[d]at h<;>cases h
   | true =>
    cases B:ji (gi (v.getD i []) 3).str with
    |false=>rw[hm,hk,B]at h; cases d:cL (gi (v.getD i []) 0).int 0 345686399999<;>rw[d]at h<;>cases h
    |true=>rfl
 rw[if_neg (by rw[h0]; exact fun h=>h rfl)];refine if_neg fun h=>?_;obtain⟨h1,g⟩:=h;rw[GU v (by omega)]at g;have:sN (iP (i-1) (v.getD (i-1) [])) (iP i (v.getD i [])) = -1:=by
  unfold sN;show fy (eA ((i-1:Nat):Int) (i:Int)) _ = -1
  have e:eA ((i-1:Nat):Int) (i:Int) = -1:=by
   unfold eA
   first
    |rw[if_pos (by omega)]
    |(simp; omega)
  rw[e];rfl
 rw[this]at g;omega
/-! ### k many d g as d h -/
theorem Qx(v:List (List G))(n:Nat)(k:n=v.length)(q:n≤5000):∀ i,i≤n→(cR 5000 (dC v n) i).length+(jO v i).length=i ∧
  ∀ key:List G,((cR 5000 (dC v n) i).any fun o=>aR K3 key (dP o))=((v.take i).any fun y=>aR K3 key (wk y))
 |0,_=>⟨rfl,fun _=>by simp[cR]⟩
 | i+1,hi=>by
  obtain⟨h1,d⟩:=Qx v n k q i (by omega);have u:(dC v n).getD i []=iP i (v.getD i []):=GU v (by omega);have hw:dP (iP i (v.getD i []))=wk (v.getD i []):=rfl;have hb:iO 5000 (cR 5000 (dC v n) i) (iP i (v.getD i [])) = !kg v i:=by
   unfold iO kg;rw[hw,d];have e:be (gi (iP i (v.getD i [])) 0).int 5000=true:=by
    show be (i:Int) 5000=true
    rw[eu,decide_eq_true_eq];omega
   rw[e];rfl
  have B:v.take (i+1)=v.take i++[v.getD i []]:=by
   rw[cf,bI (by omega:i<v.length)];exact(aff (by omega:i<v.length)).symm
  have I:cR 5000 (dC v n) (i+1)=cR 5000 (dC v n) i++bif !kg v i then [iP i (v.getD i [])] else []:=by
   show cR 5000 (dC v n) i++(bif iO 5000 (cR 5000 (dC v n) i) ((dC v n).getD i []) then [(dC v n).getD i []] else [])=_
   rw[u,hb]
  have J:jO v (i+1)=jO v i++bif kg v i then [[.i (i:Int)]] else []:=rfl
  rw[I,J,B];cases g:kg v i with
  | false =>
   refine⟨by simp; omega,fun key=>?_⟩;show ((cR 5000 (dC v n) i++[iP i (v.getD i [])]).any _)=_
   rw[AY,AY,d key];simp only[AZ,afg,hw]
  | true =>
   refine⟨by simp; omega,fun key=>?_⟩;show ((cR 5000 (dC v n) i++[]).any _)=_
   rw[cO,AY,d key];simp only[AZ,afg,AT];cases hk:aR K3 key (wk (v.getD i []))with
   |false=>rw[AT]
   | true =>
    rw[Bool.or_true];unfold kg at g;obtain⟨y,M,h⟩:=iQ.1 g;exact iQ.2 ⟨y,M,pM hk h⟩
/-! ### d of one g -/
theorem adN:((dv 100).all fun a=>c_ (iq (a:Nat)).size 10)=true:=by kernel_rfl
theorem Qy{n:Int}(h0:0≤n)(h1:n<100):(iq n).size≤10:=by
 obtain⟨k,rfl⟩:=Rb h0;have:=cM.1 adN k (eC.2 (by omega));simpa using this
theorem Qz{n:Int}(h0:0≤n)(h1:n<100):pT [.i n]=some [.s (iq n)]:=by
 refine aa.toEq ?_;unfold pT
 (dsimp +instances only[Aa,Ab,Ac,Ad,Ae,Af,Ag])
 exact aa.pos (by simp only[jz,dm,ax,decide_eq_true_eq]; omega) (aa.some rfl)
def iy(n:Int):List G:=[.s (⟨#[97]⟩:ByteArray),.s (⟨#[]⟩:ByteArray),.i 4,.i n]
theorem adO{n:Int}(h0:0≤n)(h1:n<100):sO (iy n):=⟨_,_,_,_,rfl,by simp[Pu],by simp[Pv],⟨by omega,by omega⟩,⟨by omega,by omega⟩⟩
theorem adP{n:Int}(h0:1≤n)(h1:n<100):zY [.l [iy n]]=some [.i 0]:=by
 refine aa.toEq ?_;unfold zY
 (dsimp +instances only[Aa,Ab,Ac,Ad,Ae,Af,Ag])
 refine aa.neg rfl ?_;have d:zX [.l [iy n],.i 0]=some [.i 0]:=by
  refine aa.toEq ?_;unfold zX
  (dsimp +instances only[Aa,Ab,Ac,Ad,Ae,Af,Ag])
  refine aa.pos rfl ?_;refine aa.call (P:=fun g=>g=[.t true]) ⟨_,by kernel_rfl,rfl⟩ ?_;rintro _ rfl;refine aa.neg rfl ?_;refine aa.call (P:=fun g=>g=[.t true]) ⟨_,by kernel_rfl,rfl⟩ ?_;rintro _ rfl;refine aa.neg rfl ?_;refine aa.call (P:=fun g=>g=[.t false]) ⟨_,by kernel_rfl,rfl⟩ ?_;rintro _ rfl;refine aa.neg rfl ?_;refine aa.call (P:=fun g=>g=[.t false]) ?_ ?_
  ·show aa (jg [.i n, .i 1, .i 3000]) _
   unfold jg
   (dsimp +instances only[Aa,Ab,Ac,Ad,Ae,Af,Ag])
   first
    |(refine aa.some ?_; congr 2; simp[dm]; omega)
    |(refine aa.n ?_; exact aa.some (by congr 2; simp[dm]; omega))
    |(refine aa.n ?_; exact aa.n (aa.some rfl))
  rintro _ rfl;exact aa.neg rfl (aa.neg rfl (aa.some rfl))
 have run:aX vW [.l [iy n],.i 1,.i 0] 2 fun x g=>x=1:=by
  refine aX.next (d1:=[.l [iy n],.i 1,.i 1]) (aa.toEq ?_) (aX.stop (x:=1) (d':=[]) (aa.toEq ?_) rfl)
  ·unfold vW
   (dsimp +instances only[Aa,Ab,Ac,Ad,Ae,Af,Ag])
   refine aa.pos rfl ?_;refine aa.cE d ?_;exact aa.neg rfl (aa.pos rfl (aa.some rfl))
  ·unfold vW
   (dsimp +instances only[Aa,Ab,Ac,Ad,Ae,Af,Ag])
   exact aa.neg rfl (aa.some rfl)
 refine aa.loop (run.to (by omega)) rfl ?_;rintro _ _ rfl;exact aa.neg rfl (aa.some rfl)
theorem adQ{n:Int}(h0:1≤n)(h1:n<100)(x:List (List G))(d:∀ z∈x,gC z)(V:x.length<100)(I:mR x=0) :
  aa (z7 [.l [iy n],.l x,.i 5000]) fun g=>∃ r,g=[.l [r],.i 0]:=by
 unfold z7
 (dsimp +instances only[Aa,Ab,Ac,Ad,Ae,Af,Ag])
 refine aa.cE (adP h0 h1) ?_;refine aa.neg rfl ?_;refine aa.cE (Ps x 5000 d) ?_
 (dsimp +instances only[Aa,Ab,Ac,Ad,Ae,Af,Ag])
 rw[I];refine aa.neg rfl ?_;refine aa.cE (Pr x 5000 d (by omega)) ?_
 (dsimp +instances only[Aa,Ab,Ac,Ad,Ae,Af,Ag])
 have N:=wb 5000 x x.length;have v:=Pq 5000 x x.length (aB _);have J:=adO (n:=n) (by omega) h1;have run:aX sK [.l [],.l (cR 5000 x x.length),.l [iy n],.i 1,.i 0] 2 fun c g=>∃ r,g=[.l [r]]:=by
  have u:aa (sK [.l [],.l (cR 5000 x x.length),.l [iy n],.i 1,.i 0]) fun o=>∃ r,o=(none,[.l [r],.l (cR 5000 x x.length),.l [iy n],.i 1,.i 1]):=by
   have y:(ki (iy n) jP ((cR 5000 x x.length).filter (ir (iy n)))).m.length≤x.length:=acz (iy n) 5000 x;generalize hk:(ki (iy n) jP ((cR 5000 x x.length).filter (ir (iy n)))).m.length=k at y;have O:=Qy (n:=(k:Int)) (by omega) (by omega);have U:=Qy (n:=n) (by omega) h1;have q:(iq (k:Int)++we).size=(iq (k:Int)).size+1:=by rw[afh,acA]
   have B:((iq (k:Int)++we)++iq n).size=(iq (k:Int)).size+1+(iq n).size:=by rw[afh,q]
   unfold sK
   (dsimp +instances only[Aa,Ab,Ac,Ad,Ae,Af,Ag])
   refine aa.pos rfl (aa.pos rfl ?_);refine aa.call (P:=fun g=>∃ s:Int,g=[.i (k:Int),.i s]) ?_ ?_
   ·have e : aH [.str, .str, .int .i64, .int .i64] (([iy n] : List (List G)).getD 0 []) = iy n := rfl
    refine⟨_,acy J (cR 5000 x x.length) (fun z M=>d z (v z M)) (by omega),?_⟩;rw[hk];exact⟨_,rfl⟩
   rintro _ ⟨s,rfl⟩
   (dsimp +instances only[Aa,Ab,Ac,Ad,Ae,Af,Ag])
   refine aa.cE (Qz (by omega) (by omega)) ?_
   (dsimp +instances only[Aa,Ab,Ac,Ad,Ae,Af,Ag])
   refine aa.pos (by rw[qn]; omega) ?_;refine aa.call (P:=fun g=>g=[.s (iq n)]) (aa.eq (Qz (n:=n) (by omega) h1)) ?_;rintro _ rfl
   (dsimp +instances only[Aa,Ab,Ac,Ad,Ae,Af,Ag])
   refine aa.pos (show c_ ((iq (k:Int)++we).size+(iq n).size) 9223372036854775807=true by rw[qn,q]; omega) ?_;refine aa.test (fun h=>?_) fun h=>?_
   ·refine aa.pos (show c_ (((iq (k : Int) ++ we) ++ iq n).size + 4) 9223372036854775807 = true by rw [qn, B]; omega) ?_
    exact aa.pos rfl (aa.pos rfl (aa.pos rfl (aa.some ⟨_,rfl⟩)))
   ·exact aa.pos rfl (aa.pos rfl (aa.pos rfl (aa.some ⟨_,rfl⟩)))
  obtain⟨o,ho,r,rfl⟩:=u;refine aX.next ho (aX.stop (x:=0) (d':=[.l [r]]) (aa.toEq ?_) ⟨r,rfl⟩)
  unfold sK
  (dsimp +instances only[Aa,Ab,Ac,Ad,Ae,Af,Ag])
  exact aa.neg rfl (aa.pos rfl (aa.some rfl))
 refine aa.loop (run.to (by omega)) rfl ?_;rintro _ _ ⟨r,rfl⟩;exact aa.pos rfl (aa.some ⟨r,rfl⟩)
/-! ### d law -/
theorem QA(v D:List (List G))(f:Int)(h:v.length≤1000):∀(d i:Nat),i+d=v.length →
  aX vZ [.l (dC v i),.l v,.l D,.i f,.l v,.i (v.length:Int),.i (i:Int)] (d+1) fun x g=>x=0∧g=[.l (dC v v.length),.l v,.l D,.i f]
 | 0,i,hi=>by
  have:i=v.length:=by omega
  subst this;refine aX.stop (x:=0) (aa.toEq ?_) ⟨rfl,rfl⟩;unfold vZ
  (dsimp +instances only[Aa,Ab,Ac,Ad,Ae,Af,Ag])
  exact aa.n (aa.pos (by simp) (aa.some rfl))
 | d+1,i,hi=>by
  refine aX.next (d1:=[.l (dC v (i+1)),.l v,.l D,.i f,.l v,.i (v.length:Int),.i ((i:Int)+1)]) (aa.toEq ?_) (QA v D f h d (i+1) (by omega))
  have k:=GS v i;unfold vZ
  (dsimp +instances only[Aa,Ab,Ac,Ad,Ae,Af,Ag])
  simp only[a_];refine aa.p (aa.p (aa.pos (by simp only[k,ax,tq,decide_eq_true_eq,true_and]; omega) (aa.p (aa.pos (by simp) (aa.some ?_)))));rw[adJ];rfl
theorem adR{L:List (List G)}{e:Int}(he:e≠0)(d:lJ [.l L]=some [.i e])(s:ByteArray):sI [.l L,.s s,.i 60]=some [.l [],.i e]:=by
 refine aa.toEq ?_;unfold sI
 (dsimp +instances only[Aa,Ab,Ac,Ad,Ae,Af,Ag])
 refine aa.call (P:=fun g=>g=[.l [],.i 0,.i e]) ?_ ?_
 ·unfold sG
  (dsimp +instances only[Aa,Ab,Ac,Ad,Ae,Af,Ag])
  refine aa.cE d ?_
  (dsimp +instances only[Aa,Ab,Ac,Ad,Ae,Af,Ag])
  exact aa.pos (by simpa using he) (aa.some rfl)
 rintro _ rfl
 (dsimp +instances only[Aa,Ab,Ac,Ad,Ae,Af,Ag])
 exact aa.pos (by simpa using he) (aa.some rfl)
theorem adS(rows:List (List G)):F2 [.l rows]=some [.t true]:=by
 refine aa.toEq ?_;unfold F2
 (dsimp +instances only[Aa,Ab,Ac,Ad,Ae,Af,Ag])
 refine aa.call (ac5 rows) ?_;rintro _ ⟨p,X,m,rfl,p0,p1,m0,m1,u,hX⟩
 (dsimp +instances only[Aa,Ab,Ac,Ad,Ae,Af,Ag])
 have R:=adD u m1 hX;have facts:∀{Q:List G→Prop},Q [.t true]→aa (aA (r7 []) fun g4=>some [.t (gi g4 0).bool]) Q:=fun h=>⟨_,rfl,h⟩
 refine aa.neg (by rw[u,beq_eq_false_iff_ne]; omega) (aa.pos (by rw[u,dm,decide_eq_true_eq]; omega) ?_);have U:=R.get 0 (by omega);simp only[U];obtain⟨_,B,e,rfl,he⟩:=adG R;by_cases h:e=0
 ·subst h
  have q:=he rfl;have h0:0<X.length:=by omega
  have hna:=q.na 0 h0;refine aa.call (P:=fun g=>∃ v,g=[.l v,.i 0]∧v.Sublist (qc X 0)) (adz q h0 60 (by omega) (by omega)) ?_;rintro _ ⟨v,rfl,y⟩
  (dsimp +instances only[Aa,Ab,Ac,Ad,Ae,Af,Ag])
  have hvl:=y.length_le;have k:∀ z∈v,Good z:=fun z d=>q.GR h0 z (y.subset d);have V:gB v=0:=adI (GD (q.fault 0 h0)) (by omega) y;refine aa.neg rfl ?_;have hD:zx [.l v]=some [.l (jO v v.length),.i 0]:=by
   refine aa.toEq ?_;unfold zx
   (dsimp +instances only[Aa,Ab,Ac,Ad,Ae,Af,Ag])
   refine aa.cE (F8 v (fun z d=>(k z d).1) (by omega)) ?_
   (dsimp +instances only[Aa,Ab,Ac,Ad,Ae,Af,Ag])
   rw[V];refine aa.neg rfl ?_;refine aa.cE (ack v (fun z d=>(k z d).1) (by omega)) ?_;exact aa.some rfl
  refine aa.cE hD ?_
  (dsimp +instances only[Aa,Ab,Ac,Ad,Ae,Af,Ag])
  have O:=QA v (jO v v.length) 0 (by omega) v.length 0 (by omega);refine aa.loop (O.to (by omega)) rfl ?_;rintro _ _ ⟨rfl,rfl⟩
  (dsimp +instances only[Aa,Ab,Ac,Ad,Ae,Af,Ag])
  refine aa.pos (by simp) ?_;have hC:=adL (v:=v) (fun z d=>(k z d).1) (by omega);have J:=adM k (by omega);have W:=GS v v.length;have M:=acw (dC v v.length) 5000 hC (by omega) 0 (by rw[J]; rfl);refine aa.cE M ?_;obtain⟨hsum,_⟩:=Qx v v.length rfl (by omega) v.length (aB _);have I:lM 5000 (dC v v.length)=cR 5000 (dC v v.length) v.length:=by unfold lM; rw[W]
  have N:∃ n:Int,n=(if (((lM 5000 (dC v v.length)).length:Nat):Int)>1 then (((lM 5000 (dC v v.length)).length:Nat):Int) else 1)∧1≤n∧n<100:=by
   refine⟨_,rfl,?_⟩;have:=wb 5000 (dC v v.length) v.length;rw[I];split<;>omega
  obtain⟨n,hn,n1,n2⟩:=N;refine aa.call (P:=fun g=>∃ r,g=[.l [r],.i 0]) ?_ ?_
  ·have := adQ n1 n2 (dC v v.length) hC (by omega) J
   rw[hn]at this;exact this
  rintro _ ⟨r,rfl⟩
  (dsimp +instances only[Aa,Ab,Ac,Ad,Ae,Af,Ag])
  refine aa.neg rfl (aa.neg rfl (aa.neg rfl (aa.neg rfl ?_)));refine aa.pos (by have:=F9 v v.length; (first|rfl|assumption|(simp only[ao,sl]<;>omega))) ?_;refine aa.pos ?_ (facts rfl);show ((((lM 5000 (dC v v.length)).length:Nat):Int)==(v.length:Int)-((jO v v.length).length:Int))=true
  rw[I,beq_iff_eq];omega
 ·refine aa.call (aa.eq (adR h B _)) ?_
  rintro _ rfl
  (dsimp +instances only[Aa,Ab,Ac,Ad,Ae,Af,Ag])
  refine aa.pos (by simpa using h) ?_;refine aa.cE B ?_
  (dsimp +instances only[Aa,Ab,Ac,Ad,Ae,Af,Ag])
  exact aa.pos (by simp) (facts rfl)
end
end Go.Proofs.fW
