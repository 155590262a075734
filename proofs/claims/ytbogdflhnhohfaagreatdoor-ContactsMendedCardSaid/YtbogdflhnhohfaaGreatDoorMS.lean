/-
 What is proved here: what both checks tell of two logs,and of all logs that were sent in. No condition.
-/
import Derived.Test.YtbogdflhnhohfaaGreatDoorMF
set_option linter.all false
open Array renaming length_toList->iF
open Bool renaming and_eq_true->aK,true_and->jI,false_or->uZ,eq_iff_iff->nf,and_false->yv,false_and->BV,or_false->o9,beq_comm->amS
open ByteArray renaming data->amP
open Classical renaming choose_spec->amQ
open Go.ByteArray renaming toList_eq->qR
open Go.Lib renaming compareBytes->gI
open Go.Op renaming bytesLess->ly
open Int renaming toNat_natCast->aR
open List renaming length_cons->cn,append_nil->da,append_assoc->gG,length_map->c8,getElem?_eq_getElem->bZ,getElem?_append_right->iY,getElem?_set_self->bB,getElem?_set_ne->bg,all_eq_true->dN,getD_eq_getElem?_getD->cd,mem_cons->cq,length_set->iE,length_append->fu,mem_append->db,mem_cons_self->cX,mem_singleton->kT,any_eq_true->lG,length_nil->km,length->BS,drop_eq_getElem_cons->Vu,find?_cons_of_neg->K4,find?_cons_of_pos->Vw,pairwise_cons->s_,any_cons->ta,any_nil->K9,any_eq_false->VE,reverse_cons->qS,reverse_reverse->amR,any_append->VF,mem_of_find?_eq_some->amT,take_left->amU
open Nat renaming le_refl->aM,le_trans->kR,zero_le->eV,zero_add->cP,beq->aG,sub_self->lF,beq_refl->i_,succ_le_succ->B1,le_antisymm->F7,le_total->ng
open Option renaming getD_some->m_
open Option.some renaming inj->g_
open UInt8 renaming not_lt->u9
namespace Go.Proofs.iQ
open Go Go.AL Go.Proofs
noncomputable section
def Kr(oF:Int):Ei [.i oF]=some [.i (bif er oF 0 3600000 then 0 else 1)]:=by
 refine aa.toEq ?_;unfold Ei;dsimp +instances only[go_sem];refine aa.cE (Bf oF 0 3600000) ?_;cases er oF 0 3600000<;>exact aa.some rfl
def akb(oF:Int):EI [.i oF]=some [.i (bif er oF 0 3600000 then 0 else 1)]:=by
 refine aa.toEq ?_;unfold EI;dsimp +instances only[go_sem];refine aa.cE (JR oF 0 3600000) ?_;cases er oF 0 3600000<;>exact aa.some rfl
section
variable {a b:BY} (ha:a∈calls) (hb:b∈calls) {A B:LL} (hA:∀ z∈A,c9 z) (hB:∀ z∈B,c9 z) (na:A.length<100000) (nb:B.length<100000)
include ha hb hA hB na nb
end
structure Bx (L:LL) (C:Nat->BY) (A:Nat->LL):Prop where
 get:∀ i,i<L.length->L.getD i []=[.s (C i),.l (A i)]
 n:L.length<=40
 iv:∀ i,i<L.length->∀ z∈A i,c9 z
 na:∀ i,i<L.length->(A i).length<=40
 call:∀ i,i<L.length->C i∈calls
def mS(C:Nat->BY)(i:Nat):Bool:=ly (C i).toList (C (i-1)).toList||((C i).toList==(C (i-1)).toList)
def kN(C:Nat->BY)(A:Nat->LL)(i:Nat):Int :=
 bif !jB (C i) then 3 else bif aO 0 (i:Int)&&mS C i then 7 else ki (C i) (A i)
def iy(C:Nat->BY)(A:Nat->LL):Nat->Nat->Int
 |0,_=>0
 |k+1,i=>if kN C A i≠0 then kN C A i else iy C A k (i+1)
section
variable {L:LL} {C:Nat->BY} {A:Nat->LL} (R:Bx L C A)
include R
theorem akc{i:Nat}(hi:i<L.length):Ea [.l [[.i (i:Int)]],.l [[.s (C i),.l (A i)]],.l [[.l L]]]=some [.i (bif aO 0 (i:Int)&&mS C i then 7 else 0)]:=by
 have hn:=R.n;refine aa.toEq ?_;unfold Ea;dsimp +instances only[go_sem];refine aa.test (fun h=>?_) fun h=>?_
 ·rw [h]
  rw[cK,dT]at h;have e:((i:Int)-1).toNat=i-1:=by omega
  have d:=R.get (i-1) (by omega);simp only[e,d];dsimp +instances only[go_sem];refine aa.p (aa.p ?_);show aa (bif mS C i then some ([.i 7]:LG) else some ([.i 0]:LG)) _
  cases mS C i<;>exact aa.some rfl
 ·rw [h]
  exact aa.some rfl
theorem akd{i:Nat}(hi:i<L.length):Eh [.l [[.s (C i),.l (A i)]],.l [[.i (i:Int)]],.l [[.s (C i),.l (A i)]],.l [[.l L]]]=some [.i (kN C A i)]:=by
 have hn:=R.na i hi;refine aa.toEq ?_;unfold Eh kN ki;dsimp +instances only[go_sem];refine aa.cE (S0 (R.call i hi)) ?_;dsimp +instances only[go_sem];cases jB (C i)with
 |false=>exact aa.some rfl
 | true =>
  refine aa.neg rfl ?_;refine aa.cE (akc R hi) ?_;dsimp +instances only[go_sem];cases aO 0 (i:Int)&&mS C i with
  |true=>exact aa.some rfl
  | false =>
   refine aa.neg rfl ?_;refine aa.cE (ai7 (A i) (R.iv i hi) (by omega)) ?_;dsimp +instances only[go_sem];cases l9 (A i) != 0 with
   |true=>exact aa.some rfl
   | false =>
    refine aa.neg rfl ?_;refine aa.call (aa.eq (TF (C:=Eg) (c:=C i) (A:=A i) (fun z d=>by
     refine aa.toEq ?_;unfold Eg;dsimp +instances only[go_sem];exact aa.some rfl) (A i) (R.iv i hi) (by omega))) ?_
    rintro _ rfl;dsimp +instances only[go_sem];cases mR (C i) (A i)<;>exact aa.some rfl
theorem Up:∀(k i:Nat),i+k=L.length->a6 xf [.l L,.l L,.i (L.length:Int),.i (i:Int)] (k+1) fun x g=>(x=0/\g=[.i (iy C A k i)])\/x=1/\iy C A k i=0
 | 0,i,hi=>by
  refine a6.stop (x:=1) (d':=[]) (aa.toEq ?_) (.inr ⟨rfl,rfl⟩);unfold xf;dsimp +instances only[go_sem];exact aa.n (aa.some rfl)
 | k+1,i,hi=>by
  have hn:=R.n;have d:=Up k (i+1) (by omega);have step:aa (xf [.l L,.l L,.i (L.length:Int),.i (i:Int)]) fun o=>(o=(some 0,[.i (kN C A i)])/\kN C A i≠0)\/o=(none,[.l L,.l L,.i (L.length:Int),.i ((i:Int)+1)])/\kN C A i=0:=by
   unfold xf;dsimp +instances only[go_sem];simp only[aR,R.get i (by omega:i<L.length)];refine aa.p (aa.p ?_);refine aa.cE (akd R (i:=i) (by omega)) ?_;dsimp +instances only[go_sem];exact aa.test (fun h=>aa.some (.inl ⟨rfl,by simpa using h⟩)) fun h=>aa.p (aa.some (.inr ⟨rfl,by simpa using h⟩))
  obtain⟨o,h,⟨rfl,he⟩|⟨rfl,he⟩⟩:=step
  ·exact a6.stop h (.inl ⟨rfl,by rw[iy,iP he]⟩)
  ·refine a6.next h (d.mono ?_)
   rw[iy,iN (by simpa using he)];exact fun x g h=>h
theorem Uq:∀(k i:Nat),i+k=L.length->a6 xE [.l L,.l L,.i (L.length:Int),.i (i:Int)] (k+1) fun x g=>(x=0/\g=[.i (iy C A k i)])\/x=1/\iy C A k i=0
 | 0,i,hi=>by
  refine a6.stop (x:=1) (d':=[]) (aa.toEq ?_) (.inr ⟨rfl,rfl⟩);unfold xE;dsimp +instances only[go_sem];exact aa.n (aa.some rfl)
 | k+1,i,hi=>by
  have hn:=R.n;have q:=Uq k (i+1) (by omega);have I:=R.na i (by omega);have step:aa (xE [.l L,.l L,.i (L.length:Int),.i (i:Int)]) fun o=>(o=(some 0,[.i (kN C A i)])/\kN C A i≠0)\/o=(none,[.l L,.l L,.i (L.length:Int),.i ((i:Int)+1)])/\kN C A i=0:=by
   unfold xE kN;dsimp +instances only[go_sem];simp only[aR,R.get i (by omega:i<L.length)];dsimp +instances only[go_sem];refine aa.p (aa.p ?_);refine aa.cE (JT (R.call i (by omega))) ?_;dsimp +instances only[go_sem];cases jB (C i)with
   |false=>exact aa.some (.inl ⟨rfl,by show (3:Int)≠0; decide⟩)
   | true =>
    refine aa.neg rfl ?_;simp only[Bool.not_true,cF];refine aa.test (fun d=>?_) fun d=>?_
    ·rw [d, jI]
     rw[cK,dT]at d;have e:((i:Int)-1).toNat=i-1:=by omega
     have v:=R.get (i-1) (by omega);simp only[e,v];dsimp +instances only[go_sem];refine aa.p (aa.p ?_);have y:(ly (C i).toList (C (i-1)).toList||((C i).toList==(C (i-1)).toList))=mS C i:=rfl;rw[y];cases mS C i with
     |true=>exact aa.some (.inl ⟨rfl,by show (7:Int)≠0; decide⟩)
     | false =>
      refine aa.neg rfl ?_;refine aa.cE (TG (L:=A i) (R.call i (by omega)) (R.iv i (by omega)) (by omega)) ?_;dsimp +instances only[go_sem];exact aa.test (fun h=>aa.some (.inl ⟨rfl,by simpa using h⟩)) fun h=>aa.p (aa.some (.inr ⟨rfl,by simpa using h⟩))
    ·rw [d, BV, cF]
     refine aa.cE (TG (L:=A i) (R.call i (by omega)) (R.iv i (by omega)) (by omega)) ?_;dsimp +instances only[go_sem];exact aa.test (fun h=>aa.some (.inl ⟨rfl,by simpa using h⟩)) fun h=>aa.p (aa.some (.inr ⟨rfl,by simpa using h⟩))
  obtain⟨o,h,⟨rfl,he⟩|⟨rfl,he⟩⟩:=step
  ·exact a6.stop h (.inl ⟨rfl,by rw[iy,iP he]⟩)
  ·refine a6.next h (q.mono ?_)
   rw[iy,iN (by simpa using he)];exact fun x g h=>h
theorem Ur:l7 [.l L]=some [.i (iy C A L.length 0)]:=by
 have hn:=R.n;refine aa.toEq ?_;unfold l7;dsimp +instances only[go_sem];refine aa.n ?_;refine aa.loop ((Up R L.length 0 (by omega)).to (by omega)) rfl ?_;rintro x g (⟨rfl,rfl⟩|⟨rfl,h⟩)
 ·exact aa.pos rfl (aa.some rfl)
 ·rw [h]
  exact aa.neg rfl (aa.some rfl)
theorem ake:EH [.l L]=some [.i (iy C A L.length 0)]:=by
 have hn:=R.n;refine aa.toEq ?_;unfold EH;dsimp +instances only[go_sem];refine aa.n ?_;refine aa.loop ((Uq R L.length 0 (by omega)).to (by omega)) rfl ?_;rintro x g (⟨rfl,rfl⟩|⟨rfl,h⟩)
 ·exact aa.pos rfl (aa.some rfl)
 ·rw [h]
  exact aa.neg rfl (aa.some rfl)
end
def jF:BY:=⟨#[107,49,97,98]⟩
def gS:BY:=⟨#[119,49,97,119]⟩
def sN(t:Int)(c:BY)(s h:Int):LG:=[.i t,.i 1,.s ⟨#[98]⟩,.s c,.i s,.i h,.s ⟨#[]⟩,.s ⟨#[]⟩]
def sO:LL:=[[.s jF,.l [sN 5 gS 1 2]],[.s gS,.l [sN 9 jF 2 1]]]
def mn(i:Nat):BY:=if i=0 then jF else gS
def ed(i:Nat):LL:=if i=0 then [sN 5 gS 1 2] else [sN 9 jF 2 1]
def FD:lu sO mn ed:=by
 have d:∀ i,i<sO.length->i=0\/i=1:=fun i hi=>by
  have:i<2:=hi;omega
 refine⟨fun i hi=>?_,by decide,fun i hi z g=>?_,fun i hi=>?_,fun i hi=>?_,fun i j y k=>?_⟩
 ·rcases d i hi with rfl|rfl<;>rfl
 ·rcases d i hi with rfl | rfl
  ·rw [kT.1 g]
   exact⟨⟨rfl,by decide,by decide⟩,by decide⟩
  ·rw [kT.1 g]
   exact⟨⟨rfl,by decide,by decide⟩,by decide⟩
 ·rcases d i hi with rfl|rfl<;>decide
 ·rcases d i hi with rfl|rfl<;>decide
 ·have k : j < 2 := k
  have q:i=0:=by omega
  have v:j=1:=by omega
  subst q v;have h:aO (eT jF gS) 0=true:=by kernel_rfl
  rw[cK,dT]at h;exact h
def akf:Bx sO mn ed:=by
 have g:∀ i,i<sO.length->i=0\/i=1:=fun i hi=>by
  have:i<2:=hi;omega
 have d:∀ n:Int,0<=n->n<=9->small n:=fun n h1 y=>⟨by omega,by omega⟩
 have hb:(⟨#[98]⟩:BY)∈kM:=oS (by kernel_rfl);have q:jF∈calls:=oS (by kernel_rfl);have v:gS∈calls:=oS (by kernel_rfl);have h:(⟨#[]⟩:BY)∈names:=oS (by kernel_rfl);refine⟨fun i hi=>?_,by decide,fun i hi z k=>?_,fun i hi=>?_,fun i hi=>?_⟩
 ·rcases g i hi with rfl|rfl<;>rfl
 ·rcases g i hi with rfl | rfl
  ·rw [kT.1 k]
   exact⟨_,_,_,_,_,_,_,_,rfl,d _ (by decide) (by decide),d _ (by decide) (by decide),d _ (by decide) (by decide),d _ (by decide) (by decide),hb,v,h,h⟩
  ·rw [kT.1 k]
   exact⟨_,_,_,_,_,_,_,_,rfl,d _ (by decide) (by decide),d _ (by decide) (by decide),d _ (by decide) (by decide),d _ (by decide) (by decide),hb,q,h,h⟩
 ·rcases g i hi with rfl|rfl<;>decide
 ·rcases g i hi with rfl | rfl
  ·exact q
  ·exact v
def Us{c:BY}{r:LG}(h1:jB c=true)(d:iR r=0) (g:((gi r 3).sV.toList==c.toList)=false):ki c [r]=0:=by
 have h:l9 [r]=0:=by
  unfold l9;rw[iN (by simp)];unfold jC;rw[iN (by rw[d]; simp)];rfl
 have ho:mR c [r]=false:=by
  unfold mR;rw[ta,g];rfl
 unfold ki;rw[h1,h,ho];rfl
def akg:l7 [.l sO]=some [.i 0]:=by
 have d:(gS.toList==jF.toList)=false:=by rw[ls]; exact decide_eq_false fun e=>by have:=congrArg amP e; revert this; decide
 have k:(jF.toList==gS.toList)=false:=by rw[ls]; exact decide_eq_false fun e=>by have:=congrArg amP e; revert this; decide
 have g:jB jF=true:=by kernel_rfl
 have h:jB gS=true:=by kernel_rfl
 have q:ki jF [sN 5 gS 1 2]=0:=Us g (by kernel_rfl) d;have v:ki gS [sN 9 jF 2 1]=0:=Us h (by kernel_rfl) k;have y:mS mn 1=false:=by
  show (ly gS.toList jF.toList||(gS.toList==jF.toList))=false
  rw[d,qR,qR]
  kernel_rfl
 have I:kN mn ed 0=0:=by
  show (bif !jB jF then 3 else bif aO 0 0&&mS mn 0 then 7 else ki jF [sN 5 gS 1 2])=(0:Int)
  rw[g,q];rfl
 have M:kN mn ed 1=0:=by
  show (bif !jB gS then 3 else bif aO 0 1&&mS mn 1 then 7 else ki gS [sN 9 jF 2 1])=(0:Int)
  rw[h,y,v];rfl
 rw[Ur akf];have:iy mn ed 2 0=0:=by
  rw[iy,iN (by rw[I]; simp),iy,iN (by rw[M]; simp)];rfl
 rw[show sO.length=2 from rfl,this]
def akh{c:BY}(h:c∈kM):c.size<=1000:=by
 have d:kM.all (fun c=>Nat.ble c.size 1000)=true:=by kernel_rfl
 simpa using dN.1 d c h
def FE{z:LG}(h:c9 z)(g:iR z=0):d_ z/\Sm (bS z):=by
 obtain⟨h1,d,_⟩:=TT.1 g;unfold er at h1 d;simp only[eX,aK,dT]at h1 d;refine⟨⟨h.eta,by unfold jh; omega,by unfold jh; omega⟩,⟨?_,?_,?_⟩⟩
 ·show 0 <= (gi z 1).iV
  omega
 ·show (gi z 1).iV <= 9
  omega
 ·obtain ⟨t, m, b, c, s, k, x, y, rfl, _, _, _, _, hb, _⟩ := h
  exact akh hb
def aki{a b:BY}{A B:LL}(hA:∀ z∈A,c9 z)(hB:∀ z∈B,c9 z)(na:A.length<=100)(nb:B.length<=100)(k:ki a A=0)(q:ki b B=0):uL A B:=by
 have g:∀ z∈A,iR z=0:=Kg (J_ k);have h:∀ z∈B,iR z=0:=Kg (J_ q);exact⟨⟨fun z d=>(FE (hA z d) (g z d)).1,fun z d=>(FE (hB z d) (h z d)).1,by omega,by omega⟩,fun z d=>(FE (hA z d) (g z d)).2,fun z d=>(FE (hB z d) (h z d)).2,by omega,by omega⟩
def akj(a:LL)(h:a.length<=1048576):xb [.l a]=some [.l a]:=by
 refine aa.toEq ?_;unfold xb;dsimp +instances only[go_sem];refine aa.test (fun h1=>?_) fun h1=>?_
 ·unfold Je
  dsimp +instances only[go_sem];(repeat first|refine aa.p ?_|refine aa.n ?_);exact aa.some rfl
 ·have:a=[]:=by
   cases a with
   |nil=>rfl
   | cons x a =>
    have d:Nat.blt 0 (x::a).length=true:=by rw[Nat.blt_eq]; simp
    rw[d]at h1;cases h1
  subst this;exact aa.some rfl
def Ut(r:LG):Prop:=∃(c:BY) (L:LL),r=[.s c,.l L]/\c∈calls/\(∀ z∈L,c9 z)/\L.length<=15
def akk:∀ i,i<4->C4.getD i ⟨#[]⟩∈calls:=by
 intro i hi;have g:C4.all (fun c=>nM calls c)=true:=by kernel_rfl
 have d:i<C4.length:=hi;rw[cd,bZ d];exact oS (dN.1 g _ (List.getElem_mem d))
def akl{l X:LL}{p:Int}(p0:0<=p)(p1:p<=2000){m:Nat}(m0:1<=m)(m1:m<=4)(y:X.length=m)(hX:∀ i,i<m->Ut (X.getD i []))(f:Bool) :
  aa (AA [.l l,.i p,.l X,.t f]) fun o=>∃(q:Int) (Y:LL),o=(some 0,[.l l,.i q,.l Y])/\0<=q/\q<=3000/\Y.length=m/\∀ i,i<m->∃(c:BY) (L:LL),Y.getD i []=[.s c,.l L]/\c∈calls/\(∀ z∈L,c9 z)/\L.length<=16:=by
 unfold AA;dsimp +instances only[go_sem];cases f with
 | false =>
  refine aa.neg rfl (aa.pos (by simp) (aa.some ⟨p,X,rfl,p0,by omega,y,fun i hi=>?_⟩));obtain⟨c,L,h1,g,h,V⟩:=hX i hi;exact⟨c,L,h1,g,h,by omega⟩
 | true =>
  refine aa.pos rfl ?_;refine aa.call (uD l p (X.length:Int) p0 (by omega) (by omega) (by omega)) ?_;rintro _ ⟨v,rfl,W,v1⟩;obtain⟨k,rfl⟩:=Int.eq_ofNat_of_zero_le W;have hk:k<m:=by omega
  obtain⟨c,L,hc,g,h,V⟩:=hX k hk;dsimp +instances only[go_sem];simp only[aR,cP,hc];dsimp +instances only[go_sem];refine aa.p (aa.pos (dE (by omega)) ?_);refine aa.call (JN (fun v=>v∈calls) l (p+1) _ (by omega) (by omega) (by simp) (by simp) (fun x O=>by
   simp only[cq,List.not_mem_nil,or_false]at O;rcases O with rfl|rfl|rfl|rfl
   ·exact g
   ·exact oS (by kernel_rfl)
   ·exact oS (by kernel_rfl)
   ·exact oS (by kernel_rfl))) ?_
  rintro _ ⟨s,rfl,hs⟩;dsimp +instances only[go_sem];have e1:dV [.str,.list [.I,.I,.str,.str,.I,.I,.str,.str]] [G.s c,.l L] 0 [.s s]=[.s s,.l L]:=rfl;have hg:(X.set k [.s s,.l L]).getD k []=[.s s,.l L]:=by
   rw[cd,bB (by omega)];rfl
  simp only[e1,hg,iE,List.set_set];dsimp +instances only[go_sem];refine aa.pos (dE (by omega)) (aa.pos (dE (by omega)) ?_);refine aa.cE (akj L (by omega)) ?_;refine aa.call (sq 0 100000 l (p+1+1) _ (by omega) (by omega) (by kernel_rfl) (by kernel_rfl)) ?_;rintro _ ⟨t,rfl,ht⟩;dsimp +instances only[go_sem];refine aa.call (ai2 l (p+1+1+1) t (by omega) (by omega) (by unfold uE; omega)) ?_;rintro _ ⟨q,r,rfl,q0,q1,U⟩;dsimp +instances only[go_sem];have he:aQ [.I,.I,.str,.str,.I,.I,.str,.str] r=r:=U.to.eta;have e2:∀ M:LL,dV [.str,.list [.I,.I,.str,.str,.I,.I,.str,.str]] [G.s s,.l L] 1 [.l M]=[.s s,.l M]:=fun _=>rfl;simp only[he,e2];refine aa.pos (by rw[i_,jI,dT]; omega) (aa.pos (by rw[i_,jI,dT]; omega) (aa.pos (by rw[i_]; rfl) (aa.some ⟨q,_,rfl,by omega,by omega,by rw[iE]; exact y,fun i hi=>?_⟩)));by_cases N:k=i
  ·subst N
   refine⟨s,L++[r],?_,hs,fun z d=>?_,by simp; omega⟩
   ·rw [cd, bB (by omega)]
    rfl
   ·rcases db.1 d with d | d
    ·exact h z d
    ·rw [kT.1 d]
     exact U.to
  ·obtain ⟨c', L', g1, g2, g3, g4⟩ := hX i hi
   refine⟨c',L',?_,g2,g3,by omega⟩;rw[cd,bg N,<-cd];exact g1
def akm(l:LL):aa (D9 [.l l,.i 0]) fun g=>∃(q:Int) (Y:LL) (m:Nat),g=[.l l,.i q,.l Y]/\0<=q/\q<=3000/\1<=m/\m<=4/\Y.length=m/\∀ i,i<m->∃(c:BY) (L:LL),Y.getD i []=[.s c,.l L]/\c∈calls/\(∀ z∈L,c9 z)/\L.length<=16:=by
 unfold D9;dsimp +instances only[go_sem];refine aa.call (ajC l) ?_;rintro _ ⟨p,X,m,rfl,p0,p1,d,h,k,hX⟩;dsimp +instances only[go_sem];have y:∀ i,i<m->Ut (X.getD i []):=fun i hi=>by
  obtain⟨L,h1,I,U⟩:=hX i hi;exact⟨_,L,h1,akk i (by omega),fun z M=>(I z M).1,by omega⟩
 refine aa.pos (by rw[cK]; exact dE (by omega)) ?_;refine aa.call (Bd l p 12 p0 (by omega) (by omega) (by omega)) ?_;rintro _ ⟨f,rfl⟩;dsimp +instances only[go_sem];obtain⟨o,ho,q,Y,rfl,N,O,hY,v⟩:=akl (l:=l) (p:=p+1) (by omega) (by omega) d h k y f;refine aa.tail (P:=fun u g=>u=0/\g=[.l l,.i q,.l Y]) ⟨_,ho,0,rfl,rfl,rfl⟩ (by first|rfl|simp) ?_;rintro _ _ ⟨rfl,rfl⟩;dsimp +instances only[go_sem];exact aa.pos (by simp) (aa.some ⟨q,Y,m,rfl,N,O,d,h,hY,v⟩)
section
variable {α:Type}
inductive Al:List α->List α->Nat->Prop where
 |nil:Al [] [] 0
 |del (x:α) {a b:List α} {n:Nat}:Al a b n->Al (x::a) b (n+1)
 |ins (y:α) {a b:List α} {n:Nat}:Al a b n->Al a (y::b) (n+1)
 |same (x:α) {a b:List α} {n:Nat}:Al a b n->Al (x::a) (x::b) n
 |sub (x y:α) {a b:List α} {n:Nat}:Al a b n->Al (x::a) (y::b) (n+1)
 |swp (x y:α) {a b:List α} {n:Nat}:Al a b n->Al (x::y::a) (y::x::b) (n+1)
def Al.akn(z:α){a b:List α}{n:Nat}(h:Al a b n):Al (a++[z]) b (n+1):=by
 induction h with
 |nil=>exact .del z .nil
 |del x _ d=>exact .del x d
 |ins y _ d=>exact .ins y d
 |same x _ d=>exact .same x d
 |sub x y _ d=>exact .sub x y d
 |swp x y _ d=>exact .swp x y d
def Al.ako(z:α){a b:List α}{n:Nat}(h:Al a b n):Al a (b++[z]) (n+1):=by
 induction h with
 |nil=>exact .ins z .nil
 |del x _ d=>exact .del x d
 |ins y _ d=>exact .ins y d
 |same x _ d=>exact .same x d
 |sub x y _ d=>exact .sub x y d
 |swp x y _ d=>exact .swp x y d
def Al.akp(z:α){a b:List α}{n:Nat}(h:Al a b n):Al (a++[z]) (b++[z]) n:=by
 induction h with
 |nil=>exact .same z .nil
 |del x _ d=>exact .del x d
 |ins y _ d=>exact .ins y d
 |same x _ d=>exact .same x d
 |sub x y _ d=>exact .sub x y d
 |swp x y _ d=>exact .swp x y d
def Al.akq(z w:α){a b:List α}{n:Nat}(h:Al a b n):Al (a++[z]) (b++[w]) (n+1):=by
 induction h with
 |nil=>exact .sub z w .nil
 |del x _ d=>exact .del x d
 |ins y _ d=>exact .ins y d
 |same x _ d=>exact .same x d
 |sub x y _ d=>exact .sub x y d
 |swp x y _ d=>exact .swp x y d
def Al.akr(z w:α){a b:List α}{n:Nat}(h:Al a b n):Al (a++[z,w]) (b++[w,z]) (n+1):=by
 induction h with
 |nil=>exact .swp z w .nil
 |del x _ d=>exact .del x d
 |ins y _ d=>exact .ins y d
 |same x _ d=>exact .same x d
 |sub x y _ d=>exact .sub x y d
 |swp x y _ d=>exact .swp x y d
def Al.rev{a b:List α}{n:Nat}(h:Al a b n):Al a.reverse b.reverse n:=by
 induction h with
 |nil=>exact .nil
 |del x _ d=>rw[qS]; exact d.akn x
 |ins y _ d=>rw[qS]; exact d.ako y
 |same x _ d=>rw[qS,qS]; exact d.akp x
 |sub x y _ d=>rw[qS,qS]; exact d.akq x y
 | swp x y _ d =>
  rw[qS,qS,qS,qS,gG,gG];exact d.akr y x
def Al.some:∀ a b:List α,Al a b (a.length+b.length)
 | [],[]=>.nil
 | [],y::b=>by
  have:=Al.some [] b;simp only[km,cP]at this;rw[km,cP,cn];exact .ins y this
 | x::a,b=>by
  have:=Al.some a b;rw[cn,Nat.add_right_comm];exact .del x this
def Uu(a b:List α)(m:Nat):Prop:=Al a b m/\∀ n,Al a b n->m<=n
def Ks(a b:List α):∃ m,Uu a b m:=by
 have key:∀ k n,Al a b n->n<=k->∃ m,Uu a b m:=by
  intro k
  induction k with
  | zero =>
   intro n h hn;have:n=0:=by omega
   subst this;exact⟨0,h,fun _ _=>eV _⟩
  | succ k g =>
   intro n h hn;by_cases hm:∃ m,Al a b m/\m<=k
   ·obtain ⟨m, h1, d⟩ := hm
    exact g m h1 d
   ·refine ⟨n, h, fun m h1 => ?_⟩
    by_cases d:m<=k
    ·exact(hm ⟨m,h1,d⟩).elim
    ·omega
 exact key _ _ (Al.some a b) (aM _)
def dA(a b:List α):Nat:=Classical.choose (Ks a b)
def pO(a b:List α):Al a b (dA a b):=(amQ (Ks a b)).1
def kO{a b:List α}{n:Nat}(h:Al a b n):dA a b<=n:=(amQ (Ks a b)).2 n h
def aks(a b:List α):dA a.reverse b.reverse=dA a b:=by
 refine F7 (kO (pO a b).rev) ?_;have h:=(pO a.reverse b.reverse).rev;rw[amR,amR]at h;exact kO h
def akt{a b:List α}{n:Nat}(h:Al a b n):a=[]->b.length<=n:=by
 induction h with
 |nil=>intro _; exact aM _
 | ins y _ d =>
  intro e;have:=d e;rw[cn];omega
 |del x _ _=>intro e; cases e
 |same x _ _=>intro e; cases e
 |sub x y _ _=>intro e; cases e
 |swp x y _ _=>intro e; cases e
def aku{a b:List α}{n:Nat}(h:Al a b n):b=[]->a.length<=n:=by
 induction h with
 |nil=>intro _; exact aM _
 | del y _ d =>
  intro e;have:=d e;rw[cn];omega
 |ins x _ _=>intro e; cases e
 |same x _ _=>intro e; cases e
 |sub x y _ _=>intro e; cases e
 |swp x y _ _=>intro e; cases e
def Uv(b:List α):dA [] b=b.length:=by
 refine F7 ?_ (akt (pO [] b) rfl);have:=kO (Al.some [] b);simpa using this
def Uw(a:List α):dA a []=a.length:=by
 refine F7 ?_ (aku (pO a []) rfl);have:=kO (Al.some a []);simpa using this
def Ux{x y:α}{a b:List α}{V:Nat}(h1:V<=dA a (y::b)+1)(k:V<=dA (x::a) b+1)(q:V<=dA a b+1)(v:x=y->V<=dA a b)(I:∀ d g,a=y::d->b=x::g->V<=dA d g+1)
  (M:V=dA a (y::b)+1\/V=dA (x::a) b+1\/V=dA a b+1\/(x=y/\V=dA a b)\/∃ d g,a=y::d/\b=x::g/\V=dA d g+1):dA (x::a) (y::b)=V:=by
 refine F7 ?_ ?_
 ·rcases M with rfl | rfl | rfl | ⟨rfl, rfl⟩ | ⟨d, g, rfl, rfl, rfl⟩
  ·exact kO (.del x (pO _ _))
  ·exact kO (.ins y (pO _ _))
  ·exact kO (.sub x y (pO _ _))
  ·exact kO (.same x (pO _ _))
  ·exact kO (.swp _ _ (pO _ _))
 ·have key:∀ n,Al (x::a) (y::b) n->V<=n:=by
   intro n h;cases h with
   |del _ h=>exact kR h1 (B1 (kO h))
   |ins _ h=>exact kR k (B1 (kO h))
   |same _ h=>exact kR (v rfl) (kO h)
   |sub _ _ h=>exact kR q (B1 (kO h))
   |swp _ _ h=>exact kR (I _ _ rfl rfl) (B1 (kO h))
  exact key _ (pO _ _)
end
def a8(a:BY)(i:Nat):UInt8:=a.data.toList.getD i 0
def preB(a:BY)(i:Nat):List UInt8:=(a.data.toList.take i).reverse
def FF(a:BY):preB a 0=[]:=rfl
def By{a:BY}{i:Nat}(h:i<a.size):preB a (i+1)=a8 a i::preB a i:=by
 have d:i<a.data.toList.length:=by rw[iF]; exact h
 unfold preB a8;rw[List.take_add_one,cd,bZ d];simp
def FG{a:BY}{i:Nat}(h:i<=a.size):(preB a i).length=i:=by
 have d:i<=a.data.toList.length:=by rw[iF]; exact h
 unfold preB;rw[List.length_reverse,List.length_take];omega
def b_(a b:BY)(i k:Nat):Nat:=dA (preB a i) (preB b k)
def FH{a b:BY}{i k:Nat}(hi:i<=a.size)(d:k<=b.size):b_ a b i k<=i+k:=by
 have:=kO (Al.some (preB a i) (preB b k));rw[FG hi,FG d]at this;exact this
def akv{a b:BY}{k:Nat}(d:k<=b.size):b_ a b 0 k=k:=by
 unfold b_;rw[FF,Uv,FG d]
def akw{a b:BY}{i:Nat}(hi:i<=a.size):b_ a b i 0=i:=by
 unfold b_;rw[FF,Uw,FG hi]
def gT(x y:UInt8):Nat:=if x=y then 0 else 1
def akx{a b:BY}{i k:Nat}(hi:i<a.size)(hk:k<b.size):b_ a b (i+1) (k+1) =
  (if 1 <= i /\ 1 <= k /\ a8 a i = a8 b (k - 1) /\ a8 a (i - 1) = a8 b k then min (min (min (b_ a b i (k + 1) + 1) (b_ a b (i + 1) k + 1)) (b_ a b i k + gT (a8 a i) (a8 b k))) (b_ a b (i - 1) (k - 1) + 1)
   else min (min (b_ a b i (k+1)+1) (b_ a b (i+1) k+1)) (b_ a b i k+gT (a8 a i) (a8 b k))):=by
 have e1:preB a (i+1)=a8 a i::preB a i:=By hi;have e2:preB b (k+1)=a8 b k::preB b k:=By hk;have c1:dA (preB a i) (a8 b k::preB b k)=b_ a b i (k+1):=by unfold b_; rw[e2]
 have c2:dA (a8 a i::preB a i) (preB b k)=b_ a b (i+1) k:=by unfold b_; rw[e1]
 have U:dA (preB a i) (preB b k)=b_ a b i k:=rfl;have c4:∀ d g,preB a i=a8 b k::d->preB b k=a8 a i::g->(1<=i/\1<=k/\a8 a i=a8 b (k-1)/\a8 a (i-1)=a8 b k)/\dA d g=b_ a b (i-1) (k-1):=fun d g h1 v=>by
  cases i with
  |zero=>rw[FF]at h1; cases h1
  | succ i =>
   cases k with
   |zero=>rw[FF]at v; cases v
   | succ k =>
    rw[By (by omega)]at h1 v;injection h1 with O y
    injection v with q h6
    exact⟨⟨by omega,by omega,q.symm,O⟩,by rw[<-y,<-h6]; rfl⟩
 have c5:(1<=i/\1<=k/\a8 a i=a8 b (k-1)/\a8 a (i-1)=a8 b k)->∃ d g,preB a i=a8 b k::d/\preB b k=a8 a i::g/\dA d g=b_ a b (i-1) (k-1):=fun⟨h1,v,O,y⟩=>by
  obtain⟨i,rfl⟩:∃ j,i=j+1:=⟨i-1,by omega⟩
  obtain⟨k,rfl⟩:∃ j,k=j+1:=⟨k-1,by omega⟩
  have O:a8 a (i+1)=a8 b k:=O;have y:a8 a i=a8 b (k+1):=y;exact⟨preB a i,preB b k,by rw[By (by omega),y],by rw[By (by omega),O],rfl⟩
 have main:∀ V,V<=b_ a b i (k+1)+1->V<=b_ a b (i+1) k+1->V<=b_ a b i k+gT (a8 a i) (a8 b k)->((1<=i/\1<=k/\a8 a i=a8 b (k-1)/\a8 a (i-1)=a8 b k)->V<=b_ a b (i-1) (k-1)+1) ->
   (V=b_ a b i (k+1)+1\/V=b_ a b (i+1) k+1\/V=b_ a b i k+gT (a8 a i) (a8 b k)\/((1<=i/\1<=k/\a8 a i=a8 b (k-1)/\a8 a (i-1)=a8 b k)/\V=b_ a b (i-1) (k-1)+1))->b_ a b (i+1) (k+1)=V:=fun V h1 v O y q=>by
  have hc:gT (a8 a i) (a8 b k)<=1:=by unfold gT; split<;>omega
  show dA (preB a (i+1)) (preB b (k+1))=V
  rw[e1,e2];refine Ux (by rw[c1]; exact h1) (by rw[c2]; exact v) (by rw[U]; omega) (fun e=>by rw[U]; have:gT (a8 a i) (a8 b k)=0:=iP e; omega) (fun d g I M=>?_) ?_
  ·obtain ⟨N, g4⟩ := c4 d g I M
   rw[g4];exact y N
  ·rcases q with q | q | q | ⟨q, h6⟩
   ·exact .inl (by rw[c1]; exact q)
   ·exact .inr (.inl (by rw[c2]; exact q))
   ·by_cases e : a8 a i = a8 b k
    ·have : gT (a8 a i) (a8 b k) = 0 := iP e
     exact .inr (.inr (.inr (.inl ⟨e,by rw[U]; omega⟩)))
    ·have : gT (a8 a i) (a8 b k) = 1 := iN e
     exact .inr (.inr (.inl (by rw[U]; omega)))
   ·obtain ⟨d, g, I, M, N⟩ := c5 q
    exact .inr (.inr (.inr (.inr ⟨d,g,I,M,by rw[N]; exact h6⟩)))
 by_cases W:1<=i/\1<=k/\a8 a i=a8 b (k-1)/\a8 a (i-1)=a8 b k
 ·rw [iP W]
  refine main _ (by omega) (by omega) (by omega) (fun _=>by omega) ?_;rcases ng (b_ a b i (k+1)+1) (b_ a b (i+1) k+1)with I|I<;>rcases ng (b_ a b i (k+1)+1) (b_ a b i k+gT (a8 a i) (a8 b k))with M|M<;>rcases ng (b_ a b (i+1) k+1) (b_ a b i k+gT (a8 a i) (a8 b k))with N|N <;>
   rcases ng (b_ a b i (k+1)+1) (b_ a b (i-1) (k-1)+1)with g4|g4<;>rcases ng (b_ a b (i+1) k+1) (b_ a b (i-1) (k-1)+1)with g5|g5<;>rcases ng (b_ a b i k+gT (a8 a i) (a8 b k)) (b_ a b (i-1) (k-1)+1)with g6|g6 <;>
   first|exact .inl (by omega)|exact .inr (.inl (by omega))|exact .inr (.inr (.inl (by omega)))|exact .inr (.inr (.inr ⟨W,by omega⟩))
 ·rw [iN W]
  refine main _ (by omega) (by omega) (by omega) (fun h=>(W h).elim) ?_;rcases ng (b_ a b i (k+1)+1) (b_ a b (i+1) k+1)with I|I<;>rcases ng (b_ a b i (k+1)+1) (b_ a b i k+gT (a8 a i) (a8 b k))with M|M<;>rcases ng (b_ a b (i+1) k+1) (b_ a b i k+gT (a8 a i) (a8 b k))with N|N <;>
   first|exact .inl (by omega)|exact .inr (.inl (by omega))|exact .inr (.inr (.inl (by omega)))
structure gU (a b:BY) (m i k:Nat) (r:LL):Prop where
 len:r.length=m
 val:∀ j,j<k->j<m->r.getD j []=[.i (b_ a b i j:Int)]
def gU.set{a b:BY}{m i k:Nat}{r:LL}(h:gU a b m i k r){v:Int}(d:v=(b_ a b i k:Int)):gU a b m i (k+1) (r.set k [.i v]):=by
 refine⟨by rw[iE,h.len],fun j g hm=>?_⟩;by_cases e:k=j
 ·subst e
  rw[cd,bB (by rw[h.len]; exact hm),d];rfl
 ·rw[cd,bg e,<-cd,h.val j (by omega) hm]
def gU.zero(a b:BY)(m i:Nat):gU a b m i 0 (List.replicate m [.i 0]):=⟨List.length_replicate ..,fun j d=>by omega⟩
def Kt(r0 r1 r2:LL)(a b:BY)(i k m:Nat)(h q v y:Int)(x:Nat)(g:LG):Prop :=
 x=0/\∃ d:LL,g=[.l r0,.l r1,.l r2,.l d,.s a,.s b,.i (i:Int),.i h,.i q,.i v,.i y]/\gU a b m i (k+1) d
def yb(x y:UInt8):(((x.toNat:Nat):Int)==((y.toNat:Nat):Int))=decide (x=y):=by
 rw[nf,beq_iff_eq,dT];constructor
 ·intro h
  exact UInt8.toNat_inj.1 (by omega)
 ·rintro rfl
  rfl
def yc(a b:BY)(i k:Nat):Nat:=min (min (b_ a b (i-1) k+1) (b_ a b i (k-1)+1)) (b_ a b (i-1) (k-1)+gT (a8 a (i-1)) (a8 b (k-1)))
def sP(a b:BY)(i k:Nat):Bool:=decide (2<=i)&&(decide (2<=k)&&(decide (a8 a (i-1)=a8 b (k-2))&&decide (a8 a (i-2)=a8 b (k-1))))
def aky{a b:BY}{i k:Nat}(v:1<=i)(hi:i<=a.size)(y:1<=k)(I:k<=b.size):b_ a b i k=if sP a b i k=true then min (yc a b i k) (b_ a b (i-2) (k-2)+1) else yc a b i k:=by
 obtain⟨i,rfl⟩:∃ j,i=j+1:=⟨i-1,by omega⟩
 obtain⟨k,rfl⟩:∃ j,k=j+1:=⟨k-1,by omega⟩
 rw[akx (by omega) (by omega)];unfold yc sP;have e:(decide (2<=i+1)&&(decide (2<=k+1)&&(decide (a8 a (i+1-1)=a8 b (k+1-2))&&decide (a8 a (i+1-2)=a8 b (k+1-1)))))=decide (1<=i/\1<=k/\a8 a i=a8 b (k-1)/\a8 a (i-1)=a8 b k):=by
  rw[nf];simp only[aK,dT];constructor
  ·rintro ⟨h1, q, d, g⟩
   exact⟨by omega,by omega,d,g⟩
  ·rintro ⟨h1, q, d, g⟩
   exact⟨by omega,by omega,d,g⟩
 rw[e];by_cases h:1<=i/\1<=k/\a8 a i=a8 b (k-1)/\a8 a (i-1)=a8 b k
 ·rw [iP h, iP (dE h)]
  rfl
 ·rw [iN h, iN (by simp only [dT]; exact h)]
  rfl
def akz{r0 r1 r2 row:LL}{a b:BY}{i k m V:Nat}{h q v y:Int}{f:Bool}(hk:k<m)(d:gU a b m i k row)(I:row.getD k []=[.i (V:Int)])(U:f=true->2<=i/\2<=k/\gU a b m (i-2) m r1) (g:b_ a b i k=if f=true then min V (b_ a b (i-2) (k-2)+1) else V) (hV:V<=2000) (hw:b_ a b (i-2) (k-2)<=2000) (hi:i<=1000) (hm:m<=1000) :
  aa (xp [.l r0,.l r1,.l r2,.l row,.s a,.s b,.i (i:Int),.i (k:Int),.i h,.i q,.i v,.i y,.t f]) fun o=>∃ x,o.1=some x/\Kt r0 r1 r2 a b i k m h q v y x o.2:=by
 unfold xp;dsimp +instances only[go_sem];cases f with
 | true =>
  obtain⟨h1,h2,M⟩:=U rfl;have N:=M.val (k-2) (by omega) (by omega);have W:((k:Int)).toNat=k:=aR k;have n2:((k:Int)-2).toNat=k-2:=by omega
  have l1:=d.len;have l2:=M.len;refine aa.pos rfl ?_;simp only[W,n2,cP,I,N,xU];dsimp +instances only[go_sem];refine aa.p (aa.p (aa.p (aa.p (aa.p (aa.p (aa.p (aa.p ?_)))))));rw[iP rfl]at g;refine aa.some ⟨0,rfl,rfl,_,rfl,d.set ?_⟩;rw[g];split<;>omega
 | false =>
  rw[iN (by simp)]at g;have l1:=d.len;refine aa.neg rfl (aa.p (aa.some ⟨0,rfl,rfl,_,rfl,⟨d.len,fun j hj O=>?_⟩⟩));by_cases e:j=k
  ·rw[e,I,g]
  ·exact d.val j (by omega) O
def akA{r0 r1 r2 row:LL}{a b:BY}{i k m:Nat}{I M N O:Int}(hk1:1<=k)(U:k<m)(hb:m=b.size+1)(hi1:1<=i)(ha:i<=a.size)(q:gU a b m i k row)(h2:gU a b m (i-1) m r2)(h1:2<=i->gU a b m (i-2) m r1)(hi:i<=1000)(hm:m<=1000) :
  aa (xq [.l r0,.l r1,.l r2,.l row,.s a,.s b,.i (i:Int),.i (k:Int),.i (gT (a8 a (i-1)) (a8 b (k-1)):Int),.i I,.i M,.i N,.i O]) fun o=>∃ x,o.1=some x/\Kt r0 r1 r2 a b i k m I M N O x o.2:=by
 unfold xq;dsimp +instances only[go_sem];have hv1:=h2.val k U U;have hv2:=q.val (k-1) (by omega) (by omega);have hv3:=h2.val (k-1) (by omega) (by omega);have b1:=FH (a:=a) (b:=b) (i:=i-1) (k:=k) (by omega) (by omega);have b2:=FH (a:=a) (b:=b) (i:=i) (k:=k-1) (by omega) (by omega);have b3:=FH (a:=a) (b:=b) (i:=i-1) (k:=k-1) (by omega) (by omega);have b4:=FH (a:=a) (b:=b) (i:=i-2) (k:=k-2) (by omega) (by omega);have hc:gT (a8 a (i-1)) (a8 b (k-1))<=1:=by unfold gT; split<;>omega
 have n1:((k:Int)).toNat=k:=aR k;have n2:((k:Int)-1).toNat=k-1:=by omega
 have n3:((i:Int)-1).toNat=i-1:=by omega
 have n4:((i:Int)-2).toNat=i-2:=by omega
 have n5:((k:Int)-2).toNat=k-2:=by omega
 have l1:=q.len;have l2:=h2.len;have hE:=aky hi1 ha hk1 (show k<=b.size by omega);simp only[n1,n2,cP,hv1,hv2,hv3,xU];dsimp +instances only[go_sem];obtain⟨V,W⟩:∃ V,V=yc a b i k:=⟨_,rfl⟩
 have hV:(if (b_ a b (i-1) (k-1):Int)+(gT (a8 a (i-1)) (a8 b (k-1)):Int)<(if (b_ a b i (k-1):Int)+1<(b_ a b (i-1) k:Int)+1 then (b_ a b i (k-1):Int)+1 else (b_ a b (i-1) k:Int)+1) then (b_ a b (i-1) (k-1):Int)+(gT (a8 a (i-1)) (a8 b (k-1)):Int) else (if (b_ a b i (k-1):Int)+1<(b_ a b (i-1) k:Int)+1 then (b_ a b i (k-1):Int)+1 else (b_ a b (i-1) k:Int)+1))=(V:Int):=by
  rw[W];unfold yc;split<;>split<;>omega
 have hV2:V<=2000:=by
  rw[W];unfold yc;omega
 rw[<-W]at hE;simp only[hV];have hl2:(row.set k [G.i (V:Int)]).length=m:=by rw[iE,q.len]
 have hrow:gU a b m i k (row.set k [.i (V:Int)]):=⟨hl2,fun j hj hjm=>by rw[cd,bg (by omega),<-cd,q.val j hj hjm]⟩
 have hat:(row.set k [G.i (V:Int)]).getD k []=[.i (V:Int)]:=by
  rw[cd,bB (by rw[q.len]; exact U)];rfl
 refine aa.p (aa.p (aa.p (aa.p (aa.p (aa.p (aa.p (aa.p (aa.p (aa.p (aa.p ?_))))))))));have y:∀(f:Bool),f=sP a b i k->aa (ba (aG row.length (row.set k [.i (V:Int)]).length&&true) (cW (xp [.l r0,.l r1,.l r2,.l (row.set k [.i (V:Int)]),.s a,.s b,.i (i:Int),.i (k:Int),.i I,.i M,.i N,.i O,.t f])) fun cg g=>(bif (aG (gi g 3).rZ.length (gi g 3).rZ.length)&&true then some ((some 0:Option Nat),[G.l (gi g 0).rZ,.l (gi g 1).rZ,.l (gi g 2).rZ,.l (gi g 3).rZ,.s (gi g 4).sV,.s (gi g 5).sV,.i (gi g 6).iV,.i (gi g 7).iV,.i (gi g 8).iV,.i (gi g 9).iV,.i (gi g 10).iV]) else none))
   fun o=>∃ x,o.1=some x/\Kt r0 r1 r2 a b i k m I M N O x o.2:=fun f d=>by
  have hsw:f=true->2<=i/\2<=k:=fun h=>by
   rw[h]at d;unfold sP at d;have d:=d.symm;simp only[aK,dT]at d;exact⟨d.1,d.2.1⟩
  refine aa.tail (akz U hrow hat (fun h=>⟨(hsw h).1,(hsw h).2,h1 (hsw h).1⟩) (by rw[d]; exact hE) hV2 (by omega) hi hm) (by(first|rfl|assumption|(simp only[ay,sl]<;>omega))) ?_;rintro _ _ ⟨rfl,row',rfl,hr'⟩;dsimp +instances only[go_sem];exact aa.p (aa.some ⟨0,rfl,rfl,row',rfl,hr'⟩)
 refine aa.test (fun g1=>?_) fun g1=>y false (by
  rw[cK,dF]at g1;unfold sP;rw[decide_eq_false (by omega:¬ 2<=i)];rfl)
 rw[cK,dT]at g1;refine aa.test (fun g2=>?_) fun g2=>y false (by
  rw[cK,dF]at g2;unfold sP;rw[decide_eq_false (by omega:¬ 2<=k),BV,yv])
 rw[cK,dT]at g2;have s1:decide (2<=i)=true:=dE (by omega);have s2:decide (2<=k)=true:=dE (by omega);refine aa.p (aa.p (aa.p (aa.p ?_)));have q1:(((a.data.toList.getD ((i:Int)-1).toNat 0).toNat:Int)==((b.data.toList.getD ((k:Int)-2).toNat 0).toNat:Int))=decide (a8 a (i-1)=a8 b (k-2)):=by rw[n3,n5]; exact yb _ _
 have q2:(((a.data.toList.getD ((i:Int)-2).toNat 0).toNat:Int)==((b.data.toList.getD (k-1) 0).toNat:Int))=decide (a8 a (i-2)=a8 b (k-1)):=by rw[n4]; exact yb _ _
 refine aa.test (fun v=>?_) fun v=>y false (by
  rw[q1]at v;unfold sP;rw[v,BV,yv,yv])
 rw[q1]at v;refine aa.p (aa.p (aa.p (aa.p ?_)));exact y _ (by
  rw[q2];unfold sP;rw[s1,s2,v];rfl)
def Ku{r0 r1 r2 row:LL}{a b:BY}{d g h q:Int}{k:Nat}(v:k<=1000) :
  aa (sf [.l r0,.l r1,.l r2,.l row,.s a,.s b,.i d,.i g,.i h,.i q,.i (k:Int)]) fun o=>∃ x,o.1=some x/\ajG [.l r0,.l r1,.l r2,.l row,.s a,.s b,.i d,.i g,.i h,.i q,.i ((k:Int)+1)] x o.2:=by
 unfold sf;dsimp +instances only[go_sem];exact aa.p (aa.p (aa.some ⟨0,rfl,rfl,rfl⟩))
def Uy{r0 r1 r2:LL}{a b:BY}{i m:Nat}{n:Int}(hb:m=b.size+1)(ha:i<=a.size)(N:1<=i->gU a b m (i-1) m r2)(h1:2<=i->gU a b m (i-2) m r1)(hi:i<=1000)(hm:m<=1000):∀(t k:Nat) (row:LL),k+t=m->gU a b m i k row ->
  a6 xr [.l r0,.l r1,.l r2,.l row,.s a,.s b,.i (i:Int),.i n,.i (i:Int),.i (m:Int),.i (k:Int)] (t+1) fun x g=>x=0/\∃ d,g=[.l r0,.l r1,.l r2,.l d,.s a,.s b,.i n,.i (i:Int)]/\gU a b m i m d
 | 0,k,row,U,v=>by
  have e:k=m:=by omega
  rw[e]at v;refine a6.stop (x:=0) (aa.toEq ?_) ⟨rfl,row,rfl,v⟩;unfold xr;dsimp +instances only[go_sem];exact aa.n (aa.p (aa.some rfl))
 | t+1,k,row,U,v=>by
  have step:aa (xr [.l r0,.l r1,.l r2,.l row,.s a,.s b,.i (i:Int),.i n,.i (i:Int),.i (m:Int),.i (k:Int)]) fun o=>∃ d,o=(none,[.l r0,.l r1,.l r2,.l d,.s a,.s b,.i (i:Int),.i n,.i (i:Int),.i (m:Int),.i ((k:Int)+1)])/\gU a b m i (k+1) d:=by
   unfold xr;dsimp +instances only[go_sem];have l1:=v.len;have V:((k:Int)).toNat=k:=aR k;have W:((k:Int)-1).toNat=k-1:=by omega
   have n3:((i:Int)-1).toNat=i-1:=by omega
   simp only[V,cP,xU];refine aa.p (aa.test (fun g0=>?_) fun g0=>aa.test (fun y=>?_) fun y=>?_)
   ·have g0 : (i : Int) = 0 := by simpa using g0
    have i0:i=0:=by omega
    refine aa.p (aa.p ?_);refine aa.tail (Ku (k:=k) (by omega)) (by(first|rfl|assumption|(simp only[ay,sl]<;>omega))) ?_;rintro _ _ ⟨rfl,rfl⟩;dsimp +instances only[go_sem];exact aa.p (aa.some ⟨_,rfl,v.set (by rw[i0,akv (by omega)])⟩)
   ·have y : (k : Int) = 0 := by simpa using y
    have k0:k=0:=by omega
    subst k0;refine aa.p (aa.p ?_);refine aa.tail (Ku (k:=0) (by omega)) (by(first|rfl|assumption|(simp only[ay,sl]<;>omega))) ?_;rintro _ _ ⟨rfl,rfl⟩;dsimp +instances only[go_sem];exact aa.p (aa.some ⟨_,rfl,v.set (by rw[akw ha])⟩)
   ·have O:1<=i:=by
     have:¬ ((i:Int)=0):=by simpa using g0
     omega
    have k1:1<=k:=by
     have:¬ ((k:Int)=0):=by simpa using y
     omega
    have M:∀ c:Int,c=(gT (a8 a (i-1)) (a8 b (k-1)):Int)->aa (ba (aG row.length row.length&&true) (cW (xq [.l r0,.l r1,.l r2,.l row,.s a,.s b,.i (i:Int),.i (k:Int),.i c,.i n,.i (i:Int),.i (m:Int),.i (k:Int)])) fun cg g=>ba (aG (gi g 3).rZ.length (gi g 3).rZ.length&&true) (cW (sf [.l (gi g 0).rZ,.l (gi g 1).rZ,.l (gi g 2).rZ,.l (gi g 3).rZ,.s (gi g 4).sV,.s (gi g 5).sV,.i (gi g 6).iV,.i (gi g 7).iV,.i (gi g 8).iV,.i (gi g 9).iV,.i (gi g 10).iV])) fun cg g=>(bif (aG (gi g 3).rZ.length (gi g 3).rZ.length)&&true then some ((none:Option Nat),[G.l (gi g 0).rZ,.l (gi g 1).rZ,.l (gi g 2).rZ,.l (gi g 3).rZ,.s (gi g 4).sV,.s (gi g 5).sV,.i (gi g 6).iV,.i (gi g 7).iV,.i (gi g 8).iV,.i (gi g 9).iV,.i (gi g 10).iV]) else none))
      fun o=>∃ d,o=(none,[.l r0,.l r1,.l r2,.l d,.s a,.s b,.i (i:Int),.i n,.i (i:Int),.i (m:Int),.i ((k:Int)+1)])/\gU a b m i (k+1) d:=fun c hc=>by
     rw[hc];refine aa.tail (akA k1 (by omega) hb O ha v (N O) h1 hi hm) (by(first|rfl|assumption|(simp only[ay,sl]<;>omega))) ?_;rintro _ _ ⟨rfl,d,rfl,I⟩;dsimp +instances only[go_sem];refine aa.tail (Ku (k:=k) (by omega)) (by(first|rfl|assumption|(simp only[ay,sl]<;>omega))) ?_;rintro _ _ ⟨rfl,rfl⟩;dsimp +instances only[go_sem];exact aa.p (aa.some ⟨d,rfl,I⟩)
    have q:(((a.data.toList.getD ((i:Int)-1).toNat 0).toNat:Int)==((b.data.toList.getD ((k:Int)-1).toNat 0).toNat:Int))=decide (a8 a (i-1)=a8 b (k-1)):=by rw[n3,W]; exact yb _ _
    refine aa.p (aa.p (aa.p (aa.p ?_)));refine aa.test (fun g=>M 0 ?_) fun g=>M 1 ?_
    ·rw [q, dT] at g
     unfold gT;rw[iP g];rfl
    ·rw [q, dF] at g
     unfold gT;rw[iN g];rfl
  obtain⟨o,h,d,rfl,I⟩:=step;exact a6.next h (Uy hb ha N h1 hi hm t (k+1) d (by omega) I)
def Uz{a b:BY}{m:Nat}(hb:m=b.size+1)(ha:a.size<=100)(hm:m<=1000):∀(t i:Nat) (r0 r1 r2:LL),i+t=a.size+1->(1<=i->gU a b m (i-1) m r2)->(2<=i->gU a b m (i-2) m r1) ->
  a6 xu [.l r0,.l r1,.l r2,.s a,.s b,.i ((a.size:Nat)+1:Int),.i (i:Int)] (t+1) fun x g=>x=0/\∃ r0 r1 r2,g=[.l r0,.l r1,.l r2,.s b]/\gU a b m a.size m r2
 | 0,i,r0,r1,r2,hi,d,h1=>by
  have e:i-1=a.size:=by omega
  have d:=d (by omega);rw[e]at d;refine a6.stop (x:=0) (aa.toEq ?_) ⟨rfl,r0,r1,r2,rfl,d⟩;unfold xu;dsimp +instances only[go_sem];exact aa.n (aa.some rfl)
 | t+1,i,r0,r1,r2,hi,d,h1=>by
  have step:aa (xu [.l r0,.l r1,.l r2,.s a,.s b,.i ((a.size:Nat)+1:Int),.i (i:Int)]) fun o=>∃ row,o=(none,[.l r1,.l r2,.l row,.s a,.s b,.i ((a.size:Nat)+1:Int),.i ((i:Int)+1)])/\gU a b m i m row:=by
   unfold xu;dsimp +instances only[go_sem];have q:(((b.size:Nat):Int)+1).toNat=m:=by omega
   simp only[q];refine aa.p (aa.p (aa.p ?_));refine aa.loop ((Uy hb (by omega) d h1 (by omega) hm m 0 _ (by omega) (gU.zero a b m i)).to (by omega)) (by(first|rfl|assumption|(simp only[ay,sl]<;>omega))) ?_;rintro _ _ ⟨rfl,row,rfl,k⟩;dsimp +instances only[go_sem];have v:=k.len;exact aa.p (aa.p (aa.some ⟨row,rfl,k⟩))
  obtain⟨o,h,row,rfl,k⟩:=step;exact a6.next h (Uz hb ha hm t (i+1) r1 r2 row (by omega) (fun _=>k) (fun h=>d (by omega)))
def UA(a:BY):preB a a.size=a.data.toList.reverse:=by
 unfold preB;rw[List.take_of_length_le (by rw[iF]; exact aM _)]
def UB{a b:BY}(ha:a.size<=100)(hb:b.size<=100):AM [.s a,.s b]=some [.i (dA a.data.toList b.data.toList:Int)]:=by
 refine aa.toEq ?_;unfold AM;dsimp +instances only[go_sem];refine aa.p ?_;refine aa.loop ((Uz (m:=b.size+1) rfl ha (by omega) (a.size+1) 0 [] [] [] (by omega) (fun h=>by omega) (fun h=>by omega)).to (by omega)) (by(first|rfl|assumption|(simp only[ay,sl]<;>omega))) ?_;rintro _ _ ⟨rfl,r0,r1,r2,rfl,d⟩;dsimp +instances only[go_sem];have k:=d.len;have g:=d.val b.size (by omega) (by omega);have e:b_ a b a.size b.size=dA a.data.toList b.data.toList:=by
  unfold b_;rw[UA,UA,aks]
 rw[e]at g;simp only[g];exact aa.p (aa.some rfl)
def fM(a:BY)(i:Nat):List UInt8:=a.data.toList.drop i
def yd{a:BY}{i:Nat}(h:i<a.size):fM a i=a8 a i::fM a (i+1):=by
 have d:i<a.data.toList.length:=by rw[iF]; exact h
 unfold fM a8;rw[Vu d,cd,bZ d];rfl
def UC(a:BY):fM a a.size=[]:=List.drop_eq_nil_of_le (by rw[iF]; exact aM _)
def ye(a:BY)(i:Nat):(fM a i).length=a.size-i:=by
 unfold fM;rw[List.length_drop,iF];rfl
def cI(a b:BY)(i k:Nat):Nat:=dA (fM a i) (fM b k)
def Bz(a b:BY)(i k:Nat):cI a b i k<=(a.size-i)+(b.size-k):=by
 have:=kO (Al.some (fM a i) (fM b k))
 rwa [ye,ye]at this
def UD{a b:BY}{i k:Nat}(h:i=a.size\/k=b.size)(hi:i<=a.size)(d:k<=b.size):cI a b i k=(a.size-i)+(b.size-k):=by
 unfold cI;rcases h with rfl|rfl
 ·rw [UC, Uv, ye]
  omega
 ·rw [UC, Uw, ye]
  omega
def lv(a b:BY)(i k:Nat):Nat:=min (min (cI a b (i+1) k) (cI a b i (k+1))) (cI a b (i+1) (k+1))+1
def iz(a b:BY)(i k:Nat):Nat:=if a8 a i=a8 b k then min (lv a b i k) (cI a b (i+1) (k+1)) else lv a b i k
def uM(a b:BY)(i k:Nat):Prop:=i+1<a.size/\k+1<b.size/\a8 a i=a8 b (k+1)/\a8 a (i+1)=a8 b k
def akB{a b:BY}{i k:Nat}(hi:i<a.size)(hk:k<b.size):(uM a b i k->cI a b i k=min (iz a b i k) (cI a b (i+2) (k+2)+1))/\(¬ uM a b i k->cI a b i k=iz a b i k):=by
 have e1:fM a i=a8 a i::fM a (i+1):=yd hi;have e2:fM b k=a8 b k::fM b (k+1):=yd hk;have c1:dA (fM a (i+1)) (a8 b k::fM b (k+1))=cI a b (i+1) k:=by unfold cI; rw[e2]
 have c2:dA (a8 a i::fM a (i+1)) (fM b (k+1))=cI a b i (k+1):=by unfold cI; rw[e1]
 have W:dA (fM a (i+1)) (fM b (k+1))=cI a b (i+1) (k+1):=rfl;have c4:∀ q v,fM a (i+1)=a8 b k::q->fM b (k+1)=a8 a i::v->uM a b i k/\dA q v=cI a b (i+2) (k+2):=fun q v h1 y=>by
  have l1:i+1<a.size:=by
   have:=congrArg BS h1;rw[ye,cn]at this;omega
  have l2:k+1<b.size:=by
   have:=congrArg BS y;rw[ye,cn]at this;omega
  rw[yd l1]at h1;rw[yd l2]at y;injection h1 with I d
  injection y with M h6
  exact⟨⟨l1,l2,M.symm,I⟩,by rw[<-d,<-h6]; rfl⟩
 have c5:uM a b i k->∃ q v,fM a (i+1)=a8 b k::q/\fM b (k+1)=a8 a i::v/\dA q v=cI a b (i+2) (k+2):=fun⟨l1,l2,I,d⟩=>⟨fM a (i+2),fM b (k+2),by rw[yd l1,d],by rw[yd l2,I],rfl⟩
 have main:∀ V,V<=lv a b i k->(a8 a i=a8 b k->V<=cI a b (i+1) (k+1))->(uM a b i k->V<=cI a b (i+2) (k+2)+1) ->
   (V=lv a b i k\/(a8 a i=a8 b k/\V=cI a b (i+1) (k+1))\/(uM a b i k/\V=cI a b (i+2) (k+2)+1))->cI a b i k=V:=fun V h1 y I d=>by
  unfold lv at h1 d;show dA (fM a i) (fM b k)=V
  rw[e1,e2];refine Ux (by rw[c1]; omega) (by rw[c2]; omega) (by rw[W]; omega) (fun e=>by rw[W]; exact y e) (fun q v N O=>?_) ?_
  ·obtain ⟨U, g4⟩ := c4 q v N O
   rw[g4];exact I U
  ·rcases d with d | ⟨d, M⟩ | ⟨d, M⟩
   ·rcases ng (cI a b (i+1) k) (cI a b i (k+1))with N|N<;>rcases ng (cI a b (i+1) k) (cI a b (i+1) (k+1))with O|O<;>rcases ng (cI a b i (k+1)) (cI a b (i+1) (k+1))with U|U <;>
     first|exact .inl (by rw[c1]; omega)|exact .inr (.inl (by rw[c2]; omega))|exact .inr (.inr (.inl (by rw[W]; omega)))
   ·exact .inr (.inr (.inr (.inl ⟨d,by rw[W]; exact M⟩)))
   ·obtain ⟨q, v, N, O, U⟩ := c5 d
    exact .inr (.inr (.inr (.inr ⟨q,v,N,O,by rw[U]; exact M⟩)))
 have s1:iz a b i k<=lv a b i k/\(a8 a i=a8 b k->iz a b i k<=cI a b (i+1) (k+1))/\(iz a b i k=lv a b i k\/(a8 a i=a8 b k/\iz a b i k=cI a b (i+1) (k+1))):=by
  unfold iz;by_cases e:a8 a i=a8 b k
  ·rw [iP e]
   refine⟨by omega,fun _=>by omega,?_⟩;rcases ng (lv a b i k) (cI a b (i+1) (k+1))with g|g
   ·exact .inl (by omega)
   ·exact .inr ⟨e,by omega⟩
  ·rw [iN e]
   exact⟨aM _,fun h=>(e h).elim,.inl rfl⟩
 obtain⟨q1,q2,q3⟩:=s1;constructor
 ·intro hT
  refine main _ (by omega) (fun e=>by have:=q2 e; omega) (fun _=>by omega) ?_;rcases ng (iz a b i k) (cI a b (i+2) (k+2)+1)with g|g
  ·have e : min (iz a b i k) (cI a b (i + 2) (k + 2) + 1) = iz a b i k := by omega
   rw[e];exact q3.elim .inl fun h=>.inr (.inl h)
  ·exact .inr (.inr ⟨hT,by omega⟩)
 ·intro hT
  exact main _ q1 q2 (fun h=>(hT h).elim) (q3.elim .inl fun h=>.inr (.inl h))
def qJ(a b:BY)(m:LL):Prop:=∀ i k:Nat,eM [.I,.I] m [.i (i:Int),.i (k:Int)]=true->dv [.I,.I] m [.i (i:Int),.i (k:Int)] [.i 0]=[.i (cI a b i k:Int)]
def UE(i k j l:Nat):bq [.I,.I] [.i (i:Int),.i (k:Int)] [.i (j:Int),.i (l:Int)]=decide (i=j/\k=l):=by
 show (((i:Int)==(j:Int))&&(((k:Int)==(l:Int))&&true))=decide (i=j/\k=l)
 rw[nf];simp only[aK,beq_iff_eq,dT,Bool.and_true];constructor
 ·rintro ⟨h1, d⟩
  exact⟨by omega,by omega⟩
 ·rintro ⟨h1, d⟩
  exact⟨by omega,by omega⟩
def qJ.put{a b:BY}{m:LL}(h:qJ a b m)(i k c:Nat):qJ a b (eG [.I,.I] m [.i (i:Int),.i (k:Int)] [.i (cI a b i k:Int)] c):=fun j l d=>by
 rw[IU,UE]at d;rw[As,UE];by_cases e:j=i/\l=k
 ·rw[dE e,cT,e.1,e.2]
 ·rw [decide_eq_false e] at d |-
  rw[uZ]at d;rw[cF];exact h j l d
def uN(a b:BY)(U:a.size+b.size<=1000):∀(n i k:Nat) (m:LL) (N:Nat),(a.size-i)+(b.size-k)<n->i<=a.size->k<=b.size->qJ a b m ->
  aa (pI n [.s a,.s b,.l m,.i (N:Int),.i (i:Int),.i (k:Int)]) fun g=>∃(m':LL) (clk':Nat),g=[.s a,.s b,.l m',.i (clk':Int),.i (cI a b i k:Int)]/\qJ a b m'
 |0,_,_,_,_,h,_,_,_=>by omega
 | n+1,i,k,m,N,hn,hi,hk,hm=>by
  have hD:=Bz a b i k;show aa (xI (pI n) _) _
  unfold xI;dsimp +instances only[go_sem];have endV:cI a b i k=(a.size-i)+(b.size-k)->aa (some ([.s a,.s b,.l m,.i (((N:Int).toNat:Nat):Int),.i ((((a.size:Nat):Int)-(i:Int))+((b.size:Nat):Int)-(k:Int))]:LG)) fun g=>∃(m':LL) (clk':Nat),g=[.s a,.s b,.l m',.i (clk':Int),.i (cI a b i k:Int)]/\qJ a b m':=fun e=>by
   refine aa.some ⟨m,N,?_,hm⟩;rw[e,aR,show (((a.size:Nat):Int)-(i:Int))+((b.size:Nat):Int)-(k:Int)=(((a.size-i)+(b.size-k):Nat):Int) from by omega]
  refine aa.test (fun h1=>?_) fun h1=>aa.test (fun h2=>?_) fun h2=>?_
  ·have h1 : (i : Int) = ((a.size : Nat) : Int) := by simpa using h1
   refine aa.pos (dH.2 ⟨by omega,by omega⟩) (aa.pos (dH.2 ⟨by omega,by omega⟩) (aa.pos (dH.2 ⟨by omega,by omega⟩) ?_));exact endV (UD (.inl (by omega)) hi hk)
  ·have h2 : (k : Int) = ((b.size : Nat) : Int) := by simpa using h2
   refine aa.pos (dH.2 ⟨by omega,by omega⟩) (aa.pos (dH.2 ⟨by omega,by omega⟩) (aa.pos (dH.2 ⟨by omega,by omega⟩) ?_));exact endV (UD (.inr (by omega)) hi hk)
  ·have h1 : (i : Int) ≠ ((a.size : Nat) : Int) := by simpa using h1
   have h2:(k:Int)≠((b.size:Nat):Int):=by simpa using h2
   have hi1:i<a.size:=by omega
   have hk1:k<b.size:=by omega
   refine aa.test (fun h3=>?_) fun h3=>?_
   ·refine aa.some ⟨m, N, ?_, hm⟩
    rw[hm i k h3,aR];rfl
   ·have d1 := Bz a b (i + 1) k
    have d2:=Bz a b i (k+1);have d3:=Bz a b (i+1) (k+1);have d4:=Bz a b (i+2) (k+2);simp only[aR];refine aa.pos (dH.2 ⟨by omega,by omega⟩) ?_;refine aa.call (uN a b U n (i+1) k m N (by omega) (by omega) (by omega) hm) ?_;rintro _ ⟨m1,c1,rfl,hm1⟩;dsimp +instances only[go_sem];simp only[aR];refine aa.pos (dH.2 ⟨by omega,by omega⟩) ?_;refine aa.call (uN a b U n i (k+1) m1 c1 (by omega) (by omega) (by omega) hm1) ?_;rintro _ ⟨m2,c2,rfl,hm2⟩;dsimp +instances only[go_sem];simp only[aR];refine aa.pos (dH.2 ⟨by omega,by omega⟩) (aa.pos (dH.2 ⟨by omega,by omega⟩) ?_);refine aa.call (uN a b U n (i+1) (k+1) m2 c2 (by omega) (by omega) (by omega) hm2) ?_;rintro _ ⟨V,W,rfl,O⟩;dsimp +instances only[go_sem];have hV0:(if (cI a b (i+1) (k+1):Int)<(if (cI a b i (k+1):Int)<(cI a b (i+1) k:Int) then (cI a b i (k+1):Int) else (cI a b (i+1) k:Int)) then (cI a b (i+1) (k+1):Int) else (if (cI a b i (k+1):Int)<(cI a b (i+1) k:Int) then (cI a b i (k+1):Int) else (cI a b (i+1) k:Int)))+1=(lv a b i k:Int):=by
     unfold lv;split<;>split<;>omega
    have hs0:lv a b i k<=3000:=by
     unfold lv;omega
    simp only[aR,hV0];obtain⟨st1,st2⟩:=akB hi1 hk1;have v:∀(mm:LL) (cc:Nat),qJ a b mm->¬ uM a b i k->aa (some ([.s a,.s b,.l (eG [.I,.I] mm [.i (i:Int),.i (k:Int)] [.i (iz a b i k:Int)] cc),.i (dL [.I,.I] mm [.i (i:Int),.i (k:Int)] cc:Int),.i (iz a b i k:Int)]:LG)) fun g=>∃(m':LL) (clk':Nat),g=[.s a,.s b,.l m',.i (clk':Int),.i (cI a b i k:Int)]/\qJ a b m':=fun mm cc hmm hno=>by
     rw[<-st2 hno];exact aa.some ⟨_,_,rfl,hmm.put i k cc⟩
    have hs1:iz a b i k<=3000:=by
     unfold iz;split<;>omega
    have kk1:((k:Int)+1).toNat=k+1:=by omega
    have ii1:((i:Int)+1).toNat=i+1:=by omega
    have q1:(((a.data.toList.getD i 0).toNat:Int)==((b.data.toList.getD k 0).toNat:Int))=decide (a8 a i=a8 b k):=yb _ _;have q2:(((a.data.toList.getD i 0).toNat:Int)==((b.data.toList.getD ((k:Int)+1).toNat 0).toNat:Int))=decide (a8 a i=a8 b (k+1)):=by rw[kk1]; exact yb _ _
    have q3:(((a.data.toList.getD ((i:Int)+1).toNat 0).toNat:Int)==((b.data.toList.getD k 0).toNat:Int))=decide (a8 a (i+1)=a8 b k):=by rw[ii1]; exact yb _ _
    rw[q1];refine aa.pos (dH.2 ⟨by omega,by omega⟩) (aa.p (aa.p ?_));refine aa.test (fun g=>?_) fun g=>?_
    ·rw [dT] at g
     refine aa.pos (dH.2 ⟨by omega,by omega⟩) (aa.pos (dH.2 ⟨by omega,by omega⟩) ?_);refine aa.call (uN a b U n (i+1) (k+1) V W (by omega) (by omega) (by omega) O) ?_;rintro _ ⟨m4,c4,rfl,hm4⟩;dsimp +instances only[go_sem];have hV1:(if (cI a b (i+1) (k+1):Int)<(lv a b i k:Int) then (cI a b (i+1) (k+1):Int) else (lv a b i k:Int))=(iz a b i k:Int):=by
      unfold iz;rw[iP g];split<;>omega
     simp only[aR,hV1];rw[q2,q3];refine aa.pos (dH.2 ⟨by omega,by omega⟩) ?_;refine aa.test (fun y=>?_) fun y=>v m4 c4 hm4 fun h=>by
      rw[cK,dF]at y;have:=h.1;omega
     rw[cK,dT]at y;refine aa.pos (dH.2 ⟨by omega,by omega⟩) ?_;refine aa.test (fun M=>?_) fun M=>v m4 c4 hm4 fun h=>by
      rw[cK,dF]at M;have:=h.2.1;omega
     rw[cK,dT]at M;refine aa.p (aa.pos (dH.2 ⟨by omega,by omega⟩) (aa.p ?_));refine aa.test (fun d=>?_) fun d=>v m4 c4 hm4 fun h=>by
      rw[dF]at d;exact d h.2.2.1
     rw[dT]at d;refine aa.pos (dH.2 ⟨by omega,by omega⟩) (aa.p (aa.p ?_));refine aa.test (fun q=>?_) fun q=>v m4 c4 hm4 fun h=>by
      rw[dF]at q;exact q h.2.2.2
     rw[dT]at q;refine aa.pos (dH.2 ⟨by omega,by omega⟩) (aa.pos (dH.2 ⟨by omega,by omega⟩) ?_);refine aa.call (uN a b U n (i+2) (k+2) m4 c4 (by omega) (by omega) (by omega) hm4) ?_;rintro _ ⟨m5,c5,rfl,hm5⟩;dsimp +instances only[go_sem];have hV2:(if (cI a b (i+2) (k+2):Int)+1<(iz a b i k:Int) then (cI a b (i+2) (k+2):Int)+1 else (iz a b i k:Int))=(cI a b i k:Int):=by
      rw[st1 ⟨by omega,by omega,d,q⟩];split<;>omega
     simp only[aR,hV2];refine aa.pos (dH.2 ⟨by omega,by omega⟩) ?_;exact aa.some ⟨_,_,rfl,hm5.put i k c5⟩
    ·rw [dF] at g
     have hV1:lv a b i k=iz a b i k:=by
      unfold iz;rw[iN g]
     rw[hV1];rw[q2,q3];refine aa.pos (dH.2 ⟨by omega,by omega⟩) ?_;refine aa.test (fun y=>?_) fun y=>v V W O fun h=>by
      rw[cK,dF]at y;have:=h.1;omega
     rw[cK,dT]at y;refine aa.pos (dH.2 ⟨by omega,by omega⟩) ?_;refine aa.test (fun M=>?_) fun M=>v V W O fun h=>by
      rw[cK,dF]at M;have:=h.2.1;omega
     rw[cK,dT]at M;refine aa.p (aa.pos (dH.2 ⟨by omega,by omega⟩) (aa.p ?_));refine aa.test (fun d=>?_) fun d=>v V W O fun h=>by
      rw[dF]at d;exact d h.2.2.1
     rw[dT]at d;refine aa.pos (dH.2 ⟨by omega,by omega⟩) (aa.p (aa.p ?_));refine aa.test (fun q=>?_) fun q=>v V W O fun h=>by
      rw[dF]at q;exact q h.2.2.2
     rw[dT]at q;refine aa.pos (dH.2 ⟨by omega,by omega⟩) (aa.pos (dH.2 ⟨by omega,by omega⟩) ?_);refine aa.call (uN a b U n (i+2) (k+2) V W (by omega) (by omega) (by omega) O) ?_;rintro _ ⟨m5,c5,rfl,hm5⟩;dsimp +instances only[go_sem];have hV2:(if (cI a b (i+2) (k+2):Int)+1<(iz a b i k:Int) then (cI a b (i+2) (k+2):Int)+1 else (iz a b i k:Int))=(cI a b i k:Int):=by
      rw[st1 ⟨by omega,by omega,d,q⟩];split<;>omega
     simp only[aR,hV2];refine aa.pos (dH.2 ⟨by omega,by omega⟩) ?_;exact aa.some ⟨_,_,rfl,hm5.put i k c5⟩
def UF{a b:BY}(q:a.size+b.size<40):A4 [.s a,.s b]=some [.i (dA a.data.toList b.data.toList:Int)]:=by
 have h:=uN a b (by omega) 40 0 0 [] 0 (by omega) (eV _) (eV _) (fun i k h=>by cases h);refine aa.toEq ?_;unfold A4;dsimp +instances only[go_sem];refine aa.call (P:=fun g=>∃(m':LL) (d:Nat),g=[.s a,.s b,.l m',.i (d:Int),.i (cI a b 0 0:Int)]/\qJ a b m') h ?_;rintro _ ⟨m',v,rfl,_⟩;exact aa.some rfl
def akC(q:LL)(j:Nat):(gi (dv [.I] (iU Bp q ([],0)).1 [.i (j:Int)] [.t false]) 0).bV=q.any fun r=>(gi r 1).iV==(j:Int):=by
 rcases Ke Bp [.i (j:Int)] [.t false] q ([],0)with⟨r,h1,d,g⟩|⟨h1,d⟩
 ·rw [g]
  have d:bq [.I] [.i (j:Int)] [.i (gi r 1).iV]=true:=d;rw[Bo,dT]at d;show true=_
  exact(lG.2 ⟨r,h1,by rw[<-d]; exact beq_self_eq_true _⟩).symm
 ·rw [d]
  show false=_
  refine(VE.2 fun r h=>?_).symm;have g:bq [.I] [.i (j:Int)] [.i (gi r 1).iV]=false:=h1 r h;rw[Bo,dF]at g;simpa using fun e=>g (Eq.symm e)
section
variable (L:LL) (C:Nat->BY) (A:Nat->LL) (ab:Nat) (oF:Int)
def jW(k:Nat)(z:LG)(j:Nat):Bool :=
 ((gi ((A k).getD j []) 3).sV.toList==(C ab).toList)&&(jU oF z ((A k).getD j [])&&(!((bt A C ab oF k).any fun r=>(gi r 1).iV==(j:Int))&&ji ((A k).getD j []) z))
def ef(p:Nat->Bool):Nat->Nat->Option Nat
 |0,_=>none
 |d+1,i=>if p i=true then some i else ef p d (i+1)
def qK(k:Nat)(z:LG):Option Nat:=if 2<dA (C k).data.toList (gi z 3).sV.data.toList then none else ef (jW C A ab oF k z) (A k).length 0
def jX:Option Nat->Int
 |some v=>(v:Int)
 |none => -1
def dh(z:LG):Nat->Nat->List (Nat × Nat)
 |0,_=>[]
 | d+1,i=>if i=ab\/C i=(gi z 3).sV then dh z d (i+1) else match qK C A ab oF i z with
  |some v=>(i,v)::dh z d (i+1)
  |none=>dh z d (i+1)
def lx(u v:Int):List (Nat × Nat)->Int × Int
 | []=>(u,v)
 | [x]=>if u<0 then ((x.1:Int),(x.2:Int)) else (-1,-1)
 |_::_::_=>(-1,-1)
end
section
variable {L:LL} {C:Nat->BY} {A:Nat->LL} (S:lu L C A) {ab:Nat} (ho:ab<L.length) (oF:Int)
include S ho
theorem UG{k:Nat}(V:k<L.length){t m s h:Int}{b c x y:BY}(W:d_ [.i t,.i m,.s b,.s c,.i s,.i h,.s x,.s y]){ks:List Nat}{n:Nat}(hn:iT k ks=some n):∀(d i:Nat),i+d=(A k).length ->
  a6 xv [G.l L,.i (ab:Int),.i oF,.l (bC 0 ks),.l (ks.map fun k=>eJ (bt A C ab oF k)),.i ((ks.length:Nat):Int),.l (bC 0 ks),.l (ks.map fun k=>ew (bt A C ab oF k)),.i ((ks.length:Nat):Int),.i t,.i m,.s b,.s c,.i s,.i h,.s x,.s y,.i (k:Int),.l (A k),.i ((A k).length:Int),.i (i:Int)] (d+1) fun e g =>
   (e=0/\∃ v:Nat,ef (jW C A ab oF k [.i t,.i m,.s b,.s c,.i s,.i h,.s x,.s y]) d i=some v/\g=[G.l L,.i (ab:Int),.i oF,.l (bC 0 ks),.l (ks.map fun k=>eJ (bt A C ab oF k)),.i ((ks.length:Nat):Int),.l (bC 0 ks),.l (ks.map fun k=>ew (bt A C ab oF k)),.i ((ks.length:Nat):Int),.i (v:Int)])\/e=1/\ef (jW C A ab oF k [.i t,.i m,.s b,.s c,.i s,.i h,.s x,.s y]) d i=none/\g=[G.l L,.i (ab:Int),.i oF,.l (bC 0 ks),.l (ks.map fun k=>eJ (bt A C ab oF k)),.i ((ks.length:Nat):Int),.l (bC 0 ks),.l (ks.map fun k=>ew (bt A C ab oF k)),.i ((ks.length:Nat):Int)]
 | 0,i,hi=>by
  refine a6.stop (x:=1) (aa.toEq ?_) (.inr ⟨rfl,rfl,rfl⟩);unfold xv;dsimp +instances only[go_sem];refine aa.n (aa.some ?_);simp only[aR]
 | d+1,i,hi=>by
  have hna:=S.na k V;have ih:=UG V W hn d (i+1) (by omega);obtain⟨hz,hzs⟩:=S.mem (i:=k) (j:=i) V (by omega);have step:aa (xv [G.l L,.i (ab:Int),.i oF,.l (bC 0 ks),.l (ks.map fun k=>eJ (bt A C ab oF k)),.i ((ks.length:Nat):Int),.l (bC 0 ks),.l (ks.map fun k=>ew (bt A C ab oF k)),.i ((ks.length:Nat):Int),.i t,.i m,.s b,.s c,.i s,.i h,.s x,.s y,.i (k:Int),.l (A k),.i ((A k).length:Int),.i (i:Int)]) fun o =>
    (jW C A ab oF k [.i t,.i m,.s b,.s c,.i s,.i h,.s x,.s y] i=true/\o=(some 0,[G.l L,.i (ab:Int),.i oF,.l (bC 0 ks),.l (ks.map fun k=>eJ (bt A C ab oF k)),.i ((ks.length:Nat):Int),.l (bC 0 ks),.l (ks.map fun k=>ew (bt A C ab oF k)),.i ((ks.length:Nat):Int),.i (i:Int)]))\/(jW C A ab oF k [.i t,.i m,.s b,.s c,.i s,.i h,.s x,.s y] i=false/\o=(none,[G.l L,.i (ab:Int),.i oF,.l (bC 0 ks),.l (ks.map fun k=>eJ (bt A C ab oF k)),.i ((ks.length:Nat):Int),.l (bC 0 ks),.l (ks.map fun k=>ew (bt A C ab oF k)),.i ((ks.length:Nat):Int),.i t,.i m,.s b,.s c,.i s,.i h,.s x,.s y,.i (k:Int),.l (A k),.i ((A k).length:Int),.i ((i:Int)+1)])):=by
   unfold xv;dsimp +instances only[go_sem];have hnl:=(Fs hn).1;have hin:oI (ks.map fun k=>ew (bt A C ab oF k)) (some n)=true:=by
    show Nat.blt n (ks.map fun k=>ew (bt A C ab oF k)).length=true
    rw[c8];simpa using hnl
   have hat:(gi (lh (ks.map fun k=>ew (bt A C ab oF k)) (some n)) 0).rZ=(iU Bp (bt A C ab oF k) ([],0)).1:=by
    rw[TS (fun k=>ew (bt A C ab oF k)) hn];rfl
   simp only[aR,Ft,hn,hz.1,hat,akC,S.get ab ho];dsimp +instances only[go_sem];refine aa.p (aa.p (aa.p ?_));have out:jW C A ab oF k [.i t,.i m,.s b,.s c,.i s,.i h,.s x,.s y] i=false->aa (bif ay ((i:Int)+1) then some ((none:Option Nat),[G.l L,.i (ab:Int),.i oF,.l (bC 0 ks),.l (ks.map fun k=>eJ (bt A C ab oF k)),.i ((ks.length:Nat):Int),.l (bC 0 ks),.l (ks.map fun k=>ew (bt A C ab oF k)),.i ((ks.length:Nat):Int),.i t,.i m,.s b,.s c,.i s,.i h,.s x,.s y,.i (k:Int),.l (A k),.i ((A k).length:Int),.i ((i:Int)+1)]) else none) fun o =>
    (jW C A ab oF k [.i t,.i m,.s b,.s c,.i s,.i h,.s x,.s y] i=true/\o=(some 0,[G.l L,.i (ab:Int),.i oF,.l (bC 0 ks),.l (ks.map fun k=>eJ (bt A C ab oF k)),.i ((ks.length:Nat):Int),.l (bC 0 ks),.l (ks.map fun k=>ew (bt A C ab oF k)),.i ((ks.length:Nat):Int),.i (i:Int)]))\/(jW C A ab oF k [.i t,.i m,.s b,.s c,.i s,.i h,.s x,.s y] i=false/\o=(none,[G.l L,.i (ab:Int),.i oF,.l (bC 0 ks),.l (ks.map fun k=>eJ (bt A C ab oF k)),.i ((ks.length:Nat):Int),.l (bC 0 ks),.l (ks.map fun k=>ew (bt A C ab oF k)),.i ((ks.length:Nat):Int),.i t,.i m,.s b,.s c,.i s,.i h,.s x,.s y,.i (k:Int),.l (A k),.i ((A k).length:Int),.i ((i:Int)+1)])):=fun O=>aa.p (aa.some (.inr ⟨O,rfl⟩))
   have N:jW C A ab oF k [.i t,.i m,.s b,.s c,.i s,.i h,.s x,.s y] i=(((gi ((A k).getD i []) 3).sV.toList==(C ab).toList)&&(jU oF [.i t,.i m,.s b,.s c,.i s,.i h,.s x,.s y] ((A k).getD i [])&&(!((bt A C ab oF k).any fun r=>(gi r 1).iV==(i:Int))&&ji ((A k).getD i []) [.i t,.i m,.s b,.s c,.i s,.i h,.s x,.s y]))):=rfl;refine aa.test (fun M=>?_) fun M=>out (by rw[N,M]; rfl);refine aa.cE (Fg oF W hz) ?_;refine aa.test (fun q=>?_) fun q=>out (by
    have q:jU oF [.i t,.i m,.s b,.s c,.i s,.i h,.s x,.s y] ((A k).getD i [])=false:=q;rw[N,M,q];rfl)
   have q:jU oF [.i t,.i m,.s b,.s c,.i s,.i h,.s x,.s y] ((A k).getD i [])=true:=q;refine aa.pos rfl (aa.pos hin (aa.test (fun U=>?_) fun U=>out (by rw[N,M,q,U]; rfl)));refine aa.cE (TR _ _) ?_;refine aa.test (fun I=>?_) fun I=>out (by
    have I:ji ((A k).getD i []) [.i t,.i m,.s b,.s c,.i s,.i h,.s x,.s y]=false:=I;rw[N,M,q,U,I];rfl)
   have I:ji ((A k).getD i []) [.i t,.i m,.s b,.s c,.i s,.i h,.s x,.s y]=true:=I;exact aa.some (.inl ⟨by rw[N,M,q,U,I]; rfl,rfl⟩)
  obtain⟨o,h,⟨O,rfl⟩|⟨O,rfl⟩⟩:=step
  ·exact a6.stop h (.inl ⟨rfl,i,by rw[ef,iP O],rfl⟩)
  ·refine a6.next h ?_
   rw[ef,iN (by rw[O]; simp)];exact ih
theorem akD{k:Nat}(q:k<L.length){t m s h:Int}{b c x y:BY}(N:d_ [.i t,.i m,.s b,.s c,.i s,.i h,.s x,.s y])(bT:c.size<=100)(ks:List Nat) :
  aa (Eu [G.l L,.i (ab:Int),.i oF,.l (bC 0 ks),.l (ks.map fun k=>eJ (bt A C ab oF k)),.i ((ks.length:Nat):Int),.l (bC 0 ks),.l (ks.map fun k=>ew (bt A C ab oF k)),.i ((ks.length:Nat):Int),.l [[.i t,.i m,.s b,.s c,.i s,.i h,.s x,.s y]],.i (k:Int)]) fun g=>∃ d:List Nat,g=[G.l L,.i (ab:Int),.i oF,.l (bC 0 d),.l (d.map fun k=>eJ (bt A C ab oF k)),.i ((d.length:Nat):Int),.l (bC 0 d),.l (d.map fun k=>ew (bt A C ab oF k)),.i ((d.length:Nat):Int),.i (jX (qK C A ab oF k [.i t,.i m,.s b,.s c,.i s,.i h,.s x,.s y]))]:=by
 have O:=S.na k q;unfold Eu;dsimp +instances only[go_sem];simp only[aR,S.get k q];refine aa.p ?_;refine aa.call (P:=fun g=>g=[.i (dA (C k).data.toList c.data.toList:Int)]) (aa.eq (UB (S.cs k q) bT)) ?_;rintro _ rfl;dsimp +instances only[go_sem];refine aa.test (fun I=>?_) fun I=>?_
 ·rw [cK, dT] at I
  refine aa.some ⟨ks,?_⟩;have e:qK C A ab oF k [.i t,.i m,.s b,.s c,.i s,.i h,.s x,.s y]=none:=iP (show 2<dA (C k).data.toList c.data.toList by omega);rw[e];rfl
 ·rw [cK, dF] at I
  have e:qK C A ab oF k [.i t,.i m,.s b,.s c,.i s,.i h,.s x,.s y]=ef (jW C A ab oF k [.i t,.i m,.s b,.s c,.i s,.i h,.s x,.s y]) (A k).length 0:=iN (show ¬ 2<dA (C k).data.toList c.data.toList by omega);rw[e];refine aa.cE (TQ S ho oF q ks) ?_;dsimp +instances only[go_sem];simp only[aR,S.get k q];refine aa.p ?_;obtain⟨n,hn⟩:=TO k ks;refine aa.loop ((UG S ho oF q N hn (A k).length 0 (by omega)).to (by omega)) rfl ?_;rintro _ _ (⟨rfl,v,M,rfl⟩|⟨rfl,M,rfl⟩)
  ·(dsimp +instances only [go_sem])
   simp only[aR];rw[M];exact aa.pos rfl (aa.some ⟨mh k ks,rfl⟩)
  ·(dsimp +instances only [go_sem])
   simp only[aR];rw[M];exact aa.neg rfl (aa.some ⟨mh k ks,rfl⟩)
theorem UH{t m s h:Int}{b c x y:BY}(hc:d_ [.i t,.i m,.s b,.s c,.i s,.i h,.s x,.s y])(bT:c.size<=100):∀(d i:Nat) (ks:List Nat) (u v:Int),i+d=L.length -> -1<=u ->
  a6 xw [G.l L,.i (ab:Int),.i oF,.l (bC 0 ks),.l (ks.map fun k=>eJ (bt A C ab oF k)),.i ((ks.length:Nat):Int),.l (bC 0 ks),.l (ks.map fun k=>ew (bt A C ab oF k)),.i ((ks.length:Nat):Int),.i t,.i m,.s b,.s c,.i s,.i h,.s x,.s y,.i u,.i v,.l L,.i (L.length:Int),.i (i:Int)] (d+1) fun e g =>
   (e=0\/e=1)/\∃ I:List Nat,g=[G.l L,.i (ab:Int),.i oF,.l (bC 0 I),.l (I.map fun k=>eJ (bt A C ab oF k)),.i ((I.length:Nat):Int),.l (bC 0 I),.l (I.map fun k=>ew (bt A C ab oF k)),.i ((I.length:Nat):Int),.i (lx u v (dh C A ab oF [.i t,.i m,.s b,.s c,.i s,.i h,.s x,.s y] d i)).1,.i (lx u v (dh C A ab oF [.i t,.i m,.s b,.s c,.i s,.i h,.s x,.s y] d i)).2]
 | 0,i,ks,u,v,hi,V=>by
  refine a6.stop (x:=1) (aa.toEq ?_) ⟨.inr rfl,ks,rfl⟩;unfold xw;dsimp +instances only[go_sem];refine aa.n (aa.some ?_);simp only[aR];rfl
 | d+1,i,ks,u,v,hi,V=>by
  have hn:=S.n;have hil:i<L.length:=by omega
  have step:aa (xw [G.l L,.i (ab:Int),.i oF,.l (bC 0 ks),.l (ks.map fun k=>eJ (bt A C ab oF k)),.i ((ks.length:Nat):Int),.l (bC 0 ks),.l (ks.map fun k=>ew (bt A C ab oF k)),.i ((ks.length:Nat):Int),.i t,.i m,.s b,.s c,.i s,.i h,.s x,.s y,.i u,.i v,.l L,.i (L.length:Int),.i (i:Int)]) fun o =>
    (∃ I : List Nat, 0 <= u /\ (∃ w q, dh C A ab oF [.i t, .i m, .s b, .s c, .i s, .i h, .s x, .s y] (d + 1) i = (i, w) :: q) /\ o = (some 0, [G.l L, .i (ab : Int), .i oF, .l (bC 0 I), .l (I.map fun k => eJ (bt A C ab oF k)), .i ((I.length : Nat) : Int), .l (bC 0 I), .l (I.map fun k => ew (bt A C ab oF k)), .i ((I.length : Nat) : Int), .i (-1), .i (-1)])) \/
     ∃(I:List Nat) (U W:Int),-1<=U/\lx u v (dh C A ab oF [.i t,.i m,.s b,.s c,.i s,.i h,.s x,.s y] (d+1) i)=lx U W (dh C A ab oF [.i t,.i m,.s b,.s c,.i s,.i h,.s x,.s y] d (i+1))/\o=(none,[G.l L,.i (ab:Int),.i oF,.l (bC 0 I),.l (I.map fun k=>eJ (bt A C ab oF k)),.i ((I.length:Nat):Int),.l (bC 0 I),.l (I.map fun k=>ew (bt A C ab oF k)),.i ((I.length:Nat):Int),.i t,.i m,.s b,.s c,.i s,.i h,.s x,.s y,.i U,.i W,.l L,.i (L.length:Int),.i ((i:Int)+1)]):=by
   unfold xw;dsimp +instances only[go_sem];simp only[aR,S.get i hil];refine aa.p (aa.p ?_);refine aa.test (fun h1=>?_) fun h1=>?_
   ·have h1 : (i : Int) = (ab : Int) := by simpa using h1
    have e:dh C A ab oF [.i t,.i m,.s b,.s c,.i s,.i h,.s x,.s y] (d+1) i=dh C A ab oF [.i t,.i m,.s b,.s c,.i s,.i h,.s x,.s y] d (i+1):=by rw[dh,iP (.inl (by omega))]
    exact aa.p (aa.some (.inr ⟨ks,u,v,V,by rw[e],rfl⟩))
   have h1:(i:Int)≠(ab:Int):=by simpa using h1
   refine aa.test (fun M=>?_) fun M=>?_
   ·have M : ((C i).toList == c.toList) = true := M
    rw[ls,dT]at M;have e:dh C A ab oF [.i t,.i m,.s b,.s c,.i s,.i h,.s x,.s y] (d+1) i=dh C A ab oF [.i t,.i m,.s b,.s c,.i s,.i h,.s x,.s y] d (i+1):=by rw[dh,iP (.inr M)]
    exact aa.p (aa.some (.inr ⟨ks,u,v,V,by rw[e],rfl⟩))
   have M:((C i).toList==c.toList)=false:=M;rw[ls,dF]at M;have hno:¬ (i=ab\/C i=c):=by
    rintro(N|N)
    ·omega
    ·exact M N
   have O:dh C A ab oF [.i t,.i m,.s b,.s c,.i s,.i h,.s x,.s y] (d+1) i=(match qK C A ab oF i [.i t,.i m,.s b,.s c,.i s,.i h,.s x,.s y]with
    |some v=>(i,v)::dh C A ab oF [.i t,.i m,.s b,.s c,.i s,.i h,.s x,.s y] d (i+1)
    |none=>dh C A ab oF [.i t,.i m,.s b,.s c,.i s,.i h,.s x,.s y] d (i+1)):=by
    rw[dh];exact iN hno
   refine aa.call (akD S ho oF hil hc bT ks) ?_;rintro _ ⟨I,rfl⟩;dsimp +instances only[go_sem];simp only[aR];cases ho2:qK C A ab oF i [.i t,.i m,.s b,.s c,.i s,.i h,.s x,.s y]with
   | none =>
    rw[ho2]at O;refine aa.neg rfl (aa.p (aa.some (.inr ⟨I,u,v,V,by rw[O],rfl⟩)))
   | some w =>
    rw[ho2]at O;refine aa.pos (by rw[eX]; exact dE (by show (0:Int)<=(w:Int); omega)) ?_;refine aa.test (fun N=>?_) fun N=>?_
    ·rw [eX, dT] at N
     exact aa.some (.inl ⟨I,N,⟨w,_,O⟩,rfl⟩)
    ·rw [eX, dF] at N
     refine aa.p (aa.some (.inr ⟨I,(i:Int),(w:Int),by omega,?_,rfl⟩));rw[O];show lx u v ((i,w)::dh C A ab oF [.i t,.i m,.s b,.s c,.i s,.i h,.s x,.s y] d (i+1))=lx (i:Int) (w:Int) (dh C A ab oF [.i t,.i m,.s b,.s c,.i s,.i h,.s x,.s y] d (i+1))
     cases dh C A ab oF [.i t,.i m,.s b,.s c,.i s,.i h,.s x,.s y] d (i+1)with
     |nil=>exact iP (by omega)
     | cons y q =>
      cases q with
      | nil =>
       show ((-1:Int),(-1:Int))=if (i:Int)<0 then ((y.1:Int),(y.2:Int)) else (-1,-1)
       rw[iN (by omega)]
      |cons y2 q=>rfl
  obtain⟨o,hst,⟨I,hu0,⟨w,q,e⟩,rfl⟩|⟨I,U,W,hu',e,rfl⟩⟩:=step
  ·refine a6.stop (x := 0) hst ⟨.inl rfl, I, ?_⟩
   have:lx u v (dh C A ab oF [.i t,.i m,.s b,.s c,.i s,.i h,.s x,.s y] (d+1) i)=(-1,-1):=by
    rw[e];cases q with
    |nil=>exact iN (by omega)
    |cons y q=>rfl
   rw[this]
  ·refine a6.next hst ?_
   rw[e];exact UH hc bT d (i+1) I U W (by omega) hu'
theorem akE{t m s h:Int}{b c x y:BY}(q:d_ [.i t,.i m,.s b,.s c,.i s,.i h,.s x,.s y])(bT:c.size<=100)(ks:List Nat) :
  aa (sk [G.l L,.i (ab:Int),.i oF,.l (bC 0 ks),.l (ks.map fun k=>eJ (bt A C ab oF k)),.i ((ks.length:Nat):Int),.l (bC 0 ks),.l (ks.map fun k=>ew (bt A C ab oF k)),.i ((ks.length:Nat):Int),.l [[.i t,.i m,.s b,.s c,.i s,.i h,.s x,.s y]]]) fun g=>∃ d:List Nat,g=[G.l L,.i (ab:Int),.i oF,.l (bC 0 d),.l (d.map fun k=>eJ (bt A C ab oF k)),.i ((d.length:Nat):Int),.l (bC 0 d),.l (d.map fun k=>ew (bt A C ab oF k)),.i ((d.length:Nat):Int),.i (lx (-1) 0 (dh C A ab oF [.i t,.i m,.s b,.s c,.i s,.i h,.s x,.s y] L.length 0)).1,.i (lx (-1) 0 (dh C A ab oF [.i t,.i m,.s b,.s c,.i s,.i h,.s x,.s y] L.length 0)).2]:=by
 have hn:=S.n;unfold sk;dsimp +instances only[go_sem];simp only[aR];refine aa.loop ((UH S ho oF q bT L.length 0 ks (-1) 0 (by omega) (by omega)).to (by omega)) rfl ?_;rintro _ _ ⟨rfl|rfl,d,rfl⟩
 ·(dsimp +instances only [go_sem])
  simp only[aR];exact aa.pos rfl (aa.some ⟨d,rfl⟩)
 ·(dsimp +instances only [go_sem])
  simp only[aR];exact aa.neg rfl (aa.some ⟨d,rfl⟩)
end
def UI{p:Nat->Bool}:∀{d i:Nat},(∀ j,i<=j->j<i+d->p j=false)->ef p d i=none
 |0,_,_=>rfl
 | d+1,i,h=>by
  rw[ef,iN (by rw[h i (aM _) (by omega)]; simp)];exact UI fun j h1 g=>h j (by omega) (by omega)
def UJ{p:Nat->Bool}{k:Nat}:∀{d i:Nat},i<=k->k<i+d->p k=true->(∀ j,i<=j->j<k->p j=false)->ef p d i=some k
 |0,i,h1,q,_,_=>by omega
 | d+1,i,h1,q,g,h=>by
  rw[ef];by_cases e:i=k
  ·subst e
   rw[iP g]
  ·rw [iN (by rw [h i (aM _) (by omega)]; simp)]
   exact UJ (by omega) (by omega) g fun j y v=>h j (by omega) v
def uO{p:Nat->Bool}{k:Nat}:∀{d i:Nat},ef p d i=some k->i<=k/\k<i+d/\p k=true
 |0,_,h=>by cases h
 | d+1,i,h=>by
  rw[ef]at h;split at h
  ·rename_i g
   cases h;exact⟨aM _,by omega,g⟩
  ·obtain ⟨h1, v, q⟩ := uO h
   exact⟨by omega,by omega,q⟩
section
variable (L:LL) (C:Nat->BY) (A:Nat->LL) (ab:Nat) (oF:Int)
def iD(s:BY):Option Nat:=ef (fun k=>decide (C k=s)) L.length 0
def pP(k i:Nat):Option Nat:=((bt A C ab oF k).find? fun r=>(gi r 0).iV==(i:Int)).map fun r=>(gi r 1).iV.toNat
def nV(i:Nat)(b:Bool):LG:=match dh C A ab oF ((A ab).getD i []) L.length 0 with
 | [x]=>[.i (i:Int),.i 2,.s (C x.1),.i (x.2:Int)]
 |_=>[.i (i:Int),.i (bif b then 4 else 5),.s (⟨#[]⟩:BY),.i (-1)]
def fY(i:Nat):LG:=match iD L C (gi ((A ab).getD i []) 3).sV with
 | some k=>match pP C A ab oF k i with
  |some j=>[.i (i:Int),.i (bif ji ((A k).getD j []) ((A ab).getD i []) then 1 else 3),.s (C k),.i (j:Int)]
  |none=>nV L C A ab oF i true
 |none=>nV L C A ab oF i false
def kW(z:LG):LG:=[.s (gi z 3).sV,.s (gi z 2).sV,.i (gi z 1).iV]
def kP(i j:Nat):Bool:=bq [.str,.str,.I] (kW ((A ab).getD i [])) (kW ((A ab).getD j []))
def sQ(o:LG):Bool:=((gi o 1).iV==1)||((gi o 1).iV==3)
def kQ(out:LL)(i:Nat):Bool:=out.any fun o=>kP A ab (gi o 0).iV.toNat i&&sQ o
def ch:Nat->LL
 |0=>[]
 |i+1=>ch i++[bif kQ A ab (ch i) i then [.i (i:Int),.i 6,.s (⟨#[]⟩:BY),.i (-1)] else fY L C A ab oF i]
end
section
variable {L:LL} {C:Nat->BY} {A:Nat->LL} (S:lu L C A) {ab:Nat} (ho:ab<L.length) (oF:Int)
include S
theorem pQ{p:Nat}(d:p<L.length){s:BY}(h:C p=s):iD L C s=some p :=
 UJ (eV _) (by omega) (dE h) fun j _ g=>decide_eq_false fun e=>by
  have:=S.inj (by omega) d (e.trans h.symm);omega
omit S in
theorem akF{s:BY}(h:∀ k,k<L.length->C k≠s):iD L C s=none:=UI fun j _ d=>decide_eq_false (h j (by omega))
include ho
theorem UK{k:Nat}(g:k<L.length){i j:Nat}(h:[G.i (i:Int),.i (j:Int)]∈bt A C ab oF k):pP C A ab oF k i=some j:=by
 have v:=Ts (S.two ho g) (C ab) (C k) oF;unfold pP;have key:∀ q:LL,q.Pairwise (fun a b=>(gi a 0).iV<(gi b 0).iV)->[G.i (i:Int),.i (j:Int)]∈q->q.find? (fun r=>(gi r 0).iV==(i:Int))=some [G.i (i:Int),.i (j:Int)]:=by
  intro q
  induction q with
  |nil=>intro _ h; cases h
  | cons r q y =>
   intro I hm;obtain⟨h1,M⟩:=s_.1 I;rcases cq.1 hm with rfl|hm
   ·rw[Vw (by show ((i:Int)==(i:Int))=true; simp)]
   ·have d := h1 _ hm
    have d:(gi r 0).iV<(i:Int):=d;rw[K4 (by simp; omega)];exact y M hm
 rw[key (bt A C ab oF k) v h];show some ((j:Int).toNat)=some j
 rw[aR]
omit S ho in
theorem akG{k i:Nat}(h:∀ r∈bt A C ab oF k,(gi r 0).iV≠(i:Int)):pP C A ab oF k i=none:=by
 unfold pP;rw[List.find?_eq_none.2 fun r d=>by simpa using h r d];rfl
end
section
variable {L:LL} {C:Nat->BY} {A:Nat->LL} (S:lu L C A) {ab:Nat} (ho:ab<L.length) (oF:Int)
include S ho
theorem akH{z:LG}(q:d_ z)(v:(gi z 3).sV.size<=100)(ks:List Nat):aa (sk [G.l L,.i (ab:Int),.i oF,.l (bC 0 ks),.l (ks.map fun k=>eJ (bt A C ab oF k)),.i ((ks.length:Nat):Int),.l (bC 0 ks),.l (ks.map fun k=>ew (bt A C ab oF k)),.i ((ks.length:Nat):Int),.l [z]]) fun g=>∃ d:List Nat,g=[G.l L,.i (ab:Int),.i oF,.l (bC 0 d),.l (d.map fun k=>eJ (bt A C ab oF k)),.i ((d.length:Nat):Int),.l (bC 0 d),.l (d.map fun k=>ew (bt A C ab oF k)),.i ((d.length:Nat):Int),.i (lx (-1) 0 (dh C A ab oF z L.length 0)).1,.i (lx (-1) 0 (dh C A ab oF z L.length 0)).2]:=by
 have y:d_ (aQ [.I,.I,.str,.str,.I,.I,.str,.str] z):=by rw[q.1]; exact q
 have h:aa (sk [G.l L,.i (ab:Int),.i oF,.l (bC 0 ks),.l (ks.map fun k=>eJ (bt A C ab oF k)),.i ((ks.length:Nat):Int),.l (bC 0 ks),.l (ks.map fun k=>ew (bt A C ab oF k)),.i ((ks.length:Nat):Int),.l [aQ [.I,.I,.str,.str,.I,.I,.str,.str] z]]) fun g=>∃ d:List Nat,g=[G.l L,.i (ab:Int),.i oF,.l (bC 0 d),.l (d.map fun k=>eJ (bt A C ab oF k)),.i ((d.length:Nat):Int),.l (bC 0 d),.l (d.map fun k=>ew (bt A C ab oF k)),.i ((d.length:Nat):Int),.i (lx (-1) 0 (dh C A ab oF (aQ [.I,.I,.str,.str,.I,.I,.str,.str] z) L.length 0)).1,.i (lx (-1) 0 (dh C A ab oF (aQ [.I,.I,.str,.str,.I,.I,.str,.str] z) L.length 0)).2]:=akE S ho oF y (by rw[<-q.1]at v; exact v) ks;rw[q.1]at h;exact h
theorem Kv{z:LG}:∀(d i:Nat),i+d=L.length->∀ x∈dh C A ab oF z d i,x.1<L.length
 |0,_,_,_,h=>by cases h
 | d+1,i,hi,x,h=>by
  have g:=Kv (z:=z) d (i+1) (by omega);rw[dh]at h;split at h
  ·exact g x h
  ·split at h
   ·rcases cq.1 h with rfl | h
    ·show i < L.length
     omega
    ·exact g x h
   ·exact g x h
theorem akI{i:Nat}(hi:i<(A ab).length)(ks:List Nat):aa (Ev [G.l L,.i (ab:Int),.i oF,.l (bC 0 ks),.l (ks.map fun k=>eJ (bt A C ab oF k)),.i ((ks.length:Nat):Int),.l (bC 0 ks),.l (ks.map fun k=>ew (bt A C ab oF k)),.i ((ks.length:Nat):Int),.i (i:Int)]) fun g=>∃ d:List Nat,g=[G.l L,.i (ab:Int),.i oF,.l (bC 0 d),.l (d.map fun k=>eJ (bt A C ab oF k)),.i ((d.length:Nat):Int),.l (bC 0 d),.l (d.map fun k=>ew (bt A C ab oF k)),.i ((d.length:Nat):Int),.l [fY L C A ab oF i]]:=by
 obtain⟨v,hzs⟩:=S.mem ho hi;have hna:=S.na ab ho;have hn:=S.n;obtain⟨z,hzd⟩:∃ z,z=(A ab).getD i []:=⟨_,rfl⟩
 have hzm:d_ (aQ [.I,.I,.str,.str,.I,.I,.str,.str] ((A ab).getD i [])):=by rw[v.1]; exact v
 unfold Ev;dsimp +instances only[go_sem];simp only[aR,S.get ab ho];dsimp +instances only[go_sem];refine aa.p (aa.p ?_);refine aa.call (Br S _) ?_;rintro _ ⟨p,b,rfl,hT,hF⟩;dsimp +instances only[go_sem];have V:∀(ks:List Nat) (b:Bool),fY L C A ab oF i=nV L C A ab oF i b->aa (aB (sk [G.l L,.i (ab:Int),.i oF,.l (bC 0 ks),.l (ks.map fun k=>eJ (bt A C ab oF k)),.i ((ks.length:Nat):Int),.l (bC 0 ks),.l (ks.map fun k=>ew (bt A C ab oF k)),.i ((ks.length:Nat):Int),.l [aQ [.I,.I,.str,.str,.I,.I,.str,.str] ((A ab).getD i [])]]) fun g=>(bif bp 0 (gi g 9).iV then (bif (cJ (gi g 9).iV)&&(aO (gi g 9).iV (((gi g 0).rZ.length:Nat):Int)) then some [.l (gi g 0).rZ,.i (gi g 1).iV,.i (gi g 2).iV,.l (gi g 3).rZ,.l (gi g 4).rZ,.i (((gi g 5).iV.toNat:Nat):Int),.l (gi g 6).rZ,.l (gi g 7).rZ,.i (((gi g 8).iV.toNat:Nat):Int),.l [[.i (i:Int),.i 2,.s (gi ((gi g 0).rZ.getD ((gi g 9).iV.toNat) []) 0).sV,.i (gi g 10).iV]]] else none) else (bif b then some [.l (gi g 0).rZ,.i (gi g 1).iV,.i (gi g 2).iV,.l (gi g 3).rZ,.l (gi g 4).rZ,.i (((gi g 5).iV.toNat:Nat):Int),.l (gi g 6).rZ,.l (gi g 7).rZ,.i (((gi g 8).iV.toNat:Nat):Int),.l [[.i (i:Int),.i 4,.s ⟨#[]⟩,.i (-1)]]] else some [.l (gi g 0).rZ,.i (gi g 1).iV,.i (gi g 2).iV,.l (gi g 3).rZ,.l (gi g 4).rZ,.i (((gi g 5).iV.toNat:Nat):Int),.l (gi g 6).rZ,.l (gi g 7).rZ,.i (((gi g 8).iV.toNat:Nat):Int),.l [[.i (i:Int),.i 5,.s ⟨#[]⟩,.i (-1)]]])))
   fun g=>∃ d:List Nat,g=[G.l L,.i (ab:Int),.i oF,.l (bC 0 d),.l (d.map fun k=>eJ (bt A C ab oF k)),.i ((d.length:Nat):Int),.l (bC 0 d),.l (d.map fun k=>ew (bt A C ab oF k)),.i ((d.length:Nat):Int),.l [fY L C A ab oF i]]:=fun ks b M=>by
  rw[M];rw[v.1];refine aa.call (akH S ho oF v hzs ks) ?_;rintro _ ⟨d,rfl⟩;dsimp +instances only[go_sem];simp only[aR];have W:=Kv S ho oF (z:=(A ab).getD i []) L.length 0 (by omega);unfold nV;cases hc:dh C A ab oF ((A ab).getD i []) L.length 0 with
  | nil =>
   refine aa.neg rfl ?_;cases b<;>exact aa.some ⟨d,rfl⟩
  | cons x q =>
   rw[hc]at W;cases q with
   | nil =>
    have hx:=W x cX;have e1:(lx (-1) 0 [x]).1=(x.1:Int):=rfl;have e2:(lx (-1) 0 [x]).2=(x.2:Int):=rfl;rw[e1,e2];refine aa.pos (by rw[eX]; exact dE (by omega)) ?_;simp only[aR,S.get x.1 hx];exact aa.p (aa.some ⟨d,rfl⟩)
   | cons y q =>
    refine aa.neg rfl ?_;cases b<;>exact aa.some ⟨d,rfl⟩
 refine aa.test (fun hb=>?_) fun hb=>?_
 ·obtain ⟨h, N⟩ := hT hb
  have hsk:iD L C (gi ((A ab).getD i []) 3).sV=some p:=pQ S h N;refine aa.cE (TQ S ho oF h ks) ?_;dsimp +instances only[go_sem];obtain⟨n,hn⟩:=TO p ks;simp only[aR,Ft,hn,TS (fun k=>eJ (bt A C ab oF k)) hn];refine aa.pos rfl (aa.pos (ajJ _ hn) ?_);obtain⟨j1,j2⟩:=ajK S ho oF h i;refine aa.test (fun hm=>?_) fun hm=>?_
  ·obtain ⟨j, hj, hjm, hjg⟩ := j1 hm
   have O:=UK S ho oF h hjm;have M:fY L C A ab oF i=[.i (i:Int),.i (bif ji ((A p).getD j []) ((A ab).getD i []) then 1 else 3),.s (C p),.i (j:Int)]:=by
    unfold fY;rw[hsk];simp only[O]
   have hnk:=S.na p h;have hg:dv [.I] (gi (eJ (bt A C ab oF p)) 0).rZ [.i (i:Int)] [.i 0]=[.i (j:Int)]:=hjg;simp only[hg];dsimp +instances only[go_sem];simp only[aR,S.get ab ho,S.get p h];dsimp +instances only[go_sem];obtain⟨hy,hys⟩:=S.mem h hj;simp only[v.1,hy.1];refine aa.p (aa.p ?_);refine aa.cE (TR _ _) ?_;dsimp +instances only[go_sem];refine aa.test (fun U=>?_) fun U=>?_
   ·refine aa.some ⟨mh p ks, ?_⟩
    rw[M,U,N];rfl
   ·refine aa.some ⟨mh p ks, ?_⟩
    rw[M,U,N];rfl
  ·refine V (mh p ks) b ?_
   have O:pP C A ab oF p i=none:=akG oF fun r hr e=>by
    obtain⟨x,y,rfl,_,hy,_⟩:=qH (S.two ho h) hr;have e:(x:Int)=(i:Int):=e;have:x=i:=by omega
    subst this;exact j2 hm y hr
   unfold fY;rw[hsk];simp only[O];rw[hb]
 ·refine V ks b ?_
  unfold fY;rw[akF fun k hk e=>hF hb k hk e,hb]
end
def UL(L:LL)(C:Nat->BY)(A:Nat->LL)(ab:Nat)(oF:Int)(i:Nat)(b:Bool):∃(d:Int) (w:BY) (v:Int),nV L C A ab oF i b=[.i (i:Int),.i d,.s w,.i v]:=by
 unfold nV;split
 ·exact⟨_,_,_,rfl⟩
 ·exact⟨_,_,_,rfl⟩
def FI(L:LL)(C:Nat->BY)(A:Nat->LL)(ab:Nat)(oF:Int)(i:Nat):∃(d:Int) (w:BY) (v:Int),fY L C A ab oF i=[.i (i:Int),.i d,.s w,.i v]:=by
 unfold fY;split
 ·split
  ·exact⟨_,_,_,rfl⟩
  ·exact UL L C A ab oF i true
 ·exact UL L C A ab oF i false
def FJ(A:Nat->LL)(ab:Nat)(out:LL)(i j:Nat)(d:Int)(w:BY)(v:Int):kQ A ab (out++[[.i (i:Int),.i d,.s w,.i v]]) j=(kQ A ab out j||(kP A ab i j&&(d==1||d==3))):=by
 unfold kQ;rw[VF];congr 1;rw[ta,K9,o9];show (kP A ab ((i:Int).toNat) j&&_)=_
 rw[aR];rfl
def UM{A:Nat->LL}{ab:Nat}{out:LL}{i j:Nat}(h:kP A ab i j=true):kQ A ab out i=kQ A ab out j:=by
 unfold kQ;congr 1
 funext o
 congr 1;exact wS h
def sR(A:Nat->LL)(ab:Nat)(seen out:LL):Prop:=∀ j,(gi (dv [.str,.str,.I] seen (kW ((A ab).getD j [])) [.t false]) 0).bV=kQ A ab out j
def sR.put{A:Nat->LL}{ab:Nat}{seen out:LL}(h:sR A ab seen out){i:Nat}(hi:kQ A ab out i=false)(g:Int)(w:BY)(v:Int)(c:Nat){b:Bool}(hb:b=(g==1||g==3)) :
  sR A ab (eG [.str,.str,.I] seen (kW ((A ab).getD i [])) [.t b] c) (out++[[.i (i:Int),.i g,.s w,.i v]]):=fun j=>by
 rw[As,FJ];cases e:bq [.str,.str,.I] (kW ((A ab).getD j [])) (kW ((A ab).getD i []))with
 | true =>
  have d:kP A ab i j=true:=by
   show bq _ _ _=true
   rw[qB];exact e
  rw[cT,d,<-UM d,hi,uZ,jI];exact hb
 | false =>
  have d:kP A ab i j=false:=by
   show bq _ _ _=false
   rw[qB];exact e
  rw[cF,d,BV,o9];exact h j
def sR.two{A:Nat->LL}{ab:Nat}{seen out:LL}(h:sR A ab seen out)(i:Nat)(w:BY)(v:Int):sR A ab seen (out++[[.i (i:Int),.i 6,.s w,.i v]]):=fun j=>by
 rw[FJ,show ((6:Int)==1||(6:Int)==3)=false from rfl,yv,o9];exact h j
def nW(L:LL)(C:Nat->BY)(A:Nat->LL)(ab:Nat)(oF:Int):∀ i,(ch L C A ab oF i).length=i
 |0=>rfl
 |i+1=>by rw[ch,fu,nW L C A ab oF i]; rfl
section
variable {L:LL} {C:Nat->BY} {A:Nat->LL} (S:lu L C A) {ab:Nat} (ho:ab<L.length) (oF:Int)
include S ho
theorem UN{len:Nat}(hlen:len=(A ab).length):∀(d i:Nat) (ks:List Nat) (seen:LL) (y:Nat),i+d=len->sR A ab seen (ch L C A ab oF i) ->
  a6 xy [G.l L,.i (ab:Int),.i oF,.l (bC 0 ks),.l (ks.map fun k=>eJ (bt A C ab oF k)),.i ((ks.length:Nat):Int),.l (bC 0 ks),.l (ks.map fun k=>ew (bt A C ab oF k)),.i ((ks.length:Nat):Int),.l seen,.i (y:Int),.l (ch L C A ab oF i),.l (A ab),.i (len:Int),.i (i:Int)] (d+1) fun e g =>
   e=0/\∃ q:List Nat,g=[G.l L,.i (ab:Int),.i oF,.l (bC 0 q),.l (q.map fun k=>eJ (bt A C ab oF k)),.i ((q.length:Nat):Int),.l (bC 0 q),.l (q.map fun k=>ew (bt A C ab oF k)),.i ((q.length:Nat):Int),.l (ch L C A ab oF len)]
 | 0,i,ks,seen,y,hi,M=>by
  have e:i=len:=by omega
  subst e;refine a6.stop (x:=0) (aa.toEq ?_) ⟨rfl,ks,rfl⟩;unfold xy;dsimp +instances only[go_sem];refine aa.n (aa.p (aa.some ?_));simp only[aR]
 | d+1,i,ks,seen,y,hi,M=>by
  have hna:=S.na ab ho;have hl:=nW L C A ab oF i;have step:aa (xy [G.l L,.i (ab:Int),.i oF,.l (bC 0 ks),.l (ks.map fun k=>eJ (bt A C ab oF k)),.i ((ks.length:Nat):Int),.l (bC 0 ks),.l (ks.map fun k=>ew (bt A C ab oF k)),.i ((ks.length:Nat):Int),.l seen,.i (y:Int),.l (ch L C A ab oF i),.l (A ab),.i (len:Int),.i (i:Int)]) fun o =>
    ∃(q:List Nat) (O:LL) (V:Nat),o=(none,[G.l L,.i (ab:Int),.i oF,.l (bC 0 q),.l (q.map fun k=>eJ (bt A C ab oF k)),.i ((q.length:Nat):Int),.l (bC 0 q),.l (q.map fun k=>ew (bt A C ab oF k)),.i ((q.length:Nat):Int),.l O,.i (V:Int),.l (ch L C A ab oF (i+1)),.l (A ab),.i (len:Int),.i ((i:Int)+1)])/\sR A ab O (ch L C A ab oF (i+1)):=by
   unfold xy;dsimp +instances only[go_sem];simp only[aR];have ek:([.s (gi ((A ab).getD i []) 3).sV,.s (gi ((A ab).getD i []) 2).sV,.i (gi ((A ab).getD i []) 1).iV]:LG)=kW ((A ab).getD i []):=rfl;simp only[ek,M i];refine aa.p (aa.p ?_);refine aa.test (fun N=>?_) fun N=>?_
   ·have e : ch L C A ab oF (i + 1) = ch L C A ab oF i ++ [[.i (i : Int), .i 6, .s (⟨#[]⟩ : BY), .i (-1)]] := by rw [ch, N]; rfl
    rw[e];exact aa.p (aa.p (aa.p (aa.some ⟨ks,seen,y,rfl,M.two i _ _⟩)))
   ·have e : ch L C A ab oF (i + 1) = ch L C A ab oF i ++ [fY L C A ab oF i] := by rw [ch, N]; rfl
    rw[e];refine aa.call (akI S ho oF (by omega) ks) ?_;rintro _ ⟨q,rfl⟩;obtain⟨U,w,v,W⟩:=FI L C A ab oF i;rw[W];dsimp +instances only[go_sem];simp only[aR];refine aa.test (fun I=>?_) fun I=>?_
    ·refine aa.p (aa.p (aa.p (aa.some ⟨q, _, _, rfl, M.put N U w v y ?_⟩)))
     have I:(U==1)=true:=I;rw[I];rfl
    ·refine aa.p (aa.p (aa.p (aa.some ⟨q, _, _, rfl, M.put N U w v y ?_⟩)))
     have I:(U==1)=false:=I;rw[I];rfl
  obtain⟨o,h,q,O,V,rfl,W⟩:=step;exact a6.next h (UN hlen d (i+1) q O V (by omega) W)
theorem akJ:Ew [.l L,.i (ab:Int),.i oF,.l [],.i 0,.l [],.i 0]=some [.l [],.l [],.l [],.l (ch L C A ab oF (A ab).length)]:=by
 have g:=S.na ab ho;have hn:=S.n;refine aa.toEq ?_;unfold Ew;dsimp +instances only[go_sem];simp only[aR,S.get ab ho];dsimp +instances only[go_sem];refine aa.pos rfl (aa.p ?_);have d:=UN S ho oF (len:=(A ab).length) rfl (A ab).length 0 [] [] 0 (by omega) (fun j=>rfl);refine aa.loop (d.to (by omega)) rfl ?_;rintro _ _ ⟨rfl,h,rfl⟩;dsimp +instances only[go_sem];exact aa.p (aa.some rfl)
end
def akK{L:LL}{s:BY}{oF e:Int}(h:l7 [.l L]=some [.i e])(he:e≠0):kg [.l L,.s s,.i oF]=some [.l [],.i 0,.i e]:=by
 refine aa.toEq ?_;unfold kg;dsimp +instances only[go_sem];refine aa.call (P:=fun g=>g=[.i e]) (aa.eq h) ?_;rintro _ rfl;exact aa.pos (by show (e != 0)=true; simpa using he) (aa.some rfl)
def akL{L:LL}{s:BY}{oF:Int}(h:l7 [.l L]=some [.i 0])(ho:er oF 0 3600000=false):kg [.l L,.s s,.i oF]=some [.l [],.i 0,.i 1]:=by
 refine aa.toEq ?_;unfold kg;dsimp +instances only[go_sem];refine aa.call (P:=fun g=>g=[.i 0]) (aa.eq h) ?_;rintro _ rfl;refine aa.neg rfl ?_;refine aa.call (P:=fun g=>g=[.i 1]) (aa.eq ((Kr oF).trans (by rw[ho]; rfl))) ?_;rintro _ rfl;exact aa.pos rfl (aa.some rfl)
section
variable {L:LL} {C:Nat->BY} {A:Nat->LL} (S:lu L C A)
include S
theorem akM{s:BY}{oF:Int}(h:l7 [.l L]=some [.i 0])(ho:er oF 0 3600000=true)(q:∀ k,k<L.length->C k≠s):kg [.l L,.s s,.i oF]=some [.l [],.i 0,.i 8]:=by
 refine aa.toEq ?_;unfold kg;dsimp +instances only[go_sem];refine aa.call (P:=fun g=>g=[.i 0]) (aa.eq h) ?_;rintro _ rfl;refine aa.neg rfl ?_;refine aa.call (P:=fun g=>g=[.i 0]) (aa.eq ((Kr oF).trans (by rw[ho]; rfl))) ?_;rintro _ rfl;refine aa.neg rfl ?_;refine aa.call (Br S s) ?_;rintro _ ⟨p,b,rfl,d,v⟩;dsimp +instances only[go_sem];cases b with
 |true=>exact(q p (d rfl).1 (d rfl).2).elim
 |false=>exact aa.pos rfl (aa.some rfl)
theorem UO{ab:Nat}(d:ab<L.length){oF:Int}(h:l7 [.l L]=some [.i 0])(ho:er oF 0 3600000=true):kg [.l L,.s (C ab),.i oF]=some [.l (ch L C A ab oF (A ab).length),.i (ab:Int),.i 0]:=by
 refine aa.toEq ?_;unfold kg;dsimp +instances only[go_sem];refine aa.call (P:=fun g=>g=[.i 0]) (aa.eq h) ?_;rintro _ rfl;refine aa.neg rfl ?_;refine aa.call (P:=fun g=>g=[.i 0]) (aa.eq ((Kr oF).trans (by rw[ho]; rfl))) ?_;rintro _ rfl;refine aa.neg rfl ?_;refine aa.call (Br S (C ab)) ?_;rintro _ ⟨p,b,rfl,v,y⟩;dsimp +instances only[go_sem];cases b with
 |false=>exact(y rfl ab d rfl).elim
 | true =>
  obtain⟨k,q⟩:=v rfl;have:=S.inj k d q;subst this;refine aa.neg rfl ?_;refine aa.call (P:=fun g=>g=[.l L,.i (p:Int),.i oF,.l [],.i 0,.l [],.i 0]) (aa.eq rfl) ?_;rintro _ rfl;dsimp +instances only[go_sem];refine aa.call (P:=fun g=>g=[.l [],.l [],.l [],.l (ch L C A p oF (A p).length)]) (aa.eq (akJ S k oF)) ?_;rintro _ rfl;exact aa.some rfl
end
def akN:[G.i ((0:Nat):Int),.i ((0:Nat):Int)]∈bt ed mn 0 4 1:=by
 have hs:=FD.two (i:=0) (k:=1) (by decide) (by decide);show _∈jV (ed 0) (ed 1) (mn 0) (mn 1) 4
 refine(J7 _ _ _ _ _).mem_iff.2 (ajx.2 ⟨(⟨#[98]⟩,1),?_⟩);have g:∀(A:LL) (s:BY),A.length=1->gr A s 0=true->bS (A.getD 0 [])=((⟨#[98]⟩:BY),(1:Int))->c_ A s (⟨#[98]⟩,1)=[0]:=fun A s h1 v N=>by
  have hm:∀ i,i∈c_ A s (⟨#[98]⟩,1)↔i=0:=fun i=>by
   rw[oT];constructor
   ·rintro⟨h,_⟩; omega
   ·rintro rfl; exact⟨by omega,v,N⟩
  have d:=Fk A s (⟨#[98]⟩,1);generalize c_ A s (⟨#[98]⟩,1)=l at hm d
  match l,hm,d with
  | [],hm,_=>exact absurd ((hm 0).2 rfl) (by simp)
  | [a],hm,_=>rw[(hm a).1 (by simp)]
  | a::b::_,hm,d =>
   have h1:=(hm a).1 (by simp);have v:=(hm b).1 (by simp);have:=(s_.1 d).1 b (by simp);omega
 have O:c_ (ed 0) (mn 1) (⟨#[98]⟩,1)=[0]:=g _ _ rfl (by show (gS.toList==gS.toList)=true; rw[beq_self_eq_true]) rfl;have U:c_ (ed 1) (mn 0) (⟨#[98]⟩,1)=[0]:=g _ _ rfl (by show (jF.toList==jF.toList)=true; rw[beq_self_eq_true]) rfl;unfold gj;rw[O,U];refine List.mem_map.2 ⟨(0,0),?_,rfl⟩;unfold Bi;have B:=Ff 1 1 (df (ed 0) (ed 1) [0] [0] 4) (wJ (ed 0) (ed 1) [0] [0]);have q:df (ed 0) (ed 1) [0] [0] 4 0 0=true:=Tr.2 ⟨rfl,rfl,by decide⟩;have I:wJ (ed 0) (ed 1) [0] [0] 0 0=9999999996:=by decide
 show (0,0)∈bA (l_ 1 1 (df (ed 0) (ed 1) [0] [0] 4) (wJ (ed 0) (ed 1) [0] [0])) 1 (df (ed 0) (ed 1) [0] [0] 4) (wJ (ed 0) (ed 1) [0] [0]) 1 0 0
 generalize l_ 1 1 (df (ed 0) (ed 1) [0] [0] 4) (wJ (ed 0) (ed 1) [0] [0])=F at B|-;have s1:=B.step 0 0 (by omega) (by omega);have s2:=B.mP 1 0 (.inl (by omega));have V:=B.mP 0 1 (.inr (by omega));have M:=B.mP 1 1 (.inl (by omega));rw[iP q,s2,V,M,I]at s1;have W:fW (gg F (df (ed 0) (ed 1) [0] [0] 4) (wJ (ed 0) (ed 1) [0] [0]) (F 0 0) 0) 0 (1-0)=some 0:=JW (by omega) (by omega) (uH.2 ⟨q,by rw[I,M,s1]; omega⟩) (fun y _ hy=>by omega);rw[nO W];exact cX
def akO:kg [.l sO,.s jF,.i 4]=some [.l [[.i 0,.i 1,.s gS,.i 0]],.i 0,.i 0]:=by
 have h:=UO FD (ab:=0) (by decide) (oF:=4) akg rfl;have d:fY sO mn ed 0 4 0=[.i 0,.i 1,.s gS,.i 0]:=by
  unfold fY;rw[show (gi ((ed 0).getD 0 []) 3).sV=gS from rfl,pQ FD (p:=1) (s:=gS) (by decide) rfl];simp only[];rw[UK FD (ab:=0) (by decide) 4 (k:=1) (by decide) akN];simp only[];rw[show ji ((ed 1).getD 0 []) ((ed 0).getD 0 [])=true from by kernel_rfl];rfl
 rw[show (ed 0).length=1 from rfl,ch,ch,d]at h;exact h
def UP:Bc []=some [.t true]:=by
 refine aa.toEq ?_;unfold Bc;refine aa.call (P:=fun g=>g=[.l [[.i 0,.i 1,.s gS,.i 0]],.i 0]) ?_ ?_
 ·unfold JJ
  dsimp +instances only[go_sem];refine aa.cE akO ?_;exact aa.some rfl
 ·rintro _ rfl
  exact aa.pos rfl (aa.pos rfl (aa.pos rfl (aa.some rfl)))
def uP{st:LG->Option (Option Nat × LG)}{mk:Nat->LG}{p:Nat->Bool}{out:Nat->LG}{n:Nat} (h:∀ i,i<n->aa (st (mk i)) fun o=>(p i=true/\o=(some 0,out i))\/(p i=false/\o=(none,mk (i+1)))) (q:st (mk n)=some (some 1,[])):∀ d i,i+d=n ->
  a6 st (mk i) (d+1) fun x g=>(x=0/\∃ v,ef p d i=some v/\g=out v)\/(x=1/\ef p d i=none)
 | 0,i,hi=>by
  have:i=n:=by omega
  subst this;exact a6.stop q (.inr ⟨rfl,rfl⟩)
 | d+1,i,hi=>by
  obtain⟨o,y,⟨k,rfl⟩|⟨k,rfl⟩⟩:=h i (by omega)
  ·exact a6.stop y (.inl ⟨rfl,i,by rw[ef,iP k],rfl⟩)
  ·refine a6.next y ?_
   rw[ef,iN (by rw[k]; simp)];exact uP h q d (i+1) (by omega)
def Kw{α:Type}(p:α->Bool)(z:α)(l:List α):(ef (fun j=>p (l.getD j z)) l.length 0).isSome=l.any p:=by
 cases h:ef (fun j=>p (l.getD j z)) l.length 0 with
 | some k =>
  obtain⟨_,h1,q⟩:=uO h;exact(lG.2 ⟨_,iu (z:=z) (by omega),q⟩).symm
 | none =>
  refine(VE.2 fun x v g=>?_).symm;obtain⟨j,y,rfl⟩:=List.getElem_of_mem v;have key:∀(d i:Nat),ef (fun j=>p (l.getD j z)) d i=none->∀ k,i<=k->k<i+d->p (l.getD k z)=false:=by
   intro d
   induction d with
   |zero=>intro i _ k h1 q; omega
   | succ d I =>
    intro i hn k h1 q;rw[ef]at hn;split at hn
    ·cases hn
    ·rename_i g
     by_cases e:k=i
     ·subst e
      simpa using g
     ·exact I (i+1) hn k (by omega) (by omega)
  have:=key l.length 0 h j (eV _) (by omega);rw[cd,bZ y]at this;simp only[m_]at this;rw[this]at g;cases g
def akP(q:LL)(hn:q.length<=100000)(w:Nat)(k:∀ r∈q,aQ [.I,.I] r=r):EZ [.l q,.l [[.i (w:Int)]]]=some [.t (q.any fun r=>(gi r 1).iV==(w:Int))]:=by
 refine aa.toEq ?_;unfold EZ;dsimp +instances only[go_sem];refine aa.call (P:=fun g=>g=[.i (jX (ef (fun j=>(gi (q.getD j []) 1).iV==(w:Int)) q.length 0))]) ?_ ?_
 ·unfold JF
  dsimp +instances only[go_sem];have y:=uP (st:=A5) (mk:=fun i=>[.l q,.l [[.i (w:Int)]],.i (q.length:Int),.i (i:Int)]) (p:=fun j=>(gi (q.getD j []) 1).iV==(w:Int)) (out:=fun i=>[.i (i:Int)]) (n:=q.length) (fun i hi=>by
    unfold A5;dsimp +instances only[go_sem];have he:=k _ (iu (z:=[]) hi);simp only[aR,he];refine aa.p (aa.p ?_);refine aa.call (P:=fun g=>g=[.t ((gi (q.getD i []) 1).iV==(w:Int))]) (aa.eq rfl) ?_;rintro _ rfl;refine aa.test (fun h=>aa.some (.inl ⟨h,rfl⟩)) fun h=>aa.p (aa.some (.inr ⟨h,rfl⟩))) (by
    refine aa.toEq ?_;unfold A5;dsimp +instances only[go_sem];exact aa.n (aa.some rfl)) q.length 0 (by omega)
  refine aa.loop (y.to (by omega)) rfl ?_;rintro x g (⟨rfl,v,d,rfl⟩|⟨rfl,d⟩)
  ·rw [d]
   exact aa.pos rfl (aa.some rfl)
  ·rw [d]
   exact aa.neg rfl (aa.some rfl)
 ·rintro _ rfl
  refine aa.some ?_;rw[<-Kw (fun r=>(gi r 1).iV==(w:Int)) [] q];cases ef (fun j=>(gi (q.getD j []) 1).iV==(w:Int)) q.length 0 with
  |none=>rfl
  | some v =>
   show [G.t (bp 0 (v:Int))]=[.t true]
   rw[eX,dE (by omega)]
def UQ(z w:LG):A3 [.l [z],.l [w]]=some [.t (ji w z)]:=by
 refine aa.toEq ?_;unfold A3 ji;dsimp +instances only[go_sem];rw[show ((gi w 4).iV==(gi z 5).iV)=((gi z 5).iV==(gi w 4).iV) from amS,show ((gi w 6).sV.toList==(gi z 7).sV.toList)=((gi z 7).sV.toList==(gi w 6).sV.toList) from amS];cases (gi z 5).iV==(gi w 4).iV<;>exact aa.some rfl
section
variable {L:LL} {C:Nat->BY} {A:Nat->LL} (R:ml L C A) {ab:Nat} (ho:ab<L.length) {oF:Int} (h0:0<=oF) (h1:oF<=3600000)
include R
theorem yf(s:BY):kK [.l L,.s s]=some [.i (jX (iD L C s))]:=by
 have hn:=R.n;refine aa.toEq ?_;unfold kK;dsimp +instances only[go_sem];refine aa.call (P:=fun g=>g=[.i (jX (iD L C s))]) ?_ ?_
 ·unfold EJ
  dsimp +instances only[go_sem];have q:=uP (st:=sn) (mk:=fun i=>[.l L,.l [[.s s]],.i (L.length:Int),.i (i:Int)]) (p:=fun k=>decide (C k=s)) (out:=fun i=>[.i (i:Int)]) (n:=L.length) (fun i hi=>by
    unfold sn;dsimp +instances only[go_sem];simp only[aR,R.get i hi];refine aa.p (aa.p ?_);refine aa.call (P:=fun g=>g=[.t (decide (C i=s))]) (aa.eq (by rw[<-ls]; rfl)) ?_;rintro _ rfl;refine aa.test (fun h=>aa.some (.inl ⟨h,rfl⟩)) fun h=>aa.p (aa.some (.inr ⟨h,rfl⟩))) (by
    refine aa.toEq ?_;unfold sn;dsimp +instances only[go_sem];exact aa.n (aa.some rfl)) L.length 0 (by omega)
  refine aa.loop (q.to (by omega)) rfl ?_;rintro x g (⟨rfl,v,d,rfl⟩|⟨rfl,d⟩)
  ·have d : iD L C s = some v := d
   rw[d];exact aa.pos rfl (aa.some rfl)
  ·have d : iD L C s = none := d
   rw[d];exact aa.neg rfl (aa.some rfl)
 ·rintro _ rfl
  exact aa.some rfl
theorem R3{i k:Nat}(hi:i<L.length)(d:k<L.length):uL (A i) (A k) :=
 aki (a:=C i) (b:=C k) (R.iv i hi) (R.iv k d) (by have:=R.na i hi; omega) (by have:=R.na k d; omega) (R.fault i hi) (R.fault k d)
include ho
theorem akQ{k:Nat}(d:k<L.length):∀ r∈bt A C ab oF k,aQ [.I,.I] r=r:=fun r g=>by
 obtain⟨x,y,rfl,_⟩:=qH (R3 R ho d).two g;rfl
theorem UR{k:Nat}(d:k<L.length):(bt A C ab oF k).length<=40:=kR (Tt (R3 R ho d).two (C ab) (C k) oF) (R.na ab ho)
theorem US{k:Nat}(U:k<L.length){t m s h:Int}{b c x y:BY}(hc:d_ [.i t,.i m,.s b,.s c,.i s,.i h,.s x,.s y])(i n I:Int)(out:LL)(hout:out.length<=1000):∀(d j:Nat),j+d=(A k).length ->
  a6 xJ [.s (C ab),.l (A ab),.i t,.i m,.s b,.s c,.i s,.i h,.s x,.s y,.l out,.s (C k),.l (A k),.i i,.i oF,.l (bt A C ab oF k),.l L,.i n,.i I,.l (A k),.i ((A k).length:Int),.i (j:Int)] (d+1) fun e g =>
   e=0/\g=[.s (C ab),.l (A ab),.i t,.i m,.s b,.s c,.i s,.i h,.s x,.s y,.l (out++(match ef (jW C A ab oF k [.i t,.i m,.s b,.s c,.i s,.i h,.s x,.s y]) d j with|some v=>[[.i i,.i 2,.s (C k),.i (v:Int)]]|none=>[])),.i i,.i oF,.l L,.i n,.i I]
 | 0,j,hj=>by
  refine a6.stop (x:=0) (aa.toEq ?_) ⟨rfl,rfl⟩;unfold xJ;dsimp +instances only[go_sem];refine aa.n (aa.pos (by simp) (aa.some ?_));show _=(some 0,[G.s (C ab),.l (A ab),.i t,.i m,.s b,.s c,.i s,.i h,.s x,.s y,.l (out++[]),.i i,.i oF,.l L,.i n,.i I])
  rw[da]
 | d+1,j,hj=>by
  have hna:=R.na k U;have ih:=US U hc i n I out hout d (j+1) (by omega);have hz:d_ ((A k).getD j []):=(R3 R ho U).two.hb _ (iu (by omega));have hpl:=UR R ho (oF:=oF) U;have step:aa (xJ [.s (C ab),.l (A ab),.i t,.i m,.s b,.s c,.i s,.i h,.s x,.s y,.l out,.s (C k),.l (A k),.i i,.i oF,.l (bt A C ab oF k),.l L,.i n,.i I,.l (A k),.i ((A k).length:Int),.i (j:Int)]) fun o =>
    (jW C A ab oF k [.i t, .i m, .s b, .s c, .i s, .i h, .s x, .s y] j = true /\ o = (some 0, [.s (C ab), .l (A ab), .i t, .i m, .s b, .s c, .i s, .i h, .s x, .s y, .l (out ++ [[.i i, .i 2, .s (C k), .i (j : Int)]]), .i i, .i oF, .l L, .i n, .i I])) \/
     (jW C A ab oF k [.i t,.i m,.s b,.s c,.i s,.i h,.s x,.s y] j=false/\o=(none,[.s (C ab),.l (A ab),.i t,.i m,.s b,.s c,.i s,.i h,.s x,.s y,.l out,.s (C k),.l (A k),.i i,.i oF,.l (bt A C ab oF k),.l L,.i n,.i I,.l (A k),.i ((A k).length:Int),.i ((j:Int)+1)])):=by
   unfold xJ;dsimp +instances only[go_sem];simp only[aR,hz.1];refine aa.p (aa.p ?_);refine aa.cE (akP _ (by omega) j (akQ R ho U)) ?_;dsimp +instances only[go_sem];have O:jW C A ab oF k [.i t,.i m,.s b,.s c,.i s,.i h,.s x,.s y] j=(((gi ((A k).getD j []) 3).sV.toList==(C ab).toList)&&(jU oF [.i t,.i m,.s b,.s c,.i s,.i h,.s x,.s y] ((A k).getD j [])&&(!((bt A C ab oF k).any fun r=>(gi r 1).iV==(j:Int))&&ji ((A k).getD j []) [.i t,.i m,.s b,.s c,.i s,.i h,.s x,.s y]))):=rfl;refine aa.test (fun N=>?_) fun N=>aa.p (aa.pos (by simp) (aa.some (.inr ⟨by rw[O,N]; rfl,rfl⟩)));refine aa.cE (Kj oF hc hz) ?_;refine aa.test (fun q=>?_) fun q=>aa.p (aa.pos (by simp) (aa.some (.inr ⟨by
    have q:jU oF [.i t,.i m,.s b,.s c,.i s,.i h,.s x,.s y] ((A k).getD j [])=false:=q;rw[O,N,q];rfl,rfl⟩)))
   have q:jU oF [.i t,.i m,.s b,.s c,.i s,.i h,.s x,.s y] ((A k).getD j [])=true:=q;refine aa.test (fun V=>?_) fun V=>aa.p (aa.pos (by simp) (aa.some (.inr ⟨by rw[O,N,q,V]; rfl,rfl⟩)));refine aa.cE (UQ _ _) ?_;refine aa.test (fun M=>?_) fun M=>aa.p (aa.pos (by simp) (aa.some (.inr ⟨by
    have M:ji ((A k).getD j []) [.i t,.i m,.s b,.s c,.i s,.i h,.s x,.s y]=false:=M;rw[O,N,q,V,M];rfl,rfl⟩)))
   have M:ji ((A k).getD j []) [.i t,.i m,.s b,.s c,.i s,.i h,.s x,.s y]=true:=M;exact aa.pos (by rw[i_,jI,dT]; omega) (aa.pos (by simp) (aa.some (.inl ⟨by rw[O,N,q,V,M]; rfl,rfl⟩)))
  obtain⟨o,hst,⟨W,rfl⟩|⟨W,rfl⟩⟩:=step
  ·refine a6.stop hst ⟨rfl, ?_⟩
   rw[ef,iP W]
  ·refine a6.next hst ?_
   rw[ef,iN (by rw[W]; simp)];exact ih
def BA(C:Nat->BY)(i:Int)(x:Nat × Nat):LG:=[.i i,.i 2,.s (C x.1),.i (x.2:Int)]
include h0 h1
theorem Kx{t m s h:Int}{b c x y:BY}(W:d_ [.i t,.i m,.s b,.s c,.i s,.i h,.s x,.s y])(bT:c.size<=20)(hC:∀ k,k<L.length->(C k).size<=12)(i:Int):∀(d k:Nat) (out:LL),k+d=L.length->out.length<=k ->
  a6 oR [.s (C ab),.l (A ab),.i t,.i m,.s b,.s c,.i s,.i h,.s x,.s y,.l out,.i i,.i oF,.l L,.i (L.length:Int),.i (k:Int)] (d+1) fun e g=>e=0/\g=[.l (out++(dh C A ab oF [.i t,.i m,.s b,.s c,.i s,.i h,.s x,.s y] d k).map (BA C i))]
 | 0,k,out,hk,ho'=>by
  refine a6.stop (x:=0) (aa.toEq ?_) ⟨rfl,rfl⟩;unfold oR;dsimp +instances only[go_sem];refine aa.n (aa.pos (by simp) (aa.some ?_));show _=(some 0,[G.l (out++[])])
  rw[da]
 | d+1,k,out,hk,ho'=>by
  have hn:=R.n;have I:k<L.length:=by omega
  have hna:=R.na k I;have skip:dh C A ab oF [.i t,.i m,.s b,.s c,.i s,.i h,.s x,.s y] (d+1) k=dh C A ab oF [.i t,.i m,.s b,.s c,.i s,.i h,.s x,.s y] d (k+1)->oR [.s (C ab),.l (A ab),.i t,.i m,.s b,.s c,.i s,.i h,.s x,.s y,.l out,.i i,.i oF,.l L,.i (L.length:Int),.i (k:Int)]=some (none,[.s (C ab),.l (A ab),.i t,.i m,.s b,.s c,.i s,.i h,.s x,.s y,.l out,.i i,.i oF,.l L,.i (L.length:Int),.i ((k:Int)+1)])->a6 oR [.s (C ab),.l (A ab),.i t,.i m,.s b,.s c,.i s,.i h,.s x,.s y,.l out,.i i,.i oF,.l L,.i (L.length:Int),.i (k:Int)] (d+1+1) fun e g=>e=0/\g=[.l (out++(dh C A ab oF [.i t,.i m,.s b,.s c,.i s,.i h,.s x,.s y] (d+1) k).map (BA C i))]:=fun e N=>by
   rw[e];exact a6.next N (Kx W bT hC i d (k+1) out (by omega) (by omega))
  by_cases O:k=ab
  ·refine skip (by rw [dh, iP (.inl O)]) (aa.toEq ?_)
   unfold oR;dsimp +instances only[go_sem];simp only[aR,R.get k I];dsimp +instances only[go_sem];refine aa.p (aa.p (aa.pos (by rw[ls,O]; simp) ?_));exact aa.p (aa.pos (by simp) (aa.some rfl))
  have V:((C k).toList==(C ab).toList)=false:=by
   rw[ls];exact decide_eq_false fun e=>O (R.jk.inj I ho e)
  by_cases U:C k=c
  ·refine skip (by rw [dh, iP (.inr U)]) (aa.toEq ?_)
   unfold oR;dsimp +instances only[go_sem];simp only[aR,R.get k I];dsimp +instances only[go_sem];refine aa.p (aa.p (aa.neg V (aa.pos (by rw[ls,U]; simp) ?_)));exact aa.p (aa.pos (by simp) (aa.some rfl))
  have g2':((C k).toList==c.toList)=false:=by
   rw[ls];exact decide_eq_false U
  have M:dh C A ab oF [.i t,.i m,.s b,.s c,.i s,.i h,.s x,.s y] (d+1) k=(match qK C A ab oF k [.i t,.i m,.s b,.s c,.i s,.i h,.s x,.s y]with
    |some v=>(k,v)::dh C A ab oF [.i t,.i m,.s b,.s c,.i s,.i h,.s x,.s y] d (k+1)
    |none=>dh C A ab oF [.i t,.i m,.s b,.s c,.i s,.i h,.s x,.s y] d (k+1)):=by
   rw[dh];exact iN (by rintro(h3|h3)<;>first|exact O h3|exact U h3)
  have hsz:=hC k I;have N:=UF (a:=C k) (b:=c) (by omega);by_cases g3:2<dA (C k).data.toList c.data.toList
  ·have e : qK C A ab oF k [.i t, .i m, .s b, .s c, .i s, .i h, .s x, .s y] = none := iP g3
   rw[e]at M;refine skip M (aa.toEq ?_);unfold oR;dsimp +instances only[go_sem];simp only[aR,R.get k I];dsimp +instances only[go_sem];refine aa.p (aa.p (aa.neg V (aa.neg g2' ?_)));refine aa.call (P:=fun g=>g=[.i (dA (C k).data.toList c.data.toList:Int)]) (aa.eq N) ?_;rintro _ rfl;refine aa.pos (by rw[cK]; exact dE (by show (2:Int)<(dA (C k).data.toList c.data.toList:Int); omega)) ?_;exact aa.p (aa.pos (by simp) (aa.some rfl))
  ·have e : qK C A ab oF k [.i t, .i m, .s b, .s c, .i s, .i h, .s x, .s y] = ef (jW C A ab oF k [.i t, .i m, .s b, .s c, .i s, .i h, .s x, .s y]) (A k).length 0 := iN g3
   rw[e]at M;obtain⟨q,hq⟩:∃ q,q=(match ef (jW C A ab oF k [.i t,.i m,.s b,.s c,.i s,.i h,.s x,.s y]) (A k).length 0 with|some v=>[[G.i i,.i 2,.s (C k),.i (v:Int)]]|none=>([]:LL)):=⟨_,rfl⟩
   have hql:q.length<=1:=by
    rw[hq];cases ef (jW C A ab oF k [.i t,.i m,.s b,.s c,.i s,.i h,.s x,.s y]) (A k).length 0<;>simp
   have hcat:(dh C A ab oF [.i t,.i m,.s b,.s c,.i s,.i h,.s x,.s y] (d+1) k).map (BA C i)=q++(dh C A ab oF [.i t,.i m,.s b,.s c,.i s,.i h,.s x,.s y] d (k+1)).map (BA C i):=by
    rw[M,hq];cases ef (jW C A ab oF k [.i t,.i m,.s b,.s c,.i s,.i h,.s x,.s y]) (A k).length 0<;>rfl
   have step:oR [.s (C ab),.l (A ab),.i t,.i m,.s b,.s c,.i s,.i h,.s x,.s y,.l out,.i i,.i oF,.l L,.i (L.length:Int),.i (k:Int)]=some (none,[.s (C ab),.l (A ab),.i t,.i m,.s b,.s c,.i s,.i h,.s x,.s y,.l (out++q),.i i,.i oF,.l L,.i (L.length:Int),.i ((k:Int)+1)]):=by
    refine aa.toEq ?_;unfold oR;dsimp +instances only[go_sem];simp only[aR,R.get k I];dsimp +instances only[go_sem];refine aa.p (aa.p (aa.neg V (aa.neg g2' ?_)));refine aa.call (P:=fun g=>g=[.i (dA (C k).data.toList c.data.toList:Int)]) (aa.eq N) ?_;rintro _ rfl;refine aa.neg (by rw[cK]; exact decide_eq_false (by show ¬ (2:Int)<(dA (C k).data.toList c.data.toList:Int); omega)) ?_;refine aa.call (P:=fun g=>g=[.l (bt A C ab oF k)]) (aa.eq (Uo (R3 R ho I) (C ab) (C k) h1)) ?_;rintro _ rfl;dsimp +instances only[go_sem];refine aa.loop ((US R ho I W i (L.length:Int) (k:Int) out (by omega) (A k).length 0 (by omega)).to (by omega)) (by first|rfl|simp) ?_;rintro e g ⟨rfl,rfl⟩;rw[<-hq];dsimp +instances only[go_sem];exact aa.p (aa.pos (by simp) (aa.some rfl))
   rw[hcat,<-gG];exact a6.next step (Kx W bT hC i d (k+1) (out++q) (by omega) (by rw[fu]; omega))
end
def FL{c:BY}(h:c∈calls):c.size<=12:=by
 have d:calls.all (fun c=>Nat.ble c.size 12)=true:=by kernel_rfl
 simpa using dN.1 d c h
def akR{z:LG}(h:c9 z):(gi z 3).sV∈calls:=by
 obtain⟨t,m,b,c,s,g,x,y,rfl,_,_,_,_,_,d,_⟩:=h;exact d
def akS{z:LG}(d:aQ [.I,.I,.str,.str,.I,.I,.str,.str] z=z):([.i (gi z 0).iV,.i (gi z 1).iV,.s (gi z 2).sV,.s (gi z 3).sV,.i (gi z 4).iV,.i (gi z 5).iV,.s (gi z 6).sV,.s (gi z 7).sV]:LG)=z:=by
 conv=>rhs; rw[<-d]
 cases z with
 |nil=>rfl
 | cons g z=>cases z with
  |nil=>rfl
  | cons h z=>cases z with
   |nil=>rfl
   | cons k z=>cases z with
    |nil=>rfl
    | cons q z=>cases z with
     |nil=>rfl
     | cons v z=>cases z with
      |nil=>rfl
      | cons y z=>cases z with
       |nil=>rfl
       |cons M z=>cases z<;>rfl
section
variable {L:LL} {C:Nat->BY} {A:Nat->LL} (R:ml L C A) {ab:Nat} (ho:ab<L.length) {oF:Int} (h0:0<=oF) (h1:oF<=3600000)
include R ho h0 h1
theorem akT{i:Nat}(hi:i<(A ab).length):A6 [.l L,.l [[.s (C ab),.l (A ab)]],.i (i:Int),.i oF]=some [.l ((dh C A ab oF ((A ab).getD i []) L.length 0).map (BA C (i:Int)))]:=by
 have hn:=R.n;have M:=R.na ab ho;have d:=R.iv ab ho _ (iu (z:=[]) hi);have v:d_ ((A ab).getD i []):=(R3 R ho ho).two.ha _ (iu hi);have he:=akS d.eta;have q:=Kx R ho h0 h1 (t:=(gi ((A ab).getD i []) 0).iV) (m:=(gi ((A ab).getD i []) 1).iV) (b:=(gi ((A ab).getD i []) 2).sV) (c:=(gi ((A ab).getD i []) 3).sV) (s:=(gi ((A ab).getD i []) 4).iV) (h:=(gi ((A ab).getD i []) 5).iV) (x:=(gi ((A ab).getD i []) 6).sV) (y:=(gi ((A ab).getD i []) 7).sV)
  (by rw[he]; exact v) (by have:=FL (akR d); omega) (fun k I=>FL (R.call k I)) (i:Int) L.length 0 [] (by omega) (aM _)
 rw[he]at q;refine aa.toEq ?_;unfold A6;dsimp +instances only[go_sem];simp only[aR];refine aa.p ?_;refine aa.loop (q.to (by omega)) (by first|rfl|simp) ?_;rintro e g ⟨rfl,rfl⟩;dsimp +instances only[go_sem];exact aa.pos (by simp) (aa.some rfl)
omit R ho h0 h1 in
theorem akU(q:LL)(O:q.length<=100000)(I:∀ r∈q,∃ a b:Nat,r=[.i (a:Int),.i (b:Int)])(i:Nat):EY [.l q,.i (i:Int)]=some [.i (jX ((q.find? fun r=>(gi r 0).iV==(i:Int)).map fun r=>(gi r 1).iV.toNat))]:=by
 have key:∀(p:LL),(ef (fun j=>(gi (p.getD j []) 0).iV==(i:Int)) p.length 0).map (fun j=>(gi (p.getD j []) 1).iV.toNat)=(p.find? fun r=>(gi r 0).iV==(i:Int)).map fun r=>(gi r 1).iV.toNat:=by
  have gen:∀(p pre:LL),(ef (fun j=>(gi ((pre++p).getD j []) 0).iV==(i:Int)) p.length pre.length).map (fun j=>(gi ((pre++p).getD j []) 1).iV.toNat)=(p.find? fun r=>(gi r 0).iV==(i:Int)).map fun r=>(gi r 1).iV.toNat:=by
   intro p
   induction p with
   |nil=>intro pre; rfl
   | cons r p d =>
    intro pre;have y:(pre++r::p).getD pre.length []=r:=by
     rw[cd,iY (aM _),lF];rfl
    have d:=d (pre++[r]);rw[gG,fu]at d;have d:(ef (fun j=>(gi ((pre++r::p).getD j []) 0).iV==(i:Int)) p.length (pre.length+1)).map (fun j=>(gi ((pre++r::p).getD j []) 1).iV.toNat)=(p.find? fun r=>(gi r 0).iV==(i:Int)).map fun r=>(gi r 1).iV.toNat:=d;rw[cn,ef];simp only[y];by_cases h:((gi r 0).iV==(i:Int))=true
    ·have e : (r :: p).find? (fun r => (gi r 0).iV == (i : Int)) = some r := Vw h
     rw[iP h,e];show some (gi ((pre++r::p).getD pre.length []) 1).iV.toNat=some (gi r 1).iV.toNat
     rw[y]
    ·have e : (r :: p).find? (fun r => (gi r 0).iV == (i : Int)) = p.find? (fun r => (gi r 0).iV == (i : Int)) := K4 h
     rw[iN h,e];exact d
  intro p;exact gen p []
 have M:=uP (st:=A2) (mk:=fun j=>[.i (i:Int),.l q,.i (q.length:Int),.i (j:Int)]) (p:=fun j=>(gi (q.getD j []) 0).iV==(i:Int)) (out:=fun j=>[.i (gi (q.getD j []) 1).iV]) (n:=q.length) (fun j U=>by
   unfold A2;dsimp +instances only[go_sem];simp only[aR];refine aa.p (aa.p ?_);refine aa.test (fun h=>aa.some (.inl ⟨h,rfl⟩)) fun h=>aa.p (aa.some (.inr ⟨h,rfl⟩))) (by
   refine aa.toEq ?_;unfold A2;dsimp +instances only[go_sem];exact aa.n (aa.some rfl)) q.length 0 (by omega)
 rw[<-key q];refine aa.toEq ?_;unfold EY;dsimp +instances only[go_sem];refine aa.loop (M.to (by omega)) rfl ?_;rintro x g (⟨rfl,v,k,rfl⟩|⟨rfl,k⟩)
 ·obtain ⟨_, N, _⟩ := uO k
  obtain⟨a,b,e⟩:=I _ (iu (z:=[]) (show v<q.length by omega));rw[k];refine aa.pos rfl (aa.some ?_);show [G.i (gi (q.getD v []) 1).iV]=[.i (((gi (q.getD v []) 1).iV.toNat:Nat):Int)]
  rw[e];rfl
 ·rw [k]
  exact aa.neg rfl (aa.some rfl)
theorem akV{i:Nat}(hi:i<(A ab).length):E3 [.l L,.l [[.s (C ab),.l (A ab)]],.i (i:Int),.i oF]=some [.l [fY L C A ab oF i]]:=by
 have hn:=R.n;have hna:=R.na ab ho;have hcon:=R.iv ab ho _ (iu (z:=[]) hi);have hM:d_ ((A ab).getD i []):=(R3 R ho ho).two.ha _ (iu hi);have hw:=akT R ho h0 h1 hi;have hlt:=Kv R.jk ho oF (z:=(A ab).getD i []) L.length 0 (by omega);have U:∀(u:Int) (b:Bool),b=bp 0 u->fY L C A ab oF i=nV L C A ab oF i b->aa (aB (A6 [.l L,.l [[.s (C ab),.l (A ab)]],.i (i:Int),.i oF]) fun g=>(bif ((((gi g 0).rZ.length:Nat):Int)==1) then (bif aO 0 (((gi g 0).rZ.length:Nat):Int) then some [G.l [aQ dz ((gi g 0).rZ.getD 0 [])]] else none) else (bif bp 0 u then some [.l [[.i (i:Int),.i 4,.s ⟨#[]⟩,.i (-1)]]] else some [.l [[.i (i:Int),.i 5,.s ⟨#[]⟩,.i (-1)]]]))) fun g=>g=[.l [fY L C A ab oF i]]:=fun u b hb M=>by
  rw[M];refine aa.cE hw ?_;dsimp +instances only[go_sem];unfold nV;cases dh C A ab oF ((A ab).getD i []) L.length 0 with
  | nil =>
   refine aa.neg rfl ?_;rw[<-hb];cases b<;>exact aa.some rfl
  | cons x q =>
   cases q with
   |nil=>exact aa.pos rfl (aa.pos rfl (aa.some rfl))
   | cons y q =>
    refine aa.neg ?_ ?_
    ·rw [beq_eq_false_iff_ne, c8, cn, cn]
     omega
    rw[<-hb];cases b<;>exact aa.some rfl
 refine aa.toEq ?_;unfold E3;dsimp +instances only[go_sem];simp only[aR];refine aa.p ?_;refine aa.cE (yf R (gi ((A ab).getD i []) 3).sV) ?_;dsimp +instances only[go_sem];cases N:iD L C (gi ((A ab).getD i []) 3).sV with
 | none =>
  refine aa.neg rfl ?_;refine U (jX none) false rfl ?_;unfold fY;rw[N]
 | some k =>
  obtain⟨_,v,I⟩:=uO N;have v:k<L.length:=by omega
  have I:C k=(gi ((A ab).getD i []) 3).sV:=of_decide_eq_true I;have hnk:=R.na k v;have e1:jX (some k)=(k:Int):=rfl;rw[e1];have V:bp 0 (k:Int)=true:=by rw[eX]; exact dE (by omega)
  refine aa.pos V ?_;simp only[aR,R.get k v];refine aa.p ?_;refine aa.call (P:=fun g=>g=[.l (bt A C ab oF k)]) (aa.eq (Uo (R3 R ho v) (C ab) (C k) h1)) ?_;rintro _ rfl;dsimp +instances only[go_sem];have hpl:=UR R ho (oF:=oF) v;have hpp:∀ r∈bt A C ab oF k,∃ a b:Nat,r=[.i (a:Int),.i (b:Int)]:=fun r hr=>by
   obtain⟨x,y,rfl,_⟩:=qH (R3 R ho v).two hr;exact⟨x,y,rfl⟩
  refine aa.call (P:=fun g=>g=[.i (jX (pP C A ab oF k i))]) (aa.eq (akU _ (by omega) hpp i)) ?_;rintro _ rfl;dsimp +instances only[go_sem];cases d:pP C A ab oF k i with
  | none =>
   refine aa.neg rfl ?_;refine U (k:Int) true V.symm ?_;unfold fY;rw[N];simp only[d]
  | some j =>
   have hjl:j<(A k).length:=by
    unfold pP at d;cases O:(bt A C ab oF k).find? fun r=>(gi r 0).iV==(i:Int)with
    |none=>rw[O]at d; cases d
    | some r =>
     rw[O]at d;have hm:=amT O;obtain⟨x,y,rfl,_,W,_⟩:=qH (R3 R ho v).two hm;have d:(y:Int).toNat=j:=g_ d;rw[aR]at d;omega
   have e2:jX (some j)=(j:Int):=rfl;rw[e2];have W:d_ ((A k).getD j []):=(R3 R ho v).two.hb _ (iu hjl);refine aa.pos (by rw[eX]; exact dE (by omega)) ?_;simp only[aR,hM.1,W.1];refine aa.p (aa.p ?_);refine aa.cE (UQ _ _) ?_;have M:fY L C A ab oF i=[.i (i:Int),.i (bif ji ((A k).getD j []) ((A ab).getD i []) then 1 else 3),.s (C k),.i (j:Int)]:=by
    unfold fY;rw[N];simp only[d]
   refine aa.test (fun h=>aa.some ?_) fun h=>aa.some ?_
   ·have h : ji ((A k).getD j []) ((A ab).getD i []) = true := h
    rw[M,h,I];rfl
   ·have h : ji ((A k).getD j []) ((A ab).getD i []) = false := h
    rw[M,h,I];rfl
omit R ho h0 h1 in
theorem UT(i:Nat):∀ o∈ch L C A ab oF i,∃(j:Nat) (d:Int) (w:BY) (v:Int),o=[.i (j:Int),.i d,.s w,.i v]/\j<i:=by
 induction i with
 |zero=>intro o h; cases h
 | succ i g =>
  intro o h;rw[ch]at h;rcases db.1 h with h|h
  ·obtain ⟨j, d, w, v, e, k⟩ := g o h
   exact⟨j,d,w,v,e,by omega⟩
  ·rw [kT.1 h]
   cases kQ A ab (ch L C A ab oF i) i with
   |true=>exact⟨i,6,_,-1,rfl,by omega⟩
   | false =>
    obtain⟨d,w,v,e⟩:=FI L C A ab oF i;exact⟨i,d,w,v,e,by omega⟩
omit R ho h0 h1 in
theorem akW:∀(n j:Nat),((ch L C A ab oF n).any fun o=>kP A ab (gi o 0).iV.toNat j&&(sQ o||(gi o 1).iV==6))=kQ A ab (ch L C A ab oF n) j:=by
 intro n
 induction n with
 |zero=>intro j; rfl
 | succ n g =>
  intro j;rw[ch];cases k:kQ A ab (ch L C A ab oF n) n with
  | true =>
   rw[cT,VF,g j,FJ];simp only[ta,K9,o9];rw[show ((6:Int)==1||(6:Int)==3)=false from rfl,yv,o9];show (kQ A ab (ch L C A ab oF n) j||(kP A ab ((n:Int).toNat) j&&_))=_
   rw[aR];cases y:kP A ab n j with
   |false=>rw[BV,o9]
   | true =>
    rw[UM y]at k;rw[k,Bool.true_or]
  | false =>
   obtain⟨d,w,v,e⟩:=FI L C A ab oF n;rw[cF,e,VF,g j,FJ];simp only[ta,K9,o9];congr 1;show (kP A ab ((n:Int).toNat) j&&((d==1||d==3)||d==6))=_
   rw[aR];have I:(d==6)=false:=by
    have:d=1\/d=3\/d=2\/d=4\/d=5:=by
     have q:∀ b,∀(d:Int) (w:BY) (v:Int),nV L C A ab oF n b=[.i (n:Int),.i d,.s w,.i v]->d=1\/d=3\/d=2\/d=4\/d=5:=fun b d w v h=>by
      unfold nV at h;split at h
      ·cases h; omega
      ·cases b<;>(cases h; decide)
     unfold fY at e;split at e
     ·split at e
      ·injection e with _ e
       injection e with e _
       injection e with e
       rw[<-e];cases ji ((A _).getD _ []) ((A ab).getD n [])<;>simp
      ·exact q _ _ _ _ e
     ·exact q _ _ _ _ e
    rw[beq_eq_false_iff_ne];omega
   rw[I,o9]
theorem akX{n:Nat}(hn:n<=(A ab).length){j:Nat}(U:j<(A ab).length):EO [.l (ch L C A ab oF n),.l [[.s (C ab),.l (A ab)]],.l [(A ab).getD j []]]=some [.t (kQ A ab (ch L C A ab oF n) j)]:=by
 have hna:=R.na ab ho;have I:=nW L C A ab oF n;have M:=R.iv ab ho _ (iu (z:=[]) U);have k:=M.eta;have N:∀ o∈ch L C A ab oF n,EN [.l [o],.l [[.s (C ab),.l (A ab)]],.l [(A ab).getD j []]]=some [.t (kP A ab (gi o 0).iV.toNat j&&(sQ o||(gi o 1).iV==6))]:=fun o O=>by
  obtain⟨t,d,w,v,rfl,ht⟩:=UT n o O;refine aa.toEq ?_;unfold EN;dsimp +instances only[go_sem];simp only[aR];refine aa.p ?_;have e:kP A ab t j=(((gi ((A ab).getD t []) 3).sV.toList==(gi ((A ab).getD j []) 3).sV.toList)&&(((gi ((A ab).getD t []) 2).sV.toList==(gi ((A ab).getD j []) 2).sV.toList)&&(((gi ((A ab).getD t []) 1).iV==(gi ((A ab).getD j []) 1).iV)&&true))):=rfl;have V:(sQ [G.i (t:Int),.i d,.s w,.i v]||d==6)=((d==1||d==3)||d==6):=rfl;rw[e,V];cases ((gi ((A ab).getD t []) 3).sV.toList==(gi ((A ab).getD j []) 3).sV.toList)with
  |false=>exact aa.some rfl
  | true =>
   refine aa.pos rfl ?_;cases ((gi ((A ab).getD t []) 2).sV.toList==(gi ((A ab).getD j []) 2).sV.toList)with
   |false=>exact aa.some rfl
   | true =>
    refine aa.pos rfl ?_;cases ((gi ((A ab).getD t []) 1).iV==(gi ((A ab).getD j []) 1).iV)with
    |false=>exact aa.some rfl
    | true =>
     refine aa.pos rfl ?_;cases d==1 with
     |true=>exact aa.some rfl
     | false =>
      refine aa.neg rfl ?_;cases d==3 with
      |true=>exact aa.some rfl
      |false=>exact aa.some rfl
 have W:=uP (st:=AT) (mk:=fun i=>[.l (ch L C A ab oF n),.l [[.s (C ab),.l (A ab)]],.l [(A ab).getD j []],.i (n:Int),.i (i:Int)]) (p:=fun i=>(fun o=>kP A ab (gi o 0).iV.toNat j&&(sQ o||(gi o 1).iV==6)) ((ch L C A ab oF n).getD i [])) (out:=fun i=>[.i (i:Int)]) (n:=n) (fun i hi=>by
   have hm:(ch L C A ab oF n).getD i []∈ch L C A ab oF n:=iu (by omega);obtain⟨t,d,w,v,e,_⟩:=UT n _ hm;have he:aQ dz ((ch L C A ab oF n).getD i [])=(ch L C A ab oF n).getD i []:=by rw[e]; rfl
   unfold AT;dsimp +instances only[go_sem];simp only[aR,he,k];refine aa.p (aa.p ?_);refine aa.cE (N _ hm) ?_;refine aa.test (fun h=>aa.some (.inl ⟨h,rfl⟩)) fun h=>aa.p (aa.some (.inr ⟨h,rfl⟩))) (by
   refine aa.toEq ?_;unfold AT;dsimp +instances only[go_sem];exact aa.n (aa.some rfl)) n 0 (by omega)
 have y:=Kw (fun o=>kP A ab (gi o 0).iV.toNat j&&(sQ o||(gi o 1).iV==6)) [] (ch L C A ab oF n);rw[I,akW]at y;refine aa.toEq ?_;unfold EO;dsimp +instances only[go_sem];simp only[k];refine aa.call (P:=fun g=>g=[.i (jX (ef (fun i=>(fun o=>kP A ab (gi o 0).iV.toNat j&&(sQ o||(gi o 1).iV==6)) ((ch L C A ab oF n).getD i [])) n 0))]) ?_ ?_
 ·unfold Jz
  dsimp +instances only[go_sem];simp only[k,I];refine aa.loop (W.to (by omega)) (by first|rfl|simp) ?_;rintro x g (⟨rfl,v,q,rfl⟩|⟨rfl,q⟩)
  ·rw [q]
   exact aa.pos rfl (aa.some rfl)
  ·rw [q]
   exact aa.neg rfl (aa.some rfl)
 ·rintro _ rfl
  refine aa.some ?_;rw[<-y];cases ef (fun i=>(fun o=>kP A ab (gi o 0).iV.toNat j&&(sQ o||(gi o 1).iV==6)) ((ch L C A ab oF n).getD i [])) n 0 with
  |none=>rfl
  | some v =>
   show [G.t (bp 0 (v:Int))]=[.t true]
   rw[eX,dE (by omega)]
theorem Ky:xK [.l L,.s (C ab),.i oF]=some [.l (ch L C A ab oF (A ab).length)]:=by
 have hn:=R.n;have M:=R.na ab ho;refine aa.toEq ?_;unfold xK;dsimp +instances only[go_sem];refine aa.cE (yf R (C ab)) ?_;rw[pQ R.jk ho rfl];have y:jX (some ab)=(ab:Int):=rfl;dsimp +instances only[go_sem];rw[y];simp only[aR,R.get ab ho];dsimp +instances only[go_sem];refine aa.p ?_;have r:=wQ (st:=A7) (σ:=Unit) (fun _ i=>[.s (C ab),.l (A ab),.l (ch L C A ab oF i),.l L,.i oF,.l (A ab),.i ((A ab).length:Int),.i (i:Int)]) (A ab) (fun _=>(0,[.l (ch L C A ab oF (A ab).length)])) (fun _ _=>True) () (by omega) trivial
  (fun _ i z _ hi d hm _ => by
   have N:=nW L C A ab oF i;have he:=(R.iv ab ho z hm).eta;have h:=akX R ho h0 h1 (n:=i) (by omega) (j:=i) hi;rw[d]at h;unfold A7;dsimp +instances only[go_sem];simp only[aR,d,he];refine aa.p (aa.p ?_);refine aa.l4 (aa.eq h) (by first|rfl|simp) ?_;rintro _ rfl;dsimp +instances only[go_sem];cases k:kQ A ab (ch L C A ab oF i) i with
   | true =>
    refine aa.neg rfl ?_;refine aa.pos (by rw[i_,jI,dT]; omega) (aa.p (aa.pos (by simp) (aa.some ⟨(),?_,trivial⟩)));have e:ch L C A ab oF (i+1)=ch L C A ab oF i++[[.i (i:Int),.i 6,.s (⟨#[]⟩:BY),.i (-1)]]:=by rw[ch,k]; rfl
    rw[e];rfl
   | false =>
    refine aa.pos rfl ?_;refine aa.call (P:=fun g=>g=[.l [fY L C A ab oF i]]) (aa.eq (akV R ho h0 h1 hi)) ?_;rintro _ rfl;dsimp +instances only[go_sem];obtain⟨O,w,v,I⟩:=FI L C A ab oF i;have q:aQ dz (fY L C A ab oF i)=fY L C A ab oF i:=by rw[I]; rfl
    simp only[q];refine aa.pos (by rw[i_,jI,dT]; omega) (aa.p (aa.pos (by simp) (aa.some ⟨(),?_,trivial⟩)));have e:ch L C A ab oF (i+1)=ch L C A ab oF i++[fY L C A ab oF i]:=by rw[ch,k]; rfl
    rw[e];rfl)
  (fun _ _ => by
   unfold A7;dsimp +instances only[go_sem];exact aa.n (aa.pos (by simp) (aa.some rfl)))
 refine aa.loop r (by first|rfl|simp) ?_;rintro c g ⟨_,_,rfl,rfl⟩;dsimp +instances only[go_sem];exact aa.pos (by simp) (aa.some rfl)
end
end
end Go.Proofs.iQ

namespace Go.Proofs.iQ
open Go Go.AL Go.Proofs
noncomputable section
def UU:∀ a b:List UInt8,ly a b=decide (gI a b<0)
 | [],[]=>by simp[ly,gI]
 | [],_::_=>by simp[ly,gI]
 |_::_,[]=>by simp[ly,gI]
 | a::x,b::y=>by
  simp only[ly,gI,UU x y];by_cases h1:a<b
  ·simp[h1]
  ·by_cases d : b < a
   ·have g : ¬ a = b := fun e => h1 (by rw [e] at d |-; exact d)
    simp[h1,d,g]
   ·have e : a = b := UInt8.le_antisymm (u9.1 d) (u9.1 h1)
    simp[h1,d,e]
def akY{a b:BY} (h:(ly a.toList b.toList||(a.toList==b.toList))=false):eT b a<0:=by
 rw[UU,ls,Bool.or_eq_false_iff,dF,dF]at h;have e:gI a.toList b.toList=eT a b:=by
  unfold eT;rw[qR,qR]
 rw[e]at h;have d:=Fc.flip a b;have g:eT a b≠0:=fun h0=>h.2 (su.1 h0);omega
section
variable {L:LL} {C:Nat->BY} {A:Nat->LL} (R:Bx L C A)
include R
theorem UW:∀ k i:Nat,iy C A k i=0->∀ j,i<=j->j<i+k->kN C A j=0
 |0,i,_,j,h1,g=>by omega
 | k+1,i,h,j,h1,g=>by
  rw[iy]at h;split at h
  ·rename_i d
   exact(d h).elim
  ·rename_i q
   by_cases e:j=i
   ·subst e
    simpa using q
   ·exact UW k (i+1) h j (by omega) (by omega)
theorem akZ(h:iy C A L.length 0=0):ml L C A:=by
 have I:∀ j,j<L.length->kN C A j=0:=fun j g=>UW R L.length 0 h j (eV _) (by omega);have q:∀ j,j<L.length->ki (C j) (A j)=0/\(0<j->mS C j=false):=fun j g=>by
  have h1:=I j g;unfold kN at h1;cases y:jB (C j)with
  |false=>rw[y]at h1; cases h1
  | true =>
   rw[y]at h1;have h1:(bif aO 0 (j:Int)&&mS C j then 7 else ki (C j) (A j))=(0:Int):=h1;cases k:aO 0 (j:Int)&&mS C j with
   |true=>rw[k]at h1; cases h1
   | false =>
    rw[k]at h1;refine⟨h1,fun N=>?_⟩;rw[show aO 0 (j:Int)=true by rw[cK]; exact dE (by omega),jI]at k;exact k
 have v:∀ j,0<j->j<L.length->eT (C (j-1)) (C j)<0:=fun j h0 g=>akY ((q j g).2 h0);refine⟨R.get,R.n,R.iv,R.na,R.call,fun i j O g=>?_,fun i h0 hi=>(q i hi).2 h0,fun i hi=>(q i hi).1⟩;have key:∀ d,i+1+d<L.length->eT (C i) (C (i+1+d))<0:=by
  intro d
  induction d with
  |zero=>intro h; exact v (i+1) (by omega) h
  | succ d M =>
   intro h;exact Fc.tr _ _ _ (M (by omega)) (v (i+1+(d+1)) (by omega) h)
 have:=key (j-(i+1)) (by omega)
 rwa [show i+1+(j-(i+1))=j by omega]at this
end
def UX(l:LL)(hn:l.length<=100000):Bb [.l l,.l l]=some [.t true]:=by
 have r:=wQ (st:=Ba) (σ:=Unit) (fun _ i=>[.l l,.l l,.i (l.length:Int),.i (i:Int)]) l (fun _=>(1,[])) (fun _ _=>True) () (by omega) trivial
  (fun _ i x _ hi d hm _ => by
   unfold Ba;dsimp +instances only[go_sem];simp only[aR,d];refine aa.p (aa.p (aa.p (aa.neg ?_ (aa.p (aa.some ⟨(),rfl,trivial⟩)))));rw[I2 _ _ rfl];rfl)
  (fun _ _ => by
   unfold Ba;dsimp +instances only[go_sem];exact aa.n (aa.some rfl))
 refine aa.toEq ?_;unfold Bb;dsimp +instances only[go_sem];refine aa.neg (by simp) ?_;refine aa.loop r rfl ?_;rintro c g ⟨_,_,rfl,rfl⟩;exact aa.neg rfl (aa.some rfl)
def ak0(a b c:Int):EL [.l [[.i a],[.i b],[.i c]]]=some [.i (if a≠0 then a else if b≠0 then b else c)]:=by
 have step:∀(k:Nat) (v:Int),k<3->([[.i a],[.i b],[.i c]]:LL).getD k []=[.i v]->uA [.l [[.i a],[.i b],[.i c]],.i 3,.i (k:Int)]=some (if v≠0 then (some 0,[.i v]) else (none,[.l [[.i a],[.i b],[.i c]],.i 3,.i ((k:Int)+1)])):=fun k v I q=>by
  refine aa.toEq ?_;unfold uA;dsimp +instances only[go_sem];simp only[aR,q];refine aa.p (aa.pos (by simp only[jM,cK,cn,km,aK,dT]; omega) ?_);by_cases h:v≠0
  ·rw [iP h]
   exact aa.pos (by show (v != 0)=true; simpa using h) (aa.some rfl)
  ·rw [iN h]
   exact aa.neg (by show (v != 0)=false; simpa using h) (aa.p (aa.some rfl))
 have s0:=step 0 a (by omega) rfl;have s1:=step 1 b (by omega) rfl;have s2:=step 2 c (by omega) rfl;have y:uA [.l [[.i a],[.i b],[.i c]],.i 3,.i 3]=some (some 1,[]):=by
  refine aa.toEq ?_;unfold uA;dsimp +instances only[go_sem];exact aa.neg rfl (aa.some rfl)
 have key:a6 uA [.l [[.i a],[.i b],[.i c]],.i 3,.i 0] 4 fun x g=>(x=0/\g=[.i (if a≠0 then a else if b≠0 then b else c)])\/(x=1/\(if a≠0 then a else if b≠0 then b else c)=0):=by
  by_cases ha:a≠0
  ·rw [iP ha] at s0
   exact a6.stop s0 (.inl ⟨rfl,by rw[iP ha]⟩)
  rw[iN ha]at s0;refine a6.next s0 ?_
  rw[iN ha];by_cases hb:b≠0
  ·rw [iP hb] at s1
   exact a6.stop s1 (.inl ⟨rfl,by rw[iP hb]⟩)
  rw[iN hb]at s1;refine a6.next s1 ?_
  rw[iN hb];by_cases d:c≠0
  ·rw [iP d] at s2
   exact a6.stop s2 (.inl ⟨rfl,rfl⟩)
  rw[iN d]at s2;refine a6.next s2 ?_
  exact a6.stop y (.inr ⟨rfl,by simpa using d⟩)
 refine aa.toEq ?_;unfold EL;dsimp +instances only[go_sem];refine aa.loop (key.to (by omega)) rfl ?_;rintro x g (⟨rfl,rfl⟩|⟨rfl,h⟩)
 ·exact aa.pos rfl (aa.some rfl)
 ·rw [h]
  exact aa.neg rfl (aa.some rfl)
def ak1(b:Bool)(e:Int):EK [.t b,.i e]=some [.i (bif b then e else 0)]:=by
 refine aa.toEq ?_;unfold EK;dsimp +instances only[go_sem];cases b<;>exact aa.some rfl
section
variable {L:LL} {C:Nat->BY} {A:Nat->LL} (R:ml L C A) {ab:Nat} (ho:ab<L.length) {oF:Int} (h0:0<=oF) (h1:oF<=3600000) (bT:l7 [.l L]=some [.i 0])
include R ho h0 h1 bT
theorem Kz:kg [.l L,.s (C ab),.i oF]=some [.l (ch L C A ab oF (A ab).length),.i (ab:Int),.i 0] :=
 UO R.jk ho bT (by unfold er; rw[eX,eX,dE h0,dE h1]; rfl)
omit bT in
omit bT in
end
def ak2(l:LL)(a:Int)(ha:0<=a)(d:a<=900000):aa (D_ [.l l,.i a]) fun g=>∃ v,g=[.l l,.i (a+1),.i v]:=by
 unfold D_;dsimp +instances only[go_sem];refine aa.call (sq (-1) 3600001 l a _ ha (by omega) (by kernel_rfl) (by kernel_rfl)) ?_;rintro _ ⟨v,rfl,h⟩;exact aa.some ⟨v,rfl⟩
section
variable {L:LL} {C:Nat->BY} {A:Nat->LL} (R:Bx L C A)
include R
theorem ak3(s:BY):kK [.l L,.s s]=some [.i (jX (iD L C s))]:=by
 have hn:=R.n;refine aa.toEq ?_;unfold kK;dsimp +instances only[go_sem];refine aa.call (P:=fun g=>g=[.i (jX (iD L C s))]) ?_ ?_
 ·unfold EJ
  dsimp +instances only[go_sem];have q:=uP (st:=sn) (mk:=fun i=>[.l L,.l [[.s s]],.i (L.length:Int),.i (i:Int)]) (p:=fun k=>decide (C k=s)) (out:=fun i=>[.i (i:Int)]) (n:=L.length) (fun i hi=>by
    unfold sn;dsimp +instances only[go_sem];simp only[aR,R.get i hi];refine aa.p (aa.p ?_);refine aa.call (P:=fun g=>g=[.t (decide (C i=s))]) (aa.eq (by rw[<-ls]; rfl)) ?_;rintro _ rfl;refine aa.test (fun h=>aa.some (.inl ⟨h,rfl⟩)) fun h=>aa.p (aa.some (.inr ⟨h,rfl⟩))) (by
    refine aa.toEq ?_;unfold sn;dsimp +instances only[go_sem];exact aa.n (aa.some rfl)) L.length 0 (by omega)
  refine aa.loop (q.to (by omega)) rfl ?_;rintro x g (⟨rfl,v,d,rfl⟩|⟨rfl,d⟩)
  ·have d : iD L C s = some v := d
   rw[d];exact aa.pos rfl (aa.some rfl)
  ·have d : iD L C s = none := d
   rw[d];exact aa.neg rfl (aa.some rfl)
 ·rintro _ rfl
  exact aa.some rfl
def mT(L:LL)(C:Nat->BY)(A:Nat->LL)(s:BY)(oF:Int):Int :=
 if iy C A L.length 0≠0 then iy C A L.length 0 else if (bif er oF 0 3600000 then (0:Int) else 1)≠0 then (bif er oF 0 3600000 then 0 else 1) else bif aO (jX (iD L C s)) 0 then 8 else 0
theorem ak4(s:BY)(oF:Int):EM [.l L,.i oF,.s s]=some [.i (mT L C A s oF)]:=by
 refine aa.toEq ?_;unfold EM;dsimp +instances only[go_sem];refine aa.cE (ake R) ?_;refine aa.cE (akb oF) ?_;refine aa.cE (ak3 R s) ?_;refine aa.cE (ak1 _ 8) ?_;refine aa.cE (ak0 _ _ _) ?_;exact aa.some rfl
theorem ak5(s:BY)(oF:Int):(mT L C A s oF≠0/\kg [.l L,.s s,.i oF]=some [.l [],.i 0,.i (mT L C A s oF)]) \/
  (mT L C A s oF=0/\l7 [.l L]=some [.i 0]/\ml L C A/\0<=oF/\oF<=3600000/\∃ ab,ab<L.length/\C ab=s):=by
 have bT:=Ur R;by_cases d:iy C A L.length 0≠0
 ·left
  have e:mT L C A s oF=iy C A L.length 0:=by unfold mT; rw[iP d]
  rw[e];exact⟨d,akK bT d⟩
 ·have q : iy C A L.length 0 = 0 := by simpa using d
  rw[q]at bT;have h:=akZ R q;cases hb:er oF 0 3600000 with
  | false =>
   left;have e:mT L C A s oF=1:=by unfold mT; rw[iN d,hb]; rfl
   rw[e];exact⟨by decide,akL bT hb⟩
  | true =>
   cases g:iD L C s with
   | none =>
    left;have e:mT L C A s oF=8:=by unfold mT; rw[iN d,hb,g]; rfl
    rw[e];refine⟨by decide,akM h.jk bT hb fun k v y=>?_⟩;rw[pQ h.jk v y]at g;cases g
   | some k =>
    right;obtain⟨_,h1,I⟩:=uO g;have e:mT L C A s oF=0:=by
     unfold mT;rw[iN d,hb,g];show (bif aO (k:Int) 0 then 8 else 0)=(0:Int)
     rw[cK,decide_eq_false (by omega)];rfl
    unfold er at hb;rw[aK,eX,eX,dT,dT]at hb;exact⟨e,bT,h,hb.1,hb.2,k,by omega,of_decide_eq_true I⟩
end
section
variable {L:LL} {C:Nat->BY} {A:Nat->LL} (R:ml L C A) {ab:Nat} (ho:ab<L.length) (oF:Int)
include R ho
omit R ho in
theorem UY(z:LG):∀(d k:Nat) (x:Nat × Nat),x∈dh C A ab oF z d k->x.1<k+d
 |0,_,_,h=>by cases h
 | d+1,k,x,h=>by
  have g:=UY z d (k+1) x;rw[dh]at h;split at h
  ·have := g h
   omega
  ·split at h
   ·rcases cq.1 h with rfl | h
    ·show k < _
     omega
    ·have := g h
     omega
   ·have := g h
    omega
def nZ(L:LL)(C:Nat->BY)(A:Nat->LL)(ab j:Nat)(r:LG):Prop :=
 ∃(d:Int) (w:BY) (v:Int),r=[.i (j:Int),.i d,.s w,.i v]/\(d=2->∃ k:Nat,k<L.length/\w=C k)/\(d=3->∃ k i:Nat,k<L.length/\i<(A k).length/\w=C k/\v=(i:Int))/\(d=4->∃ k:Nat,k<L.length/\iD L C (gi ((A ab).getD j []) 3).sV=some k)
theorem ak6(j:Nat):nZ L C A ab j (fY L C A ab oF j):=by
 have g:∀ b,(b=true->∃ k:Nat,k<L.length/\iD L C (gi ((A ab).getD j []) 3).sV=some k)->nZ L C A ab j (nV L C A ab oF j b):=fun b hb=>by
  unfold nV;split
  ·rename_i x v
   have:=UY (C:=C) (A:=A) (ab:=ab) oF ((A ab).getD j []) L.length 0 x (by rw[v]; exact kT.2 rfl);exact⟨2,_,_,rfl,fun _=>⟨x.1,by omega,rfl⟩,fun e=>by omega,fun e=>by omega⟩
  ·cases b with
   |true=>exact⟨4,_,_,rfl,fun e=>by omega,fun e=>by omega,fun _=>hb rfl⟩
   |false=>exact⟨5,_,_,rfl,fun e=>by omega,fun e=>by omega,fun e=>by omega⟩
 unfold fY;split
 ·rename_i k q
  have d:k<L.length:=by
   obtain⟨_,h,_⟩:=uO q;omega
  split
  ·rename_i i hi
   refine⟨_,_,_,rfl,fun e=>?_,fun _=>⟨k,i,d,?_,rfl,rfl⟩,fun e=>?_⟩
   ·cases h : ji ((A k).getD i []) ((A ab).getD j []) with
    |true=>rw[h]at e; cases e
    |false=>rw[h]at e; cases e
   ·unfold pP at hi
    rw[Option.map_eq_some_iff]at hi;obtain⟨r,I,rfl⟩:=hi;obtain⟨x,y,rfl,_,M,_⟩:=qH (R3 R ho d).two (amT I);show ((y:Int)).toNat<_
    simpa using M
   ·cases h : ji ((A k).getD i []) ((A ab).getD j []) with
    |true=>rw[h]at e; cases e
    |false=>rw[h]at e; cases e
  ·exact g true fun _=>⟨k,d,q⟩
 ·exact g false fun e=>by cases e
theorem uQ:∀ n j,j<n->nZ L C A ab j ((ch L C A ab oF n).getD j [])
 |0,_,h=>by omega
 | n+1,j,h=>by
  have d:=nW L C A ab oF n;rw[ch];by_cases e:j<n
  ·rw [cd, List.getElem?_append_left (by omega), <- cd]
   exact uQ n j e
  ·have e : j = n := by omega
   subst e;rw[cd,iY (by omega),d,lF,List.getElem?_cons_zero,m_];cases kQ A ab (ch L C A ab oF j) j with
   |true=>exact⟨6,_,_,rfl,fun e=>by omega,fun e=>by omega,fun e=>by omega⟩
   |false=>exact ak6 R ho oF j
theorem BB{j:Nat}(d:j<(A ab).length):c9 ((A ab).getD j []):=R.iv ab ho _ (iu (z:=[]) d)
def FM(r:LG):Bool:=((gi r 1).iV==1)||((gi r 1).iV==5)
def iW(A:Nat->LL)(ab:Nat)(d:LL):Nat->LL
 |0=>[]
 |i+1=>iW A ab d i++(bif FM (d.getD i []) then [(A ab).getD i []] else [])
omit R ho in
theorem FN(d:LL):∀ i,(iW A ab d i).length<=i
 |0=>aM _
 | i+1=>by
  have:=FN d i;rw[iW,fu];cases FM (d.getD i [])<;>simp<;>omega
theorem UZ{k:LL}(O:k.length=(A ab).length)(y:∀ j,j<k.length->nZ L C A ab j (k.getD j [])):∀(d i:Nat),i+d=k.length ->
  a6 AN [.l (iW A ab k i),.l L,.i (ab:Int),.l k,.i (k.length:Int),.i (i:Int)] (d+1) fun x g=>x=0/\g=[.l (iW A ab k k.length)]
 | 0,i,hi=>by
  refine a6.stop (x:=0) (aa.toEq ?_) ⟨rfl,rfl⟩;unfold AN;dsimp +instances only[go_sem];refine aa.n (aa.p (aa.some ?_));rw[show i=k.length by omega]
 | d+1,i,hi=>by
  have W:=R.na ab ho;have N:=FN (A:=A) (ab:=ab) k i;obtain⟨I,w,v,M,_,_,_⟩:=y i (by omega);have U:=BB R ho (j:=i) (by omega);have V:iW A ab k (i+1)=iW A ab k i++(bif (I==1)||(I==5) then [(A ab).getD i []] else []):=by
   rw[iW];unfold FM;rw[M];rfl
  refine a6.next (d1:=[.l (iW A ab k (i+1)),.l L,.i (ab:Int),.l k,.i (k.length:Int),.i ((i+1:Nat):Int)]) (aa.toEq ?_) (UZ O y d (i+1) (by omega))
  rw[V];generalize iW A ab k i=out at N;unfold AN;dsimp +instances only[go_sem];simp only[aR,M,R.get ab ho];dsimp +instances only[go_sem];simp only[aR,U.eta];refine aa.p (aa.p ?_);refine aa.test (fun h=>?_) fun h=>aa.test (fun q=>?_) fun q=>?_
  ·rw [h]
   exact aa.p (aa.p (aa.p (aa.p (aa.p (aa.some rfl)))))
  ·rw [h, q]
   exact aa.p (aa.p (aa.p (aa.p (aa.p (aa.some rfl)))))
  ·rw [h, q]
   refine aa.p (aa.p (aa.some ?_));show _=(none,[G.l (out++[]),.l L,.i (ab:Int),.l k,.i (k.length:Int),.i ((i+1:Nat):Int)])
   rw[da];rfl
theorem U0{k:LL}(hl:k.length=(A ab).length)(O:∀ j,j<k.length->nZ L C A ab j (k.getD j [])):∀(d i:Nat),i+d=k.length ->
  a6 A8 [.l (iW A ab k i),.l L,.s (C ab),.l k,.i (k.length:Int),.i (i:Int)] (d+1) fun x g=>x=0/\g=[.l (iW A ab k k.length)]
 | 0,i,hi=>by
  refine a6.stop (x:=0) (aa.toEq ?_) ⟨rfl,rfl⟩;unfold A8;dsimp +instances only[go_sem];refine aa.n (aa.p (aa.some ?_));rw[show i=k.length by omega]
 | d+1,i,hi=>by
  have hna:=R.na ab ho;have V:=FN (A:=A) (ab:=ab) k i;obtain⟨y,w,v,U,_,_,_⟩:=O i (by omega);have hz:=BB R ho (j:=i) (by omega);have hs:iW A ab k (i+1)=iW A ab k i++(bif (y==1)||(y==5) then [(A ab).getD i []] else []):=by
   rw[iW];unfold FM;rw[U];rfl
  have W:kK [.l L,.s (C ab)]=some [.i (ab:Int)]:=by
   rw[yf R (C ab),pQ R.jk ho rfl];rfl
  refine a6.next (d1:=[.l (iW A ab k (i+1)),.l L,.s (C ab),.l k,.i (k.length:Int),.i ((i+1:Nat):Int)]) (aa.toEq ?_) (U0 hl O d (i+1) (by omega))
  rw[hs];generalize iW A ab k i=out at V;unfold A8;dsimp +instances only[go_sem];simp only[aR,U];dsimp +instances only[go_sem];simp only[aR];refine aa.p (aa.p ?_);have N:∀ b:Bool,b=true->aa (aB (kK [.l L,.s (C ab)]) fun q =>
    bif cJ (gi q 0).iV&&aO (gi q 0).iV (L.length:Int) then bif cJ (i:Int)&&aO (i:Int) (((gi (L.getD (gi q 0).iV.toNat []) 1).rZ.length:Nat):Int) then
     bif aG out.length out.length&&decide (out.length+1<=1048576) then bif ay ((i:Int)+1) then
      bif aG (out++[aQ [.I,.I,.str,.str,.I,.I,.str,.str] ((gi (L.getD (gi q 0).iV.toNat []) 1).rZ.getD i [])]).length (out++[aQ [.I,.I,.str,.str,.I,.I,.str,.str] ((gi (L.getD (gi q 0).iV.toNat []) 1).rZ.getD i [])]).length&&true then
       some ((none:Option Nat),[G.l (out++[aQ [.I,.I,.str,.str,.I,.I,.str,.str] ((gi (L.getD (gi q 0).iV.toNat []) 1).rZ.getD i [])]),.l L,.s (C ab),.l k,.i (k.length:Int),.i ((i:Int)+1)]) else none else none else none else none else none)
    fun o=>o=(none,[.l (out++(bif b then [(A ab).getD i []] else [])),.l L,.s (C ab),.l k,.i (k.length:Int),.i ((i+1:Nat):Int)]):=fun b hb=>by
   rw[hb];refine aa.call (P:=fun g=>g=[.i (ab:Int)]) (aa.eq W) ?_;rintro _ rfl;dsimp +instances only[go_sem];simp only[aR,R.get ab ho];dsimp +instances only[go_sem];simp only[hz.eta];exact aa.p (aa.p (aa.p (aa.p (aa.p (aa.some rfl)))))
  refine aa.test (fun h=>?_) fun h=>aa.test (fun M=>?_) fun M=>?_
  ·exact N _ (by rw[h]; rfl)
  ·exact N _ (by rw[M]; cases y==1<;>rfl)
  ·rw [h, M]
   refine aa.p (aa.p (aa.some ?_));show _=(none,[G.l (out++[]),.l L,.s (C ab),.l k,.i (k.length:Int),.i ((i+1:Nat):Int)])
   rw[da];rfl
end
section
variable {L:LL} {C:Nat->BY} {A:Nat->LL} (R:ml L C A) {ab:Nat} (ho:ab<L.length) {oF:Int} (h0:0<=oF) (h1:oF<=3600000)
include R ho h0 h1
theorem ak7(bT:l7 [.l L]=some [.i 0]):xz [.l L,.s (C ab),.i oF]=some [.l (iW A ab (ch L C A ab oF (A ab).length) (A ab).length),.i 0]:=by
 have v:=R.na ab ho;have d:=nW L C A ab oF (A ab).length;have h:=uQ R ho oF (A ab).length;have k:=Kz R ho h0 h1 bT;generalize ch L C A ab oF (A ab).length=q at d h k;refine aa.toEq ?_;unfold xz;dsimp +instances only[go_sem];refine aa.call (P:=fun g=>g=[.l q,.i (ab:Int),.i 0]) (aa.eq k) ?_;rintro _ rfl;dsimp +instances only[go_sem];refine aa.neg rfl ?_;refine aa.loop ((UZ R ho d (fun j y=>h j (by omega)) q.length 0 (by omega)).to (by omega)) rfl ?_;rintro _ _ ⟨rfl,rfl⟩;dsimp +instances only[go_sem];rw[d];exact aa.p (aa.some rfl)
theorem ak8:E4 [.l L,.s (C ab),.i oF]=some [.l (iW A ab (ch L C A ab oF (A ab).length) (A ab).length)]:=by
 have v:=R.na ab ho;have d:=nW L C A ab oF (A ab).length;have h:=uQ R ho oF (A ab).length;have k:=Ky R ho h0 h1;generalize ch L C A ab oF (A ab).length=q at d h k;refine aa.toEq ?_;unfold E4;dsimp +instances only[go_sem];refine aa.call (P:=fun g=>g=[.l q]) (aa.eq k) ?_;rintro _ rfl;dsimp +instances only[go_sem];refine aa.loop ((U0 R ho d (fun j y=>h j (by omega)) q.length 0 (by omega)).to (by omega)) rfl ?_;rintro _ _ ⟨rfl,rfl⟩;dsimp +instances only[go_sem];rw[d];exact aa.p (aa.some rfl)
end
section
variable {L:LL} {C:Nat->BY} {A:Nat->LL} (R:ml L C A) {ab:Nat} (ho:ab<L.length)
include R ho
def gV(L:LL)(C:Nat->BY)(A:Nat->LL)(d:Int)(w:BY)(v:Int)(x:LG):LL :=
 bif (d==4)||(d==6) then [] else bif d==2 then [[.i (gi x 0).iV,.i (gi x 1).iV,.s (gi x 2).sV,.s w,.i (gi x 4).iV,.i (gi x 5).iV,.s (gi x 6).sV,.s (gi x 7).sV]]
 else bif d==3 then [[.i (gi x 0).iV,.i (gi x 1).iV,.s (gi x 2).sV,.s (gi x 3).sV,.i (gi x 4).iV,.i (gi ((A (jX (iD L C w)).toNat).getD v.toNat []) 4).iV,.s (gi x 6).sV,.s (gi ((A (jX (iD L C w)).toNat).getD v.toNat []) 6).sV]]
 else [[.i (gi x 0).iV,.i (gi x 1).iV,.s (gi x 2).sV,.s (gi x 3).sV,.i (gi x 4).iV,.i (gi x 5).iV,.s (gi x 6).sV,.s (gi x 7).sV]]
def BC(L:LL)(C:Nat->BY)(A:Nat->LL)(ab:Nat)(r:LG)(j:Nat):LL:=gV L C A (gi r 1).iV (gi r 2).sV (gi r 3).iV ((A ab).getD j [])
def iX(L:LL)(C:Nat->BY)(A:Nat->LL)(ab:Nat)(d:LL):Nat->LL
 |0=>[]
 |i+1=>iX L C A ab d i++BC L C A ab (d.getD i []) i
omit R ho in
theorem ak9(d:Int)(w:BY)(v:Int)(x:LG):(gV L C A d w v x).length<=1:=by
 unfold gV;cases (d==4)||(d==6)<;>cases d==2<;>cases d==3<;>simp
omit R ho in
theorem yg(d:LL):∀ i,(iX L C A ab d i).length<=i
 |0=>aM _
 | i+1=>by
  have:=yg d i;have:=ak9 (L:=L) (C:=C) (A:=A) (gi (d.getD i []) 1).iV (gi (d.getD i []) 2).sV (gi (d.getD i []) 3).iV ((A ab).getD i []);rw[iX,fu];unfold BC;omega
omit ho in
theorem ak_{d:Int}{w:BY}{v:Int}{x:LG}(hx:c9 x)(V:d=2->∃ k:Nat,k<L.length/\w=C k)(h3:d=3->∃ k i:Nat,k<L.length/\i<(A k).length/\w=C k/\v=(i:Int)):∀ z∈gV L C A d w v x,c9 z:=by
 obtain⟨t,m,b,c,s,h,y,z,rfl,I,M,N,W,O,k6,U,k8⟩:=hx;unfold gV;cases e1:(d==4)||(d==6)with
 |true=>intro u g; cases g
 | false =>
  cases e2:d==2 with
  | true =>
   intro u g;rw[kT.1 g];obtain⟨k,q,rfl⟩:=V (by simpa using e2);exact⟨_,_,_,_,_,_,_,_,rfl,I,M,N,W,O,R.call k q,U,k8⟩
  | false =>
   cases e3:d==3 with
   | true =>
    intro u g;rw[kT.1 g];obtain⟨k,i,q,hi,rfl,rfl⟩:=h3 (by simpa using e3);rw[pQ R.jk q rfl];obtain⟨t2,m2,b2,c2,s2,V,y2,z2,e,q1,q2,q3,q4,q5,q6,q7,q8⟩:=R.iv k q _ (iu (z:=[]) hi);show c9 [.i t,.i m,.s b,.s c,.i s,.i (gi ((A ((k:Int)).toNat).getD ((i:Int)).toNat []) 4).iV,.s y,.s (gi ((A ((k:Int)).toNat).getD ((i:Int)).toNat []) 6).sV]
    rw[aR,aR,e];exact⟨_,_,_,_,_,_,_,_,rfl,I,M,N,q3,O,k6,U,q7⟩
   | false =>
    intro u g;rw[kT.1 g];exact⟨_,_,_,_,_,_,_,_,rfl,I,M,N,W,O,k6,U,k8⟩
theorem KA{d:LL}(k:d.length=(A ab).length)(g:∀ j,j<d.length->nZ L C A ab j (d.getD j [])):∀ i,i<=d.length->∀ z∈iX L C A ab d i,c9 z
 |0,_,z,h=>by cases h
 | i+1,hi,z,h=>by
  rw[iX]at h;rcases db.1 h with h|h
  ·exact KA k g i (by omega) z h
  ·obtain ⟨M, w, v, q, y, I, _⟩ := g i (by omega)
   unfold BC at h;rw[q]at h;exact ak_ R (BB R ho (j:=i) (by omega)) y I z h
theorem ak'{q:LL}(hl:q.length=(A ab).length){i:Nat}(hi:i<q.length){d:Int}{w:BY}{v:Int}(hr:q.getD i []=[.i (i:Int),.i d,.s w,.i v])(h3:d=3->∃ k i:Nat,k<L.length/\i<(A k).length/\w=C k/\v=(i:Int))
    {out:LL} (hout:out.length<=i) :
    xA [.l out,.l L,.i (ab:Int),.l q,.i (q.length:Int),.i (i:Int)]=some (none,[.l (out++gV L C A d w v ((A ab).getD i [])),.l L,.i (ab:Int),.l q,.i (q.length:Int),.i ((i:Int)+1)]):=by
  have hna:=R.na ab ho;have hz:=BB R ho (j:=i) (by omega);have cut12:∀(t m:Int) (b c:BY) (s h:Int) (y z:BY) (f:Bool),f=(bif d==4 then true else (d==6)) ->
      aa (AP [.l out,.i (i:Int),.i d,.s w,.i v,.i t,.i m,.s b,.s c,.i s,.i h,.s y,.s z,.l L,.i (ab:Int),.l q,.i (q.length:Int),.i (i:Int),.i d,.t f]) fun o =>
        (((d == 4) || (d == 6)) = true /\ o = (some 0, [.l out, .l L, .i (ab : Int), .l q, .i (q.length : Int), .i (i : Int)])) \/
          (((d == 4) || (d == 6)) = false /\ ∃ (t' m' : Int) (I M : BY) (s' h' : Int) (N O : BY), gV L C A d w v [.i t, .i m, .s b, .s c, .i s, .i h, .s y, .s z] = [[.i t', .i m', .s I, .s M, .i s', .i h', .s N, .s O]] /\
            o=(some 1,[.l out,.i t',.i m',.s I,.s M,.i s',.i h',.s N,.s O,.l L,.i (ab:Int),.l q,.i (q.length:Int),.i (i:Int)])):=fun t m b c s h y z f hfl=>by
    unfold AP;dsimp +instances only[go_sem];refine aa.test (fun e=>aa.p (aa.some (.inl ⟨?_,rfl⟩))) fun e=>?_
    · rw [hfl] at e
      cases h4:d==4 with
      |true=>rfl
      |false=>rw[h4]at e; exact e
    · have V:((d==4)||(d==6))=false:=by
        rw[hfl]at e;cases h4:d==4 with
        |true=>rw[h4]at e; cases e
        |false=>rw[h4]at e; exact e
      refine aa.test (fun g2=>?_) fun g2=>aa.test (fun g3=>?_) fun g3=>?_
      · refine aa.p (aa.some (.inr ⟨V, _, _, _, _, _, _, _, _, ?_, rfl⟩))
        unfold gV;rw[V,g2];rfl
      · obtain ⟨k, j, U, hj, rfl, rfl⟩ := h3 (by simpa using g3)
        refine aa.call (Br R.jk (C k)) ?_;rintro _ ⟨p,bb,rfl,hT,hF⟩;dsimp +instances only[go_sem];have hb:bb=true:=by
          cases bb with
          |true=>rfl
          |false=>exact absurd rfl (hF rfl k U)
        obtain⟨hp,hpe⟩:=hT hb;have:=R.jk.inj hp U hpe;subst this;simp only[aR,R.get p U];dsimp +instances only[go_sem];refine aa.p (aa.p (aa.p (aa.some (.inr ⟨V,_,_,_,_,_,_,_,_,?_,rfl⟩))));unfold gV;rw[V,g2,g3,pQ R.jk U rfl];rfl
      · refine aa.p (aa.some (.inr ⟨V, _, _, _, _, _, _, _, _, ?_, rfl⟩))
        unfold gV;rw[V,g2,g3];rfl
  refine aa.toEq ?_;unfold xA;dsimp +instances only[go_sem];simp only[aR,hr,R.get ab ho];dsimp +instances only[go_sem];simp only[aR];obtain⟨t,m,b,c,s,h,y,z,e,_⟩:=hz;simp only[e];dsimp +instances only[go_sem];refine aa.p (aa.p (aa.p (aa.p ?_)));refine aa.test (fun U=>?_) fun U=>?_
  all_goals
    refine aa.tail (P:=fun x g=>(((d==4)||(d==6))=true/\x=0/\g=[.l out,.l L,.i (ab:Int),.l q,.i (q.length:Int),.i (i:Int)]) \/
          (((d == 4) || (d == 6)) = false /\ ∃ (t' m' : Int) (I M : BY) (s' h' : Int) (N O : BY), gV L C A d w v [.i t, .i m, .s b, .s c, .i s, .i h, .s y, .s z] = [[.i t', .i m', .s I, .s M, .i s', .i h', .s N, .s O]] /\
            x=1/\g=[.l out,.i t',.i m',.s I,.s M,.i s',.i h',.s N,.s O,.l L,.i (ab:Int),.l q,.i (q.length:Int),.i (i:Int)])) ?_ (by(first|rfl|assumption|(simp only[ay,sl]<;>omega))) ?_
    · refine (cut12 t m b c s h y z _ (by rw [U]; rfl)).mono ?_
      rintro _ (⟨W,rfl⟩|⟨W,t',m',I,M,s',h',N,O,e2,rfl⟩)
      · exact⟨0,rfl,.inl ⟨W,rfl,rfl⟩⟩
      · exact⟨1,rfl,.inr ⟨W,t',m',I,M,s',h',N,O,e2,rfl,rfl⟩⟩
    rintro x g (⟨W,rfl,rfl⟩|⟨W,t',m',I,M,s',h',N,O,e2,rfl,rfl⟩)
    · (dsimp +instances only [go_sem])
      refine aa.pos rfl (aa.p (aa.p (aa.some ?_)));have:gV L C A d w v [.i t,.i m,.s b,.s c,.i s,.i h,.s y,.s z]=[]:=by unfold gV; rw[W]; rfl
      rw[this,da]
    · (dsimp +instances only [go_sem])
      refine aa.neg rfl ?_;refine aa.tail (P:=fun x g=>x=0/\g=[.l (out++[[.i t',.i m',.s I,.s M,.i s',.i h',.s N,.s O]]),.l L,.i (ab:Int),.l q,.i (q.length:Int),.i (i:Int)]) ?_ (by(first|rfl|assumption|(simp only[ay,sl]<;>omega))) ?_
      · unfold Ez
        dsimp +instances only[go_sem];exact aa.p (aa.p (aa.some ⟨0,rfl,rfl,rfl⟩))
      · rintro _ _ ⟨rfl, rfl⟩
        dsimp +instances only[go_sem];rw[e2];exact aa.p (aa.p (aa.some rfl))
theorem ala{q:LL}(hl:q.length=(A ab).length){i:Nat}(hi:i<q.length){d:Int}{w:BY}{v:Int}(hr:q.getD i []=[.i (i:Int),.i d,.s w,.i v])(h3:d=3->∃ k i:Nat,k<L.length/\i<(A k).length/\w=C k/\v=(i:Int))
    {out:LL} (hout:out.length<=i) :
    xL [.l out,.l L,.s (C ab),.l q,.i (q.length:Int),.i (i:Int)]=some (none,[.l (out++gV L C A d w v ((A ab).getD i [])),.l L,.s (C ab),.l q,.i (q.length:Int),.i ((i:Int)+1)]):=by
  have hna:=R.na ab ho;have hz:=BB R ho (j:=i) (by omega);have hat:∀{k:Nat},k<L.length->kK [.l L,.s (C k)]=some [.i (k:Int)]:=fun {k} U=>by
    rw[yf R (C k),pQ R.jk U rfl];rfl
  have cut12:∀(t m:Int) (b c:BY) (s h:Int) (y z:BY) (f:Bool),f=(bif d==4 then true else (d==6)) ->
      aa (A_ [.l out,.i (i:Int),.i d,.s w,.i v,.i t,.i m,.s b,.s c,.i s,.i h,.s y,.s z,.l L,.s (C ab),.l q,.i (q.length:Int),.i (i:Int),.i d,.t f]) fun o =>
        (((d == 4) || (d == 6)) = true /\ o = (some 0, [.l out, .l L, .s (C ab), .l q, .i (q.length : Int), .i (i : Int)])) \/
          (((d == 4) || (d == 6)) = false /\ ∃ (t' m' : Int) (I M : BY) (s' h' : Int) (N O : BY), gV L C A d w v [.i t, .i m, .s b, .s c, .i s, .i h, .s y, .s z] = [[.i t', .i m', .s I, .s M, .i s', .i h', .s N, .s O]] /\
            o=(some 1,[.l out,.i t',.i m',.s I,.s M,.i s',.i h',.s N,.s O,.l L,.s (C ab),.l q,.i (q.length:Int),.i (i:Int)])):=fun t m b c s h y z f hfl=>by
    unfold A_;dsimp +instances only[go_sem];refine aa.test (fun e=>aa.p (aa.some (.inl ⟨?_,rfl⟩))) fun e=>?_
    · rw [hfl] at e
      cases h4:d==4 with
      |true=>rfl
      |false=>rw[h4]at e; exact e
    · have V:((d==4)||(d==6))=false:=by
        rw[hfl]at e;cases h4:d==4 with
        |true=>rw[h4]at e; cases e
        |false=>rw[h4]at e; exact e
      refine aa.test (fun g2=>?_) fun g2=>aa.test (fun g3=>?_) fun g3=>?_
      · refine aa.p (aa.some (.inr ⟨V, _, _, _, _, _, _, _, _, ?_, rfl⟩))
        unfold gV;rw[V,g2];rfl
      · obtain ⟨k, j, U, hj, rfl, rfl⟩ := h3 (by simpa using g3)
        refine aa.call (P:=fun g=>g=[.i (k:Int)]) (aa.eq (hat U)) ?_;rintro _ rfl;dsimp +instances only[go_sem];simp only[aR,R.get k U];dsimp +instances only[go_sem];refine aa.p (aa.p (aa.p (aa.some (.inr ⟨V,_,_,_,_,_,_,_,_,?_,rfl⟩))));unfold gV;rw[V,g2,g3,pQ R.jk U rfl];rfl
      · refine aa.p (aa.some (.inr ⟨V, _, _, _, _, _, _, _, _, ?_, rfl⟩))
        unfold gV;rw[V,g2,g3];rfl
  refine aa.toEq ?_;unfold xL;dsimp +instances only[go_sem];simp only[aR,hr];dsimp +instances only[go_sem];simp only[aR];refine aa.p (aa.p ?_);refine aa.call (P:=fun g=>g=[.i (ab:Int)]) (aa.eq (hat ho)) ?_;rintro _ rfl;dsimp +instances only[go_sem];simp only[aR,R.get ab ho];dsimp +instances only[go_sem];obtain⟨t,m,b,c,s,h,y,z,e,_⟩:=hz;simp only[e];dsimp +instances only[go_sem];refine aa.p (aa.p ?_);refine aa.test (fun U=>?_) fun U=>?_
  all_goals
    refine aa.tail (P:=fun x g=>(((d==4)||(d==6))=true/\x=0/\g=[.l out,.l L,.s (C ab),.l q,.i (q.length:Int),.i (i:Int)]) \/
          (((d == 4) || (d == 6)) = false /\ ∃ (t' m' : Int) (I M : BY) (s' h' : Int) (N O : BY), gV L C A d w v [.i t, .i m, .s b, .s c, .i s, .i h, .s y, .s z] = [[.i t', .i m', .s I, .s M, .i s', .i h', .s N, .s O]] /\
            x=1/\g=[.l out,.i t',.i m',.s I,.s M,.i s',.i h',.s N,.s O,.l L,.s (C ab),.l q,.i (q.length:Int),.i (i:Int)])) ?_ (by(first|rfl|assumption|(simp only[ay,sl]<;>omega))) ?_
    · refine (cut12 t m b c s h y z _ (by rw [U]; rfl)).mono ?_
      rintro _ (⟨W,rfl⟩|⟨W,t',m',I,M,s',h',N,O,e2,rfl⟩)
      · exact⟨0,rfl,.inl ⟨W,rfl,rfl⟩⟩
      · exact⟨1,rfl,.inr ⟨W,t',m',I,M,s',h',N,O,e2,rfl,rfl⟩⟩
    rintro x g (⟨W,rfl,rfl⟩|⟨W,t',m',I,M,s',h',N,O,e2,rfl,rfl⟩)
    · (dsimp +instances only [go_sem])
      refine aa.pos rfl (aa.p (aa.p (aa.some ?_)));have:gV L C A d w v [.i t,.i m,.s b,.s c,.i s,.i h,.s y,.s z]=[]:=by unfold gV; rw[W]; rfl
      rw[this,da]
    · (dsimp +instances only [go_sem])
      refine aa.neg rfl ?_;refine aa.tail (P:=fun x g=>x=0/\g=[.l (out++[[.i t',.i m',.s I,.s M,.i s',.i h',.s N,.s O]]),.l L,.s (C ab),.l q,.i (q.length:Int),.i (i:Int)]) ?_ (by(first|rfl|assumption|(simp only[ay,sl]<;>omega))) ?_
      · unfold E6
        dsimp +instances only[go_sem];exact aa.p (aa.p (aa.some ⟨0,rfl,rfl,rfl⟩))
      · rintro _ _ ⟨rfl, rfl⟩
        dsimp +instances only[go_sem];rw[e2];exact aa.p (aa.p (aa.some rfl))
theorem U1{h:LL}(k:h.length=(A ab).length)(q:∀ j,j<h.length->nZ L C A ab j (h.getD j [])):∀(d i:Nat),i+d=h.length ->
  a6 xA [.l (iX L C A ab h i),.l L,.i (ab:Int),.l h,.i (h.length:Int),.i (i:Int)] (d+1) fun x g=>x=0/\g=[.l (iX L C A ab h h.length)]
 | 0,i,hi=>by
  refine a6.stop (x:=0) (aa.toEq ?_) ⟨rfl,rfl⟩;unfold xA;dsimp +instances only[go_sem];refine aa.n (aa.p (aa.some ?_));rw[show i=h.length by omega]
 | d+1,i,hi=>by
  obtain⟨M,w,v,y,_,N,_⟩:=q i (by omega);have O:iX L C A ab h (i+1)=iX L C A ab h i++gV L C A M w v ((A ab).getD i []):=by
   rw[iX];unfold BC;rw[y];rfl
  have I:=U1 k q d (i+1) (by omega);rw[O]at I;exact a6.next (ak' R ho k (by omega) y N (yg h i)) I
theorem U2{h:LL}(k:h.length=(A ab).length)(q:∀ j,j<h.length->nZ L C A ab j (h.getD j [])):∀(d i:Nat),i+d=h.length ->
  a6 xL [.l (iX L C A ab h i),.l L,.s (C ab),.l h,.i (h.length:Int),.i (i:Int)] (d+1) fun x g=>x=0/\g=[.l (iX L C A ab h h.length)]
 | 0,i,hi=>by
  refine a6.stop (x:=0) (aa.toEq ?_) ⟨rfl,rfl⟩;unfold xL;dsimp +instances only[go_sem];refine aa.n (aa.p (aa.some ?_));rw[show i=h.length by omega]
 | d+1,i,hi=>by
  obtain⟨M,w,v,y,_,N,_⟩:=q i (by omega);have O:iX L C A ab h (i+1)=iX L C A ab h i++gV L C A M w v ((A ab).getD i []):=by
   rw[iX];unfold BC;rw[y];rfl
  have I:=U2 k q d (i+1) (by omega);rw[O]at I;exact a6.next (ala R ho k (by omega) y N (yg h i)) I
omit R ho in
theorem alb:wV [.I,.I,.str,.str,.I,.I,.str,.str] AO c9 nN:=⟨fun r s d g=>by
 refine aa.toEq ?_;unfold AO;dsimp +instances only[go_sem];simp only[d.eta,g.eta];refine aa.cE (JQ d g) ?_;exact aa.some rfl,fun _ h=>h.eta⟩
omit R ho in
theorem alc:wV [.I,.I,.str,.str,.I,.I,.str,.str] A9 c9 nN:=⟨fun r s d g=>by
 refine aa.toEq ?_;unfold A9;dsimp +instances only[go_sem];simp only[d.eta,g.eta];refine aa.cE (Fa d g) ?_;exact aa.some rfl,fun _ h=>h.eta⟩
def uR(L:LL)(C:Nat->BY)(A:Nat->LL)(ab:Nat)(d:LL):LL:=fV nN (cR (bK dw) (iX L C A ab d d.length))
end
section
variable {L:LL} {C:Nat->BY} {A:Nat->LL} (R:ml L C A) {ab:Nat} (ho:ab<L.length) {oF:Int} (h0:0<=oF) (h1:oF<=3600000) (hn:(A ab).length<=20)
include R ho h0 h1 hn
theorem ald(bT:l7 [.l L]=some [.i 0]):xB [.l L,.s (C ab),.i oF]=some [.l (uR L C A ab (ch L C A ab oF (A ab).length)),.i 0]:=by
 have q:=nW L C A ab oF (A ab).length;have h:=uQ R ho oF (A ab).length;have y:=Kz R ho h0 h1 bT;generalize ch L C A ab oF (A ab).length=d at q h y;have h:∀ j,j<d.length->nZ L C A ab j (d.getD j []):=fun j V=>h j (by omega);refine aa.toEq ?_;unfold xB;dsimp +instances only[go_sem];refine aa.call (P:=fun g=>g=[.l d,.i (ab:Int),.i 0]) (aa.eq y) ?_;rintro _ rfl;dsimp +instances only[go_sem];refine aa.neg rfl ?_;refine aa.loop ((U1 R ho q h d.length 0 (by omega)).to (by omega)) rfl ?_;rintro _ _ ⟨rfl,rfl⟩;dsimp +instances only[go_sem];unfold uR;have k:=KA R ho q h d.length (aM _);have I:=yg (L:=L) (C:=C) (A:=A) (ab:=ab) d d.length;generalize iX L C A ab d d.length=v at k I;refine aa.l4 (aa.eq (ai_ v k (by omega))) (by(first|rfl|assumption|(simp only[ay,sl]<;>omega))) ?_;rintro _ rfl;dsimp +instances only[go_sem];have N:=IX (lt:=bK dw) k;have M:=uj (bK dw) v;refine aa.l4 (P:=fun g=>∃ J,g=[.l (fV nN (cR (bK dw) v)++J),.i ((fV nN (cR (bK dw) v)).length:Int)]/\(fV nN (cR (bK dw) v)++J).length=(cR (bK dw) v).length)
  (I1 (Z:=zC) alb (cR (bK dw) v) N (by omega)) (by simp only[M]; (first|rfl|assumption|(simp only[ay,sl]<;>omega))) ?_
 rintro _ ⟨J,rfl,O⟩;dsimp +instances only[go_sem];have U:(fV nN (cR (bK dw) v)).length<=(cR (bK dw) v).length:=DS _ _;simp only[aR,O];refine aa.p (aa.some ?_);rw[amU]
theorem ale:E7 [.l L,.s (C ab),.i oF]=some [.l (uR L C A ab (ch L C A ab oF (A ab).length))]:=by
 have q:=nW L C A ab oF (A ab).length;have h:=uQ R ho oF (A ab).length;have y:=Ky R ho h0 h1;generalize ch L C A ab oF (A ab).length=d at q h y;have h:∀ j,j<d.length->nZ L C A ab j (d.getD j []):=fun j V=>h j (by omega);refine aa.toEq ?_;unfold E7;dsimp +instances only[go_sem];refine aa.call (P:=fun g=>g=[.l d]) (aa.eq y) ?_;rintro _ rfl;dsimp +instances only[go_sem];refine aa.loop ((U2 R ho q h d.length 0 (by omega)).to (by omega)) rfl ?_;rintro _ _ ⟨rfl,rfl⟩;dsimp +instances only[go_sem];unfold uR;have k:=KA R ho q h d.length (aM _);have I:=yg (L:=L) (C:=C) (A:=A) (ab:=ab) d d.length;generalize iX L C A ab d d.length=v at k I;refine aa.l4 (aa.eq (ai9 v k (by omega))) (by(first|rfl|assumption|(simp only[ay,sl]<;>omega))) ?_;rintro _ rfl;dsimp +instances only[go_sem];have N:=IX (lt:=bK dw) k;have M:=uj (bK dw) v;refine aa.l4 (P:=fun g=>∃ J,g=[.l (fV nN (cR (bK dw) v)++J),.i ((fV nN (cR (bK dw) v)).length:Int)]/\(fV nN (cR (bK dw) v)++J).length=(cR (bK dw) v).length)
  (I1 (Z:=zC) alc (cR (bK dw) v) N (by omega)) (by simp only[M]; (first|rfl|assumption|(simp only[ay,sl]<;>omega))) ?_
 rintro _ ⟨J,rfl,O⟩;dsimp +instances only[go_sem];have U:(fV nN (cR (bK dw) v)).length<=(cR (bK dw) v).length:=DS _ _;simp only[aR,O];refine aa.p (aa.some ?_);rw[amU]
end
def mU(d:Int):Bool:=(d==2)||((d==3)||(d==4))
def alf(d:Int):EA [.i d]=some [.t (mU d)]:=by
 refine aa.toEq ?_;unfold EA mU;dsimp +instances only[go_sem];cases d==2<;>cases d==3<;>exact aa.some rfl
def alg(n d:Int)(w:BY)(v:Int):E8 [.l [[.i n,.i d,.s w,.i v]]]=some [.t (mU d)]:=by
 refine aa.toEq ?_;unfold E8 mU;dsimp +instances only[go_sem];cases d==2<;>cases d==3<;>exact aa.some rfl
def gW(oF:Int)(s:BY)(x y:LG):Bool:=jU oF x y&&(bp 1 (dA (gi y 3).sV.data.toList s.data.toList:Int)&&bp (dA (gi y 3).sV.data.toList s.data.toList:Int) 2)
def alh{a b:LG}{oF:Int}{s:BY}(ha:d_ a)(hb:d_ b)(g:(gi a 3).sV.size<=100)(k:s.size<=100):EB [.l [a],.l [[.s s]],.l [b],.l [[.i oF]]]=some [.t (gW oF s b a)]:=by
 refine aa.toEq ?_;unfold EB gW;dsimp +instances only[go_sem];refine aa.cE (UB g k) ?_;dsimp +instances only[go_sem];simp only[ha.1,hb.1];refine aa.cE (Fg oF hb ha) ?_;dsimp +instances only[go_sem];refine aa.test (fun h=>aa.test (fun d=>aa.some ?_) fun d=>aa.some ?_) fun h=>aa.some ?_
 ·rw[h,d]; rfl
 ·rw[h,d]; rfl
 ·rw[h]; rfl
def ali{b:LG}{oF:Int}{s:BY}(hb:d_ b)(y:s.size<=100){q:LL}(I:∀ z∈q,d_ z/\(gi z 3).sV.size<=100)(hn:q.length<=1000){c:BY}:EC [.l [[.s c,.l q]],.l [b],.s s,.i oF]=some [.t (q.any (gW oF s b))]:=by
 refine aa.toEq ?_;unfold EC;dsimp +instances only[go_sem];simp only[hb.1];refine aa.call (P:=fun g=>g=[.t (q.any (gW oF s b))]) ?_ ?_
 ·unfold Ju
  dsimp +instances only[go_sem];simp only[hb.1];refine aa.call (P:=fun g=>g=[.i (jX (ef (fun j=>gW oF s b (q.getD j [])) q.length 0))]) ?_ ?_
  ·unfold Jt
   dsimp +instances only[go_sem];simp only[hb.1];have M:=uP (st:=AQ) (mk:=fun i=>[.l q,.l [[.s s]],.l [b],.l [[.i oF]],.i (q.length:Int),.i (i:Int)]) (p:=fun j=>gW oF s b (q.getD j [])) (out:=fun i=>[.i (i:Int)]) (n:=q.length) (fun i hi=>by
     have d:=I _ (iu (z:=[]) hi);unfold AQ;dsimp +instances only[go_sem];simp only[aR,d.1.1,hb.1];refine aa.p (aa.p ?_);refine aa.call (P:=fun g=>g=[.t (gW oF s b (q.getD i []))]) (aa.eq (alh d.1 hb d.2 y)) ?_;rintro _ rfl;refine aa.test (fun h=>aa.some (.inl ⟨h,rfl⟩)) fun h=>aa.p (aa.some (.inr ⟨h,rfl⟩))) (by
     refine aa.toEq ?_;unfold AQ;dsimp +instances only[go_sem];exact aa.n (aa.some rfl)) q.length 0 (by omega)
   refine aa.loop (M.to (by omega)) rfl ?_;rintro x g (⟨rfl,v,k,rfl⟩|⟨rfl,k⟩)
   ·rw [k]
    exact aa.pos rfl (aa.some rfl)
   ·rw [k]
    exact aa.neg rfl (aa.some rfl)
  ·rintro _ rfl
   refine aa.some ?_;rw[<-Kw (gW oF s b) [] q];cases ef (fun j=>gW oF s b (q.getD j [])) q.length 0 with
   |none=>rfl
   | some v =>
    show [G.t (bp 0 (v:Int))]=[.t true]
    rw[eX,dE (by omega)]
 ·rintro _ rfl
  exact aa.some rfl
def FO{n:Nat}(h1:n<100):mN [.i (n:Int)]=some [.s (kf (n:Int))]:=by
 refine aa.toEq ?_;unfold mN;dsimp +instances only[go_sem];exact aa.p (aa.some rfl)
section
variable {L:LL} {C:Nat->BY} {A:Nat->LL} (R:ml L C A) {ab:Nat} (ho:ab<L.length) {oF:Int}
include R
omit R in
def oW(L:LL)(C:Nat->BY)(A:Nat->LL)(ab:Nat)(oF d:Int)(x:LG):BY :=
 bif (d==4)&&(A (jX (iD L C (gi x 3).sV)).toNat).any (gW oF (C ab) x) then (gi x 3).sV else C ab
def yh(L:LL)(C:Nat->BY)(A:Nat->LL)(ab:Nat)(oF:Int)(r:LG)(j:Nat):LL :=
 bif mU (gi r 1).iV then [[.s (kf (j:Int)),.s (oW L C A ab oF (gi r 1).iV ((A ab).getD j []))]] else []
def mV(L:LL)(C:Nat->BY)(A:Nat->LL)(ab:Nat)(oF:Int)(d:LL):Nat->LL
 |0=>[]
 |i+1=>mV L C A ab oF d i++yh L C A ab oF (d.getD i []) i
omit R in
theorem FP(d:LL):∀ i,(mV L C A ab oF d i).length<=i
 |0=>aM _
 | i+1=>by
  have:=FP d i;rw[mV,fu];unfold yh;cases mU (gi (d.getD i []) 1).iV<;>simp<;>omega
include ho
theorem alj{q:LL}(hl:q.length=(A ab).length){i:Nat}(hi:i<q.length){d:Int}{w:BY}{v:Int}(hr:q.getD i []=[.i (i:Int),.i d,.s w,.i v])
  (h4:d=4->∃ k:Nat,k<L.length/\iD L C (gi ((A ab).getD i []) 3).sV=some k) {out:LL} (hout:out.length<=i) :
  xC [.l out,.l L,.s (C ab),.i oF,.i (ab:Int),.l q,.i (q.length:Int),.i (i:Int)] =
   some (none,[.l (out++yh L C A ab oF [.i (i:Int),.i d,.s w,.i v] i),.l L,.s (C ab),.i oF,.i (ab:Int),.l q,.i (q.length:Int),.i ((i+1:Nat):Int)]):=by
 have hna:=R.na ab ho;have W:=R.jk.mem (i:=ab) (j:=i) ho (by omega);have hbx:yh L C A ab oF [.i (i:Int),.i d,.s w,.i v] i=bif mU d then [[.s (kf (i:Int)),.s (oW L C A ab oF d ((A ab).getD i []))]] else []:=rfl
 rw[hbx];refine aa.toEq ?_;unfold xC;dsimp +instances only[go_sem];simp only[aR,hr,R.get ab ho];dsimp +instances only[go_sem];simp only[aR];refine aa.p (aa.p ?_);refine aa.cE (alf d) ?_;dsimp +instances only[go_sem];refine aa.test (fun h=>?_) fun h=>?_
 ·have O : mU d = false := by simpa using h
  rw[O];refine aa.p (aa.p (aa.some ?_));show _=(none,[G.l (out++[]),.l L,.s (C ab),.i oF,.i (ab:Int),.l q,.i (q.length:Int),.i ((i+1:Nat):Int)])
  rw[da];rfl
 have O:mU d=true:=by simpa using h
 rw[O];refine aa.p (aa.p ?_);refine aa.test (fun I=>?_) fun I=>?_
 ·obtain ⟨k, U, V⟩ := h4 (by simpa using I)
  obtain⟨_,_,y⟩:=uO V;have y:C k=(gi ((A ab).getD i []) 3).sV:=of_decide_eq_true y;have N:oW L C A ab oF d ((A ab).getD i [])=bif (A k).any (gW oF (C ab) ((A ab).getD i [])) then (gi ((A ab).getD i []) 3).sV else C ab:=by
   unfold oW;rw[I,V,jI];show (bif (A ((k:Int)).toNat).any _ then _ else _)=_
   rw[aR]
  rw[N];refine aa.call (Br R.jk _) ?_;rintro _ ⟨p,b,rfl,hT,hF⟩;dsimp +instances only[go_sem];have hb:b=true:=by
   cases b with
   |true=>rfl
   |false=>exact absurd y (hF rfl k U)
  obtain⟨M,hpe⟩:=hT hb;have:=R.jk.inj M U (hpe.trans y.symm);subst this;refine aa.pos hb ?_;simp only[aR,R.get p M,W.1.1];refine aa.p ?_;refine aa.call (P:=fun g=>g=[.t ((A p).any (gW oF (C ab) ((A ab).getD i [])))]) (aa.eq (ali W.1 (Kh (R.call ab ho)) (fun z hzz=>R.jk.iv p M z hzz) (by have:=R.na p M; omega))) ?_;rintro _ rfl;dsimp +instances only[go_sem];generalize (A p).any (gW oF (C ab) ((A ab).getD i []))=t;refine aa.tail (P:=fun x g=>x=0/\g=[.l out,.i (i:Int),.i d,.s w,.i v,.l L,.s (C ab),.i oF,.i (ab:Int),.s (bif t then (gi ((A ab).getD i []) 3).sV else C ab),.l q,.i (q.length:Int),.i (i:Int)]) ?_ (by(first|rfl|assumption|(simp only[ay,sl]<;>omega))) ?_
  ·unfold ED
   dsimp +instances only[go_sem];cases t with
   |true=>exact aa.pos rfl (aa.p (aa.some ⟨0,rfl,rfl,rfl⟩))
   |false=>exact aa.neg rfl (aa.p (aa.some ⟨0,rfl,rfl,rfl⟩))
  ·rintro _ _ ⟨rfl, rfl⟩
   dsimp +instances only[go_sem];refine aa.cE (FO (by omega)) ?_;dsimp +instances only[go_sem];exact aa.p (aa.p (aa.p (aa.some rfl)))
 ·have N:oW L C A ab oF d ((A ab).getD i [])=C ab:=by
   unfold oW;rw[I];rfl
  rw[N];refine aa.cE (FO (by omega)) ?_;dsimp +instances only[go_sem];exact aa.p (aa.p (aa.p (aa.some rfl)))
omit R ho in
theorem inO(v:Int):oQ [.i v,.i 1,.i 2]=some [.t (bp 1 v&&bp v 2)]:=JR v 1 2
theorem U3{k:Nat}(O:k<L.length){x:LG}(U:c9 x)(hxM:d_ x)(n I v len M:Int)(w:BY)(out N:LL):∀(d j:Nat) (q:BY),j+d=(A k).length->(q=C ab\/q=(gi x 3).sV) ->
  a6 xM [.s (C ab),.l (A ab),.l out,.i n,.i I,.s w,.i v,.i (gi x 0).iV,.i (gi x 1).iV,.s (gi x 2).sV,.s (gi x 3).sV,.i (gi x 4).iV,.i (gi x 5).iV,.s (gi x 6).sV,.s (gi x 7).sV,.l L,.s (C ab),.i oF,.s q,.l N,.i len,.i M,.l (A k),.i ((A k).length:Int),.i (j:Int)] (d+1)
   fun e g=>e=0/\g=[.s (C ab),.l (A ab),.l out,.i n,.i I,.s w,.i v,.l L,.s (C ab),.i oF,.s (bif ((A k).drop j).any (gW oF (C ab) x) then (gi x 3).sV else q),.l N,.i len,.i M]
 | 0,j,q,hj,_=>by
  refine a6.stop (x:=0) (aa.toEq ?_) ⟨rfl,rfl⟩;unfold xM;dsimp +instances only[go_sem];refine aa.n (aa.p (aa.some ?_));rw[List.drop_of_length_le (by omega)];rfl
 | d+1,j,q,hj,hw=>by
  have hna:=R.na k O;have hy:=R.iv k O _ (iu (z:=[]) (by omega:j<(A k).length));have hym:=R.jk.mem (i:=k) (j:=j) O (by omega);have hdrop:(A k).drop j=(A k).getD j []::(A k).drop (j+1):=by
   rw[cd,bZ (by omega),m_];exact Vu (by omega)
  have hsz:(gi ((A k).getD j []) 3).sV.size<=12:=by
   obtain⟨t,m,b,c,s,h,y,z,e,_,_,_,_,_,k6,_⟩:=hy;rw[e];exact FL k6
  have hso:(C ab).size<=12:=FL (R.call ab ho);have hxm:d_ [.i (gi x 0).iV,.i (gi x 1).iV,.s (gi x 2).sV,.s (gi x 3).sV,.i (gi x 4).iV,.i (gi x 5).iV,.s (gi x 6).sV,.s (gi x 7).sV]:=by
   obtain⟨t,m,b,c,s,h,y,z,rfl,_⟩:=U;exact hxM
  have hxe:∀ y,gW oF (C ab) [.i (gi x 0).iV,.i (gi x 1).iV,.s (gi x 2).sV,.s (gi x 3).sV,.i (gi x 4).iV,.i (gi x 5).iV,.s (gi x 6).sV,.s (gi x 7).sV] y=gW oF (C ab) x y:=fun y=>by
   obtain⟨t,m,b,c,s,h,y2,z,rfl,_⟩:=U;rfl
  have step:xM [.s (C ab),.l (A ab),.l out,.i n,.i I,.s w,.i v,.i (gi x 0).iV,.i (gi x 1).iV,.s (gi x 2).sV,.s (gi x 3).sV,.i (gi x 4).iV,.i (gi x 5).iV,.s (gi x 6).sV,.s (gi x 7).sV,.l L,.s (C ab),.i oF,.s q,.l N,.i len,.i M,.l (A k),.i ((A k).length:Int),.i (j:Int)] =
    some (none,[.s (C ab),.l (A ab),.l out,.i n,.i I,.s w,.i v,.i (gi x 0).iV,.i (gi x 1).iV,.s (gi x 2).sV,.s (gi x 3).sV,.i (gi x 4).iV,.i (gi x 5).iV,.s (gi x 6).sV,.s (gi x 7).sV,.l L,.s (C ab),.i oF,.s (bif gW oF (C ab) x ((A k).getD j []) then (gi x 3).sV else q),.l N,.i len,.i M,.l (A k),.i ((A k).length:Int),.i ((j+1:Nat):Int)]):=by
   refine aa.toEq ?_;rw[<-hxe];unfold xM gW;dsimp +instances only[go_sem];simp only[aR,hym.1.1];refine aa.p (aa.p ?_);refine aa.cE (Kj oF hxm hym.1) ?_;dsimp +instances only[go_sem];refine aa.test (fun V=>?_) fun V=>?_
   ·rw [V]
    refine aa.cE (UF (by omega)) ?_;refine aa.cE (inO _) ?_;dsimp +instances only[go_sem];refine aa.test (fun W=>?_) fun W=>?_
    ·rw [W]
     exact aa.p (aa.p (aa.some rfl))
    ·rw [W]
     exact aa.p (aa.p (aa.some rfl))
   ·rw [V]
    exact aa.p (aa.p (aa.some rfl))
  refine a6.next step ?_
  rw[hdrop,ta];have ih:=U3 O U hxM n I v len M w out N d (j+1) (bif gW oF (C ab) x ((A k).getD j []) then (gi x 3).sV else q) (by omega) (by cases gW oF (C ab) x ((A k).getD j [])<;>first|exact .inr rfl|exact hw);refine ih.mono ?_;rintro e g ⟨rfl,rfl⟩;refine⟨rfl,?_⟩;cases gW oF (C ab) x ((A k).getD j [])<;>cases ((A k).drop (j+1)).any (gW oF (C ab) x)<;>rfl
theorem alm{q:LL}(hl:q.length=(A ab).length){i:Nat}(hi:i<q.length){d:Int}{w:BY}{v:Int}(V:q.getD i []=[.i (i:Int),.i d,.s w,.i v])
  (W:d=4->∃ k:Nat,k<L.length/\iD L C (gi ((A ab).getD i []) 3).sV=some k) {out:LL} (hout:out.length<=i) :
  xN [.s (C ab),.l (A ab),.l out,.l L,.s (C ab),.i oF,.l q,.i (q.length:Int),.i (i:Int)] =
   some (none,[.s (C ab),.l (A ab),.l (out++yh L C A ab oF [.i (i:Int),.i d,.s w,.i v] i),.l L,.s (C ab),.i oF,.l q,.i (q.length:Int),.i ((i+1:Nat):Int)]):=by
 have hna:=R.na ab ho;have hz:=R.iv ab ho _ (iu (z:=[]) (by omega:i<(A ab).length));have U:yh L C A ab oF [.i (i:Int),.i d,.s w,.i v] i=bif mU d then [[.s (kf (i:Int)),.s (oW L C A ab oF d ((A ab).getD i []))]] else []:=rfl
 rw[U];refine aa.toEq ?_;unfold xN;dsimp +instances only[go_sem];simp only[aR,V];refine aa.p (aa.p ?_);refine aa.call (P:=fun g=>g=[.t (mU d)]) (aa.eq (alg (i:Int) d w v)) ?_;rintro _ rfl;dsimp +instances only[go_sem];refine aa.test (fun h=>?_) fun h=>?_
 ·have N : mU d = false := by simpa using h
  rw[N];refine aa.p (aa.p (aa.some ?_));show _=(none,[G.s (C ab),.l (A ab),.l (out++[]),.l L,.s (C ab),.i oF,.l q,.i (q.length:Int),.i ((i+1:Nat):Int)])
  rw[da];rfl
 have N:mU d=true:=by simpa using h
 rw[N];simp only[aR];refine aa.p ?_;refine aa.test (fun y=>?_) fun y=>?_
 ·obtain ⟨k, M, O⟩ := W (by simpa using y)
  have hnk:=R.na k M;have I:oW L C A ab oF d ((A ab).getD i [])=bif (A k).any (gW oF (C ab) ((A ab).getD i [])) then (gi ((A ab).getD i []) 3).sV else C ab:=by
   unfold oW;rw[y,O,jI];show (bif (A ((k:Int)).toNat).any _ then _ else _)=_
   rw[aR]
  rw[I];refine aa.call (P:=fun g=>g=[.i (k:Int)]) (aa.eq (by rw[yf R,O]; rfl)) ?_;rintro _ rfl;dsimp +instances only[go_sem];simp only[aR,R.get k M];dsimp +instances only[go_sem];refine aa.p ?_;refine aa.loop ((U3 R ho M hz (R.jk.mem (i:=ab) (j:=i) ho (by omega)).1 (i:Int) d v (q.length:Int) (i:Int) w out q (A k).length 0 (C ab) (by omega) (.inl rfl)).to (by omega)) (by first|rfl|simp) ?_;rintro e g ⟨rfl,rfl⟩;dsimp +instances only[go_sem];refine aa.cE (FO (by omega)) ?_;dsimp +instances only[go_sem];exact aa.p (aa.p (aa.p (aa.some rfl)))
 ·have I:oW L C A ab oF d ((A ab).getD i [])=C ab:=by
   unfold oW;rw[y];rfl
  rw[I];refine aa.cE (FO (by omega)) ?_;dsimp +instances only[go_sem];exact aa.p (aa.p (aa.p (aa.some rfl)))
theorem U4{h:LL}(k:h.length=(A ab).length)(q:∀ j,j<h.length->nZ L C A ab j (h.getD j [])):∀(d i:Nat),i+d=h.length ->
  a6 xC [.l (mV L C A ab oF h i),.l L,.s (C ab),.i oF,.i (ab:Int),.l h,.i (h.length:Int),.i (i:Int)] (d+1) fun x g=>x=0/\g=[.l (mV L C A ab oF h h.length)]
 | 0,i,hi=>by
  refine a6.stop (x:=0) (aa.toEq ?_) ⟨rfl,rfl⟩;unfold xC;dsimp +instances only[go_sem];refine aa.n (aa.p (aa.some ?_));rw[show i=h.length by omega]
 | d+1,i,hi=>by
  obtain⟨N,w,v,y,_,_,M⟩:=q i (by omega);have I:=U4 k q d (i+1) (by omega);rw[mV,y]at I;exact a6.next (alj R ho k (by omega) y M (FP h i)) I
theorem U5{h:LL}(k:h.length=(A ab).length)(q:∀ j,j<h.length->nZ L C A ab j (h.getD j [])):∀(d i:Nat),i+d=h.length ->
  a6 xN [.s (C ab),.l (A ab),.l (mV L C A ab oF h i),.l L,.s (C ab),.i oF,.l h,.i (h.length:Int),.i (i:Int)] (d+1) fun x g=>x=0/\g=[.l (mV L C A ab oF h h.length)]
 | 0,i,hi=>by
  refine a6.stop (x:=0) (aa.toEq ?_) ⟨rfl,rfl⟩;unfold xN;dsimp +instances only[go_sem];refine aa.n (aa.p (aa.some ?_));rw[show i=h.length by omega]
 | d+1,i,hi=>by
  obtain⟨N,w,v,y,_,_,M⟩:=q i (by omega);have I:=U5 k q d (i+1) (by omega);rw[mV,y]at I;exact a6.next (alm R ho k (by omega) y M (FP h i)) I
end
section
variable {L:LL} {C:Nat->BY} {A:Nat->LL} (R:ml L C A) {ab:Nat} (ho:ab<L.length) {oF:Int} (h0:0<=oF) (h1:oF<=3600000)
include R ho h0 h1
theorem aln(bT:l7 [.l L]=some [.i 0]):xD [.l L,.s (C ab),.i oF]=some [.l (mV L C A ab oF (ch L C A ab oF (A ab).length) (A ab).length),.i 0]:=by
 have v:=R.na ab ho;have d:=nW L C A ab oF (A ab).length;have h:=uQ R ho oF (A ab).length;have k:=Kz R ho h0 h1 bT;generalize ch L C A ab oF (A ab).length=q at d h k;refine aa.toEq ?_;unfold xD;dsimp +instances only[go_sem];refine aa.call (P:=fun g=>g=[.l q,.i (ab:Int),.i 0]) (aa.eq k) ?_;rintro _ rfl;dsimp +instances only[go_sem];refine aa.neg rfl ?_;refine aa.loop ((U4 R ho d (fun j y=>h j (by omega)) q.length 0 (by omega)).to (by omega)) rfl ?_;rintro _ _ ⟨rfl,rfl⟩;dsimp +instances only[go_sem];rw[d];exact aa.p (aa.some rfl)
theorem alo:E9 [.l L,.s (C ab),.i oF]=some [.l (mV L C A ab oF (ch L C A ab oF (A ab).length) (A ab).length)]:=by
 have v:=R.na ab ho;have hn:=R.n;have d:=nW L C A ab oF (A ab).length;have h:=uQ R ho oF (A ab).length;have k:=Ky R ho h0 h1;generalize ch L C A ab oF (A ab).length=q at d h k;refine aa.toEq ?_;unfold E9;dsimp +instances only[go_sem];refine aa.call (P:=fun g=>g=[.i (ab:Int)]) (aa.eq (by rw[yf R (C ab),pQ R.jk ho rfl]; rfl)) ?_;rintro _ rfl;dsimp +instances only[go_sem];simp only[aR,R.get ab ho];dsimp +instances only[go_sem];refine aa.p ?_;refine aa.call (P:=fun g=>g=[.l q]) (aa.eq k) ?_;rintro _ rfl;dsimp +instances only[go_sem];refine aa.loop ((U5 R ho d (fun j y=>h j (by omega)) q.length 0 (by omega)).to (by omega)) rfl ?_;rintro _ _ ⟨rfl,rfl⟩;dsimp +instances only[go_sem];rw[d];exact aa.p (aa.some rfl)
end
def KB(l:LL)(hn:l.length<=100000):uC [.l l,.l l]=some [.t true]:=by
 have r:=wQ (st:=A') (σ:=Unit) (fun _ i=>[.l l,.l l,.i (l.length:Int),.i (i:Int)]) l (fun _=>(1,[])) (fun _ _=>True) () (by omega) trivial
  (fun _ i x _ hi d hm _ => by
   unfold A';dsimp +instances only[go_sem];simp only[aR,d];refine aa.p (aa.p (aa.p (aa.neg ?_ (aa.p (aa.some ⟨(),rfl,trivial⟩)))));rw[I2 _ _ rfl];rfl)
  (fun _ _ => by
   unfold A';dsimp +instances only[go_sem];exact aa.n (aa.some rfl))
 refine aa.toEq ?_;unfold uC;dsimp +instances only[go_sem];refine aa.neg (by simp) ?_;refine aa.loop r rfl ?_;rintro c g ⟨_,_,rfl,rfl⟩;exact aa.neg rfl (aa.some rfl)
def alp{L:LL}{s:BY}{oF e:Int}(h:kg [.l L,.s s,.i oF]=some [.l [],.i 0,.i e])(he:e≠0) :
  xz [.l L,.s s,.i oF]=some [.l [],.i e]/\xB [.l L,.s s,.i oF]=some [.l [],.i e]/\xD [.l L,.s s,.i oF]=some [.l [],.i e]:=by
 refine⟨?_,?_,?_⟩
 ·refine aa.toEq ?_
  unfold xz;dsimp +instances only[go_sem];refine aa.call (P:=fun g=>g=[.l [],.i 0,.i e]) (aa.eq h) ?_;rintro _ rfl;exact aa.pos (by show (e != 0)=true; simpa using he) (aa.some rfl)
 ·refine aa.toEq ?_
  unfold xB;dsimp +instances only[go_sem];refine aa.call (P:=fun g=>g=[.l [],.i 0,.i e]) (aa.eq h) ?_;rintro _ rfl;exact aa.pos (by show (e != 0)=true; simpa using he) (aa.some rfl)
 ·refine aa.toEq ?_
  unfold xD;dsimp +instances only[go_sem];refine aa.call (P:=fun g=>g=[.l [],.i 0,.i e]) (aa.eq h) ?_;rintro _ rfl;exact aa.pos (by show (e != 0)=true; simpa using he) (aa.some rfl)
def alq(rZ:LL):JK [.l rZ]=some [.t true]:=by
 refine aa.toEq ?_;unfold JK;dsimp +instances only[go_sem];refine aa.call (akm rZ) ?_;rintro _ ⟨q,Y,m,rfl,q0,q1,m0,M,hY,V⟩;dsimp +instances only[go_sem];obtain⟨C,hC⟩:∃ C:Nat->BY,C=fun i=>(gi (Y.getD i []) 0).sV:=⟨_,rfl⟩
 obtain⟨A,hA⟩:∃ A:Nat->LL,A=fun i=>(gi (Y.getD i []) 1).rZ:=⟨_,rfl⟩
 have hA16:∀ i,i<Y.length->(A i).length<=16:=fun i hi=>by
  obtain⟨c,L,h,W,g3,g4⟩:=V i (by omega);rw[hA];show (gi (Y.getD i []) 1).rZ.length<=16
  rw[h];exact g4
 have R:Bx Y C A:=by
  rw[hC,hA];refine⟨fun i hi=>?_,by omega,fun i hi z hz=>?_,fun i hi=>?_,fun i hi=>?_⟩<;>obtain⟨c,L,h,W,g3,g4⟩:=V i (by omega)
  ·rw [h]
   rfl
  ·rw [h] at hz
   exact g3 z hz
  ·rw [h]
   show L.length<=40
   omega
  ·rw [h]
   exact W
 refine aa.call (ak2 rZ q q0 (by omega)) ?_;rintro _ ⟨oF,rfl⟩;dsimp +instances only[go_sem];refine aa.call (JN (fun _=>True) rZ (q+1) _ (by omega) (by omega) (by simp) (by simp) (fun _ _=>trivial)) ?_;rintro _ ⟨s,rfl,_⟩;dsimp +instances only[go_sem];have I:=ak4 R s oF;rcases ak5 R s oF with⟨he,hfd⟩|⟨he,bT,k,h0,h1,ab,ho,rfl⟩
 ·obtain ⟨v, y, b3⟩ := alp hfd he
  generalize mT Y C A s oF=e at he I v y b3;refine aa.call (P:=fun g=>g=[.l [],.i e]) (aa.eq v) ?_;rintro _ rfl;refine aa.call (P:=fun g=>g=[.l [],.i e]) (aa.eq y) ?_;rintro _ rfl;refine aa.call (P:=fun g=>g=[.l [],.i e]) (aa.eq b3) ?_;rintro _ rfl;refine aa.call (P:=fun g=>g=[.i e]) (aa.eq I) ?_;rintro _ rfl;dsimp +instances only[go_sem];have h1:=KB [] (by simp);have h2:=UX [] (by simp);refine aa.neg (by show (e==0)=false; simpa using he) (aa.pos (by simp) ?_);refine aa.cE h1 ?_;refine aa.pos rfl (aa.pos (by simp) ?_);refine aa.cE h1 ?_;refine aa.pos rfl (aa.pos (by simp) ?_);refine aa.cE h2 ?_;refine aa.pos rfl ?_;refine aa.cE UP ?_;exact aa.some rfl
 ·rw [he] at I
  have hn:(A ab).length<=20:=by have:=hA16 ab ho; omega
  have N:=ak7 k ho h0 h1 bT;have O:=ak8 k ho h0 h1;have M:=ald k ho h0 h1 hn bT;have U:=ale k ho h0 h1 hn;have v:=aln k ho h0 h1 bT;have y:=alo k ho h0 h1;have hl:=nW Y C A ab oF (A ab).length;generalize ch Y C A ab oF (A ab).length=d at N O M U v y hl;have e1:=KB (iW A ab d (A ab).length) (by have:=FN (A:=A) (ab:=ab) d (A ab).length; omega);have e2:=KB (uR Y C A ab d) (by
   have h1:=yg (L:=Y) (C:=C) (A:=A) (ab:=ab) d d.length;have h2:=uj (bK dw) (iX Y C A ab d d.length);have h3:(fV nN (cR (bK dw) (iX Y C A ab d d.length))).length<=(cR (bK dw) (iX Y C A ab d d.length)).length:=DS _ _;unfold uR;omega)
  have e3:=UX (mV Y C A ab oF d (A ab).length) (by have:=FP (L:=Y) (C:=C) (A:=A) (ab:=ab) (oF:=oF) d (A ab).length; omega);generalize iW A ab d (A ab).length=rv at N O e1;generalize uR Y C A ab d=rm at M U e2;generalize mV Y C A ab oF d (A ab).length=rb at v y e3;refine aa.call (P:=fun g=>g=[.l rv,.i 0]) (aa.eq N) ?_;rintro _ rfl;refine aa.call (P:=fun g=>g=[.l rm,.i 0]) (aa.eq M) ?_;rintro _ rfl;refine aa.call (P:=fun g=>g=[.l rb,.i 0]) (aa.eq v) ?_;rintro _ rfl;refine aa.call (P:=fun g=>g=[.i 0]) (aa.eq I) ?_;rintro _ rfl;dsimp +instances only[go_sem];refine aa.pos rfl ?_;refine aa.call (P:=fun g=>g=[.l rv]) (aa.eq O) ?_;rintro _ rfl;refine aa.call (P:=fun g=>g=[.l rm]) (aa.eq U) ?_;rintro _ rfl;refine aa.call (P:=fun g=>g=[.l rb]) (aa.eq y) ?_;rintro _ rfl;refine aa.pos rfl ?_;refine aa.cE e1 ?_;refine aa.pos rfl (aa.pos rfl ?_);refine aa.cE e2 ?_;refine aa.pos rfl (aa.pos rfl ?_);refine aa.cE e3 ?_;refine aa.pos rfl ?_;refine aa.cE UP ?_;exact aa.some rfl
end
end Go.Proofs.iQ
