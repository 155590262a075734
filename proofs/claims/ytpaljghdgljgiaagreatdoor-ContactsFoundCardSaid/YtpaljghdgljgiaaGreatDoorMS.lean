/-
 What is proved here: what both checks tell of two logs,and of all logs that were sent in. No condition.
-/
import Derived.Test.YtpaljghdgljgiaaGreatDoorMF
set_option linter.all false
open Array renaming length_toList->iw
open Bool renaming and_eq_true->aL,true_and->j9,false_or->uG,eq_iff_iff->mM,and_false->xW,false_and->Bq,or_false->oL,beq_comm->akN,or_eq_false_iff->Uk
open ByteArray renaming data->akK
open Classical renaming choose_spec->akL
open Go.ByteArray renaming toList_eq->qH
open Go.Lib renaming compareBytes->gI,toList_data->oM
open Go.Op renaming bytesLess->lj
open Int renaming toNat_natCast->a6,add_zero->akR
open List renaming length_cons->cd,append_nil->dJ,append_assoc->gG,length_map->c9,getElem?_eq_getElem->bY,getElem?_set_self->bB,getElem?_set_ne->bf,all_eq_true->dK,getD_eq_getElem?_getD->cu,mem_cons->cq,length_take->j7,length_set->iv,length_append->fX,mem_append->c_,mem_cons_self->cW,mem_singleton->l_,any_eq_true->lq,length_nil->j_,length->Bn,not_mem_nil->oK,find?_cons_of_neg->J3,find?_cons_of_pos->T_,pairwise_cons->sR,any_cons->uN,any_nil->J8,any_eq_false->Ui,reverse_cons->qI,reverse_reverse->akM,any_append->Uj,countP_le_length->akO,countP_append->akP,countP_singleton->akQ,take_length->Kg
open Nat renaming le_refl->aQ,le_trans->kJ,zero_le->eR,zero_add->cP,beq->ar,beq_refl->iM,succ_le_succ->Bv,le_antisymm->Fp,le_total->mN
open Option.some renaming inj->jd
open UInt8 renaming not_lt->uM
namespace Go.Proofs.jq
open Go Go.AL Go.Proofs
noncomputable section
theorem Jv(oF:Int):DO [.i oF]=some [.i (bif d_ oF 0 3600000 then 0 else 1)]:=by
 refine aa.toEq ?_;unfold DO;dsimp +instances only[gd,Aa,Ab,Ac,Ad,Ae,Af,Ag];refine aa.cE (AM oF 0 3600000) ?_;cases d_ oF 0 3600000<;>exact aa.some rfl
theorem aia(oF:Int):D9 [.i oF]=some [.i (bif d_ oF 0 3600000 then 0 else 1)]:=by
 refine aa.toEq ?_;unfold D9;dsimp +instances only[gd,Aa,Ab,Ac,Ad,Ae,Af,Ag];refine aa.cE (Rv oF 0 3600000) ?_;cases d_ oF 0 3600000<;>exact aa.some rfl
section
variable {a b:BY} (ha:a∈calls) (hb:b∈calls) {A B:LL} (hA:∀ z∈A,dZ z) (hB:∀ z∈B,dZ z) (na:A.length<100000) (nb:B.length<100000)
include ha hb hA hB na nb
end
structure A4 (L:LL) (C:Nat->BY) (A:Nat->LL):Prop where
 get:∀ i,i<L.length->L.getD i []=[.s (C i),.l (A i)]
 n:L.length<=40
 jZ:∀ i,i<L.length->∀ z∈A i,dZ z
 na:∀ i,i<L.length->(A i).length<=40
 call:∀ i,i<L.length->C i∈calls
def mG(C:Nat->BY)(i:Nat):Bool:=lj (C i).toList (C (i-1)).toList||((C i).toList==(C (i-1)).toList)
def kG(C:Nat->BY)(A:Nat->LL)(i:Nat):Int :=
 bif !jr (C i) then 3 else bif ax 0 (i:Int)&&mG C i then 7 else jY (C i) (A i)
def ir(C:Nat->BY)(A:Nat->LL):Nat->Nat->Int
 |0,_=>0
 |k+1,i=>if kG C A i≠0 then kG C A i else ir C A k (i+1)
section
variable {L:LL} {C:Nat->BY} {A:Nat->LL} (R:A4 L C A)
include R
theorem aib{i:Nat}(hi:i<L.length):DF [.l [[.i (i:Int)]],.l [[.s (C i),.l (A i)]],.l [[.l L]]]=some [.i (bif ax 0 (i:Int)&&mG C i then 7 else 0)]:=by
 have g:=R.n;refine aa.toEq ?_;unfold DF;dsimp +instances only[gd,Aa,Ab,Ac,Ad,Ae,Af,Ag];refine aa.test (fun h=>?_) fun h=>?_
 ·rw [h]
  rw[cB,dT]at h;have e:((i:Int)-1).toNat=i-1:=by omega
  have d:=R.get (i-1) (by omega);simp only[e,d];dsimp +instances only[gd,Aa,Ab,Ac,Ad,Ae,Af,Ag];refine aa.p (aa.p ?_);show aa (bif mG C i then some ([.i 7]:LG) else some ([.i 0]:LG)) _
  cases mG C i<;>exact aa.some rfl
 ·rw [h]
  exact aa.some rfl
theorem aic{i:Nat}(hi:i<L.length):DN [.l [[.s (C i),.l (A i)]],.l [[.i (i:Int)]],.l [[.s (C i),.l (A i)]],.l [[.l L]]]=some [.i (kG C A i)]:=by
 have d:=R.na i hi;refine aa.toEq ?_;unfold DN kG jY;dsimp +instances only[gd,Aa,Ab,Ac,Ad,Ae,Af,Ag];refine aa.cE (Rx (R.call i hi)) ?_;dsimp +instances only[gd,Aa,Ab,Ac,Ad,Ae,Af,Ag];cases jr (C i)with
 |false=>exact aa.some rfl
 | true =>
  refine aa.neg rfl ?_;refine aa.cE (aib R hi) ?_;dsimp +instances only[gd,Aa,Ab,Ac,Ad,Ae,Af,Ag];cases ax 0 (i:Int)&&mG C i with
  |true=>exact aa.some rfl
  | false =>
   refine aa.neg rfl ?_;refine aa.cE (ag8 (A i) (R.jZ i hi) (by omega)) ?_;dsimp +instances only[gd,Aa,Ab,Ac,Ad,Ae,Af,Ag];cases lQ (A i) != 0 with
   |true=>exact aa.some rfl
   | false =>
    refine aa.neg rfl ?_;refine aa.call (aa.eq (Si (C:=DM) (c:=C i) (A:=A i) (fun z g=>by
     refine aa.toEq ?_;unfold DM;dsimp +instances only[gd,Aa,Ab,Ac,Ad,Ae,Af,Ag];exact aa.some rfl) (A i) (R.jZ i hi) (by omega))) ?_
    rintro _ rfl;dsimp +instances only[gd,Aa,Ab,Ac,Ad,Ae,Af,Ag];cases mF (C i) (A i)<;>exact aa.some rfl
theorem S9:∀(k i:Nat),i+k=L.length->aX wP [.l L,.l L,.i (L.length:Int),.i (i:Int)] (k+1) fun x g=>(x=0/\g=[.i (ir C A k i)])\/x=1/\ir C A k i=0
 | 0,i,hi=>by
  refine aX.stop (x:=1) (d':=[]) (aa.toEq ?_) (.inr ⟨rfl,rfl⟩);unfold wP;dsimp +instances only[gd,Aa,Ab,Ac,Ad,Ae,Af,Ag];exact aa.n (aa.some rfl)
 | k+1,i,hi=>by
  have q:=R.n;have d:=S9 k (i+1) (by omega);have step:aa (wP [.l L,.l L,.i (L.length:Int),.i (i:Int)]) fun o=>(o=(some 0,[.i (kG C A i)])/\kG C A i≠0)\/o=(none,[.l L,.l L,.i (L.length:Int),.i ((i:Int)+1)])/\kG C A i=0:=by
   unfold wP;dsimp +instances only[gd,Aa,Ab,Ac,Ad,Ae,Af,Ag];simp only[a6,R.get i (by omega:i<L.length)];refine aa.p (aa.p ?_);refine aa.cE (aic R (i:=i) (by omega)) ?_;dsimp +instances only[gd,Aa,Ab,Ac,Ad,Ae,Af,Ag];exact aa.test (fun h=>aa.some (.inl ⟨rfl,by simpa using h⟩)) fun h=>aa.p (aa.some (.inr ⟨rfl,by simpa using h⟩))
  obtain⟨o,h,⟨rfl,he⟩|⟨rfl,he⟩⟩:=step
  ·exact aX.stop h (.inl ⟨rfl,by rw[ir,iP he]⟩)
  ·refine aX.next h (d.mono ?_)
   rw[ir,iN (by simpa using he)];exact fun x g h=>h
theorem S_:∀(k i:Nat),i+k=L.length->aX xc [.l L,.l L,.i (L.length:Int),.i (i:Int)] (k+1) fun x g=>(x=0/\g=[.i (ir C A k i)])\/x=1/\ir C A k i=0
 | 0,i,hi=>by
  refine aX.stop (x:=1) (d':=[]) (aa.toEq ?_) (.inr ⟨rfl,rfl⟩);unfold xc;dsimp +instances only[gd,Aa,Ab,Ac,Ad,Ae,Af,Ag];exact aa.n (aa.some rfl)
 | k+1,i,hi=>by
  have M:=R.n;have q:=S_ k (i+1) (by omega);have I:=R.na i (by omega);have step:aa (xc [.l L,.l L,.i (L.length:Int),.i (i:Int)]) fun o=>(o=(some 0,[.i (kG C A i)])/\kG C A i≠0)\/o=(none,[.l L,.l L,.i (L.length:Int),.i ((i:Int)+1)])/\kG C A i=0:=by
   unfold xc kG;dsimp +instances only[gd,Aa,Ab,Ac,Ad,Ae,Af,Ag];simp only[a6,R.get i (by omega:i<L.length)];dsimp +instances only[gd,Aa,Ab,Ac,Ad,Ae,Af,Ag];refine aa.p (aa.p ?_);refine aa.cE (IY (R.call i (by omega))) ?_;dsimp +instances only[gd,Aa,Ab,Ac,Ad,Ae,Af,Ag];cases jr (C i)with
   |false=>exact aa.some (.inl ⟨rfl,by show (3:Int)≠0; decide⟩)
   | true =>
    refine aa.neg rfl ?_;simp only[Bool.not_true,cF];refine aa.test (fun d=>?_) fun d=>?_
    ·rw [d, j9]
     rw[cB,dT]at d;have e:((i:Int)-1).toNat=i-1:=by omega
     have v:=R.get (i-1) (by omega);simp only[e,v];dsimp +instances only[gd,Aa,Ab,Ac,Ad,Ae,Af,Ag];refine aa.p (aa.p ?_);have y:(lj (C i).toList (C (i-1)).toList||((C i).toList==(C (i-1)).toList))=mG C i:=rfl;rw[y];cases mG C i with
     |true=>exact aa.some (.inl ⟨rfl,by show (7:Int)≠0; decide⟩)
     | false =>
      refine aa.neg rfl ?_;refine aa.cE (Sj (L:=A i) (R.call i (by omega)) (R.jZ i (by omega)) (by omega)) ?_;dsimp +instances only[gd,Aa,Ab,Ac,Ad,Ae,Af,Ag];exact aa.test (fun h=>aa.some (.inl ⟨rfl,by simpa using h⟩)) fun h=>aa.p (aa.some (.inr ⟨rfl,by simpa using h⟩))
    ·rw [d, Bq, cF]
     refine aa.cE (Sj (L:=A i) (R.call i (by omega)) (R.jZ i (by omega)) (by omega)) ?_;dsimp +instances only[gd,Aa,Ab,Ac,Ad,Ae,Af,Ag];exact aa.test (fun h=>aa.some (.inl ⟨rfl,by simpa using h⟩)) fun h=>aa.p (aa.some (.inr ⟨rfl,by simpa using h⟩))
  obtain⟨o,h,⟨rfl,he⟩|⟨rfl,he⟩⟩:=step
  ·exact aX.stop h (.inl ⟨rfl,by rw[ir,iP he]⟩)
  ·refine aX.next h (q.mono ?_)
   rw[ir,iN (by simpa using he)];exact fun x g h=>h
theorem S':oy [.l L]=some [.i (ir C A L.length 0)]:=by
 have d:=R.n;refine aa.toEq ?_;unfold oy;dsimp +instances only[gd,Aa,Ab,Ac,Ad,Ae,Af,Ag];refine aa.n ?_;refine aa.loop ((S9 R L.length 0 (by omega)).to (by omega)) rfl ?_;rintro x g (⟨rfl,rfl⟩|⟨rfl,h⟩)
 ·exact aa.pos rfl (aa.some rfl)
 ·rw [h]
  exact aa.neg rfl (aa.some rfl)
theorem aid:D8 [.l L]=some [.i (ir C A L.length 0)]:=by
 have d:=R.n;refine aa.toEq ?_;unfold D8;dsimp +instances only[gd,Aa,Ab,Ac,Ad,Ae,Af,Ag];refine aa.n ?_;refine aa.loop ((S_ R L.length 0 (by omega)).to (by omega)) rfl ?_;rintro x g (⟨rfl,rfl⟩|⟨rfl,h⟩)
 ·exact aa.pos rfl (aa.some rfl)
 ·rw [h]
  exact aa.neg rfl (aa.some rfl)
end
def jy:BY:=⟨#[107,49,97,98]⟩
def gT:BY:=⟨#[119,49,97,119]⟩
def sx(t:Int)(c:BY)(s h:Int):LG:=[.i t,.i 1,.s ⟨#[98]⟩,.s c,.i s,.i h,.s ⟨#[]⟩,.s ⟨#[]⟩]
def sD:LL:=[[.s jy,.l [sx 5 gT 1 2]],[.s gT,.l [sx 9 jy 2 1]]]
def lX(i:Nat):BY:=if i=0 then jy else gT
def dV(i:Nat):LL:=if i=0 then [sx 5 gT 1 2] else [sx 9 jy 2 1]
theorem EU:k_ sD lX dV:=by
 have d:∀ i,i<sD.length->i=0\/i=1:=fun i hi=>by
  have:i<2:=hi;omega
 refine⟨fun i hi=>?_,by decide,fun i hi z g=>?_,fun i hi=>?_,fun i hi=>?_,fun i j y k=>?_⟩
 ·rcases d i hi with rfl|rfl<;>rfl
 ·rcases d i hi with rfl | rfl
  ·rw [l_.1 g]
   exact⟨⟨rfl,by decide,by decide⟩,by decide⟩
  ·rw [l_.1 g]
   exact⟨⟨rfl,by decide,by decide⟩,by decide⟩
 ·rcases d i hi with rfl|rfl<;>decide
 ·rcases d i hi with rfl|rfl<;>decide
 ·have k : j < 2 := k
  have q:i=0:=by omega
  have v:j=1:=by omega
  subst q v;have h:ax (eP jy gT) 0=true:=by kernel_rfl
  rw[cB,dT]at h;exact h
theorem aie:A4 sD lX dV:=by
 have g:∀ i,i<sD.length->i=0\/i=1:=fun i hi=>by
  have:i<2:=hi;omega
 have d:∀ n:Int,0<=n->n<=9->small n:=fun n h1 y=>⟨by omega,by omega⟩
 have hb:(⟨#[98]⟩:BY)∈kF:=oB (by kernel_rfl);have q:jy∈calls:=oB (by kernel_rfl);have v:gT∈calls:=oB (by kernel_rfl);have h:(⟨#[]⟩:BY)∈names:=oB (by kernel_rfl);refine⟨fun i hi=>?_,by decide,fun i hi z k=>?_,fun i hi=>?_,fun i hi=>?_⟩
 ·rcases g i hi with rfl|rfl<;>rfl
 ·rcases g i hi with rfl | rfl
  ·rw [l_.1 k]
   exact⟨_,_,_,_,_,_,_,_,rfl,d _ (by decide) (by decide),d _ (by decide) (by decide),d _ (by decide) (by decide),d _ (by decide) (by decide),hb,v,h,h⟩
  ·rw [l_.1 k]
   exact⟨_,_,_,_,_,_,_,_,rfl,d _ (by decide) (by decide),d _ (by decide) (by decide),d _ (by decide) (by decide),d _ (by decide) (by decide),hb,q,h,h⟩
 ·rcases g i hi with rfl|rfl<;>decide
 ·rcases g i hi with rfl | rfl
  ·exact q
  ·exact v
theorem Ta{c:BY}{r:LG}(h1:jr c=true)(d:iH r=0) (g:((gi r 3).sV.toList==c.toList)=false):jY c [r]=0:=by
 have h:lQ [r]=0:=by
  unfold lQ;rw[iN (by simp)];unfold jt;rw[iN (by rw[d]; simp)];rfl
 have ho:mF c [r]=false:=by
  unfold mF;rw[uN,g];rfl
 unfold jY;rw[h1,h,ho];rfl
theorem aif:oy [.l sD]=some [.i 0]:=by
 have d:(gT.toList==jy.toList)=false:=by rw[k9]; exact decide_eq_false fun e=>by have:=congrArg akK e; revert this; decide
 have k:(jy.toList==gT.toList)=false:=by rw[k9]; exact decide_eq_false fun e=>by have:=congrArg akK e; revert this; decide
 have g:jr jy=true:=by kernel_rfl
 have h:jr gT=true:=by kernel_rfl
 have q:jY jy [sx 5 gT 1 2]=0:=Ta g (by kernel_rfl) d;have v:jY gT [sx 9 jy 2 1]=0:=Ta h (by kernel_rfl) k;have y:mG lX 1=false:=by
  show (lj gT.toList jy.toList||(gT.toList==jy.toList))=false
  rw[d,qH,qH]
  kernel_rfl
 have I:kG lX dV 0=0:=by
  show (bif !jr jy then 3 else bif ax 0 0&&mG lX 0 then 7 else jY jy [sx 5 gT 1 2])=(0:Int)
  rw[g,q];rfl
 have M:kG lX dV 1=0:=by
  show (bif !jr gT then 3 else bif ax 0 1&&mG lX 1 then 7 else jY gT [sx 9 jy 2 1])=(0:Int)
  rw[h,y,v];rfl
 rw[S' aie];have:ir lX dV 2 0=0:=by
  rw[ir,iN (by rw[I]; simp),ir,iN (by rw[M]; simp)];rfl
 rw[show sD.length=2 from rfl,this]
theorem aih{c:BY}(h:c∈kF):c.size<=1000:=by
 have d:kF.all (fun c=>Nat.ble c.size 1000)=true:=by kernel_rfl
 simpa using dK.1 d c h
theorem EW{z:LG}(h:dZ z)(g:iH z=0):eU z/\Sm (bR z):=by
 obtain⟨h1,d,_⟩:=Sz.1 g;unfold d_ at h1 d;simp only[eY,aL,dT]at h1 d;refine⟨⟨h.eta,by unfold iX; omega,by unfold iX; omega⟩,⟨?_,?_,?_⟩⟩
 ·show 0 <= (gi z 1).iV
  omega
 ·show (gi z 1).iV <= 9
  omega
 ·obtain ⟨t, m, b, c, s, k, x, y, rfl, _, _, _, _, hb, _⟩ := h
  exact aih hb
theorem aii{a b:BY}{A B:LL}(hA:∀ z∈A,dZ z)(hB:∀ z∈B,dZ z)(na:A.length<=100)(nb:B.length<=100)(k:jY a A=0)(q:jY b B=0):uv A B:=by
 have g:∀ z∈A,iH z=0:=Jm (Je k);have h:∀ z∈B,iH z=0:=Jm (Je q);exact⟨⟨fun z d=>(EW (hA z d) (g z d)).1,fun z d=>(EW (hB z d) (h z d)).1,by omega,by omega⟩,fun z d=>(EW (hA z d) (g z d)).2,fun z d=>(EW (hB z d) (h z d)).2,by omega,by omega⟩
theorem aij(a:LL)(h:a.length<=1048576):wM [.l a]=some [.l a]:=by
 refine aa.toEq ?_;unfold wM;dsimp +instances only[gd,Aa,Ab,Ac,Ad,Ae,Af,Ag];refine aa.test (fun h1=>?_) fun h1=>?_
 ·unfold It
  dsimp +instances only[gd,Aa,Ab,Ac,Ad,Ae,Af,Ag];(repeat first|refine aa.p ?_|refine aa.n ?_);exact aa.some rfl
 ·have:a=[]:=by
   cases a with
   |nil=>rfl
   | cons x a =>
    have d:Nat.blt 0 (x::a).length=true:=by rw[Nat.blt_eq]; simp
    rw[d]at h1;cases h1
  subst this;exact aa.some rfl
def Tb(r:LG):Prop:=∃(c:BY) (L:LL),r=[.s c,.l L]/\c∈calls/\(∀ z∈L,dZ z)/\L.length<=15
theorem aik:∀ i,i<4->C4.getD i ⟨#[]⟩∈calls:=by
 intro i hi;have g:C4.all (fun c=>nv calls c)=true:=by kernel_rfl
 have d:i<C4.length:=hi;rw[cu,bY d];exact oB (dK.1 g _ (List.getElem_mem d))
theorem ail{l X:LL}{p:Int}(p0:0<=p)(p1:p<=2000){m:Nat}(m0:1<=m)(m1:m<=4)(y:X.length=m)(hX:∀ i,i<m->Tb (X.getD i []))(f:Bool) :
  aa (zU [.l l,.i p,.l X,.t f]) fun o=>∃(q:Int) (Y:LL),o=(some 0,[.l l,.i q,.l Y])/\0<=q/\q<=3000/\Y.length=m/\∀ i,i<m->∃(c:BY) (L:LL),Y.getD i []=[.s c,.l L]/\c∈calls/\(∀ z∈L,dZ z)/\L.length<=16:=by
 unfold zU;dsimp +instances only[gd,Aa,Ab,Ac,Ad,Ae,Af,Ag];cases f with
 | false =>
  refine aa.neg rfl (aa.pos (by simp) (aa.some ⟨p,X,rfl,p0,by omega,y,fun i hi=>?_⟩));obtain⟨c,L,h1,g,h,V⟩:=hX i hi;exact⟨c,L,h1,g,h,by omega⟩
 | true =>
  refine aa.pos rfl ?_;refine aa.call (ui l p (X.length:Int) p0 (by omega) (by omega) (by omega)) ?_;rintro _ ⟨v,rfl,W,v1⟩;obtain⟨k,rfl⟩:=Int.eq_ofNat_of_zero_le W;have hk:k<m:=by omega
  obtain⟨c,L,hc,g,h,V⟩:=hX k hk;dsimp +instances only[gd,Aa,Ab,Ac,Ad,Ae,Af,Ag];simp only[a6,cP,hc];dsimp +instances only[gd,Aa,Ab,Ac,Ad,Ae,Af,Ag];refine aa.p (aa.pos (dE (by omega)) ?_);refine aa.call (IT (fun v=>v∈calls) l (p+1) _ (by omega) (by omega) (by simp) (by simp) (fun x O=>by
   simp only[cq,oK,or_false]at O;rcases O with rfl|rfl|rfl|rfl
   ·exact g
   ·exact oB (by kernel_rfl)
   ·exact oB (by kernel_rfl)
   ·exact oB (by kernel_rfl))) ?_
  rintro _ ⟨s,rfl,hs⟩;dsimp +instances only[gd,Aa,Ab,Ac,Ad,Ae,Af,Ag];have e1:eo [.str,.list [.I,.I,.str,.str,.I,.I,.str,.str]] [G.s c,.l L] 0 [.s s]=[.s s,.l L]:=rfl;have hg:(X.set k [.s s,.l L]).getD k []=[.s s,.l L]:=by
   rw[cu,bB (by omega)];rfl
  simp only[e1,hg,iv,List.set_set];dsimp +instances only[gd,Aa,Ab,Ac,Ad,Ae,Af,Ag];refine aa.pos (dE (by omega)) (aa.pos (dE (by omega)) ?_);refine aa.cE (aij L (by omega)) ?_;refine aa.call (qt 0 100000 l (p+1+1) _ (by omega) (by omega) (by kernel_rfl) (by kernel_rfl)) ?_;rintro _ ⟨t,rfl,ht⟩;dsimp +instances only[gd,Aa,Ab,Ac,Ad,Ae,Af,Ag];refine aa.call (ag2 l (p+1+1+1) t (by omega) (by omega) (by unfold uj; omega)) ?_;rintro _ ⟨q,r,rfl,q0,q1,U⟩;dsimp +instances only[gd,Aa,Ab,Ac,Ad,Ae,Af,Ag];have he:a8 [.I,.I,.str,.str,.I,.I,.str,.str] r=r:=U.to.eta;have e2:∀ M:LL,eo [.str,.list [.I,.I,.str,.str,.I,.I,.str,.str]] [G.s s,.l L] 1 [.l M]=[.s s,.l M]:=fun _=>rfl;simp only[he,e2];refine aa.pos (by rw[iM,j9,dT]; omega) (aa.pos (by rw[iM,j9,dT]; omega) (aa.pos (by rw[iM]; rfl) (aa.some ⟨q,_,rfl,by omega,by omega,by rw[iv]; exact y,fun i hi=>?_⟩)));by_cases N:k=i
  ·subst N
   refine⟨s,L++[r],?_,hs,fun z d=>?_,by simp; omega⟩
   ·rw [cu, bB (by omega)]
    rfl
   ·rcases c_.1 d with d | d
    ·exact h z d
    ·rw [l_.1 d]
     exact U.to
  ·obtain ⟨c', L', g1, g2, g3, g4⟩ := hX i hi
   refine⟨c',L',?_,g2,g3,by omega⟩;rw[cu,bf N,<-cu];exact g1
theorem aim(l:LL):aa (DD [.l l,.i 0]) fun g=>∃(q:Int) (Y:LL) (m:Nat),g=[.l l,.i q,.l Y]/\0<=q/\q<=3000/\1<=m/\m<=4/\Y.length=m/\∀ i,i<m->∃(c:BY) (L:LL),Y.getD i []=[.s c,.l L]/\c∈calls/\(∀ z∈L,dZ z)/\L.length<=16:=by
 unfold DD;dsimp +instances only[gd,Aa,Ab,Ac,Ad,Ae,Af,Ag];refine aa.call (ahB l) ?_;rintro _ ⟨p,X,m,rfl,p0,p1,d,h,k,hX⟩;dsimp +instances only[gd,Aa,Ab,Ac,Ad,Ae,Af,Ag];have y:∀ i,i<m->Tb (X.getD i []):=fun i hi=>by
  obtain⟨L,h1,I,U⟩:=hX i hi;exact⟨_,L,h1,aik i (by omega),fun z M=>(I z M).1,by omega⟩
 refine aa.pos (by rw[cB]; exact dE (by omega)) ?_;refine aa.call (AJ l p 12 p0 (by omega) (by omega) (by omega)) ?_;rintro _ ⟨f,rfl⟩;dsimp +instances only[gd,Aa,Ab,Ac,Ad,Ae,Af,Ag];obtain⟨o,ho,q,Y,rfl,N,O,hY,v⟩:=ail (l:=l) (p:=p+1) (by omega) (by omega) d h k y f;refine aa.tail (P:=fun u g=>u=0/\g=[.l l,.i q,.l Y]) ⟨_,ho,0,rfl,rfl,rfl⟩ (by first|rfl|simp) ?_;rintro _ _ ⟨rfl,rfl⟩;dsimp +instances only[gd,Aa,Ab,Ac,Ad,Ae,Af,Ag];exact aa.pos (by simp) (aa.some ⟨q,Y,m,rfl,N,O,d,h,hY,v⟩)
section
variable {α:Type}
inductive Al:List α->List α->Nat->Prop where
 |nil:Al [] [] 0
 |del (x:α) {a b:List α} {n:Nat}:Al a b n->Al (x::a) b (n+1)
 |ins (y:α) {a b:List α} {n:Nat}:Al a b n->Al a (y::b) (n+1)
 |same (x:α) {a b:List α} {n:Nat}:Al a b n->Al (x::a) (x::b) n
 |sub (x y:α) {a b:List α} {n:Nat}:Al a b n->Al (x::a) (y::b) (n+1)
 |swp (x y:α) {a b:List α} {n:Nat}:Al a b n->Al (x::y::a) (y::x::b) (n+1)
theorem Al.ain(z:α){a b:List α}{n:Nat}(h:Al a b n):Al (a++[z]) b (n+1):=by
 induction h with
 |nil=>exact .del z .nil
 |del x _ d=>exact .del x d
 |ins y _ d=>exact .ins y d
 |same x _ d=>exact .same x d
 |sub x y _ d=>exact .sub x y d
 |swp x y _ d=>exact .swp x y d
theorem Al.aio(z:α){a b:List α}{n:Nat}(h:Al a b n):Al a (b++[z]) (n+1):=by
 induction h with
 |nil=>exact .ins z .nil
 |del x _ d=>exact .del x d
 |ins y _ d=>exact .ins y d
 |same x _ d=>exact .same x d
 |sub x y _ d=>exact .sub x y d
 |swp x y _ d=>exact .swp x y d
theorem Al.aip(z:α){a b:List α}{n:Nat}(h:Al a b n):Al (a++[z]) (b++[z]) n:=by
 induction h with
 |nil=>exact .same z .nil
 |del x _ d=>exact .del x d
 |ins y _ d=>exact .ins y d
 |same x _ d=>exact .same x d
 |sub x y _ d=>exact .sub x y d
 |swp x y _ d=>exact .swp x y d
theorem Al.aiq(z w:α){a b:List α}{n:Nat}(h:Al a b n):Al (a++[z]) (b++[w]) (n+1):=by
 induction h with
 |nil=>exact .sub z w .nil
 |del x _ d=>exact .del x d
 |ins y _ d=>exact .ins y d
 |same x _ d=>exact .same x d
 |sub x y _ d=>exact .sub x y d
 |swp x y _ d=>exact .swp x y d
theorem Al.air(z w:α){a b:List α}{n:Nat}(h:Al a b n):Al (a++[z,w]) (b++[w,z]) (n+1):=by
 induction h with
 |nil=>exact .swp z w .nil
 |del x _ d=>exact .del x d
 |ins y _ d=>exact .ins y d
 |same x _ d=>exact .same x d
 |sub x y _ d=>exact .sub x y d
 |swp x y _ d=>exact .swp x y d
theorem Al.rev{a b:List α}{n:Nat}(h:Al a b n):Al a.reverse b.reverse n:=by
 induction h with
 |nil=>exact .nil
 |del x _ d=>rw[qI]; exact d.ain x
 |ins y _ d=>rw[qI]; exact d.aio y
 |same x _ d=>rw[qI,qI]; exact d.aip x
 |sub x y _ d=>rw[qI,qI]; exact d.aiq x y
 | swp x y _ d =>
  rw[qI,qI,qI,qI,gG,gG];exact d.air y x
theorem Al.some:∀ a b:List α,Al a b (a.length+b.length)
 | [],[]=>.nil
 | [],y::b=>by
  have:=Al.some [] b;simp only[j_,cP]at this;rw[j_,cP,cd];exact .ins y this
 | x::a,b=>by
  have:=Al.some a b;rw[cd,Nat.add_right_comm];exact .del x this
def Tc(a b:List α)(m:Nat):Prop:=Al a b m/\∀ n,Al a b n->m<=n
theorem Jw(a b:List α):∃ m,Tc a b m:=by
 have key:∀ k n,Al a b n->n<=k->∃ m,Tc a b m:=by
  intro k
  induction k with
  | zero =>
   intro n h g;have:n=0:=by omega
   subst this;exact⟨0,h,fun _ _=>eR _⟩
  | succ k q =>
   intro n h g;by_cases hm:∃ m,Al a b m/\m<=k
   ·obtain ⟨m, h1, d⟩ := hm
    exact q m h1 d
   ·refine ⟨n, h, fun m h1 => ?_⟩
    by_cases d:m<=k
    ·exact(hm ⟨m,h1,d⟩).elim
    ·omega
 exact key _ _ (Al.some a b) (aQ _)
def dI(a b:List α):Nat:=Classical.choose (Jw a b)
theorem pF(a b:List α):Al a b (dI a b):=(akL (Jw a b)).1
theorem kH{a b:List α}{n:Nat}(h:Al a b n):dI a b<=n:=(akL (Jw a b)).2 n h
theorem ais(a b:List α):dI a.reverse b.reverse=dI a b:=by
 refine Fp (kH (pF a b).rev) ?_;have h:=(pF a.reverse b.reverse).rev;rw[akM,akM]at h;exact kH h
theorem ait{a b:List α}{n:Nat}(h:Al a b n):a=[]->b.length<=n:=by
 induction h with
 |nil=>intro _; exact aQ _
 | ins y _ d =>
  intro e;have:=d e;rw[cd];omega
 |del x _ _=>intro e; cases e
 |same x _ _=>intro e; cases e
 |sub x y _ _=>intro e; cases e
 |swp x y _ _=>intro e; cases e
theorem aiu{a b:List α}{n:Nat}(h:Al a b n):b=[]->a.length<=n:=by
 induction h with
 |nil=>intro _; exact aQ _
 | del y _ d =>
  intro e;have:=d e;rw[cd];omega
 |ins x _ _=>intro e; cases e
 |same x _ _=>intro e; cases e
 |sub x y _ _=>intro e; cases e
 |swp x y _ _=>intro e; cases e
theorem Td(b:List α):dI [] b=b.length:=by
 refine Fp ?_ (ait (pF [] b) rfl);have:=kH (Al.some [] b);simpa using this
theorem Te(a:List α):dI a []=a.length:=by
 refine Fp ?_ (aiu (pF a []) rfl);have:=kH (Al.some a []);simpa using this
theorem Tf{x y:α}{a b:List α}{V:Nat}(h1:V<=dI a (y::b)+1)(k:V<=dI (x::a) b+1)(q:V<=dI a b+1)(v:x=y->V<=dI a b)(I:∀ d g,a=y::d->b=x::g->V<=dI d g+1)
  (M:V=dI a (y::b)+1\/V=dI (x::a) b+1\/V=dI a b+1\/(x=y/\V=dI a b)\/∃ d g,a=y::d/\b=x::g/\V=dI d g+1):dI (x::a) (y::b)=V:=by
 refine Fp ?_ ?_
 ·rcases M with rfl | rfl | rfl | ⟨rfl, rfl⟩ | ⟨d, g, rfl, rfl, rfl⟩
  ·exact kH (.del x (pF _ _))
  ·exact kH (.ins y (pF _ _))
  ·exact kH (.sub x y (pF _ _))
  ·exact kH (.same x (pF _ _))
  ·exact kH (.swp _ _ (pF _ _))
 ·have key:∀ n,Al (x::a) (y::b) n->V<=n:=by
   intro n h;cases h with
   |del _ h=>exact kJ h1 (Bv (kH h))
   |ins _ h=>exact kJ k (Bv (kH h))
   |same _ h=>exact kJ (v rfl) (kH h)
   |sub _ _ h=>exact kJ q (Bv (kH h))
   |swp _ _ h=>exact kJ (I _ _ rfl rfl) (Bv (kH h))
  exact key _ (pF _ _)
end
def a_(a:BY)(i:Nat):UInt8:=a.data.toList.getD i 0
def preB(a:BY)(i:Nat):List UInt8:=(a.data.toList.take i).reverse
theorem EX(a:BY):preB a 0=[]:=rfl
theorem A5{a:BY}{i:Nat}(h:i<a.size):preB a (i+1)=a_ a i::preB a i:=by
 have d:i<a.data.toList.length:=by rw[iw]; exact h
 unfold preB a_;rw[List.take_add_one,cu,bY d];simp
theorem EY{a:BY}{i:Nat}(h:i<=a.size):(preB a i).length=i:=by
 have d:i<=a.data.toList.length:=by rw[iw]; exact h
 unfold preB;rw[List.length_reverse,j7];omega
def bZ(a b:BY)(i k:Nat):Nat:=dI (preB a i) (preB b k)
theorem EZ{a b:BY}{i k:Nat}(hi:i<=a.size)(d:k<=b.size):bZ a b i k<=i+k:=by
 have:=kH (Al.some (preB a i) (preB b k));rw[EY hi,EY d]at this;exact this
theorem aiv{a b:BY}{k:Nat}(d:k<=b.size):bZ a b 0 k=k:=by
 unfold bZ;rw[EX,Td,EY d]
theorem aiw{a b:BY}{i:Nat}(hi:i<=a.size):bZ a b i 0=i:=by
 unfold bZ;rw[EX,Te,EY hi]
def gU(x y:UInt8):Nat:=if x=y then 0 else 1
theorem aix{a b:BY}{i k:Nat}(hi:i<a.size)(hk:k<b.size):bZ a b (i+1) (k+1) =
  (if 1 <= i /\ 1 <= k /\ a_ a i = a_ b (k - 1) /\ a_ a (i - 1) = a_ b k then min (min (min (bZ a b i (k + 1) + 1) (bZ a b (i + 1) k + 1)) (bZ a b i k + gU (a_ a i) (a_ b k))) (bZ a b (i - 1) (k - 1) + 1)
   else min (min (bZ a b i (k+1)+1) (bZ a b (i+1) k+1)) (bZ a b i k+gU (a_ a i) (a_ b k))):=by
 have e1:preB a (i+1)=a_ a i::preB a i:=A5 hi;have e2:preB b (k+1)=a_ b k::preB b k:=A5 hk;have c1:dI (preB a i) (a_ b k::preB b k)=bZ a b i (k+1):=by unfold bZ; rw[e2]
 have c2:dI (a_ a i::preB a i) (preB b k)=bZ a b (i+1) k:=by unfold bZ; rw[e1]
 have U:dI (preB a i) (preB b k)=bZ a b i k:=rfl;have c4:∀ d g,preB a i=a_ b k::d->preB b k=a_ a i::g->(1<=i/\1<=k/\a_ a i=a_ b (k-1)/\a_ a (i-1)=a_ b k)/\dI d g=bZ a b (i-1) (k-1):=fun d g h1 v=>by
  cases i with
  |zero=>rw[EX]at h1; cases h1
  | succ i =>
   cases k with
   |zero=>rw[EX]at v; cases v
   | succ k =>
    rw[A5 (by omega)]at h1 v;injection h1 with O y
    injection v with q h6
    exact⟨⟨by omega,by omega,q.symm,O⟩,by rw[<-y,<-h6]; rfl⟩
 have c5:(1<=i/\1<=k/\a_ a i=a_ b (k-1)/\a_ a (i-1)=a_ b k)->∃ d g,preB a i=a_ b k::d/\preB b k=a_ a i::g/\dI d g=bZ a b (i-1) (k-1):=fun⟨h1,v,O,y⟩=>by
  obtain⟨i,rfl⟩:∃ j,i=j+1:=⟨i-1,by omega⟩
  obtain⟨k,rfl⟩:∃ j,k=j+1:=⟨k-1,by omega⟩
  have O:a_ a (i+1)=a_ b k:=O;have y:a_ a i=a_ b (k+1):=y;exact⟨preB a i,preB b k,by rw[A5 (by omega),y],by rw[A5 (by omega),O],rfl⟩
 have main:∀ V,V<=bZ a b i (k+1)+1->V<=bZ a b (i+1) k+1->V<=bZ a b i k+gU (a_ a i) (a_ b k)->((1<=i/\1<=k/\a_ a i=a_ b (k-1)/\a_ a (i-1)=a_ b k)->V<=bZ a b (i-1) (k-1)+1) ->
   (V=bZ a b i (k+1)+1\/V=bZ a b (i+1) k+1\/V=bZ a b i k+gU (a_ a i) (a_ b k)\/((1<=i/\1<=k/\a_ a i=a_ b (k-1)/\a_ a (i-1)=a_ b k)/\V=bZ a b (i-1) (k-1)+1))->bZ a b (i+1) (k+1)=V:=fun V h1 v O y q=>by
  have hc:gU (a_ a i) (a_ b k)<=1:=by unfold gU; split<;>omega
  show dI (preB a (i+1)) (preB b (k+1))=V
  rw[e1,e2];refine Tf (by rw[c1]; exact h1) (by rw[c2]; exact v) (by rw[U]; omega) (fun e=>by rw[U]; have:gU (a_ a i) (a_ b k)=0:=iP e; omega) (fun d g I M=>?_) ?_
  ·obtain ⟨N, g4⟩ := c4 d g I M
   rw[g4];exact y N
  ·rcases q with q | q | q | ⟨q, h6⟩
   ·exact .inl (by rw[c1]; exact q)
   ·exact .inr (.inl (by rw[c2]; exact q))
   ·by_cases e : a_ a i = a_ b k
    ·have : gU (a_ a i) (a_ b k) = 0 := iP e
     exact .inr (.inr (.inr (.inl ⟨e,by rw[U]; omega⟩)))
    ·have : gU (a_ a i) (a_ b k) = 1 := iN e
     exact .inr (.inr (.inl (by rw[U]; omega)))
   ·obtain ⟨d, g, I, M, N⟩ := c5 q
    exact .inr (.inr (.inr (.inr ⟨d,g,I,M,by rw[N]; exact h6⟩)))
 by_cases W:1<=i/\1<=k/\a_ a i=a_ b (k-1)/\a_ a (i-1)=a_ b k
 ·rw [iP W]
  refine main _ (by omega) (by omega) (by omega) (fun _=>by omega) ?_;rcases mN (bZ a b i (k+1)+1) (bZ a b (i+1) k+1)with I|I<;>rcases mN (bZ a b i (k+1)+1) (bZ a b i k+gU (a_ a i) (a_ b k))with M|M<;>rcases mN (bZ a b (i+1) k+1) (bZ a b i k+gU (a_ a i) (a_ b k))with N|N <;>
   rcases mN (bZ a b i (k+1)+1) (bZ a b (i-1) (k-1)+1)with g4|g4<;>rcases mN (bZ a b (i+1) k+1) (bZ a b (i-1) (k-1)+1)with g5|g5<;>rcases mN (bZ a b i k+gU (a_ a i) (a_ b k)) (bZ a b (i-1) (k-1)+1)with g6|g6 <;>
   first|exact .inl (by omega)|exact .inr (.inl (by omega))|exact .inr (.inr (.inl (by omega)))|exact .inr (.inr (.inr ⟨W,by omega⟩))
 ·rw [iN W]
  refine main _ (by omega) (by omega) (by omega) (fun h=>(W h).elim) ?_;rcases mN (bZ a b i (k+1)+1) (bZ a b (i+1) k+1)with I|I<;>rcases mN (bZ a b i (k+1)+1) (bZ a b i k+gU (a_ a i) (a_ b k))with M|M<;>rcases mN (bZ a b (i+1) k+1) (bZ a b i k+gU (a_ a i) (a_ b k))with N|N <;>
   first|exact .inl (by omega)|exact .inr (.inl (by omega))|exact .inr (.inr (.inl (by omega)))
structure gV (a b:BY) (m i k:Nat) (r:LL):Prop where
 len:r.length=m
 val:∀ j,j<k->j<m->r.getD j []=[.i (bZ a b i j:Int)]
theorem gV.set{a b:BY}{m i k:Nat}{r:LL}(h:gV a b m i k r){v:Int}(d:v=(bZ a b i k:Int)):gV a b m i (k+1) (r.set k [.i v]):=by
 refine⟨by rw[iv,h.len],fun j g hm=>?_⟩;by_cases e:k=j
 ·subst e
  rw[cu,bB (by rw[h.len]; exact hm),d];rfl
 ·rw[cu,bf e,<-cu,h.val j (by omega) hm]
theorem gV.zero(a b:BY)(m i:Nat):gV a b m i 0 (List.replicate m [.i 0]):=⟨List.length_replicate ..,fun j d=>by omega⟩
def Jx(r0 r1 r2:LL)(a b:BY)(i k m:Nat)(h q v y:Int)(x:Nat)(g:LG):Prop :=
 x=0/\∃ d:LL,g=[.l r0,.l r1,.l r2,.l d,.s a,.s b,.i (i:Int),.i h,.i q,.i v,.i y]/\gV a b m i (k+1) d
theorem xI(x y:UInt8):(((x.toNat:Nat):Int)==((y.toNat:Nat):Int))=decide (x=y):=by
 rw[mM,beq_iff_eq,dT];constructor
 ·intro h
  exact UInt8.toNat_inj.1 (by omega)
 ·rintro rfl
  rfl
def xJ(a b:BY)(i k:Nat):Nat:=min (min (bZ a b (i-1) k+1) (bZ a b i (k-1)+1)) (bZ a b (i-1) (k-1)+gU (a_ a (i-1)) (a_ b (k-1)))
def sE(a b:BY)(i k:Nat):Bool:=decide (2<=i)&&(decide (2<=k)&&(decide (a_ a (i-1)=a_ b (k-2))&&decide (a_ a (i-2)=a_ b (k-1))))
theorem aiy{a b:BY}{i k:Nat}(v:1<=i)(hi:i<=a.size)(y:1<=k)(I:k<=b.size):bZ a b i k=if sE a b i k=true then min (xJ a b i k) (bZ a b (i-2) (k-2)+1) else xJ a b i k:=by
 obtain⟨i,rfl⟩:∃ j,i=j+1:=⟨i-1,by omega⟩
 obtain⟨k,rfl⟩:∃ j,k=j+1:=⟨k-1,by omega⟩
 rw[aix (by omega) (by omega)];unfold xJ sE;have e:(decide (2<=i+1)&&(decide (2<=k+1)&&(decide (a_ a (i+1-1)=a_ b (k+1-2))&&decide (a_ a (i+1-2)=a_ b (k+1-1)))))=decide (1<=i/\1<=k/\a_ a i=a_ b (k-1)/\a_ a (i-1)=a_ b k):=by
  rw[mM];simp only[aL,dT];constructor
  ·rintro ⟨h1, q, d, g⟩
   exact⟨by omega,by omega,d,g⟩
  ·rintro ⟨h1, q, d, g⟩
   exact⟨by omega,by omega,d,g⟩
 rw[e];by_cases h:1<=i/\1<=k/\a_ a i=a_ b (k-1)/\a_ a (i-1)=a_ b k
 ·rw [iP h, iP (dE h)]
  rfl
 ·rw [iN h, iN (by simp only [dT]; exact h)]
  rfl
theorem aiz{r0 r1 r2 row:LL}{a b:BY}{i k m V:Nat}{h q v y:Int}{f:Bool}(hk:k<m)(d:gV a b m i k row)(I:row.getD k []=[.i (V:Int)])(U:f=true->2<=i/\2<=k/\gV a b m (i-2) m r1) (g:bZ a b i k=if f=true then min V (bZ a b (i-2) (k-2)+1) else V) (hV:V<=2000) (hw:bZ a b (i-2) (k-2)<=2000) (hi:i<=1000) (hm:m<=1000) :
  aa (wY [.l r0,.l r1,.l r2,.l row,.s a,.s b,.i (i:Int),.i (k:Int),.i h,.i q,.i v,.i y,.t f]) fun o=>∃ x,o.1=some x/\Jx r0 r1 r2 a b i k m h q v y x o.2:=by
 unfold wY;dsimp +instances only[gd,Aa,Ab,Ac,Ad,Ae,Af,Ag];cases f with
 | true =>
  obtain⟨h1,h2,M⟩:=U rfl;have N:=M.val (k-2) (by omega) (by omega);have W:((k:Int)).toNat=k:=a6 k;have n2:((k:Int)-2).toNat=k-2:=by omega
  have l1:=d.len;have l2:=M.len;refine aa.pos rfl ?_;simp only[W,n2,cP,I,N,xw];dsimp +instances only[gd,Aa,Ab,Ac,Ad,Ae,Af,Ag];refine aa.p (aa.p (aa.p (aa.p (aa.p (aa.p (aa.p (aa.p ?_)))))));rw[iP rfl]at g;refine aa.some ⟨0,rfl,rfl,_,rfl,d.set ?_⟩;rw[g];split<;>omega
 | false =>
  rw[iN (by simp)]at g;have l1:=d.len;refine aa.neg rfl (aa.p (aa.some ⟨0,rfl,rfl,_,rfl,⟨d.len,fun j hj O=>?_⟩⟩));by_cases e:j=k
  ·rw[e,I,g]
  ·exact d.val j (by omega) O
theorem aiA{r0 r1 r2 row:LL}{a b:BY}{i k m:Nat}{I M N O:Int}(hk1:1<=k)(U:k<m)(hb:m=b.size+1)(hi1:1<=i)(ha:i<=a.size)(q:gV a b m i k row)(h2:gV a b m (i-1) m r2)(h1:2<=i->gV a b m (i-2) m r1)(hi:i<=1000)(hm:m<=1000) :
  aa (wZ [.l r0,.l r1,.l r2,.l row,.s a,.s b,.i (i:Int),.i (k:Int),.i (gU (a_ a (i-1)) (a_ b (k-1)):Int),.i I,.i M,.i N,.i O]) fun o=>∃ x,o.1=some x/\Jx r0 r1 r2 a b i k m I M N O x o.2:=by
 unfold wZ;dsimp +instances only[gd,Aa,Ab,Ac,Ad,Ae,Af,Ag];have hv1:=h2.val k U U;have hv2:=q.val (k-1) (by omega) (by omega);have hv3:=h2.val (k-1) (by omega) (by omega);have b1:=EZ (a:=a) (b:=b) (i:=i-1) (k:=k) (by omega) (by omega);have b2:=EZ (a:=a) (b:=b) (i:=i) (k:=k-1) (by omega) (by omega);have b3:=EZ (a:=a) (b:=b) (i:=i-1) (k:=k-1) (by omega) (by omega);have b4:=EZ (a:=a) (b:=b) (i:=i-2) (k:=k-2) (by omega) (by omega);have hc:gU (a_ a (i-1)) (a_ b (k-1))<=1:=by unfold gU; split<;>omega
 have n1:((k:Int)).toNat=k:=a6 k;have n2:((k:Int)-1).toNat=k-1:=by omega
 have n3:((i:Int)-1).toNat=i-1:=by omega
 have n4:((i:Int)-2).toNat=i-2:=by omega
 have n5:((k:Int)-2).toNat=k-2:=by omega
 have l1:=q.len;have l2:=h2.len;have hE:=aiy hi1 ha hk1 (show k<=b.size by omega);simp only[n1,n2,cP,hv1,hv2,hv3,xw];dsimp +instances only[gd,Aa,Ab,Ac,Ad,Ae,Af,Ag];obtain⟨V,W⟩:∃ V,V=xJ a b i k:=⟨_,rfl⟩
 have hV:(if (bZ a b (i-1) (k-1):Int)+(gU (a_ a (i-1)) (a_ b (k-1)):Int)<(if (bZ a b i (k-1):Int)+1<(bZ a b (i-1) k:Int)+1 then (bZ a b i (k-1):Int)+1 else (bZ a b (i-1) k:Int)+1) then (bZ a b (i-1) (k-1):Int)+(gU (a_ a (i-1)) (a_ b (k-1)):Int) else (if (bZ a b i (k-1):Int)+1<(bZ a b (i-1) k:Int)+1 then (bZ a b i (k-1):Int)+1 else (bZ a b (i-1) k:Int)+1))=(V:Int):=by
  rw[W];unfold xJ;split<;>split<;>omega
 have hV2:V<=2000:=by
  rw[W];unfold xJ;omega
 rw[<-W]at hE;simp only[hV];have hl2:(row.set k [G.i (V:Int)]).length=m:=by rw[iv,q.len]
 have hrow:gV a b m i k (row.set k [.i (V:Int)]):=⟨hl2,fun j hj hjm=>by rw[cu,bf (by omega),<-cu,q.val j hj hjm]⟩
 have hat:(row.set k [G.i (V:Int)]).getD k []=[.i (V:Int)]:=by
  rw[cu,bB (by rw[q.len]; exact U)];rfl
 refine aa.p (aa.p (aa.p (aa.p (aa.p (aa.p (aa.p (aa.p (aa.p (aa.p (aa.p ?_))))))))));have y:∀(f:Bool),f=sE a b i k->aa (bh (ar row.length (row.set k [.i (V:Int)]).length&&true) (dC (wY [.l r0,.l r1,.l r2,.l (row.set k [.i (V:Int)]),.s a,.s b,.i (i:Int),.i (k:Int),.i I,.i M,.i N,.i O,.t f])) fun cg g=>(bif (ar (gi g 3).rZ.length (gi g 3).rZ.length)&&true then some ((some 0:Option Nat),[G.l (gi g 0).rZ,.l (gi g 1).rZ,.l (gi g 2).rZ,.l (gi g 3).rZ,.s (gi g 4).sV,.s (gi g 5).sV,.i (gi g 6).iV,.i (gi g 7).iV,.i (gi g 8).iV,.i (gi g 9).iV,.i (gi g 10).iV]) else none))
   fun o=>∃ x,o.1=some x/\Jx r0 r1 r2 a b i k m I M N O x o.2:=fun f d=>by
  have hsw:f=true->2<=i/\2<=k:=fun h=>by
   rw[h]at d;unfold sE at d;have d:=d.symm;simp only[aL,dT]at d;exact⟨d.1,d.2.1⟩
  refine aa.tail (aiz U hrow hat (fun h=>⟨(hsw h).1,(hsw h).2,h1 (hsw h).1⟩) (by rw[d]; exact hE) hV2 (by omega) hi hm) (by(first|rfl|assumption|(simp only[aB,sl]<;>omega))) ?_;rintro _ _ ⟨rfl,row',rfl,hr'⟩;dsimp +instances only[gd,Aa,Ab,Ac,Ad,Ae,Af,Ag];exact aa.p (aa.some ⟨0,rfl,rfl,row',rfl,hr'⟩)
 refine aa.test (fun g1=>?_) fun g1=>y false (by
  rw[cB,dF]at g1;unfold sE;rw[decide_eq_false (by omega:¬ 2<=i)];rfl)
 rw[cB,dT]at g1;refine aa.test (fun g2=>?_) fun g2=>y false (by
  rw[cB,dF]at g2;unfold sE;rw[decide_eq_false (by omega:¬ 2<=k),Bq,xW])
 rw[cB,dT]at g2;have s1:decide (2<=i)=true:=dE (by omega);have s2:decide (2<=k)=true:=dE (by omega);refine aa.p (aa.p (aa.p (aa.p ?_)));have q1:(((a.data.toList.getD ((i:Int)-1).toNat 0).toNat:Int)==((b.data.toList.getD ((k:Int)-2).toNat 0).toNat:Int))=decide (a_ a (i-1)=a_ b (k-2)):=by rw[n3,n5]; exact xI _ _
 have q2:(((a.data.toList.getD ((i:Int)-2).toNat 0).toNat:Int)==((b.data.toList.getD (k-1) 0).toNat:Int))=decide (a_ a (i-2)=a_ b (k-1)):=by rw[n4]; exact xI _ _
 refine aa.test (fun v=>?_) fun v=>y false (by
  rw[q1]at v;unfold sE;rw[v,Bq,xW,xW])
 rw[q1]at v;refine aa.p (aa.p (aa.p (aa.p ?_)));exact y _ (by
  rw[q2];unfold sE;rw[s1,s2,v];rfl)
theorem Jy{r0 r1 r2 row:LL}{a b:BY}{d g h q:Int}{k:Nat}(v:k<=1000) :
  aa (rQ [.l r0,.l r1,.l r2,.l row,.s a,.s b,.i d,.i g,.i h,.i q,.i (k:Int)]) fun o=>∃ x,o.1=some x/\ahF [.l r0,.l r1,.l r2,.l row,.s a,.s b,.i d,.i g,.i h,.i q,.i ((k:Int)+1)] x o.2:=by
 unfold rQ;dsimp +instances only[gd,Aa,Ab,Ac,Ad,Ae,Af,Ag];exact aa.p (aa.p (aa.some ⟨0,rfl,rfl,rfl⟩))
theorem Tg{r0 r1 r2:LL}{a b:BY}{i m:Nat}{n:Int}(hb:m=b.size+1)(ha:i<=a.size)(N:1<=i->gV a b m (i-1) m r2)(h1:2<=i->gV a b m (i-2) m r1)(hi:i<=1000)(hm:m<=1000):∀(t k:Nat) (row:LL),k+t=m->gV a b m i k row ->
  aX w5 [.l r0,.l r1,.l r2,.l row,.s a,.s b,.i (i:Int),.i n,.i (i:Int),.i (m:Int),.i (k:Int)] (t+1) fun x g=>x=0/\∃ d,g=[.l r0,.l r1,.l r2,.l d,.s a,.s b,.i n,.i (i:Int)]/\gV a b m i m d
 | 0,k,row,U,v=>by
  have e:k=m:=by omega
  rw[e]at v;refine aX.stop (x:=0) (aa.toEq ?_) ⟨rfl,row,rfl,v⟩;unfold w5;dsimp +instances only[gd,Aa,Ab,Ac,Ad,Ae,Af,Ag];exact aa.n (aa.p (aa.some rfl))
 | t+1,k,row,U,v=>by
  have step:aa (w5 [.l r0,.l r1,.l r2,.l row,.s a,.s b,.i (i:Int),.i n,.i (i:Int),.i (m:Int),.i (k:Int)]) fun o=>∃ d,o=(none,[.l r0,.l r1,.l r2,.l d,.s a,.s b,.i (i:Int),.i n,.i (i:Int),.i (m:Int),.i ((k:Int)+1)])/\gV a b m i (k+1) d:=by
   unfold w5;dsimp +instances only[gd,Aa,Ab,Ac,Ad,Ae,Af,Ag];have l1:=v.len;have V:((k:Int)).toNat=k:=a6 k;have W:((k:Int)-1).toNat=k-1:=by omega
   have n3:((i:Int)-1).toNat=i-1:=by omega
   simp only[V,cP,xw];refine aa.p (aa.test (fun g0=>?_) fun g0=>aa.test (fun y=>?_) fun y=>?_)
   ·have g0 : (i : Int) = 0 := by simpa using g0
    have i0:i=0:=by omega
    refine aa.p (aa.p ?_);refine aa.tail (Jy (k:=k) (by omega)) (by(first|rfl|assumption|(simp only[aB,sl]<;>omega))) ?_;rintro _ _ ⟨rfl,rfl⟩;dsimp +instances only[gd,Aa,Ab,Ac,Ad,Ae,Af,Ag];exact aa.p (aa.some ⟨_,rfl,v.set (by rw[i0,aiv (by omega)])⟩)
   ·have y : (k : Int) = 0 := by simpa using y
    have k0:k=0:=by omega
    subst k0;refine aa.p (aa.p ?_);refine aa.tail (Jy (k:=0) (by omega)) (by(first|rfl|assumption|(simp only[aB,sl]<;>omega))) ?_;rintro _ _ ⟨rfl,rfl⟩;dsimp +instances only[gd,Aa,Ab,Ac,Ad,Ae,Af,Ag];exact aa.p (aa.some ⟨_,rfl,v.set (by rw[aiw ha])⟩)
   ·have O:1<=i:=by
     have:¬ ((i:Int)=0):=by simpa using g0
     omega
    have k1:1<=k:=by
     have:¬ ((k:Int)=0):=by simpa using y
     omega
    have M:∀ c:Int,c=(gU (a_ a (i-1)) (a_ b (k-1)):Int)->aa (bh (ar row.length row.length&&true) (dC (wZ [.l r0,.l r1,.l r2,.l row,.s a,.s b,.i (i:Int),.i (k:Int),.i c,.i n,.i (i:Int),.i (m:Int),.i (k:Int)])) fun cg g=>bh (ar (gi g 3).rZ.length (gi g 3).rZ.length&&true) (dC (rQ [.l (gi g 0).rZ,.l (gi g 1).rZ,.l (gi g 2).rZ,.l (gi g 3).rZ,.s (gi g 4).sV,.s (gi g 5).sV,.i (gi g 6).iV,.i (gi g 7).iV,.i (gi g 8).iV,.i (gi g 9).iV,.i (gi g 10).iV])) fun cg g=>(bif (ar (gi g 3).rZ.length (gi g 3).rZ.length)&&true then some ((none:Option Nat),[G.l (gi g 0).rZ,.l (gi g 1).rZ,.l (gi g 2).rZ,.l (gi g 3).rZ,.s (gi g 4).sV,.s (gi g 5).sV,.i (gi g 6).iV,.i (gi g 7).iV,.i (gi g 8).iV,.i (gi g 9).iV,.i (gi g 10).iV]) else none))
      fun o=>∃ d,o=(none,[.l r0,.l r1,.l r2,.l d,.s a,.s b,.i (i:Int),.i n,.i (i:Int),.i (m:Int),.i ((k:Int)+1)])/\gV a b m i (k+1) d:=fun c hc=>by
     rw[hc];refine aa.tail (aiA k1 (by omega) hb O ha v (N O) h1 hi hm) (by(first|rfl|assumption|(simp only[aB,sl]<;>omega))) ?_;rintro _ _ ⟨rfl,d,rfl,I⟩;dsimp +instances only[gd,Aa,Ab,Ac,Ad,Ae,Af,Ag];refine aa.tail (Jy (k:=k) (by omega)) (by(first|rfl|assumption|(simp only[aB,sl]<;>omega))) ?_;rintro _ _ ⟨rfl,rfl⟩;dsimp +instances only[gd,Aa,Ab,Ac,Ad,Ae,Af,Ag];exact aa.p (aa.some ⟨d,rfl,I⟩)
    have q:(((a.data.toList.getD ((i:Int)-1).toNat 0).toNat:Int)==((b.data.toList.getD ((k:Int)-1).toNat 0).toNat:Int))=decide (a_ a (i-1)=a_ b (k-1)):=by rw[n3,W]; exact xI _ _
    refine aa.p (aa.p (aa.p (aa.p ?_)));refine aa.test (fun g=>M 0 ?_) fun g=>M 1 ?_
    ·rw [q, dT] at g
     unfold gU;rw[iP g];rfl
    ·rw [q, dF] at g
     unfold gU;rw[iN g];rfl
  obtain⟨o,h,d,rfl,I⟩:=step;exact aX.next h (Tg hb ha N h1 hi hm t (k+1) d (by omega) I)
theorem Th{a b:BY}{m:Nat}(hb:m=b.size+1)(ha:a.size<=100)(hm:m<=1000):∀(t i:Nat) (r0 r1 r2:LL),i+t=a.size+1->(1<=i->gV a b m (i-1) m r2)->(2<=i->gV a b m (i-2) m r1) ->
  aX w6 [.l r0,.l r1,.l r2,.s a,.s b,.i ((a.size:Nat)+1:Int),.i (i:Int)] (t+1) fun x g=>x=0/\∃ r0 r1 r2,g=[.l r0,.l r1,.l r2,.s b]/\gV a b m a.size m r2
 | 0,i,r0,r1,r2,hi,d,h1=>by
  have e:i-1=a.size:=by omega
  have d:=d (by omega);rw[e]at d;refine aX.stop (x:=0) (aa.toEq ?_) ⟨rfl,r0,r1,r2,rfl,d⟩;unfold w6;dsimp +instances only[gd,Aa,Ab,Ac,Ad,Ae,Af,Ag];exact aa.n (aa.some rfl)
 | t+1,i,r0,r1,r2,hi,d,h1=>by
  have step:aa (w6 [.l r0,.l r1,.l r2,.s a,.s b,.i ((a.size:Nat)+1:Int),.i (i:Int)]) fun o=>∃ row,o=(none,[.l r1,.l r2,.l row,.s a,.s b,.i ((a.size:Nat)+1:Int),.i ((i:Int)+1)])/\gV a b m i m row:=by
   unfold w6;dsimp +instances only[gd,Aa,Ab,Ac,Ad,Ae,Af,Ag];have q:(((b.size:Nat):Int)+1).toNat=m:=by omega
   simp only[q];refine aa.p (aa.p (aa.p ?_));refine aa.loop ((Tg hb (by omega) d h1 (by omega) hm m 0 _ (by omega) (gV.zero a b m i)).to (by omega)) (by(first|rfl|assumption|(simp only[aB,sl]<;>omega))) ?_;rintro _ _ ⟨rfl,row,rfl,k⟩;dsimp +instances only[gd,Aa,Ab,Ac,Ad,Ae,Af,Ag];have v:=k.len;exact aa.p (aa.p (aa.some ⟨row,rfl,k⟩))
  obtain⟨o,h,row,rfl,k⟩:=step;exact aX.next h (Th hb ha hm t (i+1) r1 r2 row (by omega) (fun _=>k) (fun h=>d (by omega)))
theorem Ti(a:BY):preB a a.size=a.data.toList.reverse:=by
 unfold preB;rw[List.take_of_length_le (by rw[iw]; exact aQ _)]
theorem aiB{a b:BY}(ha:a.size<=100)(hb:b.size<=100):DZ [.s a,.s b]=some [.i (dI a.data.toList b.data.toList:Int)]:=by
 refine aa.toEq ?_;unfold DZ;dsimp +instances only[gd,Aa,Ab,Ac,Ad,Ae,Af,Ag];refine aa.p ?_;refine aa.loop ((Th (m:=b.size+1) rfl ha (by omega) (a.size+1) 0 [] [] [] (by omega) (fun h=>by omega) (fun h=>by omega)).to (by omega)) (by(first|rfl|assumption|(simp only[aB,sl]<;>omega))) ?_;rintro _ _ ⟨rfl,r0,r1,r2,rfl,d⟩;dsimp +instances only[gd,Aa,Ab,Ac,Ad,Ae,Af,Ag];have k:=d.len;have g:=d.val b.size (by omega) (by omega);have e:bZ a b a.size b.size=dI a.data.toList b.data.toList:=by
  unfold bZ;rw[Ti,Ti,ais]
 rw[e]at g;simp only[g];exact aa.p (aa.some rfl)
def fI(a:BY)(i:Nat):List UInt8:=a.data.toList.drop i
theorem xK{a:BY}{i:Nat}(h:i<a.size):fI a i=a_ a i::fI a (i+1):=by
 have d:i<a.data.toList.length:=by rw[iw]; exact h
 unfold fI a_;rw[List.drop_eq_getElem_cons d,cu,bY d];rfl
theorem Tj(a:BY):fI a a.size=[]:=List.drop_eq_nil_of_le (by rw[iw]; exact aQ _)
theorem xL(a:BY)(i:Nat):(fI a i).length=a.size-i:=by
 unfold fI;rw[List.length_drop,iw];rfl
def cI(a b:BY)(i k:Nat):Nat:=dI (fI a i) (fI b k)
theorem A6(a b:BY)(i k:Nat):cI a b i k<=(a.size-i)+(b.size-k):=by
 have:=kH (Al.some (fI a i) (fI b k))
 rwa [xL,xL]at this
theorem Tk{a b:BY}{i k:Nat}(h:i=a.size\/k=b.size)(hi:i<=a.size)(d:k<=b.size):cI a b i k=(a.size-i)+(b.size-k):=by
 unfold cI;rcases h with rfl|rfl
 ·rw [Tj, Td, xL]
  omega
 ·rw [Tj, Te, xL]
  omega
def lf(a b:BY)(i k:Nat):Nat:=min (min (cI a b (i+1) k) (cI a b i (k+1))) (cI a b (i+1) (k+1))+1
def iu(a b:BY)(i k:Nat):Nat:=if a_ a i=a_ b k then min (lf a b i k) (cI a b (i+1) (k+1)) else lf a b i k
def uw(a b:BY)(i k:Nat):Prop:=i+1<a.size/\k+1<b.size/\a_ a i=a_ b (k+1)/\a_ a (i+1)=a_ b k
theorem aiC{a b:BY}{i k:Nat}(hi:i<a.size)(hk:k<b.size):(uw a b i k->cI a b i k=min (iu a b i k) (cI a b (i+2) (k+2)+1))/\(¬ uw a b i k->cI a b i k=iu a b i k):=by
 have e1:fI a i=a_ a i::fI a (i+1):=xK hi;have e2:fI b k=a_ b k::fI b (k+1):=xK hk;have c1:dI (fI a (i+1)) (a_ b k::fI b (k+1))=cI a b (i+1) k:=by unfold cI; rw[e2]
 have c2:dI (a_ a i::fI a (i+1)) (fI b (k+1))=cI a b i (k+1):=by unfold cI; rw[e1]
 have W:dI (fI a (i+1)) (fI b (k+1))=cI a b (i+1) (k+1):=rfl;have c4:∀ q v,fI a (i+1)=a_ b k::q->fI b (k+1)=a_ a i::v->uw a b i k/\dI q v=cI a b (i+2) (k+2):=fun q v h1 y=>by
  have l1:i+1<a.size:=by
   have:=congrArg Bn h1;rw[xL,cd]at this;omega
  have l2:k+1<b.size:=by
   have:=congrArg Bn y;rw[xL,cd]at this;omega
  rw[xK l1]at h1;rw[xK l2]at y;injection h1 with I d
  injection y with M h6
  exact⟨⟨l1,l2,M.symm,I⟩,by rw[<-d,<-h6]; rfl⟩
 have c5:uw a b i k->∃ q v,fI a (i+1)=a_ b k::q/\fI b (k+1)=a_ a i::v/\dI q v=cI a b (i+2) (k+2):=fun⟨l1,l2,I,d⟩=>⟨fI a (i+2),fI b (k+2),by rw[xK l1,d],by rw[xK l2,I],rfl⟩
 have main:∀ V,V<=lf a b i k->(a_ a i=a_ b k->V<=cI a b (i+1) (k+1))->(uw a b i k->V<=cI a b (i+2) (k+2)+1) ->
   (V=lf a b i k\/(a_ a i=a_ b k/\V=cI a b (i+1) (k+1))\/(uw a b i k/\V=cI a b (i+2) (k+2)+1))->cI a b i k=V:=fun V h1 y I d=>by
  unfold lf at h1 d;show dI (fI a i) (fI b k)=V
  rw[e1,e2];refine Tf (by rw[c1]; omega) (by rw[c2]; omega) (by rw[W]; omega) (fun e=>by rw[W]; exact y e) (fun q v N O=>?_) ?_
  ·obtain ⟨U, g4⟩ := c4 q v N O
   rw[g4];exact I U
  ·rcases d with d | ⟨d, M⟩ | ⟨d, M⟩
   ·rcases mN (cI a b (i+1) k) (cI a b i (k+1))with N|N<;>rcases mN (cI a b (i+1) k) (cI a b (i+1) (k+1))with O|O<;>rcases mN (cI a b i (k+1)) (cI a b (i+1) (k+1))with U|U <;>
     first|exact .inl (by rw[c1]; omega)|exact .inr (.inl (by rw[c2]; omega))|exact .inr (.inr (.inl (by rw[W]; omega)))
   ·exact .inr (.inr (.inr (.inl ⟨d,by rw[W]; exact M⟩)))
   ·obtain ⟨q, v, N, O, U⟩ := c5 d
    exact .inr (.inr (.inr (.inr ⟨q,v,N,O,by rw[U]; exact M⟩)))
 have s1:iu a b i k<=lf a b i k/\(a_ a i=a_ b k->iu a b i k<=cI a b (i+1) (k+1))/\(iu a b i k=lf a b i k\/(a_ a i=a_ b k/\iu a b i k=cI a b (i+1) (k+1))):=by
  unfold iu;by_cases e:a_ a i=a_ b k
  ·rw [iP e]
   refine⟨by omega,fun _=>by omega,?_⟩;rcases mN (lf a b i k) (cI a b (i+1) (k+1))with g|g
   ·exact .inl (by omega)
   ·exact .inr ⟨e,by omega⟩
  ·rw [iN e]
   exact⟨aQ _,fun h=>(e h).elim,.inl rfl⟩
 obtain⟨q1,q2,q3⟩:=s1;constructor
 ·intro hT
  refine main _ (by omega) (fun e=>by have:=q2 e; omega) (fun _=>by omega) ?_;rcases mN (iu a b i k) (cI a b (i+2) (k+2)+1)with g|g
  ·have e : min (iu a b i k) (cI a b (i + 2) (k + 2) + 1) = iu a b i k := by omega
   rw[e];exact q3.elim .inl fun h=>.inr (.inl h)
  ·exact .inr (.inr ⟨hT,by omega⟩)
 ·intro hT
  exact main _ q1 q2 (fun h=>(hT h).elim) (q3.elim .inl fun h=>.inr (.inl h))
def qy(a b:BY)(m:LL):Prop:=∀ i k:Nat,eH [.I,.I] m [.i (i:Int),.i (k:Int)]=true->dn [.I,.I] m [.i (i:Int),.i (k:Int)] [.i 0]=[.i (cI a b i k:Int)]
theorem Tl(i k j l:Nat):bq [.I,.I] [.i (i:Int),.i (k:Int)] [.i (j:Int),.i (l:Int)]=decide (i=j/\k=l):=by
 show (((i:Int)==(j:Int))&&(((k:Int)==(l:Int))&&true))=decide (i=j/\k=l)
 rw[mM];simp only[aL,beq_iff_eq,dT,Bool.and_true];constructor
 ·rintro ⟨h1, d⟩
  exact⟨by omega,by omega⟩
 ·rintro ⟨h1, d⟩
  exact⟨by omega,by omega⟩
theorem qy.put{a b:BY}{m:LL}(h:qy a b m)(i k c:Nat):qy a b (ew [.I,.I] m [.i (i:Int),.i (k:Int)] [.i (cI a b i k:Int)] c):=fun j l d=>by
 rw[Ib,Tl]at d;rw[zM,Tl];by_cases e:j=i/\l=k
 ·rw[dE e,cT,e.1,e.2]
 ·rw [decide_eq_false e] at d |-
  rw[uG]at d;rw[cF];exact h j l d
theorem ux(a b:BY)(U:a.size+b.size<=1000):∀(n i k:Nat) (m:LL) (N:Nat),(a.size-i)+(b.size-k)<n->i<=a.size->k<=b.size->qy a b m ->
  aa (pq n [.s a,.s b,.l m,.i (N:Int),.i (i:Int),.i (k:Int)]) fun g=>∃(m':LL) (clk':Nat),g=[.s a,.s b,.l m',.i (clk':Int),.i (cI a b i k:Int)]/\qy a b m'
 |0,_,_,_,_,h,_,_,_=>by omega
 | n+1,i,k,m,N,hn,hi,hk,hm=>by
  have hD:=A6 a b i k;show aa (xh (pq n) _) _
  unfold xh;dsimp +instances only[gd,Aa,Ab,Ac,Ad,Ae,Af,Ag];have endV:cI a b i k=(a.size-i)+(b.size-k)->aa (some ([.s a,.s b,.l m,.i (((N:Int).toNat:Nat):Int),.i ((((a.size:Nat):Int)-(i:Int))+((b.size:Nat):Int)-(k:Int))]:LG)) fun g=>∃(m':LL) (clk':Nat),g=[.s a,.s b,.l m',.i (clk':Int),.i (cI a b i k:Int)]/\qy a b m':=fun e=>by
   refine aa.some ⟨m,N,?_,hm⟩;rw[e,a6,show (((a.size:Nat):Int)-(i:Int))+((b.size:Nat):Int)-(k:Int)=(((a.size-i)+(b.size-k):Nat):Int) from by omega]
  refine aa.test (fun h1=>?_) fun h1=>aa.test (fun h2=>?_) fun h2=>?_
  ·have h1 : (i : Int) = ((a.size : Nat) : Int) := by simpa using h1
   refine aa.pos (c6.2 ⟨by omega,by omega⟩) (aa.pos (c6.2 ⟨by omega,by omega⟩) (aa.pos (c6.2 ⟨by omega,by omega⟩) ?_));exact endV (Tk (.inl (by omega)) hi hk)
  ·have h2 : (k : Int) = ((b.size : Nat) : Int) := by simpa using h2
   refine aa.pos (c6.2 ⟨by omega,by omega⟩) (aa.pos (c6.2 ⟨by omega,by omega⟩) (aa.pos (c6.2 ⟨by omega,by omega⟩) ?_));exact endV (Tk (.inr (by omega)) hi hk)
  ·have h1 : (i : Int) ≠ ((a.size : Nat) : Int) := by simpa using h1
   have h2:(k:Int)≠((b.size:Nat):Int):=by simpa using h2
   have hi1:i<a.size:=by omega
   have hk1:k<b.size:=by omega
   refine aa.test (fun h3=>?_) fun h3=>?_
   ·refine aa.some ⟨m, N, ?_, hm⟩
    rw[hm i k h3,a6];rfl
   ·have d1 := A6 a b (i + 1) k
    have d2:=A6 a b i (k+1);have d3:=A6 a b (i+1) (k+1);have d4:=A6 a b (i+2) (k+2);simp only[a6];refine aa.pos (c6.2 ⟨by omega,by omega⟩) ?_;refine aa.call (ux a b U n (i+1) k m N (by omega) (by omega) (by omega) hm) ?_;rintro _ ⟨m1,c1,rfl,hm1⟩;dsimp +instances only[gd,Aa,Ab,Ac,Ad,Ae,Af,Ag];simp only[a6];refine aa.pos (c6.2 ⟨by omega,by omega⟩) ?_;refine aa.call (ux a b U n i (k+1) m1 c1 (by omega) (by omega) (by omega) hm1) ?_;rintro _ ⟨m2,c2,rfl,hm2⟩;dsimp +instances only[gd,Aa,Ab,Ac,Ad,Ae,Af,Ag];simp only[a6];refine aa.pos (c6.2 ⟨by omega,by omega⟩) (aa.pos (c6.2 ⟨by omega,by omega⟩) ?_);refine aa.call (ux a b U n (i+1) (k+1) m2 c2 (by omega) (by omega) (by omega) hm2) ?_;rintro _ ⟨V,W,rfl,O⟩;dsimp +instances only[gd,Aa,Ab,Ac,Ad,Ae,Af,Ag];have hV0:(if (cI a b (i+1) (k+1):Int)<(if (cI a b i (k+1):Int)<(cI a b (i+1) k:Int) then (cI a b i (k+1):Int) else (cI a b (i+1) k:Int)) then (cI a b (i+1) (k+1):Int) else (if (cI a b i (k+1):Int)<(cI a b (i+1) k:Int) then (cI a b i (k+1):Int) else (cI a b (i+1) k:Int)))+1=(lf a b i k:Int):=by
     unfold lf;split<;>split<;>omega
    have hs0:lf a b i k<=3000:=by
     unfold lf;omega
    simp only[a6,hV0];obtain⟨st1,st2⟩:=aiC hi1 hk1;have v:∀(mm:LL) (cc:Nat),qy a b mm->¬ uw a b i k->aa (some ([.s a,.s b,.l (ew [.I,.I] mm [.i (i:Int),.i (k:Int)] [.i (iu a b i k:Int)] cc),.i (dG [.I,.I] mm [.i (i:Int),.i (k:Int)] cc:Int),.i (iu a b i k:Int)]:LG)) fun g=>∃(m':LL) (clk':Nat),g=[.s a,.s b,.l m',.i (clk':Int),.i (cI a b i k:Int)]/\qy a b m':=fun mm cc hmm hno=>by
     rw[<-st2 hno];exact aa.some ⟨_,_,rfl,hmm.put i k cc⟩
    have hs1:iu a b i k<=3000:=by
     unfold iu;split<;>omega
    have kk1:((k:Int)+1).toNat=k+1:=by omega
    have ii1:((i:Int)+1).toNat=i+1:=by omega
    have q1:(((a.data.toList.getD i 0).toNat:Int)==((b.data.toList.getD k 0).toNat:Int))=decide (a_ a i=a_ b k):=xI _ _;have q2:(((a.data.toList.getD i 0).toNat:Int)==((b.data.toList.getD ((k:Int)+1).toNat 0).toNat:Int))=decide (a_ a i=a_ b (k+1)):=by rw[kk1]; exact xI _ _
    have q3:(((a.data.toList.getD ((i:Int)+1).toNat 0).toNat:Int)==((b.data.toList.getD k 0).toNat:Int))=decide (a_ a (i+1)=a_ b k):=by rw[ii1]; exact xI _ _
    rw[q1];refine aa.pos (c6.2 ⟨by omega,by omega⟩) (aa.p (aa.p ?_));refine aa.test (fun g=>?_) fun g=>?_
    ·rw [dT] at g
     refine aa.pos (c6.2 ⟨by omega,by omega⟩) (aa.pos (c6.2 ⟨by omega,by omega⟩) ?_);refine aa.call (ux a b U n (i+1) (k+1) V W (by omega) (by omega) (by omega) O) ?_;rintro _ ⟨m4,c4,rfl,hm4⟩;dsimp +instances only[gd,Aa,Ab,Ac,Ad,Ae,Af,Ag];have hV1:(if (cI a b (i+1) (k+1):Int)<(lf a b i k:Int) then (cI a b (i+1) (k+1):Int) else (lf a b i k:Int))=(iu a b i k:Int):=by
      unfold iu;rw[iP g];split<;>omega
     simp only[a6,hV1];rw[q2,q3];refine aa.pos (c6.2 ⟨by omega,by omega⟩) ?_;refine aa.test (fun y=>?_) fun y=>v m4 c4 hm4 fun h=>by
      rw[cB,dF]at y;have:=h.1;omega
     rw[cB,dT]at y;refine aa.pos (c6.2 ⟨by omega,by omega⟩) ?_;refine aa.test (fun M=>?_) fun M=>v m4 c4 hm4 fun h=>by
      rw[cB,dF]at M;have:=h.2.1;omega
     rw[cB,dT]at M;refine aa.p (aa.pos (c6.2 ⟨by omega,by omega⟩) (aa.p ?_));refine aa.test (fun d=>?_) fun d=>v m4 c4 hm4 fun h=>by
      rw[dF]at d;exact d h.2.2.1
     rw[dT]at d;refine aa.pos (c6.2 ⟨by omega,by omega⟩) (aa.p (aa.p ?_));refine aa.test (fun q=>?_) fun q=>v m4 c4 hm4 fun h=>by
      rw[dF]at q;exact q h.2.2.2
     rw[dT]at q;refine aa.pos (c6.2 ⟨by omega,by omega⟩) (aa.pos (c6.2 ⟨by omega,by omega⟩) ?_);refine aa.call (ux a b U n (i+2) (k+2) m4 c4 (by omega) (by omega) (by omega) hm4) ?_;rintro _ ⟨m5,c5,rfl,hm5⟩;dsimp +instances only[gd,Aa,Ab,Ac,Ad,Ae,Af,Ag];have hV2:(if (cI a b (i+2) (k+2):Int)+1<(iu a b i k:Int) then (cI a b (i+2) (k+2):Int)+1 else (iu a b i k:Int))=(cI a b i k:Int):=by
      rw[st1 ⟨by omega,by omega,d,q⟩];split<;>omega
     simp only[a6,hV2];refine aa.pos (c6.2 ⟨by omega,by omega⟩) ?_;exact aa.some ⟨_,_,rfl,hm5.put i k c5⟩
    ·rw [dF] at g
     have hV1:lf a b i k=iu a b i k:=by
      unfold iu;rw[iN g]
     rw[hV1];rw[q2,q3];refine aa.pos (c6.2 ⟨by omega,by omega⟩) ?_;refine aa.test (fun y=>?_) fun y=>v V W O fun h=>by
      rw[cB,dF]at y;have:=h.1;omega
     rw[cB,dT]at y;refine aa.pos (c6.2 ⟨by omega,by omega⟩) ?_;refine aa.test (fun M=>?_) fun M=>v V W O fun h=>by
      rw[cB,dF]at M;have:=h.2.1;omega
     rw[cB,dT]at M;refine aa.p (aa.pos (c6.2 ⟨by omega,by omega⟩) (aa.p ?_));refine aa.test (fun d=>?_) fun d=>v V W O fun h=>by
      rw[dF]at d;exact d h.2.2.1
     rw[dT]at d;refine aa.pos (c6.2 ⟨by omega,by omega⟩) (aa.p (aa.p ?_));refine aa.test (fun q=>?_) fun q=>v V W O fun h=>by
      rw[dF]at q;exact q h.2.2.2
     rw[dT]at q;refine aa.pos (c6.2 ⟨by omega,by omega⟩) (aa.pos (c6.2 ⟨by omega,by omega⟩) ?_);refine aa.call (ux a b U n (i+2) (k+2) V W (by omega) (by omega) (by omega) O) ?_;rintro _ ⟨m5,c5,rfl,hm5⟩;dsimp +instances only[gd,Aa,Ab,Ac,Ad,Ae,Af,Ag];have hV2:(if (cI a b (i+2) (k+2):Int)+1<(iu a b i k:Int) then (cI a b (i+2) (k+2):Int)+1 else (iu a b i k:Int))=(cI a b i k:Int):=by
      rw[st1 ⟨by omega,by omega,d,q⟩];split<;>omega
     simp only[a6,hV2];refine aa.pos (c6.2 ⟨by omega,by omega⟩) ?_;exact aa.some ⟨_,_,rfl,hm5.put i k c5⟩
theorem aiD{a b:BY}(q:a.size+b.size<40):El [.s a,.s b]=some [.i (dI a.data.toList b.data.toList:Int)]:=by
 have h:=ux a b (by omega) 40 0 0 [] 0 (by omega) (eR _) (eR _) (fun i k h=>by cases h);refine aa.toEq ?_;unfold El;dsimp +instances only[gd,Aa,Ab,Ac,Ad,Ae,Af,Ag];refine aa.call (P:=fun g=>∃(m':LL) (d:Nat),g=[.s a,.s b,.l m',.i (d:Int),.i (cI a b 0 0:Int)]/\qy a b m') h ?_;rintro _ ⟨m',v,rfl,_⟩;exact aa.some rfl
theorem aiE(q:LL)(j:Nat):(gi (dn [.I] (iK AX q ([],0)).1 [.i (j:Int)] [.t false]) 0).bV=q.any fun r=>(gi r 1).iV==(j:Int):=by
 rcases Jj AX [.i (j:Int)] [.t false] q ([],0)with⟨r,h1,d,g⟩|⟨h1,d⟩
 ·rw [g]
  have d:bq [.I] [.i (j:Int)] [.i (gi r 1).iV]=true:=d;rw[AW,dT]at d;show true=_
  exact(lq.2 ⟨r,h1,by rw[<-d]; exact beq_self_eq_true _⟩).symm
 ·rw [d]
  show false=_
  refine(Ui.2 fun r h=>?_).symm;have g:bq [.I] [.i (j:Int)] [.i (gi r 1).iV]=false:=h1 r h;rw[AW,dF]at g;simpa using fun e=>g (Eq.symm e)
section
variable (L:LL) (C:Nat->BY) (A:Nat->LL) (ab:Nat) (oF:Int)
def jL(k:Nat)(z:LG)(j:Nat):Bool :=
 ((gi ((A k).getD j []) 3).sV.toList==(C ab).toList)&&(jV oF z ((A k).getD j [])&&(!((br A C ab oF k).any fun r=>(gi r 1).iV==(j:Int))&&jx ((A k).getD j []) z))
def eC(p:Nat->Bool):Nat->Nat->Option Nat
 |0,_=>none
 |d+1,i=>if p i=true then some i else eC p d (i+1)
def qz(k:Nat)(z:LG):Option Nat:=if 2<dI (C k).data.toList (gi z 3).sV.data.toList then none else eC (jL C A ab oF k z) (A k).length 0
def lY:Option Nat->Int
 |some v=>(v:Int)
 |none => -1
def dq(z:LG):Nat->Nat->List (Nat × Nat)
 |0,_=>[]
 | d+1,i=>if i=ab\/C i=(gi z 3).sV then dq z d (i+1) else match qz C A ab oF i z with
  |some v=>(i,v)::dq z d (i+1)
  |none=>dq z d (i+1)
def lg(u v:Int):List (Nat × Nat)->Int × Int
 | []=>(u,v)
 | [x]=>if u<0 then ((x.1:Int),(x.2:Int)) else (-1,-1)
 |_::_::_=>(-1,-1)
end
section
variable {L:LL} {C:Nat->BY} {A:Nat->LL} (S:k_ L C A) {ab:Nat} (ho:ab<L.length) (oF:Int)
include S ho
theorem Tm{k:Nat}(W:k<L.length){t m s h:Int}{b c x y:BY}(hc:eU [.i t,.i m,.s b,.s c,.i s,.i h,.s x,.s y]){ks:List Nat}{n:Nat}(U:iJ k ks=some n):∀(d i:Nat),i+d=(A k).length ->
  aX w7 [G.l L,.i (ab:Int),.i oF,.l (bA 0 ks),.l (ks.map fun k=>eG (br A C ab oF k)),.i ((ks.length:Nat):Int),.l (bA 0 ks),.l (ks.map fun k=>ed (br A C ab oF k)),.i ((ks.length:Nat):Int),.i t,.i m,.s b,.s c,.i s,.i h,.s x,.s y,.i (k:Int),.l (A k),.i ((A k).length:Int),.i (i:Int)] (d+1) fun e g =>
   (e=0/\∃ v:Nat,eC (jL C A ab oF k [.i t,.i m,.s b,.s c,.i s,.i h,.s x,.s y]) d i=some v/\g=[G.l L,.i (ab:Int),.i oF,.l (bA 0 ks),.l (ks.map fun k=>eG (br A C ab oF k)),.i ((ks.length:Nat):Int),.l (bA 0 ks),.l (ks.map fun k=>ed (br A C ab oF k)),.i ((ks.length:Nat):Int),.i (v:Int)])\/e=1/\eC (jL C A ab oF k [.i t,.i m,.s b,.s c,.i s,.i h,.s x,.s y]) d i=none/\g=[G.l L,.i (ab:Int),.i oF,.l (bA 0 ks),.l (ks.map fun k=>eG (br A C ab oF k)),.i ((ks.length:Nat):Int),.l (bA 0 ks),.l (ks.map fun k=>ed (br A C ab oF k)),.i ((ks.length:Nat):Int)]
 | 0,i,hi=>by
  refine aX.stop (x:=1) (aa.toEq ?_) (.inr ⟨rfl,rfl,rfl⟩);unfold w7;dsimp +instances only[gd,Aa,Ab,Ac,Ad,Ae,Af,Ag];refine aa.n (aa.some ?_);simp only[a6]
 | d+1,i,hi=>by
  have hna:=S.na k W;have ih:=Tm W hc U d (i+1) (by omega);obtain⟨hz,hzs⟩:=S.mem (i:=k) (j:=i) W (by omega);have step:aa (w7 [G.l L,.i (ab:Int),.i oF,.l (bA 0 ks),.l (ks.map fun k=>eG (br A C ab oF k)),.i ((ks.length:Nat):Int),.l (bA 0 ks),.l (ks.map fun k=>ed (br A C ab oF k)),.i ((ks.length:Nat):Int),.i t,.i m,.s b,.s c,.i s,.i h,.s x,.s y,.i (k:Int),.l (A k),.i ((A k).length:Int),.i (i:Int)]) fun o =>
    (jL C A ab oF k [.i t,.i m,.s b,.s c,.i s,.i h,.s x,.s y] i=true/\o=(some 0,[G.l L,.i (ab:Int),.i oF,.l (bA 0 ks),.l (ks.map fun k=>eG (br A C ab oF k)),.i ((ks.length:Nat):Int),.l (bA 0 ks),.l (ks.map fun k=>ed (br A C ab oF k)),.i ((ks.length:Nat):Int),.i (i:Int)]))\/(jL C A ab oF k [.i t,.i m,.s b,.s c,.i s,.i h,.s x,.s y] i=false/\o=(none,[G.l L,.i (ab:Int),.i oF,.l (bA 0 ks),.l (ks.map fun k=>eG (br A C ab oF k)),.i ((ks.length:Nat):Int),.l (bA 0 ks),.l (ks.map fun k=>ed (br A C ab oF k)),.i ((ks.length:Nat):Int),.i t,.i m,.s b,.s c,.i s,.i h,.s x,.s y,.i (k:Int),.l (A k),.i ((A k).length:Int),.i ((i:Int)+1)])):=by
   unfold w7;dsimp +instances only[gd,Aa,Ab,Ac,Ad,Ae,Af,Ag];have hnl:=(EI U).1;have hin:oe (ks.map fun k=>ed (br A C ab oF k)) (some n)=true:=by
    show Nat.blt n (ks.map fun k=>ed (br A C ab oF k)).length=true
    rw[c9];simpa using hnl
   have hat:(gi (kU (ks.map fun k=>ed (br A C ab oF k)) (some n)) 0).rZ=(iK AX (br A C ab oF k) ([],0)).1:=by
    rw[Sy (fun k=>ed (br A C ab oF k)) U];rfl
   simp only[a6,EJ,U,hz.1,hat,aiE,S.get ab ho];dsimp +instances only[gd,Aa,Ab,Ac,Ad,Ae,Af,Ag];refine aa.p (aa.p (aa.p ?_));have out:jL C A ab oF k [.i t,.i m,.s b,.s c,.i s,.i h,.s x,.s y] i=false->aa (bif aB ((i:Int)+1) then some ((none:Option Nat),[G.l L,.i (ab:Int),.i oF,.l (bA 0 ks),.l (ks.map fun k=>eG (br A C ab oF k)),.i ((ks.length:Nat):Int),.l (bA 0 ks),.l (ks.map fun k=>ed (br A C ab oF k)),.i ((ks.length:Nat):Int),.i t,.i m,.s b,.s c,.i s,.i h,.s x,.s y,.i (k:Int),.l (A k),.i ((A k).length:Int),.i ((i:Int)+1)]) else none) fun o =>
    (jL C A ab oF k [.i t,.i m,.s b,.s c,.i s,.i h,.s x,.s y] i=true/\o=(some 0,[G.l L,.i (ab:Int),.i oF,.l (bA 0 ks),.l (ks.map fun k=>eG (br A C ab oF k)),.i ((ks.length:Nat):Int),.l (bA 0 ks),.l (ks.map fun k=>ed (br A C ab oF k)),.i ((ks.length:Nat):Int),.i (i:Int)]))\/(jL C A ab oF k [.i t,.i m,.s b,.s c,.i s,.i h,.s x,.s y] i=false/\o=(none,[G.l L,.i (ab:Int),.i oF,.l (bA 0 ks),.l (ks.map fun k=>eG (br A C ab oF k)),.i ((ks.length:Nat):Int),.l (bA 0 ks),.l (ks.map fun k=>ed (br A C ab oF k)),.i ((ks.length:Nat):Int),.i t,.i m,.s b,.s c,.i s,.i h,.s x,.s y,.i (k:Int),.l (A k),.i ((A k).length:Int),.i ((i:Int)+1)])):=fun O=>aa.p (aa.some (.inr ⟨O,rfl⟩))
   have N:jL C A ab oF k [.i t,.i m,.s b,.s c,.i s,.i h,.s x,.s y] i=(((gi ((A k).getD i []) 3).sV.toList==(C ab).toList)&&(jV oF [.i t,.i m,.s b,.s c,.i s,.i h,.s x,.s y] ((A k).getD i [])&&(!((br A C ab oF k).any fun r=>(gi r 1).iV==(i:Int))&&jx ((A k).getD i []) [.i t,.i m,.s b,.s c,.i s,.i h,.s x,.s y]))):=rfl;refine aa.test (fun M=>?_) fun M=>out (by rw[N,M]; rfl);refine aa.cE (I5 oF hc hz) ?_;refine aa.test (fun q=>?_) fun q=>out (by
    have q:jV oF [.i t,.i m,.s b,.s c,.i s,.i h,.s x,.s y] ((A k).getD i [])=false:=q;rw[N,M,q];rfl)
   have q:jV oF [.i t,.i m,.s b,.s c,.i s,.i h,.s x,.s y] ((A k).getD i [])=true:=q;refine aa.pos rfl (aa.pos hin (aa.test (fun V=>?_) fun V=>out (by rw[N,M,q,V]; rfl)));refine aa.cE (Sx _ _) ?_;refine aa.test (fun I=>?_) fun I=>out (by
    have I:jx ((A k).getD i []) [.i t,.i m,.s b,.s c,.i s,.i h,.s x,.s y]=false:=I;rw[N,M,q,V,I];rfl)
   have I:jx ((A k).getD i []) [.i t,.i m,.s b,.s c,.i s,.i h,.s x,.s y]=true:=I;exact aa.some (.inl ⟨by rw[N,M,q,V,I]; rfl,rfl⟩)
  obtain⟨o,h,⟨O,rfl⟩|⟨O,rfl⟩⟩:=step
  ·exact aX.stop h (.inl ⟨rfl,i,by rw[eC,iP O],rfl⟩)
  ·refine aX.next h ?_
   rw[eC,iN (by rw[O]; simp)];exact ih
theorem aiF{k:Nat}(q:k<L.length){t m s h:Int}{b c x y:BY}(N:eU [.i t,.i m,.s b,.s c,.i s,.i h,.s x,.s y])(bX:c.size<=100)(ks:List Nat) :
  aa (D0 [G.l L,.i (ab:Int),.i oF,.l (bA 0 ks),.l (ks.map fun k=>eG (br A C ab oF k)),.i ((ks.length:Nat):Int),.l (bA 0 ks),.l (ks.map fun k=>ed (br A C ab oF k)),.i ((ks.length:Nat):Int),.l [[.i t,.i m,.s b,.s c,.i s,.i h,.s x,.s y]],.i (k:Int)]) fun g=>∃ d:List Nat,g=[G.l L,.i (ab:Int),.i oF,.l (bA 0 d),.l (d.map fun k=>eG (br A C ab oF k)),.i ((d.length:Nat):Int),.l (bA 0 d),.l (d.map fun k=>ed (br A C ab oF k)),.i ((d.length:Nat):Int),.i (lY (qz C A ab oF k [.i t,.i m,.s b,.s c,.i s,.i h,.s x,.s y]))]:=by
 have U:=S.na k q;unfold D0;dsimp +instances only[gd,Aa,Ab,Ac,Ad,Ae,Af,Ag];simp only[a6,S.get k q];refine aa.p ?_;refine aa.call (P:=fun g=>g=[.i (dI (C k).data.toList c.data.toList:Int)]) (aa.eq (aiB (S.cs k q) bX)) ?_;rintro _ rfl;dsimp +instances only[gd,Aa,Ab,Ac,Ad,Ae,Af,Ag];refine aa.test (fun I=>?_) fun I=>?_
 ·rw [cB, dT] at I
  refine aa.some ⟨ks,?_⟩;have e:qz C A ab oF k [.i t,.i m,.s b,.s c,.i s,.i h,.s x,.s y]=none:=iP (show 2<dI (C k).data.toList c.data.toList by omega);rw[e];rfl
 ·rw [cB, dF] at I
  have e:qz C A ab oF k [.i t,.i m,.s b,.s c,.i s,.i h,.s x,.s y]=eC (jL C A ab oF k [.i t,.i m,.s b,.s c,.i s,.i h,.s x,.s y]) (A k).length 0:=iN (show ¬ 2<dI (C k).data.toList c.data.toList by omega);rw[e];refine aa.cE (Sw S ho oF q ks) ?_;dsimp +instances only[gd,Aa,Ab,Ac,Ad,Ae,Af,Ag];simp only[a6,S.get k q];refine aa.p ?_;obtain⟨n,O⟩:=Su k ks;refine aa.loop ((Tm S ho oF q N O (A k).length 0 (by omega)).to (by omega)) rfl ?_;rintro _ _ (⟨rfl,v,M,rfl⟩|⟨rfl,M,rfl⟩)
  ·(dsimp +instances only [gd,Aa,Ab,Ac,Ad,Ae,Af,Ag])
   simp only[a6];rw[M];exact aa.pos rfl (aa.some ⟨lW k ks,rfl⟩)
  ·(dsimp +instances only [gd,Aa,Ab,Ac,Ad,Ae,Af,Ag])
   simp only[a6];rw[M];exact aa.neg rfl (aa.some ⟨lW k ks,rfl⟩)
theorem Tn{t m s h:Int}{b c x y:BY}(hc:eU [.i t,.i m,.s b,.s c,.i s,.i h,.s x,.s y])(bX:c.size<=100):∀(d i:Nat) (ks:List Nat) (u v:Int),i+d=L.length -> -1<=u ->
  aX w8 [G.l L,.i (ab:Int),.i oF,.l (bA 0 ks),.l (ks.map fun k=>eG (br A C ab oF k)),.i ((ks.length:Nat):Int),.l (bA 0 ks),.l (ks.map fun k=>ed (br A C ab oF k)),.i ((ks.length:Nat):Int),.i t,.i m,.s b,.s c,.i s,.i h,.s x,.s y,.i u,.i v,.l L,.i (L.length:Int),.i (i:Int)] (d+1) fun e g =>
   (e=0\/e=1)/\∃ I:List Nat,g=[G.l L,.i (ab:Int),.i oF,.l (bA 0 I),.l (I.map fun k=>eG (br A C ab oF k)),.i ((I.length:Nat):Int),.l (bA 0 I),.l (I.map fun k=>ed (br A C ab oF k)),.i ((I.length:Nat):Int),.i (lg u v (dq C A ab oF [.i t,.i m,.s b,.s c,.i s,.i h,.s x,.s y] d i)).1,.i (lg u v (dq C A ab oF [.i t,.i m,.s b,.s c,.i s,.i h,.s x,.s y] d i)).2]
 | 0,i,ks,u,v,hi,V=>by
  refine aX.stop (x:=1) (aa.toEq ?_) ⟨.inr rfl,ks,rfl⟩;unfold w8;dsimp +instances only[gd,Aa,Ab,Ac,Ad,Ae,Af,Ag];refine aa.n (aa.some ?_);simp only[a6];rfl
 | d+1,i,ks,u,v,hi,V=>by
  have hn:=S.n;have hil:i<L.length:=by omega
  have step:aa (w8 [G.l L,.i (ab:Int),.i oF,.l (bA 0 ks),.l (ks.map fun k=>eG (br A C ab oF k)),.i ((ks.length:Nat):Int),.l (bA 0 ks),.l (ks.map fun k=>ed (br A C ab oF k)),.i ((ks.length:Nat):Int),.i t,.i m,.s b,.s c,.i s,.i h,.s x,.s y,.i u,.i v,.l L,.i (L.length:Int),.i (i:Int)]) fun o =>
    (∃ I : List Nat, 0 <= u /\ (∃ w q, dq C A ab oF [.i t, .i m, .s b, .s c, .i s, .i h, .s x, .s y] (d + 1) i = (i, w) :: q) /\ o = (some 0, [G.l L, .i (ab : Int), .i oF, .l (bA 0 I), .l (I.map fun k => eG (br A C ab oF k)), .i ((I.length : Nat) : Int), .l (bA 0 I), .l (I.map fun k => ed (br A C ab oF k)), .i ((I.length : Nat) : Int), .i (-1), .i (-1)])) \/
     ∃(I:List Nat) (U W:Int),-1<=U/\lg u v (dq C A ab oF [.i t,.i m,.s b,.s c,.i s,.i h,.s x,.s y] (d+1) i)=lg U W (dq C A ab oF [.i t,.i m,.s b,.s c,.i s,.i h,.s x,.s y] d (i+1))/\o=(none,[G.l L,.i (ab:Int),.i oF,.l (bA 0 I),.l (I.map fun k=>eG (br A C ab oF k)),.i ((I.length:Nat):Int),.l (bA 0 I),.l (I.map fun k=>ed (br A C ab oF k)),.i ((I.length:Nat):Int),.i t,.i m,.s b,.s c,.i s,.i h,.s x,.s y,.i U,.i W,.l L,.i (L.length:Int),.i ((i:Int)+1)]):=by
   unfold w8;dsimp +instances only[gd,Aa,Ab,Ac,Ad,Ae,Af,Ag];simp only[a6,S.get i hil];refine aa.p (aa.p ?_);refine aa.test (fun h1=>?_) fun h1=>?_
   ·have h1 : (i : Int) = (ab : Int) := by simpa using h1
    have e:dq C A ab oF [.i t,.i m,.s b,.s c,.i s,.i h,.s x,.s y] (d+1) i=dq C A ab oF [.i t,.i m,.s b,.s c,.i s,.i h,.s x,.s y] d (i+1):=by rw[dq,iP (.inl (by omega))]
    exact aa.p (aa.some (.inr ⟨ks,u,v,V,by rw[e],rfl⟩))
   have h1:(i:Int)≠(ab:Int):=by simpa using h1
   refine aa.test (fun M=>?_) fun M=>?_
   ·have M : ((C i).toList == c.toList) = true := M
    rw[k9,dT]at M;have e:dq C A ab oF [.i t,.i m,.s b,.s c,.i s,.i h,.s x,.s y] (d+1) i=dq C A ab oF [.i t,.i m,.s b,.s c,.i s,.i h,.s x,.s y] d (i+1):=by rw[dq,iP (.inr M)]
    exact aa.p (aa.some (.inr ⟨ks,u,v,V,by rw[e],rfl⟩))
   have M:((C i).toList==c.toList)=false:=M;rw[k9,dF]at M;have hno:¬ (i=ab\/C i=c):=by
    rintro(N|N)
    ·omega
    ·exact M N
   have O:dq C A ab oF [.i t,.i m,.s b,.s c,.i s,.i h,.s x,.s y] (d+1) i=(match qz C A ab oF i [.i t,.i m,.s b,.s c,.i s,.i h,.s x,.s y]with
    |some v=>(i,v)::dq C A ab oF [.i t,.i m,.s b,.s c,.i s,.i h,.s x,.s y] d (i+1)
    |none=>dq C A ab oF [.i t,.i m,.s b,.s c,.i s,.i h,.s x,.s y] d (i+1)):=by
    rw[dq];exact iN hno
   refine aa.call (aiF S ho oF hil hc bX ks) ?_;rintro _ ⟨I,rfl⟩;dsimp +instances only[gd,Aa,Ab,Ac,Ad,Ae,Af,Ag];simp only[a6];cases ho2:qz C A ab oF i [.i t,.i m,.s b,.s c,.i s,.i h,.s x,.s y]with
   | none =>
    rw[ho2]at O;refine aa.neg rfl (aa.p (aa.some (.inr ⟨I,u,v,V,by rw[O],rfl⟩)))
   | some w =>
    rw[ho2]at O;refine aa.pos (by rw[eY]; exact dE (by show (0:Int)<=(w:Int); omega)) ?_;refine aa.test (fun N=>?_) fun N=>?_
    ·rw [eY, dT] at N
     exact aa.some (.inl ⟨I,N,⟨w,_,O⟩,rfl⟩)
    ·rw [eY, dF] at N
     refine aa.p (aa.some (.inr ⟨I,(i:Int),(w:Int),by omega,?_,rfl⟩));rw[O];show lg u v ((i,w)::dq C A ab oF [.i t,.i m,.s b,.s c,.i s,.i h,.s x,.s y] d (i+1))=lg (i:Int) (w:Int) (dq C A ab oF [.i t,.i m,.s b,.s c,.i s,.i h,.s x,.s y] d (i+1))
     cases dq C A ab oF [.i t,.i m,.s b,.s c,.i s,.i h,.s x,.s y] d (i+1)with
     |nil=>exact iP (by omega)
     | cons y q =>
      cases q with
      | nil =>
       show ((-1:Int),(-1:Int))=if (i:Int)<0 then ((y.1:Int),(y.2:Int)) else (-1,-1)
       rw[iN (by omega)]
      |cons y2 q=>rfl
  obtain⟨o,hst,⟨I,hu0,⟨w,q,e⟩,rfl⟩|⟨I,U,W,hu',e,rfl⟩⟩:=step
  ·refine aX.stop (x := 0) hst ⟨.inl rfl, I, ?_⟩
   have:lg u v (dq C A ab oF [.i t,.i m,.s b,.s c,.i s,.i h,.s x,.s y] (d+1) i)=(-1,-1):=by
    rw[e];cases q with
    |nil=>exact iN (by omega)
    |cons y q=>rfl
   rw[this]
  ·refine aX.next hst ?_
   rw[e];exact Tn hc bX d (i+1) I U W (by omega) hu'
theorem aiG{t m s h:Int}{b c x y:BY}(q:eU [.i t,.i m,.s b,.s c,.i s,.i h,.s x,.s y])(bX:c.size<=100)(ks:List Nat) :
  aa (rR [G.l L,.i (ab:Int),.i oF,.l (bA 0 ks),.l (ks.map fun k=>eG (br A C ab oF k)),.i ((ks.length:Nat):Int),.l (bA 0 ks),.l (ks.map fun k=>ed (br A C ab oF k)),.i ((ks.length:Nat):Int),.l [[.i t,.i m,.s b,.s c,.i s,.i h,.s x,.s y]]]) fun g=>∃ d:List Nat,g=[G.l L,.i (ab:Int),.i oF,.l (bA 0 d),.l (d.map fun k=>eG (br A C ab oF k)),.i ((d.length:Nat):Int),.l (bA 0 d),.l (d.map fun k=>ed (br A C ab oF k)),.i ((d.length:Nat):Int),.i (lg (-1) 0 (dq C A ab oF [.i t,.i m,.s b,.s c,.i s,.i h,.s x,.s y] L.length 0)).1,.i (lg (-1) 0 (dq C A ab oF [.i t,.i m,.s b,.s c,.i s,.i h,.s x,.s y] L.length 0)).2]:=by
 have v:=S.n;unfold rR;dsimp +instances only[gd,Aa,Ab,Ac,Ad,Ae,Af,Ag];simp only[a6];refine aa.loop ((Tn S ho oF q bX L.length 0 ks (-1) 0 (by omega) (by omega)).to (by omega)) rfl ?_;rintro _ _ ⟨rfl|rfl,d,rfl⟩
 ·(dsimp +instances only [gd,Aa,Ab,Ac,Ad,Ae,Af,Ag])
  simp only[a6];exact aa.pos rfl (aa.some ⟨d,rfl⟩)
 ·(dsimp +instances only [gd,Aa,Ab,Ac,Ad,Ae,Af,Ag])
  simp only[a6];exact aa.neg rfl (aa.some ⟨d,rfl⟩)
end
theorem To{p:Nat->Bool}:∀{d i:Nat},(∀ j,i<=j->j<i+d->p j=false)->eC p d i=none
 |0,_,_=>rfl
 | d+1,i,h=>by
  rw[eC,iN (by rw[h i (aQ _) (by omega)]; simp)];exact To fun j h1 g=>h j (by omega) (by omega)
theorem Tp{p:Nat->Bool}{k:Nat}:∀{d i:Nat},i<=k->k<i+d->p k=true->(∀ j,i<=j->j<k->p j=false)->eC p d i=some k
 |0,i,h1,q,_,_=>by omega
 | d+1,i,h1,q,g,h=>by
  rw[eC];by_cases e:i=k
  ·subst e
   rw[iP g]
  ·rw [iN (by rw [h i (aQ _) (by omega)]; simp)]
   exact Tp (by omega) (by omega) g fun j y v=>h j (by omega) v
theorem A7{p:Nat->Bool}{k:Nat}:∀{d i:Nat},eC p d i=some k->i<=k/\k<i+d/\p k=true
 |0,_,h=>by cases h
 | d+1,i,h=>by
  rw[eC]at h;split at h
  ·rename_i g
   cases h;exact⟨aQ _,by omega,g⟩
  ·obtain ⟨h1, v, q⟩ := A7 h
   exact⟨by omega,by omega,q⟩
section
variable (L:LL) (C:Nat->BY) (A:Nat->LL) (ab:Nat) (oF:Int)
def lh(s:BY):Option Nat:=eC (fun k=>decide (C k=s)) L.length 0
def qA(k i:Nat):Option Nat:=((br A C ab oF k).find? fun r=>(gi r 0).iV==(i:Int)).map fun r=>(gi r 1).iV.toNat
def nF(i:Nat)(b:Bool):LG:=match dq C A ab oF ((A ab).getD i []) L.length 0 with
 | [x]=>[.i (i:Int),.i 2,.s (C x.1),.i (x.2:Int)]
 |_=>[.i (i:Int),.i (bif b then 4 else 5),.s (⟨#[]⟩:BY),.i (-1)]
def fJ(i:Nat):LG:=match lh L C (gi ((A ab).getD i []) 3).sV with
 | some k=>match qA C A ab oF k i with
  |some j=>[.i (i:Int),.i (bif jx ((A k).getD j []) ((A ab).getD i []) then 1 else 3),.s (C k),.i (j:Int)]
  |none=>nF L C A ab oF i true
 |none=>nF L C A ab oF i false
def kW(z:LG):LG:=[.s (gi z 3).sV,.s (gi z 2).sV,.i (gi z 1).iV]
def kI(i j:Nat):Bool:=bq [.str,.str,.I] (kW ((A ab).getD i [])) (kW ((A ab).getD j []))
def sF(o:LG):Bool:=((gi o 1).iV==1)||((gi o 1).iV==3)
def j5(out:LL)(i:Nat):Bool:=out.any fun o=>kI A ab (gi o 0).iV.toNat i&&sF o
def bM:Nat->LL
 |0=>[]
 |i+1=>bM i++[bif j5 A ab (bM i) i then [.i (i:Int),.i 6,.s (⟨#[]⟩:BY),.i (-1)] else fJ L C A ab oF i]
end
section
variable {L:LL} {C:Nat->BY} {A:Nat->LL} (S:k_ L C A) {ab:Nat} (ho:ab<L.length) (oF:Int)
include S
theorem E2{p:Nat}(d:p<L.length){s:BY}(h:C p=s):lh L C s=some p :=
 Tp (eR _) (by omega) (dE h) fun j _ g=>decide_eq_false fun e=>by
  have:=S.inj (by omega) d (e.trans h.symm);omega
omit S in
theorem aiH{s:BY}(h:∀ k,k<L.length->C k≠s):lh L C s=none:=To fun j _ d=>decide_eq_false (h j (by omega))
include ho
theorem Tq{k:Nat}(g:k<L.length){i j:Nat}(h:[G.i (i:Int),.i (j:Int)]∈br A C ab oF k):qA C A ab oF k i=some j:=by
 have v:=R6 (S.two ho g) (C ab) (C k) oF;unfold qA;have key:∀ q:LL,q.Pairwise (fun a b=>(gi a 0).iV<(gi b 0).iV)->[G.i (i:Int),.i (j:Int)]∈q->q.find? (fun r=>(gi r 0).iV==(i:Int))=some [G.i (i:Int),.i (j:Int)]:=by
  intro q
  induction q with
  |nil=>intro _ h; cases h
  | cons r q y =>
   intro I hm;obtain⟨h1,M⟩:=sR.1 I;rcases cq.1 hm with rfl|hm
   ·rw[T_ (by show ((i:Int)==(i:Int))=true; simp)]
   ·have d := h1 _ hm
    have d:(gi r 0).iV<(i:Int):=d;rw[J3 (by simp; omega)];exact y M hm
 rw[key (br A C ab oF k) v h];show some ((j:Int).toNat)=some j
 rw[a6]
omit S ho in
theorem aiI{k i:Nat}(h:∀ r∈br A C ab oF k,(gi r 0).iV≠(i:Int)):qA C A ab oF k i=none:=by
 unfold qA;rw[List.find?_eq_none.2 fun r d=>by simpa using h r d];rfl
end
section
variable {L:LL} {C:Nat->BY} {A:Nat->LL} (S:k_ L C A) {ab:Nat} (ho:ab<L.length) (oF:Int)
include S ho
theorem aiJ{z:LG}(q:eU z)(v:(gi z 3).sV.size<=100)(ks:List Nat):aa (rR [G.l L,.i (ab:Int),.i oF,.l (bA 0 ks),.l (ks.map fun k=>eG (br A C ab oF k)),.i ((ks.length:Nat):Int),.l (bA 0 ks),.l (ks.map fun k=>ed (br A C ab oF k)),.i ((ks.length:Nat):Int),.l [z]]) fun g=>∃ d:List Nat,g=[G.l L,.i (ab:Int),.i oF,.l (bA 0 d),.l (d.map fun k=>eG (br A C ab oF k)),.i ((d.length:Nat):Int),.l (bA 0 d),.l (d.map fun k=>ed (br A C ab oF k)),.i ((d.length:Nat):Int),.i (lg (-1) 0 (dq C A ab oF z L.length 0)).1,.i (lg (-1) 0 (dq C A ab oF z L.length 0)).2]:=by
 have y:eU (a8 [.I,.I,.str,.str,.I,.I,.str,.str] z):=by rw[q.1]; exact q
 have h:aa (rR [G.l L,.i (ab:Int),.i oF,.l (bA 0 ks),.l (ks.map fun k=>eG (br A C ab oF k)),.i ((ks.length:Nat):Int),.l (bA 0 ks),.l (ks.map fun k=>ed (br A C ab oF k)),.i ((ks.length:Nat):Int),.l [a8 [.I,.I,.str,.str,.I,.I,.str,.str] z]]) fun g=>∃ d:List Nat,g=[G.l L,.i (ab:Int),.i oF,.l (bA 0 d),.l (d.map fun k=>eG (br A C ab oF k)),.i ((d.length:Nat):Int),.l (bA 0 d),.l (d.map fun k=>ed (br A C ab oF k)),.i ((d.length:Nat):Int),.i (lg (-1) 0 (dq C A ab oF (a8 [.I,.I,.str,.str,.I,.I,.str,.str] z) L.length 0)).1,.i (lg (-1) 0 (dq C A ab oF (a8 [.I,.I,.str,.str,.I,.I,.str,.str] z) L.length 0)).2]:=aiG S ho oF y (by rw[<-q.1]at v; exact v) ks;rw[q.1]at h;exact h
theorem Jz{z:LG}:∀(d i:Nat),i+d=L.length->∀ x∈dq C A ab oF z d i,x.1<L.length
 |0,_,_,_,h=>by cases h
 | d+1,i,hi,x,h=>by
  have g:=Jz (z:=z) d (i+1) (by omega);rw[dq]at h;split at h
  ·exact g x h
  ·split at h
   ·rcases cq.1 h with rfl | h
    ·show i < L.length
     omega
    ·exact g x h
   ·exact g x h
theorem aiK{i:Nat}(hi:i<(A ab).length)(ks:List Nat):aa (D1 [G.l L,.i (ab:Int),.i oF,.l (bA 0 ks),.l (ks.map fun k=>eG (br A C ab oF k)),.i ((ks.length:Nat):Int),.l (bA 0 ks),.l (ks.map fun k=>ed (br A C ab oF k)),.i ((ks.length:Nat):Int),.i (i:Int)]) fun g=>∃ d:List Nat,g=[G.l L,.i (ab:Int),.i oF,.l (bA 0 d),.l (d.map fun k=>eG (br A C ab oF k)),.i ((d.length:Nat):Int),.l (bA 0 d),.l (d.map fun k=>ed (br A C ab oF k)),.i ((d.length:Nat):Int),.l [fJ L C A ab oF i]]:=by
 obtain⟨v,hzs⟩:=S.mem ho hi;have hna:=S.na ab ho;have N:=S.n;obtain⟨z,hzd⟩:∃ z,z=(A ab).getD i []:=⟨_,rfl⟩
 have hzm:eU (a8 [.I,.I,.str,.str,.I,.I,.str,.str] ((A ab).getD i [])):=by rw[v.1]; exact v
 unfold D1;dsimp +instances only[gd,Aa,Ab,Ac,Ad,Ae,Af,Ag];simp only[a6,S.get ab ho];dsimp +instances only[gd,Aa,Ab,Ac,Ad,Ae,Af,Ag];refine aa.p (aa.p ?_);refine aa.call (Jl S _) ?_;rintro _ ⟨p,b,rfl,hT,hF⟩;dsimp +instances only[gd,Aa,Ab,Ac,Ad,Ae,Af,Ag];have W:∀(ks:List Nat) (b:Bool),fJ L C A ab oF i=nF L C A ab oF i b->aa (aG (rR [G.l L,.i (ab:Int),.i oF,.l (bA 0 ks),.l (ks.map fun k=>eG (br A C ab oF k)),.i ((ks.length:Nat):Int),.l (bA 0 ks),.l (ks.map fun k=>ed (br A C ab oF k)),.i ((ks.length:Nat):Int),.l [a8 [.I,.I,.str,.str,.I,.I,.str,.str] ((A ab).getD i [])]]) fun g=>(bif bC 0 (gi g 9).iV then (bif (aM (gi g 9).iV)&&(ax (gi g 9).iV (((gi g 0).rZ.length:Nat):Int)) then some [.l (gi g 0).rZ,.i (gi g 1).iV,.i (gi g 2).iV,.l (gi g 3).rZ,.l (gi g 4).rZ,.i (((gi g 5).iV.toNat:Nat):Int),.l (gi g 6).rZ,.l (gi g 7).rZ,.i (((gi g 8).iV.toNat:Nat):Int),.l [[.i (i:Int),.i 2,.s (gi ((gi g 0).rZ.getD ((gi g 9).iV.toNat) []) 0).sV,.i (gi g 10).iV]]] else none) else (bif b then some [.l (gi g 0).rZ,.i (gi g 1).iV,.i (gi g 2).iV,.l (gi g 3).rZ,.l (gi g 4).rZ,.i (((gi g 5).iV.toNat:Nat):Int),.l (gi g 6).rZ,.l (gi g 7).rZ,.i (((gi g 8).iV.toNat:Nat):Int),.l [[.i (i:Int),.i 4,.s ⟨#[]⟩,.i (-1)]]] else some [.l (gi g 0).rZ,.i (gi g 1).iV,.i (gi g 2).iV,.l (gi g 3).rZ,.l (gi g 4).rZ,.i (((gi g 5).iV.toNat:Nat):Int),.l (gi g 6).rZ,.l (gi g 7).rZ,.i (((gi g 8).iV.toNat:Nat):Int),.l [[.i (i:Int),.i 5,.s ⟨#[]⟩,.i (-1)]]])))
   fun g=>∃ d:List Nat,g=[G.l L,.i (ab:Int),.i oF,.l (bA 0 d),.l (d.map fun k=>eG (br A C ab oF k)),.i ((d.length:Nat):Int),.l (bA 0 d),.l (d.map fun k=>ed (br A C ab oF k)),.i ((d.length:Nat):Int),.l [fJ L C A ab oF i]]:=fun ks b M=>by
  rw[M];rw[v.1];refine aa.call (aiJ S ho oF v hzs ks) ?_;rintro _ ⟨d,rfl⟩;dsimp +instances only[gd,Aa,Ab,Ac,Ad,Ae,Af,Ag];simp only[a6];have hlt:=Jz S ho oF (z:=(A ab).getD i []) L.length 0 (by omega);unfold nF;cases hc:dq C A ab oF ((A ab).getD i []) L.length 0 with
  | nil =>
   refine aa.neg rfl ?_;cases b<;>exact aa.some ⟨d,rfl⟩
  | cons x q =>
   rw[hc]at hlt;cases q with
   | nil =>
    have hx:=hlt x cW;have e1:(lg (-1) 0 [x]).1=(x.1:Int):=rfl;have e2:(lg (-1) 0 [x]).2=(x.2:Int):=rfl;rw[e1,e2];refine aa.pos (by rw[eY]; exact dE (by omega)) ?_;simp only[a6,S.get x.1 hx];exact aa.p (aa.some ⟨d,rfl⟩)
   | cons y q =>
    refine aa.neg rfl ?_;cases b<;>exact aa.some ⟨d,rfl⟩
 refine aa.test (fun hb=>?_) fun hb=>?_
 ·obtain ⟨h, O⟩ := hT hb
  have hsk:lh L C (gi ((A ab).getD i []) 3).sV=some p:=E2 S h O;refine aa.cE (Sw S ho oF h ks) ?_;dsimp +instances only[gd,Aa,Ab,Ac,Ad,Ae,Af,Ag];obtain⟨n,N⟩:=Su p ks;simp only[a6,EJ,N,Sy (fun k=>eG (br A C ab oF k)) N];refine aa.pos rfl (aa.pos (ahI _ N) ?_);obtain⟨j1,j2⟩:=ahJ S ho oF h i;refine aa.test (fun hm=>?_) fun hm=>?_
  ·obtain ⟨j, hj, hjm, hjg⟩ := j1 hm
   have U:=Tq S ho oF h hjm;have M:fJ L C A ab oF i=[.i (i:Int),.i (bif jx ((A p).getD j []) ((A ab).getD i []) then 1 else 3),.s (C p),.i (j:Int)]:=by
    unfold fJ;rw[hsk];simp only[U]
   have hnk:=S.na p h;have hg:dn [.I] (gi (eG (br A C ab oF p)) 0).rZ [.i (i:Int)] [.i 0]=[.i (j:Int)]:=hjg;simp only[hg];dsimp +instances only[gd,Aa,Ab,Ac,Ad,Ae,Af,Ag];simp only[a6,S.get ab ho,S.get p h];dsimp +instances only[gd,Aa,Ab,Ac,Ad,Ae,Af,Ag];obtain⟨hy,hys⟩:=S.mem h hj;simp only[v.1,hy.1];refine aa.p (aa.p ?_);refine aa.cE (Sx _ _) ?_;dsimp +instances only[gd,Aa,Ab,Ac,Ad,Ae,Af,Ag];refine aa.test (fun V=>?_) fun V=>?_
   ·refine aa.some ⟨lW p ks, ?_⟩
    rw[M,V,O];rfl
   ·refine aa.some ⟨lW p ks, ?_⟩
    rw[M,V,O];rfl
  ·refine W (lW p ks) b ?_
   have U:qA C A ab oF p i=none:=aiI oF fun r hr e=>by
    obtain⟨x,y,rfl,_,hy,_⟩:=sc (S.two ho h) hr;have e:(x:Int)=(i:Int):=e;have:x=i:=by omega
    subst this;exact j2 hm y hr
   unfold fJ;rw[hsk];simp only[U];rw[hb]
 ·refine W ks b ?_
  unfold fJ;rw[aiH fun k hk e=>hF hb k hk e,hb]
end
theorem Tr(L:LL)(C:Nat->BY)(A:Nat->LL)(ab:Nat)(oF:Int)(i:Nat)(b:Bool):∃(d:Int) (w:BY) (v:Int),nF L C A ab oF i b=[.i (i:Int),.i d,.s w,.i v]:=by
 unfold nF;split
 ·exact⟨_,_,_,rfl⟩
 ·exact⟨_,_,_,rfl⟩
theorem E3(L:LL)(C:Nat->BY)(A:Nat->LL)(ab:Nat)(oF:Int)(i:Nat):∃(d:Int) (w:BY) (v:Int),fJ L C A ab oF i=[.i (i:Int),.i d,.s w,.i v]:=by
 unfold fJ;split
 ·split
  ·exact⟨_,_,_,rfl⟩
  ·exact Tr L C A ab oF i true
 ·exact Tr L C A ab oF i false
theorem E4(A:Nat->LL)(ab:Nat)(out:LL)(i j:Nat)(d:Int)(w:BY)(v:Int):j5 A ab (out++[[.i (i:Int),.i d,.s w,.i v]]) j=(j5 A ab out j||(kI A ab i j&&(d==1||d==3))):=by
 unfold j5;rw[Uj];congr 1;rw[uN,J8,oL];show (kI A ab ((i:Int).toNat) j&&_)=_
 rw[a6];rfl
theorem Ts{A:Nat->LL}{ab:Nat}{out:LL}{i j:Nat}(h:kI A ab i j=true):j5 A ab out i=j5 A ab out j:=by
 unfold j5;congr 1
 funext o
 congr 1;exact wv h
def sG(A:Nat->LL)(ab:Nat)(seen out:LL):Prop:=∀ j,(gi (dn [.str,.str,.I] seen (kW ((A ab).getD j [])) [.t false]) 0).bV=j5 A ab out j
theorem sG.put{A:Nat->LL}{ab:Nat}{seen out:LL}(h:sG A ab seen out){i:Nat}(hi:j5 A ab out i=false)(g:Int)(w:BY)(v:Int)(c:Nat){b:Bool}(hb:b=(g==1||g==3)) :
  sG A ab (ew [.str,.str,.I] seen (kW ((A ab).getD i [])) [.t b] c) (out++[[.i (i:Int),.i g,.s w,.i v]]):=fun j=>by
 rw[zM,E4];cases e:bq [.str,.str,.I] (kW ((A ab).getD j [])) (kW ((A ab).getD i []))with
 | true =>
  have d:kI A ab i j=true:=by
   show bq _ _ _=true
   rw[qn];exact e
  rw[cT,d,<-Ts d,hi,uG,j9];exact hb
 | false =>
  have d:kI A ab i j=false:=by
   show bq _ _ _=false
   rw[qn];exact e
  rw[cF,d,Bq,oL];exact h j
theorem sG.two{A:Nat->LL}{ab:Nat}{seen out:LL}(h:sG A ab seen out)(i:Nat)(w:BY)(v:Int):sG A ab seen (out++[[.i (i:Int),.i 6,.s w,.i v]]):=fun j=>by
 rw[E4,show ((6:Int)==1||(6:Int)==3)=false from rfl,xW,oL];exact h j
theorem qB(L:LL)(C:Nat->BY)(A:Nat->LL)(ab:Nat)(oF:Int):∀ i,(bM L C A ab oF i).length=i
 |0=>rfl
 |i+1=>by rw[bM,fX,qB L C A ab oF i]; rfl
section
variable {L:LL} {C:Nat->BY} {A:Nat->LL} (S:k_ L C A) {ab:Nat} (ho:ab<L.length) (oF:Int)
include S ho
theorem Tt{len:Nat}(hlen:len=(A ab).length):∀(d i:Nat) (ks:List Nat) (seen:LL) (y:Nat),i+d=len->sG A ab seen (bM L C A ab oF i) ->
  aX w9 [G.l L,.i (ab:Int),.i oF,.l (bA 0 ks),.l (ks.map fun k=>eG (br A C ab oF k)),.i ((ks.length:Nat):Int),.l (bA 0 ks),.l (ks.map fun k=>ed (br A C ab oF k)),.i ((ks.length:Nat):Int),.l seen,.i (y:Int),.l (bM L C A ab oF i),.l (A ab),.i (len:Int),.i (i:Int)] (d+1) fun e g =>
   e=0/\∃ q:List Nat,g=[G.l L,.i (ab:Int),.i oF,.l (bA 0 q),.l (q.map fun k=>eG (br A C ab oF k)),.i ((q.length:Nat):Int),.l (bA 0 q),.l (q.map fun k=>ed (br A C ab oF k)),.i ((q.length:Nat):Int),.l (bM L C A ab oF len)]
 | 0,i,ks,seen,y,hi,M=>by
  have e:i=len:=by omega
  subst e;refine aX.stop (x:=0) (aa.toEq ?_) ⟨rfl,ks,rfl⟩;unfold w9;dsimp +instances only[gd,Aa,Ab,Ac,Ad,Ae,Af,Ag];refine aa.n (aa.p (aa.some ?_));simp only[a6]
 | d+1,i,ks,seen,y,hi,M=>by
  have hna:=S.na ab ho;have hl:=qB L C A ab oF i;have step:aa (w9 [G.l L,.i (ab:Int),.i oF,.l (bA 0 ks),.l (ks.map fun k=>eG (br A C ab oF k)),.i ((ks.length:Nat):Int),.l (bA 0 ks),.l (ks.map fun k=>ed (br A C ab oF k)),.i ((ks.length:Nat):Int),.l seen,.i (y:Int),.l (bM L C A ab oF i),.l (A ab),.i (len:Int),.i (i:Int)]) fun o =>
    ∃(q:List Nat) (O:LL) (V:Nat),o=(none,[G.l L,.i (ab:Int),.i oF,.l (bA 0 q),.l (q.map fun k=>eG (br A C ab oF k)),.i ((q.length:Nat):Int),.l (bA 0 q),.l (q.map fun k=>ed (br A C ab oF k)),.i ((q.length:Nat):Int),.l O,.i (V:Int),.l (bM L C A ab oF (i+1)),.l (A ab),.i (len:Int),.i ((i:Int)+1)])/\sG A ab O (bM L C A ab oF (i+1)):=by
   unfold w9;dsimp +instances only[gd,Aa,Ab,Ac,Ad,Ae,Af,Ag];simp only[a6];have ek:([.s (gi ((A ab).getD i []) 3).sV,.s (gi ((A ab).getD i []) 2).sV,.i (gi ((A ab).getD i []) 1).iV]:LG)=kW ((A ab).getD i []):=rfl;simp only[ek,M i];refine aa.p (aa.p ?_);refine aa.test (fun N=>?_) fun N=>?_
   ·have e : bM L C A ab oF (i + 1) = bM L C A ab oF i ++ [[.i (i : Int), .i 6, .s (⟨#[]⟩ : BY), .i (-1)]] := by rw [bM, N]; rfl
    rw[e];exact aa.p (aa.p (aa.p (aa.some ⟨ks,seen,y,rfl,M.two i _ _⟩)))
   ·have e : bM L C A ab oF (i + 1) = bM L C A ab oF i ++ [fJ L C A ab oF i] := by rw [bM, N]; rfl
    rw[e];refine aa.call (aiK S ho oF (by omega) ks) ?_;rintro _ ⟨q,rfl⟩;obtain⟨U,w,v,W⟩:=E3 L C A ab oF i;rw[W];dsimp +instances only[gd,Aa,Ab,Ac,Ad,Ae,Af,Ag];simp only[a6];refine aa.test (fun I=>?_) fun I=>?_
    ·refine aa.p (aa.p (aa.p (aa.some ⟨q, _, _, rfl, M.put N U w v y ?_⟩)))
     have I:(U==1)=true:=I;rw[I];rfl
    ·refine aa.p (aa.p (aa.p (aa.some ⟨q, _, _, rfl, M.put N U w v y ?_⟩)))
     have I:(U==1)=false:=I;rw[I];rfl
  obtain⟨o,h,q,O,V,rfl,W⟩:=step;exact aX.next h (Tt hlen d (i+1) q O V (by omega) W)
theorem aiL:D2 [.l L,.i (ab:Int),.i oF,.l [],.i 0,.l [],.i 0]=some [.l [],.l [],.l [],.l (bM L C A ab oF (A ab).length)]:=by
 have g:=S.na ab ho;have k:=S.n;refine aa.toEq ?_;unfold D2;dsimp +instances only[gd,Aa,Ab,Ac,Ad,Ae,Af,Ag];simp only[a6,S.get ab ho];dsimp +instances only[gd,Aa,Ab,Ac,Ad,Ae,Af,Ag];refine aa.pos rfl (aa.p ?_);have d:=Tt S ho oF (len:=(A ab).length) rfl (A ab).length 0 [] [] 0 (by omega) (fun j=>rfl);refine aa.loop (d.to (by omega)) rfl ?_;rintro _ _ ⟨rfl,h,rfl⟩;dsimp +instances only[gd,Aa,Ab,Ac,Ad,Ae,Af,Ag];exact aa.p (aa.some rfl)
end
theorem aiM{L:LL}{s:BY}{oF e:Int}(h:oy [.l L]=some [.i e])(he:e≠0):kD [.l L,.s s,.i oF]=some [.l [],.i 0,.i e]:=by
 refine aa.toEq ?_;unfold kD;dsimp +instances only[gd,Aa,Ab,Ac,Ad,Ae,Af,Ag];refine aa.call (P:=fun g=>g=[.i e]) (aa.eq h) ?_;rintro _ rfl;exact aa.pos (by show (e != 0)=true; simpa using he) (aa.some rfl)
theorem aiN{L:LL}{s:BY}{oF:Int}(h:oy [.l L]=some [.i 0])(ho:d_ oF 0 3600000=false):kD [.l L,.s s,.i oF]=some [.l [],.i 0,.i 1]:=by
 refine aa.toEq ?_;unfold kD;dsimp +instances only[gd,Aa,Ab,Ac,Ad,Ae,Af,Ag];refine aa.call (P:=fun g=>g=[.i 0]) (aa.eq h) ?_;rintro _ rfl;refine aa.neg rfl ?_;refine aa.call (P:=fun g=>g=[.i 1]) (aa.eq ((Jv oF).trans (by rw[ho]; rfl))) ?_;rintro _ rfl;exact aa.pos rfl (aa.some rfl)
section
variable {L:LL} {C:Nat->BY} {A:Nat->LL} (S:k_ L C A)
include S
theorem aiO{s:BY}{oF:Int}(h:oy [.l L]=some [.i 0])(ho:d_ oF 0 3600000=true)(q:∀ k,k<L.length->C k≠s):kD [.l L,.s s,.i oF]=some [.l [],.i 0,.i 8]:=by
 refine aa.toEq ?_;unfold kD;dsimp +instances only[gd,Aa,Ab,Ac,Ad,Ae,Af,Ag];refine aa.call (P:=fun g=>g=[.i 0]) (aa.eq h) ?_;rintro _ rfl;refine aa.neg rfl ?_;refine aa.call (P:=fun g=>g=[.i 0]) (aa.eq ((Jv oF).trans (by rw[ho]; rfl))) ?_;rintro _ rfl;refine aa.neg rfl ?_;refine aa.call (Jl S s) ?_;rintro _ ⟨p,b,rfl,d,v⟩;dsimp +instances only[gd,Aa,Ab,Ac,Ad,Ae,Af,Ag];cases b with
 |true=>exact(q p (d rfl).1 (d rfl).2).elim
 |false=>exact aa.pos rfl (aa.some rfl)
theorem Tu{ab:Nat}(d:ab<L.length){oF:Int}(h:oy [.l L]=some [.i 0])(ho:d_ oF 0 3600000=true):kD [.l L,.s (C ab),.i oF]=some [.l (bM L C A ab oF (A ab).length),.i (ab:Int),.i 0]:=by
 refine aa.toEq ?_;unfold kD;dsimp +instances only[gd,Aa,Ab,Ac,Ad,Ae,Af,Ag];refine aa.call (P:=fun g=>g=[.i 0]) (aa.eq h) ?_;rintro _ rfl;refine aa.neg rfl ?_;refine aa.call (P:=fun g=>g=[.i 0]) (aa.eq ((Jv oF).trans (by rw[ho]; rfl))) ?_;rintro _ rfl;refine aa.neg rfl ?_;refine aa.call (Jl S (C ab)) ?_;rintro _ ⟨p,b,rfl,v,y⟩;dsimp +instances only[gd,Aa,Ab,Ac,Ad,Ae,Af,Ag];cases b with
 |false=>exact(y rfl ab d rfl).elim
 | true =>
  obtain⟨k,q⟩:=v rfl;have:=S.inj k d q;subst this;refine aa.neg rfl ?_;refine aa.call (P:=fun g=>g=[.l L,.i (p:Int),.i oF,.l [],.i 0,.l [],.i 0]) (aa.eq rfl) ?_;rintro _ rfl;dsimp +instances only[gd,Aa,Ab,Ac,Ad,Ae,Af,Ag];refine aa.call (P:=fun g=>g=[.l [],.l [],.l [],.l (bM L C A p oF (A p).length)]) (aa.eq (aiL S k oF)) ?_;rintro _ rfl;exact aa.some rfl
end
theorem aiP:[G.i ((0:Nat):Int),.i ((0:Nat):Int)]∈br dV lX 0 4 1:=by
 have hs:=EU.two (i:=0) (k:=1) (by decide) (by decide);show _∈jK (dV 0) (dV 1) (lX 0) (lX 1) 4
 refine(Jb _ _ _ _ _).mem_iff.2 (ahw.2 ⟨(⟨#[98]⟩,1),?_⟩);have g:∀(A:LL) (s:BY),A.length=1->gq A s 0=true->bR (A.getD 0 [])=((⟨#[98]⟩:BY),(1:Int))->db A s (⟨#[98]⟩,1)=[0]:=fun A s h1 v N=>by
  have hm:∀ i,i∈db A s (⟨#[98]⟩,1)↔i=0:=fun i=>by
   rw[oC];constructor
   ·rintro⟨h,_⟩; omega
   ·rintro rfl; exact⟨by omega,v,N⟩
  have d:=EC A s (⟨#[98]⟩,1);generalize db A s (⟨#[98]⟩,1)=l at hm d
  match l,hm,d with
  | [],hm,_=>exact absurd ((hm 0).2 rfl) (by simp)
  | [a],hm,_=>rw[(hm a).1 (by simp)]
  | a::b::_,hm,d =>
   have h1:=(hm a).1 (by simp);have v:=(hm b).1 (by simp);have:=(sR.1 d).1 b (by simp);omega
 have O:db (dV 0) (lX 1) (⟨#[98]⟩,1)=[0]:=g _ _ rfl (by show (gT.toList==gT.toList)=true; rw[beq_self_eq_true]) rfl;have U:db (dV 1) (lX 0) (⟨#[98]⟩,1)=[0]:=g _ _ rfl (by show (jy.toList==jy.toList)=true; rw[beq_self_eq_true]) rfl;unfold gh;rw[O,U];refine List.mem_map.2 ⟨(0,0),?_,rfl⟩;unfold AP;have B:=Ey 1 1 (dc (dV 0) (dV 1) [0] [0] 4) (wJ (dV 0) (dV 1) [0] [0]);have q:dc (dV 0) (dV 1) [0] [0] 4 0 0=true:=R5.2 ⟨rfl,rfl,by decide⟩;have I:wJ (dV 0) (dV 1) [0] [0] 0 0=9999999996:=by decide
 show (0,0)∈bz (lR 1 1 (dc (dV 0) (dV 1) [0] [0] 4) (wJ (dV 0) (dV 1) [0] [0])) 1 (dc (dV 0) (dV 1) [0] [0] 4) (wJ (dV 0) (dV 1) [0] [0]) 1 0 0
 generalize lR 1 1 (dc (dV 0) (dV 1) [0] [0] 4) (wJ (dV 0) (dV 1) [0] [0])=F at B|-;have s1:=B.step 0 0 (by omega) (by omega);have s2:=B.mD 1 0 (.inl (by omega));have V:=B.mD 0 1 (.inr (by omega));have M:=B.mD 1 1 (.inl (by omega));rw[iP q,s2,V,M,I]at s1;have W:fV (gf F (dc (dV 0) (dV 1) [0] [0] 4) (wJ (dV 0) (dV 1) [0] [0]) (F 0 0) 0) 0 (1-0)=some 0:=I1 (by omega) (by omega) (uo.2 ⟨q,by rw[I,M,s1]; omega⟩) (fun y _ hy=>by omega);rw[nw W];exact cW
theorem aiQ:kD [.l sD,.s jy,.i 4]=some [.l [[.i 0,.i 1,.s gT,.i 0]],.i 0,.i 0]:=by
 have h:=Tu EU (ab:=0) (by decide) (oF:=4) aif rfl;have d:fJ sD lX dV 0 4 0=[.i 0,.i 1,.s gT,.i 0]:=by
  unfold fJ;rw[show (gi ((dV 0).getD 0 []) 3).sV=gT from rfl,E2 EU (p:=1) (s:=gT) (by decide) rfl];simp only[];rw[Tq EU (ab:=0) (by decide) 4 (k:=1) (by decide) aiP];simp only[];rw[show jx ((dV 1).getD 0 []) ((dV 0).getD 0 [])=true from by kernel_rfl];rfl
 rw[show (dV 0).length=1 from rfl,bM,bM,d]at h;exact h
theorem JA:Et []=some [.t true]:=by
 refine aa.toEq ?_;unfold Et;refine aa.call (P:=fun g=>g=[.l [[.i 0,.i 1,.s gT,.i 0]],.i 0]) ?_ ?_
 ·unfold rS
  dsimp +instances only[gd,Aa,Ab,Ac,Ad,Ae,Af,Ag];refine aa.cE aiQ ?_;exact aa.some rfl
 ·rintro _ rfl
  exact aa.pos rfl (aa.pos rfl (aa.pos rfl (aa.some rfl)))
theorem xM{st:LG->Option (Option Nat × LG)}{mk:Nat->LG}{p:Nat->Bool}{out:Nat->LG}{n:Nat} (h:∀ i,i<n->aa (st (mk i)) fun o=>(p i=true/\o=(some 0,out i))\/(p i=false/\o=(none,mk (i+1)))) (q:st (mk n)=some (some 1,[])):∀ d i,i+d=n ->
  aX st (mk i) (d+1) fun x g=>(x=0/\∃ v,eC p d i=some v/\g=out v)\/(x=1/\eC p d i=none)
 | 0,i,hi=>by
  have:i=n:=by omega
  subst this;exact aX.stop q (.inr ⟨rfl,rfl⟩)
 | d+1,i,hi=>by
  obtain⟨o,y,⟨k,rfl⟩|⟨k,rfl⟩⟩:=h i (by omega)
  ·exact aX.stop y (.inl ⟨rfl,i,by rw[eC,iP k],rfl⟩)
  ·refine aX.next y ?_
   rw[eC,iN (by rw[k]; simp)];exact xM h q d (i+1) (by omega)
theorem Tv{α:Type}(p:α->Bool)(z:α)(l:List α):(eC (fun j=>p (l.getD j z)) l.length 0).isSome=l.any p:=by
 cases h:eC (fun j=>p (l.getD j z)) l.length 0 with
 | some k =>
  obtain⟨_,h1,v⟩:=A7 h;exact(lq.2 ⟨_,jX (z:=z) (by omega),v⟩).symm
 | none =>
  refine(Ui.2 fun x y g=>?_).symm;obtain⟨j,I,rfl⟩:=List.getElem_of_mem y;have key:∀(d i:Nat),eC (fun j=>p (l.getD j z)) d i=none->∀ k,i<=k->k<i+d->p (l.getD k z)=false:=by
   intro d
   induction d with
   |zero=>intro i _ k h1 v; omega
   | succ d M =>
    intro i q k h1 v;rw[eC]at q;split at q
    ·cases q
    ·rename_i g
     by_cases e:k=i
     ·subst e
      simpa using g
     ·exact M (i+1) q k (by omega) (by omega)
  have:=key l.length 0 h j (eR _) (by omega);rw[cu,bY I]at this;simp only[Option.getD_some]at this;rw[this]at g;cases g
theorem aiR(q:LL)(M:q.length<=100000)(w:Nat)(k:∀ r∈q,a8 [.I,.I] r=r):Em [.l q,.l [[.i (w:Int)]]]=some [.t (q.any fun r=>(gi r 1).iV==(w:Int))]:=by
 refine aa.toEq ?_;unfold Em;dsimp +instances only[gd,Aa,Ab,Ac,Ad,Ae,Af,Ag];refine aa.call (P:=fun g=>g=[.i (lY (eC (fun j=>(gi (q.getD j []) 1).iV==(w:Int)) q.length 0))]) ?_ ?_
 ·unfold IL
  dsimp +instances only[gd,Aa,Ab,Ac,Ad,Ae,Af,Ag];have y:=xM (st:=AB) (mk:=fun i=>[.l q,.l [[.i (w:Int)]],.i (q.length:Int),.i (i:Int)]) (p:=fun j=>(gi (q.getD j []) 1).iV==(w:Int)) (out:=fun i=>[.i (i:Int)]) (n:=q.length) (fun i hi=>by
    unfold AB;dsimp +instances only[gd,Aa,Ab,Ac,Ad,Ae,Af,Ag];have he:=k _ (jX (z:=[]) hi);simp only[a6,he];refine aa.p (aa.p ?_);refine aa.call (P:=fun g=>g=[.t ((gi (q.getD i []) 1).iV==(w:Int))]) (aa.eq rfl) ?_;rintro _ rfl;refine aa.test (fun h=>aa.some (.inl ⟨h,rfl⟩)) fun h=>aa.p (aa.some (.inr ⟨h,rfl⟩))) (by
    refine aa.toEq ?_;unfold AB;dsimp +instances only[gd,Aa,Ab,Ac,Ad,Ae,Af,Ag];exact aa.n (aa.some rfl)) q.length 0 (by omega)
  refine aa.loop (y.to (by omega)) rfl ?_;rintro x g (⟨rfl,v,d,rfl⟩|⟨rfl,d⟩)
  ·rw [d]
   exact aa.pos rfl (aa.some rfl)
  ·rw [d]
   exact aa.neg rfl (aa.some rfl)
 ·rintro _ rfl
  refine aa.some ?_;rw[<-Tv (fun r=>(gi r 1).iV==(w:Int)) [] q];cases eC (fun j=>(gi (q.getD j []) 1).iV==(w:Int)) q.length 0 with
  |none=>rfl
  | some v =>
   show [G.t (bC 0 (v:Int))]=[.t true]
   rw[eY,dE (by omega)]
theorem Tw(z w:LG):AA [.l [z],.l [w]]=some [.t (jx w z)]:=by
 refine aa.toEq ?_;unfold AA jx;dsimp +instances only[gd,Aa,Ab,Ac,Ad,Ae,Af,Ag];rw[show ((gi w 4).iV==(gi z 5).iV)=((gi z 5).iV==(gi w 4).iV) from akN,show ((gi w 6).sV.toList==(gi z 7).sV.toList)=((gi z 7).sV.toList==(gi w 6).sV.toList) from akN];cases (gi z 5).iV==(gi w 4).iV<;>exact aa.some rfl
section
variable {L:LL} {C:Nat->BY} {A:Nat->LL} (R:sk L C A) {ab:Nat} (ho:ab<L.length) {oF:Int} (h0:0<=oF) (h1:oF<=3600000)
include R
theorem Tx(s:BY):rU [.l L,.s s]=some [.i (lY (lh L C s))]:=by
 have y:=R.n;refine aa.toEq ?_;unfold rU;dsimp +instances only[gd,Aa,Ab,Ac,Ad,Ae,Af,Ag];refine aa.call (P:=fun g=>g=[.i (lY (lh L C s))]) ?_ ?_
 ·unfold D_
  dsimp +instances only[gd,Aa,Ab,Ac,Ad,Ae,Af,Ag];have q:=xM (st:=rT) (mk:=fun i=>[.l L,.l [[.s s]],.i (L.length:Int),.i (i:Int)]) (p:=fun k=>decide (C k=s)) (out:=fun i=>[.i (i:Int)]) (n:=L.length) (fun i hi=>by
    unfold rT;dsimp +instances only[gd,Aa,Ab,Ac,Ad,Ae,Af,Ag];simp only[a6,R.get i hi];refine aa.p (aa.p ?_);refine aa.call (P:=fun g=>g=[.t (decide (C i=s))]) (aa.eq (by rw[<-k9]; rfl)) ?_;rintro _ rfl;refine aa.test (fun h=>aa.some (.inl ⟨h,rfl⟩)) fun h=>aa.p (aa.some (.inr ⟨h,rfl⟩))) (by
    refine aa.toEq ?_;unfold rT;dsimp +instances only[gd,Aa,Ab,Ac,Ad,Ae,Af,Ag];exact aa.n (aa.some rfl)) L.length 0 (by omega)
  refine aa.loop (q.to (by omega)) rfl ?_;rintro x g (⟨rfl,v,d,rfl⟩|⟨rfl,d⟩)
  ·have d : lh L C s = some v := d
   rw[d];exact aa.pos rfl (aa.some rfl)
  ·have d : lh L C s = none := d
   rw[d];exact aa.neg rfl (aa.some rfl)
 ·rintro _ rfl
  exact aa.some rfl
theorem R3{i k:Nat}(hi:i<L.length)(d:k<L.length):uv (A i) (A k) :=
 aii (a:=C i) (b:=C k) (R.jZ i hi) (R.jZ k d) (by have:=R.na i hi; omega) (by have:=R.na k d; omega) (R.fault i hi) (R.fault k d)
include ho
theorem aiS{k:Nat}(d:k<L.length):∀ r∈br A C ab oF k,a8 [.I,.I] r=r:=fun r g=>by
 obtain⟨x,y,rfl,_⟩:=sc (R3 R ho d).two g;rfl
theorem Ty{k:Nat}(d:k<L.length):(br A C ab oF k).length<=40:=kJ (R7 (R3 R ho d).two (C ab) (C k) oF) (R.na ab ho)
theorem Tz{k:Nat}(U:k<L.length){t m s h:Int}{b c x y:BY}(hc:eU [.i t,.i m,.s b,.s c,.i s,.i h,.s x,.s y])(i n I:Int)(out:LL)(hout:out.length<=1000):∀(d j:Nat),j+d=(A k).length ->
  aX xk [.s (C ab),.l (A ab),.i t,.i m,.s b,.s c,.i s,.i h,.s x,.s y,.l out,.s (C k),.l (A k),.i i,.i oF,.l (br A C ab oF k),.l L,.i n,.i I,.l (A k),.i ((A k).length:Int),.i (j:Int)] (d+1) fun e g =>
   e=0/\g=[.s (C ab),.l (A ab),.i t,.i m,.s b,.s c,.i s,.i h,.s x,.s y,.l (out++(match eC (jL C A ab oF k [.i t,.i m,.s b,.s c,.i s,.i h,.s x,.s y]) d j with|some v=>[[.i i,.i 2,.s (C k),.i (v:Int)]]|none=>[])),.i i,.i oF,.l L,.i n,.i I]
 | 0,j,hj=>by
  refine aX.stop (x:=0) (aa.toEq ?_) ⟨rfl,rfl⟩;unfold xk;dsimp +instances only[gd,Aa,Ab,Ac,Ad,Ae,Af,Ag];refine aa.n (aa.pos (by simp) (aa.some ?_));show _=(some 0,[G.s (C ab),.l (A ab),.i t,.i m,.s b,.s c,.i s,.i h,.s x,.s y,.l (out++[]),.i i,.i oF,.l L,.i n,.i I])
  rw[dJ]
 | d+1,j,hj=>by
  have hna:=R.na k U;have ih:=Tz U hc i n I out hout d (j+1) (by omega);have hz:eU ((A k).getD j []):=(R3 R ho U).two.hb _ (jX (by omega));have hpl:=Ty R ho (oF:=oF) U;have step:aa (xk [.s (C ab),.l (A ab),.i t,.i m,.s b,.s c,.i s,.i h,.s x,.s y,.l out,.s (C k),.l (A k),.i i,.i oF,.l (br A C ab oF k),.l L,.i n,.i I,.l (A k),.i ((A k).length:Int),.i (j:Int)]) fun o =>
    (jL C A ab oF k [.i t, .i m, .s b, .s c, .i s, .i h, .s x, .s y] j = true /\ o = (some 0, [.s (C ab), .l (A ab), .i t, .i m, .s b, .s c, .i s, .i h, .s x, .s y, .l (out ++ [[.i i, .i 2, .s (C k), .i (j : Int)]]), .i i, .i oF, .l L, .i n, .i I])) \/
     (jL C A ab oF k [.i t,.i m,.s b,.s c,.i s,.i h,.s x,.s y] j=false/\o=(none,[.s (C ab),.l (A ab),.i t,.i m,.s b,.s c,.i s,.i h,.s x,.s y,.l out,.s (C k),.l (A k),.i i,.i oF,.l (br A C ab oF k),.l L,.i n,.i I,.l (A k),.i ((A k).length:Int),.i ((j:Int)+1)])):=by
   unfold xk;dsimp +instances only[gd,Aa,Ab,Ac,Ad,Ae,Af,Ag];simp only[a6,hz.1];refine aa.p (aa.p ?_);refine aa.cE (aiR _ (by omega) j (aiS R ho U)) ?_;dsimp +instances only[gd,Aa,Ab,Ac,Ad,Ae,Af,Ag];have O:jL C A ab oF k [.i t,.i m,.s b,.s c,.i s,.i h,.s x,.s y] j=(((gi ((A k).getD j []) 3).sV.toList==(C ab).toList)&&(jV oF [.i t,.i m,.s b,.s c,.i s,.i h,.s x,.s y] ((A k).getD j [])&&(!((br A C ab oF k).any fun r=>(gi r 1).iV==(j:Int))&&jx ((A k).getD j []) [.i t,.i m,.s b,.s c,.i s,.i h,.s x,.s y]))):=rfl;refine aa.test (fun N=>?_) fun N=>aa.p (aa.pos (by simp) (aa.some (.inr ⟨by rw[O,N]; rfl,rfl⟩)));refine aa.cE (SJ oF hc hz) ?_;refine aa.test (fun q=>?_) fun q=>aa.p (aa.pos (by simp) (aa.some (.inr ⟨by
    have q:jV oF [.i t,.i m,.s b,.s c,.i s,.i h,.s x,.s y] ((A k).getD j [])=false:=q;rw[O,N,q];rfl,rfl⟩)))
   have q:jV oF [.i t,.i m,.s b,.s c,.i s,.i h,.s x,.s y] ((A k).getD j [])=true:=q;refine aa.test (fun V=>?_) fun V=>aa.p (aa.pos (by simp) (aa.some (.inr ⟨by rw[O,N,q,V]; rfl,rfl⟩)));refine aa.cE (Tw _ _) ?_;refine aa.test (fun M=>?_) fun M=>aa.p (aa.pos (by simp) (aa.some (.inr ⟨by
    have M:jx ((A k).getD j []) [.i t,.i m,.s b,.s c,.i s,.i h,.s x,.s y]=false:=M;rw[O,N,q,V,M];rfl,rfl⟩)))
   have M:jx ((A k).getD j []) [.i t,.i m,.s b,.s c,.i s,.i h,.s x,.s y]=true:=M;exact aa.pos (by rw[iM,j9,dT]; omega) (aa.pos (by simp) (aa.some (.inl ⟨by rw[O,N,q,V,M]; rfl,rfl⟩)))
  obtain⟨o,hst,⟨W,rfl⟩|⟨W,rfl⟩⟩:=step
  ·refine aX.stop hst ⟨rfl, ?_⟩
   rw[eC,iP W]
  ·refine aX.next hst ?_
   rw[eC,iN (by rw[W]; simp)];exact ih
def A8(C:Nat->BY)(i:Int)(x:Nat × Nat):LG:=[.i i,.i 2,.s (C x.1),.i (x.2:Int)]
include h0 h1
theorem JB{t m s h:Int}{b c x y:BY}(W:eU [.i t,.i m,.s b,.s c,.i s,.i h,.s x,.s y])(bX:c.size<=20)(hC:∀ k,k<L.length->(C k).size<=12)(i:Int):∀(d k:Nat) (out:LL),k+d=L.length->out.length<=k ->
  aX oz [.s (C ab),.l (A ab),.i t,.i m,.s b,.s c,.i s,.i h,.s x,.s y,.l out,.i i,.i oF,.l L,.i (L.length:Int),.i (k:Int)] (d+1) fun e g=>e=0/\g=[.l (out++(dq C A ab oF [.i t,.i m,.s b,.s c,.i s,.i h,.s x,.s y] d k).map (A8 C i))]
 | 0,k,out,hk,ho'=>by
  refine aX.stop (x:=0) (aa.toEq ?_) ⟨rfl,rfl⟩;unfold oz;dsimp +instances only[gd,Aa,Ab,Ac,Ad,Ae,Af,Ag];refine aa.n (aa.pos (by simp) (aa.some ?_));show _=(some 0,[G.l (out++[])])
  rw[dJ]
 | d+1,k,out,hk,ho'=>by
  have hn:=R.n;have I:k<L.length:=by omega
  have hna:=R.na k I;have skip:dq C A ab oF [.i t,.i m,.s b,.s c,.i s,.i h,.s x,.s y] (d+1) k=dq C A ab oF [.i t,.i m,.s b,.s c,.i s,.i h,.s x,.s y] d (k+1)->oz [.s (C ab),.l (A ab),.i t,.i m,.s b,.s c,.i s,.i h,.s x,.s y,.l out,.i i,.i oF,.l L,.i (L.length:Int),.i (k:Int)]=some (none,[.s (C ab),.l (A ab),.i t,.i m,.s b,.s c,.i s,.i h,.s x,.s y,.l out,.i i,.i oF,.l L,.i (L.length:Int),.i ((k:Int)+1)])->aX oz [.s (C ab),.l (A ab),.i t,.i m,.s b,.s c,.i s,.i h,.s x,.s y,.l out,.i i,.i oF,.l L,.i (L.length:Int),.i (k:Int)] (d+1+1) fun e g=>e=0/\g=[.l (out++(dq C A ab oF [.i t,.i m,.s b,.s c,.i s,.i h,.s x,.s y] (d+1) k).map (A8 C i))]:=fun e N=>by
   rw[e];exact aX.next N (JB W bX hC i d (k+1) out (by omega) (by omega))
  by_cases O:k=ab
  ·refine skip (by rw [dq, iP (.inl O)]) (aa.toEq ?_)
   unfold oz;dsimp +instances only[gd,Aa,Ab,Ac,Ad,Ae,Af,Ag];simp only[a6,R.get k I];dsimp +instances only[gd,Aa,Ab,Ac,Ad,Ae,Af,Ag];refine aa.p (aa.p (aa.pos (by rw[k9,O]; simp) ?_));exact aa.p (aa.pos (by simp) (aa.some rfl))
  have V:((C k).toList==(C ab).toList)=false:=by
   rw[k9];exact decide_eq_false fun e=>O (R.xE.inj I ho e)
  by_cases U:C k=c
  ·refine skip (by rw [dq, iP (.inr U)]) (aa.toEq ?_)
   unfold oz;dsimp +instances only[gd,Aa,Ab,Ac,Ad,Ae,Af,Ag];simp only[a6,R.get k I];dsimp +instances only[gd,Aa,Ab,Ac,Ad,Ae,Af,Ag];refine aa.p (aa.p (aa.neg V (aa.pos (by rw[k9,U]; simp) ?_)));exact aa.p (aa.pos (by simp) (aa.some rfl))
  have g2':((C k).toList==c.toList)=false:=by
   rw[k9];exact decide_eq_false U
  have M:dq C A ab oF [.i t,.i m,.s b,.s c,.i s,.i h,.s x,.s y] (d+1) k=(match qz C A ab oF k [.i t,.i m,.s b,.s c,.i s,.i h,.s x,.s y]with
    |some v=>(k,v)::dq C A ab oF [.i t,.i m,.s b,.s c,.i s,.i h,.s x,.s y] d (k+1)
    |none=>dq C A ab oF [.i t,.i m,.s b,.s c,.i s,.i h,.s x,.s y] d (k+1)):=by
   rw[dq];exact iN (by rintro(h3|h3)<;>first|exact O h3|exact U h3)
  have hsz:=hC k I;have N:=aiD (a:=C k) (b:=c) (by omega);by_cases g3:2<dI (C k).data.toList c.data.toList
  ·have e : qz C A ab oF k [.i t, .i m, .s b, .s c, .i s, .i h, .s x, .s y] = none := iP g3
   rw[e]at M;refine skip M (aa.toEq ?_);unfold oz;dsimp +instances only[gd,Aa,Ab,Ac,Ad,Ae,Af,Ag];simp only[a6,R.get k I];dsimp +instances only[gd,Aa,Ab,Ac,Ad,Ae,Af,Ag];refine aa.p (aa.p (aa.neg V (aa.neg g2' ?_)));refine aa.call (P:=fun g=>g=[.i (dI (C k).data.toList c.data.toList:Int)]) (aa.eq N) ?_;rintro _ rfl;refine aa.pos (by rw[cB]; exact dE (by show (2:Int)<(dI (C k).data.toList c.data.toList:Int); omega)) ?_;exact aa.p (aa.pos (by simp) (aa.some rfl))
  ·have e : qz C A ab oF k [.i t, .i m, .s b, .s c, .i s, .i h, .s x, .s y] = eC (jL C A ab oF k [.i t, .i m, .s b, .s c, .i s, .i h, .s x, .s y]) (A k).length 0 := iN g3
   rw[e]at M;obtain⟨q,hq⟩:∃ q,q=(match eC (jL C A ab oF k [.i t,.i m,.s b,.s c,.i s,.i h,.s x,.s y]) (A k).length 0 with|some v=>[[G.i i,.i 2,.s (C k),.i (v:Int)]]|none=>([]:LL)):=⟨_,rfl⟩
   have hql:q.length<=1:=by
    rw[hq];cases eC (jL C A ab oF k [.i t,.i m,.s b,.s c,.i s,.i h,.s x,.s y]) (A k).length 0<;>simp
   have hcat:(dq C A ab oF [.i t,.i m,.s b,.s c,.i s,.i h,.s x,.s y] (d+1) k).map (A8 C i)=q++(dq C A ab oF [.i t,.i m,.s b,.s c,.i s,.i h,.s x,.s y] d (k+1)).map (A8 C i):=by
    rw[M,hq];cases eC (jL C A ab oF k [.i t,.i m,.s b,.s c,.i s,.i h,.s x,.s y]) (A k).length 0<;>rfl
   have step:oz [.s (C ab),.l (A ab),.i t,.i m,.s b,.s c,.i s,.i h,.s x,.s y,.l out,.i i,.i oF,.l L,.i (L.length:Int),.i (k:Int)]=some (none,[.s (C ab),.l (A ab),.i t,.i m,.s b,.s c,.i s,.i h,.s x,.s y,.l (out++q),.i i,.i oF,.l L,.i (L.length:Int),.i ((k:Int)+1)]):=by
    refine aa.toEq ?_;unfold oz;dsimp +instances only[gd,Aa,Ab,Ac,Ad,Ae,Af,Ag];simp only[a6,R.get k I];dsimp +instances only[gd,Aa,Ab,Ac,Ad,Ae,Af,Ag];refine aa.p (aa.p (aa.neg V (aa.neg g2' ?_)));refine aa.call (P:=fun g=>g=[.i (dI (C k).data.toList c.data.toList:Int)]) (aa.eq N) ?_;rintro _ rfl;refine aa.neg (by rw[cB]; exact decide_eq_false (by show ¬ (2:Int)<(dI (C k).data.toList c.data.toList:Int); omega)) ?_;refine aa.call (P:=fun g=>g=[.l (br A C ab oF k)]) (aa.eq (S8 (R3 R ho I) (C ab) (C k) h1)) ?_;rintro _ rfl;dsimp +instances only[gd,Aa,Ab,Ac,Ad,Ae,Af,Ag];refine aa.loop ((Tz R ho I W i (L.length:Int) (k:Int) out (by omega) (A k).length 0 (by omega)).to (by omega)) (by first|rfl|simp) ?_;rintro e g ⟨rfl,rfl⟩;rw[<-hq];dsimp +instances only[gd,Aa,Ab,Ac,Ad,Ae,Af,Ag];exact aa.p (aa.pos (by simp) (aa.some rfl))
   rw[hcat,<-gG];exact aX.next step (JB W bX hC i d (k+1) (out++q) (by omega) (by rw[fX]; omega))
end
theorem TA{c:BY}(h:c∈calls):c.size<=12:=by
 have d:calls.all (fun c=>Nat.ble c.size 12)=true:=by kernel_rfl
 simpa using dK.1 d c h
theorem aiT{z:LG}(h:dZ z):(gi z 3).sV∈calls:=by
 obtain⟨t,m,b,c,s,g,x,y,rfl,_,_,_,_,_,d,_⟩:=h;exact d
theorem aiU{z:LG}(d:a8 [.I,.I,.str,.str,.I,.I,.str,.str] z=z):([.i (gi z 0).iV,.i (gi z 1).iV,.s (gi z 2).sV,.s (gi z 3).sV,.i (gi z 4).iV,.i (gi z 5).iV,.s (gi z 6).sV,.s (gi z 7).sV]:LG)=z:=by
 conv=>rhs; rw[<-d]
 cases z with
 |nil=>rfl
 | cons g z=>cases z with
  |nil=>rfl
  | cons h z=>cases z with
   |nil=>rfl
   | cons k z=>cases z with
    |nil=>rfl
    | cons q z=>cases z with
     |nil=>rfl
     | cons v z=>cases z with
      |nil=>rfl
      | cons y z=>cases z with
       |nil=>rfl
       |cons M z=>cases z<;>rfl
section
variable {L:LL} {C:Nat->BY} {A:Nat->LL} (R:sk L C A) {ab:Nat} (ho:ab<L.length) {oF:Int} (h0:0<=oF) (h1:oF<=3600000)
include R ho h0 h1
theorem aiV{i:Nat}(hi:i<(A ab).length):AD [.l L,.l [[.s (C ab),.l (A ab)]],.i (i:Int),.i oF]=some [.l ((dq C A ab oF ((A ab).getD i []) L.length 0).map (A8 C (i:Int)))]:=by
 have N:=R.n;have M:=R.na ab ho;have d:=R.jZ ab ho _ (jX (z:=[]) hi);have v:eU ((A ab).getD i []):=(R3 R ho ho).two.ha _ (jX hi);have he:=aiU d.eta;have q:=JB R ho h0 h1 (t:=(gi ((A ab).getD i []) 0).iV) (m:=(gi ((A ab).getD i []) 1).iV) (b:=(gi ((A ab).getD i []) 2).sV) (c:=(gi ((A ab).getD i []) 3).sV) (s:=(gi ((A ab).getD i []) 4).iV) (h:=(gi ((A ab).getD i []) 5).iV) (x:=(gi ((A ab).getD i []) 6).sV) (y:=(gi ((A ab).getD i []) 7).sV)
  (by rw[he]; exact v) (by have:=TA (aiT d); omega) (fun k I=>TA (R.call k I)) (i:Int) L.length 0 [] (by omega) (aQ _)
 rw[he]at q;refine aa.toEq ?_;unfold AD;dsimp +instances only[gd,Aa,Ab,Ac,Ad,Ae,Af,Ag];simp only[a6];refine aa.p ?_;refine aa.loop (q.to (by omega)) (by first|rfl|simp) ?_;rintro e g ⟨rfl,rfl⟩;dsimp +instances only[gd,Aa,Ab,Ac,Ad,Ae,Af,Ag];exact aa.pos (by simp) (aa.some rfl)
omit R ho h0 h1 in
theorem aiW(q:LL)(O:q.length<=100000)(I:∀ r∈q,∃ a b:Nat,r=[.i (a:Int),.i (b:Int)])(i:Nat):Ek [.l q,.i (i:Int)]=some [.i (lY ((q.find? fun r=>(gi r 0).iV==(i:Int)).map fun r=>(gi r 1).iV.toNat))]:=by
 have key:∀(p:LL),(eC (fun j=>(gi (p.getD j []) 0).iV==(i:Int)) p.length 0).map (fun j=>(gi (p.getD j []) 1).iV.toNat)=(p.find? fun r=>(gi r 0).iV==(i:Int)).map fun r=>(gi r 1).iV.toNat:=by
  have gen:∀(p pre:LL),(eC (fun j=>(gi ((pre++p).getD j []) 0).iV==(i:Int)) p.length pre.length).map (fun j=>(gi ((pre++p).getD j []) 1).iV.toNat)=(p.find? fun r=>(gi r 0).iV==(i:Int)).map fun r=>(gi r 1).iV.toNat:=by
   intro p
   induction p with
   |nil=>intro pre; rfl
   | cons r p d =>
    intro pre;have y:(pre++r::p).getD pre.length []=r:=by
     rw[cu,List.getElem?_append_right (aQ _),Nat.sub_self];rfl
    have d:=d (pre++[r]);rw[gG,fX]at d;have d:(eC (fun j=>(gi ((pre++r::p).getD j []) 0).iV==(i:Int)) p.length (pre.length+1)).map (fun j=>(gi ((pre++r::p).getD j []) 1).iV.toNat)=(p.find? fun r=>(gi r 0).iV==(i:Int)).map fun r=>(gi r 1).iV.toNat:=d;rw[cd,eC];simp only[y];by_cases h:((gi r 0).iV==(i:Int))=true
    ·have e : (r :: p).find? (fun r => (gi r 0).iV == (i : Int)) = some r := T_ h
     rw[iP h,e];show some (gi ((pre++r::p).getD pre.length []) 1).iV.toNat=some (gi r 1).iV.toNat
     rw[y]
    ·have e : (r :: p).find? (fun r => (gi r 0).iV == (i : Int)) = p.find? (fun r => (gi r 0).iV == (i : Int)) := J3 h
     rw[iN h,e];exact d
  intro p;exact gen p []
 have M:=xM (st:=Az) (mk:=fun j=>[.i (i:Int),.l q,.i (q.length:Int),.i (j:Int)]) (p:=fun j=>(gi (q.getD j []) 0).iV==(i:Int)) (out:=fun j=>[.i (gi (q.getD j []) 1).iV]) (n:=q.length) (fun j U=>by
   unfold Az;dsimp +instances only[gd,Aa,Ab,Ac,Ad,Ae,Af,Ag];simp only[a6];refine aa.p (aa.p ?_);refine aa.test (fun h=>aa.some (.inl ⟨h,rfl⟩)) fun h=>aa.p (aa.some (.inr ⟨h,rfl⟩))) (by
   refine aa.toEq ?_;unfold Az;dsimp +instances only[gd,Aa,Ab,Ac,Ad,Ae,Af,Ag];exact aa.n (aa.some rfl)) q.length 0 (by omega)
 rw[<-key q];refine aa.toEq ?_;unfold Ek;dsimp +instances only[gd,Aa,Ab,Ac,Ad,Ae,Af,Ag];refine aa.loop (M.to (by omega)) rfl ?_;rintro x g (⟨rfl,v,k,rfl⟩|⟨rfl,k⟩)
 ·obtain ⟨_, N, _⟩ := A7 k
  obtain⟨a,b,e⟩:=I _ (jX (z:=[]) (show v<q.length by omega));rw[k];refine aa.pos rfl (aa.some ?_);show [G.i (gi (q.getD v []) 1).iV]=[.i (((gi (q.getD v []) 1).iV.toNat:Nat):Int)]
  rw[e];rfl
 ·rw [k]
  exact aa.neg rfl (aa.some rfl)
theorem aiX{i:Nat}(hi:i<(A ab).length):Eo [.l L,.l [[.s (C ab),.l (A ab)]],.i (i:Int),.i oF]=some [.l [fJ L C A ab oF i]]:=by
 have hn:=R.n;have hna:=R.na ab ho;have hcon:=R.jZ ab ho _ (jX (z:=[]) hi);have hM:eU ((A ab).getD i []):=(R3 R ho ho).two.ha _ (jX hi);have hw:=aiV R ho h0 h1 hi;have hlt:=Jz R.xE ho oF (z:=(A ab).getD i []) L.length 0 (by omega);have U:∀(u:Int) (b:Bool),b=bC 0 u->fJ L C A ab oF i=nF L C A ab oF i b->aa (aG (AD [.l L,.l [[.s (C ab),.l (A ab)]],.i (i:Int),.i oF]) fun g=>(bif ((((gi g 0).rZ.length:Nat):Int)==1) then (bif ax 0 (((gi g 0).rZ.length:Nat):Int) then some [G.l [a8 dp ((gi g 0).rZ.getD 0 [])]] else none) else (bif bC 0 u then some [.l [[.i (i:Int),.i 4,.s ⟨#[]⟩,.i (-1)]]] else some [.l [[.i (i:Int),.i 5,.s ⟨#[]⟩,.i (-1)]]]))) fun g=>g=[.l [fJ L C A ab oF i]]:=fun u b hb M=>by
  rw[M];refine aa.cE hw ?_;dsimp +instances only[gd,Aa,Ab,Ac,Ad,Ae,Af,Ag];unfold nF;cases dq C A ab oF ((A ab).getD i []) L.length 0 with
  | nil =>
   refine aa.neg rfl ?_;rw[<-hb];cases b<;>exact aa.some rfl
  | cons x q =>
   cases q with
   |nil=>exact aa.pos rfl (aa.pos rfl (aa.some rfl))
   | cons y q =>
    refine aa.neg ?_ ?_
    ·rw [beq_eq_false_iff_ne, c9, cd, cd]
     omega
    rw[<-hb];cases b<;>exact aa.some rfl
 refine aa.toEq ?_;unfold Eo;dsimp +instances only[gd,Aa,Ab,Ac,Ad,Ae,Af,Ag];simp only[a6];refine aa.p ?_;refine aa.cE (Tx R (gi ((A ab).getD i []) 3).sV) ?_;dsimp +instances only[gd,Aa,Ab,Ac,Ad,Ae,Af,Ag];cases N:lh L C (gi ((A ab).getD i []) 3).sV with
 | none =>
  refine aa.neg rfl ?_;refine U (lY none) false rfl ?_;unfold fJ;rw[N]
 | some k =>
  obtain⟨_,v,I⟩:=A7 N;have v:k<L.length:=by omega
  have I:C k=(gi ((A ab).getD i []) 3).sV:=of_decide_eq_true I;have hnk:=R.na k v;have e1:lY (some k)=(k:Int):=rfl;rw[e1];have V:bC 0 (k:Int)=true:=by rw[eY]; exact dE (by omega)
  refine aa.pos V ?_;simp only[a6,R.get k v];refine aa.p ?_;refine aa.call (P:=fun g=>g=[.l (br A C ab oF k)]) (aa.eq (S8 (R3 R ho v) (C ab) (C k) h1)) ?_;rintro _ rfl;dsimp +instances only[gd,Aa,Ab,Ac,Ad,Ae,Af,Ag];have hpl:=Ty R ho (oF:=oF) v;have hpp:∀ r∈br A C ab oF k,∃ a b:Nat,r=[.i (a:Int),.i (b:Int)]:=fun r hr=>by
   obtain⟨x,y,rfl,_⟩:=sc (R3 R ho v).two hr;exact⟨x,y,rfl⟩
  refine aa.call (P:=fun g=>g=[.i (lY (qA C A ab oF k i))]) (aa.eq (aiW _ (by omega) hpp i)) ?_;rintro _ rfl;dsimp +instances only[gd,Aa,Ab,Ac,Ad,Ae,Af,Ag];cases d:qA C A ab oF k i with
  | none =>
   refine aa.neg rfl ?_;refine U (k:Int) true V.symm ?_;unfold fJ;rw[N];simp only[d]
  | some j =>
   have hjl:j<(A k).length:=by
    unfold qA at d;cases O:(br A C ab oF k).find? fun r=>(gi r 0).iV==(i:Int)with
    |none=>rw[O]at d; cases d
    | some r =>
     rw[O]at d;have hm:=List.mem_of_find?_eq_some O;obtain⟨x,y,rfl,_,W,_⟩:=sc (R3 R ho v).two hm;have d:(y:Int).toNat=j:=jd d;rw[a6]at d;omega
   have e2:lY (some j)=(j:Int):=rfl;rw[e2];have W:eU ((A k).getD j []):=(R3 R ho v).two.hb _ (jX hjl);refine aa.pos (by rw[eY]; exact dE (by omega)) ?_;simp only[a6,hM.1,W.1];refine aa.p (aa.p ?_);refine aa.cE (Tw _ _) ?_;have M:fJ L C A ab oF i=[.i (i:Int),.i (bif jx ((A k).getD j []) ((A ab).getD i []) then 1 else 3),.s (C k),.i (j:Int)]:=by
    unfold fJ;rw[N];simp only[d]
   refine aa.test (fun h=>aa.some ?_) fun h=>aa.some ?_
   ·have h : jx ((A k).getD j []) ((A ab).getD i []) = true := h
    rw[M,h,I];rfl
   ·have h : jx ((A k).getD j []) ((A ab).getD i []) = false := h
    rw[M,h,I];rfl
omit R ho h0 h1 in
theorem TB(i:Nat):∀ o∈bM L C A ab oF i,∃(j:Nat) (d:Int) (w:BY) (v:Int),o=[.i (j:Int),.i d,.s w,.i v]/\j<i:=by
 induction i with
 |zero=>intro o h; cases h
 | succ i g =>
  intro o h;rw[bM]at h;rcases c_.1 h with h|h
  ·obtain ⟨j, d, w, v, e, k⟩ := g o h
   exact⟨j,d,w,v,e,by omega⟩
  ·rw [l_.1 h]
   cases j5 A ab (bM L C A ab oF i) i with
   |true=>exact⟨i,6,_,-1,rfl,by omega⟩
   | false =>
    obtain⟨d,w,v,e⟩:=E3 L C A ab oF i;exact⟨i,d,w,v,e,by omega⟩
omit R ho h0 h1 in
theorem aiY:∀(n j:Nat),((bM L C A ab oF n).any fun o=>kI A ab (gi o 0).iV.toNat j&&(sF o||(gi o 1).iV==6))=j5 A ab (bM L C A ab oF n) j:=by
 intro n
 induction n with
 |zero=>intro j; rfl
 | succ n g =>
  intro j;rw[bM];cases k:j5 A ab (bM L C A ab oF n) n with
  | true =>
   rw[cT,Uj,g j,E4];simp only[uN,J8,oL];rw[show ((6:Int)==1||(6:Int)==3)=false from rfl,xW,oL];show (j5 A ab (bM L C A ab oF n) j||(kI A ab ((n:Int).toNat) j&&_))=_
   rw[a6];cases y:kI A ab n j with
   |false=>rw[Bq,oL]
   | true =>
    rw[Ts y]at k;rw[k,Bool.true_or]
  | false =>
   obtain⟨d,w,v,e⟩:=E3 L C A ab oF n;rw[cF,e,Uj,g j,E4];simp only[uN,J8,oL];congr 1;show (kI A ab ((n:Int).toNat) j&&((d==1||d==3)||d==6))=_
   rw[a6];have I:(d==6)=false:=by
    have:d=1\/d=3\/d=2\/d=4\/d=5:=by
     have q:∀ b,∀(d:Int) (w:BY) (v:Int),nF L C A ab oF n b=[.i (n:Int),.i d,.s w,.i v]->d=1\/d=3\/d=2\/d=4\/d=5:=fun b d w v h=>by
      unfold nF at h;split at h
      ·cases h; omega
      ·cases b<;>(cases h; decide)
     unfold fJ at e;split at e
     ·split at e
      ·injection e with _ e
       injection e with e _
       injection e with e
       rw[<-e];cases jx ((A _).getD _ []) ((A ab).getD n [])<;>simp
      ·exact q _ _ _ _ e
     ·exact q _ _ _ _ e
    rw[beq_eq_false_iff_ne];omega
   rw[I,oL]
theorem aiZ{n:Nat}(hn:n<=(A ab).length){j:Nat}(U:j<(A ab).length):Ec [.l (bM L C A ab oF n),.l [[.s (C ab),.l (A ab)]],.l [(A ab).getD j []]]=some [.t (j5 A ab (bM L C A ab oF n) j)]:=by
 have hna:=R.na ab ho;have I:=qB L C A ab oF n;have M:=R.jZ ab ho _ (jX (z:=[]) U);have k:=M.eta;have N:∀ o∈bM L C A ab oF n,Eb [.l [o],.l [[.s (C ab),.l (A ab)]],.l [(A ab).getD j []]]=some [.t (kI A ab (gi o 0).iV.toNat j&&(sF o||(gi o 1).iV==6))]:=fun o O=>by
  obtain⟨t,d,w,v,rfl,ht⟩:=TB n o O;refine aa.toEq ?_;unfold Eb;dsimp +instances only[gd,Aa,Ab,Ac,Ad,Ae,Af,Ag];simp only[a6];refine aa.p ?_;have e:kI A ab t j=(((gi ((A ab).getD t []) 3).sV.toList==(gi ((A ab).getD j []) 3).sV.toList)&&(((gi ((A ab).getD t []) 2).sV.toList==(gi ((A ab).getD j []) 2).sV.toList)&&(((gi ((A ab).getD t []) 1).iV==(gi ((A ab).getD j []) 1).iV)&&true))):=rfl;have V:(sF [G.i (t:Int),.i d,.s w,.i v]||d==6)=((d==1||d==3)||d==6):=rfl;rw[e,V];cases ((gi ((A ab).getD t []) 3).sV.toList==(gi ((A ab).getD j []) 3).sV.toList)with
  |false=>exact aa.some rfl
  | true =>
   refine aa.pos rfl ?_;cases ((gi ((A ab).getD t []) 2).sV.toList==(gi ((A ab).getD j []) 2).sV.toList)with
   |false=>exact aa.some rfl
   | true =>
    refine aa.pos rfl ?_;cases ((gi ((A ab).getD t []) 1).iV==(gi ((A ab).getD j []) 1).iV)with
    |false=>exact aa.some rfl
    | true =>
     refine aa.pos rfl ?_;cases d==1 with
     |true=>exact aa.some rfl
     | false =>
      refine aa.neg rfl ?_;cases d==3 with
      |true=>exact aa.some rfl
      |false=>exact aa.some rfl
 have W:=xM (st:=Ap) (mk:=fun i=>[.l (bM L C A ab oF n),.l [[.s (C ab),.l (A ab)]],.l [(A ab).getD j []],.i (n:Int),.i (i:Int)]) (p:=fun i=>(fun o=>kI A ab (gi o 0).iV.toNat j&&(sF o||(gi o 1).iV==6)) ((bM L C A ab oF n).getD i [])) (out:=fun i=>[.i (i:Int)]) (n:=n) (fun i hi=>by
   have hm:(bM L C A ab oF n).getD i []∈bM L C A ab oF n:=jX (by omega);obtain⟨t,d,w,v,e,_⟩:=TB n _ hm;have he:a8 dp ((bM L C A ab oF n).getD i [])=(bM L C A ab oF n).getD i []:=by rw[e]; rfl
   unfold Ap;dsimp +instances only[gd,Aa,Ab,Ac,Ad,Ae,Af,Ag];simp only[a6,he,k];refine aa.p (aa.p ?_);refine aa.cE (N _ hm) ?_;refine aa.test (fun h=>aa.some (.inl ⟨h,rfl⟩)) fun h=>aa.p (aa.some (.inr ⟨h,rfl⟩))) (by
   refine aa.toEq ?_;unfold Ap;dsimp +instances only[gd,Aa,Ab,Ac,Ad,Ae,Af,Ag];exact aa.n (aa.some rfl)) n 0 (by omega)
 have y:=Tv (fun o=>kI A ab (gi o 0).iV.toNat j&&(sF o||(gi o 1).iV==6)) [] (bM L C A ab oF n);rw[I,aiY]at y;refine aa.toEq ?_;unfold Ec;dsimp +instances only[gd,Aa,Ab,Ac,Ad,Ae,Af,Ag];simp only[k];refine aa.call (P:=fun g=>g=[.i (lY (eC (fun i=>(fun o=>kI A ab (gi o 0).iV.toNat j&&(sF o||(gi o 1).iV==6)) ((bM L C A ab oF n).getD i [])) n 0))]) ?_ ?_
 ·unfold IG
  dsimp +instances only[gd,Aa,Ab,Ac,Ad,Ae,Af,Ag];simp only[k,I];refine aa.loop (W.to (by omega)) (by first|rfl|simp) ?_;rintro x g (⟨rfl,v,q,rfl⟩|⟨rfl,q⟩)
  ·rw [q]
   exact aa.pos rfl (aa.some rfl)
  ·rw [q]
   exact aa.neg rfl (aa.some rfl)
 ·rintro _ rfl
  refine aa.some ?_;rw[<-y];cases eC (fun i=>(fun o=>kI A ab (gi o 0).iV.toNat j&&(sF o||(gi o 1).iV==6)) ((bM L C A ab oF n).getD i [])) n 0 with
  |none=>rfl
  | some v =>
   show [G.t (bC 0 (v:Int))]=[.t true]
   rw[eY,dE (by omega)]
theorem JD:xl [.l L,.s (C ab),.i oF]=some [.l (bM L C A ab oF (A ab).length)]:=by
 have N:=R.n;have M:=R.na ab ho;refine aa.toEq ?_;unfold xl;dsimp +instances only[gd,Aa,Ab,Ac,Ad,Ae,Af,Ag];refine aa.cE (Tx R (C ab)) ?_;rw[E2 R.xE ho rfl];have y:lY (some ab)=(ab:Int):=rfl;dsimp +instances only[gd,Aa,Ab,Ac,Ad,Ae,Af,Ag];rw[y];simp only[a6,R.get ab ho];dsimp +instances only[gd,Aa,Ab,Ac,Ad,Ae,Af,Ag];refine aa.p ?_;have r:=pd (st:=AE) (σ:=Unit) (fun _ i=>[.s (C ab),.l (A ab),.l (bM L C A ab oF i),.l L,.i oF,.l (A ab),.i ((A ab).length:Int),.i (i:Int)]) (A ab) (fun _=>(0,[.l (bM L C A ab oF (A ab).length)])) (fun _ _=>True) () (by omega) trivial
  (fun _ i z _ hi d hm _ => by
   have O:=qB L C A ab oF i;have he:=(R.jZ ab ho z hm).eta;have h:=aiZ R ho h0 h1 (n:=i) (by omega) (j:=i) hi;rw[d]at h;unfold AE;dsimp +instances only[gd,Aa,Ab,Ac,Ad,Ae,Af,Ag];simp only[a6,d,he];refine aa.p (aa.p ?_);refine aa.pc (aa.eq h) (by first|rfl|simp) ?_;rintro _ rfl;dsimp +instances only[gd,Aa,Ab,Ac,Ad,Ae,Af,Ag];cases k:j5 A ab (bM L C A ab oF i) i with
   | true =>
    refine aa.neg rfl ?_;refine aa.pos (by rw[iM,j9,dT]; omega) (aa.p (aa.pos (by simp) (aa.some ⟨(),?_,trivial⟩)));have e:bM L C A ab oF (i+1)=bM L C A ab oF i++[[.i (i:Int),.i 6,.s (⟨#[]⟩:BY),.i (-1)]]:=by rw[bM,k]; rfl
    rw[e];rfl
   | false =>
    refine aa.pos rfl ?_;refine aa.call (P:=fun g=>g=[.l [fJ L C A ab oF i]]) (aa.eq (aiX R ho h0 h1 hi)) ?_;rintro _ rfl;dsimp +instances only[gd,Aa,Ab,Ac,Ad,Ae,Af,Ag];obtain⟨U,w,v,I⟩:=E3 L C A ab oF i;have q:a8 dp (fJ L C A ab oF i)=fJ L C A ab oF i:=by rw[I]; rfl
    simp only[q];refine aa.pos (by rw[iM,j9,dT]; omega) (aa.p (aa.pos (by simp) (aa.some ⟨(),?_,trivial⟩)));have e:bM L C A ab oF (i+1)=bM L C A ab oF i++[fJ L C A ab oF i]:=by rw[bM,k]; rfl
    rw[e];rfl)
  (fun _ _ => by
   unfold AE;dsimp +instances only[gd,Aa,Ab,Ac,Ad,Ae,Af,Ag];exact aa.n (aa.pos (by simp) (aa.some rfl)))
 refine aa.loop r (by first|rfl|simp) ?_;rintro c g ⟨_,_,rfl,rfl⟩;dsimp +instances only[gd,Aa,Ab,Ac,Ad,Ae,Af,Ag];exact aa.pos (by simp) (aa.some rfl)
end
theorem nG{n:Int}(h0:0<=n)(h1:n<100):pg [.i n]=some [.s (bQ n)]:=by
 refine aa.toEq ?_;unfold pg;dsimp +instances only[gd,Aa,Ab,Ac,Ad,Ae,Af,Ag];exact aa.pos (by simp only[jm,cB,aL,dT]; omega) (aa.some rfl)
def E5(rZ:LL):Prop:=∀ r∈rZ,(gi r 1).iV=1\/(gi r 1).iV=2\/(gi r 1).iV=3\/(gi r 1).iV=4\/(gi r 1).iV=5\/(gi r 1).iV=6
def cK(rZ:LL)(k:Int):Int:=((rZ.countP fun r=>(gi r 1).iV==k:Nat):Int)
theorem lZ(rZ:LL)(k:Int):0<=cK rZ k/\cK rZ k<=(rZ.length:Int):=by
 unfold cK;have:=akO (p:=fun r=>(gi r 1).iV==k) (l:=rZ);omega
theorem l4(rZ:LL)(x:LG)(k:Int):cK (rZ++[x]) k=cK rZ k+if (gi x 1).iV=k then 1 else 0:=by
 unfold cK;rw[akP,akQ];by_cases h:(gi x 1).iV=k
 ·rw [iP h, iP (by simpa using h)]
  rfl
 ·rw [iN h, iN (by simpa using h)]
  rfl
def cV(rZ:LL):LG:=[.i (cK rZ 0),.i (cK rZ 1),.i (cK rZ 2),.i (cK rZ 3),.i (cK rZ 4),.i (cK rZ 5),.i (cK rZ 6)]
theorem ai0(rZ:LL)(V:rZ.length<=90)(d:E5 rZ):D3 [.l rZ]=some [.l [cV rZ]]:=by
 have r:=pd (st:=Am) (σ:=Unit) (fun _ i=>[.i 0,.i 0,.i 0,.i 0,.i 0,.i 0,.i 0,.i (cK (rZ.take i) 0),.i (cK (rZ.take i) 1),.i (cK (rZ.take i) 2),.i (cK (rZ.take i) 3),.i (cK (rZ.take i) 4),.i (cK (rZ.take i) 5),.i (cK (rZ.take i) 6),.l rZ,.i (rZ.length:Int),.i (i:Int)]) rZ
  (fun _=>(0,[.i 0,.i 0,.i 0,.i 0,.i 0,.i 0,.i 0,.i (cK rZ 0),.i (cK rZ 1),.i (cK rZ 2),.i (cK rZ 3),.i (cK rZ 4),.i (cK rZ 5),.i (cK rZ 6)])) (fun _ _=>True) () (by omega) trivial
  (fun _ i x _ hi k hm q => by
   have v:=l4 (rZ.take i) x 0;have y:=l4 (rZ.take i) x 1;have I:=l4 (rZ.take i) x 2;have M:=l4 (rZ.take i) x 3;have N:=l4 (rZ.take i) x 4;have O:=l4 (rZ.take i) x 5;have U:=l4 (rZ.take i) x 6;have W:(rZ.take i).length<=90:=by rw[j7]; omega
   have b1:=lZ (rZ.take i) 1;have b2:=lZ (rZ.take i) 2;have b3:=lZ (rZ.take i) 3;have b4:=lZ (rZ.take i) 4;have b5:=lZ (rZ.take i) 5;have b6:=lZ (rZ.take i) 6;rw[q,v,y,I,M,N,O,U];unfold Am;dsimp +instances only[gd,Aa,Ab,Ac,Ad,Ae,Af,Ag];simp only[a6,k];rcases d x hm with h|h|h|h|h|h<;>simp only[h]<;>(refine aa.p (aa.p (aa.pos rfl (aa.pos rfl (aa.pos (c6.2 ⟨by simp; omega,by simp; omega⟩) (aa.pos rfl (aa.pos rfl (aa.p (aa.some ⟨(),?_,trivial⟩)))))))); simp; exact⟨rfl,rfl,rfl,rfl,rfl,rfl⟩))
  (fun _ _ => by
   unfold Am;dsimp +instances only[gd,Aa,Ab,Ac,Ad,Ae,Af,Ag];simp only[Kg];exact aa.n (aa.some rfl))
 refine aa.toEq ?_;unfold D3;dsimp +instances only[gd,Aa,Ab,Ac,Ad,Ae,Af,Ag];refine aa.loop r (by first|rfl|simp) ?_;rintro c g ⟨_,_,rfl,rfl⟩;exact aa.some rfl
theorem ai1(rZ:LL)(V:rZ.length<=90)(d:E5 rZ):gQ xm [.i 0,.i 0,.i 0,.i 0,.i 0,.i 0,.i 0,.l rZ,.i (rZ.length:Int),.i 0] fun c g=>c=0/\g=cV rZ:=by
 have r:=pd (st:=xm) (σ:=Unit) (fun _ i=>[.i (cK (rZ.take i) 0),.i (cK (rZ.take i) 1),.i (cK (rZ.take i) 2),.i (cK (rZ.take i) 3),.i (cK (rZ.take i) 4),.i (cK (rZ.take i) 5),.i (cK (rZ.take i) 6),.l rZ,.i (rZ.length:Int),.i (i:Int)]) rZ
  (fun _=>(0,[.i (cK rZ 0),.i (cK rZ 1),.i (cK rZ 2),.i (cK rZ 3),.i (cK rZ 4),.i (cK rZ 5),.i (cK rZ 6)])) (fun _ _=>True) () (by omega) trivial
  (fun _ i x _ hi k hm q => by
   have v:=l4 (rZ.take i) x 0;have y:=l4 (rZ.take i) x 1;have I:=l4 (rZ.take i) x 2;have M:=l4 (rZ.take i) x 3;have N:=l4 (rZ.take i) x 4;have O:=l4 (rZ.take i) x 5;have U:=l4 (rZ.take i) x 6;have W:(rZ.take i).length<=90:=by rw[j7]; omega
   have b1:=lZ (rZ.take i) 1;have b2:=lZ (rZ.take i) 2;have b3:=lZ (rZ.take i) 3;have b4:=lZ (rZ.take i) 4;have b5:=lZ (rZ.take i) 5;have b6:=lZ (rZ.take i) 6;rw[q,v,y,I,M,N,O,U];unfold xm;dsimp +instances only[gd,Aa,Ab,Ac,Ad,Ae,Af,Ag];simp only[a6,k];rcases d x hm with h|h|h|h|h|h<;>simp only[h]<;>(refine aa.p (aa.p (aa.pos rfl (aa.pos rfl (aa.pos (c6.2 ⟨by simp; omega,by simp; omega⟩) (aa.pos rfl (aa.pos rfl (aa.p (aa.some ⟨(),?_,trivial⟩)))))))); simp; exact⟨rfl,rfl,rfl,rfl,rfl,rfl⟩))
  (fun _ _ => by
   unfold xm;dsimp +instances only[gd,Aa,Ab,Ac,Ad,Ae,Af,Ag];simp only[Kg];exact aa.n (aa.some rfl))
 refine gQ.mono r ?_;rintro c g ⟨_,_,rfl,rfl⟩;exact⟨rfl,rfl⟩
def fo:LL:=[[.s (⟨#[]⟩:BY)],[.s (⟨#[103,111,111,100]⟩:BY)],[.s (⟨#[99,97,108,108]⟩:BY)],[.s (⟨#[104,101,97,114,100]⟩:BY)],[.s (⟨#[109,105,115,115,105,110,103]⟩:BY)],[.s (⟨#[117,110,107,110,111,119,110]⟩:BY)],[.s (⟨#[116,119,105,99,101]⟩:BY)]]
def A9(d g h k q v:Int):LL:=[[.s (⟨#[103,111,111,100]⟩:BY),.s (bQ d)],[.s (⟨#[99,97,108,108]⟩:BY),.s (bQ g)],[.s (⟨#[104,101,97,114,100]⟩:BY),.s (bQ h)],[.s (⟨#[109,105,115,115,105,110,103]⟩:BY),.s (bQ k)],[.s (⟨#[117,110,107,110,111,119,110]⟩:BY),.s (bQ q)],[.s (⟨#[116,119,105,99,101]⟩:BY),.s (bQ v)]]
theorem ai2{I d h k q v y:Int}(h1:0<=d/\d<100)(M:0<=h/\h<100)(N:0<=k/\k<100)(O:0<=q/\q<100)(U:0<=v/\v<100)(V:0<=y/\y<100):gQ nt [.i I,.i d,.i h,.i k,.i q,.i v,.i y,.l [],.l fo,.i 7,.i 0] fun c g=>c=0/\g=[.l (A9 d h k q v y)]:=by
 have key:aX nt [.i I,.i d,.i h,.i k,.i q,.i v,.i y,.l [],.l fo,.i 7,.i 0] 8 fun c g=>c=0/\g=[.l (A9 d h k q v y)]:=by
  refine aX.next (d1:=[.i I,.i d,.i h,.i k,.i q,.i v,.i y,.l [],.l fo,.i 7,.i 1]) (aa.toEq ?_) ?_
  ·unfold nt fo
   dsimp +instances only[gd,Aa,Ab,Ac,Ad,Ae,Af,Ag];exact aa.pos rfl (aa.pos rfl (aa.neg (by show (!((⟨#[]⟩:BY).toList==(⟨#[]⟩:BY).toList))=false; rw[beq_self_eq_true]; rfl) (aa.pos rfl (aa.pos rfl (aa.some rfl)))))
  refine aX.next (d1:=[.i I,.i d,.i h,.i k,.i q,.i v,.i y,.l [[.s (⟨#[103,111,111,100]⟩:BY),.s (bQ d)]],.l fo,.i 7,.i 2]) (aa.toEq ?_) ?_
  ·unfold nt fo
   dsimp +instances only[gd,Aa,Ab,Ac,Ad,Ae,Af,Ag];refine aa.pos rfl (aa.pos rfl (aa.pos (by rw[oM,oM]; rfl) (aa.pos rfl (aa.pos rfl ?_))));refine aa.call (P:=fun g=>g=[.s (bQ d)]) (aa.eq (nG h1.1 h1.2)) ?_;rintro _ rfl;exact aa.pos rfl (aa.pos rfl (aa.pos rfl (aa.some rfl)))
  refine aX.next (d1:=[.i I,.i d,.i h,.i k,.i q,.i v,.i y,.l [[.s (⟨#[103,111,111,100]⟩:BY),.s (bQ d)],[.s (⟨#[99,97,108,108]⟩:BY),.s (bQ h)]],.l fo,.i 7,.i 3]) (aa.toEq ?_) ?_
  ·unfold nt fo
   dsimp +instances only[gd,Aa,Ab,Ac,Ad,Ae,Af,Ag];refine aa.pos rfl (aa.pos rfl (aa.pos (by rw[oM,oM]; rfl) (aa.pos rfl (aa.pos rfl ?_))));refine aa.call (P:=fun g=>g=[.s (bQ h)]) (aa.eq (nG M.1 M.2)) ?_;rintro _ rfl;exact aa.pos rfl (aa.pos rfl (aa.pos rfl (aa.some rfl)))
  refine aX.next (d1:=[.i I,.i d,.i h,.i k,.i q,.i v,.i y,.l [[.s (⟨#[103,111,111,100]⟩:BY),.s (bQ d)],[.s (⟨#[99,97,108,108]⟩:BY),.s (bQ h)],[.s (⟨#[104,101,97,114,100]⟩:BY),.s (bQ k)]],.l fo,.i 7,.i 4]) (aa.toEq ?_) ?_
  ·unfold nt fo
   dsimp +instances only[gd,Aa,Ab,Ac,Ad,Ae,Af,Ag];refine aa.pos rfl (aa.pos rfl (aa.pos (by rw[oM,oM]; rfl) (aa.pos rfl (aa.pos rfl ?_))));refine aa.call (P:=fun g=>g=[.s (bQ k)]) (aa.eq (nG N.1 N.2)) ?_;rintro _ rfl;exact aa.pos rfl (aa.pos rfl (aa.pos rfl (aa.some rfl)))
  refine aX.next (d1:=[.i I,.i d,.i h,.i k,.i q,.i v,.i y,.l [[.s (⟨#[103,111,111,100]⟩:BY),.s (bQ d)],[.s (⟨#[99,97,108,108]⟩:BY),.s (bQ h)],[.s (⟨#[104,101,97,114,100]⟩:BY),.s (bQ k)],[.s (⟨#[109,105,115,115,105,110,103]⟩:BY),.s (bQ q)]],.l fo,.i 7,.i 5]) (aa.toEq ?_) ?_
  ·unfold nt fo
   dsimp +instances only[gd,Aa,Ab,Ac,Ad,Ae,Af,Ag];refine aa.pos rfl (aa.pos rfl (aa.pos (by rw[oM,oM]; rfl) (aa.pos rfl (aa.pos rfl ?_))));refine aa.call (P:=fun g=>g=[.s (bQ q)]) (aa.eq (nG O.1 O.2)) ?_;rintro _ rfl;exact aa.pos rfl (aa.pos rfl (aa.pos rfl (aa.some rfl)))
  refine aX.next (d1:=[.i I,.i d,.i h,.i k,.i q,.i v,.i y,.l [[.s (⟨#[103,111,111,100]⟩:BY),.s (bQ d)],[.s (⟨#[99,97,108,108]⟩:BY),.s (bQ h)],[.s (⟨#[104,101,97,114,100]⟩:BY),.s (bQ k)],[.s (⟨#[109,105,115,115,105,110,103]⟩:BY),.s (bQ q)],[.s (⟨#[117,110,107,110,111,119,110]⟩:BY),.s (bQ v)]],.l fo,.i 7,.i 6]) (aa.toEq ?_) ?_
  ·unfold nt fo
   dsimp +instances only[gd,Aa,Ab,Ac,Ad,Ae,Af,Ag];refine aa.pos rfl (aa.pos rfl (aa.pos (by rw[oM,oM]; rfl) (aa.pos rfl (aa.pos rfl ?_))));refine aa.call (P:=fun g=>g=[.s (bQ v)]) (aa.eq (nG U.1 U.2)) ?_;rintro _ rfl;exact aa.pos rfl (aa.pos rfl (aa.pos rfl (aa.some rfl)))
  refine aX.next (d1:=[.i I,.i d,.i h,.i k,.i q,.i v,.i y,.l [[.s (⟨#[103,111,111,100]⟩:BY),.s (bQ d)],[.s (⟨#[99,97,108,108]⟩:BY),.s (bQ h)],[.s (⟨#[104,101,97,114,100]⟩:BY),.s (bQ k)],[.s (⟨#[109,105,115,115,105,110,103]⟩:BY),.s (bQ q)],[.s (⟨#[117,110,107,110,111,119,110]⟩:BY),.s (bQ v)],[.s (⟨#[116,119,105,99,101]⟩:BY),.s (bQ y)]],.l fo,.i 7,.i 7]) (aa.toEq ?_) ?_
  ·unfold nt fo
   dsimp +instances only[gd,Aa,Ab,Ac,Ad,Ae,Af,Ag];refine aa.pos rfl (aa.pos rfl (aa.pos (by rw[oM,oM]; rfl) (aa.pos rfl (aa.pos rfl ?_))));refine aa.call (P:=fun g=>g=[.s (bQ y)]) (aa.eq (nG V.1 V.2)) ?_;rintro _ rfl;exact aa.pos rfl (aa.pos rfl (aa.pos rfl (aa.some rfl)))
  refine aX.stop (x:=0) (aa.toEq ?_) ⟨rfl,rfl⟩;unfold nt fo;dsimp +instances only[gd,Aa,Ab,Ac,Ad,Ae,Af,Ag];exact aa.neg rfl (aa.pos rfl (aa.some rfl))
 exact key.to (by omega)
theorem ai3{I d h k q v y:Int}(h1:0<=d/\d<100)(M:0<=h/\h<100)(N:0<=k/\k<100)(O:0<=q/\q<100)(U:0<=v/\v<100)(V:0<=y/\y<100):gQ oA [.i I,.i d,.i h,.i k,.i q,.i v,.i y,.l [],.i 1] fun c g=>c=0/\g=[.l (A9 d h k q v y)]:=by
 have key:aX oA [.i I,.i d,.i h,.i k,.i q,.i v,.i y,.l [],.i 1] 7 fun c g=>c=0/\g=[.l (A9 d h k q v y)]:=by
  refine aX.next (d1:=[.i I,.i d,.i h,.i k,.i q,.i v,.i y,.l [[.s (⟨#[103,111,111,100]⟩:BY),.s (bQ d)]],.i 2]) (aa.toEq ?_) ?_
  ·unfold oA
   dsimp +instances only[gd,Aa,Ab,Ac,Ad,Ae,Af,Ag];refine aa.pos rfl ?_;refine aa.call (P:=fun g=>g=[.l fo]) (aa.eq rfl) ?_;rintro _ rfl;unfold fo;dsimp +instances only[gd,Aa,Ab,Ac,Ad,Ae,Af,Ag];refine aa.pos rfl (aa.pos rfl (aa.pos rfl ?_));refine aa.call (P:=fun g=>g=[.s (bQ d)]) (aa.eq (nG h1.1 h1.2)) ?_;rintro _ rfl;exact aa.pos rfl (aa.pos rfl (aa.pos rfl (aa.some rfl)))
  refine aX.next (d1:=[.i I,.i d,.i h,.i k,.i q,.i v,.i y,.l [[.s (⟨#[103,111,111,100]⟩:BY),.s (bQ d)],[.s (⟨#[99,97,108,108]⟩:BY),.s (bQ h)]],.i 3]) (aa.toEq ?_) ?_
  ·unfold oA
   dsimp +instances only[gd,Aa,Ab,Ac,Ad,Ae,Af,Ag];refine aa.pos rfl ?_;refine aa.call (P:=fun g=>g=[.l fo]) (aa.eq rfl) ?_;rintro _ rfl;unfold fo;dsimp +instances only[gd,Aa,Ab,Ac,Ad,Ae,Af,Ag];refine aa.pos rfl (aa.pos rfl (aa.pos rfl ?_));refine aa.call (P:=fun g=>g=[.s (bQ h)]) (aa.eq (nG M.1 M.2)) ?_;rintro _ rfl;exact aa.pos rfl (aa.pos rfl (aa.pos rfl (aa.some rfl)))
  refine aX.next (d1:=[.i I,.i d,.i h,.i k,.i q,.i v,.i y,.l [[.s (⟨#[103,111,111,100]⟩:BY),.s (bQ d)],[.s (⟨#[99,97,108,108]⟩:BY),.s (bQ h)],[.s (⟨#[104,101,97,114,100]⟩:BY),.s (bQ k)]],.i 4]) (aa.toEq ?_) ?_
  ·unfold oA
   dsimp +instances only[gd,Aa,Ab,Ac,Ad,Ae,Af,Ag];refine aa.pos rfl ?_;refine aa.call (P:=fun g=>g=[.l fo]) (aa.eq rfl) ?_;rintro _ rfl;unfold fo;dsimp +instances only[gd,Aa,Ab,Ac,Ad,Ae,Af,Ag];refine aa.pos rfl (aa.pos rfl (aa.pos rfl ?_));refine aa.call (P:=fun g=>g=[.s (bQ k)]) (aa.eq (nG N.1 N.2)) ?_;rintro _ rfl;exact aa.pos rfl (aa.pos rfl (aa.pos rfl (aa.some rfl)))
  refine aX.next (d1:=[.i I,.i d,.i h,.i k,.i q,.i v,.i y,.l [[.s (⟨#[103,111,111,100]⟩:BY),.s (bQ d)],[.s (⟨#[99,97,108,108]⟩:BY),.s (bQ h)],[.s (⟨#[104,101,97,114,100]⟩:BY),.s (bQ k)],[.s (⟨#[109,105,115,115,105,110,103]⟩:BY),.s (bQ q)]],.i 5]) (aa.toEq ?_) ?_
  ·unfold oA
   dsimp +instances only[gd,Aa,Ab,Ac,Ad,Ae,Af,Ag];refine aa.pos rfl ?_;refine aa.call (P:=fun g=>g=[.l fo]) (aa.eq rfl) ?_;rintro _ rfl;unfold fo;dsimp +instances only[gd,Aa,Ab,Ac,Ad,Ae,Af,Ag];refine aa.pos rfl (aa.pos rfl (aa.pos rfl ?_));refine aa.call (P:=fun g=>g=[.s (bQ q)]) (aa.eq (nG O.1 O.2)) ?_;rintro _ rfl;exact aa.pos rfl (aa.pos rfl (aa.pos rfl (aa.some rfl)))
  refine aX.next (d1:=[.i I,.i d,.i h,.i k,.i q,.i v,.i y,.l [[.s (⟨#[103,111,111,100]⟩:BY),.s (bQ d)],[.s (⟨#[99,97,108,108]⟩:BY),.s (bQ h)],[.s (⟨#[104,101,97,114,100]⟩:BY),.s (bQ k)],[.s (⟨#[109,105,115,115,105,110,103]⟩:BY),.s (bQ q)],[.s (⟨#[117,110,107,110,111,119,110]⟩:BY),.s (bQ v)]],.i 6]) (aa.toEq ?_) ?_
  ·unfold oA
   dsimp +instances only[gd,Aa,Ab,Ac,Ad,Ae,Af,Ag];refine aa.pos rfl ?_;refine aa.call (P:=fun g=>g=[.l fo]) (aa.eq rfl) ?_;rintro _ rfl;unfold fo;dsimp +instances only[gd,Aa,Ab,Ac,Ad,Ae,Af,Ag];refine aa.pos rfl (aa.pos rfl (aa.pos rfl ?_));refine aa.call (P:=fun g=>g=[.s (bQ v)]) (aa.eq (nG U.1 U.2)) ?_;rintro _ rfl;exact aa.pos rfl (aa.pos rfl (aa.pos rfl (aa.some rfl)))
  refine aX.next (d1:=[.i I,.i d,.i h,.i k,.i q,.i v,.i y,.l [[.s (⟨#[103,111,111,100]⟩:BY),.s (bQ d)],[.s (⟨#[99,97,108,108]⟩:BY),.s (bQ h)],[.s (⟨#[104,101,97,114,100]⟩:BY),.s (bQ k)],[.s (⟨#[109,105,115,115,105,110,103]⟩:BY),.s (bQ q)],[.s (⟨#[117,110,107,110,111,119,110]⟩:BY),.s (bQ v)],[.s (⟨#[116,119,105,99,101]⟩:BY),.s (bQ y)]],.i 7]) (aa.toEq ?_) ?_
  ·unfold oA
   dsimp +instances only[gd,Aa,Ab,Ac,Ad,Ae,Af,Ag];refine aa.pos rfl ?_;refine aa.call (P:=fun g=>g=[.l fo]) (aa.eq rfl) ?_;rintro _ rfl;unfold fo;dsimp +instances only[gd,Aa,Ab,Ac,Ad,Ae,Af,Ag];refine aa.pos rfl (aa.pos rfl (aa.pos rfl ?_));refine aa.call (P:=fun g=>g=[.s (bQ y)]) (aa.eq (nG V.1 V.2)) ?_;rintro _ rfl;exact aa.pos rfl (aa.pos rfl (aa.pos rfl (aa.some rfl)))
  refine aX.stop (x:=0) (aa.toEq ?_) ⟨rfl,rfl⟩;unfold oA;dsimp +instances only[gd,Aa,Ab,Ac,Ad,Ae,Af,Ag];exact aa.neg rfl (aa.pos rfl (aa.some rfl))
 exact key.to (by omega)
def nH(k:Int):Bool:=(k==2)||((k==3)||(k==4))
def fK(p:Int)(rZ:LL):Int:=((rZ.countP fun r=>nH (gi r 1).iV:Nat):Int)*(1+p)
theorem TC(p:Int)(rZ:LL)(x:LG):fK p (rZ++[x])=fK p rZ+bif nH (gi x 1).iV then 1+p else 0:=by
 unfold fK;rw[akP,akQ];cases h:nH (gi x 1).iV with
 |false=>simp
 |true=>simp[Int.add_mul]
theorem TD{p:Int}(d:0<=p/\p<=10)(rZ:LL)(g:rZ.length<=90):0<=fK p rZ/\fK p rZ<=1000:=by
 unfold fK;have h:=akO (p:=fun r=>nH (gi r 1).iV) (l:=rZ);have h1:0<=((rZ.countP fun r=>nH (gi r 1).iV:Nat):Int)*(1+p):=Int.mul_nonneg (by omega) (by omega);have k:((rZ.countP fun r=>nH (gi r 1).iV:Nat):Int)*(1+p)<=90*11:=Int.mul_le_mul (by omega) (by omega) (by omega) (by omega);omega
theorem ai4(k:Int):D4 [.i k]=some [.t (nH k)]:=by
 refine aa.toEq ?_;unfold D4 nH;dsimp +instances only[gd,Aa,Ab,Ac,Ad,Ae,Af,Ag];cases k==2 with
 |true=>exact aa.some rfl
 |false=>cases k==3<;>exact aa.some rfl
theorem ai5(r:LG):Er [.l [r]]=some [.t (nH (gi r 1).iV)]:=by
 refine aa.toEq ?_;unfold Er nH;dsimp +instances only[gd,Aa,Ab,Ac,Ad,Ae,Af,Ag];cases (gi r 1).iV==2 with
 |true=>exact aa.some rfl
 |false=>cases (gi r 1).iV==3<;>exact aa.some rfl
theorem ai6{p:Int}(d:0<=p/\p<=10)(rZ:LL)(q:rZ.length<=90):gQ xa [.i p,.i 0,.l rZ,.i (rZ.length:Int),.i 0] fun c g=>c=0/\g=[.i (fK p rZ)]:=by
 have r:=pd (st:=xa) (σ:=Unit) (fun _ i=>[.i p,.i (fK p (rZ.take i)),.l rZ,.i (rZ.length:Int),.i (i:Int)]) rZ (fun _=>(0,[.i (fK p rZ)])) (fun _ _=>True) () (by omega) trivial
  (fun _ i x _ hi h hm k => by
   have hb:=TD d (rZ.take i) (by rw[j7]; omega);rw[k,TC];unfold xa;dsimp +instances only[gd,Aa,Ab,Ac,Ad,Ae,Af,Ag];simp only[a6,h];refine aa.p (aa.p ?_);refine aa.cE (ai4 _) ?_;dsimp +instances only[gd,Aa,Ab,Ac,Ad,Ae,Af,Ag];cases nH (gi x 1).iV with
   |true=>exact aa.pos rfl (aa.pos (c6.2 ⟨by omega,by omega⟩) (aa.pos (c6.2 ⟨by omega,by omega⟩) (aa.p (aa.some ⟨(),rfl,trivial⟩))))
   |false=>exact aa.neg rfl (aa.p (aa.some ⟨(),by rw[cF,akR]; rfl,trivial⟩)))
  (fun _ _ => by
   unfold xa;dsimp +instances only[gd,Aa,Ab,Ac,Ad,Ae,Af,Ag];simp only[Kg];exact aa.n (aa.some rfl))
 refine gQ.mono (P:=fun c g=>∃ _:Unit,True/\c=0/\g=[.i (fK p rZ)]) ?_ ?_
 ·have e : fK p (rZ.take 0) = 0 := by unfold fK; simp
  simp only[e]at r;exact r
 ·rintro c g ⟨_, _, rfl, rfl⟩
  exact⟨rfl,rfl⟩
theorem ai7{p:Int}(d:0<=p/\p<=10)(rZ:LL)(v:rZ.length<=90)(h:∀ r∈rZ,a8 dp r=r):gQ xn [.i p,.i 0,.l rZ,.i (rZ.length:Int),.i 0] fun c g=>c=0/\g=[.i (fK p rZ)]:=by
 have r:=pd (st:=xn) (σ:=Unit) (fun _ i=>[.i p,.i (fK p (rZ.take i)),.l rZ,.i (rZ.length:Int),.i (i:Int)]) rZ (fun _=>(0,[.i (fK p rZ)])) (fun _ _=>True) () (by omega) trivial
  (fun _ i x _ hi k hm q => by
   have hb:=TD d (rZ.take i) (by rw[j7]; omega);have he:=h x hm;rw[q,TC];unfold xn;dsimp +instances only[gd,Aa,Ab,Ac,Ad,Ae,Af,Ag];simp only[a6,k,he];refine aa.p (aa.p ?_);refine aa.cE (ai5 _) ?_;dsimp +instances only[gd,Aa,Ab,Ac,Ad,Ae,Af,Ag];cases nH (gi x 1).iV with
   |true=>exact aa.pos rfl (aa.pos (c6.2 ⟨by omega,by omega⟩) (aa.pos (c6.2 ⟨by omega,by omega⟩) (aa.p (aa.some ⟨(),rfl,trivial⟩))))
   |false=>exact aa.neg rfl (aa.p (aa.some ⟨(),by rw[cF,akR]; rfl,trivial⟩)))
  (fun _ _ => by
   unfold xn;dsimp +instances only[gd,Aa,Ab,Ac,Ad,Ae,Af,Ag];simp only[Kg];exact aa.n (aa.some rfl))
 refine gQ.mono (P:=fun c g=>∃ _:Unit,True/\c=0/\g=[.i (fK p rZ)]) ?_ ?_
 ·have e : fK p (rZ.take 0) = 0 := by unfold fK; simp
  simp only[e]at r;exact r
 ·rintro c g ⟨_, _, rfl, rfl⟩
  exact⟨rfl,rfl⟩
theorem TE:∀ a b:List UInt8,lj a b=decide (gI a b<0)
 | [],[]=>by simp[lj,gI]
 | [],_::_=>by simp[lj,gI]
 |_::_,[]=>by simp[lj,gI]
 | a::x,b::y=>by
  simp only[lj,gI,TE x y];by_cases h1:a<b
  ·simp[h1]
  ·by_cases d : b < a
   ·have g : ¬ a = b := fun e => h1 (by rw [e] at d |-; exact d)
    simp[h1,d,g]
   ·have e : a = b := UInt8.le_antisymm (uM.1 d) (uM.1 h1)
    simp[h1,d,e]
theorem ai8{a b:BY} (h:(lj a.toList b.toList||(a.toList==b.toList))=false):eP b a<0:=by
 rw[TE,k9,Uk,dF,dF]at h;have e:gI a.toList b.toList=eP a b:=by
  unfold eP;rw[qH,qH]
 rw[e]at h;have d:=Ew.flip a b;have g:eP a b≠0:=fun h0=>h.2 (rY.1 h0);omega
section
variable {L:LL} {C:Nat->BY} {A:Nat->LL} (R:A4 L C A)
include R
theorem TF:∀ k i:Nat,ir C A k i=0->∀ j,i<=j->j<i+k->kG C A j=0
 |0,i,_,j,h1,g=>by omega
 | k+1,i,h,j,h1,g=>by
  rw[ir]at h;split at h
  ·rename_i d
   exact(d h).elim
  ·rename_i q
   by_cases e:j=i
   ·subst e
    simpa using q
   ·exact TF k (i+1) h j (by omega) (by omega)
theorem ai9(h:ir C A L.length 0=0):sk L C A:=by
 have I:∀ j,j<L.length->kG C A j=0:=fun j g=>TF R L.length 0 h j (eR _) (by omega);have q:∀ j,j<L.length->jY (C j) (A j)=0/\(0<j->mG C j=false):=fun j g=>by
  have h1:=I j g;unfold kG at h1;cases y:jr (C j)with
  |false=>rw[y]at h1; cases h1
  | true =>
   rw[y]at h1;have h1:(bif ax 0 (j:Int)&&mG C j then 7 else jY (C j) (A j))=(0:Int):=h1;cases k:ax 0 (j:Int)&&mG C j with
   |true=>rw[k]at h1; cases h1
   | false =>
    rw[k]at h1;refine⟨h1,fun N=>?_⟩;rw[show ax 0 (j:Int)=true by rw[cB]; exact dE (by omega),j9]at k;exact k
 have v:∀ j,0<j->j<L.length->eP (C (j-1)) (C j)<0:=fun j h0 g=>ai8 ((q j g).2 h0);refine⟨R.get,R.n,R.jZ,R.na,R.call,fun i j O g=>?_,fun i h0 hi=>(q i hi).2 h0,fun i hi=>(q i hi).1⟩;have key:∀ d,i+1+d<L.length->eP (C i) (C (i+1+d))<0:=by
  intro d
  induction d with
  |zero=>intro h; exact v (i+1) (by omega) h
  | succ d M =>
   intro h;exact Ew.tr _ _ _ (M (by omega)) (v (i+1+(d+1)) (by omega) h)
 have:=key (j-(i+1)) (by omega)
 rwa [show i+1+(j-(i+1))=j by omega]at this
end
theorem ai_(L:LL)(C:Nat->BY)(A:Nat->LL)(ab:Nat)(oF:Int)(n:Nat):∃(d:Int) (w:BY) (v:Int),fJ L C A ab oF n=[.i (n:Int),.i d,.s w,.i v]/\(d=1\/d=2\/d=3\/d=4\/d=5\/d=6):=by
 have g:∀ b,∃(d:Int) (w:BY) (v:Int),nF L C A ab oF n b=[.i (n:Int),.i d,.s w,.i v]/\(d=1\/d=2\/d=3\/d=4\/d=5\/d=6):=fun b=>by
  unfold nF;split
  ·exact⟨2,_,_,rfl,by omega⟩
  ·cases b with
   |true=>exact⟨4,_,_,rfl,by omega⟩
   |false=>exact⟨5,_,_,rfl,by omega⟩
 unfold fJ;split
 ·rename_i k h
  split
  ·rename_i j q
   cases jx ((A k).getD j []) ((A ab).getD n [])with
   |true=>exact⟨1,_,_,rfl,by omega⟩
   |false=>exact⟨3,_,_,rfl,by omega⟩
  ·exact g _
 ·exact g _
theorem E6(L:LL)(C:Nat->BY)(A:Nat->LL)(ab:Nat)(oF:Int):∀ n,E5 (bM L C A ab oF n)/\∀ r∈bM L C A ab oF n,a8 dp r=r
 |0=>⟨show E5 [] from fun r h=>(oK h).elim,fun r h=>(oK h).elim⟩
 | n+1=>by
  obtain⟨h1,g⟩:=E6 L C A ab oF n;have k:∃(d:Int) (w:BY) (v:Int),(bif j5 A ab (bM L C A ab oF n) n then [.i (n:Int),.i 6,.s (⟨#[]⟩:BY),.i (-1)] else fJ L C A ab oF n)=[.i (n:Int),.i d,.s w,.i v]/\(d=1\/d=2\/d=3\/d=4\/d=5\/d=6):=by
   cases j5 A ab (bM L C A ab oF n) n with
   |true=>exact⟨6,_,_,rfl,by omega⟩
   |false=>exact ai_ L C A ab oF n
  obtain⟨d,w,v,e,q⟩:=k;rw[bM,e];refine⟨fun r h=>?_,fun r h=>?_⟩
  ·rcases c_.1 h with h | h
   ·exact h1 r h
   ·rw [l_.1 h]
    exact q
  ·rcases c_.1 h with h | h
   ·exact g r h
   ·rw [l_.1 h]
    rfl
theorem TG(l:LL)(h:l.length<=100000):AG [.l l,.l l]=some [.t true]:=by
 have r:=pd (st:=AF) (σ:=Unit) (fun _ i=>[.l l,.l l,.i (l.length:Int),.i (i:Int)]) l (fun _=>(1,[])) (fun _ _=>True) () (by omega) trivial
  (fun _ i x _ hi d hm _ => by
   unfold AF;dsimp +instances only[gd,Aa,Ab,Ac,Ad,Ae,Af,Ag];simp only[a6,d];refine aa.p (aa.p (aa.p (aa.neg ?_ (aa.p (aa.some ⟨(),rfl,trivial⟩)))));rw[Ih _ _ rfl];rfl)
  (fun _ _ => by
   unfold AF;dsimp +instances only[gd,Aa,Ab,Ac,Ad,Ae,Af,Ag];exact aa.n (aa.some rfl))
 refine aa.toEq ?_;unfold AG;dsimp +instances only[gd,Aa,Ab,Ac,Ad,Ae,Af,Ag];refine aa.neg (by simp) ?_;refine aa.loop r rfl ?_;rintro c g ⟨_,_,rfl,rfl⟩;exact aa.neg rfl (aa.some rfl)
theorem TH(l:LL)(h:l.length<=100000):AI [.l l,.l l]=some [.t true]:=by
 have r:=pd (st:=AH) (σ:=Unit) (fun _ i=>[.l l,.l l,.i (l.length:Int),.i (i:Int)]) l (fun _=>(1,[])) (fun _ _=>True) () (by omega) trivial
  (fun _ i x _ hi d hm _ => by
   unfold AH;dsimp +instances only[gd,Aa,Ab,Ac,Ad,Ae,Af,Ag];simp only[a6,d];refine aa.p (aa.p (aa.p (aa.neg ?_ (aa.p (aa.some ⟨(),rfl,trivial⟩)))));rw[Ih _ _ rfl];rfl)
  (fun _ _ => by
   unfold AH;dsimp +instances only[gd,Aa,Ab,Ac,Ad,Ae,Af,Ag];exact aa.n (aa.some rfl))
 refine aa.toEq ?_;unfold AI;dsimp +instances only[gd,Aa,Ab,Ac,Ad,Ae,Af,Ag];refine aa.neg (by simp) ?_;refine aa.loop r rfl ?_;rintro c g ⟨_,_,rfl,rfl⟩;exact aa.neg rfl (aa.some rfl)
theorem E7(a b:Int):rW [.l [[.i a],[.i b]]]=some [.i (if a≠0 then a else b)]:=by
 have key:aX mC [.l [[.i a],[.i b]],.i 2,.i 0] 3 fun x g=>(x=0/\g=[.i (if a≠0 then a else b)])\/(x=1/\(if a≠0 then a else b)=0):=by
  by_cases ha:a≠0
  ·refine aX.stop (x := 0) (d' := [.i a]) (aa.toEq ?_) (.inl ⟨rfl, by rw [iP ha]⟩)
   unfold mC;dsimp +instances only[gd,Aa,Ab,Ac,Ad,Ae,Af,Ag];exact aa.pos rfl (aa.pos rfl (aa.pos (by show (a != 0)=true; simpa using ha) (aa.some rfl)))
  ·refine aX.next (d1 := [.l [[.i a], [.i b]], .i 2, .i 1]) (aa.toEq ?_) ?_
   ·unfold mC
    dsimp +instances only[gd,Aa,Ab,Ac,Ad,Ae,Af,Ag];exact aa.pos rfl (aa.pos rfl (aa.neg (by show (a != 0)=false; simpa using ha) (aa.pos rfl (aa.some rfl))))
   rw[iN ha];by_cases hb:b≠0
   ·refine aX.stop (x := 0) (d' := [.i b]) (aa.toEq ?_) (.inl ⟨rfl, rfl⟩)
    unfold mC;dsimp +instances only[gd,Aa,Ab,Ac,Ad,Ae,Af,Ag];exact aa.pos rfl (aa.pos rfl (aa.pos (by show (b != 0)=true; simpa using hb) (aa.some rfl)))
   ·refine aX.next (d1 := [.l [[.i a], [.i b]], .i 2, .i 2]) (aa.toEq ?_) (aX.stop (x := 1) (d' := []) (aa.toEq ?_) (.inr ⟨rfl, by simpa using hb⟩))
    ·unfold mC
     dsimp +instances only[gd,Aa,Ab,Ac,Ad,Ae,Af,Ag];exact aa.pos rfl (aa.pos rfl (aa.neg (by show (b != 0)=false; simpa using hb) (aa.pos rfl (aa.some rfl))))
    ·unfold mC
     dsimp +instances only[gd,Aa,Ab,Ac,Ad,Ae,Af,Ag];exact aa.neg rfl (aa.some rfl)
 refine aa.toEq ?_;unfold rW;dsimp +instances only[gd,Aa,Ab,Ac,Ad,Ae,Af,Ag];refine aa.loop (key.to (by omega)) rfl ?_;rintro x g (⟨rfl,rfl⟩|⟨rfl,h⟩)
 ·exact aa.pos rfl (aa.some rfl)
 ·rw [h]
  exact aa.neg rfl (aa.some rfl)
theorem ai'(a b c:Int):rW [.l [[.i a],[.i b],[.i c]]]=some [.i (if a≠0 then a else if b≠0 then b else c)]:=by
 have step:∀(k:Nat) (v:Int),k<3->([[.i a],[.i b],[.i c]]:LL).getD k []=[.i v]->mC [.l [[.i a],[.i b],[.i c]],.i 3,.i (k:Int)]=some (if v≠0 then (some 0,[.i v]) else (none,[.l [[.i a],[.i b],[.i c]],.i 3,.i ((k:Int)+1)])):=fun k v I q=>by
  refine aa.toEq ?_;unfold mC;dsimp +instances only[gd,Aa,Ab,Ac,Ad,Ae,Af,Ag];simp only[a6,q];refine aa.p (aa.pos (by simp only[jm,cB,cd,j_,aL,dT]; omega) ?_);by_cases h:v≠0
  ·rw [iP h]
   exact aa.pos (by show (v != 0)=true; simpa using h) (aa.some rfl)
  ·rw [iN h]
   exact aa.neg (by show (v != 0)=false; simpa using h) (aa.p (aa.some rfl))
 have s0:=step 0 a (by omega) rfl;have s1:=step 1 b (by omega) rfl;have s2:=step 2 c (by omega) rfl;have y:mC [.l [[.i a],[.i b],[.i c]],.i 3,.i 3]=some (some 1,[]):=by
  refine aa.toEq ?_;unfold mC;dsimp +instances only[gd,Aa,Ab,Ac,Ad,Ae,Af,Ag];exact aa.neg rfl (aa.some rfl)
 have key:aX mC [.l [[.i a],[.i b],[.i c]],.i 3,.i 0] 4 fun x g=>(x=0/\g=[.i (if a≠0 then a else if b≠0 then b else c)])\/(x=1/\(if a≠0 then a else if b≠0 then b else c)=0):=by
  by_cases ha:a≠0
  ·rw [iP ha] at s0
   exact aX.stop s0 (.inl ⟨rfl,by rw[iP ha]⟩)
  rw[iN ha]at s0;refine aX.next s0 ?_
  rw[iN ha];by_cases hb:b≠0
  ·rw [iP hb] at s1
   exact aX.stop s1 (.inl ⟨rfl,by rw[iP hb]⟩)
  rw[iN hb]at s1;refine aX.next s1 ?_
  rw[iN hb];by_cases d:c≠0
  ·rw [iP d] at s2
   exact aX.stop s2 (.inl ⟨rfl,rfl⟩)
  rw[iN d]at s2;refine aX.next s2 ?_
  exact aX.stop y (.inr ⟨rfl,by simpa using d⟩)
 refine aa.toEq ?_;unfold rW;dsimp +instances only[gd,Aa,Ab,Ac,Ad,Ae,Af,Ag];refine aa.loop (key.to (by omega)) rfl ?_;rintro x g (⟨rfl,rfl⟩|⟨rfl,h⟩)
 ·exact aa.pos rfl (aa.some rfl)
 ·rw [h]
  exact aa.neg rfl (aa.some rfl)
theorem A_(b:Bool)(e:Int):xd [.t b,.i e]=some [.i (bif b then e else 0)]:=by
 refine aa.toEq ?_;unfold xd;dsimp +instances only[gd,Aa,Ab,Ac,Ad,Ae,Af,Ag];cases b<;>exact aa.some rfl
def gF(p:Int):Bool:=ax p 0||ax 10 p
theorem aja(L:LL)(s:BY)(oF p e:Int)(he:e≠0):uh [.l L,.i oF,.s s,.i p,.l [],.i e,.l [],.i e,.i 0,.i e,.i e,.i e]=some (some 0,[.t true]):=by
 refine aa.toEq ?_;unfold uh;dsimp +instances only[gd,Aa,Ab,Ac,Ad,Ae,Af,Ag];refine aa.neg (by show (e==0)=false; simpa using he) (aa.neg (by show (e==0)=false; simpa using he) (aa.pos (by simp) ?_));refine aa.cE (TG [] (by simp)) ?_;refine aa.pos rfl (aa.pos (by simp) ?_);refine aa.cE (TH [] (by simp)) ?_;refine aa.pos rfl (aa.pos (by simp) (aa.pos rfl ?_));refine aa.cE JA ?_;exact aa.some rfl
theorem ajb{L:LL}{s:BY}{oF e:Int}(h:kD [.l L,.s s,.i oF]=some [.l [],.i 0,.i e])(he:e≠0)(p:Int) :
  rS [.l L,.s s,.i oF]=some [.l [],.i e]/\w_ [.l L,.s s,.i oF]=some [.l [],.i e]/\xb [.l L,.s s,.i oF,.i p]=some [.i 0,.i e]:=by
 refine⟨?_,?_,?_⟩
 ·refine aa.toEq ?_
  unfold rS;dsimp +instances only[gd,Aa,Ab,Ac,Ad,Ae,Af,Ag];refine aa.call (P:=fun g=>g=[.l [],.i 0,.i e]) (aa.eq h) ?_;rintro _ rfl;exact aa.some rfl
 ·refine aa.toEq ?_
  unfold w_;dsimp +instances only[gd,Aa,Ab,Ac,Ad,Ae,Af,Ag];refine aa.call (P:=fun g=>g=[.l [],.i 0,.i e]) (aa.eq h) ?_;rintro _ rfl;exact aa.pos (by show (e != 0)=true; simpa using he) (aa.some rfl)
 ·refine aa.toEq ?_
  unfold xb;dsimp +instances only[gd,Aa,Ab,Ac,Ad,Ae,Af,Ag];refine aa.call (P:=fun g=>g=[.l [],.i 0,.i e]) (aa.eq h) ?_;rintro _ rfl;exact aa.pos (by show (e != 0)=true; simpa using he) (aa.some rfl)
def uy(rZ:LL):LL:=A9 (cK rZ 1) (cK rZ 2) (cK rZ 3) (cK rZ 4) (cK rZ 5) (cK rZ 6)
theorem ajc(rZ:LL):(uy rZ).length=6:=rfl
section
variable {L:LL} {C:Nat->BY} {A:Nat->LL} (R:sk L C A) {ab:Nat} (ho:ab<L.length) {oF:Int} (h0:0<=oF) (h1:oF<=3600000) (bX:oy [.l L]=some [.i 0])
include R ho h0 h1 bX
theorem JE:kD [.l L,.s (C ab),.i oF]=some [.l (bM L C A ab oF (A ab).length),.i (ab:Int),.i 0] :=
 Tu R.xE ho bX (by unfold d_; rw[eY,eY,dE h0,dE h1]; rfl)
theorem ajd:rS [.l L,.s (C ab),.i oF]=some [.l (bM L C A ab oF (A ab).length),.i 0]:=by
 refine aa.toEq ?_;unfold rS;dsimp +instances only[gd,Aa,Ab,Ac,Ad,Ae,Af,Ag];refine aa.call (P:=fun g=>g=[.l (bM L C A ab oF (A ab).length),.i (ab:Int),.i 0]) (aa.eq (JE R ho h0 h1 bX)) ?_;rintro _ rfl;exact aa.some rfl
theorem aje:w_ [.l L,.s (C ab),.i oF]=some [.l (uy (bM L C A ab oF (A ab).length)),.i 0]:=by
 have v:=R.na ab ho;have q:=qB L C A ab oF (A ab).length;obtain⟨d,_⟩:=E6 L C A ab oF (A ab).length;have h:=JE R ho h0 h1 bX;generalize bM L C A ab oF (A ab).length=rZ at q d h;have hb:∀ k,0<=cK rZ k/\cK rZ k<100:=fun k=>by have:=lZ rZ k; omega
 refine aa.toEq ?_;unfold w_;dsimp +instances only[gd,Aa,Ab,Ac,Ad,Ae,Af,Ag];refine aa.call (P:=fun g=>g=[.l rZ,.i (ab:Int),.i 0]) (aa.eq h) ?_;rintro _ rfl;refine aa.neg rfl ?_;refine aa.call (P:=fun g=>g=[.l [cV rZ]]) (aa.eq (ai0 rZ (by omega) d)) ?_;rintro _ rfl;refine aa.call (P:=fun g=>g=[.l fo]) (aa.eq rfl) ?_;rintro _ rfl;unfold cV;dsimp +instances only[gd,Aa,Ab,Ac,Ad,Ae,Af,Ag];refine aa.loop (ai2 (hb 1) (hb 2) (hb 3) (hb 4) (hb 5) (hb 6)) (by first|rfl|simp) ?_;rintro c g ⟨rfl,rfl⟩;exact aa.pos rfl (aa.some rfl)
theorem ajf(p:Int):xb [.l L,.s (C ab),.i oF,.i p]=some (bif gF p then [.i 0,.i 1] else [.i (fK p (bM L C A ab oF (A ab).length)),.i 0]):=by
 have q:=R.na ab ho;have k:=qB L C A ab oF (A ab).length;have d:=JE R ho h0 h1 bX;generalize bM L C A ab oF (A ab).length=rZ at k d;refine aa.toEq ?_;unfold xb;dsimp +instances only[gd,Aa,Ab,Ac,Ad,Ae,Af,Ag];refine aa.call (P:=fun g=>g=[.l rZ,.i (ab:Int),.i 0]) (aa.eq d) ?_;rintro _ rfl;refine aa.neg rfl ?_;refine aa.call (P:=fun g=>g=[.t (gF p)]) ?_ ?_
 ·unfold pk gF
  dsimp +instances only[gd,Aa,Ab,Ac,Ad,Ae,Af,Ag];cases h:ax p 0 with
  |true=>exact aa.some rfl
  |false=>exact aa.some rfl
 rintro _ rfl;dsimp +instances only[gd,Aa,Ab,Ac,Ad,Ae,Af,Ag];cases h:gF p with
 |true=>exact aa.some rfl
 | false =>
  unfold gF at h;rw[Uk,cB,cB,dF,dF]at h;refine aa.neg rfl ?_;refine aa.loop (ai6 (p:=p) ⟨by omega,by omega⟩ rZ (by omega)) (by first|rfl|simp) ?_;rintro c g ⟨rfl,rfl⟩;exact aa.some rfl
omit bX in
theorem ajg:Ep [.l L,.s (C ab),.i oF]=some [.l (uy (bM L C A ab oF (A ab).length))]:=by
 have v:=R.na ab ho;have q:=qB L C A ab oF (A ab).length;obtain⟨d,_⟩:=E6 L C A ab oF (A ab).length;have h:=JD R ho h0 h1;generalize bM L C A ab oF (A ab).length=rZ at q d h;have hb:∀ k,0<=cK rZ k/\cK rZ k<100:=fun k=>by have:=lZ rZ k; omega
 refine aa.toEq ?_;unfold Ep;dsimp +instances only[gd,Aa,Ab,Ac,Ad,Ae,Af,Ag];refine aa.call (P:=fun g=>g=[.l rZ]) (aa.eq h) ?_;rintro _ rfl;dsimp +instances only[gd,Aa,Ab,Ac,Ad,Ae,Af,Ag];refine aa.loop (ai1 rZ (by omega) d) (by first|rfl|simp) ?_;rintro c g ⟨rfl,rfl⟩;unfold cV;dsimp +instances only[gd,Aa,Ab,Ac,Ad,Ae,Af,Ag];refine aa.loop (ai3 (hb 1) (hb 2) (hb 3) (hb 4) (hb 5) (hb 6)) (by first|rfl|simp) ?_;rintro c g ⟨rfl,rfl⟩;exact aa.pos rfl (aa.some rfl)
omit bX in
theorem ajh{p:Int}(d:gF p=false):Es [.l L,.s (C ab),.i oF,.i p]=some [.i (fK p (bM L C A ab oF (A ab).length))]:=by
 have q:=R.na ab ho;have k:=qB L C A ab oF (A ab).length;obtain⟨_,he⟩:=E6 L C A ab oF (A ab).length;have h:=JD R ho h0 h1;generalize bM L C A ab oF (A ab).length=rZ at k he h;unfold gF at d;rw[Uk,cB,cB,dF,dF]at d;refine aa.toEq ?_;unfold Es;dsimp +instances only[gd,Aa,Ab,Ac,Ad,Ae,Af,Ag];refine aa.call (P:=fun g=>g=[.l rZ]) (aa.eq h) ?_;rintro _ rfl;dsimp +instances only[gd,Aa,Ab,Ac,Ad,Ae,Af,Ag];refine aa.loop (ai7 (p:=p) ⟨by omega,by omega⟩ rZ (by omega) he) (by first|rfl|simp) ?_;rintro c g ⟨rfl,rfl⟩;exact aa.some rfl
theorem aji(p:Int):uh [.l L,.i oF,.s (C ab),.i p,.l (bM L C A ab oF (A ab).length),.i 0,.l (uy (bM L C A ab oF (A ab).length)),.i 0,.i (bif gF p then 0 else fK p (bM L C A ab oF (A ab).length)),.i (bif gF p then 1 else 0),.i 0,.i (bif gF p then 1 else 0)]=some (some 0,[.t true]):=by
 have M:=R.na ab ho;have y:=qB L C A ab oF (A ab).length;have h:=JD R ho h0 h1;have k:=ajg R ho h0 h1;have d:=@ajh L C A R ab ho oF h0 h1 p;generalize bM L C A ab oF (A ab).length=rZ at y h k d;have q:=TG rZ (by omega);have v:=TH (uy rZ) (by rw[ajc]; omega);refine aa.toEq ?_;unfold uh;dsimp +instances only[gd,Aa,Ab,Ac,Ad,Ae,Af,Ag];refine aa.pos rfl ?_;refine aa.call (P:=fun g=>g=[.l rZ]) (aa.eq h) ?_;rintro _ rfl;refine aa.call (P:=fun g=>g=[.l (uy rZ)]) (aa.eq k) ?_;rintro _ rfl;cases I:gF p with
 | true =>
  refine aa.neg rfl (aa.pos rfl ?_);refine aa.cE q ?_;refine aa.pos rfl (aa.pos rfl ?_);refine aa.cE v ?_;refine aa.pos rfl (aa.pos rfl (aa.pos rfl ?_));refine aa.cE JA ?_;exact aa.some rfl
 | false =>
  refine aa.pos rfl ?_;refine aa.call (P:=fun g=>g=[.i (fK p rZ)]) (aa.eq (d I)) ?_;rintro _ rfl;refine aa.pos rfl ?_;refine aa.cE q ?_;refine aa.pos rfl (aa.pos rfl ?_);refine aa.cE v ?_;refine aa.pos rfl (aa.pos rfl (aa.pos (by show (fK p rZ==fK p rZ)=true; simp) ?_));refine aa.cE JA ?_;exact aa.some rfl
end
theorem ajj(l:LL)(a:Int)(ha:0<=a)(d:a<=900000):aa (DE [.l l,.i a]) fun g=>∃ v,g=[.l l,.i (a+1),.i v]:=by
 unfold DE;dsimp +instances only[gd,Aa,Ab,Ac,Ad,Ae,Af,Ag];refine aa.call (qt (-1) 3600001 l a _ ha (by omega) (by kernel_rfl) (by kernel_rfl)) ?_;rintro _ ⟨v,rfl,h⟩;exact aa.some ⟨v,rfl⟩
section
variable {L:LL} {C:Nat->BY} {A:Nat->LL} (R:A4 L C A)
include R
theorem ajk(s:BY):rU [.l L,.s s]=some [.i (lY (lh L C s))]:=by
 have y:=R.n;refine aa.toEq ?_;unfold rU;dsimp +instances only[gd,Aa,Ab,Ac,Ad,Ae,Af,Ag];refine aa.call (P:=fun g=>g=[.i (lY (lh L C s))]) ?_ ?_
 ·unfold D_
  dsimp +instances only[gd,Aa,Ab,Ac,Ad,Ae,Af,Ag];have q:=xM (st:=rT) (mk:=fun i=>[.l L,.l [[.s s]],.i (L.length:Int),.i (i:Int)]) (p:=fun k=>decide (C k=s)) (out:=fun i=>[.i (i:Int)]) (n:=L.length) (fun i hi=>by
    unfold rT;dsimp +instances only[gd,Aa,Ab,Ac,Ad,Ae,Af,Ag];simp only[a6,R.get i hi];refine aa.p (aa.p ?_);refine aa.call (P:=fun g=>g=[.t (decide (C i=s))]) (aa.eq (by rw[<-k9]; rfl)) ?_;rintro _ rfl;refine aa.test (fun h=>aa.some (.inl ⟨h,rfl⟩)) fun h=>aa.p (aa.some (.inr ⟨h,rfl⟩))) (by
    refine aa.toEq ?_;unfold rT;dsimp +instances only[gd,Aa,Ab,Ac,Ad,Ae,Af,Ag];exact aa.n (aa.some rfl)) L.length 0 (by omega)
  refine aa.loop (q.to (by omega)) rfl ?_;rintro x g (⟨rfl,v,d,rfl⟩|⟨rfl,d⟩)
  ·have d : lh L C s = some v := d
   rw[d];exact aa.pos rfl (aa.some rfl)
  ·have d : lh L C s = none := d
   rw[d];exact aa.neg rfl (aa.some rfl)
 ·rintro _ rfl
  exact aa.some rfl
def mH(L:LL)(C:Nat->BY)(A:Nat->LL)(s:BY)(oF:Int):Int :=
 if ir C A L.length 0≠0 then ir C A L.length 0 else if (bif d_ oF 0 3600000 then (0:Int) else 1)≠0 then (bif d_ oF 0 3600000 then 0 else 1) else bif ax (lY (lh L C s)) 0 then 8 else 0
theorem ajl(s:BY)(oF:Int):Ea [.l L,.i oF,.s s]=some [.i (mH L C A s oF)]:=by
 refine aa.toEq ?_;unfold Ea;dsimp +instances only[gd,Aa,Ab,Ac,Ad,Ae,Af,Ag];refine aa.cE (aid R) ?_;refine aa.cE (aia oF) ?_;refine aa.cE (ajk R s) ?_;refine aa.cE (A_ _ 8) ?_;refine aa.cE (ai' _ _ _) ?_;exact aa.some rfl
theorem ajm(s:BY)(oF:Int):(mH L C A s oF≠0/\kD [.l L,.s s,.i oF]=some [.l [],.i 0,.i (mH L C A s oF)]) \/
  (mH L C A s oF=0/\oy [.l L]=some [.i 0]/\sk L C A/\0<=oF/\oF<=3600000/\∃ ab,ab<L.length/\C ab=s):=by
 have bX:=S' R;by_cases d:ir C A L.length 0≠0
 ·left
  have e:mH L C A s oF=ir C A L.length 0:=by unfold mH; rw[iP d]
  rw[e];exact⟨d,aiM bX d⟩
 ·have q : ir C A L.length 0 = 0 := by simpa using d
  rw[q]at bX;have h:=ai9 R q;cases hb:d_ oF 0 3600000 with
  | false =>
   left;have e:mH L C A s oF=1:=by unfold mH; rw[iN d,hb]; rfl
   rw[e];exact⟨by decide,aiN bX hb⟩
  | true =>
   cases g:lh L C s with
   | none =>
    left;have e:mH L C A s oF=8:=by unfold mH; rw[iN d,hb,g]; rfl
    rw[e];refine⟨by decide,aiO h.xE bX hb fun k v y=>?_⟩;rw[E2 h.xE v y]at g;cases g
   | some k =>
    right;obtain⟨_,h1,I⟩:=A7 g;have e:mH L C A s oF=0:=by
     unfold mH;rw[iN d,hb,g];show (bif ax (k:Int) 0 then 8 else 0)=(0:Int)
     rw[cB,decide_eq_false (by omega)];rfl
    unfold d_ at hb;rw[aL,eY,eY,dT,dT]at hb;exact⟨e,bX,h,hb.1,hb.2,k,by omega,of_decide_eq_true I⟩
end
theorem ajn(rZ:LL):IP [.l rZ]=some [.t true]:=by
 refine aa.toEq ?_;unfold IP;dsimp +instances only[gd,Aa,Ab,Ac,Ad,Ae,Af,Ag];refine aa.call (aim rZ) ?_;rintro _ ⟨q,Y,m,rfl,q0,q1,m0,m1,hY,hYs⟩;dsimp +instances only[gd,Aa,Ab,Ac,Ad,Ae,Af,Ag];obtain⟨C,hC⟩:∃ C:Nat->BY,C=fun i=>(gi (Y.getD i []) 0).sV:=⟨_,rfl⟩
 obtain⟨A,hA⟩:∃ A:Nat->LL,A=fun i=>(gi (Y.getD i []) 1).rZ:=⟨_,rfl⟩
 have R:A4 Y C A:=by
  rw[hC,hA];refine⟨fun i hi=>?_,by omega,fun i hi z N=>?_,fun i hi=>?_,fun i hi=>?_⟩<;>obtain⟨c,L,v,g2,g3,g4⟩:=hYs i (by omega)
  ·rw [v]
   rfl
  ·rw [v] at N
   exact g3 z N
  ·rw [v]
   show L.length<=40
   omega
  ·rw [v]
   exact g2
 refine aa.call (ajj rZ q q0 (by omega)) ?_;rintro _ ⟨oF,rfl⟩;dsimp +instances only[gd,Aa,Ab,Ac,Ad,Ae,Af,Ag];refine aa.call (IT (fun _=>True) rZ (q+1) _ (by omega) (by omega) (by simp) (by simp) (fun _ _=>trivial)) ?_;rintro _ ⟨s,rfl,_⟩;dsimp +instances only[gd,Aa,Ab,Ac,Ad,Ae,Af,Ag];refine aa.call (qt (-1) 11 rZ (q+1+1) _ (by omega) (by omega) (by kernel_rfl) (by kernel_rfl)) ?_;rintro _ ⟨p,rfl,p0,p1⟩;dsimp +instances only[gd,Aa,Ab,Ac,Ad,Ae,Af,Ag];have k:=ajl R s oF;rcases ajm R s oF with⟨he,hfd⟩|⟨he,bX,y,h0,h1,ab,ho,rfl⟩
 ·obtain ⟨O, U, V⟩ := ajb hfd he p
  generalize mH Y C A s oF=e at he k O U V;refine aa.call (P:=fun g=>g=[.l [],.i e]) (aa.eq O) ?_;rintro _ rfl;refine aa.call (P:=fun g=>g=[.l [],.i e]) (aa.eq U) ?_;rintro _ rfl;refine aa.call (P:=fun g=>g=[.i 0,.i e]) (aa.eq V) ?_;rintro _ rfl;refine aa.call (P:=fun g=>g=[.i e]) (aa.eq k) ?_;rintro _ rfl;dsimp +instances only[gd,Aa,Ab,Ac,Ad,Ae,Af,Ag];have d:=aja Y s oF p e he;have M:∀ w:Int,(if e≠0 then e else w)=e:=fun w=>iP he;refine aa.test (fun h=>?_) fun h=>?_
  ·refine aa.call (aa.eq (A_ true 1)) ?_
   rintro _ rfl;refine aa.call (P:=fun g=>g=[.i e]) (aa.eq ((E7 e _).trans (by rw[M]))) ?_;rintro _ rfl;refine aa.tail (P:=fun u g=>u=0/\g=[.t true]) ⟨_,d,0,rfl,rfl,rfl⟩ (by first|rfl|simp) ?_;rintro _ _ ⟨rfl,rfl⟩;exact aa.some rfl
  ·refine aa.call (aa.eq (A_ (ax 10 p) 1)) ?_
   rintro _ rfl;refine aa.call (P:=fun g=>g=[.i e]) (aa.eq ((E7 e _).trans (by rw[M]))) ?_;rintro _ rfl;refine aa.tail (P:=fun u g=>u=0/\g=[.t true]) ⟨_,d,0,rfl,rfl,rfl⟩ (by first|rfl|simp) ?_;rintro _ _ ⟨rfl,rfl⟩;exact aa.some rfl
 ·rw [he] at k
  have W:=ajf y ho h0 h1 bX p;have d:=aji y ho h0 h1 bX p;refine aa.call (P:=fun g=>g=[.l (bM Y C A ab oF (A ab).length),.i 0]) (aa.eq (ajd y ho h0 h1 bX)) ?_;rintro _ rfl;refine aa.call (P:=fun g=>g=[.l (uy (bM Y C A ab oF (A ab).length)),.i 0]) (aa.eq (aje y ho h0 h1 bX)) ?_;rintro _ rfl;refine aa.call (P:=fun g=>g=(bif gF p then [.i 0,.i 1] else [.i (fK p (bM Y C A ab oF (A ab).length)),.i 0])) (aa.eq W) ?_;rintro _ rfl;refine aa.call (P:=fun g=>g=[.i 0]) (aa.eq k) ?_;rintro _ rfl;dsimp +instances only[gd,Aa,Ab,Ac,Ad,Ae,Af,Ag];have e1:(gi (bif gF p then [.i 0,.i 1] else [.i (fK p (bM Y C A ab oF (A ab).length)),.i 0]) 0).iV=bif gF p then 0 else fK p (bM Y C A ab oF (A ab).length):=by cases gF p<;>rfl
  have e2:(gi (bif gF p then [.i 0,.i 1] else [.i (fK p (bM Y C A ab oF (A ab).length)),.i 0]) 1).iV=bif gF p then 1 else 0:=by cases gF p<;>rfl
  simp only[e1,e2];refine aa.test (fun h=>?_) fun h=>?_
  ·have I : gF p = true := by unfold gF; rw [h]; rfl
   refine aa.cE (A_ true 1) ?_;refine aa.call (P:=fun g=>g=[.i (bif gF p then 1 else 0)]) (aa.eq ((E7 0 _).trans (by rw[I]; rfl))) ?_;rintro _ rfl;refine aa.tail (P:=fun u g=>u=0/\g=[.t true]) ⟨_,d,0,rfl,rfl,rfl⟩ (by first|rfl|simp) ?_;rintro _ _ ⟨rfl,rfl⟩;exact aa.some rfl
  ·have I : gF p = ax 10 p := by unfold gF; rw [h]; rfl
   refine aa.cE (A_ (ax 10 p) 1) ?_;refine aa.call (P:=fun g=>g=[.i (bif gF p then 1 else 0)]) (aa.eq ((E7 0 _).trans (by rw[I]; rfl))) ?_;rintro _ rfl;refine aa.tail (P:=fun u g=>u=0/\g=[.t true]) ⟨_,d,0,rfl,rfl,rfl⟩ (by first|rfl|simp) ?_;rintro _ _ ⟨rfl,rfl⟩;exact aa.some rfl
end
end Go.Proofs.jq
