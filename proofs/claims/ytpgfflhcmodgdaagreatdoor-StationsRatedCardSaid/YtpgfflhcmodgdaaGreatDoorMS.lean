/-
 What is proved here: what both checks tell of two logs,and of all logs that were sent in. No condition.
-/
import Derived.Test.YtpgfflhcmodgdaaGreatDoorMF
set_option linter.all false
set_option backward.dsimp.instances true
open Array renaming length_toList->oH
open Bool renaming and_true->jQ,and_eq_true->aO,true_and->iD,false_or->xF,and_false->A9,false_and->A_,or_false->rH,beq_comm->asE,or_eq_false_iff->O3
open ByteArray renaming size_append->ZS,data->asA
open Classical renaming byContradiction->OR,choose_spec->asC
open Go.ByteArray renaming toList_eq->ta
open Go.Lib renaming compareBytes->gA
open Go.Op renaming bytesLess->mV
open Int renaming toNat_natCast->a7,add_zero->asJ
open List renaming length_cons->cz,append_nil->dY,length_map->cP,getElem_of_mem->pK,getElem?_eq_getElem->cB,getElem?_set_self->cG,getElem?_set_ne->bL,getD_eq_getElem?_getD->dc,map_cons->e9,foldl_cons->Jc,length_take->mg,length_set->nV,length_append->fV,all_eq_true->eD,mem_cons->c_,map_map->oI,mem_append->dm,replicate->cn,mem_cons_self->dx,mem_cons_of_mem->dh,take_of_length_le->s7,map_append->kj,nodup_cons->oL,append_assoc->kl,mem_map->dS,range->fm,mem_range->iQ,mem_singleton->pP,length_nil->km,length->xJ,mem_filter->mn,not_mem_nil->pQ,filter_eq_nil_iff->OU,filter_eq_self->Jq,pairwise_map->qA,drop_eq_nil_of_le->ZO,pairwise_cons->nf,any_cons->Ex,any_nil->OY,foldl_append->Ju,filter_append->A',filter_nil->rI,nodup_append->Ez,length_filter_le->vu,any_eq_false->ZR,perm_ext_iff_of_nodup->ZT,reverse_cons->tb,reverse_reverse->asD,any_append->ZU,countP_le_length->asF,countP_append->asG,countP_singleton->asH,take_length->asI,count_cons->asK,contains_cons->asL,filter->ZV,filter_cons_of_pos->O4,filter_cons_of_neg->Jz,count_le_length->JA,take_append_getElem->EA,count_append->ZW,count_pos_iff->ZX,count_eq_zero->asM,nodup_iff_pairwise_ne->tc,mergeSort_perm->ZY,take_left->ZZ,countP_cons->Z0
open List.Sublist renaming refl->atd
open Nat renaming le_refl->aV,le_trans->mU,zero_le->fy,zero_add->dj,beq->aD,eq_of_beq_eq_true->bN,ble->dv,blt->dy,ble_eq->ml,blt_eq->jC,beq_refl->jD,lt_succ_of_lt->Er,le_antisymm->Jw,succ_le_succ->Jx,le_total->Jy
open Option.some renaming inj->jB
open UInt8 renaming le_antisymm->OX,not_lt->xL
namespace Go.Proofs.jI
open Go Go.AL Go.Proofs
variable {A:Nat->LL} {K:List Kd} {Q:LG->Prop} {a b c:BY} {af bk i j k n:Nat} {h v:Int} {l:List BY} {m out p q r0 r1 r2 row:LL} {r z:LG}
noncomputable section
theorem Oc(oF:Int):C5 [.i oF]=some [.i (bif fH oF 0 3600000 then 0 else 1)]:=by
 refine aa.toEq ?_;unfold C5
 (dsimp only[go_sem])
 refine aa.cE (DO oF 0 3600000) ?_;cases fH oF 0 3600000<;>exact aa.some rfl
theorem apm(oF:Int):Dj [.i oF]=some [.i (bif fH oF 0 3600000 then 0 else 1)]:=by
 refine aa.toEq ?_;unfold Dj
 (dsimp only[go_sem])
 refine aa.cE (Wx oF 0 3600000) ?_;cases fH oF 0 3600000<;>exact aa.some rfl
section
variable {a b:BY} (ha:a∈calls) (hb:b∈calls) {A B:LL} (hA:∀z∈A,fh z) (hB:∀z∈B,fh z) (na:A.length<100000) (nb:B.length<100000)
include ha hb hA hB na nb
end
structure AI (L:LL) (C:Nat->BY) (A:Nat->LL):Prop where
 get:∀i,i<L.length->L.getD i []=[.s (C i),.l (A i)]
 n:L.length<=40
 lG:∀i,i<L.length->∀z∈A i,fh z
 na:∀i,i<L.length->(A i).length<=40
 call:∀i,i<L.length->C i∈calls
def oD(C:Nat->BY)(i:Nat):Bool:=mV (C i).toList (C (i-1)).toList||((C i).toList==(C (i-1)).toList)
def l9(C:Nat->BY)(A:Nat->LL)(i:Nat):Int:=
 bif !jK (C i) then 3 else bif aN 0 (i:Int)&&oD C i then 7 else lF (C i) (A i)
def kF(C:Nat->BY)(A:Nat->LL):Nat->Nat->Int
 |0,_=>0
 |k+1,i=>if l9 C A i≠0 then l9 C A i else kF C A k (i+1)
section
variable {L:LL} {C:Nat->BY} {A:Nat->LL} (R:AI L C A)
include R
theorem apn(hi:i<L.length):Hm [.l [[.i (i:Int)]],.l [[.s (C i),.l (A i)]],.l [[.l L]]]=some [.i (bif aN 0 (i:Int)&&oD C i then 7 else 0)]:=by
 have hn:=R.n;refine aa.toEq ?_;unfold Hm
 (dsimp only[go_sem])
 refine aa.test (fun h=>?_) fun h=>?_
 ·rw[h]
  rw[cS,dT]at h;have e:((i:Int)-1).toNat=i-1:=ab;have d:=R.get (i-1) ab;simp only[e,d]
  (dsimp only[go_sem])
  refine aa.p (aa.p ?_);show aa (bif oD C i then some ([.i 7]:LG) else some ([.i 0]:LG)) _
  cases oD C i<;>exact aa.some rfl
 ·rw[h]
  exact aa.some rfl
theorem apo(hi:i<L.length):Ht [.l [[.s (C i),.l (A i)]],.l [[.i (i:Int)]],.l [[.s (C i),.l (A i)]],.l [[.l L]]]=some [.i (l9 C A i)]:=by
 have hn:=R.na i hi;refine aa.toEq ?_;unfold Ht l9 lF
 (dsimp only[go_sem])
 refine aa.cE (Wz (R.call i hi)) ?_
 (dsimp only[go_sem])
 cases jK (C i)with
 |false=>exact aa.some rfl
 |true=>
  refine aa.neg rfl ?_;refine aa.cE (apn R hi) ?_
  (dsimp only[go_sem])
  cases aN 0 (i:Int)&&oD C i with
  |true=>exact aa.some rfl
  |false=>
   refine aa.neg rfl ?_;refine aa.cE (aog (A i) (R.lG i hi) ab) ?_
   (dsimp only[go_sem])
   cases nJ (A i) != 0 with
   |true=>exact aa.some rfl
   |false=>
    refine aa.neg rfl ?_;refine aa.call (aa.eq (Xi (C:=Hs) (c:=C i) (A:=A i) (fun z d=>by
     refine aa.toEq ?_;unfold Hs
     (dsimp only[go_sem])
     exact aa.some rfl) (A i) (R.lG i hi) ab)) ?_
    rintro _ rfl
    (dsimp only[go_sem])
    cases pF (C i) (A i)<;>exact aa.some rfl
theorem X9:∀(k i:Nat),i+k=L.length->aR zt [.l L,.l L,.i (L.length:Int),.i (i:Int)] (k+1) fun x g=>(x=0/\g=[.i (kF C A k i)])\/x=1/\kF C A k i=0
 |0,i,hi=>by
  refine aR.stop (x:=1) (d':=[]) (aa.toEq ?_) (.inr ⟨rfl,rfl⟩);unfold zt
  (dsimp only[go_sem])
  exact aa.n (aa.some rfl)
 |k+1,i,hi=>by
  have hn:=R.n;have d:=X9 k (i+1) ab;have step:aa (zt [.l L,.l L,.i (L.length:Int),.i (i:Int)]) fun o=>(o=(some 0,[.i (l9 C A i)])/\l9 C A i≠0)\/o=(none,[.l L,.l L,.i (L.length:Int),.i ((i:Int)+1)])/\l9 C A i=0:=by
   unfold zt
   (dsimp only[go_sem])
   simp only[a7,R.get i (by omega:i<L.length)];refine aa.p (aa.p ?_);refine aa.cE (apo R (i:=i) ab) ?_
   (dsimp only[go_sem])
   exact aa.test (fun h=>aa.some (.inl ⟨rfl,by simpa using h⟩)) fun h=>aa.p (aa.some (.inr ⟨rfl,by simpa using h⟩))
  obtain⟨o,h,⟨rfl,he⟩|⟨rfl,he⟩⟩:=step<;>grind[aR.stop,kF,aR.next]
theorem X_:∀(k i:Nat),i+k=L.length->aR zW [.l L,.l L,.i (L.length:Int),.i (i:Int)] (k+1) fun x g=>(x=0/\g=[.i (kF C A k i)])\/x=1/\kF C A k i=0
 |0,i,hi=>by
  refine aR.stop (x:=1) (d':=[]) (aa.toEq ?_) (.inr ⟨rfl,rfl⟩);unfold zW
  (dsimp only[go_sem])
  exact aa.n (aa.some rfl)
 |k+1,i,hi=>by
  have hn:=R.n;have v:=X_ k (i+1) ab;have M:=R.na i ab;have step:aa (zW [.l L,.l L,.i (L.length:Int),.i (i:Int)]) fun o=>(o=(some 0,[.i (l9 C A i)])/\l9 C A i≠0)\/o=(none,[.l L,.l L,.i (L.length:Int),.i ((i:Int)+1)])/\l9 C A i=0:=by
   unfold zW l9
   (dsimp only[go_sem])
   simp only[a7,R.get i (by omega:i<L.length)]
   (dsimp only[go_sem])
   refine aa.p (aa.p ?_);refine aa.cE (NG (R.call i ab)) ?_
   (dsimp only[go_sem])
   cases jK (C i)with
   |false=>exact aa.some (.inl ⟨rfl,by show (3:Int)≠0; decide⟩)
   |true=>
    refine aa.neg rfl ?_;simp only[Bool.not_true,cF];refine aa.test (fun d=>?_) fun d=>?_
    ·rw[d,iD]
     rw[cS,dT]at d;have e:((i:Int)-1).toNat=i-1:=ab;have y:=R.get (i-1) ab;simp only[e,y]
     (dsimp only[go_sem])
     refine aa.p (aa.p ?_);have I:(mV (C i).toList (C (i-1)).toList||((C i).toList==(C (i-1)).toList))=oD C i:=rfl;rw[I];cases oD C i with
     |true=>exact aa.some (.inl ⟨rfl,by show (7:Int)≠0; decide⟩)
     |false=>
      refine aa.neg rfl ?_;refine aa.cE (Xj (L:=A i) (R.call i ab) (R.lG i ab) ab) ?_
      (dsimp only[go_sem])
      exact aa.test (fun h=>aa.some (.inl ⟨rfl,by simpa using h⟩)) fun h=>aa.p (aa.some (.inr ⟨rfl,by simpa using h⟩))
    ·rw[d,A_,cF]
     refine aa.cE (Xj (L:=A i) (R.call i ab) (R.lG i ab) ab) ?_
     (dsimp only[go_sem])
     exact aa.test (fun h=>aa.some (.inl ⟨rfl,by simpa using h⟩)) fun h=>aa.p (aa.some (.inr ⟨rfl,by simpa using h⟩))
  obtain⟨o,h,⟨rfl,he⟩|⟨rfl,he⟩⟩:=step
  ·exact aR.stop h (.inl ⟨rfl,by rw[kF,iP he]⟩)
  ·refine aR.next h (v.mono ?_)
   rw[kF,iN (by simpa using he)];exact fun x g h=>h
theorem Ya:oA [.l L]=some [.i (kF C A L.length 0)]:=by
 have hn:=R.n;refine aa.toEq ?_;unfold oA
 (dsimp only[go_sem])
 refine aa.n ?_;refine aa.loop ((X9 R L.length 0 ab).to ab) rfl ?_;rintro x g (⟨rfl,rfl⟩|⟨rfl,h⟩)
 ·exact aa.pos rfl (aa.some rfl)
 ·rw[h]
  exact aa.neg rfl (aa.some rfl)
theorem apq:Dh [.l L]=some [.i (kF C A L.length 0)]:=by
 have hn:=R.n;refine aa.toEq ?_;unfold Dh
 (dsimp only[go_sem])
 refine aa.n ?_;refine aa.loop ((X_ R L.length 0 ab).to ab) rfl ?_;rintro x g (⟨rfl,rfl⟩|⟨rfl,h⟩)
 ·exact aa.pos rfl (aa.some rfl)
 ·rw[h]
  exact aa.neg rfl (aa.some rfl)
end
def kG:BY:=⟨#[107,49,97,98]⟩
def je:BY:=⟨#[119,49,97,119]⟩
def u_(t:Int)(c:BY)(s h:Int):LG:=[.i t,.i 1,.s ⟨#[98]⟩,.s c,.i s,.i h,.s ⟨#[]⟩,.s ⟨#[]⟩]
def vc:LL:=[[.s kG,.l [u_ 5 je 1 2]],[.s je,.l [u_ 9 kG 2 1]]]
def nS(i:Nat):BY:=if i=0 then kG else je
def eY(i:Nat):LL:=if i=0 then [u_ 5 je 1 2] else [u_ 9 kG 2 1]
theorem IP:mP vc nS eY:=by
 have d:∀i,i<vc.length->i=0\/i=1:=fun i hi=>by
  have:i<2:=hi;omega
 refine⟨fun i hi=>?_,e_,fun i hi z k=>?_,fun i hi=>?_,fun i hi=>?_,fun i j M v=>?_⟩
 ·rcases d i hi with rfl|rfl<;>rfl
 ·rcases d i hi with rfl | rfl
  ·rw[pP.1 k]
   exact⟨⟨rfl,e_,e_⟩,e_⟩
  ·rw[pP.1 k]
   exact⟨⟨rfl,e_,e_⟩,e_⟩
 ·rcases d i hi with rfl|rfl<;>decide
 ·rcases d i hi with rfl|rfl<;>decide
 ·have v:j<2:=v
  have y:i=0:=ab;have I:j=1:=ab;subst y I;have h:aN (dD kG je) 0=true:=aB;rw[cS,dT]at h;exact h
theorem apr:AI vc nS eY:=by
 have h:∀i,i<vc.length->i=0\/i=1:=fun i hi=>by
  have:i<2:=hi;omega
 have d:∀n:Int,0<=n->n<=9->small n:=fun n h1 M=>⟨ab,ab⟩
 have hb:(⟨#[98]⟩:BY)∈l7:=qo aB;have y:kG∈calls:=qo aB;have I:je∈calls:=qo aB;have k:(⟨#[]⟩:BY)∈names:=qo aB;refine⟨fun i hi=>?_,e_,fun i hi z v=>?_,fun i hi=>?_,fun i hi=>?_⟩
 ·rcases h i hi with rfl|rfl<;>rfl
 ·rcases h i hi with rfl | rfl
  ·rw[pP.1 v]
   exact⟨_,_,_,_,_,_,_,_,rfl,d _ e_ e_,d _ e_ e_,d _ e_ e_,d _ e_ e_,hb,I,k,k⟩
  ·rw[pP.1 v]
   exact⟨_,_,_,_,_,_,_,_,rfl,d _ e_ e_,d _ e_ e_,d _ e_ e_,d _ e_ e_,hb,y,k,k⟩
 ·rcases h i hi with rfl|rfl<;>decide
 ·rcases h i hi with rfl | rfl
  ·exact y
  ·exact I
theorem Yb(h1:jK c=true)(d:jL r=0) (h:((gi r 3).sV.toList==c.toList)=false):lF c [r]=0:=by
 have k:nJ [r]=0:=by
  unfold nJ;rw[iN au];unfold kX;rw[iN (by rw[d]; simp)];rfl
 have ho:pF c [r]=false:=by
  unfold pF;rw[Ex,h];rfl
 unfold lF;rw[h1,k,ho];rfl
theorem aps:oA [.l vc]=some [.i 0]:=by
 have d:(je.toList==kG.toList)=false:=by rw[l8]; exact decide_eq_false fun e=>by have:=congrArg asA e; revert this; decide
 have v:(kG.toList==je.toList)=false:=by rw[l8]; exact decide_eq_false fun e=>by have:=congrArg asA e; revert this; decide
 have h:jK kG=true:=aB;have k:jK je=true:=aB;have y:lF kG [u_ 5 je 1 2]=0:=Yb h aB d;have I:lF je [u_ 9 kG 2 1]=0:=Yb k aB v;have M:oD nS 1=false:=by
  show (mV je.toList kG.toList||(je.toList==kG.toList))=false
  rw[d,ta,ta]
  kernel_rfl
 have N:l9 nS eY 0=0:=by
  show (bif !jK kG then 3 else bif aN 0 0&&oD nS 0 then 7 else lF kG [u_ 5 je 1 2])=(0:Int)
  rw[h,y];rfl
 have O:l9 nS eY 1=0:=by
  show (bif !jK je then 3 else bif aN 0 1&&oD nS 1 then 7 else lF je [u_ 9 kG 2 1])=(0:Int)
  rw[k,M,I];rfl
 rw[Ya apr];have:kF nS eY 2 0=0:=by
  rw[kF,iN (by rw[N]; simp),kF,iN (by rw[O]; simp)];rfl
 rw[show vc.length=2 from rfl,this]
theorem apt(h:c∈l7):c.size<=1000:=by
 have d:l7.all (fun c=>dv c.size 1000)=true:=aB;simpa using eD.1 d c h
theorem IQ(h:fh z)(k:jL z=0):fI z/\Sm (cy z):=by
 obtain⟨h1,d,_⟩:=N5.1 k;unfold fH at h1 d;simp only[fe,aO,dT]at h1 d;refine⟨⟨h.eta,by unfold j6; omega,by unfold j6; omega⟩,⟨?_,?_,?_⟩⟩
 ·show 0<=(gi z 1).iV
  omega
 ·show (gi z 1).iV<=9
  omega
 ·obtain⟨t,m,b,c,s,v,x,y,rfl,_,_,_,_,hb,_⟩:=h
  exact apt hb
theorem apu{A B:LL}(hA:∀z∈A,fh z)(hB:∀z∈B,fh z)(na:A.length<=100)(nb:B.length<=100)(v:lF a A=0)(y:lF b B=0):xq A B:=by
 have h:∀z∈A,jL z=0:=N6 (NX v);have k:∀z∈B,jL z=0:=N6 (NX y);exact⟨⟨fun z d=>(IQ (hA z d) (h z d)).1,fun z d=>(IQ (hB z d) (k z d)).1,ab,ab⟩,fun z d=>(IQ (hA z d) (h z d)).2,fun z d=>(IQ (hB z d) (k z d)).2,ab,ab⟩
theorem apv(a:LL)(h:a.length<=1048576):zp [.l a]=some [.l a]:=by
 refine aa.toEq ?_;unfold zp
 (dsimp only[go_sem])
 refine aa.test (fun h1=>?_) fun h1=>?_
 ·unfold MV
  (dsimp only[go_sem])
  (repeat first|refine aa.p ?_|refine aa.n ?_);exact aa.some rfl
 ·have:a=[]:=by
   cases a with
   |nil=>rfl
   |cons x a=>
    have d:dy 0 (x::a).length=true:=by rw[jC]; simp
    rw[d]at h1;cases h1
  subst this;exact aa.some rfl
def Yc(r:LG):Prop:=∃(c:BY) (L:LL),r=[.s c,.l L]/\c∈calls/\(∀z∈L,fh z)/\L.length<=15
theorem apw:∀i,i<4->C4.getD i ⟨#[]⟩∈calls:=by
 intro i hi;have d:C4.all (fun c=>pt calls c)=true:=aB;have h:i<C4.length:=hi
 grind[qo]
theorem apx{l X:LL}{p:Int}(p0:0<=p)(p1:p<=2000){m:Nat}(m0:1<=m)(m1:m<=4)(N:X.length=m)(hX:∀ i,i<m->Yc (X.getD i []))(f:Bool) :
  aa (CW [.l l,.i p,.l X,.t f]) fun o=>∃(q:Int) (Y:LL),o=(some 0,[.l l,.i q,.l Y])/\0<=q/\q<=3000/\Y.length=m/\∀i,i<m->∃(c:BY) (L:LL),Y.getD i []=[.s c,.l L]/\c∈calls/\(∀z∈L,fh z)/\L.length<=16:=by
 unfold CW
 (dsimp only[go_sem])
 cases f with
 |false=>
  refine aa.neg rfl (aa.pos au (aa.some ⟨p,X,rfl,p0,ab,N,fun i hi=>?_⟩));obtain⟨c,L,h1,h,y,W⟩:=hX i hi;exact⟨c,L,h1,h,y,ab⟩
 |true=>
  refine aa.pos rfl ?_;refine aa.call (xf l p (X.length:Int) p0 ab ab ab) ?_;rintro _ ⟨v,rfl,v0,v1⟩;obtain⟨k,rfl⟩:=Int.eq_ofNat_of_zero_le v0;have hk:k<m:=ab;obtain⟨c,L,hc,h,y,W⟩:=hX k hk
  (dsimp only[go_sem])
  simp only[a7,dj,hc]
  (dsimp only[go_sem])
  refine aa.p (aa.pos (dE ab) ?_);refine aa.call (Wt (fun v=>v∈calls) l (p+1) _ ab ab au au (fun x U=>by
   simp only[c_,pQ,or_false]at U;rcases U with rfl|rfl|rfl|rfl
   ·exact h
   ·exact qo aB
   ·exact qo aB
   ·exact qo aB)) ?_
  rintro _ ⟨s,rfl,hs⟩
  (dsimp only[go_sem])
  have e1:eh [.str,.list [.I,.I,.str,.str,.I,.I,.str,.str]] [G.s c,.l L] 0 [.s s]=[.s s,.l L]:=rfl;have hg:(X.set k [.s s,.l L]).getD k []=[.s s,.l L]:=by
   rw[dc,cG ab];rfl
  simp only[e1,hg,nV,List.set_set]
  (dsimp only[go_sem])
  refine aa.pos (dE ab) (aa.pos (dE ab) ?_);refine aa.cE (apv L ab) ?_;refine aa.call (sI 0 100000 l (p+1+1) _ ab ab aB aB) ?_;rintro _ ⟨t,rfl,ht⟩
  (dsimp only[go_sem])
  refine aa.call (aoa l (p+1+1+1) t ab ab (by unfold xg; omega)) ?_;rintro _ ⟨q,r,rfl,q0,q1,hr⟩
  (dsimp only[go_sem])
  have he:bg [.I,.I,.str,.str,.I,.I,.str,.str] r=r:=hr.to.eta;have e2:∀M:LL,eh [.str,.list [.I,.I,.str,.str,.I,.I,.str,.str]] [G.s s,.l L] 1 [.l M]=[.s s,.l M]:=fun _=>rfl;simp only[he,e2];refine aa.pos (by rw[jD,iD,dT]; omega) (aa.pos (by rw[jD,iD,dT]; omega) (aa.pos (by rw[jD]; rfl) (aa.some ⟨q,_,rfl,ab,ab,by rw[nV]; exact N,fun i hi=>?_⟩)));by_cases O:k=i
  ·subst O
   refine⟨s,L++[r],?_,hs,fun z d=>?_,bS⟩
   ·rw[dc,cG ab]
    rfl
   ·rcases dm.1 d with d | d
    ·exact y z d
    ·rw[pP.1 d]
     exact hr.to
  ·obtain⟨c',L',g1,g2,g3,g4⟩:=hX i hi
   refine⟨c',L',?_,g2,g3,ab⟩;rw[dc,bL O,<-dc];exact g1
theorem apy(l:LL):aa (Hk [.l l,.i 0]) fun g=>∃(q:Int) (Y:LL) (m:Nat),g=[.l l,.i q,.l Y]/\0<=q/\q<=3000/\1<=m/\m<=4/\Y.length=m/\∀i,i<m->∃(c:BY) (L:LL),Y.getD i []=[.s c,.l L]/\c∈calls/\(∀z∈L,fh z)/\L.length<=16:=by
 unfold Hk
 (dsimp only[go_sem])
 refine aa.call (aoK l) ?_;rintro _ ⟨p,X,m,rfl,p0,p1,d,h,k,hX⟩
 (dsimp only[go_sem])
 have y:∀i,i<m->Yc (X.getD i []):=fun i hi=>by
  obtain⟨L,h1,I,U⟩:=hX i hi;exact⟨_,L,h1,apw i ab,fun z M=>(I z M).1,ab⟩
 refine aa.pos (by rw[cS]; exact dE ab) ?_;refine aa.call (DM l p 12 p0 ab ab ab) ?_;rintro _ ⟨f,rfl⟩
 (dsimp only[go_sem])
 obtain⟨o,ho,q,Y,rfl,N,O,hY,v⟩:=apx (l:=l) (p:=p+1) ab ab d h k y f;refine aa.tail (P:=fun u g=>u=0/\g=[.l l,.i q,.l Y]) ⟨_,ho,0,rfl,rfl,rfl⟩ fk ?_;rintro _ _ ⟨rfl,rfl⟩
 (dsimp only[go_sem])
 exact aa.pos au (aa.some ⟨q,Y,m,rfl,N,O,d,h,hY,v⟩)
section
variable {α:Type}
inductive Al:List α->List α->Nat->Prop where
 |nil:Al [] [] 0
 |del (x:α) {a b:List α} {n:Nat}:Al a b n->Al (x::a) b (n+1)
 |ins (y:α) {a b:List α} {n:Nat}:Al a b n->Al a (y::b) (n+1)
 |same (x:α) {a b:List α} {n:Nat}:Al a b n->Al (x::a) (x::b) n
 |sub (x y:α) {a b:List α} {n:Nat}:Al a b n->Al (x::a) (y::b) (n+1)
 |swp (x y:α) {a b:List α} {n:Nat}:Al a b n->Al (x::y::a) (y::x::b) (n+1)
theorem Al.apz(z:α){a b:List α}(h:Al a b n):Al (a++[z]) b (n+1):=by
 induction h with
 |nil=>exact .del z .nil
 |del x _ d=>exact .del x d
 |ins y _ d=>exact .ins y d
 |same x _ d=>exact .same x d
 |sub x y _ d=>exact .sub x y d
 |swp x y _ d=>exact .swp x y d
theorem Al.apD(z:α){a b:List α}(h:Al a b n):Al a (b++[z]) (n+1):=by
 induction h with
 |nil=>exact .ins z .nil
 |del x _ d=>exact .del x d
 |ins y _ d=>exact .ins y d
 |same x _ d=>exact .same x d
 |sub x y _ d=>exact .sub x y d
 |swp x y _ d=>exact .swp x y d
theorem Al.apE(z:α){a b:List α}(h:Al a b n):Al (a++[z]) (b++[z]) n:=by
 induction h with
 |nil=>exact .same z .nil
 |del x _ d=>exact .del x d
 |ins y _ d=>exact .ins y d
 |same x _ d=>exact .same x d
 |sub x y _ d=>exact .sub x y d
 |swp x y _ d=>exact .swp x y d
theorem Al.apF(z w:α){a b:List α}(h:Al a b n):Al (a++[z]) (b++[w]) (n+1):=by
 induction h with
 |nil=>exact .sub z w .nil
 |del x _ d=>exact .del x d
 |ins y _ d=>exact .ins y d
 |same x _ d=>exact .same x d
 |sub x y _ d=>exact .sub x y d
 |swp x y _ d=>exact .swp x y d
theorem Al.apG(z w:α){a b:List α}(h:Al a b n):Al (a++[z,w]) (b++[w,z]) (n+1):=by
 induction h with
 |nil=>exact .swp z w .nil
 |del x _ d=>exact .del x d
 |ins y _ d=>exact .ins y d
 |same x _ d=>exact .same x d
 |sub x y _ d=>exact .sub x y d
 |swp x y _ d=>exact .swp x y d
theorem Al.rev{a b:List α}(h:Al a b n):Al a.reverse b.reverse n:=by
 induction h with
 |nil=>exact .nil
 |del x _ d=>rw[tb]; exact d.apz x
 |ins y _ d=>rw[tb]; exact d.apD y
 |same x _ d=>rw[tb,tb]; exact d.apE x
 |sub x y _ d=>rw[tb,tb]; exact d.apF x y
 |swp x y _ d=>
  rw[tb,tb,tb,tb,kl,kl];exact d.apG y x
theorem Al.some:∀ a b:List α,Al a b (a.length+b.length)
 |[],[]=>.nil
 |[],y::b=>by
  have:=Al.some [] b;simp only[km,dj]at this;rw[km,dj,cz];exact .ins y this
 |x::a,b=>by
  have:=Al.some a b;rw[cz,Nat.add_right_comm];exact .del x this
def Yd(a b:List α)(m:Nat):Prop:=Al a b m/\∀n,Al a b n->m<=n
theorem Od(a b:List α):∃m,Yd a b m:=by
 have key:∀k n,Al a b n->n<=k->∃m,Yd a b m:=by
  intro k
  induction k with
  |zero=>
   intro n h hn;have:n=0:=ab;subst this;exact⟨0,h,fun _ _=>fy _⟩
  |succ k v=>
   intro n h hn;by_cases hm:∃m,Al a b m/\m<=k
   ·obtain⟨m,h1,d⟩:=hm
    exact v m h1 d
   ·refine⟨n,h,fun m h1=>?_⟩
    by_cases d:m<=k
    ·exact(hm ⟨m,h1,d⟩).elim
    ·omega
 exact key _ _ (Al.some a b) (aV _)
def eJ(a b:List α):Nat:=Classical.choose (Od a b)
theorem ry(a b:List α):Al a b (eJ a b):=(asC (Od a b)).1
theorem l_{a b:List α}(h:Al a b n):eJ a b<=n:=(asC (Od a b)).2 n h
theorem apH(a b:List α):eJ a.reverse b.reverse=eJ a b:=by
 refine Jw (l_ (ry a b).rev) ?_;have h:=(ry a.reverse b.reverse).rev;rw[asD,asD]at h;exact l_ h
theorem apI{a b:List α}(h:Al a b n):a=[]->b.length<=n:=by
 induction h with
 |nil=>intro _; exact aV _
 |ins y _ d=>
  intro e;have:=d e;rw[cz];omega
 |del x _ _=>intro e; cases e
 |same x _ _=>intro e; cases e
 |sub x y _ _=>intro e; cases e
 |swp x y _ _=>intro e; cases e
theorem apK{a b:List α}(h:Al a b n):b=[]->a.length<=n:=by
 induction h with
 |nil=>grind
 |del y _ d=>
  grind
 |ins x _ _=>grind
 |same x _ _=>grind
 |sub x y _ _=>grind
 |swp x y _ _=>grind
theorem Ye(b:List α):eJ [] b=b.length:=by
 refine Jw ?_ (apI (ry [] b) rfl);have:=l_ (Al.some [] b);simpa using this
theorem Yf(a:List α):eJ a []=a.length:=by
 refine Jw ?_ (apK (ry a []) rfl);have:=l_ (Al.some a []);simpa using this
theorem Yg{x y:α}{a b:List α}{V:Nat}(h1:V<=eJ a (y::b)+1)(v:V<=eJ (x::a) b+1)(I:V<=eJ a b+1)(M:x=y->V<=eJ a b)(N:∀ d k,a=y::d->b=x::k->V<=eJ d k+1)
  (O:V=eJ a (y::b)+1\/V=eJ (x::a) b+1\/V=eJ a b+1\/(x=y/\V=eJ a b)\/∃d k,a=y::d/\b=x::k/\V=eJ d k+1):eJ (x::a) (y::b)=V:=by
 refine Jw ?_ ?_
 ·rcases O with rfl | rfl | rfl | ⟨rfl,rfl⟩ | ⟨d,k,rfl,rfl,rfl⟩
  ·exact l_ (.del x (ry _ _))
  ·exact l_ (.ins y (ry _ _))
  ·exact l_ (.sub x y (ry _ _))
  ·exact l_ (.same x (ry _ _))
  ·exact l_ (.swp _ _ (ry _ _))
 ·have key:∀n,Al (x::a) (y::b) n->V<=n:=by
   intro n h;cases h with
   |del _ h=>exact mU h1 (Jx (l_ h))
   |ins _ h=>exact mU v (Jx (l_ h))
   |same _ h=>exact mU (M rfl) (l_ h)
   |sub _ _ h=>exact mU I (Jx (l_ h))
   |swp _ _ h=>exact mU (N _ _ rfl rfl) (Jx (l_ h))
  exact key _ (ry _ _)
end
def bB(a:BY)(i:Nat):UInt8:=a.data.toList.getD i 0
def preB(a:BY)(i:Nat):List UInt8:=(a.data.toList.take i).reverse
theorem IS(a:BY):preB a 0=[]:=rfl
theorem D6(h:i<a.size):preB a (i+1)=bB a i::preB a i:=by
 have d:i<a.data.toList.length:=by rw[oH]; exact h
 unfold preB bB;rw[List.take_add_one,dc,cB d];simp
theorem IT(h:i<=a.size):(preB a i).length=i:=by
 have d:i<=a.data.toList.length:=by rw[oH]; exact h
 unfold preB;rw[List.length_reverse,mg];omega
def dH(a b:BY)(i k:Nat):Nat:=eJ (preB a i) (preB b k)
theorem IU(hi:i<=a.size)(d:k<=b.size):dH a b i k<=i+k:=by
 have:=l_ (Al.some (preB a i) (preB b k));rw[IT hi,IT d]at this;exact this
theorem apL(d:k<=b.size):dH a b 0 k=k:=by
 unfold dH;rw[IS,Ye,IT d]
theorem apM(hi:i<=a.size):dH a b i 0=i:=by
 unfold dH;rw[IS,Yf,IT hi]
def ma(x y:UInt8):Nat:=if x=y then 0 else 1
theorem apO(hi:i<a.size)(hk:k<b.size):dH a b (i+1) (k+1) =
  (if 1 <= i /\ 1 <= k /\ bB a i = bB b (k - 1) /\ bB a (i - 1) = bB b k then min (min (min (dH a b i (k + 1) + 1) (dH a b (i + 1) k + 1)) (dH a b i k + ma (bB a i) (bB b k))) (dH a b (i - 1) (k - 1) + 1)
   else min (min (dH a b i (k+1)+1) (dH a b (i+1) k+1)) (dH a b i k+ma (bB a i) (bB b k))):=by
 have U:preB a (i+1)=bB a i::preB a i:=D6 hi;have W:preB b (k+1)=bB b k::preB b k:=D6 hk;have c1:eJ (preB a i) (bB b k::preB b k)=dH a b i (k+1):=by unfold dH; rw[W]
 have c2:eJ (bB a i::preB a i) (preB b k)=dH a b (i+1) k:=by unfold dH; rw[U]
 have c3:eJ (preB a i) (preB b k)=dH a b i k:=rfl;have c4:∀d v,preB a i=bB b k::d->preB b k=bB a i::v->(1<=i/\1<=k/\bB a i=bB b (k-1)/\bB a (i-1)=bB b k)/\eJ d v=dH a b (i-1) (k-1):=fun d v h1 M=>by
  cases i with
  |zero=>grind[IS]
  |succ i=>
   cases k with
   |zero=>grind[IS]
   |succ k=>
    rw[D6 ab]at h1 M;injection h1 with y I
    injection M with h5 h6
    exact⟨⟨ab,ab,h5.symm,y⟩,by rw[<-I,<-h6]; rfl⟩
 have c5:(1<=i/\1<=k/\bB a i=bB b (k-1)/\bB a (i-1)=bB b k)->∃d v,preB a i=bB b k::d/\preB b k=bB a i::v/\eJ d v=dH a b (i-1) (k-1):=fun⟨h1,M,y,I⟩=>by
  obtain⟨i,rfl⟩:∃j,i=j+1:=⟨i-1,ab⟩
  obtain⟨k,rfl⟩:∃j,k=j+1:=⟨k-1,ab⟩
  have y:bB a (i+1)=bB b k:=y;have I:bB a i=bB b (k+1):=I;exact⟨preB a i,preB b k,by rw[D6 ab,I],by rw[D6 ab,y],rfl⟩
 have O:∀V,V<=dH a b i (k+1)+1->V<=dH a b (i+1) k+1->V<=dH a b i k+ma (bB a i) (bB b k)->((1<=i/\1<=k/\bB a i=bB b (k-1)/\bB a (i-1)=bB b k)->V<=dH a b (i-1) (k-1)+1) ->
   (V=dH a b i (k+1)+1\/V=dH a b (i+1) k+1\/V=dH a b i k+ma (bB a i) (bB b k)\/((1<=i/\1<=k/\bB a i=bB b (k-1)/\bB a (i-1)=bB b k)/\V=dH a b (i-1) (k-1)+1))->dH a b (i+1) (k+1)=V:=fun V h1 M y I h5=>by
  have hc:ma (bB a i) (bB b k)<=1:=by unfold ma; grind
  show eJ (preB a (i+1)) (preB b (k+1))=V
  rw[U,W];refine Yg (by rw[c1]; exact h1) (by rw[c2]; exact M) (by rw[c3]; omega) (fun e=>by rw[c3]; have:ma (bB a i) (bB b k)=0:=iP e; omega) (fun d v g1 g2=>?_) ?_<;>grind[ma]
 by_cases N:1<=i/\1<=k/\bB a i=bB b (k-1)/\bB a (i-1)=bB b k
 ·rw[iP N]
  refine O _ ab ab ab (fun _=>by omega) ?_
  grind
 ·rw[iN N]
  refine O _ ab ab ab (fun h=>(N h).elim) ?_;omega
structure jf (a b:BY) (m i k:Nat) (r:LL):Prop where
 len:r.length=m
 val:∀j,j<k->j<m->r.getD j []=[.i (dH a b i j:Int)]
theorem jf.set{a b:BY}{m i k:Nat}{r:LL}(h:jf a b m i k r){v:Int}(d:v=(dH a b i k:Int)):jf a b m i (k+1) (r.set k [.i v]):=by
 refine⟨by rw[nV,h.len],fun j y hm=>?_⟩;by_cases e:k=j
 ·subst e
  rw[dc,cG (by rw[h.len]; exact hm),d];rfl
 ·rw[dc,bL e,<-dc,h.val j ab hm]
theorem jf.zero(a b:BY)(m i:Nat):jf a b m i 0 (cn m [.i 0]):=⟨List.length_replicate ..,fun j d=>by omega⟩
def Oe(r0 r1 r2:LL)(a b:BY)(i k m:Nat)(h v y I:Int)(x:Nat)(g:LG):Prop:=
 x=0/\∃d:LL,g=[.l r0,.l r1,.l r2,.l d,.s a,.s b,.i (i:Int),.i h,.i v,.i y,.i I]/\jf a b m i (k+1) d
theorem AJ(x y:UInt8):(((x.toNat:Nat):Int)==((y.toNat:Nat):Int))=decide (x=y):=by
 rw[Bool.eq_iff_iff,beq_iff_eq,dT];constructor
 ·intro h
  exact UInt8.toNat_inj.1 ab
 ·rintro rfl
  rfl
def AK(a b:BY)(i k:Nat):Nat:=min (min (dH a b (i-1) k+1) (dH a b i (k-1)+1)) (dH a b (i-1) (k-1)+ma (bB a (i-1)) (bB b (k-1)))
def vd(a b:BY)(i k:Nat):Bool:=decide (2<=i)&&(decide (2<=k)&&(decide (bB a (i-1)=bB b (k-2))&&decide (bB a (i-2)=bB b (k-1))))
theorem apP(d:1<=i)(hi:i<=a.size)(h:1<=k)(v:k<=b.size):dH a b i k=if vd a b i k=true then min (AK a b i k) (dH a b (i-2) (k-2)+1) else AK a b i k:=by
 obtain⟨i,rfl⟩:∃j,i=j+1:=⟨i-1,ab⟩
 obtain⟨k,rfl⟩:∃j,k=j+1:=⟨k-1,ab⟩
 rw[apO ab ab];unfold AK vd
 grind
theorem apQ{m V:Nat}{y I:Int}{f:Bool}(hk:k<m)(hr:jf a b m i k row)(M:row.getD k []=[.i (V:Int)])(W:f=true->2<=i/\2<=k/\jf a b m (i-2) m r1) (d:dH a b i k=if f=true then min V (dH a b (i-2) (k-2)+1) else V) (hV:V<=2000) (hw:dH a b (i-2) (k-2)<=2000) (hi:i<=1000) (hm:m<=1000):
  aa (zN [.l r0,.l r1,.l r2,.l row,.s a,.s b,.i (i:Int),.i (k:Int),.i h,.i v,.i y,.i I,.t f]) fun o=>∃x,o.1=some x/\Oe r0 r1 r2 a b i k m h v y I x o.2:=by
 unfold zN
 (dsimp only[go_sem])
 cases f with
 |true=>
  obtain⟨h1,h2,N⟩:=W rfl;have O:=N.val (k-2) ab ab;have n1:((k:Int)).toNat=k:=a7 k;have n2:((k:Int)-2).toNat=k-2:=ab;have l1:=hr.len;have l2:=N.len;refine aa.pos rfl ?_;simp only[n1,n2,dj,M,O,Ax]
  (dsimp only[go_sem])
  refine aa.p (aa.p (aa.p (aa.p (aa.p (aa.p (aa.p (aa.p ?_)))))));rw[iP rfl]at d;refine aa.some ⟨0,rfl,rfl,_,rfl,hr.set ?_⟩;rw[d];split<;>omega
 |false=>
  rw[iN au]at d;have l1:=hr.len;refine aa.neg rfl (aa.p (aa.some ⟨0,rfl,rfl,_,rfl,⟨hr.len,fun j hj U=>?_⟩⟩));by_cases e:j=k
  ·rw[e,M,d]
  ·exact hr.val j ab U
theorem apR{m:Nat}{I M N O:Int}(hk1:1<=k)(U:k<m)(hb:m=b.size+1)(hi1:1<=i)(ha:i<=a.size)(hr:jf a b m i k row)(h2:jf a b m (i-1) m r2)(h1:2<=i->jf a b m (i-2) m r1)(hi:i<=1000)(hm:m<=1000):
  aa (zO [.l r0,.l r1,.l r2,.l row,.s a,.s b,.i (i:Int),.i (k:Int),.i (ma (bB a (i-1)) (bB b (k-1)):Int),.i I,.i M,.i N,.i O]) fun o=>∃x,o.1=some x/\Oe r0 r1 r2 a b i k m I M N O x o.2:=by
 unfold zO
 (dsimp only[go_sem])
 have hv1:=h2.val k U U;have hv2:=hr.val (k-1) ab ab;have hv3:=h2.val (k-1) ab ab;have b1:=IU (a:=a) (b:=b) (i:=i-1) (k:=k) ab ab;have b2:=IU (a:=a) (b:=b) (i:=i) (k:=k-1) ab ab;have b3:=IU (a:=a) (b:=b) (i:=i-1) (k:=k-1) ab ab;have b4:=IU (a:=a) (b:=b) (i:=i-2) (k:=k-2) ab ab;have hc:ma (bB a (i-1)) (bB b (k-1))<=1:=by unfold ma; split<;>omega
 have n1:((k:Int)).toNat=k:=a7 k;have n2:((k:Int)-1).toNat=k-1:=ab;have n3:((i:Int)-1).toNat=i-1:=ab;have n4:((i:Int)-2).toNat=i-2:=ab;have n5:((k:Int)-2).toNat=k-2:=ab;have l1:=hr.len;have l2:=h2.len;have hE:=apP hi1 ha hk1 (show k<=b.size by omega);simp only[n1,n2,dj,hv1,hv2,hv3,Ax]
 (dsimp only[go_sem])
 obtain⟨V,W⟩:∃V,V=AK a b i k:=⟨_,rfl⟩
 have hV:(if (dH a b (i-1) (k-1):Int)+(ma (bB a (i-1)) (bB b (k-1)):Int)<(if (dH a b i (k-1):Int)+1<(dH a b (i-1) k:Int)+1 then (dH a b i (k-1):Int)+1 else (dH a b (i-1) k:Int)+1) then (dH a b (i-1) (k-1):Int)+(ma (bB a (i-1)) (bB b (k-1)):Int) else (if (dH a b i (k-1):Int)+1<(dH a b (i-1) k:Int)+1 then (dH a b i (k-1):Int)+1 else (dH a b (i-1) k:Int)+1))=(V:Int):=by
  rw[W];unfold AK;split<;>split<;>omega
 have hV2:V<=2000:=by
  rw[W];unfold AK;omega
 rw[<-W]at hE;simp only[hV];have hl2:(row.set k [G.i (V:Int)]).length=m:=by rw[nV,hr.len]
 have hrow:jf a b m i k (row.set k [.i (V:Int)]):=⟨hl2,fun j hj hjm=>by rw[dc,bL ab,<-dc,hr.val j hj hjm]⟩
 have hat:(row.set k [G.i (V:Int)]).getD k []=[.i (V:Int)]:=by
  rw[dc,cG (by rw[hr.len]; exact U)];rfl
 refine aa.p (aa.p (aa.p (aa.p (aa.p (aa.p (aa.p (aa.p (aa.p (aa.p (aa.p ?_))))))))));have y:∀(f:Bool),f=vd a b i k->aa (be (aD row.length (row.set k [.i (V:Int)]).length&&true) (c7 (zN [.l r0,.l r1,.l r2,.l (row.set k [.i (V:Int)]),.s a,.s b,.i (i:Int),.i (k:Int),.i I,.i M,.i N,.i O,.t f])) fun cg g=>(bif (aD (gi g 3).rZ.length (gi g 3).rZ.length)&&true then some ((some 0:Option Nat),[G.l (gi g 0).rZ,.l (gi g 1).rZ,.l (gi g 2).rZ,.l (gi g 3).rZ,.s (gi g 4).sV,.s (gi g 5).sV,.i (gi g 6).iV,.i (gi g 7).iV,.i (gi g 8).iV,.i (gi g 9).iV,.i (gi g 10).iV]) else none))
   fun o=>∃x,o.1=some x/\Oe r0 r1 r2 a b i k m I M N O x o.2:=fun f d=>by
  have hsw:f=true->2<=i/\2<=k:=fun h=>by
   rw[h]at d;unfold vd at d;have d:=d.symm;simp only[aO,dT]at d;exact⟨d.1,d.2.1⟩
  refine aa.tail (apQ U hrow hat (fun h=>⟨(hsw h).1,(hsw h).2,h1 (hsw h).1⟩) (by rw[d]; exact hE) hV2 ab hi hm) fg ?_;rintro _ _ ⟨rfl,row',rfl,hr'⟩
  (dsimp only[go_sem])
  exact aa.p (aa.some ⟨0,rfl,rfl,row',rfl,hr'⟩)
 refine aa.test (fun g1=>?_) fun g1=>y false (by
  rw[cS,dF]at g1;unfold vd;rw[decide_eq_false (by omega:¬ 2<=i)];rfl)
 rw[cS,dT]at g1;refine aa.test (fun g2=>?_) fun g2=>y false (by
  rw[cS,dF]at g2;unfold vd;rw[decide_eq_false (by omega:¬ 2<=k),A_,A9])
 rw[cS,dT]at g2;have s1:decide (2<=i)=true:=dE ab;have s2:decide (2<=k)=true:=dE ab;refine aa.p (aa.p (aa.p (aa.p ?_)));have q1:(((a.data.toList.getD ((i:Int)-1).toNat 0).toNat:Int)==((b.data.toList.getD ((k:Int)-2).toNat 0).toNat:Int))=decide (bB a (i-1)=bB b (k-2)):=by rw[n3,n5]; exact AJ _ _
 have q2:(((a.data.toList.getD ((i:Int)-2).toNat 0).toNat:Int)==((b.data.toList.getD (k-1) 0).toNat:Int))=decide (bB a (i-2)=bB b (k-1)):=by rw[n4]; exact AJ _ _
 refine aa.test (fun v=>?_) fun v=>y false (by
  rw[q1]at v;unfold vd;rw[v,A_,A9,A9])
 rw[q1]at v;refine aa.p (aa.p (aa.p (aa.p ?_)));exact y _ (by
  rw[q2];unfold vd;rw[s1,s2,v];rfl)
theorem Of{d y:Int}(I:k<=1000):
  aa (uH [.l r0,.l r1,.l r2,.l row,.s a,.s b,.i d,.i h,.i v,.i y,.i (k:Int)]) fun o=>∃x,o.1=some x/\aoO [.l r0,.l r1,.l r2,.l row,.s a,.s b,.i d,.i h,.i v,.i y,.i ((k:Int)+1)] x o.2:=by
 unfold uH
 (dsimp only[go_sem])
 exact aa.p (aa.p (aa.some ⟨0,rfl,rfl,rfl⟩))
theorem Yh{r0 r1 r2:LL}{a b:BY}{i m:Nat}{n:Int}(hb:m=b.size+1)(ha:i<=a.size)(I:1<=i->jf a b m (i-1) m r2)(h1:2<=i->jf a b m (i-2) m r1)(hi:i<=1000)(hm:m<=1000):∀(t k:Nat) (row:LL),k+t=m->jf a b m i k row ->
  aR zP [.l r0,.l r1,.l r2,.l row,.s a,.s b,.i (i:Int),.i n,.i (i:Int),.i (m:Int),.i (k:Int)] (t+1) fun x g=>x=0/\∃d,g=[.l r0,.l r1,.l r2,.l d,.s a,.s b,.i n,.i (i:Int)]/\jf a b m i m d
 |0,k,row,O,hr=>by
  have e:k=m:=ab;rw[e]at hr;refine aR.stop (x:=0) (aa.toEq ?_) ⟨rfl,row,rfl,hr⟩;unfold zP
  (dsimp only[go_sem])
  exact aa.n (aa.p (aa.some rfl))
 |t+1,k,row,O,hr=>by
  have step:aa (zP [.l r0,.l r1,.l r2,.l row,.s a,.s b,.i (i:Int),.i n,.i (i:Int),.i (m:Int),.i (k:Int)]) fun o=>∃d,o=(none,[.l r0,.l r1,.l r2,.l d,.s a,.s b,.i (i:Int),.i n,.i (i:Int),.i (m:Int),.i ((k:Int)+1)])/\jf a b m i (k+1) d:=by
   unfold zP
   (dsimp only[go_sem])
   have l1:=hr.len;have U:((k:Int)).toNat=k:=a7 k;have W:((k:Int)-1).toNat=k-1:=ab;have n3:((i:Int)-1).toNat=i-1:=ab;simp only[U,dj,Ax];refine aa.p (aa.test (fun g0=>?_) fun g0=>aa.test (fun M=>?_) fun M=>?_)
   ·have g0:(i:Int)=0 :=gB
    have i0:i=0:=ab;refine aa.p (aa.p ?_);refine aa.tail (Of (k:=k) ab) fg ?_;rintro _ _ ⟨rfl,rfl⟩
    (dsimp only[go_sem])
    exact aa.p (aa.some ⟨_,rfl,hr.set (by rw[i0,apL ab])⟩)
   ·have M:(k:Int)=0 :=gB
    have k0:k=0:=ab;subst k0;refine aa.p (aa.p ?_);refine aa.tail (Of (k:=0) ab) fg ?_;rintro _ _ ⟨rfl,rfl⟩
    (dsimp only[go_sem])
    exact aa.p (aa.some ⟨_,rfl,hr.set (by rw[apM ha])⟩)
   ·have N:1<=i:=by
     have:¬ ((i:Int)=0):=gB;omega
    have k1:1<=k:=by
     have:¬ ((k:Int)=0):=gB;omega
    have v:∀ c:Int,c=(ma (bB a (i-1)) (bB b (k-1)):Int)->aa (be (aD row.length row.length&&true) (c7 (zO [.l r0,.l r1,.l r2,.l row,.s a,.s b,.i (i:Int),.i (k:Int),.i c,.i n,.i (i:Int),.i (m:Int),.i (k:Int)])) fun cg g=>be (aD (gi g 3).rZ.length (gi g 3).rZ.length&&true) (c7 (uH [.l (gi g 0).rZ,.l (gi g 1).rZ,.l (gi g 2).rZ,.l (gi g 3).rZ,.s (gi g 4).sV,.s (gi g 5).sV,.i (gi g 6).iV,.i (gi g 7).iV,.i (gi g 8).iV,.i (gi g 9).iV,.i (gi g 10).iV])) fun cg g=>(bif (aD (gi g 3).rZ.length (gi g 3).rZ.length)&&true then some ((none:Option Nat),[G.l (gi g 0).rZ,.l (gi g 1).rZ,.l (gi g 2).rZ,.l (gi g 3).rZ,.s (gi g 4).sV,.s (gi g 5).sV,.i (gi g 6).iV,.i (gi g 7).iV,.i (gi g 8).iV,.i (gi g 9).iV,.i (gi g 10).iV]) else none))
      fun o=>∃d,o=(none,[.l r0,.l r1,.l r2,.l d,.s a,.s b,.i (i:Int),.i n,.i (i:Int),.i (m:Int),.i ((k:Int)+1)])/\jf a b m i (k+1) d:=fun c hc=>by
     rw[hc];refine aa.tail (apR k1 ab hb N ha hr (I N) h1 hi hm) fg ?_;rintro _ _ ⟨rfl,d,rfl,y⟩
     (dsimp only[go_sem])
     refine aa.tail (Of (k:=k) ab) fg ?_;rintro _ _ ⟨rfl,rfl⟩
     (dsimp only[go_sem])
     simp_all[aa.some]
    have q:(((a.data.toList.getD ((i:Int)-1).toNat 0).toNat:Int)==((b.data.toList.getD ((k:Int)-1).toNat 0).toNat:Int))=decide (bB a (i-1)=bB b (k-1)):=by rw[n3,W]; exact AJ _ _
    refine aa.p (aa.p (aa.p (aa.p ?_)));refine aa.test (fun g=>v 0 ?_) fun g=>v 1 ?_<;>grind[ma]
  obtain⟨o,h,d,rfl,y⟩:=step;exact aR.next h (Yh hb ha I h1 hi hm t (k+1) d ab y)
theorem Yi{a b:BY}{m:Nat}(hb:m=b.size+1)(ha:a.size<=100)(hm:m<=1000):∀(t i:Nat) (r0 r1 r2:LL),i+t=a.size+1->(1<=i->jf a b m (i-1) m r2)->(2<=i->jf a b m (i-2) m r1) ->
  aR zQ [.l r0,.l r1,.l r2,.s a,.s b,.i ((a.size:Nat)+1:Int),.i (i:Int)] (t+1) fun x g=>x=0/\∃r0 r1 r2,g=[.l r0,.l r1,.l r2,.s b]/\jf a b m a.size m r2
 |0,i,r0,r1,r2,hi,d,h1=>by
  have e:i-1=a.size:=ab;have d:=d ab;rw[e]at d;refine aR.stop (x:=0) (aa.toEq ?_) ⟨rfl,r0,r1,r2,rfl,d⟩;unfold zQ
  (dsimp only[go_sem])
  exact aa.n (aa.some rfl)
 |t+1,i,r0,r1,r2,hi,d,h1=>by
  have step:aa (zQ [.l r0,.l r1,.l r2,.s a,.s b,.i ((a.size:Nat)+1:Int),.i (i:Int)]) fun o=>∃row,o=(none,[.l r1,.l r2,.l row,.s a,.s b,.i ((a.size:Nat)+1:Int),.i ((i:Int)+1)])/\jf a b m i m row:=by
   unfold zQ
   (dsimp only[go_sem])
   have k:(((b.size:Nat):Int)+1).toNat=m:=ab;simp only[k];refine aa.p (aa.p (aa.p ?_));refine aa.loop ((Yh hb ab d h1 ab hm m 0 _ ab (jf.zero a b m i)).to ab) fg ?_;rintro _ _ ⟨rfl,row,rfl,hr⟩
   (dsimp only[go_sem])
   have v:=hr.len;exact aa.p (aa.p (aa.some ⟨row,rfl,hr⟩))
  obtain⟨o,h,row,rfl,hr⟩:=step;exact aR.next h (Yi hb ha hm t (i+1) r1 r2 row ab (fun _=>hr) (fun h=>d ab))
theorem Yj(a:BY):preB a a.size=a.data.toList.reverse:=by
 unfold preB;rw[s7 (by rw[oH]; exact aV _)]
theorem apS(ha:a.size<=100)(hb:b.size<=100):HP [.s a,.s b]=some [.i (eJ a.data.toList b.data.toList:Int)]:=by
 refine aa.toEq ?_;unfold HP
 (dsimp only[go_sem])
 refine aa.p ?_;refine aa.loop ((Yi (m:=b.size+1) rfl ha ab (a.size+1) 0 [] [] [] ab (fun h=>by omega) (fun h=>by omega)).to ab) fg ?_;rintro _ _ ⟨rfl,r0,r1,r2,rfl,hr⟩
 (dsimp only[go_sem])
 have k:=hr.len;have d:=hr.val b.size ab ab;have e:dH a b a.size b.size=eJ a.data.toList b.data.toList:=by
  unfold dH;rw[Yj,Yj,apH]
 rw[e]at d;simp only[d];exact aa.p (aa.some rfl)
def gG(a:BY)(i:Nat):List UInt8:=a.data.toList.drop i
theorem AM(h:i<a.size):gG a i=bB a i::gG a (i+1):=by
 have d:i<a.data.toList.length:=by rw[oH]; exact h
 unfold gG bB;rw[List.drop_eq_getElem_cons d,dc,cB d];rfl
theorem Yk(a:BY):gG a a.size=[]:=ZO (by rw[oH]; exact aV _)
theorem AN(a:BY)(i:Nat):(gG a i).length=a.size-i:=by
 unfold gG;rw[List.length_drop,oH];rfl
def c9(a b:BY)(i k:Nat):Nat:=eJ (gG a i) (gG b k)
theorem D7(a b:BY)(i k:Nat):c9 a b i k<=(a.size-i)+(b.size-k):=by
 have:=l_ (Al.some (gG a i) (gG b k))
 rwa [AN,AN]at this
theorem Yl(h:i=a.size\/k=b.size)(hi:i<=a.size)(d:k<=b.size):c9 a b i k=(a.size-i)+(b.size-k):=by
 unfold c9;rcases h with rfl|rfl
 ·rw[Yk,Ye,AN]
  omega
 ·rw[Yk,Yf,AN]
  omega
def mR(a b:BY)(i k:Nat):Nat:=min (min (c9 a b (i+1) k) (c9 a b i (k+1))) (c9 a b (i+1) (k+1))+1
def jz(a b:BY)(i k:Nat):Nat:=if bB a i=bB b k then min (mR a b i k) (c9 a b (i+1) (k+1)) else mR a b i k
def xr(a b:BY)(i k:Nat):Prop:=i+1<a.size/\k+1<b.size/\bB a i=bB b (k+1)/\bB a (i+1)=bB b k
theorem apT(hi:i<a.size)(hk:k<b.size):(xr a b i k->c9 a b i k=min (jz a b i k) (c9 a b (i+2) (k+2)+1))/\(¬ xr a b i k->c9 a b i k=jz a b i k):=by
 have e1:gG a i=bB a i::gG a (i+1):=AM hi;have e2:gG b k=bB b k::gG b (k+1):=AM hk;have c1:eJ (gG a (i+1)) (bB b k::gG b (k+1))=c9 a b (i+1) k:=by unfold c9; rw[e2]
 have c2:eJ (bB a i::gG a (i+1)) (gG b (k+1))=c9 a b i (k+1):=by unfold c9; rw[e1]
 have c3:eJ (gG a (i+1)) (gG b (k+1))=c9 a b (i+1) (k+1):=rfl;have c4:∀v y,gG a (i+1)=bB b k::v->gG b (k+1)=bB a i::y->xr a b i k/\eJ v y=c9 a b (i+2) (k+2):=fun v y h1 I=>by
  have l1:i+1<a.size:=by
   have:=congrArg xJ h1;rw[AN,cz]at this;omega
  have l2:k+1<b.size:=by
   have:=congrArg xJ I;rw[AN,cz]at this;omega
  rw[AM l1]at h1;rw[AM l2]at I;injection h1 with M d
  injection I with N h6
  exact⟨⟨l1,l2,N.symm,M⟩,by rw[<-d,<-h6]; rfl⟩
 have c5:xr a b i k->∃v y,gG a (i+1)=bB b k::v/\gG b (k+1)=bB a i::y/\eJ v y=c9 a b (i+2) (k+2):=fun⟨l1,l2,M,d⟩=>⟨gG a (i+2),gG b (k+2),by rw[AM l1,d],by rw[AM l2,M],rfl⟩
 have main:∀V,V<=mR a b i k->(bB a i=bB b k->V<=c9 a b (i+1) (k+1))->(xr a b i k->V<=c9 a b (i+2) (k+2)+1) ->
   (V=mR a b i k\/(bB a i=bB b k/\V=c9 a b (i+1) (k+1))\/(xr a b i k/\V=c9 a b (i+2) (k+2)+1))->c9 a b i k=V:=fun V h1 I M d=>by
  unfold mR at h1 d;show eJ (gG a i) (gG b k)=V
  rw[e1,e2];refine Yg (by rw[c1]; omega) (by rw[c2]; omega) (by rw[c3]; omega) (fun e=>by rw[c3]; exact I e) (fun v y O U=>?_) ?_
  ·obtain⟨W,g4⟩:=c4 v y O U
   rw[g4];exact M W
  ·rcases d with d | ⟨d,N⟩ | ⟨d,N⟩
   ·rcases Jy (c9 a b (i+1) k) (c9 a b i (k+1))with O|O<;>rcases Jy (c9 a b (i+1) k) (c9 a b (i+1) (k+1))with U|U<;>rcases Jy (c9 a b i (k+1)) (c9 a b (i+1) (k+1))with W|W <;>
     first|exact .inl (by rw[c1]; omega)|exact .inr (.inl (by rw[c2]; omega))|exact .inr (.inr (.inl (by rw[c3]; omega)))
   ·exact .inr (.inr (.inr (.inl ⟨d,by rw[c3]; exact N⟩)))
   ·obtain⟨v,y,O,U,W⟩:=c5 d
    exact .inr (.inr (.inr (.inr ⟨v,y,O,U,by rw[W]; exact N⟩)))
 have s1:jz a b i k<=mR a b i k/\(bB a i=bB b k->jz a b i k<=c9 a b (i+1) (k+1))/\(jz a b i k=mR a b i k\/(bB a i=bB b k/\jz a b i k=c9 a b (i+1) (k+1))):=by
  unfold jz;by_cases e:bB a i=bB b k
  ·rw[iP e]
   refine⟨ab,fun _=>by omega,?_⟩;rcases Jy (mR a b i k) (c9 a b (i+1) (k+1))with g|g
   ·exact .inl ab
   ·exact .inr ⟨e,ab⟩
  ·rw[iN e]
   exact⟨aV _,fun h=>(e h).elim,.inl rfl⟩
 obtain⟨q1,q2,q3⟩:=s1;constructor
 ·intro hT
  refine main _ ab (fun e=>by have:=q2 e; omega) (fun _=>by omega) ?_;rcases Jy (jz a b i k) (c9 a b (i+2) (k+2)+1)with g|g
  ·have e:min (jz a b i k) (c9 a b (i+2) (k+2)+1)=jz a b i k :=ab
   rw[e];exact q3.elim .inl fun h=>.inr (.inl h)
  ·exact .inr (.inr ⟨hT,ab⟩)
 ·intro hT
  exact main _ q1 q2 (fun h=>(hT h).elim) (q3.elim .inl fun h=>.inr (.inl h))
def sO(a b:BY)(m:LL):Prop:=∀i k:Nat,dJ [.I,.I] m [.i (i:Int),.i (k:Int)]=true->cR [.I,.I] m [.i (i:Int),.i (k:Int)] [.i 0]=[.i (c9 a b i k:Int)]
theorem Ym(i k j l:Nat):aZ [.I,.I] [.i (i:Int),.i (k:Int)] [.i (j:Int),.i (l:Int)]=decide (i=j/\k=l):=by
 show (((i:Int)==(j:Int))&&(((k:Int)==(l:Int))&&true))=decide (i=j/\k=l)
 grind
theorem sO.put(h:sO a b m)(i k c:Nat):sO a b (dV [.I,.I] m [.i (i:Int),.i (k:Int)] [.i (c9 a b i k:Int)] c):=fun j l d=>by
 rw[CI,Ym]at d;rw[wQ,Ym];by_cases e:j=i/\l=k
 ·rw[dE e,cT,e.1,e.2]
 ·rw[decide_eq_false e]at d |-
  rw[xF]at d;rw[cF];exact h j l d
theorem xu(a b:BY)(U:a.size+b.size<=1000):∀(n i k:Nat) (m:LL) (bk:Nat),(a.size-i)+(b.size-k)<n->i<=a.size->k<=b.size->sO a b m ->
  aa (rm n [.s a,.s b,.l m,.i (bk:Int),.i (i:Int),.i (k:Int)]) fun g=>∃(m':LL) (clk':Nat),g=[.s a,.s b,.l m',.i (clk':Int),.i (c9 a b i k:Int)]/\sO a b m'
 |0,_,_,_,_,h,_,_,_=>by omega
 |n+1,i,k,m,bk,hn,hi,hk,hm=>by
  have hD:=D7 a b i k;show aa (Am (rm n) _) _
  unfold Am
  (dsimp only[go_sem])
  have endV:c9 a b i k=(a.size-i)+(b.size-k)->aa (some ([.s a,.s b,.l m,.i (((bk:Int).toNat:Nat):Int),.i ((((a.size:Nat):Int)-(i:Int))+((b.size:Nat):Int)-(k:Int))]:LG)) fun g=>∃(m':LL) (clk':Nat),g=[.s a,.s b,.l m',.i (clk':Int),.i (c9 a b i k:Int)]/\sO a b m':=fun e=>by
   refine aa.some ⟨m,bk,?_,hm⟩;rw[e,a7,show (((a.size:Nat):Int)-(i:Int))+((b.size:Nat):Int)-(k:Int)=(((a.size-i)+(b.size-k):Nat):Int) from by omega]
  refine aa.test (fun h1=>?_) fun h1=>aa.test (fun h2=>?_) fun h2=>?_
  ·have h1:(i:Int)=((a.size:Nat):Int):=by simpa using h1
   refine aa.pos (er.2 ⟨ab,ab⟩) (aa.pos (er.2 ⟨ab,ab⟩) (aa.pos (er.2 ⟨ab,ab⟩) ?_));exact endV (Yl (.inl ab) hi hk)
  ·have h2:(k:Int)=((b.size:Nat):Int):=by simpa using h2
   refine aa.pos (er.2 ⟨ab,ab⟩) (aa.pos (er.2 ⟨ab,ab⟩) (aa.pos (er.2 ⟨ab,ab⟩) ?_));exact endV (Yl (.inr ab) hi hk)
  ·have h1:(i:Int)≠((a.size:Nat):Int):=by simpa using h1
   have h2:(k:Int)≠((b.size:Nat):Int):=by simpa using h2
   have hi1:i<a.size:=ab;have hk1:k<b.size:=ab;refine aa.test (fun h3=>?_) fun h3=>?_
   ·refine aa.some ⟨m,bk,?_,hm⟩
    rw[hm i k h3,a7];rfl
   ·have d1:=D7 a b (i+1) k
    have d2:=D7 a b i (k+1);have d3:=D7 a b (i+1) (k+1);have d4:=D7 a b (i+2) (k+2);simp only[a7];refine aa.pos (er.2 ⟨ab,ab⟩) ?_;refine aa.call (xu a b U n (i+1) k m bk ab ab ab hm) ?_;rintro _ ⟨m1,c1,rfl,hm1⟩
    (dsimp only[go_sem])
    simp only[a7];refine aa.pos (er.2 ⟨ab,ab⟩) ?_;refine aa.call (xu a b U n i (k+1) m1 c1 ab ab ab hm1) ?_;rintro _ ⟨m2,c2,rfl,hm2⟩
    (dsimp only[go_sem])
    simp only[a7];refine aa.pos (er.2 ⟨ab,ab⟩) (aa.pos (er.2 ⟨ab,ab⟩) ?_);refine aa.call (xu a b U n (i+1) (k+1) m2 c2 ab ab ab hm2) ?_;rintro _ ⟨W,c3,rfl,O⟩
    (dsimp only[go_sem])
    have hV0:(if (c9 a b (i+1) (k+1):Int)<(if (c9 a b i (k+1):Int)<(c9 a b (i+1) k:Int) then (c9 a b i (k+1):Int) else (c9 a b (i+1) k:Int)) then (c9 a b (i+1) (k+1):Int) else (if (c9 a b i (k+1):Int)<(c9 a b (i+1) k:Int) then (c9 a b i (k+1):Int) else (c9 a b (i+1) k:Int)))+1=(mR a b i k:Int):=by
     unfold mR;split<;>split<;>omega
    have hs0:mR a b i k<=3000:=by
     unfold mR;omega
    simp only[a7,hV0];obtain⟨st1,st2⟩:=apT hi1 hk1;have y:∀(mm:LL) (cc:Nat),sO a b mm->¬ xr a b i k->aa (some ([.s a,.s b,.l (dV [.I,.I] mm [.i (i:Int),.i (k:Int)] [.i (jz a b i k:Int)] cc),.i (dK [.I,.I] mm [.i (i:Int),.i (k:Int)] cc:Int),.i (jz a b i k:Int)]:LG)) fun g=>∃(m':LL) (clk':Nat),g=[.s a,.s b,.l m',.i (clk':Int),.i (c9 a b i k:Int)]/\sO a b m':=fun mm cc hmm hno=>by
     rw[<-st2 hno];exact aa.some ⟨_,_,rfl,hmm.put i k cc⟩
    have hs1:jz a b i k<=3000:=by
     unfold jz;split<;>omega
    have kk1:((k:Int)+1).toNat=k+1:=ab;have ii1:((i:Int)+1).toNat=i+1:=ab;have q1:(((a.data.toList.getD i 0).toNat:Int)==((b.data.toList.getD k 0).toNat:Int))=decide (bB a i=bB b k):=AJ _ _;have q2:(((a.data.toList.getD i 0).toNat:Int)==((b.data.toList.getD ((k:Int)+1).toNat 0).toNat:Int))=decide (bB a i=bB b (k+1)):=by rw[kk1]; exact AJ _ _
    have q3:(((a.data.toList.getD ((i:Int)+1).toNat 0).toNat:Int)==((b.data.toList.getD k 0).toNat:Int))=decide (bB a (i+1)=bB b k):=by rw[ii1]; exact AJ _ _
    rw[q1];refine aa.pos (er.2 ⟨ab,ab⟩) (aa.p (aa.p ?_));refine aa.test (fun g=>?_) fun g=>?_
    ·rw[dT]at g
     refine aa.pos (er.2 ⟨ab,ab⟩) (aa.pos (er.2 ⟨ab,ab⟩) ?_);refine aa.call (xu a b U n (i+1) (k+1) W c3 ab ab ab O) ?_;rintro _ ⟨m4,c4,rfl,hm4⟩
     (dsimp only[go_sem])
     have hV1:(if (c9 a b (i+1) (k+1):Int)<(mR a b i k:Int) then (c9 a b (i+1) (k+1):Int) else (mR a b i k:Int))=(jz a b i k:Int):=by
      unfold jz;rw[iP g];split<;>omega
     simp only[a7,hV1];rw[q2,q3];refine aa.pos (er.2 ⟨ab,ab⟩) ?_;refine aa.test (fun M=>?_) fun M=>y m4 c4 hm4 fun h=>by
      rw[cS,dF]at M;have:=h.1;omega
     rw[cS,dT]at M;refine aa.pos (er.2 ⟨ab,ab⟩) ?_;refine aa.test (fun N=>?_) fun N=>y m4 c4 hm4 fun h=>by
      rw[cS,dF]at N;have:=h.2.1;omega
     rw[cS,dT]at N;refine aa.p (aa.pos (er.2 ⟨ab,ab⟩) (aa.p ?_));refine aa.test (fun d=>?_) fun d=>y m4 c4 hm4 fun h=>by
      rw[dF]at d;exact d h.2.2.1
     rw[dT]at d;refine aa.pos (er.2 ⟨ab,ab⟩) (aa.p (aa.p ?_));refine aa.test (fun v=>?_) fun v=>y m4 c4 hm4 fun h=>by
      rw[dF]at v;exact v h.2.2.2
     rw[dT]at v;refine aa.pos (er.2 ⟨ab,ab⟩) (aa.pos (er.2 ⟨ab,ab⟩) ?_);refine aa.call (xu a b U n (i+2) (k+2) m4 c4 ab ab ab hm4) ?_;rintro _ ⟨m5,c5,rfl,hm5⟩
     (dsimp only[go_sem])
     have hV2:(if (c9 a b (i+2) (k+2):Int)+1<(jz a b i k:Int) then (c9 a b (i+2) (k+2):Int)+1 else (jz a b i k:Int))=(c9 a b i k:Int):=by
      rw[st1 ⟨ab,ab,d,v⟩];split<;>omega
     simp only[a7,hV2];refine aa.pos (er.2 ⟨ab,ab⟩) ?_;exact aa.some ⟨_,_,rfl,hm5.put i k c5⟩
    ·rw[dF]at g
     have hV1:mR a b i k=jz a b i k:=by
      unfold jz;rw[iN g]
     rw[hV1];rw[q2,q3];refine aa.pos (er.2 ⟨ab,ab⟩) ?_;refine aa.test (fun M=>?_) fun M=>y W c3 O fun h=>by
      rw[cS,dF]at M;have:=h.1;omega
     rw[cS,dT]at M;refine aa.pos (er.2 ⟨ab,ab⟩) ?_;refine aa.test (fun N=>?_) fun N=>y W c3 O fun h=>by
      rw[cS,dF]at N;have:=h.2.1;omega
     rw[cS,dT]at N;refine aa.p (aa.pos (er.2 ⟨ab,ab⟩) (aa.p ?_));refine aa.test (fun d=>?_) fun d=>y W c3 O fun h=>by
      rw[dF]at d;exact d h.2.2.1
     rw[dT]at d;refine aa.pos (er.2 ⟨ab,ab⟩) (aa.p (aa.p ?_));refine aa.test (fun v=>?_) fun v=>y W c3 O fun h=>by
      rw[dF]at v;exact v h.2.2.2
     rw[dT]at v;refine aa.pos (er.2 ⟨ab,ab⟩) (aa.pos (er.2 ⟨ab,ab⟩) ?_);refine aa.call (xu a b U n (i+2) (k+2) W c3 ab ab ab O) ?_;rintro _ ⟨m5,c5,rfl,hm5⟩
     (dsimp only[go_sem])
     have hV2:(if (c9 a b (i+2) (k+2):Int)+1<(jz a b i k:Int) then (c9 a b (i+2) (k+2):Int)+1 else (jz a b i k:Int))=(c9 a b i k:Int):=by
      rw[st1 ⟨ab,ab,d,v⟩];split<;>omega
     simp only[a7,hV2];refine aa.pos (er.2 ⟨ab,ab⟩) ?_;exact aa.some ⟨_,_,rfl,hm5.put i k c5⟩
theorem apU(v:a.size+b.size<40):Ih [.s a,.s b]=some [.i (eJ a.data.toList b.data.toList:Int)]:=by
 have h:=xu a b ab 40 0 0 [] 0 ab (fy _) (fy _) (fun i k h=>by cases h);refine aa.toEq ?_;unfold Ih
 (dsimp only[go_sem])
 refine aa.call (P:=fun g=>∃(m':LL) (d:Nat),g=[.s a,.s b,.l m',.i (d:Int),.i (c9 a b 0 0:Int)]/\sO a b m') h ?_;rintro _ ⟨m',y,rfl,_⟩;exact aa.some rfl
theorem apV(q:LL)(j:Nat):(gi (cR [.I] (jO DY q ([],0)).1 [.i (j:Int)] [.t false]) 0).bV=q.any fun r=>(gi r 1).iV==(j:Int):=by
 rcases N2 DY [.i (j:Int)] [.t false] q ([],0)with⟨r,h1,d,h⟩|⟨h1,d⟩
 ·rw[h]
  have d:aZ [.I] [.i (j:Int)] [.i (gi r 1).iV]=true:=d;rw[DX,dT]at d;show true=_
  grind
 ·rw[d]
  show false=_
  refine(ZR.2 fun r hr=>?_).symm;have h:aZ [.I] [.i (j:Int)] [.i (gi r 1).iV]=false:=h1 r hr;rw[DX,dF]at h
  grind
section
variable (L:LL) (C:Nat->BY) (A:Nat->LL) (af:Nat) (oF:Int)
def kZ(k:Nat)(z:LG)(j:Nat):Bool:=
 ((gi ((A k).getD j []) 3).sV.toList==(C af).toList)&&(lD oF z ((A k).getD j [])&&(!((bC A C af oF k).any fun r=>(gi r 1).iV==(j:Int))&&kE ((A k).getD j []) z))
def fq(p:Nat->Bool):Nat->Nat->Option Nat
 |0,_=>none
 |d+1,i=>if p i=true then some i else fq p d (i+1)
def sP(k:Nat)(z:LG):Option Nat:=if 2<eJ (C k).data.toList (gi z 3).sV.data.toList then none else fq (kZ C A af oF k z) (A k).length 0
def qx:Option Nat->Int
 |some v=>(v:Int)
 |none=>-1
def eo(z:LG):Nat->Nat->List (Nat × Nat)
 |0,_=>[]
 |d+1,i=>if i=af\/C i=(gi z 3).sV then eo z d (i+1) else match sP C A af oF i z with
  |some v=>(i,v)::eo z d (i+1)
  |none=>eo z d (i+1)
def mS(u v:Int):List (Nat × Nat)->Int × Int
 |[]=>(u,v)
 |[x]=>if u<0 then ((x.1:Int),(x.2:Int)) else (-1,-1)
 |_::_::_=>(-1,-1)
end
section
variable {L:LL} {C:Nat->BY} {A:Nat->LL} (S:mP L C A) {af:Nat} (ho:af<L.length) (oF:Int)
include S ho
theorem Yn{k:Nat}(hk:k<L.length){t m s h:Int}{b c x y:BY}(hc:fI [.i t,.i m,.s b,.s c,.i s,.i h,.s x,.s y]){ks:List Nat}{n:Nat}(hn:jN k ks=some n):∀(d i:Nat),i+d=(A k).length ->
  aR zR [G.l L,.i (af:Int),.i oF,.l (bK 0 ks),.l (ks.map fun k=>fp (bC A C af oF k)),.i ((ks.length:Nat):Int),.l (bK 0 ks),.l (ks.map fun k=>fi (bC A C af oF k)),.i ((ks.length:Nat):Int),.i t,.i m,.s b,.s c,.i s,.i h,.s x,.s y,.i (k:Int),.l (A k),.i ((A k).length:Int),.i (i:Int)] (d+1) fun e g=>
   (e=0/\∃v:Nat,fq (kZ C A af oF k [.i t,.i m,.s b,.s c,.i s,.i h,.s x,.s y]) d i=some v/\g=[G.l L,.i (af:Int),.i oF,.l (bK 0 ks),.l (ks.map fun k=>fp (bC A C af oF k)),.i ((ks.length:Nat):Int),.l (bK 0 ks),.l (ks.map fun k=>fi (bC A C af oF k)),.i ((ks.length:Nat):Int),.i (v:Int)])\/e=1/\fq (kZ C A af oF k [.i t,.i m,.s b,.s c,.i s,.i h,.s x,.s y]) d i=none/\g=[G.l L,.i (af:Int),.i oF,.l (bK 0 ks),.l (ks.map fun k=>fp (bC A C af oF k)),.i ((ks.length:Nat):Int),.l (bK 0 ks),.l (ks.map fun k=>fi (bC A C af oF k)),.i ((ks.length:Nat):Int)]
 |0,i,hi=>by
  refine aR.stop (x:=1) (aa.toEq ?_) (.inr ⟨rfl,rfl,rfl⟩);unfold zR
  (dsimp only[go_sem])
  refine aa.n (aa.some ?_);simp only[a7]
 |d+1,i,hi=>by
  have hna:=S.na k hk;have ih:=Yn hk hc hn d (i+1) ab;obtain⟨hz,hzs⟩:=S.mem (i:=k) (j:=i) hk ab;have step:aa (zR [G.l L,.i (af:Int),.i oF,.l (bK 0 ks),.l (ks.map fun k=>fp (bC A C af oF k)),.i ((ks.length:Nat):Int),.l (bK 0 ks),.l (ks.map fun k=>fi (bC A C af oF k)),.i ((ks.length:Nat):Int),.i t,.i m,.s b,.s c,.i s,.i h,.s x,.s y,.i (k:Int),.l (A k),.i ((A k).length:Int),.i (i:Int)]) fun o=>
    (kZ C A af oF k [.i t,.i m,.s b,.s c,.i s,.i h,.s x,.s y] i=true/\o=(some 0,[G.l L,.i (af:Int),.i oF,.l (bK 0 ks),.l (ks.map fun k=>fp (bC A C af oF k)),.i ((ks.length:Nat):Int),.l (bK 0 ks),.l (ks.map fun k=>fi (bC A C af oF k)),.i ((ks.length:Nat):Int),.i (i:Int)]))\/(kZ C A af oF k [.i t,.i m,.s b,.s c,.i s,.i h,.s x,.s y] i=false/\o=(none,[G.l L,.i (af:Int),.i oF,.l (bK 0 ks),.l (ks.map fun k=>fp (bC A C af oF k)),.i ((ks.length:Nat):Int),.l (bK 0 ks),.l (ks.map fun k=>fi (bC A C af oF k)),.i ((ks.length:Nat):Int),.i t,.i m,.s b,.s c,.i s,.i h,.s x,.s y,.i (k:Int),.l (A k),.i ((A k).length:Int),.i ((i:Int)+1)])):=by
   unfold zR
   (dsimp only[go_sem])
   have hnl:=(ID hn).1;have hin:qa (ks.map fun k=>fi (bC A C af oF k)) (some n)=true:=by
    show dy n (ks.map fun k=>fi (bC A C af oF k)).length=true
    rw[cP];simpa using hnl
   have hat:(gi (mC (ks.map fun k=>fi (bC A C af oF k)) (some n)) 0).rZ=(jO DY (bC A C af oF k) ([],0)).1:=by
    rw[Xv (fun k=>fi (bC A C af oF k)) hn];rfl
   simp only[a7,IE,hn,hz.1,hat,apV,S.get af ho]
   (dsimp only[go_sem])
   refine aa.p (aa.p (aa.p ?_));have out:kZ C A af oF k [.i t,.i m,.s b,.s c,.i s,.i h,.s x,.s y] i=false->aa (bif aA ((i:Int)+1) then some ((none:Option Nat),[G.l L,.i (af:Int),.i oF,.l (bK 0 ks),.l (ks.map fun k=>fp (bC A C af oF k)),.i ((ks.length:Nat):Int),.l (bK 0 ks),.l (ks.map fun k=>fi (bC A C af oF k)),.i ((ks.length:Nat):Int),.i t,.i m,.s b,.s c,.i s,.i h,.s x,.s y,.i (k:Int),.l (A k),.i ((A k).length:Int),.i ((i:Int)+1)]) else none) fun o=>
    (kZ C A af oF k [.i t,.i m,.s b,.s c,.i s,.i h,.s x,.s y] i=true/\o=(some 0,[G.l L,.i (af:Int),.i oF,.l (bK 0 ks),.l (ks.map fun k=>fp (bC A C af oF k)),.i ((ks.length:Nat):Int),.l (bK 0 ks),.l (ks.map fun k=>fi (bC A C af oF k)),.i ((ks.length:Nat):Int),.i (i:Int)]))\/(kZ C A af oF k [.i t,.i m,.s b,.s c,.i s,.i h,.s x,.s y] i=false/\o=(none,[G.l L,.i (af:Int),.i oF,.l (bK 0 ks),.l (ks.map fun k=>fp (bC A C af oF k)),.i ((ks.length:Nat):Int),.l (bK 0 ks),.l (ks.map fun k=>fi (bC A C af oF k)),.i ((ks.length:Nat):Int),.i t,.i m,.s b,.s c,.i s,.i h,.s x,.s y,.i (k:Int),.l (A k),.i ((A k).length:Int),.i ((i:Int)+1)])):=fun U=>aa.p (aa.some (.inr ⟨U,rfl⟩))
   have O:kZ C A af oF k [.i t,.i m,.s b,.s c,.i s,.i h,.s x,.s y] i=(((gi ((A k).getD i []) 3).sV.toList==(C af).toList)&&(lD oF [.i t,.i m,.s b,.s c,.i s,.i h,.s x,.s y] ((A k).getD i [])&&(!((bC A C af oF k).any fun r=>(gi r 1).iV==(i:Int))&&kE ((A k).getD i []) [.i t,.i m,.s b,.s c,.i s,.i h,.s x,.s y]))):=rfl;refine aa.test (fun N=>?_) fun N=>out (by rw[O,N]; rfl);refine aa.cE (NN oF hc hz) ?_;refine aa.test (fun I=>?_) fun I=>out (by
    have I:lD oF [.i t,.i m,.s b,.s c,.i s,.i h,.s x,.s y] ((A k).getD i [])=false:=I;rw[O,N,I];rfl)
   have I:lD oF [.i t,.i m,.s b,.s c,.i s,.i h,.s x,.s y] ((A k).getD i [])=true:=I;refine aa.pos rfl (aa.pos hin (aa.test (fun W=>?_) fun W=>out (by rw[O,N,I,W]; rfl)));refine aa.cE (Xu _ _) ?_;refine aa.test (fun M=>?_) fun M=>out (by
    have M:kE ((A k).getD i []) [.i t,.i m,.s b,.s c,.i s,.i h,.s x,.s y]=false:=M;rw[O,N,I,W,M];rfl)
   have M:kE ((A k).getD i []) [.i t,.i m,.s b,.s c,.i s,.i h,.s x,.s y]=true:=M;exact aa.some (.inl ⟨by rw[O,N,I,W,M]; rfl,rfl⟩)
  obtain⟨o,h,⟨U,rfl⟩|⟨U,rfl⟩⟩:=step
  ·exact aR.stop h (.inl ⟨rfl,i,by rw[fq,iP U],rfl⟩)
  ·refine aR.next h ?_
   rw[fq,iN (by rw[U]; simp)];exact ih
theorem apW(I:k<L.length){t m s:Int}{x y:BY}(O:fI [.i t,.i m,.s b,.s c,.i s,.i h,.s x,.s y])(cC:c.size<=100)(ks:List Nat):
  aa (HQ [G.l L,.i (af:Int),.i oF,.l (bK 0 ks),.l (ks.map fun k=>fp (bC A C af oF k)),.i ((ks.length:Nat):Int),.l (bK 0 ks),.l (ks.map fun k=>fi (bC A C af oF k)),.i ((ks.length:Nat):Int),.l [[.i t,.i m,.s b,.s c,.i s,.i h,.s x,.s y]],.i (k:Int)]) fun g=>∃d:List Nat,g=[G.l L,.i (af:Int),.i oF,.l (bK 0 d),.l (d.map fun k=>fp (bC A C af oF k)),.i ((d.length:Nat):Int),.l (bK 0 d),.l (d.map fun k=>fi (bC A C af oF k)),.i ((d.length:Nat):Int),.i (qx (sP C A af oF k [.i t,.i m,.s b,.s c,.i s,.i h,.s x,.s y]))]:=by
 have U:=S.na k I;unfold HQ
 (dsimp only[go_sem])
 simp only[a7,S.get k I];refine aa.p ?_;refine aa.call (P:=fun g=>g=[.i (eJ (C k).data.toList c.data.toList:Int)]) (aa.eq (apS (S.cs k I) cC)) ?_;rintro _ rfl
 (dsimp only[go_sem])
 refine aa.test (fun M=>?_) fun M=>?_
 ·rw[cS,dT]at M
  refine aa.some ⟨ks,?_⟩;have e:sP C A af oF k [.i t,.i m,.s b,.s c,.i s,.i h,.s x,.s y]=none:=iP (show 2<eJ (C k).data.toList c.data.toList by omega);rw[e];rfl
 ·rw[cS,dF]at M
  have e:sP C A af oF k [.i t,.i m,.s b,.s c,.i s,.i h,.s x,.s y]=fq (kZ C A af oF k [.i t,.i m,.s b,.s c,.i s,.i h,.s x,.s y]) (A k).length 0:=iN (show ¬ 2<eJ (C k).data.toList c.data.toList by omega);rw[e];refine aa.cE (Xt S ho oF I ks) ?_
  (dsimp only[go_sem])
  simp only[a7,S.get k I];refine aa.p ?_;obtain⟨n,hn⟩:=Xr k ks;refine aa.loop ((Yn S ho oF I O hn (A k).length 0 ab).to ab) rfl ?_;rintro _ _ (⟨rfl,v,N,rfl⟩|⟨rfl,N,rfl⟩)
  ·(dsimp only[go_sem])
   simp only[a7];rw[N];exact aa.pos rfl (aa.some ⟨pG k ks,rfl⟩)
  ·(dsimp only[go_sem])
   simp only[a7];rw[N];exact aa.neg rfl (aa.some ⟨pG k ks,rfl⟩)
theorem Yo{t m s h:Int}{b c x y:BY}(hc:fI [.i t,.i m,.s b,.s c,.i s,.i h,.s x,.s y])(cC:c.size<=100):∀(d i:Nat) (ks:List Nat) (u v:Int),i+d=L.length->-1<=u ->
  aR zT [G.l L,.i (af:Int),.i oF,.l (bK 0 ks),.l (ks.map fun k=>fp (bC A C af oF k)),.i ((ks.length:Nat):Int),.l (bK 0 ks),.l (ks.map fun k=>fi (bC A C af oF k)),.i ((ks.length:Nat):Int),.i t,.i m,.s b,.s c,.i s,.i h,.s x,.s y,.i u,.i v,.l L,.i (L.length:Int),.i (i:Int)] (d+1) fun e g=>
   (e=0\/e=1)/\∃I:List Nat,g=[G.l L,.i (af:Int),.i oF,.l (bK 0 I),.l (I.map fun k=>fp (bC A C af oF k)),.i ((I.length:Nat):Int),.l (bK 0 I),.l (I.map fun k=>fi (bC A C af oF k)),.i ((I.length:Nat):Int),.i (mS u v (eo C A af oF [.i t,.i m,.s b,.s c,.i s,.i h,.s x,.s y] d i)).1,.i (mS u v (eo C A af oF [.i t,.i m,.s b,.s c,.i s,.i h,.s x,.s y] d i)).2]
 |0,i,ks,u,v,hi,hu=>by
  refine aR.stop (x:=1) (aa.toEq ?_) ⟨.inr rfl,ks,rfl⟩;unfold zT
  (dsimp only[go_sem])
  refine aa.n (aa.some ?_);simp only[a7];rfl
 |d+1,i,ks,u,v,hi,hu=>by
  have hn:=S.n;have hil:i<L.length:=ab;have step:aa (zT [G.l L,.i (af:Int),.i oF,.l (bK 0 ks),.l (ks.map fun k=>fp (bC A C af oF k)),.i ((ks.length:Nat):Int),.l (bK 0 ks),.l (ks.map fun k=>fi (bC A C af oF k)),.i ((ks.length:Nat):Int),.i t,.i m,.s b,.s c,.i s,.i h,.s x,.s y,.i u,.i v,.l L,.i (L.length:Int),.i (i:Int)]) fun o=>
    (∃I:List Nat,0<=u/\(∃w q,eo C A af oF [.i t,.i m,.s b,.s c,.i s,.i h,.s x,.s y] (d+1) i=(i,w)::q)/\o=(some 0,[G.l L,.i (af:Int),.i oF,.l (bK 0 I),.l (I.map fun k=>fp (bC A C af oF k)),.i ((I.length:Nat):Int),.l (bK 0 I),.l (I.map fun k=>fi (bC A C af oF k)),.i ((I.length:Nat):Int),.i (-1),.i (-1)])) \/
     ∃(I:List Nat) (U W:Int),-1<=U/\mS u v (eo C A af oF [.i t,.i m,.s b,.s c,.i s,.i h,.s x,.s y] (d+1) i)=mS U W (eo C A af oF [.i t,.i m,.s b,.s c,.i s,.i h,.s x,.s y] d (i+1))/\o=(none,[G.l L,.i (af:Int),.i oF,.l (bK 0 I),.l (I.map fun k=>fp (bC A C af oF k)),.i ((I.length:Nat):Int),.l (bK 0 I),.l (I.map fun k=>fi (bC A C af oF k)),.i ((I.length:Nat):Int),.i t,.i m,.s b,.s c,.i s,.i h,.s x,.s y,.i U,.i W,.l L,.i (L.length:Int),.i ((i:Int)+1)]):=by
   unfold zT
   (dsimp only[go_sem])
   simp only[a7,S.get i hil];refine aa.p (aa.p ?_);refine aa.test (fun h1=>?_) fun h1=>?_
   ·have h1:(i:Int)=(af:Int):=by simpa using h1
    have e:eo C A af oF [.i t,.i m,.s b,.s c,.i s,.i h,.s x,.s y] (d+1) i=eo C A af oF [.i t,.i m,.s b,.s c,.i s,.i h,.s x,.s y] d (i+1):=by rw[eo,iP (.inl ab)]
    exact aa.p (aa.some (.inr ⟨ks,u,v,hu,by rw[e],rfl⟩))
   have h1:(i:Int)≠(af:Int):=by simpa using h1
   refine aa.test (fun M=>?_) fun M=>?_
   ·have M:((C i).toList==c.toList)=true:=M
    rw[l8,dT]at M;have e:eo C A af oF [.i t,.i m,.s b,.s c,.i s,.i h,.s x,.s y] (d+1) i=eo C A af oF [.i t,.i m,.s b,.s c,.i s,.i h,.s x,.s y] d (i+1):=by rw[eo,iP (.inr M)]
    exact aa.p (aa.some (.inr ⟨ks,u,v,hu,by rw[e],rfl⟩))
   have M:((C i).toList==c.toList)=false:=M;rw[l8,dF]at M;have hno:¬ (i=af\/C i=c):=by
    rintro(N|N)
    ·omega
    ·exact M N
   have O:eo C A af oF [.i t,.i m,.s b,.s c,.i s,.i h,.s x,.s y] (d+1) i=(match sP C A af oF i [.i t,.i m,.s b,.s c,.i s,.i h,.s x,.s y]with
    |some v=>(i,v)::eo C A af oF [.i t,.i m,.s b,.s c,.i s,.i h,.s x,.s y] d (i+1)
    |none=>eo C A af oF [.i t,.i m,.s b,.s c,.i s,.i h,.s x,.s y] d (i+1)):=by
    rw[eo];exact iN hno
   refine aa.call (apW S ho oF hil hc cC ks) ?_;rintro _ ⟨I,rfl⟩
   (dsimp only[go_sem])
   simp only[a7];cases ho2:sP C A af oF i [.i t,.i m,.s b,.s c,.i s,.i h,.s x,.s y]with
   |none=>
    rw[ho2]at O;refine aa.neg rfl (aa.p (aa.some (.inr ⟨I,u,v,hu,by rw[O],rfl⟩)))
   |some w=>
    rw[ho2]at O;refine aa.pos (by rw[fe]; exact dE (by show (0:Int)<=(w:Int); omega)) ?_;refine aa.test (fun N=>?_) fun N=>?_
    ·rw[fe,dT]at N
     exact aa.some (.inl ⟨I,N,⟨w,_,O⟩,rfl⟩)
    ·rw[fe,dF]at N
     refine aa.p (aa.some (.inr ⟨I,(i:Int),(w:Int),ab,?_,rfl⟩));rw[O];show mS u v ((i,w)::eo C A af oF [.i t,.i m,.s b,.s c,.i s,.i h,.s x,.s y] d (i+1))=mS (i:Int) (w:Int) (eo C A af oF [.i t,.i m,.s b,.s c,.i s,.i h,.s x,.s y] d (i+1))
     cases eo C A af oF [.i t,.i m,.s b,.s c,.i s,.i h,.s x,.s y] d (i+1)with
     |nil=>exact iP ab
     |cons y q=>
      cases q with
      |nil=>
       show ((-1:Int),(-1:Int))=if (i:Int)<0 then ((y.1:Int),(y.2:Int)) else (-1,-1)
       rw[iN ab]
      |cons y2 q=>rfl
  obtain⟨o,hst,⟨I,hu0,⟨w,q,e⟩,rfl⟩|⟨I,U,W,hu',e,rfl⟩⟩:=step
  ·refine aR.stop (x:=0) hst ⟨.inl rfl,I,?_⟩
   have:mS u v (eo C A af oF [.i t,.i m,.s b,.s c,.i s,.i h,.s x,.s y] (d+1) i)=(-1,-1):=by
    rw[e];cases q with
    |nil=>exact iN ab
    |cons y q=>rfl
   rw[this]
  ·refine aR.next hst ?_
   rw[e];exact Yo hc cC d (i+1) I U W ab hu'
theorem apX{t m s:Int}{x y:BY}(v:fI [.i t,.i m,.s b,.s c,.i s,.i h,.s x,.s y])(cC:c.size<=100)(ks:List Nat):
  aa (uI [G.l L,.i (af:Int),.i oF,.l (bK 0 ks),.l (ks.map fun k=>fp (bC A C af oF k)),.i ((ks.length:Nat):Int),.l (bK 0 ks),.l (ks.map fun k=>fi (bC A C af oF k)),.i ((ks.length:Nat):Int),.l [[.i t,.i m,.s b,.s c,.i s,.i h,.s x,.s y]]]) fun g=>∃d:List Nat,g=[G.l L,.i (af:Int),.i oF,.l (bK 0 d),.l (d.map fun k=>fp (bC A C af oF k)),.i ((d.length:Nat):Int),.l (bK 0 d),.l (d.map fun k=>fi (bC A C af oF k)),.i ((d.length:Nat):Int),.i (mS (-1) 0 (eo C A af oF [.i t,.i m,.s b,.s c,.i s,.i h,.s x,.s y] L.length 0)).1,.i (mS (-1) 0 (eo C A af oF [.i t,.i m,.s b,.s c,.i s,.i h,.s x,.s y] L.length 0)).2]:=by
 have hn:=S.n;unfold uI
 (dsimp only[go_sem])
 simp only[a7];refine aa.loop ((Yo S ho oF v cC L.length 0 ks (-1) 0 ab ab).to ab) rfl ?_;rintro _ _ ⟨rfl|rfl,d,rfl⟩
 ·(dsimp only[go_sem])
  simp only[a7];exact aa.pos rfl (aa.some ⟨d,rfl⟩)
 ·(dsimp only[go_sem])
  simp only[a7];exact aa.neg rfl (aa.some ⟨d,rfl⟩)
end
theorem Yp{p:Nat->Bool}:∀{d i:Nat},(∀ j,i<=j->j<i+d->p j=false)->fq p d i=none
 |0,_,_=>rfl
 |d+1,i,h=>by
  rw[fq,iN (by rw[h i (aV _) ab]; simp)];exact Yp fun j h1 k=>h j ab ab
theorem Yq{p:Nat->Bool}{k:Nat}:∀{d i:Nat},i<=k->k<i+d->p k=true->(∀ j,i<=j->j<k->p j=false)->fq p d i=some k
 |0,i,h1,y,_,_=>by omega
 |d+1,i,h1,y,h,v=>by
  rw[fq];by_cases e:i=k
  ·subst e
   rw[iP h]
  ·rw[iN (by rw[v i (aV _) ab]; simp)]
   exact Yq ab ab h fun j M I=>v j ab I
theorem IV{p:Nat->Bool}{k:Nat}:∀{d i:Nat},fq p d i=some k->i<=k/\k<i+d/\p k=true
 |0,_,h=>by cases h
 |d+1,i,h=>by
  rw[fq]at h;split at h
  grind
  ·obtain⟨h1,v,y⟩:=IV h
   grind
section
variable (L:LL) (C:Nat->BY) (A:Nat->LL) (af:Nat) (oF:Int)
def gT(s:BY):Option Nat:=fq (fun k=>decide (C k=s)) L.length 0
def sQ(k i:Nat):Option Nat:=((bC A C af oF k).find? fun r=>(gi r 0).iV==(i:Int)).map fun r=>(gi r 1).iV.toNat
def pJ(i:Nat)(b:Bool):LG:=match eo C A af oF ((A af).getD i []) L.length 0 with
 |[x]=>[.i (i:Int),.i 2,.s (C x.1),.i (x.2:Int)]
 |_=>[.i (i:Int),.i (bif b then 4 else 5),.s (⟨#[]⟩:BY),.i (-1)]
def gH(i:Nat):LG:=match gT L C (gi ((A af).getD i []) 3).sV with
 |some k=>match sQ C A af oF k i with
  |some j=>[.i (i:Int),.i (bif kE ((A k).getD j []) ((A af).getD i []) then 1 else 3),.s (C k),.i (j:Int)]
  |none=>pJ L C A af oF i true
 |none=>pJ L C A af oF i false
def kW(z:LG):LG:=[.s (gi z 3).sV,.s (gi z 2).sV,.i (gi z 1).iV]
def me(i j:Nat):Bool:=aZ [.str,.str,.I] (kW ((A af).getD i [])) (kW ((A af).getD j []))
def ve(o:LG):Bool:=((gi o 1).iV==1)||((gi o 1).iV==3)
def lH(out:LL)(i:Nat):Bool:=out.any fun o=>me A af (gi o 0).iV.toNat i&&ve o
def c6:Nat->LL
 |0=>[]
 |i+1=>c6 i++[bif lH A af (c6 i) i then [.i (i:Int),.i 6,.s (⟨#[]⟩:BY),.i (-1)] else gH L C A af oF i]
end
section
variable {L:LL} {C:Nat->BY} {A:Nat->LL} (S:mP L C A) {af:Nat} (ho:af<L.length) (oF:Int)
include S
theorem IW{p:Nat}(d:p<L.length){s:BY}(h:C p=s):gT L C s=some p:=
 Yq (fy _) ab (dE h) fun j _ k=>decide_eq_false fun e=>by
  have:=S.inj ab d (e.trans h.symm);omega
omit S in
theorem Yr{s:BY}(h:∀k,k<L.length->C k≠s):gT L C s=none:=Yp fun j _ d=>decide_eq_false (h j ab)
include ho
theorem Ys(v:k<L.length){i j:Nat}(h:[G.i (i:Int),.i (j:Int)]∈bC A C af oF k):sQ C A af oF k i=some j:=by
 have hr:=W6 (S.two ho v) (C af) (C k) oF;unfold sQ;have key:∀q:LL,q.Pairwise (fun a b=>(gi a 0).iV<(gi b 0).iV)->[G.i (i:Int),.i (j:Int)]∈q->q.find? (fun r=>(gi r 0).iV==(i:Int))=some [G.i (i:Int),.i (j:Int)]:=by
  intro q
  induction q with
  |nil=>intro _ h; cases h
  |cons r q y=>
   intro I hm;obtain⟨h1,M⟩:=nf.1 I;rcases c_.1 hm with rfl|hm
   ·rw[List.find?_cons_of_pos (by show ((i:Int)==(i:Int))=true; simp)]
   ·have d:=h1 _ hm
    have d:(gi r 0).iV<(i:Int):=d;rw[List.find?_cons_of_neg bS];exact y M hm
 rw[key (bC A C af oF k) hr h];show some ((j:Int).toNat)=some j
 rw[a7]
omit S ho in
theorem apY{i:Nat}(h:∀r∈bC A C af oF k,(gi r 0).iV≠(i:Int)):sQ C A af oF k i=none:=by
 unfold sQ;rw[List.find?_eq_none.2 fun r hr=>by simpa using h r hr];rfl
end
section
variable {L:LL} {C:Nat->BY} {A:Nat->LL} (S:mP L C A) {af:Nat} (ho:af<L.length) (oF:Int)
include S ho
theorem apZ(v:fI z)(y:(gi z 3).sV.size<=100)(ks:List Nat):aa (uI [G.l L,.i (af:Int),.i oF,.l (bK 0 ks),.l (ks.map fun k=>fp (bC A C af oF k)),.i ((ks.length:Nat):Int),.l (bK 0 ks),.l (ks.map fun k=>fi (bC A C af oF k)),.i ((ks.length:Nat):Int),.l [z]]) fun g=>∃d:List Nat,g=[G.l L,.i (af:Int),.i oF,.l (bK 0 d),.l (d.map fun k=>fp (bC A C af oF k)),.i ((d.length:Nat):Int),.l (bK 0 d),.l (d.map fun k=>fi (bC A C af oF k)),.i ((d.length:Nat):Int),.i (mS (-1) 0 (eo C A af oF z L.length 0)).1,.i (mS (-1) 0 (eo C A af oF z L.length 0)).2]:=by
 have M:fI (bg [.I,.I,.str,.str,.I,.I,.str,.str] z):=by rw[v.1]; exact v
 have h:aa (uI [G.l L,.i (af:Int),.i oF,.l (bK 0 ks),.l (ks.map fun k=>fp (bC A C af oF k)),.i ((ks.length:Nat):Int),.l (bK 0 ks),.l (ks.map fun k=>fi (bC A C af oF k)),.i ((ks.length:Nat):Int),.l [bg [.I,.I,.str,.str,.I,.I,.str,.str] z]]) fun g=>∃d:List Nat,g=[G.l L,.i (af:Int),.i oF,.l (bK 0 d),.l (d.map fun k=>fp (bC A C af oF k)),.i ((d.length:Nat):Int),.l (bK 0 d),.l (d.map fun k=>fi (bC A C af oF k)),.i ((d.length:Nat):Int),.i (mS (-1) 0 (eo C A af oF (bg [.I,.I,.str,.str,.I,.I,.str,.str] z) L.length 0)).1,.i (mS (-1) 0 (eo C A af oF (bg [.I,.I,.str,.str,.I,.I,.str,.str] z) L.length 0)).2]:=apX S ho oF M (by rw[<-v.1]at y; exact y) ks;rw[v.1]at h;exact h
theorem Og{z:LG}:∀(d i:Nat),i+d=L.length->∀ x∈eo C A af oF z d i,x.1<L.length
 |0,_,_,_,h=>by cases h
 |d+1,i,hi,x,h=>by
  have k:=Og (z:=z) d (i+1) ab;rw[eo]at h;split at h
  ·exact k x h
  ·split at h
   ·rcases c_.1 h with rfl | h
    ·show i<L.length
     omega
    ·exact k x h
   ·exact k x h
theorem ap0(hi:i<(A af).length)(ks:List Nat):aa (HR [G.l L,.i (af:Int),.i oF,.l (bK 0 ks),.l (ks.map fun k=>fp (bC A C af oF k)),.i ((ks.length:Nat):Int),.l (bK 0 ks),.l (ks.map fun k=>fi (bC A C af oF k)),.i ((ks.length:Nat):Int),.i (i:Int)]) fun g=>∃d:List Nat,g=[G.l L,.i (af:Int),.i oF,.l (bK 0 d),.l (d.map fun k=>fp (bC A C af oF k)),.i ((d.length:Nat):Int),.l (bK 0 d),.l (d.map fun k=>fi (bC A C af oF k)),.i ((d.length:Nat):Int),.l [gH L C A af oF i]]:=by
 obtain⟨v,W⟩:=S.mem ho hi;have hna:=S.na af ho;have hn:=S.n;obtain⟨z,hzd⟩:∃z,z=(A af).getD i []:=⟨_,rfl⟩
 have hzm:fI (bg [.I,.I,.str,.str,.I,.I,.str,.str] ((A af).getD i [])):=by rw[v.1]; exact v
 unfold HR
 (dsimp only[go_sem])
 simp only[a7,S.get af ho]
 (dsimp only[go_sem])
 refine aa.p (aa.p ?_);refine aa.call (N4 S _) ?_;rintro _ ⟨p,b,rfl,hT,hF⟩
 (dsimp only[go_sem])
 have U:∀(ks:List Nat) (b:Bool),gH L C A af oF i=pJ L C A af oF i b->aa (aI (uI [G.l L,.i (af:Int),.i oF,.l (bK 0 ks),.l (ks.map fun k=>fp (bC A C af oF k)),.i ((ks.length:Nat):Int),.l (bK 0 ks),.l (ks.map fun k=>fi (bC A C af oF k)),.i ((ks.length:Nat):Int),.l [bg [.I,.I,.str,.str,.I,.I,.str,.str] ((A af).getD i [])]]) fun g=>(bif bq 0 (gi g 9).iV then (bif (cO (gi g 9).iV)&&(aN (gi g 9).iV (((gi g 0).rZ.length:Nat):Int)) then some [.l (gi g 0).rZ,.i (gi g 1).iV,.i (gi g 2).iV,.l (gi g 3).rZ,.l (gi g 4).rZ,.i (((gi g 5).iV.toNat:Nat):Int),.l (gi g 6).rZ,.l (gi g 7).rZ,.i (((gi g 8).iV.toNat:Nat):Int),.l [[.i (i:Int),.i 2,.s (gi ((gi g 0).rZ.getD ((gi g 9).iV.toNat) []) 0).sV,.i (gi g 10).iV]]] else none) else (bif b then some [.l (gi g 0).rZ,.i (gi g 1).iV,.i (gi g 2).iV,.l (gi g 3).rZ,.l (gi g 4).rZ,.i (((gi g 5).iV.toNat:Nat):Int),.l (gi g 6).rZ,.l (gi g 7).rZ,.i (((gi g 8).iV.toNat:Nat):Int),.l [[.i (i:Int),.i 4,.s ⟨#[]⟩,.i (-1)]]] else some [.l (gi g 0).rZ,.i (gi g 1).iV,.i (gi g 2).iV,.l (gi g 3).rZ,.l (gi g 4).rZ,.i (((gi g 5).iV.toNat:Nat):Int),.l (gi g 6).rZ,.l (gi g 7).rZ,.i (((gi g 8).iV.toNat:Nat):Int),.l [[.i (i:Int),.i 5,.s ⟨#[]⟩,.i (-1)]]])))
   fun g=>∃d:List Nat,g=[G.l L,.i (af:Int),.i oF,.l (bK 0 d),.l (d.map fun k=>fp (bC A C af oF k)),.i ((d.length:Nat):Int),.l (bK 0 d),.l (d.map fun k=>fi (bC A C af oF k)),.i ((d.length:Nat):Int),.l [gH L C A af oF i]]:=fun ks b M=>by
  rw[M];rw[v.1];refine aa.call (apZ S ho oF v W ks) ?_;rintro _ ⟨d,rfl⟩
  (dsimp only[go_sem])
  simp only[a7];have N:=Og S ho oF (z:=(A af).getD i []) L.length 0 ab;unfold pJ;cases hc:eo C A af oF ((A af).getD i []) L.length 0 with
  |nil=>
   refine aa.neg rfl ?_
   grind[aa.some]
  |cons x q=>
   rw[hc]at N;cases q with
   |nil=>
    have hx:=N x dx;have e1:(mS (-1) 0 [x]).1=(x.1:Int):=rfl;have e2:(mS (-1) 0 [x]).2=(x.2:Int):=rfl;rw[e1,e2];refine aa.pos (by rw[fe]; exact dE ab) ?_;simp only[a7,S.get x.1 hx];exact aa.p (aa.some ⟨d,rfl⟩)
   |cons y q=>
    refine aa.neg rfl ?_
    grind[aa.some]
 refine aa.test (fun hb=>?_) fun hb=>?_
 ·obtain⟨h,hpe⟩:=hT hb
  have hsk:gT L C (gi ((A af).getD i []) 3).sV=some p:=IW S h hpe;refine aa.cE (Xt S ho oF h ks) ?_
  (dsimp only[go_sem])
  obtain⟨n,hn⟩:=Xr p ks;simp only[a7,IE,hn,Xv (fun k=>fp (bC A C af oF k)) hn];refine aa.pos rfl (aa.pos (aoR _ hn) ?_);obtain⟨j1,j2⟩:=aoS S ho oF h i;refine aa.test (fun hm=>?_) fun hm=>?_
  ·obtain⟨j,hj,hjm,hjg⟩:=j1 hm
   have hjk:=Ys S ho oF h hjm;have M:gH L C A af oF i=[.i (i:Int),.i (bif kE ((A p).getD j []) ((A af).getD i []) then 1 else 3),.s (C p),.i (j:Int)]:=by
    unfold gH;rw[hsk]
    grind
   have hnk:=S.na p h;have hg:cR [.I] (gi (fp (bC A C af oF p)) 0).rZ [.i (i:Int)] [.i 0]=[.i (j:Int)]:=hjg;simp only[hg]
   (dsimp only[go_sem])
   simp only[a7,S.get p h]
   (dsimp only[go_sem])
   obtain⟨O,hys⟩:=S.mem h hj;simp only[v.1,O.1];refine aa.p (aa.p ?_);refine aa.cE (Xu _ _) ?_
   (dsimp only[go_sem])
   refine aa.test (fun hs=>?_) fun hs=>?_<;>grind[aa.some]
  ·refine U (pG p ks) b ?_
   have hjk:sQ C A af oF p i=none:=apY oF fun r hr e=>by
    obtain⟨x,y,rfl,_,O,_⟩:=uS (S.two ho h) hr;have e:(x:Int)=(i:Int):=e;have:x=i:=ab;subst this;exact j2 hm y hr
   grind[gH]
 simp_all[gH,Yr]
end
theorem Yt(L:LL)(C:Nat->BY)(A:Nat->LL)(af:Nat)(oF:Int)(i:Nat)(b:Bool):∃(d:Int) (w:BY) (v:Int),pJ L C A af oF i b=[.i (i:Int),.i d,.s w,.i v]:=by
 unfold pJ;split
 ·exact⟨_,_,_,rfl⟩
 ·exact⟨_,_,_,rfl⟩
theorem IX(L:LL)(C:Nat->BY)(A:Nat->LL)(af:Nat)(oF:Int)(i:Nat):∃(d:Int) (w:BY) (v:Int),gH L C A af oF i=[.i (i:Int),.i d,.s w,.i v]:=by
 unfold gH;split
 ·split
  ·exact⟨_,_,_,rfl⟩
  ·exact Yt L C A af oF i true
 ·exact Yt L C A af oF i false
theorem IY(A:Nat->LL)(af:Nat)(out:LL)(i j:Nat)(d:Int)(w:BY)(v:Int):lH A af (out++[[.i (i:Int),.i d,.s w,.i v]]) j=(lH A af out j||(me A af i j&&(d==1||d==3))):=by
 unfold lH;rw[ZU];congr 1;rw[Ex,OY,rH];show (me A af ((i:Int).toNat) j&&_)=_
 rw[a7];rfl
theorem Yu(h:me A af i j=true):lH A af out i=lH A af out j:=by
 unfold lH;congr 1
 funext o
 congr 1;exact yW h
def vf(A:Nat->LL)(af:Nat)(seen out:LL):Prop:=∀j,(gi (cR [.str,.str,.I] seen (kW ((A af).getD j [])) [.t false]) 0).bV=lH A af out j
theorem vf.put{seen:LL}(h:vf A af seen out)(hi:lH A af out i=false)(k:Int)(w:BY)(v:Int)(c:Nat){b:Bool}(hb:b=(k==1||k==3)):
  vf A af (dV [.str,.str,.I] seen (kW ((A af).getD i [])) [.t b] c) (out++[[.i (i:Int),.i k,.s w,.i v]]):=fun j=>by
 rw[wQ,IY];cases e:aZ [.str,.str,.I] (kW ((A af).getD j [])) (kW ((A af).getD i []))with
 |true=>
  have d:me A af i j=true:=by
   show aZ _ _ _=true
   rw[oz];exact e
  rw[cT,d,<-Yu d,hi,xF,iD];exact hb
 |false=>
  have d:me A af i j=false:=by
   show aZ _ _ _=false
   rw[oz];exact e
  rw[cF,d,A_,rH];exact h j
theorem vf.two{seen:LL}(h:vf A af seen out)(i:Nat)(w:BY)(v:Int):vf A af seen (out++[[.i (i:Int),.i 6,.s w,.i v]]):=fun j=>by
 rw[IY,show ((6:Int)==1||(6:Int)==3)=false from rfl,A9,rH];exact h j
theorem AO(L:LL)(C:Nat->BY)(A:Nat->LL)(af:Nat)(oF:Int):∀ i,(c6 L C A af oF i).length=i
 |0=>rfl
 |i+1=>by rw[c6,fV,AO L C A af oF i]; rfl
section
variable {L:LL} {C:Nat->BY} {A:Nat->LL} (S:mP L C A) {af:Nat} (ho:af<L.length) (oF:Int)
include S ho
theorem Yv{len:Nat}(hlen:len=(A af).length):∀(d i:Nat) (ks:List Nat) (seen:LL) (bk:Nat),i+d=len->vf A af seen (c6 L C A af oF i) ->
  aR zV [G.l L,.i (af:Int),.i oF,.l (bK 0 ks),.l (ks.map fun k=>fp (bC A C af oF k)),.i ((ks.length:Nat):Int),.l (bK 0 ks),.l (ks.map fun k=>fi (bC A C af oF k)),.i ((ks.length:Nat):Int),.l seen,.i (bk:Int),.l (c6 L C A af oF i),.l (A af),.i (len:Int),.i (i:Int)] (d+1) fun e g=>
   e=0/\∃y:List Nat,g=[G.l L,.i (af:Int),.i oF,.l (bK 0 y),.l (y.map fun k=>fp (bC A C af oF k)),.i ((y.length:Nat):Int),.l (bK 0 y),.l (y.map fun k=>fi (bC A C af oF k)),.i ((y.length:Nat):Int),.l (c6 L C A af oF len)]
 |0,i,ks,seen,bk,hi,M=>by
  have e:i=len:=ab;subst e;refine aR.stop (x:=0) (aa.toEq ?_) ⟨rfl,ks,rfl⟩;unfold zV
  (dsimp only[go_sem])
  refine aa.n (aa.p (aa.some ?_));simp only[a7]
 |d+1,i,ks,seen,bk,hi,M=>by
  have hna:=S.na af ho;have hl:=AO L C A af oF i;have step:aa (zV [G.l L,.i (af:Int),.i oF,.l (bK 0 ks),.l (ks.map fun k=>fp (bC A C af oF k)),.i ((ks.length:Nat):Int),.l (bK 0 ks),.l (ks.map fun k=>fi (bC A C af oF k)),.i ((ks.length:Nat):Int),.l seen,.i (bk:Int),.l (c6 L C A af oF i),.l (A af),.i (len:Int),.i (i:Int)]) fun o=>
    ∃(y:List Nat) (O:LL) (W:Nat),o=(none,[G.l L,.i (af:Int),.i oF,.l (bK 0 y),.l (y.map fun k=>fp (bC A C af oF k)),.i ((y.length:Nat):Int),.l (bK 0 y),.l (y.map fun k=>fi (bC A C af oF k)),.i ((y.length:Nat):Int),.l O,.i (W:Int),.l (c6 L C A af oF (i+1)),.l (A af),.i (len:Int),.i ((i:Int)+1)])/\vf A af O (c6 L C A af oF (i+1)):=by
   unfold zV
   (dsimp only[go_sem])
   simp only[a7];have ek:([.s (gi ((A af).getD i []) 3).sV,.s (gi ((A af).getD i []) 2).sV,.i (gi ((A af).getD i []) 1).iV]:LG)=kW ((A af).getD i []):=rfl;simp only[ek,M i];refine aa.p (aa.p ?_);refine aa.test (fun N=>?_) fun N=>?_
   ·have e:c6 L C A af oF (i+1)=c6 L C A af oF i++[[.i (i:Int),.i 6,.s (⟨#[]⟩:BY),.i (-1)]]:=by rw[c6,N]; rfl
    rw[e];exact aa.p (aa.p (aa.p (aa.some ⟨ks,seen,bk,rfl,M.two i _ _⟩)))
   ·have e:c6 L C A af oF (i+1)=c6 L C A af oF i++[gH L C A af oF i]:=by rw[c6,N]; rfl
    rw[e];refine aa.call (ap0 S ho oF ab ks) ?_;rintro _ ⟨y,rfl⟩;obtain⟨U,w,v,hr⟩:=IX L C A af oF i;rw[hr]
    (dsimp only[go_sem])
    simp only[a7];refine aa.test (fun I=>?_) fun I=>?_
    ·refine aa.p (aa.p (aa.p (aa.some ⟨y,_,_,rfl,M.put N U w v bk ?_⟩)))
     have I:(U==1)=true:=I;rw[I];rfl
    ·refine aa.p (aa.p (aa.p (aa.some ⟨y,_,_,rfl,M.put N U w v bk ?_⟩)))
     have I:(U==1)=false:=I;rw[I];rfl
  obtain⟨o,h,y,O,W,rfl,hr⟩:=step;exact aR.next h (Yv hlen d (i+1) y O W ab hr)
theorem Yw:Dc [.l L,.i (af:Int),.i oF,.l [],.i 0,.l [],.i 0]=some [.l [],.l [],.l [],.l (c6 L C A af oF (A af).length)]:=by
 have d:=S.na af ho;have hn:=S.n;refine aa.toEq ?_;unfold Dc
 (dsimp only[go_sem])
 simp only[a7,S.get af ho]
 (dsimp only[go_sem])
 refine aa.pos rfl (aa.p ?_);have hr:=Yv S ho oF (len:=(A af).length) rfl (A af).length 0 [] [] 0 ab (fun j=>rfl);refine aa.loop (hr.to ab) rfl ?_;rintro _ _ ⟨rfl,h,rfl⟩
 (dsimp only[go_sem])
 exact aa.p (aa.some rfl)
end
section
variable {L:LL} {C:Nat->BY} {A:Nat->LL} (S:mP L C A)
include S
theorem ap1(d:af<L.length){oF:Int}(h:oA [.l L]=some [.i 0])(ho:fH oF 0 3600000=true):DJ [.l L,.s (C af),.i oF]=some [.l (c6 L C A af oF (A af).length),.i (af:Int),.i 0]:=by
 refine aa.toEq ?_;unfold DJ
 (dsimp only[go_sem])
 refine aa.call (P:=fun g=>g=[.i 0]) (aa.eq h) ?_;rintro _ rfl;refine aa.neg rfl ?_;refine aa.call (P:=fun g=>g=[.i 0]) (aa.eq ((Oc oF).trans (by rw[ho]; rfl))) ?_;rintro _ rfl;refine aa.neg rfl ?_;refine aa.call (N4 S (C af)) ?_;rintro _ ⟨p,b,rfl,y,I⟩
 (dsimp only[go_sem])
 cases b with
 |false=>exact(I rfl af d rfl).elim
 |true=>
  obtain⟨k,v⟩:=y rfl;have:=S.inj k d v;subst this;refine aa.neg rfl ?_;refine aa.call (P:=fun g=>g=[.l L,.i (p:Int),.i oF,.l [],.i 0,.l [],.i 0]) (aa.eq rfl) ?_;rintro _ rfl
  (dsimp only[go_sem])
  refine aa.call (P:=fun g=>g=[.l [],.l [],.l [],.l (c6 L C A p oF (A p).length)]) (aa.eq (Yw S k oF)) ?_;rintro _ rfl;exact aa.some rfl
end
theorem ap2:[G.i ((0:Nat):Int),.i ((0:Nat):Int)]∈bC eY nS 0 4 1:=by
 have hs:=IP.two (i:=0) (k:=1) e_ e_;show _∈kY (eY 0) (eY 1) (nS 0) (nS 1) 4
 refine(NU _ _ _ _ _).mem_iff.2 (aoF.2 ⟨(⟨#[98]⟩,1),?_⟩);have d:∀(A:LL) (s:BY),A.length=1->iv A s 0=true->cy (A.getD 0 [])=((⟨#[98]⟩:BY),(1:Int))->dR A s (⟨#[98]⟩,1)=[0]:=fun A s h1 I O=>by
  have hm:∀i,i∈dR A s (⟨#[98]⟩,1)↔i=0:=fun i=>by
   rw[qu];constructor
   ·rintro⟨h,_⟩; omega
   ·rintro rfl; exact⟨ab,I,O⟩
  have hr:=Iw A s (⟨#[98]⟩,1);generalize dR A s (⟨#[98]⟩,1)=l at hm hr
  match l,hm,hr with
  |[],hm,_=>exact absurd ((hm 0).2 rfl) au
  |[a],hm,_=>rw[(hm a).1 au]
  |a::b::_,hm,hr=>
   have h1:=(hm a).1 au;have I:=(hm b).1 au;have:=(nf.1 hr).1 b au;omega
 have U:dR (eY 0) (nS 1) (⟨#[98]⟩,1)=[0]:=d _ _ rfl (by show (je.toList==je.toList)=true; rw[beq_self_eq_true]) rfl;have W:dR (eY 1) (nS 0) (⟨#[98]⟩,1)=[0]:=d _ _ rfl (by show (kG.toList==kG.toList)=true; rw[beq_self_eq_true]) rfl;unfold ig;rw[U,W];refine dS.2 ⟨(0,0),?_,rfl⟩;unfold DR;have B:=Is 1 1 (dW (eY 0) (eY 1) [0] [0] 4) (wJ (eY 0) (eY 1) [0] [0]);have v:dW (eY 0) (eY 1) [0] [0] 4 0 0=true:=W5.2 ⟨rfl,rfl,e_⟩;have M:wJ (eY 0) (eY 1) [0] [0] 0 0=9999999996:=e_;show (0,0)∈bP (nK 1 1 (dW (eY 0) (eY 1) [0] [0] 4) (wJ (eY 0) (eY 1) [0] [0])) 1 (dW (eY 0) (eY 1) [0] [0] 4) (wJ (eY 0) (eY 1) [0] [0]) 1 0 0
 generalize nK 1 1 (dW (eY 0) (eY 1) [0] [0] 4) (wJ (eY 0) (eY 1) [0] [0])=F at B|-;have s1:=B.step 0 0 ab ab;have s2:=B.oC 1 0 (.inl ab);have s3:=B.oC 0 1 (.inr ab);have N:=B.oC 1 1 (.inl ab);rw[iP v,s2,s3,N,M]at s1;have ht:gQ (ib F (dW (eY 0) (eY 1) [0] [0] 4) (wJ (eY 0) (eY 1) [0] [0]) (F 0 0) 0) 0 (1-0)=some 0:=NJ ab ab (xl.2 ⟨v,by rw[M,N,s1]; omega⟩) (fun y _ hy=>by omega);rw[qs ht];exact dx
theorem ap3:DJ [.l vc,.s kG,.i 4]=some [.l [[.i 0,.i 1,.s je,.i 0]],.i 0,.i 0]:=by
 have h:=ap1 IP (af:=0) e_ (oF:=4) aps rfl;have d:gH vc nS eY 0 4 0=[.i 0,.i 1,.s je,.i 0]:=by
  unfold gH;rw[show (gi ((eY 0).getD 0 []) 3).sV=je from rfl,IW IP (p:=1) (s:=je) e_ rfl];simp only[];rw[Ys IP (af:=0) e_ 4 (k:=1) e_ ap2];simp only[];rw[show kE ((eY 1).getD 0 []) ((eY 0).getD 0 [])=true from by kernel_rfl];rfl
 rw[show (eY 0).length=1 from rfl,c6,c6,d]at h;exact h
theorem Yx:DK []=some [.t true]:=by
 refine aa.toEq ?_;unfold DK;refine aa.call (P:=fun g=>g=[.l [[.i 0,.i 1,.s je,.i 0]],.i 0]) ?_ ?_
 ·unfold Nx
  (dsimp only[go_sem])
  refine aa.cE ap3 ?_;exact aa.some rfl
 ·rintro _ rfl
  exact aa.pos rfl (aa.pos rfl (aa.pos rfl (aa.some rfl)))
theorem D8{st:LG->bp}{mk:Nat->LG}{p:Nat->Bool}{out:Nat->LG}{n:Nat} (h:∀i,i<n->aa (st (mk i)) fun o=>(p i=true/\o=(some 0,out i))\/(p i=false/\o=(none,mk (i+1)))) (k:st (mk n)=some (some 1,[])):∀d i,i+d=n ->
  aR st (mk i) (d+1) fun x g=>(x=0/\∃v,fq p d i=some v/\g=out v)\/(x=1/\fq p d i=none)
 |0,i,hi=>by
  have:i=n:=ab;subst this;exact aR.stop k (.inr ⟨rfl,rfl⟩)
 |d+1,i,hi=>by
  obtain⟨o,I,⟨y,rfl⟩|⟨y,rfl⟩⟩:=h i ab
  grind[aR.stop,fq]
  ·refine aR.next I ?_
   rw[fq,iN (by rw[y]; simp)];exact D8 h k d (i+1) ab
theorem Yy{α:Type}(p:α->Bool)(z:α)(l:List α):(fq (fun j=>p (l.getD j z)) l.length 0).isSome=l.any p:=by
 cases h:fq (fun j=>p (l.getD j z)) l.length 0 with
 |some k=>
  obtain⟨_,h1,y⟩:=IV h;exact(List.any_eq_true.2 ⟨_,j7 (z:=z) ab,y⟩).symm
 |none=>
  refine(ZR.2 fun x I v=>?_).symm;obtain⟨j,M,rfl⟩:=pK I;have key:∀(d i:Nat),fq (fun j=>p (l.getD j z)) d i=none->∀k,i<=k->k<i+d->p (l.getD k z)=false:=by
   intro d
   induction d with
   |zero=>intro i _ k h1 y; omega
   |succ d N=>
    intro i hn k h1 y;rw[fq]at hn;split at hn
    ·cases hn
    ·rename_i v
     by_cases e:k=i
     ·subst e
      simpa using v
     ·exact N (i+1) hn k ab ab
  have:=key l.length 0 h j (fy _) ab;rw[dc,cB M]at this;simp only[Option.getD_some]at this;rw[this]at v;cases v
theorem ap4(q:LL)(hn:q.length<=100000)(w:Nat)(hq:∀r∈q,bg [.I,.I] r=r):Ii [.l q,.l [[.i (w:Int)]]]=some [.t (q.any fun r=>(gi r 1).iV==(w:Int))]:=by
 refine aa.toEq ?_;unfold Ii
 (dsimp only[go_sem])
 refine aa.call (P:=fun g=>g=[.i (qx (fq (fun j=>(gi (q.getD j []) 1).iV==(w:Int)) q.length 0))]) ?_ ?_
 ·unfold Nu
  (dsimp only[go_sem])
  have hr:=D8 (st:=DD) (mk:=fun i=>[.l q,.l [[.i (w:Int)]],.i (q.length:Int),.i (i:Int)]) (p:=fun j=>(gi (q.getD j []) 1).iV==(w:Int)) (out:=fun i=>[.i (i:Int)]) (n:=q.length) (fun i hi=>by
    unfold DD
    (dsimp only[go_sem])
    have he:=hq _ (j7 (z:=[]) hi);simp only[a7,he];refine aa.p (aa.p ?_);refine aa.call (P:=fun g=>g=[.t ((gi (q.getD i []) 1).iV==(w:Int))]) (aa.eq rfl) ?_;rintro _ rfl;refine aa.test (fun h=>aa.some (.inl ⟨h,rfl⟩)) fun h=>aa.p (aa.some (.inr ⟨h,rfl⟩))) (by
    refine aa.toEq ?_;unfold DD
    (dsimp only[go_sem])
    exact aa.n (aa.some rfl)) q.length 0 ab
  refine aa.loop (hr.to ab) rfl ?_;rintro x g (⟨rfl,v,d,rfl⟩|⟨rfl,d⟩)
  ·rw[d]
   exact aa.pos rfl (aa.some rfl)
  ·rw[d]
   exact aa.neg rfl (aa.some rfl)
 ·rintro _ rfl
  refine aa.some ?_;rw[<-Yy (fun r=>(gi r 1).iV==(w:Int)) [] q];cases fq (fun j=>(gi (q.getD j []) 1).iV==(w:Int)) q.length 0 with
  |none=>rfl
  |some v=>
   show [G.t (bq 0 (v:Int))]=[.t true]
   rw[fe,dE ab]
theorem Yz(z w:LG):DC [.l [z],.l [w]]=some [.t (kE w z)]:=by
 refine aa.toEq ?_;unfold DC kE
 (dsimp only[go_sem])
 rw[show ((gi w 4).iV==(gi z 5).iV)=((gi z 5).iV==(gi w 4).iV) from asE,show ((gi w 6).sV.toList==(gi z 7).sV.toList)=((gi z 7).sV.toList==(gi w 6).sV.toList) from asE];cases (gi z 5).iV==(gi w 4).iV<;>exact aa.some rfl
section
variable {L:LL} {C:Nat->BY} {A:Nat->LL} (R:mQ L C A) {af:Nat} (ho:af<L.length) {oF:Int} (h0:0<=oF) (h1:oF<=3600000)
include R
theorem Oh(s:BY):xc [.l L,.s s]=some [.i (qx (gT L C s))]:=by
 have hn:=R.n;refine aa.toEq ?_;unfold xc
 (dsimp only[go_sem])
 refine aa.call (P:=fun g=>g=[.i (qx (gT L C s))]) ?_ ?_
 ·unfold Nf
  (dsimp only[go_sem])
  have hr:=D8 (st:=Dk) (mk:=fun i=>[.l L,.l [[.s s]],.i (L.length:Int),.i (i:Int)]) (p:=fun k=>decide (C k=s)) (out:=fun i=>[.i (i:Int)]) (n:=L.length) (fun i hi=>by
    unfold Dk
    (dsimp only[go_sem])
    simp only[a7,R.get i hi];refine aa.p (aa.p ?_);refine aa.call (P:=fun g=>g=[.t (decide (C i=s))]) (aa.eq (by rw[<-l8]; rfl)) ?_;rintro _ rfl;refine aa.test (fun h=>aa.some (.inl ⟨h,rfl⟩)) fun h=>aa.p (aa.some (.inr ⟨h,rfl⟩))) (by
    refine aa.toEq ?_;unfold Dk
    (dsimp only[go_sem])
    exact aa.n (aa.some rfl)) L.length 0 ab
  refine aa.loop (hr.to ab) rfl ?_;rintro x g (⟨rfl,v,d,rfl⟩|⟨rfl,d⟩)
  ·have d:gT L C s=some v:=d
   rw[d];exact aa.pos rfl (aa.some rfl)
  ·have d:gT L C s=none:=d
   rw[d];exact aa.neg rfl (aa.some rfl)
 ·rintro _ rfl
  exact aa.some rfl
theorem R3(hi:i<L.length)(d:k<L.length):xq (A i) (A k):=
 apu (a:=C i) (b:=C k) (R.lG i hi) (R.lG k d) (by have:=R.na i hi; omega) (by have:=R.na k d; omega) (R.fault i hi) (R.fault k d)
include ho
theorem ap5(d:k<L.length):∀r∈bC A C af oF k,bg [.I,.I] r=r:=fun r hr=>by
 obtain⟨x,y,rfl,_⟩:=uS (R3 R ho d).two hr;rfl
theorem YA(d:k<L.length):(bC A C af oF k).length<=40:=mU (W7 (R3 R ho d).two (C af) (C k) oF) (R.na af ho)
theorem YB{k:Nat}(O:k<L.length){t m s h:Int}{b c x y:BY}(hc:fI [.i t,.i m,.s b,.s c,.i s,.i h,.s x,.s y])(i n M:Int)(out:LL)(hout:out.length<=1000):∀(d j:Nat),j+d=(A k).length ->
  aR An [.s (C af),.l (A af),.i t,.i m,.s b,.s c,.i s,.i h,.s x,.s y,.l out,.s (C k),.l (A k),.i i,.i oF,.l (bC A C af oF k),.l L,.i n,.i M,.l (A k),.i ((A k).length:Int),.i (j:Int)] (d+1) fun e g=>
   e=0/\g=[.s (C af),.l (A af),.i t,.i m,.s b,.s c,.i s,.i h,.s x,.s y,.l (out++(match fq (kZ C A af oF k [.i t,.i m,.s b,.s c,.i s,.i h,.s x,.s y]) d j with|some v=>[[.i i,.i 2,.s (C k),.i (v:Int)]]|none=>[])),.i i,.i oF,.l L,.i n,.i M]
 |0,j,hj=>by
  refine aR.stop (x:=0) (aa.toEq ?_) ⟨rfl,rfl⟩;unfold An
  (dsimp only[go_sem])
  refine aa.n (aa.pos au (aa.some ?_));show _=(some 0,[G.s (C af),.l (A af),.i t,.i m,.s b,.s c,.i s,.i h,.s x,.s y,.l (out++[]),.i i,.i oF,.l L,.i n,.i M])
  rw[dY]
 |d+1,j,hj=>by
  have hna:=R.na k O;have ih:=YB O hc i n M out hout d (j+1) ab;have hz:fI ((A k).getD j []):=(R3 R ho O).two.hb _ (j7 ab);have hpl:=YA R ho (oF:=oF) O;have step:aa (An [.s (C af),.l (A af),.i t,.i m,.s b,.s c,.i s,.i h,.s x,.s y,.l out,.s (C k),.l (A k),.i i,.i oF,.l (bC A C af oF k),.l L,.i n,.i M,.l (A k),.i ((A k).length:Int),.i (j:Int)]) fun o=>
    (kZ C A af oF k [.i t,.i m,.s b,.s c,.i s,.i h,.s x,.s y] j=true/\o=(some 0,[.s (C af),.l (A af),.i t,.i m,.s b,.s c,.i s,.i h,.s x,.s y,.l (out++[[.i i,.i 2,.s (C k),.i (j:Int)]]),.i i,.i oF,.l L,.i n,.i M])) \/
     (kZ C A af oF k [.i t,.i m,.s b,.s c,.i s,.i h,.s x,.s y] j=false/\o=(none,[.s (C af),.l (A af),.i t,.i m,.s b,.s c,.i s,.i h,.s x,.s y,.l out,.s (C k),.l (A k),.i i,.i oF,.l (bC A C af oF k),.l L,.i n,.i M,.l (A k),.i ((A k).length:Int),.i ((j:Int)+1)])):=by
   unfold An
   (dsimp only[go_sem])
   simp only[a7,hz.1];refine aa.p (aa.p ?_);refine aa.cE (ap4 _ ab j (ap5 R ho O)) ?_
   (dsimp only[go_sem])
   have W:kZ C A af oF k [.i t,.i m,.s b,.s c,.i s,.i h,.s x,.s y] j=(((gi ((A k).getD j []) 3).sV.toList==(C af).toList)&&(lD oF [.i t,.i m,.s b,.s c,.i s,.i h,.s x,.s y] ((A k).getD j [])&&(!((bC A C af oF k).any fun r=>(gi r 1).iV==(j:Int))&&kE ((A k).getD j []) [.i t,.i m,.s b,.s c,.i s,.i h,.s x,.s y]))):=rfl;refine aa.test (fun U=>?_) fun U=>aa.p (aa.pos au (aa.some (.inr ⟨by rw[W,U]; rfl,rfl⟩)));refine aa.cE (XF oF hc hz) ?_;refine aa.test (fun I=>?_) fun I=>aa.p (aa.pos au (aa.some (.inr ⟨by
    have I:lD oF [.i t,.i m,.s b,.s c,.i s,.i h,.s x,.s y] ((A k).getD j [])=false:=I
    grind,rfl⟩)))
   have I:lD oF [.i t,.i m,.s b,.s c,.i s,.i h,.s x,.s y] ((A k).getD j [])=true:=I;refine aa.test (fun g3=>?_) fun g3=>aa.p (aa.pos au (aa.some (.inr ⟨by rw[W,U,I,g3]; rfl,rfl⟩)));refine aa.cE (Yz _ _) ?_;refine aa.test (fun N=>?_) fun N=>aa.p (aa.pos au (aa.some (.inr ⟨by
    have N:kE ((A k).getD j []) [.i t,.i m,.s b,.s c,.i s,.i h,.s x,.s y]=false:=N;rw[W,U,I,g3,N];rfl,rfl⟩)))
   have N:kE ((A k).getD j []) [.i t,.i m,.s b,.s c,.i s,.i h,.s x,.s y]=true:=N;exact aa.pos (by rw[jD,iD,dT]; omega) (aa.pos au (aa.some (.inl ⟨by rw[W,U,I,g3,N]; rfl,rfl⟩)))
  obtain⟨o,hst,⟨hf,rfl⟩|⟨hf,rfl⟩⟩:=step<;>grind[aR.stop,fq,aR.next]
def D9(C:Nat->BY)(i:Int)(x:Nat × Nat):LG:=[.i i,.i 2,.s (C x.1),.i (x.2:Int)]
include h0 h1
theorem Oi{t m s h:Int}{b c x y:BY}(hc:fI [.i t,.i m,.s b,.s c,.i s,.i h,.s x,.s y])(cC:c.size<=20)(hC:∀k,k<L.length->(C k).size<=12)(i:Int):∀(d k:Nat) (out:LL),k+d=L.length->out.length<=k ->
  aR qn [.s (C af),.l (A af),.i t,.i m,.s b,.s c,.i s,.i h,.s x,.s y,.l out,.i i,.i oF,.l L,.i (L.length:Int),.i (k:Int)] (d+1) fun e g=>e=0/\g=[.l (out++(eo C A af oF [.i t,.i m,.s b,.s c,.i s,.i h,.s x,.s y] d k).map (D9 C i))]
 |0,k,out,hk,ho'=>by
  refine aR.stop (x:=0) (aa.toEq ?_) ⟨rfl,rfl⟩;unfold qn
  (dsimp only[go_sem])
  refine aa.n (aa.pos au (aa.some ?_));show _=(some 0,[G.l (out++[])])
  rw[dY]
 |d+1,k,out,hk,ho'=>by
  have hn:=R.n;have I:k<L.length:=ab;have hna:=R.na k I;have skip:eo C A af oF [.i t,.i m,.s b,.s c,.i s,.i h,.s x,.s y] (d+1) k=eo C A af oF [.i t,.i m,.s b,.s c,.i s,.i h,.s x,.s y] d (k+1)->qn [.s (C af),.l (A af),.i t,.i m,.s b,.s c,.i s,.i h,.s x,.s y,.l out,.i i,.i oF,.l L,.i (L.length:Int),.i (k:Int)]=some (none,[.s (C af),.l (A af),.i t,.i m,.s b,.s c,.i s,.i h,.s x,.s y,.l out,.i i,.i oF,.l L,.i (L.length:Int),.i ((k:Int)+1)])->aR qn [.s (C af),.l (A af),.i t,.i m,.s b,.s c,.i s,.i h,.s x,.s y,.l out,.i i,.i oF,.l L,.i (L.length:Int),.i (k:Int)] (d+1+1) fun e g=>e=0/\g=[.l (out++(eo C A af oF [.i t,.i m,.s b,.s c,.i s,.i h,.s x,.s y] (d+1) k).map (D9 C i))]:=fun e N=>by
   rw[e];exact aR.next N (Oi hc cC hC i d (k+1) out ab ab)
  by_cases O:k=af
  ·refine skip (by rw[eo,iP (.inl O)]) (aa.toEq ?_)
   unfold qn
   (dsimp only[go_sem])
   simp only[a7,R.get k I]
   (dsimp only[go_sem])
   refine aa.p (aa.p (aa.pos (by rw[l8,O]; simp) ?_));exact aa.p (aa.pos au (aa.some rfl))
  have W:((C k).toList==(C af).toList)=false:=by
   rw[l8];exact decide_eq_false fun e=>O (R.AF.inj I ho e)
  by_cases U:C k=c
  ·refine skip (by rw[eo,iP (.inr U)]) (aa.toEq ?_)
   unfold qn
   (dsimp only[go_sem])
   simp only[a7,R.get k I]
   (dsimp only[go_sem])
   refine aa.p (aa.p (aa.neg W (aa.pos (by rw[l8,U]; simp) ?_)));exact aa.p (aa.pos au (aa.some rfl))
  have g2':((C k).toList==c.toList)=false:=by
   rw[l8];exact decide_eq_false U
  have M:eo C A af oF [.i t,.i m,.s b,.s c,.i s,.i h,.s x,.s y] (d+1) k=(match sP C A af oF k [.i t,.i m,.s b,.s c,.i s,.i h,.s x,.s y]with
    |some v=>(k,v)::eo C A af oF [.i t,.i m,.s b,.s c,.i s,.i h,.s x,.s y] d (k+1)
    |none=>eo C A af oF [.i t,.i m,.s b,.s c,.i s,.i h,.s x,.s y] d (k+1)):=by
   rw[eo];exact iN (by rintro(h3|h3)<;>first|exact O h3|exact U h3)
  have hsz:=hC k I;have N:=apU (a:=C k) (b:=c) ab;by_cases g3:2<eJ (C k).data.toList c.data.toList
  ·have e:sP C A af oF k [.i t,.i m,.s b,.s c,.i s,.i h,.s x,.s y]=none:=iP g3
   rw[e]at M;refine skip M (aa.toEq ?_);unfold qn
   (dsimp only[go_sem])
   simp only[a7,R.get k I]
   (dsimp only[go_sem])
   refine aa.p (aa.p (aa.neg W (aa.neg g2' ?_)));refine aa.call (P:=fun g=>g=[.i (eJ (C k).data.toList c.data.toList:Int)]) (aa.eq N) ?_;rintro _ rfl;refine aa.pos (by rw[cS]; exact dE (by show (2:Int)<(eJ (C k).data.toList c.data.toList:Int); omega)) ?_;exact aa.p (aa.pos au (aa.some rfl))
  ·have e:sP C A af oF k [.i t,.i m,.s b,.s c,.i s,.i h,.s x,.s y]=fq (kZ C A af oF k [.i t,.i m,.s b,.s c,.i s,.i h,.s x,.s y]) (A k).length 0:=iN g3
   rw[e]at M;obtain⟨q,hq⟩:∃q,q=(match fq (kZ C A af oF k [.i t,.i m,.s b,.s c,.i s,.i h,.s x,.s y]) (A k).length 0 with|some v=>[[G.i i,.i 2,.s (C k),.i (v:Int)]]|none=>([]:LL)):=⟨_,rfl⟩
   have hql:q.length<=1:=by
    rw[hq];cases fq (kZ C A af oF k [.i t,.i m,.s b,.s c,.i s,.i h,.s x,.s y]) (A k).length 0<;>simp
   have hcat:(eo C A af oF [.i t,.i m,.s b,.s c,.i s,.i h,.s x,.s y] (d+1) k).map (D9 C i)=q++(eo C A af oF [.i t,.i m,.s b,.s c,.i s,.i h,.s x,.s y] d (k+1)).map (D9 C i):=by
    rw[M,hq];cases fq (kZ C A af oF k [.i t,.i m,.s b,.s c,.i s,.i h,.s x,.s y]) (A k).length 0<;>rfl
   have step:qn [.s (C af),.l (A af),.i t,.i m,.s b,.s c,.i s,.i h,.s x,.s y,.l out,.i i,.i oF,.l L,.i (L.length:Int),.i (k:Int)]=some (none,[.s (C af),.l (A af),.i t,.i m,.s b,.s c,.i s,.i h,.s x,.s y,.l (out++q),.i i,.i oF,.l L,.i (L.length:Int),.i ((k:Int)+1)]):=by
    refine aa.toEq ?_;unfold qn
    (dsimp only[go_sem])
    simp only[a7,R.get k I]
    (dsimp only[go_sem])
    refine aa.p (aa.p (aa.neg W (aa.neg g2' ?_)));refine aa.call (P:=fun g=>g=[.i (eJ (C k).data.toList c.data.toList:Int)]) (aa.eq N) ?_;rintro _ rfl;refine aa.neg (by rw[cS]; exact decide_eq_false (by show ¬ (2:Int)<(eJ (C k).data.toList c.data.toList:Int); omega)) ?_;refine aa.call (P:=fun g=>g=[.l (bC A C af oF k)]) (aa.eq (X8 (R3 R ho I) (C af) (C k) h1)) ?_;rintro _ rfl
    (dsimp only[go_sem])
    refine aa.loop ((YB R ho I hc i (L.length:Int) (k:Int) out ab (A k).length 0 ab).to ab) fk ?_;rintro e g ⟨rfl,rfl⟩;rw[<-hq]
    (dsimp only[go_sem])
    exact aa.p (aa.pos au (aa.some rfl))
   rw[hcat,<-kl];exact aR.next step (Oi hc cC hC i d (k+1) (out++q) ab (by rw[fV]; omega))
end
theorem YC(h:c∈calls):c.size<=12:=by
 have d:calls.all (fun c=>dv c.size 12)=true:=aB;simpa using eD.1 d c h
theorem ap6(h:fh z):(gi z 3).sV∈calls:=by
 obtain⟨t,m,b,c,s,k,x,y,rfl,_,_,_,_,_,d,_⟩:=h;exact d
theorem ap7(d:bg [.I,.I,.str,.str,.I,.I,.str,.str] z=z):([.i (gi z 0).iV,.i (gi z 1).iV,.s (gi z 2).sV,.s (gi z 3).sV,.i (gi z 4).iV,.i (gi z 5).iV,.s (gi z 6).sV,.s (gi z 7).sV]:LG)=z:=by
 conv=>rhs; rw[<-d]
 cases z with
 |nil=>rfl
 |cons h z=>cases z with
  |nil=>rfl
  |cons k z=>cases z with
   |nil=>rfl
   |cons v z=>cases z with
    |nil=>rfl
    |cons y z=>cases z with
     |nil=>rfl
     |cons M z=>cases z with
      |nil=>rfl
      |cons N z=>cases z with
       |nil=>rfl
       |cons O z=>cases z<;>rfl
section
variable {L:LL} {C:Nat->BY} {A:Nat->LL} (R:mQ L C A) {af:Nat} (ho:af<L.length) {oF:Int} (h0:0<=oF) (h1:oF<=3600000)
include R ho h0 h1
theorem ap8(hi:i<(A af).length):DE [.l L,.l [[.s (C af),.l (A af)]],.i (i:Int),.i oF]=some [.l ((eo C A af oF ((A af).getD i []) L.length 0).map (D9 C (i:Int)))]:=by
 have hn:=R.n;have M:=R.na af ho;have d:=R.lG af ho _ (j7 (z:=[]) hi);have v:fI ((A af).getD i []):=(R3 R ho ho).two.ha _ (j7 hi);have he:=ap7 d.eta;have hr:=Oi R ho h0 h1 (t:=(gi ((A af).getD i []) 0).iV) (m:=(gi ((A af).getD i []) 1).iV) (b:=(gi ((A af).getD i []) 2).sV) (c:=(gi ((A af).getD i []) 3).sV) (s:=(gi ((A af).getD i []) 4).iV) (h:=(gi ((A af).getD i []) 5).iV) (x:=(gi ((A af).getD i []) 6).sV) (y:=(gi ((A af).getD i []) 7).sV)
  (by rw[he]; exact v) (by have:=YC (ap6 d); omega) (fun k I=>YC (R.call k I)) (i:Int) L.length 0 [] ab (aV _)
 rw[he]at hr;refine aa.toEq ?_;unfold DE
 (dsimp only[go_sem])
 simp only[a7];refine aa.p ?_;refine aa.loop (hr.to ab) fk ?_;rintro e g ⟨rfl,rfl⟩
 (dsimp only[go_sem])
 exact aa.pos au (aa.some rfl)
omit R ho h0 h1 in
theorem ap9(q:LL)(hq:q.length<=100000)(y:∀r∈q,∃a b:Nat,r=[.i (a:Int),.i (b:Int)])(i:Nat):Ig [.l q,.i (i:Int)]=some [.i (qx ((q.find? fun r=>(gi r 0).iV==(i:Int)).map fun r=>(gi r 1).iV.toNat))]:=by
 have key:∀(p:LL),(fq (fun j=>(gi (p.getD j []) 0).iV==(i:Int)) p.length 0).map (fun j=>(gi (p.getD j []) 1).iV.toNat)=(p.find? fun r=>(gi r 0).iV==(i:Int)).map fun r=>(gi r 1).iV.toNat:=by
  have gen:∀(p pre:LL),(fq (fun j=>(gi ((pre++p).getD j []) 0).iV==(i:Int)) p.length pre.length).map (fun j=>(gi ((pre++p).getD j []) 1).iV.toNat)=(p.find? fun r=>(gi r 0).iV==(i:Int)).map fun r=>(gi r 1).iV.toNat:=by
   intro p
   induction p with
   |nil=>intro pre; rfl
   |cons r p d=>
    intro pre;have M:(pre++r::p).getD pre.length []=r:=by
     rw[dc,List.getElem?_append_right (aV _),Nat.sub_self];rfl
    have d:=d (pre++[r]);rw[kl,fV]at d;have d:(fq (fun j=>(gi ((pre++r::p).getD j []) 0).iV==(i:Int)) p.length (pre.length+1)).map (fun j=>(gi ((pre++r::p).getD j []) 1).iV.toNat)=(p.find? fun r=>(gi r 0).iV==(i:Int)).map fun r=>(gi r 1).iV.toNat:=d
    grind[fq]
  intro p;exact gen p []
 have hr:=D8 (st:=DB) (mk:=fun j=>[.i (i:Int),.l q,.i (q.length:Int),.i (j:Int)]) (p:=fun j=>(gi (q.getD j []) 0).iV==(i:Int)) (out:=fun j=>[.i (gi (q.getD j []) 1).iV]) (n:=q.length) (fun j N=>by
   unfold DB
   (dsimp only[go_sem])
   simp only[a7];refine aa.p (aa.p ?_);refine aa.test (fun h=>aa.some (.inl ⟨h,rfl⟩)) fun h=>aa.p (aa.some (.inr ⟨h,rfl⟩))) (by
   refine aa.toEq ?_;unfold DB
   (dsimp only[go_sem])
   exact aa.n (aa.some rfl)) q.length 0 ab
 rw[<-key q];refine aa.toEq ?_;unfold Ig
 (dsimp only[go_sem])
 refine aa.loop (hr.to ab) rfl ?_;rintro x g (⟨rfl,v,k,rfl⟩|⟨rfl,k⟩)
 ·obtain⟨_,I,_⟩:=IV k
  obtain⟨a,b,e⟩:=y _ (j7 (z:=[]) (show v<q.length by omega));rw[k];refine aa.pos rfl (aa.some ?_);show [G.i (gi (q.getD v []) 1).iV]=[.i (((gi (q.getD v []) 1).iV.toNat:Nat):Int)]
  rw[e];rfl
 ·rw[k]
  exact aa.neg rfl (aa.some rfl)
theorem ap_(hi:i<(A af).length):Ik [.l L,.l [[.s (C af),.l (A af)]],.i (i:Int),.i oF]=some [.l [gH L C A af oF i]]:=by
 have hn:=R.n;have hna:=R.na af ho;have hcon:=R.lG af ho _ (j7 (z:=[]) hi);have hM:fI ((A af).getD i []):=(R3 R ho ho).two.ha _ (j7 hi);have hw:=ap8 R ho h0 h1 hi;have hlt:=Og R.AF ho oF (z:=(A af).getD i []) L.length 0 ab;have U:∀(u:Int) (b:Bool),b=bq 0 u->gH L C A af oF i=pJ L C A af oF i b->aa (aI (DE [.l L,.l [[.s (C af),.l (A af)]],.i (i:Int),.i oF]) fun g=>(bif ((((gi g 0).rZ.length:Nat):Int)==1) then (bif aN 0 (((gi g 0).rZ.length:Nat):Int) then some [G.l [bg gy ((gi g 0).rZ.getD 0 [])]] else none) else (bif bq 0 u then some [.l [[.i (i:Int),.i 4,.s ⟨#[]⟩,.i (-1)]]] else some [.l [[.i (i:Int),.i 5,.s ⟨#[]⟩,.i (-1)]]]))) fun g=>g=[.l [gH L C A af oF i]]:=fun u b hb M=>by
  rw[M];refine aa.cE hw ?_
  (dsimp only[go_sem])
  unfold pJ;cases eo C A af oF ((A af).getD i []) L.length 0 with
  |nil=>
   refine aa.neg rfl ?_;rw[<-hb];cases b<;>exact aa.some rfl
  |cons x q=>
   cases q with
   |nil=>exact aa.pos rfl (aa.pos rfl (aa.some rfl))
   |cons y q=>
    refine aa.neg ?_ ?_
    ·rw[beq_eq_false_iff_ne,cP,cz,cz]
     omega
    rw[<-hb];cases b<;>exact aa.some rfl
 refine aa.toEq ?_;unfold Ik
 (dsimp only[go_sem])
 simp only[a7];refine aa.p ?_;refine aa.cE (Oh R (gi ((A af).getD i []) 3).sV) ?_
 (dsimp only[go_sem])
 cases N:gT L C (gi ((A af).getD i []) 3).sV with
 |none=>
  refine aa.neg rfl ?_;refine U (qx none) false rfl ?_;unfold gH;rw[N]
 |some k=>
  obtain⟨_,v,I⟩:=IV N;have v:k<L.length:=ab;have I:C k=(gi ((A af).getD i []) 3).sV:=of_decide_eq_true I;have hnk:=R.na k v;have e1:qx (some k)=(k:Int):=rfl;rw[e1];have W:bq 0 (k:Int)=true:=by rw[fe]; exact dE ab
  refine aa.pos W ?_;simp only[a7,R.get k v];refine aa.p ?_;refine aa.call (P:=fun g=>g=[.l (bC A C af oF k)]) (aa.eq (X8 (R3 R ho v) (C af) (C k) h1)) ?_;rintro _ rfl
  (dsimp only[go_sem])
  have hpl:=YA R ho (oF:=oF) v;have hpp:∀r∈bC A C af oF k,∃a b:Nat,r=[.i (a:Int),.i (b:Int)]:=fun r hr=>by
   obtain⟨x,y,rfl,_⟩:=uS (R3 R ho v).two hr;exact⟨x,y,rfl⟩
  refine aa.call (P:=fun g=>g=[.i (qx (sQ C A af oF k i))]) (aa.eq (ap9 _ ab hpp i)) ?_;rintro _ rfl
  (dsimp only[go_sem])
  cases d:sQ C A af oF k i with
  |none=>
   refine aa.neg rfl ?_;refine U (k:Int) true W.symm ?_;unfold gH;rw[N];simp only[d]
  |some j=>
   have hjl:j<(A k).length:=by
    unfold sQ at d;cases O:(bC A C af oF k).find? fun r=>(gi r 0).iV==(i:Int)with
    |none=>rw[O]at d; cases d
    |some r=>
     rw[O]at d;have hm:=List.mem_of_find?_eq_some O;obtain⟨x,y,rfl,_,hy,_⟩:=uS (R3 R ho v).two hm;have d:(y:Int).toNat=j:=jB d;rw[a7]at d;omega
   have e2:qx (some j)=(j:Int):=rfl;rw[e2];have hy:fI ((A k).getD j []):=(R3 R ho v).two.hb _ (j7 hjl);refine aa.pos (by rw[fe]; exact dE ab) ?_;simp only[a7,hM.1,hy.1];refine aa.p (aa.p ?_);refine aa.cE (Yz _ _) ?_;have M:gH L C A af oF i=[.i (i:Int),.i (bif kE ((A k).getD j []) ((A af).getD i []) then 1 else 3),.s (C k),.i (j:Int)]:=by
    unfold gH;rw[N];simp only[d]
   refine aa.test (fun h=>aa.some ?_) fun h=>aa.some ?_
   ·have h:kE ((A k).getD j []) ((A af).getD i [])=true:=h
    rw[M,h,I];rfl
   ·have h:kE ((A k).getD j []) ((A af).getD i [])=false:=h
    rw[M,h,I];rfl
omit R ho h0 h1 in
theorem YD(i:Nat):∀o∈c6 L C A af oF i,∃(j:Nat) (d:Int) (w:BY) (v:Int),o=[.i (j:Int),.i d,.s w,.i v]/\j<i:=by
 induction i with
 |zero=>intro o h; cases h
 |succ i k=>
  intro o h;rw[c6]at h;rcases dm.1 h with h|h
  ·obtain⟨j,d,w,v,e,y⟩:=k o h
   exact⟨j,d,w,v,e,ab⟩
  ·rw[pP.1 h]
   cases lH A af (c6 L C A af oF i) i with
   |true=>exact⟨i,6,_,-1,rfl,ab⟩
   |false=>
    obtain⟨d,w,v,e⟩:=IX L C A af oF i;exact⟨i,d,w,v,e,ab⟩
omit R ho h0 h1 in
theorem ap':∀(n j:Nat),((c6 L C A af oF n).any fun o=>me A af (gi o 0).iV.toNat j&&(ve o||(gi o 1).iV==6))=lH A af (c6 L C A af oF n) j:=by
 intro n
 induction n with
 |zero=>intro j; rfl
 |succ n k=>
  intro j;rw[c6];cases y:lH A af (c6 L C A af oF n) n with
  |true=>
   rw[cT,ZU,k j,IY];simp only[Ex,OY,rH];rw[show ((6:Int)==1||(6:Int)==3)=false from rfl,A9,rH];show (lH A af (c6 L C A af oF n) j||(me A af ((n:Int).toNat) j&&_))=_
   rw[a7];cases M:me A af n j with
   |false=>rw[A_,rH]
   |true=>
    rw[Yu M]at y;rw[y,Bool.true_or]
  |false=>
   obtain⟨d,w,v,e⟩:=IX L C A af oF n;rw[cF,e,ZU,k j,IY];simp only[Ex,OY,rH];congr 1;show (me A af ((n:Int).toNat) j&&((d==1||d==3)||d==6))=_
   rw[a7];have N:(d==6)=false:=by
    have:d=1\/d=3\/d=2\/d=4\/d=5:=by
     have I:∀b,∀(d:Int) (w:BY) (v:Int),pJ L C A af oF n b=[.i (n:Int),.i d,.s w,.i v]->d=1\/d=3\/d=2\/d=4\/d=5:=fun b d w v h=>by
      unfold pJ at h;split at h
      ·cases h; omega
      ·cases b<;>(cases h; decide)
     unfold gH at e;split at e
     ·split at e
      ·injection e with _ e
       injection e with e _
       injection e with e
       rw[<-e];cases kE ((A _).getD _ []) ((A af).getD n [])<;>simp
      ·exact I _ _ _ _ e
     ·exact I _ _ _ _ e
    rw[beq_eq_false_iff_ne];omega
   rw[N,rH]
theorem aqa(hn:n<=(A af).length)(W:j<(A af).length):H8 [.l (c6 L C A af oF n),.l [[.s (C af),.l (A af)]],.l [(A af).getD j []]]=some [.t (lH A af (c6 L C A af oF n) j)]:=by
 have hna:=R.na af ho;have M:=AO L C A af oF n;have N:=R.lG af ho _ (j7 (z:=[]) W);have k:=N.eta;have O:∀o∈c6 L C A af oF n,H7 [.l [o],.l [[.s (C af),.l (A af)]],.l [(A af).getD j []]]=some [.t (me A af (gi o 0).iV.toNat j&&(ve o||(gi o 1).iV==6))]:=fun o U=>by
  obtain⟨t,d,w,v,rfl,ht⟩:=YD n o U;refine aa.toEq ?_;unfold H7
  (dsimp only[go_sem])
  simp only[a7];refine aa.p ?_;have e:me A af t j=(((gi ((A af).getD t []) 3).sV.toList==(gi ((A af).getD j []) 3).sV.toList)&&(((gi ((A af).getD t []) 2).sV.toList==(gi ((A af).getD j []) 2).sV.toList)&&(((gi ((A af).getD t []) 1).iV==(gi ((A af).getD j []) 1).iV)&&true))):=rfl;have eg:(ve [G.i (t:Int),.i d,.s w,.i v]||d==6)=((d==1||d==3)||d==6):=rfl;rw[e,eg];cases ((gi ((A af).getD t []) 3).sV.toList==(gi ((A af).getD j []) 3).sV.toList)with
  |false=>grind[aa.some]
  |true=>
   refine aa.pos rfl ?_;cases ((gi ((A af).getD t []) 2).sV.toList==(gi ((A af).getD j []) 2).sV.toList)with
   |false=>grind[aa.some]
   |true=>
    refine aa.pos rfl ?_;cases ((gi ((A af).getD t []) 1).iV==(gi ((A af).getD j []) 1).iV)with
    |false=>grind[aa.some]
    |true=>
     refine aa.pos rfl ?_;cases d==1 with
     |true=>grind[aa.some]
     |false=>
      refine aa.neg rfl ?_;cases d==3 with
      |true=>grind[aa.some]
      |false=>grind[aa.some]
 have hr:=D8 (st:=Ds) (mk:=fun i=>[.l (c6 L C A af oF n),.l [[.s (C af),.l (A af)]],.l [(A af).getD j []],.i (n:Int),.i (i:Int)]) (p:=fun i=>(fun o=>me A af (gi o 0).iV.toNat j&&(ve o||(gi o 1).iV==6)) ((c6 L C A af oF n).getD i [])) (out:=fun i=>[.i (i:Int)]) (n:=n) (fun i hi=>by
   have hm:(c6 L C A af oF n).getD i []∈c6 L C A af oF n:=j7 ab;obtain⟨t,d,w,v,e,_⟩:=YD n _ hm;have he:bg gy ((c6 L C A af oF n).getD i [])=(c6 L C A af oF n).getD i []:=by rw[e]; rfl
   unfold Ds
   (dsimp only[go_sem])
   simp only[a7,he,k];refine aa.p (aa.p ?_);refine aa.cE (O _ hm) ?_;refine aa.test (fun h=>aa.some (.inl ⟨h,rfl⟩)) fun h=>aa.p (aa.some (.inr ⟨h,rfl⟩))) (by
   refine aa.toEq ?_;unfold Ds
   (dsimp only[go_sem])
   exact aa.n (aa.some rfl)) n 0 ab
 have I:=Yy (fun o=>me A af (gi o 0).iV.toNat j&&(ve o||(gi o 1).iV==6)) [] (c6 L C A af oF n);rw[M,ap']at I;refine aa.toEq ?_;unfold H8
 (dsimp only[go_sem])
 simp only[k];refine aa.call (P:=fun g=>g=[.i (qx (fq (fun i=>(fun o=>me A af (gi o 0).iV.toNat j&&(ve o||(gi o 1).iV==6)) ((c6 L C A af oF n).getD i [])) n 0))]) ?_ ?_
 ·unfold Np
  (dsimp only[go_sem])
  simp only[k,M];refine aa.loop (hr.to ab) fk ?_;rintro x g (⟨rfl,v,y,rfl⟩|⟨rfl,y⟩)
  ·rw[y]
   exact aa.pos rfl (aa.some rfl)
  ·rw[y]
   exact aa.neg rfl (aa.some rfl)
 ·rintro _ rfl
  refine aa.some ?_;rw[<-I];cases fq (fun i=>(fun o=>me A af (gi o 0).iV.toNat j&&(ve o||(gi o 1).iV==6)) ((c6 L C A af oF n).getD i [])) n 0 with
  |none=>rfl
  |some v=>
   show [G.t (bq 0 (v:Int))]=[.t true]
   rw[fe,dE ab]
theorem aqb:Il [.l L,.s (C af),.i oF]=some [.l (c6 L C A af oF (A af).length)]:=by
 have hn:=R.n;have M:=R.na af ho;refine aa.toEq ?_;unfold Il
 (dsimp only[go_sem])
 refine aa.cE (Oh R (C af)) ?_;rw[IW R.AF ho rfl];have I:qx (some af)=(af:Int):=rfl
 (dsimp only[go_sem])
 rw[I];simp only[a7,R.get af ho]
 (dsimp only[go_sem])
 refine aa.p ?_;have r:=uu (st:=DF) (σ:=Unit) (fun _ i=>[.s (C af),.l (A af),.l (c6 L C A af oF i),.l L,.i oF,.l (A af),.i ((A af).length:Int),.i (i:Int)]) (A af) (fun _=>(0,[.l (c6 L C A af oF (A af).length)])) (fun _ _=>True) () ab trivial
  (fun _ i z _ hi d hm _=>by
   have N:=AO L C A af oF i;have he:=(R.lG af ho z hm).eta;have h:=aqa R ho h0 h1 (n:=i) ab (j:=i) hi;rw[d]at h;unfold DF
   (dsimp only[go_sem])
   simp only[a7,d,he];refine aa.p (aa.p ?_);refine aa.jx (aa.eq h) fk ?_;rintro _ rfl
   (dsimp only[go_sem])
   cases k:lH A af (c6 L C A af oF i) i with
   |true=>
    refine aa.neg rfl ?_;refine aa.pos (by rw[jD,iD,dT]; omega) (aa.p (aa.pos au (aa.some ⟨(),?_,trivial⟩)));have e:c6 L C A af oF (i+1)=c6 L C A af oF i++[[.i (i:Int),.i 6,.s (⟨#[]⟩:BY),.i (-1)]]:=by rw[c6,k]; rfl
    rw[e];rfl
   |false=>
    refine aa.pos rfl ?_;refine aa.call (P:=fun g=>g=[.l [gH L C A af oF i]]) (aa.eq (ap_ R ho h0 h1 hi)) ?_;rintro _ rfl
    (dsimp only[go_sem])
    obtain⟨O,w,v,hr⟩:=IX L C A af oF i;have y:bg gy (gH L C A af oF i)=gH L C A af oF i:=by rw[hr]; rfl
    simp only[y];refine aa.pos (by rw[jD,iD,dT]; omega) (aa.p (aa.pos au (aa.some ⟨(),?_,trivial⟩)));have e:c6 L C A af oF (i+1)=c6 L C A af oF i++[gH L C A af oF i]:=by rw[c6,k]; rfl
    rw[e];rfl)
  (fun _ _=>by
   unfold DF
   (dsimp only[go_sem])
   exact aa.n (aa.pos au (aa.some rfl)))
 refine aa.loop r fk ?_;rintro c g ⟨_,_,rfl,rfl⟩
 (dsimp only[go_sem])
 exact aa.pos au (aa.some rfl)
end
def Oj(rZ:LL):Prop:=∀r∈rZ,(gi r 1).iV=1\/(gi r 1).iV=2\/(gi r 1).iV=3\/(gi r 1).iV=4\/(gi r 1).iV=5\/(gi r 1).iV=6
def cK(rZ:LL)(k:Int):Int:=((rZ.countP fun r=>(gi r 1).iV==k:Nat):Int)
theorem qy(rZ:LL)(k:Int):0<=cK rZ k/\cK rZ k<=(rZ.length:Int):=by
 unfold cK;have:=asF (p:=fun r=>(gi r 1).iV==k) (l:=rZ);omega
theorem vg(rZ:LL)(x:LG)(k:Int):cK (rZ++[x]) k=cK rZ k+if (gi x 1).iV=k then 1 else 0:=by
 unfold cK;rw[asG,asH];by_cases h:(gi x 1).iV=k
 ·rw[iP h,iP (by simpa using h)]
  rfl
 ·rw[iN h,iN (by simpa using h)]
  rfl
def cV(rZ:LL):LG:=[.i (cK rZ 0),.i (cK rZ 1),.i (cK rZ 2),.i (cK rZ 3),.i (cK rZ 4),.i (cK rZ 5),.i (cK rZ 6)]
theorem aqc(rZ:LL)(hn:rZ.length<=90)(d:Oj rZ):HS [.l rZ]=some [.l [cV rZ]]:=by
 have r:=uu (st:=Dd) (σ:=Unit) (fun _ i=>[.i 0,.i 0,.i 0,.i 0,.i 0,.i 0,.i 0,.i (cK (rZ.take i) 0),.i (cK (rZ.take i) 1),.i (cK (rZ.take i) 2),.i (cK (rZ.take i) 3),.i (cK (rZ.take i) 4),.i (cK (rZ.take i) 5),.i (cK (rZ.take i) 6),.l rZ,.i (rZ.length:Int),.i (i:Int)]) rZ
  (fun _=>(0,[.i 0,.i 0,.i 0,.i 0,.i 0,.i 0,.i 0,.i (cK rZ 0),.i (cK rZ 1),.i (cK rZ 2),.i (cK rZ 3),.i (cK rZ 4),.i (cK rZ 5),.i (cK rZ 6)])) (fun _ _=>True) () ab trivial
  (fun _ i x _ hi k hm v=>by
   have y:=vg (rZ.take i) x 0;have I:=vg (rZ.take i) x 1;have M:=vg (rZ.take i) x 2;have N:=vg (rZ.take i) x 3;have O:=vg (rZ.take i) x 4;have U:=vg (rZ.take i) x 5;have W:=vg (rZ.take i) x 6;have hl:(rZ.take i).length<=90:=by rw[mg]; omega
   have b1:=qy (rZ.take i) 1;have b2:=qy (rZ.take i) 2;have b3:=qy (rZ.take i) 3;have b4:=qy (rZ.take i) 4;have b5:=qy (rZ.take i) 5;have b6:=qy (rZ.take i) 6;rw[v,y,I,M,N,O,U,W];unfold Dd
   (dsimp only[go_sem])
   simp only[a7,k];rcases d x hm with h|h|h|h|h|h<;>simp only[h]<;>(refine aa.p (aa.p (aa.pos rfl (aa.pos rfl (aa.pos (er.2 ⟨bS,bS⟩) (aa.pos rfl (aa.pos rfl (aa.p (aa.some ⟨(),?_,trivial⟩)))))))); simp; exact⟨rfl,rfl,rfl,rfl,rfl,rfl⟩))
  (fun _ _=>by
   unfold Dd
   (dsimp only[go_sem])
   simp only[asI];exact aa.n (aa.some rfl))
 refine aa.toEq ?_;unfold HS
 (dsimp only[go_sem])
 refine aa.loop r fk ?_;rintro c g ⟨_,_,rfl,rfl⟩;exact aa.some rfl
theorem YE:∀ a b:List UInt8,mV a b=decide (gA a b<0)
 |[],[]=>by simp[mV,gA]
 |[],_::_=>by simp[mV,gA]
 |_::_,[]=>by simp[mV,gA]
 |a::x,b::y=>by
  simp only[mV,gA,YE x y];by_cases h1:a<b
  ·simp[h1]
  ·by_cases d:b<a
   ·have h:¬ a=b:=fun e=>h1 (by rw[e]at d |-; exact d)
    simp[h1,d,h]
   ·have e:a=b:=OX (xL.1 d) (xL.1 h1)
    simp[h1,d,e]
theorem aqd (h:(mV a.toList b.toList||(a.toList==b.toList))=false):dD b a<0:=by
 rw[YE,l8,O3,dF,dF]at h;have e:gA a.toList b.toList=dD a b:=by
  unfold dD;rw[ta,ta]
 rw[e]at h;have d:=oB.flip a b;have k:dD a b≠0:=fun h0=>h.2 (qp.1 h0);omega
section
variable {L:LL} {C:Nat->BY} {A:Nat->LL} (R:AI L C A)
include R
theorem YF:∀ k i:Nat,kF C A k i=0->∀ j,i<=j->j<i+k->l9 C A j=0
 |0,i,_,j,h1,v=>by omega
 |k+1,i,h,j,h1,v=>by
  rw[kF]at h;split at h
  ·rename_i d
   exact(d h).elim
  ·rename_i y
   by_cases e:j=i
   ·subst e
    simpa using y
   ·exact YF k (i+1) h j ab ab
theorem aqe(h:kF C A L.length 0=0):mQ L C A:=by
 have N:∀j,j<L.length->l9 C A j=0:=fun j k=>YF R L.length 0 h j (fy _) ab;have y:∀j,j<L.length->lF (C j) (A j)=0/\(0<j->oD C j=false):=fun j k=>by
  have h1:=N j k;unfold l9 at h1;cases M:jK (C j)with
  |false=>rw[M]at h1; cases h1
  |true=>
   rw[M]at h1;have h1:(bif aN 0 (j:Int)&&oD C j then 7 else lF (C j) (A j))=(0:Int):=h1;cases v:aN 0 (j:Int)&&oD C j with
   |true=>rw[v]at h1; cases h1
   |false=>
    rw[v]at h1;refine⟨h1,fun U=>?_⟩;rw[show aN 0 (j:Int)=true by rw[cS]; exact dE ab,iD]at v;exact v
 have I:∀j,0<j->j<L.length->dD (C (j-1)) (C j)<0:=fun j h0 k=>aqd ((y j k).2 h0);refine⟨R.get,R.n,R.lG,R.na,R.call,fun i j W k=>?_,fun i h0 hi=>(y i hi).2 h0,fun i hi=>(y i hi).1⟩;have key:∀d,i+1+d<L.length->dD (C i) (C (i+1+d))<0:=by
  intro d
  induction d with
  |zero=>intro h; exact I (i+1) ab h
  |succ d O=>
   intro h;exact oB.tr _ _ _ (O ab) (I (i+1+(d+1)) ab h)
 have:=key (j-(i+1)) ab
 rwa [show i+1+(j-(i+1))=j by omega]at this
end
theorem aqf(L:LL)(C:Nat->BY)(A:Nat->LL)(af:Nat)(oF:Int)(n:Nat):∃(d:Int) (w:BY) (v:Int),gH L C A af oF n=[.i (n:Int),.i d,.s w,.i v]/\(d=1\/d=2\/d=3\/d=4\/d=5\/d=6):=by
 have h:∀b,∃(d:Int) (w:BY) (v:Int),pJ L C A af oF n b=[.i (n:Int),.i d,.s w,.i v]/\(d=1\/d=2\/d=3\/d=4\/d=5\/d=6):=fun b=>by
  unfold pJ;split
  ·exact⟨2,_,_,rfl,ab⟩
  ·cases b with
   |true=>exact⟨4,_,_,rfl,ab⟩
   |false=>exact⟨5,_,_,rfl,ab⟩
 unfold gH;split
 ·rename_i k y
  split
  ·rename_i j I
   cases kE ((A k).getD j []) ((A af).getD n [])with
   |true=>exact⟨1,_,_,rfl,ab⟩
   |false=>exact⟨3,_,_,rfl,ab⟩
  ·exact h _
 ·exact h _
theorem YG(L:LL)(C:Nat->BY)(A:Nat->LL)(af:Nat)(oF:Int):∀ n,Oj (c6 L C A af oF n)/\∀ r∈c6 L C A af oF n,bg gy r=r
 |0=>⟨show Oj [] from fun r h=>(pQ h).elim,fun r h=>(pQ h).elim⟩
 |n+1=>by
  obtain⟨h1,k⟩:=YG L C A af oF n;have hr:∃(d:Int) (w:BY) (v:Int),(bif lH A af (c6 L C A af oF n) n then [.i (n:Int),.i 6,.s (⟨#[]⟩:BY),.i (-1)] else gH L C A af oF n)=[.i (n:Int),.i d,.s w,.i v]/\(d=1\/d=2\/d=3\/d=4\/d=5\/d=6):=by
   cases lH A af (c6 L C A af oF n) n with
   |true=>exact⟨6,_,_,rfl,ab⟩
   |false=>exact aqf L C A af oF n
  obtain⟨d,w,v,e,y⟩:=hr;rw[c6,e];refine⟨fun r h=>?_,fun r h=>?_⟩
  ·rcases dm.1 h with h | h
   ·exact h1 r h
   ·rw[pP.1 h]
    exact y
  ·rcases dm.1 h with h | h
   ·exact k r h
   ·rw[pP.1 h]
    rfl
theorem YH(l:LL)(hn:l.length<=100000):Ap [.l l,.l l]=some [.t true]:=by
 have r:=uu (st:=DH) (σ:=Unit) (fun _ i=>[.l l,.l l,.i (l.length:Int),.i (i:Int)]) l (fun _=>(1,[])) (fun _ _=>True) () ab trivial
  (fun _ i x _ hi d hm _=>by
   unfold DH
   (dsimp only[go_sem])
   simp only[a7,d];refine aa.p (aa.p (aa.p (aa.neg ?_ (aa.p (aa.some ⟨(),rfl,trivial⟩)))));rw[MC _ _ rfl];rfl)
  (fun _ _=>by
   unfold DH
   (dsimp only[go_sem])
   exact aa.n (aa.some rfl))
 refine aa.toEq ?_;unfold Ap
 (dsimp only[go_sem])
 refine aa.neg au ?_;refine aa.loop r rfl ?_;rintro c g ⟨_,_,rfl,rfl⟩;exact aa.neg rfl (aa.some rfl)
theorem AP(a b:Int):qm [.l [[.i a],[.i b]]]=some [.i (if a≠0 then a else b)]:=by
 have key:aR uK [.l [[.i a],[.i b]],.i 2,.i 0] 3 fun x g=>(x=0/\g=[.i (if a≠0 then a else b)])\/(x=1/\(if a≠0 then a else b)=0):=by
  by_cases ha:a≠0
  ·refine aR.stop (x:=0) (d':=[.i a]) (aa.toEq ?_) (.inl ⟨rfl,by rw[iP ha]⟩)
   unfold uK
   (dsimp only[go_sem])
   exact aa.pos rfl (aa.pos rfl (aa.pos (by show (a != 0)=true; grind) (aa.some rfl)))
  ·refine aR.next (d1:=[.l [[.i a],[.i b]],.i 2,.i 1]) (aa.toEq ?_) ?_
   ·unfold uK
    (dsimp only[go_sem])
    exact aa.pos rfl (aa.pos rfl (aa.neg (by show (a != 0)=false; grind) (aa.pos rfl (aa.some rfl))))
   rw[iN ha];by_cases hb:b≠0
   ·refine aR.stop (x:=0) (d':=[.i b]) (aa.toEq ?_) (.inl ⟨rfl,rfl⟩)
    unfold uK
    (dsimp only[go_sem])
    exact aa.pos rfl (aa.pos rfl (aa.pos (by show (b != 0)=true; grind) (aa.some rfl)))
   ·refine aR.next (d1:=[.l [[.i a],[.i b]],.i 2,.i 2]) (aa.toEq ?_) (aR.stop (x:=1) (d':=[]) (aa.toEq ?_) (.inr ⟨rfl,by simpa using hb⟩))
    ·unfold uK
     (dsimp only[go_sem])
     exact aa.pos rfl (aa.pos rfl (aa.neg (by show (b != 0)=false; grind) (aa.pos rfl (aa.some rfl))))
    ·unfold uK
     (dsimp only[go_sem])
     exact aa.neg rfl (aa.some rfl)
 refine aa.toEq ?_;unfold qm
 (dsimp only[go_sem])
 refine aa.loop (key.to ab) rfl ?_;rintro x g (⟨rfl,rfl⟩|⟨rfl,h⟩)
 ·exact aa.pos rfl (aa.some rfl)
 ·rw[h]
  exact aa.neg rfl (aa.some rfl)
theorem YI(b:Bool)(e:Int):Di [.t b,.i e]=some [.i (bif b then e else 0)]:=by
 refine aa.toEq ?_;unfold Di
 (dsimp only[go_sem])
 cases b<;>exact aa.some rfl
section
variable {L:LL} {C:Nat->BY} {A:Nat->LL} (R:mQ L C A) {af:Nat} (ho:af<L.length) {oF:Int} (h0:0<=oF) (h1:oF<=3600000) (cC:oA [.l L]=some [.i 0])
include R ho h0 h1 cC
omit cC in
omit cC in
end
theorem aqg(l:LL)(a:Int)(ha:0<=a)(d:a<=900000):aa (Hl [.l l,.i a]) fun g=>∃v,g=[.l l,.i (a+1),.i v]:=by
 unfold Hl
 (dsimp only[go_sem])
 refine aa.call (sI (-1) 3600001 l a _ ha ab aB aB) ?_;rintro _ ⟨v,rfl,h⟩;exact aa.some ⟨v,rfl⟩
section
variable {L:LL} {C:Nat->BY} {A:Nat->LL} (R:AI L C A)
include R
end
def ka(e:LG):LG:=(gi e 0).rV
theorem D_{K:List Kd}{x:LG}:∀{m:LL},dJ K m x=false↔∀ e∈m,aZ K x (ka e)=false
 |[]=>by simp[GO]
 |r::rs=>by
  rw[yX,O3,D_ (m:=rs)];simp[ka]
theorem aqh{x:LG}:dJ K m x=true↔∃e∈m,aZ K x (ka e)=true:=by
 cases h:dJ K m x with
 |true=>
  refine⟨fun _=>?_,fun _=>rfl⟩;refine OR fun hn=>?_;have:dJ K m x=false:=D_.2 fun e he=>by
   cases hr:aZ K x (ka e)with
   |false=>rfl
   |true=>exact(hn ⟨e,he,hr⟩).elim
  rw[this]at h;cases h
 |false=>
  refine⟨fun h=>(by cases h),fun⟨e,he,hr⟩=>?_⟩;rw[D_.1 h e he]at hr;cases hr
theorem aqi(K:List Kd)(r:LG)(rs:LL)(k:LG):tO K (r::rs) k=bif aZ K k (gi r 0).rV then rs else r::tO K rs k:=by
 unfold tO;simp only[cH];cases aZ K k (gi r 0).rV with
 |true=>rfl
 |false=>
  simp only[cF];rw[qY K k rs (0+1)];cases cH K k rs 0<;>rfl
theorem aqj(K:List Kd)(k:LG):tO K [] k=[]:=rfl
structure iy (K:List Kd) (Q:LG->Prop) (m:LL) (bk:Nat):Prop where
 form:∀e∈m,∃(k v:LG) (n:Nat),e=[.l [k],.l [v],.i (n:Int)]/\n<bk/\Q k
 born:(m.map dM).Nodup
 keys:m.Pairwise fun a b=>aZ K (ka a) (ka b)=false
theorem iy.nil:iy K Q [] 0:=⟨au,au,au⟩
theorem iy.tail{r:LG}(h:iy K Q (r::m) bk):iy K Q m bk:=
 ⟨fun e he=>h.form e (dh _ he),(oL.1 h.born).2,(nf.1 h.keys).2⟩
theorem iy.perm(h:iy K Q m bk)(d:p.Perm m):iy K Q p bk:=
 ⟨fun e he=>h.form e (d.mem_iff.1 he),(d.map dM).nodup_iff.2 h.born,d.symm.pairwise h.keys fun {a b} k=>by rw[oz]; exact k⟩
theorem iy.mH{K:List Kd}{Q:LG->Prop}{m:LL}{bk:Nat}(h:iy K Q m bk):mH m bk=true:=by
 simp only[AL.mH,IC _ h.born,iD,eD,jC];intro e he;obtain⟨k,v,n,rfl,hn,_⟩:=h.form e he;exact hn
theorem iy.get{K:List Kd}{Q:LG->Prop}:∀{m:LL} {bk:Nat},iy K Q m bk->∀ e∈m,∀ z,(∀ k,Q k->aZ K k k=true)->cR K m (ka e) z=(gi e 1).rV
 |r::rs,bk,h,e,he,z,hq=>by
  rw[CH];rcases c_.1 he with rfl|he
  ·obtain⟨k,v,n,rfl,_,h1⟩:=h.form _ dx
   rw[show aZ K (ka [G.l [k],.l [v],.i (n:Int)]) (gi [G.l [k],.l [v],.i (n:Int)] 0).rV=true from hq k h1];rfl
  ·have:=(nf.1 h.keys).1 e he
   rw[oz]at this;rw[show aZ K (ka e) (gi r 0).rV=false from this];exact h.tail.get e he z hq
theorem Ol{K:List Kd}{k v:LG}{bk:Nat}:∀{m:LL},(dV K m k v bk).map dM=(bif dJ K m k then m.map dM else m.map dM++[bk]) /\
  ∀e∈dV K m k v bk,e∈m\/∃z:Int,e=[.l [k],.l [v],.i z]/\((∃r∈m,z=(gi r 2).iV)\/(z=bk/\dJ K m k=false))
 |[]=>by
  rw[GP,GO];exact⟨by simp[dM,gi,G.iV],fun e he=>.inr ⟨bk,pP.1 he,.inr ⟨rfl,rfl⟩⟩⟩
 |r::rs=>by
  obtain⟨h1,d⟩:=Ol (K:=K) (k:=k) (v:=v) (bk:=bk) (m:=rs);rw[GQ,yX];cases y:aZ K k (gi r 0).rV with
  |true=>
   refine⟨rfl,fun e he=>?_⟩;rw[cT]at he;rcases c_.1 he with rfl|he
   ·exact .inr ⟨_,rfl,.inl ⟨r,dx,rfl⟩⟩
   ·exact .inl (dh _ he)
  |false=>
   rw[cF,xF];refine⟨?_,fun e he=>?_⟩
   ·rw[e9,h1]
    cases dJ K rs k<;>rfl
   ·rcases c_.1 he with rfl | he
    ·exact .inl dx
    ·rcases d e he with h | ⟨z,rfl,⟨q,hq,rfl⟩ | ⟨rfl,hq⟩⟩
     ·exact .inl (dh _ h)
     ·exact .inr ⟨_,rfl,.inl ⟨q,dh _ hq,rfl⟩⟩
     ·exact .inr ⟨_,rfl,.inr ⟨rfl,hq⟩⟩
theorem YJ{K:List Kd}{k v:LG}{bk:Nat}:∀{m:LL},m.Pairwise (fun a b=>aZ K (ka a) (ka b)=false)->(dV K m k v bk).Pairwise fun a b=>aZ K (ka a) (ka b)=false
 |[],_=>by
  rw[GP];exact List.pairwise_singleton _ _
 |r::rs,h=>by
  obtain⟨h1,d⟩:=nf.1 h;rw[GQ];cases y:aZ K k (gi r 0).rV with
  |true=>
   rw[cT];refine nf.2 ⟨fun b hb=>?_,d⟩;cases I:aZ K (ka [G.l [k],.l [v],.i (gi r 2).iV]) (ka b)with
   |false=>rfl
   |true=>
    have M:aZ K (ka r) (ka b)=true:=wP (by rw[oz]; exact y) (show aZ K k (ka b)=true from I)
    grind
  |false=>
   rw[cF];refine nf.2 ⟨?_,YJ d⟩;refine D_.1 ?_;rw[CI,oz,show aZ K k (ka r)=false from y,xF];exact D_.2 h1
theorem iy.put(h:iy K Q m bk){k:LG}(d:Q k)(v:LG):iy K Q (dV K m k v bk) (dK K m k bk):=by
 obtain⟨I,M⟩:=Ol (K:=K) (k:=k) (v:=v) (bk:=bk) (m:=m);have y:∀n∈m.map dM,n<bk:=fun n hn=>by
  obtain⟨e,he,rfl⟩:=dS.1 hn;obtain⟨w,v,n,rfl,hn,_⟩:=h.form e he;exact hn
 refine⟨fun e he=>?_,?_,YJ h.keys⟩
 ·unfold dK
  rcases M e he with he|⟨z,rfl,⟨r,hr,rfl⟩|⟨rfl,hq⟩⟩
  ·obtain⟨w,u,n,N,hn,O⟩:=h.form e he
   refine⟨w,u,n,N,?_,O⟩;cases dJ K m k
   ·exact Er hn
   ·exact hn
  ·obtain⟨w,u,n,rfl,hn,_⟩:=h.form r hr
   refine⟨k,v,n,rfl,?_,d⟩;cases dJ K m k
   ·exact Er hn
   ·exact hn
  ·rw[hq]
   exact⟨k,v,bk,rfl,Nat.lt_succ_self bk,d⟩
 ·rw[I]
  cases dJ K m k with
  |true=>exact h.born
  |false=>
   rw[cF,Ez];refine⟨h.born,au,fun a ha b hb e=>?_⟩;rw[pP]at hb;have:=y a ha;omega
theorem IZ{K:List Kd}{k:LG}:∀{m:LL},(tO K m k).Sublist m
 |[]=>by rw[aqj]; exact atd _
 |r::rs=>by
  rw[aqi];cases aZ K k (gi r 0).rV with
  |true=>exact List.sublist_cons_self _ _
  |false=>exact IZ.cons_cons _
theorem iy.del(h:iy K Q m bk)(k:LG):iy K Q (tO K m k) bk:=
 ⟨fun e he=>h.form e (IZ.subset he),h.born.sublist (IZ.map _),h.keys.sublist IZ⟩
instance as4:LawfulBEq BY where
 rfl {a}:=by
  obtain⟨x⟩:=a;show (x==x)=true
  exact beq_self_eq_true x
 eq_of_beq {a b} h:=by
  obtain⟨x⟩:=a;obtain⟨y⟩:=b;have h:(x==y)=true:=h;rw[eq_of_beq h]
theorem AQ{α:Type}{l m:List α}(h:l.Nodup)(d:∀x∈l,x∈m):l.length<=m.length:=by
 classical
 induction l generalizing m with
 |nil=>exact fy _
 |cons a l v=>
  obtain⟨h1,y⟩:=oL.1 h;have ha:=d a dx;have I:=v (m:=m.erase a) y fun x k=>(List.mem_erase_of_ne (by rintro rfl; exact h1 k)).2 (d x (dh _ k));have M:=List.length_erase_of_mem ha;have N:=List.length_pos_of_mem ha;rw[cz];omega
def AR(k:LG):Prop:=∃s:BY,k=[.s s]
theorem xv(a b:BY):aZ [.str] [.s a] [.s b]=decide (a=b):=by
 show ((a.toList==b.toList)&&true)=_
 rw[jQ,l8]
def eZ(m:LL)(k:BY):Int:=(gi (cR [.str] m [.s k] [.i 0]) 0).iV
def mT(s:LL × Nat)(k:BY):LL × Nat:=(dV [.str] s.1 [.s k] [.i (eZ s.1 k+1)] s.2,dK [.str] s.1 [.s k] s.2)
def bH(l:List BY):LL × Nat:=l.foldl mT ([],0)
theorem aqk(s:LL × Nat)(n k:BY):eZ (mT s n).1 k=eZ s.1 k+(if k=n then 1 else 0):=by
 unfold mT;show (gi (cR [.str] (dV [.str] s.1 [.s n] [.i (eZ s.1 n+1)] s.2) [.s k] [.i 0]) 0).iV=_
 rw[wQ,xv];by_cases h:k=n
 ·rw[dE h,iP h,h]
  rfl
 ·rw[decide_eq_false h,iN h,asJ]
  rfl
theorem YK(k:BY):∀(l:List BY) (s:LL × Nat),eZ (l.foldl mT s).1 k=eZ s.1 k+(l.count k:Nat)
 |[],s=>by simp
 |n::l,s=>by
  rw[Jc,YK k l,aqk,asK];by_cases h:k=n
  ·subst h
   simp;omega
  ·rw[iN h,iN (by simpa using fun e=>h e.symm)]
   omega
theorem Ea(l:List BY)(k:BY):eZ (bH l).1 k=(l.count k:Nat):=by
 unfold bH;rw[YK];show (0:Int)+_=_
 omega
theorem YL:∀(l:List BY) (s:LL × Nat),iy [.str] AR s.1 s.2->iy [.str] AR (l.foldl mT s).1 (l.foldl mT s).2
 |[],s,h=>h
 |n::l,s,h=>YL l (mT s n) (h.put ⟨n,rfl⟩ _)
theorem Om(l:List BY):iy [.str] AR (bH l).1 (bH l).2:=YL l _ iy.nil
theorem YM(k:BY):∀(l:List BY) (s:LL × Nat),dJ [.str] (l.foldl mT s).1 [.s k]=(dJ [.str] s.1 [.s k]||l.contains k)
 |[],s=>by simp
 |n::l,s=>by
  rw[Jc,YM k l];have:dJ [.str] (mT s n).1 [.s k]=(decide (k=n)||dJ [.str] s.1 [.s k]):=by
   unfold mT;rw[CI,xv]
  rw[this,asL];cases dJ [.str] s.1 [.s k]<;>cases h:decide (k=n)<;>simp_all
theorem YN(l:List BY)(k:BY):bH (l++[k])=mT (bH l) k:=by
 unfold bH;rw[Ju];rfl
theorem On:∀(l:List BY) (s:LL × Nat),(l.foldl mT s).1.length<=s.1.length+l.length
 |[],s=>by simp
 |n::l,s=>by
  have h1:=On l (mT s n);have d:(mT s n).1.length<=s.1.length+1:=by
   unfold mT;have:=(Ol (K:=[.str]) (k:=[.s n]) (v:=[.i (eZ s.1 n+1)]) (bk:=s.2) (m:=s.1)).1;have:=congrArg xJ this;rw[cP]at this;rw[this]
   grind
  grind
def jg(m:LL):List BY:=m.map fun e=>(gi (ka e) 0).sV
theorem aql(h:iy [.str] AR m bk){k:BY}:k∈jg m↔dJ [.str] m [.s k]=true:=by
 unfold jg;rw[aqh,dS];constructor
 ·rintro⟨e,he,rfl⟩
  refine⟨e,he,?_⟩;obtain⟨_,v,n,rfl,_,s,rfl⟩:=h.form e he;show aZ [.str] [.s s] [.s s]=true
  rw[xv];exact dE rfl
 ·rintro⟨e,he,hr⟩
  refine⟨e,he,?_⟩;obtain⟨_,v,n,rfl,_,s,rfl⟩:=h.form e he;have hr:aZ [.str] [.s k] [.s s]=true:=hr;rw[xv,dT]at hr;exact hr.symm
theorem YO(h:iy [.str] AR m bk):(jg m).Nodup:=by
 unfold jg List.Nodup;rw[qA];refine h.keys.imp_of_mem fun {a b} ha hb d e=>?_;obtain⟨_,v,n,rfl,_,s,rfl⟩:=h.form a ha;obtain⟨_,k,y,rfl,_,s2,rfl⟩:=h.form b hb;have d:aZ [.str] [.s s] [.s s2]=false:=d;have e:s=s2:=e;rw[xv,dF]at d;exact d e
theorem YP(l:List BY)(k:BY):k∈jg (bH l).1↔k∈l:=by
 rw[aql (Om l)];unfold bH;rw[YM];show (false||l.contains k)=true↔_
 simp
theorem Oo(h1:n<100):mM [.i (n:Int)]=some [.s (gx (n:Int))]:=by
 refine aa.toEq ?_;unfold mM
 (dsimp only[go_sem])
 exact aa.p (aa.some rfl)
def Eb(s:LL × Nat)(k:BY):LL × Nat:=(dV [.str] s.1 [.s k] [.t true] s.2,dK [.str] s.1 [.s k] s.2)
def AS(m:LL)(k:BY):Bool:=(gi (cR [.str] m [.s k] [.t false]) 0).bV
theorem aqm(s:LL × Nat)(n k:BY):AS (Eb s n).1 k=(decide (k=n)||AS s.1 k):=by
 unfold Eb AS;show (gi (cR [.str] (dV [.str] s.1 [.s n] [.t true] s.2) [.s k] [.t false]) 0).bV=_
 rw[wQ,xv];cases decide (k=n)<;>rfl
def vh(l:List BY):LL × Nat:=l.foldl Eb ([],0)
theorem aqn(l:List BY)(k:BY):vh (l++[k])=Eb (vh l) k:=by
 unfold vh;rw[Ju];rfl
theorem YQ(k:BY):∀(l:List BY) (s:LL × Nat),AS (l.foldl Eb s).1 k=(AS s.1 k||l.contains k)
 |[],s=>by simp
 |n::l,s=>by
  rw[Jc,YQ k l,aqm,asL]
  grind
theorem aqo(l:List BY)(k:BY):AS (vh l).1 k=l.contains k:=by
 unfold vh;rw[YQ];rfl
def fC(l:List BY):List BY:=l.foldl (fun a k=>if a.contains k then a else a++[k]) []
theorem aqp(l:List BY)(k:BY):fC (l++[k])=if (fC l).contains k then fC l else fC l++[k]:=by
 unfold fC;rw[Ju];rfl
theorem rz(l:List BY):(fC l).Nodup/\∀k,k∈fC l↔k∈l:=by
 have key:∀(l a:List BY),a.Nodup->(l.foldl (fun a k=>if a.contains k then a else a++[k]) a).Nodup/\∀k,k∈l.foldl (fun a k=>if a.contains k then a else a++[k]) a↔k∈a\/k∈l:=by
  intro l
  induction l with
  |nil=>grind
  |cons x l y=>
   intro a h;rw[Jc];by_cases d:x∈a
   grind
   ·rw[iN (by simpa using d)]
    obtain⟨h1,I⟩:=y (a++[x]) (by
     rw[Ez];refine⟨h,au,fun u hu v M=>?_⟩;rw[pP.1 M];rintro rfl;exact d hu)
    grind
 obtain⟨h1,I⟩:=key l [] List.nodup_nil;exact⟨h1,fun k=>by
  show k∈l.foldl _ []↔_
  simp_all⟩
section
variable {L:LL} {C:Nat->BY} {A:Nat->LL} (R:mQ L C A)
def gz(L:LL)(C:Nat->BY)(q:LL):List BY:=(q.map fun z=>(gi z 3).sV).filter fun s=>(gT L C s).isNone
def bQ(L:LL)(C:Nat->BY)(A:Nat->LL):Nat->List BY
 |0=>[]
 |i+1=>bQ L C A i++gz L C (A i)
def di(L:LL)(C:Nat->BY)(A:Nat->LL):Nat->List BY
 |0=>[]
 |i+1=>di L C A i++fC (gz L C (A i))
theorem YR(L:LL)(C:Nat->BY)(q:LL)(z:LG):gz L C (q++[z])=gz L C q++(if (gT L C (gi z 3).sV).isNone then [(gi z 3).sV] else []):=by
 unfold gz;rw[kj,A'];show _++ZV _ [(gi z 3).sV]=_
 by_cases h:(gT L C (gi z 3).sV).isNone=true
 ·rw[iP h,O4 (p:=fun s=>(gT L C s).isNone) h,rI]
 ·rw[iN h,Jz (p:=fun s=>(gT L C s).isNone) h,rI]
theorem I0(L:LL)(C:Nat->BY)(q:LL):(gz L C q).length<=q.length:=by
 unfold gz;have:=vu (fun s=>(gT L C s).isNone) (q.map fun z=>(gi z 3).sV)
 rwa [cP]at this
include R
theorem I1:∀ i,i<=L.length->(bQ L C A i).length<=40*i
 |0,_=>by simp[bQ]
 |i+1,h=>by
  have h1:=I1 i ab;have d:=I0 L C (A i);have k:=R.na i ab;rw[bQ,fV];omega
theorem I2:∀ i,i<=L.length->(di L C A i).length<=40*i
 |0,_=>by simp[di]
 |i+1,h=>by
  have h1:=I2 i ab;have I:=I0 L C (A i);have M:=R.na i ab;have N:(fC (gz L C (A i))).length<=(gz L C (A i)).length:=by
   obtain⟨d,v⟩:=rz (gz L C (A i));exact AQ d (fun k y=>(v k).1 y)
  rw[di,fV];omega
end
section
variable {L:LL} {C:Nat->BY} {A:Nat->LL} (R:mQ L C A)
include R
theorem aqq(s:BY):aa (w7 [.l L,.s s]) fun g=>∃p:Nat,g=[.i (p:Int),.t (gT L C s).isSome]:=by
 refine(N4 R.AF s).mono ?_;rintro _ ⟨p,b,rfl,h,k⟩;refine⟨p,?_⟩;cases b with
 |true=>
  obtain⟨v,d⟩:=h rfl;rw[IW R.AF v d];rfl
 |false=>
  rw[Yr (k rfl)];rfl
omit R in
def T7(L:LL)(A:Nat->LL)(Y X w:List BY)(i j:Nat):LG:=
 [.l (bH (Y++fC w)).1,.i ((bH (Y++fC w)).2:Int),.l (bH (X++w)).1,.i ((bH (X++w)).2:Int),.l (vh (fC w)).1,.i ((vh (fC w)).2:Int),.l L,.l L,.i (L.length:Int),.i (i:Int),.l (A i),.i ((A i).length:Int),.i (j:Int)]
theorem aqr(Y X w:List BY)(hi:i<L.length)(N:j<(A i).length)(h1:(X++w).length<=100000)(O:(Y++fC w).length<=100000):
  zw (T7 L A Y X w i j)=some (none,T7 L A Y X (w++(if (gT L C (gi ((A i).getD j []) 3).sV).isNone then [(gi ((A i).getD j []) 3).sV] else [])) i (j+1)):=by
 have M:=R.na i hi;generalize y:(gi ((A i).getD j []) 3).sV=k;have U:0<=eZ (bH (X++w)).1 k/\eZ (bH (X++w)).1 k<=100000:=by
  rw[Ea];have:(X++w).count k<=(X++w).length:=JA;omega
 have W:0<=eZ (bH (Y++fC w)).1 k/\eZ (bH (Y++fC w)).1 k<=100000:=by
  rw[Ea];have:(Y++fC w).count k<=(Y++fC w).length:=JA;omega
 have I:(gi (cR [.str] (vh (fC w)).1 [.s k] [.t false]) 0).bV=(fC w).contains k:=aqo (fC w) k;refine aa.toEq ?_;unfold zw T7
 (dsimp only[go_sem])
 simp only[a7,y];refine aa.p (aa.p ?_);refine aa.call (aqq R k) ?_;rintro _ ⟨p,rfl⟩
 (dsimp only[go_sem])
 refine aa.test (fun v=>?_) fun v=>?_
 ·have hn:(gT L C k).isNone=false:=by
   cases h:gT L C k with
   |none=>rw[h]at v; cases v
   |some x=>rfl
  rw[hn];refine aa.p (aa.some ?_);show _=(none,T7 L A Y X (w++[]) i (j+1))
  rw[dY];rfl
 ·have hn:(gT L C k).isNone=true:=by
   cases h:gT L C k with
   |none=>rfl
   |some x=>rw[h]at v; cases v
  rw[hn];refine aa.pos (by show aA (eZ (bH (X++w)).1 k+1)=true; simp only[aA,sl]; omega) ?_;show aa _ fun o=>o=(none,T7 L A Y X (w++[k]) i (j+1))
  unfold T7;rw[aqp,<-kl X,YN];rw[I];refine aa.test (fun d=>?_) fun d=>?_
  ·have d:(fC w).contains k=false:=by simpa using d
   rw[iN (by rw[d]; simp),<-kl Y,YN,aqn];refine aa.pos (by show aA (eZ (bH (Y++fC w)).1 k+1)=true; simp only[aA,sl]; omega) (aa.p (aa.some rfl))
  ·have d:(fC w).contains k=true:=by simpa using d
   rw[iP d];exact aa.p (aa.some rfl)
theorem YS(Y X:List BY){i:Nat}(hi:i<L.length)(h1:X.length<=50000)(v:Y.length<=50000):∀(d j:Nat),j+d=(A i).length ->
  aR zw (T7 L A Y X (gz L C ((A i).take j)) i j) (d+1) fun x g=>x=0 /\
   g=[.l (bH (Y++fC (gz L C (A i)))).1,.i ((bH (Y++fC (gz L C (A i)))).2:Int),.l (bH (X++gz L C (A i))).1,.i ((bH (X++gz L C (A i))).2:Int),.l L,.l L,.i (L.length:Int),.i (i:Int)]
 |0,j,y=>by
  refine aR.stop (x:=0) (aa.toEq ?_) ⟨rfl,rfl⟩;rw[s7 ab];unfold zw T7
  (dsimp only[go_sem])
  simp only[a7];refine aa.n (aa.some rfl)
 |d+1,j,y=>by
  have W:=R.na i hi;have I:=I0 L C ((A i).take j);rw[mg]at I;have hd:(fC (gz L C ((A i).take j))).length<=(gz L C ((A i).take j)).length:=by
   obtain⟨M,N⟩:=rz (gz L C ((A i).take j));exact AQ M (fun k O=>(N k).1 O)
  have h:=YS Y X hi h1 v d (j+1) ab;have U:(A i).take (j+1)=(A i).take j++[(A i).getD j []]:=by
   rw[dc,cB (by omega:j<(A i).length)];exact(EA (by omega:j<(A i).length)).symm
  rw[U,YR]at h;exact aR.next (aqr R Y X _ hi ab (by rw[fV]; omega) (by rw[fV]; omega)) h
theorem YT:∀(d i:Nat),i+d=L.length ->
  aR CY [.l (bH (di L C A i)).1,.i ((bH (di L C A i)).2:Int),.l (bH (bQ L C A i)).1,.i ((bH (bQ L C A i)).2:Int),.l L,.l L,.i (L.length:Int),.i (i:Int)] (d+1) fun x g=>x=0 /\
   g=[.l (bH (di L C A L.length)).1,.i ((bH (di L C A L.length)).2:Int),.l (bH (bQ L C A L.length)).1,.i ((bH (bQ L C A L.length)).2:Int)]
 |0,i,hi=>by
  refine aR.stop (x:=0) (aa.toEq ?_) ⟨rfl,rfl⟩;unfold CY
  (dsimp only[go_sem])
  simp only[a7];refine aa.n (aa.some ?_);rw[show i=L.length by omega]
 |d+1,i,hi=>by
  have hn:=R.n;have v:=R.na i ab;have h:=YT d (i+1) ab;have l1:=I1 R i ab;have l2:=I2 R i ab;refine aR.next (aa.toEq ?_) h
  unfold CY
  (dsimp only[go_sem])
  simp only[a7,R.get i (by omega:i<L.length)]
  (dsimp only[go_sem])
  refine aa.p (aa.p ?_);have hr:=YS R (di L C A i) (bQ L C A i) (i:=i) ab ab ab (A i).length 0 ab;have k:T7 L A (di L C A i) (bQ L C A i) (gz L C ((A i).take 0)) i 0=[.l (bH (di L C A i)).1,.i ((bH (di L C A i)).2:Int),.l (bH (bQ L C A i)).1,.i ((bH (bQ L C A i)).2:Int),.l [],.i ((0:Nat):Int),.l L,.l L,.i (L.length:Int),.i (i:Int),.l (A i),.i ((A i).length:Int),.i ((0:Nat):Int)]:=by
   unfold T7;show [G.l (bH (di L C A i++[])).1,.i ((bH (di L C A i++[])).2:Int),.l (bH (bQ L C A i++[])).1,.i ((bH (bQ L C A i++[])).2:Int),.l [],.i ((0:Nat):Int),.l L,.l L,.i (L.length:Int),.i (i:Int),.l (A i),.i ((A i).length:Int),.i ((0:Nat):Int)]=_
   rw[dY,dY]
  rw[k]at hr;refine aa.loop (hr.to ab) fk ?_;rintro c g ⟨rfl,rfl⟩
  (dsimp only[go_sem])
  simp only[a7];exact aa.p (aa.some rfl)
theorem YU:CZ [.l L]=some [.l (bH (di L C A L.length)).1,.i ((bH (di L C A L.length)).2:Int),.l (bH (bQ L C A L.length)).1,.i ((bH (bQ L C A L.length)).2:Int)]:=by
 have hn:=R.n;refine aa.toEq ?_;unfold CZ
 (dsimp only[go_sem])
 refine aa.loop ((YT R L.length 0 ab).to ab) fk ?_;rintro c g ⟨rfl,rfl⟩
 (dsimp only[go_sem])
 grind[aa.some]
end
section
variable {L:LL} {C:Nat->BY} {A:Nat->LL}
def jP(q:LL):List BY:=q.map fun z=>(gi z 3).sV
def gU(A:Nat->LL)(k:BY):Nat->Nat
 |0=>0
 |i+1=>gU A k i+if (jP (A i)).count k=0 then 0 else 1
def fx(A:Nat->LL)(k:BY):Nat->Nat
 |0=>0
 |i+1=>fx A k i+(jP (A i)).count k
theorem YV{k:BY}(d:gT L C k=none)(q:LL):(gz L C q).count k=(jP q).count k:=by
 unfold gz jP;rw[List.count_filter (by rw[d]; rfl)]
theorem aqs{k:BY}(h:k∈gz L C q):gT L C k=none:=by
 unfold gz at h;have:=(mn.1 h).2;exact Option.isNone_iff_eq_none.1 this
theorem YW{k:BY}(d:gT L C k=none):∀ i,(bQ L C A i).count k=fx A k i
 |0=>rfl
 |i+1=>by rw[bQ,fx,ZW,YW d i,YV d]
theorem aqt(l:List BY)(k:BY):(fC l).count k=if l.count k=0 then 0 else 1:=by
 obtain⟨h1,v⟩:=rz l;by_cases h:k∈l
 ·have d:k∈fC l:=(v k).2 h
  rw[iN (by have:=ZX.2 h; omega)];have y:=List.nodup_iff_count.1 h1 k;have I:=ZX.2 d;omega
 ·have d:k∉fC l:=fun y=>h ((v k).1 y)
  rw[iP (asM.2 h),asM.2 d]
theorem Oq{k:BY}(d:gT L C k=none):∀ i,(di L C A i).count k=gU A k i
 |0=>rfl
 |i+1=>by rw[di,gU,ZW,Oq d i,aqt,YV d]
theorem Ot{k:BY}:∀ i,k∈di L C A i↔k∈bQ L C A i
 |0=>Iff.rfl
 |i+1=>by rw[di,bQ,dm,dm,Ot i,(rz _).2]
theorem I3{k:BY}:∀ i,k∈bQ L C A i->gT L C k=none
 |0,h=>by cases h
 |i+1,h=>by
  rw[bQ]at h;rcases dm.1 h with h|h
  ·exact I3 i h
  ·exact aqs h
theorem I4(k:BY):∀ i,gU A k i<=i
 |0=>aV _
 |i+1=>by
  have:=I4 k i;rw[gU];split<;>omega
end
theorem YX{Q:LG->Prop}{c:LG->LG->Int}(M:LL)(k:Int) (h:((k.toNat:Nat):Int)=k) (O:∀x,Q x->∃v:BY,x=[.s v]) (hC:∀x y,Q x->Q y->w9 [.l M,.i k,.s (gi x 0).sV,.s (gi y 0).sV]=some [.l M,.i k,.i (c x y)]):∀(p q:LL) (x:LG) (b i:Int) (j:Nat),(∀y∈p,Q y)->Q x->p.length<1000000->j=p.length ->
  ∃m,m<=p.length+1/\jH zx m [.l (p.reverse++x::q),.l M,.i k,.i 0,.i b,.i i,.i (j:Int)] 0 [.l ((ir (cr c) x p).reverse++q),.l M,.i k,.i 0,.i b,.i i]
 |[],q,x,b,i,j,_,_,_,d=>by
  simp only[km]at d;subst d;refine⟨1,au,.stop (aa.toEq ?_)⟩;unfold zx
  (dsimp only[go_sem])
  try simp only[h]
  refine aa.n ?_;(repeat first|refine aa.p ?_|refine aa.n ?_);exact aa.some rfl
 |y::p,q,x,b,i,j,hp,U,hl,d=>by
  have hy:=hp y dx;have e1:(y::p).reverse++x::q=(p.reverse++[y])++x::q:=au;have e2:(y::p).reverse++x::q=p.reverse++y::x::q:=au;simp only[cz]at hl d;have g1:((y::p).reverse++x::q).getD (0+(j:Int).toNat) []=x:=by rw[e1]; exact nD _ _ _ _ _ (by simp[d])
  have g2:((y::p).reverse++x::q).getD (0+((j:Int)-1).toNat) []=y:=by rw[e2]; exact nD _ _ _ _ _ (by simp[d])
  have hlen:((y::p).reverse++x::q).length=p.length+q.length+2:=bS;have I:=hC x y U hy;obtain⟨vx,W⟩:=O x U;obtain⟨vy,ey⟩:=O y hy;have i1:(gi x 0).sV=vx:=by rw[W]; rfl
  have i2:(gi y 0).sV=vy:=by rw[ey]; rfl
  rw[i1,i2]at I;cases N:cr c x y with
  |false=>
   refine⟨1,au,.stop (aa.toEq ?_)⟩;unfold zx
   (dsimp only[go_sem])
   try simp only[h]
   simp only[hlen,g1,g2,i1,i2];refine aa.p (aa.p (aa.p (aa.p (aa.p (aa.p ?_)))))
   first|refine aa.call (aa.eq I) ?_|refine aa.jx (aa.eq I) fg ?_
   rintro _ rfl
   (dsimp only[go_sem])
   try simp only[h]
   refine aa.neg N ?_;(repeat first|refine aa.p ?_|refine aa.n ?_);refine aa.some ?_;simp[ir,N]
  |true=>
   obtain⟨m,hm,hr⟩:=YX M k h O hC p (y::q) x b i (j-1) (fun z hz=>hp z (dh _ hz)) U ab ab;refine⟨m+1,bS,.next (aa.toEq ?_) (by
    have e:(ir (cr c) x (y::p)).reverse++q=(ir (cr c) x p).reverse++y::q:=by simp[ir,N]
    rw[e]; exact hr)⟩
   have s1:((y::p).reverse++x::q).set (0+(j:Int).toNat) y=p.reverse++y::y::q:=by
    rw[e1,GS _ _ _ _ _ (by simp[d])]; simp
   have s2:(p.reverse++y::y::q).set (0+((j:Int)-1).toNat) x=p.reverse++x::y::q:=GS _ _ _ _ _ (by simp[d]);have g3:(p.reverse++y::y::q).getD (0+((j:Int)-1).toNat) []=y:=nD _ _ _ _ _ (by simp[d]);have hl2:(p.reverse++y::y::q).length=p.length+q.length+2:=bS;have hl3:(p.reverse++x::y::q).length=p.length+q.length+2:=bS;have q1:eh [Kd.str] x 0 [.s vy]=y:=by rw[W,ey]; rfl
   have q2:eh [Kd.str] y 0 [.s vx]=x:=by rw[W,ey]; rfl
   unfold zx
   (dsimp only[go_sem])
   try simp only[h]
   simp only[hlen,g1,g2,i1,i2,q1,q2,s1,g3,s2,hl2,hl3];refine aa.p (aa.p (aa.p (aa.p (aa.p (aa.p ?_)))))
   first|refine aa.call (aa.eq I) ?_|refine aa.jx (aa.eq I) fg ?_
   rintro _ rfl
   (dsimp only[go_sem])
   try simp only[h]
   refine aa.pos N ?_;(repeat first|refine aa.p ?_|refine aa.n ?_);refine aa.some ?_
   try simp only[a7]
   rw[show ((j:Int)-1)=((j-1:Nat):Int) from by omega]
theorem YY{Q:LG->Prop}{c:LG->LG->Int}(d:LL)(k:Int) (h:((k.toNat:Nat):Int)=k) (I:∀x,Q x->∃v:BY,x=[.s v]) (hC:∀x y,Q x->Q y->w9 [.l d,.i k,.s (gi x 0).sV,.s (gi y 0).sV]=some [.l d,.i k,.i (c x y)]):∀(r p:LL) (i n:Nat),(∀y∈p,Q y)->(∀y∈r,Q y)->i=p.length->n=p.length+r.length->n<100000 ->
  ∃m,m<=r.length+1/\jH zy m [.l (p.reverse++r),.l d,.i k,.i 0,.i (n:Int),.i (i:Int)] 0 [.l (l4 (cr c) p r).reverse,.l d,.i k]
 |[],p,i,n,_,_,hi,hn,M=>by
  refine⟨1,au,.stop (aa.toEq ?_)⟩;simp only[km]at hn;unfold zy
  (dsimp only[go_sem])
  try simp only[h]
  refine aa.n ?_;(repeat first|refine aa.p ?_|refine aa.n ?_);refine aa.some ?_;simp[l4]
 |x::r,p,i,n,N,hr,hi,hn,M=>by
  simp only[cz]at hn;obtain⟨O,hm1,h1⟩:=YX d k h I hC p r x (n:Int) (i:Int) i N (hr x dx) ab hi;obtain⟨m,hm,U⟩:=YY d k h I hC r (ir (cr c) x p) (i+1) n (GU (hr x dx) N) (fun y W=>hr y (dh _ W)) (by rw[yZ,hi]) (by rw[yZ]; omega) M;refine⟨m+1,bS,.next (aa.toEq ?_) U⟩;unfold zy
  (dsimp only[go_sem])
  try simp only[h]
  refine aa.p (aa.loop (P:=fun x g=>g=_) ⟨O,0,_,h1,ab,rfl⟩ fg ?_);rintro _ _ rfl
  (dsimp only[go_sem])
  try simp only[h]
  (repeat first|refine aa.p ?_|refine aa.n ?_);exact aa.some rfl
theorem aqu{c:LG->LG->Int}(d:LL)(k:Int) (I:((k.toNat:Nat):Int)=k) (M:∀x,Q x->∃v:BY,x=[.s v]) (hC:∀x y,Q x->Q y->w9 [.l d,.i k,.s (gi x 0).sV,.s (gi y 0).sV]=some [.l d,.i k,.i (c x y)]) (rZ:LL) (hr:∀y∈rZ,Q y) (hn:rZ.length<100000):Hw [.l rZ,.l d,.i k,.i 0,.i (rZ.length:Int)]=some [.l (eP (cr c) rZ),.l d,.i k]:=by
 refine aa.toEq ?_;unfold Hw
 (dsimp only[go_sem])
 try simp only[I]
 refine aa.p ?_;cases rZ with
 |nil=>
  refine aa.loop (P:=fun x g=>g=[.l [],.l d,.i k]) ⟨1,0,_,.stop (aa.toEq (?_:aa _ (fun g=>g=(some 0,[G.l [],.l d,.i k])))),ab,rfl⟩ fg ?_
  ·unfold zy
   (dsimp only[go_sem])
   try simp only[I]
   refine aa.n ?_;(repeat first|refine aa.p ?_|refine aa.n ?_);exact aa.some rfl
  ·rintro _ _ rfl
   (dsimp only[go_sem])
   try simp only[I]
   (repeat first|refine aa.p ?_|refine aa.n ?_);exact aa.some rfl
 |cons x r=>
  simp only[cz]at hn;obtain⟨m,hm,h⟩:=YY d k I M hC r [x] 1 (r.length+1) (by simpa using hr x dx) (fun y N=>hr y (dh _ N)) rfl bS ab;refine aa.loop (P:=fun y g=>g=_) ⟨m,0,_,h,ab,rfl⟩ fg ?_;rintro _ _ rfl
  (dsimp only[go_sem])
  try simp only[I]
  (repeat first|refine aa.p ?_|refine aa.n ?_);exact aa.some rfl
theorem YZ(h:q.Pairwise fun a b=>dD (gi a 0).sV (gi b 0).sV<0):q.Nodup:=by
 rw[tc];refine h.imp fun {a b} d e=>?_;rw[e,qp.2 rfl]at d;omega
theorem Y0(d:p.Pairwise fun a b=>dD (gi a 0).sV (gi b 0).sV<0)(hq:q.Pairwise fun a b=>dD (gi a 0).sV (gi b 0).sV<0)(h:∀r,r∈p↔r∈q):p=q:=by
 have M:p.Perm q:=(ZT (YZ d) (YZ hq)).2 h;have N:∀a∈p,∀b∈p,dD (gi a 0).sV (gi b 0).sV=0->a=b:=fun a ha b hb hz=>by
  refine OR fun O=>?_;obtain⟨i,hi,rfl⟩:=pK ha;obtain⟨k,y,rfl⟩:=pK hb;rw[List.pairwise_iff_getElem]at d;have I:=oB.flip (gi p[i] 0).sV (gi p[k] 0).sV;rcases Nat.lt_trichotomy i k with h|h|h
  ·have:=d i k hi y h
   omega
  ·subst h
   exact O rfl
  ·have:=d k i y hi h
   omega
 have v:∀{q:LL},(q.Pairwise fun a b=>dD (gi a 0).sV (gi b 0).sV<0)->q.Pairwise fun a b=>decide (dD (gi b 0).sV (gi a 0).sV<0)=false:=fun h=>h.imp fun {a b} W=>by
  have I:=oB.flip (gi a 0).sV (gi b 0).sV;rw[dF];omega
 refine CN (lt:=fun a b=>decide (dD (gi a 0).sV (gi b 0).sV<0)) M (fun a ha b hb h1 U=>?_) (v d) (v hq);rw[dF]at h1 U;have I:=oB.flip (gi a 0).sV (gi b 0).sV;exact N a ha b hb ab
theorem aqv{a b:List UInt8}(h:dD (⟨a.toArray⟩:BY) (⟨b.toArray⟩:BY)<0):a<b:=by
 have h:gA a b<0:=h;have key:∀a b:List UInt8,gA a b<0->a<b:=by
  intro a
  induction a with
  |nil=>intro b h; cases b with
   |nil=>simp[gA]at h
   |cons y b=>exact List.Lex.nil
  |cons x a k=>intro b h; cases b with
   |nil=>simp[gA]at h
   |cons y b=>
    simp only[gA]at h;by_cases h1:x<y
    ·exact List.Lex.rel h1
    ·by_cases d:y<x
     ·rw[iN h1,iP d]at h
      omega
     ·have e:x=y:=OX (xL.1 d) (xL.1 h1)
      rw[iN h1,iN d]at h;subst e;exact List.Lex.cons (k b h)
 exact key a b h
theorem Ec:r∈gl (l.map fun s=>[G.s s])↔∃s∈l,r=[.s s]:=by
 unfold gl;rw[dS];constructor
 ·rintro⟨k,h,rfl⟩
  rw[(ZY _ _).mem_iff,oI]at h;obtain⟨s,d,rfl⟩:=dS.1 h;exact⟨s,d,rfl⟩
 ·rintro⟨s,d,rfl⟩
  refine⟨s.data.toList,?_,rfl⟩;rw[(ZY _ _).mem_iff,oI];exact dS.2 ⟨s,d,rfl⟩
theorem Y1(rZ:LL):(gl rZ).Pairwise fun a b=>a=b\/dD (gi a 0).sV (gi b 0).sV<0:=by
 have tr:∀a b c:List UInt8,decide (a<=b)=true->decide (b<=c)=true->decide (a<=c)=true:=fun a b c h1 d=>by simp only[dT]at *; exact List.le_trans h1 d
 have to:∀a b:List UInt8,(decide (a<=b)||decide (b<=a))=true:=fun a b=>by simp only[Bool.or_eq_true,dT]; exact List.le_total a b
 unfold gl;rw[qA];refine(List.pairwise_mergeSort tr to _).imp fun {a b} h=>?_;simp only[dT]at h;have v:¬ dD (⟨b.toArray⟩:BY) (⟨a.toArray⟩:BY)<0:=fun d=>List.not_lt.2 h (aqv d);have y:=oB.flip (⟨a.toArray⟩:BY) (⟨b.toArray⟩:BY);by_cases k:dD (⟨a.toArray⟩:BY) (⟨b.toArray⟩:BY)=0
 ·exact .inl (by rw[oB.eq _ _ k])
 ·refine .inr ?_
  show dD (⟨a.toArray⟩:BY) (⟨b.toArray⟩:BY)<0
  omega
theorem aqw(h:l.Nodup):(gl (l.map fun s=>[G.s s])).Nodup:=by
 have v:((l.map fun s=>[G.s s]).map fun r=>(gi r 0).sV.data.toList).Nodup:=by
  rw[oI,tc,qA];rw[tc]at h;exact h.imp fun d e=>d (ByteArray.ext (Array.toList_inj.1 e))
 unfold gl;rw[tc,qA];have k:=(ZY ((l.map fun s=>[G.s s]).map fun r=>(gi r 0).sV.data.toList) fun x y=>decide (x<=y)).nodup_iff.2 v;rw[tc]at k;refine k.imp fun d e=>d ?_;simpa using e
theorem Y2(h:l.Nodup):(gl (l.map fun s=>[G.s s])).Pairwise fun a b=>dD (gi a 0).sV (gi b 0).sV<0:=by
 have h1:=aqw h;rw[tc]at h1;refine((Y1 (l.map fun s=>[G.s s])).and h1).imp fun {a b} d=>?_;rcases d.1 with h|h
 ·exact(d.2 h).elim
 ·exact h
def fj(l:List BY):LL:=gl ((fC l).map fun s=>[G.s s])
theorem AT:r∈fj l↔∃s∈l,r=[.s s]:=by
 unfold fj;rw[Ec];constructor
 ·rintro⟨s,d,e⟩
  exact⟨s,((rz l).2 s).1 d,e⟩
 ·rintro⟨s,d,e⟩
  exact⟨s,((rz l).2 s).2 d,e⟩
theorem I5(l:List BY):(fj l).Pairwise fun a b=>dD (gi a 0).sV (gi b 0).sV<0:=Y2 (rz l).1
theorem I6(l:List BY):(fj l).length<=l.length:=by
 unfold fj;rw[ur,cP];obtain⟨d,h⟩:=rz l;exact AQ d (fun k v=>(h k).1 v)
theorem aqx{q:List BY}(hq:q.Nodup)(h:∀s,s∈q↔s∈l):gl (q.map fun s=>[G.s s])=fj l:=by
 refine Y0 (Y2 hq) (I5 l) fun r=>?_;rw[Ec,AT];constructor
 ·rintro⟨s,d,e⟩
  exact⟨s,(h s).1 d,e⟩
 ·rintro⟨s,d,e⟩
  exact⟨s,(h s).2 d,e⟩
theorem Ou(rZ:LL)(hn:rZ.length<1000000):zC [.l rZ]=some [.l (gl rZ)]:=by
 unfold zC GN
 (dsimp only[go_sem])
 rw[show dy rZ.length 1000000=true by rw[jC]; exact hn];rfl
theorem Y3(h:iy [.str] AR m bk)(d:p.Perm m):p.map C0=(jg p).map fun s=>[G.s s]:=by
 unfold jg;rw[oI];rfl
theorem I7(d:p.Perm m):(jg p).Perm (jg m):=d.map _
theorem aqy(l:List BY)(hn:l.length<=10000):zD [.l (bH l).1,.i ((bH l).2:Int)]=some [.l (bH l).1,.i ((bH l).2:Int),.l (fj l)]:=by
 have h:=Om l;have k:=On l ([],0);have k:(bH l).1.length<=l.length:=by simpa[bH]using k
 unfold zD;have v:mJ (rh [.l (bH l).1,.i ((bH l).2:Int)])=true:=by
  unfold mJ jZ sr rh
  (dsimp only[go_sem])
  simp only[a7];rw[h.mH,iD,ml];omega
 rw[v,cT];refine Mg fun b p d=>?_;have hr:jZ (rh [.l (bH l).1,.i ((bH l).2:Int)])=(bH l).1:=rfl;rw[hr]at d;have y:p.map C0=(jg p).map fun s=>[G.s s]:=Y3 h d;have hD:lB (rh [.l (bH l).1,.i ((bH l).2:Int)]) p=[.l (bH l).1,.i ((bH l).2:Int),.l ((jg p).map fun s=>[G.s s])]:=by
  unfold lB;rw[y];unfold sr rh jZ
  (dsimp only[go_sem])
  simp only[a7]
 rw[hD];have I:p.length=(bH l).1.length:=d.length_eq;have M:(jg p).length=p.length:=by unfold jg; rw[cP]
 refine aa.toEq ?_;unfold HB
 (dsimp only[go_sem])
 refine aa.jx (aa.eq (Ou _ (by rw[cP]; omega))) au ?_;rintro _ rfl
 (dsimp only[go_sem])
 have e:gl ((jg p).map fun s=>[G.s s])=fj l:=aqx ((I7 d).nodup_iff.2 (YO h)) fun s=>by
  rw[(I7 d).mem_iff,YP]
 refine aa.pos (by rw[ur]; simp) (aa.some ?_);rw[e];simp only[a7]
def vj(r:LG):Prop:=∃s,r=[.s s]
theorem aqz:GV [.str] vj:=⟨fun r h=>by obtain⟨s,rfl⟩:=h; rfl⟩
theorem Y4(a b:LG):aZ [.str] (bg [.str] a) (bg [.str] b)=((gi a 0).sV.toList==(gi b 0).sV.toList):=by
 show (((gi a 0).sV.toList==(gi b 0).sV.toList)&&true)=_
 rw[jQ]
theorem aqA:Nh=uv [.str] [.s (⟨#[]⟩:BY)]:=by
 funext d
 unfold uv;simp only[Y4];rfl
theorem aqB:HW=su [.str] [.s (⟨#[]⟩:BY)]:=by
 funext d
 unfold HW su;simp only[Y4,aqA]
theorem aqC:zX=CL [.str] [.s (⟨#[]⟩:BY)]:=by
 funext d
 unfold zX CL;rw[aqB]
theorem aqD(l:List BY):eC (aZ [.str]) (gl (l.map fun s=>[G.s s]))=fj l:=by
 have d:∀r∈gl (l.map fun s=>[G.s s]),vj r:=fun r hr=>by
  obtain⟨s,_,e⟩:=Ec.1 hr;exact⟨s,e⟩
 have he:∀x∈gl (l.map fun s=>[G.s s]),∀y∈gl (l.map fun s=>[G.s s]),aZ [.str] x y=true->x=y:=fun x k y I h=>by
  obtain⟨s,rfl⟩:=d x k;obtain⟨t,rfl⟩:=d y I;rw[xv,dT]at h;rw[h]
 refine Y0 (afs (R:=fun a b=>dD (gi a 0).sV (gi b 0).sV<0) (fun a b c h1 v=>oB.tr _ _ _ h1 v) (fun x k=>?_) (fun a b c h1 v=>wP h1 v) he (Y1 _)) (I5 l) fun r=>?_
 ·obtain⟨s,rfl⟩:=d x k
  exact MC [.str] _ rfl
 ·rw[afp he,Ec,AT]
theorem Y5(l:List BY)(hn:l.length<=10000):aa (zX [.l (gl (l.map fun s=>[G.s s]))]) fun g=>∃J,g=[.l (fj l++J),.i ((fj l).length:Int)]/\(fj l++J).length=l.length:=by
 rw[aqC];have h:aa (CL [.str] [.s (⟨#[]⟩:BY)] [.l (gl (l.map fun s=>[G.s s]))]) fun g=>∃J,g=[.l (eC (aZ [.str]) (gl (l.map fun s=>[G.s s]))++J),.i ((eC (aZ [.str]) (gl (l.map fun s=>[G.s s]))).length:Int)]/\(eC (aZ [.str]) (gl (l.map fun s=>[G.s s]))++J).length=(gl (l.map fun s=>[G.s s])).length:=
  afn (K:=[.str]) (Z:=[.s (⟨#[]⟩:BY)]) aqz (gl (l.map fun s=>[G.s s])) (fun r hr=>by
  obtain⟨s,_,e⟩:=Ec.1 hr;exact⟨s,e⟩) (by rw[ur,cP]; omega)
 rw[aqD]at h;refine h.mono fun g ⟨J,e,d⟩=>⟨J,e,?_⟩
 rw[d,ur,cP]
section
variable {L:LL} {C:Nat->BY} {A:Nat->LL} (R:mQ L C A)
include R
omit R in
def fJ(l:List BY):LL:=l.map fun s=>[G.s s]
theorem Y6(X:List BY){i:Nat}(hi:i<L.length)(h1:X.length<=50000):∀(d j:Nat),j+d=(A i).length ->
  aR Dl [.l (fJ (X++gz L C ((A i).take j))),.l L,.l L,.i (L.length:Int),.i (i:Int),.l (A i),.i ((A i).length:Int),.i (j:Int)] (d+1) fun x g=>x=0/\g=[.l (fJ (X++gz L C (A i))),.l L,.l L,.i (L.length:Int),.i (i:Int)]
 |0,j,N=>by
  refine aR.stop (x:=0) (aa.toEq ?_) ⟨rfl,rfl⟩;rw[s7 ab];unfold Dl
  (dsimp only[go_sem])
  exact aa.n (aa.pos au (aa.some rfl))
 |d+1,j,N=>by
  have hna:=R.na i hi;have O:=I0 L C ((A i).take j);rw[mg]at O;have y:=Y6 X hi h1 d (j+1) ab;have U:(A i).take (j+1)=(A i).take j++[(A i).getD j []]:=by
   rw[dc,cB (by omega:j<(A i).length)];exact(EA (by omega:j<(A i).length)).symm
  rw[U,YR]at y;have I:(fJ (X++gz L C ((A i).take j))).length<=60000:=by
   unfold fJ;rw[cP,fV];omega
  generalize W:(gi ((A i).getD j []) 3).sV=k at y;generalize gz L C ((A i).take j)=w at y I;refine aR.next (aa.toEq ?_) y
  unfold Dl
  (dsimp only[go_sem])
  simp only[a7,W];refine aa.p (aa.p ?_);refine aa.cE (Oh R k) ?_
  (dsimp only[go_sem])
  have M:fJ (X++(w++[k]))=fJ (X++w)++[[.s k]]:=by
   unfold fJ;rw[<-kl,kj];rfl
  cases h:gT L C k with
  |none=>
   rw[iP (show (none:Option Nat).isNone=true from rfl),M];refine aa.pos rfl (aa.pos (by rw[jD,iD,dT]; omega) (aa.p (aa.pos au (aa.some rfl))))
  |some v=>
   rw[iN (by rintro h; cases h),dY];refine aa.neg (by show aN (v:Int) 0=false; (first|rfl|assumption|(simp only[aA,sl]<;>omega))) (aa.p (aa.pos au (aa.some rfl)))
theorem Ov:∀(d i:Nat),i+d=L.length ->
  aR zY [.l (fJ (bQ L C A i)),.l L,.l L,.i (L.length:Int),.i (i:Int)] (d+1) fun x g=>x=0/\g=[.l (fJ (bQ L C A L.length))]
 |0,i,hi=>by
  refine aR.stop (x:=0) (aa.toEq ?_) ⟨rfl,rfl⟩;unfold zY
  (dsimp only[go_sem])
  refine aa.n (aa.pos au (aa.some ?_))
  grind
 |d+1,i,hi=>by
  have hn:=R.n;have k:=R.na i ab;have h:=Ov d (i+1) ab;have l1:=I1 R i ab;refine aR.next (aa.toEq ?_) h
  unfold zY
  (dsimp only[go_sem])
  simp only[a7,R.get i (by omega:i<L.length)]
  (dsimp only[go_sem])
  refine aa.p (aa.p ?_);have hr:=Y6 R (bQ L C A i) (i:=i) ab ab (A i).length 0 ab;rw[show bQ L C A i++gz L C ((A i).take 0)=bQ L C A i from dY _]at hr;refine aa.loop (hr.to ab) au ?_;rintro c g ⟨rfl,rfl⟩
  (dsimp only[go_sem])
  exact aa.p (aa.pos au (aa.some rfl))
theorem xw:(bQ L C A L.length).length<=1600:=by
 have:=I1 R L.length (aV _);have:=R.n;omega
theorem aqE:HX [.l L]=some [.l (fj (bQ L C A L.length))]:=by
 have hn:=R.n;have h:=xw R;refine aa.toEq ?_;unfold HX
 (dsimp only[go_sem])
 refine aa.loop ((Ov R L.length 0 ab).to ab) fk ?_;rintro c g ⟨rfl,rfl⟩
 (dsimp only[go_sem])
 have d:(fJ (bQ L C A L.length)).length=(bQ L C A L.length).length:=by unfold fJ; rw[cP]
 refine aa.jx (aa.eq (Ou _ ab)) au ?_;rintro _ rfl
 (dsimp only[go_sem])
 refine aa.jx (Y5 (bQ L C A L.length) ab) (by show (aD (fJ (bQ L C A L.length)).length (gl (fJ (bQ L C A L.length))).length&&true)=true; rw[ur]; simp) ?_;rintro _ ⟨J,rfl,k⟩
 (dsimp only[go_sem])
 simp only[a7];refine aa.pos (by rw[fV,jQ,ml]; omega) (aa.some ?_);rw[ZZ]
theorem aqF:H5 [.l L]=some [.l (fj (bQ L C A L.length))]:=by
 have hn:=R.n;have k:=xw R;refine aa.toEq ?_;unfold H5
 (dsimp only[go_sem])
 have d:Nn=zY:=rfl;rw[d];refine aa.loop ((Ov R L.length 0 ab).to ab) fk ?_;rintro c g ⟨rfl,rfl⟩
 (dsimp only[go_sem])
 have h:(fJ (bQ L C A L.length)).length=(bQ L C A L.length).length:=by unfold fJ; rw[cP]
 refine aa.jx (aa.eq (Ou _ ab)) au ?_;rintro _ rfl
 (dsimp only[go_sem])
 refine aa.jx (Y5 (bQ L C A L.length) ab) (by show (aD (fJ (bQ L C A L.length)).length (gl (fJ (bQ L C A L.length))).length&&true)=true; rw[ur]; simp) ?_;rintro _ ⟨J,rfl,v⟩
 (dsimp only[go_sem])
 simp only[a7,ZZ];exact aa.pos au (aa.some rfl)
end
def mf(f:BY->Int)(a b:BY):Int:=if f b-f a≠0 then f b-f a else dD a b
def cU(f:BY->Int)(x y:LG):Int:=mf f (gi x 0).sV (gi y 0).sV
theorem Y7(f:BY->Int)(a b:BY):mf f b a=- mf f a b:=by
 unfold mf;by_cases h:f b-f a=0
 ·rw[iN ab,iN ab]
  exact oB.flip _ _
 omega
theorem aqG(f:BY->Int)(a b d:BY)(h1:mf f a b<=0)(h:mf f b d<=0):mf f a d<=0:=by
 unfold mf at *;by_cases v:f b-f a=0
 ·rw[iN ab]at h1
  by_cases k:f d-f b=0
  ·rw[iN ab]at h
   rw[iN ab];exact oB.le _ _ _ h1 h
  ·rw[iP ab]at h
   rw[iP ab];omega
 ·rw[iP ab]at h1
  by_cases k:f d-f b=0
  ·rw[iP ab]
   omega
  ·rw[iP ab]at h
   rw[iP ab];omega
theorem aqH(f:BY->Int):iJ (cr (cU f)) (fun _=>True):=WH (fun a b=>Y7 f _ _) fun a b d=>aqG f _ _ _
theorem Ow(f:BY->Int)(x y:LG):cr (cU f) x y=decide (cU f x y<0):=by unfold cr; rw[cS]
theorem aqI(u v:Int):w6 [.l [[.i u],[.i v]]]=some [.i (if u≠0 then u else v)]:=by
 have key:aR pr [.i 0,.l [[.i u],[.i v]],.i 2,.i 0] 3 fun x g=>(x=0\/x=1)/\g=[.i (if u≠0 then u else v)]:=by
  by_cases ha:u≠0
  ·refine aR.stop (x:=0) (d':=[.i u]) (aa.toEq ?_) ⟨.inl rfl,by rw[iP ha]⟩
   unfold pr
   (dsimp only[go_sem])
   exact aa.pos rfl (aa.pos rfl (aa.pos (by show (u != 0)=true; grind) (aa.some rfl)))
  ·refine aR.next (d1:=[.i 0,.l [[.i u],[.i v]],.i 2,.i 1]) (aa.toEq ?_) ?_
   ·unfold pr
    (dsimp only[go_sem])
    exact aa.pos rfl (aa.pos rfl (aa.neg (by show (u != 0)=false; grind) (aa.pos rfl (aa.some rfl))))
   rw[iN ha];by_cases hb:v≠0
   ·refine aR.stop (x:=0) (d':=[.i v]) (aa.toEq ?_) ⟨.inl rfl,rfl⟩
    unfold pr
    (dsimp only[go_sem])
    exact aa.pos rfl (aa.pos rfl (aa.pos (by show (v != 0)=true; grind) (aa.some rfl)))
   ·have d:v=0 :=ab
    subst d;refine aR.next (d1:=[.i 0,.l [[.i u],[.i 0]],.i 2,.i 2]) (aa.toEq ?_) (aR.stop (x:=1) (d':=[.i 0]) (aa.toEq ?_) ⟨.inr rfl,rfl⟩)
    ·unfold pr
     (dsimp only[go_sem])
     exact aa.pos rfl (aa.pos rfl (aa.neg rfl (aa.pos rfl (aa.some rfl))))
    ·unfold pr
     (dsimp only[go_sem])
     exact aa.neg rfl (aa.some rfl)
 refine aa.toEq ?_;unfold w6
 (dsimp only[go_sem])
 refine aa.loop (key.to ab) rfl ?_;rintro x g ⟨rfl|rfl,rfl⟩
 ·exact aa.pos rfl (aa.some rfl)
 ·exact aa.neg rfl (aa.some rfl)
theorem aqJ(m:LL)(k:Int) (d:((k.toNat:Nat):Int)=k) (a b:BY) (hb:-100000<=eZ m b-eZ m a/\eZ m b-eZ m a<=100000):w9 [.l m,.i k,.s a,.s b]=some [.l m,.i k,.i (mf (eZ m) a b)]:=by
 refine aa.toEq ?_;unfold w9
 (dsimp only[go_sem])
 simp only[d];refine aa.pos (by show aA (eZ m b-eZ m a)=true; simp only[aA,sl]; omega) ?_;refine aa.call (P:=fun g=>g=[.i (dD a b)]) (aa.eq rfl) ?_;rintro _ rfl;refine aa.call (P:=fun g=>g=[.i (mf (eZ m) a b)]) (aa.eq (aqI _ _)) ?_;rintro _ rfl;exact aa.some rfl
theorem aqK:((fm 13).all fun n=>match C1 [.i (IntKind.u64.wrap ((n:Nat):Int))]with
  |some [.i _]=>true
  |_=>false)=true:=aB
theorem aqL(n:Nat)(h:n<=12):aa (C1 [.i (IntKind.u64.wrap ((n:Nat):Int))]) fun g=>∃v,g=[.i v]:=by
 have h1:=eD.1 aqK n (iQ.2 ab);cases h:C1 [.i (IntKind.u64.wrap ((n:Nat):Int))]with
 |none=>rw[h]at h1; cases h1
 |some g=>
  rw[h]at h1;refine⟨g,rfl,?_⟩;split at h1
  ·rename_i v e
   cases e;exact⟨v,rfl⟩
  ·cases h1
theorem aqM(m:LL)(k:Int) (d:((k.toNat:Nat):Int)=k) (hb:∀ a,0<=eZ m a/\eZ m a<=100000) (q:List BY) (hn:q.length<=12) :
  Hz [.l (fJ q),.l m,.i k]=some [.l (eP (cr (cU (eZ m))) (fJ q)),.l m,.i k]:=by
 have h:(fJ q).length=q.length:=by unfold fJ; rw[cP]
 have W:=y8 (cr (cU (eZ m))) (fJ q);have M:∀y∈fJ q,vj y:=fun y N=>by
  obtain⟨s,_,rfl⟩:=dS.1 N;exact⟨s,rfl⟩
 have I:=aqu (Q:=vj) (c:=cU (eZ m)) m k d (fun x O=>O) (fun x y _ _=>aqJ m k d _ _ (by have:=hb (gi x 0).sV; have:=hb (gi y 0).sV; omega)) (fJ q) M ab;refine aa.toEq ?_;unfold Hz
 (dsimp only[go_sem])
 simp only[d];rw[h];refine aa.call (aqL q.length hn) ?_;rintro _ ⟨v,rfl⟩
 (dsimp only[go_sem])
 have U:Hy [.l (fJ q),.l m,.i k,.i 0,.i (q.length:Int),.i v]=some [.l (eP (cr (cU (eZ m))) (fJ q)),.l m,.i k]:=by
  refine aa.toEq ?_;unfold Hy
  (dsimp only[go_sem])
  simp only[d];have hr:aR Hx [.l (fJ q),.l m,.i k,.i 0,.i (q.length:Int),.i v,.t true,.t true] 1 fun x g=>x=0/\g=[.l (eP (cr (cU (eZ m))) (fJ q)),.l m,.i k]:=by
   refine aR.stop (x:=0) (aa.toEq ?_) ⟨rfl,rfl⟩;unfold Hx
   (dsimp only[go_sem])
   simp only[d];rw[h]at I;refine aa.p (aa.p (aa.jx (aa.eq I) au ?_));rintro _ rfl
   (dsimp only[go_sem])
   simp only[d]
   grind[aa.some]
  refine aa.loop (hr.to ab) fk ?_;rintro x g ⟨rfl,rfl⟩
  (dsimp only[go_sem])
  simp only[d]
  grind[aa.some]
 refine aa.jx (aa.eq U) au ?_;rintro _ rfl
 (dsimp only[go_sem])
 grind[aa.some]
section
variable (f:BY->Int) (q:LL)
def zU:Nat->LL
 |0=>[]
 |n+1=>(q.filter fun r=>decide (f (gi r 0).sV=((n+1:Nat):Int)))++zU n
theorem AU{r:LG}:∀ n,r∈zU f q n↔r∈q/\1<=f (gi r 0).sV/\f (gi r 0).sV<=(n:Int)
 |0=>by
  constructor
  ·intro h; cases h
  ·rintro⟨_,h1,d⟩; omega
 |n+1=>by
  rw[zU,dm,mn,AU n,dT];constructor
  ·rintro (⟨h1,d⟩ | ⟨h1,d,k⟩)
   ·exact⟨h1,ab,ab⟩
   ·exact⟨h1,d,ab⟩
  ·rintro⟨h1,d,k⟩
   by_cases e:f (gi r 0).sV=((n+1:Nat):Int)
   ·exact .inl ⟨h1,e⟩
   ·exact .inr ⟨h1,d,ab⟩
variable (hq:q.Pairwise fun a b=>dD (gi a 0).sV (gi b 0).sV<0)
include hq
theorem Ox:∀ n,(zU f q n).Pairwise fun a b=>cr (cU f) b a=false/\a≠b
 |0=>List.Pairwise.nil
 |n+1=>by
  rw[zU,List.pairwise_append];refine⟨?_,Ox n,fun a ha b hb=>?_⟩
  ·refine (hq.filter _).imp_of_mem fun {a b} ha hb d=>?_
   have ha:=(mn.1 ha).2;have hb:=(mn.1 hb).2;rw[dT]at ha hb;refine⟨?_,fun e=>?_⟩
   ·rw[Ow,dF]
    unfold cU mf;rw[iN ab];have:=oB.flip (gi a 0).sV (gi b 0).sV;omega
   ·rw[e,qp.2 rfl]at d
    omega
  ·have ha:=(mn.1 ha).2
   rw[dT]at ha;obtain⟨_,h1,h⟩:=(AU f q n).1 hb;refine⟨?_,fun e=>?_⟩
   ·rw[Ow,dF]
    unfold cU mf;omega
   grind
theorem aqN{l:LL}{N:Nat}(I:l.Nodup)(k:∀r∈l,vj r)(hm:∀r,r∈l↔r∈q)(M:∀r∈l,1<=f (gi r 0).sV/\f (gi r 0).sV<=(N:Int)):eP (cr (cU f)) l=zU f q N:=by
 have v:=Ox f q hq N;have y:(zU f q N).Nodup:=by
  rw[tc];exact v.imp fun h=>h.2
 have O:l.Perm (zU f q N):=(ZT I y).2 fun r=>by
  rw[AU];constructor
  ·intro h
   exact⟨(hm r).1 h,M r h⟩
  ·rintro⟨h,_⟩
   exact(hm r).2 h
 refine CN (lt:=cr (cU f)) ((sv l).trans O) (fun a ha b hb h1 d=>?_) (CM (aqH f) fun _ _=>trivial) (v.imp fun h=>h.1);obtain⟨s,rfl⟩:=k a ((sv l).mem_iff.1 ha);obtain⟨t,rfl⟩:=k b ((sv l).mem_iff.1 hb);rw[Ow,dF]at h1 d;have U:=Y7 f s t;have h1:¬ mf f s t<0:=h1;have d:¬ mf f t s<0:=d;have h0:mf f s t=0:=ab;unfold mf at h0;by_cases e:f t-f s=0
 ·rw[iN ab]at h0
  rw[qp.1 h0]
 ·rw[iP ab]at h0
  omega
end
section
variable {L:LL} {C:Nat->BY} {A:Nat->LL} (R:mQ L C A)
include R
theorem Y8{k:BY}:∀ i,i<=L.length->k∈bQ L C A i->k∈calls/\jK k=true
 |0,_,h=>by cases h
 |i+1,hi,h=>by
  rw[bQ]at h;rcases dm.1 h with h|h
  ·exact Y8 i ab h
  ·unfold gz at h
   obtain⟨z,d,rfl⟩:=dS.1 (mn.1 h).1;obtain⟨v,I⟩:=R.Xy (i:=i) ab z d;refine⟨?_,(N5.1 I).2.2.2.1⟩;obtain⟨t,m,b,c,s,h,x,y,rfl,_,_,_,_,_,M,_⟩:=v;exact M
omit R in
theorem aqO:dv (calls.filter jK).length 12=true:=aB
theorem aqP:(fC (bQ L C A L.length)).length<=12:=by
 obtain⟨d,h⟩:=rz (bQ L C A L.length);have h1:(fC (bQ L C A L.length)).length<=(calls.filter jK).length:=AQ d fun k v=>by
  obtain⟨y,I⟩:=Y8 R L.length (aV _) ((h k).1 v)
  grind
 grind[aqO,ml]
theorem Y9{k:BY}(d:k∈bQ L C A L.length):eZ (bH (di L C A L.length)).1 k=(gU A k L.length:Nat):=by
 rw[Ea,Oq (I3 _ d)]
theorem aqQ{k:BY}(d:k∈bQ L C A L.length):eZ (bH (bQ L C A L.length)).1 k=(fx A k L.length:Nat):=by
 rw[Ea,YW (I3 _ d)]
theorem Y_{k:BY}(d:k∈bQ L C A L.length):1<=gU A k L.length:=by
 rw[<-Oq (I3 _ d)];exact ZX.2 ((Ot _).2 d)
theorem aqR(k:BY):0<=eZ (bH (di L C A L.length)).1 k/\eZ (bH (di L C A L.length)).1 k<=100000:=by
 rw[Ea];have h1:=I2 R L.length (aV _);have d:(di L C A L.length).count k<=(di L C A L.length).length:=JA;have:=R.n;omega
def nT(L:LL)(C:Nat->BY)(A:Nat->LL):LL:=zU (eZ (bH (di L C A L.length)).1) (fj (bQ L C A L.length)) L.length
theorem aqS:zA [.l (bH (di L C A L.length)).1,.i ((bH (di L C A L.length)).2:Int)] =
  some [.l (bH (di L C A L.length)).1,.i ((bH (di L C A L.length)).2:Int),.l (nT L C A)]:=by
 have N:=Om (di L C A L.length);have U:=On (di L C A L.length) ([],0);have U:(bH (di L C A L.length)).1.length<=(di L C A L.length).length:=by simpa[bH]using U
 have hll:=I2 R L.length (aV _);have hLn:=R.n;unfold zA;have hok:mJ (rf [.l (bH (di L C A L.length)).1,.i ((bH (di L C A L.length)).2:Int)])=true:=by
  unfold mJ jZ sr rf
  (dsimp only[go_sem])
  simp only[a7];rw[N.mH,iD,ml];omega
 rw[hok,cT];refine Mg fun b p y=>?_;have hr:jZ (rf [.l (bH (di L C A L.length)).1,.i ((bH (di L C A L.length)).2:Int)])=(bH (di L C A L.length)).1:=rfl;rw[hr]at y;have O:p.map C0=fJ (jg p):=Y3 N y;have hD:lB (rf [.l (bH (di L C A L.length)).1,.i ((bH (di L C A L.length)).2:Int)]) p=[.l (bH (di L C A L.length)).1,.i ((bH (di L C A L.length)).2:Int),.l (fJ (jg p))]:=by
  unfold lB;rw[O];unfold sr rf jZ
  (dsimp only[go_sem])
  simp only[a7]
 rw[hD];have v:∀s,s∈jg p↔s∈bQ L C A L.length:=fun s=>by rw[(I7 y).mem_iff,YP,Ot]
 have I:(jg p).Nodup:=(I7 y).nodup_iff.2 (YO N);have W:(jg p).length<=12:=by
  have h1:=aqP R;obtain⟨n1,n2⟩:=rz (bQ L C A L.length);have h2:(jg p).length<=(fC (bQ L C A L.length)).length:=AQ I (fun k O=>(n2 k).2 ((v k).1 O));omega
 have M:((((bH (di L C A L.length)).2:Int).toNat:Nat):Int)=((bH (di L C A L.length)).2:Int):=by rw[a7]
 have d:=aqM (bH (di L C A L.length)).1 ((bH (di L C A L.length)).2:Int) M (aqR R) (jg p) W;have e:eP (cr (cU (eZ (bH (di L C A L.length)).1))) (fJ (jg p))=nT L C A:=by
  unfold nT;refine aqN _ _ (I5 _) ?_ (fun r hr=>?_) (fun r=>?_) fun r hr=>?_
  ·unfold fJ
   rw[tc,qA];rw[tc]at I;exact I.imp fun hne e=>hne (by simpa using e)
  ·obtain⟨s,_,rfl⟩:=dS.1 hr
   exact⟨s,rfl⟩
  ·rw[AT]
   constructor
   ·intro h
    obtain⟨s,d,rfl⟩:=dS.1 h;exact⟨s,(v s).1 d,rfl⟩
   ·rintro⟨s,d,rfl⟩
    exact dS.2 ⟨s,(v s).2 d,rfl⟩
  ·obtain⟨s,d,rfl⟩:=dS.1 hr
   have d:=(v s).1 d;show 1<=eZ (bH (di L C A L.length)).1 s/\eZ (bH (di L C A L.length)).1 s<=_
   rw[Y9 R d];have h1:=Y_ R d;have h2:=I4 (A:=A) s L.length;omega
 rw[e]at d;have hsl:(nT L C A).length=(fJ (jg p)).length:=by rw[<-e,y8]
 refine aa.toEq ?_;unfold HA
 (dsimp only[go_sem])
 rw[M];refine aa.jx (aa.eq d) au ?_;rintro _ rfl
 (dsimp only[go_sem])
 rw[M];exact aa.pos (by rw[hsl]; simp) (aa.some rfl)
end
section
variable {L:LL} {C:Nat->BY} {A:Nat->LL} (R:mQ L C A)
include R
theorem Y'(k:BY)(v y:Int){i:Nat}(hi:i<L.length):∀(d j:Nat),j+d=(A i).length ->
  aR Dm [.s k,.i v,.i y,.i ((jP ((A i).take j)).count k:Nat),.l L,.i (L.length:Int),.i (i:Int),.l (A i),.i ((A i).length:Int),.i (j:Int)] (d+1) fun x g=>x=0/\g=[.s k,.i v,.i y,.i ((jP (A i)).count k:Nat),.l L,.i (L.length:Int),.i (i:Int)]
 |0,j,M=>by
  refine aR.stop (x:=0) (aa.toEq ?_) ⟨rfl,rfl⟩;rw[s7 ab];unfold Dm
  (dsimp only[go_sem])
  exact aa.n (aa.some rfl)
 |d+1,j,M=>by
  have U:=R.na i hi;have I:=Y' k v y hi d (j+1) ab;have N:(A i).take (j+1)=(A i).take j++[(A i).getD j []]:=by
   rw[dc,cB (by omega:j<(A i).length)];exact(EA (by omega:j<(A i).length)).symm
  have O:(jP ((A i).take j)).count k<=40:=by
   have h1:(jP ((A i).take j)).count k<=(jP ((A i).take j)).length:=JA;unfold jP at h1;rw[cP,mg]at h1;unfold jP;omega
  have he:(jP ((A i).take (j+1))).count k=(jP ((A i).take j)).count k+if (gi ((A i).getD j []) 3).sV=k then 1 else 0:=by
   unfold jP;rw[N,kj,ZW,e9,List.map_nil,asK,List.count_nil];by_cases h:(gi ((A i).getD j []) 3).sV=k<;>simp[h]
  rw[he]at I;generalize (jP ((A i).take j)).count k=n at I O;refine aR.next (aa.toEq ?_) I
  unfold Dm
  (dsimp only[go_sem])
  simp only[a7];refine aa.p (aa.p ?_);rw[l8];by_cases h:(gi ((A i).getD j []) 3).sV=k
  ·rw[iP h]
   exact aa.pos (dE h) (aa.p (aa.p (aa.some rfl)))
  ·rw[iN h]
   exact aa.neg (decide_eq_false h) (aa.p (aa.some rfl))
theorem Za(k:BY):∀ i,i<=L.length->fx A k i<=40*i
 |0,_=>by simp[fx]
 |i+1,h=>by
  have h1:=Za k i ab;have d:=R.na i ab
  grind[jP,cP,fx]
theorem Zb(k:BY):∀(d i:Nat),i+d=L.length ->
  aR Dn [.s k,.i (gU A k i:Nat),.i (fx A k i:Nat),.l L,.i (L.length:Int),.i (i:Int)] (d+1) fun x g=>x=0/\g=[.i (gU A k L.length:Nat),.i (fx A k L.length:Nat)]
 |0,i,hi=>by
  refine aR.stop (x:=0) (aa.toEq ?_) ⟨rfl,rfl⟩;unfold Dn
  (dsimp only[go_sem])
  refine aa.n (aa.some ?_);rw[show i=L.length by omega]
 |d+1,i,hi=>by
  have hn:=R.n;have v:=R.na i ab;have h:=Zb k d (i+1) ab;have h1:=I4 (A:=A) k i;have y:=Za R k i ab;have I:(jP (A i)).count k<=(jP (A i)).length:=JA;have M:(jP (A i)).length=(A i).length:=by unfold jP; rw[cP]
  refine aR.next (aa.toEq ?_) h
  unfold Dn
  (dsimp only[go_sem])
  simp only[a7,R.get i (by omega:i<L.length)]
  (dsimp only[go_sem])
  refine aa.p (aa.p ?_);have hr:=Y' R k (gU A k i:Nat) (fx A k i:Nat) (i:=i) ab (A i).length 0 ab;refine aa.loop (hr.to ab) fk ?_;rintro c g ⟨rfl,rfl⟩
  (dsimp only[go_sem])
  rw[gU,fx];refine aa.p ?_;by_cases h0:(jP (A i)).count k=0
  ·rw[iP h0]
   refine aa.neg (by rw[cS]; exact decide_eq_false ab) (aa.p (aa.some ?_));simp
  ·rw[iN h0]
   refine aa.pos (by rw[cS]; exact dE ab) (aa.p (aa.p (aa.some ?_)));simp
theorem Zc(k:BY):Dp [.l L,.s k]=some [.i (gU A k L.length:Nat),.i (fx A k L.length:Nat)]:=by
 have hn:=R.n;refine aa.toEq ?_;unfold Dp
 (dsimp only[go_sem])
 have hr:=Zb R k L.length 0 ab;refine aa.loop (hr.to ab) fk ?_;rintro c g ⟨rfl,rfl⟩;exact aa.some rfl
end
def k_(f:BY->Int)(r:LG):LG:=[.s (gi r 0).sV,.s (gx (f (gi r 0).sV))]
def uU(f:BY->Int)(q:LL)(d:Int):Nat->LL
 |0=>[]
 |n+1=>if d<=((n+1:Nat):Int) then (q.filter fun r=>decide (f (gi r 0).sV=((n+1:Nat):Int))).map (k_ f)++uU f q d n else []
theorem I8(f:BY->Int)(q:LL)(d:Int)(h1:1<=d):∀ n,((zU f q n).filter fun r=>bq d (f (gi r 0).sV)).map (k_ f)=uU f q d n
 |0=>rfl
 |n+1=>by
  rw[zU,uU,A',kj,I8 f q d h1 n];by_cases h:d<=((n+1:Nat):Int)
  ·rw[iP h]
   congr 2;refine Jq.2 fun r hr=>?_;have:=(mn.1 hr).2;rw[dT]at this;rw[fe,dT];omega
  ·rw[iN h]
   have k:((q.filter fun r=>decide (f (gi r 0).sV=((n+1:Nat):Int))).filter fun r=>bq d (f (gi r 0).sV))=[]:=OU.2 fun r hr=>by
    have:=(mn.1 hr).2;rw[dT]at this;rw[fe,dT];omega
   rw[k,<-I8 f q d h1 n];have v:((zU f q n).filter fun r=>bq d (f (gi r 0).sV))=[]:=OU.2 fun r hr=>by
    obtain⟨_,_,y⟩:=(AU f q n).1 hr;rw[fe,dT];omega
   rw[v];rfl
section
variable {L:LL} {C:Nat->BY} {A:Nat->LL} (R:mQ L C A)
include R
omit R in
def fU(L:LL)(C:Nat->BY)(A:Nat->LL):BY->Int:=eZ (bH (di L C A L.length)).1
theorem Zd(h:r∈fj (bQ L C A L.length)):∃s:BY,r=[.s s]/\s∈bQ L C A L.length/\fU L C A s=(gU A s L.length:Nat)/\1<=gU A s L.length/\gU A s L.length<=40:=by
 obtain⟨s,d,rfl⟩:=AT.1 h;have h1:=I4 (A:=A) s L.length;have k:=R.n;exact⟨s,rfl,d,Y9 R d,Y_ R d,ab⟩
theorem aqT(h:r∈nT L C A):∃s:BY,r=[.s s]/\s∈bQ L C A L.length/\fU L C A s=(gU A s L.length:Nat)/\1<=gU A s L.length/\gU A s L.length<=40:=
 Zd R ((AU _ _ _).1 h).1
theorem Oy:(nT L C A).length<=1600:=by
 have h1:(nT L C A).Nodup:=by
  have d:=Ox (eZ (bH (di L C A L.length)).1) (fj (bQ L C A L.length)) (I5 _) L.length;rw[tc];exact d.imp fun h=>h.2
 have k:(nT L C A).length<=(fj (bQ L C A L.length)).length:=AQ h1 (fun r hr=>((AU _ _ _).1 hr).1);have v:=I6 (bQ L C A L.length);have y:=xw R;omega
theorem Ze(k:Int){m:LL} (hm:m=(bH (di L C A L.length)).1) {bk:Int} (M:((bk.toNat:Nat):Int)=bk) {keys:LL} (y:keys=nT L C A):∀(d j:Nat),j+d=keys.length ->
  aR C2 [.l m,.i bk,.l (((keys.take j).filter fun r=>bq k (fU L C A (gi r 0).sV)).map (k_ (fU L C A))),.i k,.l keys,.i (keys.length:Int),.i (j:Int)] (d+1) fun x g=>x=0/\g=[.l ((keys.filter fun r=>bq k (fU L C A (gi r 0).sV)).map (k_ (fU L C A)))]
 |0,j,hj=>by
  refine aR.stop (x:=0) (aa.toEq ?_) ⟨rfl,rfl⟩;rw[s7 ab];unfold C2
  (dsimp only[go_sem])
  exact aa.n (aa.pos au (aa.some rfl))
 |d+1,j,hj=>by
  have hkl:keys.length<=1600:=by rw[y]; exact Oy R
  have I:=Ze k hm M y d (j+1) ab;have W:keys.getD j []∈nT L C A:=by rw[<-y]; exact j7 ab
  obtain⟨s,hr,hs,v,hp,hq⟩:=aqT R W;have ht:keys.take (j+1)=keys.take j++[[.s s]]:=by
   rw[<-hr,dc,cB (by omega:j<keys.length)];exact(EA (by omega:j<keys.length)).symm
  have N:(gi (cR [.str] m [.s s] [.i 0]) 0).iV=(gU A s L.length:Nat):=by
   rw[hm];exact v
  have O:((((keys.take j).filter fun r=>bq k (fU L C A (gi r 0).sV)).map (k_ (fU L C A)))).length<=1600:=by
   rw[cP];have h1:=vu (fun r=>bq k (fU L C A (gi r 0).sV)) (keys.take j);rw[mg]at h1;omega
  have U:(((keys.take (j+1)).filter fun r=>bq k (fU L C A (gi r 0).sV)).map (k_ (fU L C A)))=(((keys.take j).filter fun r=>bq k (fU L C A (gi r 0).sV)).map (k_ (fU L C A)))++(if bq k ((gU A s L.length:Nat):Int)=true then [[.s s,.s (gx ((gU A s L.length:Nat):Int))]] else []):=by
   rw[ht,A',kj];congr 1;show (ZV (fun r=>bq k (fU L C A (gi r 0).sV)) [[.s s]]).map _=_
   by_cases h:bq k ((gU A s L.length:Nat):Int)=true
   ·rw[iP h,O4 (by show bq k (fU L C A s)=true; rw[v]; exact h),rI]
    show [[G.s s,.s (gx (fU L C A s))]]=_
    rw[v]
   ·rw[iN h,Jz (by show ¬ bq k (fU L C A s)=true; rw[v]; exact h),rI]
    rfl
  rw[U]at I;generalize (((keys.take j).filter fun r=>bq k (fU L C A (gi r 0).sV)).map (k_ (fU L C A)))=out at I O;refine aR.next (aa.toEq ?_) I
  unfold C2
  (dsimp only[go_sem])
  simp only[a7,hr]
  (dsimp only[go_sem])
  simp only[N,M];refine aa.p (aa.p ?_);by_cases h:bq k ((gU A s L.length:Nat):Int)=true
  ·rw[iP h]
   refine aa.pos h ?_;refine aa.cE (Oo ab) ?_
   (dsimp only[go_sem])
   exact aa.pos (by rw[jD,iD,dT]; omega) (aa.p (aa.pos au (aa.some rfl)))
  ·rw[iN h,dY]
   have h:bq k ((gU A s L.length:Nat):Int)=false:=by simpa using h
   exact aa.neg h (aa.p (aa.pos au (aa.some rfl)))
def AW(L:LL)(C:Nat->BY)(A:Nat->LL)(d:Int):LL:=uU (fU L C A) (fj (bQ L C A L.length)) d L.length
theorem aqU(a lo hi:Int):qi [.i a,.i lo,.i hi]=some [.t (aN a lo||aN hi a)]:=by
 refine aa.toEq ?_;unfold qi
 (dsimp only[go_sem])
 cases h:aN a lo with
 |true=>exact aa.some rfl
 |false=>exact aa.some rfl
theorem aqV(cC:oA [.l L]=some [.i 0])(d:Int):zB [.l L,.i d]=some (bif aN d 1||aN 100 d then [.l [],.i 1] else [.l (AW L C A d),.i 0]):=by
 have v:=Oy R;refine aa.toEq ?_;unfold zB
 (dsimp only[go_sem])
 refine aa.cE cC ?_;refine aa.neg rfl ?_;refine aa.cE (aqU R d 1 100) ?_
 (dsimp only[go_sem])
 cases h:aN d 1||aN 100 d with
 |true=>exact aa.some rfl
 |false=>
  rw[O3,cS,cS,dF,dF]at h;refine aa.neg rfl ?_;refine aa.cE (YU R) ?_
  (dsimp only[go_sem])
  have k:((((bH (di L C A L.length)).2:Int).toNat:Nat):Int)=((bH (di L C A L.length)).2:Int):=by rw[a7]
  simp only[k];refine aa.cE (aqS R) ?_
  (dsimp only[go_sem])
  simp only[k];have hr:=Ze R d rfl k rfl (nT L C A).length 0 ab;refine aa.loop (hr.to ab) fk ?_;rintro c g ⟨rfl,rfl⟩
  (dsimp only[go_sem])
  refine aa.pos au (aa.some ?_);have e:((nT L C A).filter fun r=>bq d (fU L C A (gi r 0).sV)).map (k_ (fU L C A))=AW L C A d:=I8 (fU L C A) (fj (bQ L C A L.length)) d ab L.length;rw[e];rfl
theorem Zf(k:Int)(n:Nat)(hn:n<=40){q:LL}(hq:q=fj (bQ L C A L.length))(out:LL)(ho:out.length<=100000):∀(d j:Nat),j+d=q.length ->
  aR Dq [.l (out++((q.take j).filter fun r=>decide (fU L C A (gi r 0).sV=(n:Int))).map (k_ (fU L C A))),.l L,.i k,.i (n:Int),.l q,.i (q.length:Int),.i (j:Int)] (d+1) fun x g=>x=0 /\
   g=[.l (out++(q.filter fun r=>decide (fU L C A (gi r 0).sV=(n:Int))).map (k_ (fU L C A))),.l L,.i k,.i (n:Int)]
 |0,j,O=>by
  refine aR.stop (x:=0) (aa.toEq ?_) ⟨rfl,rfl⟩;rw[s7 ab];unfold Dq
  (dsimp only[go_sem])
  exact aa.n (aa.pos au (aa.some rfl))
 |d+1,j,O=>by
  have hql:q.length<=1600:=by
   rw[hq];have h3:=I6 (bQ L C A L.length);have h4:=xw R;omega
  have v:=Zf k n hn hq out ho d (j+1) ab;have N:q.getD j []∈fj (bQ L C A L.length):=by rw[<-hq]; exact j7 ab
  obtain⟨s,hr,hs,y,hp,hq2⟩:=Zd R N;have U:q.take (j+1)=q.take j++[[.s s]]:=by
   rw[<-hr,dc,cB (by omega:j<q.length)];exact(EA (by omega:j<q.length)).symm
  have I:(out++((q.take j).filter fun r=>decide (fU L C A (gi r 0).sV=(n:Int))).map (k_ (fU L C A))).length<=102000:=by
   rw[fV,cP];have h1:=vu (fun r=>decide (fU L C A (gi r 0).sV=(n:Int))) (q.take j);rw[mg]at h1;omega
  have M:out++((q.take (j+1)).filter fun r=>decide (fU L C A (gi r 0).sV=(n:Int))).map (k_ (fU L C A))=(out++((q.take j).filter fun r=>decide (fU L C A (gi r 0).sV=(n:Int))).map (k_ (fU L C A)))++(if gU A s L.length=n then [[.s s,.s (gx (n:Int))]] else []):=by
   rw[U,A',kj,kl];congr 2;show (ZV (fun r=>decide (fU L C A (gi r 0).sV=(n:Int))) [[.s s]]).map _=_
   by_cases h:gU A s L.length=n
   ·rw[iP h,O4 (by show decide (fU L C A s=(n:Int))=true; rw[y,h]; exact dE rfl),rI]
    show [[G.s s,.s (gx (fU L C A s))]]=_
    rw[y,h]
   ·rw[iN h,Jz (by show ¬ decide (fU L C A s=(n:Int))=true; rw[y,dT]; omega),rI]
    rfl
  rw[M]at v;generalize (out++((q.take j).filter fun r=>decide (fU L C A (gi r 0).sV=(n:Int))).map (k_ (fU L C A)))=W at v I;refine aR.next (aa.toEq ?_) v
  unfold Dq
  (dsimp only[go_sem])
  simp only[a7,hr]
  (dsimp only[go_sem])
  refine aa.p (aa.p ?_);refine aa.cE (Zc R s) ?_
  (dsimp only[go_sem])
  by_cases h:gU A s L.length=n
  ·rw[iP h]
   refine aa.pos (by rw[h]; simp) ?_;refine aa.cE (Oo ab) ?_
   (dsimp only[go_sem])
   exact aa.pos (by rw[jD,iD,dT]; omega) (aa.p (aa.pos au (aa.some rfl)))
  ·rw[iN h,dY]
   exact aa.neg (by rw[beq_eq_false_iff_ne]; omega) (aa.p (aa.pos au (aa.some rfl)))
theorem Zg(d:Int)(v:1<=d):∀(n:Nat) (out:LL),n<=40->out.length<=1600*(40-n) ->
  aR zZ [.l out,.l L,.i d,.i (n:Int)] (n+1) fun x g=>x=0/\g=[.l (out++uU (fU L C A) (fj (bQ L C A L.length)) d n)]
 |0,out,_,_=>by
  refine aR.stop (x:=0) (aa.toEq ?_) ⟨rfl,rfl⟩;unfold zZ
  (dsimp only[go_sem])
  refine aa.neg (by rw[fe]; exact decide_eq_false ab) (aa.pos au (aa.some ?_));show _=(some 0,[G.l (out++[])])
  rw[dY]
 |n+1,out,hn,ho=>by
  by_cases h:d<=((n+1:Nat):Int)
  ·have y:(fj (bQ L C A L.length)).length<=1600:=by
    have M:=I6 (bQ L C A L.length);have N:=xw R;omega
   have I:=vu (fun r=>decide (fU L C A (gi r 0).sV=((n+1:Nat):Int))) (fj (bQ L C A L.length));have k:=Zg d v n (out++((fj (bQ L C A L.length)).filter fun r=>decide (fU L C A (gi r 0).sV=((n+1:Nat):Int))).map (k_ (fU L C A))) ab (by rw[fV,cP]; omega);rw[kl]at k;rw[uU,iP h];refine aR.next (aa.toEq ?_) k
   unfold zZ
   (dsimp only[go_sem])
   refine aa.pos (by rw[fe]; exact dE h) ?_;refine aa.cE (aqE R) ?_
   (dsimp only[go_sem])
   have hr:=Zf R d (n+1) hn rfl out ab (fj (bQ L C A L.length)).length 0 ab;rw[show out++(((fj (bQ L C A L.length)).take 0).filter fun r=>decide (fU L C A (gi r 0).sV=((n+1:Nat):Int))).map (k_ (fU L C A))=out from dY _]at hr;refine aa.loop (hr.to ab) au ?_;rintro c g ⟨rfl,rfl⟩
   (dsimp only[go_sem])
   refine aa.p (aa.pos au (aa.some ?_))
   grind
  ·rw[uU,iN h]
   refine aR.stop (x:=0) (aa.toEq ?_) ⟨rfl,rfl⟩;unfold zZ
   (dsimp only[go_sem])
   simp_all[fe,decide_eq_false,aa.some]
theorem aqW(d:Int)(h:1<=d):z_ [.l L,.i d]=some [.l (AW L C A d)]:=by
 have hn:=R.n;refine aa.toEq ?_;unfold z_
 (dsimp only[go_sem])
 have hr:=Zg R d h L.length [] ab au;refine aa.loop (hr.to ab) fk ?_;rintro c g ⟨rfl,rfl⟩
 (dsimp only[go_sem])
 exact aa.pos au (aa.some rfl)
end
theorem aqX{p:LG->Bool}(k:LL)(O:∀ x,Q x->[G.s (gi x 0).sV]=x)(hC:∀ x,Q x->uL [.s (gi x 0).sV,.l [[.l k]]]=some [.t (p x)])(rZ:LL)(hr:∀ y∈rZ,Q y)(hn:rZ.length<99999):
  aa (HZ [.l rZ,.l [[.l k]]]) fun g=>(∃d x v,rZ=d++x::v/\(∀y∈d,p y=false)/\p x=true/\g=[.i (d.length:Int)])\/(∀y∈rZ,p y=false)/\g=[.i (-1)]:=by
 unfold HZ
 (dsimp only[go_sem])
 refine aa.loop (aft (fun i=>[.l rZ,.l [[.l k]],.i (rZ.length:Int),.i (i:Int)]) rZ p ab (fun i x hi I hm=>by
  have hX:=hr x hm;unfold HY
  (dsimp only[go_sem])
  simp only[a7,I];refine aa.p (aa.p ?_);refine aa.cE (hC x hX) ?_
  (dsimp only[go_sem])
  cases U:p x with
  |true=>exact aa.pos rfl (aa.some rfl)
  |false=>exact aa.neg rfl (aa.p (aa.some rfl))) (by
  unfold HY
  (dsimp only[go_sem])
  exact aa.n (aa.some rfl))) fg ?_
 rintro c g (⟨rfl,d,x,v,h1,M,N,rfl⟩|⟨rfl,rfl,h⟩)
 ·exact aa.pos rfl (aa.some (.inl ⟨d,x,v,h1,M,N,rfl⟩))
 ·exact aa.neg rfl (aa.some (.inr ⟨h,rfl⟩))
theorem Oz{Q:LG->Prop}{p:LG->Bool}(O:LL)(U:∀x,Q x->[G.s (gi x 0).sV]=x)(hC:∀x,Q x->uL [.s (gi x 0).sV,.l [[.l O]]]=some [.t (p x)]):∀(q kept M:LL) (z:LG),(∀y∈kept++(z::M)++q,Q y)->kept.length+M.length+1+q.length<100000 ->
  aR Ah [.l (kept++(z::M)++q),.l [[.l O]],.i (kept.length:Int),.i ((kept.length+M.length+1:Nat):Int)] (q.length+1) fun c g=>c=0/\∃J,g=[.l (kept++q.filter (fun y => !p y)++J),.i ((kept++q.filter (fun y => !p y)).length:Int)]/\(kept++q.filter (fun y => !p y)++J).length=kept.length+M.length+1+q.length
 |[],kept,M,z,v,W=>by
  simp only[km]at W;refine aR.stop (x:=0) (aa.toEq ?_) ⟨rfl,z::M,rfl,bS⟩;unfold Ah
  (dsimp only[go_sem])
  (repeat first|refine aa.p ?_|refine aa.n ?_)
  grind[aa.some]
 |y::q,kept,M,z,v,W=>by
  simp only[cz]at W;have I:Q y:=v y au;have hlen:(kept++(z::M)++y::q).length=kept.length+M.length+2+q.length:=bS;have g1:(kept++(z::M)++y::q).getD (0+((kept.length+M.length+1:Nat):Int).toNat) []=y:=nD _ _ _ _ _ bS;cases he:p y with
  |true=>
   have ih:=Oz O U hC q kept (M++[y]) z (by simpa using v) bS;refine aR.next (aa.toEq ?_) (ih.mono ?_)
   ·unfold Ah
    (dsimp only[go_sem])
    simp only[g1,hlen];(repeat first|refine aa.p ?_|refine aa.n ?_);refine aa.cE (hC y I) ?_
    (dsimp only[go_sem])
    simp only[he];(repeat first|refine aa.p ?_|refine aa.n ?_);refine aa.some ?_;simp;omega
   grind
  |false=>
   obtain⟨N,k,e1,e2,e3⟩:∃N k,M++[y]=N::k/\k.length=M.length/\∀x∈N::k,x∈M++[y]:=by
    cases M with
    |nil=>grind
    |cons m M=>grind
   have ih:=Oz O U hC q (kept++[y]) k N (by
    intro x d;simp only[dm]at d;rcases d with(d|d)|d
    ·rcases d with d | d
     ·exact v x (by simp[d])
     ·simp at d; exact d▸I
    ·have:=e3 x d
     simp only[dm]at this;rcases this with h|h
     ·exact v x (by simp[h])
     ·simp at h; exact h▸I
    ·exact v x (by simp[d])) (by simp[e2]; omega)
   have hps:∀o:LG,eh [.str] o 0 [G.s (gi y 0).sV]=y:=fun o=>by
    rw[U y I];exact y9 (by rw[<-U y I]; rfl)
   have hs:(kept++(z::M)++y::q).set (0+(kept.length:Int).toNat) y=(kept++[y])++(N::k)++q:=by
    rw[<-e1]; simp
   have hl2:((kept++[y])++(N::k)++q).length=kept.length+M.length+2+q.length:=by simp[e2]; omega
   refine aR.next (aa.toEq ?_) (ih.mono ?_)
   ·unfold Ah
    (dsimp only[go_sem])
    simp only[g1,hlen,hps,hs,hl2];(repeat first|refine aa.p ?_|refine aa.n ?_);refine aa.cE (hC y I) ?_
    (dsimp only[go_sem])
    simp only[he];(repeat first|refine aa.p ?_|refine aa.n ?_);refine aa.some ?_;simp[e2];omega
   grind
theorem aqY{p:LG->Bool}(k:LL)(O:∀ x,Q x->[G.s (gi x 0).sV]=x)(hC:∀ x,Q x->uL [.s (gi x 0).sV,.l [[.l k]]]=some [.t (p x)])(rZ:LL)(hr:∀ y∈rZ,Q y)(hn:rZ.length<99999):
  aa (H6 [.l rZ,.l [[.l k]]]) fun g=>∃J,g=[.l (rZ.filter (fun y => !p y)++J),.i ((rZ.filter (fun y => !p y)).length:Int)]/\(rZ.filter (fun y => !p y)++J).length=rZ.length:=by
 unfold H6
 (dsimp only[go_sem])
 refine aa.jx (aqX k O hC rZ hr ab) fg ?_;rintro g (⟨d,x,v,h1,U,W,rfl⟩|⟨h,rfl⟩)
 ·(dsimp only[go_sem])
  have hl:rZ.length=d.length+1+v.length:=by rw[h1]; simp; omega
  (repeat first|refine aa.p ?_|refine aa.n ?_);have h:=Oz k O hC v d [] x (by rw[h1]at hr; simpa using hr) bS;have e:d++[x]++v=rZ:=by rw[h1]; simp
  have I:rZ.filter (fun y => !p y)=d++v.filter (fun y => !p y):=by
   rw[h1,A',Jz (by simp[W])];congr 1;exact Jq.2 (by intro y N; simp[U y N])
  have ei:((d.length+([]:LL).length+1:Nat):Int)=(d.length:Int)+1:=au;rw[e,ei,<-I]at h;refine aa.loop (h.to ab) fg ?_;rintro c g ⟨rfl,J,rfl,hJ⟩
  (dsimp only[go_sem])
  have M:(rZ.filter (fun y => !p y)++J).length=rZ.length:=by rw[hJ,hl]; simp
  have hle:(rZ.filter (fun y => !p y)).length<=rZ.length:=by rw[<-M]; simp
  generalize hw:rZ.filter (fun y => !p y)=w at *;simp only[M];(repeat first|refine aa.p ?_|refine aa.n ?_);refine aa.some ⟨cn (rZ.length-w.length) [G.s (⟨#[]⟩:BY)],?_,bS⟩;have t1:List.take (0+(w.length:Int).toNat) (w++J)=w:=au;have t2:List.drop (0+(w.length:Int).toNat+(rZ.length-(w.length:Int).toNat)) (w++J)=[]:=by
   apply ZO; rw[M]; omega
  rw[t1,t2];simp
 ·(dsimp only[go_sem])
  (repeat first|refine aa.p ?_|refine aa.n ?_);have I:rZ.filter (fun y => !p y)=rZ:=Jq.2 (by intro y N; simp[h y N]);exact aa.some ⟨[],by rw[I]; simp,by rw[I]; simp⟩
section
variable {L:LL} {C:Nat->BY} {A:Nat->LL} (R:mQ L C A)
include R
def vk(L:LL)(C:Nat->BY)(A:Nat->LL):LL:=(fj (bQ L C A L.length)).filter fun r=>aD (fx A (gi r 0).sV L.length) 1
theorem I9:(fj (bQ L C A L.length)).length<=1600:=by
 have d:=I6 (bQ L C A L.length);have h:=xw R;omega
theorem Zh{m:LL} (hm:m=(bH (bQ L C A L.length)).1) {bk:Int} (y:((bk.toNat:Nat):Int)=bk) {keys:LL} (k:keys=fj (bQ L C A L.length)):∀(d j:Nat),j+d=keys.length ->
  aR C3 [.l m,.i bk,.l ((keys.take j).filter fun r=>aD (fx A (gi r 0).sV L.length) 1),.l keys,.i (keys.length:Int),.i (j:Int)] (d+1) fun x g=>x=0/\g=[.l (keys.filter fun r=>aD (fx A (gi r 0).sV L.length) 1)]
 |0,j,U=>by
  refine aR.stop (x:=0) (aa.toEq ?_) ⟨rfl,rfl⟩;rw[s7 ab];unfold C3
  (dsimp only[go_sem])
  exact aa.n (aa.pos au (aa.some rfl))
 |d+1,j,U=>by
  have hkl:keys.length<=1600:=by rw[k]; exact I9 R
  have v:=Zh hm y k d (j+1) ab;have O:keys.getD j []∈fj (bQ L C A L.length):=by rw[<-k]; exact j7 ab
  obtain⟨s,W,hr⟩:=AT.1 O;have ht:keys.take (j+1)=keys.take j++[[.s s]]:=by
   rw[<-hr,dc,cB (by omega:j<keys.length)];exact(EA (by omega:j<keys.length)).symm
  have I:(gi (cR [.str] m [.s s] [.i 0]) 0).iV=(fx A s L.length:Nat):=by
   rw[hm];exact aqQ R W
  have M:((keys.take j).filter fun r=>aD (fx A (gi r 0).sV L.length) 1).length<=1600:=by
   have h1:=vu (fun r=>aD (fx A (gi r 0).sV L.length) 1) (keys.take j);rw[mg]at h1;omega
  have N:((keys.take (j+1)).filter fun r=>aD (fx A (gi r 0).sV L.length) 1)=((keys.take j).filter fun r=>aD (fx A (gi r 0).sV L.length) 1)++(if fx A s L.length=1 then [[.s s]] else []):=by
   rw[ht,A'];congr 1;by_cases h:fx A s L.length=1
   ·rw[iP h,O4 (by show aD (fx A s L.length) 1=true; rw[h]; rfl),rI]
   ·rw[iN h,Jz (by show ¬ aD (fx A s L.length) 1=true; intro e; exact h (bN e)),rI]
  rw[N]at v;generalize ((keys.take j).filter fun r=>aD (fx A (gi r 0).sV L.length) 1)=out at v M;refine aR.next (aa.toEq ?_) v
  unfold C3
  (dsimp only[go_sem])
  simp only[a7,hr]
  (dsimp only[go_sem])
  simp only[I,y];refine aa.p (aa.p ?_);by_cases h:fx A s L.length=1
  ·rw[iP h]
   exact aa.pos (by rw[h]; rfl) (aa.pos (by rw[jD,iD,dT]; omega) (aa.p (aa.pos au (aa.some rfl))))
  ·rw[iN h,dY]
   exact aa.neg (by rw[beq_eq_false_iff_ne]; omega) (aa.p (aa.pos au (aa.some rfl)))
theorem aqZ(cC:oA [.l L]=some [.i 0]):zF [.l L]=some [.l (vk L C A),.i 0]:=by
 have h:=I9 R;have k:=xw R;refine aa.toEq ?_;unfold zF
 (dsimp only[go_sem])
 refine aa.cE cC ?_;refine aa.neg rfl ?_;refine aa.cE (YU R) ?_
 (dsimp only[go_sem])
 have d:((((bH (bQ L C A L.length)).2:Int).toNat:Nat):Int)=((bH (bQ L C A L.length)).2:Int):=by rw[a7]
 simp only[d];refine aa.cE (aqy (bQ L C A L.length) ab) ?_
 (dsimp only[go_sem])
 simp only[d];have hr:=Zh R rfl d rfl (fj (bQ L C A L.length)).length 0 ab;refine aa.loop (hr.to ab) fk ?_;rintro c g ⟨rfl,rfl⟩
 (dsimp only[go_sem])
 exact aa.pos au (aa.some rfl)
theorem Zi:Ai [.l L]=some [.l (vk L C A)]:=by
 have M:=I9 R;have hC:∀x,vj x->uL [.s (gi x 0).sV,.l [[.l L]]]=some [.t (!aD (fx A (gi x 0).sV L.length) 1)]:=fun x _=>by
  refine aa.toEq ?_;unfold uL
  (dsimp only[go_sem])
  refine aa.cE (Zc R _) ?_;refine aa.some ?_;show [G.t (((fx A (gi x 0).sV L.length:Nat):Int) != 1)]=_
  congr 2;by_cases h:fx A (gi x 0).sV L.length=1
  ·rw[h]; rfl
  ·have h1:aD (fx A (gi x 0).sV L.length) 1=false:=by
    cases e:aD (fx A (gi x 0).sV L.length) 1 with
    |false=>rfl
    |true=>exact(h (bN e)).elim
   rw[h1];show (!(((fx A (gi x 0).sV L.length:Nat):Int)==1))=true
   rw[Bool.not_eq_true',beq_eq_false_iff_ne];omega
 have k:∀y∈fj (bQ L C A L.length),vj y:=fun y v=>by
  obtain⟨s,_,e⟩:=AT.1 v;exact⟨s,e⟩
 have d:=aqY (Q:=vj) (p:=fun x => !aD (fx A (gi x 0).sV L.length) 1) L (fun x I=>by obtain⟨s,rfl⟩:=I; rfl) hC (fj (bQ L C A L.length)) k ab;have he:((fj (bQ L C A L.length)).filter fun y => !!aD (fx A (gi y 0).sV L.length) 1)=vk L C A:=by
  unfold vk;congr 1
  funext y
  rw[Bool.not_not]
 refine aa.toEq ?_;unfold Ai
 (dsimp only[go_sem])
 refine aa.cE (aqF R) ?_
 (dsimp only[go_sem])
 rw[he]at d;refine aa.jx d au ?_;rintro _ ⟨J,rfl,N⟩
 (dsimp only[go_sem])
 simp only[a7];refine aa.pos (by rw[fV,jQ,ml]; omega) (aa.some ?_);rw[ZZ]
end
def AX(r:LG):Bool:=((gi r 1).iV != 5)&&((gi r 1).iV != 6)
def cA(rZ:LL):Int:=((rZ.countP AX:Nat):Int)
theorem OA(rZ:LL):0<=cA rZ/\cA rZ<=(rZ.length:Int):=by
 unfold cA;have:=asF (p:=AX) (l:=rZ);omega
theorem aq0(rZ:LL)(x:LG):cA (rZ++[x])=cA rZ+if AX x then 1 else 0:=by
 unfold cA;rw[asG,asH];cases AX x<;>simp
theorem Zj:∀ rZ:LL,((rZ.length:Int)-cK rZ 5)-cK rZ 6=cA rZ
 |[]=>rfl
 |r::l=>by
  have M:=Zj l;unfold cK cA at *;rw[Z0,Z0,Z0,cz];unfold AX at *;by_cases d:(gi r 1).iV=5
  ·have h:¬ (gi r 1).iV=6 :=ab
   simp only[d,bne_self_eq_false,A_,beq_self_eq_true]at *;simp;omega
  ·by_cases h:(gi r 1).iV=6
   ·have k:((gi r 1).iV==5)=false:=by simpa using d
    simp only[k,h,bne_self_eq_false,A9,beq_self_eq_true]at *;simp;omega
   ·have k:((gi r 1).iV==5)=false:=by simpa using d
    have v:((gi r 1).iV==6)=false:=by simpa using h
    have y:((gi r 1).iV != 5)=true:=by simpa using d
    have I:((gi r 1).iV != 6)=true:=by simpa using h
    simp only[k,v,y,I,Bool.and_self]at *;simp;omega
theorem aq1:((fm 100).all fun n=>dv (gx ((n:Nat):Int)).size 3)=true:=aB
theorem Zk(h0:0<=v)(h1:v<100):(gx v).size<=3:=by
 have h:=eD.1 aq1 v.toNat (iQ.2 ab);rw[ml,show ((v.toNat:Nat):Int)=v by omega]at h;exact h
theorem I_(h0:0<=v)(h1:v<100):mM [.i v]=some [.s (gx v)]:=by
 have:=Oo (n:=v.toNat) ab
 rwa [show ((v.toNat:Nat):Int)=v by omega]at this
def aq2(c:BY)(rZ:LL):LG:=[.s c,.s (gx (cK rZ 1)++(⟨#[47]⟩:BY)++gx (cA rZ))]
theorem aq3(rZ:LL)(hn:rZ.length<=90)(c:BY)(q L:LL)(oF len i:Int)(out:LL) :
  kT Ao [.l out,.s c,.l q,.l L,.i oF,.i 0,.i 0,.l L,.i len,.i i,.l rZ,.i (rZ.length:Int),.i 0] fun x g=>x=0/\g=[.l out,.s c,.l q,.l L,.i oF,.i (cK rZ 1),.i (cA rZ),.l L,.i len,.i i]:=by
 have r:=uu (st:=Ao) (σ:=Unit) (fun _ j=>[.l out,.s c,.l q,.l L,.i oF,.i (cK (rZ.take j) 1),.i (cA (rZ.take j)),.l L,.i len,.i i,.l rZ,.i (rZ.length:Int),.i (j:Int)]) rZ
  (fun _=>(0,[.l out,.s c,.l q,.l L,.i oF,.i (cK rZ 1),.i (cA rZ),.l L,.i len,.i i])) (fun _ _=>True) () ab trivial
  (fun _ j x _ N k hm v=>by
   have y:=vg (rZ.take j) x 1;have I:=aq0 (rZ.take j) x;have O:(rZ.take j).length<=90:=by rw[mg]; omega
   have U:=qy (rZ.take j) 1;have W:=OA (rZ.take j);rw[v,y,I];unfold Ao AX
   (dsimp only[go_sem])
   simp only[a7,k];refine aa.p (aa.p ?_);by_cases h1:(gi x 1).iV=1
   ·rw[iP h1,h1]
    refine aa.pos rfl (aa.p (aa.pos rfl (aa.pos rfl (aa.p (aa.p (aa.pos au (aa.some ⟨(),?_,trivial⟩)))))));rfl
   ·rw[iN h1,asJ]
    have M:((gi x 1).iV==1)=false:=gB;refine aa.neg M ?_;by_cases h5:(gi x 1).iV=5
    ·have d:((gi x 1).iV != 5)=false :=gB
     refine aa.neg d (aa.p (aa.pos au (aa.some ⟨(),?_,trivial⟩)))
     grind
    ·have d:((gi x 1).iV != 5)=true :=gB
     refine aa.pos d ?_;by_cases h6:(gi x 1).iV=6
     ·have h:((gi x 1).iV != 6)=false :=gB
      refine aa.neg h (aa.p (aa.pos au (aa.some ⟨(),?_,trivial⟩)))
      grind
     ·have h:((gi x 1).iV != 6)=true :=gB
      refine aa.pos h (aa.p (aa.p (aa.pos au (aa.some ⟨(),?_,trivial⟩))))
      grind)
  (fun _ _=>by
   unfold Ao
   (dsimp only[go_sem])
   simp only[asI];exact aa.n (aa.pos au (aa.some rfl)))
 refine kT.mono r ?_
 grind
section
variable {L:LL} {C:Nat->BY} {A:Nat->LL} (R:mQ L C A) {oF:Int} (h0:0<=oF) (h1:oF<=3600000)
include R
def oE(L:LL)(C:Nat->BY)(A:Nat->LL)(oF:Int):Nat->LL
 |0=>[]
 |i+1=>oE L C A oF i++[aq2 (C i) (c6 L C A i oF (A i).length)]
omit R in
theorem I':∀ i,(oE L C A oF i).length=i
 |0=>rfl
 |i+1=>by rw[oE,fV,I' i]; rfl
omit R in
theorem Zl{a b:Int}(d:0<=a)(h:a<100)(k:0<=b)(v:b<100):dv ((gx a).size+1) 9223372036854775807=true/\dv ((gx a++(⟨#[47]⟩:BY)).size+(gx b).size) 9223372036854775807=true:=by
 have h1:=Zk d h;have I:=Zk k v;have y:(gx a++(⟨#[47]⟩:BY)).size=(gx a).size+1:=ZS;rw[ml,ml,y];omega
theorem Zm:∀(d i:Nat),i+d=L.length ->
  aR De [.l (oE L C A oF i),.l L,.i oF,.l L,.i (L.length:Int),.i (i:Int)] (d+1) fun x g=>x=0/\g=[.l (oE L C A oF L.length)]
 |0,i,hi=>by
  refine aR.stop (x:=0) (aa.toEq ?_) ⟨rfl,rfl⟩;unfold De
  (dsimp only[go_sem])
  refine aa.n (aa.pos au (aa.some ?_));rw[show i=L.length by omega]
 |d+1,i,hi=>by
  have hn:=R.n;have k:i<L.length:=ab;have O:=R.na i k;have h:=Zm d (i+1) ab;have N:=I' (L:=L) (C:=C) (A:=A) (oF:=oF) i;rw[oE]at h;generalize oE L C A oF i=out at h N;have y:=AO L C A i oF (A i).length;obtain⟨I,_⟩:=YG L C A i oF (A i).length;have M:=Yw R.AF k oF;generalize c6 L C A i oF (A i).length=rZ at h y I M;have U:=qy rZ 1;have W:=OA rZ;have b5:=qy rZ 5;have b6:=qy rZ 6;have hA:=Zj rZ;rw[y]at hA;obtain⟨s1,s2⟩:=Zl (a:=cK rZ 1) (b:=cA rZ) ab ab ab ab;refine aR.next (aa.toEq ?_) h
  unfold De
  (dsimp only[go_sem])
  simp only[a7,R.get i k]
  (dsimp only[go_sem])
  refine aa.p (aa.p ?_);refine aa.call (P:=fun g=>g=[.l L,.i (i:Int),.i oF,.l [],.i 0,.l [],.i 0]) (aa.eq rfl) ?_;rintro _ rfl
  (dsimp only[go_sem])
  refine aa.call (P:=fun g=>g=[.l [],.l [],.l [],.l rZ]) (aa.eq M) ?_;rintro _ rfl
  (dsimp only[go_sem])
  refine aa.call (P:=fun g=>g=[.l [cV rZ]]) (aa.eq (aqc rZ ab I)) ?_;rintro _ rfl;unfold cV
  (dsimp only[go_sem])
  rw[hA];refine aa.p (aa.p ?_);refine aa.cE (I_ (v:=cK rZ 1) ab ab) ?_;refine aa.pos s1 ?_;refine aa.cE (I_ (v:=cA rZ) ab ab) ?_
  (dsimp only[go_sem])
  exact aa.pos s2 (aa.pos (by rw[jD,iD,dT]; omega) (aa.p (aa.pos au (aa.some rfl))))
include h0 h1
theorem aq4(cC:oA [.l L]=some [.i 0]):uJ [.l L,.i oF]=some [.l (oE L C A oF L.length),.i 0]:=by
 have hn:=R.n;refine aa.toEq ?_;unfold uJ
 (dsimp only[go_sem])
 refine aa.cE cC ?_;refine aa.neg rfl ?_;refine aa.call (P:=fun g=>g=[.i 0]) (aa.eq ((Oc oF).trans (by rw[show fH oF 0 3600000=true by unfold fH; rw[fe,fe,dE h0,dE h1]; rfl]; rfl))) ?_;rintro _ rfl;refine aa.neg rfl ?_;have hr:=Zm R (oF:=oF) L.length 0 ab;refine aa.loop (hr.to ab) fk ?_;rintro c g ⟨rfl,rfl⟩
 (dsimp only[go_sem])
 exact aa.pos au (aa.some rfl)
theorem Zn:∀(d i:Nat),i+d=L.length ->
  aR DG [.l (oE L C A oF i),.l L,.i oF,.l L,.i (L.length:Int),.i (i:Int)] (d+1) fun x g=>x=0/\g=[.l (oE L C A oF L.length)]
 |0,i,hi=>by
  refine aR.stop (x:=0) (aa.toEq ?_) ⟨rfl,rfl⟩;unfold DG
  (dsimp only[go_sem])
  refine aa.n (aa.pos au (aa.some ?_));rw[show i=L.length by omega]
 |d+1,i,hi=>by
  have hn:=R.n;have k:i<L.length:=ab;have N:=R.na i k;have h:=Zn d (i+1) ab;have I:=I' (L:=L) (C:=C) (A:=A) (oF:=oF) i;rw[oE]at h;generalize oE L C A oF i=out at h I;have M:=AO L C A i oF (A i).length;have y:=aqb R k h0 h1;generalize c6 L C A i oF (A i).length=rZ at h M y;have O:=qy rZ 1;have U:=OA rZ;obtain⟨s1,s2⟩:=Zl (a:=cK rZ 1) (b:=cA rZ) ab ab ab ab;refine aR.next (aa.toEq ?_) h
  unfold DG
  (dsimp only[go_sem])
  simp only[a7,R.get i k]
  (dsimp only[go_sem])
  refine aa.p (aa.p ?_);refine aa.call (P:=fun g=>g=[.l rZ]) (aa.eq y) ?_;rintro _ rfl
  (dsimp only[go_sem])
  refine aa.loop (aq3 rZ ab (C i) (A i) L oF (L.length:Int) (i:Int) out) au ?_;rintro c g ⟨rfl,rfl⟩
  (dsimp only[go_sem])
  refine aa.cE (I_ (v:=cK rZ 1) ab ab) ?_;refine aa.pos s1 ?_;refine aa.cE (I_ (v:=cA rZ) ab ab) ?_
  (dsimp only[go_sem])
  exact aa.pos s2 (aa.pos (by rw[jD,iD,dT]; omega) (aa.p (aa.pos au (aa.some rfl))))
theorem aq5:uM [.l L,.i oF]=some [.l (oE L C A oF L.length)]:=by
 have hn:=R.n;refine aa.toEq ?_;unfold uM
 (dsimp only[go_sem])
 have hr:=Zn R h0 h1 L.length 0 ab;refine aa.loop (hr.to ab) fk ?_;rintro c g ⟨rfl,rfl⟩
 (dsimp only[go_sem])
 exact aa.pos au (aa.some rfl)
end
theorem aq6(l:LL)(hn:l.length<=100000):Im [.l l,.l l]=some [.t true]:=by
 have r:=uu (st:=DI) (σ:=Unit) (fun _ i=>[.l l,.l l,.i (l.length:Int),.i (i:Int)]) l (fun _=>(1,[])) (fun _ _=>True) () ab trivial
  (fun _ i x _ hi d hm _=>by
   unfold DI
   (dsimp only[go_sem])
   simp only[a7,d];refine aa.p (aa.p (aa.p (aa.neg ?_ (aa.p (aa.some ⟨(),rfl,trivial⟩)))));rw[beq_self_eq_true];rfl)
  (fun _ _=>by
   unfold DI
   (dsimp only[go_sem])
   exact aa.n (aa.some rfl))
 refine aa.toEq ?_;unfold Im
 (dsimp only[go_sem])
 refine aa.neg au ?_;refine aa.loop r rfl ?_;rintro c g ⟨_,_,rfl,rfl⟩;exact aa.neg rfl (aa.some rfl)
section
variable {Y u n r:LL} {oF e f g:Int} (hu:u.length<=100000) (hn:n.length<=100000) (hr:r.length<=100000)
include hu hn hr
theorem aq7(I:g=0->uM [.l Y,.i oF]=some [.l r])(v:g≠0->r=[]) :
  DL [.l Y,.i oF,.l u,.i e,.l n,.i f,.l r,.i g,.i f,.i e,.i g,.l u,.l [],.l n]=some (some 0,[.t true]):=by
 have h1:=YH u hu;have k:=aq6 n hn;have h:=YH r hr;refine aa.toEq ?_;unfold DL
 (dsimp only[go_sem])
 by_cases d:g=0
 ·refine aa.pos (by rw[d]; rfl) ?_
  refine aa.call (P:=fun x=>x=[.l r]) (aa.eq (I d)) ?_;rintro _ rfl;refine aa.pos au ?_;refine aa.cE h1 ?_;refine aa.pos rfl (aa.pos au ?_);refine aa.cE k ?_;refine aa.pos rfl (aa.pos au ?_);refine aa.cE h ?_;refine aa.pos rfl ?_;refine aa.cE Yx ?_;exact aa.some rfl
 ·have y:=v d
  refine aa.neg (by simpa using d) (aa.pos au ?_);refine aa.cE h1 ?_;refine aa.pos rfl (aa.pos au ?_);refine aa.cE k ?_;refine aa.pos rfl (aa.pos au ?_);rw[y]at h|-;refine aa.cE h ?_;refine aa.pos rfl ?_;refine aa.cE Yx ?_;exact aa.some rfl
theorem aq8(I:g=0->uM [.l Y,.i oF]=some [.l r])(k:g≠0->r=[])(M:f=0->Ai [.l Y]=some [.l n])(v:f≠0->n=[]) :
  sH [.l Y,.i oF,.l u,.i e,.l n,.i f,.l r,.i g,.i f,.i e,.i g,.l u,.l [],.l []]=some (some 0,[.t true]):=by
 have h:=aq7 (Y:=Y) (oF:=oF) (e:=e) (f:=f) hu hn hr I k;refine aa.toEq ?_;unfold sH
 (dsimp only[go_sem])
 by_cases d:f=0
 ·refine aa.pos (by rw[d]; rfl) ?_
  refine aa.call (P:=fun x=>x=[.l n]) (aa.eq (M d)) ?_;rintro _ rfl;refine aa.tail (P:=fun w x=>w=0/\x=[.t true]) ⟨_,h,0,rfl,rfl,rfl⟩ fk ?_;rintro _ _ ⟨rfl,rfl⟩;exact aa.some rfl
 ·have y:=v d
  rw[y]at h|-;refine aa.neg (by simpa using d) ?_;refine aa.tail (P:=fun w x=>w=0/\x=[.t true]) ⟨_,h,0,rfl,rfl,rfl⟩ fk ?_;rintro _ _ ⟨rfl,rfl⟩;exact aa.some rfl
end
section
variable {L:LL} {C:Nat->BY} {A:Nat->LL} (R:AI L C A)
include R
theorem aq9(oF d:Int):∃(u n r:LL) (e f g:Int),u.length<=100000/\n.length<=100000/\r.length<=100000 /\
  zB [.l L,.i d]=some [.l u,.i e]/\zF [.l L]=some [.l n,.i f]/\uJ [.l L,.i oF]=some [.l r,.i g]/\Dh [.l L]=some [.i f] /\
  qm [.l [[.i f],[.i (bif aN d 1||aN 100 d then 1 else 0)]]]=some [.i e]/\qm [.l [[.i f],[.i (bif fH oF 0 3600000 then 0 else 1)]]]=some [.i g] /\
  (e=0->z_ [.l L,.i d]=some [.l u])/\(e≠0->u=[])/\(f=0->Ai [.l L]=some [.l n])/\(f≠0->n=[])/\(g=0->uM [.l L,.i oF]=some [.l r])/\(g≠0->r=[]):=by
 have cC:=Ya R;have I:=apq R;by_cases k:kF C A L.length 0≠0
 ·generalize kF C A L.length 0=e at k cC I
  refine⟨[],[],[],e,e,e,au,au,au,?_,?_,?_,I,?_,?_,fun h=>(k h).elim,fun _=>rfl,fun h=>(k h).elim,fun _=>rfl,fun h=>(k h).elim,fun _=>rfl⟩
  ·refine aa.toEq ?_
   unfold zB
   (dsimp only[go_sem])
   refine aa.call (P:=fun g=>g=[.i e]) (aa.eq cC) ?_;rintro _ rfl;exact aa.pos (by show (e != 0)=true; simpa using k) (aa.some rfl)
  ·refine aa.toEq ?_
   unfold zF
   (dsimp only[go_sem])
   refine aa.call (P:=fun g=>g=[.i e]) (aa.eq cC) ?_;rintro _ rfl;exact aa.pos (by show (e != 0)=true; simpa using k) (aa.some rfl)
  ·refine aa.toEq ?_
   unfold uJ
   (dsimp only[go_sem])
   refine aa.call (P:=fun g=>g=[.i e]) (aa.eq cC) ?_;rintro _ rfl;exact aa.pos (by show (e != 0)=true; simpa using k) (aa.some rfl)
  ·rw[AP,iP k]
  ·rw[AP,iP k]
 ·have O:kF C A L.length 0=0:=by simpa using k
  rw[O]at cC I;have v:=aqe R O;have hn:=R.n;have M:=aqV v cC d;have hq:=aqZ v cC;have ho1:=I9 v;have U:(vk L C A).length<=100000:=by
   have:=vu (fun r=>aD (fx A (gi r 0).sV L.length) 1) (fj (bQ L C A L.length));unfold vk;omega
  have ho3:=I' (L:=L) (C:=C) (A:=A) (oF:=oF) L.length;have ho4:∀l2:Int,1<=l2->(AW L C A l2).length<=100000:=fun l2 h2=>by
   have h3:=Oy v;have h4:AW L C A l2=((nT L C A).filter fun r=>bq l2 (fU L C A (gi r 0).sV)).map (k_ (fU L C A)):=(I8 (fU L C A) (fj (bQ L C A L.length)) l2 h2 L.length).symm;rw[h4,cP];have:=vu (fun r=>bq l2 (fU L C A (gi r 0).sV)) (nT L C A);omega
  have hoff:∃(r:LL) (g:Int),r.length<=100000/\uJ [.l L,.i oF]=some [.l r,.i g]/\g=(bif fH oF 0 3600000 then 0 else 1)/\(g=0->uM [.l L,.i oF]=some [.l r])/\(g≠0->r=[]):=by
   cases hb:fH oF 0 3600000 with
   |true=>
    have y:=hb;unfold fH at y;rw[aO,fe,fe,dT,dT]at y;exact⟨_,0,ab,aq4 v y.1 y.2 cC,rfl,fun _=>aq5 v y.1 y.2,fun h=>(h rfl).elim⟩
   |false=>
    refine⟨[],1,au,?_,rfl,fun h=>(by cases h),fun _=>rfl⟩;refine aa.toEq ?_;unfold uJ
    (dsimp only[go_sem])
    refine aa.call (P:=fun g=>g=[.i 0]) (aa.eq cC) ?_;rintro _ rfl;refine aa.neg rfl ?_;refine aa.call (P:=fun g=>g=[.i 1]) (aa.eq ((Oc oF).trans (by rw[hb]; rfl))) ?_;rintro _ rfl;exact aa.pos rfl (aa.some rfl)
  obtain⟨r,g,r1,r2,r3,W,r5⟩:=hoff;cases N:aN d 1||aN 100 d with
  |true=>
   rw[N]at M;refine⟨[],vk L C A,r,1,0,g,au,U,r1,M,hq,r2,I,?_,?_,fun h=>(by cases h),fun _=>rfl,fun _=>Zi v,fun h=>(h rfl).elim,W,r5⟩
   ·rw[AP,iN au]
    rfl
   ·rw[AP,iN au,r3]
  |false=>
   rw[N]at M;have hl2:=N;rw[O3,cS,dF]at hl2;refine⟨AW L C A d,vk L C A,r,0,0,g,ho4 d ab,U,r1,M,hq,r2,I,?_,?_,fun _=>aqW v d ab,fun h=>(h rfl).elim,fun _=>Zi v,fun h=>(h rfl).elim,W,r5⟩
   ·rw[AP,iN au]
    rfl
   ·rw[AP,iN au,r3]
end
theorem aq_(rZ:LL):Ny [.l rZ]=some [.t true]:=by
 refine aa.toEq ?_;unfold Ny
 (dsimp only[go_sem])
 refine aa.call (apy rZ) ?_;rintro _ ⟨q,Y,m,rfl,q0,q1,m0,m1,hY,U⟩
 (dsimp only[go_sem])
 obtain⟨C,hC⟩:∃C:Nat->BY,C=fun i=>(gi (Y.getD i []) 0).sV:=⟨_,rfl⟩
 obtain⟨A,hA⟩:∃A:Nat->LL,A=fun i=>(gi (Y.getD i []) 1).rZ:=⟨_,rfl⟩
 have R:AI Y C A:=by
  rw[hC,hA];refine⟨fun i hi=>?_,ab,fun i hi z O=>?_,fun i hi=>?_,fun i hi=>?_⟩<;>obtain⟨c,L,k,g2,g3,g4⟩:=U i ab
  ·rw[k]
   rfl
  ·rw[k]at O
   exact g3 z O
  ·rw[k]
   show L.length<=40
   omega
  ·rw[k]
   exact g2
 refine aa.call (aqg rZ q q0 ab) ?_;rintro _ ⟨oF,rfl⟩
 (dsimp only[go_sem])
 refine aa.call (sI (-1) 102 rZ (q+1) _ ab ab aB aB) ?_;rintro _ ⟨d,rfl,p0,p1⟩
 (dsimp only[go_sem])
 obtain⟨u,n,r,e,f,g,hu,hn,hr,k1,k2,k3,k4,k5,k6,k7,k8,k9,W,k11,k12⟩:=aq9 R oF d;have y:=aq8 (Y:=Y) (oF:=oF) (e:=e) (f:=f) (g:=g) hu hn hr k11 k12 k9 W;have ho:=apm oF;refine aa.cE k1 ?_;refine aa.cE k2 ?_;refine aa.cE k3 ?_;refine aa.cE k4 ?_
 (dsimp only[go_sem])
 have M:∀v:Int,v=(bif aN d 1||aN 100 d then 1 else 0)->aa (aI (qm [.l [[.i f],[.i v]]]) fun I=>aI (Dj [.i oF]) fun g10=>aI (qm [.l [[.i f],[.i (gi g10 0).iV]]]) fun N=>
   bif (gi I 0).iV==0 then aI (z_ [.l Y,.i d]) fun g12=>be true (c7 (sH [.l Y,.i oF,.l u,.i e,.l n,.i f,.l r,.i g,.i f,.i (gi I 0).iV,.i (gi N 0).iV,.l (gi g12 0).rZ,.l [],.l []])) fun cg25 g25=>some [G.t (gi g25 0).bV]
   else be true (c7 (sH [.l Y,.i oF,.l u,.i e,.l n,.i f,.l r,.i g,.i f,.i (gi I 0).iV,.i (gi N 0).iV,.l [],.l [],.l []])) fun cg26 g26=>some [G.t (gi g26 0).bV]) fun x=>x=[.t true]:=fun v hv=>by
  rw[hv];refine aa.cE k5 ?_;refine aa.cE ho ?_;refine aa.cE k6 ?_
  (dsimp only[go_sem])
  by_cases he:e=0
  ·refine aa.pos (by rw[he]; rfl) ?_
   refine aa.cE (k7 he) ?_;refine aa.tail (P:=fun w x=>w=0/\x=[.t true]) ⟨_,y,0,rfl,rfl,rfl⟩ fk ?_;rintro _ _ ⟨rfl,rfl⟩;exact aa.some rfl
  ·have hu0:=k8 he
   rw[hu0]at y|-;refine aa.neg (by simpa using he) ?_;refine aa.tail (P:=fun w x=>w=0/\x=[.t true]) ⟨_,y,0,rfl,rfl,rfl⟩ fk ?_;rintro _ _ ⟨rfl,rfl⟩;exact aa.some rfl
 refine aa.test (fun h=>?_) fun h=>?_
 ·refine aa.call (aa.eq (YI true 1)) ?_
  rintro _ rfl;exact M 1 (by rw[h]; rfl)
 ·refine aa.call (aa.eq (YI (aN 100 d) 1)) ?_
  rintro _ rfl;exact M _ (by rw[h]; rfl)
end
end Go.Proofs.jI
