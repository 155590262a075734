/-
 What is proved here: two lists of deeds as one,on both sides. No condition.
-/
import Derived.Test.YtkkkhbhbjlikhaaGreatDoorMF
import Derived.Test.YtkkkhbhbjlikhaaGreatDoorME
set_option linter.all false
set_option backward.dsimp.instances true
open Bool renaming and_true->fJ,and_eq_true->aR,false_eq_true->tb,true_and->lP,not_eq_true'->nD,or_eq_true->lQ,not_true->Pe,false_or->jR,eq_iff_iff->jB,false_and->Pm,true_or->Pz,or_eq_false_iff->aui,not_eq_true->aat
open ByteArray renaming size_append->auo
open Classical renaming byContradiction->Ph
open Go.Lib renaming size_eq->lS,join->dZ,indexByte->mW,join_one->Pv,decDigits->lT,trimS->AY,trimRightS->aak,itoa->eF,toList_data->kg,extract_data->PF
open Int renaming toNat_natCast->aZ,eq_ofNat_of_zero_le->aao,add_zero->auj,zero_add->aas
open List renaming length_cons->cJ,length_map->bL,getElem?_eq_getElem->bT,getD_eq_getElem?_getD->dj,getElem?_map->dw,map_cons->eU,foldl_cons->lO,length_take->gA,length_append->eL,all_eq_true->eX,mem_cons->cy,map_map->ig,nil_append->rF,length_drop->te,mem_append->cY,mem_cons_self->dG,mem_cons_of_mem->cO,map_append->gu,mem_map->cM,map_congr_left->pd,nodup_cons->mn,mem_singleton->ij,length_nil->fU,map_nil->mo,length->nF,drop_eq_getElem_cons->Jo,getElem_of_mem->Ef,not_mem_nil->ke,getElem_mem->nG,mem_filter->jm,filter_cons->xR,pairwise_map->tk,pairwise_iff_getElem->Po,length_pos_iff->Ej,mem_map_of_mem->Pq,nodup_iff_pairwise_ne->vr,take_add_one->Pu,pairwise_cons->mV,count_eq_zero->vw,count_append->Pw,eq_nil_or_concat->AZ,concat_eq_append->A0,all_append->Px,any_cons->xV,any_eq_false->Ju,nodup_append->Ep,mergeSort_perm->PA,pairwise_mergeSort->aan,drop_zero->aap,filter_append->tn,length_filter_le->tq,take_length->fu,find?_eq_none->PB,find?_append->aue,foldl_append->pj,perm_ext_iff_of_nodup->aaq,take_left'->aug,mem_iff_getElem->auh,contains_cons->aar,count_le_length->PC,filter_nil->Jw,length_singleton->tt,contains_iff_mem->lp,intercalate->aau,toArray->auk,count_pos_iff->rJ,take_succ_eq_append_getElem->Jx,count_nil->PE,count_cons_self->aul
open List.Pairwise renaming imp->aud,and->auX
open List.Sublist renaming refl->auY
open Nat renaming le_refl->bl,le_trans->gl,zero_add->fC,add_zero->qm,beq->aA,ble->bW,blt->fT,ble_eq->fh,blt_eq->jS,lt_succ_of_lt->rH,lt_succ_self->Pk,beq_refl->Jp,ble_eq_true_of_le->PD,mul_add->aum,mul_le_mul_left->aun
open Option renaming getD_some->mU,or_none->auf
open Option.some renaming inj->th
open Prod.mk renaming injEq->cr
open UInt8 renaming ofNat_toNat->aal
namespace Go.Proofs.h_
open Go Go.AL Go.Proofs
attribute [-go_sem] ByteArray.size_mk' ByteArray.size_append'
variable {l:LL}
noncomputable section
theorem N5(r s:LG):iM r s=iL (gh (gi r 2).iV (gi s 2).iV) (iL (eP (gi r 0).sV (gi s 0).sV) (gh (gi r 1).iV (gi s 1).iV)):=by
 unfold iM iL;by_cases h:(gi r 2).iV=(gi s 2).iV
 ·have e:gh (gi r 2).iV (gi s 2).iV=0:=by rw[h]; simp[gh]
  simp[h,e,gh]
 ·have:=(XQ (a:=(gi r 2).iV) (b:=(gi s 2).iV)).2 h
  simp[h,this]
theorem aqn(r s:LG):iM s r=- iM r s:=by
 rw[N5,N5];exact Aj (mP.flip _ _) (Aj (jb.flip _ _) (mP.flip _ _))
theorem Al{a b:LG}:fH a b=true↔(gi a 0).sV=(gi b 0).sV/\(gi a 1).iV=(gi b 1).iV:=by
 unfold fH;rw[aR,beq_iff_eq,beq_iff_eq];constructor
 ·rintro⟨d,g⟩
  have:=xl (gi a 0).sV (gi b 0).sV;rw[d,beq_self_eq_true]at this;exact⟨jb.eq _ _ (by simpa using this.symm),g⟩
 ·rintro⟨d,g⟩
  rw[d];exact⟨rfl,g⟩
theorem aqo{a b:LG}(h:iM a b=0):fH a b=true:=by
 rw[N5]at h;unfold iL at h;split at h
 ·rename_i d; exact(d h).elim
 ·split at h
  ·rename_i d; exact(d h).elim
  ·rename_i g
   exact Al.2 ⟨jb.eq _ _ (by simpa using g),mP.eq _ _ h⟩
def sQ(l:LL):Prop:=l.Pairwise fun a b=>fH a b=false
theorem nv.apart{rZ:LL}(h:nv rZ rZ.length):sQ rZ:=by
 unfold sQ;rw[Po];intro i j hi d g;have:=h j d i g;rw[dj,dj,bT hi,bT d]at this;exact this
theorem sQ.inj(h:sQ l):∀a∈l,∀b∈l,fH a b=true->a=b:=by
 intro a g b q e;refine Mo (f:=fun r:LG=>((gi r 0).sV,(gi r 1).iV)) (aud ?_ h) a g b q ?_
 ·intro x y d he
  rw[(Al (a:=x) (b:=y)).2 ⟨congrArg Prod.fst he,congrArg Prod.snd he⟩]at d;cases d
 ·obtain⟨A,B⟩:=Al.1 e
  exact Prod.ext A B
theorem sQ.zero(h:sQ l):∀a∈l,∀b∈l,cR iM a b=false->cR iM b a=false->a=b:=by
 intro a q b A d g;unfold cR at d g;rw[dX,dF]at d g;have:=aqn a b;exact h.inj a q b A (aqo ab)
theorem sQ.sort(h:sQ l):sQ (gO (cR iM) l):=(oy (lt:=cR iM) l).symm.pairwise h (fun e=>by rw[N1]; exact e)
theorem aqp{out:LL}{x:LG}(h:(out.find? fun o=>fH o x)=none):∀o∈out,fH o x=false:=fun o d=>by
 have:=PB.1 h o d;simpa using this
def zD:LG:=[.s (⟨#[]⟩:BY),.i 0,.i 0,.i 0,.i 0,.i 0,.s (⟨#[]⟩:BY),.s (⟨#[]⟩:BY),.i 0,.i 0,.s (⟨#[]⟩:BY),.s (⟨#[]⟩:BY),.s (⟨#[]⟩:BY),.s (⟨#[]⟩:BY),.i 0]
def DE(m out:LL):Prop:=∀r,bG r->b_ bZ m (bu bZ r)=(out.find? fun o=>fH o r).isSome/\∀o,(out.find? fun o=>fH o r)=some o->da bZ m (bu bZ r) zD=o
theorem DE.nil:DE [] []:=fun r _=>⟨rfl,fun o h=>by cases h⟩
theorem DE.put{m out:LL}{x:LG}(h:DE m out)(d:bG x)(hn:(out.find? fun o=>fH o x)=none)(c:Nat):DE (cH bZ m (bu bZ x) (bu aY x) c) (out++[x]):=fun r hr=>by
 obtain⟨I,J⟩:=h r hr;rw[uE,pR,XR hr d,N1 r x,aue];cases hs:fH x r with
 |true=>
  have B:(out.find? fun o=>fH o r)=none:=PB.2 fun o M F=>by
   have g:=Al.1 hs;have q:=Al.1 F;have A:=aqp hn o M;rw[Al.2 ⟨q.1.trans g.1.symm,q.2.trans g.2.symm⟩]at A;cases A
  rw[B];simp[hs,d.eta]
 |false=>
  simp only[jR,cF];have e:([x].find? fun o=>fH o r)=none:=by simp[hs]
  rw[e,auf];exact⟨I,J⟩
end
end Go.Proofs.h_

namespace Go.Proofs.h_
open Go Go.AL Go.Proofs
variable {H P cm hm l lg m p q rZ:LL} {K:List Kd} {Q:LG->Prop} {cc dB hc k pc:Nat} {d r s x:LG} {n:Int} {β:Type}
noncomputable section
def a_(r:LG):LG:=[.i (gi r 4).iV,.i (gi r 5).iV,.s (gi r 6).sV,.s (gi r 7).sV,.i (gi r 8).iV,.i (gi r 9).iV,.s (gi r 10).sV,.s (gi r 11).sV]
theorem bG.oM(h:bG r):fp (a_ r):=by
 obtain⟨_,_,_,_,t,m,b,c,s,h,x,y,_,_,_,rfl,_,_,_,_,⟨p1,d,g,q,A,B,F,I⟩,_⟩:=h;exact⟨t,m,b,c,s,h,x,y,rfl,p1,d,A,B,g,q,F,I⟩
def gX(r s:LG):Int:=fy (a_ r) (a_ s)
theorem IU(r s:LG):fy r s=iL (gh (gi r 0).iV (gi s 0).iV) (iL (eP (gi r 3).sV (gi s 3).sV) (iL (eP (gi r 2).sV (gi s 2).sV) (gh (gi r 1).iV (gi s 1).iV))):=rfl
theorem Am(r s:LG):fy s r=- fy r s:=by
 rw[IU,IU];exact Aj (mP.flip _ _) (Aj (jb.flip _ _) (Aj (jb.flip _ _) (mP.flip _ _)))
theorem X8(a b d:LG)(g:fy a b<=0)(q:fy b d<=0):fy a d<=0:=by
 rw[IU]at *;exact IM mP _ _ _ _ _ _ g q fun A B=>IM jb _ _ _ _ _ _ A B fun F I=>IM jb _ _ _ _ _ _ F I fun J M=>mP.le _ _ _ J M
theorem aqq:ir (cR fy) (fun _=>True):=NU (fun a b=>Am a b) X8
theorem X9:ir (cR gX) (fun _=>True):=NU (fun a b=>Am _ _) (fun a b d=>X8 _ _ _)
theorem xq:fy r s=0↔(gi r 0).iV=(gi s 0).iV/\(gi r 3).sV=(gi s 3).sV/\(gi r 2).sV=(gi s 2).sV/\(gi r 1).iV=(gi s 1).iV:=by
 have d:∀a b:Int,iL a b=0↔a=0/\b=0:=fun a b=>by
  unfold iL;by_cases h:a=0<;>simp[h]
 rw[IU,d,d,d];constructor
 ·rintro⟨g,q,A,B⟩
  exact⟨mP.eq _ _ g,jb.eq _ _ q,jb.eq _ _ A,mP.eq _ _ B⟩
 ·rintro⟨g,q,A,B⟩
  rw[g,q,A,B];exact⟨mP.refl _,jb.refl _,jb.refl _,mP.refl _⟩
theorem X_{α β:Type}(f:α->β){lt:α->α->Bool}{d:β->β->Bool}(h:∀ a b,d (f a) (f b)=lt a b)(x:α):∀ p:List α,iK d (f x) (p.map f)=(iK lt x p).map f
 |[]=>rfl
 |y::p=>by
  simp only[iK,eU,h];cases lt x y with
  |true=>simp only[cT,eU,X_ f h x p]
  |false=>rfl
theorem Ya{α β:Type}(f:α->β){lt:α->α->Bool}{d:β->β->Bool}(h:∀ a b,d (f a) (f b)=lt a b):∀ r p:List α,k_ d (p.map f) (r.map f)=(k_ lt p r).map f
 |[],p=>rfl
 |x::r,p=>by
  simp only[k_,eU,X_ f h];exact Ya f h r (iK lt x p)
theorem aqr{α:Type}(f:α->β){lt:α->α->Bool}{d:β->β->Bool}(h:∀a b,d (f a) (f b)=lt a b)(l:List α):gO d (l.map f)=(gO lt l).map f:=by
 unfold gO;have:=Ya f h l [];rw[mo]at this;rw[this,List.map_reverse]
def Ao(rZ n:LL):Prop:=∀z∈n,∃j:Nat,z=[.i (j:Int)]/\j<rZ.length
theorem uZ(t:Int)(rZ:LL):Ao rZ (cA t 0 rZ):=fun z d=>by
 obtain⟨j,e,_,h⟩:=N2 d;exact⟨j,e,ab⟩
def jc(rZ:LL)(z:LG):LG:=rZ.getD (gi z 0).iV.toNat []
def oN(lg:LL)(d:LG):Bool:=lg.any fun o=>gX o d==0
def xr(rZ:LL)(s:LL × LL)(z:LG):LL × LL:=
 bif (gi (jc rZ z) 3).iV != 1 then s else bif oN s.1 (jc rZ z) then (s.1,s.2++[z]) else (s.1++[jc rZ z],s.2)
def fI(rZ n:LL):LL × LL:=n.foldl (xr rZ) ([],[])
structure lK (rZ:LL) (k:Nat) (s:LL × LL):Prop where
 mem:∀d∈s.1,d∈rZ/\(gi d 3).iV=1
 idx:Ao rZ s.2
 apart:s.1.Pairwise fun a b=>gX a b≠0
 xu:s.1.length<=k
 N6:s.2.length<=k
theorem lK.nil(rZ:LL):lK rZ 0 ([],[]):=⟨ai,fun z d=>by simp at d,ai,ai,ai⟩
theorem lK.step{s:LL × LL}(h:lK rZ k s){z:LG}(g:∃j:Nat,z=[.i (j:Int)]/\j<rZ.length):lK rZ (k+1) (xr rZ s z):=by
 obtain⟨j,rfl,A⟩:=g;have B:jc rZ [.i (j:Int)]∈rZ:=ow A;unfold xr;generalize jc rZ [.i (j:Int)]=d at B;have N:=h.xu;have O:=h.N6;cases J:(gi d 3).iV != 1 with
 |true=>exact⟨h.mem,h.idx,h.apart,by simp only[cT]; omega,by simp only[cT]; omega⟩
 |false=>
  cases F:oN s.1 d with
  |true=>
   refine⟨h.mem,fun z g=>?_,h.apart,by simp only[cT,cF]; omega,by simp only[cT,cF]; simp; omega⟩;simp only[cT,cF,cY,ij]at g;rcases g with g|rfl
   ·exact h.idx z g
   ·exact⟨j,rfl,A⟩
  |false=>
   refine⟨fun o q=>?_,h.idx,?_,by simp only[cF]; simp; omega,by simp only[cF]; omega⟩
   ·simp only[cF,cY,ij]at q
    rcases q with q|rfl
    ·exact h.mem o q
    ·exact⟨B,by simpa using J⟩
   ·simp only[cF]
    rw[List.pairwise_append];refine⟨h.apart,ai,fun a M b I=>?_⟩;simp only[ij]at I;subst I;unfold oN at F;have:=Ju.1 F a M;simpa using this
theorem IV{rZ n:LL}(hn:Ao rZ n):∀ i,i<=n.length->lK rZ i (fI rZ (n.take i))
 |0,_=>by rw[List.take_zero]; exact lK.nil rZ
 |i+1,hi=>by
  have d:i<n.length:=hi;have g:=IV hn i ab;have e:n.take (i+1)=n.take i++[n.getD i []]:=Tk d;rw[e];unfold fI at g|-;rw[pj];exact g.step (hn _ (ow d))
theorem Ap{n:LL}(hn:Ao rZ n):lK rZ n.length (fI rZ n):=by
 have:=IV hn n.length (bl _)
 rwa [fu]at this
theorem lK.IW{s:LL × LL}(h:lK rZ k s)(hr:∀z∈rZ,bG z):∀d∈s.1,bG d:=fun d g=>hr d (h.mem d g).1
theorem lK.zero{s:LL × LL}(h:lK rZ k s):∀a∈s.1,∀b∈s.1,cR gX a b=false->cR gX b a=false->a=b:=by
 intro a A b B d g;unfold cR at d g;rw[dX,dF]at d g;have F:gX a b=0:=by
  have:=Am (a_ a) (a_ b);unfold gX at *;omega
 refine Mo (f:=fun r:LG=>((gi r 4).iV,(gi r 7).sV,(gi r 6).sV,(gi r 5).iV)) (aud ?_ h.apart) a A b B ?_
 ·intro x y q he
  refine q (xq.2 ?_);simp only[cr]at he;exact he
 ·have:=xq.1 F
  simp only[cr];exact this
theorem aqs(hr:bG r)(hs:bG s):C0 [.l [r],.l [s]]=some [.t (gX r s==0)]:=by
 refine aa.toEq ?_;unfold C0
 (dsimp only[go_sem])
 refine aa.cE (Xx hr.oM hs.oM) ?_;exact aa.some rfl
theorem aqt(hr:bG r)(hs:bG s):xa [.l [r],.l [s]]=some [.i (gX r s)]:=by
 refine aa.toEq ?_;unfold xa
 (dsimp only[go_sem])
 refine aa.cE (Xx hr.oM hs.oM) ?_;exact aa.some rfl
theorem aqu:ox aY xa bG gX:=⟨fun _ _ hr hs=>aqt hr hs,fun _ h=>h.eta⟩
theorem aqv(q:bG d):GB aY C0 (fun g=>.l [bu aY g.rV]) (.l [d]) bG (fun o=>gX o d==0):=
 ⟨fun _ A=>aqs A q,fun _ h=>h.eta,by rw[Ac,q.eta]⟩
theorem aqw(lg:LL)(B:∀z∈lg,bG z)(q:bG d)(hn:lg.length<100000):HW [.l lg,.l [d]]=some [.t (oN lg d)]:=by
 refine aa.toEq ?_;unfold HW
 (dsimp only[go_sem])
 rw[q.eta];refine aa.call (P:=fun g=>g=[.i (gi g 0).iV]/\cw 0 (gi g 0).iV=oN lg d) ?_ ?_
 ·refine aa.mono (Tw (Z:=zD) (aqv q) lg B hn:aa (Ng [.l lg,.l [d]]) _) ?_
  rintro g (⟨N,x,O,F,U,I,rfl⟩|⟨h,rfl⟩)
  ·refine⟨rfl,?_⟩
   unfold oN;rw[F];simp[eh,I,Aa,Ae]
  ·refine⟨rfl,?_⟩
   have:oN lg d=false:=by
    unfold oN;rw[Ju];intro y J;rw[h y J];simp
   rw[this];rfl
 ·rintro g ⟨M,A⟩
  rw[M]at A|-
  (dsimp only[go_sem])
  exact aa.some (by rw[<-A]; rfl)
theorem aqx(rZ n:LL)(hr:∀ z∈rZ,bG z)(hn:Ao rZ n)(hl:n.length<=1000) :
  eZ C1 [.l [],.l [],.l rZ,.l n,.i (n.length:Int),.i 0] fun c g=>g=[.l (fI rZ n).1,.l (fI rZ n).2]:=by
 refine(ga (σ:=LL × LL) (fun s i=>[.l s.1,.l s.2,.l rZ,.l n,.i (n.length:Int),.i (i:Int)]) n (fun s=>(0,[.l s.1,.l s.2])) (fun s i=>s=fI rZ (n.take i)) ([],[]) ab rfl ?_ ?_).mono ?_
 ·rintro s i z A hi U hm W
  have B:=IV hn i ab;rw[<-A]at B;obtain⟨j,e,Y⟩:=hn z hm;have q:fI rZ (n.take (i+1))=xr rZ s z:=by
   rw[W,A];unfold fI;rw[pj];rfl
  subst e;have F:=hr _ (ow Y);have M:jc rZ [.i (j:Int)]=rZ.getD j []:=rfl;unfold xr at q;rw[M]at q;generalize N:rZ.getD j []=d at F q;have O:=B.IW hr;have h1:=B.xu;have h2:=B.N6;unfold C1
  (dsimp only[go_sem])
  simp only[aZ,U]
  (dsimp only[go_sem])
  simp only[aZ,N,F.eta];refine aa.p (aa.p (aa.p ?_));cases I:(gi d 3).iV != 1 with
  |true=>
   rw[I]at q;exact aa.pos rfl (aa.p (aa.pos ai (aa.some ⟨s,rfl,q.symm⟩)))
  |false=>
   rw[I]at q;refine aa.neg rfl (aa.iy (aa.eq (aqw s.1 O F ab)) ai ?_);rintro _ rfl
   (dsimp only[go_sem])
   cases J:oN s.1 d with
   |true=>
    rw[J]at q;exact aa.pos rfl (aa.pos (by simp only[sl]; simp; omega) (aa.p (aa.pos ai (aa.some ⟨(s.1,s.2++[([.i (j:Int)]:LG)]),rfl,q.symm⟩))))
   |false=>
    rw[J]at q;exact aa.neg rfl (aa.pos (by simp only[sl]; simp; omega) (aa.p (aa.pos ai (aa.some ⟨(s.1++[d],s.2),rfl,q.symm⟩))))
 ·rintro s _
  unfold C1
  (dsimp only[go_sem])
  exact aa.n (aa.pos ai (aa.some rfl))
 ·rintro c g ⟨s,A,rfl,rfl⟩
  rw[fu]at A;rw[A]
def xv(lg:LL):LL:=gO (cR gX) lg
theorem IX(lg:LL):(xv lg).length=lg.length:=uF _ _
def ch(rZ:LL)(t:Int):LL:=(cA t 0 rZ).map (jc rZ)
section
variable (rZ:LL) (t:Int) (hr:∀z∈rZ,bG z) (hn:rZ.length<=20) (aV:jN rZ)
include hr hn aV
theorem N7:xb [.l rZ,.i t]=some [.l (xv (fI rZ (cA t 0 rZ)).1),.l (fI rZ (cA t 0 rZ)).2]:=by
 have g:=uZ t rZ;have A:=sP t 0 rZ;have d:=Ap g;have B:=d.xu;refine aa.toEq ?_;unfold xb
 (dsimp only[go_sem])
 refine aa.cE (X6 rZ t hr ab (fun k q=>aV.1.2 k q)) ?_
 (dsimp only[go_sem])
 refine aa.loop (aqx rZ (cA t 0 rZ) hr g ab) ai ?_;rintro _ _ rfl
 (dsimp only[go_sem])
 refine aa.iy (aa.eq (show Nh [.l (fI rZ (cA t 0 rZ)).1]=some [.l (xv (fI rZ (cA t 0 rZ)).1)] from
  GH (C:=xa) (Q:=bG) aqu.GG (X9.mono fun _ _=>trivial) _ (d.IW hr) ab d.zero)) ai ?_
 rintro _ rfl
 (dsimp only[go_sem])
 exact aa.pos (by simp[IX]) (aa.some rfl)
theorem Yb:HZ [.l rZ,.i t]=some [.l (ch rZ t)]:=by
 have A:=uZ t rZ;have F:=sP t 0 rZ;refine aa.toEq ?_;unfold HZ
 (dsimp only[go_sem])
 refine aa.cE (X6 rZ t hr ab (fun k M=>aV.1.2 k M)) ?_
 (dsimp only[go_sem])
 unfold ch;generalize cA t 0 rZ=n at A F;refine aa.loop (P:=fun _ g=>g=[.l (n.map (jc rZ))]) ((ga (σ:=LL) (fun s i=>[.l s,.l rZ,.l n,.i (n.length:Int),.i (i:Int)]) n (fun s=>(0,[.l s])) (fun s i=>s=(n.take i).map (jc rZ)) [] ab rfl ?_ ?_).mono ?_) ai ?_
 ·rintro s i z hs hi N hm O
  obtain⟨j,e,U⟩:=A z hm;have q:(n.take (i+1)).map (jc rZ)=s++[jc rZ z]:=by rw[O,gu,hs]; rfl
  have W:s.length<=20:=by rw[hs,bL,gA]; omega
  subst e;have B:=hr _ (ow U);have I:jc rZ [.i (j:Int)]=rZ.getD j []:=rfl;rw[I]at q;generalize J:rZ.getD j []=d at B q;unfold HY
  (dsimp only[go_sem])
  simp only[aZ,N]
  (dsimp only[go_sem])
  simp only[aZ,J,B.eta];exact aa.p (aa.p (aa.p (aa.pos (by simp only[sl]; simp; omega) (aa.p (aa.pos ai (aa.some ⟨s++[d],rfl,q.symm⟩))))))
 ·rintro s _
  unfold HY
  (dsimp only[go_sem])
  exact aa.n (aa.pos ai (aa.some rfl))
 ·rintro c g ⟨s,hs,rfl,rfl⟩
  rw[fu]at hs;rw[hs]
 rintro _ _ rfl
 (dsimp only[go_sem])
 exact aa.pos ai (aa.some rfl)
theorem Yc:xc [.l rZ,.i t]=some [.l ((xv (fI rZ (cA t 0 rZ)).1).map a_),.l (fI rZ (cA t 0 rZ)).2]:=by
 have F:=sP t 0 rZ;have I:=(Ap (uZ t rZ)).xu;have d:=IX (fI rZ (cA t 0 rZ)).1;refine aa.toEq ?_;unfold xc
 (dsimp only[go_sem])
 refine aa.cE (N7 rZ t hr hn aV) ?_
 (dsimp only[go_sem])
 generalize xv (fI rZ (cA t 0 rZ)).1=n at d;generalize (fI rZ (cA t 0 rZ)).2=ot;refine aa.loop (P:=fun _ g=>g=[.l (n.map a_),.l ot]) ((ga (σ:=LL) (fun s i=>[.l s,.l ot,.l n,.i (n.length:Int),.i (i:Int)]) n (fun s=>(0,[.l s,.l ot])) (fun s i=>s=(n.take i).map a_) [] ab rfl ?_ ?_).mono ?_) ai ?_
 ·rintro s i z hs hi q hm A
  have B:(n.take (i+1)).map a_=s++[a_ z]:=by rw[A,gu,hs]; rfl
  have d:s.length<=20:=by rw[hs,bL,gA]; omega
  unfold HX
  (dsimp only[go_sem])
  simp only[aZ,q];exact aa.p (aa.p (aa.pos (by simp only[sl]; simp; omega) (aa.p (aa.pos ai (aa.some ⟨s++[a_ z],rfl,B.symm⟩)))))
 ·rintro s _
  unfold HX
  (dsimp only[go_sem])
  exact aa.n (aa.pos ai (aa.some rfl))
 ·rintro c g ⟨s,hs,rfl,rfl⟩
  rw[fu]at hs;rw[hs]
 rintro _ _ rfl
 (dsimp only[go_sem])
 exact aa.pos ai (aa.some rfl)
end
def jO(c:LG):LG:=[.i (gi c 0).iV,.i (gi c 1).iV,.s (gi c 2).sV,.s (gi c 3).sV,.i 0,.i 0,.s (⟨#[]⟩:BY),.s (⟨#[]⟩:BY)]
theorem N8{c:LG}:Hq [.l [c]]=some [.l [jO c]]:=rfl
theorem aqy(c o:LG):aK [.I,.I,.str,.str,.I,.I,.str,.str] (jO c) (jO o)=(fy o c==0):=by
 have e:aK [.I,.I,.str,.str,.I,.I,.str,.str] (jO c) (jO o)=(((gi c 0).iV==(gi o 0).iV)&&(((gi c 1).iV==(gi o 1).iV)&&(((gi c 2).sV.toList==(gi o 2).sV.toList)&&(((gi c 3).sV.toList==(gi o 3).sV.toList)&&true)))):=by
  simp only[aK,jO,nV];simp[fJ,G.sV,G.iV]
 have cs:∀a b:BY,(a.toList==b.toList)=decide (a=b):=fun a b=>by
  rw[xl];by_cases h:a=b
  ·rw[h]; simp[jb.refl b]
  ·have A:¬ eP a b=0:=fun e=>h (jb.eq _ _ e)
   simp[h,A]
 rw[e,cs,cs];have z:=xq (r:=o) (s:=c);cases h:fy o c==0 with
 |true=>
  obtain⟨B,A,F,J⟩:=z.1 (by simpa using h);rw[B,A,F,J];simp
 |false=>
  have g:¬ fy o c=0:=by simpa using h
  have g:=fun q=>g (z.2 q);rw[Bool.eq_false_iff];intro d;simp only[aR,beq_iff_eq,dT,and_true]at d;exact g ⟨d.1.symm,d.2.2.2.symm,d.2.2.1.symm,d.2.1.symm⟩
def oO(m lg:LL):Prop:=∀c,b_ [.I,.I,.str,.str,.I,.I,.str,.str] m (jO c)=(lg.any fun o=>fy (a_ o) c==0)/\∀o,(lg.find? fun o=>fy (a_ o) c==0)=some o->da [.I,.I,.str,.str,.I,.I,.str,.str] m (jO c) zD=o
theorem oO.nil:oO [] []:=fun c=>⟨rfl,fun o h=>by cases h⟩
theorem oO.put(h:oO m lg)(hn:oN lg x=false)(c:Nat):oO (cH [.I,.I,.str,.str,.I,.I,.str,.str] m (jO (a_ x)) x c) (lg++[x]):=fun k=>by
 obtain⟨q,A⟩:=h k;rw[uE,pR,aqy,List.any_append,aue];cases hs:fy (a_ x) k==0 with
 |true=>
  have B:(lg.find? fun o=>fy (a_ o) k==0)=none:=PB.2 fun o F J=>by
   have M:=Ju.1 hn o F;have d:=xq.1 (show fy (a_ x) k=0 by simpa using hs);have g:=xq.1 (show fy (a_ o) k=0 by simpa using J);refine M ?_;have:fy (a_ o) (a_ x)=0:=xq.2 ⟨g.1.trans d.1.symm,g.2.1.trans d.2.1.symm,g.2.2.1.trans d.2.2.1.symm,g.2.2.2.trans d.2.2.2.symm⟩;unfold gX;rw[this];rfl
  rw[B];simp[hs]
 |false=>
  simp only[jR,cF];have e:([x].find? fun o=>fy (a_ o) k==0)=none:=by simp[hs]
  rw[e,auf,q];exact⟨by simp[hs],A⟩
def mc(s:LL × Nat)(d:LG):LL × Nat:=
 bif (gi d 3).iV==3 then (cH bZ s.1 [.s (gi d 0).sV,.i (gi d 8).iV] [.t true] s.2,dI bZ s.1 [.s (gi d 0).sV,.i (gi d 8).iV] s.2)
 else bif (gi d 3).iV==4||(gi d 3).iV==1 then (mz bZ s.1 [.s (gi d 0).sV,.i (gi d 8).iV],s.2) else s
def bU(l:LL):LL × Nat:=l.foldl mc ([],0)
section
variable {dd cs ss ot held c9 rZ n:LL} {ck lf:Nat} {len i j:Int} {si b c x y bd bP:BY} {no at_ kd t m s h u_:Int}
theorem Aq(d:aM (i+1)=true):zI [.l dd,.l cs,.l ss,.l ot,.l held,.i (ck:Int),.l c9,.i (lf:Int),.l rZ,.l n,.i len,.i i] =
  some (some 0,[.l dd,.l cs,.l ss,.l ot,.l held,.i (ck:Int),.l c9,.i (lf:Int),.l rZ,.l n,.i len,.i (i+1)]):=by
 refine aa.toEq ?_;unfold zI
 (dsimp only[go_sem])
 simp only[aZ];exact aa.pos d (aa.pos ai (aa.some rfl))
theorem Yd(f:Bool):CR [.l dd,.l cs,.l ss,.l ot,.l held,.i (ck:Int),.l c9,.i (lf:Int),.s si,.i no,.i at_,.i kd,.i t,.i m,.s b,.s c,.i s,.i h,.s x,.s y,.s bd,.s bP,.i u_,.l rZ,.i j,.l n,.i len,.i i,.t f] =
  some (some 0,[.l dd,.l cs,.l ss,.l ot,.l (bif f then mz bZ held [.s si,.i s] else held),.i (ck:Int),.l c9,.i (lf:Int),.s si,.i no,.i at_,.i kd,.i t,.i m,.s b,.s c,.i s,.i h,.s x,.s y,.s bd,.s bP,.i u_,.l rZ,.i j,.l n,.i len,.i i]):=by
 refine aa.toEq ?_;unfold CR
 (dsimp only[go_sem])
 simp only[aZ];cases f with
 |true=>exact aa.pos rfl (aa.pos ai (aa.some rfl))
 |false=>exact aa.neg rfl (aa.pos ai (aa.some rfl))
def DF(kd j:Int)(oM row:LG)(s:LL × LL × LL × Nat):LL × LL × LL × Nat:=
 bif kd != 1 then s else bif b_ [.I,.I,.str,.str,.I,.I,.str,.str] s.2.2.1 (jO oM) then (s.1,s.2.1++[[.i j]],s.2.2.1,s.2.2.2)
 else (s.1++[oM],s.2.1,cH [.I,.I,.str,.str,.I,.I,.str,.str] s.2.2.1 (jO oM) row s.2.2.2,dI [.I,.I,.str,.str,.I,.I,.str,.str] s.2.2.1 (jO oM) s.2.2.2)
theorem N9(S:LL × LL × LL × Nat)(g:DF kd j [.i t,.i m,.s b,.s c,.i s,.i h,.s x,.s y] [.s si,.i no,.i at_,.i kd,.i t,.i m,.s b,.s c,.i s,.i h,.s x,.s y,.s bd,.s bP,.i u_] (cs,ot,c9,lf)=S)(q:cs.length<=1000)(A:ot.length<=1000) :
  aa (zH [.l dd,.l cs,.l ss,.l ot,.l held,.i (ck:Int),.l c9,.i (lf:Int),.s si,.i no,.i at_,.i kd,.i t,.i m,.s b,.s c,.i s,.i h,.s x,.s y,.s bd,.s bP,.i u_,.l rZ,.i j,.l n,.i len,.i i]) fun o=>∃k,o.1=some k /\
   o.2=[.l dd,.l S.1,.l ss,.l S.2.1,.l held,.i (ck:Int),.l S.2.2.1,.i (S.2.2.2:Int),.l rZ,.l n,.i len,.i i]:=by
 subst g;unfold zH DF
 (dsimp only[go_sem])
 simp only[aZ];cases B:kd != 1 with
 |true=>exact aa.pos rfl (aa.pos ai (aa.some ⟨0,rfl,rfl⟩))
 |false=>
  refine aa.neg rfl (aa.call (aa.eq (N8 (c:=[.i t,.i m,.s b,.s c,.i s,.i h,.s x,.s y]))) ?_);rintro _ rfl
  (dsimp only[go_sem])
  have d:bu [.I,.I,.str,.str,.I,.I,.str,.str] (jO [.i t,.i m,.s b,.s c,.i s,.i h,.s x,.s y])=jO [.i t,.i m,.s b,.s c,.i s,.i h,.s x,.s y]:=rfl;rw[d];cases F:b_ [.I,.I,.str,.str,.I,.I,.str,.str] c9 (jO [.i t,.i m,.s b,.s c,.i s,.i h,.s x,.s y])with
  |true=>exact aa.pos rfl (aa.pos (by simp only[sl]; simp; omega) (aa.pos ai (aa.some ⟨0,rfl,rfl⟩)))
  |false=>
   refine aa.neg rfl (aa.call (aa.eq (N8 (c:=[.i t,.i m,.s b,.s c,.i s,.i h,.s x,.s y]))) ?_);rintro _ rfl
   (dsimp only[go_sem])
   rw[d];exact aa.pos (by simp only[sl]; simp; omega) (aa.pos ai (aa.some ⟨1,rfl,rfl⟩))
end
theorem j6{Q:β->Prop}{c:Bool}{t:bk}{k:Nat->LG->Option β}{R:LG}(h:aa t fun o=>∃x,o.1=some x/\o.2=R)(hc:c=true)(d:∀x,aa (k x R) Q):aa (bp c (fa t) k) Q:=
 aa.tail (P:=fun _ g=>g=R) h hc fun x g q=>by rw[q]; exact d x
def va(rZ:LL)(s:LL × LL × LL × Nat)(z:LG):LL × LL × LL × Nat:=
 DF (gi (jc rZ z) 3).iV (gi z 0).iV (a_ (jc rZ z)) (jc rZ z) s
theorem aqz(rZ n dd:LL)(s:LL × LL × LL × Nat)(q:LL × Nat)(i j:Nat)(hr:∀ z∈rZ,bG z)(U:n.length<=1000)(hi:i<n.length)(M:n.getD i []=[.i (j:Int)])(N:j<rZ.length)
  (A:s.1.length<=900) (B:s.2.1.length<=900) (O:dd.length<=900) :
  aa (zJ [.l dd,.l s.1,.l [],.l s.2.1,.l q.1,.i (q.2:Int),.l s.2.2.1,.i (s.2.2.2:Int),.l rZ,.l n,.i (n.length:Int),.i (i:Int)]) fun o=>
   o=(none,[.l (dd++[rZ.getD j []]),.l (va rZ s [.i (j:Int)]).1,.l [],.l (va rZ s [.i (j:Int)]).2.1,.l (mc q (rZ.getD j [])).1,.i ((mc q (rZ.getD j [])).2:Int),.l (va rZ s [.i (j:Int)]).2.2.1,.i ((va rZ s [.i (j:Int)]).2.2.2:Int),.l rZ,.l n,.i (n.length:Int),.i ((i:Int)+1)]):=by
 obtain⟨cs,ot,c9,lf⟩:=s;obtain⟨held,ck⟩:=q;have I:=hr _ (ow N);unfold va;rw[show jc rZ [.i (j:Int)]=rZ.getD j [] from rfl];unfold zJ
 (dsimp only[go_sem])
 simp only[aZ,M]
 (dsimp only[go_sem])
 simp only[aZ];generalize rZ.getD j []=d at I;obtain⟨si,no,at_,kd,t,m,b,c,s,h,x,y,bd,bP,u_,rfl,W⟩:=I;rw[show bu aY (mQ si no at_ kd t m b c s h x y bd bP u_)=mQ si no at_ kd t m b c s h x y bd bP u_ from rfl];unfold mc;simp only[mQ,a_]
 (dsimp only[go_sem])
 have g:aM ((i:Int)+1)=true:=by(first|rfl|assumption|(simp only[aM,sl]<;>omega))
 have A:cs.length<=1000:=by simp only at A; omega
 have B:ot.length<=1000:=by simp only at B; omega
 generalize F:DF kd (j:Int) [.i t,.i m,.s b,.s c,.i s,.i h,.s x,.s y] [.s si,.i no,.i at_,.i kd,.i t,.i m,.s b,.s c,.i s,.i h,.s x,.s y,.s bd,.s bP,.i u_] (cs,ot,c9,lf)=S;refine aa.p (aa.p (aa.p (aa.pos (by simp only[sl]; simp; omega) ?_)));cases O:kd==3 with
 |true=>
  refine aa.pos rfl (j6 (N9 S F A B) ai fun k=>?_)
  (dsimp only[go_sem])
  simp only[aZ];cases aA k 0 with
  |true=>
   refine aa.pos rfl (j6 ⟨_,Aq g,0,rfl,rfl⟩ ai fun _=>?_)
   (dsimp only[go_sem])
   simp only[aZ];exact aa.pos ai (aa.some rfl)
  |false=>
   refine aa.neg rfl (j6 ⟨_,Aq g,0,rfl,rfl⟩ ai fun _=>?_)
   (dsimp only[go_sem])
   simp only[aZ];exact aa.pos ai (aa.some rfl)
 |false=>
  refine aa.neg rfl ?_;have J:∀f:Bool,(bif f then (mz bZ held [.s si,.i s],ck) else (held,ck))=((bif f then mz bZ held [.s si,.i s] else held),ck):=fun f=>by cases f<;>rfl
  cases Y:kd==4 with
  |true=>
   refine aa.pos rfl (j6 ⟨_,Yd true,0,rfl,rfl⟩ ai fun _=>?_)
   (dsimp only[go_sem])
   simp only[aZ];refine j6 (N9 S F A B) ai fun k=>?_
   (dsimp only[go_sem])
   simp only[aZ];cases aA k 0 with
   |true=>
    refine aa.pos rfl (j6 ⟨_,Aq g,0,rfl,rfl⟩ ai fun _=>?_)
    (dsimp only[go_sem])
    simp only[aZ];exact aa.pos ai (aa.some rfl)
   |false=>
    refine aa.neg rfl (j6 ⟨_,Aq g,0,rfl,rfl⟩ ai fun _=>?_)
    (dsimp only[go_sem])
    simp only[aZ];exact aa.pos ai (aa.some rfl)
  |false=>
   rw[jR,J];simp only[cF];refine j6 ⟨_,Yd (kd==1),0,rfl,rfl⟩ ai fun _=>?_
   (dsimp only[go_sem])
   simp only[aZ];refine j6 (N9 S F A B) ai fun k=>?_
   (dsimp only[go_sem])
   simp only[aZ];cases aA k 0 with
   |true=>
    refine aa.pos rfl (j6 ⟨_,Aq g,0,rfl,rfl⟩ ai fun _=>?_)
    (dsimp only[go_sem])
    simp only[aZ];exact aa.pos ai (aa.some rfl)
   |false=>
    refine aa.neg rfl (j6 ⟨_,Aq g,0,rfl,rfl⟩ ai fun _=>?_)
    (dsimp only[go_sem])
    simp only[aZ];exact aa.pos ai (aa.some rfl)
def xw(s:LL × LL × LL × Nat)(l:LL × LL):Prop:=s.1=l.1.map a_/\s.2.1=l.2/\oO s.2.2.1 l.1
theorem xw.nil:xw ([],[],[],0) ([],[]):=⟨rfl,rfl,oO.nil⟩
theorem xw.step{s:LL × LL × LL × Nat}{l:LL × LL}(h:xw s l){j:Nat}:xw (va rZ s [.i (j:Int)]) (xr rZ l [.i (j:Int)]):=by
 obtain⟨q,A,g⟩:=h;unfold va DF xr;generalize jc rZ [.i (j:Int)]=d;obtain⟨B,J⟩:=g (a_ d);have B:b_ [.I,.I,.str,.str,.I,.I,.str,.str] s.2.2.1 (jO (a_ d))=oN l.1 d:=B;cases (gi d 3).iV != 1 with
 |true=>exact⟨q,A,g⟩
 |false=>
  simp only[cF];rw[B];cases F:oN l.1 d with
  |true=>exact⟨q,by simp only[cT]; rw[A]; rfl,g⟩
  |false=>exact⟨by simp only[cF]; rw[q,gu]; rfl,A,g.put F _⟩
theorem aqA(rZ n:LL)(hr:∀ z∈rZ,bG z)(hn:Ao rZ n)(hl:n.length<=800) :
  eZ zJ [.l [],.l [],.l [],.l [],.l [],.i 0,.l [],.i 0,.l rZ,.l n,.i (n.length:Int),.i 0] fun c g=>∃m lf,oO m (fI rZ n).1 /\
   g=[.l (n.map (jc rZ)),.l ((fI rZ n).1.map a_),.l [],.l (fI rZ n).2,.l (bU (n.map (jc rZ))).1,.i ((bU (n.map (jc rZ))).2:Int),.l m,.i ((lf:Nat):Int)]:=by
 refine(ga (σ:=LL × (LL × LL × LL × Nat) × (LL × Nat)) (fun s i=>[.l s.1,.l s.2.1.1,.l [],.l s.2.1.2.1,.l s.2.2.1,.i (s.2.2.2:Int),.l s.2.1.2.2.1,.i (s.2.1.2.2.2:Int),.l rZ,.l n,.i (n.length:Int),.i (i:Int)]) n
  (fun s=>(0,[.l s.1,.l s.2.1.1,.l [],.l s.2.1.2.1,.l s.2.2.1,.i (s.2.2.2:Int),.l s.2.1.2.2.1,.i (s.2.1.2.2.2:Int)]))
  (fun s i=>s.1=(n.take i).map (jc rZ)/\xw s.2.1 (fI rZ (n.take i))/\s.2.2=bU ((n.take i).map (jc rZ))) ([],([],[],[],0),([],0)) ab ⟨rfl,xw.nil,rfl⟩ ?_ ?_).mono ?_
 ·rintro⟨dd,s,M⟩ i z ⟨q,d,A⟩ hi N hm B
  simp only at q d A;obtain⟨j,rfl,O⟩:=hn z hm;have J:=IV hn i ab;have l1:=J.xu;have l2:=J.N6;have U:s.1.length<=900:=by rw[d.1,bL]; omega
  have W:s.2.1.length<=900:=by rw[d.2.1]; omega
  have Y:dd.length<=900:=by rw[q,bL,gA]; omega
  refine(aqz rZ n dd s M i j hr ab hi N O U W Y).mono ?_;rintro _ rfl;refine⟨(dd++[rZ.getD j []],va rZ s [.i (j:Int)],mc M (rZ.getD j [])),rfl,?_,?_,?_⟩
  ·simp only
   rw[B,gu,q];rfl
  ·simp only
   rw[B];unfold fI at d|-;rw[pj];exact d.step
  ·simp only
   rw[B,gu,A];unfold bU;rw[pj];rfl
 ·rintro⟨dd,⟨cs,ot,m,lf⟩,⟨held,ck⟩⟩ _
  unfold zJ
  (dsimp only[go_sem])
  simp only[aZ];exact aa.n (aa.pos ai (aa.some rfl))
 ·rintro c g ⟨⟨dd,⟨cs,ot,m,lf⟩,⟨held,ck⟩⟩,⟨q,⟨d,A,F⟩,I⟩,rfl,rfl⟩
  rw[fu]at q d A F I;simp only at q d A F I|-;refine⟨m,lf,F,?_⟩;rw[<-I,<-q,<-d,<-A]
theorem lK.same{s:LL × LL}(h:lK rZ k s){a b:LG}(d:a∈s.1)(g:b∈s.1)(e:gX a b=0):a=b:=by
 refine h.zero a d b g ?_ ?_
 ·unfold cR
  rw[dX,dF];omega
 ·unfold cR
  have:gX b a=- gX a b:=Am _ _;rw[dX,dF];omega
theorem oO.site{s:LL × LL}(h:lK rZ k s)(hm:oO m s.1)(q:d∈s.1):da [.I,.I,.str,.str,.I,.I,.str,.str] m (jO (a_ d)) zD=d:=by
 refine(hm (a_ d)).2 d ?_;cases g:s.1.find? fun o=>fy (a_ o) (a_ d)==0 with
 |none=>
  have:=PB.1 g d q;have e:fy (a_ d) (a_ d)=0:=xq.2 ⟨rfl,rfl,rfl,rfl⟩;rw[e]at this;simp at this
 |some o=>
  have B:=List.mem_of_find?_eq_some g;have A:=List.find?_some g;simp only[beq_iff_eq]at A;rw[h.same B q A]
def eB(d:LG):LG:=[.s (gi d 0).sV]
theorem aqB(rZ lg c9:LL){ot:LL}(N:lK rZ k (lg,ot))(hr:∀ z∈rZ,bG z)(hm:oO c9 lg)(q:LL)(hs:∀ d∈q,d∈lg)(hl:q.length<=800)(dd B held:LL)(ck lf:Nat):
  eZ CS [.l dd,.l (q.map a_),.l [],.l B,.l held,.i (ck:Int),.l c9,.i (lf:Int),.i (q.length:Int),.i 0] fun c g=>g=[.l dd,.l (q.map a_),.l (q.map eB),.l B,.l held,.i (ck:Int)]:=by
 refine(ga (σ:=LL) (fun s i=>[.l dd,.l (q.map a_),.l s,.l B,.l held,.i (ck:Int),.l c9,.i (lf:Int),.i (q.length:Int),.i (i:Int)]) q (fun s=>(0,[.l dd,.l (q.map a_),.l s,.l B,.l held,.i (ck:Int)])) (fun s i=>s=(q.take i).map eB) [] ab rfl ?_ ?_).mono ?_
 ·rintro s i d A hi F U W
  have Y:(q.take (i+1)).map eB=s++[eB d]:=by rw[W,gu,A]; rfl
  have hsl:s.length<=800:=by rw[A,bL,gA]; omega
  have hc:(q.map a_).getD i []=a_ d:=by
   rw[dj,dw,bT hi];rw[dj,bT hi]at F;simp only[mU]at F;simp[F]
  have J:(q.map a_).length=q.length:=bL _;have M:d∈lg:=hs d U;have O:=(N.IW hr d M).oM;unfold CS
  (dsimp only[go_sem])
  simp only[aZ,fC,hc,O.eta];refine aa.p (aa.pos (by rw[J]; (first|rfl|assumption|(simp only[aM,sl]<;>omega))) (aa.pos (by rw[J]; (first|rfl|assumption|(simp only[aM,sl]<;>omega))) ?_));refine aa.cE (N8 (c:=a_ d)) ?_
  (dsimp only[go_sem])
  have ek:bu [.I,.I,.str,.str,.I,.I,.str,.str] (jO (a_ d))=jO (a_ d):=rfl;have es:da [.I,.I,.str,.str,.I,.I,.str,.str] c9 (jO (a_ d)) [.s (⟨#[]⟩:BY),.i 0,.i 0,.i 0,.i 0,.i 0,.s (⟨#[]⟩:BY),.s (⟨#[]⟩:BY),.i 0,.i 0,.s (⟨#[]⟩:BY),.s (⟨#[]⟩:BY),.s (⟨#[]⟩:BY),.s (⟨#[]⟩:BY),.i 0]=d:=oO.site N hm M;rw[ek,es];exact aa.pos (by simp only[sl]; simp; omega) (aa.p (aa.pos ai (aa.some ⟨s++[eB d],rfl,Y.symm⟩)))
 ·rintro s _
  unfold CS
  (dsimp only[go_sem])
  simp only[aZ];exact aa.n (aa.pos ai (aa.some rfl))
 ·rintro c g ⟨s,A,rfl,rfl⟩
  rw[fu]at A;rw[A]
def dV(rZ:LL)(t:Int):LL:=xv (fI rZ (cA t 0 rZ)).1
def IY(rZ:LL)(t:Int):LL:=(fI rZ (cA t 0 rZ)).2
theorem xy(rZ:LL)(t:Int):(dV rZ t).length<=rZ.length:=by
 have:=(Ap (uZ t rZ)).xu;have h:=sP t 0 rZ;unfold dV;rw[IX];omega
theorem vc{t:Int}(h:d∈dV rZ t):d∈rZ/\(gi d 3).iV=1:=
 (Ap (uZ t rZ)).mem d ((oy (lt:=cR gX) _).mem_iff.1 h)
theorem sR(rZ:LL)(t:Int):(ch rZ t).length<=rZ.length:=by
 unfold ch;rw[bL];exact sP t 0 rZ
theorem oP{t:Int}(h:d∈ch rZ t):d∈rZ:=by
 obtain⟨z,g,rfl⟩:=cM.1 h;obtain⟨j,rfl,q⟩:=uZ t rZ z g;exact ow q
theorem aqC(lg:LL):gO (cR fy) (lg.map a_)=(xv lg).map a_:=aqr a_ (fun _ _=>rfl) lg
theorem aqD(rZ:LL)(t:Int)(hr:∀ z∈rZ,bG z)(hn:rZ.length<=20) :
  Hr [.l rZ,.i t]=some [.l (ch rZ t),.l ((dV rZ t).map a_),.l ((dV rZ t).map eB),.l (IY rZ t),.l (bU (ch rZ t)).1,.i ((bU (ch rZ t)).2:Int),.i 0]:=by
 have F:=uZ t rZ;have W:=sP t 0 rZ;have q:=Ap F;have Y:=q.xu;refine aa.toEq ?_;unfold Hr
 (dsimp only[go_sem])
 refine aa.cE (aqj rZ t hr ab) ?_
 (dsimp only[go_sem])
 refine aa.loop (aqA rZ (cA t 0 rZ) hr F ab) ai ?_;rintro _ _ ⟨m,lf,hm,rfl⟩
 (dsimp only[go_sem])
 simp only[aZ];have A:((fI rZ (cA t 0 rZ)).1.map a_).length=(fI rZ (cA t 0 rZ)).1.length:=bL _;refine aa.neg (by rw[dX,dF,A]; omega) ?_;have I:MU [.l ((fI rZ (cA t 0 rZ)).1.map a_)]=some [.l ((dV rZ t).map a_)]:=by
  have h:=GH (C:=uN) (Q:=fp) apw.GG (aqq.mono fun _ _=>trivial) ((fI rZ (cA t 0 rZ)).1.map a_) (fun y J=>by
   obtain⟨d,g,rfl⟩:=cM.1 J;exact(q.IW hr d g).oM) ab (fun a M b N O U=>by
   obtain⟨d,g,rfl⟩:=cM.1 M;obtain⟨e,he,rfl⟩:=cM.1 N;rw[q.zero d g e he O U])
  rw[aqC]at h;exact h
 refine aa.iy (aa.eq I) ai ?_;rintro _ rfl
 (dsimp only[go_sem])
 have B:(dV rZ t).length=(fI rZ (cA t 0 rZ)).1.length:=IX _;rw[A,<-B];refine aa.loop (aqB rZ (fI rZ (cA t 0 rZ)).1 m (k:=(cA t 0 rZ).length) (ot:=(fI rZ (cA t 0 rZ)).2) q hr hm (dV rZ t) (fun d g=>(oy (lt:=cR gX) _).mem_iff.1 g) ab _ _ _ _ _) (by simp[B]) ?_;rintro _ _ rfl
 (dsimp only[go_sem])
 simp only[aZ];exact aa.pos ai (aa.some rfl)
theorem aqE{s:BY}(h:s∈gP):s.size<=maxLen:=by
 simp only[gP,cy,ke,or_false]at h;rcases h with rfl|rfl|rfl|rfl<;>decide
theorem Ye(h:r∈pL m):r=[.s (gi r 0).sV]:=by
 obtain⟨e,_,rfl⟩:=cM.1 ((IP m).mem_iff.1 h);rfl
theorem Yf(h:q.Pairwise fun a b=>eP (gi a 0).sV (gi b 0).sV<0):q.Nodup:=by
 rw[vr];refine h.imp fun {a b} d e=>?_;rw[e,DC.2 rfl]at d;omega
theorem Yg(d:p.Pairwise fun a b=>eP (gi a 0).sV (gi b 0).sV<0)(F:q.Pairwise fun a b=>eP (gi a 0).sV (gi b 0).sV<0)(h:∀r,r∈p↔r∈q):p=q:=by
 have M:p.Perm q:=(aaq (Yf d) (Yf F)).2 h;have N:∀a∈p,∀b∈p,eP (gi a 0).sV (gi b 0).sV=0->a=b:=fun a g b A hz=>by
  refine Ph fun O=>?_;obtain⟨i,hi,rfl⟩:=Ef g;obtain⟨k,I,rfl⟩:=Ef A;rw[Po]at d;have J:=jb.flip (gi p[i] 0).sV (gi p[k] 0).sV;rcases Nat.lt_trichotomy i k with h|h|h
  ·have:=d i k hi I h
   omega
  ·subst h
   exact O rfl
  ·have:=d k i I hi h
   omega
 have B:∀{q:LL},(q.Pairwise fun a b=>eP (gi a 0).sV (gi b 0).sV<0)->q.Pairwise fun a b=>decide (eP (gi b 0).sV (gi a 0).sV<0)=false:=fun h=>h.imp fun {a b} Y=>by
  have J:=jb.flip (gi a 0).sV (gi b 0).sV;rw[dF];omega
 refine CB (lt:=fun a b=>decide (eP (gi a 0).sV (gi b 0).sV<0)) M (fun a g b A U W=>?_) (B d) (B F);rw[dF]at U W;have J:=jb.flip (gi a 0).sV (gi b 0).sV;exact N a g b A ab
structure Ar (L:List BY) (m:LL) (k:Nat):Prop where
 form:∀e∈m,∃(s:BY) (n:Nat),e=[.l [[.s s]],.l [[.t true]],.i (n:Int)]/\n<k/\s∈L
 born:(m.map cP).Nodup
 keys:(m.map jH).Nodup
theorem Ar.put{L:List BY}(h:Ar L m k){s:BY}(hs:s∈L):Ar L (cH [.str] m [.s s] [.t true] k) (dI [.str] m [.s s] k):=by
 obtain⟨A,B,F⟩:=NW s [.t true] k m;have q:∀n∈m.map cP,n<k:=fun n hn=>by
  obtain⟨e,he,rfl⟩:=cM.1 hn;obtain⟨w,n,rfl,hn,_⟩:=h.form e he;exact hn
 refine⟨fun e he=>?_,?_,?_⟩
 ·unfold dI
  rcases F e he with he|⟨z,rfl,⟨r,hr,rfl⟩|⟨rfl,I⟩⟩
  ·obtain⟨w,n,J,hn,M⟩:=h.form e he
   refine⟨w,n,J,?_,M⟩;cases b_ [.str] m [.s s]
   ·exact rH hn
   ·exact hn
  ·obtain⟨w,n,rfl,hn,_⟩:=h.form r hr
   refine⟨s,n,rfl,?_,hs⟩;cases b_ [.str] m [.s s]
   ·exact rH hn
   ·exact hn
  ·rw[I]
   exact⟨s,k,rfl,Pk k,hs⟩
 ·rw[B]
  cases b_ [.str] m [.s s]with
  |true=>exact h.born
  |false=>
   rw[cF,Ep];refine⟨h.born,ai,fun a g b d e=>?_⟩;rw[ij]at d;have:=q a g;omega
 ·rw[A]
  cases N:b_ [.str] m [.s s]with
  |true=>exact h.keys
  |false=>
   rw[cF,Ep];refine⟨h.keys,ai,fun a g b d e=>?_⟩;rw[ij]at d;have:b_ [.str] m [.s s]=true:=(IN _ m).2 (by rw[<-d,<-e]; exact g);rw[N]at this;cases this
def ib(s:LL × Nat)(x:BY):LL × Nat:=(cH [.str] s.1 [.s x] [.t true] s.2,dI [.str] s.1 [.s x] s.2)
def gY(l:List BY):LL × Nat:=l.foldl ib ([],0)
theorem aqF(l:List BY)(x:BY):gY (l++[x])=ib (gY l) x:=by
 unfold gY;rw[pj];rfl
theorem Yh(L:List BY):∀(l:List BY) (s:LL × Nat),Ar L s.1 s.2->(∀ x∈l,x∈L)->Ar L (l.foldl ib s).1 (l.foldl ib s).2
 |[],s,h,_=>h
 |x::l,s,h,d=>Yh L l (ib s x) (h.put (d x dG)) fun z g=>d z (cO _ g)
theorem Yi(L l:List BY)(d:∀x∈l,x∈L):Ar L (gY l).1 (gY l).2:=Yh L l ([],0) ⟨ai,ai,ai⟩ d
theorem Yj:∀(l:List BY) (s:LL × Nat),(l.foldl ib s).1.length<=s.1.length+l.length
 |[],s=>by simp
 |x::l,s=>by
  have d:=Yj l (ib s x);have g:(ib s x).1.length<=s.1.length+1:=XK _ _ _ _;simp only[lO,cJ];omega
theorem Yk(l:List BY):(gY l).1.length<=l.length:=by
 have:=Yj l ([],0);simpa[gY]using this
theorem Yl(s:BY):∀(l:List BY) (m:LL × Nat),b_ [.str] (l.foldl ib m).1 [.s s]=true↔b_ [.str] m.1 [.s s]=true\/s∈l
 |[],m=>by simp
 |x::l,m=>by
  rw[lO,Yl s l];have e:b_ [.str] (ib m x).1 [.s s]=(aK [.str] [.s s] [.s x]||b_ [.str] m.1 [.s s]):=uE _ _ _ _ _ _;have d:aK [.str] [.s s] [.s x]=decide (s=x):=by
   have:aK [.str] [.s s] [.s x]=((s.toList==x.toList)&&true):=rfl;rw[this,fJ,IL]
  rw[e,d,lQ,dT,cy];constructor
  ·rintro ((h | h) | h)
   ·exact .inr (.inl h)
   ·exact .inl h
   ·exact .inr (.inr h)
  ·rintro (h | h | h)
   ·exact .inl (.inr h)
   ·exact .inl (.inl h)
   ·exact .inr h
theorem Ym(l:List BY)(s:BY):s∈(gY l).1.map jH↔s∈l:=by
 rw[<-IN];have:=Yl s l ([],0);unfold gY;rw[this];simp[pP]
theorem aqG{l:List BY}(g:∀x∈l,x∈gP)(hn:l.length<=1000):L5 (gY l).1 (gY l).2:=by
 have h:=Yi gP l g;have q:=Yk l;refine⟨?_,fun r hr=>?_,?_,ab⟩
 ·simp only[gq,NY _ h.born,lP,eX,jS]
  intro e he;obtain⟨v,n,rfl,hn,_⟩:=h.form e he;exact hn
 ·obtain⟨s,n,rfl,_,hs⟩:=h.form r hr
  exact aqE hs
 ·have:=h.keys
  rw[vr,tk]at this|-;exact this.imp fun d e=>d (ByteArray.ext (Array.toList_inj.1 e))
def eD(l:List BY):LL:=pL (gY l).1
theorem As(l:List BY)(r:LG):r∈eD l↔∃s∈l,r=[.s s]:=by
 unfold eD;rw[(IP _).mem_iff];constructor
 ·intro h
  obtain⟨e,he,rfl⟩:=cM.1 h;exact⟨jH e,(Ym l _).1 (Pq he),rfl⟩
 ·rintro⟨s,hs,rfl⟩
  obtain⟨e,he,h⟩:=cM.1 ((Ym l s).2 hs);exact cM.2 ⟨e,he,by rw[h]⟩
theorem DG(l:List BY):(eD l).length<=l.length:=by
 unfold eD;rw[(IP _).length_eq,bL];exact Yk l
theorem N_(l:List BY):(eD l).Pairwise fun a b=>eP (gi a 0).sV (gi b 0).sV<0:=by
 unfold eD;have A:=Yi l l fun _ h=>h;have d:(pL (gY l).1).Nodup:=by
  refine(IP _).nodup_iff.2 ?_;have:=A.keys;rw[vr,tk]at this|-;refine this.imp fun q e=>q ?_;simpa using e
 rw[vr]at d;refine((apP (gY l).1).and d).imp_of_mem fun {a b} B F g=>?_;have I:¬ eP (gi a 0).sV (gi b 0).sV=0:=fun h=>g.2 (by rw[Ye B,Ye F,DC.1 h]);have J:=jb.flip (gi a 0).sV (gi b 0).sV;have:=g.1;omega
theorem Yn{l:List BY}(g:∀x∈l,x∈gP)(hn:l.length<=1000):C' [.l (gY l).1,.i ((gY l).2:Int)]=some [.l (gY l).1,.i ((gY l).2:Int),.l (eD l)]:=by
 unfold C' F_;have d:L5 (gi [G.l (gY l).1,.i ((gY l).2:Int)] 0).rZ (gi [G.l (gY l).1,.i ((gY l).2:Int)] 1).iV.toNat:=aqG g hn;rw[iP d];rfl
theorem IZ{l:List BY}:r∈gy (l.map fun s=>[G.s s])↔∃s∈l,r=[.s s]:=by
 unfold gy;rw[cM];constructor
 ·rintro⟨d,h,rfl⟩
  rw[(PA _ _).mem_iff,ig]at h;obtain⟨s,hs,rfl⟩:=cM.1 h;exact⟨s,hs,rfl⟩
 ·rintro⟨s,hs,rfl⟩
  refine⟨s.data.toList,?_,rfl⟩;rw[(PA _ _).mem_iff,ig];exact cM.2 ⟨s,hs,rfl⟩
theorem aqH(rZ:LL):(gy rZ).Pairwise fun a b=>a=b\/eP (gi a 0).sV (gi b 0).sV<0:=by
 have tr:∀a b c:List UInt8,decide (a<=b)=true->decide (b<=c)=true->decide (a<=c)=true:=fun a b c g d=>by simp only[dT]at *; exact List.le_trans g d
 have to:∀a b:List UInt8,(decide (a<=b)||decide (b<=a))=true:=fun a b=>by simp only[lQ,dT]; exact List.le_total a b
 unfold gy;rw[tk];refine(aan tr to _).imp fun {a b} h=>?_;simp only[dT]at h;have A:¬ eP (⟨b.toArray⟩:BY) (⟨a.toArray⟩:BY)<0:=fun d=>List.not_lt.2 h (NZ d);have B:=jb.flip (⟨a.toArray⟩:BY) (⟨b.toArray⟩:BY);by_cases q:eP (⟨a.toArray⟩:BY) (⟨b.toArray⟩:BY)=0
 ·exact .inl (by rw[jb.eq _ _ q])
 ·refine .inr ?_
  show eP (⟨a.toArray⟩:BY) (⟨b.toArray⟩:BY)<0
  omega
def Yo(r:LG):Prop:=∃s,r=[.s s]
theorem Yp:GA [.str] Yo:=⟨fun r h=>by obtain⟨s,rfl⟩:=h; rfl⟩
theorem Yq(l:List BY):gG (aK [.str]) (gy (l.map fun s=>[G.s s]))=eD l:=by
 have d:∀r∈gy (l.map fun s=>[G.s s]),Yo r:=fun r hr=>by
  obtain⟨s,_,e⟩:=IZ.1 hr;exact⟨s,e⟩
 have he:∀x∈gy (l.map fun s=>[G.s s]),∀y∈gy (l.map fun s=>[G.s s]),aK [.str] x y=true->x=y:=fun x g y B h=>by
  obtain⟨s,rfl⟩:=d x g;obtain⟨t,rfl⟩:=d y B;have:aK [.str] [.s s] [.s t]=((s.toList==t.toList)&&true):=rfl;rw[this,fJ,IL,dT]at h;rw[h]
 refine Yg (afg (R:=fun a b=>eP (gi a 0).sV (gi b 0).sV<0) (fun a b c q A=>jb.tr _ _ _ q A) (fun x g=>?_) (fun a b c q A=>pO q A) he (aqH _)) (N_ l) fun r=>?_
 ·obtain⟨s,rfl⟩:=d x g
  exact Tu [.str] _ rfl
 ·rw[afd he,IZ,As]
theorem Yr(a b:LG):aK [.str] (bu [.str] a) (bu [.str] b)=((gi a 0).sV.toList==(gi b 0).sV.toList):=by
 show (((gi a 0).sV.toList==(gi b 0).sV.toList)&&true)=_
 rw[fJ]
theorem aqI:Nl=uG [.str] [.s (⟨#[]⟩:BY)]:=by
 funext d
 unfold uG;simp only[Yr];rfl
theorem aqJ:H5=sx [.str] [.s (⟨#[]⟩:BY)]:=by
 funext d
 unfold H5 sx;simp only[Yr,aqI]
theorem Ys:sM=zd [.str] [.s (⟨#[]⟩:BY)]:=by
 funext d
 unfold sM zd;rw[aqJ]
theorem aqK{Q:β->Prop}(l:List BY)(hn:l.length<=1000)(n:Nat)(F:n=l.length)(A:LL){k:LG->Option β} (I:aa (k [.l A,.l (eD l)]) Q):
  aa (gx ((aA n n&&true)&&(sK [.l (l.map fun s=>[G.s s])]).isSome) (sK [.l (l.map fun s=>[G.s s])]) fun q=>
   gx ((aA n (gi q 0).rZ.length&&true)&&(sM [.l (gi q 0).rZ]).isSome) (sM [.l (gi q 0).rZ]) fun d=>
    bif (bW (gi d 1).iV.toNat (gi d 0).rZ.length)&&true then k [.l A,.l ((gi d 0).rZ.take ((gi d 1).iV.toNat))] else none) Q:=by
 have B:(gy (l.map fun s=>[G.s s])).length=l.length:=by rw[Cw,bL]
 have M:sK [.l (l.map fun s=>[G.s s])]=some [.l (gy (l.map fun s=>[G.s s]))]:=by
  unfold sK Cv
  (dsimp only[go_sem])
  rw[show fT (l.map fun s=>[G.s s]).length 1000000=true by simp; omega];rfl
 refine aa.iy (aa.eq M) ai ?_;rintro _ rfl
 (dsimp only[go_sem])
 have N:aa (sM [.l (gy (l.map fun s=>[G.s s]))]) fun g=>∃J,g=[.l (eD l++J),.i ((eD l).length:Int)]:=by
  rw[Ys];have h:aa (zd [.str] [.s (⟨#[]⟩:BY)] [.l (gy (l.map fun s=>[G.s s]))]) fun g=>∃J,g=[.l (gG (aK [.str]) (gy (l.map fun s=>[G.s s]))++J),.i ((gG (aK [.str]) (gy (l.map fun s=>[G.s s]))).length:Int)]/\(gG (aK [.str]) (gy (l.map fun s=>[G.s s]))++J).length=(gy (l.map fun s=>[G.s s])).length:=
   Ts (K:=[.str]) (Z:=[.s (⟨#[]⟩:BY)]) Yp (gy (l.map fun s=>[G.s s])) (fun r hr=>by
   obtain⟨s,_,e⟩:=IZ.1 hr;exact⟨s,e⟩) ab
  rw[Yq]at h;exact h.mono fun g ⟨J,e,_⟩=>⟨J,e⟩
 refine aa.iy N (by simp[B,F]) ?_;rintro _ ⟨J,rfl⟩
 (dsimp only[go_sem])
 simp only[aZ,aug];refine aa.pos ai I
def eJ(d:LG):BY:=(gi d 0).sV
theorem I0(h:bG d):eJ d∈gP:=by
 obtain⟨_,_,_,_,_,_,_,_,_,_,_,_,_,_,_,rfl,h,_⟩:=h;exact h
theorem aqL(l:LL):l.map eB=(l.map eJ).map fun s=>[G.s s]:=by
 rw[ig];rfl
theorem aqM(l:LL)(hn:l.length<=1000):H7 [.l l]=some [.l l,.l (eD (l.map eJ))]:=by
 refine aa.toEq ?_;unfold H7
 (dsimp only[go_sem])
 refine aa.loop (P:=fun _ g=>g=[.l l,.l (l.map eB)]) ((ga (σ:=LL) (fun s i=>[.l l,.l s,.i (l.length:Int),.i (i:Int)]) l (fun s=>(0,[.l l,.l s])) (fun s i=>s=(l.take i).map eB) [] ab rfl ?_ ?_).mono ?_) ai ?_
 ·rintro s i z hs hi d hm q
  have A:(l.take (i+1)).map eB=s++[eB z]:=by rw[q,gu,hs]; rfl
  have B:s.length<=1000:=by rw[hs,bL,gA]; omega
  unfold H6
  (dsimp only[go_sem])
  simp only[aZ,fC,d];exact aa.p (aa.p (aa.p (aa.pos (by simp only[sl]; simp; omega) (aa.p (aa.pos ai (aa.some ⟨s++[eB z],rfl,A.symm⟩))))))
 ·rintro s _
  unfold H6
  (dsimp only[go_sem])
  exact aa.n (aa.pos ai (aa.some rfl))
 ·rintro c g ⟨s,hs,rfl,rfl⟩
  rw[fu]at hs;rw[hs]
 rintro _ _ rfl
 (dsimp only[go_sem])
 rw[aqL];exact aqK (l.map eJ) du _ ai l (k:=fun g=>some g) (aa.some rfl)
def p_(k:BY)(b:BY)(d:LG):BY:=bif (gi d 0).sV.toList==k.toList then bif (gi d 3).iV==2 then (gi d 12).sV else b else b
def I1(l:LL)(k:BY):BY:=l.foldl (p_ k) ⟨#[]⟩
def lL(k:BY)(n:Int)(d:LG):Int:=bif (gi d 0).sV.toList==k.toList then n+1 else n
def cntF(l:LL)(k:BY):Int:=l.foldl (lL k) 0
theorem I2(k:BY):∀(l:LL) (n:Int),n<=l.foldl (lL k) n/\l.foldl (lL k) n<=n+l.length
 |[],n=>by simp
 |x::l,n=>by
  obtain⟨d,g⟩:=I2 k l (lL k n x);simp only[lO,cJ];have:n<=lL k n x/\lL k n x<=n+1:=by
   unfold lL;cases (gi x 0).sV.toList==k.toList<;>simp only[cT,cF]<;>omega
  omega
theorem aqN(l:LL)(k:BY):cntF (l.map eB) k=cntF l k:=by
 unfold cntF;rw[List.foldl_map];rfl
def me(dd lg:LL)(r:LG):LG:=[.s (gi r 0).sV,.s (I1 dd (gi r 0).sV),.i (cntF lg (gi r 0).sV)]
theorem I3(f:β->LG->β)(b:β){i:Nat}(d:l.take (i+1)=l.take i++[x]):(l.take (i+1)).foldl f b=f ((l.take i).foldl f b) x:=by
 rw[d,pj];rfl
section
variable (dd cs ss ot held out keys lg:LL) (ck:Nat) (kl ki n:Int) (k b:BY)
theorem aqO(hn:dd.length<=1000):eZ Da [.l dd,.l cs,.l ss,.l ot,.l held,.i (ck:Int),.l out,.s k,.s (⟨#[]⟩:BY),.i n,.s k,.l keys,.i kl,.i ki,.l dd,.i (dd.length:Int),.i 0]
  fun c g=>c=0/\g=[.l dd,.l cs,.l ss,.l ot,.l held,.i (ck:Int),.l out,.s k,.s (I1 dd k),.i n,.s k,.l keys,.i kl,.i ki]:=by
 refine(ga (σ:=BY) (fun s i=>[.l dd,.l cs,.l ss,.l ot,.l held,.i (ck:Int),.l out,.s k,.s s,.i n,.s k,.l keys,.i kl,.i ki,.l dd,.i (dd.length:Int),.i (i:Int)]) dd
  (fun s=>(0,[.l dd,.l cs,.l ss,.l ot,.l held,.i (ck:Int),.l out,.s k,.s s,.i n,.s k,.l keys,.i kl,.i ki])) (fun s i=>s=(dd.take i).foldl (p_ k) ⟨#[]⟩) ⟨#[]⟩ ab rfl ?_ ?_).mono ?_
 ·rintro s i x hs hi B hm F
  have d:(dd.take (i+1)).foldl (p_ k) ⟨#[]⟩=p_ k s x:=by rw[I3 _ _ F,hs]
  unfold p_ at d;unfold Da
  (dsimp only[go_sem])
  simp only[aZ,B];refine aa.p (aa.p ?_);refine aa.test (fun q=>?_) fun q=>?_
  ·rw[q]at d
   refine aa.test (fun A=>?_) fun A=>?_
   ·rw[A]at d
    exact aa.p (aa.pos ai (aa.some ⟨_,rfl,d.symm⟩))
   ·rw[A]at d
    exact aa.p (aa.pos ai (aa.some ⟨s,rfl,d.symm⟩))
  ·rw[q]at d
   exact aa.p (aa.pos ai (aa.some ⟨s,rfl,d.symm⟩))
 ·rintro s _
  unfold Da
  (dsimp only[go_sem])
  simp only[aZ];exact aa.n (aa.pos ai (aa.some rfl))
 ·rintro c g ⟨s,hs,rfl,rfl⟩
  rw[fu]at hs;exact⟨rfl,by rw[hs]; rfl⟩
theorem aqP(hn:ss.length<=1000):eZ Db [.l dd,.l cs,.l ss,.l ot,.l held,.i (ck:Int),.l out,.s k,.s b,.i 0,.s k,.l keys,.i kl,.i ki,.l ss,.i (ss.length:Int),.i 0]
  fun c g=>c=0/\g=[.l dd,.l cs,.l ss,.l ot,.l held,.i (ck:Int),.l out,.s k,.s b,.i (cntF ss k),.l keys,.i kl,.i ki]:=by
 refine(ga (σ:=Int) (fun s i=>[.l dd,.l cs,.l ss,.l ot,.l held,.i (ck:Int),.l out,.s k,.s b,.i s,.s k,.l keys,.i kl,.i ki,.l ss,.i (ss.length:Int),.i (i:Int)]) ss
  (fun s=>(0,[.l dd,.l cs,.l ss,.l ot,.l held,.i (ck:Int),.l out,.s k,.s b,.i s,.l keys,.i kl,.i ki])) (fun s i=>s=(ss.take i).foldl (lL k) 0) 0 ab rfl ?_ ?_).mono ?_
 ·rintro s i x hs hi A hm B
  have F:=I2 k (ss.take i) 0;rw[<-hs,gA]at F;have d:(ss.take (i+1)).foldl (lL k) 0=lL k s x:=by rw[I3 _ _ B,hs]
  unfold lL at d;unfold Db
  (dsimp only[go_sem])
  simp only[aZ,A];refine aa.p (aa.p ?_);refine aa.test (fun q=>?_) fun q=>?_
  ·rw[q]at d
   exact aa.p (aa.p (aa.pos ai (aa.some ⟨_,rfl,d.symm⟩)))
  ·rw[q]at d
   exact aa.p (aa.pos ai (aa.some ⟨s,rfl,d.symm⟩))
 ·rintro s _
  unfold Db
  (dsimp only[go_sem])
  simp only[aZ];exact aa.n (aa.pos ai (aa.some rfl))
 ·rintro c g ⟨s,hs,rfl,rfl⟩
  rw[fu]at hs;exact⟨rfl,by rw[hs]; rfl⟩
theorem aqQ(hn:dd.length<=1000)(hm:ss.length<=1000)(I:keys.length<=1000):eZ Dc [.l dd,.l cs,.l ss,.l ot,.l held,.i (ck:Int),.l [],.l keys,.i (keys.length:Int),.i 0]
  fun c g=>g=[.l dd,.l cs,.l ss,.l ot,.l held,.i (ck:Int),.l (keys.map (me dd ss))]:=by
 refine(ga (σ:=LL) (fun s i=>[.l dd,.l cs,.l ss,.l ot,.l held,.i (ck:Int),.l s,.l keys,.i (keys.length:Int),.i (i:Int)]) keys
  (fun s=>(0,[.l dd,.l cs,.l ss,.l ot,.l held,.i (ck:Int),.l s])) (fun s i=>s=(keys.take i).map (me dd ss)) [] ab rfl ?_ ?_).mono ?_
 ·rintro s i x hs hi d B q
  have F:s.length<=1000:=by rw[hs,bL,gA]; omega
  have A:(keys.take (i+1)).map (me dd ss)=s++[me dd ss x]:=by rw[q,gu,hs]; rfl
  unfold Dc
  (dsimp only[go_sem])
  simp only[aZ,d];refine aa.p (aa.p ?_);refine aa.loop (aqO dd cs ss ot held s keys ck (keys.length:Int) (i:Int) 0 (gi x 0).sV hn) ai ?_;rintro _ _ ⟨rfl,rfl⟩
  (dsimp only[go_sem])
  simp only[aZ];refine aa.loop (aqP dd cs ss ot held s keys ck (keys.length:Int) (i:Int) (gi x 0).sV _ hm) ai ?_;rintro _ _ ⟨rfl,rfl⟩
  (dsimp only[go_sem])
  simp only[aZ];exact aa.pos (by simp only[sl]; simp; omega) (aa.p (aa.pos ai (aa.some ⟨s++[me dd ss x],rfl,A.symm⟩)))
 ·rintro s _
  unfold Dc
  (dsimp only[go_sem])
  simp only[aZ];exact aa.n (aa.pos ai (aa.some rfl))
 ·rintro c g ⟨s,hs,rfl,rfl⟩
  rw[fu]at hs;rw[hs]
theorem aqR(B:∀z∈dd,bG z)(hn:dd.length<=1000):Ip [.l dd,.l cs,.l ss,.l ot,.l held,.i (ck:Int)]=some [.l dd,.l cs,.l ss,.l ot,.l held,.i (ck:Int),.l (eD (dd.map eJ))]:=by
 refine aa.toEq ?_;unfold Ip
 (dsimp only[go_sem])
 simp only[aZ];refine aa.loop (P:=fun _ g=>g=[.l dd,.l cs,.l ss,.l ot,.l held,.i (ck:Int),.l (gY (dd.map eJ)).1,.i ((gY (dd.map eJ)).2:Int)]) ((ga (σ:=LL × Nat) (fun s i=>[.l dd,.l cs,.l ss,.l ot,.l held,.i (ck:Int),.l s.1,.i (s.2:Int),.l dd,.i (dd.length:Int),.i (i:Int)]) dd
  (fun s=>(0,[.l dd,.l cs,.l ss,.l ot,.l held,.i (ck:Int),.l s.1,.i (s.2:Int)])) (fun s i=>s=gY ((dd.take i).map eJ)) ([],0) ab rfl ?_ ?_).mono ?_) rfl ?_
 ·rintro s i x hs hi q J F
  have I:gY ((dd.take (i+1)).map eJ)=ib s (eJ x):=by rw[F,gu,eU,mo,aqF,hs]
  unfold Io
  (dsimp only[go_sem])
  simp only[aZ,q];exact aa.p (aa.p (aa.p (aa.some ⟨ib s (eJ x),rfl,I.symm⟩)))
 ·rintro s _
  unfold Io
  (dsimp only[go_sem])
  simp only[aZ];exact aa.n (aa.some rfl)
 ·rintro c g ⟨s,hs,rfl,rfl⟩
  rw[fu]at hs;rw[hs]
 rintro _ _ rfl
 (dsimp only[go_sem])
 simp only[aZ];refine aa.call (aa.eq (Yn (l:=dd.map eJ) (fun x q=>by
  obtain⟨d,A,rfl⟩:=cM.1 q;exact I0 (B d A)) du)) ?_
 rintro _ rfl;exact aa.some rfl
theorem aqS(g:∀z∈dd,bG z)(hn:dd.length<=1000)(hm:ss.length<=1000):Ir [.l dd,.l cs,.l ss,.l ot,.l held,.i (ck:Int)]=some [.l dd,.l cs,.l ss,.l ot,.l held,.i (ck:Int),.l ((eD (dd.map eJ)).map (me dd ss))]:=by
 have d:=DG (dd.map eJ);rw[bL]at d;refine aa.toEq ?_;unfold Ir
 (dsimp only[go_sem])
 simp only[aZ];refine aa.cE (aqR dd cs ss ot held ck g hn) ?_
 (dsimp only[go_sem])
 simp only[aZ];refine aa.loop (aqQ dd cs ss ot held (eD (dd.map eJ)) ck hn hm ab) ai ?_;rintro _ _ rfl
 (dsimp only[go_sem])
 simp only[aZ];exact aa.pos ai (aa.some rfl)
theorem aqT(hn:dd.length<=1000):eZ C2 [.l dd,.l out,.s k,.s (⟨#[]⟩:BY),.i n,.l lg,.s k,.l keys,.i kl,.i ki,.i (dd.length:Int),.i 0]
  fun c g=>c=0/\g=[.l dd,.l out,.s k,.s (I1 dd k),.i n,.l lg,.s k,.l keys,.i kl,.i ki]:=by
 refine(ga (σ:=BY) (fun s i=>[.l dd,.l out,.s k,.s s,.i n,.l lg,.s k,.l keys,.i kl,.i ki,.i (dd.length:Int),.i (i:Int)]) dd
  (fun s=>(0,[.l dd,.l out,.s k,.s s,.i n,.l lg,.s k,.l keys,.i kl,.i ki])) (fun s i=>s=(dd.take i).foldl (p_ k) ⟨#[]⟩) ⟨#[]⟩ ab rfl ?_ ?_).mono ?_
 ·rintro s i x hs hi B hm F
  have d:(dd.take (i+1)).foldl (p_ k) ⟨#[]⟩=p_ k s x:=by rw[I3 _ _ F,hs]
  unfold p_ at d;unfold C2
  (dsimp only[go_sem])
  simp only[aZ,fC,B];refine aa.p (aa.p (aa.p ?_));refine aa.test (fun q=>?_) fun q=>?_
  ·rw[q]at d
   refine aa.test (fun A=>?_) fun A=>?_
   ·rw[A]at d
    exact aa.p (aa.pos ai (aa.some ⟨_,rfl,d.symm⟩))
   ·rw[A]at d
    exact aa.p (aa.pos ai (aa.some ⟨s,rfl,d.symm⟩))
  ·rw[q]at d
   exact aa.p (aa.pos ai (aa.some ⟨s,rfl,d.symm⟩))
 ·rintro s _
  unfold C2
  (dsimp only[go_sem])
  exact aa.n (aa.pos ai (aa.some rfl))
 ·rintro c g ⟨s,hs,rfl,rfl⟩
  rw[fu]at hs;exact⟨rfl,by rw[hs]; rfl⟩
theorem aqU(hn:lg.length<=1000):eZ C3 [.l dd,.l out,.s k,.s b,.i 0,.l lg,.s k,.l keys,.i kl,.i ki,.l lg,.i (lg.length:Int),.i 0]
  fun c g=>c=0/\g=[.l dd,.l out,.s k,.s b,.i (cntF lg k),.l lg,.l keys,.i kl,.i ki]:=by
 refine(ga (σ:=Int) (fun s i=>[.l dd,.l out,.s k,.s b,.i s,.l lg,.s k,.l keys,.i kl,.i ki,.l lg,.i (lg.length:Int),.i (i:Int)]) lg
  (fun s=>(0,[.l dd,.l out,.s k,.s b,.i s,.l lg,.l keys,.i kl,.i ki])) (fun s i=>s=(lg.take i).foldl (lL k) 0) 0 ab rfl ?_ ?_).mono ?_
 ·rintro s i x hs hi A hm B
  have F:=I2 k (lg.take i) 0;rw[<-hs,gA]at F;have d:(lg.take (i+1)).foldl (lL k) 0=lL k s x:=by rw[I3 _ _ B,hs]
  unfold lL at d;unfold C3
  (dsimp only[go_sem])
  simp only[aZ,A];refine aa.p (aa.p ?_);refine aa.test (fun q=>?_) fun q=>?_
  ·rw[q]at d
   exact aa.p (aa.p (aa.pos ai (aa.some ⟨_,rfl,d.symm⟩)))
  ·rw[q]at d
   exact aa.p (aa.pos ai (aa.some ⟨s,rfl,d.symm⟩))
 ·rintro s _
  unfold C3
  (dsimp only[go_sem])
  exact aa.n (aa.pos ai (aa.some rfl))
 ·rintro c g ⟨s,hs,rfl,rfl⟩
  rw[fu]at hs;exact⟨rfl,by rw[hs]; rfl⟩
theorem aqV(hn:dd.length<=1000)(hm:lg.length<=1000)(I:keys.length<=1000):eZ C4 [.l dd,.l [],.l lg,.l keys,.i (keys.length:Int),.i 0]
  fun c g=>g=[.l (keys.map (me dd lg))]:=by
 refine(ga (σ:=LL) (fun s i=>[.l dd,.l s,.l lg,.l keys,.i (keys.length:Int),.i (i:Int)]) keys
  (fun s=>(0,[.l s])) (fun s i=>s=(keys.take i).map (me dd lg)) [] ab rfl ?_ ?_).mono ?_
 ·rintro s i x hs hi d B q
  have F:s.length<=1000:=by rw[hs,bL,gA]; omega
  have A:(keys.take (i+1)).map (me dd lg)=s++[me dd lg x]:=by rw[q,gu,hs]; rfl
  unfold C4
  (dsimp only[go_sem])
  simp only[aZ,d];refine aa.p (aa.p ?_);refine aa.loop (aqT dd s keys lg (keys.length:Int) (i:Int) 0 (gi x 0).sV hn) ai ?_;rintro _ _ ⟨rfl,rfl⟩
  (dsimp only[go_sem])
  refine aa.loop (aqU dd s keys lg (keys.length:Int) (i:Int) (gi x 0).sV _ hm) ai ?_;rintro _ _ ⟨rfl,rfl⟩
  (dsimp only[go_sem])
  exact aa.pos (by simp only[sl]; simp; omega) (aa.p (aa.pos ai (aa.some ⟨s++[me dd lg x],rfl,A.symm⟩)))
 ·rintro s _
  unfold C4
  (dsimp only[go_sem])
  exact aa.n (aa.pos ai (aa.some rfl))
 ·rintro c g ⟨s,hs,rfl,rfl⟩
  rw[fu]at hs;rw[hs]
end
def Au(rZ:LL)(t:Int):LL:=(eD ((ch rZ t).map eJ)).map (me (ch rZ t) (dV rZ t))
section
variable (rZ:LL) (t:Int) (hr:∀z∈rZ,bG z) (hn:rZ.length<=20)
include hr hn
theorem aqW:∀z∈ch rZ t,bG z:=fun z d=>hr z (oP d)
theorem aqX(aV:jN rZ):H9 [.l rZ,.i t]=some [.l (Au rZ t)]:=by
 have g:=sR rZ t;have q:=xy rZ t;have d:=DG ((ch rZ t).map eJ);rw[bL]at d;refine aa.toEq ?_;unfold H9
 (dsimp only[go_sem])
 refine aa.cE (Yb rZ t hr hn aV) ?_;refine aa.cE (N7 rZ t hr hn aV) ?_
 (dsimp only[go_sem])
 refine aa.iy (aa.eq (aqM (ch rZ t) ab)) ai ?_;rintro _ rfl
 (dsimp only[go_sem])
 refine aa.loop (aqV (ch rZ t) (eD ((ch rZ t).map eJ)) (dV rZ t) ab ab ab) ai ?_;rintro _ _ rfl
 (dsimp only[go_sem])
 exact aa.pos ai (aa.some rfl)
end
theorem aqY(rZ:LL)(t:Int):(dV rZ t).Pairwise fun a b=>gX a b<0:=by
 have g:=Ap (uZ t rZ);have q:=GF (lt:=cR gX) X9 (l:=(fI rZ (cA t 0 rZ)).1) (fun _ _=>trivial);have A:(dV rZ t).Pairwise fun a b=>gX a b≠0:=(oy (lt:=cR gX) (fI rZ (cA t 0 rZ)).1).symm.pairwise g.apart (fun {x y} h e=>h (by
  have:gX x y=- gX y x:=Am _ _;omega))
 refine(auX q A).imp fun {a b} h=>?_;obtain⟨d,B⟩:=h;unfold cR at d;rw[dX,dF]at d;have:gX b a=- gX a b:=Am _ _;omega
theorem aqZ(h:kJ d=0)(I:(gi d 3).iV=1):fQ (a_ d)=0:=by
 unfold kJ at h;rw[I]at h;cases g:nu (gi d 0).sV with
 |false=>rw[g]at h; cases h
 |true=>
 cases A:cC (gi d 1).iV 1 1000000 with
 |false=>rw[g,A]at h; cases h
 |true=>
 cases F:cC (gi d 2).iV 0 345686399999 with
 |false=>rw[g,A,F]at h; cases h
 |true=>
 rw[g,A,F]at h;cases q:fQ (ma d) != 0 with
 |true=>
  rw[q]at h;have B:fQ (ma d)=0:=h;rw[B]at q;cases q
 |false=>
  have B:fQ (ma d)=0:=by simpa using q
  exact B
theorem Yt:∀{l:LL} {y:LG},(∀ x∈l,fQ x=0)->(y::l).Pairwise (fun a b=>fy a b<0)->ja (some y) l=0
 |[],_,_,_=>by unfold ja; rfl
 |x::q,y,d,g=>by
  obtain⟨A,B⟩:=mV.1 g;have I:=A x dG;unfold ja;rw[iN (by rw[d x dG]; simp),iN ab];exact Yt (fun z F=>d z (cO _ F)) B
theorem aq0(hn:l.length<=2000)(d:∀x∈l,fQ x=0)(g:l.Pairwise (fun a b=>fy a b<0)):uT l=0:=by
 unfold uT;rw[iN ab];cases l with
 |nil=>unfold ja; rfl
 |cons x q=>
  unfold ja;rw[iN (by rw[d x dG]; simp)];exact Yt (fun z A=>d z (cO _ A)) g
def jd(rZ:LL)(t:Int):LL:=(dV rZ t).map a_
theorem DH(rZ:LL)(t:Int):(jd rZ t).length<=rZ.length:=by
 unfold jd;rw[bL];exact xy rZ t
theorem aq1(rZ:LL)(t:Int):(jd rZ t).Pairwise (fun a b=>fy a b<0):=by
 unfold jd;rw[tk];exact aqY rZ t
section
variable (rZ:LL) (t:Int) (hr:∀z∈rZ,bG z) (hn:rZ.length<=20)
include hr hn
theorem DI:∀z∈jd rZ t,fp z:=fun z g=>by
 obtain⟨d,q,rfl⟩:=cM.1 g;exact(hr d (vc q).1).oM
theorem Yu(aV:jN rZ):uT (jd rZ t)=0:=by
 have F:=DH rZ t;refine aq0 ab (fun x q=>?_) (aq1 rZ t);obtain⟨d,g,rfl⟩:=cM.1 q;have A:∀z∈rZ,kJ z=0:=fun z B=>by
  obtain⟨i,hi,rfl⟩:=auh.1 B;have:=aV.1.1 i hi
  rwa [dj,bT hi]at this
 exact aqZ (A d (vc g).1) (vc g).2
end
theorem vd(ks:List Kd)(r:LG)(rs:LL)(key:LG):fO ks (r::rs) key=bif aK ks key (gi r 0).rV then nW r else fO ks rs key:=by
 unfold fO;simp only[fl];cases aK ks key (gi r 0).rV with
 |true=>rfl
 |false=>
  grind[qT]
theorem ve(ks:List Kd)(r:LG)(rs:LL)(key:LG):iq ks (r::rs) key=bif aK ks key (gi r 0).rV then (gi r 3).bV else iq ks rs key:=by
 unfold iq;simp only[fl];cases aK ks key (gi r 0).rV with
 |true=>rfl
 |false=>
  grind[qT]
theorem Yv(ks:List Kd)(r:LG)(rs:LL)(key:LG):jF ks (r::rs) key=bif aK ks key (gi r 0).rV then [gi r 0,gi r 1,gi r 2,.t false]::rs else r::jF ks rs key:=by
 unfold jF;simp only[fl];cases aK ks key (gi r 0).rV with
 |true=>rfl
 |false=>
  grind[qT]
theorem Yw(ks:List Kd)(r:LG)(rs:LL)(key:LG)(v:LL)(c:Nat):mA ks (r::rs) key v c=bif aK ks key (gi r 0).rV then [.l [key],.l [[.l v]],.i (gi r 2).iV,.t true]::rs else r::mA ks rs key v c:=by
 unfold mA;simp only[fl];cases aK ks key (gi r 0).rV with
 |true=>rfl
 |false=>
  grind[qT]
theorem N'(ks:List Kd)(k key:LG):∀ rZ:LL,fO ks (jF ks rZ k) key=fO ks rZ key
 |[]=>rfl
 |r::rs=>by
  rw[Yv];cases h:aK ks k (gi r 0).rV with
  |true=>
   rw[cT,vd,vd];rfl
  |false=>rw[cF,vd,vd,N' ks k key rs]
theorem Oa(ks:List Kd){k key:LG}(d:aK ks key k=false):∀ rZ:LL,iq ks (jF ks rZ k) key=iq ks rZ key
 |[]=>rfl
 |r::rs=>by
  rw[Yv];cases h:aK ks k (gi r 0).rV with
  |true=>
   have e:aK ks key (gi r 0).rV=false:=by rw[<-Cy h]; exact d
   rw[cT,ve,ve,e];show (bif aK ks key (gi r 0).rV then _ else _)=_
   grind
  |false=>rw[cF,ve,ve,Oa ks d rs]
theorem Yx(ks:List Kd)(k key:LG)(v:LL)(c:Nat):∀ rZ:LL,fO ks (mA ks rZ k v c) key=bif aK ks key k then v else fO ks rZ key
 |[]=>by
  show fO ks [[.l [k],.l [[.l v]],.i (c:Int),.t true]] key=_
  rw[vd];rfl
 |r::rs=>by
  rw[Yw,vd];cases h:aK ks k (gi r 0).rV with
  |true=>
   rw[cT,vd];have e:aK ks key (gi r 0).rV=aK ks key k:=(Cy h).symm;rw[e];show (bif aK ks key k then _ else _)=_
   cases aK ks key k<;>rfl
  |false=>
   rw[cF,vd,Yx ks k key v c rs];cases d:aK ks key (gi r 0).rV with
   |false=>rfl
   |true=>
    cases g:aK ks key k with
    |false=>rfl
    |true=>
     grind[pO,l7]
theorem Yy(ks:List Kd)(k key:LG)(v:LL)(c:Nat):∀ rZ:LL,iq ks (mA ks rZ k v c) key=bif aK ks key k then true else iq ks rZ key
 |[]=>by
  show iq ks [[.l [k],.l [[.l v]],.i (c:Int),.t true]] key=_
  rw[ve];rfl
 |r::rs=>by
  rw[Yw,ve];cases h:aK ks k (gi r 0).rV with
  |true=>
   rw[cT,ve];have e:aK ks key (gi r 0).rV=aK ks key k:=(Cy h).symm;rw[e];show (bif aK ks key k then _ else _)=_
   cases aK ks key k<;>rfl
  |false=>
   rw[cF,ve,Yy ks k key v c rs];cases d:aK ks key (gi r 0).rV with
   |false=>rfl
   |true=>
    cases g:aK ks key k with
    |false=>rfl
    |true=>
     grind[pO,l7]
structure DJ (Q:LG->Prop) (m:LL) (n:BY->Nat):Prop where
 iq:∀k,iq [.str] m [.s k]=true
 get:∀k,(fO [.str] m [.s k]).length<=n k/\∀z∈fO [.str] m [.s k],Q z
theorem DJ.nil(Q:LG->Prop):DJ Q [] fun _=>0:=⟨fun _=>rfl,fun _=>⟨bl _,by intro z d; cases d⟩⟩
theorem DJ.mono{n d:BY->Nat}(h:DJ Q m n)(hn:∀k,n k<=d k):DJ Q m d:=
 ⟨h.iq,fun k=>⟨gl (h.get k).1 (hn k),(h.get k).2⟩⟩
def e8(e:LG):LG:=(gi e 0).rV
theorem Av{K:List Kd}{x:LG}:∀{m:LL},b_ K m x=false↔∀ e∈m,aK K x (e8 e)=false
 |[]=>by simp[pP]
 |r::rs=>by
  rw[pQ,aui,Av (m:=rs)];simp[e8]
theorem Ob:b_ K m x=true↔∃e∈m,aK K x (e8 e)=true:=by
 cases h:b_ K m x with
 |true=>
  refine⟨fun _=>?_,fun _=>rfl⟩;refine Ph fun hn=>?_;have:b_ K m x=false:=Av.2 fun e he=>by
   cases hr:aK K x (e8 e)with
   |false=>rfl
   |true=>exact(hn ⟨e,he,hr⟩).elim
  rw[this]at h;cases h
 |false=>
  refine⟨fun h=>(by cases h),fun⟨e,he,hr⟩=>?_⟩;rw[Av.1 h e he]at hr;cases hr
theorem Yz(K:List Kd)(r:LG)(rs:LL)(k:LG):mz K (r::rs) k=bif aK K k (gi r 0).rV then rs else r::mz K rs k:=by
 unfold mz;simp only[fl];cases aK K k (gi r 0).rV with
 |true=>rfl
 |false=>
  simp only[cF];rw[qT K k rs (0+1)];cases fl K k rs 0<;>rfl
theorem YA(K:List Kd)(k:LG):mz K [] k=[]:=rfl
structure fg (K:List Kd) (Q:LG->Prop) (m:LL) (dB:Nat):Prop where
 form:∀e∈m,∃(k v:LG) (n:Nat),e=[.l [k],.l [v],.i (n:Int)]/\n<dB/\Q k
 born:(m.map cP).Nodup
 keys:m.Pairwise fun a b=>aK K (e8 a) (e8 b)=false
theorem fg.nil:fg K Q [] 0:=⟨ai,ai,ai⟩
theorem fg.tail{r:LG}(h:fg K Q (r::m) dB):fg K Q m dB:=
 ⟨fun e he=>h.form e (cO _ he),(mn.1 h.born).2,(mV.1 h.keys).2⟩
theorem fg.perm(h:fg K Q m dB)(d:p.Perm m):fg K Q p dB:=
 ⟨fun e he=>h.form e (d.mem_iff.1 he),(d.map cP).nodup_iff.2 h.born,d.symm.pairwise h.keys fun {a b} g=>by rw[l7]; exact g⟩
theorem fg.gq{K:List Kd}{Q:LG->Prop}{m:LL}{dB:Nat}(h:fg K Q m dB):gq m dB=true:=by
 simp only[AL.gq,NY _ h.born,lP,eX,jS];intro e he;obtain⟨k,v,n,rfl,hn,_⟩:=h.form e he;exact hn
theorem fg.get{K:List Kd}{Q:LG->Prop}:∀{m:LL} {dB:Nat},fg K Q m dB->∀ e∈m,∀ z,(∀ k,Q k->aK K k k=true)->da K m (e8 e) z=(gi e 1).rV
 |r::rs,dB,h,e,he,z,d=>by
  rw[y9];rcases cy.1 he with rfl|he
  ·obtain⟨k,v,n,rfl,_,g⟩:=h.form _ dG
   rw[show aK K (e8 [G.l [k],.l [v],.i (n:Int)]) (gi [G.l [k],.l [v],.i (n:Int)] 0).rV=true from d k g];rfl
  ·have:=(mV.1 h.keys).1 e he
   rw[l7]at this;rw[show aK K (e8 e) (gi r 0).rV=false from this];exact h.tail.get e he z d
theorem Aw{K:List Kd}{k v:LG}{dB:Nat}:∀{m:LL},(cH K m k v dB).map cP=(bif b_ K m k then m.map cP else m.map cP++[dB]) /\
  ∀e∈cH K m k v dB,e∈m\/∃z:Int,e=[.l [k],.l [v],.i z]/\((∃r∈m,z=(gi r 2).iV)\/(z=dB/\b_ K m k=false))
 |[]=>by
  rw[y_,pP];exact⟨by simp[cP,gi,G.iV],fun e he=>.inr ⟨dB,ij.1 he,.inr ⟨rfl,rfl⟩⟩⟩
 |r::rs=>by
  obtain⟨g,A⟩:=Aw (K:=K) (k:=k) (v:=v) (dB:=dB) (m:=rs);rw[za,pQ];cases hs:aK K k (gi r 0).rV with
  |true=>
   refine⟨rfl,fun e he=>?_⟩;rw[cT]at he;rcases cy.1 he with rfl|he
   ·exact .inr ⟨_,rfl,.inl ⟨r,dG,rfl⟩⟩
   ·exact .inl (cO _ he)
  |false=>
   rw[cF,jR];refine⟨?_,fun e he=>?_⟩
   ·rw[eU,g]
    cases b_ K rs k<;>rfl
   ·rcases cy.1 he with rfl | he
    ·exact .inl dG
    ·rcases A e he with h | ⟨z,rfl,⟨q,d,rfl⟩ | ⟨rfl,d⟩⟩
     ·exact .inl (cO _ h)
     ·exact .inr ⟨_,rfl,.inl ⟨q,cO _ d,rfl⟩⟩
     ·exact .inr ⟨_,rfl,.inr ⟨rfl,d⟩⟩
theorem YB{K:List Kd}{k v:LG}{dB:Nat}:∀{m:LL},m.Pairwise (fun a b=>aK K (e8 a) (e8 b)=false)->(cH K m k v dB).Pairwise fun a b=>aK K (e8 a) (e8 b)=false
 |[],_=>by
  rw[y_];exact List.pairwise_singleton _ _
 |r::rs,h=>by
  obtain⟨g,d⟩:=mV.1 h;rw[za];cases hs:aK K k (gi r 0).rV with
  |true=>
   rw[cT];refine mV.2 ⟨fun b q=>?_,d⟩;cases hc:aK K (e8 [G.l [k],.l [v],.i (gi r 2).iV]) (e8 b)with
   |false=>rfl
   |true=>
    have A:aK K (e8 r) (e8 b)=true:=pO (by rw[l7]; exact hs) (show aK K k (e8 b)=true from hc)
    grind
  |false=>
   rw[cF];refine mV.2 ⟨?_,YB d⟩;refine Av.1 ?_;rw[uE,l7,show aK K k (e8 r)=false from hs,jR];exact Av.2 g
theorem fg.put(h:fg K Q m dB){k:LG}(d:Q k)(v:LG):fg K Q (cH K m k v dB) (dI K m k dB):=by
 obtain⟨q,A⟩:=Aw (K:=K) (k:=k) (v:=v) (dB:=dB) (m:=m);have g:∀n∈m.map cP,n<dB:=fun n hn=>by
  obtain⟨e,he,rfl⟩:=cM.1 hn;obtain⟨w,v,n,rfl,hn,_⟩:=h.form e he;exact hn
 refine⟨fun e he=>?_,?_,YB h.keys⟩
 ·unfold dI
  rcases A e he with he|⟨z,rfl,⟨r,hr,rfl⟩|⟨rfl,B⟩⟩
  ·obtain⟨w,u,n,F,hn,I⟩:=h.form e he
   refine⟨w,u,n,F,?_,I⟩;cases b_ K m k
   ·exact rH hn
   ·exact hn
  ·obtain⟨w,u,n,rfl,hn,_⟩:=h.form r hr
   refine⟨k,v,n,rfl,?_,d⟩;cases b_ K m k
   ·exact rH hn
   ·exact hn
  ·rw[B]
   exact⟨k,v,dB,rfl,Pk dB,d⟩
 ·rw[q]
  cases b_ K m k with
  |true=>exact h.born
  |false=>
   rw[cF,Ep];refine⟨h.born,ai,fun a J b M e=>?_⟩;rw[ij]at M;have:=g a J;omega
theorem DK{K:List Kd}{k:LG}:∀{m:LL},(mz K m k).Sublist m
 |[]=>by rw[YA]; exact auY _
 |r::rs=>by
  rw[Yz];cases aK K k (gi r 0).rV with
  |true=>exact List.sublist_cons_self _ _
  |false=>exact DK.cons_cons _
theorem fg.del(h:fg K Q m dB)(k:LG):fg K Q (mz K m k) dB:=
 ⟨fun e he=>h.form e (DK.subset he),h.born.sublist (DK.map _),h.keys.sublist DK⟩
theorem YC{K:List Kd}{k x:LG}:∀{m:LL},m.Pairwise (fun a b=>aK K (e8 a) (e8 b)=false)->b_ K (mz K m k) x=(!aK K x k&&b_ K m x)
 |[],_=>by rw[YA,pP,Bool.and_false]
 |r::rs,h=>by
  obtain⟨g,q⟩:=mV.1 h;rw[Yz,pQ];cases hs:aK K k (gi r 0).rV with
  |true=>
   rw[cT];cases d:aK K x k with
   |true=>
    have:aK K x (gi r 0).rV=true:=pO d hs;have A:b_ K rs x=false:=Av.2 fun e he=>by
     cases hc:aK K x (e8 e)with
     |false=>rfl
     |true=>
      have:=pO (by rw[l7]; exact this) hc;rw[show aK K (gi r 0).rV (e8 e)=false from g e he]at this;cases this
    rw[A];rfl
   |false=>
    have:aK K x (gi r 0).rV=false:=by
     cases hc:aK K x (gi r 0).rV with
     |false=>rfl
     |true=>
      have:=pO hc (show aK K (gi r 0).rV k=true by rw[l7]; exact hs);rw[d]at this;cases this
    rw[this];rfl
  |false=>
   rw[cF,pQ,YC q];cases d:aK K x k with
   |true=>
    have:aK K x (gi r 0).rV=false:=by
     cases hc:aK K x (gi r 0).rV with
     |false=>rfl
     |true=>
      have:=pO (show aK K k x=true by rw[l7]; exact d) hc;rw[hs]at this;cases this
    rw[this];rfl
   |false=>rfl
def qa(k:LG):Prop:=∃n:Int,k=[.i n]
theorem ny(a b:Int):aK [.I] [.i a] [.i b]=decide (a=b):=by
 show ((a==b)&&true)=_
 rw[fJ];rfl
def eS(m:LL)(n:Int):Int:=(gi (da [.I] m [.i n] [.i 0]) 0).iV
theorem Oc(n:Int):eS [] n=0:=rfl
def bump(s:LL × Nat)(n:Int):LL × Nat:=(cH [.I] s.1 [.i n] [.i (eS s.1 n+1)] s.2,dI [.I] s.1 [.i n] s.2)
theorem aq2(s:LL × Nat)(n k:Int):eS (bump s n).1 k=eS s.1 k+(if k=n then 1 else 0):=by
 unfold bump;show (gi (da [.I] (cH [.I] s.1 [.i n] [.i (eS s.1 n+1)] s.2) [.i k] [.i 0]) 0).iV=_
 rw[pR,ny];by_cases h:k=n
 ·rw[dE h,iP h,h]
  rfl
 ·rw[decide_eq_false h,iN h,auj]
  rfl
theorem I4(k:Int):∀(l:List Int) (s:LL × Nat),eS (l.foldl bump s).1 k=eS s.1 k+(l.count k:Nat)
 |[],s=>by simp
 |n::l,s=>by
  rw[lO,I4 k l,aq2,List.count_cons];by_cases h:k=n
  ·subst h
   simp;omega
  ·rw[iN h,iN (by simpa using fun e=>h e.symm)]
   omega
theorem Od:∀(l:List Int) (s:LL × Nat),fg [.I] qa s.1 s.2->fg [.I] qa (l.foldl bump s).1 (l.foldl bump s).2
 |[],s,h=>h
 |n::l,s,h=>Od l (bump s n) (h.put ⟨n,rfl⟩ _)
theorem I5(k:Int):∀(l:List Int) (s:LL × Nat),b_ [.I] (l.foldl bump s).1 [.i k]=(b_ [.I] s.1 [.i k]||l.contains k)
 |[],s=>by simp
 |n::l,s=>by
  rw[lO,I5 k l];have:b_ [.I] (bump s n).1 [.i k]=(decide (k=n)||b_ [.I] s.1 [.i k]):=by
   unfold bump;rw[uE,ny]
  rw[this,aar];cases b_ [.I] s.1 [.i k]<;>cases h:decide (k=n)<;>simp_all
theorem Oe:∀(l:List Int) (s:LL × Nat),(l.foldl bump s).1.length<=s.1.length+l.length
 |[],s=>by simp
 |n::l,s=>by
  have d:=Oe l (bump s n);have g:(bump s n).1.length<=s.1.length+1:=by
   unfold bump;have:=(Aw (K:=[.I]) (k:=[.i n]) (v:=[.i (eS s.1 n+1)]) (dB:=s.2) (m:=s.1)).1;have:=congrArg nF this;rw[bL]at this;rw[this];cases b_ [.I] s.1 [.i n]<;>simp
  rw[lO,cJ];omega
def kK(f:Int->Bool):Nat->Int->Option Int
 |0,_=>none
 |k+1,n=>if f n then some n else kK f k (n+1)
theorem YD{f g:Int->Bool}:∀(k:Nat) (n:Int),1<=n->n+k<=100000->(∀ n,1<=n->n<=99999->f n=g n)->kK f k n=kK g k n
 |0,_,_,_,_=>rfl
 |k+1,n,d,q,h=>by
  unfold kK;rw[h n d ab,YD k (n+1) ab ab h]
theorem YE{f:Int->Bool}{x:Int}:∀(k:Nat) (n:Int),kK f k n=some x->n<=x/\x<n+k/\f x=true/\∀ y,n<=y->y<x->f y=false
 |0,_,h=>by cases h
 |k+1,n,h=>by
  unfold kK at h;by_cases d:f n=true
  ·rw[iP d]at h
   cases h;exact⟨Int.le_refl _,ab,d,fun y g q=>by omega⟩
  ·rw[iN d]at h
   obtain⟨g,q,A,B⟩:=YE k (n+1) h;refine⟨ab,ab,A,fun y I F=>?_⟩;by_cases e:y=n
   ·rw[e]
    simpa using d
   ·exact B y ab F
def YF(d:Int->LG)(g:LG):Option Int->Nat × LG
 |some n=>(0,d n)
 |none=>(1,g)
theorem YG{st:LG->bk}(mk:Int->LG)(f:Int->Bool)(q:Int->LG)(A:LG)(B:∀ n,1<=n->n<=99999->f n=true->st (mk n)=some (some 0,q n))
  (F:∀n,1<=n->n<=99999->f n=false->st (mk n)=some (none,mk (n+1))) (I:st (mk 100000)=some (some 1,A)):eZ st (mk 1) fun c g=>(c,g)=YF q A (kK f 99999 1):=by
 have key:∀(k:Nat) (n:Int),1<=n->n+k=100000->dU st (mk n) (k+1) fun c g=>(c,g)=YF q A (kK f k n):=by
  intro k
  induction k with
  |zero=>
   intro n hn J;have:n=100000:=ab;subst this;exact dU.stop I rfl
  |succ k M=>
   intro n hn J;cases d:f n with
   |true=>exact dU.stop (B n hn ab d) (by unfold kK; rw[d]; rfl)
   |false=>
    refine dU.next (F n hn ab d) ?_
    have:=M (n+1) ab ab;refine this.mono fun c g h=>?_;rw[h]
    conv=>rhs; unfold kK
    rw[d];rfl
 exact(key 99999 1 ab ab).to ab
theorem YH{sp:gp}{tl:LG->Option LG}{aL:Nat}{k:LG->Option β}{r:β}(aV:gq rZ aL=true)(h:∀b p,p.Perm rZ->∃e,qS sp tl d b p=some e/\k e=some r):yZ sp tl rZ aL d k=some r:=by
 unfold yZ;rw[aV];refine B5 fun b p g=>?_;obtain⟨e,q,A⟩:=h b p g;rw[q];exact A
def gj(cs:LL):List Int:=(cs.map fun c=>(gi c 4).iV).filter fun n=>decide (0<n)
theorem Of(cs:LL):(gj cs).length<=cs.length:=by
 unfold gj;have:=tq (fun n=>decide (0<n)) (cs.map fun c=>(gi c 4).iV);rw[bL]at this;exact this
def dy(cs:LL):LL × Nat:=(gj cs).foldl bump ([],0)
theorem Ax(cs:LL)(k:Int):eS (dy cs).1 k=((gj cs).count k:Nat):=by
 unfold dy;rw[I4,Oc,aas]
section
variable {dd cs ss ot held:LL} {ck:Nat}
theorem YI(hn:cs.length<=1000):sH [.l dd,.l cs,.l ss,.l ot,.l held,.i (ck:Int)]=some [.l dd,.l cs,.l ss,.l ot,.l held,.i (ck:Int),.l (dy cs).1,.i ((dy cs).2:Int)]:=by
 refine aa.toEq ?_;unfold sH
 (dsimp only[go_sem])
 simp only[aZ];refine aa.loop ((ga (σ:=LL × Nat) (fun s i=>[.l dd,.l cs,.l ss,.l ot,.l held,.i (ck:Int),.l s.1,.i (s.2:Int),.l cs,.i (cs.length:Int),.i (i:Int)]) cs
  (fun s=>(0,[.l dd,.l cs,.l ss,.l ot,.l held,.i (ck:Int),.l s.1,.i (s.2:Int)])) (fun s i=>s=dy (cs.take i)) ([],0) ab rfl ?_ ?_)) rfl ?_
 ·rintro s i c d hi B hm F
  have I:(gj (cs.take i)).length<=1000:=by
   have:=Of (cs.take i);rw[gA]at this;omega
  have hc:=Ax (cs.take i) (gi c 4).iV;have J:=PC (a:=(gi c 4).iV) (l:=gj (cs.take i));rw[<-d]at hc;have q:dy (cs.take (i+1))=bif decide (0<(gi c 4).iV) then bump s (gi c 4).iV else s:=by
   rw[F,d];unfold dy gj;rw[gu,tn,pj];simp only[eU,mo,xR,Jw];cases decide (0<(gi c 4).iV)<;>rfl
  unfold Ht
  (dsimp only[go_sem])
  simp only[aZ,B];refine aa.p (aa.p ?_);cases A:decide (0<(gi c 4).iV)with
  |true=>
   rw[A]at q;refine aa.pos (by rw[dX]; exact A) (aa.pos ?_ (aa.p (aa.some ⟨_,rfl,q.symm⟩)));show aM (eS s.1 (gi c 4).iV+1)=true
   rw[hc]
   (first|rfl|assumption|(simp only[aM,sl]<;>omega))
  |false=>
   rw[A]at q;exact aa.neg (by rw[dX]; exact A) (aa.p (aa.some ⟨_,rfl,q.symm⟩))
 ·rintro s _
  unfold Ht
  (dsimp only[go_sem])
  simp only[aZ];exact aa.n (aa.some rfl)
 ·rintro c g ⟨s,d,rfl,rfl⟩
  rw[fu]at d;subst d
  (dsimp only[go_sem])
  simp only[aZ];exact aa.some rfl
def eE(e:LG):Int:=(gi (gi e 0).rV 1).iV
def eW(p:LL):LL × Nat:=(p.map eE).foldl bump ([],0)
theorem DL(p:LL)(k:Int):eS (eW p).1 k=((p.map eE).count k:Nat):=by
 unfold eW;rw[I4,Oc,aas]
theorem YJ(bJ:Nat):∀(q:LL) (s:LL × Nat) (l:List Int),s=l.foldl bump ([],0)->l.length+q.length<=1000 ->
  dc w6 (fun d=>(gi d 8).iV.toNat) q [.l dd,.l cs,.l ss,.l ot,.l held,.i (ck:Int),.l s.1,.i (s.2:Int),.i (bJ:Int)] =
   some [.l dd,.l cs,.l ss,.l ot,.l held,.i (ck:Int),.l ((q.map eE).foldl bump s).1,.i (((q.map eE).foldl bump s).2:Int),.i (bJ:Int)]
 |[],s,l,_,_=>by simp[dc]
 |e::q,s,l,hs,g=>by
  have hc:eS s.1 (eE e)=(l.count (eE e):Nat):=by rw[hs,I4,Oc,aas]
  have F:=PC (a:=eE e) (l:=l);simp only[cJ]at g;have A:w6 e [.l dd,.l cs,.l ss,.l ot,.l held,.i (ck:Int),.l s.1,.i (s.2:Int),.i (bJ:Int)]=some [.l dd,.l cs,.l ss,.l ot,.l held,.i (ck:Int),.l (bump s (eE e)).1,.i ((bump s (eE e)).2:Int),.i (bJ:Int)]:=by
   unfold w6
   (dsimp only[go_sem])
   simp only[aZ];have:aM (eS s.1 (eE e)+1)=true:=by
    rw[hc]
    (first|rfl|assumption|(simp only[aM,sl]<;>omega))
   rw[show aM ((gi (da [.I] s.1 [.i (gi (gi e 0).rV 1).iV] [.i 0]) 0).iV+1)=true from this];rfl
  have B:=YJ bJ q (bump s (eE e)) (l++[eE e]) (by rw[pj,<-hs]; rfl) du;simp only[dc,A,Jp,Ab,Aa,G.iV,aZ];exact B
theorem YK(b:Nat)(p:LL)(g:p.length<=1000):qS w7 sI [.l dd,.l cs,.l ss,.l ot,.l held,.i (ck:Int),.l [],.i 0] b p =
  some [.l dd,.l cs,.l ss,.l ot,.l held,.i (ck:Int),.l (eW p).1,.i ((eW p).2:Int)]:=by
 have h:=YJ (dd:=dd) (cs:=cs) (ss:=ss) (ot:=ot) (held:=held) (ck:=ck) b p ([],0) [] rfl du;show (bif true then (dc w6 (fun d=>(gi d 8).iV.toNat) p [.l dd,.l cs,.l ss,.l ot,.l held,.i (((ck:Int).toNat:Nat):Int),.l [],.i ((((0:Int).toNat:Nat)):Int),.i (b:Int)]).bind sI else none)=_
 simp only[aZ,cT];rw[show ((0:Int).toNat:Nat)=0 from rfl];rw[show (((0:Nat):Int))=(((([],0):LL × Nat).2:Nat):Int) from rfl];rw[h];show sI _=_
 unfold sI
 (dsimp only[go_sem])
 simp only[aZ];rfl
def xz(cs held:LL)(n:Int):Bool:=((gj cs).count n==0)&&((held.map eE).count n==0)
def I6:Option Int->LG
 |some n=>[.i n,.i 0]
 |none=>[.i 0,.i 12]
theorem aq3(hn:cs.length<=1000)(F:held.length<=1000)(aV:gq held ck=true):zM [.l dd,.l cs,.l ss,.l ot,.l held,.i (ck:Int)]=some ([.l dd,.l cs,.l ss,.l ot,.l held,.i (ck:Int)]++I6 (kK (xz cs held) 99999 1)):=by
 unfold zM;have I:sH (MX [.l dd,.l cs,.l ss,.l ot,.l held,.i (ck:Int)])=some [.l dd,.l cs,.l ss,.l ot,.l held,.i (ck:Int),.l (dy cs).1,.i ((dy cs).2:Int)]:=YI hn;rw[B1 I];refine YH aV fun b p B=>⟨_,YK b p (by rw[B.length_eq]; exact F),?_⟩
 refine aa.toEq ?_;unfold Hw
 (dsimp only[go_sem])
 simp only[aZ];have A:∀ n,((p.map eE).count n)=((held.map eE).count n):=fun n=>(B.map eE).count_eq n;refine aa.loop (YG (st:=zL) (fun n=>[.l dd,.l cs,.l ss,.l ot,.l held,.i (ck:Int),.l (dy cs).1,.i ((dy cs).2:Int),.l (eW p).1,.i ((eW p).2:Int),.i n]) (xz cs held)
  (fun n=>[.l dd,.l cs,.l ss,.l ot,.l held,.i (ck:Int),.i n,.i 0]) [.l dd,.l cs,.l ss,.l ot,.l held,.i (ck:Int)] (fun n J M d=>?_) (fun n J M d=>?_) ?_) rfl fun c g q=>?_
 ·unfold xz at d
  simp only[aR,beq_iff_eq]at d;refine aa.toEq ?_;unfold zL
  (dsimp only[go_sem])
  simp only[aZ];refine aa.p (aa.pos ?_ (aa.pos ?_ (aa.some rfl)))
  ·show (eS (dy cs).1 n==0)=true
   rw[Ax,d.1];rfl
  ·show (eS (eW p).1 n==0)=true
   rw[DL,A,d.2];rfl
 ·unfold xz at d
  refine aa.toEq ?_;unfold zL
  (dsimp only[go_sem])
  simp only[aZ];refine aa.p ?_;cases hs:(gj cs).count n==0 with
  |true=>
   rw[hs,lP]at d;refine aa.pos ?_ (aa.neg ?_ (aa.p (aa.some rfl)))
   ·show (eS (dy cs).1 n==0)=true
    rw[Ax];simp only[beq_iff_eq]at hs|-;rw[hs];rfl
   ·show (eS (eW p).1 n==0)=false
    rw[DL,A];simp only[beq_eq_false_iff_ne,ne_eq]at d|-;omega
  |false=>
   refine aa.neg ?_ (aa.p (aa.some rfl));show (eS (dy cs).1 n==0)=false
   rw[Ax];simp only[beq_eq_false_iff_ne,ne_eq]at hs|-;omega
 ·refine aa.toEq ?_
  unfold zL
  (dsimp only[go_sem])
  simp only[aZ];exact aa.n (aa.some rfl)
 ·cases d:kK (xz cs held) 99999 1 with
  |some n=>
   rw[d]at q;cases q
   (dsimp only[go_sem])
   simp only[aZ];exact aa.pos rfl (aa.some rfl)
  |none=>
   rw[d]at q;cases q
   (dsimp only[go_sem])
   simp only[aZ];exact aa.neg rfl (aa.some rfl)
end
def eT(r:LG):Prop:=∃(s:BY) (n:Int),r=[.s s,.i n]/\small n/\s∈gP
theorem eT.eta(h:eT r):bu bZ r=r:=by
 obtain⟨s,n,rfl,_⟩:=h;rfl
def dv(d:LG):LG:=[.s (gi d 0).sV,.i (gi d 8).iV]
theorem bG.bC(h:bG d):eT (dv d):=by
 obtain⟨si,no,at_,kd,t,m,b,c,s,h,x,y,bd,bP,ot,rfl,g,_,_,_,⟨_,_,_,_,q,_,_,_⟩,_⟩:=h;exact⟨si,s,rfl,q,g⟩
theorem aq4(a b:BY)(m n:Int):aK bZ [.s a,.i m] [.s b,.i n]=(decide (a=b)&&decide (m=n)):=by
 have:aK bZ [.s a,.i m] [.s b,.i n]=((a.toList==b.toList)&&((m==n)&&true)):=rfl;rw[this,fJ,IL];rfl
theorem vf(hr:eT r)(hs:eT s):aK bZ r s=true↔r=s:=by
 obtain⟨a,m,rfl,_⟩:=hr;obtain⟨b,n,rfl,_⟩:=hs;rw[aq4,aR,dT,dT];constructor
 ·rintro⟨rfl,rfl⟩
  rfl
 ·intro h
  injection h with g d
  injection g with g
  injection d with d
  injection d with d
  exact⟨g,d⟩
def vg(k d:LG):Bool:=aK bZ k (dv d)
def gQ(k d:LG):Bool:=((gi d 3).iV==4||(gi d 3).iV==1)&&vg k d
def sS(k d:LG):Bool:=(gi d 3).iV==3&&vg k d
def oQ(k:LG):LL->Bool
 |[]=>false
 |d::q=>(sS k d && !(q.any (gQ k)))||oQ k q
def DM(k:LG)(b:Bool)(d:LG):Bool:=bif sS k d then true else bif gQ k d then false else b
theorem YL(k:LG):∀(q:LL) (b:Bool),q.foldl (DM k) b=(oQ k q||(b && !(q.any (gQ k))))
 |[],b=>by simp[oQ]
 |d::q,b=>by
  rw[lO,YL k q];unfold DM;simp only[oQ,xV];have g:sS k d=true->gQ k d=false:=fun h=>by
   unfold sS at h;unfold gQ;simp only[aR,beq_iff_eq]at h;rw[h.1];rfl
  cases A:sS k d with
  |true=>
   rw[g A];cases oQ k q<;>cases q.any (gQ k)<;>cases b<;>rfl
  |false=>cases gQ k d<;>cases oQ k q<;>cases q.any (gQ k)<;>cases b<;>rfl
theorem YM:∀(l:LL) (s:LL × Nat),(∀ d∈l,bG d)->fg bZ eT s.1 s.2->fg bZ eT (l.foldl mc s).1 (l.foldl mc s).2/\(∀ k,b_ bZ (l.foldl mc s).1 k=l.foldl (DM k) (b_ bZ s.1 k))/\(l.foldl mc s).1.length<=s.1.length+l.length
 |[],s,_,h=>⟨h,fun _=>rfl,ai⟩
 |d::l,s,q,h=>by
  have B:=q d dG;have g:fg bZ eT (mc s d).1 (mc s d).2/\(∀k,b_ bZ (mc s d).1 k=DM k (b_ bZ s.1 k) d)/\(mc s d).1.length<=s.1.length+1:=by
   unfold mc DM sS gQ;cases A:(gi d 3).iV==3 with
   |true=>
    simp only[cT,lP];refine⟨h.put (show eT [.s (gi d 0).sV,.i (gi d 8).iV] from B.bC) _,fun k=>?_,?_⟩
    ·rw[uE]
     have F:(gi d 3).iV=3:=by simpa using A
     rw[F];show (vg k d||b_ bZ s.1 k)=_
     cases vg k d<;>rfl
    ·have:=(Aw (K:=bZ) (k:=[.s (gi d 0).sV,.i (gi d 8).iV]) (v:=[.t true]) (dB:=s.2) (m:=s.1)).1
     have:=congrArg nF this;rw[bL]at this;rw[this];cases b_ bZ s.1 [.s (gi d 0).sV,.i (gi d 8).iV]<;>simp
   |false=>
    simp only[cF,Pm];cases N:((gi d 3).iV==4||(gi d 3).iV==1)with
    |true=>
     simp only[cT,lP];refine⟨h.del _,fun k=>?_,?_⟩
     ·rw[YC h.keys]
      show (!vg k d&&b_ bZ s.1 k)=_
      cases vg k d<;>rfl
     ·have:=(DK (K:=bZ) (k:=[.s (gi d 0).sV,.i (gi d 8).iV]) (m:=s.1)).length_le
      omega
    |false=>
     simp only[cF,Pm];exact⟨h,fun k=>by first|rfl|trivial|simp,ab⟩
  obtain⟨I,J,A⟩:=YM l (mc s d) (fun x M=>q x (cO _ M)) g.1;refine⟨I,fun k=>?_,?_⟩
  ·rw[lO,lO,J,g.2.1]
  ·rw[lO,cJ]
   have:=g.2.2;omega
theorem DN(l:LL)(g:∀d∈l,bG d):fg bZ eT (bU l).1 (bU l).2/\(∀k,b_ bZ (bU l).1 k=oQ k l)/\(bU l).1.length<=l.length:=by
 obtain⟨q,A,B⟩:=YM l ([],0) g fg.nil;refine⟨q,fun k=>?_,by simpa[bU]using B⟩;have:=A k;rw[YL,pP,Pm,Bool.or_false]at this;exact this
def jJ:LL->LL->LL
 |[],out=>out
 |d::q,out=>jJ q (bif (gi d 3).iV==3&&(!(q.any (gQ (dv d))) && !(out.any (aK bZ (dv d)))) then out++[dv d] else out)
theorem I7{k:LG}(I:eT k):∀(q out:LL),(∀ d∈q,bG d)->(∀ r∈out,eT r)->(k∈jJ q out↔k∈out\/oQ k q=true)
 |[],out,_,_=>by simp[jJ,oQ]
 |d::q,out,J,F=>by
  have g:=(J d dG).bC;have N:=fun x A=>J x (cO _ A);unfold jJ;have O:out.any (aK bZ (dv d))=true↔dv d∈out:=by
   rw[List.any_eq_true];constructor
   ·rintro⟨x,A,e⟩
    rw[(vf g (F x A)).1 e];exact A
   ·intro h
    exact⟨_,h,(vf g g).2 rfl⟩
  have B:sS k d=true↔(gi d 3).iV=3/\k=dv d:=by
   unfold sS vg;rw[aR,vf I g,beq_iff_eq]
  rw[I7 I q _ N (by
   intro r hr;cases hc:(gi d 3).iV==3&&(!(q.any (gQ (dv d))) && !(out.any (aK bZ (dv d))))with
   |true=>
    rw[hc,cT]at hr;rcases cY.1 hr with hr|hr
    ·exact F r hr
    ·rw[ij.1 hr]
     exact g
   |false=>rw[hc]at hr; exact F r hr)]
  simp only[oQ,lQ,aR,nD];cases hc:(gi d 3).iV==3&&(!(q.any (gQ (dv d))) && !(out.any (aK bZ (dv d))))with
  |true=>
   simp only[aR,beq_iff_eq,nD]at hc;obtain⟨U,W,_⟩:=hc;rw[cT,cY,ij];constructor
   ·rintro ((h | h) | h)
    ·exact .inl h
    ·exact .inr (.inl ⟨B.2 ⟨U,h⟩,by rw[h]; exact W⟩)
    ·exact .inr (.inr h)
   ·rintro (h | ⟨h,_⟩ | h)
    ·exact .inl (.inl h)
    ·exact .inl (.inr (B.1 h).2)
    ·exact .inr h
  |false=>
   rw[cF];constructor
   ·rintro (h | h)
    ·exact .inl h
    ·exact .inr (.inr h)
   ·rintro (h | ⟨Y,h2⟩ | h)
    ·exact .inl h
    ·obtain⟨g1,M⟩:=B.1 Y
     left;rw[M];refine O.1 ?_;rw[<-M]at hc|-;cases ha:out.any (aK bZ k)with
     |true=>rfl
     |false=>
      rw[h2,ha,g1]at hc;cases hc
    ·exact .inr h
theorem DO:∀(q out:LL),(∀ d∈q,bG d)->(∀ r∈out,eT r)->out.Nodup->(jJ q out).Nodup/\(∀ r∈jJ q out,eT r)/\(jJ q out).length<=out.length+q.length
 |[],out,_,g,hn=>⟨hn,g,by simp[jJ]⟩
 |d::q,out,I,g,hn=>by
  have J:=(I d dG).bC;have F:=fun x U=>I x (cO _ U);unfold jJ;cases hc:(gi d 3).iV==3&&(!(q.any (gQ (dv d))) && !(out.any (aK bZ (dv d))))with
  |true=>
   simp only[aR,beq_iff_eq,nD]at hc;rw[cT];obtain⟨A,B,M⟩:=DO q (out++[dv d]) F (fun r hr=>by
    rcases cY.1 hr with hr|hr
    ·exact g r hr
    ·rw[ij.1 hr]
     exact J) (by
    rw[Ep];refine⟨hn,ai,fun a N b O e=>?_⟩;rw[ij]at O;have:=Ju.1 hc.2.2 a N;rw[vf J (g a N)]at this;exact this (by rw[e,O]))
   refine⟨A,B,?_⟩;simp at M|-;omega
  |false=>
   rw[cF];obtain⟨A,B,M⟩:=DO q out F g hn;exact⟨A,B,by rw[cJ]; omega⟩
def bO(l:LL):LL:=jJ l []
theorem qc(g:∀d∈l,bG d):∀r∈bO l,eT r:=(DO l [] g ai ai).2.1
theorem rm(g:∀d∈l,bG d):(bO l).length<=l.length:=by simpa[bO]using(DO l [] g ai ai).2.2
theorem I8(l:LL)(g:∀d∈l,bG d):((bU l).1.map e8).Perm (bO l):=by
 obtain⟨B,F,_⟩:=DN l g;have bC:∀e∈(bU l).1,eT (e8 e):=fun e he=>by
  obtain⟨k,v,n,rfl,_,q⟩:=B.form e he;exact q
 refine(aaq ?_ (DO l [] g ai ai).1).2 fun k=>?_
 ·rw[vr,tk]
  refine(B.keys.imp_of_mem fun {a b} J I A e=>?_);rw[e,(vf (bC b I) (bC b I)).2 rfl]at A;cases A
 ·constructor
  ·intro h
   obtain⟨e,he,rfl⟩:=cM.1 h;refine(I7 (bC e he) l [] g ai).2 (.inr ?_);rw[<-F];exact Ob.2 ⟨e,he,(vf (bC e he) (bC e he)).2 rfl⟩
  ·intro h
   have q:=qc g k h;rcases(I7 q l [] g ai).1 h with h|h
   ·cases h
   ·rw[<- F]at h
    obtain⟨e,he,hr⟩:=Ob.1 h;exact cM.2 ⟨e,he,((vf q (bC e he)).1 hr).symm⟩
theorem aq5{a b:Int}(h:iL a b=0):a=0/\b=0:=by
 unfold iL at h;by_cases e:a=0
 ·rw[iN (by simpa using e)]at h
  exact⟨e,h⟩
 ·rw[iP e]at h
  exact absurd h e
def lM(a b:LG):Int:=iL (eP (gi a 0).sV (gi b 0).sV) (gh (gi a 1).iV (gi b 1).iV)
theorem YN(r s:LG):lM s r=- lM r s:=Aj (jb.flip _ _) (mP.flip _ _)
theorem I9:ir (cR lM) (fun _=>True):=NU (fun a b=>YN a b) fun a b d g q=>IM jb _ _ _ _ _ _ g q fun A B=>mP.le _ _ _ A B
theorem aq6(hr:eT r)(hs:eT s)(h:lM r s=0):r=s:=by
 obtain⟨a,m,rfl,_⟩:=hr;obtain⟨b,n,rfl,_⟩:=hs;obtain⟨d,g⟩:=aq5 h;have q:a=b:=DC.1 d;have A:m=n:=mP.eq _ _ g;rw[q,A]
theorem Og(d:∀r∈l,eT r):∀a∈l,∀b∈l,cR lM a b=false->cR lM b a=false->a=b:=fun a A b B g q=>by
 refine aq6 (d a A) (d b B) ?_;unfold cR at g q;rw[dX,dF]at g q;have:=YN a b;omega
def eK(l:LL):LL:=gO (cR lM) l
theorem aq7(d:∀r∈q,eT r)(h:p.Perm q):eK p=eK q:=by
 have g:∀r∈p,eT r:=fun r hr=>d r (h.mem_iff.1 hr);refine CB (lt:=cR lM) (((oy p).trans h).trans (oy q).symm) (fun a A b B=>Og g a ((oy p).mem_iff.1 A) b ((oy p).mem_iff.1 B)) ?_ ?_
 ·exact GF (I9.mono fun _ _=>trivial) (Q:=fun _=>True) (fun _ _=>trivial)
 ·exact GF (I9.mono fun _ _=>trivial) (Q:=fun _=>True) (fun _ _=>trivial)
theorem aq8(a b:Int):qZ [.l [[.i a],[.i b]]]=some [.i (iL a b)]:=by
 refine aa.toEq ?_;unfold qZ
 (dsimp only[go_sem])
 have h:=II [[.i a],[.i b]] [] ai;refine aa.loop (h.to ai) i_ ?_;rintro x g ⟨A,rfl⟩;have e:oJ [[.i a],[.i b]]=iL a b:=by
  simp only[oJ,iL]
  (dsimp only[go_sem])
  by_cases d:a=0<;>by_cases q:b=0<;>simp[d,q]
 rw[e]
 (dsimp only[go_sem])
 exact aa.test (fun _=>aa.some rfl) fun _=>aa.some rfl
theorem aq9(hr:eT r)(hs:eT s):w_ [.l [r],.l [s]]=some [.i (lM r s)]:=by
 obtain⟨a,m,rfl,_⟩:=hr;obtain⟨b,n,rfl,_⟩:=hs;refine aa.toEq ?_;unfold w_
 (dsimp only[go_sem])
 refine aa.cE (rfl:kF [.s a,.s b]=some [.i (eP a b)]) ?_;refine aa.cE (DB m n) ?_
 (dsimp only[go_sem])
 refine aa.cE (aq8 _ _) ?_;exact aa.some rfl
theorem aq_:ox bZ w_ eT lM:=⟨fun _ _ hr hs=>aq9 hr hs,fun _ h=>h.eta⟩
theorem aq'(a b:Int):qX [.i (a-b)]=some [.i (gh a b)]:=by
 refine aa.toEq ?_;unfold qX gh
 (dsimp only[go_sem])
 by_cases d:a<b
 ·(repeat first|refine aa.p ?_|refine aa.n ?_)
  exact aa.some (by simp[d])
 ·by_cases g:b<a
  ·(repeat first|refine aa.p ?_|refine aa.n ?_)
   exact aa.some (by simp[d,g])
  ·(repeat first|refine aa.p ?_|refine aa.n ?_)
   exact aa.some (by simp[d,g])
theorem ara(hr:eT r)(hs:eT s):xd [.l [r],.l [s]]=some [.i (lM r s)]:=by
 obtain⟨a,m,rfl,hm,_⟩:=hr;obtain⟨b,n,rfl,hn,_⟩:=hs;obtain⟨d,g⟩:=hm;obtain⟨q,A⟩:=hn;refine aa.toEq ?_;unfold xd lM iL
 (dsimp only[go_sem])
 rw[xl];by_cases h:eP a b=0
 ·rw[dE h]
  refine aa.neg rfl (aa.p (aa.call (aa.eq (aq' m n)) ?_));rintro _ rfl;exact aa.some (by simp[h,G.iV,gi])
 ·rw[decide_eq_false h]
  refine aa.pos rfl (aa.call (aa.eq (rfl:kF [.s a,.s b]=some [.i (eP a b)])) ?_);rintro _ rfl;exact aa.some (by simp[h,G.iV,G.sV,List.sV,gi])
theorem arb:ox bZ xd eT lM:=⟨fun _ _ hr hs=>ara hr hs,fun _ h=>h.eta⟩
theorem I_(h:small n):gz [.i n]=some [.s (gg n)]:=by
 obtain⟨d,g⟩:=h;unfold gz
 (dsimp only[go_sem])
 rw[show (cw (-9223372036854775808) n&&cw n 9223372036854775807)=true by rw[eh,eh,aR,dT,dT]; omega];rfl
theorem arc{o:LG}:H_ [.l [o],.l [d],.l [dv d]]=some [.t (gQ (dv d) o)]:=by
 have e:gQ (dv d) o=(((gi o 3).iV==4||(gi o 3).iV==1)&&(((gi d 0).sV.toList==(gi o 0).sV.toList)&&(((gi d 8).iV==(gi o 8).iV)&&true))):=rfl;rw[e,sv (gi d 0).sV.toList,sv (gi d 8).iV];refine aa.toEq ?_;unfold H_ dv
 (dsimp only[go_sem])
 cases (gi o 0).sV.toList==(gi d 0).sV.toList with
 |false=>exact aa.neg rfl (aa.some ai)
 |true=>
  refine aa.pos rfl ?_;cases (gi o 3).iV==4 with
  |true=>exact aa.pos rfl (aa.some ai)
  |false=>
   refine aa.neg rfl ?_;cases (gi o 3).iV==1 with
   |true=>exact aa.pos rfl (aa.some ai)
   |false=>exact aa.neg rfl (aa.some ai)
theorem YO{d:LG}(B:bG d):∀(q w:LL),(∀z∈q,bG z)->w.length+q.length<100000 ->
  dU zT [.l (w++q),.l [d],.l [dv d],.i ((w++q).length:Nat),.i (w.length:Nat)] (q.length+1) fun c g=>(c=0/\q.any (gQ (dv d))=true/\∃n:Nat,g=[.i (n:Int)])\/(c=1/\q.any (gQ (dv d))=false)
 |[],w,_,F=>by
  refine dU.stop (x:=1) (d':=[]) (aa.toEq ?_) (.inr ⟨rfl,rfl⟩);unfold zT
  (dsimp only[go_sem])
  exact aa.neg (by simp[dX]) (aa.some rfl)
 |y::q,w,J,F=>by
  simp only[cJ]at F;have U:=J y dG;have Y:(w++y::q).length=w.length+(q.length+1):=ai;have N:(w++y::q).getD w.length []=y:=ai;have e:w++y::q=(w++[y])++q:=ai;have O:bu [.str,.I] (dv d)=dv d:=rfl;have step:∀{Q:Option Nat × LG->Prop},aa (bif gQ (dv d) y then some (some 0,[G.i (w.length:Int)]) else bif aM ((w.length:Int)+1) then some (none,[.l (w++y::q),.l [d],.l [dv d],.i ((w++y::q).length:Int),.i ((w.length:Int)+1)]) else none) Q ->
    aa (zT [.l (w++y::q),.l [d],.l [dv d],.i ((w++y::q).length:Nat),.i (w.length:Nat)]) Q:=fun h=>by
   unfold zT
   (dsimp only[go_sem])
   simp only[aZ,N,U.eta,B.eta,O];refine aa.p (aa.p (aa.call (aa.eq arc) ?_));rintro _ rfl;exact h
  cases A:gQ (dv d) y with
  |true=>
   refine dU.stop (x:=0) (d':=[.i (w.length:Nat)]) (aa.toEq (step ?_)) (.inl ⟨rfl,by rw[xV,A]; rfl,_,rfl⟩);rw[A];exact aa.pos rfl (aa.some rfl)
  |false=>
   have M:=YO B q (w++[y]) (fun z W=>J z (cO _ W)) du;rw[<-e]at M;refine dU.next (aa.toEq (step ?_)) (M.mono ?_)
   ·rw[A]
    exact aa.neg rfl (aa.p (aa.some ai))
   ·rw[xV,A,jR]
    exact fun _ _ h=>h
theorem ard(B:bG d)(q:LL)(J:∀z∈q,bG z)(M:q.length<100000):Ia [.l q,.l [d],.l [dv d]]=some [.t (q.any (gQ (dv d)))]:=by
 refine aa.toEq ?_;unfold Ia
 (dsimp only[go_sem])
 have F:bu [.str,.I] (dv d)=dv d:=rfl;rw[B.eta,F];refine aa.call (P:=fun g=>(∃j:Nat,g=[.i (j:Int)]/\q.any (gQ (dv d))=true)\/(g=[.i (-1)]/\q.any (gQ (dv d))=false)) ?_ ?_
 ·unfold Nn
  (dsimp only[go_sem])
  rw[B.eta,F];have h:=YO B q [] J (by simpa using M);simp only[rF,fU]at h;refine aa.loop (h.to ab) rfl ?_;rintro c g (⟨rfl,A,j,rfl⟩|⟨rfl,A⟩)
  ·exact aa.pos rfl (aa.some (.inl ⟨j,rfl,A⟩))
  ·exact aa.neg rfl (aa.some (.inr ⟨rfl,A⟩))
 ·rintro g (⟨j,rfl,A⟩ | ⟨rfl,A⟩)
  ·rw[A]
   exact aa.some (by simp[eh,gi,G.iV])
  ·rw[A]
   exact aa.some rfl
theorem YP{s:BY}{n:Int}:∀(q w:LL),(∀z∈q,eT z)->w.length+q.length<100000 ->
  dU zU [.s s,.i n,.l (w++q),.i ((w++q).length:Nat),.i (w.length:Nat)] (q.length+1) fun c g=>(c=0/\q.any (aK bZ [.s s,.i n])=true/\∃n:Nat,g=[.i (n:Int)])\/(c=1/\q.any (aK bZ [.s s,.i n])=false)
 |[],w,_,A=>by
  refine dU.stop (x:=1) (d':=[]) (aa.toEq ?_) (.inr ⟨rfl,rfl⟩);unfold zU
  (dsimp only[go_sem])
  exact aa.neg (by simp[dX]) (aa.some rfl)
 |y::q,w,B,A=>by
  simp only[cJ]at A;have M:=B y dG;have W:(w++y::q).length=w.length+(q.length+1):=ai;have J:(w++y::q).getD w.length []=y:=ai;have e:w++y::q=(w++[y])++q:=ai;have step:∀{Q:Option Nat × LG->Prop},aa (bif aK bZ [.s s,.i n] y then some (some 0,[G.i (w.length:Int)]) else bif aM ((w.length:Int)+1) then some (none,[.s s,.i n,.l (w++y::q),.i ((w++y::q).length:Int),.i ((w.length:Int)+1)]) else none) Q ->
    aa (zU [.s s,.i n,.l (w++y::q),.i ((w++y::q).length:Nat),.i (w.length:Nat)]) Q:=fun h=>by
   have N:bu [.str,.I] [G.s s,.i n,.l (w++y::q),.i ((w++y::q).length:Nat),.i (w.length:Nat)]=[.s s,.i n]:=rfl;have O:bu [.str,.I] y=y:=M.eta;unfold zU;rw[N]
   (dsimp only[go_sem])
   simp only[aZ,J,O];exact aa.p (aa.p h)
  cases d:aK bZ [.s s,.i n] y with
  |true=>
   refine dU.stop (x:=0) (d':=[.i (w.length:Nat)]) (aa.toEq (step ?_)) (.inl ⟨rfl,by rw[xV,d]; rfl,_,rfl⟩);rw[d];exact aa.pos rfl (aa.some rfl)
  |false=>
   have F:=YP (s:=s) (n:=n) q (w++[y]) (fun z U=>B z (cO _ U)) du;rw[<-e]at F;refine dU.next (aa.toEq (step ?_)) (F.mono ?_)
   ·rw[d]
    exact aa.neg rfl (aa.p (aa.some ai))
   ·rw[xV,d,jR]
    exact fun _ _ h=>h
theorem arf(out:LL)(A:∀z∈out,eT z)(B:out.length<100000)(d:LG):C5 [.l out,.l [dv d]]=some [.t (out.any (aK bZ (dv d)))]:=by
 refine aa.toEq ?_;unfold C5
 (dsimp only[go_sem])
 refine aa.call (P:=fun g=>(∃j:Nat,g=[.i (j:Int)]/\out.any (aK bZ (dv d))=true)\/(g=[.i (-1)]/\out.any (aK bZ (dv d))=false)) ?_ ?_
 ·unfold No
  (dsimp only[go_sem])
  have h:=YP (s:=(gi d 0).sV) (n:=(gi d 8).iV) out [] A (by simpa using B);simp only[rF,fU]at h;refine aa.loop (h.to ab) rfl ?_;rintro c g (⟨rfl,q,j,rfl⟩|⟨rfl,q⟩)
  ·exact aa.pos rfl (aa.some (.inl ⟨j,rfl,q⟩))
  ·exact aa.neg rfl (aa.some (.inr ⟨rfl,q⟩))
 ·rintro g (⟨j,rfl,q⟩ | ⟨rfl,q⟩)
  ·rw[q]
   exact aa.some (by simp[eh,gi,G.iV])
  ·rw[q]
   exact aa.some rfl
theorem arh{all out:LL}{i:Nat}(g:all.getD i []=d)(hi:i<all.length):jJ (all.drop i) out=jJ (all.drop (i+1)) (bif (gi d 3).iV==3&&(!((all.drop (i+1)).any (gQ (dv d))) && !(out.any (aK bZ (dv d)))) then out++[dv d] else out):=by
 rw[N3 hi,g];rfl
def Ay(all out:LL)(i:Nat)(d:LG):LL:=bif (gi d 3).iV==3&&(!((all.drop (i+1)).any (gQ (dv d))) && !(out.any (aK bZ (dv d)))) then out++[dv d] else out
theorem Oh(rZ:LL)(t:Int)(hr:∀z∈rZ,bG z)(hn:rZ.length<=20)(aV:jN rZ):zV [.l rZ,.i t]=some [.l (eK (bO (ch rZ t)))]:=by
 have A:∀z∈ch rZ t,bG z:=fun z q=>hr z (oP q);have U:=sR rZ t;refine aa.toEq ?_;unfold zV
 (dsimp only[go_sem])
 refine aa.cE (Yb rZ t hr hn aV) ?_
 (dsimp only[go_sem])
 generalize ch rZ t=all at A U;have M:=qc A;have hlen:=rm A;refine aa.loop (P:=fun _ g=>g=[.l (bO all)]) ((ga (σ:=LL) (fun s i=>[.l s,.l all,.l all,.i (all.length:Int),.i (i:Int)]) all (fun s=>(0,[.l s])) (fun s i=>jJ (all.drop i) s=bO all/\(∀z∈s,eT z)/\s.length<=i) [] ab ⟨rfl,ai,ai⟩ ?_ ?_).mono ?_) rfl ?_
 ·rintro s i d ⟨F,I,hI3⟩ hi q hm ht
  have J:=A d hm;have W:∀z∈all.drop (i+1),bG z:=fun z q=>A z (List.mem_of_mem_drop q);have Y:(all.drop (i+1)).length<100000:=by rw[te]; omega
  rw[arh q hi]at F;have key:jJ (all.drop (i+1)) (Ay all s i d)=bO all/\(∀z∈Ay all s i d,eT z)/\(Ay all s i d).length<=i+1:=by
   refine⟨F,?_,?_⟩
   ·intro z B
    unfold Ay at B;cases hc:(gi d 3).iV==3&&(!((all.drop (i+1)).any (gQ (dv d))) && !(s.any (aK bZ (dv d))))with
    |true=>
     rw[hc]at B;rcases cY.1 B with h|h
     ·exact I z h
     ·rw[ij.1 h]
      exact J.bC
    |false=>
     rw[hc]at B;exact I z B
   ·unfold Ay
    cases (gi d 3).iV==3&&(!((all.drop (i+1)).any (gQ (dv d))) && !(s.any (aK bZ (dv d))))with
    |true=>simp only[cT,eL,tt]; omega
    |false=>simp only[cF]; omega
  unfold Ib
  (dsimp only[go_sem])
  simp only[aZ,q];rw[J.eta];refine aa.p (aa.p (aa.p (aa.p ?_)));rw[show ((i:Int)+1).toNat=i+1 by omega];refine aa.cE (ard J (all.drop (i+1)) W Y) ?_
  (dsimp only[go_sem])
  unfold Ay at key;cases N:(gi d 3).iV==3 with
  |false=>
   rw[N]at key;exact aa.neg rfl (aa.p (aa.pos ai (aa.some ⟨s,rfl,key⟩)))
  |true=>
   refine aa.pos rfl ?_;rw[N]at key;cases O:(all.drop (i+1)).any (gQ (dv d))with
   |true=>
    rw[O]at key;exact aa.neg rfl (aa.p (aa.pos ai (aa.some ⟨s,rfl,key⟩)))
   |false=>
    rw[O]at key;refine aa.pos rfl (aa.iy (aa.eq (show C5 [.l s,.l [[.s (gi d 0).sV,.i (gi d 8).iV]]]=some [.t (s.any (aK bZ (dv d)))] from arf s I ab d)) ai ?_);rintro _ rfl
    (dsimp only[go_sem])
    cases hc:s.any (aK bZ (dv d))with
    |true=>
     rw[hc]at key;exact aa.neg rfl (aa.p (aa.pos ai (aa.some ⟨s,rfl,key⟩)))
    |false=>
     rw[hc]at key;exact aa.pos rfl (aa.pos (by simp only[sl]; simp; omega) (aa.p (aa.pos ai (aa.some ⟨s++[dv d],rfl,key⟩))))
 ·rintro s _
  unfold Ib
  (dsimp only[go_sem])
  exact aa.n (aa.pos ai (aa.some rfl))
 ·rintro c g ⟨s,⟨F,_⟩,rfl,rfl⟩
  rw[List.drop_length]at F;rw[<-F];rfl
 rintro _ _ rfl
 (dsimp only[go_sem])
 refine aa.iy (aa.eq (show Np [.l (bO all)]=some [.l (eK (bO all))] from
  GH (C:=xd) (Q:=eT) arb.GG (I9.mono fun _ _=>trivial) _ M ab (Og M))) ai ?_
 rintro _ rfl
 (dsimp only[go_sem])
 exact aa.pos (by simp[eK,uF]) (aa.some rfl)
def rq(r:LG):LG:=[.s (gi r 0).sV,.s (gg (gi r 1).iV)]
theorem ari(h:eT r):([.s (gi r 0).sV,.i (gi r 1).iV]:LG)=r:=by
 obtain⟨s,n,rfl,_⟩:=h;rfl
theorem arj(l:LL)(q:∀d∈l,bG d)(hn:l.length<=1000):Hz [.l (bU l).1,.i ((bU l).2:Int)]=some [.l (bU l).1,.i ((bU l).2:Int),.l (eK (bO l))]:=by
 obtain⟨I,_,U⟩:=DN l q;have B:=qc q;have O:=rm q;unfold Hz yW;have aV:nr [.l (bU l).1,.i ((bU l).2:Int)]=true:=by
  show (gq (bU l).1 ((bU l).2:Int).toNat&&bW (bU l).1.length 1048576)=true
  rw[aZ,I.gq,lP];exact PD ab
 rw[aV,cT];refine B5 fun b p A=>?_;have A:p.Perm (bU l).1:=A;have M:p.map MY=p.map e8:=pd fun e he=>by
  obtain⟨k,v,n,rfl,_,N⟩:=I.form e (A.mem_iff.1 he);exact ari N
 have g:(p.map e8).Perm (bO l):=(A.map e8).trans (I8 l q);have F:∀r∈p.map e8,eT r:=fun r hr=>B r (g.mem_iff.1 hr);have J:Hx [.l (p.map e8)]=some [.l (eK (bO l))]:=by
  have:=GH (C:=w_) (Q:=eT) aq_.GG (I9.mono fun _ _=>trivial) (p.map e8) F (by rw[g.length_eq]; omega) (Og F);rw[show gO (cR lM) (p.map e8)=eK (bO l) from aq7 B g]at this;exact this
 refine aa.toEq ?_;unfold M1 oE;rw[M]
 (dsimp only[go_sem])
 simp only[aZ];refine aa.iy (aa.eq J) ai ?_;rintro _ rfl
 (dsimp only[go_sem])
 refine aa.pos ?_ (aa.some ?_)
 ·have:(eK (bO l)).length=(p.map e8).length:=by rw[eK,uF,g.length_eq]
  rw[this];simp
 ·show [G.l (jK [.l (bU l).1,.i ((bU l).2:Int)]),.i ((qR [.l (bU l).1,.i ((bU l).2:Int)]:Nat):Int),.l (eK (bO l))]=_
  simp[jK,qR,gi,G.rZ,G.iV]
section
variable {dd cs ss ot l:LL}
theorem ark(A:∀d∈l,bG d)(hn:l.length<=1000):HB [.l dd,.l cs,.l ss,.l ot,.l (bU l).1,.i ((bU l).2:Int)]=some [.l dd,.l cs,.l ss,.l ot,.l (bU l).1,.i ((bU l).2:Int),.l ((eK (bO l)).map rq)]:=by
 have F:=qc A;have W:=rm A;have B:∀r∈eK (bO l),eT r:=Mh F;have I:(eK (bO l)).length=(bO l).length:=uF _ _;refine aa.toEq ?_;unfold HB
 (dsimp only[go_sem])
 simp only[aZ];refine aa.cE (arj l A hn) ?_
 (dsimp only[go_sem])
 simp only[aZ];generalize eK (bO l)=keys at B I;generalize (bU l).1=held;generalize (bU l).2=ck;refine aa.loop ((ga (σ:=LL) (fun s i=>[.l dd,.l cs,.l ss,.l ot,.l held,.i (ck:Int),.l s,.l keys,.i (keys.length:Int),.i (i:Int)]) keys (fun s=>(0,[.l dd,.l cs,.l ss,.l ot,.l held,.i (ck:Int),.l s])) (fun s i=>s=(keys.take i).map rq) [] ab rfl ?_ ?_)) ai ?_
 ·rintro s i r q hi M hm N
  have hr:=B r hm;have U:s.length<=1000:=by rw[q,bL,gA]; omega
  have O:(keys.take (i+1)).map rq=s++[rq r]:=by rw[N,gu,q]; rfl
  obtain⟨a,n,rfl,J,_⟩:=hr;unfold HA
  (dsimp only[go_sem])
  simp only[aZ,fC,M]
  (dsimp only[go_sem])
  refine aa.p (aa.p (aa.p (aa.call (aa.eq (I_ J)) ?_)));rintro _ rfl
  (dsimp only[go_sem])
  exact aa.pos (by simp only[sl]; simp; omega) (aa.p (aa.pos ai (aa.some ⟨_,rfl,O.symm⟩)))
 ·rintro s _
  unfold HA
  (dsimp only[go_sem])
  simp only[aZ];exact aa.n (aa.pos ai (aa.some rfl))
 ·rintro c g ⟨s,q,rfl,rfl⟩
  rw[fu]at q;subst q
  (dsimp only[go_sem])
  simp only[aZ];exact aa.pos ai (aa.some rfl)
end
def fA(m:LL)(n:Int):Bool:=(gi (da [.I] m [.i n] [.t false]) 0).bV
def sT(s:LL × Nat)(n:Int):LL × Nat:=(cH [.I] s.1 [.i n] [.t true] s.2,dI [.I] s.1 [.i n] s.2)
theorem Oi(k:Int):∀(l:List Int) (s:LL × Nat),fA (l.foldl sT s).1 k=(fA s.1 k||l.contains k)
 |[],s=>by simp
 |n::l,s=>by
  rw[lO,Oi k l];have:fA (sT s n).1 k=(decide (k=n)||fA s.1 k):=by
   unfold sT;show (gi (da [.I] (cH [.I] s.1 [.i n] [.t true] s.2) [.i k] [.t false]) 0).bV=_
   rw[pR,ny];cases decide (k=n)<;>rfl
  rw[this,aar];cases fA s.1 k<;>cases h:decide (k=n)<;>simp_all
section
variable (rZ:LL) (t:Int) (hr:∀z∈rZ,bG z) (hn:rZ.length<=20)
include hr hn
def vh(rZ:LL)(t:Int):List Int:=((dV rZ t).map a_).map (fun c=>(gi c 4).iV)++(eK (bO (ch rZ t))).map fun r=>(gi r 1).iV
theorem arl:∀n,1<=n->n<=99999->xz ((dV rZ t).map a_) (bU (ch rZ t)).1 n = !((vh rZ t).contains n):=fun n M _=>by
 have d:∀z∈ch rZ t,bG z:=fun z g=>hr z (oP g);have q:=I8 (ch rZ t) d;have F:((gj ((dV rZ t).map a_)).count n==0) = !((((dV rZ t).map a_).map (fun c=>(gi c 4).iV)).contains n):=by
  unfold gj;generalize ((dV rZ t).map a_).map (fun c=>(gi c 4).iV)=L;rw[jB,beq_iff_eq,vw,nD,<-aat,lp,jm];constructor
  ·intro h hm
   exact h ⟨hm,by rw[dT]; omega⟩
  ·intro h hm
   exact h hm.1
 have I:(((bU (ch rZ t)).1.map eE).count n==0) = !(((eK (bO (ch rZ t))).map fun r=>(gi r 1).iV).contains n):=by
  have J:((bU (ch rZ t)).1.map eE).Perm ((eK (bO (ch rZ t))).map fun r=>(gi r 1).iV):=by
   have:(bU (ch rZ t)).1.map eE=((bU (ch rZ t)).1.map e8).map fun r=>(gi r 1).iV:=by rw[ig]; rfl
   rw[this];exact(q.trans (oy (lt:=cR lM) _).symm).map _
  rw[jB,beq_iff_eq,vw,nD,<-aat,lp,J.mem_iff]
 unfold xz vh;rw[F,I];generalize ((dV rZ t).map a_).map (fun c=>(gi c 4).iV)=A;generalize (eK (bO (ch rZ t))).map (fun r=>(gi r 1).iV)=B;rw[jB];simp only[aR,nD,<-aat,lp,cY,not_or]
theorem arn(aV:jN rZ):C6 [.l rZ,.i t]=some (I6 (kK (fun n => !((vh rZ t).contains n)) 99999 1)):=by
 have W:∀z∈ch rZ t,bG z:=fun z A=>hr z (oP A);have hll:=xy rZ t;have hfn:=sR rZ t;have hbl:=rm W;have hsl:(eK (bO (ch rZ t))).length=(bO (ch rZ t)).length:=uF _ _;refine aa.toEq ?_;unfold C6
 (dsimp only[go_sem])
 refine aa.cE (show xc [.l rZ,.i t]=some [.l ((dV rZ t).map a_),.l (IY rZ t)] from Yc rZ t hr hn aV) ?_
 (dsimp only[go_sem])
 have N:=Oh rZ t hr hn aV;have Y:((dV rZ t).map a_).length<=20:=by rw[bL]; omega
 have M:vh rZ t=((dV rZ t).map a_).map (fun c=>(gi c 4).iV)++(eK (bO (ch rZ t))).map fun r=>(gi r 1).iV:=rfl;rw[M];generalize (dV rZ t).map a_=cs at Y;have U:(eK (bO (ch rZ t))).length<=20:=ab;clear M;generalize eK (bO (ch rZ t))=hs at U N;refine aa.loop ((ga (σ:=LL × Nat) (fun s i=>[.l s.1,.i (s.2:Int),.l rZ,.i t,.l cs,.i (cs.length:Int),.i (i:Int)]) cs (fun s=>(0,[.l s.1,.i (s.2:Int),.l rZ,.i t])) (fun s i=>s=((cs.take i).map fun c=>(gi c 4).iV).foldl sT ([],0)) ([],0) ab rfl ?_ ?_)) rfl ?_
 ·rintro s i c d hi A hm I
  have J:((cs.take (i+1)).map fun c=>(gi c 4).iV).foldl sT ([],0)=sT s (gi c 4).iV:=by rw[I,gu,pj,<-d]; rfl
  unfold Ie
  (dsimp only[go_sem])
  simp only[aZ,A];exact aa.p (aa.p (aa.p (aa.some ⟨_,rfl,J.symm⟩)))
 ·rintro s _
  unfold Ie
  (dsimp only[go_sem])
  simp only[aZ];exact aa.n (aa.some rfl)
 rintro c g ⟨s1,d,rfl,rfl⟩;rw[fu]at d
 (dsimp only[go_sem])
 simp only[aZ];refine aa.cE N ?_
 (dsimp only[go_sem])
 refine aa.loop ((ga (σ:=LL × Nat) (fun s i=>[.l s.1,.i (s.2:Int),.l hs,.i (hs.length:Int),.i (i:Int)]) hs (fun s=>(0,[.l s.1,.i (s.2:Int)])) (fun s i=>s=((hs.take i).map fun c=>(gi c 1).iV).foldl sT s1) s1 ab rfl ?_ ?_)) rfl ?_
 ·rintro s i c d hi A hm I
  have J:((hs.take (i+1)).map fun c=>(gi c 1).iV).foldl sT s1=sT s (gi c 1).iV:=by rw[I,gu,pj,<-d]; rfl
  unfold If
  (dsimp only[go_sem])
  simp only[aZ,A];exact aa.p (aa.p (aa.p (aa.some ⟨_,rfl,J.symm⟩)))
 ·rintro s _
  unfold If
  (dsimp only[go_sem])
  simp only[aZ];exact aa.n (aa.some rfl)
 rintro c g ⟨s2,O,rfl,rfl⟩;rw[fu]at O
 (dsimp only[go_sem])
 simp only[aZ];have F:∀n,fA s2.1 n=(cs.map (fun c=>(gi c 4).iV)++hs.map fun r=>(gi r 1).iV).contains n:=fun n=>by
  rw[O,Oi,d,Oi];rw[jB];simp only[lQ,lp,cY];constructor
  ·rintro ((h | h) | h)
   ·cases h
   ·exact .inl h
   ·exact .inr h
  ·rintro (h | h)
   ·exact .inl (.inr h)
   ·exact .inr h
 generalize (cs.map (fun c=>(gi c 4).iV)++hs.map fun r=>(gi r 1).iV)=T at F;refine aa.loop (YG (st:=zW) (fun n=>[.l s2.1,.i (s2.2:Int),.i n]) (fun n => !(T.contains n)) (fun n=>[.i n,.i 0]) [] (fun n n1 n2 q=>?_) (fun n n1 n2 q=>?_) ?_) rfl fun c g B=>?_
 ·refine aa.toEq ?_
  unfold zW
  (dsimp only[go_sem])
  refine aa.p (aa.pos ?_ (aa.some rfl));show (!fA s2.1 n)=true
  rw[F];exact q
 ·refine aa.toEq ?_
  unfold zW
  (dsimp only[go_sem])
  simp only[aZ];refine aa.p (aa.neg ?_ (aa.p (aa.some rfl)));show (!fA s2.1 n)=false
  rw[F];exact q
 ·refine aa.toEq ?_
  unfold zW
  (dsimp only[go_sem])
  exact aa.n (aa.some rfl)
 ·cases q:kK (fun n => !(T.contains n)) 99999 1 with
  |some n=>
   rw[q]at B;cases B;exact aa.pos rfl (aa.some rfl)
  |none=>
   rw[q]at B;cases B;exact aa.neg rfl (aa.some rfl)
theorem YQ(aV:jN rZ):zX [.l rZ,.i t]=some [.l ((eK (bO (ch rZ t))).map rq)]:=by
 have B:∀z∈ch rZ t,bG z:=fun z q=>hr z (oP q);have O:=sR rZ t;have I:=qc B;have U:=rm B;have F:∀r∈eK (bO (ch rZ t)),eT r:=Mh I;have W:(eK (bO (ch rZ t))).length=(bO (ch rZ t)).length:=uF _ _;refine aa.toEq ?_;unfold zX
 (dsimp only[go_sem])
 refine aa.cE (Oh rZ t hr hn aV) ?_
 (dsimp only[go_sem])
 have A:(eK (bO (ch rZ t))).length<=20:=ab;generalize eK (bO (ch rZ t))=keys at F A;refine aa.loop ((ga (σ:=LL) (fun s i=>[.l s,.l keys,.i (keys.length:Int),.i (i:Int)]) keys (fun s=>(0,[.l s])) (fun s i=>s=(keys.take i).map rq) [] ab rfl ?_ ?_)) rfl ?_
 ·rintro s i r d hi q hm M
  have hr:=F r hm;have A:s.length<=1000:=by rw[d,bL,gA]; omega
  have N:(keys.take (i+1)).map rq=s++[rq r]:=by rw[M,gu,d]; rfl
  obtain⟨a,n,rfl,J,_⟩:=hr;unfold Ig
  (dsimp only[go_sem])
  simp only[aZ,q]
  (dsimp only[go_sem])
  refine aa.p (aa.p (aa.call (aa.eq (I_ J)) ?_));rintro _ rfl
  (dsimp only[go_sem])
  exact aa.pos (by simp only[sl]; simp; omega) (aa.p (aa.pos ai (aa.some ⟨_,rfl,N.symm⟩)))
 ·rintro s _
  unfold Ig
  (dsimp only[go_sem])
  exact aa.n (aa.pos ai (aa.some rfl))
 ·rintro c g ⟨s,d,rfl,rfl⟩
  rw[fu]at d;subst d
  (dsimp only[go_sem])
  exact aa.pos ai (aa.some rfl)
end
def rr(r:LG):BY:=(gi r 0).sV
def dJ(r:LG):Int:=(gi r 1).iV
def dm(d:LG):Int:=(gi d 8).iV
def jP(H g:LL)(n:Int):List BY:=(H.filter fun r=>dJ r==n).map rr++(g.filter fun d=>dm d==n).map eJ
theorem YR{l l':List BY}(h:∀s,s∈l↔s∈l'):eD l=eD l':=Yg (N_ l) (N_ l') fun r=>by
 rw[As,As];constructor
 ·rintro⟨s,hs,e⟩
  exact⟨s,(h s).1 hs,e⟩
 ·rintro⟨s,hs,e⟩
  exact⟨s,(h s).2 hs,e⟩
theorem Oj(d:List UInt8):∀(g:List (List UInt8)),(∀ x∈g,x.length<=10)->(d.intercalate g).length<=g.length*(10+d.length)
 |[],_=>by simp[aau]
 |[x],h=>by
  have:=h x ai;simp[aau];omega
 |x::y::l,h=>by
  have q:=Oj d (y::l) fun z A=>h z (cO _ A);have B:=h x ai;have e:(d.intercalate (x::y::l)).length=x.length+(d.length+(d.intercalate (y::l)).length):=by
   simp[aau,List.intersperse]
  rw[e];simp only[cJ]at q|-;rw[Nat.add_mul,Nat.one_mul];omega
theorem YS{l:List BY}(d:∀s∈l,s∈gP)(hn:l.length<=1000):oI [.l (eD l),.s (⟨#[32]⟩:BY)]=some [.s (j0 (eD l) (⟨#[32]⟩:BY))]:=by
 have A:=DG l;have B:(j0 (eD l) (⟨#[32]⟩:BY)).size<=100000:=by
  have:=Oj [32] ((l6 (eD l)).map (·.data.toList)) fun x g=>by
   obtain⟨b,q,rfl⟩:=cM.1 g;obtain⟨r,hr,rfl⟩:=cM.1 q;obtain⟨s,hs,rfl⟩:=(As l r).1 hr;have:=d s hs;simp only[gP,cy,ke,or_false]at this;rcases this with rfl|rfl|rfl|rfl<;>decide
  have e:(j0 (eD l) (⟨#[32]⟩:BY)).size=([32].intercalate ((l6 (eD l)).map (·.data.toList))).length:=by
   show (auk _).size=_
   rw[List.size_toArray];rfl
  rw[e];simp only[bL,l6]at this|-;refine gl this ?_;simp;omega
 unfold oI y5;show (bif bW (eD l).length 1048576&&bW (j0 (eD l) (⟨#[32]⟩:BY)).size 140737488355328 then some [G.s (j0 (eD l) (⟨#[32]⟩:BY))] else none)=_
 rw[show bW (eD l).length 1048576=true from PD ab,show bW (j0 (eD l) (⟨#[32]⟩:BY)).size 140737488355328=true from PD ab];rfl
def qd(e:LG):BY:=(gi (gi e 0).rV 0).sV
section
variable {dd ot held:LL} {ck:Nat} {n:Int}
theorem YT{cs ss:LL}(bJ:Nat):∀(q:LL) (s:LL × Nat),
  dc xe (fun d=>(gi d 9).iV.toNat) q [.l dd,.l cs,.l ss,.l ot,.l held,.i (ck:Int),.l s.1,.i (s.2:Int),.i n,.i (bJ:Int)] =
   some [.l dd,.l cs,.l ss,.l ot,.l held,.i (ck:Int),.l (((q.filter fun e=>eE e==n).map qd).foldl ib s).1,.i ((((q.filter fun e=>eE e==n).map qd).foldl ib s).2:Int),.i n,.i (bJ:Int)]
 |[],s=>by simp[dc]
 |e::q,s=>by
  have g:xe e [.l dd,.l cs,.l ss,.l ot,.l held,.i (ck:Int),.l s.1,.i (s.2:Int),.i n,.i (bJ:Int)] =
    some [.l dd,.l cs,.l ss,.l ot,.l held,.i (ck:Int),.l (bif eE e==n then ib s (qd e) else s).1,.i ((bif eE e==n then ib s (qd e) else s).2:Int),.i n,.i (bJ:Int)]:=by
   unfold xe
   (dsimp only[go_sem])
   simp only[aZ];show (bif eE e==n then _ else _)=_
   cases eE e==n<;>rfl
  have A:=YT (cs:=cs) (ss:=ss) bJ q (bif eE e==n then ib s (qd e) else s);simp only[dc,g,Jp,Ab,Aa,G.iV,aZ,xR];rw[cT];refine Eq.trans A ?_;cases eE e==n<;>rfl
theorem aro(lg:LL)(hn:lg.length<=1000)(q:LL × Nat) :
  eZ Df [.l dd,.l (lg.map a_),.l (lg.map eB),.l ot,.l held,.i (ck:Int),.l q.1,.i (q.2:Int),.i n,.l (lg.map a_),.i (lg.length:Int),.i 0] fun c g=>c=0 /\
   g=[.l dd,.l (lg.map a_),.l (lg.map eB),.l ot,.l held,.i (ck:Int),.l (((lg.filter fun d=>dm d==n).map eJ).foldl ib q).1,.i ((((lg.filter fun d=>dm d==n).map eJ).foldl ib q).2:Int)]:=by
 have J:(lg.map a_).length=lg.length:=bL _;have M:(lg.map eB).length=lg.length:=bL _;refine(ga (σ:=LL × Nat) (fun s i=>[.l dd,.l (lg.map a_),.l (lg.map eB),.l ot,.l held,.i (ck:Int),.l s.1,.i (s.2:Int),.i n,.l (lg.map a_),.i (lg.length:Int),.i (i:Int)]) lg
  (fun s=>(0,[.l dd,.l (lg.map a_),.l (lg.map eB),.l ot,.l held,.i (ck:Int),.l s.1,.i (s.2:Int)])) (fun s i=>s=(((lg.take i).filter fun d=>dm d==n).map eJ).foldl ib q) q ab rfl ?_ ?_).mono ?_
 ·rintro s i d B hi A hm N
  have F:(((lg.take (i+1)).filter fun d=>dm d==n).map eJ).foldl ib q=bif dm d==n then ib s (eJ d) else s:=by
   rw[N,tn,gu,pj,<-B];simp only[xR,Jw];cases dm d==n<;>rfl
  have hc:(lg.map a_).getD i []=a_ d:=by
   rw[dj,dw,bT hi];rw[dj,bT hi]at A;simp only[mU]at A;simp[A]
  have hs:(lg.map eB).getD i []=eB d:=by
   rw[dj,dw,bT hi];rw[dj,bT hi]at A;simp only[mU]at A;simp[A]
  unfold Df
  (dsimp only[go_sem])
  simp only[aZ,hc,hs];refine aa.p (aa.pos (by rw[J]; (first|rfl|assumption|(simp only[aM,sl]<;>omega))) ?_);show aa (bif dm d==n then _ else _) _
  cases I:dm d==n with
  |true=>
   rw[I]at F;exact aa.pos rfl (aa.pos (by rw[M]; (first|rfl|assumption|(simp only[aM,sl]<;>omega))) (aa.p (aa.some ⟨ib s (eJ d),rfl,F.symm⟩)))
  |false=>
   rw[I]at F;exact aa.neg rfl (aa.p (aa.some ⟨s,rfl,F.symm⟩))
 ·rintro s _
  unfold Df
  (dsimp only[go_sem])
  simp only[aZ];exact aa.n (aa.some rfl)
 ·rintro c g ⟨s,B,rfl,rfl⟩
  rw[fu]at B;subst B;exact⟨rfl,rfl⟩
theorem arp(B:∀ d∈l,bG d)(hn:l.length<=400)(M:∀ d∈lg,bG d)(hm:lg.length<=400):It [.l dd,.l (lg.map a_),.l (lg.map eB),.l ot,.l (bU l).1,.i ((bU l).2:Int),.i n] =
  some [.l dd,.l (lg.map a_),.l (lg.map eB),.l ot,.l (bU l).1,.i ((bU l).2:Int),.l (eD (jP (bO l) lg n))]:=by
 obtain⟨I,_,h3⟩:=DN l B;have q:=I8 l B;have hown:=qc B;have W:Nw [.l dd,.l (lg.map a_),.l (lg.map eB),.l ot,.l (bU l).1,.i ((bU l).2:Int),.l [],.i 0,.i n]=some (some 0,[.l dd,.l (lg.map a_),.l (lg.map eB),.l ot,.l (bU l).1,.i ((bU l).2:Int),.l (eD (jP (bO l) lg n))]):=by
  show kX xf Is (bU l).1 (((bU l).2:Int).toNat) _=_
  rw[aZ];refine Ml I.gq fun b p A=>⟨rfl,?_⟩
  have Y:=YT (dd:=dd) (cs:=lg.map a_) (ss:=lg.map eB) (ot:=ot) (held:=(bU l).1) (ck:=(bU l).2) (n:=n) b p ([],0);have N:dc xf.st xf.bJ p (xf.init [.l dd,.l (lg.map a_),.l (lg.map eB),.l ot,.l (bU l).1,.i ((bU l).2:Int),.l [],.i 0,.i n] b) =
    some [.l dd,.l (lg.map a_),.l (lg.map eB),.l ot,.l (bU l).1,.i ((bU l).2:Int),.l (((p.filter fun e=>eE e==n).map qd).foldl ib ([],0)).1,.i ((((p.filter fun e=>eE e==n).map qd).foldl ib ([],0)).2:Int),.i n,.i (b:Int)]:=by
   show dc xe (fun d=>(gi d 9).iV.toNat) p [.l dd,.l (lg.map a_),.l (lg.map eB),.l ot,.l (bU l).1,.i (((((bU l).2:Int).toNat):Nat):Int),.l [],.i ((((0:Int).toNat:Nat)):Int),.i n,.i (b:Int)]=_
   rw[aZ];exact Y
  refine⟨_,N,?_⟩
  ·have J:∀s,s∈((p.filter fun e=>eE e==n).map qd++(lg.filter fun d=>dm d==n).map eJ)↔s∈jP (bO l) lg n:=fun s=>by
    unfold jP;rw[cY,cY];have:s∈(p.filter fun e=>eE e==n).map qd↔s∈((bO l).filter fun r=>dJ r==n).map rr:=by
     constructor
     ·intro h
      obtain⟨e,he,rfl⟩:=cM.1 h;obtain⟨he,F⟩:=jm.1 he;exact cM.2 ⟨e8 e,jm.2 ⟨q.mem_iff.1 (Pq (A.mem_iff.1 he)),F⟩,rfl⟩
     ·intro h
      obtain⟨r,hr,rfl⟩:=cM.1 h;obtain⟨hr,F⟩:=jm.1 hr;obtain⟨e,he,rfl⟩:=cM.1 (q.mem_iff.2 hr);exact cM.2 ⟨e,jm.2 ⟨A.mem_iff.2 he,F⟩,rfl⟩
    rw[this]
   have O:∀s∈((p.filter fun e=>eE e==n).map qd++(lg.filter fun d=>dm d==n).map eJ),s∈gP:=fun s hs=>by
    rcases cY.1 hs with h|h
    ·obtain⟨e,he,rfl⟩:=cM.1 h
     obtain⟨k,v,m,rfl,_,q⟩:=I.form e (A.mem_iff.1 (jm.1 he).1);obtain⟨a,j,rfl,_,ha⟩:=q;exact ha
    ·obtain⟨d,hd,rfl⟩:=cM.1 h
     exact I0 (M d (jm.1 hd).1)
   have U:((p.filter fun e=>eE e==n).map qd++(lg.filter fun d=>dm d==n).map eJ).length<=1000:=by
    have a1:=tq (fun e=>eE e==n) p;have a2:=tq (fun d=>dm d==n) lg;have a3:=A.length_eq;rw[eL,bL,bL];omega
   refine aa.toEq ?_;unfold Is
   (dsimp only[go_sem])
   simp only[aZ];rw[show (lg.map a_).length=lg.length from bL _];refine aa.loop (aro (dd:=dd) (ot:=ot) (held:=(bU l).1) (ck:=(bU l).2) (n:=n) lg ab _) rfl ?_;rintro c g ⟨rfl,rfl⟩
   (dsimp only[go_sem])
   simp only[aZ];rw[<-pj];refine aa.cE (Yn O U) ?_
   (dsimp only[go_sem])
   rw[YR J];exact aa.some rfl
 refine aa.toEq ?_;unfold It
 (dsimp only[go_sem])
 simp only[aZ];rw[W];refine j6 ⟨_,rfl,0,rfl,rfl⟩ rfl fun _=>?_
 (dsimp only[go_sem])
 simp only[aZ];exact aa.some rfl
end
def iO(d:List Int):List Int:=d.mergeSort fun x y=>decide (x<=y)
theorem oR(d:List Int):(iO d).Perm d:=PA _ _
theorem arq(d:List Int):(iO d).Pairwise (·<=·):=by
 have:=aan (le:=fun x y:Int=>decide (x<=y)) (fun a b c g q=>by simp only[dT]at *; omega) (fun a b=>by simp only[lQ,dT]; omega) d;exact this.imp fun h=>by simpa using h
theorem YU{p q:List Int}(d:p.Pairwise (·<·))(g:q.Pairwise (·<·))(h:∀n,n∈p↔n∈q):p=q:=by
 have A:∀{q:List Int},q.Pairwise (·<·)->q.Nodup:=fun h=>by
  rw[vr];exact h.imp fun h=>by omega
 refine CB (lt:=fun a b:Int=>decide (a<b)) ((aaq (A d) (A g)).2 h) (fun a _ b _ B F=>?_) (d.imp fun h=>?_) (g.imp fun h=>?_)
 ·rw[dF]at B F
  omega
 ·rw[dF]
  omega
 ·rw[dF]
  omega
theorem Az{d:List Int}(h:d.Nodup):(iO d).Pairwise (·<·):=by
 have g:=(oR d).nodup_iff.2 h;rw[vr]at g;exact((arq d).and g).imp fun⟨q,A⟩=>by omega
theorem ars{p q:List Int}(h:p.Perm q)(hn:q.Nodup):iO p=iO q:=YU (Az (h.nodup_iff.2 hn)) (Az hn) fun n=>by
 rw[(oR p).mem_iff,(oR q).mem_iff,h.mem_iff]
theorem YV(d:List Int)(hn:d.length<1000000):zO [.l (d.map fun v=>[G.i v])]=some [.l ((iO d).map fun v=>[G.i v])]:=by
 unfold zO F';show (bif fT (d.map fun v=>[G.i v]).length 1000000 then some [G.l (uw (d.map fun v=>[G.i v]))] else none)=_
 rw[show fT (d.map fun v=>[G.i v]).length 1000000=true by rw[jS,bL]; exact hn];have e:(d.map fun v=>[G.i v]).map (fun r=>(gi r 0).iV)=d:=by
  rw[ig];have:((fun r=>(gi r 0).iV) ∘ fun v=>[G.i v])=id:=by funext v; rfl
  rw[this,List.map_id]
 unfold uw;rw[e];rfl
def dp(e:LG):Int:=(gi (gi e 0).rV 0).iV
theorem I'(h:fg [.I] qa m dB):(m.map dp).Nodup:=by
 rw[vr,tk];refine h.keys.imp_of_mem fun {a b} g q d e=>?_;obtain⟨k,v,n,rfl,_,i,rfl⟩:=h.form a g;obtain⟨J,A,B,rfl,_,F,rfl⟩:=h.form b q;have e:i=F:=e;subst e;have:aK [.I] [.i i] [.i i]=true:=by rw[ny]; simp
 rw[show aK [.I] (e8 [G.l [[.i i]],.l [v],.i (n:Int)]) (e8 [G.l [[.i i]],.l [A],.i (B:Int)])=aK [.I] [.i i] [.i i] from rfl,this]at d;cases d
theorem Ja(h:fg [.I] qa m dB)(n:Int):n∈m.map dp↔b_ [.I] m [.i n]=true:=by
 rw[Ob,cM];constructor
 ·rintro⟨e,he,rfl⟩
  obtain⟨k,v,j,rfl,_,i,rfl⟩:=h.form e he;refine⟨_,he,?_⟩;show aK [.I] [.i i] [.i i]=true
  rw[ny];simp
 ·rintro⟨e,he,d⟩
  obtain⟨k,v,j,rfl,_,i,rfl⟩:=h.form e he;have d:aK [.I] [.i n] [.i i]=true:=d;rw[ny,dT]at d;exact⟨_,he,d.symm⟩
theorem art(h:fg [.I] qa m dB)(hn:m.length<=1000):HD [.l m,.i (dB:Int)]=some [.l m,.i (dB:Int),.l ((iO (m.map dp)).map fun v=>[G.i v])]:=by
 unfold HD yW;have aV:nr [.l m,.i (dB:Int)]=true:=by
  show (gq m (dB:Int).toNat&&bW m.length 1048576)=true
  rw[aZ,h.gq,lP];exact PD ab
 rw[aV,cT];refine B5 fun b p d=>?_;have d:p.Perm m:=d;have A:p.map M4=(p.map dp).map fun v=>[G.i v]:=by rw[ig]; rfl
 have B:(p.map dp).Perm (m.map dp):=d.map dp;have g:=YV (p.map dp) (by rw[bL,d.length_eq]; omega);rw[ars B (I' h)]at g;refine aa.toEq ?_;unfold M7 oG;rw[A]
 (dsimp only[go_sem])
 simp only[aZ];refine aa.iy (aa.eq g) ai ?_;rintro _ rfl
 (dsimp only[go_sem])
 refine aa.pos ?_ (aa.some ?_)
 ·have q:=(oR (m.map dp)).length_eq
  have F:=d.length_eq;rw[bL]at q;rw[bL,bL,bL,q,F];simp
 ·show [G.l (jK [.l m,.i (dB:Int)]),.i ((qR [.l m,.i (dB:Int)]:Nat):Int),.l ((iO (m.map dp)).map fun v=>[G.i v])]=_
  simp[jK,qR,gi,G.rZ,G.iV]
def iz(hm:LL)(s:LL × Nat)(n:Int):LL × Nat:=(cH [.I] s.1 [.i n] [.i (eS s.1 n+eS hm n)] s.2,dI [.I] s.1 [.i n] s.2)
theorem YW(hm:LL)(s:LL × Nat)(n k:Int):eS (iz hm s n).1 k=if k=n then eS s.1 n+eS hm n else eS s.1 k:=by
 unfold iz;show (gi (da [.I] (cH [.I] s.1 [.i n] [.i (eS s.1 n+eS hm n)] s.2) [.i k] [.i 0]) 0).iV=_
 rw[pR,ny];by_cases h:k=n
 ·rw[dE h,iP h]
  rfl
 ·rw[decide_eq_false h,iN h]
  rfl
theorem YX(hm:LL)(k:Int):∀(l:List Int) (s:LL × Nat),l.Nodup->eS (l.foldl (iz hm) s).1 k=eS s.1 k+(if k∈l then eS hm k else 0)
 |[],s,_=>by simp
 |n::l,s,hn=>by
  obtain⟨g,q⟩:=mn.1 hn;rw[lO,YX hm k l _ q,YW];by_cases h:k=n
  ·subst h
   rw[iP rfl,iN g,iP dG,auj]
  ·rw[iN h]
   by_cases d:k∈l
   ·rw[iP d,iP (cO _ d)]
   ·rw[iN d,iN (by rw[cy]; exact fun e=>e.elim h d)]
theorem YY(hm:LL):∀(l:List Int) (s:LL × Nat),fg [.I] qa s.1 s.2->fg [.I] qa (l.foldl (iz hm) s).1 (l.foldl (iz hm) s).2
 |[],s,h=>h
 |n::l,s,h=>YY hm l (iz hm s n) (h.put ⟨n,rfl⟩ _)
theorem YZ(hm:LL)(k:Int):∀(l:List Int) (s:LL × Nat),b_ [.I] (l.foldl (iz hm) s).1 [.i k]=(b_ [.I] s.1 [.i k]||l.contains k)
 |[],s=>by simp
 |n::l,s=>by
  rw[lO,YZ hm k l];have:b_ [.I] (iz hm s n).1 [.i k]=(decide (k=n)||b_ [.I] s.1 [.i k]):=by
   unfold iz;rw[uE,ny]
  rw[this,aar];cases b_ [.I] s.1 [.i k]<;>cases h:decide (k=n)<;>simp_all
theorem Y0(hm:LL):∀(l:List Int) (s:LL × Nat),(l.foldl (iz hm) s).1.length<=s.1.length+l.length
 |[],s=>by simp
 |n::l,s=>by
  have d:=Y0 hm l (iz hm s n);have g:(iz hm s n).1.length<=s.1.length+1:=by
   unfold iz;have:=(Aw (K:=[.I]) (k:=[.i n]) (v:=[.i (eS s.1 n+eS hm n)]) (dB:=s.2) (m:=s.1)).1;have:=congrArg nF this;rw[bL]at this;rw[this];cases b_ [.I] s.1 [.i n]<;>simp
  rw[lO,cJ];omega
def gr(H lg:LL)(n:Int):Nat:=(gj (lg.map a_)).count n+(H.map dJ).count n
def sU(H lg:LL)(K:List Int):Prop:=K.Pairwise (·<·)/\∀n,n∈K↔1<gr H lg n
def vj(H lg:LL):List Int:=Classical.epsilon (sU H lg)
theorem sU.eq{K:List Int}(h:sU H lg K):vj H lg=K:=by
 have d:sU H lg (vj H lg):=Classical.epsilon_spec ⟨K,h⟩;exact YU d.1 h.1 fun n=>by rw[d.2,h.2]
def AA(H lg:LL)(n:Int):LG:=[.s (gg n),.s (j0 (eD (jP H lg n)) (⟨#[32]⟩:BY))]
def xA(H lg:LL):LL:=(vj H lg).map (AA H lg)
theorem Ol(hH:∀r∈H,eT r)(g:∀d∈lg,bG d)(h:1<gr H lg n):small n:=by
 unfold gr at h;by_cases q:0<(gj (lg.map a_)).count n
 ·have hm:=rJ.1 q
  unfold gj at hm;obtain⟨c,hc,e⟩:=cM.1 (jm.1 hm).1;obtain⟨d,A,rfl⟩:=cM.1 hc;obtain⟨_,m,B,hs,_⟩:=(g d A).bC;have:(gi (dv d) 1).iV=m:=by rw[B]; rfl
  have F:(gi (a_ d) 4).iV=m:=this;rw[<-e,F];exact hs
 ·have hm:n∈H.map dJ:=rJ.1 ab
  obtain⟨r,hr,rfl⟩:=cM.1 hm;obtain⟨_,m,rfl,hs,_⟩:=hH r hr;exact hs
theorem Om(hH:∀r∈H,eT r)(g:∀d∈lg,bG d):∀s∈jP H lg n,s∈gP:=fun s hs=>by
 rcases cY.1 hs with h|h
 ·obtain⟨e,he,rfl⟩:=cM.1 h
  obtain⟨a,j,rfl,_,q⟩:=hH e (jm.1 he).1;exact q
 ·obtain⟨d,A,rfl⟩:=cM.1 h
  exact I0 (g d (jm.1 A).1)
theorem On(H lg:LL)(n:Int):(jP H lg n).length<=H.length+lg.length:=by
 unfold jP;have g:=tq (fun r=>dJ r==n) H;have q:=tq (fun d=>dm d==n) lg;rw[eL,bL,bL];omega
section
variable {dd ot:LL}
theorem Y1{cs ss held M hm:LL}{ck c1 hc:Nat}(g:∀k,0<=eS hm k/\eS hm k<=1000)(bJ:Nat):∀(q:LL) (s:LL × Nat),(q.map dp).Nodup->(∀k∈q.map dp,0<=eS s.1 k/\eS s.1 k<=1000) ->
  dc xg (fun d=>(gi d 12).iV.toNat) q [.l dd,.l cs,.l ss,.l ot,.l held,.i (ck:Int),.l M,.i (c1:Int),.l hm,.i (hc:Int),.l s.1,.i (s.2:Int),.i (bJ:Int)] =
   some [.l dd,.l cs,.l ss,.l ot,.l held,.i (ck:Int),.l M,.i (c1:Int),.l hm,.i (hc:Int),.l ((q.map dp).foldl (iz hm) s).1,.i (((q.map dp).foldl (iz hm) s).2:Int),.i (bJ:Int)]
 |[],s,_,_=>by simp[dc]
 |e::q,s,hn,hs=>by
  obtain⟨B,F⟩:=mn.1 hn;have W:=hs (dp e) dG;have U:=g (dp e);have J:xg e [.l dd,.l cs,.l ss,.l ot,.l held,.i (ck:Int),.l M,.i (c1:Int),.l hm,.i (hc:Int),.l s.1,.i (s.2:Int),.i (bJ:Int)] =
    some [.l dd,.l cs,.l ss,.l ot,.l held,.i (ck:Int),.l M,.i (c1:Int),.l hm,.i (hc:Int),.l (iz hm s (dp e)).1,.i ((iz hm s (dp e)).2:Int),.i (bJ:Int)]:=by
   unfold xg
   (dsimp only[go_sem])
   simp only[aZ];have:aM (eS s.1 (dp e)+eS hm (dp e))=true:=by(first|rfl|assumption|(simp only[aM,sl]<;>omega))
   rw[show aM ((gi (da [.I] s.1 [.i (gi (gi e 0).rV 0).iV] [.i 0]) 0).iV+(gi (da [.I] hm [.i (gi (gi e 0).rV 0).iV] [.i 0]) 0).iV)=true from this];rfl
  have N:=Y1 (cs:=cs) (ss:=ss) (held:=held) (M:=M) (ck:=ck) (c1:=c1) (hc:=hc) g bJ q (iz hm s (dp e)) F fun k A=>by
   rw[YW,iN (fun O:k=dp e=>B (O▸A))];exact hs k (cO _ A)
  simp only[dc,J,Jp,Ab,Aa,G.iV,aZ];rw[cT];exact N
theorem aru{held M all:LL}{ck c1 ac:Nat}(Y:held=(bU l).1)(hck:ck=(bU l).2)(N:∀ d∈l,bG d)(hn:l.length<=400)(J:∀ d∈lg,bG d)(hm':lg.length<=400) (hcnt:∀ n,eS all n=(gr (bO l) lg n:Nat)) (K:List Int) (hK:K.length<=1000):
  eZ Dh [.l dd,.l (lg.map a_),.l (lg.map eB),.l ot,.l held,.i (ck:Int),.l M,.i (c1:Int),.l hm,.i (hc:Int),.l all,.i (ac:Int),.l [],.l (K.map fun v=>[G.i v]),.i (K.length:Int),.i 0] fun c g=>c=0 /\
   g=[.l dd,.l (lg.map a_),.l (lg.map eB),.l ot,.l held,.i (ck:Int),.l M,.i (c1:Int),.l hm,.i (hc:Int),.l ((K.filter fun n=>decide (1<gr (bO l) lg n)).map (AA (bO l) lg))]:=by
 have U:=qc N;have hbl:=rm N;have q:(K.map fun v=>[G.i v]).length=K.length:=bL _;refine(ga (σ:=LL) (fun s i=>[.l dd,.l (lg.map a_),.l (lg.map eB),.l ot,.l held,.i (ck:Int),.l M,.i (c1:Int),.l hm,.i (hc:Int),.l all,.i (ac:Int),.l s,.l (K.map fun v=>[G.i v]),.i (K.length:Int),.i (i:Int)]) (K.map fun v=>[G.i v])
  (fun s=>(0,[.l dd,.l (lg.map a_),.l (lg.map eB),.l ot,.l held,.i (ck:Int),.l M,.i (c1:Int),.l hm,.i (hc:Int),.l s])) (fun s i=>s=((K.take i).filter fun n=>decide (1<gr (bO l) lg n)).map (AA (bO l) lg)) [] ab rfl ?_ ?_).mono ?_
 ·rintro s i x A hi O hmx ht
  obtain⟨v,hv,rfl⟩:=cM.1 hmx;have ht2:K.take (i+1)=K.take i++[v]:=by
   have W:i<K.length:=ab;rw[Jx W];congr 2;rw[dj,dw,bT W]at O;simpa using O
  have B:((K.take (i+1)).filter fun n=>decide (1<gr (bO l) lg n)).map (AA (bO l) lg)=bif decide (1<gr (bO l) lg v) then s++[AA (bO l) lg v] else s:=by
   rw[ht2,tn,gu,<-A];simp only[xR,Jw];cases decide (1<gr (bO l) lg v)<;>simp
  have hsl:s.length<=1000:=by
   have:=tq (fun n=>decide (1<gr (bO l) lg n)) (K.take i);rw[A,bL];rw[gA]at this;omega
  unfold Dh
  (dsimp only[go_sem])
  simp only[aZ,fC,O]
  (dsimp only[go_sem])
  refine aa.pos (by rw[q]at hi; (first|rfl|assumption|(simp only[aM,sl]<;>omega))) (aa.pos (by rw[q]; rw[q]at hi; (first|rfl|assumption|(simp only[aM,sl]<;>omega))) (aa.pos (by rw[q]; rw[q]at hi; (first|rfl|assumption|(simp only[aM,sl]<;>omega))) ?_));have hq:ba 1 (gi (da [.I] all [.i v] [.i 0]) 0).iV=decide (1<gr (bO l) lg v):=by
   rw[show (gi (da [.I] all [.i v] [.i 0]) 0).iV=eS all v from rfl,hcnt,dX,jB,dT,dT];omega
  rw[hq];cases F:decide (1<gr (bO l) lg v)with
  |true=>
   rw[F]at B;rw[dT]at F;refine aa.pos rfl (aa.call (aa.eq (I_ (Ol U J F))) ?_);rintro _ rfl;subst Y;subst hck;refine aa.cE (arp (n:=v) N hn J hm') ?_
   (dsimp only[go_sem])
   simp only[aZ];refine aa.cE (YS (Om U J) (by have:=On (bO l) lg v; omega)) ?_
   (dsimp only[go_sem])
   exact aa.pos (by simp only[sl]; simp; omega) (aa.pos (by rw[q]at hi; (first|rfl|assumption|(simp only[aM,sl]<;>omega))) (aa.pos ai (aa.some ⟨_,rfl,B.symm⟩)))
  |false=>
   rw[F]at B;exact aa.neg rfl (aa.pos (by rw[q]at hi; (first|rfl|assumption|(simp only[aM,sl]<;>omega))) (aa.pos ai (aa.some ⟨_,rfl,B.symm⟩)))
 ·rintro s _
  unfold Dh
  (dsimp only[go_sem])
  simp only[aZ];refine aa.neg ?_ (aa.pos ai (aa.some rfl));rw[q]
  (first|rfl|assumption|(simp only[aM,sl]<;>omega))
 ·rintro c g ⟨s,A,rfl,rfl⟩
  rw[q,fu]at A;subst A;exact⟨rfl,rfl⟩
theorem arv(B:∀ d∈l,bG d)(hn:l.length<=400)(hlg:∀ d∈lg,bG d)(hm':lg.length<=400):zY [.l dd,.l (lg.map a_),.l (lg.map eB),.l ot,.l (bU l).1,.i ((bU l).2:Int)] =
  some [.l dd,.l (lg.map a_),.l (lg.map eB),.l ot,.l (bU l).1,.i ((bU l).2:Int),.l (xA (bO l) lg)]:=by
 obtain⟨h1,_,h3⟩:=DN l B;have hk:=I8 l B;have hown:=qc B;have hcsl:(lg.map a_).length=lg.length:=bL _;have hss:=Of (lg.map a_);unfold zY;have hsent:sH (NB [.l dd,.l (lg.map a_),.l (lg.map eB),.l ot,.l (bU l).1,.i ((bU l).2:Int)])=some [.l dd,.l (lg.map a_),.l (lg.map eB),.l ot,.l (bU l).1,.i ((bU l).2:Int),.l (dy (lg.map a_)).1,.i ((dy (lg.map a_)).2:Int)]:=YI (cs:=lg.map a_) ab;rw[B1 hsent];refine YH h1.gq fun b p F=>?_;have F:p.Perm (bU l).1:=F;refine⟨_,YK (dd:=dd) (cs:=lg.map a_) (ss:=lg.map eB) (ot:=ot) (held:=(bU l).1) (ck:=(bU l).2) b p (by rw[F.length_eq]; omega),?_⟩;have hpl:=F.length_eq;have J:fg [.I] qa (eW p).1 (eW p).2:=Od _ _ fg.nil;have hsI:fg [.I] qa (dy (lg.map a_)).1 (dy (lg.map a_)).2:=Od _ _ fg.nil;have N:∀n,eS (eW p).1 n=(((bO l).map dJ).count n:Nat):=fun n=>by
  rw[DL];have:(p.map eE).Perm ((bO l).map dJ):=by
   have e:p.map eE=(p.map e8).map dJ:=by rw[ig]; rfl
   rw[e];exact((F.map e8).trans hk).map dJ
  rw[this.count_eq]
 have hhl:(eW p).1.length<=400:=by
  have:=Oe (p.map eE) ([],0);rw[bL]at this;have e:(eW p).1=((p.map eE).foldl bump ([],0)).1:=rfl;rw[e];simp only[fU]at this;omega
 have hbl:=rm B;have R:Nz [.l dd,.l (lg.map a_),.l (lg.map eB),.l ot,.l (bU l).1,.i ((bU l).2:Int),.l (dy (lg.map a_)).1,.i ((dy (lg.map a_)).2:Int),.l (eW p).1,.i ((eW p).2:Int),.l (dy (lg.map a_)).1,.i ((dy (lg.map a_)).2:Int)] =
   some (some 0,[.l dd,.l (lg.map a_),.l (lg.map eB),.l ot,.l (bU l).1,.i ((bU l).2:Int),.l (dy (lg.map a_)).1,.i ((dy (lg.map a_)).2:Int),.l (eW p).1,.i ((eW p).2:Int),.l (xA (bO l) lg)]):=by
  show kX xh Iu (eW p).1 (((eW p).2:Int).toNat) _=_
  rw[aZ];refine Ml J.gq fun W q O=>⟨rfl,?_⟩
  have hpI:=J.perm O;have hnd:=I' hpI;have hf:=Y1 (dd:=dd) (ot:=ot) (cs:=lg.map a_) (ss:=lg.map eB) (held:=(bU l).1) (ck:=(bU l).2) (M:=(dy (lg.map a_)).1) (c1:=(dy (lg.map a_)).2) (hm:=(eW p).1) (hc:=(eW p).2) (fun k=>by
   rw[N];have:=PC (a:=k) (l:=(bO l).map dJ);rw[bL]at this;omega) W q (dy (lg.map a_)) hnd fun k _=>by
    rw[Ax];have:=PC (a:=k) (l:=gj (lg.map a_));omega
  have hf2:dc xh.st xh.bJ q (xh.init [.l dd,.l (lg.map a_),.l (lg.map eB),.l ot,.l (bU l).1,.i ((bU l).2:Int),.l (dy (lg.map a_)).1,.i ((dy (lg.map a_)).2:Int),.l (eW p).1,.i ((eW p).2:Int),.l (dy (lg.map a_)).1,.i ((dy (lg.map a_)).2:Int)] W) =
    some [.l dd,.l (lg.map a_),.l (lg.map eB),.l ot,.l (bU l).1,.i ((bU l).2:Int),.l (dy (lg.map a_)).1,.i ((dy (lg.map a_)).2:Int),.l (eW p).1,.i ((eW p).2:Int),.l ((q.map dp).foldl (iz (eW p).1) (dy (lg.map a_))).1,.i (((q.map dp).foldl (iz (eW p).1) (dy (lg.map a_))).2:Int),.i (W:Int)]:=by
   show dc xg (fun d=>(gi d 12).iV.toNat) q [.l dd,.l (lg.map a_),.l (lg.map eB),.l ot,.l (bU l).1,.i (((((bU l).2:Int).toNat):Nat):Int),.l (dy (lg.map a_)).1,.i (((((dy (lg.map a_)).2:Int).toNat):Nat):Int),.l (eW p).1,.i (((((eW p).2:Int).toNat):Nat):Int),.l (dy (lg.map a_)).1,.i (((((dy (lg.map a_)).2:Int).toNat):Nat):Int),.i (W:Int)]=_
   rw[aZ,aZ,aZ];exact hf
  refine⟨_,hf2,?_⟩;have U:=YY (eW p).1 (q.map dp) _ hsI;have hAl:((q.map dp).foldl (iz (eW p).1) (dy (lg.map a_))).1.length<=1000:=by
   have Y:=Y0 (eW p).1 (q.map dp) (dy (lg.map a_));have q2:=Oe (gj (lg.map a_)) ([],0);have q3:=O.length_eq;have e:(dy (lg.map a_)).1=((gj (lg.map a_)).foldl bump ([],0)).1:=rfl;rw[bL]at Y;rw[e]at Y;simp only[fU]at q2;omega
  have hAc:∀n,eS ((q.map dp).foldl (iz (eW p).1) (dy (lg.map a_))).1 n=(gr (bO l) lg n:Nat):=fun n=>by
   rw[YX _ _ _ _ hnd,Ax];unfold gr;by_cases hin:n∈q.map dp
   ·rw[iP hin,N]
    omega
   ·rw[iN hin]
    have h0:b_ [.I] (eW p).1 [.i n]=false:=by
     cases hh:b_ [.I] (eW p).1 [.i n]with
     |false=>rfl
     |true=>exact(hin ((O.map dp).mem_iff.2 ((Ja J n).2 hh))).elim
    have h5:(p.map eE).contains n=false:=by
     have:=I5 n (p.map eE) ([],0);rw[pP,jR]at this;rw[<-this];exact h0
    have h6:((bO l).map dJ).count n=0:=by
     have h7:=DL p n;rw[N]at h7;have:(p.map eE).count n=0:=vw.2 fun hm=>by
      rw[<-lp,h5]at hm;cases hm
     omega
    omega
  have hAm:∀n,1<gr (bO l) lg n->n∈((q.map dp).foldl (iz (eW p).1) (dy (lg.map a_))).1.map dp:=fun n hc=>by
   rw[Ja U,YZ];by_cases Y:0<(gj (lg.map a_)).count n
   ·have:=I5 n (gj (lg.map a_)) ([],0)
    rw[pP,jR]at this;rw[show b_ [.I] (dy (lg.map a_)).1 [.i n]=(gj (lg.map a_)).contains n from this,lp.2 (rJ.1 Y)];rfl
   ·have q2:0<((bO l).map dJ).count n:=by
     unfold gr at hc;omega
    have q3:n∈q.map dp:=by
     refine(O.map dp).mem_iff.2 ((Ja J n).2 ?_);have:=I5 n (p.map eE) ([],0);rw[pP,jR]at this;rw[show b_ [.I] (eW p).1 [.i n]=(p.map eE).contains n from this,lp];refine rJ.1 ?_;have h7:=DL p n;rw[N]at h7;omega
    rw[lp.2 q3,Bool.or_true]
  generalize ((q.map dp).foldl (iz (eW p).1) (dy (lg.map a_)))=A at U hAl hAc hAm;have hnums:vj (bO l) lg=(iO (A.1.map dp)).filter fun n=>decide (1<gr (bO l) lg n):=sU.eq ⟨(Az (I' U)).filter _,fun n=>by
   rw[jm,dT,(oR _).mem_iff];exact⟨fun h=>h.2,fun h=>⟨hAm n h,h⟩⟩⟩
  refine aa.toEq ?_;unfold Iu
  (dsimp only[go_sem])
  simp only[aZ];refine aa.cE (art U hAl) ?_
  (dsimp only[go_sem])
  simp only[aZ];have hzl:(iO (A.1.map dp)).length=A.1.length:=by rw[(oR _).length_eq,bL]
  rw[show ((iO (A.1.map dp)).map fun v=>[G.i v]).length=(iO (A.1.map dp)).length from bL _];refine aa.loop (aru (dd:=dd) (ot:=ot) (M:=(dy (lg.map a_)).1) (c1:=(dy (lg.map a_)).2) (hm:=(eW p).1) (hc:=(eW p).2) rfl rfl B hn hlg hm' hAc (iO (A.1.map dp)) ab) ai ?_;rintro c g ⟨rfl,rfl⟩
  (dsimp only[go_sem])
  simp only[aZ];rw[<-hnums];exact aa.pos ai (aa.some rfl)
 refine aa.toEq ?_;unfold Iw
 (dsimp only[go_sem])
 simp only[aZ];refine aa.cE (show M3 [.l (dy (lg.map a_)).1,.i ((dy (lg.map a_)).2:Int)]=some [.l (dy (lg.map a_)).1,.i ((((dy (lg.map a_)).2:Int).toNat:Nat):Int),.l (dy (lg.map a_)).1,.i ((((dy (lg.map a_)).2:Int).toNat:Nat):Int)] from rfl) ?_
 (dsimp only[go_sem])
 simp only[aZ];rw[R];refine j6 ⟨_,rfl,0,rfl,rfl⟩ rfl fun _=>?_
 (dsimp only[go_sem])
 simp only[aZ];exact aa.pos ai (aa.some rfl)
end
def Jb(P:LL)(w:Int->List BY):Prop:=∀n,iq [.I] P [.i n]=true/\fO [.I] P [.i n]=(w n).map fun s=>[G.s s]
def vk(w:Int->List BY)(n:Int)(s:BY):Int->List BY:=fun k=>if k=n then w k++[s] else w k
theorem Jb.put{w:Int->List BY}(h:Jb P w)(n:Int)(s:BY)(c:Nat):Jb (mA [.I] (jF [.I] P [.i n]) [.i n] (fO [.I] P [.i n]++[[.s s]]) c) (vk w n s):=fun k=>by
 rw[Yy,Yx,ny];unfold vk;by_cases d:k=n
 ·subst d
  rw[dE rfl,iP rfl,(h k).2,gu];exact⟨rfl,rfl⟩
 ·rw[decide_eq_false d,iN d,cF,cF,Oa _ (by rw[ny]; exact decide_eq_false d),N']
  exact h k
theorem Jc(m:LL)(n k:Int)(b:Bool)(c:Nat):fA (cH [.I] m [.i n] [.t b] c) k=if k=n then b else fA m k:=by
 show (gi (da [.I] (cH [.I] m [.i n] [.t b] c) [.i k] [.t false]) 0).bV=_
 rw[pR,ny];by_cases h:k=n
 ·rw[dE h,iP h]
  rfl
 ·rw[decide_eq_false h,iN h]
  rfl
theorem Y2{b:Bool}{c:Nat}:(cH [.I] m [.i n] [.t b] c).length<=m.length+1:=by
 have:=(Aw (K:=[.I]) (k:=[.i n]) (v:=[.t b]) (dB:=c) (m:=m)).1;have:=congrArg nF this;rw[bL]at this;rw[this];cases b_ [.I] m [.i n]<;>simp
structure qe (H:LL) (L:List Int) (w:Int->List BY) (P hm cm:LL) (cc:Nat):Prop where
 bI:Jb P w
 held:∀n,fA hm n=(H.map dJ).contains n
 form:fg [.I] qa cm cc
 uU:∀n,fA cm n=decide (1<(H.map dJ).count n+L.count n)
 Jd:∀n,(w n).length<=H.length+L.length
 Oo:cm.length<=H.length+L.length
section
variable {P hm cm sm xB hs Y3:LL} {pc hc cc sc:Nat} {s:BY} {n len i:Int}
theorem Y4(d:iq [.I] P [.i n]=true)(g:(fO [.I] P [.i n]).length<=1000) :
  aa (Dl [.l P,.i (pc:Int),.l hm,.i (hc:Int),.l cm,.i (cc:Int),.s s,.i n,.l xB,.l hs,.i len,.i i]) fun o=>∃ x,o.1=some x/\o.2 =
   [.l (mA [.I] (jF [.I] P [.i n]) [.i n] (fO [.I] P [.i n]++[[.s s]]) pc),.i ((dI [.I] (jF [.I] P [.i n]) [.i n] pc:Nat):Int),.l (cH [.I] hm [.i n] [.t true] hc),.i ((dI [.I] hm [.i n] hc:Nat):Int),.l cm,.i (cc:Int),.l xB,.l hs,.i len,.i i]:=by
 unfold Dl
 (dsimp only[go_sem])
 simp only[aZ];exact aa.pos d (aa.pos (by simp only[sl]; simp; omega) (aa.pos ai (aa.some ⟨0,rfl,rfl⟩)))
theorem Oq{F J M N a5 O U d:Int}{W Y g q A B:BY}(hp:iq [.I] P [.i n]=true)(hl:(fO [.I] P [.i n]).length<=1000) :
  aa (Dn [.l P,.i (pc:Int),.l hm,.i (hc:Int),.l cm,.i (cc:Int),.l sm,.i (sc:Int),.s s,.i F,.i J,.i M,.i N,.i a5,.s W,.s Y,.i O,.i U,.s g,.s q,.s A,.s B,.i d,.i n,.l Y3,.i len,.i i]) fun o=>∃ x,o.1=some x/\o.2 =
   [.l (mA [.I] (jF [.I] P [.i n]) [.i n] (fO [.I] P [.i n]++[[.s s]]) pc),.i ((dI [.I] (jF [.I] P [.i n]) [.i n] pc:Nat):Int),.l hm,.i (hc:Int),.l cm,.i (cc:Int),.l (cH [.I] sm [.i n] [.t true] sc),.i ((dI [.I] sm [.i n] sc:Nat):Int),.l Y3,.i len,.i i]:=by
 unfold Dn
 (dsimp only[go_sem])
 simp only[aZ];exact aa.pos hp (aa.pos (by simp only[sl]; simp; omega) (aa.pos ai (aa.some ⟨0,rfl,rfl⟩)))
end
def wH(H:LL)(n:Int):List BY:=(H.filter fun r=>dJ r==n).map rr
theorem qe.hold(h:qe H [] (wH H) P hm cm cc)(r:LG):
  qe (H++[r]) [] (wH (H++[r])) (mA [.I] (jF [.I] P [.i (dJ r)]) [.i (dJ r)] (fO [.I] P [.i (dJ r)]++[[.s (rr r)]]) pc) (cH [.I] hm [.i (dJ r)] [.t true] hc)
   (cH [.I] cm [.i (dJ r)] [.t (fA cm (dJ r)||fA hm (dJ r))] cc) (dI [.I] cm [.i (dJ r)] cc):=by
 have g:wH (H++[r])=vk (wH H) (dJ r) (rr r):=by
  funext k
  unfold wH vk;rw[tn,gu];simp only[xR,Jw];by_cases d:k=dJ r
  ·subst d
   rw[iP rfl];simp
  ·rw[iN d]
   have:(dJ r==k)=false:=by simpa using fun e=>d e.symm
   rw[this];simp
 refine⟨by rw[g]; exact h.bI.put _ _ _,fun k=>?_,h.form.put ⟨_,rfl⟩ _,fun k=>?_,fun k=>?_,?_⟩
 ·rw[Jc,gu,h.held]
  by_cases d:k=dJ r
  ·rw[iP d]
   symm;rw[lp];simp[d]
  ·rw[iN d,jB,lp,lp,cY]
   simp[d]
 ·rw[Jc,gu,Pw]
  simp only[eU,mo,PE,qm];by_cases d:k=dJ r
  ·subst d
   rw[iP rfl,h.uU,h.held,jB,lQ,dT,dT,lp,<-rJ];simp only[PE,qm,aul];omega
  ·rw[iN d,h.uU]
   have:[dJ r].count k=0:=by
    rw[vw];simpa using d
   simp only[this,PE,qm];rfl
 ·rw[g]
  unfold vk;have:=h.Jd k;split
  ·simp at this |-
   omega
  ·simp at this |-
   omega
 ·have:=h.Oo
  have q:=Y2 (m:=cm) (n:=dJ r) (b:=fA cm (dJ r)||fA hm (dJ r)) (c:=cc);simp at this|-;omega
theorem arw(xB hs:LL)(hn:hs.length<=400) :
  eZ Dm [.l [],.i 0,.l [],.i 0,.l [],.i 0,.l xB,.l hs,.i (hs.length:Int),.i 0] fun _ g=>∃(P hm cm:LL) (pc hc cc:Nat),qe hs [] (wH hs) P hm cm cc/\g=[.l P,.i (pc:Int),.l hm,.i (hc:Int),.l cm,.i (cc:Int),.l xB]:=by
 refine(ga (σ:=(LL × Nat) × (LL × Nat) × (LL × Nat)) (fun s i=>[.l s.1.1,.i (s.1.2:Int),.l s.2.1.1,.i (s.2.1.2:Int),.l s.2.2.1,.i (s.2.2.2:Int),.l xB,.l hs,.i (hs.length:Int),.i (i:Int)]) hs
  (fun s=>(0,[.l s.1.1,.i (s.1.2:Int),.l s.2.1.1,.i (s.2.1.2:Int),.l s.2.2.1,.i (s.2.2.2:Int),.l xB])) (fun s i=>qe (hs.take i) [] (wH (hs.take i)) s.1.1 s.2.1.1 s.2.2.1 s.2.2.2) (([],0),([],0),([],0)) ab
  ⟨fun n=>⟨rfl,rfl⟩,fun n=>rfl,fg.nil,fun n=>by simp[fA,y8,gi,G.bV],fun n=>by simp[wH],ai⟩ ?_ ?_).mono ?_
 ·rintro⟨⟨P,pc⟩,⟨hm,hc⟩,⟨cm,cc⟩⟩ i r d hi J N M
  simp only at d;have A:=(d.bI (dJ r)).1;have B:(fO [.I] P [.i (dJ r)]).length<=1000:=by
   rw[(d.bI (dJ r)).2,bL];have:=d.Jd (dJ r);rw[gA,fU]at this;omega
  have q:=fun hc pc=>d.hold (hc:=hc) (pc:=pc) r;rw[<-M]at q;unfold Dm
  (dsimp only[go_sem])
  simp only[aZ,J];refine aa.p (aa.p ?_);show aa (bif fA cm (dJ r) then _ else _) _
  cases F:fA cm (dJ r)with
  |true=>
   rw[F,Pz]at q;refine aa.pos rfl (j6 (Y4 (n:=dJ r) (s:=rr r) A B) rfl fun _=>?_)
   (dsimp only[go_sem])
   simp only[aZ];exact aa.p (aa.some ⟨((_,_),(_,_),(_,_)),rfl,q hc pc⟩)
  |false=>
   rw[F,jR]at q;refine aa.neg rfl (j6 (Y4 (n:=dJ r) (s:=rr r) A B) rfl fun _=>?_)
   (dsimp only[go_sem])
   simp only[aZ];exact aa.p (aa.some ⟨((_,_),(_,_),(_,_)),rfl,q hc pc⟩)
 ·rintro s _
  unfold Dm
  (dsimp only[go_sem])
  simp only[aZ];exact aa.n (aa.some rfl)
 ·rintro c g ⟨⟨⟨P,pc⟩,⟨hm,hc⟩,⟨cm,cc⟩⟩,d,_,rfl⟩
  rw[fu]at d;exact⟨P,hm,cm,pc,hc,cc,d,rfl⟩
def j7(lg:LL):List Int:=(lg.map dm).filter fun n => !(n==0)
def wL(H lg:LL)(n:Int):List BY:=if n=0 then wH H n else jP H lg n
theorem qe.log{sm:LL}(h:qe H (j7 lg) (wL H lg) P hm cm cc)(hs:∀ n,fA sm n=(j7 lg).contains n)(d:LG)(q:dm d≠0)(sc:Nat):
  qe H (j7 (lg++[d])) (wL H (lg++[d])) (mA [.I] (jF [.I] P [.i (dm d)]) [.i (dm d)] (fO [.I] P [.i (dm d)]++[[.s (eJ d)]]) pc) hm
   (cH [.I] cm [.i (dm d)] [.t (fA cm (dm d)||(fA hm (dm d)||fA sm (dm d)))] cc) (dI [.I] cm [.i (dm d)] cc)/\∀n,fA (cH [.I] sm [.i (dm d)] [.t true] sc) n=(j7 (lg++[d])).contains n:=by
 have B:j7 (lg++[d])=j7 lg++[dm d]:=by
  unfold j7;rw[gu,tn];simp[q]
 have A:wL H (lg++[d])=vk (wL H lg) (dm d) (eJ d):=by
  funext k
  unfold wL vk jP;rw[tn,gu];simp only[xR,Jw];by_cases g:k=dm d
  ·subst g
   rw[iN q,iP rfl,iN q];simp
  ·rw[iN g]
   have:(dm d==k)=false:=by simpa using fun e=>g e.symm
   rw[this];simp
 rw[B];refine⟨⟨by rw[A]; exact h.bI.put _ _ _,h.held,h.form.put ⟨_,rfl⟩ _,fun k=>?_,fun k=>?_,?_⟩,fun k=>?_⟩
 ·rw[Jc,Pw]
  by_cases g:k=dm d
  ·subst g
   rw[iP rfl,h.uU,h.held,hs,jB,lQ,lQ,dT,dT,lp,lp,<-rJ,<-rJ];simp only[aul,PE];omega
  ·rw[iN g,h.uU]
   have:[dm d].count k=0:=by
    rw[vw];simpa using g
   rw[this,qm]
 ·rw[A]
  unfold vk;have:=h.Jd k;split
  ·simp at this |-
   omega
  ·simp at this |-
   omega
 ·have:=h.Oo
  have F:=Y2 (m:=cm) (n:=dm d) (b:=fA cm (dm d)||(fA hm (dm d)||fA sm (dm d))) (c:=cc);simp at this|-;omega
 ·rw[Jc,hs]
  by_cases g:k=dm d
  ·rw[iP g]
   symm;rw[lp];simp[g]
  ·rw[iN g,jB,lp,lp,cY]
   simp[g]
theorem arx(lg:LL)(Y:∀ d∈lg,bG d)(hn:lg.length<=400)(hH:H.length<=400)(h0:qe H [] (wH H) P hm cm cc):
  eZ Dp [.l P,.i (pc:Int),.l hm,.i (hc:Int),.l cm,.i (cc:Int),.l [],.i 0,.l lg,.i (lg.length:Int),.i 0] fun _ g=>∃(P cm:LL) (pc cc:Nat),qe H (j7 lg) (wL H lg) P hm cm cc/\g=[.l P,.i (pc:Int),.l cm,.i (cc:Int)]:=by
 refine(ga (σ:=(LL × Nat) × (LL × Nat) × (LL × Nat)) (fun s i=>[.l s.1.1,.i (s.1.2:Int),.l hm,.i (hc:Int),.l s.2.1.1,.i (s.2.1.2:Int),.l s.2.2.1,.i (s.2.2.2:Int),.l lg,.i (lg.length:Int),.i (i:Int)]) lg
  (fun s=>(0,[.l s.1.1,.i (s.1.2:Int),.l s.2.1.1,.i (s.2.1.2:Int)])) (fun s i=>qe H (j7 (lg.take i)) (wL H (lg.take i)) s.1.1 hm s.2.1.1 s.2.1.2/\∀n,fA s.2.2.1 n=(j7 (lg.take i)).contains n) ((P,pc),(cm,cc),([],0)) ab ⟨?_,fun n=>rfl⟩ ?_ ?_).mono ?_
 ·have e:wL H (lg.take 0)=wH H:=by
   funext n
   unfold wL jP wH;split<;>simp
  rw[e];exact h0
 ·rintro⟨⟨P,pc⟩,⟨cm,cc⟩,⟨sm,sc⟩⟩ i d ⟨q,J⟩ hi hz hmd M
  simp only at q J;have hd:=Y d hmd;have hnl:(j7 (lg.take i)).length<=400:=by
   unfold j7;have:=tq (fun n:Int => !(n==0)) ((lg.take i).map dm);rw[bL,gA]at this;omega
  have N:=(q.bI (dm d)).1;have O:(fO [.I] P [.i (dm d)]).length<=1000:=by
   rw[(q.bI (dm d)).2,bL];have:=q.Jd (dm d);omega
  unfold Dp
  (dsimp only[go_sem])
  simp only[aZ,hz];refine aa.p (aa.p ?_);show aa (bif dm d==0 then _ else _) _
  cases B:dm d==0 with
  |true=>
   have B:dm d=0:=by simpa using B
   have en:j7 (lg.take (i+1))=j7 (lg.take i):=by
    rw[M];unfold j7;rw[gu,tn];simp[B]
   have ew:wL H (lg.take (i+1))=wL H (lg.take i):=by
    rw[M]
    funext k
    unfold wL jP;by_cases F:k=0
    ·rw[iP F,iP F]
    ·rw[iN F,iN F,tn,gu]
     have:(dm d==k)=false:=by
      rw[B];simpa using fun e=>F e.symm
     simp[this]
   refine aa.pos rfl (aa.p (aa.some ⟨((P,pc),(cm,cc),(sm,sc)),rfl,?_⟩));simp only;rw[en,ew];exact⟨q,J⟩
  |false=>
   have B:dm d≠0:=by simpa using B
   have A:=fun sc pc=>q.log (pc:=pc) J d B sc;rw[<-M]at A;refine aa.neg rfl ?_;show aa (bif fA cm (dm d) then _ else _) _
   cases W:fA cm (dm d)with
   |true=>
    rw[W,Pz]at A;refine aa.pos rfl (j6 (Oq (n:=dm d) (s:=eJ d) N O) rfl fun _=>?_)
    (dsimp only[go_sem])
    simp only[aZ];exact aa.p (aa.some ⟨((_,_),(_,_),(_,_)),rfl,A sc pc⟩)
   |false=>
    rw[W,jR]at A;refine aa.neg rfl ?_;show aa (bif fA hm (dm d) then _ else _) _
    cases U:fA hm (dm d)with
    |true=>
     rw[U,Pz]at A;refine aa.pos rfl (j6 (Oq (n:=dm d) (s:=eJ d) N O) rfl fun _=>?_)
     (dsimp only[go_sem])
     simp only[aZ];exact aa.p (aa.some ⟨((_,_),(_,_),(_,_)),rfl,A sc pc⟩)
    |false=>
     rw[U,jR]at A;refine aa.neg rfl (j6 (Oq (n:=dm d) (s:=eJ d) N O) rfl fun _=>?_)
     (dsimp only[go_sem])
     simp only[aZ];exact aa.p (aa.some ⟨((_,_),(_,_),(_,_)),rfl,A sc pc⟩)
 ·rintro s _
  unfold Dp
  (dsimp only[go_sem])
  simp only[aZ];exact aa.n (aa.some rfl)
 ·rintro c g ⟨⟨⟨P,pc⟩,⟨cm,cc⟩,⟨sm,sc⟩⟩,⟨q,_⟩,_,rfl⟩
  rw[fu]at q;exact⟨P,cm,pc,cc,q,rfl⟩
theorem Y5{K:List Kd}{x z:LG}:∀{m:LL},b_ K m x=false->da K m x z=z
 |[],_=>rfl
 |r::rs,h=>by
  rw[pQ,aui]at h;rw[y9,h.1];exact Y5 h.2
def je(e:LG):Bool:=(gi (gi e 1).rV 0).bV
theorem Y6(h:fg [.I] qa m dB){e:LG}(he:e∈m):fA m (dp e)=je e:=by
 have:=h.get e he [.t false] fun k d=>by
  obtain⟨n,rfl⟩:=d;rw[ny];simp
 obtain⟨k,v,n,rfl,_,i,rfl⟩:=h.form e he;show (gi (da [.I] m [.i i] [.t false]) 0).bV=_
 rw[show da [.I] m [.i i] [.t false]=_ from this];rfl
theorem ary(l:List BY)(hn:l.length<=1000):sK [.l (l.map fun s=>[G.s s])]=some [.l (gy (l.map fun s=>[G.s s]))]:=by
 unfold sK Cv
 (dsimp only[go_sem])
 rw[show fT (l.map fun s=>[G.s s]).length 1000000=true by simp; omega];rfl
theorem arz(l:List BY)(hn:l.length<=1000):aa (sM [.l (gy (l.map fun s=>[G.s s]))]) fun g=>∃J,g=[.l (eD l++J),.i ((eD l).length:Int)]:=by
 have d:(gy (l.map fun s=>[G.s s])).length=l.length:=by rw[Cw,bL]
 rw[Ys];have h:aa (zd [.str] [.s (⟨#[]⟩:BY)] [.l (gy (l.map fun s=>[G.s s]))]) _:=Ts (K:=[.str]) (Z:=[.s (⟨#[]⟩:BY)]) Yp (gy (l.map fun s=>[G.s s])) (fun r hr=>by
  obtain⟨s,_,e⟩:=IZ.1 hr;exact⟨s,e⟩) ab
 rw[Yq]at h;exact h.mono fun g ⟨J,e,_⟩=>⟨J,e⟩
def xC(w:Int->List BY)(n:Int):LG:=[.s (gg n),.s (j0 (eD (w n)) (⟨#[32]⟩:BY))]
theorem arA{B:LL}{w:Int->List BY}(K:List Int)(hK:K.length<=1000)(hnd:K.Nodup)(hsm:∀ n∈K,small n)(hP:∀ n∈K,iq [.I] B [.i n]=true/\fO [.I] B [.i n]=(w n).map fun s=>[G.s s])
  (hw:∀n∈K,(w n).length<=1000/\∀s∈w n,s∈gP) :
  eZ Dq [.l B,.i (pc:Int),.l [],.l (K.map fun v=>[G.i v]),.i (K.length:Int),.i 0] fun c g=>c=0/\g=[.l (K.map (xC w))]:=by
 have d:(K.map fun v=>[G.i v]).length=K.length:=bL _;refine(ga (σ:=LL × LL) (fun s i=>[.l s.1,.i (pc:Int),.l s.2,.l (K.map fun v=>[G.i v]),.i (K.length:Int),.i (i:Int)]) (K.map fun v=>[G.i v])
  (fun s=>(0,[.l s.2])) (fun s i=>s.2=(K.take i).map (xC w)/\∀n∈K.drop i,iq [.I] s.1 [.i n]=true/\fO [.I] s.1 [.i n]=(w n).map fun s=>[G.s s]) (B,[]) ab ⟨rfl,by simpa using hP⟩ ?_ ?_).mono ?_
 ·rintro⟨P,s⟩ i x ⟨q,F⟩ hi O hmx ht
  simp only at q F;have A:i<K.length:=ab;obtain⟨v,U,ev⟩:∃v,K[i]?=some v/\x=[.i v]:=by
   refine⟨K[i],bT A,?_⟩;rw[dj,dw,bT A]at O;simpa using O.symm
  subst ev;have Y:K[i]=v:=by
   rw[bT A]at U;exact th U
  have M:K.drop i=v::K.drop (i+1):=by rw[Jo A,Y]
  have W:v∈K:=List.mem_of_getElem? U;have ht2:K.take (i+1)=K.take i++[v]:=by rw[Jx A,Y]
  have en:(K.take (i+1)).map (xC w)=s++[xC w v]:=by rw[ht2,gu,q]; rfl
  have hsl:s.length<=1000:=by rw[q,bL,gA]; omega
  obtain⟨hp1,hp2⟩:=F v (by rw[M]; exact dG);obtain⟨N,hw2⟩:=hw v W;have hnew:∀n∈K.drop (i+1),iq [.I] (jF [.I] P [.i v]) [.i n]=true/\fO [.I] (jF [.I] P [.i v]) [.i n]=(w n).map fun s=>[G.s s]:=fun n hn=>by
   have hne:n≠v:=fun e=>by
    have:=(mn.1 (M▸(hnd.sublist (List.drop_sublist i K)))).1;exact this (e▸hn)
   rw[Oa _ (by rw[ny]; exact decide_eq_false hne),N'];exact F n (by rw[M]; exact cO _ hn)
  have hsl2:(gy ((w v).map fun s=>[G.s s])).length=(w v).length:=by rw[Cw,bL]
  unfold Dq
  (dsimp only[go_sem])
  simp only[aZ,fC,O]
  (dsimp only[go_sem])
  rw[hp1,hp2];refine aa.pos (by rw[d]at hi; (first|rfl|assumption|(simp only[aM,sl]<;>omega))) (aa.pos (by rw[d]; rw[d]at hi; (first|rfl|assumption|(simp only[aM,sl]<;>omega))) (aa.pos (by rw[d]; rw[d]at hi; (first|rfl|assumption|(simp only[aM,sl]<;>omega))) (aa.pos rfl ?_)));refine aa.iy (aa.eq (ary (w v) N)) ai ?_;rintro _ rfl
  (dsimp only[go_sem])
  refine aa.cE (I_ (hsm v W)) ?_
  (dsimp only[go_sem])
  refine aa.iy (arz (w v) N) (by simp[hsl2]) ?_;rintro _ ⟨J,rfl⟩
  (dsimp only[go_sem])
  simp only[aZ,aug];refine aa.iy (aa.eq (YS hw2 N)) ai ?_;rintro _ rfl
  (dsimp only[go_sem])
  exact aa.pos (by simp only[sl]; simp; omega) (aa.pos (by rw[d]at hi; (first|rfl|assumption|(simp only[aM,sl]<;>omega))) (aa.pos ai (aa.some ⟨(jF [.I] P [.i v],s++[xC w v]),rfl,en.symm,hnew⟩)))
 ·rintro s _
  unfold Dq
  (dsimp only[go_sem])
  refine aa.neg ?_ (aa.pos ai (aa.some rfl));rw[d]
  (first|rfl|assumption|(simp only[aM,sl]<;>omega))
 ·rintro c g ⟨⟨P,s⟩,⟨q,_⟩,rfl,rfl⟩
  simp only at q;rw[d,fu]at q;subst q;exact⟨rfl,rfl⟩
theorem Y7{P:LL}{pc:Nat}(bJ:Nat):∀(q out:LL),out.length+q.length<=2000 ->
  dc Ds (fun d=>(gi d 3).iV.toNat) q [.l P,.i (pc:Int),.l out,.i (bJ:Int)]=some [.l P,.i (pc:Int),.l (out++(q.filter je).map fun e=>[G.i (dp e)]),.i (bJ:Int)]
 |[],out,_=>by simp[dc]
 |e::q,out,g=>by
  simp only[cJ]at g;have A:Ds e [.l P,.i (pc:Int),.l out,.i (bJ:Int)]=some [.l P,.i (pc:Int),.l (bif je e then out++[[.i (dp e)]] else out),.i (bJ:Int)]:=by
   refine aa.toEq ?_;unfold Ds
   (dsimp only[go_sem])
   simp only[aZ];show aa (bif je e then _ else _) _
   cases je e with
   |true=>exact aa.pos rfl (aa.pos (by simp only[sl]; simp; omega) (aa.pos ai (aa.some rfl)))
   |false=>exact aa.neg rfl (aa.pos ai (aa.some rfl))
  have B:=Y7 (P:=P) (pc:=pc) bJ q (bif je e then out++[[.i (dp e)]] else out) (by cases je e<;>simp<;>omega);simp only[dc,A,Jp,Ab,Aa,G.iV,aZ];rw[cT];refine Eq.trans B ?_;rw[xR];cases je e<;>simp
theorem arB(h:jN rZ):∀z∈rZ,kJ z=0:=fun z d=>by
 obtain⟨i,hi,rfl⟩:=auh.1 d;have:=h.1.1 i hi
 rwa [dj,bT hi]at this
theorem Y8{a b:Int}:cC n a b=true↔a<=n/\n<=b:=by
 unfold cC;rw[eh,eh,aR,dT,dT]
theorem arC(h:kJ d=0)(O:(gi d 3).iV=1):0<=dm d:=by
 unfold kJ at h;cases A:nu (gi d 0).sV with
 |false=>rw[A]at h; cases h
 |true=>
 cases F:cC (gi d 1).iV 1 1000000 with
 |false=>rw[A,F]at h; cases h
 |true=>
 cases J:cC (gi d 2).iV 0 345686399999 with
 |false=>rw[A,F,J]at h; cases h
 |true=>
 rw[A,F,J,O]at h;simp only[Pe,cF,show cC 1 1 5=true from rfl,show ((1:Int)==1)=true from rfl,cT]at h;cases g:fQ (ma d) != 0 with
 |true=>
  rw[g,cT]at h;rw[h]at g;simp at g
 |false=>
  have g:fQ (ma d)=0:=by simpa using g
  unfold fQ at g;cases q:cC (gi (ma d) 0).iV 0 345686399999 with
  |false=>rw[q]at g; cases g
  |true=>
  cases B:cC (gi (ma d) 1).iV 1 3 with
  |false=>rw[q,B]at g; cases g
  |true=>
  cases I:kI (gi (ma d) 2).sV with
  |false=>rw[q,B,I]at g; cases g
  |true=>
  cases M:rj (gi (ma d) 3).sV with
  |false=>rw[q,B,I,M]at g; cases g
  |true=>
  cases N:cC (gi (ma d) 4).iV 0 99999 with
  |false=>rw[q,B,I,M,N]at g; cases g
  |true=>exact(Y8.1 N).1
theorem arD(h:kJ d=0)(F:(gi d 3).iV=3):1<=dm d:=by
 unfold kJ at h;cases g:nu (gi d 0).sV with
 |false=>rw[g]at h; cases h
 |true=>
 cases q:cC (gi d 1).iV 1 1000000 with
 |false=>rw[g,q]at h; cases h
 |true=>
 cases A:cC (gi d 2).iV 0 345686399999 with
 |false=>rw[g,q,A]at h; cases h
 |true=>
 rw[g,q,A,F]at h;cases B:cC (gi d 8).iV 1 99999 with
 |false=>rw[B]at h; cases h
 |true=>exact(Y8.1 B).1
theorem Y9{k:LG}(g:eT k):∀{q:LL},(∀ d∈q,bG d)->oQ k q=true->∃ d∈q,(gi d 3).iV=3/\k=dv d
 |d::q,A,h=>by
  simp only[oQ,lQ,aR]at h;rcases h with⟨h,_⟩|h
  ·unfold sS vg at h
   rw[aR,beq_iff_eq,vf g (A d dG).bC]at h;exact⟨d,dG,h.1,h.2⟩
  ·obtain⟨e,he,h⟩:=Y9 g (fun x B=>A x (cO _ B)) h
   exact⟨e,cO _ he,h⟩
section
variable (rZ:LL) (t:Int) (hr:∀z∈rZ,bG z) (hn:rZ.length<=20) (aV:jN rZ)
include hr hn aV
theorem arE:Dt [.l rZ,.i t]=some [.l (xA (bO (ch rZ t)) (dV rZ t))]:=by
 have F:∀z∈ch rZ t,bG z:=fun z hz=>hr z (oP hz);have O:∀d∈dV rZ t,bG d:=fun d q=>hr d (vc q).1;have hfn:=sR rZ t;have hll:=xy rZ t;have N:=qc F;have hbl:=rm F;have hF:=arB aV;have hpos:∀d∈dV rZ t,0<=dm d:=fun d q=>arC (hF d (vc q).1) (vc q).2;have hone:∀r∈bO (ch rZ t),1<=dJ r:=fun r B=>by
  have hR:=N r B;rcases(I7 hR (ch rZ t) [] F ai).1 B with h|h
  ·cases h
  ·obtain⟨d,q,h3,e⟩:=Y9 hR F h
   have:=arD (hF d (oP q)) h3;rw[e];exact this
 have hhb:=Oh rZ t hr hn aV;have U:xb [.l rZ,.i t]=some [.l (dV rZ t),.l (IY rZ t)]:=N7 rZ t hr hn aV;have J:(eK (bO (ch rZ t))).Perm (bO (ch rZ t)):=oy _;refine aa.toEq ?_;unfold Dt
 (dsimp only[go_sem])
 refine aa.cE U ?_;refine aa.cE hhb ?_
 (dsimp only[go_sem])
 have hll2:(dV rZ t).length<=20:=ab;have hbl2:(bO (ch rZ t)).length<=20:=ab;clear hhb U F hfn;generalize dV rZ t=lg at *;generalize bO (ch rZ t)=H at *;have hsl:(eK H).length=H.length:=J.length_eq;refine aa.loop (arw lg (eK H) ab) rfl ?_;rintro _ _ ⟨P,hm,cm,pc,hc,cc,h0,rfl⟩
 (dsimp only[go_sem])
 simp only[aZ];refine aa.loop (arx lg O ab ab h0) rfl ?_;rintro _ _ ⟨P,cm,pc,cc,A,rfl⟩
 (dsimp only[go_sem])
 simp only[aZ];have hnz:j7 lg=gj (lg.map a_):=by
  unfold j7 gj;have e:(lg.map a_).map (fun c=>(gi c 4).iV)=lg.map dm:=by rw[ig]; rfl
  rw[e];refine List.filter_congr fun n hn=>?_;obtain⟨d,q,rfl⟩:=cM.1 hn;have:=hpos d q;rw[jB,dT];simp;omega
 have hcN:∀n,fA cm n=decide (1<gr H lg n):=fun n=>by
  rw[A.uU,hnz,(J.map dJ).count_eq];unfold gr;rw[Nat.add_comm]
 have hc0:¬ 1<gr H lg 0:=fun h=>by
  unfold gr at h;have q1:(gj (lg.map a_)).count 0=0:=vw.2 fun hm=>by
   have:=(jm.1 hm).2;simp at this
  have q2:(H.map dJ).count 0=0:=vw.2 fun hm=>by
   obtain⟨r,B,e⟩:=cM.1 hm;have:=hone r B;omega
  omega
 have hcl:=A.Oo;have hnl:(j7 lg).length<=20:=by
  unfold j7;have:=tq (fun n:Int => !(n==0)) (lg.map dm);rw[bL]at this;omega
 have R:NH [.l P,.i (pc:Int),.l cm,.i (cc:Int),.l []]=some (some 0,[.l (xA H lg)]):=by
  show kX xj ID cm ((cc:Int).toNat) _=_
  rw[aZ];refine Ml A.form.gq fun b p M=>⟨rfl,?_⟩
  have hpl:=M.length_eq;have hf:=Y7 (P:=P) (pc:=pc) b p [] du;have hf2:dc xj.st xj.bJ p (xj.init [.l P,.i (pc:Int),.l cm,.i (cc:Int),.l []] b)=some [.l P,.i (pc:Int),.l (((p.filter je).map dp).map fun v=>[G.i v]),.i (b:Int)]:=by
   show dc Ds (fun d=>(gi d 3).iV.toNat) p [.l P,.i ((((pc:Int).toNat):Nat):Int),.l [],.i (b:Int)]=_
   rw[aZ,hf,rF,ig];rfl
  refine⟨_,hf2,?_⟩;have hpI:=A.form.perm M;have W:((p.filter je).map dp).Nodup:=(I' hpI).sublist (List.filter_sublist.map dp);have hvl:((p.filter je).map dp).length<=100:=by
   have:=tq je p;rw[bL];omega
  have hK:sU H lg (iO ((p.filter je).map dp)):=⟨Az W,fun n=>by
   rw[(oR _).mem_iff,<-dT (p:=1<gr H lg n),<-hcN];constructor
   ·intro h
    obtain⟨e,he,rfl⟩:=cM.1 h;obtain⟨he,hv⟩:=jm.1 he;rw[Y6 A.form (M.mem_iff.1 he)];exact hv
   ·intro h
    have hh:b_ [.I] cm [.i n]=true:=by
     cases hq:b_ [.I] cm [.i n]with
     |true=>rfl
     |false=>
      have h:(gi (da [.I] cm [.i n] [.t false]) 0).bV=true:=h;rw[Y5 hq]at h;cases h
    obtain⟨e,he,rfl⟩:=cM.1 ((Ja A.form n).2 hh);rw[Y6 A.form he]at h;exact cM.2 ⟨e,jm.2 ⟨M.mem_iff.2 he,h⟩,rfl⟩⟩
  have hnums:=hK.eq;have hzl:(iO ((p.filter je).map dp)).length=((p.filter je).map dp).length:=(oR _).length_eq;have hin:∀n∈iO ((p.filter je).map dp),1<gr H lg n:=fun n h=>(hK.2 n).1 h;have Y:∀n∈iO ((p.filter je).map dp),wL (eK H) lg n=jP (eK H) lg n:=fun n h=>by
   unfold wL;rw[iN];intro e;exact hc0 (e▸hin n h)
  have hoS:∀r∈eK H,eT r:=fun r B=>N r (J.mem_iff.1 B);have hsrt:=YV ((p.filter je).map dp) ab;refine aa.toEq ?_;unfold ID
  (dsimp only[go_sem])
  simp only[aZ];refine aa.iy (aa.eq hsrt) ai ?_;rintro _ rfl
  (dsimp only[go_sem])
  rw[show (((p.filter je).map dp).map fun v=>[G.i v]).length=(iO ((p.filter je).map dp)).length by rw[bL,hzl]];refine aa.loop (arA (pc:=pc) (w:=wL (eK H) lg) (iO ((p.filter je).map dp)) ab ((oR _).nodup_iff.2 W) (fun n h=>Ol N O (hin n h)) (fun n h=>A.bI n) (fun n h=>by
   rw[Y n h];refine⟨?_,Om hoS O⟩;have:=On (eK H) lg n;omega)) ai ?_
  rintro c g ⟨rfl,rfl⟩
  (dsimp only[go_sem])
  have efin:(iO ((p.filter je).map dp)).map (xC (wL (eK H) lg))=xA H lg:=by
   unfold xA;rw[hnums];refine pd fun n h=>?_;unfold xC AA;rw[Y n h];have:eD (jP (eK H) lg n)=eD (jP H lg n):=YR fun s=>by
    unfold jP;rw[cY,cY];have:((eK H).filter fun r=>dJ r==n).map rr |>.Perm ((H.filter fun r=>dJ r==n).map rr):=(J.filter _).map rr
    rw[this.mem_iff]
   rw[this]
  rw[efin];exact aa.pos ai (aa.some rfl)
 rw[R];refine j6 ⟨_,rfl,0,rfl,rfl⟩ rfl fun _=>?_
 (dsimp only[go_sem])
 exact aa.pos ai (aa.some rfl)
end
def sW:List Int->List Int
 |[]=>[]
 |x::l=>if x∈l then sW l else x::sW l
theorem DP(n:Int):∀ l:List Int,n∈sW l↔n∈l
 |[]=>Iff.rfl
 |x::l=>by
  unfold sW;by_cases h:x∈l
  ·rw[iP h,DP n l,cy]
   exact⟨.inr,fun e=>e.elim (fun e=>e▸h) id⟩
  ·rw[iN h,cy,cy,DP n l]
theorem DQ:∀ l:List Int,(sW l).Nodup
 |[]=>List.nodup_nil
 |x::l=>by
  unfold sW;by_cases h:x∈l
  ·rw[iP h]
   exact DQ l
  ·rw[iN h]
   exact mn.2 ⟨fun hm=>h ((DP x l).1 hm),DQ l⟩
theorem arF(H lg:LL):(vj H lg).length<=H.length+lg.length:=by
 have d:∀n,1<gr H lg n->n∈gj (lg.map a_)++H.map dJ:=fun n this=>by
  unfold gr at this;rw[cY];by_cases A:0<(gj (lg.map a_)).count n
  ·exact .inl (rJ.1 A)
  ·exact .inr (rJ.1 ab)
 have g:sU H lg (iO ((sW (gj (lg.map a_)++H.map dJ)).filter fun n=>decide (1<gr H lg n))):=⟨Az ((DQ _).filter _),fun n=>by
  rw[(oR _).mem_iff,jm,dT,DP];exact⟨fun h=>h.2,fun h=>⟨d n h,h⟩⟩⟩
 rw[g.eq];have q:(iO ((sW (gj (lg.map a_)++H.map dJ)).filter fun n=>decide (1<gr H lg n))).Nodup:=(oR _).nodup_iff.2 ((DQ _).filter _);have:=q.length_le_of_subset (l₂:=gj (lg.map a_)++H.map dJ) fun n hn=>d n ((g.2 n).1 hn);have B:=Of (lg.map a_);rw[eL,bL]at this;rw[bL]at B;omega
def aT(l:List UInt8):BY:=⟨l.toArray⟩
theorem ic(l:List UInt8):(aT l).data.toList=l:=by simp[aT]
theorem qf(l:List UInt8):(aT l).toList=l:=by rw[kg,ic]
theorem fq(l:List UInt8):(aT l).size=l.length:=by rw[lS,ic]
theorem xD(b:BY):aT b.data.toList=b:=TG b
theorem AB{a b:BY}(h:a.data.toList=b.data.toList):a=b:=by rw[<-xD a,h,xD]
theorem xE(a b:List UInt8):aT a++aT b=aT (a++b):=AB (by simp[aT])
theorem xF(n:Int):gg n=aT (eF n):=rfl
theorem Y_(d:List BY):(l6 (d.map fun w=>[G.s w])).map (·.data.toList)=d.map (·.data.toList):=by
 unfold l6;rw[ig,ig];rfl
theorem DR(d:List BY)(hn:d.length<=1000) (g:(dC (d.map (·.data.toList))).length<=1000000):mN [.l (d.map fun w=>[.s w])]=some [.s (aT (dC (d.map (·.data.toList))))]:=by
 have e:j0 (d.map fun w=>[G.s w]) (⟨#[32]⟩:BY)=aT (dZ (d.map (·.data.toList)) [32]):=by
  unfold j0;rw[Y_];rfl
 have A:(dZ (d.map (·.data.toList)) [32]).length+1<=1000000:=by
  simpa[dC]using g
 have q:oI [.l (d.map fun w=>[.s w]),.s (⟨#[32]⟩:BY)]=some [.s (aT (dZ (d.map (·.data.toList)) [32]))]:=by
  refine aa.toEq ?_;unfold oI y5
  (dsimp only[go_sem])
  rw[e,fq];refine aa.pos ?_ (aa.some rfl);rw[bL,aR,fh,fh];omega
 refine aa.toEq ?_;unfold mN
 (dsimp only[go_sem])
 refine aa.cE q ?_
 (dsimp only[go_sem])
 refine aa.pos (by rw[fq,fh]; omega) (aa.some ?_);rw[show (⟨#[10]⟩:BY)=aT [10] from rfl,xE];rfl
theorem arG(c:UInt8)(x:List UInt8)(d:List (List UInt8))(h:∀ y∈x::d,c∉y) (g:(dZ (x::d) [c]).length<=1000000) :
  wX [.s (aT (dZ (x::d) [c])),.s (⟨#[c]⟩:BY)]=some [.l ((x::d).map fun y=>[G.s (aT y)])]:=by
 refine aa.toEq ?_;unfold wX
 (dsimp only[go_sem])
 have hs:Hd [.s (aT (dZ (x::d) [c])),.s (⟨#[c]⟩:BY),.i 0,.i (-1)]=some [.l ((x::d).map fun y=>[G.s (aT y)])]:=by
  refine aa.toEq ?_;unfold Hd Gv
  (dsimp only[go_sem])
  refine aa.pos ?_ (aa.some ?_)
  ·rw[fq,aR,aR,aR]
   exact⟨rfl,rfl,rfl,by rw[jS]; omega⟩
  ·rw[afl (ic _) h]
   rfl
 refine aa.cE hs ?_;exact aa.some rfl
theorem arH(a b:BY)(h:a.size+b.size<=1000000):IA [.s a,.s b]=some [.s (a++b),.i (b.size:Nat)]:=by
 refine aa.toEq ?_;unfold IA Gu
 (dsimp only[go_sem])
 exact aa.pos (by rw[fh]; omega) (aa.some rfl)
theorem arI(a:BY):NF [.s a]=some [.s a,.s a]:=rfl
theorem mf(n:Int)(d:-9223372036854775808<=n)(g:n<=9223372036854775807):gz [.i n]=some [.s (gg n)]:=by
 refine aa.toEq ?_;unfold gz
 (dsimp only[go_sem])
 exact aa.pos (by rw[aR,eh,eh,dT,dT]; exact⟨d,g⟩) (aa.some rfl)
def vl(s:BY):Bool:=bW 1 s.data.toList.length&&(bW s.data.toList.length 20&&s.data.toList.all fun b => !(b==32) && !(b==10))
theorem xG{s:BY}(h:vl s=true):wM s.data.toList/\s.data.toList.length<=20:=by
 unfold vl at h;simp only[aR,fh]at h;obtain⟨d,g,q⟩:=h;refine⟨⟨fun e=>by rw[e]at d; simp at d,fun b A=>?_⟩,g⟩;have:=eX.1 q b A;simpa using this
theorem arJ:(calls.all fun s => !rj s||vl s)=true:=aj
theorem arK{s:BY}(h:s∈calls)(aV:rj s=true):wM s.data.toList/\s.data.toList.length<=20:=by
 have:=eX.1 arJ s h;rw[aV]at this;exact xG (by simpa using this)
theorem arL:(kH.all fun s => !kI s||vl s)=true:=aj
theorem arM{s:BY}(h:s∈kH)(aV:kI s=true):wM s.data.toList/\s.data.toList.length<=20:=by
 have:=eX.1 arL s h;rw[aV]at this;exact xG (by simpa using this)
theorem arN:(names.all fun s => !oK s||((s.data.toList.isEmpty||vl s) && !(s.data.toList==[45])))=true:=aj
def iA(l:List UInt8):List UInt8:=match l with | []=>[45]|b::r=>b::r
def Ot(s:BY):Prop:=wM (iA s.data.toList)/\(iA s.data.toList).length<=20/\s.data.toList≠[45]
theorem Y'{s:BY}(h:s∈names)(aV:oK s=true):Ot s:=by
 have:=eX.1 arN s h;rw[aV]at this;simp only[Pe,jR,aR,lQ]at this;obtain⟨d,q⟩:=this;refine⟨?_,?_,by simpa using q⟩
 ·cases g:s.data.toList with
  |nil=>exact⟨by simp[iA],by simp[iA]⟩
  |cons b r=>
   rcases d with d|d
   ·rw[g]at d; simp at d
   ·have:=(xG d).1
    rw[g]at this;exact this
 ·cases g:s.data.toList with
  |nil=>simp[iA]
  |cons b r=>
   rcases d with d|d
   ·rw[g]at d; simp at d
   ·have:=(xG d).2
    rw[g]at this;exact this
theorem Ou(s:BY):zK [.s s]=some [.s (aT (iA s.data.toList))]:=by
 refine aa.toEq ?_;unfold zK
 (dsimp only[go_sem])
 rw[kg,kg];cases d:s.data.toList with
 |nil=>exact aa.pos rfl (aa.some rfl)
 |cons b r=>
  refine aa.neg rfl (aa.some ?_);show [G.s s]=[G.s (aT (b::r))]
  rw[<-d,xD]
def sX(m:Int):BY:=if m=1 then ⟨#[99,111,100,101]⟩ else if m=2 then ⟨#[118,111,105,99,101]⟩ else ⟨#[100,97,116,97]⟩
def DS:LL:=[[.s (⟨#[]⟩:BY)],[.s (⟨#[99,111,100,101]⟩:BY)],[.s (⟨#[118,111,105,99,101]⟩:BY)],[.s (⟨#[100,97,116,97]⟩:BY)]]
theorem arO:MV []=some [.l DS]:=rfl
theorem Za{m:Int}(h:m=1\/m=2\/m=3):(gi (DS.getD m.toNat []) 0).sV=sX m:=by
 rcases h with rfl|rfl|rfl<;>rfl
theorem arP{m:Int}(h:m=1\/m=2\/m=3):wM (sX m).data.toList/\(sX m).data.toList.length<=20:=by
 rcases h with rfl|rfl|rfl
 ·exact xG (show vl (⟨#[99,111,100,101]⟩:BY)=true from by kernel_rfl)
 ·exact xG (show vl (⟨#[118,111,105,99,101]⟩:BY)=true from by kernel_rfl)
 ·exact xG (show vl (⟨#[100,97,116,97]⟩:BY)=true from by kernel_rfl)
def xH(r:LG):Prop:=∃(t m:Int) (b c:BY) (s h:Int) (x y:BY),r=[.i t,.i m,.s b,.s c,.i s,.i h,.s x,.s y]/\(0<=t/\t<=345686399999)/\(m=1\/m=2\/m=3)/\(wM b.data.toList/\b.data.toList.length<=20) /\
 (wM c.data.toList/\c.data.toList.length<=20)/\(0<=s/\s<=99999)/\(0<=h/\h<=99999)/\Ot x/\Ot y
theorem arQ(h:fp r)(d:fQ r=0):xH r:=by
 obtain⟨t,m,b,c,s,h,x,y,rfl,_,_,_,_,N,hc,O,U⟩:=h;have e:fQ [.i t,.i m,.s b,.s c,.i s,.i h,.s x,.s y]=bif !cC t 0 345686399999 then 1 else bif !cC m 1 3 then 4 else bif !kI b then 5 else bif !rj c then 3 else
  bif !cC s 0 99999 then 1 else bif !cC h 0 99999 then 1 else bif !oK x then 5 else bif !oK y then 5 else 0:=rfl
 rw[e]at d;cases g:cC t 0 345686399999 with
 |false=>rw[g]at d; cases d
 |true=>
 cases q:cC m 1 3 with
 |false=>rw[g,q]at d; cases d
 |true=>
 cases A:kI b with
 |false=>rw[g,q,A]at d; cases d
 |true=>
 cases B:rj c with
 |false=>rw[g,q,A,B]at d; cases d
 |true=>
 cases F:cC s 0 99999 with
 |false=>rw[g,q,A,B,F]at d; cases d
 |true=>
 cases I:cC h 0 99999 with
 |false=>rw[g,q,A,B,F,I]at d; cases d
 |true=>
 cases J:oK x with
 |false=>rw[g,q,A,B,F,I,J]at d; cases d
 |true=>
 cases M:oK y with
 |false=>rw[g,q,A,B,F,I,J,M]at d; cases d
 |true=>
 have two:∀{a u v:Int},cC a u v=true->u<=a/\a<=v:=fun h=>by simpa[cC,eh]using h
 have:=two q;exact⟨t,m,b,c,s,h,x,y,rfl,two g,ab,arM N A,arK hc B,two F,two I,Y' O J,Y' U M⟩
def qg(r:LG):List (List UInt8):=
 [eF (gi r 0).iV,(sX (gi r 1).iV).data.toList,(gi r 2).sV.data.toList,(gi r 3).sV.data.toList,eF (gi r 4).iV,iA (gi r 6).sV.data.toList,eF (gi r 5).iV,iA (gi r 7).sV.data.toList]
theorem Ov(d:0<=n)(g:n<=345686399999):(eF n).length<=15:=by
 unfold eF;rw[iN ab];exact GJ 14 _ du
theorem DT(h:xH r):(dC (qg r)).length<=160:=by
 obtain⟨t,m,b,c,s,h,x,y,rfl,d,hm,g,hc,hs,q,A,B⟩:=h;have F:=Ov d.1 d.2;have I:=Ov hs.1 ab;have J:=Ov q.1 ab;have e:qg [.i t,.i m,.s b,.s c,.i s,.i h,.s x,.s y]=[eF t,(sX m).data.toList,b.data.toList,c.data.toList,eF s,iA x.data.toList,eF h,iA y.data.toList]:=rfl;rw[e];unfold dC;rw[oz,oz,oz,oz,oz,oz,oz,Pv];simp only[eL,cJ,fU];have:=g.2;have:=hc.2;have:=(arP hm).2;have:=A.2.1;have:=B.2.1;omega
theorem arR(h:xH r):Im [.l [r]]=some [.s (aT (dC (qg r)))]:=by
 have d:=DT h;obtain⟨t,m,b,c,s,h,x,y,rfl,g,hm,q,hc,hs,A,B,F⟩:=h;refine aa.toEq ?_;unfold Im
 (dsimp only[go_sem])
 refine aa.cE (mf t ab ab) ?_;refine aa.cE arO ?_
 (dsimp only[go_sem])
 refine aa.pos ?_ ?_
 ·rw[show DS.length=4 from rfl,aR,jT,dX,dT,dT]
  omega
 refine aa.cE (mf s ab ab) ?_;refine aa.cE (Ou x) ?_;refine aa.cE (mf h ab ab) ?_;refine aa.cE (Ou y) ?_
 (dsimp only[go_sem])
 rw[Za hm];have e:[gg t,sX m,b,c,gg s,aT (iA x.data.toList),gg h,aT (iA y.data.toList)].map (·.data.toList)=qg [.i t,.i m,.s b,.s c,.i s,.i h,.s x,.s y]:=by
  simp only[eU,mo,ic,xF];rfl
 refine aa.cE (DR [gg t,sX m,b,c,gg s,aT (iA x.data.toList),gg h,aT (iA y.data.toList)] ai (by rw[e]; omega)) ?_;refine aa.some ?_;rw[e];rfl
def Ow(b:UInt8):Bool:=bW 48 b.toNat&&bW b.toNat 57
def sY:BY:=⟨#[48,49,50,51,52,53,54,55,56,57]⟩
end
end Go.Proofs.h_

namespace Go.Proofs.h_
open Go Go.AL Go.Proofs
noncomputable section
def Zb(p:UInt8->Bool) (h:((List.range 256).all fun n=>p (UInt8.ofNat n))=true) (b:UInt8):p b=true:=by
 have:=eX.1 h b.toNat (List.mem_range.2 (UInt8.toNat_lt b))
 rwa [aal]at this
def Zc(b:UInt8):sY.data.toList.contains b=Ow b:=by
 have:=Zb (fun b=>sY.data.toList.contains b==Ow b) aj b;simpa using this
def Ox{p:UInt8->Bool}:∀{l:List UInt8},l.dropWhile p=[]->∀ b∈l,p b=true
 |[],_,b,d=>by cases d
 |x::l,h,b,d=>by
  rw[List.dropWhile_cons]at h;split at h
  ·rename_i g
   rcases cy.1 d with rfl|d
   ·exact g
   ·exact Ox h b d
  ·cases h
def arS{l cs:List UInt8}:AY l cs=[]↔∀b∈l,cs.contains b=true:=by
 refine⟨fun h=>?_,afo⟩;unfold AY Lib.trimLeftS at h;have g:∀b∈aak l cs,cs.contains b=true:=Ox h;unfold aak at g;cases d:l.reverse.dropWhile (cs.contains ·)with
 |nil=>exact fun b q=>Ox d b (List.mem_reverse.2 q)
 |cons x r=>
  have A:=g x (by rw[d]; simp);have:=List.head_dropWhile_not (p:=(cs.contains ·)) (l:=l.reverse) (by rw[d]; simp);simp only[d,List.head_cons]at this;rw[A]at this;cases this
end
end Go.Proofs.h_

namespace Go.Proofs.h_
open Go Go.AL Go.Proofs
variable {W:List (List (List UInt8))} {a b:BY} {i:Nat} {l x:LL} {p z:List UInt8}
noncomputable section
theorem Zd(b:UInt8):gU b=Ow b:=rfl
theorem arT(s:BY)(q:0<s.size)(hs:s.size<=900000):aa (wT [.s s,.s sY]) fun g=>∃t,g=[.s t]/\(t.toList==(⟨#[]⟩:BY).toList)=s.data.toList.all gU:=by
 unfold wT
 (dsimp only[go_sem])
 refine aa.pos ?_ (aa.some ⟨_,rfl,?_⟩)
 ·simp only[aR,fh,jS]
  exact⟨by rfl,cD,cD,ab,ab⟩
 ·have e:(trimB s sY).toList=AY s.data.toList sY.data.toList:=by rw[kg]; simp[trimB]
  rw[e,kg,jB,beq_iff_eq];show AY s.data.toList sY.data.toList=[]↔_
  rw[arS,eX];exact⟨fun h b d=>by rw[Zd,<-Zc]; exact h b d,fun h b d=>by rw[Zc,<-Zd]; exact h b d⟩
def jQ(l:List UInt8):Bool:=match l with|45::_=>true|_=>false
def iB(l:List UInt8):List UInt8:=match l with|45::t=>t|t=>t
theorem Ze(q:Nat)(l:List UInt8):l8 q l=if iB l≠[]/\(iB l).length<=q/\(iB l).all gU=true/\((iB l).head?≠some 48\/(iB l=[48]/\jQ l=false)) then some (bif jQ l then -(dD (iB l):Int) else (dD (iB l):Int)) else none:=by
 unfold l8;split
 ·rename_i t
  have d:iB (45::t)=t:=rfl;have g:jQ (45::t)=true:=rfl;rw[d,g];simp
 ·rename_i h
  have d:iB l=l:=by
   unfold iB;split
   ·exact(h _ rfl).elim
   ·rfl
  have g:jQ l=false:=by
   unfold jQ;split
   ·exact(h _ rfl).elim
   ·rfl
  rw[d,g];simp
theorem Zf(l:List UInt8):(iB l).length<=l.length:=by
 unfold iB;split
 ·simp
 ·exact bl _
theorem Zg(s:BY)(hs:s.size<=900000):wY [.s s,.s (⟨#[45]⟩:BY)]=some [.t (jQ s.data.toList)]:=by
 refine aa.toEq ?_;unfold wY
 (dsimp only[go_sem])
 have A:(#[45]:Array UInt8).size=1:=rfl;have d:=lS s;rw[A];cases g:s.data.toList with
 |nil=>
  rw[g]at d;simp only[fU]at d;refine aa.neg (by rw[eh,dF]; omega) (aa.some ?_);rfl
 |cons b r=>
  rw[g]at d;simp only[cJ]at d;refine aa.pos (by rw[eh,dT]; omega) (aa.pos (by rw[aR,jT,eh,dT,dT]; omega) (aa.some ?_));rw[kg,PF,kg,g];show [G.t ([b]==[45])]=[G.t (jQ (b::r))]
  by_cases q:b=45
  ·subst q
   rfl
  ·have B:jQ (b::r)=false:=by
    unfold jQ;split
    ·rename_i h
     cases h;exact(q rfl).elim
    ·rfl
   rw[B,show ([b]==[45])=false by simpa using q]
theorem Zh(s:BY):(bif jQ s.data.toList then s.extract 1 s.size else s)=aT (iB s.data.toList):=by
 cases d:s.data.toList with
 |nil=>
  show s=aT []
  rw[<-xD s,d]
 |cons b r=>
  by_cases g:b=45
  ·subst g
   show s.extract 1 s.size=aT r
   refine AB ?_;rw[Lib.extract_to_end,d,ic];rfl
  ·have q:iB (b::r)=b::r:=by
    unfold iB;split
    ·rename_i h
     cases h;exact(g rfl).elim
    ·rfl
   have A:jQ (b::r)=false:=by
    unfold jQ;split
    ·rename_i h
     cases h;exact(g rfl).elim
    ·rfl
   rw[q,A,<-d,xD];rfl
theorem arU(s:BY)(hs:s.size<=900000):sG [.s s,.s (⟨#[45]⟩:BY)]=some [.s (aT (iB s.data.toList)),.t (jQ s.data.toList)]:=by
 refine aa.toEq ?_;unfold sG
 (dsimp only[go_sem])
 refine aa.call (P:=fun g=>g=[.s (aT (iB s.data.toList)),.t (jQ s.data.toList)]) ?_ ?_
 ·unfold Hg
  (dsimp only[go_sem])
  refine aa.cE (Zg s hs) ?_
  (dsimp only[go_sem])
  have B:(#[45]:Array UInt8).size=1:=rfl;rw[B];have d:=Zh s;cases hn:jQ s.data.toList with
  |false=>
   rw[hn]at d;refine aa.pos rfl (aa.some ?_);rw[<-d];rfl
  |true=>
   rw[hn]at d;have q:=lS s;have F:0<s.size:=by
    cases A:s.data.toList with
    |nil=>rw[A]at hn; cases hn
    |cons b r=>rw[A]at q; simp only[cJ]at q; omega
   refine aa.neg rfl (aa.pos (by rw[aR,jT,eh,dT,dT]; omega) (aa.some ?_));rw[<-d];rfl
 ·rintro _ rfl
  exact aa.some rfl
theorem arV(s:BY)(hs:s.size<=900000):aa (Hh [.s s,.i 15]) fun g=>∃n,g=[.i n,.t (l8 15 s.data.toList).isSome]/\∀v,l8 15 s.data.toList=some v->n=v:=by
 have hal:=Zf s.data.toList;have hz:=lS s;rw[Ze];generalize hn:jQ s.data.toList=neg;generalize ht:iB s.data.toList=t at hal;have no:∀{p:Prop} [Decidable p] (v:Int),¬ p->aa (some [G.i 0,G.t false]) fun g=>∃n,g=[.i n,.t (if p then some v else none).isSome]/\∀w,(if p then some v else none)=some w->n=w:=fun v N=>by
  rw[iN N];exact aa.some ⟨0,rfl,fun w J=>by cases J⟩
 have Y:=arU s hs;rw[hn,ht]at Y;unfold Hh
 (dsimp only[go_sem])
 refine aa.cE Y ?_
 (dsimp only[go_sem])
 rw[qf,kg,fq,ic];refine aa.test (fun d=>no _ fun h=>h.1 (by simpa using d)) fun d=>?_;have d:t≠[]:=by simpa using d
 have N:0<t.length:=Ej.2 d;refine aa.test (fun B=>no _ fun h=>by rw[dX,dT]at B; have:=h.2.1; omega) fun B=>?_;rw[dX,dF]at B;have B:t.length<=15:=ab;refine aa.call (arT (aT t) (by rw[fq]; omega) (by rw[fq]; omega)) ?_;rintro _ ⟨u,rfl,M⟩;rw[ic]at M;have M:(u.toList==[])=t.all gU:=by rw[kg (⟨#[]⟩:BY)]at M; exact M
 (dsimp only[go_sem])
 rw[M];refine aa.test (fun q=>no _ fun h=>by rw[h.2.2.1]at q; cases q) fun q=>?_;have q:t.all gU=true:=by simpa using q
 refine aa.p ?_;have U:wZ [.s (aT t)]=some [.i (dD t:Int)]:=by
  refine aa.toEq ?_;unfold wZ Cx
  (dsimp only[go_sem])
  refine aa.pos (by rw[fq,fh]; omega) ?_;rw[ic,TL d q];exact aa.some rfl
 have hv:=TN 15 t q B;have W:∀{p:Prop} [Decidable p],p->aa (bif neg then (bif aM (0-(dD t:Int)) then some [G.i (0-(dD t:Int)),G.t true] else none) else some [G.i (dD t:Int),G.t true]) fun g=>∃n,g=[.i n,.t (if p then some (bif neg then -(dD t:Int) else (dD t:Int)) else none).isSome]/\∀w,(if p then some (bif neg then -(dD t:Int) else (dD t:Int)) else none)=some w->n=w:=fun N=>by
  rw[iP N];cases neg with
  |true=>exact aa.pos rfl (aa.pos (by simp only[aM,sl]; omega) (aa.some ⟨_,rfl,fun w J=>by cases J; simp⟩))
  |false=>exact aa.neg rfl (aa.some ⟨_,rfl,fun w J=>by cases J; rfl⟩)
 have hhead:((((t.getD 0 0).toNat:Nat):Int)==48)=(t.head?==some 48):=by
  cases t with
  |nil=>exact(d rfl).elim
  |cons b r=>
   show (((b.toNat:Nat):Int)==48)=(some b==some 48)
   rw[jB,beq_iff_eq,beq_iff_eq];constructor
   ·intro e
    rw[show b=48 from UInt8.toNat_inj.1 (by show b.toNat=48; omega)]
   ·intro e
    cases e;rfl
 rw[hhead];refine aa.test (fun A=>?_) fun A=>?_
 ·have A:t.head?=some 48:=by simpa using A
  refine aa.test (fun I=>no _ fun h=>?_) fun I=>?_
  ·rw[dX,dT]at I
   rcases h.2.2.2 with F|⟨F,_⟩
   ·exact F A
   ·rw[F]at I
    simp at I
  ·rw[dX,dF]at I
   refine aa.test (fun O=>no _ fun h=>?_) fun O=>?_
   ·rcases h.2.2.2 with F | ⟨_,F⟩
    ·exact F A
    ·rw[F]at O
     cases O
   ·refine aa.call (aa.eq U) ?_
    rintro _ rfl;have ht1:t=[48]:=by
     cases t with
     |nil=>exact(d rfl).elim
     |cons b r=>
      have:r=[]:=List.eq_nil_of_length_eq_zero (by simp at I; omega);subst this;simpa using A
    exact W ⟨d,B,q,.inr ⟨ht1,O⟩⟩
 ·have A:t.head?≠some 48:=by simpa using A
  refine aa.cE U ?_;exact W ⟨d,B,q,.inl A⟩
theorem arW(s set:BY)(p:UInt8->Bool)(F:∀b:UInt8,ba (mW set.data.toList b) 0 = !p b)(hs:s.size<=900000):zQ [.s s,.s set]=some [.t (s.data.toList.all p)]:=by
 refine aa.toEq ?_;unfold zQ
 (dsimp only[go_sem])
 have I:=lS s;refine aa.loop (P:=fun c g=>(c=1/\s.data.toList.all p=true/\g=[])\/(c=0/\s.data.toList.all p=false/\g=[.t false])) ?_ rfl ?_
 ·refine ((uD (σ:=Unit) (fun _ i=>[.s s,.s set,.i ((s.size:Nat):Int),.i (i:Int)]) s.size (fun _=>(1,[])) (fun _ i=>(s.data.toList.take i).all p=true)
   (fun c g=>c=0/\s.data.toList.all p=false/\g=[.t false]) ?_ ?_ s.size () 0 ab rfl).to ab).mono ?_
  ·rintro _ i d hi
   have A:i<s.data.toList.length:=ab;have J:s.data.toList.getD i 0=s.data.toList[i]:=by rw[dj,bT A]; rfl
   have B:s.data.toList.take (i+1)=s.data.toList.take i++[s.data.toList[i]]:=by rw[Pu,bT A]; rfl
   have hm:s.data.toList[i]∈s.data.toList:=nG A;unfold HJ
   (dsimp only[go_sem])
   simp only[aZ,J];generalize O:s.data.toList[i]=b at B hm;refine aa.p (aa.p ?_);have M:CG [.s set,.i ((b.toNat:Nat):Int)]=some [.i (mW set.data.toList b)]:=by
    show some [G.i (mW set.data.toList ((b.toNat:Nat):Int).toNat.toUInt8)]=_
    rw[aZ,show b.toNat.toUInt8=b from aal]
   refine aa.cE M ?_
   (dsimp only[go_sem])
   rw[F];refine aa.test (fun q=>?_) fun q=>?_
   ·have q:p b=false:=by simpa using q
    refine aa.some (.inr ⟨0,_,rfl,rfl,?_,rfl⟩);cases N:s.data.toList.all p with
    |false=>rfl
    |true=>rw[eX.1 N b hm]at q; cases q
   ·have q:p b=true:=by simpa using q
    refine aa.p (aa.some (.inl ⟨(),rfl,?_⟩));rw[B,Px,d];simp[q]
  ·rintro _ d
   unfold HJ
   (dsimp only[go_sem])
   exact aa.n (aa.some rfl)
  ·rintro c g (⟨_,d,rfl,rfl⟩ | h)
   ·rw[I,fu]at d
    exact .inl ⟨rfl,d,rfl⟩
   ·exact .inr h
 ·rintro c g (⟨rfl,d,rfl⟩ | ⟨rfl,d,rfl⟩)
  ·rw[d]
   exact aa.neg rfl (aa.some rfl)
  ·rw[d]
   exact aa.pos rfl (aa.some rfl)
theorem arX(b:UInt8):ba (mW sY.data.toList b) 0 = !gU b:=by
 have:=Zb (fun b=>ba (mW sY.data.toList b) 0 == !gU b) aj b;simpa using this
theorem arY(s:BY)(hs:s.size<=900000):Ij [.s s,.s (⟨#[45]⟩:BY)]=some [.s (aT (iB s.data.toList))]:=by
 refine aa.toEq ?_;unfold Ij
 (dsimp only[go_sem])
 refine aa.call (P:=fun g=>g=[.s (aT (iB s.data.toList))]) ?_ ?_
 ·unfold Nt
  (dsimp only[go_sem])
  refine aa.cE (Zg s hs) ?_
  (dsimp only[go_sem])
  have B:(#[45]:Array UInt8).size=1:=rfl;rw[B];have d:=Zh s;cases hn:jQ s.data.toList with
  |false=>
   rw[hn]at d;refine aa.neg rfl (aa.some ?_);rw[<-d];rfl
  |true=>
   rw[hn]at d;have q:=lS s;have F:0<s.size:=by
    cases A:s.data.toList with
    |nil=>rw[A]at hn; cases hn
    |cons b r=>rw[A]at q; simp only[cJ]at q; omega
   refine aa.pos rfl (aa.pos (by rw[aR,jT,eh,dT,dT]; omega) (aa.some ?_));rw[<-d];rfl
 ·rintro _ rfl
  exact aa.some rfl
theorem arZ(l:List UInt8):l=bif jQ l then 45::iB l else iB l:=by
 unfold jQ iB;split
 ·rfl
 ·rfl
theorem ar0(t:List UInt8)(neg:Bool)(A:t≠[])(h:t.all gU=true) :
  (eF (bif neg then -(dD t:Int) else (dD t:Int))==(bif neg then 45::t else t))=decide (t.head?≠some 48\/(t=[48]/\neg=false)):=by
 have hc:=canon t.length t rfl A h;have B:lT (dD t)=t->t.head?=some 48->t=[48]:=fun e d=>by
  have:=TI (dD t) (by rw[e]; exact d);rw[this,sA ab]at e;exact e.symm
 rw[jB,beq_iff_eq,dT];cases neg with
 |false=>
  have e:eF (bif false then -(dD t:Int) else (dD t:Int))=lT (dD t):=by
   show eF (dD t:Int)=_
   unfold eF;rw[iN ab];simp
  rw[e];constructor
  ·intro g
   by_cases d:t.head?=some 48
   ·exact .inr ⟨B g d,rfl⟩
   ·exact .inl d
  ·rintro (d | ⟨d,_⟩)
   ·exact hc (.inl d)
   ·exact hc (.inr d)
 |true=>
  show eF (-(dD t:Int))=45::t↔_
  by_cases q:dD t=0
  ·rw[q]
   have e:eF (-((0:Nat):Int))=[48]:=by
    unfold eF;rw[iN ab,show (-((0:Nat):Int)).toNat=0 from rfl,sA ab];rfl
   rw[e];constructor
   ·intro g
    simp at g
   ·rintro (d | ⟨_,d⟩)
    ·have:=hc (.inl d)
     rw[q,sA ab]at this;exact(d (by rw[<-this]; rfl)).elim
    ·cases d
  ·have e:eF (-(dD t:Int))=45::lT (dD t):=by
    unfold eF;rw[iP ab];simp
   rw[e];constructor
   ·intro g
    have g:lT (dD t)=t:=by simpa using g
    refine .inl fun d=>?_;have:=TI (dD t) (by rw[g]; exact d);exact q this
   ·rintro (d | ⟨_,d⟩)
    ·rw[hc (.inl d)]
    ·cases d
theorem ar1(s:BY)(hs:s.size<=900000):aa (Ik [.s s,.i 15]) fun g=>∃n,g=[.i n,.t (l8 15 s.data.toList).isSome]/\∀v,l8 15 s.data.toList=some v->n=v:=by
 have N:=Zf s.data.toList;have Y:=lS s;have B:=arZ s.data.toList;have J:=arY s hs;rw[Ze];generalize hn:jQ s.data.toList=neg at B;generalize ht:iB s.data.toList=t at N B J;have no:∀{p:Prop} [Decidable p] (v:Int),¬ p->aa (some [G.i 0,G.t false]) fun g=>∃n,g=[.i n,.t (if p then some v else none).isSome]/\∀w,(if p then some v else none)=some w->n=w:=fun v U=>by
  rw[iN U];exact aa.some ⟨0,rfl,fun w W=>by cases W⟩
 unfold Ik
 (dsimp only[go_sem])
 refine aa.cE J ?_
 (dsimp only[go_sem])
 rw[qf,fq];refine aa.test (fun d=>no _ fun h=>h.1 (by rw[kg]at d; simpa using d)) fun d=>?_;have d:t≠[]:=by rw[kg]at d; simpa using d
 refine aa.test (fun A=>no _ fun h=>by rw[dX,dT]at A; have:=h.2.1; omega) fun A=>?_;rw[dX,dF]at A;have A:t.length<=15:=ab;refine aa.cE (arW (aT t) sY gU arX (by rw[fq]; omega)) ?_
 (dsimp only[go_sem])
 rw[ic];refine aa.test (fun q=>no _ fun h=>by rw[h.2.2.1]at q; cases q) fun q=>?_;have q:t.all gU=true:=by simpa using q
 have hl:s.data.toList.length<=16:=by
  rw[B];cases neg with
  |true=>show (45::t).length<=16; simp only[cJ]; omega
  |false=>show t.length<=16; omega
 have F:=TN 15 t q A;have O:wZ [.s s]=some [.i (bif neg then -(dD t:Int) else (dD t:Int))]:=by
  refine aa.toEq ?_;unfold wZ Cx
  (dsimp only[go_sem])
  refine aa.pos (by rw[fh]; omega) ?_;rw[B];cases neg with
  |true=>
   show aa ((Lib.atoi (45::t)).map fun n=>[G.i n]) _
   rw[afq d q];exact aa.some rfl
  |false=>
   show aa ((Lib.atoi t).map fun n=>[G.i n]) _
   rw[TL d q];exact aa.some rfl
 refine aa.cE O ?_
 (dsimp only[go_sem])
 have M:-9223372036854775808<=(bif neg then -(dD t:Int) else (dD t:Int))/\(bif neg then -(dD t:Int) else (dD t:Int))<=9223372036854775807:=by
  cases neg with
  |true=>show -9223372036854775808<=-(dD t:Int)/\-(dD t:Int)<=9223372036854775807; omega
  |false=>show -9223372036854775808<=(dD t:Int)/\(dD t:Int)<=9223372036854775807; omega
 refine aa.cE (mf _ M.1 M.2) ?_;refine aa.some ⟨(bif neg then -(dD t:Int) else (dD t:Int)),?_,?_⟩
 ·(dsimp only[go_sem])
  rw[xF,qf,kg,B,ar0 t neg d q];congr 3;by_cases I:t.head?≠some 48\/(t=[48]/\neg=false)
  ·rw[iP ⟨d,A,q,I⟩,dE I]
   rfl
  ·rw[iN (fun h=>I h.2.2.2),decide_eq_false I]
   rfl
 ·intro v F
  split at F
  ·cases F
   rfl
  ·cases F
def nz(W:List (List UInt8)):LL:=W.map fun y=>[G.s (aT y)]
theorem AD(W:List (List UInt8)):(nz W).length=W.length:=by simp[nz]
theorem Zi(W:List (List UInt8))(i:Nat)(hi:i<W.length):(nz W).getD i []=[G.s (aT W[i])]:=by
 unfold nz;rw[dj,dw,bT hi];rfl
theorem ar2(y:List UInt8):((aT y).toList==(⟨#[]⟩:BY).toList)=y.isEmpty:=by
 rw[qf,kg];cases y<;>rfl
def qh(W:List (List UInt8)):Bool:=W.all fun y=>(l8 15 y).isSome
def qi(W:List (List UInt8)):List Int:=W.map fun y=>(l8 15 y).getD 0
def ru(V:List Int):LL:=V.map fun n=>[G.i n]
theorem ar3(V:List Int):(ru V).length=V.length:=by simp[ru]
theorem ar4(V:List Int)(n:Int):ru V++[[G.i n]]=ru (V++[n]):=by simp[ru]
theorem ar5(W:List (List UInt8))(N:W.length<=900000)(I:∀y∈W,y.length<=900000):zB [.l (nz W)]=some (bif qh W then [.l (ru (qi W)),.t true] else [.l [],.t false]):=by
 refine aa.toEq ?_;unfold zB
 (dsimp only[go_sem])
 rw[AD];refine aa.loop (P:=fun c g=>(c=1/\qh W=true/\g=[.l (ru (qi W))])\/(c=0/\qh W=false/\g=[.l [],.t false])) ?_ rfl ?_
 ·refine ((uD (σ:=Unit) (fun _ i=>[.l (ru (qi (W.take i))),.l (nz W),.i ((W.length:Nat):Int),.i (i:Int)]) W.length (fun _=>(1,[.l (ru (qi W))])) (fun _ i=>qh (W.take i)=true)
   (fun c g=>c=0/\qh W=false/\g=[.l [],.t false]) ?_ ?_ W.length () 0 ab rfl).to ab).mono ?_
  ·rintro _ i d hi
   have A:W.take (i+1)=W.take i++[W[i]]:=by rw[Pu,bT hi]; rfl
   have hm:W[i]∈W:=nG hi;have B:=Zi W i hi;have M:(ru (qi (W.take i))).length=i:=by rw[ar3]; simp[qi]; omega
   have F:qi (W.take (i+1))=qi (W.take i)++[(l8 15 W[i]).getD 0]:=by rw[A]; unfold qi; rw[gu]; rfl
   generalize W[i]=y at A hm B F;unfold Hk
   (dsimp only[go_sem])
   rw[AD];refine aa.p (aa.p ?_);simp only[aZ,B]
   (dsimp only[go_sem])
   have hn:=arV (aT y) (by rw[fq]; exact I y hm);rw[ic]at hn;refine aa.call hn ?_;rintro _ ⟨n,rfl,hn⟩
   (dsimp only[go_sem])
   refine aa.test (fun q=>?_) fun q=>?_
   ·refine aa.some (.inr ⟨0,_,rfl,rfl,?_,rfl⟩)
    cases J:qh W with
    |false=>rfl
    |true=>
     have:=eX.1 J y hm;rw[this]at q;cases q
   ·have q:(l8 15 y).isSome=true:=by simpa using q
    obtain⟨v,he⟩:=Option.isSome_iff_exists.1 q;have:=hn v he;subst this;refine aa.p (aa.p ?_);refine aa.p (aa.some (.inl ⟨(),?_,?_⟩))
    ·rw[ar4,F,he]
     rfl
    ·unfold qh at d |-
     rw[A,Px,d];simp[q]
  ·rintro _ d
   unfold Hk
   (dsimp only[go_sem])
   refine aa.n (aa.p (aa.some ?_));rw[fu]
  ·rintro c g (⟨_,d,rfl,rfl⟩ | h)
   ·rw[fu]at d
    exact .inl ⟨rfl,d,rfl⟩
   ·exact .inr h
 ·rintro c g (⟨rfl,d,rfl⟩ | ⟨rfl,d,rfl⟩)
  ·rw[d]
   exact aa.neg rfl (aa.p (aa.some rfl))
  ·rw[d]
   exact aa.pos rfl (aa.some rfl)
def cL(L:List (List UInt8))(z:List UInt8):List UInt8:=L.flatMap (fun p=>p++[10])++z
theorem Oy(p:List UInt8)(L:List (List UInt8))(z:List UInt8):cL (p::L) z=p++10::cL L z:=by simp[cL]
theorem Oz:∀(L:List (List UInt8)) (z:List UInt8),dZ (L++[z]) [10]=cL L z
 |[],z=>by
  rw[rF,Pv];rfl
 |p::L,z=>by
  have g:=Oz L z;rw[Oy,<-g];cases d:L++[z]with
  |nil=>simp at d
  |cons x r=>
   rw[List.cons_append,d,oz];rfl
theorem ar6:∀(L:List (List UInt8)) (p z:List UInt8),cL (L++[p]) z=cL L p++10::z:=fun L p z=>by simp[cL]
theorem OA(b:List UInt8)(c:UInt8)(q:b.length<=900000):zA [.s (aT (b++[c])),.s (⟨#[10]⟩:BY)]=some [.t (c==10)]:=by
 refine aa.toEq ?_;unfold zA
 (dsimp only[go_sem])
 have d:(#[10]:Array UInt8).size=1:=rfl;rw[d,fq,eL,tt];refine aa.p (aa.p (aa.p (aa.some ?_)));have e:((((b.length+1:Nat):Int)-((1:Nat):Int)).toNat)=b.length:=ab;rw[e];have g:(((aT (b++[c])).extract b.length (b.length+1)).toList==(⟨#[10]⟩:BY).toList)=(c==10):=by
  rw[kg,PF,kg,ic];simp
 rw[g]
theorem Zj(b:List UInt8)(c:UInt8)(d:b.length<=900000):Hc [.s (aT (b++[c])),.s (⟨#[10]⟩:BY)]=some [.s (aT (bif c==10 then b else b++[c])),.t (c==10)]:=by
 refine aa.toEq ?_;unfold Hc
 (dsimp only[go_sem])
 refine aa.call (P:=fun g=>g=[.s (aT (bif c==10 then b else b++[c])),.t (c==10)]) ?_ ?_
 ·unfold MQ
  (dsimp only[go_sem])
  refine aa.cE (OA b c d) ?_
  (dsimp only[go_sem])
  cases hc:(c==10)with
  |false=>exact aa.pos rfl (aa.some rfl)
  |true=>
   have q:(#[10]:Array UInt8).size=1:=rfl;rw[q,fq,eL,tt];refine aa.neg rfl (aa.p (aa.p (aa.some ?_)));have e:((((b.length+1:Nat):Int)-((1:Nat):Int)).toNat)=b.length:=ab;rw[e];have A:(aT (b++[c])).extract 0 b.length=aT b:=by
    refine AB ?_;rw[PF,ic,ic];simp
   rw[A];rfl
 ·rintro _ rfl
  exact aa.some rfl
def OB(L:List (List UInt8))(z:List UInt8):List (List UInt8):=bif z.isEmpty then L else L++[z]
theorem Zk(x:List UInt8)(d:List (List UInt8))(h:∀y∈x::d,(10:UInt8)∉y) (g:(dZ (x::d) [10]).length<=900000):wX [.s (aT (dZ (x::d) [10])),.s (⟨#[10]⟩:BY)]=some [.l (nz (x::d))]:=arG 10 x d h ab
theorem ar7(L:List (List UInt8))(z:List UInt8)(N:∀p∈L,(10:UInt8)∉p)(I:(10:UInt8)∉z)(q:(cL L z).length<=900000):He [.s (aT (cL L z))]=some [.l (nz (OB L z)),.t z.isEmpty]:=by
 refine aa.toEq ?_;unfold He
 (dsimp only[go_sem])
 rw[ar2];rcases AZ z with rfl|⟨O,c,e⟩
 ·rcases AZ L with rfl | ⟨F,p,e⟩
  ·exact aa.pos rfl (aa.some rfl)
  ·rw[A0]at e
   have g:cL L []=cL F p++[10]:=by rw[e,ar6]
   have A:(cL F p).length<=900000:=by rw[g]at q; simp at q; omega
   refine aa.neg (by rw[g]; simp) ?_;rw[g];refine aa.cE (Zj _ _ A) ?_
   (dsimp only[go_sem])
   show aa (az (wX [.s (aT (cL F p)),_]) _) _
   rw[<-Oz]at A|-;cases d:F++[p]with
   |nil=>simp at d
   |cons x J=>
    rw[d]at A;refine aa.cE (Zk x J (by rw[<-d,<-e]; exact N) A) ?_;refine aa.some ?_;rw[<-d,<-e];rfl
 ·rw[A0]at e
  have hc:(c==10)=false:=by
   rw[beq_eq_false_iff_ne];rintro rfl;rw[e]at I;simp at I
  have g:cL L z=cL L O++[c]:=by rw[e]; simp[cL]
  have M:z.isEmpty=false:=by rw[e]; simp
  have A:(cL L O).length<=900000:=by rw[g]at q; simp at q; omega
  refine aa.neg (by rw[g]; simp) ?_;rw[g];refine aa.cE (Zj _ _ A) ?_
  (dsimp only[go_sem])
  rw[hc,<-g,M];show aa (az (wX [.s (aT (cL L z)),_]) _) _
  rw[<-Oz]at q|-;cases d:L++[z]with
  |nil=>simp at d
  |cons x J=>
   rw[d]at q;refine aa.call (aa.eq (Zk x J ?_ q)) ?_
   ·rw[<- d]
    intro y B;rcases cY.1 B with B|B
    ·exact N y B
    ·rw[ij.1 B]
     exact I
   ·rintro _ rfl
    refine aa.some ?_;unfold OB;rw[<-d,M];rfl
def sZ(W:List (List UInt8))(y:List UInt8):Int:=if y∈W then ((W.idxOf y:Nat):Int) else -1
theorem indexAny(W:List (List UInt8))(y:List UInt8)(M:W.length<=900001):Hm [.l (nz W),.s (aT y)]=some [.i (sZ W y)]:=by
 refine aa.toEq ?_;unfold Hm
 (dsimp only[go_sem])
 rw[AD];refine aa.loop (P:=fun c g=>(c=1/\sZ W y=-1/\g=[])\/(c=0/\g=[.i (sZ W y)])) ?_ rfl ?_
 ·refine ((uD (σ:=Unit) (fun _ i=>[.l (nz W),.s (aT y),.i ((W.length:Nat):Int),.i (i:Int)]) W.length (fun _=>(1,[])) (fun _ i=>y∉W.take i)
   (fun c g=>c=0/\g=[.i (sZ W y)]) ?_ ?_ W.length () 0 ab ai).to ab).mono ?_
  ·rintro _ i d hi
   have B:W.take (i+1)=W.take i++[W[i]]:=by rw[Pu,bT hi]; rfl
   have hm:W[i]∈W:=nG hi;have F:=Zi W i hi;have A:W[i]=y->sZ W y=(i:Int):=fun e=>by
    unfold sZ;rw[iP (e▸hm)];congr 1;have I:W=W.take i++W.drop i:=(List.take_append_drop i W).symm;rw[I,List.idxOf_append,iN d,Jo hi,e,List.idxOf_cons_self,gA];omega
   generalize W[i]=w at B hm F A;unfold Hl
   (dsimp only[go_sem])
   rw[AD];refine aa.p (aa.p ?_);simp only[aZ,F]
   (dsimp only[go_sem])
   rw[qf,qf];refine aa.test (fun q=>?_) fun q=>?_
   ·have q:y=w:=by simpa using q
    exact aa.some (.inr ⟨0,_,rfl,rfl,by rw[A q.symm]⟩)
   ·have q:y≠w:=by simpa using q
    refine aa.p (aa.some (.inl ⟨(),rfl,?_⟩));rw[B];intro J;rcases cY.1 J with h|h
    ·exact d h
    ·exact q (ij.1 h)
  ·rintro _ d
   unfold Hl
   (dsimp only[go_sem])
   exact aa.n (aa.some rfl)
  ·rintro c g (⟨_,d,rfl,rfl⟩ | h)
   ·rw[fu]at d
    refine .inl ⟨rfl,?_,rfl⟩;unfold sZ;rw[iN d]
   ·exact .inr h
 ·rintro c g (⟨rfl,d,rfl⟩ | ⟨rfl,rfl⟩)
  ·rw[d]
   exact aa.neg rfl (aa.some rfl)
  ·exact aa.pos rfl (aa.some rfl)
theorem Zl(d:List BY)(hn:d.length<=1000) (g:(dC (d.map (·.data.toList))).length<=1000000):oI [.l (d.map fun w=>[.s w]),.s (⟨#[32]⟩:BY)]=some [.s (aT (dZ (d.map (·.data.toList)) [32]))]:=by
 have e:j0 (d.map fun w=>[G.s w]) (⟨#[32]⟩:BY)=aT (dZ (d.map (·.data.toList)) [32]):=by
  unfold j0;rw[Y_];rfl
 have q:(dZ (d.map (·.data.toList)) [32]).length+1<=1000000:=by
  simpa[dC]using g
 refine aa.toEq ?_;unfold oI y5
 (dsimp only[go_sem])
 rw[e,fq];refine aa.pos ?_ (aa.some rfl);rw[bL,aR,fh,fh];omega
theorem OC(s:BY):zS [.s s]=some [.s (aT (iA s.data.toList))]:=by
 refine aa.toEq ?_;unfold zS
 (dsimp only[go_sem])
 rw[kg,kg];cases d:s.data.toList with
 |nil=>exact aa.pos rfl (aa.some rfl)
 |cons b r=>
  refine aa.neg rfl (aa.some ?_);show [G.s s]=[G.s (aT (b::r))]
  rw[<-d,xD]
theorem ar8{r:LG}(h:xH r):IC [.l [r]]=some [.s (aT (dZ (qg r) [32]))]:=by
 have d:=DT h;obtain⟨t,m,b,c,s,h,x,y,rfl,g,hm,q,hc,hs,A,B,F⟩:=h;refine aa.toEq ?_;unfold IC
 (dsimp only[go_sem])
 refine aa.cE (mf t ab ab) ?_;refine aa.cE (show Nj []=some [.l DS] from rfl) ?_
 (dsimp only[go_sem])
 refine aa.pos ?_ ?_
 ·rw[show DS.length=4 from rfl,aR,jT,dX,dT,dT]
  omega
 refine aa.cE (mf s ab ab) ?_;refine aa.cE (OC x) ?_;refine aa.cE (mf h ab ab) ?_;refine aa.cE (OC y) ?_
 (dsimp only[go_sem])
 rw[Za hm];have e:[gg t,sX m,b,c,gg s,aT (iA x.data.toList),gg h,aT (iA y.data.toList)].map (·.data.toList)=qg [.i t,.i m,.s b,.s c,.i s,.i h,.s x,.s y]:=by
  simp only[eU,mo,ic,xF];rfl
 refine aa.cE (Zl [gg t,sX m,b,c,gg s,aT (iA x.data.toList),gg h,aT (iA y.data.toList)] ai (by rw[e]; omega)) ?_;refine aa.some ?_;rw[e];rfl
theorem DU(T:List UInt8)(i j:Nat):(aT T).extract i j=aT ((T.take j).drop i):=AB (by
 rw[PF,ic];simp[aT,List.extract,List.drop_take])
theorem OD(l k:List UInt8):((aT l).toList==(aT k).toList)=decide (l=k):=by
 rw[qf,qf];by_cases h:l=k
 ·rw[h,dE rfl]
  simp
 ·rw[decide_eq_false h]
  simp[h]
def mg(k l:List UInt8):Bool:=decide (l.take k.length=k)
theorem ar9(k l:List UInt8):wY [.s (aT l),.s (aT k)]=some [.t (mg k l)]:=by
 refine aa.toEq ?_;unfold wY
 (dsimp only[go_sem])
 simp only[fq];rcases Nat.lt_or_ge l.length k.length with h|h
 ·refine aa.neg (by rw[eh,dF]; omega) (aa.some ?_)
  have e:mg k l=false:=by
   unfold mg;rw[dF];intro e;have:=congrArg nF e;rw[gA]at this;omega
  rw[e]
 ·refine aa.pos (by rw[eh,dT]; omega) (aa.pos (by rw[aR,jT,eh,dT,dT]; omega) (aa.some ?_))
  rw[DU,aap,OD];rfl
theorem ar_(k l:List UInt8):sG [.s (aT l),.s (aT k)]=some [.s (aT (bif mg k l then l.drop k.length else l)),.t (mg k l)]:=by
 refine aa.toEq ?_;unfold sG
 (dsimp only[go_sem])
 refine aa.call (P:=fun g=>g=[.s (aT (bif mg k l then l.drop k.length else l)),.t (mg k l)]) ?_ ?_
 ·unfold Hg
  (dsimp only[go_sem])
  refine aa.cE (ar9 k l) ?_
  (dsimp only[go_sem])
  simp only[fq];cases d:mg k l with
  |false=>exact aa.pos rfl (aa.some rfl)
  |true=>
   have h:k.length<=l.length:=by
    have e:l.take k.length=k:=of_decide_eq_true d;have:=congrArg nF e;rw[gA]at this;omega
   refine aa.neg rfl (aa.pos (by rw[aR,jT,eh,dT,dT]; omega) (aa.some ?_));rw[DU,fu];rfl
 ·rintro _ rfl
  exact aa.some rfl
def vm:List UInt8:=[97,116,32]
theorem Zm(l:List UInt8):sG [.s (aT l),.s (⟨#[97,116,32]⟩:BY)]=some [.s (aT (bif mg vm l then l.drop 3 else l)),.t (mg vm l)]:=ar_ vm l
theorem ar'(p:List UInt8)(d:p.length<=900000):HS [.s (aT (p++[10])),.s (⟨#[10]⟩:BY)]=some [.s (aT p)]:=by
 refine aa.toEq ?_;unfold HS
 (dsimp only[go_sem])
 refine aa.call (P:=fun g=>g=[.s (aT p)]) ?_ ?_
 ·unfold Nb
  (dsimp only[go_sem])
  refine aa.cE (OA p 10 d) ?_
  (dsimp only[go_sem])
  have q:(#[10]:Array UInt8).size=1:=rfl;rw[q,fq,eL,tt];have e:(((p.length+1:Nat):Int)-((1:Nat):Int))=(p.length:Int):=ab;rw[e];refine aa.pos rfl (aa.pos (vS.2 ⟨ab,ab⟩) (aa.pos (by rw[aR,jT,eh,dT,dT]; omega) (aa.some ?_)));rw[DU];simp
 ·rintro _ rfl
  exact aa.some rfl
theorem Zn(p:List UInt8)(c:UInt8)(d:p.length<=900000):HR [.s (aT (p++[c])),.s (⟨#[10]⟩:BY)]=some [.t (c==10)]:=by
 refine aa.toEq ?_;unfold HR
 (dsimp only[go_sem])
 refine aa.cE (OA p c d) ?_;exact aa.some rfl
theorem OE{B:Nat}:∀{W:List (List (List UInt8))},(∀ w∈W,(dC w).length<=B)->(fG W).length<=B*W.length
 |[],_=>by simp[fG]
 |w::W,h=>by
  have g:=OE (W:=W) fun v d=>h v (cO w d);have q:=h w dG;have e:fG (w::W)=dC w++fG W:=by simp[fG]
  rw[e,eL,cJ,aum,Nat.mul_one];omega
theorem Zo(h:i<W.length):fG (W.take (i+1))=fG (W.take i)++dC (W.getD i []):=by
 rw[Jx h,afp,dj,bT h];rfl
theorem Zp{B:Nat}(h:∀w∈W,(dC w).length<=B)(hn:W.length<=100)(i:Nat):(fG (W.take i)).length<=B*100:=by
 have d:=OE (W:=W.take i) fun w g=>h w (List.mem_of_mem_take g);have q:(W.take i).length<=100:=by rw[gA]; omega
 exact gl d (aun B q)
def jf (W:List (List (List UInt8))):LL:=W.map fun w=>[G.s (aT (dZ w [32]))]
theorem OF (W:List (List (List UInt8))):(jf W).length=W.length:=bL _
theorem Zq(h:i<W.length):(jf W).getD i []=[G.s (aT (dZ (W.getD i []) [32]))]:=by
 unfold jf;rw[dj,dw,dj,bT h];rfl
theorem asa(h:i<W.length):jf (W.take (i+1))=jf (W.take i)++[[G.s (aT (dZ (W.getD i []) [32]))]]:=by
 rw[Jx h];unfold jf;rw[gu,dj,bT h];rfl
theorem Zr(w:List (List UInt8)):(dC w).length=(dZ w [32]).length+1:=by
 unfold dC;rw[eL];rfl
theorem Zs(f:LG->List (List UInt8))(h:i<x.length):(x.map f).getD i []=f (x.getD i []):=by
 rw[dj,dw,dj,bT h];rfl
theorem OG{st:LG->bk}(f:LG->List (List UInt8))(x:LL)(hn:x.length<=100) (I:∀ z∈x,(dC (f z)).length<=1000)
  (A:∀(o:List UInt8) (i:Nat) (z:LG),o.length<=500000->i<x.length->x.getD i []=z->z∈x->aa (st [.s (aT o),.l x,.i (x.length:Int),.i (i:Int)]) fun q=>q=(none,[.s (aT o++aT (dC (f z))),.l x,.i (x.length:Int),.i ((i:Int)+1)]))
  (B:∀o,aa (st [.s (aT o),.l x,.i (x.length:Int),.i (x.length:Int)]) fun q=>q=(some 0,[.s (aT o)])) :
  eZ st [.s (⟨#[]⟩:BY),.l x,.i (x.length:Int),.i 0] fun c g=>c=0/\g=[.s (aT (fG (x.map f)))]:=by
 have J:∀w∈x.map f,(dC w).length<=1000:=fun w M=>by
  obtain⟨z,d,rfl⟩:=cM.1 M;exact I z d
 have hm:(x.map f).length=x.length:=bL _;have r:=ga (st:=st) (σ:=Unit) (fun _ i=>[.s (aT (fG ((x.map f).take i))),.l x,.i (x.length:Int),.i (i:Int)]) x (fun _=>(0,[.s (aT (fG (x.map f)))])) (fun _ _=>True) () ab trivial
  (fun _ i z _ hi d F _=>by
   have N:=Zp J ab i;refine(A _ i z ab hi d F).mono ?_;rintro _ rfl;refine⟨(),?_,trivial⟩;rw[Zo ab,Zs f hi,d,xE];rfl)
  (fun _ _=>by
   rw[<-hm,fu,hm];exact B _)
 refine r.mono ?_;rintro _ _ ⟨_,_,rfl,rfl⟩;exact⟨rfl,rfl⟩
theorem DV{st:LG->bk}(f:LG->List (List UInt8))(x:LL)(hn:x.length<=100)
  (A:∀(o:LL) (i:Nat) (z:LG),o.length<=1000->i<x.length->x.getD i []=z->z∈x->aa (st [.l o,.l x,.i (x.length:Int),.i (i:Int)]) fun q=>q=(none,[.l (o++[[.s (aT (dZ (f z) [32]))]]),.l x,.i (x.length:Int),.i ((i:Int)+1)]))
  (B:∀o,aa (st [.l o,.l x,.i (x.length:Int),.i (x.length:Int)]) fun q=>q=(some 0,[.l o])) :
  eZ st [.l [],.l x,.i (x.length:Int),.i 0] fun c g=>c=0/\g=[.l (jf (x.map f))]:=by
 have hm:(x.map f).length=x.length:=bL _;have r:=ga (st:=st) (σ:=Unit) (fun _ i=>[.l (jf ((x.map f).take i)),.l x,.i (x.length:Int),.i (i:Int)]) x (fun _=>(0,[.l (jf (x.map f))])) (fun _ _=>True) () ab trivial
  (fun _ i z _ hi d F _=>by
   refine(A _ i z (by rw[OF,gA]; omega) hi d F).mono ?_;rintro _ rfl;refine⟨(),?_,trivial⟩;rw[asa ab,Zs f hi,d];rfl)
  (fun _ _=>by
   rw[<-hm,fu,hm];exact B _)
 refine r.mono ?_;rintro _ _ ⟨_,_,rfl,rfl⟩;exact⟨rfl,rfl⟩
theorem Zt(rZ:LL)(t:Int)(r:BY) (W:List (List (List UInt8))) (d:∀ w∈W,(dC w).length<=1000) (hn:W.length<=100) (o:List UInt8) (F:o.length<=10000000) :
  eZ mO [.l rZ,.s (aT o),.i t,.s r,.l (jf W),.i (W.length:Int),.i 0] fun c g=>c=0/\g=[.l rZ,.s (aT (o++fG W)),.i t,.s r]:=by
 have hm:=OF W;have B:(⟨#[10]⟩:BY)=aT [10]:=rfl;have q:=ga (st:=mO) (σ:=Unit) (fun _ i=>[.l rZ,.s (aT (o++fG (W.take i))),.i t,.s r,.l (jf W),.i (W.length:Int),.i (i:Int)]) (jf W) (fun _=>(0,[.l rZ,.s (aT (o++fG W)),.i t,.s r])) (fun _ _=>True) () ab trivial
  (fun _ i z _ hi A _ _=>by
   rw[hm]at hi;rw[Zq hi]at A;subst A;have I:=Zp d hn i;have J:=d (W.getD i []) (by
    rw[dj,bT hi];exact nG hi)
   have M:=Zr (W.getD i []);unfold mO
   (dsimp only[go_sem])
   simp only[aZ,Zq hi,hm]
   (dsimp only[go_sem])
   simp only[B,xE,fq,eL,tt];refine aa.p (aa.p (aa.pos (by rw[fh]; omega) (aa.pos (by rw[fh]; omega) (aa.pos (vS.2 ⟨ab,ab⟩) (aa.some ⟨(),?_,trivial⟩)))));rw[Zo hi,List.append_assoc];rfl)
  (fun _ _=>by
   unfold mO
   (dsimp only[go_sem])
   rw[hm,fu];exact aa.n (aa.some rfl))
 have e:aT (o++fG (W.take 0))=aT o:=by simp[fG]
 rw[e]at q;refine q.mono ?_;rintro _ _ ⟨_,_,rfl,rfl⟩;exact⟨rfl,rfl⟩
def AE(z:LG):List (List UInt8):=[(gi z 0).sV.data.toList,iA (gi z 1).sV.data.toList,eF (gi z 2).iV]
def xI(z:LG):List (List UInt8):=[(gi z 0).sV.data.toList,(gi z 1).sV.data.toList]
def DW(z:LG):List (List UInt8):=[eF (gi z 0).iV]
theorem asb:(kH.all fun s=>bW s.size 100)=true:=aj
theorem asc:(gP.all fun s=>bW s.size 10)=true:=aj
theorem OH{s:BY}(h:s∈gP):s.data.toList.length<=10:=by
 have:=eX.1 asc s h;rw[fh,lS]at this;exact this
theorem s7{n:Int}(h:small n):(eF n).length<=20:=by
 unfold small at h;rcases Int.lt_or_le n 0 with d|d
 ·obtain⟨k,rfl⟩:∃k:Nat,n=-(k:Int):=⟨n.natAbs,ab⟩
  have e:eF (-(k:Int))=45::lT k:=by
   unfold eF;rw[iP d];simp
  have:=GJ 17 k ab;rw[e,cJ];omega
 ·obtain⟨k,rfl⟩:=aao d
  have e:eF (k:Int)=lT k:=by
   unfold eF;rw[iN ab];simp
  have:=GJ 17 k ab;rw[e];omega
theorem Zu(l:List UInt8):(iA l).length<=l.length+1:=by
 cases l<;>simp[iA]
theorem Zv(a b:List UInt8):(dC [a,b]).length=a.length+b.length+2:=by simp[dC,dZ]; omega
theorem asd(a b c:List UInt8):(dC [a,b,c]).length=a.length+b.length+c.length+3:=by simp[dC,dZ]; omega
theorem Zw(a:List UInt8):(dC [a]).length=a.length+1:=by simp[dC,dZ]
theorem Zx(k:BY):∀(l:LL) (b:BY),(∀ d∈l,bG d)->b.size<=100->(l.foldl (p_ k) b).size<=100
 |[],_,_,h=>h
 |x::l,b,q,h=>by
  rw[lO];refine Zx k l _ (fun d g=>q d (cO x g)) ?_;obtain⟨si,no,at_,kd,t,m,A,c,s,B,F,I,bd,bP,ot,rfl,g⟩:=q x dG;have J:bd.size<=100:=by
   have:=eX.1 asb bd g.2.2.2.2.2.1
   rwa [fh]at this
  unfold p_;cases (gi (mQ si no at_ kd t m A c s B F I bd bP ot) 0).sV.toList==k.toList
  ·exact h
  ·cases (gi (mQ si no at_ kd t m A c s B F I bd bP ot) 3).iV==2
   ·exact h
   ·exact J
def oS:List UInt8:=[108,111,103]
def qj:List UInt8:=[100,101,115,107,115]
def ry:List UInt8:=[110,101,120,116]
def rz:List UInt8:=[104,101,108,100]
def rA:List UInt8:=[99,108,97,115,104,101,115]
def AF:List UInt8:=[100,117,112,101,115]
def xJ:List (List UInt8):=[oS,qj,ry,rz,rA,AF]
theorem nA{k:List UInt8}(h:p=k):((aT p).toList==(aT k).toList)=true:=by rw[OD,h]; simp
theorem jg{k:List UInt8}(h:p≠k):((aT p).toList==(aT k).toList)=false:=by rw[OD]; simp[h]
theorem ase(p:List UInt8):Hn [.l [[.s (⟨#[108,111,103]⟩:BY)],[.s (⟨#[100,101,115,107,115]⟩:BY)],[.s (⟨#[110,101,120,116]⟩:BY)],[.s (⟨#[104,101,108,100]⟩:BY)],[.s (⟨#[99,108,97,115,104,101,115]⟩:BY)],[.s (⟨#[100,117,112,101,115]⟩:BY)]],.s (aT p)]=some [.t (decide (p∈xJ))]:=by
 refine aa.toEq ?_;unfold Hn
 (dsimp only[go_sem])
 refine aa.cE (show _=some [.i (sZ xJ p)] from indexAny xJ p cD) ?_;refine aa.some ?_
 (dsimp only[go_sem])
 unfold sZ;by_cases h:p∈xJ
 ·rw[iP h,dE h,eh,dE ab]
 ·rw[iN h,decide_eq_false h,eh,decide_eq_false ab]
section
variable (rZ:LL) (t:Int) (p:List UInt8)
def AG:LL:=(eK (bO (ch rZ t))).map rq
def DX:LL:=xA (bO (ch rZ t)) (dV rZ t)
def s8:LL:=l_ (jd rZ t) (jd rZ t).length
def jz:LG:=I6 (kK (fun n => !((vh rZ t).contains n)) 99999 1)
def rB(l:LL):List (List UInt8):=if l=[] then [[110,111,110,101]] else l.map fun z=>eF (gi z 0).iV
def gI:List (List (List UInt8)) × Int:=
 if p=oS then ((jd rZ t).map qg,0)
 else if p=qj then ((Au rZ t).map AE,0)
 else if p=ry then ([[eF (gi (jz rZ t) 0).iV]],(gi (jz rZ t) 1).iV)
 else if p=rz then ((AG rZ t).map xI,0)
 else if p=rA then ((DX rZ t).map xI,0)
 else if p=AF then ([rB (s8 rZ t)],0)
 else ([],9)
end
theorem OI(rZ:LL)(t:Int):0<=(gi (jz rZ t) 0).iV/\(gi (jz rZ t) 0).iV<=100000/\0<=(gi (jz rZ t) 1).iV/\(gi (jz rZ t) 1).iV<=100:=by
 unfold jz;cases h:kK (fun n => !((vh rZ t).contains n)) 99999 1 with
 |none=>exact⟨cD,cD,cD,cD⟩
 |some n=>
  have:=YE 99999 1 h;exact⟨by show 0<=n; omega,by show n<=100000; omega,by show (0:Int)<=0; omega,by show (0:Int)<=100; omega⟩
theorem asf(H lg:LL):sU H lg (vj H lg):=by
 have g:∀n,1<gr H lg n->n∈gj (lg.map a_)++H.map dJ:=fun n this=>by
  unfold gr at this;rw[cY];by_cases q:0<(gj (lg.map a_)).count n
  ·exact .inl (rJ.1 q)
  ·exact .inr (rJ.1 ab)
 have d:sU H lg (iO ((sW (gj (lg.map a_)++H.map dJ)).filter fun n=>decide (1<gr H lg n))):=⟨Az ((DQ _).filter _),fun n=>by
  rw[(oR _).mem_iff,jm,dT,DP];exact⟨fun h=>h.2,fun h=>⟨g n h,h⟩⟩⟩
 rw[d.eq];exact d
theorem Zy(l:LL):∀ i,∀ r∈l_ l i,∃ a:Nat,r=[.i (a:Int)]/\a<i
 |0,r,h=>by cases h
 |i+1,r,h=>by
  simp only[l_]at h;rcases cY.1 h with h|h
  ·obtain⟨a,rfl,g⟩:=Zy l i r h
   exact⟨a,rfl,ab⟩
  ·cases d:pZ l i with
   |true=>rw[d]at h; simp at h; exact⟨i,h,ab⟩
   |false=>rw[d]at h; simp at h
section
variable (rZ:LL) (t:Int) (hr:∀z∈rZ,bG z) (hn:rZ.length<=20) (aV:jN rZ)
include hr hn aV
theorem OJ:∀z∈jd rZ t,fp z/\xH z:=fun z d=>⟨DI rZ t hr hn z d,arQ (DI rZ t hr hn z d) (apE (Yu rZ t hr hn aV) z d)⟩
omit aV in
theorem OK:∀z∈Au rZ t,∃(s b:BY) (n:Int),z=[.s s,.s b,.i n]/\s.data.toList.length<=10/\b.data.toList.length<=100/\0<=n/\n<=1000:=fun z g=>by
 obtain⟨r,h,rfl⟩:=cM.1 g;obtain⟨s,hs,rfl⟩:=(As _ r).1 h;obtain⟨d,A,rfl⟩:=cM.1 hs;have hD:=hr d (oP A);have hc:=I2 (eJ d) (dV rZ t) 0;have B:=xy rZ t;have q:=Zx (eJ d) (ch rZ t) (⟨#[]⟩:BY) (fun z g=>hr z (oP g)) cD;rw[lS]at q;refine⟨eJ d,I1 (ch rZ t) (eJ d),cntF (dV rZ t) (eJ d),rfl,OH (I0 hD),q,hc.1,?_⟩;show (dV rZ t).foldl (lL (eJ d)) 0<=1000
 omega
omit aV in
theorem OL:(Au rZ t).length<=20:=by
 have:=DG ((ch rZ t).map eJ);rw[bL]at this;have d:=sR rZ t;show (((eD ((ch rZ t).map eJ)).map (me (ch rZ t) (dV rZ t)))).length<=20
 rw[bL];omega
omit aV in
theorem OM:(AG rZ t).length<=20/\∀z∈AG rZ t,∃a b:BY,z=[.s a,.s b]/\a.data.toList.length<=20/\b.data.toList.length<=900:=by
 have g:∀z∈ch rZ t,bG z:=fun z d=>hr z (oP d);have B:=rm g;have F:=sR rZ t;have q:=oy (lt:=cR lM) (bO (ch rZ t));refine⟨?_,fun z d=>?_⟩
 ·show ((eK (bO (ch rZ t))).map rq).length<=20
  rw[bL,show (eK (bO (ch rZ t))).length=(bO (ch rZ t)).length from q.length_eq];omega
 ·obtain⟨r,A,rfl⟩:=cM.1 d
  obtain⟨s,n,rfl,hs,hm⟩:=qc g r (q.mem_iff.1 A);refine⟨s,gg n,rfl,?_,?_⟩
  ·have:=OH hm
   omega
  ·have:=s7 hs
   rw[xF,ic];omega
omit aV in
theorem ON:(DX rZ t).length<=40/\∀z∈DX rZ t,∃a b:BY,z=[.s a,.s b]/\a.data.toList.length<=20/\b.data.toList.length<=900:=by
 have A:∀z∈ch rZ t,bG z:=fun z q=>hr z (oP q);have h1:=rm A;have h2:=sR rZ t;have h3:=xy rZ t;have B:∀d∈dV rZ t,bG d:=fun d M=>hr d (vc M).1;have hH:=qc A;obtain⟨K,g⟩:∃K,K=vj (bO (ch rZ t)) (dV rZ t):=⟨_,rfl⟩
 have I:=asf (bO (ch rZ t)) (dV rZ t);rw[<-g]at I;have N:=arF (bO (ch rZ t)) (dV rZ t);rw[<-g]at N;refine⟨?_,fun z q=>?_⟩
 ·show ((vj (bO (ch rZ t)) (dV rZ t)).map _).length<=40
  rw[bL,<-g];omega
 ·obtain⟨n,F,rfl⟩:=cM.1 q
  rw[<-g]at F;refine⟨gg n,_,rfl,?_,?_⟩
  ·have:=s7 (Ol hH B ((I.2 n).1 F))
   rw[xF,ic];omega
  ·have O:=Om (n:=n) hH B
   have Y:=On (bO (ch rZ t)) (dV rZ t) n;have hol:=DG (jP (bO (ch rZ t)) (dV rZ t) n);have:=Oj [32] ((l6 (eD (jP (bO (ch rZ t)) (dV rZ t) n))).map (·.data.toList)) fun x U=>by
    obtain⟨b,W,rfl⟩:=cM.1 U;obtain⟨r,J,rfl⟩:=cM.1 W;obtain⟨s,hs,rfl⟩:=(As _ r).1 J;exact OH (O s hs)
   have e:(j0 (eD (jP (bO (ch rZ t)) (dV rZ t) n)) (⟨#[32]⟩:BY)).data.toList=[32].intercalate ((l6 (eD (jP (bO (ch rZ t)) (dV rZ t) n))).map (·.data.toList)):=by
    show (auk _).toList=_
    rfl
   rw[e];simp only[bL,l6,tt]at this|-;refine gl this ?_;omega
omit hr aV in
theorem OO:(s8 rZ t).length<=20/\∀z∈s8 rZ t,∃a:Nat,z=[.i (a:Int)]/\a<20:=by
 have g:=DH rZ t;have q:=IK (jd rZ t) (jd rZ t).length;refine⟨by show (l_ (jd rZ t) (jd rZ t).length).length<=20; omega,fun z d=>?_⟩;obtain⟨a,rfl,A⟩:=Zy (jd rZ t) (jd rZ t).length z d;exact⟨a,rfl,ab⟩
end
theorem ash{c:BY}{x y:List UInt8}(d:a.data.toList=x)(g:b.data.toList=y)(hc:c.data.toList=z)(q:(dC [x,y,z]).length<=1000):mN [.l [[.s a],[.s b],[.s c]]]=some [.s (aT (dC [x,y,z]))]:=by
 subst d g hc;exact DR [a,b,c] ai (gl q ab)
theorem Zz{x y:List UInt8}(d:a.data.toList=x)(g:b.data.toList=y)(q:(dC [x,y]).length<=1000):mN [.l [[.s a],[.s b]]]=some [.s (aT (dC [x,y]))]:=by
 subst d g;exact DR [a,b] ai (gl q ab)
theorem OP{x:List UInt8}(d:a.data.toList=x)(g:(dC [x]).length<=1000):mN [.l [[.s a]]]=some [.s (aT (dC [x]))]:=by
 subst d;exact DR [a] ai (gl g ab)
theorem xK(n:Int):(gg n).data.toList=eF n:=by rw[xF,ic]
theorem asi(d:∀z∈x,fp z/\xH z)(hn:x.length<=100):eZ Dj [.s (⟨#[]⟩:BY),.l x,.i (x.length:Int),.i 0] fun c g=>c=0/\g=[.s (aT (fG (x.map qg)))]:=by
 refine OG qg x hn (fun z q=>gl (DT (d z q).2) ab) (fun o i z A hi q hm=>?_) fun o=>?_
 ·have B:=DT (d z hm).2
  unfold Dj
  (dsimp only[go_sem])
  simp only[aZ,q,(d z hm).1.eta];refine aa.p (aa.p (aa.call (aa.eq (arR (d z hm).2)) ?_));rintro _ rfl
  (dsimp only[go_sem])
  exact aa.pos (by rw[fh,fq,fq]; omega) (aa.p (aa.some rfl))
 ·unfold Dj
  (dsimp only[go_sem])
  exact aa.n (aa.some rfl)
def ZA(z:LG):Prop:=∃(s b:BY) (n:Int),z=[.s s,.s b,.i n]/\s.data.toList.length<=10/\b.data.toList.length<=100/\0<=n/\n<=1000
theorem OQ{s:BY}{n:Int}(d:s.data.toList.length<=10)(g:b.data.toList.length<=100)(q:0<=n)(A:n<=1000):(dC (AE [.s s,.s b,.i n])).length<=200:=by
 have:=s7 (n:=n) (by unfold small; omega);have B:=Zu b.data.toList;show (dC [s.data.toList,iA b.data.toList,eF n]).length<=200
 rw[asd];omega
theorem asj(J:∀z∈x,ZA z)(hn:x.length<=100):eZ Dk [.s (⟨#[]⟩:BY),.l x,.i (x.length:Int),.i 0] fun c g=>c=0/\g=[.s (aT (fG (x.map AE)))]:=by
 refine OG AE x hn (fun z d=>?_) (fun o i z M hi d hm=>?_) fun o=>?_
 ·obtain⟨s,b,n,rfl,q,A,B,F⟩:=J z d
  exact gl (OQ q A B F) ab
 ·obtain⟨s,b,n,rfl,q,A,B,F⟩:=J z hm
  have I:=OQ q A B F;unfold Dk
  (dsimp only[go_sem])
  simp only[aZ,d]
  (dsimp only[go_sem])
  refine aa.p (aa.p (aa.call (aa.eq (Ou b)) ?_));rintro _ rfl;refine aa.cE (mf n ab ab) ?_
  (dsimp only[go_sem])
  refine aa.cE (ash (rfl:s.data.toList=_) (ic _) (xK n) (gl I ab)) ?_
  (dsimp only[go_sem])
  exact aa.pos (by
   have I:(dC [s.data.toList,iA b.data.toList,eF n]).length<=200:=I;rw[fh,fq,fq];omega) (aa.p (aa.some rfl))
 ·unfold Dk
  (dsimp only[go_sem])
  exact aa.n (aa.some rfl)
def ZB(z:LG):Prop:=∃a b:BY,z=[.s a,.s b]/\a.data.toList.length<=20/\b.data.toList.length<=900
theorem Je(d:a.data.toList.length<=20)(g:b.data.toList.length<=900):(dC (xI [.s a,.s b])).length<=950:=by
 show (dC [a.data.toList,b.data.toList]).length<=950
 rw[Zv];omega
theorem ZC(B:∀z∈x,ZB z)(hn:x.length<=100):De [.l x]=some [.s (aT (fG (x.map xI)))]:=by
 refine aa.toEq ?_;unfold De
 (dsimp only[go_sem])
 refine aa.loop (OG (st:=Dd) xI x hn (fun z d=>?_) (fun o i z F hi d hm=>?_) fun o=>?_) rfl ?_
 ·obtain⟨a,b,rfl,g,q⟩:=B z d
  exact gl (Je g q) ab
 ·obtain⟨a,b,rfl,g,q⟩:=B z hm
  have A:=Je g q;unfold Dd
  (dsimp only[go_sem])
  simp only[aZ,d]
  (dsimp only[go_sem])
  refine aa.p (aa.p (aa.call (aa.eq (Zz (rfl:a.data.toList=_) (rfl:b.data.toList=_) (gl A ab))) ?_));rintro _ rfl
  (dsimp only[go_sem])
  exact aa.pos (by
   have A:(dC [a.data.toList,b.data.toList]).length<=950:=A;rw[fh,fq,fq];omega) (aa.p (aa.some rfl))
 ·unfold Dd
  (dsimp only[go_sem])
  exact aa.n (aa.some rfl)
 ·rintro _ _ ⟨rfl,rfl⟩
  exact aa.some rfl
def OR(z:LG):Prop:=∃a:Nat,z=[.i (a:Int)]/\a<20
theorem AH(w:List UInt8):dZ [w] [32]=w:=by simp[dZ]
theorem ZD(l:LL):jf (l.map DW)=(l.map fun z=>gg (gi z 0).iV).map fun w=>[G.s w]:=by
 unfold jf;rw[ig,ig];exact pd fun z _=>congrArg (fun w=>[G.s (aT w)]) (AH (eF (gi z 0).iV))
theorem Jf(l:LL):(l.map fun z=>gg (gi z 0).iV).map (·.data.toList)=l.map fun z=>eF (gi z 0).iV:=by
 rw[ig];exact pd fun z _=>xK _
theorem ZE{B:Nat}:∀{W:List (List UInt8)},(∀ w∈W,w.length<=B)->(dZ W [32]).length<=(B+1)*W.length
 |[],_=>by simp[dZ]
 |[w],h=>by
  have:=h w ai;rw[AH];simp only[cJ,fU];omega
 |w::v::W,h=>by
  have d:=ZE (W:=v::W) fun u g=>h u (cO w g);have q:=h w ai;rw[oz,eL,eL,cJ];simp only[cJ,fU]at d|-;rw[aum];omega
theorem OS(d:∀z∈l,OR z)(hn:l.length<=20):(dC (rB l)).length<=500:=by
 unfold rB;split
 ·decide
 ·rw[Zr]
  have:=ZE (B:=20) (W:=l.map fun z=>eF (gi z 0).iV) fun w g=>by
   obtain⟨z,q,rfl⟩:=cM.1 g;obtain⟨a,rfl,A⟩:=d z q;exact s7 (n:=(a:Int)) (by unfold small; omega)
  rw[bL]at this;omega
theorem asl(d:∀z∈l,OR z)(hn:l.length<=20):Ix [.l l]=some [.s (aT (dC (rB l)))]:=by
 have hs:=OS d hn;refine aa.toEq ?_;unfold Ix
 (dsimp only[go_sem])
 by_cases h:l=[]
 ·subst h
  refine aa.pos rfl (aa.call (aa.eq (OP (x:=[110,111,110,101]) rfl cD)) ?_);rintro _ rfl;exact aa.some rfl
 ·have q:0<l.length:=Ej.2 h
  unfold rB at hs|-;rw[iN h]at hs|-;refine aa.neg (by rw[beq_eq_false_iff_ne]; omega) ?_;refine aa.loop (DV (st:=Di) DW l ab (fun o i z A hi g hm=>?_) fun o=>?_) rfl ?_
  ·obtain⟨a,rfl,B⟩:=d z hm
   unfold Di
   (dsimp only[go_sem])
   simp only[aZ,g]
   (dsimp only[go_sem])
   refine aa.p (aa.p (aa.call (aa.eq (mf a ab ab)) ?_));rintro _ rfl
   (dsimp only[go_sem])
   refine aa.pos du (aa.p (aa.pos ai (aa.some ?_)));rw[show dZ (DW [.i (a:Int)]) [32]=eF a from AH _];rfl
  ·unfold Di
   (dsimp only[go_sem])
   exact aa.n (aa.pos ai (aa.some rfl))
  ·rintro _ _ ⟨rfl,rfl⟩
   (dsimp only[go_sem])
   rw[ZD];refine aa.iy (aa.eq (DR (l.map fun z=>gg (gi z 0).iV) (by rw[bL]; omega) (by rw[Jf]; omega))) ai ?_;rintro _ rfl;rw[Jf];exact aa.some rfl
theorem asm(d:∀z∈l,OR z)(hn:l.length<=20):Dv [.l l]=some [.s (aT (dZ (rB l) [32]))]:=by
 have hs:=OS d hn;refine aa.toEq ?_;unfold Dv
 (dsimp only[go_sem])
 by_cases h:l=[]
 ·subst h
  exact aa.pos rfl (aa.some rfl)
 ·have B:0<l.length:=Ej.2 h
  unfold rB at hs|-;rw[iN h]at hs|-;refine aa.neg (by rw[beq_eq_false_iff_ne]; omega) (aa.call (P:=fun g=>g=[.s (aT (dZ (l.map fun z=>eF (gi z 0).iV) [32]))]) ?_ ?_)
  ·unfold NJ
   (dsimp only[go_sem])
   refine aa.loop (DV (st:=Du) DW l ab (fun o i z F hi q hm=>?_) fun o=>?_) rfl ?_
   ·obtain⟨a,rfl,I⟩:=d z hm
    unfold Du
    (dsimp only[go_sem])
    simp only[aZ,q]
    (dsimp only[go_sem])
    refine aa.p (aa.p (aa.call (aa.eq (mf a ab ab)) ?_));rintro _ rfl
    (dsimp only[go_sem])
    refine aa.pos du (aa.p (aa.pos ai (aa.some ?_)));rw[show dZ (DW [.i (a:Int)]) [32]=eF a from AH _];rfl
   ·unfold Du
    (dsimp only[go_sem])
    exact aa.n (aa.pos ai (aa.some rfl))
   ·rintro _ _ ⟨rfl,rfl⟩
    (dsimp only[go_sem])
    rw[fu,ZD];have A:=Zl (l.map fun z=>gg (gi z 0).iV) (by rw[bL]; omega) (by rw[Jf]; omega);refine aa.iy (aa.eq A) ai ?_;rintro _ rfl;rw[Jf];exact aa.some rfl
  ·rintro _ rfl
   exact aa.some rfl
section
variable (rZ:LL) (t:Int) (hr:∀z∈rZ,bG z) (hn:rZ.length<=20) (aV:jN rZ)
include hr hn aV
theorem asn(p:List UInt8):Iy [.l [[.l rZ,.i t]],.s (aT p)]=some [.s (aT (fG (gI rZ t p).1)),.i (gI rZ t p).2]:=by
 have J:∀z∈ch rZ t,bG z:=fun z U=>hr z (oP U);have N:∀d∈dV rZ t,bG d:=fun d M=>hr d (vc M).1;obtain⟨W,_,h3⟩:=DN (ch rZ t) J;have hfn:=sR rZ t;have hll:=xy rZ t;have hcl:=DH rZ t;refine aa.toEq ?_;unfold Iy
 (dsimp only[go_sem])
 refine aa.cE (ase p) ?_
 (dsimp only[go_sem])
 by_cases q:p∈xJ
 case neg=>
  rw[decide_eq_false q];refine aa.pos rfl (aa.some ?_);simp only[xJ,cy,ke,or_false,not_or]at q;obtain⟨Y,a2,a3,a4,a5,a6⟩:=q;unfold gI;rw[iN Y,iN a2,iN a3,iN a4,iN a5,iN a6];rfl
 rw[dE q];refine aa.neg rfl (aa.call (aa.eq (aqD rZ t hr hn)) ?_);rintro _ rfl
 (dsimp only[go_sem])
 simp only[aZ];refine aa.neg rfl ?_;simp only[xJ,cy,ke,or_false]at q;rcases q with rfl|rfl|rfl|rfl|rfl|rfl
 ·refine aa.pos (nA (k:=oS) rfl) (aa.loop (asi (x:=(dV rZ t).map a_) (OJ rZ t hr hn aV) (by rw[bL]; omega)) rfl ?_)
  rintro _ _ ⟨rfl,rfl⟩;exact aa.some rfl
 ·refine aa.neg (jg (k:=oS) cD) (aa.pos (nA (k:=qj) rfl) (aa.call (aa.eq (aqS (ch rZ t) _ _ _ _ _ (aqW rZ t hr hn) ab (by rw[bL]; omega))) ?_))
  rintro _ rfl
  (dsimp only[go_sem])
  have e:(eD ((ch rZ t).map eJ)).map (me (ch rZ t) ((dV rZ t).map eB))=Au rZ t:=by
   unfold Au me;simp only[aqN]
  rw[e];have M:=OL rZ t hr hn;refine aa.loop (asj (OK rZ t hr hn) ab) rfl ?_;rintro _ _ ⟨rfl,rfl⟩;exact aa.some rfl
 ·refine aa.neg (jg (k:=oS) cD) (aa.neg (jg (k:=qj) cD) (aa.pos (nA (k:=ry) rfl) (aa.call (aa.eq (aq3 (by rw[bL]; omega) ab W.gq)) ?_)))
  rintro _ rfl;rw[YD 99999 1 ab ab (arl rZ t hr hn)];have hx:=OI rZ t;have e:∀A B C D E F:G,[A,B,C,D,E,F]++I6 (kK (fun n => !((vh rZ t).contains n)) 99999 1)=[A,B,C,D,E,F,.i (gi (jz rZ t) 0).iV,.i (gi (jz rZ t) 1).iV]:=by
   intro A B C D E F;unfold jz;cases kK (fun n => !((vh rZ t).contains n)) 99999 1<;>rfl
  rw[e]
  (dsimp only[go_sem])
  refine aa.cE (mf _ ab ab) ?_
  (dsimp only[go_sem])
  refine aa.call (aa.eq (OP (xK _) (by
   have:=s7 (n:=(gi (jz rZ t) 0).iV) (by unfold small; omega);rw[Zw];omega))) ?_
  rintro _ rfl;refine aa.some ?_;show _=[G.s (aT (fG [[eF (gi (jz rZ t) 0).iV]])),.i (gi (jz rZ t) 1).iV]
  rw[show fG [[eF (gi (jz rZ t) 0).iV]]=dC [eF (gi (jz rZ t) 0).iV] from by simp[fG]];rfl
 ·refine aa.neg (jg (k:=oS) cD) (aa.neg (jg (k:=qj) cD) (aa.neg (jg (k:=ry) cD) (aa.pos (nA (k:=rz) rfl) (aa.call (aa.eq (ark J ab)) ?_))))
  rintro _ rfl
  (dsimp only[go_sem])
  have I:=OM rZ t hr hn;refine aa.cE (ZC (x:=AG rZ t) I.2 ab) ?_;exact aa.some rfl
 ·refine aa.neg (jg (k:=oS) cD) (aa.neg (jg (k:=qj) cD) (aa.neg (jg (k:=ry) cD) (aa.neg (jg (k:=rz) cD) (aa.pos (nA (k:=rA) rfl) (aa.call (aa.eq (arv J ab N ab)) ?_)))))
  rintro _ rfl
  (dsimp only[go_sem])
  have I:=ON rZ t hr hn;refine aa.cE (ZC (x:=DX rZ t) I.2 ab) ?_;exact aa.some rfl
 ·refine aa.neg (jg (k:=oS) cD) (aa.neg (jg (k:=qj) cD) (aa.neg (jg (k:=ry) cD) (aa.neg (jg (k:=rz) cD) (aa.neg (jg (k:=rA) cD) (aa.call (P:=fun g=>gi g 6=.l (s8 rZ t)) ?_ ?_)))))
  ·unfold M_
   (dsimp only[go_sem])
   simp only[aZ];have O:HI [.l (jd rZ t)]=some [.l (s8 rZ t),.i 0]:=by
    refine aa.toEq ?_;unfold HI
    (dsimp only[go_sem])
    refine aa.cE (apD (jd rZ t) (DI rZ t hr hn) ab) ?_
    (dsimp only[go_sem])
    refine aa.neg (by rw[Yu rZ t hr hn aV]; rfl) (aa.call (aa.eq (apG (jd rZ t) (DI rZ t hr hn) ab)) ?_);rintro _ rfl;exact aa.some rfl
   refine aa.cE O ?_;exact aa.some rfl
  ·rintro g hg
   rw[hg]
   (dsimp only[go_sem])
   have I:=OO rZ t hn;refine aa.cE (asl I.2 I.1) ?_;refine aa.some ?_;show _=[G.s (aT (fG [rB (s8 rZ t)])),.i 0]
   rw[show fG [rB (s8 rZ t)]=dC (rB (s8 rZ t)) from by simp[fG]];rfl
end
theorem aso(d:∀z∈x,fp z/\xH z)(hn:x.length<=100):eZ Dw [.l [],.l x,.i (x.length:Int),.i 0] fun c g=>c=0/\g=[.l (jf (x.map qg))]:=by
 refine DV qg x hn (fun o i z A hi q hm=>?_) fun o=>?_
 ·unfold Dw
  (dsimp only[go_sem])
  simp only[aZ,q,(d z hm).1.eta];refine aa.p (aa.p (aa.call (aa.eq (ar8 (d z hm).2)) ?_));rintro _ rfl
  (dsimp only[go_sem])
  exact aa.pos du (aa.p (aa.pos ai (aa.some rfl)))
 ·unfold Dw
  (dsimp only[go_sem])
  exact aa.n (aa.pos ai (aa.some rfl))
theorem asp(a b:BY):a++(⟨#[32]⟩:BY)++b=aT (dZ [a.data.toList,b.data.toList] [32]):=AB (by
 rw[ic];simp[dZ])
theorem asq(a b c:BY):a++(⟨#[32]⟩:BY)++b++(⟨#[32]⟩:BY)++c=aT (dZ [a.data.toList,b.data.toList,c.data.toList] [32]):=AB (by
 rw[ic];simp[dZ])
theorem asr(q:∀z∈x,ZA z)(hn:x.length<=100):eZ Dx [.l [],.l x,.i (x.length:Int),.i 0] fun c g=>c=0/\g=[.l (jf (x.map AE))]:=by
 refine DV AE x hn (fun o i z I hi A hm=>?_) fun o=>?_
 ·obtain⟨s,b,n,rfl,J,M,N,O⟩:=q z hm
  have U:=Zu b.data.toList;have B:=s7 (n:=n) (by unfold small; omega);have hs:=lS s;have F:(gg n).size<=20:=by rw[lS,xK]; exact B
  have d:(⟨#[32]⟩:BY).size=1:=rfl;unfold Dx
  (dsimp only[go_sem])
  simp only[aZ,A]
  (dsimp only[go_sem])
  refine aa.p (aa.p (aa.pos (by rw[fh]; omega) (aa.call (aa.eq (OC b)) ?_)));rintro _ rfl
  (dsimp only[go_sem])
  simp only[auo,d,fq];refine aa.pos (by rw[fh]; omega) (aa.pos (by rw[fh]; omega) (aa.call (aa.eq (mf n ab ab)) ?_));rintro _ rfl
  (dsimp only[go_sem])
  refine aa.pos (by rw[fh]; omega) (aa.pos du (aa.p (aa.pos ai (aa.some ?_))));rw[asq,ic,xK];rfl
 ·unfold Dx
  (dsimp only[go_sem])
  exact aa.n (aa.pos ai (aa.some rfl))
theorem ZF(q:∀z∈x,ZB z)(hn:x.length<=100):eZ uQ [.l [],.l x,.i (x.length:Int),.i 0] fun c g=>c=0/\g=[.l (jf (x.map xI))]:=by
 refine DV xI x hn (fun o i z B hi A hm=>?_) fun o=>?_
 ·obtain⟨a,b,rfl,F,I⟩:=q z hm
  have J:=lS a;have M:=lS b;have d:(⟨#[32]⟩:BY).size=1:=rfl;unfold uQ
  (dsimp only[go_sem])
  simp only[aZ,A]
  (dsimp only[go_sem])
  simp only[auo,d];refine aa.p (aa.p (aa.pos (by rw[fh]; omega) (aa.pos (by rw[fh]; omega) (aa.pos du (aa.p (aa.pos ai (aa.some ?_)))))));rw[asp];rfl
 ·unfold uQ
  (dsimp only[go_sem])
  exact aa.n (aa.pos ai (aa.some rfl))
theorem DY:(0:Int)<=0/\(0:Int)<=100:=cD
section
variable (rZ:LL) (t:Int) (hr:∀z∈rZ,bG z) (hn:rZ.length<=20) (aV:jN rZ)
include hr hn aV
theorem ass(p:List UInt8):IF [.l rZ,.s (aT p),.i t]=some [.l (jf (gI rZ t p).1),.i (gI rZ t p).2]:=by
 have N:=DH rZ t;have J:=OM rZ t hr hn;have I:=ON rZ t hr hn;have F:=OO rZ t hn;have M:=OL rZ t hr hn;refine aa.toEq ?_;unfold IF
 (dsimp only[go_sem])
 refine aa.cE (show xc [.l rZ,.i t]=some [.l (jd rZ t),.l (IY rZ t)] from Yc rZ t hr hn aV) ?_
 (dsimp only[go_sem])
 by_cases d:p=oS
 ·subst d
  refine aa.pos (nA (k:=oS) rfl) (aa.loop (aso (OJ rZ t hr hn aV) ab) rfl ?_);rintro _ _ ⟨rfl,rfl⟩;exact aa.pos ai (aa.some rfl)
 refine aa.neg (jg (k:=oS) d) ?_;by_cases g:p=qj
 ·subst g
  refine aa.pos (nA (k:=qj) rfl) (aa.call (aa.eq (aqX rZ t hr hn aV)) ?_);rintro _ rfl
  (dsimp only[go_sem])
  refine aa.loop (asr (OK rZ t hr hn) ab) rfl ?_;rintro _ _ ⟨rfl,rfl⟩;exact aa.pos ai (aa.some rfl)
 refine aa.neg (jg (k:=qj) g) ?_;by_cases q:p=ry
 ·subst q
  have O:=OI rZ t;refine aa.pos (nA (k:=ry) rfl) (aa.call (aa.eq (show C6 [.l rZ,.i t]=some (jz rZ t) from arn rZ t hr hn aV)) ?_);rintro _ rfl;refine aa.cE (mf _ ab ab) ?_;refine aa.some ?_;show _=[G.l (jf [[eF (gi (jz rZ t) 0).iV]]),.i (gi (jz rZ t) 1).iV]
  rw[show jf [[eF (gi (jz rZ t) 0).iV]]=[[G.s (gg (gi (jz rZ t) 0).iV)]] from congrArg (fun w=>[[G.s (aT w)]]) (AH _)];rfl
 refine aa.neg (jg (k:=ry) q) ?_;by_cases A:p=rz
 ·subst A
  refine aa.pos (nA (k:=rz) rfl) (aa.pos (nA (k:=rz) rfl) (aa.call (aa.eq (show zX [.l rZ,.i t]=some [.l (AG rZ t)] from YQ rZ t hr hn aV)) ?_));rintro _ rfl
  (dsimp only[go_sem])
  refine aa.neg (jg (k:=rA) cD) (aa.loop (ZF J.2 ab) rfl ?_);rintro _ _ ⟨rfl,rfl⟩;exact aa.pos ai (aa.some rfl)
 refine aa.neg (jg (k:=rz) A) ?_;by_cases a5:p=rA
 ·subst a5
  refine aa.pos (nA (k:=rA) rfl) (aa.call (aa.eq (show zX [.l rZ,.i t]=some [.l (AG rZ t)] from YQ rZ t hr hn aV)) ?_);rintro _ rfl;refine aa.pos (nA (k:=rA) rfl) (aa.call (aa.eq (show Dt [.l rZ,.i t]=some [.l (DX rZ t)] from arE rZ t hr hn aV)) ?_);rintro _ rfl
  (dsimp only[go_sem])
  refine aa.loop (ZF I.2 ab) rfl ?_;rintro _ _ ⟨rfl,rfl⟩;exact aa.pos ai (aa.some rfl)
 refine aa.neg (jg (k:=rA) a5) ?_;by_cases B:p=AF
 ·subst B
  refine aa.pos (nA (k:=AF) rfl) (aa.call (aa.eq (show C9 [.l (jd rZ t)]=some [.l (s8 rZ t)] from apK (jd rZ t) (DI rZ t hr hn) ab)) ?_);rintro _ rfl
  (dsimp only[go_sem])
  refine aa.cE (asm F.2 F.1) ?_;exact aa.some rfl
 refine aa.neg (jg (k:=AF) B) (aa.some ?_);unfold gI;rw[iN d,iN g,iN q,iN A,iN a5,iN B];rfl
omit hr hn aV in
theorem Jg{B:Nat}{f:LG->List (List UInt8)} (h:∀z∈x,(dC (f z)).length<=B):∀w∈x.map f,(dC w).length<=B:=fun w d=>by
 obtain⟨z,g,rfl⟩:=cM.1 d;exact h z g
theorem OT(p:List UInt8):(∀w∈(gI rZ t p).1,(dC w).length<=1000)/\(gI rZ t p).1.length<=100/\0<=(gI rZ t p).2/\(gI rZ t p).2<=100:=by
 have O:=DH rZ t;have I:=OM rZ t hr hn;have F:=ON rZ t hr hn;have B:=OO rZ t hn;have N:=OL rZ t hr hn;have U:=OI rZ t;unfold gI;split
 ·exact⟨Jg fun z d=>gl (DT (OJ rZ t hr hn aV z d).2) ab,by rw[bL]; omega,DY⟩
 split
 ·refine⟨Jg fun z d=>?_,by rw[bL]; omega,DY⟩
  obtain⟨s,b,n,rfl,g,q,J,M⟩:=OK rZ t hr hn z d;exact gl (OQ g q J M) ab
 split
 ·refine⟨fun w A=>?_,ai,ab,ab⟩
  rw[ij.1 A,Zw];have:=s7 (n:=(gi (jz rZ t) 0).iV) (by unfold small; omega);omega
 split
 ·refine⟨Jg fun z d=>?_,by rw[bL]; omega,DY⟩
  obtain⟨a,b,rfl,g,q⟩:=I.2 z d;exact gl (Je g q) ab
 split
 ·refine⟨Jg fun z d=>?_,by rw[bL]; omega,DY⟩
  obtain⟨a,b,rfl,g,q⟩:=F.2 z d;exact gl (Je g q) ab
 split
 ·refine⟨fun w A=>?_,ai,DY⟩
  rw[ij.1 A];exact gl (OS B.2 B.1) ab
 ·exact⟨(fun w A=>by cases A),ai,cD,cD⟩
end
def vn(e:Int):List UInt8:=dC [[101,114,114,111,114],eF e]
theorem DZ{e:Int}(d:0<=e)(g:e<=100):(vn e).length<=30:=by
 have:=s7 (n:=e) (by unfold small; omega);unfold vn;rw[Zv];simp only[cJ,fU];omega
theorem OU{e:Int}(d:0<=e)(g:e<=100):C_ [.i e]=some [.s (aT (vn e))]:=by
 have q:=DZ d g;refine aa.toEq ?_;unfold C_
 (dsimp only[go_sem])
 refine aa.cE (mf e ab ab) ?_
 (dsimp only[go_sem])
 refine aa.cE (Zz (x:=[101,114,114,111,114]) rfl (xK e) (gl q ab)) ?_;exact aa.some rfl
theorem ast(n:Int):sF [.i n]=some [.t (cC n 0 345686399999)]:=by
 unfold sF
 (dsimp only[go_sem])
 rw[rh];show some [G.t (!(!cC n 0 345686399999))]=_
 rw[Bool.not_not]
theorem asu(n:Int):uO [.i n]=some [.t (cC n 0 345686399999)]:=by
 unfold uO
 (dsimp only[go_sem])
 rw[NR];rfl
def oT(rZ:LL)(t:Int)(p:List UInt8):List UInt8 × Int:=
 if mg vm p=true then
  (match l8 15 (p.drop 3)with
  |none=>(vn 9,t)
  |some n=>if cC n 0 345686399999=true then (dC [[111,107]],n) else (vn 1,t))
 else (if (gI rZ t p).2=0 then fG (gI rZ t p).1 else vn (gI rZ t p).2,t)
theorem asv(rZ:LL)(t:Int)(w:List UInt8)(F:w.length<=1000):Il [.l rZ,.i t,.s (aT w)]=some (match l8 15 w with
  |none=>[.l rZ,.i t,.s (⟨#[]⟩:BY),.i 9]
  |some n=>if cC n 0 345686399999=true then [.l rZ,.i n,.s (aT (dC [[111,107]])),.i 0] else [.l rZ,.i t,.s (⟨#[]⟩:BY),.i 1]):=by
 have h:=ar5 [w] ai (fun y A=>by rw[ij.1 A]; omega);refine aa.toEq ?_;unfold Il
 (dsimp only[go_sem])
 cases d:l8 15 w with
 |none=>
  have q:qh [w]=false:=by simp[qh,d]
  rw[q]at h;refine aa.cE (show zB [.l [[.s (aT w)]]]=some [.l [],.t false] from h) ?_;exact aa.pos rfl (aa.some rfl)
 |some n=>
  have q:qh [w]=true:=by simp[qh,d]
  have B:qi [w]=[n]:=by simp[qi,d]
  rw[q,B]at h;refine aa.cE (show zB [.l [[.s (aT w)]]]=some [.l [[.i n]],.t true] from h) ?_
  (dsimp only[go_sem])
  refine aa.neg rfl (aa.pos rfl (aa.call (aa.eq (ast n)) ?_));rintro _ rfl
  (dsimp only[go_sem])
  show aa _ fun g=>g=if cC n 0 345686399999=true then _ else _
  cases I:cC n 0 345686399999 with
  |false=>
   rw[iN cD];exact aa.pos rfl (aa.some rfl)
  |true=>
   rw[iP rfl];refine aa.neg rfl (aa.pos rfl (aa.call (aa.eq (OP (x:=[111,107]) rfl cD)) ?_));rintro _ rfl;exact aa.some rfl
section
variable (rZ:LL) (t:Int) (hr:∀z∈rZ,bG z) (hn:rZ.length<=20) (aV:jN rZ)
include hr hn aV
theorem asw(p:List UInt8)(g:p.length<=1000):Iz [.l rZ,.i t,.s (aT p)]=some [.l rZ,.i (oT rZ t p).2,.s (aT (oT rZ t p).1)]:=by
 have d:=OT rZ t hr hn aV p;refine aa.toEq ?_;unfold Iz
 (dsimp only[go_sem])
 refine aa.cE (Zm p) ?_
 (dsimp only[go_sem])
 unfold oT;cases q:mg vm p with
 |true=>
  rw[iP rfl];simp only[cT];refine aa.cE (asv rZ t (p.drop 3) (by rw[te]; omega)) ?_;cases A:l8 15 (p.drop 3)with
  |none=>
   refine aa.pos rfl (aa.call (aa.eq (OU (e:=9) cD cD)) ?_);rintro _ rfl;exact aa.some rfl
  |some n=>
   dsimp only;cases B:cC n 0 345686399999 with
   |false=>
    simp only[tb,if_false];refine aa.pos rfl (aa.call (aa.eq (OU (e:=1) cD cD)) ?_);rintro _ rfl;exact aa.some rfl
   |true=>
    simp only[if_true];exact aa.neg rfl (aa.some rfl)
 |false=>
  rw[iN cD];simp only[cF];refine aa.cE (asn rZ t hr hn aV p) ?_
  (dsimp only[go_sem])
  by_cases he:(gI rZ t p).2=0
  ·rw[iP he,he]
   exact aa.neg rfl (aa.some rfl)
  ·rw[iN he]
   refine aa.pos (by simpa using he) (aa.call (aa.eq (OU d.2.2.1 d.2.2.2)) ?_);rintro _ rfl;exact aa.some rfl
theorem OV(p:List UInt8):(oT rZ t p).1.length<=100000:=by
 have d:=OT rZ t hr hn aV p;unfold oT;split
 ·split
  ·exact gl (DZ cD cD) ab
  ·split
   ·show (dC [[111,107]]).length<=100000
    decide
   ·exact gl (DZ cD cD) ab
 ·show (if (gI rZ t p).2=0 then _ else _:List UInt8).length<=_
  split
  ·have:=OE d.1
   have g:=aun 1000 d.2.1;omega
  ·exact gl (DZ d.2.2.1 d.2.2.2) ab
omit hr hn aV in
theorem asz(h:mg vm p=true):gI rZ t p=([],9):=by
 have d:∀k:List UInt8,mg vm k=false->p≠k:=fun k g e=>by
  rw[e,g]at h;cases h
 unfold gI;rw[iN (d oS cD),iN (d qj cD),iN (d ry cD),iN (d rz cD),iN (d rA cD),iN (d AF cD)]
omit hr hn aV in
theorem ZG(r:BY)(o:List UInt8)(d:o.length<=10000000){w:List (List UInt8)}(q:b=aT (dZ w [32]))(A:(dC w).length<=1000):
  eZ mO [.l rZ,.s (aT o),.i t,.s r,.l [[.s b]],.i 1,.i 0] fun c g=>c=0/\g=[.l rZ,.s (aT (o++dC w)),.i t,.s r]:=by
 subst q;have h:=Zt rZ t r [w] (fun v B=>by rw[ij.1 B]; exact A) ai o d;rw[show fG [w]=dC w from by simp[fG]]at h;exact h
omit hr hn aV in
theorem asA(e:Int):(⟨#[101,114,114,111,114,32]⟩:BY)++gg e=aT (dZ [[101,114,114,111,114],eF e] [32]):=by
 rw[xF,show (⟨#[101,114,114,111,114,32]⟩:BY)=aT [101,114,114,111,114,32] from rfl,xE,oz,AH];rfl
theorem round_eq(p:List UInt8)(hp:p.length<=1000)(r x:BY)(o:List UInt8)(B:o.length<=10000000) :
  NM (aT (p++[10])) r [.l rZ,.s (aT o),.i t,.s x]=some [.l rZ,.s (aT (o++(oT rZ t p).1)),.i (oT rZ t p).2,.s r]:=by
 have A:=OT rZ t hr hn aV p;have W:∀{e:Int},0<=e->e<=100->(gg e).size<=20:=fun {e} F I=>by
  rw[lS,xK];exact s7 (by unfold small; omega)
 refine aa.toEq ?_;unfold NM
 (dsimp only[go_sem])
 refine aa.cE (ar' p ab) ?_
 (dsimp only[go_sem])
 refine aa.cE (ass rZ t hr hn aV p) ?_
 (dsimp only[go_sem])
 refine aa.cE (Zm p) ?_
 (dsimp only[go_sem])
 have M:∀(e:Int) (k:LG->Option LG) (Q:LG->Prop),0<=e->e<=100->(Q [.l rZ,.s (aT (o++vn e)),.i t,.s r]) ->
   (∀g,k g=some [.l (gi g 0).rZ,.s (gi g 1).sV,.i (gi g 2).iV,.s (gi g 3).sV]) ->
   aa (az (gz [.i e]) fun O=>(bif (bW (6+(gi O 0).sV.size) 9223372036854775807) then (bp true (bR mO [.l rZ,.s (aT o),.i t,.s r,.l [[.s ((⟨#[101,114,114,111,114,32]⟩:BY)++(gi O 0).sV)]],.i 1,.i 0]) fun cg9 Y=>k Y) else none)) Q:=by
  intro e k Q F I hQ J;have hs:=W F I;refine aa.cE (mf e ab ab) ?_
  (dsimp only[go_sem])
  refine aa.pos (by rw[fh]; omega) (aa.loop (ZG rZ t r o B (asA e) (gl (DZ F I) ab)) rfl ?_);rintro _ _ ⟨rfl,rfl⟩;rw[J];exact aa.some hQ
 have other:aa (bif (gI rZ t p).2 != 0 then (az (gz [.i (gI rZ t p).2]) fun N=>(bif (bW (6+(gi N 0).sV.size) 9223372036854775807) then (bp true (bR mO [.l rZ,.s (aT o),.i t,.s r,.l [[.s ((⟨#[101,114,114,111,114,32]⟩:BY)++(gi N 0).sV)]],.i 1,.i 0]) fun cg14 d=>some [G.l (gi d 0).rZ,.s (gi d 1).sV,.i (gi d 2).iV,.s (gi d 3).sV]) else none)) else (bp true (bR mO [.l rZ,.s (aT o),.i t,.s r,.l (jf (gI rZ t p).1),.i ((jf (gI rZ t p).1).length:Int),.i 0]) fun cg15 q=>some [G.l (gi q 0).rZ,.s (gi q 1).sV,.i (gi q 2).iV,.s (gi q 3).sV]))
   fun g=>g=[.l rZ,.s (aT (o++if (gI rZ t p).2=0 then fG (gI rZ t p).1 else vn (gI rZ t p).2)),.i t,.s r]:=by
  by_cases he:(gI rZ t p).2=0
  ·rw[iP he,he,OF]
   refine aa.neg rfl (aa.loop (Zt rZ t r (gI rZ t p).1 A.1 A.2.1 o B) rfl ?_);rintro _ _ ⟨rfl,rfl⟩;exact aa.some rfl
  ·rw[iN he]
   exact aa.pos (by simpa using he) (M (gI rZ t p).2 _ _ A.2.2.1 A.2.2.2 rfl fun g=>rfl)
 unfold oT;cases J:mg vm p with
 |false=>
  rw[iN cD];exact aa.neg rfl other
 |true=>
  rw[iP rfl];simp only[cT];refine aa.call (ar1 (aT (p.drop 3)) (by rw[fq,te]; omega)) ?_;rintro _ ⟨n,rfl,U⟩
  (dsimp only[go_sem])
  rw[ic]at U|-;cases hl:l8 15 (p.drop 3)with
  |none=>
   refine aa.neg rfl ?_;rw[asz rZ t J]at other|-;exact other
  |some v=>
   obtain rfl:=U v hl;refine aa.pos rfl (aa.call (aa.eq (asu n)) ?_);rintro _ rfl
   (dsimp only[go_sem])
   cases hb:cC n 0 345686399999 with
   |false=>
    simp only[tb,if_false];exact aa.neg rfl (M 1 _ _ cD cD rfl fun g=>rfl)
   |true=>
    simp only[if_true];refine aa.pos rfl (aa.loop (ZG rZ n r o B (w:=[[111,107]]) rfl cD) rfl ?_);rintro _ _ ⟨rfl,rfl⟩;exact aa.some rfl
end
def OW:List BY:=[⟨#[108,111,103,10]⟩,⟨#[100,101,115,107,115,10]⟩,⟨#[110,101,120,116,10]⟩,⟨#[104,101,108,100,10]⟩,⟨#[99,108,97,115,104,101,115,10]⟩,⟨#[100,117,112,101,115,10]⟩,⟨#[97,116,32,48,10]⟩,⟨#[97,116,32,54,48,10]⟩,⟨#[97,116,32,49,48,10]⟩,⟨#[97,116,32,45,49,10]⟩,⟨#[97,116,32,120,10]⟩,⟨#[104,101,121,10]⟩,⟨#[110,101,120,116,32,49,10]⟩,⟨#[10]⟩,⟨#[97,116,32,32,53,10]⟩]
def nB(p:List UInt8):Prop:=p.length<=10/\(10:UInt8)∉p
theorem AI{z:List UInt8}:∀{L:List (List UInt8)},(∀ p∈L,nB p)->(cL L z).length<=11*L.length+z.length
 |[],_=>by simp[cL]
 |p::L,h=>by
  have g:=AI (z:=z) (L:=L) fun q d=>h q (cO p d);have A:=(h p dG).1;rw[Oy,eL,cJ,cJ];omega
theorem asC(L:List (List UInt8))(p:List UInt8):cL L []++(p++[10])=cL (L++[p]) []:=by simp[cL]
theorem asD:(OW.all fun b=>bW b.data.toList.dropLast.length 10&&(!(b.data.toList.dropLast.contains 10)&&(b.data.toList.getLast?==some 10)))=true:=aj
theorem asE{v:BY}(h:v∈OW):∃p,v=aT (p++[10])/\nB p:=by
 have:=eX.1 asD v h;simp only[aR,fh,nD,beq_iff_eq]at this;obtain⟨g,d,q⟩:=this;refine⟨v.data.toList.dropLast,?_,g,fun hm=>?_⟩
 ·rw[<- xD v]
  congr 1;rw[ic];obtain⟨A,e⟩:=List.getLast?_eq_some_iff.1 q;rw[e];simp
 ·rw[lp.2 hm]at d
  cases d
def ZH:List BY:=[⟨#[108,111,103]⟩,⟨#[120]⟩]
theorem asF(l:LL)(a:Int)(W:0<=a)(ha1:a<=900000) :
  aa (G7 [.l l,.i a]) fun g=>∃(b:Int) (L:List (List UInt8)) (z:List UInt8),g=[.l l,.i b,.s (aT (cL L z))]/\L.length<=5/\(∀p∈L,nB p)/\nB z:=by
 unfold G7
 (dsimp only[go_sem])
 refine aa.call (Ah l a 0 5 W ab ab ab ab) ?_;rintro _ ⟨n,rfl,O,hn1⟩
 (dsimp only[go_sem])
 obtain⟨n,rfl⟩:=aao O;refine aa.loop (P:=fun c g=>c=0/\∃(b:Int) (L:List (List UInt8)),g=[.l l,.i b,.s (aT (cL L []))]/\0<=b/\b<=900100/\L.length<=5/\∀p∈L,nB p) ?_ rfl ?_
 ·refine ((uD (σ:=Int × List (List UInt8)) (fun q i=>[.l l,.i q.1,.s (aT (cL q.2 [])),.i (n:Int),.i (i:Int)]) n (fun q=>(0,[.l l,.i q.1,.s (aT (cL q.2 []))])) (fun q i=>0<=q.1/\q.1<=900001+i/\q.2.length=i/\∀ p∈q.2,nB p)
   (fun c g=>False) ?_ ?_ n (a+1,[]) 0 ab ⟨by simp only; omega,by simp only; omega,rfl,fun p d=>by cases d⟩).to ab).mono ?_
  ·rintro⟨b,L⟩ i ⟨M,Y,h3,F⟩ hi
   simp only at M Y h3 F;have I:=AI (z:=[]) F;simp only[fU]at I;unfold G6
   (dsimp only[go_sem])
   refine aa.p (aa.call (lH OW l b _ M ab (by rfl) aj) ?_);rintro _ ⟨v,rfl,A⟩;obtain⟨p,rfl,d⟩:=asE A
   (dsimp only[go_sem])
   have hpl:=d.1;refine aa.pos (by rw[fh,fq,fq,eL,tt]; omega) (aa.pos (vS.2 ⟨ab,ab⟩) (aa.some (.inl ⟨(b+1,L++[p]),?_,?_⟩)))
   ·simp only
    rw[xE,asC];rfl
   ·refine⟨by simp only; omega,by simp only; omega,by simp only[eL,tt]; omega,fun q B=>?_⟩
    rcases cY.1 B with B|B
    ·exact F q B
    ·rw[ij.1 B]
     exact d
  ·rintro⟨b,L⟩ _
   unfold G6
   (dsimp only[go_sem])
   exact aa.n (aa.some rfl)
  ·rintro c g (⟨⟨b,L⟩,h,rfl,rfl⟩ | h)
   ·exact⟨rfl,b,L,rfl,h.1,by have:=h.2.1; simp only at this; omega,by have:=h.2.2.1; simp only at this; omega,h.2.2.2⟩
   ·exact h.elim
 ·rintro c g ⟨rfl,b,L,rfl,U,hb1,N,d⟩
  (dsimp only[go_sem])
  have I:=AI (z:=[]) d;simp only[fU]at I;refine aa.call (Dy l b 20 U ab ab ab) ?_;rintro _ ⟨f,rfl⟩
  (dsimp only[go_sem])
  refine aa.test (fun _=>?_) fun _=>aa.some ⟨b+1,L,[],rfl,N,d,cD,cD⟩;refine aa.call (lH ZH l (b+1) _ ab ab (by rfl) aj) ?_;rintro _ ⟨v,rfl,A⟩;have A:∃z,v=aT z/\nB z:=by
   simp only[ZH,cy,ke,or_false]at A;rcases A with rfl|rfl
   ·exact⟨[108,111,103],rfl,cD,cD⟩
   ·exact⟨[120],rfl,cD,cD⟩
  obtain⟨z,rfl,J⟩:=A
  (dsimp only[go_sem])
  have hzl:=J.1;refine aa.pos (by rw[fh,fq,fq]; omega) (aa.some ⟨b+1+1,L,z,?_,N,d,J⟩);rw[xE];show [G.l l,.i _,.s (aT (cL L []++z))]=_
  simp[cL]
def j8(rZ:LL)(s:Int × List UInt8)(p:List UInt8):Int × List UInt8:=((oT rZ s.1 p).2,s.2++(oT rZ s.1 p).1)
section
variable (rZ:LL) (hr:∀z∈rZ,bG z) (hn:rZ.length<=20) (aV:jN rZ)
include hr hn aV
theorem ZI:∀(L:List (List UInt8)) (s:Int × List UInt8),(L.foldl (j8 rZ) s).2.length<=s.2.length+100000*L.length
 |[],s=>by simp
 |p::L,s=>by
  have d:=ZI L (j8 rZ s p);have g:=OV rZ s.1 hr hn aV p;have q:(j8 rZ s p).2.length=s.2.length+(oT rZ s.1 p).1.length:=eL;rw[lO,cJ];omega
theorem ZJ(r0:LL)(M:r0=rZ):∀(L:List (List UInt8)) (N:Nat) (s:Int × List UInt8),(∀p∈L,nB p)->L.length<N->L.length<=5->s.2.length+100000*L.length<=1000000 ->
  uz uR pY.rest pY.st N [.l rZ,.s (aT s.2),.i s.1,.s (aT (cL L []))]=some [.l rZ,.s (aT (L.foldl (j8 rZ) s).2),.i (L.foldl (j8 rZ) s).1,.s (⟨#[]⟩:BY)]
 |[],0,_,_,d,_,_=>by simp at d
 |[],N+1,s,_,_,_,_=>rfl
 |p::L,0,_,_,d,_,_=>by simp at d
 |p::L,N+1,s,F,d,W,hs=>by
  simp only[cJ]at d W hs;have I:=F p dG;have J:∀q∈L,nB q:=fun q g=>F q (cO p g);have O:=AI (z:=[]) J;simp only[fU]at O;have e:cL (p::L) []=(p++[10])++cL L []:=by rw[Oy]; simp
  have Y:(p++[10])++cL L []=p++10::cL L []:=ai;have A:uR (aT (cL (p::L) []))=(p.length:Nat):=by
   show mW (aT (cL (p::L) [])).data.toList ((10:Int).toNat.toUInt8)=_
   rw[ic,e,Y];exact Mp _ I.2
  have hll:(p++[10]).length=p.length+1:=ai;have B:((p.length:Nat)+(1:Int)).toNat=(p++[10]).length:=ab;have hh:kD uR (aT (cL (p::L) []))=aT (p++[10]):=by
   unfold kD;rw[A,iP ab,B,DU,e,List.take_left,aap]
  have U:kZ uR (aT (cL (p::L) []))=aT (cL L []):=by
   unfold kZ;rw[A,iP ab,B,fq,DU,e,fu];simp
  have hz:(aT (cL (p::L) [])).size=(p++[10]).length+(cL L []).length:=by rw[fq,e,eL]
  have hpl:=I.1;have h2:=OV rZ s.1 hr hn aV p;have ih:=ZJ r0 M L N (j8 rZ s p) J ab ab (by
   have h3:(j8 rZ s p).2.length=s.2.length+(oT rZ s.1 p).1.length:=eL;omega)
  simp only[uz];have q0:pY.rest [.l rZ,.s (aT s.2),.i s.1,.s (aT (cL (p::L) []))]=aT (cL (p::L) []):=rfl;rw[q0,hz,hh,U];have c1:aA ((p++[10]).length+(cL L []).length) 0=false:=by
   cases g:aA ((p++[10]).length+(cL L []).length) 0 with
   |false=>rfl
   |true=>
    have:=Nat.eq_of_beq_eq_true g;omega
  have c2:bW ((p++[10]).length+(cL L []).length) 1048576=true:=by rw[fh]; omega
  rw[c1,c2];have hg:pY.st (aT (p++[10])) (aT (cL L [])) [.l rZ,.s (aT s.2),.i s.1,.s (aT (cL (p::L) []))]=some [.l rZ,.s (aT (j8 rZ s p).2),.i (j8 rZ s p).1,.s (aT (cL L []))]:=
   round_eq rZ s.1 hr hn aV p ab (aT (cL L [])) (aT (cL (p::L) [])) s.2 ab
  rw[hg];exact ih
theorem asG{L:List (List UInt8)}(A:∀ p∈L,nB p)(B:nB z)(I:L.length<=5):
  IH [.l rZ,.s (aT (cL L z))]=some (if z=[] then [.s (aT (L.foldl (j8 rZ) (0,[])).2),.i 0] else [.s (⟨#[]⟩:BY),.i 9]):=by
 have N:=B.1;have J:=AI (z:=z) A;have F:IG [.l rZ,.s (⟨#[]⟩:BY),.i 0,.s (aT (cL L []))]=some (some 0,[.s (aT (L.foldl (j8 rZ) (0,[])).2),.i 0]):=by
  have h:=ZJ rZ hr hn aV rZ rfl L 1048577 (0,[]) A ab I (by simp only[fU]; omega);unfold IG Go.AL.Cq;have h:uz uR pY.rest pY.st 1048577 (pY.init [.l rZ,.s (⟨#[]⟩:BY),.i 0,.s (aT (cL L []))])=_:=h;rw[h,show pY.side [.l rZ,.s (⟨#[]⟩:BY),.i 0,.s (aT (cL L []))]=true from rfl];rfl
 refine aa.toEq ?_;unfold IH
 (dsimp only[go_sem])
 rw[fq];refine aa.neg (by rw[dX,dF]; omega) ?_;rcases AZ z with rfl|⟨y,c,rfl⟩
 ·rw[iP rfl]
  rcases AZ L with rfl|⟨M,q,rfl⟩
  ·refine aa.neg (by rw[qf,kg]; rfl) (aa.tail (P:=fun c g=>c=0/\g=[.s (aT (([]:List (List UInt8)).foldl (j8 rZ) (0,[])).2),.i 0]) ⟨_,F,0,rfl,rfl,rfl⟩ rfl ?_)
   rintro _ _ ⟨rfl,rfl⟩;exact aa.some rfl
  ·have e:cL (M++[q]) []=(cL M []++q)++[10]:=by simp[cL]
   rw[A0]at *;have d:(cL M []++q).length<=900000:=by
    have:=congrArg nF e;rw[eL,tt]at this;simp only[fU]at J;omega
   refine aa.pos ?_ (aa.call (P:=fun g=>g=[.t true]) ?_ ?_)
   ·rw[qf,e]
    simp[kg]
   ·rw[e]
    exact⟨_,Zn (cL M []++q) 10 d,rfl⟩
   ·rintro _ rfl
    refine aa.neg rfl (aa.tail (P:=fun c g=>c=0/\g=[.s (aT ((M++[q]).foldl (j8 rZ) (0,[])).2),.i 0]) ⟨_,F,0,rfl,rfl,rfl⟩ rfl ?_);rintro _ _ ⟨rfl,rfl⟩;exact aa.some rfl
 ·rw[A0]at *
  have e:cL L (y++[c])=(cL L []++y)++[c]:=by simp[cL]
  have hc:(c==10)=false:=by
   rw[beq_eq_false_iff_ne];rintro rfl;exact B.2 ai
  have d:(cL L []++y).length<=900000:=by
   have:=congrArg nF e;rw[eL,tt]at this;omega
  rw[iN ai];refine aa.pos ?_ (aa.call (P:=fun g=>g=[.t false]) ?_ ?_)
  ·rw[qf,e]
   simp[kg]
  ·rw[e]
   exact⟨_,Zn (cL L []++y) c d,by rw[hc]⟩
  ·rintro _ rfl
   exact aa.pos rfl (aa.some rfl)
omit hr hn aV in
theorem asH{W:List (List UInt8)}(h:i<W.length):(nz W).getD i []=[G.s (aT (W.getD i []))]:=by
 unfold nz;rw[dj,dw,dj,bT h];rfl
theorem asI{L:List (List UInt8)}(d:∀ p∈L,nB p)(A:nB z)(O:L.length<=5):
  zZ [.l rZ,.s (aT (cL L z))]=some (if z=[] then [.s (aT (L.foldl (j8 rZ) (0,[])).2),.i 0] else [.s (⟨#[]⟩:BY),.i 9]):=by
 have I:=A.1;have U:=AI (z:=z) d;refine aa.toEq ?_;unfold zZ
 (dsimp only[go_sem])
 refine aa.cE (XT rZ hr hn).1 ?_
 (dsimp only[go_sem])
 rw[aV.rk,fq];refine aa.neg rfl (aa.neg (by rw[dX,dF]; omega) (aa.call (aa.eq (ar7 L z (fun p q=>(d p q).2) A.2 ab)) ?_));rintro _ rfl
 (dsimp only[go_sem])
 cases J:z with
 |cons b r=>
  rw[iN ai];exact aa.pos rfl (aa.some rfl)
 |nil=>
  rw[iP rfl];have e:OB L []=L:=rfl;rw[e,AD];refine aa.neg rfl ?_;refine aa.loop (P:=fun c g=>c=0/\g=[.s (aT (L.foldl (j8 rZ) (0,[])).2)]) ?_ rfl ?_
  ·refine ((uD (σ:=Unit) (fun _ i=>[.l rZ,.i ((L.take i).foldl (j8 rZ) (0,[])).1,.s (aT ((L.take i).foldl (j8 rZ) (0,[])).2),.l (nz L),.i (L.length:Int),.i (i:Int)]) L.length (fun _=>(0,[.s (aT (L.foldl (j8 rZ) (0,[])).2)])) (fun _ _=>True)
    (fun c g=>False) ?_ ?_ L.length () 0 ab trivial).to ab).mono ?_
   ·rintro _ i _ hi
    have q:=d (L.getD i []) (by
     rw[dj,bT hi];exact nG hi)
    have M:=q.1;have B:=ZI rZ hr hn aV (L.take i) (0,[]);have N:(L.take i).length<=4:=by rw[gA]; omega
    have W:=OV rZ ((L.take i).foldl (j8 rZ) (0,[])).1 hr hn aV (L.getD i []);simp only[fU]at B;unfold IB
    (dsimp only[go_sem])
    simp only[aZ,asH hi,AD]
    (dsimp only[go_sem])
    refine aa.p (aa.p (aa.call (aa.eq (asw rZ _ hr hn aV (L.getD i []) ab)) ?_));rintro _ rfl
    (dsimp only[go_sem])
    refine aa.cE (arH _ _ (by rw[fq,fq]; omega)) ?_
    (dsimp only[go_sem])
    refine aa.pos (vS.2 ⟨ab,ab⟩) (aa.some (.inl ⟨(),?_,trivial⟩));have F:L.take (i+1)=L.take i++[L.getD i []]:=by
     rw[Jx hi,dj,bT hi];rfl
    rw[F,pj,xE];rfl
   ·rintro _ _
    unfold IB
    (dsimp only[go_sem])
    rw[fu];exact aa.n (aa.some rfl)
   ·rintro c g (⟨_,_,rfl,rfl⟩ | h)
    ·exact⟨rfl,rfl⟩
    ·exact h.elim
  ·rintro _ _ ⟨rfl,rfl⟩
   (dsimp only[go_sem])
   refine aa.cE (arI _) ?_;exact aa.some rfl
end
theorem asJ(l:LL):NO [.l l]=some [.t true]:=by
 refine aa.toEq ?_;unfold NO
 (dsimp only[go_sem])
 refine aa.call (Ah l 0 0 14 ab ab ab ab ab) ?_;rintro _ ⟨n,rfl,J,N⟩
 (dsimp only[go_sem])
 refine aa.call (apX l (0+1) n ab ab J ab) ?_;rintro _ ⟨p1,rZ,rfl,U,W,hr,O⟩
 (dsimp only[go_sem])
 refine aa.call (asF l p1 ab ab) ?_;rintro _ ⟨b,L,z,rfl,g,q,A⟩
 (dsimp only[go_sem])
 have hn:rZ.length<=20:=ab;obtain⟨B,F⟩:=aqd rZ hr hn;have d:aa (az (zt []) fun M=>some [G.t (gi M 0).bV]) fun o=>o=[.t true]:=by
  refine aa.cE (rfl:zt []=some [.t true]) ?_;exact aa.some rfl
 by_cases hc:rk rZ=0
 ·rw[hc]at F
  have aV:=F.zero;refine aa.cE (asI rZ hr hn aV q A g) ?_;refine aa.cE B ?_
  (dsimp only[go_sem])
  rw[hc];refine aa.neg rfl (aa.call (aa.eq (asG rZ hr hn aV q A g)) ?_);rintro _ rfl;exact aa.pos ai (aa.pos ai d)
 ·have I:zZ [.l rZ,.s (aT (cL L z))]=some [.s (⟨#[]⟩:BY),.i (rk rZ)]:=by
   refine aa.toEq ?_;unfold zZ
   (dsimp only[go_sem])
   refine aa.cE (XT rZ hr hn).1 ?_
   (dsimp only[go_sem])
   exact aa.pos (by simpa using hc) (aa.some rfl)
  refine aa.cE I ?_;refine aa.cE B ?_
  (dsimp only[go_sem])
  exact aa.pos (by simpa using hc) (aa.pos ai (aa.pos ai d))
end
end Go.Proofs.h_
