/-
 What is proved here: spots are written alike by the program and by the plain form. No condition.
-/
import Derived.Test.YtmhkodhaodcfdaaGreatDoorMF
set_option linter.all false
open Bool renaming and_true->gu,and_eq_true->aE,or_eq_true->nu,eq_iff_iff->fP,eq_false_iff->nv
open ByteArray renaming size_extract->sH,size_append->pG
open Classical renaming choose->Tq,choose_spec->Kg
open Decidable renaming byContradiction->sC
open Go.Lib renaming size_eq->gx,join->eD,splitB->lz,index->lB,index_one->pD,indexByte->eN,join_one->kN,decDigits->jg,itoa->f_,toList_data->eE,extract_data->pF,extract_to_end->Fl
open Go.Op renaming bytesLess->fA
open Go.Utf8 renaming encode->EV
open Int renaming toNat_natCast->eH,tmod->dS,tdiv->eW,tdiv_eq_ediv_of_nonneg->qM,tmod_eq_emod_of_nonneg->uL,eq_ofNat_of_zero_le->sG
open List renaming length_cons->bW,append_assoc->iO,length_map->fJ,getElem?_eq_getElem->cn,all_eq_true->cq,getD_eq_getElem?_getD->eh,mem_cons->cf,map_cons->eM,mem_of_mem_take->oq,cons_append->kK,drop_drop->pq,take_append_drop->ng,length_take->iy,length_append->dG,mem_append->cN,nil_append->nm,mem_cons_self->cZ,mem_cons_of_mem->c8,all_cons->jA,take_of_length_le->xm,map_append->qJ,mem_singleton->gH,drop_zero->A5,length_nil->kf,map_nil->pA,length->Fb,not_mem_nil->jf,count_eq_zero->A9,count_append->A_,all_append->sF,mem_iff_getElem->Ke,take_length->mn,length_pos_iff->Kf,length_singleton->Fm,all_nil->Fo,cons_beq_cons->akw,drop_take->Tr
open List.cons renaming injEq->SZ
open Nat renaming le_refl->aY,le_trans->oh,zero_le->fO,zero_add->eo,beq->aH,ble->bf,ble_eq->cu,blt_eq->dH,beq_refl->A4,lt_or_eq_of_le->Fi
open Option renaming bind_some->Fg
open Option.some renaming injEq->a_
open Prod.mk renaming injEq->bk
open UInt8 renaming ofNat->jB
namespace Go.Proofs.jL
open Go Go.AL Go.Proofs
attribute [-go_sem] ByteArray.size_mk' ByteArray.size_append'
noncomputable section
def ahz(a:List BY)(g:a.length<=1000) (b:(bQ (a.map (·.data.toList))).length<=1000000):uh [.l (a.map fun w=>[.s w]),.s (⟨#[32]⟩:BY)]=some [.s (aq (eD (a.map (·.data.toList)) [32]))]:=by
 have e:oN (a.map fun w=>[G.s w]) (⟨#[32]⟩:BY)=aq (eD (a.map (·.data.toList)) [32]):=by
  unfold oN;rw[Rk];rfl
 have d:(eD (a.map (·.data.toList)) [32]).length+1<=1000000:=by
  simpa[bQ]using b
 refine aa.toEq ?_;unfold uh y_;dsimp +instances only[go_sem];rw[e,bJ];refine aa.pos ?_ (aa.some rfl);rw[fJ,aE,cu,cu];omega
def oc{a b:BY}(d:b_ a=true)(g:b_ b=true):b_ (a++b)=true:=by
 unfold b_ at *;rw[show (a++b).data.toList=a.data.toList++b.data.toList by simp,sF,d,g];rfl
def ahA(b:UInt8)(h:b.toNat<128):(EV (IntKind.i32.wrap (b.toNat:Int))).data.toList=[b]:=by
 have:=pc (fun b => !(Nat.blt b.toNat 128)||(EV (IntKind.i32.wrap (b.toNat:Int))).data.toList==[b]) (by kernel_rfl) b;have h':Nat.blt b.toNat 128=true:=by rw[dH]; exact h
 rw[h']at this;simpa using this
def jx(l:List UInt8):Prop:=∀ b∈l,b.toNat<128
def RZ{l:List UInt8}(h:jx l):b_ (aq l)=true:=by
 unfold b_;rw[cU,cq];exact fun b a=>by rw[dH]; exact h b a
def R0:(calls.all b_)=true:=by kernel_rfl
def ahB{c:BY}(h:c∈calls):jx c.data.toList:=fun b a=>by
 have:=cq.1 (cq.1 R0 c h) b a;simpa[dH]using this
def Jl{n:Int}(h:0<=n):jx (f_ n):=fun b a=>by
 unfold f_ at a;rw[iN (by omega)]at a;have:=OY _ b a;omega
def ahC{s:BY}(h:b_ s=true){w:List UInt8}(a:∀ b∈w,b∈s.data.toList):b_ (aq w)=true:=by
 unfold b_ at h|-;rw[cU,cq];exact fun b d=>cq.1 h b (a b d)
def R1:∀(L:List (List UInt8)) (z:List UInt8),∀ p∈L,∀ b∈p,b∈dL L z
 | q::L,z,p,a,b,d=>by
  rw[Aw];rcases cf.1 a with rfl|a
  ·exact List.mem_append_left _ d
  ·exact List.mem_append_right _ (c8 _ (R1 L z p a b d))
def Ew(l:List UInt8):(∀ b∈l8 l,b∈l)/\(l8 l).length<=l.length:=by
 unfold l8;split
 ·exact⟨fun b a=>(by cases a),fO _⟩
 ·exact⟨fun b a=>a,aY _⟩
def R2{B:Nat}{f:LG->List (List UInt8)}:∀{x:LL},(∀ z∈x,(bQ (f z)).length<=B)->(dy (x.map f)).length<=B*x.length
 | [],_=>by simp[dy]
 | z::x,h=>by
  have b:=R2 (x:=x) fun y a=>h y (c8 z a);have:=h z cZ;have e:dy ((z::x).map f)=bQ (f z)++dy (x.map f):=rfl;rw[e,dG,bW,Nat.mul_succ];omega
def R3(s:BY):zE [.s s]=some [.s (aq (gk s.data.toList))]:=by
 refine aa.toEq ?_;unfold zE;dsimp +instances only[go_sem];rw[eE,eE];cases a:s.data.toList with
 |nil=>exact aa.pos rfl (aa.some rfl)
 | cons b r =>
  refine aa.neg rfl (aa.some ?_);show [G.s s]=[G.s (aq (b::r))]
  rw[<-a,l7]
def R4:(names.all b_)=true:=by kernel_rfl
def sn{s:BY}(h:b_ s=true):jx s.data.toList:=fun b a=>by
 have:=cq.1 h b a;simpa[dH]using this
def R5:∀(x:List UInt8) (d:List (List UInt8)),(∀ w∈x::d,jx w)->jx (eD (x::d) [32])
 | x,[],h=>by
  rw[kN];exact h x cZ
 | x,y::g,h=>by
  have k:=R5 y g fun w q=>h w (c8 x q);rw[jK];intro b a;rcases cN.1 a with a|a
  ·exact h x cZ b a
  ·rcases cf.1 a with rfl | a
   ·decide
   ·exact k b a
def ahD{x:List UInt8}{d:List (List UInt8)}(h:∀ w∈x::d,jx w):jx (bQ (x::d)):=by
 intro b a;unfold bQ at a;rcases cN.1 a with a|a
 ·exact R5 x d h b a
 ·rw [gH.1 a]
  decide
def R6{l:List UInt8}(h:jx l):jx (gk l):=by
 cases l with
 | nil =>
  intro b a;have a:b∈[(45:UInt8)]:=a;rw[gH.1 a]
  decide
 |cons x r=>exact h
def ahE:Ic [.I,.I,.str,.str,.I,.I,.str,.str] eL:=⟨fun _ h=>h.eta⟩
def ahF(a:LL)(b:∀ z∈a,eL z)(d:a.length<100000):D3 [.l a,.l a]=some [.t true]:=by
 have h:=YS ahE a a b b d;rw[OQ (by rfl)]at h;exact h
def cL(n:Nat):List UInt8:=[jB (48+n / 10),jB (48+n%10)]
def Jm{n:Nat}(h:n<100):∀ b∈cL n,48<=b.toNat/\b.toNat<=57:=by
 intro b a;simp only[cL,cf,jf,or_false]at a;rcases a with rfl|rfl
 ·rw [nX (show n / 10 < 10 by omega)]
  omega
 ·rw [nX (show n % 10 < 10 by omega)]
  omega
def so{n:Nat}(h:n<100):(cL n).all ch=true:=by
 rw[cq];intro b a;have:=Jm h b a;unfold ch;rw[aE,cu,cu];exact this
def Ax{n:Nat}(h:n<100):aT (cL n)=n:=by
 have e:aT (cL n)=(0*10+dj (jB (48+n / 10)))*10+dj (jB (48+n%10)):=rfl;rw[e];unfold dj;rw[nX (show n / 10<10 by omega),nX (show n%10<10 by omega)];omega
def Ex(n:Nat):f_ (n:Int)=jg n:=by
 unfold f_;rw[iN (by omega)];simp
def R7:D9 [.s (⟨#[48]⟩:BY),.i 0]=some [.s (aq [])]:=by kernel_rfl
def ahG:D9 [.s (⟨#[48]⟩:BY),.i 1]=some [.s (aq [48])]:=by kernel_rfl
def Ay{n:Nat}(h:n<100):n7 [.i (n:Int),.i 2]=some [.s (aq (cL n))]:=by
 refine aa.toEq ?_;unfold n7;dsimp +instances only[go_sem];refine aa.cE (pb n (by omega) (by omega)) ?_;dsimp +instances only[go_sem];rw[o_,bJ,Ex];by_cases a:n<10
 ·rw [lh a]
  refine aa.pos rfl ?_;refine aa.cE ahG ?_;refine aa.pos rfl (aa.some ?_);show [G.s (aq [48]++aq [jB (48+n)])]=_
  rw[gj];unfold cL;rw[show n / 10=0 by omega,show n%10=n by omega];rfl
 ·rw [nW (by omega), lh (show n / 10 < 10 by omega)]
  refine aa.pos rfl ?_;refine aa.cE R7 ?_;refine aa.pos rfl (aa.some ?_);show [G.s (aq []++aq [jB (48+n / 10),jB (48+n%10)])]=_
  rw[gj];rfl
def lu(s:Nat):List UInt8:=cL (s / 3600)++(cL (s / 60%60)++cL (s%60))
def Ey(n:Nat):(cL n).length=2:=rfl
def ahH(l:List UInt8)(m:Int) (g:((l.length:Nat):Int)=m) (a:l≠[]) (k:l.length<=15) (h:l.all ch=true):rW [.s (aq l),.i m]=some [.i (aT l:Int),.t true]:=by
 refine aa.toEq ?_;unfold rW;dsimp +instances only[go_sem];have q:0<l.length:=Kf.2 a;refine aa.neg (by rw[bJ,g]; simp) ?_;refine aa.call (Jf (aq l) (by rw[bJ]; omega) (by rw[bJ]; omega)) ?_;rintro _ ⟨u,rfl,b⟩;rw[cU,h]at b;dsimp +instances only[go_sem];rw[b];refine aa.neg rfl ?_;have d:lY [.s (aq l)]=some [.i (aT l:Int)]:=by
  refine aa.toEq ?_;unfold lY tN;dsimp +instances only[go_sem];refine aa.pos (by rw[bJ,cu]; omega) ?_;rw[cU,Dd a h];exact aa.some rfl
 refine aa.cE d ?_;exact aa.some rfl
def ahI:ub [.i 4000]=some [.i 2034,.i 12,.i 14]:=by kernel_rfl
def mX:List UInt8:=[67,65,76,76,58]
def od(m:Int):BY:=if m=1 then ⟨#[67,87]⟩ else if m=2 then ⟨#[80,72]⟩ else ⟨#[82,89]⟩
def Az:LL:=[[.s (⟨#[]⟩:BY)],[.s (⟨#[67,87]⟩:BY)],[.s (⟨#[80,72]⟩:BY)],[.s (⟨#[82,89]⟩:BY)]]
def ahJ:zM []=some [.l Az]:=rfl
def R8{m:Int}(h:m=1\/m=2\/m=3):(gi (Az.getD m.toNat []) 0).sV=od m:=by
 rcases h with rfl|rfl|rfl<;>rfl
def ahK{m:Int}(h:m=1\/m=2\/m=3):iq (od m).data.toList/\(od m).data.toList.length<=20:=by
 rcases h with rfl|rfl|rfl
 ·exact uk (show sf (⟨#[67,87]⟩:BY)=true from by kernel_rfl)
 ·exact uk (show sf (⟨#[80,72]⟩:BY)=true from by kernel_rfl)
 ·exact uk (show sf (⟨#[82,89]⟩:BY)=true from by kernel_rfl)
def Jn{n:Nat}(h:n<100):∀ b∈cL n,b≠32/\b≠10:=fun b a=>by
 have:=Jm h b a;constructor<;>(intro e; rw[e]at this; simp at this)
def ahL{s:Nat}(h:s<86400):iq (lu s)/\(lu s).length<=20:=by
 refine⟨⟨by simp[lu,cL],fun b a=>?_⟩,by simp[lu,cL]⟩;unfold lu at a;rcases cN.1 a with a|a
 ·exact Jn (by omega) b a
 ·rcases cN.1 a with a | a
  ·exact Jn (by omega) b a
  ·exact Jn (by omega) b a
def fY(n:Int):List UInt8:=if n=0 then [45] else f_ n
def R9{n:Int}(a:0<=n)(g:n<=99999):iq (fY n)/\(fY n).length<=20:=by
 unfold fY;split
 ·exact⟨⟨by simp,fun b d=>by rw[gH.1 d]; decide⟩,by simp⟩
 ·have := I5 a (by omega)
  exact⟨Ig n,by omega⟩
def R_{n:Int}(a:0<=n)(b:n<=99999):zN [.i n]=some [.s (aq (fY n))]:=by
 refine aa.toEq ?_;unfold zN fY;dsimp +instances only[go_sem];refine aa.test (fun h=>?_) fun h=>?_
 ·rw [iP (by simpa using h)]
  exact aa.some rfl
 ·rw [iN (by simpa using h)]
  refine aa.cE (pb n (by omega) (by omega)) ?_;exact aa.some rfl
def Ez:∀{W:List (List UInt8)},(∀ w∈W,w.length<=20)->(bQ W).length<=21*W.length+1
 | [],_=>by
  unfold bQ;simp[eD]
 | [x],h=>by
  have:=h x cZ;unfold bQ;rw[kN];simp;omega
 | x::y::W,h=>by
  have a:=Ez (W:=y::W) fun w b=>h w (c8 x b);have:=h x cZ;unfold bQ at a|-;rw[jK];simp only[dG,bW,kf]at a|-;omega
def yK(k:Nat):Nat:=2024+k / 12
def mK(k:Nat):Nat:=k%12+1
def dR(k:Nat):Nat:=if mK k=2/\yK k%4=0/\(yK k%100≠0\/yK k%400=0) then 29 else [31,28,31,30,31,30,31,31,30,31,30,31].getD (k%12) 0
def bt:Nat->Nat
 |0=>0
 |k+1=>bt k+dR k
def EA(x:Option LG)(n:Int):Bool:=match x with
 |some [.i m]=>m==n
 |_=>false
def Sa{x:Option LG}{n:Int}(h:EA x n=true):x=some [.i n]:=by
 unfold EA at h;split at h
 ·rw [beq_iff_eq] at h
  rw[h]
 ·cases h
def Jo{p:Nat->Bool}(h:(List.range 132).all p=true){k:Nat}(a:k<132):p k=true:=cq.1 h k (List.mem_range.2 a)
def w6{k:Nat}(a:k<132):ua [.i (yK k:Int),.i (mK k:Int)]=some [.i (dR k:Int)] :=
 Sa (Jo (p:=fun k=>EA (ua [.i (yK k:Int),.i (mK k:Int)]) (dR k:Int)) (by kernel_rfl) a)
def Jp{k:Nat}(a:k<132):Du [.i (yK k:Int),.i (mK k:Int)]=some [.i (dR k:Int)] :=
 Sa (Jo (p:=fun k=>EA (Du [.i (yK k:Int),.i (mK k:Int)]) (dR k:Int)) (by kernel_rfl) a)
def pe{k:Nat}(a:k<132):28<=dR k/\dR k<=31:=by
 have:=Jo (p:=fun k=>bf 28 (dR k)&&bf (dR k) 31) (by kernel_rfl) a;rw[aE,cu,cu]at this;exact this
def AA:bt 132=4018:=by kernel_rfl
def sq:∀{j k:Nat},j<=k->bt j<=bt k:=by
 intro j k h
 induction k with
 | zero =>
  have:j=0:=by omega
  subst this;exact aY _
 | succ k a =>
  rcases Fi h with h|rfl
  ·exact oh (a (by omega)) (Nat.le_add_right _ _)
  ·exact aY _
def Jq{d:Nat}(h:d<4018):∃ k e,k<132/\e<dR k/\d=bt k+e:=by
 have key:∀ n,d<bt n->∃ k e,k<n/\e<dR k/\d=bt k+e:=by
  intro n
  induction n with
  |zero=>intro h; cases h
  | succ n a =>
   intro h;by_cases b:d<bt n
   ·obtain ⟨k, e, t, g, q⟩ := a b
    exact⟨k,e,by omega,g,q⟩
   ·exact⟨n,d-bt n,by omega,by simp only[bt]at h; omega,by omega⟩
 exact key 132 (by rw[AA]; exact h)
def w7(k:Nat):((mK k:Int)+1>12->(yK (k+1):Int)=(yK k:Int)+1/\(mK (k+1):Int)=1)/\(¬ (mK k:Int)+1>12->yK (k+1)=yK k/\(mK (k+1):Int)=(mK k:Int)+1):=by
 unfold mK yK;omega
def pg(k:Nat):1<=mK k/\mK k<=12:=by
 unfold mK;omega
def ph{k:Nat}(a:k<132):2024<=yK k/\yK k<=2034:=by
 unfold yK;omega
def Sb{k e:Nat}(q:k<132)(he:e<dR k):∀(n j:Nat),j+n=k->bl wK [.i ((bt k+e-bt j:Nat):Int),.i (yK j:Int),.i (mK j:Int)] (n+1) fun c g=>c=0/\g=[.i (e:Int),.i (yK k:Int),.i (mK k:Int)]
 | 0,j,d=>by
  have d:j=k:=by omega
  subst d;rw[show bt j+e-bt j=e by omega];refine bl.stop (x:=0) (aa.toEq ?_) ⟨rfl,rfl⟩;unfold wK;dsimp +instances only[go_sem];refine aa.cE (w6 q) ?_;exact aa.neg (by(dsimp +instances only[go_sem]); rw[bz,dF]; omega) (aa.some rfl)
 | n+1,j,d=>by
  have hm:bt (j+1)<=bt k:=sq (by omega);have y:bt (j+1)=bt j+dR j:=rfl;have z:=pe (show j<132 by omega);have A:bt k+e<4018:=by
   have a:bt (k+1)<=bt 132:=sq (by omega);rw[AA]at a;have b:bt (k+1)=bt k+dR k:=rfl;omega
  have v:=pg j;have w:=ph (show j<132 by omega);have step:wK [.i ((bt k+e-bt j:Nat):Int),.i (yK j:Int),.i (mK j:Int)]=some (none,[.i ((bt k+e-bt (j+1):Nat):Int),.i (yK (j+1):Int),.i (mK (j+1):Int)]):=by
   refine aa.toEq ?_;unfold wK;dsimp +instances only[go_sem];refine aa.cE (w6 (by omega)) ?_;refine aa.pos (by(dsimp +instances only[go_sem]); rw[bz,dT]; omega) ?_;refine aa.cE (w6 (by omega)) ?_;dsimp +instances only[go_sem];have t:((bt k+e-bt j:Nat):Int)-(dR j:Int)=((bt k+e-bt (j+1):Nat):Int):=by omega
   rw[t];refine aa.pos (cK.2 ⟨by omega,by omega⟩) (aa.pos (cK.2 ⟨by omega,by omega⟩) ?_);by_cases h:(mK j:Int)+1>12
   ·obtain ⟨a, b⟩ := (w7 j).1 h
    refine aa.pos (by rw[be,dT]; omega) (aa.pos (cK.2 ⟨by omega,by omega⟩) (aa.some ?_));rw[a,b]
   ·obtain ⟨a, b⟩ := (w7 j).2 h
    refine aa.neg (by rw[be,dF]; omega) (aa.some ?_);rw[a,b]
  exact bl.next step (Sb q he n (j+1) (by omega))
def Sc{k e:Nat}(q:k<132)(he:e<dR k):∀(n j:Nat),j+n=k->bl wD [.i ((bt k+e-bt j:Nat):Int),.i (yK j:Int),.i (mK j:Int)] (n+1) fun c g=>c=0/\g=[.i (e:Int),.i (yK k:Int),.i (mK k:Int)]
 | 0,j,d=>by
  have d:j=k:=by omega
  subst d;rw[show bt j+e-bt j=e by omega];refine bl.stop (x:=0) (aa.toEq ?_) ⟨rfl,rfl⟩;unfold wD;dsimp +instances only[go_sem];refine aa.cE (Jp q) ?_;exact aa.neg (by(dsimp +instances only[go_sem]); rw[bz,dF]; omega) (aa.some rfl)
 | n+1,j,d=>by
  have hm:bt (j+1)<=bt k:=sq (by omega);have y:bt (j+1)=bt j+dR j:=rfl;have z:=pe (show j<132 by omega);have A:bt k+e<4018:=by
   have a:bt (k+1)<=bt 132:=sq (by omega);rw[AA]at a;have b:bt (k+1)=bt k+dR k:=rfl;omega
  have v:=pg j;have w:=ph (show j<132 by omega);have step:wD [.i ((bt k+e-bt j:Nat):Int),.i (yK j:Int),.i (mK j:Int)]=some (none,[.i ((bt k+e-bt (j+1):Nat):Int),.i (yK (j+1):Int),.i (mK (j+1):Int)]):=by
   refine aa.toEq ?_;unfold wD;dsimp +instances only[go_sem];refine aa.cE (Jp (by omega)) ?_;refine aa.pos (by(dsimp +instances only[go_sem]); rw[bz,dT]; omega) ?_;refine aa.cE (Jp (by omega)) ?_;dsimp +instances only[go_sem];have t:((bt k+e-bt j:Nat):Int)-(dR j:Int)=((bt k+e-bt (j+1):Nat):Int):=by omega
   rw[t];refine aa.pos (cK.2 ⟨by omega,by omega⟩) (aa.pos (cK.2 ⟨by omega,by omega⟩) ?_);by_cases h:(mK j:Int)+1>12
   ·obtain ⟨a, b⟩ := (w7 j).1 h
    refine aa.pos (by rw[be,dT]; omega) (aa.pos (cK.2 ⟨by omega,by omega⟩) (aa.some ?_));rw[a,b]
   ·obtain ⟨a, b⟩ := (w7 j).2 h
    refine aa.neg (by rw[be,dF]; omega) (aa.some ?_);rw[a,b]
  exact bl.next step (Sc q he n (j+1) (by omega))
def ahM{k e:Nat}(a:k<132)(he:e<dR k):ub [.i ((bt k+e:Nat):Int)]=some [.i (yK k:Int),.i (mK k:Int),.i ((e+1:Nat):Int)]:=by
 refine aa.toEq ?_;unfold ub;dsimp +instances only[go_sem];have b:=pe a;refine aa.loop ((Sb a he k 0 (by omega)).to (by omega)) rfl ?_;rintro _ _ ⟨rfl,rfl⟩;dsimp +instances only[go_sem];exact aa.pos (cK.2 ⟨by omega,by omega⟩) (aa.some rfl)
def gq(y:Nat):List UInt8:=cL (y / 100)++cL (y%100)
def l9(k e:Nat):List UInt8:=gq (yK k)++45::(cL (mK k)++45::cL (e+1))
def Sd{y:Nat}(h:2024<=y)(a:y<=2034):jg y=gq y:=by
 rw[nW (by omega),nW (by omega),nW (by omega),lh (by omega)];unfold gq cL;rw[show y / 100 / 10=y / 10 / 10 / 10 by omega,show y / 100%10=y / 10 / 10%10 by omega,show y%100 / 10=y / 10%10 by omega,show y%100%10=y%10 by omega];rfl
def AB{n:Nat}(h:n<100):rS [.i (n:Int)]=some [.s (aq (cL n))]:=by
 refine aa.toEq ?_;unfold rS;dsimp +instances only[go_sem];have a:(100:Int)+(n:Int)=((100+n:Nat):Int):=by omega
 rw[a];refine aa.pos (cK.2 ⟨by omega,by omega⟩) ?_;refine aa.cE (pb _ (by omega) (by omega)) ?_;dsimp +instances only[go_sem];have b:jg (100+n)=49::cL n:=by
  rw[nW (by omega),nW (by omega),lh (by omega)];unfold cL;rw[show (100+n) / 10 / 10=1 by omega,show (100+n) / 10%10=n / 10 by omega,show (100+n)%10=n%10 by omega];rfl
 rw[o_,Ex,b];exact aa.pos rfl (aa.some rfl)
def ahN{k e:Nat}(a:k<132)(he:e<dR k):tX [.i ((bt k+e:Nat):Int)]=some [.s (aq (l9 k e))]:=by
 refine aa.toEq ?_;unfold tX;dsimp +instances only[go_sem];have q:=pe a;have h:=pg k;obtain⟨d,b⟩:=ph a;refine aa.loop ((Sc a he k 0 (by omega)).to (by omega)) rfl ?_;rintro _ _ ⟨rfl,rfl⟩;dsimp +instances only[go_sem];refine aa.cE (pb _ (by omega) (by omega)) ?_;dsimp +instances only[go_sem];rw[o_,Ex,Sd d b];refine aa.pos rfl ?_;refine aa.cE (AB (show mK k<100 by omega)) ?_;refine aa.pos rfl (aa.pos rfl (aa.pos (cK.2 ⟨by omega,by omega⟩) ?_));have g:(e:Int)+1=((e+1:Nat):Int):=by omega
 rw[g];refine aa.cE (AB (show e+1<100 by omega)) ?_;refine aa.pos rfl (aa.some ?_);have one:(⟨#[45]⟩:BY)=aq [45]:=rfl;dsimp +instances only[go_sem];rw[one,gj,gj,gj,gj];simp[l9]
def EB:∀{a a':List UInt8} (b d:List UInt8),a.length=a'.length->fA (a++b) (a'++d)=(fA a a'||(a==a'&&fA b d))
 | [],[],b,d,_=>by simp[fA]
 | [],_::_,_,_,h=>by cases h
 |_::_,[],_,_,h=>by cases h
 | x::a,y::a',b,d,h=>by
  have g:=EB (a:=a) (a':=a') b d (by simpa using h);simp only[kK,fA,g,akw];generalize decide (x<y)=p;generalize (x==y)=q;generalize fA a a'=r;generalize (a==a')=t;generalize fA b d=u;cases p<;>cases q<;>cases r<;>cases t<;>rfl
def Se{n m:Nat}(a:n<10)(hm:m<10):decide (jB (48+n)<jB (48+m))=decide (n<m):=by
 rw[decide_eq_decide,UInt8.lt_iff_toNat_lt,nX a,nX hm];omega
def Jr{n m:Nat}(a:n<10)(hm:m<10):(jB (48+n)==jB (48+m))=decide (n=m):=by
 rw[fP,beq_iff_eq,dT];constructor
 ·intro h
  have:=congrArg UInt8.toNat h;rw[nX a,nX hm]at this;omega
 ·rintro rfl
  rfl
def AD{a b:Nat}(d:a<100)(g:b<100):fA (cL a) (cL b)=decide (a<b):=by
 simp only[cL,fA];rw[Se (show a / 10<10 by omega) (show b / 10<10 by omega),Jr (show a / 10<10 by omega) (show b / 10<10 by omega),Se (show a%10<10 by omega) (show b%10<10 by omega)];rw[fP];simp only[nu,aE,dT,Bool.and_false,Bool.or_false];omega
def EC{a b:Nat}(d:a<100)(g:b<100):(cL a==cL b)=decide (a=b):=by
 simp only[cL,akw];rw[Jr (show a / 10<10 by omega) (show b / 10<10 by omega),Jr (show a%10<10 by omega) (show b%10<10 by omega)];rw[fP];simp only[aE,dT];constructor
 ·intro h
  omega
 ·rintro rfl
  simp
def sr(y m d:Nat):List UInt8:=gq y++(45::(cL m++(45::cL d)))
def ED(k e:Nat):l9 k e=sr (yK k) (mK k) (e+1):=rfl
def Js(y:Nat):(gq y).length=4:=rfl
def ahO{y b:Nat}(h:y<10000)(h':b<10000):fA (gq y) (gq b)=decide (y<b):=by
 unfold gq;rw[EB (a:=cL (y / 100)) (a':=cL (b / 100)) _ _ rfl,AD (by omega) (by omega),EC (by omega) (by omega),AD (by omega) (by omega),fP];simp only[nu,aE,dT];omega
def ahP{y a:Nat}(h:y<10000)(h':a<10000):(gq y==gq a)=decide (y=a):=by
 rw[fP,dT,beq_iff_eq];constructor
 ·intro e
  have b:=congrArg (List.take 2) e;have d:=congrArg (List.drop 2) e;have g:cL (y / 100)=cL (a / 100):=b;have k:cL (y%100)=cL (a%100):=d;rw[<-beq_iff_eq,EC (by omega) (by omega),dT]at g k;omega
 ·rintro rfl
  rfl
def Jt(x:UInt8)(a b:List UInt8):fA (x::a) (x::b)=fA a b:=by
 have:decide (x<x)=false:=by simp
 simp[fA]
def ahQ{y b m m' d g:Nat}(q:y<10000)(h:b<10000)(hm:m<100)(k:m'<100)(v:d<100)(t:g<100) :
  fA (sr y m d) (sr b m' g)=decide (y<b\/y=b/\(m<m'\/m=m'/\d<g)):=by
 unfold sr;rw[EB (a:=gq y) (a':=gq b) _ _ rfl,ahO q h,ahP q h,Jt,EB (a:=cL m) (a':=cL m') _ _ rfl,AD hm k,EC hm k,Jt,AD v t,fP];simp only[nu,aE,dT]
def Ju{k e a b:Nat}(q:a<132)(he:e<dR k)(t:b<dR a):bt k+e<bt a+b↔k<a\/k=a/\e<b:=by
 rcases Nat.lt_trichotomy k a with h|rfl|h
 ·have d : bt (k + 1) <= bt a := sq h
  have g:bt (k+1)=bt k+dR k:=rfl;omega
 ·omega
 ·have d : bt (a + 1) <= bt k := sq h
  have g:bt (a+1)=bt a+dR a:=rfl;omega
def ahR{k e a d:Nat}(g:k<132)(b:a<132)(he:e<dR k)(h:d<dR a):fA (l9 k e) (l9 a d)=decide (bt k+e<bt a+d):=by
 have q:=ph g;have t:=ph b;have v:=pg k;have w:=pg a;have y:=pe g;have z:=pe b;rw[ED,ED,ahQ (by omega) (by omega) (by omega) (by omega) (by omega) (by omega),decide_eq_decide,Ju b he h];unfold yK mK;omega
def eB(d:Nat):List UInt8:=open Classical in if h:d<4018 then l9 (Tq (Jq h)) (Tq (Kg (Jq h))) else []
def ur{d:Nat}(h:d<4018):∃ k e,k<132/\e<dR k/\d=bt k+e/\eB d=l9 k e:=by
 obtain⟨a,b,g⟩:=Kg (Kg (Jq h));exact⟨_,_,a,b,g,by unfold eB; rw[dif_pos h]⟩
def ahS{k e:Nat}(g:k<132)(he:e<dR k)(h:bt k+e<4018):eB (bt k+e)=l9 k e:=by
 obtain⟨q,t,v,d,y,w⟩:=ur h;have a:=Ju v he d;have b:=Ju g d he;have:k=q/\e=t:=by omega
 rw[w,this.1,this.2]
def EE{a b:Nat}(d:a<4018)(g:b<4018):fA (eB a) (eB b)=decide (a<b):=by
 obtain⟨k,e,h,q,rfl,t⟩:=ur d;obtain⟨z,A,v,w,rfl,y⟩:=ur g;rw[t,y,ahR h v q w]
def EF{d:Nat}(h:d<4018):tX [.i (d:Int)]=some [.s (aq (eB d))]:=by
 obtain⟨k,e,a,b,rfl,g⟩:=ur h;rw[g];exact ahN a b
def ahT(s:BY):∀(n lo hi:Nat),hi-lo<=n->lo<=hi->hi<=4000->(∀ x,x<=4000->s.data.toList=eB x->lo<=x/\x<=hi) ->
  bl qn [.s s,.i (lo:Int),.i (hi:Int)] (n+1) fun c g=>c=0/\∃ d:Nat,d<=4000/\g=[.s s,.i (d:Int)]/\∀ x,x<=4000->s.data.toList=eB x->d=x:=by
 intro n
 induction n with
 | zero =>
  intro lo hi v w y b;refine bl.stop (x:=0) (aa.toEq ?_) ⟨rfl,lo,by omega,rfl,fun x a e=>by have:=b x a e; omega⟩;unfold qn;dsimp +instances only[go_sem];exact aa.neg (by rw[be,dF]; omega) (aa.some rfl)
 | succ n k =>
  intro lo hi v w y b;by_cases z:lo<hi
  ·have q:eW ((lo:Int)+(hi:Int)) 2=(((lo+hi) / 2:Nat):Int):=by
    rw[qM (by omega)];omega
   have hm:(lo+hi) / 2<4018:=by omega
   have t:fA (aq (eB ((lo+hi) / 2))).toList s.toList=fA (eB ((lo+hi) / 2)) s.data.toList:=by rw[eE,eE,cU]
   cases h:fA (eB ((lo+hi) / 2)) s.data.toList with
   | false =>
    have step:qn [.s s,.i (lo:Int),.i (hi:Int)]=some (none,[.s s,.i (lo:Int),.i (((lo+hi) / 2:Nat):Int)]):=by
     refine aa.toEq ?_;unfold qn;dsimp +instances only[go_sem];refine aa.pos (by rw[be,dT]; omega) ?_;rw[q];refine aa.pos (cK.2 ⟨by omega,by omega⟩) (aa.pos (cK.2 ⟨by omega,by omega⟩) ?_);refine aa.cE (EF hm) ?_;dsimp +instances only[go_sem];rw[t,h];exact aa.pos rfl (aa.some rfl)
    refine bl.next step (k lo ((lo+hi) / 2) (by omega) (by omega) (by omega) fun x a e=>?_)
    have:=b x a e;rw[e,EE hm (by omega),dF]at h;omega
   | true =>
    have step:qn [.s s,.i (lo:Int),.i (hi:Int)]=some (none,[.s s,.i (((lo+hi) / 2+1:Nat):Int),.i (hi:Int)]):=by
     refine aa.toEq ?_;unfold qn;dsimp +instances only[go_sem];refine aa.pos (by rw[be,dT]; omega) ?_;rw[q];refine aa.pos (cK.2 ⟨by omega,by omega⟩) (aa.pos (cK.2 ⟨by omega,by omega⟩) ?_);refine aa.cE (EF hm) ?_;dsimp +instances only[go_sem];rw[t,h];exact aa.neg rfl (aa.pos (cK.2 ⟨by omega,by omega⟩) (aa.some rfl))
    refine bl.next step (k ((lo+hi) / 2+1) hi (by omega) (by omega) (by omega) fun x a e=>?_)
    have:=b x a e;rw[e,EE hm (by omega),dT]at h;omega
  ·have : lo = hi := by omega
   subst this;refine bl.stop (x:=0) (aa.toEq ?_) ⟨rfl,lo,by omega,rfl,fun x a e=>by have:=b x a e; omega⟩;unfold qn;dsimp +instances only[go_sem];exact aa.neg (by rw[be,dF]; omega) (aa.some rfl)
def ahU(s:BY):aa (DZ [.s s]) fun g=>∃ d:Nat,d<=4000/\g=[.i (d:Int),.t (eB d==s.data.toList)]/\∀ x,x<=4000->s.data.toList=eB x->d=x:=by
 unfold DZ;dsimp +instances only[go_sem];refine aa.loop ((ahT s 4000 0 4000 (by omega) (by omega) (by omega) fun x a _=>⟨by omega,a⟩).to (by omega)) rfl ?_;rintro _ _ ⟨rfl,d,b,rfl,a⟩;dsimp +instances only[go_sem];refine aa.cE (EF (show d<4018 by omega)) ?_;refine aa.some ⟨d,b,?_,a⟩;dsimp +instances only[go_sem];rw[eE,eE,cU]
def Jv{b:UInt8}(h:ch b=true):48<=b.toNat/\b.toNat<=57:=by
 unfold ch at h;rw[aE,cu,cu]at h;exact h
def w8{b:UInt8}(h:ch b=true):jB (48+dj b)=b:=by
 have:=Jv h;unfold dj;rw[show 48+(b.toNat-48)=b.toNat by omega];exact UInt8.ofNat_toNat
def mY{b:UInt8}(h:ch b=true):dj b<10:=by
 have:=Jv h;unfold dj;omega
def w9{l:List UInt8}(d:l.length=2)(h:l.all ch=true):cL (aT l)=l/\aT l<100:=by
 match l,d,h with
 | [a,b],_,h =>
  simp only[jA,Fo,gu,aE]at h;have g:=mY h.1;have k:=mY h.2;have e:aT [a,b]=(0*10+dj a)*10+dj b:=rfl;rw[e];refine⟨?_,by omega⟩;unfold cL;rw[show ((0*10+dj a)*10+dj b) / 10=dj a by omega,show ((0*10+dj a)*10+dj b)%10=dj b by omega,w8 h.1,w8 h.2]
def ahV{l:List UInt8}(J:l.length=4)(h:l.all ch=true):gq (aT l)=l/\aT l<10000:=by
 match l,J,h with
 | [a,b,c,d],_,h =>
  simp only[jA,Fo,gu,aE]at h;obtain⟨v,w,y,z⟩:=h;have V:=mY v;have W:=mY w;have X:=mY y;have Y:=mY z;have e:aT [a,b,c,d]=(((0*10+dj a)*10+dj b)*10+dj c)*10+dj d:=rfl;rw[e];refine⟨?_,by omega⟩;unfold gq cL;generalize A:dj a=g at *;generalize B:dj b=k at *;generalize F:dj c=q at *;generalize I:dj d=t at *;have M:((((0*10+g)*10+k)*10+q)*10+t) / 100 / 10=g:=by omega
  have N:((((0*10+g)*10+k)*10+q)*10+t) / 100%10=k:=by omega
  have O:((((0*10+g)*10+k)*10+q)*10+t)%100 / 10=q:=by omega
  have U:((((0*10+g)*10+k)*10+q)*10+t)%100%10=t:=by omega
  rw[M,N,O,U];have r1:=w8 v;have r2:=w8 w;have r3:=w8 y;have r4:=w8 z;rw[A]at r1;rw[B]at r2;rw[F]at r3;rw[I]at r4;simp only[kK,nm,r1,r2,r3,r4]
def EG{y:Nat}(h:y<10000):aT (gq y)=y/\(gq y).all ch=true:=by
 have e:aT (gq y)=aT (cL (y / 100))*100+aT (cL (y%100)):=by
  simp only[gq,cL,kK,nm,aT,List.foldl_cons,List.foldl_nil];omega
 rw[e,Ax (by omega),Ax (by omega)];refine⟨by omega,?_⟩;unfold gq;rw[sF,so (by omega),so (by omega)];rfl
def AE{c:UInt8}:∀{p:List UInt8},c∉p->bB c p=[p]
 | [],_=>rfl
 | b::p,h=>by
  have a:b≠c:=fun e=>h (by rw[e]; exact cZ);have d:=AE (c:=c) (p:=p) fun hm=>h (c8 _ hm);unfold bB;rw[iN a,d]
def AF{c:UInt8}{r:List UInt8}:∀{p:List UInt8},c∉p->bB c (p++c::r)=p::bB c r
 | [],_=>by
  show bB c (c::r)=_
  rw[bB,iP rfl]
 | b::p,h=>by
  have a:b≠c:=fun e=>h (by rw[e]; exact cZ);have d:=AF (c:=c) (r:=r) (p:=p) fun hm=>h (c8 _ hm);show bB c (b::(p++c::r))=_
  rw[bB,iN a,d]
def Jw{l:List UInt8}(h:l.all ch=true):(45:UInt8)∉l:=fun hm=>(Ij (cq.1 h _ hm)).1 rfl
def ahW{y m d:Nat}(a:y<10000)(hm:m<100)(b:d<100):bB 45 (sr y m d)=[gq y,cL m,cL d]:=by
 unfold sr;rw[AF (Jw (EG a).2),AF (Jw (so hm)),AE (Jw (so b))]
def ahX{D a b c:List UInt8}(h:bB 45 D=[a,b,c]):D=a++(45::(b++(45::c))):=by
 have e:=wo 45 D;rw[h]at e;rw[<-e,jK,jK,kN];rfl
def EH(l:List UInt8)(m:Nat)(k:0<m)(q:m<=15)(v:l.length<=900000):rW [.s (aq l),.i (m:Int)]=some (bif (l.length==m)&&l.all ch then [.i (aT l:Int),.t true] else [.i 0,.t false]):=by
 by_cases b:l.length=m
 ·have a : (l.length == m) = true := by rw [beq_iff_eq]; exact b
  have h:0<l.length:=by omega
  cases d:l.all ch with
  | true =>
   rw[a];exact ahH l _ (by rw[b]) (Kf.1 h) (by omega) d
  | false =>
   rw[a];refine aa.toEq ?_;unfold rW;dsimp +instances only[go_sem];refine aa.neg (by rw[bJ,b]; simp) ?_;refine aa.call (Jf (aq l) (by rw[bJ]; omega) (by rw[bJ]; omega)) ?_;rintro _ ⟨u,rfl,g⟩;rw[cU,d]at g;dsimp +instances only[go_sem];rw[g];exact aa.pos rfl (aa.some rfl)
 ·have a : (l.length == m) = false := by rw [beq_eq_false_iff_ne]; exact b
  rw[a];refine aa.toEq ?_;unfold rW;dsimp +instances only[go_sem];refine aa.pos ?_ (aa.some rfl);rw[bJ,bne_iff_ne];omega
def okW(j:Nat)(l:List UInt8):Bool:=(l.length==bif aH j 0 then 4 else 2)&&l.all ch
def pj(W:List (List UInt8)):LL:=w5 (W.map fun w=>(aT w:Int))
def Sf(W:List (List UInt8))(J:W.length=6)(M:∀ w∈W,w.length<=900000):∀(n j:Nat),j+n=6->bl rX [.l (pj (W.take j)),.l (df W),.i 6,.i (j:Int)] (n+1) fun c g =>
  (c=1/\(∀ i,j<=i->i<6->okW i (W.getD i [])=true)/\g=[.l (pj W)])\/(c=0/\(∃ i,j<=i/\i<6/\okW i (W.getD i [])=false)/\g=[.i 0,.t false])
 | 0,j,v=>by
  have v:j=6:=by omega
  subst v;refine bl.stop (x:=1) (aa.toEq ?_) (.inl ⟨rfl,fun i d y=>by omega,rfl⟩);unfold rX;dsimp +instances only[go_sem];refine aa.neg rfl (aa.pos ?_ (aa.some ?_))
  ·simp
  ·rw[xm (by omega)]
 | n+1,j,v=>by
  have q:j<W.length:=by omega
  have k:(W.getD j []).length<=900000:=Ev M;have N:gi ((df W).getD j []) 0=.s (aq (W.getD j [])):=gp W j q;have B:(pj (W.take j)).length=j:=by
   unfold pj;rw[ahf,fJ,iy];omega
  have F:(df W).length=6:=by rw[lq,J]
  have I:pj (W.take j)++[[G.i (aT (W.getD j []):Int)]]=pj (W.take (j+1)):=by
   unfold pj;rw[ahg,List.take_succ_eq_append_getElem q,qJ,eh,cn q];rfl
  cases a:okW j (W.getD j [])with
  | true =>
   have step:rX [.l (pj (W.take j)),.l (df W),.i 6,.i (j:Int)]=some (none,[.l (pj (W.take (j+1))),.l (df W),.i 6,.i ((j+1:Nat):Int)]):=by
    refine aa.toEq ?_;unfold rX;dsimp +instances only[go_sem];rw[eH,N,F,B];refine aa.pos (by rw[be,dT]; omega) (aa.pos (by rw[aE,dY,be,dT,dT]; omega) ?_);by_cases b:j=0
    ·subst b
     refine aa.pos rfl ?_;refine aa.cE (EH (W.getD 0 []) 4 (by omega) (by omega) k) ?_;have e:((W.getD 0 []).length==4&&(W.getD 0 []).all ch)=true:=a;rw[e];simp only[cT];dsimp +instances only[go_sem];refine aa.neg rfl (aa.pos rfl (aa.pos rfl ?_));rw[I];exact aa.pos (by simp) (aa.some rfl)
    ·refine aa.neg (by rw [beq_eq_false_iff_ne]; omega) ?_
     refine aa.cE (EH (W.getD j []) 2 (by omega) (by omega) k) ?_;have z:aH j 0=false:=by
      cases j with
      |zero=>exact absurd rfl b
      |succ j=>rfl
     have e:((W.getD j []).length==2&&(W.getD j []).all ch)=true:=by
      unfold okW at a;rw[z]at a;exact a
     rw[e];simp only[cT];dsimp +instances only[go_sem];refine aa.neg rfl (aa.pos ?_ (aa.pos (cK.2 ⟨by omega,by omega⟩) ?_))
     ·rw [aE, dT]
      exact⟨A4 _,by omega⟩
     ·rw [I]
      exact aa.pos (by simp) (aa.some rfl)
   refine bl.next step (bl.mono (Sf W J M n (j+1) (by omega)) fun c g h=>?_)
   rcases h with⟨d,y,A⟩|⟨d,⟨i,y,A,V⟩,X⟩
   ·refine .inl ⟨d, fun i O U => ?_, A⟩
    rcases Fi O with h|rfl
    ·exact y i h U
    ·exact a
   ·exact .inr ⟨d,⟨i,by omega,A,V⟩,X⟩
  | false =>
   refine bl.stop (x:=0) (aa.toEq ?_) (.inr ⟨rfl,⟨j,aY _,by omega,a⟩,rfl⟩);unfold rX;dsimp +instances only[go_sem];rw[eH,N,F,B];refine aa.pos (by rw[be,dT]; omega) (aa.pos (by rw[aE,dY,be,dT,dT]; omega) ?_);by_cases b:j=0
   ·subst b
    refine aa.pos rfl ?_;refine aa.cE (EH (W.getD 0 []) 4 (by omega) (by omega) k) ?_;have e:((W.getD 0 []).length==4&&(W.getD 0 []).all ch)=false:=a;rw[e];simp only[cF];dsimp +instances only[go_sem];exact aa.pos rfl (aa.some rfl)
   ·refine aa.neg (by rw [beq_eq_false_iff_ne]; omega) ?_
    refine aa.cE (EH (W.getD j []) 2 (by omega) (by omega) k) ?_;have z:aH j 0=false:=by
     cases j with
     |zero=>exact absurd rfl b
     |succ j=>rfl
    have e:((W.getD j []).length==2&&(W.getD j []).all ch)=false:=by
     unfold okW at a;rw[z]at a;exact a
    rw[e];simp only[cF];dsimp +instances only[go_sem];exact aa.pos rfl (aa.some rfl)
def gX(y m:Nat):Nat:=12*(y-2024)+(m-1)
def Sg(y m d:Nat):Prop:=2024<=y/\y<=2034/\1<=m/\m<=12/\1<=d/\d<=dR (gX y m)
def Si{y m:Nat}(a:2024<=y)(b:y<=2034)(d:1<=m)(g:m<=12):gX y m<132/\yK (gX y m)=y/\mK (gX y m)=m:=by
 unfold gX yK mK;omega
def ahY{k:Nat}:gX (yK k) (mK k)=k:=by
 unfold gX yK mK;omega
def Sj{k c:Nat}(q:k<132)(t:c<=100):∀(n j:Nat),j+n=k->bl wM [.i (yK k:Int),.i (mK k:Int),.i ((bt j+c:Nat):Int),.i (yK j:Int),.i (mK j:Int)] (n+1) fun x g=>x=0/\g=[.i ((bt k+c:Nat):Int)]
 | 0,j,b=>by
  have b:j=k:=by omega
  subst b;refine bl.stop (x:=0) (aa.toEq ?_) ⟨rfl,rfl⟩;unfold wM;dsimp +instances only[go_sem];exact aa.neg (by rw[be,dF]; omega) (aa.neg (by rw[be,dF]; omega) (aa.some rfl))
 | n+1,j,b=>by
  have B:=pe (show j<132 by omega);have F:bt j+31<=5000:=by
   have a:bt j<=bt 132:=sq (by omega);rw[AA]at a;omega
  have y:=pg j;have z:=ph (show j<132 by omega);have w:bt (j+1)=bt j+dR j:=rfl;have A:yK j<yK k\/mK j<mK k:=by
   unfold yK mK;omega
  have v:((bt j+c:Nat):Int)+(dR j:Int)=((bt (j+1)+c:Nat):Int):=by omega
  have step:wM [.i (yK k:Int),.i (mK k:Int),.i ((bt j+c:Nat):Int),.i (yK j:Int),.i (mK j:Int)]=some (none,[.i (yK k:Int),.i (mK k:Int),.i ((bt (j+1)+c:Nat):Int),.i (yK (j+1):Int),.i (mK (j+1):Int)]):=by
   refine aa.toEq ?_;unfold wM;dsimp +instances only[go_sem];have body:∀(g:LG),g=[.i (dR j:Int)]->aa (bif aF (((bt j+c:Nat):Int)+(gi g 0).iV) then bif aF ((mK j:Int)+1) then bif aK 12 ((mK j:Int)+1) then bif aF ((yK j:Int)+1) then some (none,[.i (yK k:Int),.i (mK k:Int),.i (((bt j+c:Nat):Int)+(gi g 0).iV),.i ((yK j:Int)+1),.i 1]) else none else some (none,[.i (yK k:Int),.i (mK k:Int),.i (((bt j+c:Nat):Int)+(gi g 0).iV),.i (yK j:Int),.i ((mK j:Int)+1)]) else none else none) fun o=>o=((none:Option Nat),[G.i (yK k:Int),.i (mK k:Int),.i ((bt (j+1)+c:Nat):Int),.i (yK (j+1):Int),.i (mK (j+1):Int)]):=by
    rintro _ rfl;dsimp +instances only[go_sem];rw[v];refine aa.pos (cK.2 ⟨by omega,by omega⟩) (aa.pos (cK.2 ⟨by omega,by omega⟩) ?_);by_cases h:(mK j:Int)+1>12
    ·obtain ⟨a, d⟩ := (w7 j).1 h
     refine aa.pos (by rw[be,dT]; omega) (aa.pos (cK.2 ⟨by omega,by omega⟩) (aa.some ?_));rw[a,d]
    ·obtain ⟨a, d⟩ := (w7 j).2 h
     refine aa.neg (by rw[be,dF]; omega) (aa.some ?_);rw[a,d]
   by_cases I:yK j<yK k
   ·refine aa.pos (by rw [be, dT]; omega) ?_
    exact aa.call (aa.eq (w6 (by omega))) body
   ·refine aa.neg (by rw [be, dF]; omega) (aa.pos (by rw [be, dT]; omega) ?_)
    exact aa.call (aa.eq (w6 (by omega))) body
  exact bl.next step (Sj q t n (j+1) (by omega))
def Jx{v lo hi:Nat}:ca (v:Int) (lo:Int) (hi:Int)=decide (lo<=v/\v<=hi):=by
 unfold ca;rw[bz,bz,<-Bool.decide_and,decide_eq_decide];omega
def ahZ(y m d:Nat)(F:y<10000)(hm:m<100)(I:d<100):aa (DQ [.i (y:Int),.i (m:Int),.i (d:Int)]) fun g =>
  (Sg y m d/\g=[.i ((bt (gX y m)+(d-1):Nat):Int),.t (decide (bt (gX y m)+(d-1)<=4000))])\/(¬ Sg y m d/\g=[.i 0,.t false]):=by
 unfold DQ;dsimp +instances only[go_sem];refine aa.cE ahI ?_;dsimp +instances only[go_sem];refine aa.cE (kG _ 2024 2034) ?_;dsimp +instances only[go_sem];rw[show ca (y:Int) 2024 2034=decide (2024<=y/\y<=2034) from Jx (v:=y) (lo:=2024) (hi:=2034)];by_cases a:2024<=y/\y<=2034
 case neg =>
  rw[decide_eq_false a];exact aa.pos rfl (aa.some (.inr ⟨fun h=>a ⟨h.1,h.2.1⟩,rfl⟩))
 rw[dE a];refine aa.neg rfl ?_;refine aa.cE (kG _ 1 12) ?_;dsimp +instances only[go_sem];rw[show ca (m:Int) 1 12=decide (1<=m/\m<=12) from Jx (v:=m) (lo:=1) (hi:=12)];by_cases b:1<=m/\m<=12
 case neg =>
  rw[decide_eq_false b];exact aa.pos rfl (aa.some (.inr ⟨fun h=>b ⟨h.2.2.1,h.2.2.2.1⟩,rfl⟩))
 rw[dE b];refine aa.neg rfl ?_;obtain⟨w,z,A⟩:=Si a.1 a.2 b.1 b.2;have B:ua [.i (y:Int),.i (m:Int)]=some [.i (dR (gX y m):Int)]:=by
  have:=w6 w
  rwa [z,A]at this
 refine aa.cE B ?_;dsimp +instances only[go_sem];refine aa.cE (kG _ 1 _) ?_;dsimp +instances only[go_sem];rw[show ca (d:Int) 1 (dR (gX y m):Int)=decide (1<=d/\d<=dR (gX y m)) from Jx (v:=d) (lo:=1)];by_cases q:1<=d/\d<=dR (gX y m)
 case neg =>
  rw[decide_eq_false q];exact aa.pos rfl (aa.some (.inr ⟨fun h=>q h.2.2.2.2,rfl⟩))
 rw[dE q];refine aa.neg rfl (aa.pos (cK.2 ⟨by omega,by omega⟩) ?_);have r:=Sj (k:=gX y m) (c:=d-1) w (by omega) (gX y m) 0 (by omega);rw[z,A,show bt 0+(d-1)=d-1 from eo _,show ((d-1:Nat):Int)=(d:Int)-1 by omega]at r;refine aa.loop (r.to (by omega)) rfl ?_;rintro _ _ ⟨rfl,rfl⟩;dsimp +instances only[go_sem];refine aa.some (.inl ⟨⟨a.1,a.2,b.1,b.2,q.1,q.2⟩,?_⟩);rw[bz];congr 3;rw[decide_eq_decide];omega
def pk(T:List UInt8):Bool:=T.length==6&&(T.all ch&&(decide (aT (T.take 2)<24)&&(decide (aT ((T.drop 2).take 2)<60)&&decide (aT (T.drop 4)<60))))
def qy(T:List UInt8):Nat:=(aT (T.take 2)*60+aT ((T.drop 2).take 2))*60+aT (T.drop 4)
def l_(D:List UInt8):Option Nat:=open Classical in if h:∃ d,d<=4000/\D=eB d then some (Tq h) else none
def ah0(l:List UInt8):fA l l=false:=by
 induction l with
 |nil=>rfl
 |cons b l a=>rw[Jt,a]
def Sk{a b:Nat}(k:a<4018)(q:b<4018)(h:eB a=eB b):a=b:=by
 have d:=EE k q;have g:=EE q k;rw[h,ah0]at d g;have d:=of_decide_eq_false d.symm;have g:=of_decide_eq_false g.symm;omega
def EI{D:List UInt8}{d:Nat}(h:l_ D=some d):d<=4000/\D=eB d:=by
 unfold l_ at h;split at h
 ·rename_i a
  cases h;exact Kg a
 ·cases h
def Sl{d:Nat}(h:d<=4000):l_ (eB d)=some d:=by
 cases a:l_ (eB d)with
 | some x =>
  obtain⟨g,b⟩:=EI a;rw[Sk (by omega) (by omega) b]
 | none =>
  unfold l_ at a;rw[dif_pos ⟨d,h,rfl⟩]at a;cases a
def Jy{D:List UInt8}(h:∀ d,d<=4000->D≠eB d):l_ D=none:=by
 cases a:l_ D with
 | some x =>
  obtain⟨b,g⟩:=EI a;exact(h x b g).elim
 |none=>rfl
def iv(D T:List UInt8):Option Nat:=(l_ D).bind fun d=>bif pk T then some (d*86400000+qy T*1000) else none
def EJ{D T:List UInt8}(h:l_ D=none):iv D T=none:=by
 unfold iv;rw[h];rfl
def AG{D T:List UInt8}(h:pk T=false):iv D T=none:=by
 unfold iv;rw[h];cases l_ D<;>rfl
def w_(D T:List UInt8):LG:=match iv D T with
 |some t=>[.i (t:Int),.t true]
 |none=>[.i 0,.t false]
def su{D T:List UInt8}(h:iv D T=none):w_ D T=[.i 0,.t false]:=by
 unfold w_;rw[h]
def ah1{l:List UInt8}(h:okW 0 l=true):l.length=4/\l.all ch=true:=by
 have h:((l.length==4)&&l.all ch)=true:=h;rw[aE,beq_iff_eq]at h;exact h
def AH{j:Nat}{l:List UInt8}(h:okW (j+1) l=true):l.length=2/\l.all ch=true:=by
 have h:((l.length==2)&&l.all ch)=true:=h;rw[aE,beq_iff_eq]at h;exact h
def ah2{l:List UInt8}(h:l.length=4)(h':l.all ch=true):okW 0 l=true:=by
 show ((l.length==4)&&l.all ch)=true
 rw[h,h'];rfl
def AI{j:Nat}{l:List UInt8}(h:l.length=2)(h':l.all ch=true):okW (j+1) l=true:=by
 show ((l.length==2)&&l.all ch)=true
 rw[h,h'];rfl
def m_(T:List UInt8)(i j:Nat):(aq T).extract i j=aq ((T.take j).drop i):=wX (by
 rw[pF,cU];simp[aq,List.extract,Tr])
def Sm{T:List UInt8}(h:T.length=6):(T.take 2).length=2/\((T.drop 2).take 2).length=2/\(T.drop 4).length=2:=by simp[h]
def Jz{T:List UInt8}:T.all ch=((T.take 2).all ch&&(((T.drop 2).take 2).all ch&&(T.drop 4).all ch)):=by
 have e:T=T.take 2++((T.drop 2).take 2++T.drop 4):=by
  rw[show T.drop 4=(T.drop 2).drop 2 by rw[pq],ng,ng]
 conv=>lhs; rw[e]
 rw[sF,sF]
def JA{d:Nat}(h:d<=4000):∃ k e,k<132/\e<dR k/\d=bt k+e/\bB 45 (eB d)=[gq (yK k),cL (mK k),cL (e+1)]/\yK k<10000/\mK k<100/\e+1<100:=by
 obtain⟨k,e,a,b,g,q⟩:=ur (show d<4018 by omega);have t:=ph a;have v:=pg k;have w:=pe a;exact⟨k,e,a,b,g,by rw[q,ED,ahW (by omega) (by omega) (by omega)],by omega,by omega,by omega⟩
def AJ{T:List UInt8}:pk T=true↔T.length=6/\T.all ch=true/\aT (T.take 2)<24/\aT ((T.drop 2).take 2)<60/\aT (T.drop 4)<60:=by
 unfold pk;simp only[aE,beq_iff_eq,dT]
def qz{T:List UInt8} (h:¬ (T.length=6/\T.all ch=true/\aT (T.take 2)<24/\aT ((T.drop 2).take 2)<60/\aT (T.drop 4)<60)):pk T=false:=by
 rw[nv];exact fun a=>h (AJ.1 a)
def ah3(D T:List UInt8)(hD:D.length<=900000)(hT:T.length<=900000):DR [.s (aq D),.s (aq T)]=some (w_ D T):=by
 refine aa.toEq ?_;unfold DR;dsimp +instances only[go_sem];refine aa.cE (Je (aq D) 45 (by rw[bJ]; exact hD)) ?_;dsimp +instances only[go_sem];rw[cU,show ((bB 45 D).map fun y=>[G.s (aq y)])=df (bB 45 D) from rfl,lq,bJ];generalize F:bB 45 D=P;by_cases h3:P.length=3
 case neg =>
  refine aa.pos (by rw[bne_iff_ne]; omega) (aa.some ?_);rw[su (EJ (Jy fun d B e=>h3 ?_))];obtain⟨k,e',_,_,_,q,_⟩:=JA B;rw[e,q]at F;rw[<-F];rfl
 obtain⟨a,b,c,rfl⟩:∃ a b c,P=[a,b,c]:=by
  match P,h3 with
  | [a,b,c],_=>exact⟨a,b,c,rfl⟩
 refine aa.neg rfl ?_;by_cases O:T.length=6
 case neg =>
  refine aa.pos (by rw[bne_iff_ne]; omega) (aa.some ?_);rw[su (AG (qz fun h=>O h.1))]
 rw[O];refine aa.neg rfl (aa.pos rfl (aa.pos rfl (aa.pos rfl (aa.pos rfl (aa.pos rfl (aa.pos rfl ?_))))));obtain⟨l1,l2,l3⟩:=Sm O;have e4:(aq T).extract 4 6=aq (T.drop 4):=by rw[m_,xm (by omega)]
 have e2:(aq T).extract 2 4=aq ((T.drop 2).take 2):=by rw[m_,Tr]
 have e0:(aq T).extract 0 2=aq (T.take 2):=by rw[m_,A5]
 rw[e4,e2,e0];have U:∀ w∈[a,b,c],w.length<=900000:=fun w J=>by
  have v:w∈bB 45 D:=by rw[F]; exact J
  exact oh (Eu v) hD
 obtain⟨W,I⟩:∃ W,W=[a,b,c,T.take 2,(T.drop 2).take 2,T.drop 4]:=⟨_,rfl⟩
 have hWl:W.length=6:=by rw[I]; rfl
 have hWy:∀ w∈W,w.length<=900000:=by
  intro w J;rw[I]at J;simp only[cf,jf,or_false]at J;rcases J with rfl|rfl|rfl|rfl|rfl|rfl
  ·exact U _ (by simp)
  ·exact U _ (by simp)
  ·exact U _ (by simp)
  ·omega
  ·omega
  ·omega
 have r:=Sf W hWl hWy 6 0 rfl;have hrows:df W=[[.s (aq a)],[.s (aq b)],[.s (aq c)],[.s (aq (T.take 2))],[.s (aq ((T.drop 2).take 2))],[.s (aq (T.drop 4))]]:=by rw[I]; rfl
 rw[hrows]at r;have r2:bl rX [.l [],.l [[.s (aq a)],[.s (aq b)],[.s (aq c)],[.s (aq (T.take 2))],[.s (aq ((T.drop 2).take 2))],[.s (aq (T.drop 4))]],.i 6,.i 0] 7 _:=r;refine aa.loop (r2.to (by omega)) rfl ?_;rintro x g (⟨rfl,z,rfl⟩|⟨rfl,⟨i,_,hi,A⟩,rfl⟩)
 case inr =>
  dsimp +instances only[go_sem];refine aa.pos rfl (aa.some ?_);rw[su];cases B:l_ D with
  |none=>exact EJ B
  | some d =>
   refine AG ?_;rw[nv];intro Y;obtain⟨_,t2,_⟩:=AJ.1 Y;rw[Jz,aE,aE]at t2;obtain⟨v,M⟩:=EI B;obtain⟨k,e,_,_,_,q,y1,y2,y3⟩:=JA v;rw[<-M,F]at q;simp only[SZ,and_true]at q;obtain⟨rfl,rfl,rfl⟩:=q;rw[I]at A;have hi6:i=0\/i=1\/i=2\/i=3\/i=4\/i=5:=by omega
   rcases hi6 with rfl|rfl|rfl|rfl|rfl|rfl
   ·exact absurd (ah2 (Js _) (EG y1).2) (by rw[show okW 0 (gq (yK k))=false from A]; simp)
   ·exact absurd (AI (j:=0) (Ey _) (so y2)) (by rw[show okW 1 (cL (mK k))=false from A]; simp)
   ·exact absurd (AI (j:=1) (Ey _) (so y3)) (by rw[show okW 2 (cL (e+1))=false from A]; simp)
   ·exact absurd (AI (j:=2) l1 t2.1) (by rw[show okW 3 (T.take 2)=false from A]; simp)
   ·exact absurd (AI (j:=3) l2 t2.2.1) (by rw[show okW 4 ((T.drop 2).take 2)=false from A]; simp)
   ·exact absurd (AI (j:=4) l3 t2.2.2) (by rw[show okW 5 (T.drop 4)=false from A]; simp)
 rw[I]at z;obtain⟨a1,a2⟩:=ah1 (l:=a) (z 0 (by omega) (by omega));obtain⟨b1,b2⟩:=AH (j:=0) (l:=b) (z 1 (by omega) (by omega));obtain⟨c1,c2⟩:=AH (j:=1) (l:=c) (z 2 (by omega) (by omega));obtain⟨_,s1⟩:=AH (j:=2) (l:=T.take 2) (z 3 (by omega) (by omega));obtain⟨_,s2⟩:=AH (j:=3) (l:=(T.drop 2).take 2) (z 4 (by omega) (by omega));obtain⟨_,s3⟩:=AH (j:=4) (l:=T.drop 4) (z 5 (by omega) (by omega));have hTd:T.all ch=true:=by rw[Jz,s1,s2,s3]; rfl
 obtain⟨ya,ya2⟩:=ahV a1 a2;obtain⟨yb,yb2⟩:=w9 b1 b2;obtain⟨yc,yc2⟩:=w9 c1 c2;obtain⟨_,t1⟩:=w9 l1 s1;obtain⟨_,t2⟩:=w9 l2 s2;obtain⟨_,t3⟩:=w9 l3 s3;have hv:pj W=[[.i (aT a:Int)],[.i (aT b:Int)],[.i (aT c:Int)],[.i (aT (T.take 2):Int)],[.i (aT ((T.drop 2).take 2):Int)],[.i (aT (T.drop 4):Int)]]:=by rw[I]; rfl
 rw[hv];dsimp +instances only[go_sem];simp only[List.getD_cons_zero,List.getD_cons_succ];dsimp +instances only[go_sem];refine aa.neg rfl (aa.pos rfl (aa.pos rfl (aa.pos rfl (aa.pos rfl (aa.pos rfl (aa.pos rfl ?_))))));have hDt:D=sr (aT a) (aT b) (aT c):=by
  rw[ahX F];unfold sr;rw[ya,yb,yc]
 refine aa.call (ahZ (aT a) (aT b) (aT c) ya2 yb2 yc2) ?_;rintro _ (⟨V,rfl⟩|⟨V,rfl⟩)
 case inr =>
  dsimp +instances only[go_sem];refine aa.pos rfl (aa.some ?_);rw[su (EJ (Jy fun d B e=>V ?_))];obtain⟨k,e',hk,he,_,q,y1,y2,y3⟩:=JA B;rw[<-e,F]at q;simp only[SZ,and_true]at q;obtain⟨q1,q2,q3⟩:=q;rw[q1,q2,q3,(EG y1).1,Ax y2,Ax y3];have v:=ph hk;have M:=pg k;exact⟨v.1,v.2,M.1,M.2,by omega,by rw[ahY]; omega⟩
 dsimp +instances only[go_sem];obtain⟨v1,v2,v3,v4,v5,v6⟩:=V;obtain⟨k1,k2,k3⟩:=Si v1 v2 v3 v4;have hday:bt (gX (aT a) (aT b))+(aT c-1)<4018:=by
  have v:bt (gX (aT a) (aT b)+1)<=bt 132:=sq (by omega);rw[AA]at v;have M:bt (gX (aT a) (aT b)+1)=bt (gX (aT a) (aT b))+dR (gX (aT a) (aT b)):=rfl;omega
 have hDd:D=eB (bt (gX (aT a) (aT b))+(aT c-1)):=by
  rw[ahS k1 (by omega) hday,ED,k2,k3,show aT c-1+1=aT c by omega];exact hDt
 generalize bt (gX (aT a) (aT b))+(aT c-1)=X at *;by_cases N:X<=4000
 case neg =>
  rw[decide_eq_false N];refine aa.pos rfl (aa.some ?_);rw[su (EJ (Jy fun d B e=>N ?_))];rw[hDd]at e;have:=Sk hday (by omega) e;omega
 rw[dE N];have hdc:l_ D=some X:=by rw[hDd]; exact Sl N
 refine aa.neg rfl (aa.pos rfl (aa.pos rfl ?_));by_cases g1:aT (T.take 2)<24
 case neg =>
  refine aa.pos (by rw[bz,dT]; omega) (aa.some ?_);rw[su (AG (qz fun h=>g1 h.2.2.1))]
 refine aa.neg (by rw[bz,dF]; omega) (aa.pos rfl (aa.pos rfl ?_));by_cases g2:aT ((T.drop 2).take 2)<60
 case neg =>
  refine aa.pos (by rw[bz,dT]; omega) (aa.some ?_);rw[su (AG (qz fun h=>g2 h.2.2.2.1))]
 refine aa.neg (by rw[bz,dF]; omega) (aa.pos rfl (aa.pos rfl ?_));by_cases g3:aT (T.drop 4)<60
 case neg =>
  refine aa.pos (by rw[bz,dT]; omega) (aa.some ?_);rw[su (AG (qz fun h=>g3 h.2.2.2.2))]
 refine aa.neg (by rw[bz,dF]; omega) ?_;have Y:pk T=true:=AJ.2 ⟨O,hTd,g1,g2,g3⟩;have hm:iv D T=some (X*86400000+qy T*1000):=by
  unfold iv;rw[hdc,Y];rfl
 unfold qy at hm;refine aa.pos (cK.2 ⟨by omega,by omega⟩) (aa.pos rfl (aa.pos rfl (aa.pos (cK.2 ⟨by omega,by omega⟩) (aa.pos rfl (aa.pos rfl (aa.pos (cK.2 ⟨by omega,by omega⟩) (aa.pos (cK.2 ⟨by omega,by omega⟩) (aa.pos rfl (aa.pos rfl (aa.pos (cK.2 ⟨by omega,by omega⟩) (aa.pos (cK.2 ⟨by omega,by omega⟩) (aa.pos (cK.2 ⟨by omega,by omega⟩) (aa.some ?_)))))))))))));unfold w_;rw[hm]
 first|rfl|(show [G.i _,G.t true]=[G.i _,G.t true]; congr 2; omega)
def nc:List (List UInt8):=[[],[67,87],[80,72],[82,89]]
def ah4:zM []=some [.l (df nc)]:=rfl
def ah5:zB []=some [.l (df nc)]:=rfl
def iM(l:List UInt8):Option Int:=if l=[45] then some 0 else (ja 15 l).bind fun n=>if n=0 then none else some n
def qA(l m:List UInt8):((aq l).toList==(aq m).toList)=decide (l=m):=by
 rw[eE,eE,cU,cU,fP,beq_iff_eq,dT]
def ah6{l:List UInt8}(h:l≠[45]):iM l=(ja 15 l).bind fun n=>if n=0 then none else some n:=by
 unfold iM;rw[iN h]
def Sn{l:List UInt8}{n:Int}(h:l≠[45])(a:∀ v,ja 15 l=some v->n=v) :
  aa (bif (ja 15 l).isSome then some [G.i n,G.t (n != 0)] else some [G.i n,G.t false]) fun g=>∃ n,g=[.i n,.t (iM l).isSome]/\∀ v,iM l=some v->n=v:=by
 rw[ah6 h];cases d:ja 15 l with
 |none=>exact aa.some ⟨n,rfl,fun v a=>by cases a⟩
 | some v =>
  have:=a v d;subst this;refine aa.some ?_;by_cases b:n=0
  ·subst b
   exact⟨0,rfl,fun v a=>by cases a⟩
  ·refine ⟨n, ?_, fun v a => ?_⟩
   ·have e : (n != 0) = true := by rw [bne_iff_ne]; exact b
    rw[e];simp[b]
   ·simp only [Fg, iN b, a_] at a
    exact a
def So(l:List UInt8)(b:l.length<=900000):aa (zR [.s (aq l)]) fun g=>∃ n,g=[.i n,.t (iM l).isSome]/\∀ v,iM l=some v->n=v:=by
 unfold zR;dsimp +instances only[go_sem];rw[show (⟨#[45]⟩:BY)=aq [45] from rfl,qA];by_cases h:l=[45]
 ·subst h
  exact aa.pos rfl (aa.some ⟨0,rfl,fun v a=>by cases a; rfl⟩)
 ·rw [decide_eq_false h]
  refine aa.neg rfl ?_;refine aa.call (RJ (aq l) (by rw[bJ]; exact b)) ?_;rintro _ ⟨n,rfl,a⟩;rw[cU]at a;dsimp +instances only[go_sem];rw[cU];exact Sn h a
def Sp(l:List UInt8)(b:l.length<=900000):aa (z_ [.s (aq l)]) fun g=>∃ n,g=[.i n,.t (iM l).isSome]/\∀ v,iM l=some v->n=v:=by
 unfold z_;dsimp +instances only[go_sem];rw[show (⟨#[45]⟩:BY)=aq [45] from rfl,qA];by_cases h:l=[45]
 ·subst h
  exact aa.pos rfl (aa.some ⟨0,rfl,fun v a=>by cases a; rfl⟩)
 ·rw [decide_eq_false h]
  refine aa.neg rfl ?_;refine aa.call (RM (aq l) (by rw[bJ]; exact b)) ?_;rintro _ ⟨n,rfl,a⟩;rw[cU]at a;dsimp +instances only[go_sem];rw[cU];exact Sn h a
def jy:List UInt8:=[81,83,79,58]
def jb(W:List (List UInt8)):Option (Int × (BY->LG)) :=
 if W.length=10/\W.getD 0 []=jy/\0<jv nc (W.getD 2 []) then
  (ja 15 (W.getD 1 [])).bind fun k => (iv (W.getD 3 []) (W.getD 4 [])).bind fun t => (iM (W.getD 6 [])).bind fun s => (iM (W.getD 8 [])).bind fun h =>
   some (k,fun b=>[.i (t:Int),.i (jv nc (W.getD 2 [])),.s b,.s (aq (W.getD 5 [])),.i s,.i h,.s (aq (l8 (W.getD 7 []))),.s (aq (l8 (W.getD 9 [])))])
 else none
def jN{W:List (List UInt8)}{k:Int}{f:BY->LG}(h:jb W=some (k,f)):W.length=10/\W.getD 0 []=jy/\0<jv nc (W.getD 2 [])/\ja 15 (W.getD 1 [])=some k /\
  ∃ t s h',iv (W.getD 3 []) (W.getD 4 [])=some t/\iM (W.getD 6 [])=some s/\iM (W.getD 8 [])=some h'/\f=fun b=>[.i (t:Int),.i (jv nc (W.getD 2 [])),.s b,.s (aq (W.getD 5 [])),.i s,.i h',.s (aq (l8 (W.getD 7 []))),.s (aq (l8 (W.getD 9 [])))]:=by
 unfold jb at h;split at h
 case isFalse=>cases h
 rename_i g;cases a:ja 15 (W.getD 1 [])with
 |none=>rw[a]at h; cases h
 | some w =>
  cases d:iv (W.getD 3 []) (W.getD 4 [])with
  |none=>rw[a,d]at h; cases h
  | some t =>
   cases q:iM (W.getD 6 [])with
   |none=>rw[a,d,q]at h; cases h
   | some s =>
    cases v:iM (W.getD 8 [])with
    |none=>rw[a,d,q,v]at h; cases h
    | some h' =>
     rw[a,d,q,v]at h;simp only[Fg,a_,bk]at h;exact⟨g.1,g.2.1,g.2.2,by rw[h.1],t,s,h',rfl,rfl,rfl,h.2.symm⟩
def Sq{W:List (List UInt8)}(a:W.length=10)(d:W.getD 0 []=jy)(g:0<jv nc (W.getD 2 [])){k:Int}(q:ja 15 (W.getD 1 [])=some k){t:Nat}(v:iv (W.getD 3 []) (W.getD 4 [])=some t){s h:Int}(w:iM (W.getD 6 [])=some s)(y:iM (W.getD 8 [])=some h) :
  jb W=some (k,fun b=>[.i (t:Int),.i (jv nc (W.getD 2 [])),.s b,.s (aq (W.getD 5 [])),.i s,.i h,.s (aq (l8 (W.getD 7 []))),.s (aq (l8 (W.getD 9 [])))]):=by
 unfold jb;rw[iP ⟨a,d,g⟩,q,v,w,y];rfl
def JB{l:List UInt8}(b:l.length=2)(d:l.all ch=true)(m:Nat)(hm:m<100)(s:BY)(g:s.data.toList=cL m):(fA (aq l).toList s.toList||((aq l).toList==s.toList))=decide (aT l<=m):=by
 obtain⟨h,a⟩:=w9 b d;rw[eE,eE,cU,g,<-h,AD a hm,EC a hm,Ax a,fP];simp only[nu,dT];omega
def ah7{T:List UInt8}(h:T.length=6)(g:T.all ch=true):aT (49::T)=1000000+aT (T.take 2)*10000+aT ((T.drop 2).take 2)*100+aT (T.drop 4)/\aT (T.take 2)<100/\aT ((T.drop 2).take 2)<100/\aT (T.drop 4)<100:=by
 match T,h,g with
 | [a,b,c,d,e,f],_,g =>
  simp only[jA,Fo,gu,aE]at g;obtain⟨k,q,t,v,w,y⟩:=g;have I:=mY k;have J:=mY q;have M:=mY t;have N:=mY v;have O:=mY w;have U:=mY y;have z:aT [49,a,b,c,d,e,f]=((((((0*10+1)*10+dj a)*10+dj b)*10+dj c)*10+dj d)*10+dj e)*10+dj f:=rfl;have A:aT (([a,b,c,d,e,f]:List UInt8).take 2)=(0*10+dj a)*10+dj b:=rfl;have B:aT ((([a,b,c,d,e,f]:List UInt8).drop 2).take 2)=(0*10+dj c)*10+dj d:=rfl;have F:aT (([a,b,c,d,e,f]:List UInt8).drop 4)=(0*10+dj e)*10+dj f:=rfl;rw[z,A,B,F];refine⟨?_,?_,?_,?_⟩<;>omega
def ah8{T:List UInt8}(b:T.length=6)(d:T.all ch=true):lY [.s ((⟨#[49]⟩:BY)++aq T)]=some [.i (aT (49::T):Int)]:=by
 have e:(⟨#[49]⟩:BY)++aq T=aq (49::T):=by
  rw[show (⟨#[49]⟩:BY)=aq [49] from rfl,gj];rfl
 have a:(49::T).all ch=true:=by
  rw[jA,d];rfl
 rw[e];refine aa.toEq ?_;unfold lY tN;dsimp +instances only[go_sem];refine aa.pos (by rw[bJ,bW,b]; rfl) ?_;rw[cU,Dd (List.cons_ne_nil _ _) a];exact aa.some rfl
def nd{W:List (List UInt8)}{row:LG}{k:Int}(g:∀ k f,jb W=some (k,f)->False):∃ a d ok,[G.l [row],G.i k,G.t false]=[.l [a],.i d,.t ok]/\ok=(true&&(jb W).isSome)/\∀ b f,ok=true->jb W=some (b,f)->d=b/\a=f ⟨#[]⟩:=by
 refine⟨row,k,false,rfl,?_,fun _ _ h=>by cases h⟩;cases q:jb W with
 |none=>simp
 |some x=>exact(g x.1 x.2 q).elim
def JC{D T:List UInt8}{t:Nat}(h:iv D T=some t):∃ d,d<=4000/\D=eB d/\pk T=true/\t=d*86400000+qy T*1000:=by
 unfold iv at h;cases a:l_ D with
 |none=>rw[a]at h; cases h
 | some d =>
  rw[a]at h;obtain⟨g,k⟩:=EI a;cases b:pk T with
  |false=>rw[b]at h; cases h
  | true =>
   rw[b]at h;simp only[Fg,cT,a_]at h;exact⟨d,g,k,rfl,h.symm⟩
def ah9(s:BY)(hs:s.size<=900000):aa (D0 [.s s]) fun g=>∃ row k ok,g=[.l [row],.i k,.t ok]/\ok=(fc (bB 32 s.data.toList)&&(jb (bB 32 s.data.toList)).isSome) /\
  ∀ V f,ok=true->jb (bB 32 s.data.toList)=some (V,f)->k=V/\row=f ⟨#[]⟩:=by
 unfold D0;dsimp +instances only[go_sem];refine aa.cE (ahe s hs) ?_;dsimp +instances only[go_sem];have hWy:∀ y∈bB 32 s.data.toList,y.length<=900000:=fun y B=>by
  have a:=Eu B;have b:s.data.toList.length=s.size:=(gx s).symm;omega
 generalize bB 32 s.data.toList=W at *;cases hwo:fc W with
 |false=>exact aa.pos rfl (aa.some ⟨_,0,false,rfl,rfl,fun _ _ h=>by cases h⟩)
 |true =>
 refine aa.neg rfl ?_;rw[lq];by_cases X:W.length=10
 case neg=>exact aa.pos (by rw[bne_iff_ne]; omega) (aa.some (nd fun k f h=>X (jN h).1))
 rw[X];simp only[gp W 0 (by omega),gp W 1 (by omega),gp W 2 (by omega),gp W 3 (by omega),gp W 4 (by omega),gp W 5 (by omega),gp W 6 (by omega),gp W 7 (by omega),gp W 8 (by omega),gp W 9 (by omega)];dsimp +instances only[go_sem];have B:∀ i,(W.getD i []).length<=900000:=fun i=>Ev hWy;refine aa.neg rfl (aa.pos rfl ?_);rw[show (⟨#[81,83,79,58]⟩:BY)=aq jy from rfl,qA];by_cases M:W.getD 0 []=jy
 case neg =>
  rw[decide_eq_false M];exact aa.pos rfl (aa.some (nd fun k f h=>M (jN h).2.1))
 rw[dE M];refine aa.neg rfl (aa.pos rfl ?_);refine aa.call (RM (aq (W.getD 1 [])) (by rw[bJ]; exact B 1)) ?_;rintro _ ⟨k,rfl,hk⟩;rw[cU]at hk;dsimp +instances only[go_sem];rw[cU];refine aa.pos rfl ?_;refine aa.call (ahU (aq (W.getD 3 []))) ?_;rintro _ ⟨d,hd,rfl,hdx⟩;rw[cU]at hdx;dsimp +instances only[go_sem];rw[cU];refine aa.pos rfl ?_;rw[bJ];have z:∀(h:pk (W.getD 4 [])=false) k f,jb W=some (k,f)->False:=fun h k f N=>by
  obtain⟨_,_,_,_,t,_,_,Y,_⟩:=jN N;obtain⟨_,_,_,b,_⟩:=JC Y;rw[h]at b;cases b
 generalize hT:W.getD 4 []=T at *;by_cases q:T.length=6
 case neg=>exact aa.pos (by rw[bne_iff_ne]; omega) (aa.some (nd (z (qz fun h=>q h.1))))
 refine aa.neg (by rw[q]; rfl) ?_;refine aa.cE (Ep (aq T) gl ch RL (by rw[bJ]; omega)) ?_;dsimp +instances only[go_sem];rw[cU];cases A:T.all ch with
 |false=>exact aa.pos rfl (aa.some (nd (z (qz fun h=>by rw[A]at h; cases h.2.1))))
 |true =>
 obtain⟨l1,l2,l3⟩:=Sm q;have O:=A;rw[Jz,aE,aE]at O;obtain⟨hv,v1,v2,v3⟩:=ah7 q A;have e4:(aq T).extract 4 6=aq (T.drop 4):=by rw[m_,xm (by omega)]
 have e2:(aq T).extract 2 4=aq ((T.drop 2).take 2):=by rw[m_,Tr]
 have e0:(aq T).extract 0 2=aq (T.take 2):=by rw[m_,A5]
 rw[q,e4,e2,e0];refine aa.neg rfl (aa.pos rfl ?_);rw[JB l1 O.1 23 (by omega) _ rfl];by_cases g1:aT (T.take 2)<24
 case neg =>
  rw[decide_eq_false (show ¬ aT (T.take 2)<=23 by omega)];exact aa.pos rfl (aa.some (nd (z (qz fun h=>g1 h.2.2.1))))
 rw[dE (show aT (T.take 2)<=23 by omega)];refine aa.neg rfl (aa.pos rfl ?_);rw[JB l2 O.2.1 59 (by omega) _ rfl];by_cases g2:aT ((T.drop 2).take 2)<60
 case neg =>
  rw[decide_eq_false (show ¬ aT ((T.drop 2).take 2)<=59 by omega)];exact aa.pos rfl (aa.some (nd (z (qz fun h=>g2 h.2.2.2.1))))
 rw[dE (show aT ((T.drop 2).take 2)<=59 by omega)];refine aa.neg rfl (aa.pos rfl ?_);rw[JB l3 O.2.2 59 (by omega) _ rfl];by_cases g3:aT (T.drop 4)<60
 case neg =>
  rw[decide_eq_false (show ¬ aT (T.drop 4)<=59 by omega)];exact aa.pos rfl (aa.some (nd (z (qz fun h=>g3 h.2.2.2.2))))
 rw[dE (show aT (T.drop 4)<=59 by omega)];have Y:pk T=true:=AJ.2 ⟨q,A,g1,g2,g3⟩;refine aa.neg rfl (aa.pos rfl ?_);refine aa.cE (ah8 q A) ?_;dsimp +instances only[go_sem];refine aa.cE ah5 ?_;dsimp +instances only[go_sem];refine aa.pos rfl ?_;refine aa.cE (indexAny nc (W.getD 2 []) (by decide)) ?_;dsimp +instances only[go_sem];refine aa.pos rfl (aa.pos rfl ?_);refine aa.cE (RX (W.getD 7 [])) ?_;dsimp +instances only[go_sem];refine aa.pos rfl ?_;refine aa.cE (RX (W.getD 9 [])) ?_;dsimp +instances only[go_sem];generalize hh:aT (T.take 2)=a at *;generalize hm:aT ((T.drop 2).take 2)=b at *;generalize hs3:aT (T.drop 4)=v at *;rw[hv];have q1:eW ((1000000+a*10000+b*100+v:Nat):Int) 10000=((100+a:Nat):Int):=by
  rw[qM (by omega)];omega
 have q2:dS ((100+a:Nat):Int) 100=((a:Nat):Int):=by
  rw[uL (by omega)];omega
 have q3:eW ((1000000+a*10000+b*100+v:Nat):Int) 100=((10000+a*100+b:Nat):Int):=by
  rw[qM (by omega)];omega
 have q4:dS ((10000+a*100+b:Nat):Int) 100=((b:Nat):Int):=by
  rw[uL (by omega)];omega
 have q5:dS ((1000000+a*10000+b*100+v:Nat):Int) 100=((v:Nat):Int):=by
  rw[uL (by omega)];omega
 rw[q1,q2,q3,q4,q5];have sec:qy T=(a*60+b)*60+v:=by
  unfold qy;rw[hh,hm,hs3]
 refine aa.pos (cK.2 ⟨by omega,by omega⟩) (aa.pos (cK.2 ⟨by omega,by omega⟩) (aa.pos (cK.2 ⟨by omega,by omega⟩) (aa.pos (cK.2 ⟨by omega,by omega⟩) (aa.pos (cK.2 ⟨by omega,by omega⟩) (aa.pos (cK.2 ⟨by omega,by omega⟩) (aa.pos (cK.2 ⟨by omega,by omega⟩) (aa.pos (cK.2 ⟨by omega,by omega⟩) (aa.pos (cK.2 ⟨by omega,by omega⟩) (aa.pos rfl ?_)))))))));refine aa.call (Sp (W.getD 6 []) (B 6)) ?_;rintro _ ⟨n6,rfl,hn6⟩;dsimp +instances only[go_sem];refine aa.pos rfl ?_;refine aa.call (Sp (W.getD 8 []) (B 8)) ?_;rintro _ ⟨n8,rfl,hn8⟩;dsimp +instances only[go_sem];cases F:ja 15 (W.getD 1 [])with
 |none=>exact aa.neg rfl (aa.some (nd fun k f h=>by rw[(jN h).2.2.2.1]at F; cases F))
 |some k1 =>
 refine aa.pos rfl ?_;have:=hk k1 F;subst this;by_cases hD:W.getD 3 []=eB d
 case neg =>
  refine aa.neg (by rw[beq_eq_false_iff_ne]; exact fun e=>hD e.symm) (aa.some (nd fun k f h=>?_));obtain⟨_,_,_,_,t,_,_,U,_⟩:=jN h;obtain⟨x,w,hDx,_,_⟩:=JC U;exact hD (by rw[hdx x w hDx]; exact hDx)
 refine aa.pos (by rw[beq_iff_eq]; exact hD.symm) ?_;cases I:iM (W.getD 6 [])with
 |none=>exact aa.neg rfl (aa.some (nd fun k f h=>by obtain⟨_,_,_,_,_,_,_,_,a,_⟩:=jN h; rw[a]at I; cases I))
 |some s6 =>
 refine aa.pos rfl ?_;have:=hn6 s6 I;subst this;cases J:iM (W.getD 8 [])with
 |none=>exact aa.neg rfl (aa.some (nd fun k f h=>by obtain⟨_,_,_,_,_,_,_,_,_,a,_⟩:=jN h; rw[a]at J; cases J))
 |some s8 =>
 refine aa.pos rfl (aa.some ?_);have:=hn8 s8 J;subst this;by_cases w:0<jv nc (W.getD 2 [])
 case neg =>
  rw[be,decide_eq_false w];exact nd fun k f h=>w (jN h).2.2.1
 rw[be,dE w];have U:iv (W.getD 3 []) (W.getD 4 [])=some (d*86400000+qy T*1000):=by
  unfold iv;rw[hT,Y,hD,Sl hd];rfl
 have N:=Sq X M w F U I J;refine⟨_,_,true,rfl,by rw[N]; rfl,fun V f _ h=>?_⟩;rw[N]at h;simp only[a_,bk]at h;obtain⟨rfl,rfl⟩:=h;refine⟨rfl,?_⟩;have e:(d:Int)*86400000+(((a:Nat):Int)*3600+((b:Nat):Int)*60+((v:Nat):Int))*1000=((d*86400000+qy T*1000:Nat):Int):=by
  rw[sec];omega
 rw[e]
def gY(b acc:LL)(W:List (List UInt8)):Int × LL:=match jb W with
 |none=>(9,acc)
 |some (k,f)=>if k<=30000000/\0<=dD (dW (k*1000)) b then (0,acc++[f (ir (dW (k*1000)) b)]) else (8,acc)
def JD{b acc:LL}{W:List (List UInt8)}(h:∀ k f,jb W=some (k,f)->False):gY b acc W=(9,acc):=by
 unfold gY;cases a:jb W with
 |none=>rfl
 |some x=>exact(h x.1 x.2 a).elim
def JE{b acc:LL}{W:List (List UInt8)}{k:Int}{f:BY->LG}(h:jb W=some (k,f)) :
  gY b acc W=if k<=30000000/\0<=dD (dW (k*1000)) b then (0,acc++[f (ir (dW (k*1000)) b)]) else (8,acc):=by
 unfold gY;rw[h]
def ah_(D T:List UInt8):∃ a,w_ D T=[.i a,.t (iv D T).isSome]/\∀ t,iv D T=some t->a=(t:Int):=by
 unfold w_;cases hm:iv D T with
 |none=>exact⟨0,rfl,fun t h=>by cases h⟩
 |some t=>exact⟨(t:Int),rfl,fun t' h=>by cases h; rfl⟩
def Sr{w:List UInt8}{k:Int}(h:ja 15 w=some k):mV k:=by
 have:=ahx (w:=w);rw[h]at this;exact this
def ah'(b acc:LL)(sg:BY)(bg en:Bool)(W:List (List UInt8))(O:∀ y∈W,y.length<=900000)(hb:∀ z∈b,dk z)(U:b.length<100000)(hacc:acc.length<=1000000) :
  DS [.l b,.s sg,.t bg,.t en,.l acc,.l (df W)]=some [.l b,.s sg,.t bg,.t en,.l (gY b acc W).2,.i (gY b acc W).1]:=by
 have d:∀ i,(W.getD i []).length<=900000:=fun i=>Ev O;have I:(((aH acc.length acc.length)&&true)&&true&&true)=true:=by simp
 have bad:(∀ k f,jb W=some (k,f)->False)->aa (bif (((aH acc.length acc.length)&&true)&&true&&true) then some [G.l b,.s sg,.t bg,.t en,.l acc,.i 9] else none) fun g=>g=[.l b,.s sg,.t bg,.t en,.l (gY b acc W).2,.i (gY b acc W).1]:=fun h=>by
  rw[JD h];exact aa.pos I (aa.some rfl)
 refine aa.toEq ?_;unfold DS;dsimp +instances only[go_sem];rw[lq];by_cases J:W.length=10
 case neg=>exact aa.pos (by rw[bne_iff_ne]; omega) (bad fun k f h=>J (jN h).1)
 rw[J];simp only[gp W 0 (by omega),gp W 1 (by omega),gp W 2 (by omega),gp W 3 (by omega),gp W 4 (by omega),gp W 5 (by omega),gp W 6 (by omega),gp W 7 (by omega),gp W 8 (by omega),gp W 9 (by omega)];dsimp +instances only[go_sem];refine aa.neg rfl (aa.pos rfl ?_);rw[show (⟨#[81,83,79,58]⟩:BY)=aq jy from rfl,qA];by_cases B:W.getD 0 []=jy
 case neg =>
  rw[decide_eq_false B];exact aa.pos rfl (bad fun k f h=>B (jN h).2.1)
 rw[dE B];refine aa.neg rfl (aa.pos rfl ?_);refine aa.call (RJ (aq (W.getD 1 [])) (by rw[bJ]; exact d 1)) ?_;rintro _ ⟨k,rfl,M⟩;rw[cU]at M;dsimp +instances only[go_sem];rw[cU];refine aa.cE ah4 ?_;dsimp +instances only[go_sem];refine aa.pos rfl ?_;refine aa.cE (indexAny nc (W.getD 2 []) (by decide)) ?_;dsimp +instances only[go_sem];refine aa.pos rfl (aa.pos rfl ?_);refine aa.cE (ah3 (W.getD 3 []) (W.getD 4 []) (d 3) (d 4)) ?_;obtain⟨tv,hG,V⟩:=ah_ (W.getD 3 []) (W.getD 4 []);rw[hG];dsimp +instances only[go_sem];refine aa.pos rfl ?_;refine aa.call (So (W.getD 6 []) (d 6)) ?_;rintro _ ⟨n6,rfl,X⟩;dsimp +instances only[go_sem];refine aa.pos rfl ?_;refine aa.call (So (W.getD 8 []) (d 8)) ?_;rintro _ ⟨n8,rfl,Y⟩;dsimp +instances only[go_sem];cases a:ja 15 (W.getD 1 [])with
 |none=>exact aa.pos rfl (bad fun k f h=>by rw[(jN h).2.2.2.1]at a; cases a)
 |some k1 =>
 refine aa.neg rfl ?_;have:=M k1 a;subst this;cases hm:iv (W.getD 3 []) (W.getD 4 [])with
 |none=>exact aa.pos rfl (bad fun k f h=>by obtain⟨_,_,_,_,_,_,_,q,_⟩:=jN h; rw[q]at hm; cases hm)
 |some t =>
 refine aa.neg rfl ?_;have:=V t hm;subst this;cases v:iM (W.getD 6 [])with
 |none=>exact aa.pos rfl (bad fun k f h=>by obtain⟨_,_,_,_,_,_,_,_,q,_⟩:=jN h; rw[q]at v; cases v)
 |some s6 =>
 refine aa.neg rfl ?_;have:=X s6 v;subst this;cases w:iM (W.getD 8 [])with
 |none=>exact aa.pos rfl (bad fun k f h=>by obtain⟨_,_,_,_,_,_,_,_,_,q,_⟩:=jN h; rw[q]at w; cases w)
 |some s8 =>
 refine aa.neg rfl ?_;have:=Y s8 w;subst this;by_cases N:0<jv nc (W.getD 2 [])
 case neg=>exact aa.pos (by rw[be,dT]; omega) (bad fun k f h=>N (jN h).2.2.1)
 refine aa.neg (by rw[be,dF]; omega) ?_;have hq:=Sq J B N a hm v w;rw[JE hq];have hks:=Sr a;unfold mV at hks;by_cases A:k<=30000000
 case neg =>
  rw[iN fun h=>A h.1];exact aa.neg (by rw[bz,decide_eq_false A]) (aa.pos I (aa.some rfl))
 refine aa.pos (by rw[bz,dE A]) (aa.pos (cK.2 ⟨by omega,by omega⟩) ?_);refine aa.cE (Rf b (k*1000) hb U) ?_;dsimp +instances only[go_sem];rcases qv (p:=dW (k*1000)) b with⟨F,_⟩|⟨i,F,e2,e3,_⟩
 ·rw [iN (by rw [F]; omega), F]
  exact aa.pos rfl (aa.pos I (aa.some rfl))
 ·rw [iP ⟨A, by omega⟩, e3, F]
  refine aa.neg (by rw[be,dF]; omega) (aa.pos (by rw[aE,dY,be,dT,dT]; omega) (aa.pos rfl (aa.pos rfl ?_)));refine aa.cE (RW (W.getD 7 [])) ?_;dsimp +instances only[go_sem];refine aa.pos rfl ?_;refine aa.cE (RW (W.getD 9 [])) ?_;dsimp +instances only[go_sem];rw[eH];exact aa.pos (by rw[aE,dT]; exact⟨A4 _,by omega⟩) (aa.pos (by simp) (aa.some rfl))
structure QS where
 sg:List UInt8
 bg:Bool
 en:Bool
 acc:LL
def nf:List UInt8:=[67,65,76,76,58]
def uu:List UInt8:=[69,78,68]
def bq(b:LL)(q:QS)(p:List UInt8):Int × QS :=
 if p=[] then (0,q)
 else if fc (bB 32 p)=false\/q.en=true then (9,q)
 else if q.bg=false then (if (bB 32 p).length=2/\(bB 32 p).getD 0 []=nf then (0,{ q with sg:=(bB 32 p).getD 1 [],bg:=true }) else (9,q))
 else if p=uu then (0,{ q with en:=true })
 else ((gY b q.acc (bB 32 p)).1,{ q with acc:=(gY b q.acc (bB 32 p)).2 })
def aia(b:LL)(q:QS)(p:List UInt8)(B:p.length<=900000)(N:∀ z∈b,dk z)(J:b.length<100000)(I:q.acc.length<=1000000) :
  DT [.l b,.s (aq q.sg),.t q.bg,.t q.en,.l q.acc,.s (aq p)]=some [.l b,.s (aq (bq b q p).2.sg),.t (bq b q p).2.bg,.t (bq b q p).2.en,.l (bq b q p).2.acc,.i (bq b q p).1]:=by
 have g:(((aH q.acc.length q.acc.length)&&true)&&true&&true)=true:=by simp
 have M:∀ y∈bB 32 p,y.length<=900000:=fun y O=>oh (Eu O) B;refine aa.toEq ?_;unfold DT;dsimp +instances only[go_sem];rw[n_];by_cases a:p=[]
 ·subst a
  refine aa.pos rfl (aa.pos g (aa.some ?_));rw[show bq b q []=(0,q) from iP rfl]
 ·refine aa.neg (by cases p; exact absurd rfl a; rfl) ?_
  refine aa.cE (ahc (aq p) (by rw[bJ]; exact B)) ?_;rw[cU];cases F:fc (bB 32 p)with
  | false =>
   simp only[cF];dsimp +instances only[go_sem];refine aa.pos rfl (aa.pos g (aa.some ?_));rw[show bq b q p=(9,q) by unfold bq; rw[iN a,iP (.inl F)]]
  | true =>
   simp only[cT];dsimp +instances only[go_sem];refine aa.neg rfl ?_;cases he:q.en with
   | true =>
    refine aa.pos rfl (aa.pos g (aa.some ?_));rw[show bq b q p=(9,q) by unfold bq; rw[iN a,iP (.inr he)],he]
   | false =>
    refine aa.neg rfl ?_;have v:¬ (fc (bB 32 p)=false\/q.en=true):=by
     rw[F,he];simp
    cases k:q.bg with
    | false =>
     refine aa.pos rfl ?_;rw[lq];by_cases w:(bB 32 p).length=2
     case neg =>
      refine aa.pos (by rw[bne_iff_ne]; omega) (aa.pos g (aa.some ?_));rw[show bq b q p=(9,q) by unfold bq; rw[iN a,iN v,iP k,iN fun h=>w h.1],k,he]
     rw[w];refine aa.neg rfl (aa.pos rfl ?_);rw[gp _ 0 (by omega),gp _ 1 (by omega)];dsimp +instances only[go_sem];rw[show (⟨#[67,65,76,76,58]⟩:BY)=aq nf from rfl,qA];by_cases d:(bB 32 p).getD 0 []=nf
     ·rw [dE d]
      refine aa.neg rfl (aa.pos rfl (aa.pos g (aa.some ?_)));rw[show bq b q p=(0,{ q with sg:=(bB 32 p).getD 1 [],bg:=true }) by unfold bq; rw[iN a,iN v,iP k,iP ⟨w,d⟩],he]
     ·rw [decide_eq_false d]
      refine aa.pos rfl (aa.pos g (aa.some ?_));rw[show bq b q p=(9,q) by unfold bq; rw[iN a,iN v,iP k,iN fun h=>d h.2],k,he]
    | true =>
     refine aa.neg rfl ?_;rw[show (⟨#[69,78,68]⟩:BY)=aq uu from rfl,qA];have A:¬ q.bg=false:=by rw[k]; simp
     by_cases d:p=uu
     ·rw [dE d]
      refine aa.pos rfl (aa.pos g (aa.some ?_));rw[show bq b q p=(0,{ q with en:=true }) by unfold bq; rw[iN a,iN v,iN A,iP d],k]
     ·rw [decide_eq_false d]
      refine aa.neg rfl ?_;have U:=ah' b q.acc (aq q.sg) true false (bB 32 p) M N J I;refine aa.lT (aa.eq U) g ?_;rintro _ rfl;dsimp +instances only[go_sem];refine aa.pos (by simp) (aa.some ?_);rw[show bq b q p=((gY b q.acc (bB 32 p)).1,{ q with acc:=(gY b q.acc (bB 32 p)).2 }) by unfold bq; rw[iN a,iN v,iN A,iN d],k,he]
def aib(p pre:List UInt8)(a:p.length<=900000)(b:pre.length<=900000):uc [.s (aq p),.s (aq pre)]=some [.t (decide (p.take pre.length=pre))]:=by
 refine aa.toEq ?_;unfold uc;dsimp +instances only[go_sem];rw[bJ,bJ];by_cases h:pre.length<=p.length
 ·refine aa.pos (by rw [bz, dT]; omega) (aa.pos (by rw [aE, dY, bz, dT, dT]; omega) (aa.some ?_))
  rw[m_,A5,qA]
 ·refine aa.neg (by rw [bz, dF]; omega) (aa.some ?_)
  rw[decide_eq_false fun e=>by
   have:=congrArg Fb e;rw[iy]at this;omega]
def aic(p pre:List UInt8)(a:p.length<=900000)(b:pre.length<=900000):ud [.s (aq p),.s (aq pre)]=some (bif decide (p.take pre.length=pre) then [.s (aq (p.drop pre.length)),.t true] else [.s (aq p),.t false]):=by
 refine aa.toEq ?_;unfold ud;dsimp +instances only[go_sem];refine aa.call (P:=fun g=>g=bif decide (p.take pre.length=pre) then [.s (aq (p.drop pre.length)),.t true] else [.s (aq p),.t false]) ?_ ?_
 ·unfold DP
  dsimp +instances only[go_sem];refine aa.cE (aib p pre a b) ?_;dsimp +instances only[go_sem];rw[bJ,bJ];by_cases h:p.take pre.length=pre
  ·rw [dE h]
   have d:pre.length<=p.length:=by
    have:=congrArg Fb h;rw[iy]at this;omega
   refine aa.neg rfl (aa.pos (by rw[aE,dY,bz,dT,dT]; omega) (aa.some ?_));rw[m_,xm (aY _)];rfl
  ·rw [decide_eq_false h]
   exact aa.pos rfl (aa.some rfl)
 ·rintro _ rfl
  by_cases h:p.take pre.length=pre
  ·rw [dE h]
   exact aa.some rfl
  ·rw [decide_eq_false h]
   exact aa.some rfl
def aid(l:List UInt8)(c:UInt8):aR 0 (eN l c)=decide (c∈l):=by
 rw[bz,decide_eq_decide];constructor
 ·intro h
  refine sC fun b=>?_;rw[zl b]at h;omega
 ·intro h
  have q:=Lib.indexByte_ge l c;rcases Int.lt_or_le (eN l c) 0 with a|a
  ·have e : eN l c = -1 := by omega
   obtain⟨k,d,g⟩:=Ke.1 h;exact(Lib.indexByte_none e k (by rw[cn d,g])).elim
  ·exact a
def aie(l:List UInt8):tT [.s (aq l),.s (⟨#[32]⟩:BY)]=some [.t (decide ((32:UInt8)∈l))]:=by
 refine aa.toEq ?_;unfold tT zb;dsimp +instances only[go_sem];refine aa.pos rfl (aa.some ?_);rw[cU];show [G.t (aR 0 (lB l [32]))]=_
 rw[pD,aid]
def kI:List UInt8:=[67,65,76,76,58,32]
def Ss(p:List UInt8):(fc (bB 32 p)=true/\(bB 32 p).length=2/\(bB 32 p).getD 0 []=nf)↔(p.take 6=kI/\p.drop 6≠[]/\(32:UInt8)∉p.drop 6):=by
 constructor
 ·rintro ⟨g, k, h⟩
  obtain⟨a,b,d⟩:∃ a b,bB 32 p=[a,b]:=by
   match y:bB 32 p,k with
   | [a,b],_=>exact⟨a,b,rfl⟩
  rw[d]at g h;have t:a=nf:=h;subst t;have v:b≠[]:=by
   rintro rfl;simp[fc]at g
  have w:(32:UInt8)∉b:=Dc 32 p b (by rw[d]; simp);have q:=wo 32 p;rw[d,jK,kN]at q;rw[<-q];exact⟨rfl,v,w⟩
 ·rintro ⟨g, k, h⟩
  have e:p=nf++(32::p.drop 6):=by
   have:=ng 6 p;rw[g]at this;exact this.symm
  have d:bB 32 p=[nf,p.drop 6]:=by
   rw[e,AF (by decide),show (nf++(32::p.drop 6)).drop 6=p.drop 6 from rfl,AE h]
  rw[d];refine⟨?_,rfl,rfl⟩;unfold fc;simp[nf,k]
def aif{p:List UInt8}(a:p.take 6=kI)(b:(32:UInt8)∉p.drop 6):(bB 32 p).getD 1 []=p.drop 6:=by
 have e:p=nf++(32::p.drop 6):=by
  have:=ng 6 p;rw[a]at this;exact this.symm
 have d:bB 32 p=[nf,p.drop 6]:=by
  rw[e,AF (by decide),show (nf++(32::p.drop 6)).drop 6=p.drop 6 from rfl,AE b]
 rw[d];rfl
def AK(b:LL)(q:QS)(p:List UInt8)(n:Int)(g:LG):Prop:=∃(bg:Bool) (sg:BY) (en:Bool) (acc:LL) (a ok:Bool),g=[.i (n+1),.t bg,.s sg,.t en,.l acc,.t a,.t ok] /\
 ((bq b q p).1=0->ok=true/\a=false/\bg=(bq b q p).2.bg/\sg=aq (bq b q p).2.sg/\en=(bq b q p).2.en/\acc=(bq b q p).2.acc)/\((bq b q p).1≠0->ok=false/\a=((bq b q p).1==8))
def EK{b:LL}{q q':QS}{p:List UInt8}{n:Int}(h:bq b q p=(0,q')):AK b q p n [.i (n+1),.t q'.bg,.s (aq q'.sg),.t q'.en,.l q'.acc,.t false,.t true]:=by
 refine⟨_,_,_,_,_,_,rfl,?_,?_⟩
 ·rw [h]
  exact fun _=>⟨rfl,rfl,rfl,rfl,rfl,rfl⟩
 ·rw [h]
  exact fun h=>absurd rfl h
def xa{b:LL}{q q':QS}{p:List UInt8}{n:Int}{bg en:Bool}{sg:BY}{acc:LL}(h:bq b q p=(9,q')):AK b q p n [.i (n+1),.t bg,.s sg,.t en,.l acc,.t false,.t false]:=by
 refine⟨_,_,_,_,_,_,rfl,?_,?_⟩
 ·rw [h]
  intro h;cases h
 ·rw [h]
  exact fun _=>⟨rfl,rfl⟩
def Su{b:LL}{q q':QS}{p:List UInt8}{n:Int}{bg en:Bool}{sg:BY}{acc:LL}(h:bq b q p=(8,q')):AK b q p n [.i (n+1),.t bg,.s sg,.t en,.l acc,.t true,.t false]:=by
 refine⟨_,_,_,_,_,_,rfl,?_,?_⟩
 ·rw [h]
  intro h;cases h
 ·rw [h]
  exact fun _=>⟨rfl,rfl⟩
def EL(b:LL):Prop:=∀ z∈b,0<=(gi z 1).iV
def aih{b:LL}(h:EL b){v:Int}(k:v<0):dD (dW v) b = -1:=by
 rcases qv (p:=dW v) b with⟨d,_⟩|⟨i,_,g,_,a⟩
 ·exact d
 ·have := h _ (i_ g)
  unfold dW at a;rw[aE,bz,dT]at a;omega
def aii(b:LL)(q:QS)(p:List UInt8)(n:Int)(hn:0<=n)(hn1:n<=1000000)(hp:p.length<=900000)(hbn:b.length<100000)(hown:Own b)(hlow:EL b)(hen:q.en=true->q.bg=true)(hacc:q.acc.length<=1000000) :
  aa (D1 [.i n,.t q.bg,.s (aq q.sg),.t q.en,.l q.acc,.t false,.s (aq p),.l [[.l b]]]) (AK b q p n):=by
 have w:(((aH q.acc.length q.acc.length)&&true)&&true&&true)=true:=by simp
 have W:((aH q.acc.length q.acc.length)&&decide (q.acc.length+1<=1048576))=true:=by
  rw[aE,dT];exact⟨A4 _,by omega⟩
 unfold D1;dsimp +instances only[go_sem];rw[n_];refine aa.pos (cK.2 ⟨by omega,by omega⟩) ?_;by_cases g:p=[]
 ·subst g
  exact aa.pos rfl (aa.pos w (aa.some (EK (q':=q) (iP rfl))))
 refine aa.neg (by cases p; exact absurd rfl g; rfl) ?_;cases y:q.bg with
 | false =>
  have he:q.en=false:=by
   cases he:q.en with
   |false=>rfl
   |true=>rw[hen he]at y; cases y
  refine aa.pos rfl ?_;rw[show (⟨#[67,65,76,76,58,32]⟩:BY)=aq kI from rfl];refine aa.cE (aic p kI hp (by decide)) ?_;have bad:¬ (p.take 6=kI/\p.drop 6≠[]/\(32:UInt8)∉p.drop 6)->bq b q p=(9,q):=fun h=>by
   rw[<-Ss]at h;unfold bq;rw[iN g];by_cases d:fc (bB 32 p)=false\/q.en=true
   ·rw[iP d]
   ·rw[iN d,iP y,iN fun z=>h ⟨by
     cases I:fc (bB 32 p)with
     |true=>rfl
     |false=>exact absurd (.inl I) d,z.1,z.2⟩]
  by_cases A:p.take kI.length=kI
  case neg =>
   rw[decide_eq_false A];simp only[cF];dsimp +instances only[go_sem];exact aa.neg rfl (aa.pos w (aa.some (xa (bad fun h=>A h.1))))
  rw[dE A];simp only[cT];dsimp +instances only[go_sem];have A:p.take 6=kI:=A;refine aa.pos rfl ?_;rw[show p.drop kI.length=p.drop 6 from rfl,n_];by_cases z:p.drop 6=[]
  ·rw [z]
   exact aa.neg rfl (aa.pos w (aa.some (xa (bad fun h=>h.2.1 z))))
  refine aa.pos (by cases hd:p.drop 6; exact absurd hd z; rfl) ?_;refine aa.cE (aie (p.drop 6)) ?_;dsimp +instances only[go_sem];refine aa.pos w (aa.some ?_);by_cases a:(32:UInt8)∈p.drop 6
  ·rw [dE a]
   exact xa (bad fun h=>h.2.2 a)
  ·rw [decide_eq_false a]
   have I:=(Ss p).2 ⟨A,z,a⟩;have B:bq b q p=(0,{ q with sg:=p.drop 6,bg:=true }):=by
    unfold bq;rw[iN g,iN (by rw[I.1,he]; simp),iP y,iP I.2,aif A a]
   exact EK B
 |true =>
 have U:¬ q.bg=false:=by rw[y]; simp
 refine aa.neg rfl ?_;cases he:q.en with
 |true=>exact aa.pos rfl (aa.pos w (aa.some (xa (q':=q) (by unfold bq; rw[iN g,iP (.inr he)]))))
 |false =>
 refine aa.neg rfl ?_;rw[show (⟨#[69,78,68]⟩:BY)=aq uu from rfl,qA];by_cases a:p=uu
 ·rw [dE a]
  have d:fc (bB 32 p)=true:=by
   rw[a,AE (by decide)];rfl
  have B:bq b q p=(0,{ q with en:=true }):=by
   unfold bq;rw[iN g,iN (by rw[d,he]; simp),iN U,iP a]
  have:=EK (n:=n) B;rw[y]at this;exact aa.pos rfl (aa.pos w (aa.some this))
 rw[decide_eq_false a];refine aa.neg rfl ?_;refine aa.call (ah9 (aq p) (by rw[bJ]; exact hp)) ?_;rintro _ ⟨row,k,ok,rfl,v,Y⟩;rw[cU]at v Y;dsimp +instances only[go_sem];cases ok with
 | false =>
  refine aa.pos rfl (aa.pos w (aa.some ?_));by_cases d:fc (bB 32 p)=false\/q.en=true
  ·have := xa (b := b) (q := q) (q' := q) (p := p) (n := n) (bg := true) (en := false) (sg := aq q.sg) (acc := q.acc) (by unfold bq; rw [iN g, iP d])
   exact this
  ·have hw1:fc (bB 32 p)=true:=by
    cases I:fc (bB 32 p)with
    |true=>rfl
    |false=>exact absurd (.inl I) d
   rw[hw1]at v;have hr:gY b q.acc (bB 32 p)=(9,q.acc):=JD fun k f h=>by rw[h]at v; cases v
   exact xa (q':={ q with acc:=q.acc }) (by unfold bq; rw[iN g,iN d,iN U,iN a,hr])
 |true =>
 refine aa.neg rfl ?_;have v:=v.symm;rw[aE]at v;obtain⟨d,hs⟩:=v;obtain⟨⟨k',f⟩,B⟩:=Option.isSome_iff_exists.1 hs;obtain⟨e1,e2⟩:=Y k' f rfl B;subst e1;subst e2;have M:bq b q p=((gY b q.acc (bB 32 p)).1,{ q with acc:=(gY b q.acc (bB 32 p)).2 }):=by
  unfold bq;rw[iN g,iN (by rw[d,he]; simp),iN U,iN a]
 rw[JE B]at M;obtain⟨_,_,_,hk,t,s,h,_,_,_,hf⟩:=jN B;have hks:=Sr hk;unfold mV at hks;have V:¬ (k<=30000000/\0<=dD (dW (k*1000)) b)->∃ q',bq b q p=(8,q'):=fun h=>⟨_,by rw[M,iN h]⟩
 rw[hf];have fin:∀(q':QS) (acc':LL),bq b q p=(8,q')->aa (some [G.i (n+1),.t true,.s (aq q.sg),.t false,.l acc',.t ((⟨#[]⟩:BY).toList==(⟨#[]⟩:BY).toList),.t (!((⟨#[]⟩:BY).toList==(⟨#[]⟩:BY).toList))]) (AK b q p n):=fun q' acc' F=>by
  rw[beq_self_eq_true];exact aa.some (Su F)
 by_cases hk0:0<=k
 case neg =>
  obtain⟨q',F⟩:=V fun h=>by
   have:=aih hlow (show k*1000<0 by omega);omega
  exact aa.neg (by rw[bz,decide_eq_false hk0]) (aa.pos W (aa.pos (by simp) (fin q' _ F)))
 refine aa.pos (by rw[bz,dE hk0]) ?_;by_cases N:k<=30000000
 case neg =>
  obtain⟨q',F⟩:=V fun h=>N h.1;exact aa.neg (by rw[bz,decide_eq_false N]) (aa.pos W (aa.pos (by simp) (fin q' _ F)))
 refine aa.pos (by rw[bz,dE N]) (aa.pos (cK.2 ⟨by omega,by omega⟩) ?_);refine aa.cE (Rg b (1000*k) hbn) ?_;dsimp +instances only[go_sem];have J:=Ri hown (1000*k);have hcm:(1000:Int)*k=k*1000:=by omega
 rw[hcm]at J|-;refine aa.pos W (aa.pos (by simp) (aa.some ?_));by_cases O:0<=dD (dW (k*1000)) b
 ·rw [bz, dE O] at J
  have X:((ir (dW (k*1000)) b).toList==(⟨#[]⟩:BY).toList)=false:=by simpa using J
  rw[X];rw[iP ⟨N,O⟩]at M;have:=EK (n:=n) M;rw[hf,y,he]at this;exact this
 ·rw [bz, decide_eq_false O] at J
  have X:((ir (dW (k*1000)) b).toList==(⟨#[]⟩:BY).toList)=true:=by simpa using J
  rw[X];obtain⟨q',F⟩:=V fun h=>O h.2;exact Su F
def fv(b:LL):List (List UInt8)->QS->Nat->Option (Nat × Int) × QS
 | [],q,_=>(none,q)
 |p::L,q,i=>if (bq b q p).1=0 then fv b L (bq b q p).2 (i+1) else (some (i,(bq b q p).1),q)
def qB(b:LL)(a:Bool):List (List UInt8)->QS->Nat->Option (Nat × Int) × QS
 | [],q,_=>(none,q)
 |p::S,q,i=>if a=false/\S=[] then (some (i,9),q) else if (bq b q p).1=0 then qB b a S (bq b q p).2 (i+1) else (some (i,(bq b q p).1),q)
def Sv(b:LL):∀(L:List (List UInt8)) (q:QS) (i:Nat),qB b true L q i=fv b L q i
 | [],_,_=>rfl
 | p::L,q,i=>by
  simp only[qB,fv,Sv b L];simp
def Sw(b:LL)(z:List UInt8):∀(L:List (List UInt8)) (q:QS) (i:Nat),qB b false (L++[z]) q i=match fv b L q i with
  |(none,q')=>(some (i+L.length,9),q')
  |x=>x
 | [],q,i=>by
  simp[qB,fv]
 | p::L,q,i=>by
  rw[kK,qB,fv];rw[iN (by simp)];by_cases h:(bq b q p).1=0
  ·rw [iP h, iP h, Sw b z L]
   cases a:fv b L (bq b q p).2 (i+1)with
   | mk o q' =>
    cases o with
    | none =>
     simp only[bW];rw[show i+1+L.length=i+(L.length+1) by omega]
    |some x=>rfl
  ·rw[iN h,iN h]
def aij(b:LL)(q:QS)(p:List UInt8):(bq b q p).1=0\/(bq b q p).1=8\/(bq b q p).1=9:=by
 have a:∀ W,(gY b q.acc W).1=0\/(gY b q.acc W).1=8\/(gY b q.acc W).1=9:=by
  intro W;unfold gY;cases jb W with
  |none=>exact .inr (.inr rfl)
  | some x =>
   obtain⟨k,f⟩:=x;by_cases h:k<=30000000/\0<=dD (dW (k*1000)) b
   ·left
    simp only[iP h]
   ·right
    left;simp only[iN h]
 unfold bq;split
 ·exact .inl rfl
 ·split
  ·exact .inr (.inr rfl)
  ·split
   ·split
    ·exact .inl rfl
    ·exact .inr (.inr rfl)
   ·split
    ·exact .inl rfl
    ·exact a _
def JF{b:LL}{q:QS}{p:List UInt8}(h:(bq b q p).1=0):((q.en=true->q.bg=true)->((bq b q p).2.en=true->(bq b q p).2.bg=true))/\(bq b q p).2.acc.length<=q.acc.length+1:=by
 have d:∀ W,(gY b q.acc W).2.length<=q.acc.length+1:=by
  intro W;unfold gY;cases jb W with
  |none=>simp
  | some x =>
   obtain⟨k,f⟩:=x;by_cases h:k<=30000000/\0<=dD (dW (k*1000)) b
   ·simp only [iP h, dG, bW, kf]
    omega
   ·simp only [iN h]
    omega
 unfold bq at h|-;split
 ·exact⟨fun h=>h,by simp⟩
 ·split
  ·exact⟨fun h=>h,by simp⟩
  ·split
   ·split
    ·exact⟨fun _ _=>rfl,by simp⟩
    ·exact⟨fun h=>h,by simp⟩
   ·rename_i a
    split
    ·exact⟨fun _ _=>by simpa using a,by simp⟩
    ·exact⟨fun h=>h,d _⟩
def aik(b:LL)(S:List (List UInt8))(r:Option (Nat × Int) × QS)(c:Nat)(g:LG):Prop:=match r with
 |(none,q)=>c=1/\g=[.l b,.s (aq q.sg),.t q.bg,.t q.en,.l q.acc,.l (df S)]
 |(some (j,e),_)=>c=0/\g=[.s (⟨#[]⟩:BY),.l [],.i (j:Int),.i e]
def Sx(b:LL)(S:List (List UInt8))(a:Bool)(A:∀ p∈S,p.length<=900000)(I:S.length<=300000)(B:∀ z∈b,dk z)(y:b.length<100000):∀(n i:Nat) (q:QS),i+n=S.length->q.acc.length<=i ->
  bl rY [.l b,.s (aq q.sg),.t q.bg,.t q.en,.l q.acc,.l (df S),.t a,.l (df S),.i (S.length:Int),.i (i:Int)] (n+1) (aik b S (qB b a (S.drop i) q i))
 | 0,i,q,hi,J=>by
  have v:(((aH q.acc.length q.acc.length)&&true)&&true&&true)=true:=by simp
  rw[List.drop_eq_nil_of_le (by omega)];refine bl.stop (x:=1) (aa.toEq ?_) ⟨rfl,rfl⟩;unfold rY;dsimp +instances only[go_sem];exact aa.neg (by rw[be,dF]; omega) (aa.pos v (aa.some rfl))
 | n+1,i,q,hi,J=>by
  have v:(((aH q.acc.length q.acc.length)&&true)&&true&&true)=true:=by simp
  have k:i<S.length:=by omega
  have M:S[i].length<=900000:=A _ (List.getElem_mem k);have N:gi ((df S).getD i []) 0=.s (aq S[i]):=by
   rw[gp S i k,eh,cn k];rfl
  have O:=aia b q S[i] M B y (by omega);have U:S.drop i=S[i]::S.drop (i+1):=List.drop_eq_getElem_cons k;have w:S.drop (i+1)=[]↔(i:Int)=(S.length:Int)-1:=by
   rw[List.drop_eq_nil_iff];omega
  have V:((((aH (bq b q S[i]).2.acc.length (bq b q S[i]).2.acc.length)&&true)&&true)&&true)=true:=by simp
  rw[U,qB];have start:∀(Q:Option Nat × LG->Prop),(aa (bif !a then bif aF ((S.length:Int)-1) then bif (i:Int)==(S.length:Int)-1 then some (some 0,[G.s (⟨#[]⟩:BY),.l [],.i (i:Int),.i 9]) else bif (bq b q S[i]).1 != 0 then some (some 0,[.s (⟨#[]⟩:BY),.l [],.i (i:Int),.i (bq b q S[i]).1]) else bif aF ((i:Int)+1) then some (none,[.l b,.s (aq (bq b q S[i]).2.sg),.t (bq b q S[i]).2.bg,.t (bq b q S[i]).2.en,.l (bq b q S[i]).2.acc,.l (df S),.t a,.l (df S),.i (S.length:Int),.i ((i:Int)+1)]) else none else none
    else bif (bq b q S[i]).1 != 0 then some (some 0,[.s (⟨#[]⟩:BY),.l [],.i (i:Int),.i (bq b q S[i]).1]) else bif aF ((i:Int)+1) then some (none,[.l b,.s (aq (bq b q S[i]).2.sg),.t (bq b q S[i]).2.bg,.t (bq b q S[i]).2.en,.l (bq b q S[i]).2.acc,.l (df S),.t a,.l (df S),.i (S.length:Int),.i ((i:Int)+1)]) else none) Q) ->
    aa (rY [.l b,.s (aq q.sg),.t q.bg,.t q.en,.l q.acc,.l (df S),.t a,.l (df S),.i (S.length:Int),.i (i:Int)]) Q:=by
   intro Q h;unfold rY;dsimp +instances only[go_sem];rw[eH,N,lq];refine aa.pos (by rw[be,dT]; omega) (aa.pos (by rw[aE,dY,be,dT,dT]; omega) ?_);refine aa.lT (aa.eq O) v ?_;rintro _ rfl;dsimp +instances only[go_sem];rw[V];exact h
  by_cases d:a=false/\S.drop (i+1)=[]
  ·rw [iP d]
   refine bl.stop (x:=0) (aa.toEq (start _ ?_)) ⟨rfl,rfl⟩;rw[d.1];exact aa.pos rfl (aa.pos (cK.2 ⟨by omega,by omega⟩) (aa.pos (by rw[beq_iff_eq]; exact w.1 d.2) (aa.some rfl)))
  ·rw [iN d]
   have F:∀(Q:Option Nat × LG->Prop),(aa (bif (bq b q S[i]).1 != 0 then some (some 0,[G.s (⟨#[]⟩:BY),.l [],.i (i:Int),.i (bq b q S[i]).1]) else bif aF ((i:Int)+1) then some (none,[.l b,.s (aq (bq b q S[i]).2.sg),.t (bq b q S[i]).2.bg,.t (bq b q S[i]).2.en,.l (bq b q S[i]).2.acc,.l (df S),.t a,.l (df S),.i (S.length:Int),.i ((i:Int)+1)]) else none) Q) ->
     aa (rY [.l b,.s (aq q.sg),.t q.bg,.t q.en,.l q.acc,.l (df S),.t a,.l (df S),.i (S.length:Int),.i (i:Int)]) Q:=by
    intro Q h;refine start Q ?_;cases he:a with
    | true =>
     rw[he]at h;exact aa.neg rfl h
    | false =>
     rw[he]at h;refine aa.pos rfl (aa.pos (cK.2 ⟨by omega,by omega⟩) (aa.neg ?_ h));rw[beq_eq_false_iff_ne];exact fun e=>d ⟨he,w.2 e⟩
   by_cases g:(bq b q S[i]).1=0
   ·rw [iP g]
    obtain⟨_,W⟩:=JF g;have step:rY [.l b,.s (aq q.sg),.t q.bg,.t q.en,.l q.acc,.l (df S),.t a,.l (df S),.i (S.length:Int),.i (i:Int)]=some (none,[.l b,.s (aq (bq b q S[i]).2.sg),.t (bq b q S[i]).2.bg,.t (bq b q S[i]).2.en,.l (bq b q S[i]).2.acc,.l (df S),.t a,.l (df S),.i (S.length:Int),.i ((i+1:Nat):Int)]):=by
     refine aa.toEq (F _ ?_);rw[g];exact aa.neg rfl (aa.pos (cK.2 ⟨by omega,by omega⟩) (aa.some rfl))
    exact bl.next step (Sx b S a A I B y n (i+1) _ (by omega) (by omega))
   ·rw [iN g]
    refine bl.stop (x:=0) (aa.toEq (F _ ?_)) ⟨rfl,rfl⟩;exact aa.pos (by rw[bne_iff_ne]; exact g) (aa.some rfl)
def pn(b:LL)(i:Nat)(L:List (List UInt8))(z:List UInt8)(r:Option (Nat × Int) × QS)(c:Nat)(g:LG):Prop:=match r with
 |(none,q)=>if z=[] then c=1/\g=[.i ((i+L.length:Nat):Int),.t q.bg,.s (aq q.sg),.t q.en,.l b,.l q.acc,.t false] else c=0/\∃(n:Int) (bg:Bool) (sg:BY) (en:Bool) (acc:LL),g=[.i n,.t bg,.s sg,.t en,.l b,.l acc,.t false,.i ((i+L.length:Nat):Int),.t false]
 |(some (j,e),_)=>c=0/\∃(n:Int) (bg:Bool) (sg:BY) (en:Bool) (acc:LL),g=[.i n,.t bg,.s sg,.t en,.l b,.l acc,.t (e==8),.i (j:Int),.t false]
def ail{b:LL}{i:Nat}{L:List (List UInt8)}{q:QS}{c:Nat}{g:LG} (h:c=1/\g=[.i ((i+L.length:Nat):Int),.t q.bg,.s (aq q.sg),.t q.en,.l b,.l q.acc,.t false]):pn b i L [] (none,q) c g:=by
 unfold pn;simp only[if_true];exact h
def aim{b:LL}{i:Nat}{L:List (List UInt8)}{z:List UInt8}(a:z≠[]){q:QS}{c:Nat}{g:LG} (h:c=0/\∃(n:Int) (bg:Bool) (sg:BY) (en:Bool) (acc:LL),g=[.i n,.t bg,.s sg,.t en,.l b,.l acc,.t false,.i ((i+L.length:Nat):Int),.t false]):pn b i L z (none,q) c g:=by
 unfold pn;simp only[iN a];exact h
def Sy(b:LL)(z:List UInt8)(N:(10:UInt8)∉z)(M:b.length<100000)(I:Own b)(J:EL b):∀(L:List (List UInt8)) (q:QS) (i:Nat),(∀ p∈L,(10:UInt8)∉p)->(dL L z).length<=900000->i+L.length<=900000->q.acc.length<=i->(q.en=true->q.bg=true) ->
  bl r8 [.i (i:Int),.t q.bg,.s (aq q.sg),.t q.en,.l b,.l q.acc,.t false,.s (aq (dL L z)),.i (i:Int)] (L.length+1) (pn b i L z (fv b L q i))
 | [],q,i,w,A,hi,ha,k=>by
  have d:(((aH q.acc.length q.acc.length)&&true)&&true&&true)=true:=by simp
  have B:dL [] z=z:=rfl;rw[B];show bl _ _ _ (pn b i [] z (none,q))
  by_cases v:z=[]
  ·subst v
   have F:pn b i [] [] (none,q) 1 [.i (i:Int),.t q.bg,.s (aq q.sg),.t q.en,.l b,.l q.acc,.t false]:=ail ⟨rfl,rfl⟩;refine bl.stop (x:=1) (aa.toEq ?_) F;unfold r8;dsimp +instances only[go_sem];rw[n_];exact aa.neg rfl (aa.pos d (aa.some rfl))
  ·have F : pn b i [] z (none, q) 0 [.i (i : Int), .t q.bg, .s (aq q.sg), .t q.en, .l b, .l q.acc, .t false, .i (i : Int), .t false] := aim v ⟨rfl, _, _, _, _, _, rfl⟩
   refine bl.stop (x:=0) (aa.toEq ?_) F;unfold r8;dsimp +instances only[go_sem];rw[n_];refine aa.pos (by cases z; exact absurd rfl v; rfl) ?_;refine aa.cE (ahm z N) ?_;dsimp +instances only[go_sem];exact aa.pos rfl (aa.pos d (aa.some rfl))
 | p::L,q,i,w,A,hi,ha,k=>by
  have d:(((aH q.acc.length q.acc.length)&&true)&&true&&true)=true:=by simp
  have B:dL (p::L) z=p++10::dL L z:=Aw p L z;rw[B]at A|-;simp only[dG,bW]at A hi;have V:p.length<=900000:=by omega
  have hR:=aii b q p (i:Int) (by omega) (by omega) V M I J k (by omega);obtain⟨g,W,bg,sg,en,acc,O,ok,rfl,X,U⟩:=hR;have start:∀(Q:Option Nat × LG->Prop),(aa (bif !ok then some (some 0,[G.i ((i:Int)+1),.t bg,.s sg,.t en,.l b,.l acc,.t O,.i (i:Int),.t false]) else bif aF ((i:Int)+1) then some (none,[.i ((i:Int)+1),.t bg,.s sg,.t en,.l b,.l acc,.t O,.s (aq (dL L z)),.i ((i:Int)+1)]) else none) Q) ->
    aa (r8 [.i (i:Int),.t q.bg,.s (aq q.sg),.t q.en,.l b,.l q.acc,.t false,.s (aq (p++10::dL L z)),.i (i:Int)]) Q:=by
   intro Q h;unfold r8;dsimp +instances only[go_sem];rw[n_];refine aa.pos (by cases p<;>rfl) ?_;refine aa.cE (ahl p (dL L z) (w p cZ) (by simp only[dG,bW]; omega)) ?_;dsimp +instances only[go_sem];refine aa.neg rfl ?_;refine aa.lT (aa.eq W) d ?_;rintro _ rfl;dsimp +instances only[go_sem];rw[show ((((aH acc.length acc.length)&&true)&&true)&&true)=true by simp];exact h
  rw[fv];by_cases a:(bq b q p).1=0
  ·obtain ⟨rfl, rfl, rfl, rfl, rfl, rfl⟩ := X a
   obtain⟨Y,hka⟩:=JF a;rw[iP a];have step:r8 [.i (i:Int),.t q.bg,.s (aq q.sg),.t q.en,.l b,.l q.acc,.t false,.s (aq (p++10::dL L z)),.i (i:Int)]=some (none,[.i ((i+1:Nat):Int),.t (bq b q p).2.bg,.s (aq (bq b q p).2.sg),.t (bq b q p).2.en,.l b,.l (bq b q p).2.acc,.t false,.s (aq (dL L z)),.i ((i+1:Nat):Int)]) :=
    aa.toEq (start _ (aa.neg rfl (aa.pos (cK.2 ⟨by omega,by omega⟩) (aa.some rfl))))
   refine bl.next step (bl.mono (Sy b z N M I J L (bq b q p).2 (i+1) (fun y hy=>w y (c8 _ hy)) (by omega) (by omega) (by omega) (Y k)) fun c g h=>?_)
   cases hr:fv b L (bq b q p).2 (i+1)with
   | mk o q' =>
    rw[hr]at h;cases o with
    | none =>
     unfold pn at h|-;simp only[bW]at h|-;rw[show i+(L.length+1)=i+1+L.length by omega];exact h
    |some x=>exact h
  ·obtain ⟨rfl, rfl⟩ := U a
   rw[iN a];exact bl.stop (x:=0) (aa.toEq (start _ (aa.pos rfl (aa.some rfl)))) ⟨rfl,_,_,_,_,_,rfl⟩
def ain:rO [.I,.I,.str,.str,.I,.I,.str,.str] nZ eL dq:=⟨fun _ _ a b=>Jj a b,fun _ h=>h.eta⟩
def aio:rO [.I,.I,.str,.str,.I,.I,.str,.str] qm eL dq:=⟨fun _ _ a b=>Jk a b,fun _ h=>h.eta⟩
def aip(rZ:LL)(a:∀ y∈rZ,eL y)(b:rZ.length<=20):zt [.l rZ]=some [.l (eS (dQ dq) rZ)]:=Ia ain rZ a b
def aiq(rZ:LL)(a:∀ y∈rZ,eL y)(b:rZ.length<=20):IE [.l rZ]=some [.l (eS (dQ dq) rZ)]:=Ia aio rZ a b
def uv(rZ:LL)(i:Nat):Prop:=∀ j,i<=j->0<j->j<rZ.length->dq (rZ.getD (j-1) []) (rZ.getD j [])≠0
def air(b:LL)(sg:BY)(bg en:Bool)(rZ:LL)(F:∀ y∈rZ,eL y)(V:rZ.length<=1000):∀(n i:Nat),0<i->rZ.length<=i+n->bl r7 [.l b,.s sg,.t bg,.t en,.l rZ,.i (i:Int)] (n+1) fun c g =>
  (c=1/\uv rZ i/\g=[.l b,.s sg,.t bg,.t en,.l rZ])\/(c=0/\¬ uv rZ i/\g=[.s (⟨#[]⟩:BY),.l [],.i 0,.i 6]):=by
 have w:(((aH rZ.length rZ.length)&&true)&&true&&true)=true:=by simp
 intro n
 induction n with
 | zero =>
  intro i I hi;refine bl.stop (x:=1) (aa.toEq ?_) (.inl ⟨rfl,fun j a _ d=>by omega,rfl⟩);unfold r7;dsimp +instances only[go_sem];exact aa.neg (by rw[be,dF]; omega) (aa.pos w (aa.some rfl))
 | succ n N =>
  intro i I hi;by_cases B:i<rZ.length
  case neg =>
   refine bl.stop (x:=1) (aa.toEq ?_) (.inl ⟨rfl,fun j a _ d=>by omega,rfl⟩);unfold r7;dsimp +instances only[go_sem];exact aa.neg (by rw[be,dF]; omega) (aa.pos w (aa.some rfl))
  have O:((i:Int)-1).toNat=i-1:=by omega
  have J:=F _ (i_ (show i-1<rZ.length by omega));have M:=F _ (i_ B);have start:∀(Q:Option Nat × LG->Prop),aa (bif dq (rZ.getD (i-1) []) (rZ.getD i [])==0 then some (some 0,[G.s (⟨#[]⟩:BY),.l [],.i 0,.i 6]) else bif aF ((i:Int)+1) then some (none,[.l b,.s sg,.t bg,.t en,.l rZ,.i ((i:Int)+1)]) else none) Q->aa (r7 [.l b,.s sg,.t bg,.t en,.l rZ,.i (i:Int)]) Q:=by
   intro Q h;unfold r7;dsimp +instances only[go_sem];rw[O,eH,eo,eo,J.eta,M.eta,w];refine aa.pos (by rw[be,dT]; omega) (aa.pos (cK.2 ⟨by omega,by omega⟩) (aa.pos (by rw[aE,dY,be,dT,dT]; omega) (aa.pos (by rw[dT]; omega) (aa.pos (by rw[aE,dY,be,dT,dT]; omega) (aa.pos (by rw[dT]; omega) ?_)))));refine aa.cE (Jk J M) ?_;exact h
  by_cases h:dq (rZ.getD (i-1) []) (rZ.getD i [])=0
  ·exact bl.stop (x:=0) (aa.toEq (start _ (aa.pos (by rw[beq_iff_eq]; exact h) (aa.some rfl)))) (.inr ⟨rfl,fun z=>z i (aY _) I B h,rfl⟩)
  ·have step:r7 [.l b,.s sg,.t bg,.t en,.l rZ,.i (i:Int)]=some (none,[.l b,.s sg,.t bg,.t en,.l rZ,.i ((i+1:Nat):Int)]) :=
    aa.toEq (start _ (aa.neg (by rw[beq_eq_false_iff_ne]; exact h) (aa.pos (cK.2 ⟨by omega,by omega⟩) (aa.some rfl))))
   refine bl.next step (bl.mono (N (i+1) (by omega) (by omega)) fun c g U=>?_)
   rcases U with⟨a,d,A⟩|⟨a,d,A⟩
   ·refine .inl ⟨a, fun j k q v => ?_, A⟩
    rcases Fi k with k|rfl
    ·exact d j k q v
    ·exact h
   ·exact .inr ⟨a,fun z=>d fun j k q v=>z j (by omega) q v,A⟩
def ais(sg:BY)(rZ:LL)(B:∀ y∈rZ,eL y)(U:rZ.length<=1000):∀(n i:Nat),i+n=rZ.length->bl qo [.s sg,.l rZ,.i (rZ.length:Int),.i (i:Int)] (n+1) fun c g =>
  (c=1/\uv rZ i/\g=[.s sg,.l rZ])\/(c=0/\¬ uv rZ i/\g=[.s (⟨#[]⟩:BY),.l [],.i 0,.i 6]):=by
 have w:(((aH rZ.length rZ.length)&&true)&&true&&true)=true:=by simp
 intro n
 induction n with
 | zero =>
  intro i hi;refine bl.stop (x:=1) (aa.toEq ?_) (.inl ⟨rfl,fun j a _ b=>by omega,rfl⟩);unfold qo;dsimp +instances only[go_sem];exact aa.neg (by rw[be,dF]; omega) (aa.pos w (aa.some rfl))
 | succ n F =>
  intro i hi;have A:i<rZ.length:=by omega
  by_cases M:0<i
  case neg =>
   have N:i=0:=by omega
   subst N;have step:qo [.s sg,.l rZ,.i (rZ.length:Int),.i ((0:Nat):Int)]=some (none,[.s sg,.l rZ,.i (rZ.length:Int),.i ((0+1:Nat):Int)]):=by
    refine aa.toEq ?_;unfold qo;dsimp +instances only[go_sem];rw[w];exact aa.pos (by rw[be,dT]; omega) (aa.neg rfl (aa.pos rfl (aa.pos rfl (aa.some rfl))))
   refine bl.next step (bl.mono (F (0+1) (by omega)) fun c g z=>?_)
   rcases z with⟨a,b,q⟩|⟨a,b,q⟩
   ·exact .inl ⟨a,fun j t d k=>b j (by omega) d k,q⟩
   ·exact .inr ⟨a,fun v=>b fun j t d k=>v j (by omega) d k,q⟩
  have O:((i:Int)-1).toNat=i-1:=by omega
  have I:=B _ (i_ (show i-1<rZ.length by omega));have J:=B _ (i_ A);have start:∀(Q:Option Nat × LG->Prop),aa (bif dq (rZ.getD (i-1) []) (rZ.getD i [])==0 then some (some 0,[G.s (⟨#[]⟩:BY),.l [],.i 0,.i 6]) else bif aF ((i:Int)+1) then some (none,[.s sg,.l rZ,.i (rZ.length:Int),.i ((i:Int)+1)]) else none) Q->aa (qo [.s sg,.l rZ,.i (rZ.length:Int),.i (i:Int)]) Q:=by
   intro Q h;unfold qo;dsimp +instances only[go_sem];rw[O,eH,eo,eo,I.eta,J.eta,w];refine aa.pos (by rw[be,dT]; omega) (aa.pos (by rw[be,dT]; omega) (aa.pos (cK.2 ⟨by omega,by omega⟩) (aa.pos (by rw[aE,dY,be,dT,dT]; omega) (aa.pos (by rw[dT]; omega) (aa.pos (by rw[aE,dY,be,dT,dT]; omega) (aa.pos (by rw[dT]; omega) ?_))))));refine aa.cE (Jj I J) ?_;exact h
  by_cases h:dq (rZ.getD (i-1) []) (rZ.getD i [])=0
  ·exact bl.stop (x:=0) (aa.toEq (start _ (aa.pos (by rw[beq_iff_eq]; exact h) (aa.some rfl)))) (.inr ⟨rfl,fun v=>v i (aY _) M A h,rfl⟩)
  ·have step:qo [.s sg,.l rZ,.i (rZ.length:Int),.i (i:Int)]=some (none,[.s sg,.l rZ,.i (rZ.length:Int),.i ((i+1:Nat):Int)]) :=
    aa.toEq (start _ (aa.neg (by rw[beq_eq_false_iff_ne]; exact h) (aa.pos (cK.2 ⟨by omega,by omega⟩) (aa.some rfl))))
   refine bl.next step (bl.mono (F (i+1) (by omega)) fun c g z=>?_)
   rcases z with⟨a,b,q⟩|⟨a,b,q⟩
   ·refine .inl ⟨a, fun j t d k => ?_, q⟩
    rcases Fi t with t|rfl
    ·exact b j t d k
    ·exact h
   ·exact .inr ⟨a,fun v=>b fun j t d k=>v j (by omega) d k,q⟩
structure sv (q:QS):Prop where
 sg:mW (aq q.sg)
 acc:∀ z∈q.acc,eL z
def ait:∀ s∈l6,mW s:=by
 have h:(l6.all fun s=>b_ s&&bf s.size 900000)=true:=by kernel_rfl
 intro s a;have:=cq.1 h s a;rw[aE,cu]at this;exact this
def Sz:mW (⟨#[]⟩:BY):=⟨rfl,by decide⟩
def aiu{b:LL}(a:∀ z∈b,dk z)(v:Int):mW (ir (dW v) b):=by
 rcases qv (p:=dW v) b with⟨_,h⟩|⟨i,_,d,g,_⟩
 ·rw [h]
  exact Sz
 ·rw [g]
  obtain⟨k,lo,hi,e,q,_⟩:=a _ (i_ d);rw[e];exact ait k q
def aiv{D T:List UInt8}{t:Nat}(h:iv D T=some t):mV (t:Int):=by
 obtain⟨d,b,_,a,rfl⟩:=JC h;obtain⟨_,_,g,k,q⟩:=AJ.1 a;unfold qy mV;omega
def aiw{s:BY}(B:b_ s=true){b:LL}(F:∀ z∈b,dk z){q:QS}(a:sv q){p:List UInt8}(I:∀ x∈p,x∈s.data.toList)(N:p.length<=200000):sv (bq b q p).2:=by
 have v:∀ i (w:List UInt8),(∀ x∈w,x∈(bB 32 p).getD i [])->w.length<=((bB 32 p).getD i []).length->mW (aq w):=fun i w J O=>by
  refine⟨ahC B fun x d=>?_,?_⟩
  ·obtain ⟨y, A, d⟩ := ahw (J x d)
   exact I x (YY A x d)
  ·rw [bJ]
   have:=Ev (W:=bB 32 p) (i:=i) fun y A=>Eu A;omega
 unfold bq;split
 ·exact a
 ·split
  ·exact a
  ·split
   ·split
    ·exact⟨v 1 _ (fun _ h=>h) (aY _),a.acc⟩
    ·exact a
   ·split
    ·exact⟨a.sg,a.acc⟩
    ·refine ⟨a.sg, ?_⟩
     show ∀ z∈(gY b q.acc (bB 32 p)).2,eL z
     cases d:jb (bB 32 p)with
     | none =>
      rw[JD fun k f h=>by rw[d]at h; cases h];exact a.acc
     | some x =>
      obtain⟨k,f⟩:=x;rw[JE d];split
      ·intro z g
       rcases cN.1 g with g|g
       ·exact a.acc z g
       ·rw [gH] at g
        obtain⟨_,_,_,_,t,s',h',hm,U,V,M⟩:=jN d;rw[g,M];exact⟨_,_,_,_,_,_,_,_,rfl,aiv hm,(ahy _ _ (by decide)).1,aiu F _,v 5 _ (fun _ h=>h) (aY _),v 7 _ (Ew _).1 (Ew _).2,v 9 _ (Ew _).1 (Ew _).2⟩
      ·exact a.acc
def SA{s:BY}(g:b_ s=true){b:LL}(k:∀ z∈b,dk z):∀(L:List (List UInt8)) (q:QS) (i:Nat),sv q->(∀ p∈L,(∀ x∈p,x∈s.data.toList)/\p.length<=200000)->sv (fv b L q i).2/\(fv b L q i).2.acc.length<=q.acc.length+L.length
 | [],q,i,a,_=>⟨a,by simp[fv]⟩
 | p::L,q,i,a,h=>by
  rw[fv];by_cases d:(bq b q p).1=0
  ·rw [iP d]
   have t:=h p cZ;obtain⟨v,A⟩:=SA g k L (bq b q p).2 (i+1) (aiw g k a t.1 t.2) fun y w=>h y (c8 _ w);have B:=(JF d).2;refine⟨v,?_⟩;simp only[bW];omega
  ·rw [iN d]
   exact⟨a,by simp⟩
def SB{b:LL}:∀{L:List (List UInt8)} {q:QS} {i j:Nat} {e:Int} {q':QS},fv b L q i=(some (j,e),q')->e=8\/e=9
 | [],_,_,_,_,_,h=>by cases h
 | p::L,q,i,j,e,q',h=>by
  rw[fv]at h;by_cases a:(bq b q p).1=0
  ·rw [iP a] at h
   exact SB h
  ·rw [iN a] at h
   cases h;rcases aij b q p with h|h|h
   ·exact absurd h a
   ·exact .inl h
   ·exact .inr h
def SC:∀(L:List (List UInt8)) (z:List UInt8),(∀ p∈L,(10:UInt8)∉p)->(10:UInt8)∉z->(dL L z).count 10=L.length
 | [],z,_,a=>A9.2 a
 | p::L,z,b,a=>by
  rw[Aw,A_,List.count_cons_self,SC L z (fun y d=>b y (c8 _ d)) a,A9.2 (b p cZ),bW];omega
def aix{b:LL}(h:ft b=0):EL b:=by
 unfold ft at h;split at h
 ·omega
 split at h
 ·rename_i d a
  exact(a h).elim
 rename_i d a;have a:fw (dO b) b.length=0:=by simpa using a
 have g:=Ap a;intro z k;obtain⟨i,hi,rfl⟩:=Ke.1 k;have h:=g i hi;have e:b.getD i []=b[i]:=by simp[eh,hi]
 unfold dO at h;rw[e]at h;refine sC fun q=>?_;have:oY b[i]≠0:=by
  unfold oY;have d:ca (gi b[i] 1).iV 0 30000000000=false:=by
   unfold ca;rw[bz,decide_eq_false q];rfl
  rw[d];cases okB (gi b[i] 0).sV<;>simp
 rw[iP this]at h;exact this h
def ma(i e:Int):LG:=[.s (⟨#[]⟩:BY),.l [],.i i,.i e]
open Classical in
def oe(q:QS):LG :=
 if kH (aq q.sg)=true then
  if uv (eS (dQ dq) q.acc) 1 then
   if sk (eS (dQ dq) q.acc)=0 then [.s (aq q.sg),.l (eS (dQ dq) q.acc),.i 0,.i 0] else ma 0 (sk (eS (dQ dq) q.acc))
  else ma 0 6
 else ma 0 3
def JG(L:List (List UInt8))(z:List UInt8)(r:Option (Nat × Int) × QS):LG:=match r with
 |(some (j,e),_)=>ma j e
 |(none,q)=>if z=[]/\q.en=true then oe q else ma (L.length:Int) 9
def q0:QS:=⟨[],false,false,[]⟩
def aiy:sv q0:=⟨Sz,fun z a=>by cases a⟩
def aiz(b:LL)(I:∀ z∈b,dk z)(hbn:b.length<=1000)(V:ft b=0)(L:List (List UInt8))(z:List UInt8)(W:∀ p∈L,(10:UInt8)∉p)(X:(10:UInt8)∉z)(hl:(dL L z).length<=200000)(hn:L.length<=20)(t:sv (fv b L q0 0).2)(M:(fv b L q0 0).2.acc.length<=20) :
  uf [.l b,.s (aq (dL L z))]=some (JG L z (fv b L q0 0)):=by
 refine aa.toEq ?_;unfold uf;dsimp +instances only[go_sem];refine aa.cE (mU b I) ?_;dsimp +instances only[go_sem];rw[V,bJ];refine aa.neg rfl (aa.neg (by rw[be,dF]; omega) ?_);refine aa.cE (ahk L z W X (by omega)) ?_;dsimp +instances only[go_sem];rw[lq];have hsl:(oa L z).length<=21:=by
  rw[RY];cases z.isEmpty
  ·simp only[cF]; omega
  ·simp only[cT]; omega
 have A:=Jh L z;have Y:∀ p∈oa L z,p.length<=900000:=by
  intro p d;unfold oa at d;cases a:z.isEmpty with
  | true =>
   rw[a]at d;have:=A.1 p d;omega
  | false =>
   rw[a]at d;rcases cN.1 d with d|d
   ·have := A.1 p d
    omega
   ·rw [gH] at d
    subst d;omega
 have r:=Sx b (oa L z) z.isEmpty Y (by omega) I (by omega) (oa L z).length 0 q0 (by omega) (fO _);refine aa.loop (r.to (by omega)) rfl ?_;intro c g k;rw[A5]at k;have J:qB b z.isEmpty (oa L z) q0 0=match fv b L q0 0 with
   |(none,q')=>if z=[] then (none,q') else (some (L.length,9),q')
   |x=>x:=by
  unfold oa;cases a:z.isEmpty with
  | true =>
   rw[List.isEmpty_iff]at a;simp only[cT,Sv,iP a];cases fv b L q0 0 with
   |mk o q=>cases o<;>rfl
  | false =>
   have N:z≠[]:=by
    rintro rfl;cases a
   simp only[cF,Sw,iN N,eo]
   all_goals
    cases fv b L q0 0 with
    |mk o q=>cases o<;>rfl
 rw[J]at k;generalize hr:fv b L q0 0=R at *;obtain⟨o,q⟩:=R;cases o with
 | some x =>
  obtain⟨j,e⟩:=x;obtain⟨rfl,rfl⟩:=k;dsimp +instances only[go_sem];exact aa.pos rfl (aa.some rfl)
 | none =>
  by_cases a:z=[]
  case neg =>
   simp only[iN a]at k;obtain⟨rfl,rfl⟩:=k;dsimp +instances only[go_sem];refine aa.pos rfl (aa.some ?_);show _=(if z=[]/\q.en=true then oe q else ma (L.length:Int) 9)
   rw[iN fun h=>a h.1];rfl
  simp only[iP a]at k;obtain⟨rfl,rfl⟩:=k;dsimp +instances only[go_sem];refine aa.neg rfl ?_;cases B:q.en with
  | false =>
   refine aa.pos rfl (aa.some ?_);show _=(if z=[]/\q.en=true then oe q else ma (L.length:Int) 9)
   rw[iN fun h=>by rw[B]at h; cases h.2];rw[lq,RY,a];rfl
  |true =>
  refine aa.neg rfl ?_;show aa _ fun g=>g=(if z=[]/\q.en=true then oe q else ma (L.length:Int) 9)
  rw[iP ⟨a,B⟩];unfold oe;refine aa.cE (As (aq q.sg) t.sg.1 t.sg.2) ?_;dsimp +instances only[go_sem];cases hcall:kH (aq q.sg)with
  |false=>exact aa.pos rfl (aa.some rfl)
  |true =>
  refine aa.neg rfl ?_;rw[iP rfl];have O:q.acc.length<=20:=M;refine aa.lT (aa.eq (aiq q.acc t.acc O)) (by simp) ?_;rintro _ rfl;dsimp +instances only[go_sem];have F:∀ y∈eS (dQ dq) q.acc,eL y:=C' t.acc;have U:=zf (dQ dq) q.acc;generalize eS (dQ dq) q.acc=rZ at *;refine aa.loop ((air b (aq q.sg) q.bg true rZ F (by omega) rZ.length 1 (by omega) (by omega)).to (by omega)) (by rw[U]; simp) ?_;rintro c g (⟨rfl,w,rfl⟩|⟨rfl,w,rfl⟩)
  case inr =>
   rw[iN w];dsimp +instances only[go_sem];exact aa.pos rfl (aa.some rfl)
  rw[iP w];dsimp +instances only[go_sem];refine aa.neg rfl ?_;refine aa.lT (aa.eq (ahu rZ F (by omega))) (by simp) ?_;rintro _ rfl;dsimp +instances only[go_sem];by_cases v:sk rZ=0
  ·rw [iP v, v]
   exact aa.neg rfl (aa.pos (by simp) (aa.some rfl))
  ·rw [iN v]
   exact aa.pos (by rw[bne_iff_ne]; exact v) (aa.some rfl)
def aiA(b:LL)(W:∀ z∈b,dk z)(hbn:b.length<=1000)(B:ft b=0)(L:List (List UInt8))(z:List UInt8)(X:∀ p∈L,(10:UInt8)∉p)(Y:(10:UInt8)∉z)(hl:(dL L z).length<=200000)(hn:L.length<=20)(v:sv (fv b L q0 0).2)(O:(fv b L q0 0).2.acc.length<=20) :
  sa [.l b,.s (aq (dL L z))]=some (JG L z (fv b L q0 0)):=by
 refine aa.toEq ?_;unfold sa;dsimp +instances only[go_sem];refine aa.cE (oZ b W) ?_;dsimp +instances only[go_sem];rw[B,bJ];refine aa.neg rfl (aa.neg (by rw[be,dF]; omega) ?_);have r:=Sy b z Y (by omega) (Rh B) (aix B) L q0 0 X (by omega) (by omega) (fO _) (fun h=>by cases h);generalize hr:fv b L q0 0=R at *;obtain⟨o,q⟩:=R;have N:aa (D2 [.i 0,.t false,.s (⟨#[]⟩:BY),.t false,.l b,.l [],.t false,.s (aq (dL L z))]) fun g=>match o with
   |none=>if z=[] then g=[.i (L.length:Int),.t q.bg,.s (aq q.sg),.t q.en,.l b,.l q.acc,.t false,.i 0,.t true] else ∃(n:Int) (bg:Bool) (sg:BY) (en:Bool) (acc:LL),g=[.i n,.t bg,.s sg,.t en,.l b,.l acc,.t false,.i (L.length:Int),.t false]
   |some (j,e)=>∃(n:Int) (bg:Bool) (sg:BY) (en:Bool) (acc:LL),g=[.i n,.t bg,.s sg,.t en,.l b,.l acc,.t (e==8),.i (j:Int),.t false]:=by
  unfold D2;dsimp +instances only[go_sem];refine aa.loop (r.to (by omega)) rfl ?_;intro c g a;cases o with
  | some x =>
   obtain⟨j,e⟩:=x;obtain⟨rfl,n,bg,sg,en,acc,rfl⟩:=a;dsimp +instances only[go_sem];exact aa.pos rfl (aa.pos (by simp) (aa.some ⟨_,_,_,_,_,rfl⟩))
  | none =>
   unfold pn at a;simp only[eo]at a;by_cases d:z=[]
   ·simp only [iP d] at a |-
    obtain⟨rfl,rfl⟩:=a;dsimp +instances only[go_sem];exact aa.neg rfl (aa.pos (by simp) (aa.some rfl))
   ·simp only [iN d] at a |-
    obtain⟨rfl,n,bg,sg,en,acc,rfl⟩:=a;dsimp +instances only[go_sem];exact aa.pos rfl (aa.pos (by simp) (aa.some ⟨_,_,_,_,_,rfl⟩))
 refine aa.call N ?_;intro g k;cases o with
 | some x =>
  obtain⟨j,e⟩:=x;obtain⟨n,bg,sg,en,acc,rfl⟩:=k;dsimp +instances only[go_sem];rcases SB hr with rfl|rfl
  ·exact aa.pos rfl (aa.some rfl)
  ·exact aa.neg rfl (aa.pos rfl (aa.some rfl))
 | none =>
  by_cases d:z=[]
  case neg =>
   simp only[iN d]at k;obtain⟨n,bg,sg,en,acc,rfl⟩:=k;dsimp +instances only[go_sem];refine aa.neg rfl (aa.pos rfl (aa.some ?_));show _=(if z=[]/\q.en=true then oe q else ma (L.length:Int) 9)
   rw[iN fun h=>d h.1];rfl
  simp only[iP d]at k;subst k;dsimp +instances only[go_sem];refine aa.neg rfl (aa.neg rfl ?_);cases J:q.en with
  | false =>
   refine aa.pos rfl (aa.some ?_);show _=(if z=[]/\q.en=true then oe q else ma (L.length:Int) 9)
   rw[iN fun h=>by rw[J]at h; cases h.2];rfl
  |true =>
  refine aa.neg rfl ?_;show aa _ fun g=>g=(if z=[]/\q.en=true then oe q else ma (L.length:Int) 9)
  rw[iP ⟨d,J⟩];unfold oe;refine aa.cE (Av (aq q.sg) v.sg.1 v.sg.2) ?_;dsimp +instances only[go_sem];cases hcall:kH (aq q.sg)with
  |false=>exact aa.pos rfl (aa.some rfl)
  |true =>
  refine aa.neg rfl ?_;rw[iP rfl];have U:q.acc.length<=20:=O;refine aa.lT (aa.eq (aip q.acc v.acc U)) (by simp) ?_;rintro _ rfl;dsimp +instances only[go_sem];have M:∀ y∈eS (dQ dq) q.acc,eL y:=C' v.acc;have V:=zf (dQ dq) q.acc;generalize eS (dQ dq) q.acc=rZ at *;rw[<-V];refine aa.loop ((ais (aq q.sg) rZ M (by omega) rZ.length 0 (by omega)).to (by omega)) (by simp) ?_;rintro c g (⟨rfl,A,rfl⟩|⟨rfl,A,rfl⟩)
  case inr =>
   rw[iN (show ¬ uv rZ 1 from fun h=>A fun j h1 F I=>h j (by omega) F I)];dsimp +instances only[go_sem];exact aa.pos rfl (aa.some rfl)
  rw[iP (show uv rZ 1 from fun j h1 F I=>A j (by omega) F I)];dsimp +instances only[go_sem];refine aa.neg rfl ?_;refine aa.lT (aa.eq (ahv rZ M (by omega))) (by simp) ?_;rintro _ rfl;dsimp +instances only[go_sem];by_cases w:sk rZ=0
  ·rw [iP w, w]
   exact aa.neg rfl (aa.pos (by simp) (aa.some rfl))
  ·rw [iN w]
   exact aa.pos (by rw[bne_iff_ne]; exact w) (aa.some rfl)
def aiB{L:List (List UInt8)}{z:List UInt8}{r:Option (Nat × Int) × QS}(b:sv r.2)(a:r.2.acc.length<=20):∃(s:BY) (rZ:LL) (i e:Int),JG L z r=[.s s,.l rZ,.i i,.i e]/\(∀ y∈rZ,eL y)/\rZ.length<=20:=by
 have bad:∀ i e:Int,∃(s:BY) (rZ:LL) (d g:Int),ma i e=[.s s,.l rZ,.i d,.i g]/\(∀ y∈rZ,eL y)/\rZ.length<=20:=fun i e=>⟨(⟨#[]⟩:BY),([]:LL),i,e,rfl,(fun y h=>by cases h),by simp⟩
 obtain⟨o,q⟩:=r;cases o with
 |some x=>exact bad _ _
 | none =>
  show ∃(s:BY) (rZ:LL) (i e:Int),(if z=[]/\q.en=true then oe q else ma (L.length:Int) 9)=[.s s,.l rZ,.i i,.i e]/\_
  split
  ·unfold oe
   split
   ·split
    ·split
     ·exact⟨_,_,_,_,rfl,C' b.acc,by rw[zf]; exact a⟩
     ·exact bad _ _
    ·exact bad _ _
   ·exact bad _ _
  ·exact bad _ _
def aiC(b:LL)(a:∀ z∈b,dk z)(y:b.length<=1000)(t:BY)(M:b_ t=true)(N:t.data.toList.count 10<=20):∃(s:BY) (rZ:LL) (i e:Int),
  uf [.l b,.s t]=some [.s s,.l rZ,.i i,.i e]/\sa [.l b,.s t]=some [.s s,.l rZ,.i i,.i e]/\(∀ z∈rZ,eL z)/\rZ.length<=20:=by
 by_cases g:ft b=0
 case neg =>
  refine⟨(⟨#[]⟩:BY),([]:LL),0,ft b,?_,?_,(fun z d=>by cases d),by simp⟩
  ·refine aa.toEq ?_
   unfold uf;dsimp +instances only[go_sem];refine aa.cE (mU b a) ?_;dsimp +instances only[go_sem];exact aa.pos (by rw[bne_iff_ne]; exact g) (aa.some rfl)
  ·refine aa.toEq ?_
   unfold sa;dsimp +instances only[go_sem];refine aa.cE (oZ b a) ?_;dsimp +instances only[go_sem];exact aa.pos (by rw[bne_iff_ne]; exact g) (aa.some rfl)
 by_cases O:t.size<=200000
 case neg =>
  refine⟨(⟨#[]⟩:BY),([]:LL),0,2,?_,?_,(fun z d=>by cases d),by simp⟩
  ·refine aa.toEq ?_
   unfold uf;dsimp +instances only[go_sem];refine aa.cE (mU b a) ?_;dsimp +instances only[go_sem];rw[g];exact aa.neg rfl (aa.pos (by rw[be,dT]; omega) (aa.some rfl))
  ·refine aa.toEq ?_
   unfold sa;dsimp +instances only[go_sem];refine aa.cE (oZ b a) ?_;dsimp +instances only[go_sem];rw[g];exact aa.neg rfl (aa.pos (by rw[be,dT]; omega) (aa.some rfl))
 obtain⟨L,z,h,q,d,_⟩:=ahi t.data.toList;have A:t=aq (dL L z):=by rw[<-h,l7]
 have w:(dL L z).length<=200000:=by
  rw[<-h,<-gx];exact O
 have B:L.length<=20:=by
  rw[<-SC L z q d,<-h];exact N
 have J:=Jh L z;obtain⟨v,X⟩:=SA M a L q0 0 aiy fun p F=>⟨fun x U=>by
  rw[h];exact R1 L z p F x U,by
  have:=J.1 p F;omega⟩
 have k:(fv b L q0 0).2.acc.length<=20:=by
  have:q0.acc.length=0:=rfl;omega
 obtain⟨s,rZ,i,e,I,V,W⟩:=aiB (L:=L) (z:=z) v k;refine⟨s,rZ,i,e,?_,?_,V,W⟩
 ·rw[A,aiz b a y g L z q d w B v k,I]
 ·rw[A,aiA b a y g L z q d w B v k,I]
def aiD{y:Nat}(h:2024<=y)(a:y<=2034):n7 [.i (y:Int),.i 4]=some [.s (aq (gq y))]:=by
 have e:f_ (y:Int)=gq y:=by rw[Ex,Sd h a]
 refine aa.toEq ?_;unfold n7;dsimp +instances only[go_sem];refine aa.cE (pb y (by omega) (by omega)) ?_;dsimp +instances only[go_sem];rw[o_,e,bJ];refine aa.pos rfl ?_;refine aa.cE R7 ?_;exact aa.pos rfl (aa.some rfl)
def SD{s:Nat}(a:s<86400):eW (s:Int) 3600=((s / 3600:Nat):Int)/\dS (eW (s:Int) 60) 60=((s / 60%60:Nat):Int)/\dS (s:Int) 60=((s%60:Nat):Int)/\aF (eW (s:Int) 60)=true:=by
 refine⟨?_,?_,?_,?_⟩
 ·rw [qM (by omega)]
  omega
 ·rw [qM (by omega), uL (by omega)]
  omega
 ·rw [uL (by omega)]
  omega
 ·rw [qM (by omega)]
  exact cK.2 ⟨by omega,by omega⟩
def SE(t:Nat):eW (t:Int) 86400000=((t / 86400000:Nat):Int)/\eW (dS (t:Int) 86400000) 1000=((t%86400000 / 1000:Nat):Int):=by
 refine⟨?_,?_⟩
 ·rw [qM (by omega)]
  omega
 ·rw [uL (by omega), qM (by omega)]
  omega
def aiE{t:Nat}(h:t<=345686399999):D_ [.i (t:Int)]=some [.s (aq (eB (t / 86400000))),.s (aq (lu (t%86400000 / 1000)))]:=by
 obtain⟨v,w⟩:=SE t;refine aa.toEq ?_;unfold D_;dsimp +instances only[go_sem];rw[v,w];have y:t / 86400000<4018:=by omega
 have z:t%86400000 / 1000<86400:=by omega
 generalize t / 86400000=d at *;generalize t%86400000 / 1000=s at *;obtain⟨A,B,F,I⟩:=SD z;obtain⟨k,e,a,he,g,q⟩:=ur y;have b:=ph a;have J:=pg k;have M:=pe a;have one:(⟨#[45]⟩:BY)=aq [45]:=rfl;refine aa.pos (cK.2 ⟨by omega,by omega⟩) ?_;refine aa.cE (show ub [.i (d:Int)]=some [.i (yK k:Int),.i (mK k:Int),.i ((e+1:Nat):Int)] from by rw[g]; exact ahM a he) ?_;dsimp +instances only[go_sem];refine aa.pos (cK.2 ⟨by omega,by omega⟩) ?_;refine aa.cE (aiD b.1 b.2) ?_;dsimp +instances only[go_sem];rw[one];refine aa.pos (by rw[bJ]; rfl) ?_;refine aa.cE (Ay (n:=mK k) (by omega)) ?_;dsimp +instances only[go_sem];rw[gj];refine aa.pos (by rw[bJ,bJ]; rfl) ?_;rw[gj,bJ];refine aa.pos (by rfl) ?_;refine aa.cE (Ay (n:=e+1) (by omega)) ?_;dsimp +instances only[go_sem];rw[gj,bJ,bJ];refine aa.pos (by rfl) ?_;rw[A];refine aa.pos (cK.2 ⟨by omega,by omega⟩) ?_;refine aa.cE (Ay (n:=s / 3600) (by omega)) ?_;dsimp +instances only[go_sem];refine aa.pos I ?_;rw[B];refine aa.cE (Ay (n:=s / 60%60) (by omega)) ?_;dsimp +instances only[go_sem];refine aa.pos (by rw[bJ,bJ]; rfl) ?_;rw[F];refine aa.cE (Ay (n:=s%60) (by omega)) ?_;dsimp +instances only[go_sem];rw[gj,bJ,bJ];refine aa.pos (by rfl) (aa.some ?_);rw[gj,gj,q];unfold l9 lu;simp only[iO,kK,nm]
def gr(k:BY)(o:LG):Bool:=(gi o 0).sV.toList==k.toList
def aiF(r:LG)(a:bF [.I,.I,.str,.str,.I,.I,.str,.str] r=r):wk [.str,.I,.I] DJ (fun g=>.l [bF [.I,.I,.str,.str,.I,.I,.str,.str] g.rV]) (.l [r]) dk (gr (gi r 2).sV) :=
 ⟨fun x b => by
  refine aa.toEq ?_;unfold DJ gr;dsimp +instances only[go_sem];exact aa.some rfl,fun _ h=>h.eta,by rw[Ac,a]⟩
def aiG(b:LL)(r:LG)(h:∀ z∈b,dk z)(d:b.length<100000)(k:bF [.I,.I,.str,.str,.I,.I,.str,.str] r=r):DK [.l b,.l [r]]=some [.i (dD (gr (gi r 2).sV) b)]:=by
 refine aa.toEq (aa.mono (zi (Z:=Aq) (aiF r k) b h d:aa (DK [.l b,.l [r]]) _) ?_);rintro g (⟨v,x,w,a,q,t,rfl⟩|⟨a,rfl⟩)
 ·rw[a,Ei t q]
 ·rw[Eh a]
def aiH(b:LL)(k:BY)(h:∀ z∈b,dk z)(d:b.length<100000):tU [.l b,.s k]=some [.i (dD (gr k) b)]:=by
 refine aa.toEq ?_;unfold tU;dsimp +instances only[go_sem];refine aa.call (P:=fun g=>g=[.i (dD (gr k) b)]) (aa.mono (zi (Z:=Aq) (Rd k) b h d:aa (Dt [.l b,.l [[.s k]]]) _) ?_) ?_
 ·rintro g (⟨v, x, w, a, q, t, rfl⟩ | ⟨a, rfl⟩)
  ·rw[a,Ei (p:=gr k) t q]
  ·rw[Eh (p:=gr k) a]
 ·rintro _ rfl
  exact aa.some rfl
def SF{n:Int}(a:0<=n)(b:n<=99999):zD [.i n]=some [.s (aq (fY n))]:=by
 refine aa.toEq ?_;unfold zD fY;dsimp +instances only[go_sem];refine aa.test (fun h=>?_) fun h=>?_
 ·rw [iP (by simpa using h)]
  exact aa.some rfl
 ·rw [iN (by simpa using h)]
  refine aa.cE (pb n (by omega) (by omega)) ?_;exact aa.some rfl
def gF(b:LL)(k:BY):Int:=eW (gi (b.getD (dD (gr k) b).toNat []) 1).iV 1000
def iw(b:LL)(r:LG):List (List UInt8):=[jy,f_ (gF b (gi r 2).sV),(od (gi r 1).iV).data.toList,eB ((gi r 0).iV.toNat / 86400000),lu ((gi r 0).iV.toNat%86400000 / 1000),
 (gi r 3).sV.data.toList,fY (gi r 4).iV,gk (gi r 6).sV.data.toList,fY (gi r 5).iV,gk (gi r 7).sV.data.toList]
def fx(b:LL)(sg:BY)(x:LL):List UInt8:=dy ([mX,sg.data.toList]::x.map (iw b))
def SG(b:LL)(sg:BY)(x:LL)(z:LG):fx b sg (x++[z])=fx b sg x++bQ (iw b z):=by
 unfold fx;rw[qJ,<-kK,show [z].map (iw b)=[iw b z] from rfl,O5]
def sw(b:LL):Prop:=∀ z∈b,0<=(gi z 1).iV/\(gi z 1).iV<=30000000000
def SH{b:LL}(h:ft b=0):sw b:=by
 unfold ft at h;split at h
 ·omega
 split at h
 ·rename_i g a
  exact(a h).elim
 rename_i g a;have a:fw (dO b) b.length=0:=by simpa using a
 have k:=Ap a;intro z q;obtain⟨i,hi,rfl⟩:=Ke.1 q;have h:=k i hi;have e:b.getD i []=b[i]:=by simp[eh,hi]
 unfold dO at h;rw[e]at h;cases d:ca (gi b[i] 1).iV 0 30000000000 with
 | true =>
  unfold ca at d;rw[aE,bz,bz,dT,dT]at d;exact d
 | false =>
  have:oY b[i]≠0:=by
   unfold oY;rw[d];cases okB (gi b[i] 0).sV<;>simp
  rw[iP this]at h;exact absurd h this
def EM{b:LL}(h:sw b)(k:BY)(g:0<=dD (gr k) b):0<=gF b k/\gF b k<=30000000:=by
 unfold gF;rcases qv (p:=gr k) b with⟨a,_⟩|⟨i,a,d,_,_⟩
 ·omega
 ·have := h _ (i_ d)
  rw[a,eH,qM (by omega)];omega
def SI{d:Nat}(h:d<4018):iq (eB d)/\(eB d).length<=20/\jx (eB d):=by
 obtain⟨k,e,q,he,_,t⟩:=ur h;have w:=ph q;have y:=pg k;have z:=pe q;rw[t];have g:∀{l:List UInt8},l.all ch=true->∀ b∈l,b≠32/\b≠10/\b.toNat<128:=fun {l} v b a=>by
  have:=Jv (cq.1 v b a);refine⟨?_,?_,by omega⟩
  ·rintro rfl
   exact absurd this.1 (by decide)
  ·rintro rfl
   exact absurd this.1 (by decide)
 have key:∀ b∈l9 k e,b≠32/\b≠10/\b.toNat<128:=by
  intro b a;unfold l9 at a;simp only[cN,cf]at a;rcases a with a|rfl|a|rfl|a
  ·exact g (EG (show yK k<10000 by omega)).2 b a
  ·decide
  ·exact g (so (show mK k<100 by omega)) b a
  ·decide
  ·exact g (so (show e+1<100 by omega)) b a
 refine⟨⟨?_,fun b a=>⟨(key b a).1,(key b a).2.1⟩⟩,?_,fun b a=>(key b a).2.2⟩
 ·intro h
  have:=congrArg Fb h;simp[l9,Js,Ey]at this
 ·simp[l9,Js,Ey]
def JH{b:LL}(a:sw b){r:LG}(F:um r) (I:0<=dD (gr (gi r 2).sV) b):∀ w∈iw b r,iq w/\w.length<=20:=by
 have g:=EM a _ I;obtain⟨t,m,d,c,s,h,u,y,rfl,J,hm,_,M,q,v,z,A⟩:=F;obtain⟨t,rfl⟩:=sG J.1;intro w k;have e:iw b [.i (t:Int),.i m,.s d,.s c,.i s,.i h,.s u,.s y]=[jy,f_ (gF b d),(od m).data.toList,eB (t / 86400000),lu (t%86400000 / 1000),c.data.toList,fY s,gk u.data.toList,fY h,gk y.data.toList]:=rfl;rw[e]at k;have g:0<=gF b d/\gF b d<=30000000:=g;have N:=I5 g.1 (by omega);have B:=SI (show t / 86400000<4018 by omega);simp only[cf,jf,or_false]at k;rcases k with rfl|rfl|rfl|rfl|rfl|rfl|rfl|rfl|rfl|rfl
 ·exact⟨⟨by decide,fun b a=>by simp only[jy,cf,jf,or_false]at a; rcases a with rfl|rfl|rfl|rfl<;>decide⟩,by decide⟩
 ·exact⟨Ig _,by omega⟩
 ·exact ahK hm
 ·exact⟨B.1,B.2.1⟩
 ·exact ahL (by omega)
 ·exact M
 ·exact R9 q.1 q.2
 ·exact⟨z.1,z.2.1⟩
 ·exact R9 v.1 v.2
 ·exact⟨A.1,A.2.1⟩
def JI{b:LL}(a:sw b){r:LG}(d:um r) (g:0<=dD (gr (gi r 2).sV) b):(bQ (iw b r)).length<=211:=Ez (W:=iw b r) fun w h=>(JH a d g w h).2
def aiI{sg:BY}(a:sg.size<=20):(bQ [mX,sg.data.toList]).length<=30:=by
 unfold bQ;rw[jK,kN];simp only[dG,mX,bW,kf];have:=gx sg;omega
def AM{b:LL}(g:sw b){sg:BY}(h:sg.size<=20):∀{x:LL},(∀ z∈x,um z/\0<=dD (gr (gi z 2).sV) b)->(fx b sg x).length<=211*x.length+30:=by
 intro x a;have k:=aiI h;have q:(dy (x.map (iw b))).length<=211*x.length:=R2 fun z d=>JI g (a z d).1 (a z d).2;have e:fx b sg x=bQ [mX,sg.data.toList]++dy (x.map (iw b)):=by
  unfold fx dy;simp
 rw[e,dG];omega
def EN(b x:LL)(c:Nat)(g:LG):Prop:=c=0/\g=[.s (⟨#[]⟩:BY),.i 8]/\∃ z∈x,¬ 0<=dD (gr (gi z 2).sV) b
def og(b x:LL)(i:Nat):Prop:=∀ z∈x.take i,0<=dD (gr (gi z 2).sV) b
def SJ{b x:LL}{i:Nat}{z:LG}(h:og b x i)(d:x.take (i+1)=x.take i++[z]) (g:0<=dD (gr (gi z 2).sV) b):og b x (i+1):=by
 intro y a;rw[d]at a;rcases cN.1 a with a|a
 ·exact h y a
 ·rw [gH] at a
  rw[a];exact g
def aiJ(b:LL)(hb:∀ z∈b,dk z)(hbn:b.length<=1000)(A:sw b)(sg:BY)(hs:sg.size<=20)(x:LL)(O:∀ z∈x,um z)(hn:x.length<=20) :
  iZ wS [.s (aq (fx b sg [])),.l b,.l x,.i (x.length:Int),.i 0] fun c g=>(og b x x.length/\c=1/\g=[.s (aq (fx b sg x))])\/EN b x c g:=by
 have r:=OD (st:=wS) (σ:=Unit) (fun _ i=>[.s (aq (fx b sg (x.take i))),.l b,.l x,.i (x.length:Int),.i (i:Int)]) x (fun _=>(1,[.s (aq (fx b sg x))])) (fun _ i=>og b x i) (EN b x) () (by omega) (fun z B=>by simp at B)
  (fun _ i z U hi B hm V => by
   have F:=O z hm;have hti:(x.take i).length<=20:=by rw[iy]; omega
   have htl:=AM A hs (x:=x.take i) fun w W=>⟨O w (oq W),U w W⟩
   have q:=EM A (gi z 2).sV;have J:=JI A F;have M:bF [.I,.I,.str,.str,.I,.I,.str,.str] z=z:=by
    obtain⟨t,m,a,c,s,h,u,y,rfl,_⟩:=F;rfl
   have hix:=aiG b z hb (by omega) M;unfold wS;dsimp +instances only[go_sem];simp only[eH,B];refine aa.p (aa.p ?_);rw[M];refine aa.cE hix ?_;dsimp +instances only[go_sem];rcases qv (p:=gr (gi z 2).sV) b with⟨d,_⟩|⟨k,d,X,_,_⟩
   ·rw [d]
    exact aa.pos rfl (aa.some (.inr ⟨0,_,rfl,rfl,rfl,z,hm,by rw[d]; omega⟩))
   have v:0<=dD (gr (gi z 2).sV) b:=by omega
   have q:=q v;have J:=J v;have elow:eW (gi (b.getD k []) 1).iV 1000=gF b (gi z 2).sV:=by
    unfold gF;rw[d,eH]
   obtain⟨t,m,a,c,s,h,u,y,rfl,htm,hmm,_,hc,N,Y,hu,hy⟩:=F;obtain⟨t,rfl⟩:=sG htm.1;rw[d];refine aa.neg (by rw[be,dF]; omega) ?_;dsimp +instances only[go_sem];refine aa.cE (aiE (t:=t) (by omega)) ?_;dsimp +instances only[go_sem];refine aa.pos (by rw[aE,dY,be,dT,dT]; omega) ?_;rw[eH,elow];dsimp +instances only[go_sem];have q:0<=gF b a/\gF b a<=30000000:=q;refine aa.pos (cK.2 ⟨by omega,by omega⟩) ?_;refine aa.cE (pb (gF b a) (by omega) (by omega)) ?_;refine aa.cE ahJ ?_;dsimp +instances only[go_sem];refine aa.pos (by rw[show Az.length=4 from rfl,aE,dY,be,dT,dT]; omega) ?_;refine aa.cE (R_ N.1 N.2) ?_;refine aa.cE (Ro u) ?_;refine aa.cE (R_ Y.1 Y.2) ?_;refine aa.cE (Ro y) ?_;dsimp +instances only[go_sem];rw[R8 hmm];have e:[(⟨#[81,83,79,58]⟩:BY),mO (gF b a),od m,aq (eB (t / 86400000)),aq (lu (t%86400000 / 1000)),c,aq (fY s),aq (gk u.data.toList),aq (fY h),aq (gk y.data.toList)].map (·.data.toList)=iw b [.i (t:Int),.i m,.s a,.s c,.i s,.i h,.s u,.s y]:=by
    simp only[eM,pA,o_,cU];rfl
   refine aa.cE (Rl [(⟨#[81,83,79,58]⟩:BY),mO (gF b a),od m,aq (eB (t / 86400000)),aq (lu (t%86400000 / 1000)),c,aq (fY s),aq (gk u.data.toList),aq (fY h),aq (gk y.data.toList)] (by simp) (by rw[e]; omega)) ?_;dsimp +instances only[go_sem];rw[e];refine aa.cE (I2 _ _ (by rw[bJ,bJ]; omega)) ?_;dsimp +instances only[go_sem];refine aa.p (aa.some (.inl ⟨(),?_,SJ U V v⟩));rw[V,SG,<-gj];rfl)
  (fun _ _ => by
   unfold wS;dsimp +instances only[go_sem];rw[mn];exact aa.n (aa.some rfl))
 refine iZ.mono r ?_;rintro c g (⟨_,d,X,h3⟩|h)
 ·exact .inl ⟨d,X,h3⟩
 ·exact .inr h
def aiK(b:LL)(hb:∀ z∈b,dk z)(hbn:b.length<=1000)(B:sw b)(sg:BY)(hs:sg.size<=20)(x:LL)(J:∀ z∈x,um z)(hn:x.length<=20) :
  iZ wR [.l b,.s (aq (fx b sg [])),.l x,.i (x.length:Int),.i 0] fun c g=>(og b x x.length/\c=1/\g=[.s (aq (fx b sg x))])\/EN b x c g:=by
 have r:=OD (st:=wR) (σ:=Unit) (fun _ i=>[.l b,.s (aq (fx b sg (x.take i))),.l x,.i (x.length:Int),.i (i:Int)]) x (fun _=>(1,[.s (aq (fx b sg x))])) (fun _ i=>og b x i) (EN b x) () (by omega) (fun z F=>by simp at F)
  (fun _ i z M hi F hm N => by
   have O:=J z hm;have hti:(x.take i).length<=20:=by rw[iy]; omega
   have htl:=AM B hs (x:=x.take i) fun w U=>⟨J w (oq U),M w U⟩
   have q:=EM B (gi z 2).sV;have v:=JI B O;unfold wR;dsimp +instances only[go_sem];simp only[eH,F];refine aa.p (aa.p ?_);refine aa.cE (aiH b (gi z 2).sV hb (by omega)) ?_;dsimp +instances only[go_sem];rcases qv (p:=gr (gi z 2).sV) b with⟨d,_⟩|⟨k,d,V,_,_⟩
   ·rw [d]
    exact aa.pos rfl (aa.some (.inr ⟨0,_,rfl,rfl,rfl,z,hm,by rw[d]; omega⟩))
   have A:0<=dD (gr (gi z 2).sV) b:=by omega
   have q:=q A;have v:=v A;have X:eW (gi (b.getD k []) 1).iV 1000=gF b (gi z 2).sV:=by
    unfold gF;rw[d,eH]
   obtain⟨t,m,a,c,s,h,u,y,rfl,htm,hmm,_,hc,I,W,hu,hy⟩:=O;obtain⟨t,rfl⟩:=sG htm.1;rw[d];refine aa.neg (by rw[be,dF]; omega) ?_;rw[eH,X];dsimp +instances only[go_sem];have q:0<=gF b a/\gF b a<=30000000:=q;obtain⟨d1,d2⟩:=SE t;rw[d1,d2];have Y:t%86400000 / 1000<86400:=by omega
   obtain⟨c1,c2,c3,c4⟩:=SD Y;rw[c1,c2,c3];refine aa.pos (cK.2 ⟨by omega,by omega⟩) (aa.pos (by rw[aE,dY,be,dT,dT]; omega) (aa.pos (cK.2 ⟨by omega,by omega⟩) ?_));refine aa.cE (pb (gF b a) (by omega) (by omega)) ?_;refine aa.cE (show zB []=some [.l Az] from rfl) ?_;dsimp +instances only[go_sem];refine aa.pos (by rw[show Az.length=4 from rfl,aE,dY,be,dT,dT]; omega) (aa.pos (cK.2 ⟨by omega,by omega⟩) ?_);refine aa.cE (EF (show t / 86400000<4018 by omega)) ?_;dsimp +instances only[go_sem];refine aa.pos (cK.2 ⟨by omega,by omega⟩) ?_;refine aa.cE (AB (show t%86400000 / 1000 / 3600<100 by omega)) ?_;dsimp +instances only[go_sem];refine aa.pos c4 ?_;refine aa.cE (AB (show t%86400000 / 1000 / 60%60<100 by omega)) ?_;dsimp +instances only[go_sem];refine aa.pos rfl ?_;refine aa.cE (AB (show t%86400000 / 1000%60<100 by omega)) ?_;dsimp +instances only[go_sem];rw[gj];refine aa.pos (by rw[bJ,bJ]; rfl) ?_;rw[gj];refine aa.cE (SF I.1 I.2) ?_;refine aa.cE (R3 u) ?_;refine aa.cE (SF W.1 W.2) ?_;refine aa.cE (R3 y) ?_;dsimp +instances only[go_sem];rw[R8 hmm];have e:[(⟨#[81,83,79,58]⟩:BY),mO (gF b a),od m,aq (eB (t / 86400000)),aq (cL (t%86400000 / 1000 / 3600)++cL (t%86400000 / 1000 / 60%60)++cL (t%86400000 / 1000%60)),c,aq (fY s),aq (gk u.data.toList),aq (fY h),aq (gk y.data.toList)].map (·.data.toList)=iw b [.i (t:Int),.i m,.s a,.s c,.i s,.i h,.s u,.s y]:=by
    simp only[eM,pA,o_,cU,iO];rfl
   refine aa.cE (ahz [(⟨#[81,83,79,58]⟩:BY),mO (gF b a),od m,aq (eB (t / 86400000)),aq (cL (t%86400000 / 1000 / 3600)++cL (t%86400000 / 1000 / 60%60)++cL (t%86400000 / 1000%60)),c,aq (fY s),aq (gk u.data.toList),aq (fY h),aq (gk y.data.toList)] (by simp) (by rw[e]; omega)) ?_;dsimp +instances only[go_sem];rw[e];have hjl:(eD (iw b [.i (t:Int),.i m,.s a,.s c,.i s,.i h,.s u,.s y]) [32]).length<=210:=by
    unfold bQ at v;rw[dG,Fm]at v;omega
   have e2:aq (eD (iw b [.i (t:Int),.i m,.s a,.s c,.i s,.i h,.s u,.s y]) [32])++(⟨#[10]⟩:BY)=aq (bQ (iw b [.i (t:Int),.i m,.s a,.s c,.i s,.i h,.s u,.s y])):=by
    rw[show (⟨#[10]⟩:BY)=aq [10] from rfl,gj];rfl
   rw[e2];refine aa.pos (by rw[bJ,cu]; omega) (aa.pos (by rw[bJ,bJ,cu]; omega) (aa.p (aa.some (.inl ⟨(),?_,SJ M N A⟩))));rw[N,SG,<-gj];rfl)
  (fun _ _ => by
   unfold wR;dsimp +instances only[go_sem];rw[mn];exact aa.n (aa.some rfl))
 refine iZ.mono r ?_;rintro c g (⟨_,d,V,h3⟩|h)
 ·exact .inl ⟨d,V,h3⟩
 ·exact .inr h
def aiL{s:BY}(h:kH s=true):s.size<=14:=by
 unfold kH at h;rw[aE,cu]at h;exact h.1
def aiM(b:LL)(sg:BY):fx b sg []=kI++(sg.data.toList++[10]):=by
 show dy [[mX,sg.data.toList]]=_
 show bQ [mX,sg.data.toList]++[]=_
 unfold bQ;rw[jK,kN];simp[mX,kI]
def qC:List UInt8:=[69,78,68,10]
def SL(b:LL)(k:∀ z∈b,dk z)(J:b.length<=1000)(sg:BY)(d:mW sg)(x:LL)(A:∀ z∈x,fI z)(M:x.length<=20):∃(s:BY) (e:Int),r_ [.l b,.s sg,.l x]=some [.s s,.i e]/\oS [.l b,.s sg,.l x]=some [.s s,.i e] /\
  (s=(⟨#[]⟩:BY)\/(s=aq (fx b sg x++qC)/\ft b=0/\l4 x=0/\sg.size<=14/\og b x x.length)):=by
 by_cases q:ft b=0
 case neg =>
  refine⟨(⟨#[]⟩:BY),ft b,?_,?_,.inl rfl⟩
  ·refine aa.toEq ?_
   unfold r_;dsimp +instances only[go_sem];refine aa.cE (mU b k) ?_;dsimp +instances only[go_sem];exact aa.pos (by rw[bne_iff_ne]; exact q) (aa.some rfl)
  ·refine aa.toEq ?_
   unfold oS;dsimp +instances only[go_sem];refine aa.cE (oZ b k) ?_;dsimp +instances only[go_sem];exact aa.pos (by rw[bne_iff_ne]; exact q) (aa.some rfl)
 cases v:kH sg with
 | false =>
  refine⟨(⟨#[]⟩:BY),3,?_,?_,.inl rfl⟩
  ·refine aa.toEq ?_
   unfold r_;dsimp +instances only[go_sem];refine aa.cE (mU b k) ?_;dsimp +instances only[go_sem];rw[q];refine aa.neg rfl ?_;refine aa.cE (As sg d.1 d.2) ?_;dsimp +instances only[go_sem];rw[v];exact aa.pos rfl (aa.some rfl)
  ·refine aa.toEq ?_
   unfold oS;dsimp +instances only[go_sem];refine aa.cE (oZ b k) ?_;dsimp +instances only[go_sem];rw[q];refine aa.neg rfl ?_;refine aa.cE (Av sg d.1 d.2) ?_;dsimp +instances only[go_sem];rw[v];exact aa.pos rfl (aa.some rfl)
 |true =>
 by_cases w:l4 x=0
 case neg =>
  refine⟨(⟨#[]⟩:BY),l4 x,?_,?_,.inl rfl⟩
  ·refine aa.toEq ?_
   unfold r_;dsimp +instances only[go_sem];refine aa.cE (mU b k) ?_;dsimp +instances only[go_sem];rw[q];refine aa.neg rfl ?_;refine aa.cE (As sg d.1 d.2) ?_;dsimp +instances only[go_sem];rw[v];refine aa.neg rfl ?_;refine aa.cE (Q2 x A (by omega)) ?_;dsimp +instances only[go_sem];exact aa.pos (by rw[bne_iff_ne]; exact w) (aa.some rfl)
  ·refine aa.toEq ?_
   unfold oS;dsimp +instances only[go_sem];refine aa.cE (oZ b k) ?_;dsimp +instances only[go_sem];rw[q];refine aa.neg rfl ?_;refine aa.cE (Av sg d.1 d.2) ?_;dsimp +instances only[go_sem];rw[v];refine aa.neg rfl ?_;refine aa.cE (IY x A (by omega)) ?_;dsimp +instances only[go_sem];exact aa.pos (by rw[bne_iff_ne]; exact w) (aa.some rfl)
 have B:∀ z∈x,um z:=fun z a=>I4 (A z a) (I0 w z a);have y:=SH q;have V:=aiL v;have a:=gx sg;have X:=aiJ b k J y sg (by omega) x B M;have Y:=aiK b k J y sg (by omega) x B M;have hn0:(fx b sg []).length<=30:=by
  have:=AM y (b:=b) (sg:=sg) (by omega) (x:=[]) (fun z a=>by cases a);simpa using this
 have U:aa (r_ [.l b,.s sg,.l x]) fun g=>(og b x x.length/\g=[.s (aq (fx b sg x++qC)),.i 0])\/((∃ z∈x,¬ 0<=dD (gr (gi z 2).sV) b)/\g=[.s (⟨#[]⟩:BY),.i 8]):=by
  unfold r_;dsimp +instances only[go_sem];refine aa.cE (mU b k) ?_;dsimp +instances only[go_sem];rw[q];refine aa.neg rfl ?_;refine aa.cE (As sg d.1 d.2) ?_;dsimp +instances only[go_sem];rw[v];refine aa.neg rfl ?_;refine aa.cE (Q2 x A (by omega)) ?_;dsimp +instances only[go_sem];rw[w];refine aa.neg rfl ?_;have I:bQ [mX,sg.data.toList]=fx b sg []:=by
   show _=bQ [mX,sg.data.toList]++[]
   simp
  refine aa.call (aa.eq (Rl [(⟨#[67,65,76,76,58]⟩:BY),sg] (by simp) (by
   show (bQ [mX,sg.data.toList]).length<=1000000
   rw[I];omega))) ?_
  rintro _ rfl;dsimp +instances only[go_sem];refine aa.call (aa.eq (show ui [.s (⟨#[]⟩:BY),.s (aq (bQ ([(⟨#[67,65,76,76,58]⟩:BY),sg].map (·.data.toList))))]=some [.s (aq (fx b sg [])),.i ((fx b sg []).length:Nat)] from by
   have:=I2 (⟨#[]⟩:BY) (aq (fx b sg [])) (by
    rw[bJ];have:(⟨#[]⟩:BY).size=0:=rfl;omega)
   rw[bJ,show (⟨#[]⟩:BY)++aq (fx b sg [])=aq (fx b sg []) from by rw[<-Rj,gj]; rfl]at this;rw[<-I]at this|-;exact this)) ?_
  rintro _ rfl;dsimp +instances only[go_sem];refine aa.loop X rfl ?_;rintro c g (⟨t,rfl,rfl⟩|⟨rfl,rfl,a⟩)
  ·(dsimp +instances only [go_sem])
   refine aa.neg rfl ?_;have W:=AM y (sg:=sg) (by omega) (x:=x) fun z a=>⟨B z a,t z (by rw[mn]; exact a)⟩
   rw[show (⟨#[69,78,68,10]⟩:BY)=aq qC from rfl];refine aa.cE (I2 _ _ (by rw[bJ,bJ]; have:qC.length=4:=rfl; omega)) ?_;dsimp +instances only[go_sem];refine aa.cE (agS _) ?_;dsimp +instances only[go_sem];rw[gj];refine aa.neg (by rw[bJ,be,dF,dG]; have:qC.length=4:=rfl; omega) ?_;refine aa.cE (agT _) ?_;exact aa.some (.inl ⟨t,rfl⟩)
  ·(dsimp +instances only [go_sem])
   exact aa.pos rfl (aa.some (.inr ⟨a,rfl⟩))
 have plain:aa (oS [.l b,.s sg,.l x]) fun g=>(og b x x.length/\g=[.s (aq (fx b sg x++qC)),.i 0])\/((∃ z∈x,¬ 0<=dD (gr (gi z 2).sV) b)/\g=[.s (⟨#[]⟩:BY),.i 8]):=by
  unfold oS;dsimp +instances only[go_sem];refine aa.cE (oZ b k) ?_;dsimp +instances only[go_sem];rw[q];refine aa.neg rfl ?_;refine aa.cE (Av sg d.1 d.2) ?_;dsimp +instances only[go_sem];rw[v];refine aa.neg rfl ?_;refine aa.cE (IY x A (by omega)) ?_;dsimp +instances only[go_sem];rw[w];refine aa.neg rfl ?_;have e1:(⟨#[67,65,76,76,58,32]⟩:BY)++sg=aq (kI++sg.data.toList):=by
   rw[show (⟨#[67,65,76,76,58,32]⟩:BY)=aq kI from rfl]
   conv=>lhs; rw[<-l7 sg]
   rw[gj]
  have e2:aq (kI++sg.data.toList)++(⟨#[10]⟩:BY)=aq (fx b sg []):=by
   rw[show (⟨#[10]⟩:BY)=aq [10] from rfl,gj,aiM,iO]
  rw[e1,e2];refine aa.pos (by rw[cu]; omega) (aa.pos (by rw[bJ,cu,dG]; have:kI.length=6:=rfl; omega) ?_);refine aa.loop Y rfl ?_;rintro c g (⟨t,rfl,rfl⟩|⟨rfl,rfl,a⟩)
  ·(dsimp +instances only [go_sem])
   refine aa.neg rfl ?_;have W:=AM y (sg:=sg) (by omega) (x:=x) fun z a=>⟨B z a,t z (by rw[mn]; exact a)⟩
   have:qC.length=4:=rfl;rw[show (⟨#[69,78,68,10]⟩:BY)=aq qC from rfl,gj];exact aa.pos (by rw[bJ,cu]; omega) (aa.neg (by rw[bJ,be,dF,dG]; omega) (aa.some (.inl ⟨t,rfl⟩)))
  ·(dsimp +instances only [go_sem])
   exact aa.pos rfl (aa.some (.inr ⟨a,rfl⟩))
 obtain⟨g1,p1,p2⟩:=U;obtain⟨g2,N,O⟩:=plain;have no:og b x x.length->¬ ∃ z∈x,¬ 0<=dD (gr (gi z 2).sV) b:=fun h ⟨z,h1,h2⟩=>h2 (h z (by rw[mn]; exact h1));rcases p2 with⟨t,rfl⟩|⟨F,rfl⟩
 ·rcases O with ⟨_, rfl⟩ | ⟨F, rfl⟩
  ·exact⟨_,_,p1,N,.inr ⟨rfl,q,w,V,t⟩⟩
  ·exact(no t F).elim
 ·rcases O with ⟨t, rfl⟩ | ⟨_, rfl⟩
  ·exact(no t F).elim
  ·exact⟨_,_,p1,N,.inl rfl⟩
def dB(s:BY):Nat:=s.data.toList.count 10
def uw(a b:BY):dB (a++b)=dB a+dB b:=by
 unfold dB;rw[show (a++b).data.toList=a.data.toList++b.data.toList by simp,A_]
def ux(l:List UInt8):dB (aq l)=l.count 10:=by unfold dB; rw[cU]
def aiN(s:BY)(i:Nat):dB (s.extract 0 i)+dB (s.extract i s.size)=dB s:=by
 unfold dB;rw[Fl,pF,<-A_,A5,Nat.sub_zero,ng]
def aiO(s:BY)(i:Nat):dB (s.extract (i+1) s.size)<=dB (s.extract i s.size):=by
 unfold dB;rw[Fl,Fl];have:s.data.toList.drop (i+1)=(s.data.toList.drop i).drop 1:=by rw[pq]
 rw[this];exact(List.drop_sublist _ _).count_le 10
def aiP{s:BY}(h:s.size=1):dB s<=1:=by
 unfold dB;have:=gx s;exact oh List.count_le_length (by omega)
def aiQ(l:LL)(a:Int)(t w:BY)(ha:0<=a)(X:a<=900000)(z:b_ t=true)(I:b_ w=true)(Y:t.size<=900000)(hw0:0<w.size)(hw1:w.size<=100)(hwn:dB w<=1) :
  aa (Dw [.l l,.i a,.s t,.s w]) fun g=>∃ b t',g=[.l l,.i b,.s t']/\a<=b/\b<=a+3/\b_ t'=true/\t'.size<=t.size+100/\dB t'<=dB t+1:=by
 unfold Dw;dsimp +instances only[go_sem];have J:∀ s:BY,(s.toList==(⟨#[]⟩:BY).toList)=aH s.size 0:=fun s=>by
  rw[<-l7 s,n_,bJ];cases s.data.toList<;>rfl
 rw[J,J];refine aa.test (fun d=>aa.some ⟨a,w,rfl,by omega,by omega,I,by omega,by omega⟩) fun d=>?_;have d:0<t.size:=by
  rcases Nat.eq_zero_or_pos t.size with h|h
  ·rw[h]at d; cases d
  ·exact h
 refine aa.neg (by cases hq:w.size with
  |zero=>omega
  |succ n=>rfl) ?_
 refine aa.call (oT l a _ (by omega) (by omega) (by omega) (by omega)) ?_;rintro _ ⟨i,rfl,N,hi1⟩;dsimp +instances only[go_sem];refine aa.call (oT l _ _ (by omega) (by omega) (by omega) (by omega)) ?_;rintro _ ⟨j,rfl,O,hj1⟩;dsimp +instances only[go_sem];refine aa.p ?_;refine aa.call (oT l _ 3 (by omega) (by omega) (by omega) (by omega)) ?_;rintro _ ⟨k,rfl,hk0,hk1⟩;dsimp +instances only[go_sem];obtain⟨i,rfl⟩:=sG N;obtain⟨j,rfl⟩:=sG O;simp only[eH,Int.ofNat_eq_natCast]at *;have A:=El I (i:=j) (by omega);have v:=ahA _ A;generalize U:EV (IntKind.i32.wrap ((w.data.toList.getD j 0).toNat:Int))=u at v;have y:b_ u=true:=by
  unfold b_;rw[v];simp only[jA,Fo,gu,dH];exact A
 have q:u.size=1:=by rw[gx,v]; rfl
 have hun:=aiP q;have V:((i:Int)+1).toNat=i+1:=by omega
 rw[V];have s1:(t.extract 0 i).size=i:=by rw[sH]; omega
 have s2:(t.extract i t.size).size=t.size-i:=by rw[sH]; omega
 have B:(t.extract (i+1) t.size).size=t.size-(i+1):=by rw[sH]; omega
 have F:=Em z i;have W:=I8 z i;have M:=I8 z (i+1);have n1:=aiN t i;have n2:=aiO t i;simp only[pG,s1,s2,B,q];refine aa.test (fun _=>?_) fun _=>?_
 ·refine aa.p (aa.pos (by rw [cu]; omega) (aa.p (aa.p (aa.pos (by rw [cu]; omega) (aa.some ⟨_, _, rfl, by omega, by omega, oc (oc F y) M, ?_, ?_⟩)))))
  ·simp only [pG, s1, B, q]
   omega
  ·simp only [uw]
   omega
 refine aa.test (fun _=>?_) fun _=>?_
 ·refine aa.p (aa.pos (by rw [cu]; omega) (aa.p (aa.pos (by rw [cu]; omega) (aa.some ⟨_, _, rfl, by omega, by omega, oc (oc F y) W, ?_, ?_⟩))))
  ·simp only [pG, s1, s2, q]
   omega
  ·simp only [uw]
   omega
 ·clear U v y A d
  have hi2:i<t.size:=by omega
  refine aa.pos (by rw[aE,dY,bz,dT,dT]; omega) ?_;refine aa.pos (cK.2 ⟨by omega,by omega⟩) ?_;refine aa.pos (by rw[aE,dY,bz,dT,dT]; omega) ?_;refine aa.pos (by rw[cu]; omega) ?_;refine aa.some ⟨_,_,rfl,by omega,by omega,oc F M,?_,?_⟩
  ·simp only [pG, s1, B]
   omega
  ·simp only [uw]
   omega
def SM{l:List UInt8}(h:(32:UInt8)∉l)(k:Nat):lz (⟨#[32]⟩:BY) 0 k (aq l)=[aq l]:=by
 refine Lib.splitB_miss _ _ _ _ ?_;show lB (aq l).data.toList [32] = -1
 rw[pD,cU];exact zl h
def JJ{p:List UInt8}(h:(32:UInt8)∉p)(r:List UInt8)(k:Nat):lz (⟨#[32]⟩:BY) 0 (k+1) (aq (p++32::r))=aq p::lz (⟨#[32]⟩:BY) 0 k (aq r):=by
 rw[Lib.splitB_hit _ _ _ _ p.length (by
  show lB (aq (p++32::r)).data.toList [32]=_
  rw[pD,cU];exact zm r h)]
 rw[bJ];congr 1
 ·rw [m_]
  simp
 ·rw [m_, show (⟨#[32]⟩ : BY).size = 1 from rfl, mn]
  congr 2;simp
def JK(l:List UInt8)(d:2<=l.length)(g:l.length<=100000):Dv [.s (aq l),.s (⟨#[32]⟩:BY),.i 3]=some [.l ((lz (⟨#[32]⟩:BY) 0 2 (aq l)).map fun b=>[G.s b])]:=by
 refine aa.toEq ?_;unfold Dv;dsimp +instances only[go_sem];have a:tY [.s (aq l),.s (⟨#[32]⟩:BY),.i 0,.i 3]=some [.l ((lz (⟨#[32]⟩:BY) 0 2 (aq l)).map fun b=>[G.s b])]:=by
  refine aa.toEq ?_;unfold tY za;dsimp +instances only[go_sem];refine aa.neg rfl (aa.pos ?_ (aa.some ?_))
  ·rw [bJ, aE, aE, aE]
   exact⟨rfl,rfl,by decide,by rw[dH]; omega⟩
  ·unfold Oy
   rw[bJ,show (min (3:Int) ((l.length:Int)+1)).toNat-1=2 by omega]
 refine aa.cE a ?_;exact aa.some rfl
def AN(a:List (List UInt8)):Prop:=(∀ w∈a,iq w/\jx w/\w.length<=20)/\0<a.length/\a.length<=10/\(a.getD 0 []=jy->3<=a.length)
def AO{x:List UInt8}{xs:List (List UInt8)}(h:∀ w∈x::xs,iq w/\jx w/\w.length<=20):b_ (aq (bQ (x::xs)))=true/\dB (aq (bQ (x::xs)))=1/\(aq (bQ (x::xs))).size<=21*(x::xs).length+1:=by
 refine⟨RZ (ahD fun w a=>(h w a).2.1),?_,by rw[bJ]; exact Ez fun w a=>(h w a).2.2⟩;rw[ux];unfold bQ;rw[A_,A9.2 (O4 fun w a=>(h w a).1)];rfl
def EO(l:LL)(a:Int)(t x r:BY)(v:0<=a)(w:a<=900000)(k:b_ t=true)(q:b_ x=true)(y:t.size<=900000)(z:x.size<=900000) :
  aa (aj (kF [.l l,.i a,.i 8]) fun d=>(bif (gi d 2).bV then (bif bf (t.size+1) 9223372036854775807 then (bif bf ((t++(⟨#[10]⟩:BY)).size+x.size) 9223372036854775807 then (some [.l (gi d 0).rZ,.i (gi d 1).iV,.s ((t++(⟨#[10]⟩:BY))++x),.s r]:Option LG) else none) else none) else (bif bf (t.size+x.size) 9223372036854775807 then some [.l (gi d 0).rZ,.i (gi d 1).iV,.s (t++x),.s r] else none)))
   fun g=>∃ b t',g=[.l l,.i b,.s t',.s r]/\b=a+1/\b_ t'=true/\t'.size<=t.size+x.size+1/\dB t'<=dB t+dB x+1:=by
 have h:(⟨#[10]⟩:BY).size=1:=rfl;refine aa.call (qp l a 8 v (by omega) (by omega) (by omega)) ?_;rintro _ ⟨f,rfl⟩;dsimp +instances only[go_sem];refine aa.test (fun _=>?_) fun _=>?_
 ·refine aa.pos (by rw [cu]; omega) (aa.pos (by rw [pG, h, cu]; omega) (aa.some ⟨_, _, rfl, rfl, oc (oc k rfl) q, ?_, ?_⟩))
  ·simp only [pG, h]
   omega
  ·rw [uw, uw, show dB (⟨#[10]⟩ : BY) = 1 from by rw [show (⟨#[10]⟩ : BY) = aq [10] from rfl, ux]; rfl]
   omega
 ·refine aa.pos (by rw [cu]; omega) (aa.some ⟨_, _, rfl, rfl, oc k q, ?_, ?_⟩)
  ·simp only [pG]
   omega
  ·rw [uw]
   omega
def JL(l:LL)(a:Int)(t r:BY)(g:LG):Prop:=∃(b:Int) (t':BY),g=[.l l,.i b,.s t',.s r]/\a<=b/\b<=a+3/\b_ t'=true/\t'.size<=t.size+300/\dB t'<=dB t+2
def EP{l:LL}{a d:Int}{t x r:BY}(v:a<=d)(w:d<=a+2)(y:dB x<=1)(q:x.size<=299){g:LG}(h:∃ b t',g=[.l l,.i b,.s t',.s r]/\b=d+1/\b_ t'=true/\t'.size<=t.size+x.size+1/\dB t'<=dB t+dB x+1):JL l a t r g:=by
 obtain⟨b,t',rfl,z,k,A,B⟩:=h;exact⟨b,t',rfl,by omega,by omega,k,by omega,by omega⟩
def SN{a b:BY}:(a.toList==b.toList)=decide (a=b):=by
 rw[<-l7 a,<-l7 b,qA];rw[fP,dT,dT];exact⟨fun h=>by rw[h],fun h=>by have:=congrArg (·.data.toList) h; simpa[cU]using this⟩
def aiR{ws:List (List UInt8)}(h:AN ws)(l:LL)(a:Int)(t q r:BY)(ha:0<=a)(ha1:a<=800000)(V:b_ t=true)(hts:t.size<=100000) :
  aa (Al (aq (bQ ws)) r [.l l,.i a,.s t,.s q]) (JL l a t r):=by
 obtain⟨d,hl0,U,J⟩:=h
 match ws,d,hl0,U,J with
 | [w],d,_,_,J =>
  obtain⟨M,f2,k⟩:=AO d;have B:=(d w cZ).1;have hlen:(bQ [w]).length<=22:=by rw[bJ]at k; simpa using k
  have F:2<=(bQ [w]).length:=by
   have:=Kf.2 B.1;unfold bQ;rw[kN,dG,Fm];omega
  have N:lz (⟨#[32]⟩:BY) 0 2 (aq (bQ [w]))=[aq (bQ [w])]:=SM (fun hm=>by
   unfold bQ at hm;rw[kN]at hm;rcases cN.1 hm with hm|hm
   ·exact B.nb hm
   ·simp at hm) 2
  unfold Al;dsimp +instances only[go_sem];refine aa.cE (JK _ F (by omega)) ?_;rw[N];dsimp +instances only[go_sem];refine aa.pos rfl (aa.neg ?_ ?_)
  ·rw [SN, dF]
   intro he;have he:=congrArg (·.data.toList) he;have he:(aq (bQ [w])).data.toList=jy:=he;rw[cU]at he;have:(10:UInt8)∈jy:=by rw[<-he]; unfold bQ; simp
   exact absurd this (by decide)
  ·exact(EO l a t _ r ha (by omega) V M (by omega) (by omega)).mono fun g A=>EP (by omega) (by omega) (by omega) (by rw[bJ]; omega) A
 | [w,y],d,_,_,J =>
  obtain⟨M,f2,k⟩:=AO d;have B:=(d w cZ).1;have X:=(d y (by simp)).1;have hlen:(bQ [w,y]).length<=43:=by rw[bJ]at k; simpa using k
  have e:bQ [w,y]=w++32::(y++[10]):=by
   unfold bQ;rw[jK,kN];simp
  have F:2<=(bQ [w,y]).length:=by
   rw[e];simp;omega
  have N:lz (⟨#[32]⟩:BY) 0 2 (aq (bQ [w,y]))=[aq w,aq (y++[10])]:=by
   rw[e,JJ B.nb,SM (fun hm=>by
    rcases cN.1 hm with hm|hm
    ·exact X.nb hm
    ·simp at hm)]
  unfold Al;dsimp +instances only[go_sem];refine aa.cE (JK _ F (by omega)) ?_;rw[N];dsimp +instances only[go_sem];refine aa.pos rfl (aa.neg ?_ ?_)
  ·rw [SN, dF]
   intro he;have he:=congrArg (·.data.toList) he;have he:(aq w).data.toList=jy:=he;rw[cU]at he;have:=J he;simp at this
  ·exact(EO l a t _ r ha (by omega) V M (by omega) (by omega)).mono fun g A=>EP (by omega) (by omega) (by omega) (by rw[bJ]; omega) A
 | w::y::z::rs,d,_,U,J =>
  obtain⟨M,f2,k⟩:=AO d;obtain⟨k1,k2,k3⟩:=AO (x:=z) (xs:=rs) fun v hv=>d v (by simp at hv|-; rcases hv with h|h<;>simp[h]);have B:=(d w cZ).1;have X:=(d y (by simp)).1;have U:rs.length<=7:=by simp at U; omega
  have hlen:(bQ (w::y::z::rs)).length<=211:=by
   rw[bJ]at k;simp only[bW]at k;omega
  have hlen2:(aq (bQ (z::rs))).size<=211:=by
   simp only[bW]at k3;omega
  have e:bQ (w::y::z::rs)=w++32::(y++32::bQ (z::rs)):=by
   unfold bQ;rw[jK,jK];simp
  have F:2<=(bQ (w::y::z::rs)).length:=by
   rw[e];simp;omega
  have N:lz (⟨#[32]⟩:BY) 0 2 (aq (bQ (w::y::z::rs)))=[aq w,aq y,aq (bQ (z::rs))]:=by
   rw[e,JJ B.nb,JJ X.nb];rfl
  have fin0:∀ O,a<=O->O<=a+1->aa (aj (kF [.l l,.i O,.i 8]) fun I=>(bif (gi I 2).bV then (bif bf (t.size+1) 9223372036854775807 then (bif bf ((t++(⟨#[10]⟩:BY)).size+(aq (bQ (w::y::z::rs))).size) 9223372036854775807 then (some [.l (gi I 0).rZ,.i (gi I 1).iV,.s ((t++(⟨#[10]⟩:BY))++(aq (bQ (w::y::z::rs)))),.s r]:Option LG) else none) else none) else (bif bf (t.size+(aq (bQ (w::y::z::rs))).size) 9223372036854775807 then some [.l (gi I 0).rZ,.i (gi I 1).iV,.s (t++(aq (bQ (w::y::z::rs)))),.s r] else none))) (JL l a t r):=fun O h1 F =>
   (EO l O t _ r (by omega) (by omega) V M (by omega) (by rw[bJ]; omega)).mono fun g A=>EP (by omega) (by omega) (by omega) (by rw[bJ]; omega) A
  unfold Al;dsimp +instances only[go_sem];refine aa.cE (JK _ F (by omega)) ?_;rw[N];dsimp +instances only[go_sem];refine aa.pos rfl (aa.test (fun _=>?_) fun _=>fin0 a (by omega) (by omega));refine aa.call (qp l a 3 ha (by omega) (by omega) (by omega)) ?_;rintro _ ⟨f,rfl⟩;dsimp +instances only[go_sem];refine aa.test (fun _=>?_) fun _=>fin0 (a+1) (by omega) (by omega);refine aa.call (uj 0 100000 l (a+1) _ (by omega) (by omega) (by rfl) (by rfl)) ?_;rintro _ ⟨v,rfl,hv0,hv1⟩;dsimp +instances only[go_sem];refine aa.cE (pb v (by omega) (by omega)) ?_;dsimp +instances only[go_sem];have li:=I5 hv0 (by omega);have ls:(mO v).size=(f_ v).length:=by rw[o_,bJ]
  have W:(⟨#[81,83,79,58,32]⟩:BY).size=5:=rfl;have Y:(⟨#[32]⟩:BY).size=1:=rfl;have ia:b_ (mO v)=true:=by rw[o_]; exact RZ (Jl hv0)
  have inl:dB (mO v)=0:=by rw[o_,ux]; exact A9.2 (Ig v).nl
  have hz:(gi ((List.map (fun b=>[G.s b]) [aq w,aq y,aq (bQ (z::rs))]).getD 2 []) 0).sV=aq (bQ (z::rs)):=rfl;simp only[hz];refine aa.pos (by rw[cu]; omega) (aa.pos (by rw[pG,W,cu]; omega) (aa.pos rfl (aa.pos (by simp only[pG,W,Y,cu]; omega) ?_)));refine(EO l (a+1+1) t (((⟨#[81,83,79,58,32]⟩:BY)++mO v)++(⟨#[32]⟩:BY)++aq (bQ (z::rs))) r (by omega) (by omega) V (oc (oc (oc rfl ia) rfl) k1) (by omega) (by simp only[pG,W,Y]; omega)).mono fun g A=>EP (by omega) (by omega) ?_ ?_ A
  ·simp only [uw, inl, k2]
   have n1:dB (⟨#[81,83,79,58,32]⟩:BY)=0:=by rw[show (⟨#[81,83,79,58,32]⟩:BY)=aq [81,83,79,58,32] from rfl,ux]; rfl
   have n2:dB (⟨#[32]⟩:BY)=0:=by rw[show (⟨#[32]⟩:BY)=aq [32] from rfl,ux]; rfl
   omega
  ·simp only [pG, W, Y]
   omega
def SO(l:LL):∀(d:List (List (List UInt8))) (N:Nat) (a:Int) (t:BY),(∀ q∈d,AN q)->d.length<N->d.length<=100->0<=a->a+3*d.length<=700000->b_ t=true->t.size+300*d.length<=100000 ->
  aa (rL r9 n5.rest n5.st N [.l l,.i a,.s t,.s (aq (dy d))]) fun g=>∃(b:Int) (t':BY),g=[.l l,.i b,.s t',.s (⟨#[]⟩:BY)]/\a<=b/\b<=a+3*d.length/\b_ t'=true/\t'.size<=t.size+300*d.length/\dB t'<=dB t+2*d.length
 | [],0,_,_,_,y,_,_,_,_,_=>by simp at y
 | [],N+1,a,t,_,_,_,V,M,B,O=>⟨_,rfl,a,t,rfl,by omega,by omega,B,by omega,by omega⟩
 |q::d,0,_,_,_,y,_,_,_,_,_=>by simp at y
 | q::d,N+1,a,t,F,y,hl,V,M,B,O=>by
  simp only[bW]at y hl M O;have z:=F q cZ;obtain⟨x,k,rfl⟩:∃ x k,q=x::k:=by
   cases q with
   |nil=>exact absurd z.2.1 (by decide)
   |cons x k=>exact⟨x,k,rfl⟩
  have hsz:(bQ (x::k)).length<=211:=by
   have I:=(AO z.1).2.2;have X:=z.2.2.1;rw[bJ]at I;omega
  have hlen:∀ d:List (List (List UInt8)),(∀ q∈d,AN q)->(dy d).length<=211*d.length:=fun d h=>by
   induction d with
   |nil=>simp[dy]
   | cons w d Y =>
    have Y:=Y fun q hws=>h q (c8 w hws);have h0:=h w cZ;have:(bQ w).length<=211:=by
     have I:=Ez (W:=w) fun v hv=>(h0.1 v hv).2.2;have X:=h0.2.2.1;omega
    have e:dy (w::d)=bQ w++dy d:=by simp[dy]
    rw[e,dG,bW];omega
  have htl:=hlen d fun w A=>F w (c8 _ A);have e:dy ((x::k)::d)=bQ (x::k)++dy d:=by simp[dy]
  have e2:bQ (x::k)++dy d=eD (x::k) [32]++10::dy d:=by
   unfold bQ;simp
  have hnl:=O4 fun w A=>(z.1 w A).1;have U:r9 (aq (dy ((x::k)::d)))=((eD (x::k) [32]).length:Nat):=by
   show eN (aq (dy ((x::k)::d))).data.toList ((10:Int).toNat.toUInt8)=_
   rw[cU,e,e2];exact zm _ hnl
  have hll:(bQ (x::k)).length=(eD (x::k) [32]).length+1:=by
   unfold bQ;rw[dG];rfl
  have hn:(((eD (x::k) [32]).length:Nat)+(1:Int)).toNat=(bQ (x::k)).length:=by omega
  have hh:jr r9 (aq (dy ((x::k)::d)))=aq (bQ (x::k)):=by
   unfold jr;rw[U,iP (by omega),hn,m_,e];simp
  have hr:jJ r9 (aq (dy ((x::k)::d)))=aq (dy d):=by
   unfold jJ;rw[U,iP (by omega),hn,bJ,m_,e,mn];simp
  have hz:(aq (dy ((x::k)::d))).size=(bQ (x::k)).length+(dy d).length:=by rw[bJ,e,dG]
  obtain⟨g,J,b,t',rfl,I,X,h3,h4,h5⟩:=aiR z l a t (aq (dy ((x::k)::d))) (aq (dy d)) V (by omega) B (by omega);obtain⟨g,hg2,b2,t2,rfl,h6,h7,h8,h9,h10⟩:=SO l d N b t' (fun w A=>F w (c8 _ A)) (by omega) (by omega) (by omega) (by omega) h3 (by omega);refine⟨_,?_,b2,t2,rfl,by omega,by simp only[bW]; omega,h8,by simp only[bW]; omega,by simp only[bW]; omega⟩;simp only[rL];have q0:n5.rest [.l l,.i a,.s t,.s (aq (dy ((x::k)::d)))]=aq (dy ((x::k)::d)):=rfl;rw[q0,hz,hh,hr];have c1:aH ((bQ (x::k)).length+(dy d).length) 0=false:=by
   cases hq:aH ((bQ (x::k)).length+(dy d).length) 0 with
   |false=>rfl
   | true =>
    have:=Nat.eq_of_beq_eq_true hq;omega
  have c2:bf ((bQ (x::k)).length+(dy d).length) 1048576=true:=by rw[cu]; omega
  rw[c1,c2];have J:n5.st (aq (bQ (x::k))) (aq (dy d)) [.l l,.i a,.s t,.s (aq (dy ((x::k)::d)))]=some [.l l,.i b,.s t',.s (aq (dy d))]:=J;rw[J];exact hg2
def aiS(l:LL)(a:Int)(t r:BY)(y:0<=a)(N:a<=800000)(z:b_ t=true)(O:t.size<=800000):aa (D7 [.l l,.i a,.s t,.s r]) fun o=>∃(b:Int) (t':BY),o=(some 0,[.l l,.i b,.s t'])/\b_ t'=true/\dB t'<=dB t+2:=by
 unfold D7;dsimp +instances only[go_sem];refine aa.call (uj 0 2 l a _ y (by omega) (by rfl) (by rfl)) ?_;rintro _ ⟨m,rfl,w,U⟩;dsimp +instances only[go_sem];obtain⟨m,rfl⟩:=sG w;refine aa.loop (P:=fun c g=>c=0/\∃(b:Int) (s:BY),g=[.l l,.i b,.s s]/\b_ s=true/\dB s<=dB t+2) ?_ rfl ?_
 ·refine ((oO (σ:=Int × BY) (fun q i=>[.l l,.i q.1,.s q.2,.i (m:Int),.i (i:Int)]) m (fun q=>(0,[.l l,.i q.1,.s q.2])) (fun q i=>0<=q.1/\q.1<=800001+3*i/\b_ q.2=true/\q.2.size<=800000+100*i/\dB q.2<=dB t+i)
   (fun c g=>False) ?_ ?_ m (a+1,t) 0 (by omega) ⟨by simp only; omega,by simp only; omega,z,by simp only; omega,by simp only; omega⟩).to (by omega)).mono ?_
  ·rintro ⟨b, s⟩ i ⟨d, A, k, B, v⟩ hi
   simp only at d A k B v;unfold D6;dsimp +instances only[go_sem];refine aa.p ?_;refine aa.call (aiQ l b s _ d (by omega) k (by rfl) (by omega) (by decide) (by decide) (by
    rw[show (⟨#[32,10,48,45,57,67,87,69,78,68]⟩:BY)=aq [32,10,48,45,57,67,87,69,78,68] from rfl,ux]
    decide)) ?_
   rintro _ ⟨F,s',rfl,v,V,I,W,X⟩;dsimp +instances only[go_sem];refine aa.pos (cK.2 ⟨by omega,by omega⟩) (aa.some (.inl ⟨(F,s'),rfl,?_⟩));exact⟨by simp only; omega,by simp only; omega,I,by simp only; omega,by simp only; omega⟩
  ·rintro ⟨b, s⟩ _
   unfold D6;dsimp +instances only[go_sem];exact aa.n (aa.some rfl)
  ·rintro c g (⟨⟨b, s⟩, h, rfl, rfl⟩ | h)
   ·exact⟨rfl,b,s,rfl,h.2.2.1,by have:=h.2.2.2.2; simp only at this; omega⟩
   ·exact h.elim
 ·rintro c g ⟨rfl, b, s, rfl, J, M⟩
  exact aa.some ⟨b,s,rfl,J,M⟩
def JM{n:Nat}(h:n<100):jx (cL n):=fun b a=>by
 have:=Jm h b a;omega
def SQ{n:Int}(h:0<=n):jx (fY n):=by
 unfold fY;split
 ·intro b a
  rw[gH.1 a]
  decide
 ·exact Jl h
def aiT{b:LL}(k:sw b){r:LG}(v:fI r)(A:jt r=0) (B:0<=dD (gr (gi r 2).sV) b):∀ w∈iw b r,jx w:=by
 have z:=EM k _ B;obtain⟨t,m,d,c,s,h,x,y,e,g,hm,_,_,F,I,_⟩:=I4 v A;obtain⟨t',m',U,V,s',h',W,X,rfl,_,_,_,_,_,J,M,N⟩:=v;cases e;obtain⟨t,rfl⟩:=sG g.1;have g:=g.2;intro w O;have e:iw b [.i (t:Int),.i m,.s d,.s c,.i s,.i h,.s x,.s y]=[jy,f_ (gF b d),(od m).data.toList,eB (t / 86400000),lu (t%86400000 / 1000),c.data.toList,fY s,gk x.data.toList,fY h,gk y.data.toList]:=rfl;have e:w∈[jy,f_ (gF b d),(od m).data.toList,eB (t / 86400000),lu (t%86400000 / 1000),c.data.toList,fY s,gk x.data.toList,fY h,gk y.data.toList]:=O;simp only[cf,jf,or_false]at e;rcases e with rfl|rfl|rfl|rfl|rfl|rfl|rfl|rfl|rfl|rfl
 ·intro b k
  revert b
  decide
 ·exact Jl z.1
 ·rcases hm with rfl | rfl | rfl
  ·exact sn (show b_ (⟨#[67,87]⟩:BY)=true from by kernel_rfl)
  ·exact sn (show b_ (⟨#[80,72]⟩:BY)=true from by kernel_rfl)
  ·exact sn (show b_ (⟨#[82,89]⟩:BY)=true from by kernel_rfl)
 ·exact(SI (show t / 86400000<4018 by omega)).2.2
 ·intro q a
  unfold lu at a;rcases cN.1 a with a|a
  ·exact JM (by omega) q a
  ·rcases cN.1 a with a | a
   ·exact JM (by omega) q a
   ·exact JM (by omega) q a
 ·exact ahB J
 ·exact SQ F.1
 ·exact R6 (sn (cq.1 R4 x M))
 ·exact SQ I.1
 ·exact R6 (sn (cq.1 R4 y N))
def xb(b:LL)(sg:BY)(x:LL):List (List (List UInt8)):=([mX,sg.data.toList]::x.map (iw b))++[[uu]]
def aiU(b:LL)(sg:BY)(x:LL):fx b sg x++qC=dy (xb b sg x):=by
 unfold xb fx;rw[O5];rfl
def aiV{b:LL}(B:ft b=0){sg:BY}(F:iq sg.data.toList/\jx sg.data.toList/\sg.data.toList.length<=20){x:LL}(t:∀ z∈x,fI z)(v:l4 x=0)(I:og b x x.length):∀ y∈xb b sg x,AN y:=by
 have k:=SH B;intro y q;unfold xb at q;rw[cN,cf,gH,List.mem_map]at q;rcases q with(rfl|⟨z,d,rfl⟩)|rfl
 ·refine ⟨fun w a => ?_, by simp, by simp, fun h => ?_⟩
  ·rw [cf, gH] at a
   rcases a with rfl|rfl
   ·exact⟨⟨by decide,by decide⟩,fun b g=>by revert b; decide,by decide⟩
   ·exact F
  ·exact absurd (show mX=jy from h) (by decide)
 ·have A := I4 (t z d) (I0 v z d)
  have g:=I z (by rw[mn]; exact d);exact⟨fun w a=>⟨(JH k A g w a).1,aiT k (t z d) (I0 v z d) g w a,(JH k A g w a).2⟩,by simp[iw],by simp[iw],fun _=>by simp[iw]⟩
 ·refine ⟨fun w a => ?_, by decide, by decide, fun h => ?_⟩
  ·rw [gH.1 a]
   exact⟨⟨by decide,by decide⟩,fun b g=>by revert b; decide,by decide⟩
  ·exact absurd (show uu=jy from h) (by decide)
def aiW(l:LL)(a:Int)(k:0<=a)(b:a<=700000):aa (Di [.l l,.i a]) fun g=>∃ c v,g=[.l l,.i c,.i v]/\a<=c/\c<=a+10:=by
 unfold Di;dsimp +instances only[go_sem];refine aa.call (qp l a 15 (by omega) (by omega) (by omega) (by omega)) ?_;rintro _ ⟨f,rfl⟩;dsimp +instances only[go_sem];refine aa.test (fun _=>?_) fun _=>?_
 ·refine aa.call (Q_ l _ 0 30000000000 (by omega) (by omega) (by omega) (by omega) (by omega)) ?_
  rintro _ ⟨v,rfl,q⟩;exact aa.some ⟨a+1+2,v,rfl,by omega,by omega⟩
 ·refine aa.call (uj 0 30000000000 l _ _ (by omega) (by omega) (by kernel_rfl) (by kernel_rfl)) ?_
  rintro _ ⟨v,rfl,d,h⟩;exact aa.some ⟨a+1+1,v,rfl,by omega,by omega⟩
def mb(b:LL)(h:Int):Int:=bif ft b != 0 then ft b else bif ca h 0 30000000000 then 0 else 1
def aiX(b:LL)(h:Int)(d:∀ z∈b,dk z)(w:b.length<=1000):∃(k:BY) (ok:Bool),wE [.l b,.i h]=some [.s k,.t ok,.i (mb b h)] /\
  (mb b h=0->ft b=0/\k=ir (dW h) b/\ok=aR 0 (dD (dW h) b))/\(mb b h≠0->k=(⟨#[]⟩:BY)/\ok=false):=by
 by_cases a:ft b=0
 case neg =>
  have e:mb b h=ft b:=by
   unfold mb;rw[bne_iff_ne.2 a];rfl
  rw[e];refine⟨_,_,aa.toEq ?_,fun h=>(a h).elim,fun _=>⟨rfl,rfl⟩⟩;unfold wE;dsimp +instances only[go_sem];refine aa.cE (mU b d) ?_;dsimp +instances only[go_sem];exact aa.pos (by rw[bne_iff_ne]; exact a) (aa.some rfl)
 cases hi:ca h 0 30000000000 with
 | false =>
  have e:mb b h=1:=by
   unfold mb;rw[a,hi];rfl
  rw[e];refine⟨(⟨#[]⟩:BY),false,aa.toEq ?_,(fun h=>by cases h),fun _=>⟨rfl,rfl⟩⟩;unfold wE;dsimp +instances only[go_sem];refine aa.cE (mU b d) ?_;dsimp +instances only[go_sem];rw[a];refine aa.neg rfl ?_;refine aa.cE (kG h 0 30000000000) ?_;dsimp +instances only[go_sem];rw[hi];exact aa.pos rfl (aa.some rfl)
 | true =>
  have e:mb b h=0:=by
   unfold mb;rw[a,hi];rfl
  rw[e];refine⟨ir (dW h) b,aR 0 (dD (dW h) b),aa.toEq ?_,fun _=>⟨a,rfl,rfl⟩,fun h=>(h rfl).elim⟩;unfold wE;dsimp +instances only[go_sem];refine aa.cE (mU b d) ?_;dsimp +instances only[go_sem];rw[a];refine aa.neg rfl ?_;refine aa.cE (kG h 0 30000000000) ?_;dsimp +instances only[go_sem];rw[hi];refine aa.neg rfl ?_;refine aa.cE (Rf b h d (by omega)) ?_;dsimp +instances only[go_sem];rcases qv (p:=dW h) b with⟨g,q⟩|⟨i,g,q,v,_⟩
  ·rw [g, q]
   exact aa.pos rfl (aa.some rfl)
  ·rw [g]
   simp only[eH];refine aa.neg (by rw[be,dF]; omega) (aa.pos (by rw[aE,dY,be,dT,dT]; omega) (aa.some ?_));rw[v,show aR 0 (i:Int)=true from by rw[bz,dT]; omega]
def SR{b:LL}{a:Int}{sg:BY}{x:LL}{s:BY}(d:∀ z∈b,dk z)(M:b.length<=1000){h:BY}{ee:Int}(q:oS [.l b,.s sg,.l x]=some [.s h,.i ee])
  {v:BY} {rZ:LL} {w y:Int} (A:sa [.l b,.s s]=some [.s v,.l rZ,.i w,.i y]) (B:∀ z∈rZ,eL z) (N:rZ.length<=20) {k:BY} {ok:Bool} {Z:Int}
  (F:Z=0->ft b=0/\k=ir (dW a) b/\ok=aR 0 (dD (dW a) b)) (I:Z≠0->k=(⟨#[]⟩:BY)/\ok=false) :
  aa (An [.l b,.i a,.s sg,.l x,.s s,.s k,.t ok,.i Z,.s h,.i ee,.s v,.l rZ,.i w,.i y,.i Z]) fun o=>o=(some 0,[.t true]):=by
 have eq:=ahF rZ B (by omega);unfold An;dsimp +instances only[go_sem];refine aa.test (fun g=>?_) fun g=>?_
 ·obtain ⟨J, rfl, rfl⟩ := F (by simpa using g)
  refine aa.cE (Rg b a (by omega)) ?_;refine aa.cE q ?_;refine aa.cE A ?_;refine aa.cE (mU b d) ?_;refine aa.cE (oZ b d) ?_;dsimp +instances only[go_sem];refine aa.pos (by simp) (aa.pos (by simp) (aa.pos (by simp) (aa.pos (by rw[Ri (Rh J) a]; simp) (aa.pos (by simp) (aa.pos (by simp) (aa.pos (by simp) (aa.pos (by simp) ?_)))))));refine aa.cE eq ?_;refine aa.pos rfl (aa.pos (by simp) ?_);refine aa.cE Q6 ?_;exact aa.some rfl
 ·obtain ⟨rfl, rfl⟩ := I (by simpa using g)
  refine aa.cE q ?_;refine aa.cE A ?_;refine aa.cE (mU b d) ?_;refine aa.cE (oZ b d) ?_;dsimp +instances only[go_sem];refine aa.pos (by simp) (aa.pos (by simp) (aa.pos (by simp) (aa.pos rfl (aa.pos (by simp) (aa.pos (by simp) (aa.pos (by simp) (aa.pos (by simp) ?_)))))));refine aa.cE eq ?_;refine aa.pos rfl (aa.pos (by simp) ?_);refine aa.cE Q6 ?_;exact aa.some rfl
def ER:LL:=[[.s (⟨#[98,52,48]⟩:BY),.i 7000000,.i 7300000],[.s (⟨#[98,50,48]⟩:BY),.i 14000000,.i 14350000]]
def aiY:∀ z∈ER,dk z:=by
 intro z a;simp only[ER,cf,jf,or_false]at a;rcases a with rfl|rfl
 ·exact⟨_,_,_,rfl,by simp[l6],⟨by decide,by decide⟩,⟨by decide,by decide⟩⟩
 ·exact⟨_,_,_,rfl,by simp[l6],⟨by decide,by decide⟩,⟨by decide,by decide⟩⟩
def aiZ(v:BY):Prop:=mW v/\iq v.data.toList/\jx v.data.toList/\v.data.toList.length<=20
def ai0(l:LL)(a:Int)(ha:0<=a)(ha1:a<=4000):aa (D8 [.l l,.i a]) fun g=>∃ b s,g=[.l l,.i b,.s s]/\b_ s=true/\dB s<=20:=by
 unfold D8;dsimp +instances only[go_sem];refine aa.call (IU l a 0 4 (by omega) (by omega) (by omega) (by omega) (by omega)) ?_;rintro _ ⟨n,rfl,I,hn1⟩;dsimp +instances only[go_sem];refine aa.call (agu l _ n (by omega) (by omega) I (by omega)) ?_;rintro _ ⟨p1,x,rfl,hp1,Y,J,hxl,hf⟩;dsimp +instances only[go_sem];have w:∀ z∈x,fI z:=fun z h=>(J z h).to;refine aa.call (IV aiZ l p1 _ (by omega) (by omega) (by decide) (by decide) (fun z h=>?_)) ?_
 ·simp only [cf, jf, or_false] at h
  rcases h with rfl|rfl|rfl
  ·exact⟨⟨rfl,by decide⟩,⟨by decide,by decide⟩,sn rfl,by decide⟩
  ·exact⟨⟨rfl,by decide⟩,⟨by decide,by decide⟩,sn rfl,by decide⟩
  ·exact⟨⟨rfl,by decide⟩,⟨by decide,by decide⟩,sn rfl,by decide⟩
 rintro _ ⟨sg,rfl,v⟩;dsimp +instances only[go_sem];obtain⟨O,ee,_,U,V⟩:=SL ER aiY (by decide) sg v.1 x w (by omega);refine aa.cE U ?_;dsimp +instances only[go_sem];obtain⟨d,rfl,M,hln⟩:∃ d,O=aq (dy d)/\(∀ y∈d,AN y)/\d.length<=6:=by
  rcases V with rfl|⟨rfl,k,q,A,B⟩
  ·exact⟨[],rfl,(fun y N=>by cases N),by simp⟩
  ·refine ⟨xb ER sg x, by rw [aiU], aiV k v.2 w q B, ?_⟩
   unfold xb;rw[dG,bW,fJ,Fm];omega
 refine aa.tail (P:=fun c g=>∃(b:Int) (t':BY),g=[.l l,.i b,.s t']/\b_ t'=true/\dB t'<=20) ?_ rfl ?_
 ·unfold IJ Go.AL.y9
  obtain⟨g,t,b,t',rfl,k,q,A,B,h5⟩:=SO l d 1048577 (p1+1) (⟨#[]⟩:BY) M (by omega) (by omega) (by omega) (by omega) rfl (by have:(⟨#[]⟩:BY).size=0:=rfl; omega);have h0:dB (⟨#[]⟩:BY)=0:=by rw[<-Rj,ux]; rfl
  have h00:(⟨#[]⟩:BY).size=0:=rfl;obtain⟨o,W,F,t2,rfl,X,h7⟩:=aiS l b t' (⟨#[]⟩:BY) (by omega) (by omega) A (by omega);refine⟨(some 0,[.l l,.i F,.s t2]),?_,0,rfl,F,t2,rfl,X,by omega⟩;have t:rL r9 n5.rest n5.st 1048577 (n5.init [.l l,.i (p1+1),.s (⟨#[]⟩:BY),.s (aq (dy d))])=some [.l l,.i b,.s t',.s (⟨#[]⟩:BY)]:=t;rw[t,show n5.side [.l l,.i (p1+1),.s (⟨#[]⟩:BY),.s (aq (dy d))]=true from rfl];exact W
 ·rintro c g ⟨b, t', rfl, k, q⟩
  exact aa.some ⟨b,t',rfl,k,q⟩
def ai1:(calls.all fun c=>bf c.size 20)=true:=by kernel_rfl
def ai2{c:BY}(h:c∈calls):mW c:=⟨cq.1 R0 c h,by
 have:=cq.1 ai1 c h;rw[cu]at this;omega⟩
def SS(f:Bool):zT [.t f,.i 1]=some [.i (bif f then 1 else 0)]:=by
 unfold zT;dsimp +instances only[go_sem];cases f<;>rfl
def ai3(rZ:LL):IS [.l rZ]=some [.t true]:=by
 refine aa.toEq ?_;unfold IS;dsimp +instances only[go_sem];refine aa.call (agJ rZ 0 (by omega) (by omega)) ?_;rintro _ ⟨O,b,rfl,ha0,ha1,d,hbn⟩;dsimp +instances only[go_sem];refine aa.call (aiW rZ O (by omega) (by omega)) ?_;rintro _ ⟨U,a,rfl,ha2,ha3⟩;dsimp +instances only[go_sem];refine aa.call (QV rZ U (by omega) (by omega)) ?_;rintro _ ⟨sg,rfl,I⟩;dsimp +instances only[go_sem];refine aa.call (IU rZ _ 0 6 (by omega) (by omega) (by omega) (by omega) (by omega)) ?_;rintro _ ⟨n,rfl,J,hn1⟩;dsimp +instances only[go_sem];refine aa.call (Q4 rZ _ n (by omega) (by omega) J (by omega)) ?_;rintro _ ⟨p1,x,rfl,hp1,hp1',M,hxl⟩;dsimp +instances only[go_sem];have V:∀ z∈x,fI z:=fun z a=>(M z a).to;refine aa.call (ai0 rZ p1 (by omega) (by omega)) ?_;rintro _ ⟨p2,s,rfl,W,N⟩;dsimp +instances only[go_sem];obtain⟨k,ok,X,v,w⟩:=aiX b a d (by omega);obtain⟨es,ee,Y,y,_⟩:=SL b d (by omega) sg (ai2 I) x V (by omega);obtain⟨is,R,ii,ie,hI,A,F,B⟩:=aiC b d (by omega) s W N;refine aa.cE X ?_;refine aa.cE Y ?_;refine aa.cE hI ?_;refine aa.cE (oZ b d) ?_;dsimp +instances only[go_sem];refine aa.test (fun h=>?_) fun h=>?_
 ·refine aa.call (aa.eq (SS true)) ?_
  rintro _ rfl;dsimp +instances only[go_sem];refine aa.cE (Q5 _ _) ?_;dsimp +instances only[go_sem];have e:(bif ft b != 0 then ft b else (bif true then 1 else 0))=mb b a:=by
   unfold mb;have:ca a 0 30000000000=false:=by
    unfold ca;rw[be,dT]at h;rw[Bool.and_eq_false_iff,bz,bz,dF];exact .inl (by omega)
   rw[this];rfl
  rw[e];refine aa.tail (P:=fun _ g=>g=[.t true]) ((SR d (by omega) y A F B v w).mono fun o q=>by rw[q]; exact⟨0,rfl,rfl⟩) rfl ?_;rintro _ _ rfl;exact aa.some rfl
 ·refine aa.call (aa.eq (SS _)) ?_
  rintro _ rfl;dsimp +instances only[go_sem];refine aa.cE (Q5 _ _) ?_;dsimp +instances only[go_sem];have e:(bif ft b != 0 then ft b else (bif aK 30000000000 a then 1 else 0))=mb b a:=by
   unfold mb;rw[be,dF]at h;have:ca a 0 30000000000 = !aK 30000000000 a:=by
    unfold ca;rw[bz,bz,be,dE (by omega:(0:Int)<=a),Bool.true_and,<-decide_not];congr 1;rw[Int.not_lt]
   rw[this];cases aK 30000000000 a<;>rfl
  rw[e];refine aa.tail (P:=fun _ g=>g=[.t true]) ((SR d (by omega) y A F B v w).mono fun o q=>by rw[q]; exact⟨0,rfl,rfl⟩) rfl ?_;rintro _ _ rfl;exact aa.some rfl
end
end Go.Proofs.jL
