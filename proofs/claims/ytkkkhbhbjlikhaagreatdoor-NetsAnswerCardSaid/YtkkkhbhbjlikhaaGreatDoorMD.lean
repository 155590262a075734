/-
 What is proved here: shapes: states and arguments as data alone (integers,strings,rZ),read oF abstract states and built from data; what is built says no more than what was read. No program in sight; no condition.
-/
import Derived.Test.YtkkkhbhbjlikhaaGreatDoorMC
import Derived.Maps.RangeRun
set_option linter.all false
open Bool renaming and_true->fJ,and_eq_true->aR,false_eq_true->tb,not_eq_true'->nD,and_self->qs,eq_false_iff->aac
open Go renaming Value->al,FuncId->bH,World->be,Program->ak,Oper->aN
open Go.Act renaming put->xP
open Go.MapKept renaming heap_set->Eg
open Go.Value.slice renaming injEq->oU
open Int renaming toNat_natCast->aZ
open List renaming range->jh,length_cons->cJ,length_map->bL,getElem?_append_left->fB,getElem?_append_right->ml,getElem?_set_self->dN,getElem?_set_ne->dh,getElem?_set->iQ,getElem?_eq_getElem->bT,getD_eq_getElem?_getD->dj,getElem?_take->ta,mem_of_getElem?->jj,getElem?_map->dw,map_cons->eU,cons_append->qk,length_append->eL,all_eq_true->eX,mem_cons->cy,getElem?_of_mem->oW,mem_append->cY,append_nil->kL,all_cons->oZ,mem_cons_self->dG,mem_cons_of_mem->cO,mem_map->cM,range'->ka,range'_succ->Eb,mem_append_left->Pc,any_eq_true->qo,range_eq_range'->AS,nodup_cons->mn,headD_cons->nE,getElem?_cons_succ->aaa,getElem?_inj->Pl,append_assoc->pg,getD_cons_succ->aab,find?_cons_of_neg->atE,getElem_mem->nG,mem_filter->jm
open List.Perm renaming refl->xT
open Nat renaming le_refl->bl,le_add_right->gk,lt_or_ge->mh,zero_add->fC,beq->aA,zero_le->lj,eq_of_beq_eq_true->cz,sub_self->xO,ble->bW,blt->fT,le_of_ble_eq_true->lk,lt_irrefl->AW
open Option renaming map_eq_some_iff->jA,map_some->jl,getD_some->mU,bind_some->xS
open Option.some renaming injEq->bQ,inj->th
open Prod.mk renaming injEq->cr
namespace Go.AL
open Go
variable [Dr]
inductive fw where
 |int (k:IntKind)|str|bool
 |list (ks:List Kd)|row (ks:List Kd)|cptr (ks:List Kd)
 |nil|any
 |RO (isNil:Bool)
 |fn (f:bH)
 |ptr (j col:Nat)
 |vQ (j w:Nat)
 |sub (j w:Nat)
 |pre (j w:Nat)
 |wh (ks:List Kd)
 |map (j:Nat)
 |addr
 |yF (f:bH) (js:List Nat)
 |BN
 deriving Inhabited
abbrev fw.I:fw:=.int .i64
inductive Sh where
 |s (a:fw)
 |clo (f:bH) (caps:List fw)
 deriving Inhabited
inductive cq where
 |vQ (ks:List Kd) (u:Nat)
 |box (cells:List fw)
 |map (K V:Ct)
 |dK (l T B:Nat)
 |bI (l:Nat) (K:Ct) (ks:List Kd)
 deriving Inhabited
def cq.mD:cq->Option Nat
 |.dK l _ _=>some l
 |.bI l _ _=>some l
 |_=>none
def fw.sz:fw->Nat
 |.int _ | .str | .bool | .list _ | .row _ | .cptr _ | .wh _ | .pre _ _ | .addr=>1
 |.sub _ _=>2
 |_=>0
def qE:List fw->Nat
 |[]=>0
 |a::as=>a.sz+qE as
def Sh.sz:Sh->Nat
 |.s a=>a.sz
 |.clo _ caps=>qE caps
def Li:List Sh->Nat
 |[]=>0
 |a::as=>a.sz+Li as
def cq.sz:cq->Nat
 |.vQ _ _=>1
 |.box cells=>qE cells
 |.map _ _=>2
 |.dK _ _ _=>1
 |.bI _ _ _=>2
def eo:Nat->LG->LG
 |0,d=>d
 |n+1,d=>eo n d.tail
abbrev eM:=List (Nat × Nat)
def eM.len(os:eM)(j:Nat):Nat:=(os.getD j (0,0)).1
def eM.ax(os:eM)(j:Nat):Nat:=(os.getD j (0,0)).2
def wm:List Nat->List AV
 |[]=>[]
 |j::d=>.ptr j 0 0 0 0::wm d
def fF(lens:eM):fw->LG->AV
 |.int k,d=>.lit (.int k (d.headD default).iV)
 |.str,d=>.lit (.string (d.headD default).sV)
 |.bool,d=>.lit (.bool (d.headD default).bV)
 |.list ks,d=>.listF ks (d.headD default).rZ
 |.wh ks,d=>.listF ks (d.headD default).rZ
 |.row ks,d=>.agg (bh ks (d.headD default).rV)
 |.cptr ks,d=>.cptr (bh ks (d.headD default).rV)
 |.nil,_=>.lit (.slice none 0 0)
 |.any,_=>.undef
 |.RO b,_=>.emptyS b
 |.fn f,_=>.clo f []
 |.ptr j g,_=>.ptr j 0 0 0 g
 |.vQ j w,_=>.vQ w j (lens.ax j) 0 (lens.len j)
 |.sub j w,d=>.vQ w j (lens.ax j) (d.headD default).iV.toNat (d.tail.headD default).iV.toNat
 |.pre j w,d=>.vQ w j (lens.ax j) 0 (d.headD default).iV.toNat
 |.map j,_=>.map j
 |.addr,d=>.lit (.pointer (some ⟨(d.headD default).iV.toNat,0,none⟩))
 |.yF f q,_=>.clo f (wm q)
 |.BN,_=>.lit .nilIface
def ly(lens:eM):List fw->LG->List AV
 |[],_=>[]
 |a::as,d=>fF lens a d::ly lens as (eo a.sz d)
def lz(lens:eM):Sh->LG->AV
 |.s a,d=>fF lens a d
 |.clo f caps,d=>.clo f (ly lens caps d)
def dS(lens:eM):List Sh->LG->List AV
 |[],_=>[]
 |a::as,d=>lz lens a d::dS lens as (eo a.sz d)
def gM(lens:eM):cq->LG->aG
 |.vQ ks u,d=>.vQ ks u (d.headD default).rZ
 |.box g,d=>.raw (.box (ly lens g d))
 |.map K V,d=>.map K V (d.headD default).rZ (d.tail.headD default).iV.toNat
 |.dK l T B,d=>.raw (.dK l T B (d.headD default).sV)
 |.bI l K ks,d=>.bI l K ks (d.headD default).rZ (d.tail.headD default).iV.toNat
def ue(lens:eM)(sh:cq)(d:LG):(gM lens sh d).au.label=sh.mD:=by cases sh<;>rfl
def cX(lens:eM):List cq->LG->List aG
 |[],_=>[]
 |o::os,d=>gM lens o d::cX lens os (eo o.sz d)
def oa:List cq->Nat
 |[]=>0
 |o::os=>o.sz+oa os
def cd:List cq->LG->eM
 |[],_=>[]
 |o::os,d=>(match o with
  |.vQ _ u=>((d.headD default).rZ.length,u)
  |_=>(0,0))::cd os (eo o.sz d)
def ob(H:List aG)(e:cW):List Nat->List AV->Bool
 |[],[]=>true
 |j::d,.ptr id ax k row c::g=>(match H[id]? with
  |some (.raw _)=>aA id (e.at j)&&aA ax 0&&aA k 0&&aA row 0&&aA c 0
  |_=>false)&&ob H e d g
 |_,_=>false
def ju(H:List aG)(e:cW)(fz:Nat->Bool):fw->AV->Option (Bool × LG)
 |.int k,.lit (.int A n)=>if k=A then some (true,[.i n]) else none
 |.str,.lit (.string s)=>some (true,[.s s])
 |.bool,.lit (.bool b)=>some (true,[.t b])
 |.list ks,a=>match v_ ks a with
  |some rZ=>some (true,[.l rZ])
  |none=>match a with
   |.vQ w id ax oF n=>match H[id]? with
    |some (.vQ d v rZ)=>if ax=v/\oF=0/\w=ks.length/\Kd.kz ks d=true/\fz id=true then some (aA n rZ.length,[.l rZ]) else none
    |_=>none
   |_=>none
 |.row ks,a=>match Lb ks a with
  |some r=>some (true,[.l [r]])
  |none=>none
 |.cptr ks,.cptr cells=>match jE ks cells with
  |some r=>some (true,[.l [r]])
  |none=>none
 |.cptr ks,.ptr id ax _ row q=>match H[id]? with
  |some (.raw (.box cells))=>match jE ks cells with
   |some r=>if ax=0/\row=0/\q=0/\fz id=true then some (true,[.l [r]]) else none
   |none=>none
  |some (.vQ d v [r])=>if ax=v/\row=0/\q=0/\Kd.kz ks d=true/\fz id=true then some (true,[.l [r]]) else none
  |_=>none
 |.nil,.lit (.slice none 0 0)=>some (true,[])
 |.any,_=>some (true,[])
 |.fn f,.clo g []=>if f=g then some (true,[]) else none
 |.ptr j q,.ptr id ax k row c=>match H[id]? with
  |some (.raw _)=>if id=e.at j/\ax=0/\k=0/\row=0/\c=q then some (true,[]) else none
  |_=>none
 |.vQ j w,.vQ w' id ax oF n=>match H[id]? with
  |some (.vQ _ v rZ)=>if w'=w/\id=e.at j/\ax=v/\oF=0 then some (aA n rZ.length,[]) else none
  |_=>none
 |.sub j w,.vQ w' id ax oF n=>match H[id]? with
  |some (.vQ _ v _)=>if w'=w/\id=e.at j/\ax=v then some (true,[.i oF,.i n]) else none
  |_=>none
 |.pre j w,.vQ w' id ax oF n=>match H[id]? with
  |some (.vQ _ v _)=>if w'=w/\id=e.at j/\ax=v/\oF=0 then some (true,[.i n]) else none
  |_=>none
 |.wh ks,a=>match v_ ks a with
  |some rZ=>some (true,[.l rZ])
  |none=>match a with
   |.vQ w id ax oF n=>match H[id]? with
    |some (.vQ d v rZ)=>if ax=v/\oF=0/\w=ks.length/\Kd.kz ks d=true/\fz id=true then some (bW n rZ.length,[.l (rZ.take n)]) else none
    |_=>none
   |_=>none
 |.map j,.map id=>match H[id]? with
  |some (.map _ _ _ _)=>if id=e.at j then some (true,[]) else none
  |some (.bI _ _ _ _ _)=>if id=e.at j then some (true,[]) else none
  |_=>none
 |.addr,.lit (.pointer (some ⟨b,0,none⟩))=>some (true,[.i (b:Nat)])
 |.yF f B,.clo g F=>if f=g/\ob H e B F=true then some (true,[]) else none
 |.BN,.lit .nilIface=>some (true,[])
 |_,_=>none
def iX(H:List aG)(e:cW)(fz:Nat->Bool):List fw->List AV->Option (Bool × LG)
 |[],[]=>some (true,[])
 |sh::d,a::as=>match ju H e fz sh a,iX H e fz d as with
  |some (b,g),some (q,A)=>some (b&&q,g++A)
  |_,_=>none
 |_,_=>none
def od(H:List aG)(e:cW)(fz:Nat->Bool):Sh->AV->Option (Bool × LG)
 |.s a,v=>ju H e fz a v
 |.clo f caps,.clo g d=>if f=g then iX H e fz caps d else none
 |_,_=>none
def gv(H:List aG)(e:cW)(fz:Nat->Bool):List Sh->List AV->Option (Bool × LG)
 |[],[]=>some (true,[])
 |sh::d,a::as=>match od H e fz sh a,gv H e fz d as with
  |some (b,g),some (q,A)=>some (b&&q,g++A)
  |_,_=>none
 |_,_=>none
def kP(H:List aG)(e:cW)(fz:Nat->Bool):cq->aG->Option (Bool × LG)
 |.vQ ks _,.vQ d _ rZ=>if Kd.kz ks d then some (true,[.l rZ]) else none
 |.box q,.raw (.box cells)=>iX H e fz q cells
 |.map K V,.map g A rZ aL=>if K.same g&&V.same A then some (true,[.l rZ,.i aL]) else none
 |.dK l T B,.raw (.dK l' F I s)=>if (aA l l'&&(aA T F&&aA B I))=true then some (true,[.s s]) else none
 |.bI l K ks,.bI l' g d rZ aL=>if (aA l l'&&(K.same g&&Kd.kz ks d))=true then some (true,[.l rZ,.i aL]) else none
 |_,_=>none
variable {H:List aG} {b:Bool} {e:cW} {fz:Nat->Bool} {g d:LG} {o:aG} {sh:cq} {a:AV} {c:al} {id k n v l m aU:Nat} {ks:List Kd} {lens:eM} {E:af} {aB:List Nat} {os:List cq} {s:aH} {fn:Func} {P:ak} {β:Type}
theorem Lj(h:kP H e fz sh o=some (b,g)):o.au.label=sh.mD:=by
 unfold kP at h;split at h
 ·rfl
 ·rfl
 ·rfl
 ·split at h
  ·rename_i hs
   simp only[aR]at hs;have:=cz hs.1;subst this;rfl
  ·cases h
 ·split at h
  ·rename_i hs
   simp only[aR]at hs;have:=cz hs.1;subst this;rfl
  ·cases h
 ·cases h
def lB(H:List aG)(e:cW)(fz:Nat->Bool):List cq->List Nat->Option (Bool × LG)
 |[],[]=>some (true,[])
 |o::os,i::d=>match H[i]? with
  |some t=>match kP H e fz o t,lB H e fz os d with
   |some (b,g),some (q,A)=>some (b&&q,g++A)
   |_,_=>none
  |none=>none
 |_,_=>none
theorem qF:∀(g rest:LG),eo g.length (g++rest)=rest
 |[],_=>rfl
 |_::g,rest=>qF g rest
def wo:aG->Nat
 |.vQ _ v _=>v
 |_=>0
def wq(H:List aG)(id:Nat):Nat:=match H[id]? with
 |some o=>wo o
 |none=>0
def bX(H:List aG)(aB:List Nat):cW:=⟨aB,aB.map (wq H),H.length⟩
structure FF (E0:af) (lens:eM) (j:Nat) (o:aG):Prop where
 ax:o.au.bt=some (wo o)
 obj:∃o0,E0.H[j]?=some o0/\o0.bt=some (lens.ax j)
 len:∀ks v rZ,o=.vQ ks v rZ->lens.len j=rZ.length
 flat:(∀ks v rZ,o≠.vQ ks v rZ)->lens.ax j=0
structure kQ (H:List aG) (e:cW) (fz:Nat->Bool) (lens:eM) (E E0:af):Prop where
 hH:E.H=aF H
 HE:aO E
 free:∀i,fz i=true->∀b n,E.ad[i]?=some (some (b,n))->E0.lq b
 fe:KeepIn e E E0
 obj:∀j o,H[e.at j]?=some o->j<e.aB.length/\FF E0 lens j o
section fe
variable {H:List aG} {e:cW} {fz:Nat->Bool} {lens:eM} {E E0:af}
theorem FF.cf{j:Nat}{o:aG}(h:FF E0 lens j o):E0.cf j (lens.ax j):=by
 obtain⟨o0,g,q⟩:=h.obj;exact⟨o0,g,fun v d=>by rw[q]at d; cases d; exact bl _⟩
theorem ac6(K:kQ H e fz lens E E0){rZ:LL}(M:H[id]? = some (.vQ ks v rZ))(N:fz id=true)(hn:n=rZ.length)
  (hr:ae E (.vQ ks.length id v 0 n) c):ae E0 (.listF ks rZ) c:=by
 subst hn;have B:E.H[id]?=some (.vQ ks.length v (rZ.map (bh ks))):=by rw[K.hH]; exact cn M
 have d:=K.HE.obj id _ B;rw[m_];simp only[ae]at hr|-;obtain⟨⟨bg,cap,rfl,J,_⟩,_,q⟩:=hr;obtain⟨q1,O⟩:=q ⟨_,B,rfl⟩;have F:iC (rZ.map (bh ks)):=by
  intro r hr;obtain⟨g,_,rfl⟩:=cM.1 hr;exact jC ks g
 refine⟨F,bg,cap,ai,by simpa using J,?_⟩;simp only[bK]at d;rcases d with⟨A,U⟩|⟨b,m,A,U,q,_,W⟩
 grind
 ·obtain⟨g1,o,Y,I⟩:=O b m A
  by_cases hm:rZ=[]
  grind
  ·right
   have:0<rZ.length:=by cases rZ<;>grind
   simp at q;have d:=Y ab;simp at d;subst d;simp only[oU]at I;exact⟨b,0,I.1,K.free id N b m A,pk K.fe.cQ _ F (by rw[K.fe.w]) W⟩
theorem ac7(K:kQ H e fz lens E E0){rZ:LL}(N:H[id]? = some (.vQ ks v rZ))(O:fz id=true)(hn:n<=rZ.length)
  (hr:ae E (.vQ ks.length id v 0 n) c):ae E0 (.listF ks (rZ.take n)) c:=by
 have B:E.H[id]?=some (.vQ ks.length v (rZ.map (bh ks))):=by rw[K.hH]; exact cn N
 have d:=K.HE.obj id _ B;rw[m_];simp only[ae]at hr|-;obtain⟨⟨bg,cap,rfl,M,_⟩,_,q⟩:=hr;obtain⟨q1,U⟩:=q ⟨_,B,rfl⟩;have I:iC ((rZ.take n).map (bh ks)):=by
  intro r hr;obtain⟨g,_,rfl⟩:=cM.1 hr;exact jC ks g
 have F:min n rZ.length=n:=Nat.min_eq_left hn;refine⟨I,bg,cap,by simp[F],by simpa[F]using M,?_⟩;simp only[bK]at d;rcases d with⟨A,W⟩|⟨b,m,A,W,q,_,Y⟩
 grind
 ·obtain⟨g1,o,g2,J⟩:=U b m A
  by_cases hm:n=0
  grind
  ·right
   simp at q;have d:=g2 ab;simp at d;subst d;simp only[oU]at J;refine⟨b,0,J.1,K.free id O b m A,pk K.fe.cQ _ I (by rw[K.fe.w]) ?_⟩;rw[qv]at Y|-
   grind
theorem ac8(K:kQ H e fz lens E E0){cells:List AV} (F:H[id]? = some (.raw (.box cells))) (q:AV.ca cells=true) (I:fz id=true)
  (hr:ae E (.ptr id 0 k 0 0) c):ae E0 (.cptr cells) c:=by
 have g:E.H[id]?=some (.box cells):=by rw[K.hH]; exact cn F
 have A:=K.HE.obj id _ g;simp only[bK]at A;obtain⟨b,n,B,O,J⟩:=A;simp only[ae]at hr|-;obtain⟨_,_,M⟩:=hr;obtain⟨U,W,d,N⟩:=M ⟨_,g,rfl⟩;rw[B]at d;simp only[bQ,cr]at d;obtain⟨rfl,rfl⟩:=d;exact⟨q,b,0,by rw[N]; simp,K.free id I b n B,xZ K.fe.cQ cells q (by rw[K.fe.w]) J⟩
theorem ac9(K:kQ H e fz lens E E0){r:LG}(I:H[id]? = some (.vQ ks v [r]))(J:fz id=true)
  (hr:ae E (.ptr id v k 0 0) c):ae E0 (.cptr (bh ks r)) c:=by
 have g:E.H[id]?=some (.vQ ks.length v [bh ks r]):=by rw[K.hH]; exact cn I
 have q:=K.HE.obj id _ g;simp only[bK]at q;simp only[ae]at hr|-;obtain⟨_,_,M⟩:=hr;obtain⟨O,U,d,N⟩:=M ⟨_,g,rfl⟩;rcases q with⟨_,A⟩|⟨b,m,B,A,W,Y,F⟩
 ·cases A
 ·rw[B]at d
  simp only[bQ,cr]at d;obtain⟨rfl,rfl⟩:=d;simp only[er]at F;exact⟨jC ks r,b,0,by rw[N]; simp,K.free id J b m B,xZ K.fe.cQ _ (jC ks r) (by rw[K.fe.w]) F.2.1⟩
theorem RP(K:kQ H e fz lens E E0):∀{g:List Nat} {q:List AV},ob H e g q=true->∀ cs,aq E q cs->aq E0 (wm g) cs
 |[],[],_,cs,hr=>by
  cases cs with
  |nil=>simp[wm,aq]
  |cons _ _=>simp[aq]at hr
 |j::g,v::q,h,cs,hr=>by
  cases v<;>simp only[ob,tb]at h<;>try cases h
  rename_i id ax k row c;simp only[aR]at h;obtain⟨d,O⟩:=h;split at d
  ·rename_i r M
   simp only[aR]at d;obtain⟨⟨⟨⟨A,B⟩,F⟩,I⟩,a5⟩:=d;have A:=cz A;have B:=cz B;have F:=cz F;have I:=cz I;have a5:=cz a5;subst A B F I a5;cases cs with
   |nil=>simp[aq]at hr
   |cons c cs=>
    simp only[aq]at hr;simp only[wm,aq];refine⟨?_,RP K O cs hr.2⟩;obtain⟨U,J⟩:=K.obj _ _ M;have Y:=J.flat (fun _ _ _ h=>by cases h);have N:=hr.1;simp only[ae]at N|-;obtain⟨d,O,W⟩:=N;refine⟨d,by have:=J.cf; grind,fun _=>?_⟩;rw[K.fe.ad _ U];exact W ⟨_,by rw[K.hH]; exact cn M,J.ax⟩
  ·cases d
 |[],_::_,h,_,_=>by simp[ob]at h
 |_::_,[],h,_,_=>by simp[ob]at h
theorem RQ(K:kQ H e fz lens E E0){sh:fw}(h:ju H e fz sh a=some (true,g))(rest:LG):
  g.length=sh.sz/\∀c,ae E a c->ae E0 (fF lens sh (g++rest)) c:=by
 unfold ju at h;split at h
 ·split at h
  ·rename_i O
   subst O;cases h;exact⟨rfl,fun c hr=>by simp only[ae]at hr; subst hr; simp[fF,ae,G.iV]⟩
  ·cases h
 ·cases h; exact⟨rfl,fun c hr=>by simp only[ae]at hr; subst hr; simp[fF,ae,G.sV]⟩
 ·cases h; exact⟨rfl,fun c hr=>by simp only[ae]at hr; subst hr; simp[fF,ae,G.bV]⟩
 ·split at h
  ·rename_i rZ hr
   cases h;exact⟨rfl,fun c hc=>fD K.fe.cQ (.listF _ rZ) rfl (RB hr hc)⟩
  ·split at h
   ·split at h
    ·rename_i d
     split at h
     ·rename_i hc
      obtain⟨rfl,rfl,rfl,hs,I⟩:=hc;simp only[bQ,cr]at h;obtain⟨A,rfl⟩:=h;have hs:=Kd.lY hs;subst hs;exact⟨rfl,fun c hr=>ac6 K d I (cz A) hr⟩
     ·cases h
    ·cases h
   ·cases h
 ·split at h
  ·rename_i ks a r hr
   cases h;have J:=RC hr;subst J;exact⟨rfl,fun c hc=>fD K.fe.cQ (.agg (bh ks r)) (by simp only[AV.closed,jC]) hc⟩
  ·cases h
 ·split at h
  ·rename_i r hr
   cases h;have J:=nX hr;subst J;exact⟨rfl,fun c hc=>fD K.fe.cQ (.cptr _) rfl hc⟩
  ·cases h
 ·split at h
  ·rename_i d
   split at h
   ·rename_i r hr
    split at h
    ·rename_i hc
     obtain⟨rfl,rfl,rfl,I⟩:=hc;cases h;have J:=nX hr;subst J;exact⟨rfl,fun c hr=>ac8 K d (jC _ _) I hr⟩
    ·cases h
   ·cases h
  ·rename_i W v r d
   split at h
   ·rename_i hc
    obtain⟨rfl,rfl,rfl,hs,I⟩:=hc;cases h;have hs:=Kd.lY hs;subst hs;exact⟨rfl,fun c hr=>ac9 K d I hr⟩
   ·cases h
  ·cases h
 ·cases h; exact⟨rfl,fun c hr=>by simpa only[fF,ae]using hr⟩
 ·cases h; exact⟨rfl,fun c hr=>by simp[fF,ae]⟩
 ·split at h
  ·rename_i O
   subst O;cases h;exact⟨rfl,fun c hr=>fD K.fe.cQ (.clo _ []) rfl hr⟩
  ·cases h
 ·split at h
  ·rename_i r d
   split at h
   ·rename_i hc
    obtain⟨rfl,rfl,rfl,rfl,rfl⟩:=hc;cases h;obtain⟨B,q⟩:=K.obj _ _ d;have M:=q.flat (fun _ _ _ h=>by cases h);refine⟨rfl,fun c hr=>?_⟩;simp only[ae]at hr;simp only[fF,ae];obtain⟨A,N,F⟩:=hr;refine⟨A,by have:=q.cf; rwa [M]at this,fun _=>?_⟩;rw[K.fe.ad _ B];exact F ⟨_,by rw[K.hH]; exact cn d,q.ax⟩
   ·cases h
  ·cases h
 ·split at h
  ·rename_i ks v rZ d
   split at h
   ·rename_i hc
    obtain⟨rfl,rfl,rfl,rfl⟩:=hc;simp only[bQ,cr]at h;obtain⟨A,rfl⟩:=h;have A:=cz A;subst A;obtain⟨B,q⟩:=K.obj _ _ d;refine⟨rfl,fun c hr=>?_⟩;simp only[ae]at hr;simp only[fF,ae];rw[q.len _ _ _ rfl];obtain⟨A,N,F⟩:=hr;refine⟨A,q.cf,fun _=>?_⟩;rw[K.fe.ad _ B];exact F ⟨_,by rw[K.hH]; exact cn d,q.ax⟩
   ·cases h
  ·cases h
 ·split at h
  ·rename_i ks v rZ d
   split at h
   ·rename_i hc
    obtain⟨rfl,rfl,rfl⟩:=hc;cases h;obtain⟨B,q⟩:=K.obj _ _ d;refine⟨rfl,fun c hr=>?_⟩;simp only[ae]at hr;simp only[fF,ae,qk,nE,List.tail_cons,G.iV,aZ];obtain⟨A,N,F⟩:=hr;refine⟨A,q.cf,fun _=>?_⟩;rw[K.fe.ad _ B];exact F ⟨_,by rw[K.hH]; exact cn d,q.ax⟩
   ·cases h
  ·cases h
 ·split at h
  ·rename_i ks v rZ d
   split at h
   ·rename_i hc
    obtain⟨rfl,rfl,rfl,rfl⟩:=hc;cases h;obtain⟨B,q⟩:=K.obj _ _ d;refine⟨rfl,fun c hr=>?_⟩;simp only[ae]at hr;simp only[fF,ae,qk,nE,G.iV,aZ];obtain⟨A,N,F⟩:=hr;refine⟨A,q.cf,fun _=>?_⟩;rw[K.fe.ad _ B];exact F ⟨_,by rw[K.hH]; exact cn d,q.ax⟩
   ·cases h
  ·cases h
 ·split at h
  ·rename_i rZ hr
   cases h;exact⟨rfl,fun c hc=>fD K.fe.cQ (.listF _ rZ) rfl (RB hr hc)⟩
  ·split at h
   ·split at h
    ·rename_i d
     split at h
     ·rename_i hc
      obtain⟨rfl,rfl,rfl,hs,I⟩:=hc;simp only[bQ,cr]at h;obtain⟨A,rfl⟩:=h;have hs:=Kd.lY hs;subst hs;exact⟨rfl,fun c hr=>ac7 K d I (lk A) hr⟩
     ·cases h
    ·cases h
   ·cases h
 ·split at h
  ·rename_i U V1 rZ cl d
   split at h
   ·rename_i hc
    subst hc;cases h;obtain⟨B,q⟩:=K.obj _ _ d;have M:=q.flat (fun _ _ _ h=>by cases h);refine⟨rfl,fun c hr=>?_⟩;simp only[ae]at hr;simp only[fF,ae];obtain⟨A,N,F⟩:=hr;refine⟨A,by have:=q.cf; rwa [M]at this,fun _=>?_⟩;rw[K.fe.ad _ B];exact F ⟨_,by rw[K.hH]; exact cn d,q.ax⟩
   ·cases h
  ·rename_i l1 U Y rZ cl d
   split at h
   ·rename_i hc
    subst hc;cases h;obtain⟨B,q⟩:=K.obj _ _ d;have M:=q.flat (fun _ _ _ h=>by cases h);refine⟨rfl,fun c hr=>?_⟩;simp only[ae]at hr;simp only[fF,ae];obtain⟨A,N,F⟩:=hr;refine⟨A,by have:=q.cf; rwa [M]at this,fun _=>?_⟩;rw[K.fe.ad _ B];exact F ⟨_,by rw[K.hH]; exact cn d,q.ax⟩
   ·cases h
  ·cases h
 ·cases h; exact⟨rfl,fun c hr=>by simp only[ae]at hr; subst hr; simp[fF,ae,G.iV]⟩
 ·split at h
  ·rename_i hc
   obtain⟨rfl,hc⟩:=hc;cases h;refine⟨rfl,fun c hr=>?_⟩;simp only[ae]at hr;simp only[fF,ae];obtain⟨cs,r1,r2⟩:=hr;exact⟨cs,r1,RP K hc _ r2⟩
  ·cases h
 ·cases h; exact⟨rfl,fun c hr=>by simpa only[fF,ae]using hr⟩
 ·cases h
theorem Lk(K:kQ H e fz lens E E0):∀{d:List fw} {as:List AV} {g:LG},iX H e fz d as=some (true,g)->∀(rest:LG),
  g.length=qE d/\as.length=d.length/\(ly lens d (g++rest)).length=d.length /\
   (∀cs,aq E as cs->aq E0 (ly lens d (g++rest)) cs)/\∀b o,E0.w.heap[b]?=E.w.heap[b]?->dL E as b o->dL E0 (ly lens d (g++rest)) b o
 |[],[],g,h,rest=>by
  simp only[iX,bQ,cr]at h;obtain⟨_,rfl⟩:=h;refine⟨rfl,rfl,rfl,fun cs hr=>?_,fun b o _ hr=>by simp[ly,dL]⟩;cases cs with
  |nil=>simp[ly,aq]
  |cons _ _=>simp[aq]at hr
 |sh::d,a::as,g,h,rest=>by
  simp only[iX]at h;split at h
  ·rename_i b A M q B F
   simp only[bQ,cr,aR]at h;obtain⟨⟨rfl,rfl⟩,rfl⟩:=h;obtain⟨p1,N⟩:=RQ K B (q++rest);obtain⟨I,J,O,U,W⟩:=Lk K F rest;have Y:eo sh.sz (A++(q++rest))=q++rest:=by rw[<-p1]; exact qF A _
   refine⟨by simp only[qE,eL,p1,I],by simp only[cJ,J],?_,?_,?_⟩
   grind[ly]
   ·intro cs hr
    cases cs with
    |nil=>simp[aq]at hr
    |cons c cs=>
     grind[aq,ly]
   grind[dL,ly,World.xY]
  ·cases h
 |[],_::_,_,h,_=>by simp[iX]at h
 |_::_,[],_,h,_=>by simp[iX]at h
theorem RR(K:kQ H e fz lens E E0){sh:Sh}(h:od H e fz sh a=some (true,g))(rest:LG):
  g.length=sh.sz/\∀c,ae E a c->ae E0 (lz lens sh (g++rest)) c:=by
 cases sh with
 |s A=>exact RQ K h rest
 |clo f caps=>
  cases a<;>simp only[od]at h<;>try cases h
  rename_i B F;split at h
  ·rename_i d
   subst d;obtain⟨q,I,J,M,N⟩:=Lk K h rest;refine⟨q,fun c hr=>?_⟩
   grind[ae,lz]
  ·cases h
theorem wu(K:kQ H e fz lens E E0):∀{d:List Sh} {as:List AV} {g:LG},gv H e fz d as=some (true,g)->∀(rest:LG),
  g.length=Li d/\as.length=d.length/\(dS lens d (g++rest)).length=d.length/\(∀cs,aq E as cs->aq E0 (dS lens d (g++rest)) cs)
 |[],[],g,h,rest=>by
  simp only[gv,bQ,cr]at h;obtain⟨_,rfl⟩:=h;refine⟨rfl,rfl,rfl,fun cs hr=>?_⟩;cases cs with
  |nil=>simp[dS,aq]
  |cons _ _=>simp[aq]at hr
 |sh::d,a::as,g,h,rest=>by
  simp only[gv]at h;split at h
  ·rename_i b A W q F I
   simp only[bQ,cr,aR]at h;obtain⟨⟨rfl,rfl⟩,rfl⟩:=h;obtain⟨p1,J⟩:=RR K F (q++rest);obtain⟨M,N,O,U⟩:=wu K I rest;have B:eo sh.sz (A++(q++rest))=q++rest:=by rw[<-p1]; exact qF A _
   refine⟨by simp only[Li,eL,p1,M],by simp only[cJ,N],by simp only[dS,pg,B,cJ,O],?_⟩;intro cs hr;cases cs with
   |nil=>simp[aq]at hr
   |cons c cs=>
    simp only[aq]at hr;simp only[dS,pg,B,aq];exact⟨J c hr.1,U cs hr.2⟩
  ·cases h
 |[],_::_,_,h,_=>by simp[gv]at h
 |_::_,[],_,h,_=>by simp[gv]at h
theorem RS(K:kQ H e fz lens E E0):∀{d:List Sh} {as:List AV} {g:LG},gv H e fz d as=some (true,g)->∀{rest:LG} {k:Nat} {x v:AV} {c:al},
  as[k]?=some x->(dS lens d (g++rest))[k]?=some v->ae E x c->ae E0 v c
 |[],[],_,_,_,_,_,_,_,q,_,_=>by simp at q
 |sh::d,a::as,g,h,rest,k,x,v,c,q,B,hr=>by
  simp only[gv]at h;split at h
  ·rename_i b F N A I J
   simp only[bQ,cr,aR]at h;obtain⟨⟨rfl,rfl⟩,rfl⟩:=h;obtain⟨p1,O⟩:=RR K I (A++rest);have M:eo sh.sz (F++(A++rest))=A++rest:=by rw[<-p1]; exact qF F _
   simp only[dS,pg,M]at B;cases k with
   |zero=>
    grind
   |succ k=>exact RS K J (by simpa using q) (by simpa using B) hr
  ·cases h
 |[],_::_,_,h,_,_,_,_,_,_,_,_=>by simp[gv]at h
 |_::_,[],_,h,_,_,_,_,_,_,_,_=>by simp[gv]at h
theorem Ll(K:kQ H e fz lens E E0)(h:kP H e fz sh o=some (true,g))(rest:LG)
  {j:Nat} (hj:j<e.aB.length) (hlab:∀l,sh.mD=some l->E0.X.r l=E.X.r l) (I:bK E (e.at j) o.au):bK E0 j (gM lens sh (g++rest)).au:=by
 have J:∀b:Nat,E0.w.heap[b]?=E.w.heap[b]?:=fun b=>by rw[K.fe.w]
 have M:=K.fe.ad j hj;unfold kP at h;split at h
 ·split at h
  ·rename_i hs
   cases h;have hs:=Kd.lY hs;subst hs;simp only[gM,aG.au,bK]at I|-;rcases I with⟨d,A⟩|⟨b,m,d,A,F,h4,h5⟩
   ·exact .inl ⟨by rw[M,d],A⟩
   ·exact .inr ⟨b,m,by rw[M,d],x4 (J b) A,F,h4,pk K.fe.cQ _ h4 (J b) h5⟩
  ·cases h
 ·rename_i shs cells
  obtain⟨q1,q2,q3,q5,q6⟩:=Lk K h rest;simp only[gM,aG.au,bK]at I|-;obtain⟨b,n,d,A,F⟩:=I;exact⟨b,n,by rw[M,d],by rw[q3,<-q2]; exact x4 (J b) A,q6 b 0 (J b) F⟩
 ·split at h
  ·rename_i hs
   cases h;simp only[aR]at hs;have d:=Ct.vT hs.1;have A:=Ct.vT hs.2;subst d;subst A;simp only[gM,aG.au,bK]at I|-;obtain⟨b,n,N,d,A,F⟩:=I;refine⟨b,n,N,by rw[M,d],?_,pG K.fe.cQ F⟩;rw[J b];simpa[G.iV]using A
  ·cases h
 ·rename_i l T B l' T' B' s
  split at h
  ·rename_i hs
   cases h;simp only[aR]at hs;obtain⟨d,A,F⟩:=hs;have d:=cz d;have A:=cz A;have F:=cz F;subst d A F;simp only[gM,aG.au,bK]at I|-;obtain⟨b,n,p,v,k,q,O,U,W,Y,g5,g6⟩:=I;have hr:=hlab l rfl;exact⟨b,n,p,v,k,q,by rw[M,O],by rw[J b,U],W,by rw[hr,Y],by rw[hr]; exact g5,Jy (fun g m _=>J g) (by simpa[G.sV]using g6)⟩
  ·cases h
 ·rename_i l K0 ks l' K' ks' rZ aL
  split at h
  ·rename_i hs
   cases h;simp only[aR]at hs;obtain⟨d,A,F⟩:=hs;have d:=cz d;have A:=Ct.vT A;have F:=Kd.lY F;subst d A F;simp only[gM,aG.au,bK]at I|-;obtain⟨b,n,N,O,U,W,Y⟩:=I;have hr:=hlab l rfl;refine⟨b,n,N,by rw[M,O],?_,pG K.fe.cQ W,A1 (E:=E) (fun h g m hk=>⟨by rw[hr]; exact hk,J g⟩) (fun _ _ _ _ _ b' hb2 hc hr2=>pk K.fe.cQ _ hc hb2 hr2) Y⟩;rw[J b];simpa[G.iV]using U
  ·cases h
 ·cases h
end fe
def cq.up:cq->Nat
 |.vQ _ u=>u
 |_=>0
theorem BO(h:kP H e fz sh o=some (b,g)):
  o.au.bt=some (wo o)/\(gM lens sh d).au.bt=some sh.up/\((∀ks v rZ,o≠.vQ ks v rZ)->sh.up=0):=by
 unfold kP at h;split at h
 ·exact⟨rfl,rfl,fun hn=>(hn _ _ _ rfl).elim⟩
 ·exact⟨rfl,rfl,fun _=>rfl⟩
 ·exact⟨rfl,rfl,fun _=>rfl⟩
 ·exact⟨rfl,rfl,fun _=>rfl⟩
 ·exact⟨rfl,rfl,fun _=>rfl⟩
 ·cases h
theorem ac_{sh:fw}(h:ju H e fz sh a=some (b,g)):g.length=sh.sz:=by
 unfold ju at h;split at h<;>(try split at h)<;>(try split at h)<;>(try split at h)<;>(try split at h)<;>first
  |(cases h; rfl)
  |cases h
theorem RT{H:List aG}{e:cW}{fz:Nat->Bool}:∀{d:List fw} {as:List AV} {b:Bool} {g:LG},iX H e fz d as=some (b,g)->g.length=qE d
 |[],[],_,g,h=>by simp[iX]at h; simp[<-h.2,qE]
 |sh::d,a::as,b,g,h=>by
  simp only[iX]at h;split at h
  ·rename_i b B F I q A
   simp only[bQ,cr]at h;obtain⟨_,rfl⟩:=h;simp only[qE,eL,ac_ q,RT A]
  ·cases h
 |[],_::_,_,_,h|_::_,[],_,_,h=>by simp[iX]at h
theorem ac'(h:kP H e fz sh o=some (b,g)):g.length=sh.sz:=by
 unfold kP at h;split at h
 ·split at h
  ·cases h; rfl
  ·cases h
 ·exact RT h
 ·split at h
  ·cases h; rfl
  ·cases h
 ·split at h
  ·cases h; rfl
  ·cases h
 ·split at h
  ·cases h; rfl
  ·cases h
 ·cases h
theorem wv{H:List aG}{e:cW}{fz:Nat->Bool}:∀{os:List cq} {aB:List Nat} {g:LG},lB H e fz os aB=some (true,g)->∀(rest:LG) (lens:eM),
  g.length=oa os/\aB.length=os.length/\(cX lens os (g++rest)).length=os.length /\
  (∀ (j:Nat) (sh:cq),os[j]?=some sh->∃i o A I,aB[j]?=some i/\H[i]?=some o/\kP H e fz sh o=some (true,A)/\(cX lens os (g++rest))[j]?=some (gM lens sh (A++I)) /\
   (cd os (g++rest)).ax j=sh.up/\∀ks v rZ,o=.vQ ks v rZ->(cd os (g++rest)).len j=rZ.length)
 |[],[],g,h,rest,lens=>by
  simp only[lB,bQ,cr]at h;obtain⟨_,rfl⟩:=h;exact⟨rfl,rfl,rfl,fun j sh B=>by simp at B⟩
 |sh::os,i::aB,g,h,rest,lens=>by
  simp only[lB]at h;split at h
  case h_2=>cases h
  rename_i o U;split at h
  ·rename_i b A b' J q W
   simp only[bQ,cr,aR]at h;obtain⟨⟨rfl,rfl⟩,rfl⟩:=h;obtain⟨Y,q1,q2,q3⟩:=wv W rest lens;have M:=ac' q;have F:eo sh.sz (A++(J++rest))=J++rest:=by rw[<-M]; exact qF A _
   refine⟨by simp only[oa,eL,M,Y],by simp only[cJ,q1],by simp only[cX,pg,F,cJ,q2],fun j N B=>?_⟩;cases j with
   |zero=>
    simp at B;subst B;refine⟨i,o,A,J++rest,rfl,U,q,by simp only[cX,pg,List.getElem?_cons_zero],?_,?_⟩
    ·unfold cd eM.ax
     cases sh<;>rfl
    ·rintro ks v rZ rfl
     unfold kP at q;split at q
     ·rename_i d
      cases d;split at q
      ·cases q
       simp[cd,eM.len,G.rZ]
      ·cases q
     ·rename_i d; cases d
     ·rename_i d; cases d
     ·rename_i d; cases d
     ·rename_i d; cases d
     ·cases q
   |succ j=>
    obtain⟨i',o',O,I,r1,r2,r3,r4,r5,r6⟩:=q3 j N (by simpa using B);refine⟨i',o',O,I,by simpa using r1,r2,r3,by simpa only[cX,pg,F,aaa]using r4,?_,?_⟩
    ·simpa only[cd,eM.ax,pg,F,aab]using r5
    ·simpa only[cd,eM.len,pg,F,aab]using r6
  ·cases h
 |[],_::_,_,h,_,_=>by simp[lB]at h
 |_::_,[],_,h,_,_=>by simp[lB]at h
abbrev BP(a b:Bool):Bool:=Bool.casesOn a false b
theorem BQ{a:Bool}:BP a b=true↔a=true/\b=true:=by cases a<;>simp
open Classical in
noncomputable def qG(E:af)(H0:List ay)(l:Nat):List (Option (Option (Nat × Nat))):=if ∃(j:Nat) (o:ay),H0[j]?=some o/\o.label=some l then E.X.r l else (E.X.r l).map fun _=>none
theorem ada{H0:List ay}{j:Nat}{o:ay}(h:H0[j]?=some o)(d:o.label=some l):qG E H0 l=E.X.r l:=iP ⟨j,o,h,d⟩
theorem FG{H0:List ay}{h:Nat}{q:Option (Nat × Nat)}(d:(qG E H0 l)[h]?=some (some q)):(E.X.r l)[h]?=some (some q)/\∃(j:Nat) (o:ay),H0[j]?=some o/\o.label=some l:=by
 unfold qG at d;split at d
 ·rename_i A
  exact⟨d,A⟩
 ·rw[dw]at d
  cases g:(E.X.r l)[h]? with
  |none=>rw[g]at d; cases d
  |some y=>rw[g]at d; cases d
theorem adb(E:af)(H0:List ay)(l:Nat):(qG E H0 l).length=(E.X.r l).length:=by
 unfold qG;split
 ·rfl
 ·simp
noncomputable def lD(E:af)(H0:List ay)(aB:List Nat):af:=⟨E.w,H0,aB.map fun i=>E.ad.getD i none,E.X.re (qG E H0)⟩
theorem Lm(E:af)(H0:List ay)(aB:List Nat):∀l h,h<(E.X.r l).length->h<((lD E H0 aB).X.r l).length/\∀q,((lD E H0 aB).X.r l)[h]?=some (some q)->(E.X.r l)[h]?=some (some q):=
 fun l h d=>⟨by show h<(qG E H0 l).length; rw[adb]; exact d,fun q g=>(FG (E:=E) (H0:=H0) g).1⟩
theorem Ln{H0:List ay}{b:Nat}(h:(lD E H0 aB).bC b):E.bC b:=by
 rcases h with⟨j,c,d⟩|⟨l,k,c,d⟩
 ·simp only[lD,dw]at d
  obtain⟨i,_,g⟩:=jA.1 d;rw[dj]at g;cases he:E.ad[i]? with
  |none=>grind
  |some y=>rw[he]at g; simp at g; exact .inl ⟨i,c,by rw[he,g]⟩
 ·exact .inr ⟨l,k,c,(FG d).1⟩
def jG(aB:List Nat)(i:Nat):Bool := !aB.any (aA i)
theorem Lo{i:Nat}(h:jG aB i=true):i∉aB:=by
 intro hm;have:aB.any (aA i)=true:=qo.2 ⟨i,hm,ai⟩;simp[jG,this]at h
theorem Lp(hH:E.H=aF H)(HE:aO E)(hn:aB.Nodup)(h:lB H (bX H aB) (jG aB) os aB=some (true,g))(rest:LG):
  kQ H (bX H aB) (jG aB) (cd os (g++rest)) E (lD E (aF (cX (cd os (g++rest)) os (g++rest))) aB) /\
   aO (lD E (aF (cX (cd os (g++rest)) os (g++rest))) aB):=by
 obtain⟨p0,p1,p2,p3⟩:=wv h rest (cd os (g++rest));generalize J:lD E (aF (cX (cd os (g++rest)) os (g++rest))) aB=E0;have hElen:E.ad.length=H.length:=by rw[HE.len,hH,fX]
 have eids:(bX H aB).aB=aB:=rfl;have hloc:∀j x,E0.ad[j]?=some x->j<aB.length/\∃i,aB[j]?=some i/\E.ad.getD i none=x:=by
  intro j x I;rw[<-J]at I;simp only[lD,dw]at I;obtain⟨i,B,F⟩:=jA.1 I;exact⟨bA B,i,B,F⟩
 have getD_some:∀{i:Nat} {x:Nat × Nat},E.ad.getD i none=some x->E.ad[i]?=some (some x):=by
  intro i x I;rw[dj]at I;cases he:E.ad[i]? with
  |none=>rw[he]at I; cases I
  |some y=>rw[he]at I; simp at I; rw[I]
 have hown:∀b,E0.bC b->E.bC b:=by
  rintro b (⟨j,c,A⟩|⟨l,k,c,A⟩)
  ·obtain⟨_,i,_,F⟩:=hloc j _ A
   exact .inl ⟨i,c,getD_some F⟩
  ·rw[<- J]at A
   exact .inr ⟨l,k,c,(FG A).1⟩
 have hw:E0.w=E.w:=by rw[<-J]; rfl
 have hX:E0.X.x=E.X.x:=by rw[<-J]; rfl
 have hsome:∀(l k:Nat) q,(E0.X.r l)[k]?=some (some q)->(E.X.r l)[k]?=some (some q)/\∃(j:Nat) (o:ay),E0.H[j]?=some o/\o.label=some l:=fun l k q hq=>by
  rw[<-J]at hq|-;exact FG hq
 have hatl:∀j,j<aB.length->aB[j]?=some ((bX H aB).at j):=fun j A=>jV (e:=bX H aB) A;have hobjs:∀j,j<aB.length->∃sh o O N,os[j]?=some sh/\H[(bX H aB).at j]?=some o/\kP H (bX H aB) (jG aB) sh o=some (true,O) /\
   (cX (cd os (g++rest)) os (g++rest))[j]?=some (gM (cd os (g++rest)) sh (O++N)) /\
   (cd os (g++rest)).ax j=sh.up/\∀ks v rZ,o=.vQ ks v rZ->(cd os (g++rest)).len j=rZ.length:=by
  intro j A;have hj':j<os.length:=ab;obtain⟨i,o,O,N,q1,U,q3,W,q5,q6⟩:=p3 j os[j] (bT hj');rw[hatl j A]at q1;cases q1;exact⟨os[j],o,O,N,bT hj',U,q3,W,q5,q6⟩
 have hK:kQ H (bX H aB) (jG aB) (cd os (g++rest)) E E0:=by
  refine⟨hH,HE,fun i hi b n Y=>?_,⟨fun b Y=>⟨⟨by rw[hw]; exact Y.1,fun M=>Y.2.1 (hown b M),by rw[hX]; exact Y.2.2⟩,by rw[hw]⟩,hw,fun j A=>?_,fun j o l B F=>by rw[<-J]at B|-; exact ada B F⟩,fun j o M=>?_⟩
  ·refine⟨by rw[hw]; exact (HE.lt _ _ _ Y).1,?_,by rw[hX]; exact (HE.lt _ _ _ Y).2⟩
   rintro(⟨j,c,A⟩|⟨l,k,c,A⟩)
   case inr=>exact HE.eY _ _ _ _ _ _ Y (hsome l k _ A).1
   obtain⟨_,i',B,F⟩:=hloc j _ A;have:=HE.inj _ _ _ _ _ Y (getD_some F);subst this;exact Lo hi (jj B)
  ·rw[<- J]
   simp only[lD,dw,hatl j A,jl];have hlt:(bX H aB).at j<E.ad.length:=by
    obtain⟨sh,o,O,N,_,U,_⟩:=hobjs j A;rw[hElen];exact bA U
   rw[dj,bT hlt];rfl
  ·have A:j<aB.length:=by
    rcases mh j aB.length with hlt|hge
    ·exact hlt
    ·have B:=bA M
     have F:=wg (e:=bX H aB) hge;have h3:(bX H aB).bg=H.length:=rfl;omega
   refine⟨A,?_⟩;obtain⟨sh,o',O,N,q1,U,q3,W,q5,q6⟩:=hobjs j A;rw[M]at U;cases U;obtain⟨r1,r2,r3⟩:=BO (lens:=cd os (g++rest)) (d:=O++N) q3;refine⟨r1,⟨_,?_,by rw[q5]; exact r2⟩,q6,fun hv=>by rw[q5]; exact r3 hv⟩;rw[<-J];exact cn W
 have hlabs:∀(j:Nat) o,E0.H[j]?=some o->j<aB.length/\∃o',E.H[(bX H aB).at j]?=some o'/\o'.label=o.label:=fun j o M=>by
  rw[<-J]at M;simp only[lD,aF,dw]at M;obtain⟨o',B,rfl⟩:=jA.1 M;have A:j<aB.length:=by
   have:=bA B;omega
  obtain⟨sh,oo,O,N,q1,U,q3,W,_⟩:=hobjs j A;rw[B]at W;cases W;exact⟨A,oo.au,by rw[hH]; exact cn U,by rw[Lj q3,ue]⟩
 refine⟨hK,?_,?_,?_,fun b I=>?_,fun j o M=>?_,HE.iD.cQ hK.fe.cQ,fun l k l' k' b m n B F=>HE.iE l k l' k' b m n (hsome _ _ _ B).1 (hsome _ _ _ F).1,fun i b m l k n hi F=>?_,fun l k b m B=>by rw[hw,hX]; exact HE.dP l k b m (hsome _ _ _ B).1,fun i j o o' l hi A B F=>?_,fun l hn k q hq=>?_⟩
 ·rw[<- J]
  simp only[lD,bL,fX,p2,p1]
 ·intro i j b m n hi A
  obtain⟨i1,i2,i3,i4⟩:=hloc i _ hi;obtain⟨j1,j2,j3,j4⟩:=hloc j _ A;have:=HE.inj _ _ _ _ _ (getD_some i4) (getD_some j4);subst this;exact(Pl i1 hn).1 (by rw[i3,j3])
 ·intro i b m hi
  obtain⟨_,i2,_,i4⟩:=hloc i _ hi;rw[hw,hX];exact HE.lt _ _ _ (getD_some i4)
 ·rw[hw]
  rw[hX]at I;exact HE.X b I
 ·rw[<- J]at M
  simp only[lD,aF,dw]at M;obtain⟨o',B,rfl⟩:=jA.1 M;have A:j<aB.length:=by
   have:=bA B;omega
  obtain⟨sh,oo,O,N,q1,U,q3,W,q5,q6⟩:=hobjs j A;rw[B]at W;cases W;refine Ll hK q3 N (by exact A) (fun l hl=>?_) (HE.obj _ _ (by rw[hH]; exact cn U));refine hK.fe.mD j (gM (cd os (g++rest)) sh (O++N)).au l ?_ (by rw[ue,hl]);rw[<-J];exact cn B
 ·obtain⟨_,i',_,h3⟩:=hloc i _ hi
  exact HE.eY _ _ _ _ _ _ (getD_some h3) (hsome _ _ _ F).1
 ·obtain⟨i1,oi,a1,a2⟩:=hlabs i o hi
  obtain⟨j1,oj,b1,b2⟩:=hlabs j o' A;have:=HE.uniq _ _ _ _ l a1 b1 (by rw[a2,B]) (by rw[b2,F]);exact(Pl i1 hn).1 (by rw[hatl i i1,hatl j j1,this])
 ·obtain⟨_,j,o,B,F⟩:=hsome l k q hq
  exact hn j o B F
def nodupB:List Nat->Bool
 |[]=>true
 |i::d => !d.any (aA i)&&nodupB d
theorem uf:∀{l:List Nat},nodupB l=true->l.Nodup
 |[],_=>List.nodup_nil
 |i::d,h=>by
  simp only[nodupB,aR,nD]at h;refine mn.2 ⟨fun hm=>?_,uf h.2⟩;have:d.any (aA i)=true:=qo.2 ⟨i,hm,ai⟩;rw[h.1]at this;cases this
def qH(H:List aG):Nat->Nat->List Nat->List cq->Bool
 |_,0,_,_=>true
 |i,m+1,id::aB,o::os=>aA id i&&((aA (wq H i) 0 || !aA o.up 0)&&qH H (i+1) m aB os)
 |_,_,_,_=>false
theorem BR{H:List aG}:∀{i m:Nat} {aB:List Nat} {os:List cq},qH H i m aB os=true->∀ j,j<m->aB[j]? = some (i+j)/\∃ o,os[j]? = some o/\(wq H (i+j)=0\/o.up≠0)
 |_,0,_,_,_,j,q=>by omega
 |i,m+1,id::aB,o::os,h,j,q=>by
  simp only[qH,aR,Bool.or_eq_true,nD]at h;obtain⟨d,g,A⟩:=h;have d:=cz d;subst d;cases j with
  |zero=>
   refine⟨rfl,o,rfl,?_⟩;rcases g with g|g
   simp_all
   ·right
    intro e
    simp_all
  |succ j=>
   have:=BR A j ab
   grind
 |_,_+1,[],_,h,_,_=>by simp[qH]at h
 |_,_+1,_::_,[],h,_,_=>by simp[qH]at h
theorem Lq(hH:E.H=aF H){E0:af}(I:kQ H (bX H aB) (jG aB) lens E E0)(U:E0.X.x=E.X.x/\E0.X.z=E.X.z)
  (hrl:∀l h,h<(E.X.r l).length->h<(E0.X.r l).length/\∀q,(E0.X.r l)[h]?=some (some q)->(E.X.r l)[h]?=some (some q))
  (aV:qH H 0 m aB os=true) (hobj:∀j,j<m->∃o sh,H[(bX H aB).at j]?=some o/\os[j]?=some sh/\lens.ax j=sh.up) (hown:∀b,E0.bC b->E.bC b):E.dO m E0:=by
 have key:∀id,id<m->(bX H aB).at id=id/\∃o sh,H[id]?=some o/\os[id]?=some sh/\lens.ax id=sh.up/\(wo o=0\/sh.up≠0)/\FF E0 lens id o/\id<aB.length:=by
  intro id A;obtain⟨O,o',W,B⟩:=BR aV id A;rw[fC]at O B;have M:=bA O;have d:=jV (e:=bX H aB) (j:=id) M;rw[show (bX H aB).aB=aB from rfl,O]at d;have d:=(th d).symm;obtain⟨o,sh,g,F,J⟩:=hobj id A;obtain⟨r1,r2⟩:=I.obj id o g;rw[d]at g;rw[W]at F;have F:=th F;rw[<-F]at J;refine⟨d,o,o',g,W,J,?_,r2,M⟩;rcases B with B|B
  ·left
   simpa[wq,g]using B
  ·exact .inr B
 refine⟨fun id A hp=>?_,by rw[I.fe.w]; exact bl _,fun b _ _=>by rw[I.fe.w],fun b _ hb ho=>hb (hown b ho),fun id A hp hl=>?_,fun b _=>by rw[U.1,U.2]; exact⟨Iff.rfl,Iff.rfl⟩,hrl,by rw[I.fe.w]; exact⟨rfl,rfl,rfl,by first|exact fun _=>bl _|exact fun _=>gk _ _⟩⟩
 ·obtain⟨_,o,sh,g,F,J,Y,N,_⟩:=key id A
  obtain⟨o0,r1,r2⟩:=N.obj;exact⟨o0,r1,fun v _=>lj v⟩
 ·obtain⟨d,o,sh,g,F,J,Y,N,M⟩:=key id A
  obtain⟨o0,r1,r2⟩:=N.obj;obtain⟨o1,r3,r4⟩:=hl;rw[r1]at r3;cases r3;rw[r2]at r4;have hz:lens.ax id=0:=th r4;rw[J]at hz;have hv:wo o=0:=Y.resolve_right (fun h=>h hz);refine⟨⟨o.au,by rw[hH]; exact cn g,by rw[N.ax,hv]⟩,?_⟩;have:=I.fe.ad id M;rw[d]at this;exact this
structure nk where
 n:Nat
 BS:List (Nat × Sh)
 bj:List cq
def yG:Nat->List (Nat × Sh)->List AV->AV
 |i,(j,_)::ss,v::d=>match aA i j with
  |true=>v
  |false=>yG i ss d
 |_,_,_=>.undef
def aX(S:nk)(d:LG):aH:=
 ⟨(jh S.n).map fun i=>yG i S.BS (dS (cd S.bj d) (S.BS.map (·.2)) (eo (oa S.bj) d)),cX (cd S.bj d) S.bj d⟩
def Lr(m:Nat)(S:nk)(aB:List Nat)(s:aH):Option (Bool × LG):=
 match aA s.fr.length S.n&&(nodupB aB&&qH s.H 0 m aB S.bj)with
 |false=>none
 |true=>match lB s.H (bX s.H aB) (jG aB) S.bj aB,gv s.H (bX s.H aB) (jG aB) (S.BS.map (·.2)) (S.BS.map fun p=>s.fr.getD p.1 .undef) with
  |some (b,g),some (d,q)=>some (b&&d,g++q)
  |_,_=>none
theorem RU{E:af}:∀{ss:List (Nat × Sh)} {d:List AV} {cs:List al} {i:Nat} {c:al},(∀(k:Nat) (p:Nat × Sh) (v:AV),ss[k]?=some p->d[k]?=some v->∀c,cs[p.1]?=some c->ae E v c)->cs[i]?=some c ->
  ae E (yG i ss d) c
 |[],_,_,_,_,_,_=>by simp[yG,ae]
 |_::_,[],_,_,_,_,_=>by simp[yG,ae]
 |(j,sh)::ss,v::d,cs,i,c,h,hc=>by
  simp only[yG];split
  ·rename_i e
   have e:=cz e;subst e;exact h 0 (i,sh) v rfl rfl c hc
  ·exact RU (fun k p v g q=>h (k+1) p v (by simpa using g) (by simpa using q)) hc
theorem ade{S:nk}(h:Lr m S aB s=some (true,d)):cV m s.au (aX S d).au:=fun E a hs=>by
 unfold Lr at h;split at h
 ·cases h
 rename_i hc;simp only[aR]at hc;obtain⟨I,A,aV⟩:=hc;have I:=cz I;have A:=uf A;split at h
 case h_2=>cases h
 rename_i b g b' q N O;simp only[bQ,cr,aR]at h;obtain⟨⟨rfl,rfl⟩,rfl⟩:=h;have hH:E.H=aF s.H:=hs.H;obtain⟨F,W⟩:=Lp hH hs.heap A N q;obtain⟨p0,p1,p2,p3⟩:=wv N q (cd S.bj (g++q));have hd:eo (oa S.bj) (g++q)=q:=by rw[<-p0]; exact qF g q
 have U:=wu F O [];rw[kL]at U;obtain⟨q1,q2,q3,q4⟩:=U;refine⟨aB.map fun i=>E.ad.getD i none,E.X.re (qG E (aX S (g++q)).au.H),⟨rfl,?_,hs.defers,W⟩,?_⟩
 ·have Y:aq E s.fr a.tmps.toList:=hs.fr
  obtain⟨f1,f2⟩:=rL.1 Y;refine rL.2 ⟨?_,fun i x c hi hc=>?_⟩
  ·simp only[aH.au,aX,bL,List.length_range]
   omega
  ·simp only[aH.au,aX,hd,dw]at hi
   obtain⟨i',B,rfl⟩:=jA.1 hi;have hin:i<S.n:=by
    have:=bA B;simpa using this
   rw[List.getElem?_range hin]at B;cases B;refine RU (cs:=a.tmps.toList) (fun k p v hk hv c hc=>?_) hc;have hk2:(S.BS.map fun p=>s.fr.getD p.1 .undef)[k]?=some (s.fr.getD p.1 .undef):=by simp[hk]
   have hx:ae E (s.fr.getD p.1 .undef) c:=by
    have J:=bA hc;rw[<-f1]at J;have e1:s.fr[p.1]?=some (s.fr.getD p.1 .undef):=by
     rw[dj,bT J];rfl
    exact f2 p.1 _ c e1 hc
   exact RS F O hk2 (by rw[kL]; exact hv) hx
 ·exact Lq hH F ⟨rfl,rfl⟩ (Lm E _ aB) aV (fun j hj=>by
   obtain⟨r1,o',r2,_⟩:=BR aV j hj;obtain⟨i,o,g1,rest1,t1,t2,t3,t4,t5,t6⟩:=p3 j o' r2;have M:=jV (e:=bX s.H aB) (j:=j) (bA t1);rw[show (bX s.H aB).aB=aB from rfl,t1]at M;cases M;exact⟨o,o',t2,r2,t5⟩) (fun b=>Ln)
def Ls(aU:Nat)(s:aH):aH:=
 match s.fr.getD aU .undef with
 |.vQ w id ax oF n=>match s.H[id]? with
  |some (.vQ ks v rZ)=>if ax=v/\oF=0/\w=ks.length then ⟨s.fr.set aU (.vQ w id (v+1) 0 n),s.H.set id (.vQ ks (v+1) (rZ.take n))⟩ else s
  |_=>s
 |_=>s
theorem FH{E:af}{a:AV}:∀{fr:List AV} {cs:List al} {i:Nat},aq E fr cs->(∀ c,cs[i]? = some c->ae E a c)->aq E (fr.set i a) cs
 |[],cs,i,h,_=>by simpa using h
 |x::fr,[],i,h,_=>by simp[aq]at h
 |x::fr,c::cs,0,h,d=>by
  simp only[aq]at h;simp only[List.set_cons_zero,aq];exact⟨d c rfl,h.2⟩
 |x::fr,c::cs,i+1,h,d=>by
  simp only[aq]at h;simp only[List.set_cons_succ,aq];exact⟨h.1,FH h.2 fun y g=>d y (by simpa using g)⟩
theorem Lt{fr:List AV}{cs:List al}{i:Nat}(h:aq E fr cs)(hc:cs[i]?=some c):ae E (fr.getD i .undef) c:=by
 obtain⟨d,g⟩:=rL.1 h
 grind
theorem adf:cV m s.au (Ls aU s).au:=by
 unfold Ls;split
 case h_2=>exact cV.refl _
 rename_i w id ax oF n hsl;split
 case h_2=>exact cV.refl _
 rename_i ks v rZ hid;split
 case isFalse=>exact cV.refl _
 rename_i hc;obtain⟨rfl,rfl,rfl⟩:=hc;intro E a hs;have hH:E.H=aF s.H:=hs.H;have A:E.H[id]?=some (.vQ ks.length ax (rZ.map (bh ks))):=by rw[hH]; exact cn hid
 have Y:=hs.heap.obj id _ A;obtain⟨l,F⟩:∃l,E.ad[id]?=some l:=by
  have:id<E.ad.length:=by rw[hs.heap.len]; exact bA A
  exact⟨_,bT this⟩
 have N:E.ad.set id l=E.ad:=qA F;have M:aF (s.H.set id (.vQ ks (ax+1) (rZ.take n)))=E.H.set id (.vQ ks.length (ax+1) ((rZ.take n).map (bh ks))):=by rw[gn,hH]; rfl
 have hlc:∀b n,l=some (b,n)->E.w.heap.size<=b\/∃m,E.ad[id]?=some (some (b,m)):=fun b n I=>.inr ⟨n,by rw[F,I]⟩;have O:∀v u,(ay.vQ ks.length (ax+1) ((rZ.take n).map (bh ks))).bt=some v->(ay.vQ ks.length ax (rZ.map (bh ks))).bt=some u->u<=v:=by
  intro v u d q;simp[ay.bt]at d q;omega
 have U:∀v,(ay.vQ ks.length (ax+1) ((rZ.take n).map (bh ks))).bt=some v->∀u,(ay.vQ ks.length ax (rZ.map (bh ks))).bt=some u->u<v:=by
  intro v d u q;simp[ay.bt]at d q;omega
 have B:=af.pq (o':=.vQ ks.length (ax+1) ((rZ.take n).map (bh ks))) (l:=l) (w':=E.w) A hs.heap.len (bl _) (fun _ _ _=>rfl) hlc (.inr U) O (fun h=>by simp[ay.bt]at h);have W:=aO.rN (o':=.vQ ks.length (ax+1) ((rZ.take n).map (bh ks))) (l:=l) (w':=E.w) hs.heap A (bl _) (fun _ _ _=>rfl) (fun b n I=>.inr ⟨n,by rw[F,I]⟩) (.inr U) O (fun h=>by simp[ay.bt]at h) (by
  rw[N]at B|-;simp only[bK]at Y|-;rcases Y with⟨d,q⟩|⟨b,mm,d,q,J,h4,h5⟩
  ·left
   refine⟨d,?_⟩;have:rZ=[]:=by simpa using q
   rw[this];simp
  ·right
   refine⟨b,mm,d,q,by simp at J|-; omega,?_,?_⟩
   ·intro r hr
    obtain⟨g,_,rfl⟩:=cM.1 hr;exact jC ks g
   ·rw[qv]at h5 |-
    intro i r hi;simp only[dw,ta]at hi;split at hi
    ·obtain⟨g1,g2⟩:=h5 i r (by simpa using hi)
     exact⟨g1,A2 (fun a c hr=>dW B a hr) rfl g2⟩
    ·simp at hi)
 rw[N]at B W;refine⟨E.ad,E.X,?_,?_⟩
 ·simp only[aH.au]
  rw[M];refine⟨rfl,?_,hs.defers,W⟩;refine FH (gJ B _ hs.fr) fun c hc=>?_;have hr:=Lt hs.fr hc;rw[show s.au.fr=s.fr from rfl,hsl]at hr;simp only[ae]at hr|-;obtain⟨d,q,J⟩:=hr;exact⟨d,⟨.vQ ks.length (ax+1) ((rZ.take n).map (bh ks)),dN (bA A),fun v hv=>by simp[ay.bt]at hv; omega⟩,fun _=>J ⟨_,A,rfl⟩⟩
 ·simp only[aH.au]
  rw[M];exact B.toM
def bB.leaf{β:Type}(f:cu->aH->Option (Bool × β)):bB->Option β
 |.fail=>none
 |.done x s=>match f x s with
  |some (b,r)=>bif b then some r else none
  |none=>none
 |.ask b t e=>bif b then t.leaf f else e.leaf f
 |.side b t=>bif b then t.leaf f else none
theorem kR{β:Type}{f:cu->aH->Option (Bool × β)}:∀{t:bB} {r:β},t.leaf f=some r->t.holds fun x s=>f x s=some (true,r)
 |.fail,_,h=>by cases h
 |.done x s,r,h=>by
  simp only[bB.leaf]at h;split at h
  ·rename_i b g d
   cases b with
   |true=>cases h; exact d
   |false=>cases h
  ·cases h
 |.ask b t e,r,h=>by
  cases b with
  |true=>exact⟨fun _=>kR (t:=t) h,fun h=>by cases h⟩
  |false=>exact⟨fun h=>(nomatch h),fun _=>kR (t:=e) h⟩
 |.side b t,r,h=>by
  cases b with
  |true=>exact And.intro rfl (kR (t:=t) h)
  |false=>cases h
inductive eH where
 |fix (i:Nat)
 |aU (i:Nat)
 |cap (i c:Nat)
 |cell (j c:Nat)
 |FI (j c k:Nat)
def FJ:AV->Option Nat
 |.ptr id _ _ _ _=>some id
 |.vQ _ id _ _ _=>some id
 |.map id=>some id
 |_=>none
def FL(H:List aG)(d:Nat->AV)(g:List Nat):eH->Option Nat
 |.fix i=>some i
 |.aU i=>FJ (d i)
 |.cap i c=>match d i with
  |.clo _ cs=>FJ (cs.getD c .undef)
  |_=>none
 |.cell j c=>match H[g.getD j 0]? with
  |some (.raw (.box cells))=>FJ (cells.getD c .undef)
  |_=>none
 |.FI j c k=>match H[g.getD j 0]? with
  |some (.raw (.box cells))=>match cells.getD c .undef with
   |.clo _ cs=>FJ (cs.getD k .undef)
   |_=>none
  |_=>none
def lE(H:List aG)(g:Nat->AV):List eH->List Nat->Option (List Nat)
 |[],d=>some d
 |p::ps,d=>match FL H g d p with
  |some i=>lE H g ps (d++[i])
  |none=>none
structure yH where
 x:cu
 S:nk
 ps:List eH
structure bF where
 key:Nat
 opens:List (Nat × List Kd)
 inv:nk
 ps:List eH
 outs:List yH
 st:LG->bk
def wx(st:LG->bk):Nat->LG->Option (Nat × LG)
 |0,_=>none
 |n+1,d=>match st d with
  |some (none,g)=>wx st n g
  |some (some x,g)=>some (x,g)
  |none=>none
def bR(st:LG->bk)(d:LG):Option (Nat × LG):=wx st 1000000 d
def Lu(r:Option (Nat × LG)):Nat:=match r with
 |some (x,_)=>x
 |none=>0
def Lv(r:Option (Nat × LG)):LG:=match r with
 |some (_,d)=>d
 |none=>[]
def iI(m:Nat)(S:nk)(ps:List eH)(s:aH):Option (Bool × LG):=
 match lE s.H (fun i=>s.fr.getD i .undef) ps []with
 |some aB=>Lr m S aB s
 |none=>none
theorem kS{S:nk}{ps:List eH}(h:iI m S ps s=some (true,d)):cV m s.au (aX S d).au:=by
 unfold iI at h;split at h
 ·exact ade h
 ·cases h
def iu:List (Nat × List Kd)->aH->aH
 |[],s=>s
 |(i,ks)::r,s=>match bW 1000000 i with
  |true=>iu r (Ls (i-1000000) s)
  |false=>match isNil (s.fr.getD i .undef) with
   |true=>iu r (BL i ks s)
   |false=>iu r s
theorem nl{m:Nat}:∀(l:List (Nat × List Kd)) (s:aH),cV m s.au (iu l s).au
 |[],s=>cV.refl _
 |(i,ks)::r,s=>by
  simp only[iu];split
  ·exact adf.trans (nl r _)
  ·split
   ·rename_i h
    exact(Rz h).trans (nl r _)
   ·exact nl r s
def wy(m:Nat):List yH->Nat->cu->aH->Option (Bool × (Option Nat × LG))
 |[],_,_,_=>none
 |o::os,i,x,s=>match decide (x=o.x) with
  |true=>match iI m o.S o.ps s with
   |some (b,d)=>some (b,(some i,d))
   |none=>none
  |false=>wy m os (i+1) x s
def FM(m:Nat)(sp:bF)(x:cu)(s:aH):Option (Bool × (Option Nat × LG)):=
 match x with
 |.normal=>match iI m sp.inv sp.ps s with
  |some (b,d)=>some (b,(none,d))
  |none=>none
 |x=>wy m sp.outs 0 x (iu sp.opens s)
theorem FN{m:Nat}:∀{os:List yH} {i:Nat} {x:cu} {s:aH} {b:Bool} {k:Option Nat} {d:LG},wy m os i x s=some (b,(k,d)) ->
  ∃j o,os[j]?=some o/\k=some (i+j)/\x=o.x/\iI m o.S o.ps s=some (b,d)
 |[],_,_,_,_,_,_,h=>by cases h
 |o::os,i,x,s,b,k,d,h=>by
  simp only[wy]at h;split at h
  ·rename_i g
   split at h
   ·rename_i I J hr
    cases h;exact⟨0,o,rfl,rfl,of_decide_eq_true g,hr⟩
   ·cases h
  ·obtain⟨j,o',q,A,B,F⟩:=FN h
   exact⟨j+1,o',by simpa using q,by rw[A]; congr 1; omega,B,F⟩
section loops
variable {P:ak} {τ:ar} {L:LT} {m:Nat} {c:Code} {sp:bF}
def wz(P:ak)(τ:ar)(L:LT)(m:Nat)(c:Code)(sp:bF):Prop:=∀d,(db P τ L c (aX sp.inv d) .done).leaf (FM m sp)=sp.st d
theorem RV(hm:P.follows .mixedOrders=true)(B:aw P τ)(F:aQ P m L c)(hr:wz P τ L m c sp){q:LG}{k:Option Nat}(h:sp.st d=some (k,q)):
  (k=none/\c_ P m c (aX sp.inv d).au .normal (aX sp.inv q).au) \/
   ∃j o,k=some j/\sp.outs[j]?=some o/\o.x≠.normal/\c_ P m c (aX sp.inv d).au o.x (aX o.S q).au:=by
 rw[<-hr d]at h;obtain⟨x,s1,A,g⟩:=fo hm B c (aX sp.inv d) .done F (Q:=fun x s=>FM m sp x s=some (true,(k,q))) (kR h);have g:FM m sp x s1=some (true,(k,q)):=g;unfold FM at g;split at g
 ·split at g
  ·rename_i b U I
   cases g;exact .inl ⟨rfl,vN A (kS I)⟩
  ·cases g
 ·rename_i J
  obtain⟨j,o,M,N,rfl,O⟩:=FN g;exact .inr ⟨j,o,by simpa using N,M,fun e=>J e,vN A ((nl sp.opens s1).trans (kS O))⟩
theorem RW(hm:P.follows .mixedOrders=true)(q:aw P τ)(A:aQ P m L c)(hr:wz P τ L m c sp):∀(n:Nat) {d B:LG} {x:Nat},wx sp.st n d=some (x,B) ->
  ∃o,sp.outs[x]?=some o/\nU P m c (aX sp.inv d).au o.x (aX o.S B).au
 |0,_,_,_,h=>by cases h
 |n+1,d,B,x,h=>by
  simp only[wx]at h;split at h
  ·rename_i M F
   rcases RV hm q A hr F with⟨_,N⟩|⟨_,_,g,_⟩
   ·obtain⟨o,I,J⟩:=RW hm q A hr n h
    exact⟨o,I,.next N J⟩
   ·cases g
  ·rename_i U M F
   cases h;rcases RV hm q A hr F with⟨g,_⟩|⟨j,o,g,I,J,O⟩
   ·cases g
   ·cases g
    exact⟨o,I,.stop O J⟩
  ·cases h
def BT(r:Option (Nat × LG)):List yH->Nat->bB
 |[],_=>.fail
 |[o],_=>.done o.x (aX o.S (Lv r))
 |o::os,i=>.ask (aA (Lu r) i) (.done o.x (aX o.S (Lv r))) (BT r os (i+1))
theorem FO{x:Nat}{d:LG}{Q:cu->aH->Prop}:∀{os:List yH} {i j:Nat} {o:yH},os[j]? = some o->x=i+j->(BT (some (x,d)) os i).holds Q->Q o.x (aX o.S d)
 |[],_,_,_,h,_,_=>by simp at h
 |[o],i,j,o',h,q,g=>by
  cases j with
  |zero=>
   simp at h;subst h;exact g
  |succ j=>simp at h
 |o::o2::os,i,j,o',h,q,g=>by
  simp only[BT,bB.holds]at g;cases j with
  |zero=>
   simp at h;subst h;exact g.1 (by simp only[Lu]; rw[q]; simp)
  |succ j=>
   refine FO (os:=o2::os) (i:=i+1) (j:=j) (by simpa using h) ab (g.2 ?_);have:x≠i:=ab;exact aac.2 fun e=>this (cz e)
def Lw(m:Nat)(sp:bF)(s:aH):Option bB:=
 match iI m sp.inv sp.ps (iu sp.opens s)with
 |some (b,d)=>some (.side (BP b (bR sp.st d).isSome) (BT (bR sp.st d) sp.outs 0))
 |none=>none
theorem adg(hm:P.follows .mixedOrders=true)(B:aw P τ)(F:aQ P m L c)(hr:wz P τ L m c sp){t:bB}(h:Lw m sp s=some t):Re P m c s t:=by
 unfold Lw at h;split at h
 case h_2=>cases h
 rename_i b d I;cases h;intro Q q;simp only[bB.holds,BQ]at q;obtain⟨⟨rfl,N⟩,A⟩:=q;cases g:bR sp.st d with
 |none=>grind
 |some r=>
  obtain⟨x,O⟩:=r;obtain⟨o,J,M⟩:=RW hm B F hr 1000000 g;exact⟨o.x,_,M.pre ((nl sp.opens s).trans (kS I)),FO J (fC x).symm (by rw[g]at A; exact A)⟩
def LT.add(L:LT)(m:Nat)(sp:bF):LT:=⟨fun k s=>match aA k sp.key with
 |true=>Lw m sp s
 |false=>L.loops k s,L.pre,L.yD⟩
theorem ug:∀{c:Code} {k:Nat} {g:Code},(k,g)∈cI c->∀ p,p∈cI g->p∈cI c
 |.seq a b,k,g,h,p,d=>by
  simp only[cI,cY]at h|-;rcases h with h|h
  ·exact .inl (ug h p d)
  ·exact .inr (ug h p d)
 |.cond _ a b,k,g,h,p,d=>by
  simp only[cI,cY]at h|-;rcases h with h|h
  ·exact .inl (ug h p d)
  ·exact .inr (ug h p d)
 |.block _ c,k,g,h,p,d=>by
  simp only[cI]at h|-;exact ug h p d
 |.loop c,k,g,h,p,d=>by
  simp only[cI]at h|-;split at h
  ·rename_i i hi
   rcases cy.1 h with e|h
   grind
   ·exact cO _ (ug h p d)
  ·exact ug h p d
 |.skip,_,_,h,_,_=>by simp[cI]at h
 |.region ..,_,_,h,_,_=>by simp[cI]at h
 |.exit _,_,_,h,_,_=>by simp[cI]at h
 |.ret,_,_,h,_,_=>by simp[cI]at h
 |.rangeFunc ..,_,_,h,_,_=>by simp[cI]at h
 |.scope _,_,_,h,_,_=>by simp[cI]at h
 |.label _,_,_,h,_,_=>by simp[cI]at h
 |.goto _,_,_,h,_,_=>by simp[cI]at h
 |.refuse _,_,_,h,_,_=>by simp[cI]at h
theorem uh:∀{c:Code} {k:Nat} {g:Code},(k,g)∈cI c->∀ p,p∈cB g->p∈cB c
 |.seq a b,k,g,h,p,d=>by
  simp only[cI,cB,cY]at h|-;rcases h with h|h
  ·exact .inl (uh h p d)
  ·exact .inr (.inr (uh h p d))
 |.cond _ a b,k,g,h,p,d=>by
  simp only[cI,cB,cY]at h|-;rcases h with h|h
  ·exact .inl (uh h p d)
  ·exact .inr (uh h p d)
 |.block _ c,k,g,h,p,d=>by
  simp only[cI,cB]at h|-;exact uh h p d
 |.loop c,k,g,h,p,d=>by
  simp only[cI,cB]at h|-;split at h
  ·rename_i i hi
   rcases cy.1 h with e|h
   grind
   ·exact uh h p d
  ·exact uh h p d
 |.skip,_,_,h,_,_=>by simp[cI]at h
 |.region ..,_,_,h,_,_=>by simp[cI]at h
 |.exit _,_,_,h,_,_=>by simp[cI]at h
 |.ret,_,_,h,_,_=>by simp[cI]at h
 |.rangeFunc ..,_,_,h,_,_=>by simp[cI]at h
 |.scope _,_,_,h,_,_=>by simp[cI]at h
 |.label _,_,_,h,_,_=>by simp[cI]at h
 |.goto _,_,_,h,_,_=>by simp[cI]at h
 |.refuse _,_,_,h,_,_=>by simp[cI]at h
theorem ui:∀{c:Code} {k:Nat} {g:Code},(k,g)∈cB c->∀ p,p∈cI g->p∈cI c
 |.seq a b,k,g,h,p,d=>by
  simp only[cI,cB,cY]at h|-;rcases h with h|h|h
  ·exact .inl (ui h p d)
  ·right
   split at h
   ·rcases cy.1 h with e | h
    ·cases e
     exact d
    ·cases h
   ·cases h
  ·exact .inr (ui h p d)
 |.cond _ a b,k,g,h,p,d=>by
  simp only[cI,cB,cY]at h|-;rcases h with h|h
  ·exact .inl (ui h p d)
  ·exact .inr (ui h p d)
 |.block _ c,k,g,h,p,d=>by
  simp only[cI,cB]at h|-;exact ui h p d
 |.loop c,k,g,h,p,d=>by
  simp only[cB]at h;have:=ui h p d;simp only[cI];split
  ·exact cO _ this
  ·exact this
 |.skip,_,_,h,_,_=>by simp[cB]at h
 |.region ..,_,_,h,_,_=>by simp[cB]at h
 |.exit _,_,_,h,_,_=>by simp[cB]at h
 |.ret,_,_,h,_,_=>by simp[cB]at h
 |.rangeFunc ..,_,_,h,_,_=>by simp[cB]at h
 |.scope _,_,_,h,_,_=>by simp[cB]at h
 |.label _,_,_,h,_,_=>by simp[cB]at h
 |.goto _,_,_,h,_,_=>by simp[cB]at h
 |.refuse _,_,_,h,_,_=>by simp[cB]at h
theorem uj:∀{c:Code} {k:Nat} {g:Code},(k,g)∈cB c->∀ p,p∈cB g->p∈cB c
 |.seq a b,k,g,h,p,d=>by
  simp only[cB,cY]at h|-;rcases h with h|h|h
  ·exact .inl (uj h p d)
  grind
  ·exact .inr (.inr (uj h p d))
 |.cond _ a b,k,g,h,p,d=>by
  simp only[cB,cY]at h|-;rcases h with h|h
  ·exact .inl (uj h p d)
  ·exact .inr (uj h p d)
 |.block _ c,k,g,h,p,d=>by
  simp only[cB]at h|-;exact uj h p d
 |.loop c,k,g,h,p,d=>by
  simp only[cB]at h|-;exact uj h p d
 |.skip,_,_,h,_,_=>by simp[cB]at h
 |.region ..,_,_,h,_,_=>by simp[cB]at h
 |.exit _,_,_,h,_,_=>by simp[cB]at h
 |.ret,_,_,h,_,_=>by simp[cB]at h
 |.rangeFunc ..,_,_,h,_,_=>by simp[cB]at h
 |.scope _,_,_,h,_,_=>by simp[cB]at h
 |.label _,_,_,h,_,_=>by simp[cB]at h
 |.goto _,_,_,h,_,_=>by simp[cB]at h
 |.refuse _,_,_,h,_,_=>by simp[cB]at h
def bf(fn:Func):Code:=match fn.body with
 |some c=>c
 |none=>.skip
theorem adh (hn:nodupB ((cI (bf fn)).map (·.1))=true) {d:Code} (h:(k,d)∈cI (bf fn)):d=yE fn k:=by
 have key:∀(l:List (Nat × Code)),(l.map (·.1)).Nodup->(k,d)∈l->l.find? (fun p=>aA p.1 k)=some (k,d):=by
  intro l
  induction l with
  |nil=>intro _ h; cases h
  |cons p l B=>
   intro g hm;simp only[eU,mn]at g;rcases cy.1 hm with rfl|hm
   ·simp
   ·have A:p.1≠k:=by
     intro e;exact g.1 (cM.2 ⟨(k,d),hm,e.symm⟩)
    have:aA p.1 k=false:=aac.2 fun e=>A (cz e);rw[atE (by simp[this])];exact B g.2 hm
 unfold yE;unfold bf at hn h;split
 ·rename_i c q
  rw[q]at hn h;simp only[]at hn h;rw[key _ (uf hn) h]
 ·rename_i q
  rw[q]at h;simp[cI]at h
theorem aQ.add(hm:P.follows .mixedOrders=true)(A:aw P τ){fn:Func} (hn:nodupB ((cI (bf fn)).map (·.1))=true) (q:aQ P m L (bf fn)) (hr:wz P τ L m (yE fn sp.key) sp) :
  aQ P m (L.add m sp) (bf fn):=by
 refine⟨fun k B g s t d=>?_,q.2⟩;simp only[LT.add]at d;split at d
 ·rename_i e
  have e:=cz e;subst e;have F:=adh hn g;rw[<-F]at hr;exact adg hm A (q.sub (ug g) (uh g)) hr d
 ·exact q.1 k B g s t d
def bS(fn:Func)(k:Nat):Code:=match fn.body with
 |some c=>match (cB c).find? fun p=>aA p.1 k with
  |some (_,b)=>b
  |none=>.skip
 |none=>.skip
def mF(k:Nat):List (Nat × Code)->Bool
 |[]=>true
 |p::l=>match aA p.1 k with
  |true => !l.any (fun q=>aA q.1 k)
  |false=>mF k l
theorem RX{k:Nat}{A:Code}:∀{l:List (Nat × Code)},mF k l=true->(k,A)∈l->l.find? (fun p=>aA p.1 k)=some (k,A)
 |[],_,h=>by cases h
 |p::l,d,hm=>by
  simp only[mF]at d;cases g:aA p.1 k with
  |true=>
   rw[g]at d;simp only[nD]at d;rcases cy.1 hm with rfl|hm
   grind
   ·have:l.any (fun q=>aA q.1 k)=true:=qo.2 ⟨(k,A),hm,ai⟩
    grind
  |false=>
   rw[g]at d;rcases cy.1 hm with rfl|hm
   ·simp at g
   ·rw[atE (by simp[g])]
    exact RX d hm
theorem Lx{g:Code} (hn:mF k (cB (bf fn))=true) (h:(k,g)∈cB (bf fn)):g=bS fn k:=by
 unfold bS;unfold bf at hn h;split
 ·rename_i c d
  rw[d]at hn h;simp only[]at hn h;rw[RX hn h]
 ·rename_i d
  rw[d]at h;simp[cB]at h
def fa(r:bk):Option (Nat × LG):=match r with
 |some (some x,d)=>some (x,d)
 |_=>none
def BU(m:Nat)(sp:bF)(s:aH):Option bB:=
 match iI m sp.inv sp.ps (iu sp.opens s)with
 |some (b,d)=>some (.side (BP b (fa (sp.st d)).isSome) (BT (fa (sp.st d)) sp.outs 0))
 |none=>none
def qI(P:ak)(τ:ar)(L:LT)(m:Nat)(c:Code)(sp:bF):Prop:=∀d,(db P τ L c (aX sp.inv d) .done).leaf (wy m sp.outs 0)=sp.st d
theorem adi(hm:P.follows .mixedOrders=true)(J:aw P τ)(M:aQ P m L c)(hr:qI P τ L m c sp){t:bB}(h:BU m sp s=some t):Ft P m c s t:=by
 unfold BU at h;split at h
 case h_2=>cases h
 rename_i b d N;cases h;intro Q A;simp only[bB.holds,BQ]at A;obtain⟨⟨rfl,q⟩,B⟩:=A;cases g:sp.st d with
 |none=>rw[g]at q; cases q
 |some r=>
  obtain⟨k,F⟩:=r;cases k with
  |none=>rw[g]at q; cases q
  |some i=>
   rw[<-hr d]at g;obtain⟨x,s1,O,U⟩:=fo hm J c (aX sp.inv d) .done M (Q:=fun x s=>wy m sp.outs 0 x s=some (true,(some i,F))) (kR g);obtain⟨j,o,W,I,Y,q4⟩:=FN U;simp only[bQ,fC]at I;subst I;rw[hr d]at g;rw[g]at B;refine⟨o.x,(aX o.S F),?_,FO W (fC i).symm B⟩;rw[<-Y];exact vM ((nl sp.opens s).trans (kS N)) (vN O (kS q4))
def LT.gF(L:LT)(m:Nat)(sp:bF):LT:=⟨L.loops,L.pre,fun k s=>match aA k sp.key with
 |true=>BU m sp s
 |false=>L.yD k s⟩
theorem aQ.gF(hm:P.follows .mixedOrders=true)(A:aw P τ){fn:Func} (hn:mF sp.key (cB (bf fn))=true) (g:aQ P m L (bf fn)) (hr:qI P τ L m (bS fn sp.key) sp) :
  aQ P m (L.gF m sp) (bf fn):=by
 refine⟨g.1,g.2.1,fun k B q s t d=>?_⟩;simp only[LT.gF]at d;split at d
 ·rename_i e
  have e:=cz e;subst e;have F:=Lx hn q;rw[<-F]at hr;exact adi hm A (g.sub (ui q) (uj q)) hr d
 ·exact g.2.2 k B q s t d
end loops
structure aI where
 f:bH
 args:List Sh
 bj:List cq
 ps:List eH
 res:List Sh
 fP:List cq
 ps':List eH
 opens:List (Nat × List Kd)
 F:LG->Option LG
def aI.dR(sp:aI)(d:LG):List AV:=dS (cd sp.bj d) sp.args (eo (oa sp.bj) d)
def aI.H0(sp:aI)(d:LG):List aG:=cX (cd sp.bj d) sp.bj d
def aI.out(sp:aI)(r:LG):AV:=dA (dS (cd sp.fP r) sp.res (eo (oa sp.fP) r))
def aI.H1(sp:aI)(r:LG):List aG:=cX (cd sp.fP r) sp.fP r
def iw(P:ak)(rs:List ResultVar)(sp:aI)(x:cu)(s:aH):Option (Bool × LG):=
 match x with
 |.exit _=>none
 |_=>(fun s=>match kO P s.au rs with
  |none=>none
  |some d=>match lE s.H (fun i=>d.getD i .undef) sp.ps' [] with
   |none=>none
   |some aB=>match nodupB aB&&qH s.H 0 sp.bj.length aB sp.fP with
    |false=>none
    |true=>match lB s.H (bX s.H aB) (jG aB) sp.fP aB,gv s.H (bX s.H aB) (jG aB) sp.res d with
     |some (b,g),some (q,A)=>some (b&&q,g++A)
     |_,_=>none) (iu sp.opens s)
def uk(P:ak)(τ:ar)(L:LT)(fn:Func)(sp:aI):Prop:=
 ∀d,(db P τ L (bf fn) ⟨gD (sp.dR d) fn.ntmps,sp.H0 d⟩ .done).leaf (iw P fn.results.toList sp)=sp.F d
def jW(os:List cq):Bool:=os.all fun o=>aA o.up 0
theorem Ly:∀{os:List cq} (lens:eM) (d:LG),jW os=true->EX (aF (cX lens os d))
 |[],_,_,_=>by intro o q; simp[cX,aF]at q
 |o::os,lens,d,h=>by
  simp only[jW,oZ,aR]at h;intro x g;simp only[cX,aF,eU,cy]at g;rcases g with rfl|g
  ·cases o with
   |vQ ks u=>
    have:u=0:=cz h.1;subst this;rfl
   |box _=>rfl
   |map _ _=>rfl
   |dK _ _ _=>rfl
   |bI _ _ _=>rfl
  ·exact Ly lens _ h.2 x g
theorem BV(lens:eM):∀(os:List cq) (d:LG),(cX lens os d).length=os.length
 |[],_=>rfl
 |_::os,d=>by simp[cX,BV lens os]
variable {sp:aI}
theorem adk(hf:P.funcs[sp.f]? = some fn)(hb:fn.body.isSome=true)
  (hfr:jW sp.bj=true) {d r:LG} {x:cu} {I:aH} (O:c_ P sp.bj.length (bf fn) (aH.au ⟨gD (sp.dR d) fn.ntmps,sp.H0 d⟩) x I.au) (B:iw P fn.results.toList sp x I=some (true,r)) :
  e_ P sp.f (sp.dR d) (aF (sp.H0 d)) (sp.out r) (aF (sp.H1 r)):=by
 have hbody:fn.body=some (bf fn):=by
  unfold bf
  grind
 have O:=vN O (nl sp.opens I);generalize hs':iu sp.opens I=s' at O;have hxx:(x=.normal\/x=.ret)/\∃U aB g q,kO P s'.au fn.results.toList=some U/\(nodupB aB&&qH s'.H 0 sp.bj.length aB sp.fP)=true /\
   lB s'.H (bX s'.H aB) (jG aB) sp.fP aB=some (true,g)/\gv s'.H (bX s'.H aB) (jG aB) sp.res U=some (true,q)/\g++q=r:=by
  have B:iw P fn.results.toList sp x I=some (true,r):=B;unfold iw at B;split at B
  ·cases B
  ·rename_i hx
   simp only[hs']at B;refine⟨by cases x<;>grind,?_⟩
   grind
 obtain⟨hx,U,aB,g,q,hvs,M,q1,q2,rfl⟩:=hxx;simp only[aR]at M;intro E J hH HE hargs;refine E9 hf hbody ?_;have hfe:=mw HE;have hargs0:=nf hfe _ hargs;have hrel:bM ⟨gD (sp.dR d) fn.ntmps,aF (sp.H0 d)⟩ { E with X:=⟨E.X.x,fun _=>False,E.X.r⟩ } { tmps:=J++Array.replicate (fn.ntmps-J.size) undef,defers:=[] }:=by
  refine⟨hH,?_,mr _ _,HE.cG hfe⟩;simp only[gD,Array.toList_append,Array.toList_replicate];refine mv hargs0 ?_;have:=il hargs;have e:(sp.dR d).length=J.size:=ab;rw[e];have:=tQ (E:={ E with X:=⟨E.X.x,fun _=>False,E.X.r⟩ }) (List.replicate (fn.ntmps-J.size) undef)
  grind
 refine wpIn_mono (O none (EY _) { E with X:=⟨E.X.x,fun _=>False,E.X.r⟩ } _ hrel) fun e a1 w0 ⟨h3,loc',X',F,W⟩=>?_;refine⟨by subst h3; rcases hx with rfl|rfl; exact .inl rfl; exact .inr rfl,X',F.defers,fun Y k1 k2 k3=>?_⟩;obtain⟨F,W⟩:=E_ HE F W k1 k2 k3;obtain⟨us,g1,g2⟩:=Bk F fn.results.toList U hvs;have hres:(results fn a1.tmps).run P Y=.ok (if h:us.toArray.size=1 then us.toArray[0] else .tuple us.toArray) Y:=by
  rw[vO];simp only[Sem.run_bind];rw[Array.mapM_eq_mapM_toList,Sem.run_map,g1];rfl
 generalize N:({ w:=Y,H:=s'.au.H,ad:=loc',X:=E.X.re X'.r }:af)=A at F W g1 g2;have hH1:A.H=aF s'.H:=by rw[<-N]; rfl
 obtain⟨hK,hHR⟩:=Lp hH1 F.heap (uf M.1) q1 q;obtain⟨p0,p1,p2,p3⟩:=wv q1 q (cd sp.fP (g++q));have hd:eo (oa sp.fP) (g++q)=q:=by rw[<-p0]; exact qF g q
 have hS:=wu hK q2 [];rw[kL]at hS;have hrl:=hS.2.2.2 us g2;have hleM:=Lq (m:=sp.bj.length) hH1 hK ⟨rfl,rfl⟩ (Lm A _ aB) M.2 (fun j hj=>by
  obtain⟨r1,o',r2,_⟩:=BR M.2 j hj;obtain⟨i,o,g1,rest1,t1,t2,t3,t4,t5,t6⟩:=p3 j o' r2;have hat:=jV (e:=bX s'.H aB) (j:=j) (bA t1)
  grind[bX]) (fun b=>Ln)
 have hle:E.le (lD A (aF (cX (cd sp.fP (g++q)) sp.fP (g++q))) aB):=
  (W.trans hleM).full (by rw[<-N]; exact⟨rfl,rfl⟩) (by rw[hH,fX]; simp only[aI.H0,BV]; exact bl _) (by rw[hH]; exact Ly _ _ hfr)
 have hw1:A.w=Y:=by rw[<-N]
 have hX1:∀r,A.X.re r=E.X.re r:=fun r=>by rw[<-N]; rfl
 refine⟨_,hres,_,_,_,rfl,⟨rfl,rfl⟩,aB.map (fun i=>A.ad.getD i none),qG A (aF (cX (cd sp.fP (g++q)) sp.fP (g++q))),?_,?_,?_⟩<;>grind[La,aI.out,aI.H1,lD]
theorem RY{τ:ar}{L:LT}(hm:P.follows .mixedOrders=true)(q:aw P τ)(A:P.funcs[sp.f]? = some fn)(B:fn.body.isSome=true)
  (I:aQ P sp.bj.length L (bf fn)) (J:uk P τ L fn sp) (g:jW sp.bj=true) {d r:LG} (h:sp.F d=some r) :
  e_ P sp.f (sp.dR d) (aF (sp.H0 d)) (sp.out r) (aF (sp.H1 r)):=by
 rw[<-J d]at h;obtain⟨x,O,M,N⟩:=fo hm q (bf fn) _ .done I (Q:=fun x s=>iw P fn.results.toList sp x s=some (true,r)) (kR h);exact adk A B g M N
abbrev ff(P:ak)(sp:aI):Prop:=∀d r,sp.F d=some r->e_ P sp.f (sp.dR d) (aF (sp.H0 d)) (sp.out r) (aF (sp.H1 r))
theorem qJ{τ:ar}{L:LT}(hm:P.follows .mixedOrders=true)(g:aw P τ)(q:P.funcs[sp.f]? = some fn)(A:fn.body.isSome=true)
  (B:aQ P sp.bj.length L (bf fn)) (F:uk P τ L fn sp) (d:jW sp.bj=true):ff P sp:=by grind[RY]
def BW:fw->Bool
 |.int _ | .str | .bool | .list _ | .wh _ | .row _ | .cptr _ | .nil | .any | .RO _ | .fn _ | .addr | .BN=>true
 |_=>false
def FP:Sh->Bool
 |.s a=>BW a
 |.clo _ caps=>caps.all BW
theorem RZ{a:fw}(h:BW a=true):(fF lens a d).closed=true:=by
 cases a<;>simp only[BW]at h<;>first
  |(cases h; done)
  |rfl
  |grind[fF,AV.closed,jC]
theorem R2{lens:eM}:∀{as:List fw} {d:LG},(as.all BW)=true->AV.ca (ly lens as d)=true
 |[],_,_=>rfl
 |a::as,d,h=>by
  simp only[oZ,aR]at h;simp only[ly,AV.ca,RZ h.1,R2 h.2,qs]
theorem FQ{lens:eM}:∀{as:List Sh} {d:LG},(as.all FP)=true->AV.ca (dS lens as d)=true
 |[],_,_=>rfl
 |a::as,d,h=>by
  simp only[oZ,aR]at h;simp only[dS,AV.ca,FQ h.2,fJ];cases a with
  |s a=>exact RZ h.1
  |clo f caps=>simp only[lz,AV.closed]; exact R2 h.1
theorem adl{d:List AV}(h:AV.ca d=true):(dA d).closed=true:=by
 cases d with
 |nil=>rfl
 |cons v d=>
  cases d with
  |nil=>grind[dA,AV.ca]
  |cons g d=>grind[dA,AV.closed]
def kT(E:af):af:={ w:=E.w,H:=[],ad:=[],X:=(E.X.or E.bC).re fM }
theorem adm(x:Nat):¬ (kT E).bC x:=by rintro(⟨id,c,d⟩|⟨l,k,c,g⟩)<;>simp_all[kT,fM]
theorem R3:E.cQ (kT E):=⟨fun b d=>⟨⟨d.1,adm b,fun g=>g.elim d.2.2 d.2.1⟩,rfl⟩⟩
theorem adn:(kT E).cQ E:=⟨fun b d=>⟨⟨d.1,fun g=>d.2.2 (Or.inr g),fun q=>d.2.2 (Or.inl q)⟩,rfl⟩⟩
theorem Lz(HE:aO E):aO (kT E):=by
 refine⟨rfl,?_,?_,?_,?_,HE.iD.cQ R3,fun l k l' B b m n d=>by simp[kT,fM]at d,fun i b m l k n hi=>by simp[kT]at hi,fun l k b m d=>by simp[kT,fM]at d,fun i j o o' l hi=>by simp[kT]at hi,fun l _ k q d=>by simp[kT,fM]at d⟩
 grind[kT]
 grind[kT]
 ·rintro b (g | A)
  ·exact HE.X b g
  ·exact(HE.x2 A).1
 grind[kT]
theorem ado(HE:aO E):kQ [] (bX [] []) (fun _=>false) [] (kT E) (kT E):=by
 exact { hH:=rfl,HE:=Lz HE,free:=fun _ h=>(nomatch h),fe:=⟨fun b d=>⟨d,rfl⟩,rfl,fun j g=>absurd g (Nat.not_lt_zero _),fun _ _ _ _ _=>rfl⟩,obj:=fun j o q=>by simp at q }
theorem adp(HE:aO E):∀{q:List Sh} {as:List AV} {g:LG},(q.all FP)=true->gv [] (bX [] []) (fun _=>false) q as=some (true,g)->∀(rest:LG) (cs:List al),aq E as cs ->
  aq E (dS [] q (g++rest)) cs:=by
 have Y:∀{sh:fw} {a:AV} {b:Bool} {g:LG},ju [] (bX [] []) (fun _=>false) sh a=some (b,g)->a.closed=true\/sh=.any:=by
  intro sh a b g h;unfold ju at h;split at h
  ·exact .inl rfl
  ·exact .inl rfl
  ·exact .inl rfl
  ·split at h
   ·rename_i B
    left;unfold v_ at B;split at B<;>first|rfl|cases B
   ·split at h
    ·simp at h
    ·cases h
  ·split at h
   ·rename_i B
    left;rw[RC B];simp only[AV.closed,jC]
   ·cases h
  ·exact .inl rfl
  ·simp at h
  ·exact .inl rfl
  ·exact .inr rfl
  ·exact .inl rfl
  ·simp at h
  ·simp at h
  ·simp at h
  ·simp at h
  ·split at h
   ·rename_i B
    left;unfold v_ at B;split at B<;>first|rfl|cases B
   ·split at h
    ·simp at h
    ·cases h
  ·simp at h
  ·exact .inl rfl
  ·rename_i f js f' N
   split at h
   ·rename_i hc
    left;cases js with
    |nil=>cases N with
     |nil=>rfl
     |cons _ _=>simp[ob]at hc
    |cons j js=>cases N with
     |nil=>simp[ob]at hc
     |cons v N=>cases v<;>simp[ob]at hc
   ·cases h
  ·exact .inl rfl
  ·cases h
 have oneL:∀{q:List fw} {as:List AV} {b:Bool} {g:LG},iX [] (bX [] []) (fun _=>false) q as=some (b,g)->∀(cs:List al),aq E as cs ->
   ∃A,iX [] (bX [] []) (fun _=>false) q A=some (b,g)/\AV.ca A=true/\aq E A cs:=by
  intro q
  induction q with
  |nil=>
   intro as b g h cs hr;cases as with
   |nil=>exact⟨[],h,rfl,hr⟩
   |cons _ _=>simp[iX]at h
  |cons sh q O=>
   intro as b g h cs hr;cases as with
   |nil=>simp[iX]at h
   |cons a as=>
    cases cs with
    |nil=>simp[aq]at hr
    |cons c cs=>
     simp only[aq]at hr;simp only[iX]at h;split at h
     ·rename_i U W b2 g2 d M
      cases h;obtain⟨A,F,I,J⟩:=O M cs hr.2;rcases Y d with hc|rfl
      ·exact⟨a::A,by simp only[iX,d,F],by simp only[AV.ca,hc,I,qs],by simp only[aq]; exact⟨hr.1,J⟩⟩
      ·have e:ju [] (bX [] []) (fun _=>false) .any .undef=some (U,W):=by
        have:ju [] (bX [] []) (fun _=>false) .any a=some (true,[]):=by cases a<;>rfl
        rw[this]at d;exact d
       exact⟨.undef::A,by simp only[iX,e,F],by simp only[AV.ca,I]; rfl,by simp only[aq,ae]; exact⟨trivial,J⟩⟩
     ·cases h
 have oneS:∀{q:List Sh} {as:List AV} {b:Bool} {g:LG},gv [] (bX [] []) (fun _=>false) q as=some (b,g)->∀(cs:List al),aq E as cs ->
   ∃A,gv [] (bX [] []) (fun _=>false) q A=some (b,g)/\AV.ca A=true/\aq E A cs:=by
  intro q
  induction q with
  |nil=>
   intro as b g h cs hr;cases as with
   |nil=>exact⟨[],h,rfl,hr⟩
   |cons _ _=>simp[gv]at h
  |cons sh q O=>
   intro as b g h cs hr;cases as with
   |nil=>simp[gv]at h
   |cons a as=>
    cases cs with
    |nil=>simp[aq]at hr
    |cons c cs=>
     simp only[aq]at hr;simp only[gv]at h;split at h
     ·rename_i U W b2 g2 d M
      cases h;obtain⟨A,F,I,J⟩:=O M cs hr.2;cases sh with
      |s sh0=>
       simp only[od]at d;rcases Y d with hc|rfl
       ·exact⟨a::A,by simp only[gv,od,d,F],by simp only[AV.ca,hc,I,qs],by simp only[aq]; exact⟨hr.1,J⟩⟩
       ·have e:ju [] (bX [] []) (fun _=>false) .any .undef=some (U,W):=by
         have:ju [] (bX [] []) (fun _=>false) .any a=some (true,[]):=by cases a<;>rfl
         rw[this]at d;exact d
        exact⟨.undef::A,by simp only[gv,od,e,F],by simp only[AV.ca,I]; rfl,by simp only[aq,ae]; exact⟨trivial,J⟩⟩
      |clo f caps=>
       cases a<;>simp only[od]at d<;>try cases d
       rename_i f' N;split at d
       ·rename_i hf
        subst hf;have hx:=hr.1;simp only[ae]at hx;obtain⟨us,e1,e2⟩:=hx;obtain⟨vs',l1,l2,l3⟩:=oneL d _ e2;exact⟨.clo f vs'::A,by simp only[gv,od,if_true,l1,F],by simp only[AV.ca,AV.closed,l2,I,qs],
         by simp only[aq,ae]; exact⟨⟨us,e1,l3⟩,J⟩⟩
       ·cases d
     ·cases h
 intro q as g hcl h rest cs hr;obtain⟨A,d,M,h3⟩:=oneS h cs hr;have h4:=tu R3 A M h3;have h5:=(wu (ado HE) d rest).2.2.2 cs h4;exact tu adn _ (FQ hcl) h5
def ar.bx(τ:ar)(sp:aI):ar where
 pf g:=match aA g sp.f with
  |true=>true
  |false=>τ.pf g
 T g as:=match aA g sp.f with
  |true=>match gv [] (bX [] []) (fun _=>false) sp.args as with
   |some (b,d)=>some (BP b (sp.F d).isSome,dA (dS [] sp.res ((sp.F d).getD [])))
   |none=>τ.T g as
  |false=>τ.T g as
 W:=τ.W
 C:=τ.C
 I:=τ.I
 N:=τ.N
 U:=τ.U
def BX(sp:aI):Bool:=(sp.args.all FP)&&((sp.res.all FP)&&(sp.bj.isEmpty&&sp.fP.isEmpty))
theorem aw.bx{P:ak}{τ:ar}(h:aw P τ){sp:aI}(hb:eC P sp.f=true)(J:BX sp=true)
  (hc:∀d r,sp.F d=some r->e_ P sp.f (sp.dR d) (aF (sp.H0 d)) (sp.out r) (aF (sp.H1 r))):aw P (τ.bx sp):=by
 simp only[BX,aR,List.isEmpty_iff]at J;obtain⟨B,hp2,hp3,hp4⟩:=J;refine⟨fun g as b v q A=>?_,h.W,h.C,h.I,h.F⟩;simp only[ar.bx]at q;split at q
 ·rename_i e
  have e:=cz e;subst e;split at q
  ·rename_i b' d hr
   simp only[bQ,cr]at q;obtain⟨h1,rfl⟩:=q;subst h1;simp only[BQ]at A;obtain⟨rfl,M⟩:=A;refine⟨hb,?_⟩;cases N:sp.F d with
   |none=>rw[N]at M; cases M
   |some r=>
    have O:=hc d r N;simp only[aI.dR,aI.H0,aI.out,aI.H1,hp3,hp4,cX,cd,oa,eo]at O;have:=ab2 O (FQ B) (adl (FQ hp2));intro H E U hH HE Y;exact this H E U hH HE (by
     have:=adp HE B hr [] _ Y
     rwa [kL]at this)
  ·exact h.T _ as b v q A
 ·exact h.T g as b v q A
def Kd.dM:List Kd->Bool
 |[]=>true
 |.list _::_=>false
 |_::ks=>Kd.dM ks
def Ct.dx:Ct->Bool
 |.one k=>Kd.dM [k]
 |.agg ks=>Kd.dM ks
def yI:fw->Bool
 |.row ks=>Kd.dM ks
 |.list _ | .wh _ | .cptr _=>false
 |_=>true
def R4:Sh->Bool
 |.s a=>yI a
 |.clo _ caps=>caps.all yI
def R5:cq->Bool
 |.vQ ks _=>Kd.dM ks
 |.box cells=>cells.all yI
 |.map K V=>K.dx&&V.dx
 |.dK _ _ _=>true
 |.bI _ K ks=>K.dx&&Kd.dM ks
def iJ(sp:aI):Bool:=(sp.res.all R4)&&(sp.fP.all R5)
theorem BZ:∀{ks:List Kd} (r:LG),Kd.dM ks=true->AV.dM (bh ks r)=true
 |[],_,_=>rfl
 |.list _::_,_,h=>by simp[Kd.dM]at h
 |.int _::ks,r,h | .str::ks,r,h | .bool::ks,r,h=>by
  simp only[Kd.dM]at h;simp only[bh,AV.dM,BZ r.tail h,fJ];rfl
theorem Ct.LA{K:Ct}(r:LG)(h:K.dx=true):(K.av r).dx=true:=by
 cases K with
 |one k=>
  simp only[Ct.dx]at h;cases k<;>first
   |rfl
   |(simp[Kd.dM]at h; done)
 |agg ks=>simp only[Ct.av,AV.dx]; exact BZ r h
theorem R6:∀ d:List Nat,AV.dM (wm d)=true
 |[]=>rfl
 |j::d=>by simp only[wm,AV.dM,R6 d,fJ]; rfl
theorem R7{a:fw}(h:yI a=true):(fF lens a d).dx=true:=by
 cases a<;>simp only[yI]at h<;>first
  |(cases h; done)
  |(simp only[fF,AV.dx]; exact BZ _ h)
  |rfl
  |grind[fF,AV.dx,R6]
theorem LB{lens:eM}:∀{as:List fw} {d:LG},(as.all yI)=true->AV.dM (ly lens as d)=true
 |[],_,_=>rfl
 |a::as,d,h=>by
  simp only[oZ,aR]at h;simp only[ly,AV.dM,R7 h.1,LB h.2,qs]
theorem LC{lens:eM}:∀{as:List Sh} {d:LG},(as.all R4)=true->AV.dM (dS lens as d)=true
 |[],_,_=>rfl
 |a::as,d,h=>by
  simp only[oZ,aR]at h;simp only[dS,AV.dM,LC h.2,fJ];cases a with
  |s a=>exact R7 h.1
  |clo f caps=>simp only[lz,AV.dx]; exact LB h.1
theorem R8{d:List AV}(h:AV.dM d=true):(dA d).dx=true:=by
 cases d with
 |nil=>rfl
 |cons v d=>
  cases d with
  |nil=>grind[dA,AV.dM]
  |cons g d=>grind[dA,AV.dx]
theorem LD{lens:eM}:∀{os:List cq} {d:LG},(os.all R5)=true->((aF (cX lens os d)).all ay.dx)=true
 |[],_,_=>rfl
 |o::os,d,h=>by
  simp only[oZ,aR]at h;have A:=LD (lens:=lens) (d:=eo o.sz d) h.2;simp only[cX,aF,eU,oZ,aR];refine⟨?_,by simpa only[aF]using A⟩;cases o with
  |vQ ks u=>
   simp only[gM,aG.au,ay.dx,eX,cM];rintro r ⟨g,_,rfl⟩;exact BZ g h.1
  |box cells=>simp only[gM,aG.au,ay.dx]; exact LB h.1
  |map K V=>
   have q:(K.dx&&V.dx)=true:=h.1;simp only[aR]at q;simp only[gM,aG.au,ay.dx,dH,eX,cM];rintro x ⟨g,_,rfl⟩;simp only[Ct.LA _ q.1,Ct.LA _ q.2,qs]
  |dK l T B=>rfl
  |bI l K ks=>
   have q:(K.dx&&Kd.dM ks)=true:=h.1;simp only[aR]at q;simp only[gM,aG.au,ay.dx,jU,eX,cM];rintro x ⟨g,_,rfl⟩;simp only[ng,Ct.LA _ q.1,Bool.true_and];cases (gi g 3).bV with
   |false=>rfl
   |true=>
    simp only[cT,eX,cM];rintro r ⟨F,_,rfl⟩;exact BZ F q.2
def aG.dQ(e:cW)(j:Nat):aG->aG
 |.vQ ks v rZ=>.vQ ks (v+e.up j) rZ
 |.raw o=>.raw (o.dQ e j)
 |.map K V rZ c=>.map K V rZ c
 |.bI l K ks rZ c=>.bI l K ks rZ c
def B0(e:cW):Nat->List aG->List aG
 |_,[]=>[]
 |j,o::os=>o.dQ e j::B0 e (j+1) os
def kU(e:cW)(H H1:List aG):List aG:=gE H e.aB (B0 e 0 H1)++(B0 e 0 H1).drop e.aB.length
theorem adq(e:cW)(j:Nat)(o:aG):(o.dQ e j).au=o.au.dQ e j:=by
 cases o<;>rfl
theorem R9(e:cW):∀(j:Nat) (os:List aG),aF (B0 e j os)=n_ e j (aF os)
 |_,[]=>rfl
 |j,o::os=>by
  simp only[B0,aF,eU,n_,adq];have:=R9 e (j+1) os
  grind[aF]
theorem R_{α β:Type}(f:α->β):∀(d:List Nat) (l g:List α),(gE l d g).map f=gE (l.map f) d (g.map f)
 |[],_,_=>by simp[gE]
 |_::_,_,[]=>by simp[gE]
 |i::d,l,x::g=>by simp[gE,R_ f d,List.map_set]
theorem R'(e:cW)(H H1:List aG):aF (kU e H H1)=qD e (aF H) (aF H1):=by
 unfold kU qD;rw[<-R9];simp only[aF,List.map_append,R_,List.map_drop]
def qK(e:cW):Nat->List cq->Bool
 |_,[]=>true
 |j,.vQ _ _::os=>qK e (j+1) os
 |j,_::os=>aA (e.up j) 0&&qK e (j+1) os
theorem wA{e:cW}{lens:eM}:∀{j:Nat} {os:List cq} {d:LG},qK e j os=true->nj e j (aF (cX lens os d))=true
 |_,[],_,_=>rfl
 |j,.vQ ks u::os,d,h=>by
  simp only[qK]at h;have:=wA (lens:=lens) (d:=eo (cq.vQ ks u).sz d) h;simp only[cX,aF,eU,nj,aR];exact⟨rfl,by simpa only[aF]using this⟩
 |j,.box cells::os,d,h=>by
  simp only[qK,aR]at h;have:=wA (lens:=lens) (d:=eo (cq.box cells).sz d) h.2;simp only[cX,aF,eU,nj,aR];exact⟨h.1,by simpa only[aF]using this⟩
 |j,.map K V::os,d,h=>by
  simp only[qK,aR]at h;have:=wA (lens:=lens) (d:=eo (cq.map K V).sz d) h.2;simp only[cX,aF,eU,nj,aR];exact⟨h.1,by simpa only[aF]using this⟩
 |j,.dK l T B::os,d,h=>by
  simp only[qK,aR]at h;have:=wA (lens:=lens) (d:=eo (cq.dK l T B).sz d) h.2;simp only[cX,aF,eU,nj,aR];exact⟨h.1,by simpa only[aF]using this⟩
 |j,.bI l K ks::os,d,h=>by
  simp only[qK,aR]at h;have:=wA (lens:=lens) (d:=eo (cq.bI l K ks).sz d) h.2;simp only[cX,aF,eU,nj,aR];exact⟨h.1,by simpa only[aF]using this⟩
def pH(S:Bool)(aB:List Nat)(i:Nat):Bool:=match S with
 |true=>jG aB i
 |false=>false
def um(sp:aI)(as:List AV)(H:List aG):Option (Bool × AV × List aG):=
 match lE H (fun i=>as.getD i .undef) sp.ps []with
 |none=>none
 |some aB=>match nodupB aB&&qK (bX H aB) 0 sp.fP with
  |false=>none
  |true=>match lB H (bX H aB) (pH (iJ sp) aB) sp.bj aB,gv H (bX H aB) (pH (iJ sp) aB) sp.args as with
   |some (b,g),some (q,d)=>some (BP (b&&q) (sp.F (g++d)).isSome,(sp.out ((sp.F (g++d)).getD [])).dQ (bX H aB),kU (bX H aB) H (sp.H1 ((sp.F (g++d)).getD [])))
   |_,_=>none
def r_:List eH->Nat->Bool
 |[],_=>true
 |.cell j _::ps,n=>fT j n&&r_ ps (n+1)
 |.FI j _ _::ps,n=>fT j n&&r_ ps (n+1)
 |_::ps,n=>r_ ps (n+1)
theorem Sa{H:List aG}{q:Nat->AV}:∀{ps:List eH} {d aB:List Nat},lE H q ps d=some aB->∀ x∈d,x∈aB
 |[],d,aB,h,x,g=>by cases h; exact g
 |p::ps,d,aB,h,x,g=>by
  unfold lE at h;split at h
  ·exact Sa h x (Pc _ g)
  ·cases h
theorem Sb{H:List aG}{d:Nat->AV}{id:Nat}{o:aG}:∀{ps:List eH} {acc aB:List Nat},r_ ps acc.length=true->lE H d ps acc=some aB->id∉aB->lE (H.set id o) d ps acc=some aB
 |[],acc,aB,_,h,_=>h
 |p::ps,acc,aB,g,h,q=>by
  unfold lE at h|-;split at h
  ·rename_i i hi
   have B:=Sa h;have get:∀j,j<acc.length->(H.set id o)[acc.getD j 0]?=H[acc.getD j 0]?:=fun j A=>by
    refine dh fun e=>q ?_;rw[e,dj,bT A];exact B _ (Pc _ (nG A))
   have e:FL (H.set id o) d acc p=some i/\r_ ps (acc++[i]).length=true:=by
    rw[eL];cases p with
    |fix _=>exact⟨hi,g⟩
    |aU _=>exact⟨hi,g⟩
    |cap _ _=>exact⟨hi,g⟩
    |cell j c=>
     simp_all[r_,FL]
    |FI j c k=>
     simp_all[r_,FL]
   rw[e.1];exact Sb e.2 h q
  ·cases h
section ads
variable {H:List aG} {e:cW} {id:Nat} {o:aG} (he:∀j,e.at j≠id)
include he
theorem Sc:∀(d:List Nat) (g:List AV),ob (H.set id o) e d g=ob H e d g
 |[],[]=>rfl
 |[],_::_=>rfl
 |_::_,[]=>rfl
 |j::d,v::g=>by
  have A:=Sc d g;cases v<;>try rfl
  rename_i i ax k row c;simp only[ob,A];by_cases hi:i=id
  ·subst hi
   have q:aA i (e.at j)=false:=by
    cases B:aA i (e.at j)with
    |false=>rfl
    |true=>exact absurd (cz B).symm (he j)
   simp only[q,Bool.false_and];cases (H.set i o)[i]?<;>cases H[i]?<;>(repeat' split)<;>rfl
  ·rw[dh (Ne.symm hi)]
theorem Sd:∀(sh:fw) (a:AV),ju (H.set id o) e (fun _=>false) sh a=ju H e (fun _=>false) sh a:=by
 have A:∀{i:Nat},i≠id->(H.set id o)[i]?=H[i]?:=fun h=>dh (Ne.symm h);have d:∀j,¬ (id=e.at j):=fun j h=>he j h.symm;intro sh a;cases a with
 |vQ w i ax oF n=>
  by_cases hi:i=id
  ·subst hi
   cases sh<;>(try rfl)<;>simp only[ju,v_,tb,and_false,if_false,d,false_and]<;>(repeat' split)<;>grind
  ·cases sh<;>(try rfl)<;>grind[ju]
 |ptr i ax k row B=>
  by_cases hi:i=id
  ·subst hi
   cases sh<;>(try rfl)<;>simp only[ju,tb,and_false,if_false,d,false_and]<;>(repeat' split)<;>grind
  ·cases sh<;>(try rfl)<;>grind[ju]
 |map i=>
  by_cases hi:i=id
  ·subst hi
   cases sh<;>(try rfl)<;>simp only[ju,if_false,d]<;>(repeat' split)<;>grind
  ·cases sh<;>(try rfl)<;>grind[ju]
 |clo f g=>
  cases sh<;>(try rfl)
  ·cases g<;>rfl
  grind[ju,Sc]
 |lit v=>
  cases sh<;>(try rfl)<;>cases v<;>(try rfl)
  ·rename_i b n c
   cases b<;>cases n<;>cases c<;>rfl
  ·rename_i q
   cases q with
   |none=>rfl
   |some q=>
    obtain⟨b,o',w⟩:=q;cases o'<;>cases w<;>rfl
 |_=>cases sh<;>rfl
theorem LF:∀(d:List fw) (as:List AV),iX (H.set id o) e (fun _=>false) d as=iX H e (fun _=>false) d as
 |[],[]=>rfl
 |[],_::_=>rfl
 |_::_,[]=>rfl
 |sh::d,a::as=>by simp only[iX,Sd he sh a,LF d as]
theorem adt(sh:Sh)(a:AV):od (H.set id o) e (fun _=>false) sh a=od H e (fun _=>false) sh a:=by
 cases sh with
 |s x=>simp only[od,Sd he]
 |clo f caps=>
  cases a with
  |clo g d=>simp only[od,LF he]
  |_=>rfl
theorem Se:∀(d:List Sh) (as:List AV),gv (H.set id o) e (fun _=>false) d as=gv H e (fun _=>false) d as
 |[],[]=>rfl
 |[],_::_=>rfl
 |_::_,[]=>rfl
 |sh::d,a::as=>by simp only[gv,adt he sh a,Se d as]
theorem adu(sh:cq)(t:aG):kP (H.set id o) e (fun _=>false) sh t=kP H e (fun _=>false) sh t:=by
 cases sh with
 |box d=>
  simp_all[kP,LF]
 |dK l T B=>
  cases t with
  |raw x=>cases x<;>rfl
  |_=>rfl
 |_=>cases t<;>rfl
theorem Sf:∀(os:List cq) (d:List Nat),id∉d->lB (H.set id o) e (fun _=>false) os d=lB H e (fun _=>false) os d
 |[],[],_=>rfl
 |[],_::_,_=>rfl
 |_::_,[],_=>rfl
 |sh::os,i::d,h=>by
  have g:id≠i:=fun e=>h (by rw[e]; exact dG);simp only[lB,dh g,adu he,Sf os d fun hm=>h (cO _ hm)]
end ads
theorem Sg{α:Type}{i:Nat}{x:α}:∀(d:List Nat) (l g:List α),i∉d->gE (l.set i x) d g=(gE l d g).set i x
 |[],_,_,_=>by simp[gE]
 |_::_,_,[],_=>by simp[gE]
 |j::d,l,y::g,h=>by
  have q:i≠j:=fun e=>h (by rw[e]; exact dG);simp only[gE];rw[List.set_comm _ _ q];exact Sg d _ _ fun hm=>h (cO _ hm)
theorem adv(h:id∉aB):bX (H.set id o) aB=bX H aB:=by
 unfold bX;rw[List.length_set];congr 1;refine List.map_congr_left fun i hi=>?_;unfold wq;rw[dh fun e=>h (by rw[e]; exact hi)]
theorem adw(hs:iJ sp=false)(F:r_ sp.ps 0=true){as:List AV}{H':List aG}{v:AV}(h:um sp as H=some (b,v,H'))(I:id<H.length)
  (A:∀aB,lE H (fun i=>as.getD i .undef) sp.ps []=some aB->id∉aB) :
  um sp as (H.set id o)=some (b,v,H'.set id o)/\∃aB,lE H (fun i=>as.getD i .undef) sp.ps []=some aB/\lE (H.set id o) (fun i=>as.getD i .undef) sp.ps []=some aB:=by
 unfold um at h|-;split at h
 ·cases h
 rename_i aB d;have hn:=A aB d;have g:=Sb (o:=o) (acc:=[]) F d hn;refine⟨?_,aB,d,g⟩;rw[g];simp only[adv hn];split at h
 ·cases h
 rename_i J;have B:pH (iJ sp) aB=fun _=>false:=by
  rw[hs];rfl
 rw[B]at h|-;have he:∀j,(bX H aB).at j≠id:=by
  intro j e;rcases mh j (bX H aB).aB.length with q|q
  ·have:=jV q
   rw[e]at this;exact hn (jj this)
  grind[wg,bX]
 rw[Sf he _ _ hn,Se he];split at h<;>grind[kU,bX,Sg,we]
def ar.df(τ:ar)(sp:aI):ar where
 pf g:=match aA g sp.f with
  |true=>false
  |false=>τ.pf g
 T:=τ.T
 W g as H:=match aA g sp.f with
  |true=>match um sp as H with
   |some r=>some r
   |none=>τ.W g as H
  |false=>τ.W g as H
 C g as H:=match aA g sp.f with
  |true=>(match lE H (fun i=>as.getD i .undef) sp.ps [] with
   |some aB=>aB
   |none=>[])++τ.C g as H
  |false=>τ.C g as H
 I:=τ.I
 N g:=match aA g sp.f with
  |true=>match τ.U g,iJ sp with
   |false,false=>r_ sp.ps 0
   |_,_=>false
  |false=>τ.N g
 U g:=match aA g sp.f with
  |true=>true
  |false=>τ.U g
def uo:List cq->List cq->Bool
 |_,[]=>true
 |[],o'::d=>o'.mD.isNone&&uo [] d
 |o::os,o'::d=>(match o'.mD with
  |none=>true
  |some l=>match o.mD with
   |some l'=>aA l l'
   |none=>false)&&uo os d
theorem FT:∀{os g:List cq},uo os g=true->∀(j:Nat) o' l,g[j]? = some o'->o'.mD=some l->∃ o,os[j]? = some o/\o.mD=some l
 |_,[],_,j,_,_,d,_=>by simp at d
 |[],x::g,h,0,o',l,d,q=>by
  simp only[uo,aR]at h;simp at d;subst d;rw[q]at h;cases h.1
 |[],x::g,h,j+1,o',l,d,q=>by
  simp only[uo,aR]at h;obtain⟨o,A,_⟩:=FT h.2 j o' l (by simpa using d) q;simp at A
 |o::os,x::g,h,0,o',l,d,q=>by
  simp only[uo,aR]at h
  grind[cz]
 |o::os,x::g,h,j+1,o',l,d,q=>by
  simp only[uo,aR]at h;exact FT h.2 j o' l (by simpa using d) q
theorem Si(lens:eM):∀(os:List cq) (d:LG) (j:Nat) (o:aG),(cX lens os d)[j]? = some o->∃ sh g,os[j]? = some sh/\o=gM lens sh g
 |[],d,j,o,h=>by simp[cX]at h
 |s::os,d,0,o,h=>by
  simp[cX]at h;exact⟨s,d,rfl,h.symm⟩
 |s::os,d,j+1,o,h=>by
  simp only[cX,aaa]at h;obtain⟨sh,g,q,A⟩:=Si lens os _ j o h
  grind
theorem Sj{j:Nat}{o:ay} (h:(aF (cX lens os d))[j]?=some o):∃sh,os[j]?=some sh/\o.label=sh.mD:=by
 simp only[aF,dw]at h;obtain⟨o',g,rfl⟩:=jA.1 h;obtain⟨sh,A,q,rfl⟩:=Si lens os d j o' g;exact⟨sh,q,ue _ _ _⟩
theorem LH(lens:eM):∀(os:List cq) (d:LG) (j:Nat) (sh:cq),os[j]? = some sh->∃ o,(aF (cX lens os d))[j]? = some o/\o.label=sh.mD
 |[],d,j,o,h=>by simp at h
 |s::os,d,0,sh,h=>by
  simp at h;subst h;exact⟨(gM lens s d).au,by simp[cX,aF],ue _ _ _⟩
 |s::os,d,j+1,sh,h=>by
  obtain⟨o,g,q⟩:=LH lens os (eo s.sz d) j sh (by simpa using h)
  grind[cX,aF]
def sa(sp:aI):Bool:=jW sp.bj&&(bW sp.bj.length sp.fP.length&&uo sp.bj sp.fP)
theorem adx(hp:sa sp=true) (hc:∀ d r,sp.F d=some r->e_ P sp.f (sp.dR d) (aF (sp.H0 d)) (sp.out r) (aF (sp.H1 r)))
  {as:List AV} {H H':List aG} {v:AV} (h:um sp as H=some (true,v,H')):e_ P sp.f as (aF H) v (aF H'):=by
 simp only[sa,aR]at hp;obtain⟨hfr,hle,hlab⟩:=hp;have hle:=lk hle;unfold um at h;split at h
 ·cases h
 rename_i aB hids;split at h
 ·cases h
 rename_i hck;simp only[aR]at hck;obtain⟨hnd,hup⟩:=hck;have hnd:=uf hnd;split at h
 case h_2=>cases h
 rename_i b g b' q h1 h2;simp only[bQ,cr,BQ,aR]at h;obtain⟨⟨⟨rfl,rfl⟩,h3⟩,rfl,rfl⟩:=h;cases hF:sp.F (g++q)with
 |none=>rw[hF]at h3; cases h3
 |some r=>
 simp only[mU];obtain⟨p0,p1,p2,p3⟩:=wv h1 q (cd sp.bj (g++q));have hd:eo (oa sp.bj) (g++q)=q:=by rw[<-p0]; exact qF g q
 have hlen:aB.length=(aF (sp.H0 (g++q))).length:=by rw[fX]; simp only[aI.H0,p1,p2]
 have hat:∀j,j<aB.length->aB[j]?=some ((bX H aB).at j):=fun j B=>jV (e:=bX H aB) B;have hobjs:∀j,j<aB.length->∃sh o M J,sp.bj[j]?=some sh/\H[(bX H aB).at j]?=some o/\kP H (bX H aB) (pH (iJ sp) aB) sh o=some (true,M) /\
   (sp.H0 (g++q))[j]?=some (gM (cd sp.bj (g++q)) sh (M++J)) /\
   (cd sp.bj (g++q)).ax j=sh.up/\(∀ks v rZ,o=.vQ ks v rZ->(cd sp.bj (g++q)).len j=rZ.length)/\sh.up=0/\(bX H aB).up j=wo o:=by
  intro j B;have hj':j<sp.bj.length:=ab;obtain⟨i,o,M,J,Y,I,O,N,q5,q6⟩:=p3 j sp.bj[j] (bT hj');have q1':=Y;rw[hat j B]at Y;cases Y;refine⟨sp.bj[j],o,M,J,bT hj',I,O,N,q5,q6,?_,?_⟩
  ·have:=eX.1 hfr sp.bj[j] (nG hj')
   exact cz this
  ·simp only[cW.up,bX,dj,dw]
   rw[q1'];simp only[jl,mU,wq];rw[I]
 have hK:∀E E0,E.H=aF H->aO E->wb (bX H aB) (bif iJ sp then (jh H.length).filter (jG aB) else []) E E0->E0.H=aF (sp.H0 (g++q)) ->
   kQ H (bX H aB) (pH (iJ sp) aB) (cd sp.bj (g++q)) E E0:=by
  intro E E0 W HE U hE0H;refine { hH:=W,HE:=HE,free:=fun i hi b n hb=>?_,fe:=U.toKeepIn,obj:=fun j o A=>?_ }
  ·refine U.RE i ?_ b n hb
   have hlt:=bA hb;rw[HE.len,W,fX]at hlt;unfold pH at hi;split at hi
   ·rename_i hs
    rw[hs];simp only[cT,jm,List.mem_range];exact⟨hlt,hi⟩
   ·cases hi
  ·have B:j<aB.length:=by
    rcases mh j aB.length with hlt|hge
    ·exact hlt
    ·have h1:=bA A
     have h2:=wg (e:=bX H aB) hge;have h3:(bX H aB).bg=H.length:=rfl;omega
   refine⟨B,?_⟩;obtain⟨sh,o',M,J,Y,I,O,N,q5,q6,q7,q8⟩:=hobjs j B;rw[A]at I;cases I;obtain⟨r1,r2,r3⟩:=BO (lens:=cd sp.bj (g++q)) (d:=M++J) O;exact⟨r1,⟨_,by rw[hE0H]; exact cn N,by rw[q5]; exact r2⟩,q6,fun _=>by rw[q5]; exact q7⟩
 have:=frame (P:=P) (f:=sp.f) (iJ sp) (bif iJ sp then (jh H.length).filter (jG aB) else []) (e:=bX H aB) (H:=aF H) (args:=sp.dR (g++q)) (H0:=aF (sp.H0 (g++q)))
  (H1:=aF (sp.H1 r)) (v:=sp.out r) (dR:=as) (hc _ _ hF) hlen (by rw[fX]; rfl) hnd ?_ ?_ (wA hup) ?_ (fun hs=>by rw[hs]; rfl) ?_ ?_ ?_ ?_ ?_ ?_
 ·rw[R']
  exact this
 ·intro j o A
  have B:j<aB.length:=by rw[hlen]; exact bA A
  obtain⟨sh,o',M,J,Y,I,O,N,q5,q6,q7,q8⟩:=hobjs j B;obtain⟨r1,r2,r3⟩:=BO (lens:=cd sp.bj (g++q)) (d:=M++J) O;rw[cn N]at A;cases A;refine⟨o'.au,cn I,fun v=>?_⟩;rw[r1,r2,q7,q8];simp only[bQ];constructor
  ·rintro rfl
   exact⟨0,rfl,ab⟩
  ·rintro⟨u,rfl,rfl⟩
   omega
 ·intro E E0 W HE U hE0H j o A
  have B:j<aB.length:=by rw[hlen]; exact bA A
  obtain⟨sh,o',M,J,Y,I,O,N,q5,q6,q7,q8⟩:=hobjs j B;rw[cn N]at A;cases A;exact Ll (hK E E0 W HE U hE0H) O J B (fun l hl=>U.mD j _ l (by rw[hE0H]; exact cn N) (by rw[ue,hl])) (HE.obj _ _ (by rw[W]; exact cn I))
 ·rw[fX,fX]
  simp only[aI.H0,aI.H1,BV];exact hle
 ·intro hs
  simp only[iJ,aR]at hs;exact R8 (LC hs.1)
 ·intro hs
  simp only[iJ,aR]at hs;exact LD hs.2
 ·intro i hi
  cases hs:iJ sp with
  |true=>
   rw[hs]at hi;simp only[cT,jm]at hi;exact Lo hi.2
  |false=>
   rw[hs]at hi;simp at hi
 ·intro j o o' A ho'
  have B:j<aB.length:=by rw[hlen]; exact bA A
  obtain⟨sh,o2,M,J,Y,I,O,N,_⟩:=hobjs j B;rw[cn N]at A;rw[cn I]at ho';cases A;cases ho';rw[Lj O,ue]
 ·intro j o l A hl
  obtain⟨sh,h5,h6⟩:=Sj (show (aF (cX (cd sp.fP r) sp.fP r))[j]?=some o from A);obtain⟨sh0,h7,h8⟩:=FT hlab j sh l h5 (by rw[<-h6,hl]);obtain⟨o0,h9,h10⟩:=LH (cd sp.bj (g++q)) sp.bj (g++q) j sh0 h7;exact⟨o0,h9,by rw[h10,h8]⟩
 ·intro E E0 cs W HE U hE0H hr
  have hS:=(wu (hK E E0 W HE U hE0H) h2 []).2.2.2 cs hr;rw[kL]at hS;simp only[aI.dR,hd];exact hS
theorem ady{as:List AV}{H':List aG}{v:AV}{A:Nat}(h:um sp as H=some (b,v,H'))(g:A<H.length)(q:∀aB,lE H (fun i=>as.getD i .undef) sp.ps []=some aB->A∉aB):H'[A]?=H[A]?:=by
 unfold um at h;split at h
 ·cases h
 rename_i aB d;split at h
 ·cases h
 split at h
 case h_2=>cases h
 cases h;unfold kU;rw[fB (by rw[we]; exact g)];exact FA _ _ _ _ (q aB d)
theorem aw.df{P:ak}{τ:ar}(h:aw P τ){sp:aI}(hb:eC P sp.f=true)(hp:sa sp=true)
  (hc:∀d r,sp.F d=some r->e_ P sp.f (sp.dR d) (aF (sp.H0 d)) (sp.out r) (aF (sp.H1 r))):aw P (τ.df sp):=by
 refine⟨h.T,fun g as H b v H' q U=>?_,fun g as H b v H' q A B M=>?_,fun g as H t q Q Y=>?_,fun g N as H=>?_,fun g J as H b v H' q id o M O=>?_⟩
 rotate_left 2
 ·obtain⟨g1,v,H',g2,g3,g4⟩:=h.I g as H t q Q Y
  refine⟨g1,v,H',g2,fun A B M=>g3 A (fun hm=>B ?_) M,g4⟩
  grind[ar.df]
 ·simp only[ar.df]at N |-
  cases e:aA g sp.f with
  |true=>grind
  |false=>
   rw[e]at N;exact h.F.1 g N as H
 ·simp only[ar.df]at J q O |-
  cases e:aA g sp.f with
  |false=>
   rw[e]at J q O;exact h.F.2 g J as H b v H' q id o M O
  |true=>
   rw[e]at J q O;simp only[]at J q O|-;split at J
   case h_2=>cases J
   rename_i N hs;have hW0:∀H,τ.W g as H=none:=fun H=>(h.F.1 g N as H).1;have hC0:∀H,τ.C g as H=[]:=fun H=>(h.F.1 g N as H).2
   grind[adw]
 simp only[ar.df]at q;split at q
 ·rename_i e
  have e:=cz e;subst e;split at q
  grind[adx]
  ·exact h.W _ as H b v H' q U
 ·exact h.W g as H b v H' q U
 simp only[ar.df]at q B;split at q
 ·rename_i e
  rw[e]at B;simp only[]at B;split at q
  grind[ady]
  ·exact h.C g as H b v H' q A (fun hm=>B (List.mem_append_right _ hm)) M
 ·rename_i e
  rw[e]at B;exact h.C g as H b v H' q A B M
def az(t:Option LG)(k:LG->Option β):Option β:=bif t.isSome then k (t.getD []) else none
def gx(b:Bool)(t:Option LG)(k:LG->Option β):Option β:=bif b then k (t.getD []) else none
def bp(b:Bool)(r:Option (Nat × LG))(k:Nat->LG->Option β):Option β:=bif (b&&r.isSome) then k (Lu r) (Lv r) else none
def LI:Kd->G->G
 |.int _,g=>.i g.iV
 |.str,g=>.s g.sV
 |.bool,g=>.t g.bV
 |.list _,g=>.l g.rZ
def bu:List Kd->LG->LG
 |[],_=>[]
 |k::ks,r=>LI k (r.headD default)::bu ks r.tail
def ar.mG(τ:ar)(d:List bH):ar:={ τ with pf:=fun g=>match d.any (fun x=>aA x g)with
 |true=>false
 |false=>τ.pf g }
def ar.nm(τ:ar)(d:List bH):ar:={ τ with pf:=fun g=>match d.any (fun x=>aA x g)with
 |true=>true
 |false=>τ.pf g }
theorem aw.nm{P:ak}{τ:ar}(h:aw P τ)(d:List bH):aw P (τ.nm d):=⟨h.T,h.W,h.C,h.I,h.F⟩
theorem aw.mG{P:ak}{τ:ar}(h:aw P τ)(d:List bH):aw P (τ.mG d):=⟨h.T,h.W,h.C,h.I,h.F⟩
theorem B1{t:Option LG}{k:LG->Option β}(h:t=some g):az t k=k g:=by subst h; rfl
inductive lZ (st:LG->bk):Nat->LG->Nat->LG->Prop
 |stop {d d':LG} {x:Nat} (h:st d=some (some x,d')):lZ st 1 d x d'
 |next {d d1 d':LG} {x n:Nat} (h:st d=some (none,d1)) (h':lZ st n d1 x d'):lZ st (n+1) d x d'
theorem lZ.iter{st:LG->bk}{x:Nat}(h:lZ st n d x g):∀m,n<=m->wx st m d=some (x,g):=by
 induction h with
 |stop h=>
  intro m hm;cases m with
  |zero=>omega
  |succ m=>simp only[wx,h]
 |next h _ q=>
  intro m hm;cases m with
  |zero=>omega
  |succ m=>simp only[wx,h]; exact q m ab
theorem lZ.adz{st:LG->bk}{x:Nat}(h:lZ st n d x g)(hn:n<=1000000):bR st d=some (x,g):=h.iter _ hn
inductive Hint where
 |freeze (aU:Nat)
 |Sk (aU:Nat) (ks:List Kd)
 |jX (aU c:Nat) (ks:List Kd)
 |Sl (aU:Nat)
 |Sm (aU c:Nat)
 |hole (ks:List Kd)
 |bI (aU l:Nat)
 |Sn (aU:Nat)
def FU(aU:Nat)(s:aH):Bool × aH:=
 match s.fr.getD aU .undef with
 |.vQ w id ax oF n=>match s.H[id]? with
  |some (.vQ ks v rZ)=>if ax=v/\oF=0/\w=ks.length then (aA n rZ.length,⟨s.fr.set aU (.listF ks rZ),s.H.set id (.raw .dead)⟩) else (true,s)
  |_=>(true,s)
 |_=>(true,s)
def LJ(aU c:Nat)(ks:List Kd)(s:aH):Bool × aH:=
 match s.fr.getD aU .undef with
 |.ptr id _ _ _ _=>match s.H[id]? with
  |some (.raw (.box cells))=>match cells[c]? with
   |some a=>match isNil a with
    |true=>(true,⟨s.fr,s.H.set id (.raw (.box (cells.set c (.vQ ks.length s.H.length 0 0 0))))++[.vQ ks 0 []]⟩)
    |false=>(true,s)
   |none=>(true,s)
  |_=>(true,s)
 |_=>(true,s)
def FV(aU c:Nat)(s:aH):Bool × aH:=
 match s.fr.getD aU .undef with
 |.ptr id _ _ _ _=>match s.H[id]? with
  |some (.raw (.box cells))=>match cells[c]? with
   |some (.vQ w d ax oF n)=>match s.H[d]? with
    |some (.vQ ks v rZ)=>if ax=v/\oF=0/\w=ks.length then (aA n rZ.length,⟨s.fr,(s.H.set d (.raw .dead)).set id (.raw (.box (cells.set c (.listF ks rZ))))⟩) else (true,s)
    |_=>(true,s)
   |_=>(true,s)
  |_=>(true,s)
 |_=>(true,s)
def FW(aU:Nat)(s:aH):Bool × aH:=
 match s.fr.getD aU .undef with
 |.vQ w id ax oF n=>match s.H[id]? with
  |some (.vQ ks v rZ)=>if ax=v/\oF=0/\w=ks.length then (bW n rZ.length,⟨s.fr.set aU (.vQ w id (v+1) 0 n),s.H.set id (.vQ ks (v+1) (rZ.take n))⟩) else (true,s)
  |_=>(true,s)
 |_=>(true,s)
def FX(aU l:Nat)(s:aH):Bool × aH:=
 match s.fr.getD aU .undef with
 |.map id=>match s.H[id]? with
  |some (.map K (.one (.list ks)) [] cl)=>(yi (aF s.H) l,⟨s.fr,s.H.set id (.bI l K ks [] cl)⟩)
  |_=>(true,s)
 |_=>(true,s)
def adA(rZ:LL):Bool:=rZ.all fun r=>(gi r 3).bV
def FY(aU:Nat)(s:aH):Bool × aH:=
 match s.fr.getD aU .undef with
 |.map id=>match s.H[id]? with
  |some (.bI _ K ks rZ cl)=>(adA rZ,⟨s.fr,s.H.set id (.map K (.one (.list ks)) rZ cl)⟩)
  |_=>(true,s)
 |_=>(true,s)
def FZ:Hint->aH->Bool × aH
 |.freeze i,s=>FU i s
 |.Sk i ks,s=>match isNil (s.fr.getD i .undef) with
  |true=>(true,BL i ks s)
  |false=>(true,s)
 |.jX i c ks,s=>LJ i c ks s
 |.Sl i,s=>FW i s
 |.Sm i c,s=>FV i c s
 |.hole ks,s=>(true,⟨s.fr,s.H++[.vQ ks 0 []]⟩)
 |.bI i l,s=>FX i l s
 |.Sn i,s=>FY i s
def B2:List Hint->aH->Bool × aH
 |[],s=>(true,s)
 |h::hs,s=>match FZ h s with
  |(b,s1)=>match B2 hs s1 with
   |(d,s2)=>(b&&d,s2)
theorem adB(h:(FU aU s).1=true):cV m s.au (FU aU s).2.au:=by
 unfold FU at h|-;split
 case h_2=>exact cV.refl _
 rename_i w id ax oF n N;split
 case h_2=>exact cV.refl _
 rename_i ks v rZ B;split
 case isFalse=>exact cV.refl _
 rename_i hc;obtain⟨rfl,rfl,rfl⟩:=hc;simp only[N,B,and_self,if_true]at h;have hn:=cz h;subst hn;intro E a hs;have hH:E.H=aF s.H:=hs.H;have F:=af.x5 hs.heap id;have hdr:=aO.drop hs.heap id fun o d=>by
  rw[show E.H[id]?=some (.vQ ks.length ax (rZ.map (bh ks))) by rw[hH]; exact cn B]at d;cases d;rfl
 have J:aF (s.H.set id (.raw .dead))=E.H.set id .dead:=by rw[gn,hH]; rfl
 refine⟨E.ad.set id none,E.X,?_,?_⟩
 ·simp only[aH.au]
  rw[J];refine⟨rfl,?_,hs.defers,hdr⟩;refine FH (gJ F _ hs.fr) fun c hc=>?_;have hr:=Lt hs.fr hc;rw[show s.au.fr=s.fr from rfl,N]at hr;have M:E.H[id]?=some (.vQ ks.length ax (rZ.map (bh ks))):=by rw[hH]; exact cn B
  have d:=hs.heap.obj id _ M;rw[m_];simp only[ae]at hr|-;obtain⟨⟨bg,cap,rfl,Y,_⟩,_,I⟩:=hr;obtain⟨q1,q2⟩:=I ⟨_,M,rfl⟩;have O:iC (rZ.map (bh ks)):=by
   intro r hr;obtain⟨g,_,rfl⟩:=cM.1 hr;exact jC ks g
  refine⟨O,bg,cap,ai,by simpa using Y,?_⟩;simp only[bK]at d;rcases d with⟨A,U⟩|⟨b,mm,A,U,I,_,h4⟩
  ·exact .inl U
  ·obtain⟨g1,o,g2,W⟩:=q2 b mm A
   by_cases hm:rZ=[]
   ·subst hm; exact .inl rfl
   ·right
    have:0<rZ.length:=by cases rZ with|nil=>exact(hm rfl).elim|cons _ _=>simp
    simp at I;have d:=g2 ab;simp at d;subst d;simp only[oU]at W;refine⟨b,0,W.1,⟨(hs.heap.lt id b mm A).1,?_,(hs.heap.lt id b mm A).2⟩,pk F.toC _ O rfl h4⟩;rintro(⟨j,c',q⟩|⟨l,k,c',q⟩)
    case inr=>exact hs.heap.eY _ _ _ _ _ _ A q
    simp only[iQ]at q;split at q
    ·split at q<;>cases q
    ·rename_i hne
     exact hne (hs.heap.inj _ _ _ _ _ A q)
 ·simp only[aH.au]
  rw[J];exact F.toM
theorem adC{c:Nat}:cV m s.au (LJ aU c ks s).2.au:=by
 unfold LJ;split
 case h_2=>exact cV.refl _
 rename_i id ax k row col hsl;split
 case h_2=>exact cV.refl _
 rename_i cells hid;split
 case h_2=>exact cV.refl _
 rename_i a0 ha0;split
 case h_2=>exact cV.refl _
 rename_i hnil;intro E a hs;have hH:E.H=aF s.H:=hs.H;have hlen:E.H.length=s.H.length:=by rw[hH,fX]
 have I:E.le (E.push E.w (.vQ ks.length 0 []) none):=af.nc hs.heap.len (Ext.refl _) (fun b n h=>by cases h);have hobj:bK (E.push E.w (.vQ ks.length 0 []) none) E.H.length (.vQ ks.length 0 []):=by
  simp only[bK,af.push];refine .inl ⟨?_,trivial⟩;rw[ml (by rw[hs.heap.len]; exact bl _),hs.heap.len,xO];rfl
 have q:aO (E.push E.w (.vQ ks.length 0 []) none):=aO.push hs.heap (Ext.refl _) (fun b n h=>by cases h) hobj;generalize A:E.push E.w (.vQ ks.length 0 []) none=d at I q;have J:d.w=E.w:=by rw[<-A]; rfl
 have M:d.X=E.X:=by rw[<-A]; rfl
 have N:d.H=aF (s.H++[.vQ ks 0 []]):=by rw[<-A,lx,<-hH]; rfl
 have hidlt:id<s.H.length:=bA hid;have B:d.H[id]?=some (.box cells):=by
  rw[N];exact cn (H:=s.H++[.vQ ks 0 []]) (o:=.raw (.box cells)) (by rw[fB hidlt]; exact hid)
 have ho:=q.obj id _ B;simp only[bK]at ho;obtain⟨b,n,O,h2,U⟩:=ho;have hver:∀v,(ay.box (cells.set c (.vQ ks.length s.H.length 0 0 0))).bt=some v->(ay.box cells).bt=some v:=fun v W=>by simpa[ay.bt]using W
 have F:=af.tF (o':=.box (cells.set c (.vQ ks.length s.H.length 0 0 0))) (w':=d.w) q B O hver rfl (fun _ _=>rfl);have hnew:d.H[s.H.length]?=some (.vQ ks.length 0 []):=by
  rw[N];have e:(s.H++[aG.vQ ks 0 []])[s.H.length]?=some (aG.vQ ks 0 []):=by rw[ml (bl _),xO]; rfl
  exact cn e
 have hloc:d.ad[s.H.length]?=some none:=by
  rw[<-A];simp only[af.push];rw[ml (by rw[hs.heap.len]; omega),hs.heap.len,hlen,xO];rfl
 have hrel:∀v,ae d a0 v->ae { w:=d.w,H:=d.H.set id (.box (cells.set c (.vQ ks.length s.H.length 0 0 0))),ad:=d.ad,X:=d.X } (.vQ ks.length s.H.length 0 0 0) v:=by
  intro v W;obtain⟨bg,rfl⟩:=Ry hnil W;simp only[ae];have hne:id≠s.H.length:=ab;refine⟨⟨bg,0,rfl,bl _,fun h=>absurd h (AW _)⟩,⟨.vQ ks.length 0 [],by rw[dh hne]; exact hnew,fun v h=>lj _⟩,fun _=>⟨fun _=>⟨trivial,trivial,bg,rfl⟩,fun b m hb=>?_⟩⟩;rw[hloc]at hb;cases hb
 have hHR2:=aO.set (w':=d.w) q B O hver rfl (fun _ _=>rfl) (by
  simp only[bK];refine⟨b,n,O,by simpa using h2,?_⟩;rw[mq]at U|-;intro i x g;rw[iQ]at g;split at g
  ·rename_i e
   subst e;split at g
   ·cases g
    obtain⟨v,Y,g2,g3⟩:=U c a0 ha0;exact⟨v,Y,g2,hrel v g3⟩
   ·cases g
  ·obtain⟨v,Y,g2,g3⟩:=U i x g
   exact⟨v,Y,g2,dW F x g3⟩)
 have hden:aF (s.H.set id (.raw (.box (cells.set c (.vQ ks.length s.H.length 0 0 0))))++[.vQ ks 0 []])=d.H.set id (.box (cells.set c (.vQ ks.length s.H.length 0 0 0))):=by
  rw[N,lx,lx,gn,List.set_append_left _ _ (by rw[fX]; exact hidlt)];rfl
 refine⟨d.ad,E.X,?_,?_⟩
 ·simp only[aH.au]
  rw[hden];rw[J,M]at hHR2;refine⟨rfl,?_,hs.defers,hHR2⟩;have:=gJ F _ (gJ I _ hs.fr);rw[J,M]at this;exact this
 ·simp only[aH.au]
  rw[hden];have:=(I.trans F).toM (m:=m);rw[J,M]at this;exact this
theorem adD{c:Nat}(h:(FV aU c s).1=true):cV m s.au (FV aU c s).2.au:=by
 unfold FV at h|-;split
 case h_2=>exact cV.refl _
 rename_i id ver0 k row col hsl;split
 case h_2=>exact cV.refl _
 rename_i cells I;split
 case h_2=>exact cV.refl _
 rename_i w g ax oF n W;split
 case h_2=>exact cV.refl _
 rename_i ks v rZ M;split
 case isFalse=>exact cV.refl _
 rename_i hc;obtain⟨rfl,rfl,rfl⟩:=hc;simp only[hsl,I,W,M,and_self,if_true]at h;have hn:=cz h;subst hn;intro E a hs;have hH:E.H=aF s.H:=hs.H;have hne:id≠g:=fun e=>by
  rw[e,M]at I;cases I
 have hide:E.H[id]?=some (.box cells):=by rw[hH]; exact cn I
 have Y:E.H[g]?=some (.vQ ks.length ax (rZ.map (bh ks))):=by rw[hH]; exact cn M
 obtain⟨b0,n0,k1,k2,k3⟩:=hs.heap.obj id _ hide;rw[mq]at k3;obtain⟨cv,c1,c2,c3⟩:=k3 c _ W;have hfr:=Qx hs.heap Y c3;have O:=af.x5 hs.heap g;have J:=aO.drop hs.heap g fun o ho=>by
  rw[Y]at ho;cases ho;rfl
 generalize A:({ w:=E.w,H:=E.H.set g .dead,ad:=E.ad.set g none,X:=E.X }:af)=d at O J hfr;have U:d.w=E.w:=by rw[<-A]
 have hX1:d.X=E.X:=by rw[<-A]
 have N:d.H[id]?=some (.box cells):=by
  rw[<-A];show (E.H.set g .dead)[id]?=_
  rw[dh (Ne.symm hne)];exact hide
 have hl1:d.ad[id]?=some (some (b0,n0)):=by
  rw[<-A];show (E.ad.set g none)[id]?=_
  rw[dh (Ne.symm hne)];exact k1
 obtain⟨b,n,B,h2,h3⟩:=J.obj id _ N;have hbb:b=b0:=by
  rw[hl1]at B;cases B;rfl
 subst hbb;have hver:∀v,(ay.box (cells.set c (.listF ks rZ))).bt=some v->(ay.box cells).bt=some v:=fun v hv=>by simpa[ay.bt]using hv
 have F:=af.tF (o':=.box (cells.set c (.listF ks rZ))) (w':=d.w) J N B hver rfl (fun _ _=>rfl);have hHR2:=aO.set (w':=d.w) J N B hver rfl (fun _ _=>rfl) (by
  simp only[bK];refine⟨b,n,B,by simpa using h2,?_⟩;rw[mq]at h3|-;intro i x q;rw[iQ]at q;split at q
  ·rename_i e
   subst e;split at q
   ·cases q
    refine⟨cv,by rw[show ({ w:=d.w,H:=_,ad:=d.ad,X:=d.X }:af).w=E.w from U]; exact c1,c2,dW F _ hfr⟩
   ·cases q
  ·obtain⟨v,g1,g2,g3⟩:=h3 i x q
   exact⟨v,g1,g2,dW F x g3⟩)
 have hden:aF ((s.H.set g (.raw .dead)).set id (.raw (.box (cells.set c (.listF ks rZ)))))=d.H.set id (.box (cells.set c (.listF ks rZ))):=by
  rw[gn,gn,<-hH,<-A];rfl
 refine⟨d.ad,E.X,?_,?_⟩
 ·simp only[aH.au]
  rw[hden];rw[U,hX1]at hHR2;refine⟨rfl,?_,hs.defers,hHR2⟩;have:=gJ F _ (gJ O _ hs.fr);rw[U,hX1]at this;exact this
 ·simp only[aH.au]
  rw[hden];have:=(O.trans F).toM (m:=m)
  grind
theorem adE(h:(FW aU s).1=true):cV m s.au (FW aU s).2.au:=by
 unfold FW at h|-;split
 case h_2=>exact cV.refl _
 rename_i w id ax oF n N;split
 case h_2=>exact cV.refl _
 rename_i ks v rZ O;split
 case isFalse=>exact cV.refl _
 rename_i hc;obtain⟨rfl,rfl,rfl⟩:=hc;simp only[N,O,and_self,if_true]at h;have hn:=lk h;intro E a hs;have hH:E.H=aF s.H:=hs.H;have A:E.H[id]?=some (.vQ ks.length ax (rZ.map (bh ks))):=by rw[hH]; exact cn O
 have ho:=hs.heap.obj id _ A;obtain⟨l,F⟩:∃l,E.ad[id]?=some l:=by
  have:id<E.ad.length:=by rw[hs.heap.len]; exact bA A
  exact⟨_,bT this⟩
 have U:E.ad.set id l=E.ad:=qA F;have M:aF (s.H.set id (.vQ ks (ax+1) (rZ.take n)))=E.H.set id (.vQ ks.length (ax+1) ((rZ.take n).map (bh ks))):=by rw[gn,hH]; rfl
 have hlc:∀b n,l=some (b,n)->E.w.heap.size<=b\/∃m,E.ad[id]?=some (some (b,m)):=fun b n I=>.inr ⟨n,by rw[F,I]⟩;have W:∀v u,(ay.vQ ks.length (ax+1) ((rZ.take n).map (bh ks))).bt=some v->(ay.vQ ks.length ax (rZ.map (bh ks))).bt=some u->u<=v:=by
  intro v u d q;simp[ay.bt]at d q;omega
 have Y:∀v,(ay.vQ ks.length (ax+1) ((rZ.take n).map (bh ks))).bt=some v->∀u,(ay.vQ ks.length ax (rZ.map (bh ks))).bt=some u->u<v:=by
  intro v d u q;simp[ay.bt]at d q;omega
 have B:=af.pq (o':=.vQ ks.length (ax+1) ((rZ.take n).map (bh ks))) (l:=l) (w':=E.w) A hs.heap.len (bl _) (fun _ _ _=>rfl) hlc (.inr Y) W (fun h=>by simp[ay.bt]at h);have hHR:=aO.rN (o':=.vQ ks.length (ax+1) ((rZ.take n).map (bh ks))) (l:=l) (w':=E.w) hs.heap A (bl _) (fun _ _ _=>rfl) (fun b n I=>.inr ⟨n,by rw[F,I]⟩) (.inr Y) W (fun h=>by simp[ay.bt]at h) (by
  rw[U]at B|-;simp only[bK]at ho|-;rcases ho with⟨d,q⟩|⟨b,mm,d,q,J,h4,h5⟩
  ·left
   refine⟨d,?_⟩;have:rZ=[]:=by simpa using q
   rw[this];simp
  ·right
   refine⟨b,mm,d,q,by simp at J|-; omega,?_,?_⟩
   ·intro r hr
    obtain⟨g,_,rfl⟩:=cM.1 hr;exact jC ks g
   ·rw[qv]at h5 |-
    intro i r hi;simp only[dw,ta]at hi;split at hi
    ·obtain⟨g1,g2⟩:=h5 i r (by simpa using hi)
     exact⟨g1,A2 (fun a c hr=>dW B a hr) rfl g2⟩
    ·simp at hi)
 rw[U]at B hHR;refine⟨E.ad,E.X,?_,?_⟩
 ·simp only[aH.au]
  rw[M];refine⟨rfl,?_,hs.defers,hHR⟩;refine FH (gJ B _ hs.fr) fun c hc=>?_;have hr:=Lt hs.fr hc;rw[show s.au.fr=s.fr from rfl,N]at hr;simp only[ae]at hr|-;obtain⟨d,q,J⟩:=hr;exact⟨d,⟨.vQ ks.length (ax+1) ((rZ.take n).map (bh ks)),dN (bA A),fun v hv=>by simp[ay.bt]at hv; omega⟩,fun _=>J ⟨_,A,rfl⟩⟩
 ·simp only[aH.au]
  rw[M];exact B.toM
theorem adF:cV m s.au (aH.au ⟨s.fr,s.H++[.vQ ks 0 []]⟩):=fun E a hs=>by
 have hH:E.H=aF s.H:=hs.H;have g:E.le (E.push E.w (.vQ ks.length 0 []) none):=af.nc hs.heap.len (Ext.refl _) (fun b n h=>by cases h);have q:bK (E.push E.w (.vQ ks.length 0 []) none) E.H.length (.vQ ks.length 0 []):=by
  simp only[bK,af.push];refine .inl ⟨?_,trivial⟩;rw[ml (by rw[hs.heap.len]; omega),hs.heap.len,xO];rfl
 have A:aO (E.push E.w (.vQ ks.length 0 []) none):=aO.push hs.heap (Ext.refl _) (fun b n h=>by cases h) q;have d:(aH.au ⟨s.fr,s.H++[.vQ ks 0 []]⟩).H=E.H++[.vQ ks.length 0 []]:=by
  rw[hH];simp[aH.au,aF,aG.au]
 refine⟨E.ad++[none],E.X,?_,?_⟩
 ·rw[d]
  exact⟨d.symm,gJ g _ hs.fr,hs.defers,A⟩
 ·rw[d]
  exact g.toM
theorem adG(h:(FX aU l s).1=true):cV m s.au (FX aU l s).2.au:=by
 unfold FX at h|-;split
 case h_2=>exact cV.refl _
 rename_i id B;split
 case h_2=>exact cV.refl _
 rename_i K ks cl g;simp only[B,g]at h;intro E a hs;have hH:E.H=aF s.H:=hs.H;have A:E.H[id]?=some (.map [] cl):=by rw[hH]; exact cn g
 obtain⟨F,q⟩:=abw (w:=ks.length) hs.heap A (by rw[hH]; exact h);have d:aF (s.H.set id (.bI l K ks [] cl))=E.H.set id (.bI l ks.length [] cl):=by rw[gn,hH]; rfl
 refine⟨E.ad,E.X,?_,?_⟩
 ·simp only[aH.au]
  rw[d];exact⟨rfl,gJ q _ hs.fr,hs.defers,F⟩
 ·simp only[aH.au]
  rw[d];exact q.toM
theorem adH(h:(FY aU s).1=true):cV m s.au (FY aU s).2.au:=by
 unfold FY at h|-;split
 case h_2=>exact cV.refl _
 rename_i id U;split
 case h_2=>exact cV.refl _
 rename_i l K ks rZ cl F;simp only[U,F]at h;intro E a hs;have hH:E.H=aF s.H:=hs.H;have A:E.H[id]?=some (.bI l ks.length (jU K ks rZ) cl):=by rw[hH]; exact cn F
 have J:=hs.heap.obj id _ A;simp only[bK]at J;obtain⟨b,n,ms,g1,g2,M,hh,k1,k2⟩:=J;obtain⟨h1,N⟩:=aO.abq (o':=.map (dH K (.one (.list ks)) rZ) cl) hs.heap A rfl rfl rfl fun I=>by
  simp only[bK];refine⟨b,n,ms,g1,g2,?_⟩;rw[iG]at M|-;obtain⟨q1,q2⟩:=M;refine⟨by simpa[dH,eu,jU]using q1,fun i x e d he=>?_⟩;unfold dH at d;rw[dw]at d;obtain⟨r,hr,rfl⟩:=jA.1 d;have O:=Bz (K:=K) (ks:=ks) hr;have W:(gi r 3).bV=true:=eX.1 h r (jj hr);obtain⟨a1,a2,a3,a4,a5⟩:=q2 i _ e (EP O) he;refine⟨dW I _ a1,?_,a3,a4,rfl⟩;have Y:=k2 i _ ((nW r).map (bh ks)) e O (by simp only[ng,W,cT]) he;show ae _ (.listF ks (nW r)) e.val
  rw[m_];simp only[ae];have hcl:iC ((nW r).map (bh ks)):=by
   intro r hr;obtain⟨g,_,rfl⟩:=cM.1 hr;exact jC ks g
  refine⟨hcl,?_⟩;rcases Y with⟨s1,bg,s2⟩|⟨bb,mm,s1,s2,s3,s4,s5,s6⟩
  ·rw[s1]
   exact⟨bg,0,s2,bl _,.inl rfl⟩
  ·refine⟨_,mm,s2,s4,.inr ⟨bb,0,rfl,⟨(hs.heap.dP _ _ _ _ s1).1,?_,(hs.heap.dP _ _ _ _ s1).2⟩,pn (fun a _ hr=>dW I a hr) rfl s6⟩⟩
   rintro(⟨j,c',q⟩|⟨l',k',c',q⟩)
   ·exact hs.heap.eY _ _ _ _ _ _ q s1
   ·obtain⟨j1,j2⟩:=tK q
    exact j2 (hs.heap.iE _ _ _ _ _ _ _ j1 s1).1
 have B:aF (s.H.set id (.map K (.one (.list ks)) rZ cl))=E.H.set id (.map (dH K (.one (.list ks)) rZ) cl):=by rw[gn,hH]; rfl
 refine⟨E.ad,E.X.re (pB E.X.r l),?_,?_⟩
 ·simp only[aH.au]
  rw[B];exact⟨rfl,gJ N _ hs.fr,hs.defers,h1⟩
 ·simp only[aH.au]
  rw[B];exact N.toM
theorem adI(h:Hint)(s:aH)(d:(FZ h s).1=true):cV m s.au (FZ h s).2.au:=by
 cases h with
 |freeze i=>exact adB d
 |Sk i ks=>
  simp only[FZ];split
  ·rename_i h; exact Rz h
  ·exact cV.refl _
 |jX i c ks=>exact adC
 |Sl i=>exact adE d
 |Sm i c=>exact adD d
 |hole ks=>exact adF
 |bI i l=>exact adG d
 |Sn i=>exact adH d
theorem Sp{m:Nat}:∀(hs:List Hint) (s:aH),(B2 hs s).1=true->cV m s.au (B2 hs s).2.au
 |[],s,_=>cV.refl _
 |h::hs,s,d=>by
  simp only[B2]at d|-;simp only[aR]at d;exact(adI h s d.1).trans (Sp hs _ d.2)
def Sq:List (Nat × List Hint)->Nat->List Hint
 |[],_=>[]
 |(i,hs)::l,id=>match aA id i with
  |true=>hs
  |false=>Sq l id
def LT.np(L:LT)(hs:List (Nat × List Hint)):LT:=⟨L.loops,fun id s=>B2 (Sq hs id) s,L.yD⟩
theorem uq{c:Code}(hs:List (Nat × List Hint)):aQ P m (bz.np hs) c:=⟨fun _ _ _ _ _ h=>(nomatch h),fun id s d=>Sp _ s d,fun _ _ _ _ _ h=>(nomatch h)⟩
end Go.AL

namespace Go.AL
open Go Go.ChangeMaps
variable [Dr]
variable {E:af} {a:Act} {s:St} {u x:al} {o:aN} {w w':be} {t:Tmp} {r0 r1 r2:Nat} {rZ:LL} {β:Type} {q:bF}
theorem bM.kU(hs:bM s E a)(t:Tmp){v:AV}(d:ae E v u):bM (s.put (some t) v s.H) E (a.put (some t) u):=
 ⟨hs.H,Km hs.fr (af.le.refl E) (some t) d,by rw[put_defers]; exact hs.defers,hs.heap⟩
theorem wB{m:Nat}{E':af}(h:E.dO m E'):E.cQ E':=
 ⟨fun b d=>⟨⟨Nat.lt_of_lt_of_le d.1 h.size,h.bC b d.1 d.2.1,fun g=>d.2.2 ((h.X b d.1).1.1 g)⟩,h.same b d.1 d.2.1⟩⟩
theorem kB{P:ak}{ah:Array aN}{Q:Exit->Act->be->Prop}{i:Nat}{K:Act->be->Prop}
  (hi:ah[i]?=some o) (g:o.guard=none) (hr:(execOp a.eval o).run P w=.ok (.value u) w') (d:∀c,o.op≠.defer c) (q:Option Nat) (A:K (a.put o.dst u) w'):wpOpIn (fz q) 0 P ah Q i K a w:=by
 unfold wpOpIn;simp only[hi];rw[iP (by simp[Region.wanted,g])];unfold Oper.wpIn;rw[Oper.semAt_eq _ _ _ d,hr];exact⟨fun _ _=>trivial,A⟩
theorem qL{P:ak}{pf:bH->Bool}{ah:Array aN}{Q:Exit->Act->be->Prop}(d:Option Nat):∀(l:List aN) (k:Nat) (s s':St) (E:af) (a:Act) (rest:List Nat),
  (∀(j:Nat) (o:aN),l[j]?=some o->ah[k+j]?=some o)->fW P pf ah l s s'->bM s E a->(∀g w',hG E s' g w'->wpOpsIn (fz d) 0 P ah Q rest g w')->wpOpsIn (fz d) 0 P ah Q (ka k l.length++rest) a E.w
 |[],k,s,s',E,a,rest,_,h,hs,q=>by
  simp only[fW]at h;subst h;exact q _ _ (hG.refl hs)
 |o::l,k,s,s',E,a,rest,A,h,hs,q=>by
  obtain⟨v,H',J,B⟩:=h;simp only[cJ,Eb,qk];rw[wpOpsIn_cons];refine Ko hs (by simpa using A 0 o rfl) J (fun g w' hc=>?_) d;obtain⟨F,M,N,O⟩:=hc;refine qL d l (k+1) _ s' { w:=w',H:=H',ad:=F,X:=E.X.re M } g rest (fun j x U=>?_) B N (fun W Y I=>q W Y (hG.after O I));have:=A (j+1) x (by simpa using U)
  grind
theorem oe(h:t<a.tmps.size):(a.put (some t) u).eval (.tmp t)=u:=by
 simp[Act.eval,xP,h]
def bB.gN:bB->Option (cu × aH)
 |.fail=>none
 |.done x s=>some (x,s)
 |.ask b t e=>match b with
  |true=>t.gN
  |false=>e.gN
 |.side b t=>match b with
  |true=>t.gN
  |false=>none
theorem sb:∀{t:bB} {x:cu} {s:aH},t.gN=some (x,s)->t.holds fun d s'=>d=x/\s'=s
 |.fail,_,_,h=>by cases h
 |.done _ _,_,_,h=>by
  cases h;exact⟨rfl,rfl⟩
 |.ask b t e,_,_,h=>by
  cases b with
  |true=>exact⟨fun _=>sb (t:=t) h,fun h=>(nomatch h)⟩
  |false=>exact⟨fun h=>(nomatch h),fun _=>sb (t:=e) h⟩
 |.side b t,_,_,h=>by
  cases b with
  |true=>exact⟨rfl,sb (t:=t) h⟩
  |false=>cases h
def dc(st:LG->LG->Option LG)(bJ:LG->Nat):LL->LG->Option LG
 |[],d=>some d
 |r::rs,d=>match st r d with
  |some g=>bif aA (bJ g) (bJ d) then dc st bJ rs g else none
  |none=>none
theorem B3{st:LG->LG->Option LG}{bJ:LG->Nat}:∀(p q:LL) (d:LG),dc st bJ (p++q) d=(dc st bJ p d).bind (dc st bJ q)
 |[],_,_=>rfl
 |r::p,q,d=>by
  simp only[qk,dc];cases st r d with
  |none=>rfl
  |some g=>
   simp only[];cases aA (bJ g) (bJ d)with
   |false=>rfl
   |true=>exact B3 p q g
def cP(r:LG):Nat:=(gi r 2).iV.toNat
theorem yJ{f:LG->Nat}{r:LG}:∀{l:LL} {seen:Array Nat},(l.map f).Nodup->r∈l->seen.contains (f r)=false ->
  (l.filter fun x => !seen.contains (f x)).Perm (r::l.filter fun x => !(seen.push (f r)).contains (f x))
 |[],_,_,h,_=>by cases h
 |x::l,seen,hn,hm,hs=>by
  obtain⟨q,hn⟩:=mn.1 hn;rcases cy.1 hm with rfl|hm
  ·have e:(l.filter fun x => !(seen.push (f r)).contains (f x))=l.filter fun x => !seen.contains (f x):=by
    apply List.filter_congr;intro y A;have:(f y==f r)=false:=by
     rw[beq_eq_false_iff_ne];intro e
     grind
    grind
   simp_all
  ·have d:(f x==f r)=false:=by
    rw[beq_eq_false_iff_ne];intro e
    grind
   have g:=yJ hn hm hs;simp only[List.filter_cons,contains_push seen (f r) (f x),d,Bool.or_false];cases seen.contains (f x)with
   |true=>grind
   |false=>
    simp only[Bool.not_false,if_true];exact(List.Perm.cons x g).trans (List.Perm.swap r x _)
structure gp where
 inv:nk
 ps:List eH
 opens:List (Nat × List Kd)
 K:Ct
 V:Ct
 id:Nat
 x:Tmp
 y:Tmp
 it:Tmp
 t1:Tmp
 t2:Tmp
 t3:Tmp
 bJ:LG->Nat
 init:LG->Nat->LG
 side:LG->Nat->Bool
 st:LG->LG->Option LG
def gp.rs(sp:gp)(r d:LG):aH:=⟨(aX sp.inv d).fr.set sp.t3 (.tuple [sp.K.av (gi r 0).rV,sp.V.av (gi r 1).rV]),(aX sp.inv d).H⟩
def gp.s2(sp:gp)(s:aH)(b:Nat):aH:=⟨s.fr.set sp.it (.lit (.pointer (some ⟨b,0,none⟩))),s.H.set sp.id (.raw .dead)⟩
def pI(m:Nat)(inv:nk)(ps:List eH)(x:cu)(s:aH):Option (Bool × LG):=
 match x with
 |.normal=>iI m inv ps s
 |_=>none
structure sd (P:ak) (sp:gp) (bq bD br:Array aN):Prop where
 r0:∃o2 ty,bq.toList=bq.toList.dropLast++[o2]/\o2.guard=none/\o2.op=.range ty (.tmp sp.y)/\o2.dst=some sp.it/\(iF P ty).isSome=true
 r1:∃o1 o2,bD.toList=[o1,o2]/\o1.guard=none/\o1.op=.next (.tmp sp.it) false/\o1.dst=some sp.t1/\o2.guard=none/\o2.op=.extract (.tmp sp.t1) 0/\o2.dst=some sp.t2
 r2:∃o1 l,br.toList=o1::l/\o1.guard=none/\o1.op=.entry (.tmp sp.it)/\o1.dst=some sp.t3
def kV(r0 d r1 g r2:Nat)(bq bD br:Array aN)(t2:Tmp)(body:Code):Code:=
 .seq (.region r0 bq false) (.block d (.loop (.seq (.region r1 bD false) (.seq (.cond (.tmp t2) .skip (.exit d)) (.block g (.seq (.region r2 br false) body))))))
theorem LM{d:Option Nat}{g q:Nat}{bq bD br:Array aN}{t2:Tmp}{body:Code}(h:gT d (kV r0 g r1 q r2 bq bD br t2 body)):gT d body:=h.imp id fun h=>by
 simpa[kV,fk]using h
section range
variable {P:ak} {τ:ar} {L:LT} {m:Nat} {sp:gp} {bq bD br:Array aN} {body:Code}
def kW(P:ak)(τ:ar)(L:LT)(m:Nat)(sp:gp)(br:Array aN)(body:Code):Prop:=
 ∀r d,(fY P τ br (br.toList.drop 1) (sp.rs r d) (fun s=>db P τ L body s .done)).leaf (pI m sp.inv sp.ps)=sp.st r d
theorem Sr(hm:P.follows .mixedOrders=true)(A:aw P τ)(F:aQ P m L body)(hr:kW P τ L m sp br body){r d g:LG}(h:sp.st r d=some g) :
  ∃q:aH,fW P τ.pf br (br.toList.drop 1) (sp.rs r d).au q.au/\c_ P m body q.au .normal (aX sp.inv g).au:=by
 rw[<-hr r d]at h;obtain⟨q,M,I⟩:=uc A (Q:=fun x s=>pI m sp.inv sp.ps x s=some (true,g)) (kR h);obtain⟨x,J,N,B⟩:=fo hm A body q .done F I;have B:pI m sp.inv sp.ps x J=some (true,g):=B
 grind[pI,vN,kS]
def Ss(m:Nat)(sp:gp)(E:af)(rZ:LL)(F:LG)(g q aL:Nat)(B:Array MapEntry)(a:Act)(w:be):Prop:=
 ∃(d:LG) (ad:List (Option (Nat × Nat))) (X:XS) (seen:Array Nat) (A:Nat) (p:LL),
  dc sp.st sp.bJ p F=some d/\sp.bJ d=g/\(p++rZ.filter fun x => !seen.contains (cP x)).Perm rZ /\
  bM (aX sp.inv d).au { w:=w,H:=(aX sp.inv d).au.H,ad:=ad,X:=X } a/\E.dO m { w:=w,H:=(aX sp.inv d).au.H,ad:=ad,X:=X }/\X g /\
  w.heap[g]?=some (.mapIter (some q) aL seen A)/\aL<=A/\w.heap[q]?=some (.map B aL) /\
  ¬ af.bC { w:=w,H:=(aX sp.inv d).au.H,ad:=ad,X:=X } q/\di { w:=w,H:=(aX sp.inv d).au.H,ad:=ad,X:=X } (dH sp.K sp.V rZ) B.toList
theorem bM.og(hs:bM s E a)(d:s.fr[t]?=some .undef)(u:al):bM s E (a.put (some t) u):=by
 have h:=hs.kU t (v:=.undef) (u:=u) (by simp[ae])
 simp_all[St.put,lX,qA]
theorem yK(hs:bM s E a){v:AV}(g:s.fr[t]?=some v):t<a.tmps.size:=by
 have q:s.fr.length=a.tmps.size:=by simpa using(rL.1 hs.fr).1
 have d:t<s.fr.length:=bA g;rw[q]at d;exact d
theorem yL{cs:Array al}(d:o.op=.extract (.tmp t) 0)(g:a.eval (.tmp t)=.tuple cs)(hc:cs[0]? = some u):
  (execOp a.eval o).run P w=.ok (.value u) w:=by
 obtain⟨dst,op,q,pos,after,guard⟩:=o;subst d;exact qB (by simp[Instr.extract,g,hc])
theorem yM(d:o.op=.next (.tmp t) false)(g:a.eval (.tmp t)=x)(h:(Instr.next x false o.type).run P w=.ok u w'):
  (execOp a.eval o).run P w=.ok (.value u) w':=by
 obtain⟨dst,op,q,pos,after,guard⟩:=o;subst d;subst g;exact qB h
theorem LN(d:o.op=.entry (.tmp t))(g:a.eval (.tmp t)=x)(h:(Instr.entry x).run P w=.ok u w'):
  (execOp a.eval o).run P w=.ok (.value u) w':=by
 obtain⟨dst,op,q,pos,after,guard⟩:=o;subst d;subst g;exact qB h
theorem LO{ty:TypeId}(d:o.op=.range ty (.tmp t))(g:a.eval (.tmp t)=x)(h:(Instr.range ty x).run P w=.ok u w'):
  (execOp a.eval o).run P w=.ok (.value u) w':=by
 obtain⟨dst,op,q,pos,after,guard⟩:=o;subst d;subst g;exact qB h
theorem se{b:Nat}{o:Obj}(h:w.heap[b]?=some o):b<w.heap.size:=(Array.getElem?_eq_some_iff.1 h).1
theorem yN{r:Nat}{a:Option Nat}{b c:Nat}{s:Array Nat}(h:w.heap[r]?=some (.mapIter a b s c)):w.iterSeen r=s:=by
 unfold World.iterSeen;rw[h]
theorem adJ(hm:P.follows .mixedOrders=true)(ht:aw P τ)(hL:aQ P m L body)(hr:kW P τ L m sp br body)(ho:sd P sp bq bD br)
  (hu1:∀d,(aX sp.inv d).fr[sp.t1]?=some .undef) (hu2:∀d,(aX sp.inv d).fr[sp.t2]?=some .undef) (hut:∀d,(aX sp.inv d).fr[sp.it]?=some (.lit (.pointer (some ⟨sp.bJ d,0,none⟩))))
  {E:af} {rZ:LL} {d0:LG} {itb mb aL:Nat} {ms:Array MapEntry} {r1 b0 b1 r2:Nat}
  (hsz:E.w.heap.size<=itb) (hn:(rZ.map cP).Nodup) (hlt:∀r∈rZ,cP r<aL) (hne:mb≠itb)
  (hfold:∀p,p.Perm rZ->(dc sp.st sp.bJ p d0).isSome=true) {a:Act} {w:be} (hI:Ss m sp E rZ d0 itb mb aL ms a w) (q:Option Nat) (hro:gT q body) :
  (Code.loop (.seq (.region r1 bD false) (.seq (.cond (.tmp sp.t2) .skip (.exit b0)) (.block b1 (.seq (.region r2 br false) body))))).wpIn (fz q) 0 P
   (fun e a1 U=>e=.exit b0/\∃p d,p.Perm rZ/\dc sp.st sp.bJ p d0=some d/\eG m E (aX sp.inv d).au a1 U) a w:=by
 obtain⟨o1,o2,e1,g1,p1,q1,g2,p2,q2⟩:=ho.r1;obtain⟨o3,l,e3,g3,p3,q3⟩:=ho.r2;refine wpIn_loop (Ss m sp E rZ d0 itb mb aL ms) (fun _ w=>(leftOf ms (w.iterSeen itb)).size) hI fun a w hI=>?_;obtain⟨d,ad,X,seen,last,p,hf,had,hp,hs,F,hXi,W,hcl,hmb,hown,hre⟩:=hI;have h10:bD[0]?=some o1:=by
  have:bD.toList[0]?=some o1:=by rw[e1]; rfl
  simpa using this
 have h11:bD[1]?=some o2:=by
  have:bD.toList[1]?=some o2:=by rw[e1]; rfl
  simpa using this
 have hsz1:bD.size=2:=by
  have:bD.toList.length=2:=by rw[e1]; rfl
  simpa using this
 have hiv:a.eval (.tmp sp.it)=.pointer (some ⟨itb,0,none⟩):=by
  have h:=hs.eval (.tmp sp.it);have e:(aX sp.inv d).au.eval (.tmp sp.it)=.lit (.pointer (some ⟨sp.bJ d,0,none⟩)):=by
   show (aX sp.inv d).fr.getD sp.it .undef=_
   rw[dj,hut d];rfl
  rw[e]at h;simp only[ae]at h;rw[h,had]
 obtain⟨hlen,hen⟩:=iG.1 hre;have hl1:(dH sp.K sp.V rZ).length=rZ.length:=by simp[dH]
 have Y:∀(i:Nat) (e:MapEntry),ms.toList[i]?=some e->∃r,rZ[i]?=some r/\e.born=cP r:=by
  intro i e hi;have A:=bA hi;have B:i<rZ.length:=ab;refine⟨rZ[i],bT B,?_⟩;exact(hen i (sp.K.av (gi rZ[i] 0).rV,sp.V.av (gi rZ[i] 1).rV,(gi rZ[i] 2).iV.toNat) e (by simp[dH,B]) hi).2.2.1
 have hold:∀x∈ms.toList,x.born<aL:=by
  intro x M;obtain⟨i,hi⟩:=oW M;obtain⟨r,A,B⟩:=Y i x hi;rw[B];exact hlt r (jj A)
 have hbn:(ms.toList.map (·.born)).Nodup:=by
  have:ms.toList.map (·.born)=rZ.map cP:=by
   apply List.ext_getElem?;intro i;simp only[dw];cases hi:ms.toList[i]? with
   |none=>
    have A:=List.getElem?_eq_none_iff.1 hi;rw[List.getElem?_eq_none ab];rfl
   |some e=>
    obtain⟨r,A,B⟩:=Y i e hi;rw[A];simp[B]
  rw[this];exact hn
 refine wpIn_seq (wpIn_region ?_);rw[hsz1];show wpOpsIn (fz q) 0 P bD _ [0,1] a w
 rw[wpOpsIn_cons];have hlt1:=yK hs (hu1 d);have hlt2:=yK hs (hu2 d);rcases run_next_at (P:=P) w o1.type itb mb aL last seen ms aL W hmb hold hcl with⟨h0,hrun⟩|⟨e,he,U,hw1,hrun⟩
 ·refine kB h10 g1 (yM p1 hiv hrun) (fun c e=>by rw[p1]at e; cases e) q ?_
  rw[q1,wpOpsIn_cons];refine kB h11 g2 (yL p2 (oe hlt1) rfl) (fun c e=>by rw[p2]at e; cases e) q ?_;rw[q2];show (Code.seq _ _).wpIn (fz q) 0 P _ _ w
  refine wpIn_seq (wpIn_cond_false (oe (by simpa[xP]using hlt2)) (wpIn_exit ?_));refine⟨rfl,p,d,?_,hf,ad,X,?_,F⟩
  ·have:(rZ.filter fun x => !seen.contains (cP x))=[]:=by
    rw[List.filter_eq_nil_iff];intro x M hc;obtain⟨i,hi⟩:=oW M;have A:=bA hi;have B:i<ms.toList.length:=ab;obtain⟨r,h3,h4⟩:=Y i _ (bT B);rw[hi]at h3;cases h3;have:ms.toList[i]∈(leftOf ms seen).toList:=by
     unfold leftOf;rw[Array.toList_filter];refine jm.2 ⟨nG B,?_⟩;rw[h4];exact hc
    have h5:(leftOf ms seen).toList.length=0:=by simpa using h0
    rw[List.length_eq_zero_iff.1 h5]at this;cases this
   rwa [this,kL]at hp
  ·exact(hs.og (hu1 d) (.tuple #[.bool false])).og (hu2 d) (.bool false)
 ·refine kB h10 g1 (yM p1 hiv hrun) (fun c e=>by rw[p1]at e; cases e) q ?_
  rw[q1,wpOpsIn_cons];refine kB h11 g2 (yL p2 (oe hlt1) rfl) (fun c e=>by rw[p2]at e; cases e) q ?_;rw[q2];show (Code.seq _ _).wpIn (fz q) 0 P _ _ _
  refine wpIn_seq (wpIn_cond_true (oe (by simpa[xP]using hlt2)) (wpIn_skip ?_));show (Code.block _ _).wpIn (fz q) 0 P _ _ _
  refine wpIn_block (wpIn_seq (wpIn_region ?_));generalize hw2:setBlock U itb (.mapIter (some mb) aL (seen.push e.born) aL)=g;have hw1h:U.heap=w.heap:=by rcases hw1 with rfl|rfl<;>rfl
  have hos:eV w g:=by rw[<-hw2]; rcases hw1 with rfl|rfl<;>exact⟨rfl,rfl,rfl,by first|exact fun _=>bl _|exact fun _=>gk _ _⟩
  have hit2':g.heap[itb]?=some (.mapIter (some mb) aL (seen.push e.born) aL):=by
   rw[<-hw2];exact(Eg (by rw[hw1h]; exact W)).1
  have hother:∀b,b≠itb->g.heap[b]?=w.heap[b]?:=by
   intro b I;rw[<-hw2];show (U.heap.setIfInBounds itb _)[b]?=_
   rw[(Eg (by rw[hw1h]; exact W)).2 b I,hw1h]
  have hsize:g.heap.size=w.heap.size:=by
   rw[<-hw2];show (U.heap.setIfInBounds itb _).size=_
   simp[hw1h]
  have hmb2:g.heap[mb]?=some (.map ms aL):=by rw[hother mb hne]; exact hmb
  have cG:iU { w:=w,H:=(aX sp.inv d).au.H,ad:=ad,X:=X } { w:=g,H:=(aX sp.inv d).au.H,ad:=ad,X:=X }:=
   ⟨rfl,rfl,by show w.heap.size<=g.heap.size; omega,fun b I M=>⟨M,hother b (fun e=>M (by rw[e]; exact hXi))⟩,fun b I=>by show b<g.heap.size; rw[hsize]; exact hs.heap.X b I,rfl⟩
  have hmk:lV g X a.defers:=⟨hs.defers.1,fun dd hdd=>by
   obtain⟨D,e,A,B,h3⟩:=hs.defers.2 dd hdd;exact⟨D,e,by rw[hother D (fun e=>by rw[e]at A; rw[W]at A; cases A)]; exact A,B,h3⟩⟩
  have hs1:=((hs.cG cG hmk).og (hu1 d) (.tuple #[.bool true,e.key,e.val])).og (hu2 d) (.bool true);obtain⟨hem,hes⟩:=mem_left he;obtain⟨i,hi⟩:=oW hem;obtain⟨r,hri,hrb⟩:=Y i e hi;have hrm:=jj hri;have hre2:=pG cG.toC hre;obtain⟨k1,k2,_⟩:=(iG.1 hre2).2 i (sp.K.av (gi r 0).rV,sp.V.av (gi r 1).rV,(gi r 2).iV.toNat) e (by simp[dH,hri]) hi;have hiv1:((a.put (some sp.t1) (.tuple #[.bool true,e.key,e.val])).put (some sp.t2) (.bool true)).eval (.tmp sp.it)=.pointer (some ⟨itb,0,none⟩):=by
   have h:=hs1.eval (.tmp sp.it);have e:(aX sp.inv d).au.eval (.tmp sp.it)=.lit (.pointer (some ⟨sp.bJ d,0,none⟩)):=by
    show (aX sp.inv d).fr.getD sp.it .undef=_
    rw[dj,hut d];rfl
   rw[e]at h;simp only[ae]at h;rw[h,had]
  have h20:br[0]?=some o3:=by
   have:br.toList[0]?=some o3:=by rw[e3]; rfl
   simpa using this
  have hl2:br.toList.drop 1=l:=by rw[e3]; rfl
  have hsz2:br.size=l.length+1:=by
   have:br.toList.length=l.length+1:=by rw[e3]; rfl
   simpa using this
  have hlp:(p++(r::rZ.filter fun x => !(seen.push (cP r)).contains (cP x))).Perm rZ:=
   (List.Perm.append_left p (yJ hn hrm (by rw[<-hrb]; exact hes)).symm).trans hp
  have N:∃J,sp.st r d=some J/\sp.bJ J=sp.bJ d:=by
   have h:=hfold _ hlp;rw[B3,hf]at h;simp only[xS,dc]at h;cases N:sp.st r d with
   |none=>rw[N]at h; cases h
   |some J=>
    rw[N]at h;simp only[]at h;cases I:aA (sp.bJ J) (sp.bJ d)with
    |true=>exact⟨J,rfl,cz I⟩
    |false=>rw[I]at h; cases h
  obtain⟨J,N,had'⟩:=N;have hf':dc sp.st sp.bJ (p++[r]) d0=some J:=by
   rw[B3,hf];simp only[xS,dc,N,had'];simp
  obtain⟨s4,ha4,hsat⟩:=Sr hm ht hL hr N;rw[hsz2,AS,Eb,wpOpsIn_cons];refine kB h20 g3 (LN p3 hiv1 (run_entry_at (P:=P) g itb mb aL seen ms aL e hit2' hmb2 hem hbn)) (fun c e=>by rw[p3]at e; cases e) q ?_;rw[q3];have hs3:=hs1.kU sp.t3 (v:=.tuple [sp.K.av (gi r 0).rV,sp.V.av (gi r 1).rV]) (u:=.tuple #[e.key,e.val]) (by simp only[ae]; exact⟨_,rfl,by simp only[aq]; exact⟨k1,k2,trivial⟩⟩);refine ET (pf:=τ.pf) (ah:=br) l (0+1) (sp.rs r d).au s4.au { w:=g,H:=(aX sp.inv d).au.H,ad:=ad,X:=X } _ (by rw[<-hl2]) (by rw[hl2]at ha4; exact ha4) hs3 (fun a3 w3 hc3=>?_) q;obtain⟨oh,r3,hs4,hle3⟩:=hc3;show body.wpIn (fz q) 0 P _ a3 w3
  refine wpIn_mono (hsat q hro { w:=w3,H:=s4.au.H,ad:=oh,X:=X.re r3 } a3 hs4) fun x a4 w4 M=>?_;obtain⟨rfl,loc4,X4,hs5,hle4⟩:=M;have O:({ w:=g,H:=(aX sp.inv d).au.H,ad:=ad,X:=X }:af).dO m { w:=w4,H:=(aX sp.inv J).au.H,ad:=loc4,X:=X4 }:=hle3.toM.trans hle4;have hXsz:itb<g.heap.size:=se hit2';have hnown:¬ af.bC { w:=g,H:=(aX sp.inv d).au.H,ad:=ad,X:=X } itb:=by
   exact(hs.heap.cG cG).kh hXi
  have hmbsz:mb<g.heap.size:=se hmb2;have hit4:w4.heap[itb]?=some (.mapIter (some mb) aL (seen.push e.born) aL):=by rw[O.same itb hXsz hnown]; exact hit2'
  refine⟨⟨J,loc4,X4,seen.push e.born,aL,p++[r],hf',by rw[had',had],?_,hs5,?_,(O.X itb hXsz).1.2 hXi,hit4,bl _,?_,?_,?_⟩,?_⟩
  ·rw[hrb,pg]
   exact hlp
  ·refine af.dO.trans (E':={ w:=g,H:=(aX sp.inv d).au.H,ad:=ad,X:=X }) ⟨F.cf,?_,?_,F.bC,F.live,F.X,F.rl,F.env.trans hos⟩ O
   ·have:=F.size
    show E.w.heap.size<=g.heap.size
    rw[hsize];exact this
   ·intro b I hbo
    show g.heap[b]?=_
    rw[hother b ab];exact F.same b I hbo
  ·rw[O.same mb hmbsz hown]
   exact hmb2
  ·exact O.bC mb hmbsz hown
  ·exact pG (wB O) hre2
  ·show (leftOf ms (w4.iterSeen itb)).size<(leftOf ms (w.iterSeen itb)).size
   rw[yN hit4,yN W];exact left_shrinks ms seen e he
theorem adK(hm:P.follows .mixedOrders=true)(ht:aw P τ)(hL:aQ P m L body)(hr:kW P τ L m sp br body)(J:sd P sp bq bD br)
  (hu1:∀d,(aX sp.inv d).fr[sp.t1]?=some .undef) (hu2:∀d,(aX sp.inv d).fr[sp.t2]?=some .undef) (hut:∀d,(aX sp.inv d).fr[sp.it]?=some (.lit (.pointer (some ⟨sp.bJ d,0,none⟩))))
  {r1 b0 b1 r2:Nat}
  {s:aH} {d:LG} {rZ:LL} {aL:Nat} (hx:s.eval (.tmp sp.y)=.map sp.id) (hid:s.H[sp.id]?=some (.map sp.K sp.V rZ aL)) (hn:(rZ.map cP).Nodup)
  (hlt:∀r∈rZ,cP r<aL) (hin:∀b,iI m sp.inv sp.ps (iu sp.opens (sp.s2 s b))=some (true,sp.init d b)) (hadr:∀b,sp.bJ (sp.init d b)=b)
  (hfold:∀b p,p.Perm rZ->(dc sp.st sp.bJ p (sp.init d b)).isSome=true) (E:af) (a:Act) (hs:bM s.au E a) (I:Option Nat) (hro:gT I body) {Q:Exit->Act->be->Prop}
  (hQ:∀a1 w1,(∃b p O,p.Perm rZ/\dc sp.st sp.bJ p (sp.init d b)=some O/\eG m E (aX sp.inv O).au a1 w1)->Q .normal a1 w1) :
  wpOpsIn (fz I) 0 P bq (Exit.then ((Code.block b0 (.loop (.seq (.region r1 bD false) (.seq (.cond (.tmp sp.t2) .skip (.exit b0)) (.block b1 (.seq (.region r2 br false) body)))))).wpIn (fz I) 0 P Q) Q) [bq.toList.dropLast.length] a E.w:=by
 obtain⟨o2,ty,e1,g2,p2,q2,U⟩:=J.r0;have h11:bq[bq.toList.dropLast.length]?=some o2:=by
  have:bq.toList[bq.toList.dropLast.length]?=some o2:=by
   rw[e1];simp
  simpa using this
 have hid':E.H[sp.id]?=some (.map (dH sp.K sp.V rZ) aL):=by
  rw[hs.H];exact cn hid
 have hrx:ae E (.map sp.id) (a.eval (.tmp sp.y)):=by
  have:=hs.eval (.tmp sp.y)
  rwa [aH.qC,hx]at this
 obtain⟨A,n,ms,hc,hloc,W,hre⟩:=vF hs.heap hid' hrx;obtain⟨⟨kt,et⟩,U⟩:=Option.isSome_iff_exists.1 U;have hmbs:A<E.w.heap.size:=se W;rw[wpOpsIn_cons];refine kB h11 g2 (LO p2 hc (run_range_map E.w ty kt et A ms aL (lu U) W)) (fun c e=>by rw[p2]at e; cases e) I ?_;rw[q2];show (Code.block _ _).wpIn (fz I) 0 P _ _ _
 generalize N:E.w.alloc (.mapIter (some A) aL #[] aL)=g;have hsize:g.heap.size=E.w.heap.size+1:=by rw[<-N]; show (E.w.heap.push _).size=_; simp
 have hold:∀b,b<E.w.heap.size->g.heap[b]?=E.w.heap[b]?:=fun b q=>by rw[<-N]; exact(show (E.w.heap.push _)[b]?=_ by rw[Array.getElem?_push,iN ab])
 have hitn:g.heap[E.w.heap.size]?=some (.mapIter (some A) aL #[] aL):=by rw[<-N]; exact(show (E.w.heap.push _)[E.w.heap.size]?=_ by simp)
 have hos:eV E.w g:=by rw[<-N]; exact⟨rfl,rfl,rfl,by first|exact fun _=>bl _|exact fun _=>gk _ _⟩
 have hd:=af.x5 hs.heap sp.id;have Y:bM ⟨s.fr,aF (s.H.set sp.id (.raw .dead))⟩ { w:=E.w,H:=E.H.set sp.id .dead,ad:=E.ad.set sp.id none,X:=E.X } a:=by
  refine⟨?_,gJ hd _ hs.fr,hs.defers,aO.drop hs.heap sp.id fun o J=>by rw[hid']at J; cases J; rfl⟩;rw[gn,show E.H=aF s.H from hs.H];rfl
 have cG:iU { w:=E.w,H:=E.H.set sp.id .dead,ad:=E.ad.set sp.id none,X:=E.X } { w:=g,H:=E.H.set sp.id .dead,ad:=E.ad.set sp.id none,X:=E.X.or fun b=>b=E.w.heap.size }:=
  ⟨rfl,rfl,by show E.w.heap.size<=g.heap.size; omega,fun b q hx=>⟨fun h=>h.elim hx (fun e=>absurd q (by rw[e]; exact AW _)),hold b q⟩,fun b q=>by
   show b<g.heap.size
   rcases q with q|q
   ·have:=hs.heap.X b q
    omega
   ·omega,rfl⟩
 have hs3:=(Y.cG cG (tv (X':=E.X.or fun b=>b=E.w.heap.size) (w':=g) Y.defers (fun _ M h2=>⟨.inl M,h2⟩) fun b M _=>hold b (hs.heap.X b M))).kU sp.it (v:=.lit (.pointer (some ⟨E.w.heap.size,0,none⟩))) (u:=.pointer (some ⟨E.w.heap.size,0,none⟩)) (by simp only[ae]);have hs3':bM (sp.s2 s E.w.heap.size).au { w:=g,H:=E.H.set sp.id .dead,ad:=E.ad.set sp.id none,X:=E.X.or fun b=>b=E.w.heap.size } _:=hs3;obtain⟨ad,X4,hs4,F⟩:=((nl sp.opens _).trans (kS (hin E.w.heap.size))) _ _ hs3';have hmbn:¬ af.bC { w:=g,H:=E.H.set sp.id .dead,ad:=E.ad.set sp.id none,X:=E.X.or fun b=>b=E.w.heap.size } A:=by
  rintro(⟨j,c,B⟩|⟨l,k,c,B⟩)
  case inr=>exact hs.heap.eY _ _ _ _ _ _ hloc B
  simp only[iQ]at B;split at B
  ·split at B
   ·cases B
   ·cases B
  ·rename_i hne
   exact hne (hs.heap.inj _ _ _ _ _ hloc B)
 have hmb2:g.heap[A]?=some (.map ms aL):=by rw[hold A hmbs]; exact W
 refine wpIn_block (wpIn_mono (adJ hm ht hL hr J hu1 hu2 hut (E:=E) (rZ:=rZ) (d0:=sp.init d E.w.heap.size) (itb:=E.w.heap.size) (mb:=A) (aL:=aL) (ms:=ms)
  (bl _) hn hlt ab (hfold _) ?_ I hro) fun e a1 w1 hq=>?_)
 ·refine⟨sp.init d E.w.heap.size,ad,X4,#[],aL,[],rfl,hadr _,?_,hs4,?_,(F.X E.w.heap.size (by show _<g.heap.size; omega)).1.2 (.inr rfl),?_,bl _,?_,?_,?_⟩
  ·have:(rZ.filter fun x => !(#[]:Array Nat).contains (cP x))=rZ:=List.filter_eq_self.2 (fun x _=>by simp)
   rw[List.nil_append,this]
  ·refine hd.toM.trans (af.dO.trans (E':={ w:=g,H:=E.H.set sp.id .dead,ad:=E.ad.set sp.id none,X:=E.X.or fun b=>b=E.w.heap.size }) ⟨fun _ _ h=>h,?_,?_,fun b _ h=>h,fun _ _ _ h=>⟨h,rfl⟩,fun b q=>⟨⟨fun h=>h.elim id fun e=>absurd q (by rw[e]; exact AW _),.inl⟩,Iff.rfl⟩,fun _ _ h=>⟨h,fun _ hq=>hq⟩,hos⟩ F)
   ·show E.w.heap.size<=g.heap.size
    omega
   ·exact fun b q _=>hold b q
  ·rw[F.same E.w.heap.size (by show _<g.heap.size; omega) ?_]
   ·exact hitn
   ·exact(Y.heap.cG cG).kh (.inr rfl)
  ·rw[F.same A (by show _<g.heap.size; omega) hmbn]
   exact hmb2
  ·exact F.bC A (by show _<g.heap.size; omega) hmbn
  ·exact pG (wB F) (pG cG.toC (pG hd.toC hre))
 ·obtain⟨rfl,p,O,M,h2,h3⟩:=hq
  simp only[Exit.inBlock,if_true];exact hQ _ _ ⟨_,p,O,M,h2,h3⟩
theorem adL(hm:P.follows .mixedOrders=true)(ht:aw P τ)(hL:aQ P m L body)(hr:kW P τ L m sp br body)(I:sd P sp bq bD br)
  (W:∀d,(aX sp.inv d).fr[sp.t1]?=some .undef) (Y:∀d,(aX sp.inv d).fr[sp.t2]?=some .undef) (hut:∀d,(aX sp.inv d).fr[sp.it]?=some (.lit (.pointer (some ⟨sp.bJ d,0,none⟩))))
  {r0 r1 b0 b1 r2:Nat}
  {s s1:aH} {d:LG} {rZ:LL} {aL:Nat} (hp:fW P τ.pf bq bq.toList.dropLast s.au s1.au) (hx:s1.eval (.tmp sp.y)=.map sp.id) (hid:s1.H[sp.id]?=some (.map sp.K sp.V rZ aL)) (hn:(rZ.map cP).Nodup)
  (A:∀r∈rZ,cP r<aL) (hin:∀b,iI m sp.inv sp.ps (iu sp.opens (sp.s2 s1 b))=some (true,sp.init d b)) (O:∀b,sp.bJ (sp.init d b)=b)
  (N:∀b p,p.Perm rZ->(dc sp.st sp.bJ p (sp.init d b)).isSome=true) (E:af) (a:Act) (hs:bM s.au E a) (g:Option Nat) (hro:gT g body) :
  (kV r0 b0 r1 b1 r2 bq bD br sp.t2 body).wpIn (fz g) 0 P (fun e B F=>e=.normal/\∃b p q,p.Perm rZ/\dc sp.st sp.bJ p (sp.init d b)=some q/\eG m E (aX sp.inv q).au B F) a E.w:=by
 refine wpIn_seq (wpIn_region ?_);obtain⟨o2,ty,J,_⟩:=I.r0;have hsz:bq.size=bq.toList.dropLast.length+1:=by
  have h:=congrArg List.length J;simpa using h
 have hl:jh bq.size=ka 0 bq.toList.dropLast.length++[bq.toList.dropLast.length]:=by
  rw[hsz,List.range_succ,AS]
 rw[hl];refine qL (pf:=τ.pf) g bq.toList.dropLast 0 s.au s1.au E a _ (fun j o M=>?_) hp hs fun B F hc=>?_
 ·have A:=bA M
  have:bq.toList[j]?=some o:=by
   rw[J,fB A];exact M
  simpa using this
 ·obtain⟨U,r1,h1,h2⟩:=hc
  refine adK hm ht hL hr I W Y hut hx hid hn A hin O N { w:=F,H:=s1.au.H,ad:=U,X:=E.X.re r1 } B h1 g hro fun a2 w2 ⟨b,p,q,g1,g2,g3⟩=>?_;exact⟨rfl,b,p,q,g1,g2,eG.after h2.toM g3⟩
noncomputable def ur(rZ:LL)(k:Nat->LL->Option β):Option β:=
 open Classical in if h:∃r,∀b p,p.Perm rZ->k b p=some r then some h.choose else none
theorem B4{k:Nat->LL->Option β}{r:β}(h:ur rZ k=some r):∀b p,p.Perm rZ->k b p=some r:=by
 unfold ur at h;split at h<;>grind
theorem B5{k:Nat->LL->Option β}{r:β}(h:∀b p,p.Perm rZ->k b p=some r):ur rZ k=some r:=by
 cases d:ur rZ k with
 |some q=>
  have g:=B4 d 0 rZ (xT _);rw[h 0 rZ (xT _)]at g;exact g.symm
 |none=>
  unfold ur at d;rw[dif_pos ⟨r,h⟩]at d;cases d
def gq(rZ:LL)(aL:Nat):Bool:=nodupB (rZ.map cP)&&rZ.all fun r=>fT (cP r) aL
theorem B6{aL:Nat}(h:gq rZ aL=true):(rZ.map cP).Nodup/\∀r∈rZ,cP r<aL:=by
 simp only[gq,aR,eX,Nat.blt_eq]at h;exact⟨uf h.1,h.2⟩
noncomputable def kX(sp:gp)(tl:LG->bk)(rZ:LL)(aL:Nat)(d:LG):bk:=
 bif gq rZ aL then ur rZ (fun b p=>bif sp.side d b then (dc sp.st sp.bJ p (sp.init d b)).bind tl else none) else none
def pJ(P:ak)(m:Nat)(c:Code)(sp:bF):Prop:=∀d i g,sp.st d=some (some i,g)->∃o,sp.outs[i]?=some o/\c_ P m c (aX sp.inv d).au o.x (aX o.S g).au
theorem qI.sat{c:Code}(hm:P.follows .mixedOrders=true)(A:aw P τ)(B:aQ P m L c)(hr:qI P τ L m c q):pJ P m c q:=by
 intro d i F g;rw[<-hr d]at g;obtain⟨x,s1,M,I⟩:=fo hm A c (aX q.inv d) .done B (Q:=fun x s=>wy m q.outs 0 x s=some (true,(some i,F))) (kR g);obtain⟨j,o,N,J,O,U⟩:=FN I;simp only[bQ,fC]at J
 grind[vN,kS]
theorem adM{c:Code}(hr:pJ P m c q){s:aH}{t:bB}(h:BU m q s=some t):Ft P m c s t:=by
 unfold BU at h;split at h
 case h_2=>cases h
 rename_i b d J;cases h;intro Q B;simp only[bB.holds,BQ,aR]at B;obtain⟨⟨rfl,A⟩,F⟩:=B;cases g:q.st d with
 |none=>rw[g]at A; cases A
 |some r=>
  obtain⟨k,I⟩:=r;cases k with
  |none=>rw[g]at A; cases A
  |some i=>
   obtain⟨o,M,N⟩:=hr d i I g;rw[g]at F;exact⟨o.x,(aX o.S I),vM ((nl q.opens s).trans (kS J)) N,FO M (fC i).symm F⟩
theorem aQ.F0{fn:Func} (hn:mF q.key (cB (bf fn))=true) (g:aQ P m L (bf fn)) (hr:aQ P m L (bS fn q.key)->pJ P m (bS fn q.key) q):
  aQ P m (L.gF m q) (bf fn):=by
 refine⟨g.1,g.2.1,fun k B A s t d=>?_⟩;simp only[LT.gF]at d;split at d
 ·rename_i e
  have e:=cz e;subst e;have F:=Lx hn A;rw[<-F]at hr;exact adM (hr (g.sub (ui A) (uj A))) d
 ·exact g.2.2 k B A s t d
def B7(o:Option Tmp)(t:Tmp):Bool:=
 match o with
 |some x=>aA x t
 |none=>false
theorem LP{o:Option Tmp}(h:B7 o t=true):o=some t:=by
 cases o with
 |none=>cases h
 |some x=>exact congrArg some (cz h)
def B8(P:ak)(sp:gp)(ah:Array aN):Bool:=
 match ah.toList.getLast? with
 |some ⟨d,.range ty (.tmp b),_,_,_,none⟩=>aA b sp.y&&B7 d sp.it&&(iF P ty).isSome
 |_=>false
def B9(sp:gp)(ah:Array aN):Bool:=
 match ah.toList with
 |[⟨d,.next (.tmp a) false,_,_,_,none⟩,⟨g,.extract (.tmp b) 0,_,_,_,none⟩]=>aA a sp.it&&B7 d sp.t1&&aA b sp.t1&&B7 g sp.t2
 |_=>false
def B_(sp:gp)(ah:Array aN):Bool:=
 match ah.toList with
 |⟨d,.entry (.tmp a),_,_,_,none⟩::_=>aA a sp.it&&B7 d sp.t3
 |_=>false
theorem LQ(d:B8 P sp bq=true)(g:B9 sp bD=true)(q:B_ sp br=true):sd P sp bq bD br:=by
 refine⟨?_,?_,?_⟩
 ·unfold B8 at d
  split at d
  ·rename_i B ty b t' F I e
   simp only[aR]at d;obtain⟨⟨A,J⟩,M⟩:=d;have A:=cz A;subst A;refine⟨⟨B,.range ty (.tmp sp.y),t',F,I,none⟩,ty,?_,rfl,rfl,LP J,M⟩
   grind[List.getLast?_eq_some_iff]
  ·cases d
 ·unfold B9 at g
  split at g
  ·rename_i N a _ _ _ B b _ _ _ e
   simp only[aR]at g
   grind[cz,LP]
  ·cases g
 ·unfold B_ at q
  split at q
  ·rename_i N a _ _ _ l e
   simp only[aR]at q
   grind[cz,LP]
  ·cases q
def sf:Code->Code
 |.seq _ b=>b
 |_=>.skip
def LR:Code->Code
 |.seq (.seq _ (.block _ (.loop c))) _=>c
 |_=>.skip
def qM(c:Code):Code:=match LR c with
 |.seq _ (.seq _ (.block _ (.seq _ b)))=>b
 |_=>.skip
def LU:Code->Array aN
 |.region _ ah _=>ah
 |_=>#[]
def mH:Code->Array aN
 |.seq (.seq r _) _=>LU r
 |_=>#[]
def Ca(c:Code):Array aN:=match LR c with
 |.seq r _=>LU r
 |_=>#[]
def om(c:Code):Array aN:=match LR c with
 |.seq _ (.seq _ (.block _ (.seq r _)))=>LU r
 |_=>#[]
theorem Su{g q t2:Nat}{rest:Code} (h:aQ P m L (.seq (kV r0 g r1 q r2 bq bD br t2 body) rest)):aQ P m L body/\aQ P m L rest:=by
 refine⟨h.sub (fun p d=>?_) (fun p d=>?_),h.sub (fun p d=>?_) (fun p d=>?_)⟩
 ·simp only[cI,kV,cY]
  left;right;split
  ·simp only[cy,cI,cY]
   exact .inr (.inr (.inr (.inr d)))
  ·simp only[cI,cY]
   exact .inr (.inr (.inr d))
 ·simp only[cB,kV,cY]
  exact .inl (.inr (.inr (.inr (.inr (.inr (.inr (.inr (.inr d))))))))
 ·simp only[cI,cY]
  exact .inr d
 ·simp only[cB,cY]
  exact .inr (.inr d)
def Cb(P:ak)(τ:ar)(ah:Array aN)(s:aH):aH:=match (fY P τ ah ah.toList.dropLast s fun s=>.done .normal s).gN with
 |some (_,s1)=>s1
 |none=>s
theorem Cc(d:aw P τ){ah:Array aN}{l:List aN}{s s1:aH}(h:(fY P τ ah l s fun s=>.done .normal s).gN=some (.normal,s1)):fW P τ.pf ah l s.au s1.au:=by
 obtain⟨s',g,q⟩:=uc d (sb h);obtain⟨_,rfl⟩:=q;exact g
theorem adN(hm:P.follows .mixedOrders=true)(ht:aw P τ){rest:Code}{A:bF}(hL:aQ P m L body)(hr:kW P τ L m sp br body)(ho:sd P sp bq bD br)
  (hu1:∀d,(aX sp.inv d).fr[sp.t1]?=some .undef) (hu2:∀d,(aX sp.inv d).fr[sp.t2]?=some .undef) (hut:∀d,(aX sp.inv d).fr[sp.it]?=some (.lit (.pointer (some ⟨sp.bJ d,0,none⟩))))
  {r0 r1 b0 b1 r2:Nat}
  {rZ:LG->LL} {aL:LG->Nat} {pre:LG->aH} (hy:∀d,(fY P τ bq bq.toList.dropLast (aX q.inv d) fun s=>.done .normal s).gN=some (.normal,pre d)) (I:∀d,(pre d).eval (.tmp sp.y)=.map sp.id) (hid:∀d,(pre d).H[sp.id]?=some (.map sp.K sp.V (rZ d) (aL d)))
  (hin:∀d b,iI m sp.inv sp.ps (iu sp.opens (sp.s2 (pre d) b))=some (sp.side d b,sp.init d b)) (hadr:∀d b,sp.bJ (sp.init d b)=b)
  (hinv:A.inv=sp.inv) (houts:A.outs=q.outs) (O:pJ P m rest A) (hst:∀d,q.st d=kX sp A.st (rZ d) (aL d) d) :
  pJ P m (.seq (kV r0 b0 r1 b1 r2 bq bD br sp.t2 body) rest) q:=by
 intro d i M h;rw[hst]at h;unfold kX at h;cases aV:gq (rZ d) (aL d)with
 |false=>rw[aV]at h; cases h
 |true=>
  rw[aV]at h;simp only[cT]at h;have hall:=B4 h;obtain⟨hn,hlt⟩:=B6 aV;have F:∀b p,p.Perm (rZ d)->sp.side d b=true/\∃g,dc sp.st sp.bJ p (sp.init d b)=some g/\A.st g=some (some i,M):=by
   intro b p B;have:=hall b p B;cases W:sp.side d b with
   |false=>rw[W]at this; cases this
   |true=>
    rw[W]at this;simp only[cT]at this;cases J:dc sp.st sp.bJ p (sp.init d b)with
    |none=>rw[J]at this; cases this
    |some g=>
     rw[J]at this;exact⟨rfl,g,rfl,this⟩
  obtain⟨_,g,_,g1⟩:=F 0 (rZ d) (xT _);obtain⟨o,Y,_⟩:=O g i M g1;refine⟨o,by rw[<-houts]; exact Y,fun ro hro E a hs=>wpIn_seq (wpIn_mono (adL hm ht hL hr ho hu1 hu2 hut (Cc ht (hy d)) (I d) (hid d) hn hlt (fun b=>by rw[hin d b,(F b (rZ d) (xT _)).1]) (hadr d) (fun b p B=>?_) E a hs ro (LM hro.seq1)) fun e a1 w1 hq=>?_)⟩
  ·obtain⟨_,N,h2,_⟩:=F b p B
   rw[h2];rfl
  ·obtain⟨rfl,b,p,N,B,J,ad,X,hs2,hle⟩:=hq
   obtain⟨_,d3,h3,h4⟩:=F b p B;rw[J]at h3;cases h3;obtain⟨o',ho2,U⟩:=O N i M h4;rw[Y]at ho2;cases ho2;rw[hinv]at U;exact wpIn_mono (U ro hro.Bj { w:=w1,H:=(aX sp.inv N).au.H,ad:=ad,X:=X } a1 hs2) fun x a2 w2 I=>⟨I.1,eG.after hle I.2⟩
theorem aQ.adO(hm:P.follows .mixedOrders=true)(B:aw P τ){fn:Func}{qr:bF}{b0 b1:Nat}{rZ:LG->LL}{aL:LG->Nat}
  (hn:mF q.key (cB (bf fn))=true) (hL:aQ P m L (bf fn))
  (hc:bS fn q.key=.seq (kV r0 b0 r1 b1 r2 (mH (bS fn q.key)) (Ca (bS fn q.key)) (om (bS fn q.key)) sp.t2 (qM (bS fn q.key))) (sf (bS fn q.key)))
  (g:(B8 P sp (mH (bS fn q.key))&&B9 sp (Ca (bS fn q.key))&&B_ sp (om (bS fn q.key)))=true)
  (hr:kW P τ L m sp (om (bS fn q.key)) (qM (bS fn q.key)))
  (N:∀d,(aX sp.inv d).fr[sp.t1]?=some .undef) (O:∀d,(aX sp.inv d).fr[sp.t2]?=some .undef) (U:∀d,(aX sp.inv d).fr[sp.it]?=some (.lit (.pointer (some ⟨sp.bJ d,0,none⟩))))
  {pre:LG->aH} (hy:∀d,(fY P τ (mH (bS fn q.key)) (mH (bS fn q.key)).toList.dropLast (aX q.inv d) fun s=>.done .normal s).gN=some (.normal,pre d)) (hx:∀d,(pre d).eval (.tmp sp.y)=.map sp.id) (W:∀d,(pre d).H[sp.id]?=some (.map sp.K sp.V (rZ d) (aL d)))
  (Y:∀d b,iI m sp.inv sp.ps (iu sp.opens (sp.s2 (pre d) b))=some (sp.side d b,sp.init d b)) (J:∀d b,sp.bJ (sp.init d b)=b)
  (M:qr.inv=sp.inv) (F:qr.outs=q.outs) (I:qI P τ L m (sf (bS fn q.key)) qr) (hst:∀d,q.st d=kX sp qr.st (rZ d) (aL d) d) :
  aQ P m (L.gF m q) (bf fn):=by
 refine aQ.F0 hn hL fun A=>?_;rw[hc]at A;obtain⟨hLb,hLr⟩:=Su A;simp only[aR]at g;rw[hc];exact adN hm B hLb hr (LQ g.1.1 g.1.2 g.2) N O U hy hx W Y J M F (I.sat hm B hLr) hst
end range
end Go.AL
