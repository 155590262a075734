/-
 What is proved here: shapes: states and arguments as data alone (integers,strings,rZ),read oF abstract states and built from data; what is built says no more than what was read. No program in sight; no condition.
-/
import Derived.Test.YtpgfflhcmodgdaaGreatDoorMC
import Derived.Maps.RangeRun
set_option linter.all false
open Bool renaming and_true->jQ,and_eq_true->aO,false_eq_true->rA,not_eq_true'->xE,and_self->xI,eq_false_iff->ase
open Go renaming Value->ar,FuncId->bJ,World->bh,Program->ak,Oper->aQ
open Go.Act renaming put->Ep
open Go.Exit renaming inBlock->OP
open Go.MapKept renaming heap_set->OV
open Go.Value.slice renaming injEq->qz
open Int renaming toNat_natCast->a7
open List renaming length_cons->cz,append_nil->dY,length_map->cP,getElem?_eq_getElem->cB,mem_of_getElem?->gg,getElem?_append_left->fT,getElem?_set_self->cG,getElem?_set_ne->bL,getElem?_set->gh,getD_eq_getElem?_getD->dc,getElem?_take->sR,getElem?_map->dw,map_cons->e9,range'->mW,cons_append->mX,range'_succ->Eg,length_append->fV,all_eq_true->eD,mem_cons->c_,getElem?_of_mem->sT,mem_append->dm,mem_cons_self->dx,all_cons->pM,mem_cons_of_mem->dh,getElem?_append_right->lf,nodup_cons->oL,getElem?_inj->Jg,append_assoc->kl,mem_map->dS,range->fm,mem_append_left->A5,any_eq_true->pO,range_eq_range'->Jj,headD_cons->xH,mem_filter->mn,getElem?_cons_succ->ZI,getD_cons_succ->asd,find?_cons_of_neg->ZJ,getElem_mem->vp
open List.Perm renaming refl->Jr
open Nat renaming le_refl->aV,le_add_right->gI,zero_le->fy,lt_or_ge->nU,zero_add->dj,beq->aD,eq_of_beq_eq_true->bN,sub_self->oK,ble->dv,blt->dy,le_of_ble_eq_true->vo,lt_irrefl->OT
open Option renaming map_eq_some_iff->gj,getD_some->rD,bind_some->ash
open Option.some renaming injEq->bD,inj->jB
open Prod.mk renaming injEq->bM
namespace Go.AL
open Go
variable [Dr]
inductive gN where
 |int (k:IntKind)|str|bool
 |list (ks:List Kd)|row (ks:List Kd)|cptr (ks:List Kd)
 |nil|any
 |FX (isNil:Bool)
 |fn (f:bJ)
 |ptr (j col:Nat)
 |vQ (j w:Nat)
 |sub (j w:Nat)
 |pre (j w:Nat)
 |wy (ks:List Kd)
 |map (j:Nat)
 |addr
 |FY (f:bJ) (js:List Nat)
 |LI
 deriving Inhabited
abbrev gN.I:gN:=.int .i64
inductive Sh where
 |s (a:gN)
 |clo (f:bJ) (caps:List gN)
 deriving Inhabited
inductive bY where
 |vQ (ks:List Kd) (u:Nat)
 |box (cells:List gN)
 |map (K V:Ct)
 |ij (l T B:Nat)
 |ba (l:Nat) (K:Ct) (ks:List Kd)
 |mm (l:Nat) (K KI VI:Ct)
 |cZ (l:Nat) (ks:List Kd)
 |bU (l:Nat) (K:Ct) (ks:List Kd)
 deriving Inhabited
def bY.mE:bY->Option Nat
 |.ij l _ _=>some l
 |.ba l _ _=>some l
 |.mm l _ _ _=>some l
 |.cZ l _=>some l
 |.bU l _ _=>some l
 |_=>none
def bY.eS:bY->Option Nat
 |.mm l _ _ _=>some l
 |.cZ l _=>some l
 |_=>none
def gN.sz:gN->Nat
 |.int _ | .str | .bool | .list _ | .row _ | .cptr _ | .wy _ | .pre _ _ | .addr=>1
 |.sub _ _=>2
 |_=>0
def tY:List gN->Nat
 |[]=>0
 |a::as=>a.sz+tY as
def Sh.sz:Sh->Nat
 |.s a=>a.sz
 |.clo _ caps=>tY caps
def LJ:List Sh->Nat
 |[]=>0
 |a::as=>a.sz+LJ as
def bY.sz:bY->Nat
 |.vQ _ _=>1
 |.box cells=>tY cells
 |.map _ _=>2
 |.ij _ _ _=>1
 |.ba _ _ _=>2
 |.mm _ _ _ _=>3
 |.cZ _ _=>2
 |.bU _ _ _=>2
def fM:Nat->LG->LG
 |0,d=>d
 |n+1,d=>fM n d.tail
abbrev eU:=List (Nat × Nat)
def eU.len(os:eU)(j:Nat):Nat:=(os.getD j (0,0)).1
def eU.aq(os:eU)(j:Nat):Nat:=(os.getD j (0,0)).2
def wz:List Nat->List AV
 |[]=>[]
 |j::d=>.ptr j 0 0 0 0::wz d
def gF(lens:eU):gN->LG->AV
 |.int k,d=>.lit (.int k (d.headD default).iV)
 |.str,d=>.lit (.string (d.headD default).sV)
 |.bool,d=>.lit (.bool (d.headD default).bV)
 |.list ks,d=>.listF ks (d.headD default).rZ
 |.wy ks,d=>.listF ks (d.headD default).rZ
 |.row ks,d=>.agg (aY ks (d.headD default).rV)
 |.cptr ks,d=>.cptr (aY ks (d.headD default).rV)
 |.nil,_=>.lit (.slice none 0 0)
 |.any,_=>.undef
 |.FX b,_=>.emptyS b
 |.fn f,_=>.clo f []
 |.ptr j h,_=>.ptr j 0 0 0 h
 |.vQ j w,_=>.vQ w j (lens.aq j) 0 (lens.len j)
 |.sub j w,d=>.vQ w j (lens.aq j) (d.headD default).iV.toNat (d.tail.headD default).iV.toNat
 |.pre j w,d=>.vQ w j (lens.aq j) 0 (d.headD default).iV.toNat
 |.map j,_=>.map j
 |.addr,d=>.lit (.pointer (some ⟨(d.headD default).iV.toNat,0,none⟩))
 |.FY f v,_=>.clo f (wz v)
 |.LI,_=>.lit .nilIface
def mF(lens:eU):List gN->LG->List AV
 |[],_=>[]
 |a::as,d=>gF lens a d::mF lens as (fM a.sz d)
def tZ(lens:eU):Sh->LG->AV
 |.s a,d=>gF lens a d
 |.clo f caps,d=>.clo f (mF lens caps d)
def iK(lens:eU):List Sh->LG->List AV
 |[],_=>[]
 |a::as,d=>tZ lens a d::iK lens as (fM a.sz d)
def gO(lens:eU):bY->LG->ax
 |.vQ ks u,d=>.vQ ks u (d.headD default).rZ
 |.box h,d=>.raw (.box (mF lens h d))
 |.map K V,d=>.map K V (d.headD default).rZ (d.tail.headD default).iV.toNat
 |.ij l T B,d=>.raw (.ij l T B (d.headD default).sV)
 |.ba l K ks,d=>.ba l K ks (d.headD default).rZ (d.tail.headD default).iV.toNat
 |.mm l K k v,d=>.mm l K k v (d.headD default).rZ (d.tail.headD default).rZ (d.tail.tail.headD default).iV.toNat
 |.cZ l ks,d=>.cZ l ks (d.tail.headD default).iV.toNat (d.headD default).rZ
 |.bU l K ks,d=>.bU l K ks (d.headD default).rZ (d.tail.headD default).iV.toNat
theorem t_(lens:eU)(sh:bY)(d:LG):(gO lens sh d).ao.label=sh.mE:=by cases sh<;>rfl
theorem Cf(lens:eU)(sh:bY)(d:LG):(gO lens sh d).ao.eS=sh.eS:=by cases sh<;>rfl
def dL(lens:eU):List bY->LG->List ax
 |[],_=>[]
 |o::os,d=>gO lens o d::dL lens os (fM o.sz d)
def pc:List bY->Nat
 |[]=>0
 |o::os=>o.sz+pc os
def cY:List bY->LG->eU
 |[],_=>[]
 |o::os,d=>(match o with
  |.vQ _ u=>((d.headD default).rZ.length,u)
  |_=>(0,0))::cY os (fM o.sz d)
def pd(H:List ax)(e:cJ):List Nat->List AV->Bool
 |[],[]=>true
 |j::d,.ptr id aq k row c::h=>(match H[id]? with
  |some (.raw _)=>aD id (e.at j)&&aD aq 0&&aD k 0&&aD row 0&&aD c 0
  |_=>false)&&pd H e d h
 |_,_=>false
def jG(H:List ax)(e:cJ)(fz:Nat->Bool):gN->AV->Option (Bool × LG)
 |.int k,.lit (.int y n)=>if k=y then some (true,[.i n]) else none
 |.str,.lit (.string s)=>some (true,[.s s])
 |.bool,.lit (.bool b)=>some (true,[.t b])
 |.list ks,a=>match wm ks a with
  |some rZ=>some (true,[.l rZ])
  |none=>match a with
   |.vQ w id aq oF n=>match H[id]? with
    |some (.vQ d v rZ)=>if aq=v/\oF=0/\w=ks.length/\Kd.iX ks d=true/\fz id=true then some (aD n rZ.length,[.l rZ]) else none
    |_=>none
   |_=>none
 |.row ks,a=>match LC ks a with
  |some r=>some (true,[.l [r]])
  |none=>none
 |.cptr ks,.cptr cells=>match jF ks cells with
  |some r=>some (true,[.l [r]])
  |none=>none
 |.cptr ks,.ptr id aq _ row h=>match H[id]? with
  |some (.raw (.box cells))=>match jF ks cells with
   |some r=>if aq=0/\row=0/\h=0/\fz id=true then some (true,[.l [r]]) else none
   |none=>none
  |some (.vQ d v [r])=>if aq=v/\row=0/\h=0/\Kd.iX ks d=true/\fz id=true then some (true,[.l [r]]) else none
  |_=>none
 |.nil,.lit (.slice none 0 0)=>some (true,[])
 |.any,_=>some (true,[])
 |.fn f,.clo g []=>if f=g then some (true,[]) else none
 |.ptr j h,.ptr id aq k row c=>match H[id]? with
  |some (.raw _)=>if id=e.at j/\aq=0/\k=0/\row=0/\c=h then some (true,[]) else none
  |_=>none
 |.vQ j w,.vQ w' id aq oF n=>match H[id]? with
  |some (.vQ _ v rZ)=>if w'=w/\id=e.at j/\aq=v/\oF=0 then some (aD n rZ.length,[]) else none
  |_=>none
 |.sub j w,.vQ w' id aq oF n=>match H[id]? with
  |some (.vQ _ v _)=>if w'=w/\id=e.at j/\aq=v then some (true,[.i oF,.i n]) else none
  |_=>none
 |.pre j w,.vQ w' id aq oF n=>match H[id]? with
  |some (.vQ _ v _)=>if w'=w/\id=e.at j/\aq=v/\oF=0 then some (true,[.i n]) else none
  |some (.cZ _ _ _ _)=>if w'=w/\id=e.at j/\aq=0/\oF=0 then some (true,[.i n]) else none
  |_=>none
 |.wy ks,a=>match wm ks a with
  |some rZ=>some (true,[.l rZ])
  |none=>match a with
   |.vQ w id aq oF n=>match H[id]? with
    |some (.vQ d v rZ)=>if aq=v/\oF=0/\w=ks.length/\Kd.iX ks d=true/\fz id=true then some (dv n rZ.length,[.l (rZ.take n)]) else none
    |_=>none
   |_=>none
 |.map j,.map id=>match H[id]? with
  |some (.map _ _ _ _)=>if id=e.at j then some (true,[]) else none
  |some (.ba _ _ _ _ _)=>if id=e.at j then some (true,[]) else none
  |some (.mm _ _ _ _ _ _ _)=>if id=e.at j then some (true,[]) else none
  |some (.bU _ _ _ _ _)=>if id=e.at j then some (true,[]) else none
  |_=>none
 |.addr,.lit (.pointer (some ⟨b,0,none⟩))=>some (true,[.i (b:Nat)])
 |.FY f I,.clo g M=>if f=g/\pd H e I M=true then some (true,[]) else none
 |.LI,.lit .nilIface=>some (true,[])
 |_,_=>none
def ju(H:List ax)(e:cJ)(fz:Nat->Bool):List gN->List AV->Option (Bool × LG)
 |[],[]=>some (true,[])
 |sh::d,a::as=>match jG H e fz sh a,ju H e fz d as with
  |some (b,g),some (h,k)=>some (b&&h,g++k)
  |_,_=>none
 |_,_=>none
def pe(H:List ax)(e:cJ)(fz:Nat->Bool):Sh->AV->Option (Bool × LG)
 |.s a,v=>jG H e fz a v
 |.clo f caps,.clo g d=>if f=g then ju H e fz caps d else none
 |_,_=>none
def gu(H:List ax)(e:cJ)(fz:Nat->Bool):List Sh->List AV->Option (Bool × LG)
 |[],[]=>some (true,[])
 |sh::d,a::as=>match pe H e fz sh a,gu H e fz d as with
  |some (b,g),some (h,k)=>some (b&&h,g++k)
  |_,_=>none
 |_,_=>none
def ku(H:List ax)(e:cJ)(fz:Nat->Bool):bY->ax->Option (Bool × LG)
 |.vQ ks _,.vQ h _ rZ=>if Kd.iX ks h then some (true,[.l rZ]) else none
 |.box v,.raw (.box cells)=>ju H e fz v cells
 |.map K V,.map k M rZ d=>if K.same k&&V.same M then some (true,[.l rZ,.i d]) else none
 |.ij l T B,.raw (.ij l' N O s)=>if (aD l l'&&(aD T N&&aD B O))=true then some (true,[.s s]) else none
 |.ba l K ks,.ba l' k h rZ d=>if (aD l l'&&(K.same k&&Kd.iX ks h))=true then some (true,[.l rZ,.i d]) else none
 |.mm l K U W,.mm l' k y I rZ mem d=>if (aD l l'&&(K.same k&&(U.same y&&W.same I)))=true then some (true,[.l rZ,.l mem,.i d]) else none
 |.cZ l ks,.cZ l' h n ms=>if (aD l l'&&Kd.iX ks h)=true then some (true,[.l ms,.i n]) else none
 |.bU l K ks,.bU l' k h rZ d=>if (aD l l'&&(K.same k&&Kd.iX ks h))=true then some (true,[.l rZ,.i d]) else none
 |_,_=>none
variable {H:List ax} {b:Bool} {e:cJ} {fz:Nat->Bool} {g d:LG} {o:ax} {sh:bY} {a:AV} {c:ar} {id k n v l m aM:Nat} {ks:List Kd} {lens:eU} {E:ah} {az:List Nat} {os:List bY} {s:aG} {fn:Func} {P:ak} {β:Type}
theorem LK(h:ku H e fz sh o=some (b,g)):o.ao.label=sh.mE:=by
 unfold ku at h;split at h
 ·rfl
 ·rfl
 ·rfl
 ·split at h
  ·rename_i d
   simp only[aO]at d;have:=bN d.1;subst this;rfl
  ·cases h
 ·split at h
  ·rename_i d
   simp only[aO]at d;have:=bN d.1;subst this;rfl
  ·cases h
 ·split at h
  ·rename_i d
   simp only[aO]at d;have:=bN d.1;subst this;rfl
  ·cases h
 ·split at h
  ·rename_i d
   simp only[aO]at d;have:=bN d.1;subst this;rfl
  ·cases h
 ·split at h
  ·rename_i d
   simp only[aO]at d;have:=bN d.1;subst this;rfl
  ·cases h
 ·cases h
theorem Cg(h:ku H e fz sh o=some (b,g)):o.ao.eS=sh.eS:=by
 unfold ku at h;split at h
 ·rfl
 ·rfl
 ·rfl
 ·rfl
 ·rfl
 ·split at h
  ·rename_i d
   simp only[aO]at d;have:=bN d.1;subst this;rfl
  ·cases h
 ·split at h
  ·rename_i d
   simp only[aO]at d;have:=bN d.1;subst this;rfl
  ·cases h
 ·rfl
 ·cases h
def lX(H:List ax)(e:cJ)(fz:Nat->Bool):List bY->List Nat->Option (Bool × LG)
 |[],[]=>some (true,[])
 |o::os,i::d=>match H[i]? with
  |some t=>match ku H e fz o t,lX H e fz os d with
   |some (b,g),some (h,k)=>some (b&&h,g++k)
   |_,_=>none
  |none=>none
 |_,_=>none
theorem qM:∀(g d:LG),fM g.length (g++d)=d
 |[],_=>rfl
 |_::g,d=>qM g d
def wA:ax->Nat
 |.vQ _ v _=>v
 |_=>0
def wB(H:List ax)(id:Nat):Nat:=match H[id]? with
 |some o=>wA o
 |none=>0
def bZ(H:List ax)(az:List Nat):cJ:=⟨az,az.map (wB H),H.length⟩
structure FZ (E0:ah) (lens:eU) (j:Nat) (o:ax):Prop where
 aq:o.ao.aX=some (wA o)
 obj:∃o0,E0.H[j]?=some o0/\o0.aX=some (lens.aq j)
 mm:∀o0,E0.H[j]?=some o0->o0.eS=o.ao.eS
 len:∀ks v rZ,o=.vQ ks v rZ->lens.len j=rZ.length
 flat:(∀ks v rZ,o≠.vQ ks v rZ)->lens.aq j=0
structure ls (H:List ax) (e:cJ) (fz:Nat->Bool) (lens:eU) (E E0:ah):Prop where
 hH:E.H=ay H
 HE:aJ E
 free:∀i,fz i=true->∀b n,E.ae[i]?=some (some (b,n))->E0.mo b
 en:KeepIn e E E0
 obj:∀j o,H[e.at j]?=some o->j<e.az.length/\FZ E0 lens j o
section en
variable {H:List ax} {e:cJ} {fz:Nat->Bool} {lens:eU} {E E0:ah}
theorem FZ.bF{j:Nat}{o:ax}(h:FZ E0 lens j o):E0.bF j (lens.aq j):=by
 obtain⟨o0,h1,d⟩:=h.obj;exact⟨o0,h1,aj.ED d,fun v k=>by rw[d]at k; cases k; exact aV _⟩
theorem adt(K:ls H e fz lens E E0){rZ:LL}(M:H[id]? = some (.vQ ks v rZ))(N:fz id=true)(hn:n=rZ.length)
  (hr:ad E (.vQ ks.length id v 0 n) c):ad E0 (.listF ks rZ) c:=by
 subst hn;have h:E.H[id]?=some (.vQ ks.length v (rZ.map (aY ks))):=by rw[K.hH]; exact bt M
 have ho:=K.HE.obj id _ h;rw[lM];simp only[ad]at hr|-;obtain⟨⟨aU,cap,rfl,I,_⟩,_,d⟩:=hr;obtain⟨q1,O⟩:=d ⟨_,h,rfl⟩;have k:gn (rZ.map (aY ks)):=by
  intro r hr;obtain⟨g,_,rfl⟩:=dS.1 hr;exact iR ks g
 refine⟨k,aU,cap,au,by simpa using I,?_⟩;simp only[a6]at ho;rcases ho with⟨h1,U⟩|⟨b,m,h1,U,d,_,W⟩
 grind
 ·obtain⟨g1,o,g2,y⟩:=O b m h1
  by_cases hm:rZ=[]
  grind
  ·right
   have:0<rZ.length:=by cases rZ<;>grind
   simp at d;have ho:=g2 ab;simp at ho;subst ho;simp only[qz]at y;exact⟨b,0,y.1,K.free id N b m h1,mq K.en.ct _ k (by rw[K.en.w]) W⟩
theorem adu(K:ls H e fz lens E E0){rZ:LL}(N:H[id]? = some (.vQ ks v rZ))(O:fz id=true)(hn:n<=rZ.length)
  (hr:ad E (.vQ ks.length id v 0 n) c):ad E0 (.listF ks (rZ.take n)) c:=by
 have h:E.H[id]?=some (.vQ ks.length v (rZ.map (aY ks))):=by rw[K.hH]; exact bt N
 have ho:=K.HE.obj id _ h;rw[lM];simp only[ad]at hr|-;obtain⟨⟨aU,cap,rfl,M,_⟩,_,d⟩:=hr;obtain⟨q1,U⟩:=d ⟨_,h,rfl⟩;have y:gn ((rZ.take n).map (aY ks)):=by
  intro r hr;obtain⟨g,_,rfl⟩:=dS.1 hr;exact iR ks g
 have k:min n rZ.length=n:=Nat.min_eq_left hn;refine⟨y,aU,cap,by simp[k],by simpa[k]using M,?_⟩;simp only[a6]at ho;rcases ho with⟨h1,W⟩|⟨b,m,h1,W,d,_,h4⟩
 grind
 ·obtain⟨g1,o,g2,I⟩:=U b m h1
  by_cases hm:n=0
  grind
  ·right
   simp at d;have ho:=g2 ab;simp at ho;subst ho;simp only[qz]at I;refine⟨b,0,I.1,K.free id O b m h1,mq K.en.ct _ y (by rw[K.en.w]) ?_⟩;rw[pS]at h4|-
   grind
theorem adv(K:ls H e fz lens E E0){cells:List AV} (y:H[id]? = some (.raw (.box cells))) (v:AV.cd cells=true) (I:fz id=true)
  (hr:ad E (.ptr id 0 k 0 0) c):ad E0 (.cptr cells) c:=by
 have h:E.H[id]?=some (.box cells):=by rw[K.hH]; exact bt y
 have ho:=K.HE.obj id _ h;simp only[a6]at ho;obtain⟨b,n,h1,U,M⟩:=ho;simp only[ad]at hr|-;obtain⟨_,_,N⟩:=hr;obtain⟨W,n',d,O⟩:=N ⟨_,h,rfl⟩;rw[h1]at d;simp only[bD,bM]at d;obtain⟨rfl,rfl⟩:=d;exact⟨v,b,0,by rw[O]; simp,K.free id I b n h1,xO K.en.ct cells v (by rw[K.en.w]) M⟩
theorem adw(K:ls H e fz lens E E0){r:LG}(M:H[id]? = some (.vQ ks v [r]))(N:fz id=true)
  (hr:ad E (.ptr id v k 0 0) c):ad E0 (.cptr (aY ks r)) c:=by
 have h:E.H[id]?=some (.vQ ks.length v [aY ks r]):=by rw[K.hH]; exact bt M
 have ho:=K.HE.obj id _ h;simp only[a6]at ho;simp only[ad]at hr|-;obtain⟨_,_,O⟩:=hr;obtain⟨W,n',d,U⟩:=O ⟨_,h,rfl⟩;rcases ho with⟨_,y⟩|⟨b,m,h1,y,h3,h4,I⟩
 ·cases y
 ·rw[h1]at d
  simp only[bD,bM]at d;obtain⟨rfl,rfl⟩:=d;simp only[dI]at I;exact⟨iR ks r,b,0,by rw[U]; simp,K.free id N b m h1,xO K.en.ct _ (iR ks r) (by rw[K.en.w]) I.2.1⟩
theorem RH(K:ls H e fz lens E E0):∀{d:List Nat} {y:List AV},pd H e d y=true->∀ cs,aw E y cs->aw E0 (wz d) cs
 |[],[],_,cs,hr=>by
  cases cs with
  |nil=>simp[wz,aw]
  |cons _ _=>simp[aw]at hr
 |j::d,v::y,h,cs,hr=>by
  cases v<;>simp only[pd,rA]at h<;>try cases h
  rename_i id aq k row c;simp only[aO]at h;obtain⟨h1,h2⟩:=h;split at h1
  ·rename_i r hid
   simp only[aO]at h1;obtain⟨⟨⟨⟨I,M⟩,N⟩,O⟩,U⟩:=h1;have I:=bN I;have M:=bN M;have N:=bN N;have O:=bN O;have U:=bN U;subst I M N O U;cases cs with
   |nil=>simp[aw]at hr
   |cons c cs=>
    simp only[aw]at hr;simp only[wz,aw];refine⟨?_,RH K h2 cs hr.2⟩;obtain⟨hj,W⟩:=K.obj _ _ hid;have hv:=W.flat (fun _ _ _ h=>by cases h);have hr1:=hr.1;simp only[ad]at hr1|-;obtain⟨h1,h2,h3⟩:=hr1;refine⟨h1,by have:=W.bF; grind,fun _=>?_⟩;rw[K.en.ae _ hj];exact h3 ⟨_,by rw[K.hH]; exact bt hid,W.aq⟩
  ·cases h1
 |[],_::_,h,_,_=>by simp[pd]at h
 |_::_,[],h,_,_=>by simp[pd]at h
theorem RI(K:ls H e fz lens E E0){sh:gN}(h:jG H e fz sh a=some (true,g))(rest:LG):
  g.length=sh.sz/\∀c,ad E a c->ad E0 (gF lens sh (g++rest)) c:=by
 unfold jG at h;split at h
 ·split at h
  ·rename_i hk
   subst hk;cases h;exact⟨rfl,fun c hr=>by simp only[ad]at hr; subst hr; simp[gF,ad,G.iV]⟩
  ·cases h
 ·cases h; exact⟨rfl,fun c hr=>by simp only[ad]at hr; subst hr; simp[gF,ad,G.sV]⟩
 ·cases h; exact⟨rfl,fun c hr=>by simp only[ad]at hr; subst hr; simp[gF,ad,G.bV]⟩
 ·split at h
  ·rename_i rZ hr
   cases h;exact⟨rfl,fun c d=>gk K.en.ct (.listF _ rZ) rfl (Rs hr d)⟩
  ·split at h
   ·split at h
    ·rename_i k
     split at h
     ·rename_i d
      obtain⟨rfl,rfl,rfl,N,W⟩:=d;simp only[bD,bM]at h;obtain⟨h1,rfl⟩:=h;have N:=Kd.jV N;subst N;exact⟨rfl,fun c hr=>adt K k W (bN h1) hr⟩
     ·cases h
    ·cases h
   ·cases h
 ·split at h
  ·rename_i ks a r hr
   cases h;have e1:=Rt hr;subst e1;exact⟨rfl,fun c d=>gk K.en.ct (.agg (aY ks r)) (by simp only[AV.closed,iR]) d⟩
  ·cases h
 ·split at h
  ·rename_i r hr
   cases h;have e1:=og hr;subst e1;exact⟨rfl,fun c d=>gk K.en.ct (.cptr _) rfl d⟩
  ·cases h
 ·split at h
  ·rename_i k
   split at h
   ·rename_i r hr
    split at h
    ·rename_i d
     obtain⟨rfl,rfl,rfl,W⟩:=d;cases h;have e1:=og hr;subst e1;exact⟨rfl,fun c hr=>adv K k (iR _ _) W hr⟩
    ·cases h
   ·cases h
  ·rename_i ks' v r k
   split at h
   ·rename_i d
    obtain⟨rfl,rfl,rfl,N,W⟩:=d;cases h;have N:=Kd.jV N;subst N;exact⟨rfl,fun c hr=>adw K k W hr⟩
   ·cases h
  ·cases h
 ·cases h; exact⟨rfl,fun c hr=>by simpa only[gF,ad]using hr⟩
 ·cases h; exact⟨rfl,fun c hr=>by simp[gF,ad]⟩
 ·split at h
  ·rename_i hk
   subst hk;cases h;exact⟨rfl,fun c hr=>gk K.en.ct (.clo _ []) rfl hr⟩
  ·cases h
 ·split at h
  ·rename_i r k
   split at h
   ·rename_i d
    obtain⟨rfl,rfl,rfl,rfl,rfl⟩:=d;cases h;obtain⟨I,y⟩:=K.obj _ _ k;have O:=y.flat (fun _ _ _ h=>by cases h);refine⟨rfl,fun c hr=>?_⟩;simp only[ad]at hr;simp only[gF,ad];obtain⟨h1,U,M⟩:=hr;refine⟨h1,by have:=y.bF; rwa [O]at this,fun _=>?_⟩;rw[K.en.ae _ I];exact M ⟨_,by rw[K.hH]; exact bt k,y.aq⟩
   ·cases h
  ·cases h
 ·split at h
  ·rename_i ks v rZ k
   split at h
   ·rename_i d
    obtain⟨rfl,rfl,rfl,rfl⟩:=d;simp only[bD,bM]at h;obtain⟨h1,rfl⟩:=h;have h1:=bN h1;subst h1;obtain⟨I,y⟩:=K.obj _ _ k;refine⟨rfl,fun c hr=>?_⟩;simp only[ad]at hr;simp only[gF,ad];rw[y.len _ _ _ rfl];obtain⟨h1,U,M⟩:=hr;refine⟨h1,y.bF,fun _=>?_⟩;rw[K.en.ae _ I];exact M ⟨_,by rw[K.hH]; exact bt k,y.aq⟩
   ·cases h
  ·cases h
 ·split at h
  ·rename_i ks v rZ k
   split at h
   ·rename_i d
    obtain⟨rfl,rfl,rfl⟩:=d;cases h;obtain⟨I,y⟩:=K.obj _ _ k;refine⟨rfl,fun c hr=>?_⟩;simp only[ad]at hr;simp only[gF,ad,mX,xH,List.tail_cons,G.iV,a7];obtain⟨h1,U,M⟩:=hr;refine⟨h1,y.bF,fun _=>?_⟩;rw[K.en.ae _ I];exact M ⟨_,by rw[K.hH]; exact bt k,y.aq⟩
   ·cases h
  ·cases h
 ·split at h
  ·rename_i ks v rZ k
   split at h
   ·rename_i d
    obtain⟨rfl,rfl,rfl,rfl⟩:=d;cases h;obtain⟨I,y⟩:=K.obj _ _ k;refine⟨rfl,fun c hr=>?_⟩;simp only[ad]at hr;simp only[gF,ad,mX,xH,G.iV,a7];obtain⟨h1,U,M⟩:=hr;refine⟨h1,y.bF,fun _=>?_⟩;rw[K.en.ae _ I];exact M ⟨_,by rw[K.hH]; exact bt k,y.aq⟩
   ·cases h
  ·rename_i l1 ks1 n1 ms1 k
   split at h
   ·rename_i d
    obtain⟨rfl,rfl,rfl,rfl⟩:=d;cases h;obtain⟨I,y⟩:=K.obj _ _ k;have O:=y.flat (fun _ _ _ h=>by cases h);refine⟨rfl,fun c hr=>?_⟩;simp only[ad]at hr;simp only[gF,ad,mX,xH,G.iV,a7];obtain⟨h1,U,M⟩:=hr;refine⟨h1,y.bF,fun _=>?_⟩;rw[K.en.ae _ I];exact M ⟨_,by rw[K.hH]; exact bt k,y.aq⟩
   ·cases h
  ·cases h
 ·split at h
  ·rename_i rZ hr
   cases h;exact⟨rfl,fun c d=>gk K.en.ct (.listF _ rZ) rfl (Rs hr d)⟩
  ·split at h
   ·split at h
    ·rename_i k
     split at h
     ·rename_i d
      obtain⟨rfl,rfl,rfl,N,W⟩:=d;simp only[bD,bM]at h;obtain⟨h1,rfl⟩:=h;have N:=Kd.jV N;subst N;exact⟨rfl,fun c hr=>adu K k W (vo h1) hr⟩
     ·cases h
    ·cases h
   ·cases h
 ·split at h
  ·rename_i K1 V1 rZ cl k
   split at h
   ·rename_i d
    subst d;cases h;obtain⟨I,y⟩:=K.obj _ _ k;have O:=y.flat (fun _ _ _ h=>by cases h);refine⟨rfl,fun c hr=>?_⟩;simp only[ad]at hr;simp only[gF,ad];obtain⟨h1,U,M⟩:=hr;refine⟨h1,by have:=y.bF; rwa [O]at this,fun _=>?_⟩;rw[K.en.ae _ I];exact M ⟨_,by rw[K.hH]; exact bt k,y.aq⟩
   ·cases h
  ·rename_i l1 K1 ks1 rZ cl k
   split at h
   ·rename_i d
    subst d;cases h;obtain⟨I,y⟩:=K.obj _ _ k;have O:=y.flat (fun _ _ _ h=>by cases h);refine⟨rfl,fun c hr=>?_⟩;simp only[ad]at hr;simp only[gF,ad];obtain⟨h1,U,M⟩:=hr;refine⟨h1,by have:=y.bF; rwa [O]at this,fun _=>?_⟩;rw[K.en.ae _ I];exact M ⟨_,by rw[K.hH]; exact bt k,y.aq⟩
   ·cases h
  ·rename_i l1 K1 KI1 VI1 rZ mem cl k
   split at h
   ·rename_i d
    subst d;cases h;obtain⟨I,y⟩:=K.obj _ _ k;have O:=y.flat (fun _ _ _ h=>by cases h);refine⟨rfl,fun c hr=>?_⟩;simp only[ad]at hr;simp only[gF,ad];obtain⟨h1,U,M⟩:=hr;refine⟨h1,by have:=y.bF; rwa [O]at this,fun _=>?_⟩;rw[K.en.ae _ I];exact M ⟨_,by rw[K.hH]; exact bt k,y.aq⟩
   ·cases h
  ·rename_i l1 K1 ks1 rZ cl k
   split at h
   ·rename_i d
    subst d;cases h;obtain⟨I,y⟩:=K.obj _ _ k;have O:=y.flat (fun _ _ _ h=>by cases h);refine⟨rfl,fun c hr=>?_⟩;simp only[ad]at hr;simp only[gF,ad];obtain⟨h1,U,M⟩:=hr;refine⟨h1,by have:=y.bF; rwa [O]at this,fun _=>?_⟩;rw[K.en.ae _ I];exact M ⟨_,by rw[K.hH]; exact bt k,y.aq⟩
   ·cases h
  ·cases h
 ·cases h; exact⟨rfl,fun c hr=>by simp only[ad]at hr; subst hr; simp[gF,ad,G.iV]⟩
 ·split at h
  ·rename_i d
   obtain⟨rfl,d⟩:=d;cases h;refine⟨rfl,fun c hr=>?_⟩;simp only[ad]at hr;simp only[gF,ad];obtain⟨cs,r1,r2⟩:=hr;exact⟨cs,r1,RH K d _ r2⟩
  ·cases h
 ·cases h; exact⟨rfl,fun c hr=>by simpa only[gF,ad]using hr⟩
 ·cases h
theorem LM(K:ls H e fz lens E E0):∀{k:List gN} {as:List AV} {g:LG},ju H e fz k as=some (true,g)->∀(d:LG),
  g.length=tY k/\as.length=k.length/\(mF lens k (g++d)).length=k.length /\
   (∀cs,aw E as cs->aw E0 (mF lens k (g++d)) cs)/\∀b o,E0.w.heap[b]?=E.w.heap[b]?->dz E as b o->dz E0 (mF lens k (g++d)) b o
 |[],[],g,h,d=>by
  simp only[ju,bD,bM]at h;obtain⟨_,rfl⟩:=h;refine⟨rfl,rfl,rfl,fun cs hr=>?_,fun b o _ hr=>by simp[mF,dz]⟩;cases cs with
  |nil=>simp[mF,aw]
  |cons _ _=>simp[aw]at hr
 |sh::k,a::as,g,h,d=>by
  simp only[ju]at h;split at h
  ·rename_i b y O v h1 I
   simp only[bD,bM,aO]at h;obtain⟨⟨rfl,rfl⟩,rfl⟩:=h;obtain⟨p1,U⟩:=RI K h1 (v++d);obtain⟨M,N,W,q5,q6⟩:=LM K I d;have e1:fM sh.sz (y++(v++d))=v++d:=by rw[<-p1]; exact qM y _
   refine⟨by simp only[tY,fV,p1,M],by simp only[cz,N],?_,?_,?_⟩
   grind[mF]
   ·intro cs hr
    cases cs with
    |nil=>simp[aw]at hr
    |cons c cs=>
     grind[aw,mF]
   grind[dz,mF,World.xN]
  ·cases h
 |[],_::_,_,h,_=>by simp[ju]at h
 |_::_,[],_,h,_=>by simp[ju]at h
theorem RJ(K:ls H e fz lens E E0){sh:Sh}(h:pe H e fz sh a=some (true,g))(d:LG):
  g.length=sh.sz/\∀c,ad E a c->ad E0 (tZ lens sh (g++d)) c:=by
 cases sh with
 |s y=>exact RI K h d
 |clo f caps=>
  cases a<;>simp only[pe]at h<;>try cases h
  rename_i I M;split at h
  ·rename_i k
   subst k;obtain⟨v,N,O,U,W⟩:=LM K h d;refine⟨v,fun c hr=>?_⟩
   grind[ad,tZ]
  ·cases h
theorem wC(K:ls H e fz lens E E0):∀{k:List Sh} {as:List AV} {g:LG},gu H e fz k as=some (true,g)->∀(d:LG),
  g.length=LJ k/\as.length=k.length/\(iK lens k (g++d)).length=k.length/\(∀cs,aw E as cs->aw E0 (iK lens k (g++d)) cs)
 |[],[],g,h,d=>by
  simp only[gu,bD,bM]at h;obtain⟨_,rfl⟩:=h;refine⟨rfl,rfl,rfl,fun cs hr=>?_⟩;cases cs with
  |nil=>simp[iK,aw]
  |cons _ _=>simp[aw]at hr
 |sh::k,a::as,g,h,d=>by
  simp only[gu]at h;split at h
  ·rename_i b y b' v h1 M
   simp only[bD,bM,aO]at h;obtain⟨⟨rfl,rfl⟩,rfl⟩:=h;obtain⟨p1,N⟩:=RJ K h1 (v++d);obtain⟨O,U,W,q5⟩:=wC K M d;have I:fM sh.sz (y++(v++d))=v++d:=by rw[<-p1]; exact qM y _
   refine⟨by simp only[LJ,fV,p1,O],by simp only[cz,U],by simp only[iK,kl,I,cz,W],?_⟩;intro cs hr;cases cs with
   |nil=>simp[aw]at hr
   |cons c cs=>
    simp only[aw]at hr;simp only[iK,kl,I,aw];exact⟨N c hr.1,q5 cs hr.2⟩
  ·cases h
 |[],_::_,_,h,_=>by simp[gu]at h
 |_::_,[],_,h,_=>by simp[gu]at h
theorem RL(K:ls H e fz lens E E0):∀{y:List Sh} {as:List AV} {g:LG},gu H e fz y as=some (true,g)->∀{d:LG} {k:Nat} {x v:AV} {c:ar},
  as[k]?=some x->(iK lens y (g++d))[k]?=some v->ad E x c->ad E0 v c
 |[],[],_,_,_,_,_,_,_,I,_,_=>by simp at I
 |sh::y,a::as,g,h,d,k,x,v,c,I,N,hr=>by
  simp only[gu]at h;split at h
  ·rename_i b O b' M h1 U
   simp only[bD,bM,aO]at h;obtain⟨⟨rfl,rfl⟩,rfl⟩:=h;obtain⟨p1,p3⟩:=RJ K h1 (M++d);have W:fM sh.sz (O++(M++d))=M++d:=by rw[<-p1]; exact qM O _
   simp only[iK,kl,W]at N;cases k with
   |zero=>
    grind
   |succ k=>exact RL K U (by simpa using I) (by simpa using N) hr
  ·cases h
 |[],_::_,_,h,_,_,_,_,_,_,_,_=>by simp[gu]at h
 |_::_,[],_,h,_,_,_,_,_,_,_,_=>by simp[gu]at h
theorem LN(K:ls H e fz lens E E0)(h:ku H e fz sh o=some (true,g))(rest:LG)
  {j:Nat} (hj:j<e.az.length) (hlab:∀l,sh.mE=some l->E0.X.r l=E.X.r l) (ho:a6 E (e.at j) o.ao):a6 E0 j (gO lens sh (g++rest)).ao:=by
 have M:∀b:Nat,E0.w.heap[b]?=E.w.heap[b]?:=fun b=>by rw[K.en.w]
 have U:=K.en.ae j hj;unfold ku at h;split at h
 ·split at h
  ·rename_i y
   cases h;have y:=Kd.jV y;subst y;simp only[gO,ax.ao,a6]at ho|-;rcases ho with⟨h1,d⟩|⟨b,m,h1,d,I,h4,h5⟩
   ·exact .inl ⟨by rw[U,h1],d⟩
   ·exact .inr ⟨b,m,by rw[U,h1],xP (M b) d,I,h4,mq K.en.ct _ h4 (M b) h5⟩
  ·cases h
 ·rename_i shs cells
  obtain⟨q1,q2,q3,q5,q6⟩:=LM K h rest
  grind[gO,ax.ao,a6,xP]
 ·split at h
  ·rename_i y
   cases h;simp only[aO]at y;have h1:=Ct.nt y.1;have d:=Ct.nt y.2;subst h1;subst d;simp only[gO,ax.ao,a6]at ho|-;obtain⟨b,n,W,h1,d,I⟩:=ho;refine⟨b,n,W,by rw[U,h1],?_,lW K.en.ct I⟩
   grind[G.iV]
  ·cases h
 ·rename_i l T B l' T' B' s
  split at h
  ·rename_i y
   cases h;simp only[aO]at y;obtain⟨h1,d,I⟩:=y;have h1:=bN h1;have d:=bN d;have I:=bN I;subst h1 d I;simp only[gO,ax.ao,a6]at ho|-;obtain⟨b,n,p,v,k,q,N,g2,O,g4,g5,g6⟩:=ho;have hr:=hlab l rfl;exact⟨b,n,p,v,k,q,by rw[U,N],by rw[M b,g2],O,by rw[hr,g4],by rw[hr]; exact g5,JF (fun g m _=>M g) (by simpa[G.sV]using g6)⟩
  ·cases h
 ·rename_i l K0 ks l' K' ks' rZ clock
  split at h
  ·rename_i y
   cases h;simp only[aO]at y;obtain⟨h1,d,I⟩:=y;have h1:=bN h1;have d:=Ct.nt d;have I:=Kd.jV I;subst h1 d I;simp only[gO,ax.ao,a6]at ho|-;obtain⟨b,n,W,N,g2,O,g4⟩:=ho;have hr:=hlab l rfl;refine⟨b,n,W,by rw[U,N],?_,lW K.en.ct O,Bd (E:=E) (fun h g m hk=>⟨by rw[hr]; exact hk,M g⟩) (fun _ _ _ _ _ b' hb2 hc hr2=>mq K.en.ct _ hc hb2 hr2) g4⟩
   grind[G.iV]
  ·cases h
 ·rename_i l K0 KI VI l' K' KI' VI' rZ mem clock
  split at h
  ·rename_i y
   cases h;simp only[aO]at y;obtain⟨h1,d,I,h4⟩:=y;have h1:=bN h1;have d:=Ct.nt d;have I:=Ct.nt I;have h4:=Ct.nt h4;subst h1 d I h4;simp only[gO,ax.ao,a6]at ho|-;obtain⟨b,n,W,N,g2,O,g4⟩:=ho;have hr:=hlab l rfl;refine⟨b,n,W,by rw[U,N],?_,lW K.en.ct O,JH hr (fun _ b' _ _=>M b') (fun _ _ _=>lW K.en.ct) g4⟩
   grind[G.iV]
  ·cases h
 ·rename_i l ks l' ks' n W
  split at h
  ·rename_i y
   cases h;simp only[aO]at y;obtain⟨h1,d⟩:=y;have h1:=bN h1;have d:=Kd.jV d;subst h1 d;simp only[gO,ax.ao,a6]at ho|-;obtain⟨b,m,cs,el,N,g2,O⟩:=ho;have hr:=hlab l rfl;refine⟨b,m,cs,el,by rw[U,N],by rw[M b]; exact g2,?_⟩;have:=JJ (E:=E) (E':=E0) hr (fun _ b' _ _=>M b') (fun rZ _ b' hb2 hc hr2=>mq K.en.ct rZ hc hb2 hr2) O
   grind[G.iV,G.rZ]
  ·cases h
 ·rename_i l K0 ks l' K' ks' rZ clock
  split at h
  ·rename_i y
   cases h;simp only[aO]at y;obtain⟨h1,d,I⟩:=y;have h1:=bN h1;have d:=Ct.nt d;have I:=Kd.jV I;subst h1 d I;simp only[gO,ax.ao,a6]at ho|-;obtain⟨b,n,W,N,g2,O,g4⟩:=ho;have hr:=hlab l rfl;refine⟨b,n,W,by rw[U,N],?_,lW K.en.ct O,EG (E:=E) (fun h g m hk=>⟨by rw[hr]; exact hk,M g⟩) (fun _ _ _ _ _ _ b' hb2 hc hr2=>mq K.en.ct _ hc hb2 hr2) g4⟩
   grind[G.iV]
  ·cases h
 ·cases h
end en
def bY.up:bY->Nat
 |.vQ _ u=>u
 |_=>0
theorem Ch(h:ku H e fz sh o=some (b,g)):
  o.ao.aX=some (wA o)/\(gO lens sh d).ao.aX=some sh.up/\((∀ks v rZ,o≠.vQ ks v rZ)->sh.up=0):=by
 unfold ku at h;split at h
 ·exact⟨rfl,rfl,fun hn=>(hn _ _ _ rfl).elim⟩
 ·exact⟨rfl,rfl,fun _=>rfl⟩
 ·exact⟨rfl,rfl,fun _=>rfl⟩
 ·exact⟨rfl,rfl,fun _=>rfl⟩
 ·exact⟨rfl,rfl,fun _=>rfl⟩
 ·exact⟨rfl,rfl,fun _=>rfl⟩
 ·exact⟨rfl,rfl,fun _=>rfl⟩
 ·exact⟨rfl,rfl,fun _=>rfl⟩
 ·cases h
theorem adx{sh:gN}(h:jG H e fz sh a=some (b,g)):g.length=sh.sz:=by
 unfold jG at h;split at h<;>(try split at h)<;>(try split at h)<;>(try split at h)<;>(try split at h)<;>first
  |(cases h; rfl)
  |cases h
theorem RM{H:List ax}{e:cJ}{fz:Nat->Bool}:∀{d:List gN} {as:List AV} {b:Bool} {g:LG},ju H e fz d as=some (b,g)->g.length=tY d
 |[],[],_,g,h=>by simp[ju]at h; simp[<-h.2,tY]
 |sh::d,a::as,b,g,h=>by
  simp only[ju]at h;split at h
  ·rename_i b v y I h1 k
   simp only[bD,bM]at h;obtain⟨_,rfl⟩:=h;simp only[tY,fV,adx h1,RM k]
  ·cases h
 |[],_::_,_,_,h|_::_,[],_,_,h=>by simp[ju]at h
theorem ady(h:ku H e fz sh o=some (b,g)):g.length=sh.sz:=by
 unfold ku at h;split at h
 ·split at h
  ·cases h; rfl
  ·cases h
 ·exact RM h
 ·split at h
  ·cases h; rfl
  ·cases h
 ·split at h
  ·cases h; rfl
  ·cases h
 ·split at h
  ·cases h; rfl
  ·cases h
 ·split at h
  ·cases h; rfl
  ·cases h
 ·split at h
  ·cases h; rfl
  ·cases h
 ·split at h
  ·cases h; rfl
  ·cases h
 ·cases h
theorem wD{H:List ax}{e:cJ}{fz:Nat->Bool}:∀{os:List bY} {az:List Nat} {g:LG},lX H e fz os az=some (true,g)->∀(k:LG) (lens:eU),
  g.length=pc os/\az.length=os.length/\(dL lens os (g++k)).length=os.length /\
  (∀ (j:Nat) (sh:bY),os[j]?=some sh->∃i o y N,az[j]?=some i/\H[i]?=some o/\ku H e fz sh o=some (true,y)/\(dL lens os (g++k))[j]?=some (gO lens sh (y++N)) /\
   (cY os (g++k)).aq j=sh.up/\∀ks v rZ,o=.vQ ks v rZ->(cY os (g++k)).len j=rZ.length)
 |[],[],g,h,k,lens=>by
  simp only[lX,bD,bM]at h;obtain⟨_,rfl⟩:=h;exact⟨rfl,rfl,rfl,fun j sh I=>by simp at I⟩
 |sh::os,i::az,g,h,k,lens=>by
  simp only[lX]at h;split at h
  case h_2=>cases h
  rename_i o ho;split at h
  ·rename_i b y b' O h1 h2
   simp only[bD,bM,aO]at h;obtain⟨⟨rfl,rfl⟩,rfl⟩:=h;obtain⟨q0,q1,q2,q3⟩:=wD h2 k lens;have U:=ady h1;have M:fM sh.sz (y++(O++k))=O++k:=by rw[<-U]; exact qM y _
   refine⟨by simp only[pc,fV,U,q0],by simp only[cz,q1],by simp only[dL,kl,M,cz,q2],fun j W I=>?_⟩;cases j with
   |zero=>
    simp at I;subst I;refine⟨i,o,y,O++k,rfl,ho,h1,by simp only[dL,kl,List.getElem?_cons_zero],?_,?_⟩
    ·unfold cY eU.aq
     cases sh<;>rfl
    ·rintro ks v rZ rfl
     unfold ku at h1;split at h1
     ·rename_i d
      cases d;split at h1
      ·cases h1
       simp[cY,eU.len,G.rZ]
      ·cases h1
     ·rename_i d; cases d
     ·rename_i d; cases d
     ·rename_i d; cases d
     ·rename_i d; cases d
     ·rename_i d; cases d
     ·rename_i d; cases d
     ·rename_i d; cases d
     ·cases h1
   |succ j=>
    obtain⟨i',o',g1',N,r1,r2,r3,r4,r5,r6⟩:=q3 j W (by simpa using I);refine⟨i',o',g1',N,by simpa using r1,r2,r3,by simpa only[dL,kl,M,ZI]using r4,?_,?_⟩
    ·simpa only[cY,eU.aq,kl,M,asd]using r5
    ·simpa only[cY,eU.len,kl,M,asd]using r6
  ·cases h
 |[],_::_,_,h,_,_=>by simp[lX]at h
 |_::_,[],_,h,_,_=>by simp[lX]at h
abbrev wE(a b:Bool):Bool:=Bool.casesOn a false b
theorem wF{a:Bool}:wE a b=true↔a=true/\b=true:=by cases a<;>simp
open Classical in
noncomputable def qN(E:ah)(H0:List aj)(l:Nat):List (Option (Option (Nat × Nat))):=if ∃(j:Nat) (o:aj),H0[j]?=some o/\o.label=some l then E.X.r l else (E.X.r l).map fun _=>none
theorem adz{H0:List aj}{j:Nat}{o:aj}(h:H0[j]?=some o)(d:o.label=some l):qN E H0 l=E.X.r l:=iP ⟨j,o,h,d⟩
theorem F0{H0:List aj}{h:Nat}{q:Option (Nat × Nat)}(hq:(qN E H0 l)[h]?=some (some q)):(E.X.r l)[h]?=some (some q)/\∃(j:Nat) (o:aj),H0[j]?=some o/\o.label=some l:=by
 unfold qN at hq;split at hq
 ·rename_i k
  exact⟨hq,k⟩
 ·rw[dw]at hq
  cases d:(E.X.r l)[h]? with
  |none=>rw[d]at hq; cases hq
  |some y=>rw[d]at hq; cases hq
theorem adA(E:ah)(H0:List aj)(l:Nat):(qN E H0 l).length=(E.X.r l).length:=by
 unfold qN;split
 ·rfl
 ·simp
noncomputable def lY(E:ah)(H0:List aj)(az:List Nat):ah:=⟨E.w,H0,az.map fun i=>E.ae.getD i none,E.X.re (qN E H0)⟩
theorem LO(E:ah)(H0:List aj)(az:List Nat):∀l h,h<(E.X.r l).length->h<((lY E H0 az).X.r l).length/\∀q,((lY E H0 az).X.r l)[h]?=some (some q)->(E.X.r l)[h]?=some (some q):=
 fun l h d=>⟨by show h<(qN E H0 l).length; rw[adA]; exact d,fun q hq=>(F0 (E:=E) (H0:=H0) hq).1⟩
theorem LP{H0:List aj}{b:Nat}(h:(lY E H0 az).af b):E.af b:=by
 rcases h with⟨j,c,d⟩|⟨l,k,c,d⟩
 ·simp only[lY,dw]at d
  obtain⟨i,_,v⟩:=gj.1 d;rw[dc]at v;cases he:E.ae[i]? with
  |none=>grind
  |some y=>rw[he]at v; simp at v; exact .inl ⟨i,c,by rw[he,v]⟩
 ·exact .inr ⟨l,k,c,(F0 d).1⟩
def jX(az:List Nat)(i:Nat):Bool := !az.any (aD i)
theorem LQ{i:Nat}(h:jX az i=true):i∉az:=by
 intro hm;have:az.any (aD i)=true:=pO.2 ⟨i,hm,au⟩;simp[jX,this]at h
theorem LR(hH:E.H=ay H)(HE:aJ E)(hn:az.Nodup)(h:lX H (bZ H az) (jX az) os az=some (true,g))(I:LG):
  ls H (bZ H az) (jX az) (cY os (g++I)) E (lY E (ay (dL (cY os (g++I)) os (g++I))) az) /\
   aJ (lY E (ay (dL (cY os (g++I)) os (g++I))) az):=by
 obtain⟨p0,p1,p2,p3⟩:=wD h I (cY os (g++I));generalize N:lY E (ay (dL (cY os (g++I)) os (g++I))) az=E0;have hElen:E.ae.length=H.length:=by rw[HE.len,hH,fB]
 have eids:(bZ H az).az=az:=rfl;have hloc:∀j x,E0.ae[j]?=some x->j<az.length/\∃i,az[j]?=some i/\E.ae.getD i none=x:=by
  intro j x W;rw[<-N]at W;simp only[lY,dw]at W;obtain⟨i,h1,M⟩:=gj.1 W
  grind
 have getD_some:∀{i:Nat} {x:Nat × Nat},E.ae.getD i none=some x->E.ae[i]?=some (some x):=by
  intro i x W;rw[dc]at W
  grind
 have hown:∀b,E0.af b->E.af b:=by
  rintro b (⟨j,c,y⟩|⟨l,k,c,y⟩)
  ·obtain⟨_,i,_,M⟩:=hloc j _ y
   exact .inl ⟨i,c,getD_some M⟩
  ·rw[<- N]at y
   exact .inr ⟨l,k,c,(F0 y).1⟩
 have hw:E0.w=E.w:=by rw[<-N]; rfl
 have hX:E0.X.x=E.X.x:=by rw[<-N]; rfl
 have hsome:∀(l k:Nat) q,(E0.X.r l)[k]?=some (some q)->(E.X.r l)[k]?=some (some q)/\∃(j:Nat) (o:aj),E0.H[j]?=some o/\o.label=some l:=fun l k q hq=>by
  rw[<-N]at hq|-;exact F0 hq
 have hatl:∀j,j<az.length->az[j]?=some ((bZ H az).at j):=fun j y=>jW (e:=bZ H az) y;have hobjs:∀j,j<az.length->∃sh o U O,os[j]?=some sh/\H[(bZ H az).at j]?=some o/\ku H (bZ H az) (jX az) sh o=some (true,U) /\
   (dL (cY os (g++I)) os (g++I))[j]?=some (gO (cY os (g++I)) sh (U++O)) /\
   (cY os (g++I)).aq j=sh.up/\∀ks v rZ,o=.vQ ks v rZ->(cY os (g++I)).len j=rZ.length:=by
  intro j y;have hj':j<os.length:=ab;obtain⟨i,o,U,O,q1,q2,q3,q4,q5,q6⟩:=p3 j os[j] (cB hj');rw[hatl j y]at q1;cases q1
  grind
 have hK:ls H (bZ H az) (jX az) (cY os (g++I)) E E0:=by
  refine⟨hH,HE,fun i hi b n hb=>?_,⟨fun b hb=>⟨⟨by rw[hw]; exact hb.1,fun ho=>hb.2.1 (hown b ho),by rw[hX]; exact hb.2.2⟩,by rw[hw]⟩,hw,fun j y=>?_,fun j o l h1 M=>by rw[<-N]at h1|-; exact adz h1 M⟩,fun j o ho=>?_⟩
  ·refine⟨by rw[hw]; exact (HE.lt _ _ _ hb).1,?_,by rw[hX]; exact (HE.lt _ _ _ hb).2⟩
   rintro(⟨j,c,y⟩|⟨l,k,c,y⟩)
   case inr=>exact HE.d_ _ _ _ _ _ _ hb (hsome l k _ y).1
   obtain⟨_,i',h1,M⟩:=hloc j _ y;have:=HE.inj _ _ _ _ _ hb (getD_some M);subst this;exact LQ hi (gg h1)
  grind[lY]
  ·have y:j<az.length:=by
    rcases nU j az.length with hlt|hge
    ·exact hlt
    grind[wx,bZ]
   refine⟨y,?_⟩;obtain⟨sh,o',U,O,q1,q2,q3,q4,q5,q6⟩:=hobjs j y;rw[ho]at q2;cases q2;obtain⟨r1,r2,r3⟩:=Ch (lens:=cY os (g++I)) (d:=U++O) q3;have hq4:E0.H[j]?=some (gO (cY os (g++I)) sh (U++O)).ao:=by
    rw[<-N];exact bt q4
   exact⟨r1,⟨_,hq4,by rw[q5]; exact r2⟩,fun o0 h0=>by rw[hq4]at h0; cases h0; rw[Cf,Cg q3],q6,fun hv=>by rw[q5]; exact r3 hv⟩
 have hlabs:∀(j:Nat) o,E0.H[j]?=some o->j<az.length/\∃o',E.H[(bZ H az).at j]?=some o'/\o'.label=o.label:=fun j o ho=>by
  rw[<-N]at ho;simp only[lY,ay,dw]at ho;obtain⟨o',h1,rfl⟩:=gj.1 ho;have y:j<az.length:=by
   have:=bl h1;omega
  obtain⟨sh,oo,U,O,q1,q2,q3,q4,_⟩:=hobjs j y;rw[h1]at q4;cases q4;exact⟨y,oo.ao,by rw[hH]; exact bt q2,by rw[LK q3,t_]⟩
 refine⟨hK,?_,?_,?_,fun b W=>?_,fun j o ho=>?_,HE.iT.ct hK.en.ct,fun l k l' k' b m n h1 M=>HE.gK l k l' k' b m n (hsome _ _ _ h1).1 (hsome _ _ _ M).1,fun i b m l k n hi M=>?_,fun l k b m h1=>by rw[hw,hX]; exact HE.dp l k b m (hsome _ _ _ h1).1,fun i j o o' l hi y h1 M=>?_,fun l hn k q hq=>?_⟩
 grind[lY,fB]
 ·intro i j b m n hi y
  obtain⟨i1,i2,i3,i4⟩:=hloc i _ hi;obtain⟨j1,j2,j3,j4⟩:=hloc j _ y;have:=HE.inj _ _ _ _ _ (getD_some i4) (getD_some j4)
  grind[Jg]
 ·intro i b m hi
  obtain⟨_,i2,_,i4⟩:=hloc i _ hi;rw[hw,hX];exact HE.lt _ _ _ (getD_some i4)
 ·rw[hw]
  rw[hX]at W;exact HE.X b W
 ·rw[<- N]at ho
  simp only[lY,ay,dw]at ho;obtain⟨o',h1,rfl⟩:=gj.1 ho;have y:j<az.length:=by
   have:=bl h1;omega
  obtain⟨sh,oo,U,O,q1,q2,q3,q4,q5,q6⟩:=hobjs j y;rw[h1]at q4;cases q4;refine LN hK q3 O (by exact y) (fun l hl=>?_) (HE.obj _ _ (by rw[hH]; exact bt q2));refine hK.en.mE j (gO (cY os (g++I)) sh (U++O)).ao l ?_ (by rw[t_,hl]);rw[<-N];exact bt h1
 ·obtain⟨_,i',_,h3⟩:=hloc i _ hi
  exact HE.d_ _ _ _ _ _ _ (getD_some h3) (hsome _ _ _ M).1
 ·obtain⟨i1,oi,a1,a2⟩:=hlabs i o hi
  obtain⟨j1,oj,b1,b2⟩:=hlabs j o' y;have:=HE.uniq _ _ _ _ l a1 b1 (by rw[a2,h1]) (by rw[b2,M])
  grind[Jg]
 grind
def nodupB:List Nat->Bool
 |[]=>true
 |i::d => !d.any (aD i)&&nodupB d
theorem ua:∀{l:List Nat},nodupB l=true->l.Nodup
 |[],_=>List.nodup_nil
 |i::d,h=>by
  simp only[nodupB,aO,xE]at h;refine oL.2 ⟨fun hm=>?_,ua h.2⟩;have:d.any (aD i)=true:=pO.2 ⟨i,hm,au⟩;rw[h.1]at this;cases this
def qO(H:List ax):Nat->Nat->List Nat->List bY->Bool
 |_,0,_,_=>true
 |i,m+1,id::az,o::os=>aD id i&&((aD (wB H i) 0 || !aD o.up 0)&&qO H (i+1) m az os)
 |_,_,_,_=>false
theorem Ci{H:List ax}:∀{i m:Nat} {az:List Nat} {os:List bY},qO H i m az os=true->∀ j,j<m->az[j]? = some (i+j)/\∃ o,os[j]? = some o/\(wB H (i+j)=0\/o.up≠0)
 |_,0,_,_,_,j,k=>by omega
 |i,m+1,id::az,o::os,h,j,k=>by
  simp only[qO,aO,Bool.or_eq_true,xE]at h;obtain⟨h1,d,v⟩:=h;have h1:=bN h1;subst h1;cases j with
  |zero=>
   refine⟨rfl,o,rfl,?_⟩;rcases d with d|d
   simp_all
   ·right
    intro e
    simp_all
  |succ j=>
   have:=Ci v j ab
   grind
 |_,_+1,[],_,h,_,_=>by simp[qO]at h
 |_,_+1,_::_,[],h,_,_=>by simp[qO]at h
theorem LS(hH:E.H=ay H){E0:ah}(N:ls H (bZ H az) (jX az) lens E E0)(hX:E0.X.x=E.X.x/\E0.X.z=E.X.z)
  (hrl:∀l h,h<(E.X.r l).length->h<(E0.X.r l).length/\∀q,(E0.X.r l)[h]?=some (some q)->(E.X.r l)[h]?=some (some q))
  (hok:qO H 0 m az os=true) (hobj:∀j,j<m->∃o sh,H[(bZ H az).at j]?=some o/\os[j]?=some sh/\lens.aq j=sh.up) (hown:∀b,E0.af b->E.af b):E.fX m E0:=by
 have key:∀id,id<m->(bZ H az).at id=id/\∃o sh,H[id]?=some o/\os[id]?=some sh/\lens.aq id=sh.up/\(wA o=0\/sh.up≠0)/\FZ E0 lens id o/\id<az.length:=by
  intro id k;obtain⟨h1,o',h2,O⟩:=Ci hok id k;rw[dj]at h1 O;have W:=bl h1;have y:=jW (e:=bZ H az) (j:=id) W;rw[show (bZ H az).az=az from rfl,h1]at y;have y:=(jB y).symm;obtain⟨o,sh,d,I,U⟩:=hobj id k;obtain⟨r1,r2⟩:=N.obj id o d;rw[y]at d;rw[h2]at I;have I:=jB I;rw[<-I]at U;refine⟨y,o,o',d,h2,U,?_,r2,W⟩;rcases O with O|O
  ·left
   simpa[wB,d]using O
  ·exact .inr O
 refine⟨fun id k hp=>?_,by rw[N.en.w]; exact aV _,fun b _ _=>by rw[N.en.w],fun b _ hb ho=>hb (hown b ho),fun id k hp hl=>?_,fun b _=>by rw[hX.1,hX.2]; exact⟨Iff.rfl,Iff.rfl⟩,hrl,by rw[N.en.w]; exact⟨rfl,rfl,rfl,by first|exact fun _=>aV _|exact fun _=>gI _ _⟩,fun id k l o h1 h2 _=>?_⟩
 rotate_right
 ·obtain⟨y,o1,sh,d,I,U,q4,M,W⟩:=key id k
  obtain⟨o0,r1,r2⟩:=M.obj;rw[hH,bt d]at h1;cases h1;have hm:=M.mm o0 r1;rw[h2]at hm;exact⟨⟨[],by rw[dY]; exact N.en.mE id o0 l r1 (aj.pR hm)⟩,o0,r1,hm⟩
 ·obtain⟨_,o,sh,d,I,U,q4,M,_⟩:=key id k
  obtain⟨o0,r1,r2⟩:=M.obj;exact⟨o0,r1,aj.ED r2,fun v _=>fy v⟩
 ·obtain⟨y,o,sh,d,I,U,q4,M,W⟩:=key id k
  obtain⟨o0,r1,r2⟩:=M.obj;obtain⟨o1,r3,r4⟩:=hl;rw[r1]at r3;cases r3;rw[r2]at r4;have hz:lens.aq id=0:=jB r4;rw[U]at hz;have hv:wA o=0:=q4.resolve_right (fun h=>h hz);refine⟨⟨o.ao,by rw[hH]; exact bt d,by rw[M.aq,hv]⟩,?_⟩;have:=N.en.ae id W;rw[y]at this;exact this
structure qP where
 n:Nat
 Cj:List (Nat × Sh)
 bI:List bY
def yN:Nat->List (Nat × Sh)->List AV->AV
 |i,(j,_)::d,v::h=>match aD i j with
  |true=>v
  |false=>yN i d h
 |_,_,_=>.undef
def b_(S:qP)(d:LG):aG:=
 ⟨(fm S.n).map fun i=>yN i S.Cj (iK (cY S.bI d) (S.Cj.map (·.2)) (fM (pc S.bI) d)),dL (cY S.bI d) S.bI d⟩
def LU(m:Nat)(S:qP)(az:List Nat)(s:aG):Option (Bool × LG):=
 match aD s.fr.length S.n&&(nodupB az&&qO s.H 0 m az S.bI)with
 |false=>none
 |true=>match lX s.H (bZ s.H az) (jX az) S.bI az,gu s.H (bZ s.H az) (jX az) (S.Cj.map (·.2)) (S.Cj.map fun p=>s.fr.getD p.1 .undef) with
  |some (b,g),some (d,h)=>some (b&&d,g++h)
  |_,_=>none
theorem RN{E:ah}:∀{d:List (Nat × Sh)} {y:List AV} {cs:List ar} {i:Nat} {c:ar},(∀(k:Nat) (p:Nat × Sh) (v:AV),d[k]?=some p->y[k]?=some v->∀c,cs[p.1]?=some c->ad E v c)->cs[i]?=some c ->
  ad E (yN i d y) c
 |[],_,_,_,_,_,_=>by simp[yN,ad]
 |_::_,[],_,_,_,_,_=>by simp[yN,ad]
 |(j,sh)::d,v::y,cs,i,c,h,I=>by
  simp only[yN];split
  ·rename_i e
   have e:=bN e;subst e;exact h 0 (i,sh) v rfl rfl c I
  ·exact RN (fun k p v M N=>h (k+1) p v (by simpa using M) (by simpa using N)) I
theorem adB{S:qP}(h:LU m S az s=some (true,d)):bO m s.ao (b_ S d).ao:=fun E a M=>by
 unfold LU at h;split at h
 ·cases h
 rename_i y;simp only[aO]at y;obtain⟨W,N,hok⟩:=y;have W:=bN W;have N:=ua N;split at h
 case h_2=>cases h
 rename_i b g b' I h1 h2;simp only[bD,bM,aO]at h;obtain⟨⟨rfl,rfl⟩,rfl⟩:=h;have hH:E.H=ay s.H:=M.H;obtain⟨U,hHR⟩:=LR hH M.heap N h1 I;obtain⟨p0,p1,p2,p3⟩:=wD h1 I (cY S.bI (g++I));have hd:fM (pc S.bI) (g++I)=I:=by rw[<-p0]; exact qM g I
 have hS:=wC U h2 [];rw[dY]at hS;obtain⟨q1,q2,q3,q4⟩:=hS;refine⟨az.map fun i=>E.ae.getD i none,E.X.re (qN E (b_ S (g++I)).ao.H),⟨rfl,?_,M.defers,hHR⟩,?_⟩
 ·have hfr:aw E s.fr a.tmps.toList:=M.fr
  obtain⟨f1,f2⟩:=rK.1 hfr;refine rK.2 ⟨?_,fun i x c hi y=>?_⟩
  ·simp only[aG.ao,b_,cP,List.length_range]
   omega
  ·simp only[aG.ao,b_,hd,dw]at hi
   obtain⟨i',O,rfl⟩:=gj.1 hi;have hin:i<S.n:=by
    have:=bl O;simpa using this
   rw[List.getElem?_range hin]at O;cases O;refine RN (cs:=a.tmps.toList) (fun k p v hk hv c y=>?_) y;have hk2:(S.Cj.map fun p=>s.fr.getD p.1 .undef)[k]?=some (s.fr.getD p.1 .undef):=by simp[hk]
   have hx:ad E (s.fr.getD p.1 .undef) c:=by
    have hlt:=bl y;rw[<-f1]at hlt;have e1:s.fr[p.1]?=some (s.fr.getD p.1 .undef):=by
     rw[dc,cB hlt];rfl
    exact f2 p.1 _ c e1 y
   exact RL U h2 hk2 (by rw[dY]; exact hv) hx
 ·exact LS hH U ⟨rfl,rfl⟩ (LO E _ az) hok (fun j hj=>by
   obtain⟨r1,o',r2,_⟩:=Ci hok j hj;obtain⟨i,o,g1,rest1,t1,t2,t3,t4,t5,t6⟩:=p3 j o' r2;have hat:=jW (e:=bZ s.H az) (j:=j) (bl t1);rw[show (bZ s.H az).az=az from rfl,t1]at hat;cases hat;exact⟨o,o',t2,r2,t5⟩) (fun b=>LP)
def LV(aM:Nat)(s:aG):aG:=
 match s.fr.getD aM .undef with
 |.vQ w id aq oF n=>match s.H[id]? with
  |some (.vQ ks v rZ)=>if aq=v/\oF=0/\w=ks.length then ⟨s.fr.set aM (.vQ w id (v+1) 0 n),s.H.set id (.vQ ks (v+1) (rZ.take n))⟩ else s
  |_=>s
 |_=>s
theorem F1{E:ah}{a:AV}:∀{fr:List AV} {cs:List ar} {i:Nat},aw E fr cs->(∀ c,cs[i]? = some c->ad E a c)->aw E (fr.set i a) cs
 |[],cs,i,h,_=>by simpa using h
 |x::fr,[],i,h,_=>by simp[aw]at h
 |x::fr,c::cs,0,h,ha=>by
  simp only[aw]at h;simp only[List.set_cons_zero,aw];exact⟨ha c rfl,h.2⟩
 |x::fr,c::cs,i+1,h,ha=>by
  simp only[aw]at h;simp only[List.set_cons_succ,aw];exact⟨h.1,F1 h.2 fun y d=>ha y (by simpa using d)⟩
theorem LW{fr:List AV}{cs:List ar}{i:Nat}(h:aw E fr cs)(d:cs[i]?=some c):ad E (fr.getD i .undef) c:=by
 obtain⟨h1,k⟩:=rK.1 h
 grind
theorem adC:bO m s.ao (LV aM s).ao:=by
 unfold LV;split
 case h_2=>exact bO.refl _
 rename_i w id aq oF n hsl;split
 case h_2=>exact bO.refl _
 rename_i ks v rZ hid;split
 case isFalse=>exact bO.refl _
 rename_i M;obtain⟨rfl,rfl,rfl⟩:=M;intro E a d;have hH:E.H=ay s.H:=d.H;have y:E.H[id]?=some (.vQ ks.length aq (rZ.map (aY ks))):=by rw[hH]; exact bt hid
 have ho:=d.heap.obj id _ y;obtain⟨l,N⟩:∃l,E.ae[id]?=some l:=by
  have:id<E.ae.length:=by rw[d.heap.len]; exact bl y
  simp_all
 have W:E.ae.set id l=E.ae:=qF N;have U:ay (s.H.set id (.vQ ks (aq+1) (rZ.take n)))=E.H.set id (.vQ ks.length (aq+1) ((rZ.take n).map (aY ks))):=by rw[dq,hH]; rfl
 have hlc:∀b n,l=some (b,n)->E.w.heap.size<=b\/∃m,E.ae[id]?=some (some (b,m)):=fun b n hb=>.inr ⟨n,by rw[N,hb]⟩;have hup:∀v u,(aj.vQ ks.length (aq+1) ((rZ.take n).map (aY ks))).aX=some v->(aj.vQ ks.length aq (rZ.map (aY ks))).aX=some u->u<=v:=by
  intro v u h1 k;simp[aj.aX]at h1 k;omega
 have hvr:∀v,(aj.vQ ks.length (aq+1) ((rZ.take n).map (aY ks))).aX=some v->∀u,(aj.vQ ks.length aq (rZ.map (aY ks))).aX=some u->u<v:=by
  intro v h1 u k;simp[aj.aX]at h1 k;omega
 have I:=ah.ng (o':=.vQ ks.length (aq+1) ((rZ.take n).map (aY ks))) (l:=l) (w':=E.w) y d.heap.len (aV _) (fun _ _ _=>rfl) hlc (.inr hvr) hup (fun _ h=>by simp[aj.aX]at h);have hHR:=aJ.oP (o':=.vQ ks.length (aq+1) ((rZ.take n).map (aY ks))) (l:=l) (w':=E.w) d.heap y (aV _) (fun _ _ _=>rfl) (fun b n hb=>.inr ⟨n,by rw[N,hb]⟩) (.inr hvr) hup (fun _ h=>by simp[aj.aX]at h) (by
  rw[W]at I|-;simp only[a6]at ho|-;rcases ho with⟨h1,k⟩|⟨b,mm,h1,k,O,h4,h5⟩
  simp_all
  ·right
   refine⟨b,mm,h1,k,by simp at O|-; omega,?_,?_⟩
   ·intro r hr
    obtain⟨g,_,rfl⟩:=dS.1 hr;exact iR ks g
   ·rw[pS]at h5 |-
    intro i r hi;simp only[dw,sR]at hi;split at hi
    ·obtain⟨g1,g2⟩:=h5 i r (by simpa using hi)
     exact⟨g1,EI (fun a c hr=>bW I a hr) rfl g2⟩
    ·simp at hi)
 rw[W]at I hHR;refine⟨E.ae,E.X,?_,?_⟩
 ·simp only[aG.ao]
  rw[U];refine⟨rfl,?_,d.defers,hHR⟩;refine F1 (eX I _ d.fr) fun c M=>?_;have hr:=LW d.fr M;rw[show s.ao.fr=s.fr from rfl,hsl]at hr;simp only[ad]at hr|-;obtain⟨h1,k,O⟩:=hr;exact⟨h1,⟨.vQ ks.length (aq+1) ((rZ.take n).map (aY ks)),cG (bl y),rfl,fun v hv=>by simp[aj.aX]at hv; omega⟩,fun _=>O ⟨_,y,rfl⟩⟩
 ·simp only[aG.ao]
  rw[U];exact I.toM
def br.leaf{β:Type}(f:cu->aG->Option (Bool × β)):br->Option β
 |.fail=>none
 |.done x s=>match f x s with
  |some (b,r)=>bif b then some r else none
  |none=>none
 |.ask b t e=>bif b then t.leaf f else e.leaf f
 |.side b t=>bif b then t.leaf f else none
theorem ot{β:Type}{f:cu->aG->Option (Bool × β)}:∀{t:br} {r:β},t.leaf f=some r->t.holds fun x s=>f x s=some (true,r)
 |.fail,_,h=>by cases h
 |.done x s,r,h=>by
  simp only[br.leaf]at h;split at h
  ·rename_i b k d
   cases b with
   |true=>cases h; exact d
   |false=>cases h
  ·cases h
 |.ask b t e,r,h=>by
  cases b with
  |true=>exact⟨fun _=>ot (t:=t) h,fun h=>by cases h⟩
  |false=>exact⟨fun h=>(nomatch h),fun _=>ot (t:=e) h⟩
 |.side b t,r,h=>by
  cases b with
  |true=>exact And.intro rfl (ot (t:=t) h)
  |false=>cases h
inductive fN where
 |fix (i:Nat)
 |aM (i:Nat)
 |cap (i c:Nat)
 |cell (j c:Nat)
 |LX (j c k:Nat)
def F2:AV->Option Nat
 |.ptr id _ _ _ _=>some id
 |.vQ _ id _ _ _=>some id
 |.map id=>some id
 |_=>none
def F3(H:List ax)(d:Nat->AV)(h:List Nat):fN->Option Nat
 |.fix i=>some i
 |.aM i=>F2 (d i)
 |.cap i c=>match d i with
  |.clo _ cs=>F2 (cs.getD c .undef)
  |_=>none
 |.cell j c=>match H[h.getD j 0]? with
  |some (.raw (.box cells))=>F2 (cells.getD c .undef)
  |_=>none
 |.LX j c k=>match H[h.getD j 0]? with
  |some (.raw (.box cells))=>match cells.getD c .undef with
   |.clo _ cs=>F2 (cs.getD k .undef)
   |_=>none
  |_=>none
def lZ(H:List ax)(h:Nat->AV):List fN->List Nat->Option (List Nat)
 |[],d=>some d
 |p::ps,d=>match F3 H h d p with
  |some i=>lZ H h ps (d++[i])
  |none=>none
structure yO where
 x:cu
 S:qP
 ps:List fN
structure bA where
 key:Nat
 opens:List (Nat × List Kd)
 inv:qP
 ps:List fN
 outs:List yO
 st:LG->bp
def wG(st:LG->bp):Nat->LG->Option (Nat × LG)
 |0,_=>none
 |n+1,d=>match st d with
  |some (none,h)=>wG st n h
  |some (some x,h)=>some (x,h)
  |none=>none
def bR(st:LG->bp)(d:LG):Option (Nat × LG):=wG st 1000000 d
def LY(r:Option (Nat × LG)):Nat:=match r with
 |some (x,_)=>x
 |none=>0
def LZ(r:Option (Nat × LG)):LG:=match r with
 |some (_,d)=>d
 |none=>[]
def ow(m:Nat)(S:qP)(ps:List fN)(s:aG):Option (Bool × LG):=
 match lZ s.H (fun i=>s.fr.getD i .undef) ps []with
 |some az=>LU m S az s
 |none=>none
theorem qe{S:qP}{ps:List fN}(h:ow m S ps s=some (true,d)):bO m s.ao (b_ S d).ao:=by
 unfold ow at h;split at h
 ·exact adB h
 ·cases h
def mG:List (Nat × List Kd)->aG->aG
 |[],s=>s
 |(i,ks)::r,s=>match dv 1000000 i with
  |true=>mG r (LV (i-1000000) s)
  |false=>match isNil (s.fr.getD i .undef) with
   |true=>mG r (Ca i ks s)
   |false=>mG r s
theorem qQ{m:Nat}:∀(l:List (Nat × List Kd)) (s:aG),bO m s.ao (mG l s).ao
 |[],s=>bO.refl _
 |(i,ks)::r,s=>by
  simp only[mG];split
  ·exact adC.trans (qQ r _)
  ·split
   ·rename_i h
    exact(Rr h).trans (qQ r _)
   ·exact qQ r s
def wH(m:Nat):List yO->Nat->cu->aG->Option (Bool × (Option Nat × LG))
 |[],_,_,_=>none
 |o::os,i,x,s=>match decide (x=o.x) with
  |true=>match ow m o.S o.ps s with
   |some (b,d)=>some (b,(some i,d))
   |none=>none
  |false=>wH m os (i+1) x s
def F4(m:Nat)(sp:bA)(x:cu)(s:aG):Option (Bool × (Option Nat × LG)):=
 match x with
 |.normal=>match ow m sp.inv sp.ps s with
  |some (b,d)=>some (b,(none,d))
  |none=>none
 |x=>wH m sp.outs 0 x (mG sp.opens s)
theorem F5{m:Nat}:∀{os:List yO} {i:Nat} {x:cu} {s:aG} {b:Bool} {k:Option Nat} {d:LG},wH m os i x s=some (b,(k,d)) ->
  ∃j o,os[j]?=some o/\k=some (i+j)/\x=o.x/\ow m o.S o.ps s=some (b,d)
 |[],_,_,_,_,_,_,h=>by cases h
 |o::os,i,x,s,b,k,d,h=>by
  simp only[wH]at h;split at h
  ·rename_i v
   split at h
   ·rename_i N O hr
    cases h;exact⟨0,o,rfl,rfl,of_decide_eq_true v,hr⟩
   ·cases h
  ·obtain⟨j,o',h1,y,I,M⟩:=F5 h
   exact⟨j+1,o',by simpa using h1,by rw[y]; congr 1; omega,I,M⟩
section loops
variable {P:ak} {τ:aF} {L:LT} {m:Nat} {c:Code} {sp:bA}
def yP(P:ak)(τ:aF)(L:LT)(m:Nat)(c:Code)(sp:bA):Prop:=∀d,(eH P τ L c (b_ sp.inv d) .done).leaf (F4 m sp)=sp.st d
theorem RO(hm:P.follows .mixedOrders=true)(I:aH P τ)(M:aT P m L c)(hr:yP P τ L m c sp){y:LG}{k:Option Nat}(h:sp.st d=some (k,y)):
  (k=none/\dU P m c (b_ sp.inv d).ao .normal (b_ sp.inv y).ao) \/
   ∃j o,k=some j/\sp.outs[j]?=some o/\o.x≠.normal/\dU P m c (b_ sp.inv d).ao o.x (b_ o.S y).ao:=by
 rw[<-hr d]at h;obtain⟨x,s1,h1,v⟩:=jt hm I c (b_ sp.inv d) .done M (Q:=fun x s=>F4 m sp x s=some (true,(k,y))) (ot h);have v:F4 m sp x s1=some (true,(k,y)):=v;unfold F4 at v;split at v
 ·split at v
  ·rename_i b d2 N
   cases v;exact .inl ⟨rfl,yn h1 (qe N)⟩
  ·cases v
 ·rename_i O
  obtain⟨j,o,U,W,rfl,g4⟩:=F5 v;exact .inr ⟨j,o,by simpa using W,U,fun e=>O e,yn h1 ((qQ sp.opens s1).trans (qe g4))⟩
theorem RP(hm:P.follows .mixedOrders=true)(v:aH P τ)(y:aT P m L c)(hr:yP P τ L m c sp):∀(n:Nat) {d I:LG} {x:Nat},wG sp.st n d=some (x,I) ->
  ∃o,sp.outs[x]?=some o/\oW P m c (b_ sp.inv d).ao o.x (b_ o.S I).ao
 |0,_,_,_,h=>by cases h
 |n+1,d,I,x,h=>by
  simp only[wG]at h;split at h
  ·rename_i O h1
   rcases RO hm v y hr h1 with⟨_,U⟩|⟨_,_,k,_⟩
   ·obtain⟨o,M,N⟩:=RP hm v y hr n h
    exact⟨o,M,.next U N⟩
   ·cases k
  ·rename_i x1 O h1
   cases h;rcases RO hm v y hr h1 with⟨k,_⟩|⟨j,o,k,M,N,W⟩
   ·cases k
   ·cases k
    exact⟨o,M,.stop W N⟩
  ·cases h
def Ck(r:Option (Nat × LG)):List yO->Nat->br
 |[],_=>.fail
 |[o],_=>.done o.x (b_ o.S (LZ r))
 |o::os,i=>.ask (aD (LY r) i) (.done o.x (b_ o.S (LZ r))) (Ck r os (i+1))
theorem F6{x:Nat}{d:LG}{Q:cu->aG->Prop}:∀{os:List yO} {i j:Nat} {o:yO},os[j]? = some o->x=i+j->(Ck (some (x,d)) os i).holds Q->Q o.x (b_ o.S d)
 |[],_,_,_,h,_,_=>by simp at h
 |[o],i,j,o',h,k,hq=>by
  cases j with
  |zero=>
   simp at h;subst h;exact hq
  |succ j=>simp at h
 |o::o2::os,i,j,o',h,k,hq=>by
  simp only[Ck,br.holds]at hq;cases j with
  |zero=>
   simp at h;subst h;exact hq.1 (by simp only[LY]; rw[k]; simp)
  |succ j=>
   refine F6 (os:=o2::os) (i:=i+1) (j:=j) (by simpa using h) ab (hq.2 ?_);have:x≠i:=ab;exact ase.2 fun e=>this (bN e)
def L1(m:Nat)(sp:bA)(s:aG):Option br:=
 match ow m sp.inv sp.ps (mG sp.opens s)with
 |some (b,d)=>some (.side (wE b (bR sp.st d).isSome) (Ck (bR sp.st d) sp.outs 0))
 |none=>none
theorem adD(hm:P.follows .mixedOrders=true)(I:aH P τ)(M:aT P m L c)(hr:yP P τ L m c sp){t:br}(h:L1 m sp s=some t):Q5 P m c s t:=by
 unfold L1 at h;split at h
 case h_2=>cases h
 rename_i b d N;cases h;intro Q v;simp only[br.holds,wF]at v;obtain⟨⟨rfl,h1⟩,y⟩:=v;cases k:bR sp.st d with
 |none=>grind
 |some r=>
  obtain⟨x,W⟩:=r;obtain⟨o,O,U⟩:=RP hm I M hr 1000000 k;exact⟨o.x,_,U.pre ((qQ sp.opens s).trans (qe N)),F6 O (dj x).symm (by rw[k]at y; exact y)⟩
def LT.add(L:LT)(m:Nat)(sp:bA):LT:=⟨fun k s=>match aD k sp.key with
 |true=>L1 m sp s
 |false=>L.loops k s,L.pre,L.B7⟩
theorem ub:∀{c:Code} {k:Nat} {v:Code},(k,v)∈cI c->∀ p,p∈cI v->p∈cI c
 |.seq a b,k,v,h,p,d=>by
  simp only[cI,dm]at h|-;rcases h with h|h
  ·exact .inl (ub h p d)
  ·exact .inr (ub h p d)
 |.cond _ a b,k,v,h,p,d=>by
  simp only[cI,dm]at h|-;rcases h with h|h
  ·exact .inl (ub h p d)
  ·exact .inr (ub h p d)
 |.block _ c,k,v,h,p,d=>by
  simp only[cI]at h|-;exact ub h p d
 |.loop c,k,v,h,p,d=>by
  simp only[cI]at h|-;split at h
  ·rename_i i hi
   rcases c_.1 h with e|h
   grind
   ·exact dh _ (ub h p d)
  ·exact ub h p d
 |.skip,_,_,h,_,_=>by simp[cI]at h
 |.region ..,_,_,h,_,_=>by simp[cI]at h
 |.exit _,_,_,h,_,_=>by simp[cI]at h
 |.ret,_,_,h,_,_=>by simp[cI]at h
 |.rangeFunc ..,_,_,h,_,_=>by simp[cI]at h
 |.scope _,_,_,h,_,_=>by simp[cI]at h
 |.label _,_,_,h,_,_=>by simp[cI]at h
 |.goto _,_,_,h,_,_=>by simp[cI]at h
 |.refuse _,_,_,h,_,_=>by simp[cI]at h
theorem uc:∀{c:Code} {k:Nat} {v:Code},(k,v)∈cI c->∀ p,p∈cN v->p∈cN c
 |.seq a b,k,v,h,p,d=>by
  simp only[cI,cN,dm]at h|-;rcases h with h|h
  ·exact .inl (uc h p d)
  ·exact .inr (.inr (uc h p d))
 |.cond _ a b,k,v,h,p,d=>by
  simp only[cI,cN,dm]at h|-;rcases h with h|h
  ·exact .inl (uc h p d)
  ·exact .inr (uc h p d)
 |.block _ c,k,v,h,p,d=>by
  simp only[cI,cN]at h|-;exact uc h p d
 |.loop c,k,v,h,p,d=>by
  simp only[cI,cN]at h|-;split at h
  ·rename_i i hi
   rcases c_.1 h with e|h
   grind
   ·exact uc h p d
  ·exact uc h p d
 |.skip,_,_,h,_,_=>by simp[cI]at h
 |.region ..,_,_,h,_,_=>by simp[cI]at h
 |.exit _,_,_,h,_,_=>by simp[cI]at h
 |.ret,_,_,h,_,_=>by simp[cI]at h
 |.rangeFunc ..,_,_,h,_,_=>by simp[cI]at h
 |.scope _,_,_,h,_,_=>by simp[cI]at h
 |.label _,_,_,h,_,_=>by simp[cI]at h
 |.goto _,_,_,h,_,_=>by simp[cI]at h
 |.refuse _,_,_,h,_,_=>by simp[cI]at h
theorem ud:∀{c:Code} {k:Nat} {v:Code},(k,v)∈cN c->∀ p,p∈cI v->p∈cI c
 |.seq a b,k,v,h,p,d=>by
  simp only[cI,cN,dm]at h|-;rcases h with h|h|h
  ·exact .inl (ud h p d)
  ·right
   split at h
   ·rcases c_.1 h with e | h
    ·cases e
     exact d
    ·cases h
   ·cases h
  ·exact .inr (ud h p d)
 |.cond _ a b,k,v,h,p,d=>by
  simp only[cI,cN,dm]at h|-;rcases h with h|h
  ·exact .inl (ud h p d)
  ·exact .inr (ud h p d)
 |.block _ c,k,v,h,p,d=>by
  simp only[cI,cN]at h|-;exact ud h p d
 |.loop c,k,v,h,p,d=>by
  simp only[cN]at h;have:=ud h p d;simp only[cI];split
  ·exact dh _ this
  ·exact this
 |.skip,_,_,h,_,_=>by simp[cN]at h
 |.region ..,_,_,h,_,_=>by simp[cN]at h
 |.exit _,_,_,h,_,_=>by simp[cN]at h
 |.ret,_,_,h,_,_=>by simp[cN]at h
 |.rangeFunc ..,_,_,h,_,_=>by simp[cN]at h
 |.scope _,_,_,h,_,_=>by simp[cN]at h
 |.label _,_,_,h,_,_=>by simp[cN]at h
 |.goto _,_,_,h,_,_=>by simp[cN]at h
 |.refuse _,_,_,h,_,_=>by simp[cN]at h
theorem ue:∀{c:Code} {k:Nat} {v:Code},(k,v)∈cN c->∀ p,p∈cN v->p∈cN c
 |.seq a b,k,v,h,p,d=>by
  simp only[cN,dm]at h|-;rcases h with h|h|h
  ·exact .inl (ue h p d)
  grind
  ·exact .inr (.inr (ue h p d))
 |.cond _ a b,k,v,h,p,d=>by
  simp only[cN,dm]at h|-;rcases h with h|h
  ·exact .inl (ue h p d)
  ·exact .inr (ue h p d)
 |.block _ c,k,v,h,p,d=>by
  simp only[cN]at h|-;exact ue h p d
 |.loop c,k,v,h,p,d=>by
  simp only[cN]at h|-;exact ue h p d
 |.skip,_,_,h,_,_=>by simp[cN]at h
 |.region ..,_,_,h,_,_=>by simp[cN]at h
 |.exit _,_,_,h,_,_=>by simp[cN]at h
 |.ret,_,_,h,_,_=>by simp[cN]at h
 |.rangeFunc ..,_,_,h,_,_=>by simp[cN]at h
 |.scope _,_,_,h,_,_=>by simp[cN]at h
 |.label _,_,_,h,_,_=>by simp[cN]at h
 |.goto _,_,_,h,_,_=>by simp[cN]at h
 |.refuse _,_,_,h,_,_=>by simp[cN]at h
def bf(fn:Func):Code:=match fn.body with
 |some c=>c
 |none=>.skip
theorem adE (hn:nodupB ((cI (bf fn)).map (·.1))=true) {d:Code} (h:(k,d)∈cI (bf fn)):d=Cb fn k:=by
 have key:∀(l:List (Nat × Code)),(l.map (·.1)).Nodup->(k,d)∈l->l.find? (fun p=>aD p.1 k)=some (k,d):=by
  intro l
  induction l with
  |nil=>intro _ h; cases h
  |cons p l I=>
   intro v hm;simp only[e9,oL]at v;rcases c_.1 hm with rfl|hm
   ·simp
   ·have y:p.1≠k:=by
     intro e;exact v.1 (dS.2 ⟨(k,d),hm,e.symm⟩)
    have:aD p.1 k=false:=ase.2 fun e=>y (bN e);rw[ZJ (by simp[this])];exact I v.2 hm
 unfold Cb;unfold bf at hn h;split
 ·rename_i c hb
  rw[hb]at hn h;simp only[]at hn h;rw[key _ (ua hn) h]
 ·rename_i hb
  rw[hb]at h;simp[cI]at h
theorem aT.add(hm:P.follows .mixedOrders=true)(y:aH P τ){fn:Func} (hn:nodupB ((cI (bf fn)).map (·.1))=true) (v:aT P m L (bf fn)) (hr:yP P τ L m (Cb fn sp.key) sp) :
  aT P m (L.add m sp) (bf fn):=by
 refine⟨fun k I h s t d=>?_,v.2⟩;simp only[LT.add]at d;split at d
 ·rename_i e
  have e:=bN e;subst e;have M:=adE hn h;rw[<-M]at hr;exact adD hm y (v.sub (ub h) (uc h)) hr d
 ·exact v.1 k I h s t d
def gP(fn:Func)(k:Nat):Code:=match fn.body with
 |some c=>match (cN c).find? fun p=>aD p.1 k with
  |some (_,b)=>b
  |none=>.skip
 |none=>.skip
def sd(k:Nat):List (Nat × Code)->Bool
 |[]=>true
 |p::l=>match aD p.1 k with
  |true => !l.any (fun q=>aD q.1 k)
  |false=>sd k l
theorem RQ{k:Nat}{v:Code}:∀{l:List (Nat × Code)},sd k l=true->(k,v)∈l->l.find? (fun p=>aD p.1 k)=some (k,v)
 |[],_,h=>by cases h
 |p::l,ho,hm=>by
  simp only[sd]at ho;cases d:aD p.1 k with
  |true=>
   rw[d]at ho;simp only[xE]at ho;rcases c_.1 hm with rfl|hm
   grind
   ·have:l.any (fun q=>aD q.1 k)=true:=pO.2 ⟨(k,v),hm,au⟩
    grind
  |false=>
   rw[d]at ho;rcases c_.1 hm with rfl|hm
   ·simp at d
   ·rw[ZJ (by simp[d])]
    exact RQ ho hm
theorem RS{d:Code} (hn:sd k (cN (bf fn))=true) (h:(k,d)∈cN (bf fn)):d=gP fn k:=by
 unfold gP;unfold bf at hn h;split
 ·rename_i c hb
  rw[hb]at hn h;simp only[]at hn h;rw[RQ hn h]
 ·rename_i hb
  rw[hb]at h;simp[cN]at h
def c7(r:bp):Option (Nat × LG):=match r with
 |some (some x,d)=>some (x,d)
 |_=>none
def Cl(m:Nat)(sp:bA)(s:aG):Option br:=
 match ow m sp.inv sp.ps (mG sp.opens s)with
 |some (b,d)=>some (.side (wE b (c7 (sp.st d)).isSome) (Ck (c7 (sp.st d)) sp.outs 0))
 |none=>none
def wI(P:ak)(τ:aF)(L:LT)(m:Nat)(c:Code)(sp:bA):Prop:=∀d,(eH P τ L c (b_ sp.inv d) .done).leaf (wH m sp.outs 0)=sp.st d
theorem adF(hm:P.follows .mixedOrders=true)(O:aH P τ)(U:aT P m L c)(hr:wI P τ L m c sp){t:br}(h:Cl m sp s=some t):Lq P m c s t:=by
 unfold Cl at h;split at h
 case h_2=>cases h
 rename_i b d W;cases h;intro Q y;simp only[br.holds,wF]at y;obtain⟨⟨rfl,h1⟩,I⟩:=y;cases v:sp.st d with
 |none=>rw[v]at h1; cases h1
 |some r=>
  obtain⟨k,M⟩:=r;cases k with
  |none=>rw[v]at h1; cases h1
  |some i=>
   rw[<-hr d]at v;obtain⟨x,s1,g1,g2⟩:=jt hm O c (b_ sp.inv d) .done U (Q:=fun x s=>wH m sp.outs 0 x s=some (true,(some i,M))) (ot v);obtain⟨j,o,q1,N,q3,q4⟩:=F5 g2;simp only[bD,dj]at N;subst N;rw[hr d]at v;rw[v]at I;refine⟨o.x,(b_ o.S M),?_,F6 q1 (dj i).symm I⟩;rw[<-q3];exact ym ((qQ sp.opens s).trans (qe W)) (yn g1 (qe q4))
def LT.gv(L:LT)(m:Nat)(sp:bA):LT:=⟨L.loops,L.pre,fun k s=>match aD k sp.key with
 |true=>Cl m sp s
 |false=>L.B7 k s⟩
theorem aT.gv(hm:P.follows .mixedOrders=true)(y:aH P τ){fn:Func} (hn:sd sp.key (cN (bf fn))=true) (h:aT P m L (bf fn)) (hr:wI P τ L m (gP fn sp.key) sp) :
  aT P m (L.gv m sp) (bf fn):=by
 refine⟨h.1,h.2.1,fun k I v s t d=>?_⟩;simp only[LT.gv]at d;split at d
 ·rename_i e
  have e:=bN e;subst e;have M:=RS hn v;rw[<-M]at hr;exact adF hm y (h.sub (ud v) (ue v)) hr d
 ·exact h.2.2 k I v s t d
end loops
structure aL where
 f:bJ
 args:List Sh
 bI:List bY
 ps:List fN
 res:List Sh
 fO:List bY
 ps':List fN
 opens:List (Nat × List Kd)
 F:LG->Option LG
def aL.ew(sp:aL)(d:LG):List AV:=iK (cY sp.bI d) sp.args (fM (pc sp.bI) d)
def aL.H0(sp:aL)(d:LG):List ax:=dL (cY sp.bI d) sp.bI d
def aL.out(sp:aL)(r:LG):AV:=fc (iK (cY sp.fO r) sp.res (fM (pc sp.fO) r))
def aL.H1(sp:aL)(r:LG):List ax:=dL (cY sp.fO r) sp.fO r
def jY(P:ak)(rs:List ResultVar)(sp:aL)(x:cu)(s:aG):Option (Bool × LG):=
 match x with
 |.exit _=>none
 |_=>(fun s=>match ll P s.ao rs with
  |none=>none
  |some d=>match lZ s.H (fun i=>d.getD i .undef) sp.ps' [] with
   |none=>none
   |some az=>match nodupB az&&qO s.H 0 sp.bI.length az sp.fO with
    |false=>none
    |true=>match lX s.H (bZ s.H az) (jX az) sp.fO az,gu s.H (bZ s.H az) (jX az) sp.res d with
     |some (b,g),some (h,k)=>some (b&&h,g++k)
     |_,_=>none) (mG sp.opens s)
def uf(P:ak)(τ:aF)(L:LT)(fn:Func)(sp:aL):Prop:=
 ∀d,(eH P τ L (bf fn) ⟨gY (sp.ew d) fn.ntmps,sp.H0 d⟩ .done).leaf (jY P fn.results.toList sp)=sp.F d
def lu(os:List bY):Bool:=os.all fun o=>aD o.up 0
theorem L2:∀{os:List bY} (lens:eU) (d:LG),lu os=true->Fl (ay (dL lens os d))
 |[],_,_,_=>by intro o ho; simp[dL,ay]at ho
 |o::os,lens,d,h=>by
  simp only[lu,pM,aO]at h;intro x k;simp only[dL,ay,e9,c_]at k;rcases k with rfl|k
  ·cases o with
   |vQ ks u=>
    have:u=0:=bN h.1;subst this;rfl
   |box _=>rfl
   |map _ _=>rfl
   |ij _ _ _=>rfl
   |ba _ _ _=>rfl
   |mm _ _ _ _=>rfl
   |cZ _ _=>rfl
   |bU _ _ _=>rfl
  ·exact L2 lens _ h.2 x k
theorem Cm(lens:eU):∀(os:List bY) (d:LG),(dL lens os d).length=os.length
 |[],_=>rfl
 |_::os,d=>by simp[dL,Cm lens os]
variable {sp:aL}
theorem adH(hf:P.funcs[sp.f]? = some fn)(hb:fn.body.isSome=true)
  (hfr:lu sp.bI=true) {d r:LG} {x:cu} {s0:aG} (h1:dU P sp.bI.length (bf fn) (aG.ao ⟨gY (sp.ew d) fn.ntmps,sp.H0 d⟩) x s0.ao) (y:jY P fn.results.toList sp x s0=some (true,r)) :
  fL P sp.f (sp.ew d) (ay (sp.H0 d)) (sp.out r) (ay (sp.H1 r)):=by
 have hbody:fn.body=some (bf fn):=by
  unfold bf
  grind
 have h1:=yn h1 (qQ sp.opens s0);generalize hs':mG sp.opens s0=s' at h1;have hxx:(x=.normal\/x=.ret)/\∃U az g k,ll P s'.ao fn.results.toList=some U/\(nodupB az&&qO s'.H 0 sp.bI.length az sp.fO)=true /\
   lX s'.H (bZ s'.H az) (jX az) sp.fO az=some (true,g)/\gu s'.H (bZ s'.H az) (jX az) sp.res U=some (true,k)/\g++k=r:=by
  have y:jY P fn.results.toList sp x s0=some (true,r):=y;unfold jY at y;split at y
  ·cases y
  ·rename_i hx
   simp only[hs']at y;refine⟨by cases x<;>grind,?_⟩
   grind
 obtain⟨hx,U,az,g,k,hvs,N,q1,q2,rfl⟩:=hxx;simp only[aO]at N;intro E M hH HE hargs;refine Fq hf hbody ?_;have hfe:=vW HE;have hargs0:=r7 hfe _ hargs;have hrel:cQ ⟨gY (sp.ew d) fn.ntmps,ay (sp.H0 d)⟩ { E with X:=⟨E.X.x,fun _=>False,E.X.r⟩ } { tmps:=M++Array.replicate (fn.ntmps-M.size) undef,defers:=[] }:=by
  refine⟨hH,?_,tn _ _,HE.fF hfe⟩;simp only[gY,Array.toList_append,Array.toList_replicate];refine oS hargs0 ?_;have:=jh hargs;have e:(sp.ew d).length=M.size:=ab;rw[e];have:=yp (E:={ E with X:=⟨E.X.x,fun _=>False,E.X.r⟩ }) (List.replicate (fn.ntmps-M.size) undef)
  grind
 refine wpIn_mono (h1 none (Fo _) { E with X:=⟨E.X.x,fun _=>False,E.X.r⟩ } _ hrel) fun e a1 w0 ⟨h3,loc',X',I,W⟩=>?_;refine⟨by subst h3; rcases hx with rfl|rfl; exact .inl rfl; exact .inr rfl,X',I.defers,fun w1 k1 k2 k3=>?_⟩;obtain⟨I,W⟩:=Fs HE I W k1 k2 k3;obtain⟨us,g1,g2⟩:=BD I fn.results.toList U hvs;have hres:(results fn a1.tmps).run P w1=.ok (if h:us.toArray.size=1 then us.toArray[0] else .tuple us.toArray) w1:=by
  rw[BE];simp only[Sem.run_bind];rw[Array.mapM_eq_mapM_toList,Sem.run_map,g1];rfl
 generalize O:({ w:=w1,H:=s'.ao.H,ae:=loc',X:=E.X.re X'.r }:ah)=v at I W g1 g2;have hH1:v.H=ay s'.H:=by rw[<-O]; rfl
 obtain⟨hK,hHR⟩:=LR hH1 I.heap (ua N.1) q1 k;obtain⟨p0,p1,p2,p3⟩:=wD q1 k (cY sp.fO (g++k));have hd:fM (pc sp.fO) (g++k)=k:=by rw[<-p0]; exact qM g k
 have hS:=wC hK q2 [];rw[dY]at hS;have hrl:=hS.2.2.2 us g2;have hleM:=LS (m:=sp.bI.length) hH1 hK ⟨rfl,rfl⟩ (LO v _ az) N.2 (fun j hj=>by
  obtain⟨r1,o',r2,_⟩:=Ci N.2 j hj;obtain⟨i,o,g1,rest1,t1,t2,t3,t4,t5,t6⟩:=p3 j o' r2;have hat:=jW (e:=bZ s'.H az) (j:=j) (bl t1)
  grind[bZ]) (fun b=>LP)
 have hle:E.le (lY v (ay (dL (cY sp.fO (g++k)) sp.fO (g++k))) az):=
  (W.trans hleM).full (by rw[<-O]; exact⟨rfl,rfl⟩) (by rw[hH,fB]; simp only[aL.H0,Cm]; exact aV _) (by rw[hH]; exact L2 _ _ hfr)
 have hw1:v.w=w1:=by rw[<-O]
 have hX1:∀r,v.X.re r=E.X.re r:=fun r=>by rw[<-O]; rfl
 refine⟨_,hres,_,_,_,rfl,⟨rfl,rfl⟩,az.map (fun i=>v.ae.getD i none),qN v (ay (dL (cY sp.fO (g++k)) sp.fO (g++k))),?_,?_,?_⟩<;>grind[LB,aL.out,aL.H1,lY]
theorem F7{τ:aF}{L:LT}(hm:P.follows .mixedOrders=true)(v:aH P τ)(y:P.funcs[sp.f]? = some fn)(hb:fn.body.isSome=true)
  (I:aT P sp.bI.length L (bf fn)) (hB:uf P τ L fn sp) (k:lu sp.bI=true) {d r:LG} (h:sp.F d=some r) :
  fL P sp.f (sp.ew d) (ay (sp.H0 d)) (sp.out r) (ay (sp.H1 r)):=by
 rw[<-hB d]at h;obtain⟨x,s0,h1,M⟩:=jt hm v (bf fn) _ .done I (Q:=fun x s=>jY P fn.results.toList sp x s=some (true,r)) (ot h);exact adH y hb k h1 M
abbrev iL(P:ak)(sp:aL):Prop:=∀d r,sp.F d=some r->fL P sp.f (sp.ew d) (ay (sp.H0 d)) (sp.out r) (ay (sp.H1 r))
theorem nC{τ:aF}{L:LT}(hm:P.follows .mixedOrders=true)(h:aH P τ)(k:P.funcs[sp.f]? = some fn)(hb:fn.body.isSome=true)
  (v:aT P sp.bI.length L (bf fn)) (hB:uf P τ L fn sp) (d:lu sp.bI=true):iL P sp:=by grind[F7]
def Cn:gN->Bool
 |.int _ | .str | .bool | .list _ | .wy _ | .row _ | .cptr _ | .nil | .any | .FX _ | .fn _ | .addr | .LI=>true
 |_=>false
def F8:Sh->Bool
 |.s a=>Cn a
 |.clo _ caps=>caps.all Cn
theorem RT{a:gN}(h:Cn a=true):(gF lens a d).closed=true:=by
 cases a<;>simp only[Cn]at h<;>first
  |(cases h; done)
  |rfl
  |grind[gF,AV.closed,iR]
theorem RU{lens:eU}:∀{as:List gN} {d:LG},(as.all Cn)=true->AV.cd (mF lens as d)=true
 |[],_,_=>rfl
 |a::as,d,h=>by
  simp only[pM,aO]at h;simp only[mF,AV.cd,RT h.1,RU h.2,xI]
theorem F9{lens:eU}:∀{as:List Sh} {d:LG},(as.all F8)=true->AV.cd (iK lens as d)=true
 |[],_,_=>rfl
 |a::as,d,h=>by
  simp only[pM,aO]at h;simp only[iK,AV.cd,F9 h.2,jQ];cases a with
  |s a=>exact RT h.1
  |clo f caps=>simp only[tZ,AV.closed]; exact RU h.1
theorem adI{d:List AV}(h:AV.cd d=true):(fc d).closed=true:=by
 cases d with
 |nil=>rfl
 |cons v d=>
  cases d with
  |nil=>grind[fc,AV.cd]
  |cons k d=>grind[fc,AV.closed]
def lv(E:ah):ah:={ w:=E.w,H:=[],ae:=[],X:=(E.X.or E.af).re fK }
theorem adJ(x:Nat):¬ (lv E).af x:=by rintro(⟨id,c,d⟩|⟨l,k,c,h⟩)<;>simp_all[lv,fK]
theorem RV:E.ct (lv E):=⟨fun b hb=>⟨⟨hb.1,adJ b,fun d=>d.elim hb.2.2 hb.2.1⟩,rfl⟩⟩
theorem adK:(lv E).ct E:=⟨fun b hb=>⟨⟨hb.1,fun ho=>hb.2.2 (Or.inr ho),fun d=>hb.2.2 (Or.inl d)⟩,rfl⟩⟩
theorem L3(HE:aJ E):aJ (lv E):=by
 refine⟨rfl,?_,?_,?_,?_,HE.iT.ct RV,fun l k l' v b m n d=>by simp[lv,fK]at d,fun i b m l k n hi=>by simp[lv]at hi,fun l k b m d=>by simp[lv,fK]at d,fun i j o o' l hi=>by simp[lv]at hi,fun l _ k q d=>by simp[lv,fK]at d⟩
 grind[lv]
 grind[lv]
 ·rintro b (h | ho)
  ·exact HE.X b h
  ·exact(HE.EH ho).1
 grind[lv]
theorem adL(HE:aJ E):ls [] (bZ [] []) (fun _=>false) [] (lv E) (lv E):=by
 exact { hH:=rfl,HE:=L3 HE,free:=fun _ h=>(nomatch h),en:=⟨fun b hb=>⟨hb,rfl⟩,rfl,fun j d=>absurd d (Nat.not_lt_zero _),fun _ _ _ _ _=>rfl⟩,obj:=fun j o ho=>by simp at ho }
theorem adM(HE:aJ E):∀{d:List Sh} {as:List AV} {g:LG},(d.all F8)=true->gu [] (bZ [] []) (fun _=>false) d as=some (true,g)->∀(W:LG) (cs:List ar),aw E as cs ->
  aw E (iK [] d (g++W)) cs:=by
 have one0:∀{sh:gN} {a:AV} {b:Bool} {g:LG},jG [] (bZ [] []) (fun _=>false) sh a=some (b,g)->a.closed=true\/sh=.any:=by
  intro sh a b g h;unfold jG at h;split at h
  ·exact .inl rfl
  ·exact .inl rfl
  ·exact .inl rfl
  ·split at h
   ·rename_i ha
    left;unfold wm at ha;split at ha<;>first|rfl|cases ha
   ·split at h
    ·simp at h
    ·cases h
  ·split at h
   ·rename_i ha
    left;rw[Rt ha];simp only[AV.closed,iR]
   ·cases h
  ·exact .inl rfl
  ·simp at h
  ·exact .inl rfl
  ·exact .inr rfl
  ·exact .inl rfl
  ·simp at h
  ·simp at h
  ·simp at h
  ·simp at h
  ·split at h
   ·rename_i ha
    left;unfold wm at ha;split at ha<;>first|rfl|cases ha
   ·split at h
    ·simp at h
    ·cases h
  ·simp at h
  ·exact .inl rfl
  ·rename_i f js f' U
   split at h
   ·rename_i y
    left;cases js with
    |nil=>cases U with
     |nil=>rfl
     |cons _ _=>simp[pd]at y
    |cons j js=>cases U with
     |nil=>simp[pd]at y
     |cons v U=>cases v<;>simp[pd]at y
   ·cases h
  ·exact .inl rfl
  ·cases h
 have oneL:∀{d:List gN} {as:List AV} {b:Bool} {g:LG},ju [] (bZ [] []) (fun _=>false) d as=some (b,g)->∀(cs:List ar),aw E as cs ->
   ∃k,ju [] (bZ [] []) (fun _=>false) d k=some (b,g)/\AV.cd k=true/\aw E k cs:=by
  intro d
  induction d with
  |nil=>
   intro as b g h cs hr;cases as with
   |nil=>exact⟨[],h,rfl,hr⟩
   |cons _ _=>simp[ju]at h
  |cons sh d ih=>
   intro as b g h cs hr;cases as with
   |nil=>simp[ju]at h
   |cons a as=>
    cases cs with
    |nil=>simp[aw]at hr
    |cons c cs=>
     simp only[aw]at hr;simp only[ju]at h;split at h
     ·rename_i b1 g1 b2 g2 h1 O
      cases h;obtain⟨k,I,M,N⟩:=ih O cs hr.2;rcases one0 h1 with y|rfl
      ·exact⟨a::k,by simp only[ju,h1,I],by simp only[AV.cd,y,M,xI],by simp only[aw]; exact⟨hr.1,N⟩⟩
      ·have e:jG [] (bZ [] []) (fun _=>false) .any .undef=some (b1,g1):=by
        have:jG [] (bZ [] []) (fun _=>false) .any a=some (true,[]):=by cases a<;>rfl
        rw[this]at h1;exact h1
       exact⟨.undef::k,by simp only[ju,e,I],by simp only[AV.cd,M]; rfl,by simp only[aw,ad]; exact⟨trivial,N⟩⟩
     ·cases h
 have oneS:∀{d:List Sh} {as:List AV} {b:Bool} {g:LG},gu [] (bZ [] []) (fun _=>false) d as=some (b,g)->∀(cs:List ar),aw E as cs ->
   ∃k,gu [] (bZ [] []) (fun _=>false) d k=some (b,g)/\AV.cd k=true/\aw E k cs:=by
  intro d
  induction d with
  |nil=>
   intro as b g h cs hr;cases as with
   |nil=>exact⟨[],h,rfl,hr⟩
   |cons _ _=>simp[gu]at h
  |cons sh d ih=>
   intro as b g h cs hr;cases as with
   |nil=>simp[gu]at h
   |cons a as=>
    cases cs with
    |nil=>simp[aw]at hr
    |cons c cs=>
     simp only[aw]at hr;simp only[gu]at h;split at h
     ·rename_i b1 g1 b2 g2 h1 O
      cases h;obtain⟨k,I,M,N⟩:=ih O cs hr.2;cases sh with
      |s sh0=>
       simp only[pe]at h1;rcases one0 h1 with y|rfl
       ·exact⟨a::k,by simp only[gu,pe,h1,I],by simp only[AV.cd,y,M,xI],by simp only[aw]; exact⟨hr.1,N⟩⟩
       ·have e:jG [] (bZ [] []) (fun _=>false) .any .undef=some (b1,g1):=by
         have:jG [] (bZ [] []) (fun _=>false) .any a=some (true,[]):=by cases a<;>rfl
         rw[this]at h1;exact h1
        exact⟨.undef::k,by simp only[gu,pe,e,I],by simp only[AV.cd,M]; rfl,by simp only[aw,ad]; exact⟨trivial,N⟩⟩
      |clo f caps=>
       cases a<;>simp only[pe]at h1<;>try cases h1
       rename_i f' U;split at h1
       ·rename_i hf
        subst hf;have hx:=hr.1;simp only[ad]at hx;obtain⟨us,e1,e2⟩:=hx;obtain⟨vs',l1,l2,l3⟩:=oneL h1 _ e2;exact⟨.clo f vs'::k,by simp only[gu,pe,if_true,l1,I],by simp only[AV.cd,AV.closed,l2,M,xI],
         by simp only[aw,ad]; exact⟨⟨us,e1,l3⟩,N⟩⟩
       ·cases h1
     ·cases h
 intro d as g hcl h W cs hr;obtain⟨k,h1,O,h3⟩:=oneS h cs hr;have h4:=td RV k O h3;have h5:=(wC (adL HE) h1 W).2.2.2 cs h4;exact td adK _ (F9 hcl) h5
def aF.bu(τ:aF)(sp:aL):aF where
 pf g:=match aD g sp.f with
  |true=>true
  |false=>τ.pf g
 T g as:=match aD g sp.f with
  |true=>match gu [] (bZ [] []) (fun _=>false) sp.args as with
   |some (b,d)=>some (wE b (sp.F d).isSome,fc (iK [] sp.res ((sp.F d).getD [])))
   |none=>τ.T g as
  |false=>τ.T g as
 W:=τ.W
 C:=τ.C
 I:=τ.I
 N:=τ.N
 U:=τ.U
def Co(sp:aL):Bool:=(sp.args.all F8)&&((sp.res.all F8)&&(sp.bI.isEmpty&&sp.fO.isEmpty))
theorem aH.bu{P:ak}{τ:aF}(h:aH P τ){sp:aL}(hb:gr P sp.f=true)(N:Co sp=true)
  (hc:∀d r,sp.F d=some r->fL P sp.f (sp.ew d) (ay (sp.H0 d)) (sp.out r) (ay (sp.H1 r))):aH P (τ.bu sp):=by
 simp only[Co,aO,List.isEmpty_iff]at N;obtain⟨M,hp2,hp3,hp4⟩:=N;refine⟨fun g as b v k y=>?_,h.W,h.C,h.I,h.F⟩;simp only[aF.bu]at k;split at k
 ·rename_i e
  have e:=bN e;subst e;split at k
  ·rename_i b' d hr
   simp only[bD,bM]at k;obtain⟨h1,rfl⟩:=k;subst h1;simp only[wF]at y;obtain⟨rfl,O⟩:=y;refine⟨hb,?_⟩;cases U:sp.F d with
   |none=>rw[U]at O; cases O
   |some r=>
    have hx:=hc d r U;simp only[aL.ew,aL.H0,aL.out,aL.H1,hp3,hp4,dL,cY,pc,fM]at hx;have:=abN hx (F9 M) (adI (F9 hp2));intro H E cargs hH HE hargs;exact this H E cargs hH HE (by
     have:=adM HE M hr [] _ hargs
     rwa [dY]at this)
  ·exact h.T _ as b v k y
 ·exact h.T g as b v k y
def Kd.dB:List Kd->Bool
 |[]=>true
 |.list _::_=>false
 |_::ks=>Kd.dB ks
def Ct.cq:Ct->Bool
 |.one k=>Kd.dB [k]
 |.agg ks=>Kd.dB ks
def yQ:gN->Bool
 |.row ks=>Kd.dB ks
 |.list _ | .wy _ | .cptr _=>false
 |_=>true
def RW:Sh->Bool
 |.s a=>yQ a
 |.clo _ caps=>caps.all yQ
def RX:bY->Bool
 |.vQ ks _=>Kd.dB ks
 |.box cells=>cells.all yQ
 |.map K V=>K.cq&&V.cq
 |.ij _ _ _=>true
 |.ba _ _ _=>false
 |.mm _ K d h=>K.cq&&(d.cq&&h.cq)
 |.cZ _ _=>false
 |.bU _ _ _=>false
def iZ(sp:aL):Bool:=(sp.res.all RW)&&(sp.fO.all RX)
theorem F_:∀{ks:List Kd} (r:LG),Kd.dB ks=true->AV.dB (aY ks r)=true
 |[],_,_=>rfl
 |.list _::_,_,h=>by simp[Kd.dB]at h
 |.int _::ks,r,h | .str::ks,r,h | .bool::ks,r,h=>by
  simp only[Kd.dB]at h;simp only[aY,AV.dB,F_ r.tail h,jQ];rfl
theorem Ct.Cp{K:Ct}(r:LG)(h:K.cq=true):(K.av r).cq=true:=by
 cases K with
 |one k=>
  simp only[Ct.cq]at h;cases k<;>first
   |rfl
   |(simp[Kd.dB]at h; done)
 |agg ks=>simp only[Ct.av,AV.cq]; exact F_ r h
theorem RY:∀ d:List Nat,AV.dB (wz d)=true
 |[]=>rfl
 |j::d=>by simp only[wz,AV.dB,RY d,jQ]; rfl
theorem RZ{a:gN}(h:yQ a=true):(gF lens a d).cq=true:=by
 cases a<;>simp only[yQ]at h<;>first
  |(cases h; done)
  |(simp only[gF,AV.cq]; exact F_ _ h)
  |rfl
  |grind[gF,AV.cq,RY]
theorem L4{lens:eU}:∀{as:List gN} {d:LG},(as.all yQ)=true->AV.dB (mF lens as d)=true
 |[],_,_=>rfl
 |a::as,d,h=>by
  simp only[pM,aO]at h;simp only[mF,AV.dB,RZ h.1,L4 h.2,xI]
theorem L5{lens:eU}:∀{as:List Sh} {d:LG},(as.all RW)=true->AV.dB (iK lens as d)=true
 |[],_,_=>rfl
 |a::as,d,h=>by
  simp only[pM,aO]at h;simp only[iK,AV.dB,L5 h.2,jQ];cases a with
  |s a=>exact RZ h.1
  |clo f caps=>simp only[tZ,AV.cq]; exact L4 h.1
theorem R0{d:List AV}(h:AV.dB d=true):(fc d).cq=true:=by
 cases d with
 |nil=>rfl
 |cons v d=>
  cases d with
  |nil=>grind[fc,AV.dB]
  |cons k d=>grind[fc,AV.cq]
theorem L6{lens:eU}:∀{os:List bY} {d:LG},(os.all RX)=true->((ay (dL lens os d)).all aj.cq)=true
 |[],_,_=>rfl
 |o::os,d,h=>by
  simp only[pM,aO]at h;have k:=L6 (lens:=lens) (d:=fM o.sz d) h.2;simp only[dL,ay,e9,pM,aO];refine⟨?_,by simpa only[ay]using k⟩;cases o with
  |vQ ks u=>
   simp only[gO,ax.ao,aj.cq,eD,dS];rintro r ⟨g,_,rfl⟩;exact F_ g h.1
  |box cells=>simp only[gO,ax.ao,aj.cq]; exact L4 h.1
  |map K V=>
   have h1:(K.cq&&V.cq)=true:=h.1;simp only[aO]at h1;simp only[gO,ax.ao,aj.cq,dA,eD,dS];rintro x ⟨g,_,rfl⟩;simp only[Ct.Cp _ h1.1,Ct.Cp _ h1.2,xI]
  |ij l T B=>rfl
  |ba l K ks=>cases h.1
  |cZ l ks=>cases h.1
  |bU l K ks=>cases h.1
  |mm l K v I=>
   have h1:(K.cq&&(v.cq&&I.cq))=true:=h.1;simp only[aO]at h1;simp only[gO,ax.ao,aj.cq,lS,tF,dA,aO,eD,dS];refine⟨?_,?_⟩
   ·rintro x ⟨g,_,rfl⟩
    exact Ct.Cp _ h1.1
   ·rintro x ⟨g,_,rfl⟩ y M
    obtain⟨q,_,rfl⟩:=dS.1 M;simp only[Ct.Cp _ h1.2.1,Ct.Cp _ h1.2.2,and_self]
def ax.cW(e:cJ)(j:Nat):ax->ax
 |.vQ ks v rZ=>.vQ ks (v+e.up j) rZ
 |.raw o=>.raw (o.cW e j)
 |.map K V rZ c=>.map K V rZ c
 |.ba l K ks rZ c=>.ba l K ks rZ c
 |.mm l K d h rZ mem c=>.mm l K d h rZ mem c
 |.cZ l ks n k=>.cZ l ks n k
 |.bU l K ks rZ c=>.bU l K ks rZ c
def Cq(e:cJ):Nat->List ax->List ax
 |_,[]=>[]
 |j,o::os=>o.cW e j::Cq e (j+1) os
def ox(e:cJ)(H H1:List ax):List ax:=gE H e.az (Cq e 0 H1)++(Cq e 0 H1).drop e.az.length
theorem adN(e:cJ)(j:Nat)(o:ax):(o.cW e j).ao=o.ao.cW e j:=by
 cases o<;>rfl
theorem R4(e:cJ):∀(j:Nat) (os:List ax),ay (Cq e j os)=o_ e j (ay os)
 |_,[]=>rfl
 |j,o::os=>by
  simp only[Cq,ay,e9,o_,adN];have:=R4 e (j+1) os
  grind[ay]
theorem R5{α β:Type}(f:α->β):∀(d:List Nat) (l h:List α),(gE l d h).map f=gE (l.map f) d (h.map f)
 |[],_,_=>by simp[gE]
 |_::_,_,[]=>by simp[gE]
 |i::d,l,x::h=>by simp[gE,R5 f d,List.map_set]
theorem R6(e:cJ)(H H1:List ax):ay (ox e H H1)=qL e (ay H) (ay H1):=by
 unfold ox qL;rw[<-R4];simp only[ay,List.map_append,R5,List.map_drop]
def oy(e:cJ):Nat->List bY->Bool
 |_,[]=>true
 |j,.vQ _ _::os=>oy e (j+1) os
 |j,_::os=>aD (e.up j) 0&&oy e (j+1) os
theorem qR{e:cJ}{lens:eU}:∀{j:Nat} {os:List bY} {d:LG},oy e j os=true->lV e j (ay (dL lens os d))=true
 |_,[],_,_=>rfl
 |j,.vQ ks u::os,d,h=>by
  simp only[oy]at h;have:=qR (lens:=lens) (d:=fM (bY.vQ ks u).sz d) h;simp only[dL,ay,e9,lV,aO];exact⟨rfl,by simpa only[ay]using this⟩
 |j,.box cells::os,d,h=>by
  simp only[oy,aO]at h;have:=qR (lens:=lens) (d:=fM (bY.box cells).sz d) h.2;simp only[dL,ay,e9,lV,aO];exact⟨h.1,by simpa only[ay]using this⟩
 |j,.map K V::os,d,h=>by
  simp only[oy,aO]at h;have:=qR (lens:=lens) (d:=fM (bY.map K V).sz d) h.2;simp only[dL,ay,e9,lV,aO];exact⟨h.1,by simpa only[ay]using this⟩
 |j,.ij l T B::os,d,h=>by
  simp only[oy,aO]at h;have:=qR (lens:=lens) (d:=fM (bY.ij l T B).sz d) h.2;simp only[dL,ay,e9,lV,aO];exact⟨h.1,by simpa only[ay]using this⟩
 |j,.ba l K ks::os,d,h=>by
  simp only[oy,aO]at h;have:=qR (lens:=lens) (d:=fM (bY.ba l K ks).sz d) h.2;simp only[dL,ay,e9,lV,aO];exact⟨h.1,by simpa only[ay]using this⟩
 |j,.mm l K k v::os,d,h=>by
  simp only[oy,aO]at h;have:=qR (lens:=lens) (d:=fM (bY.mm l K k v).sz d) h.2;simp only[dL,ay,e9,lV,aO];exact⟨h.1,by simpa only[ay]using this⟩
 |j,.cZ l ks::os,d,h=>by
  simp only[oy,aO]at h;have:=qR (lens:=lens) (d:=fM (bY.cZ l ks).sz d) h.2;simp only[dL,ay,e9,lV,aO];exact⟨h.1,by simpa only[ay]using this⟩
 |j,.bU l K ks::os,d,h=>by
  simp only[oy,aO]at h;have:=qR (lens:=lens) (d:=fM (bY.bU l K ks).sz d) h.2;simp only[dL,ay,e9,lV,aO];exact⟨h.1,by simpa only[ay]using this⟩
def qf(S:Bool)(az:List Nat)(i:Nat):Bool:=match S with
 |true=>jX az i
 |false=>false
def ug(sp:aL)(as:List AV)(H:List ax):Option (Bool × AV × List ax):=
 match lZ H (fun i=>as.getD i .undef) sp.ps []with
 |none=>none
 |some az=>match nodupB az&&oy (bZ H az) 0 sp.fO with
  |false=>none
  |true=>match lX H (bZ H az) (qf (iZ sp) az) sp.bI az,gu H (bZ H az) (qf (iZ sp) az) sp.args as with
   |some (b,g),some (h,d)=>some (wE (b&&h) (sp.F (g++d)).isSome,(sp.out ((sp.F (g++d)).getD [])).cW (bZ H az),ox (bZ H az) H (sp.H1 ((sp.F (g++d)).getD [])))
   |_,_=>none
def se:List fN->Nat->Bool
 |[],_=>true
 |.cell j _::ps,n=>dy j n&&se ps (n+1)
 |.LX j _ _::ps,n=>dy j n&&se ps (n+1)
 |_::ps,n=>se ps (n+1)
theorem R7{H:List ax}{v:Nat->AV}:∀{ps:List fN} {d az:List Nat},lZ H v ps d=some az->∀ x∈d,x∈az
 |[],d,az,h,x,k=>by cases h; exact k
 |p::ps,d,az,h,x,k=>by
  unfold lZ at h;split at h
  ·exact R7 h x (A5 _ k)
  ·cases h
theorem R8{H:List ax}{d:Nat->AV}{id:Nat}{o:ax}:∀{ps:List fN} {acc az:List Nat},se ps acc.length=true->lZ H d ps acc=some az->id∉az->lZ (H.set id o) d ps acc=some az
 |[],acc,az,_,h,_=>h
 |p::ps,acc,az,v,h,y=>by
  unfold lZ at h|-;split at h
  ·rename_i i hi
   have M:=R7 h;have get:∀j,j<acc.length->(H.set id o)[acc.getD j 0]?=H[acc.getD j 0]?:=fun j I=>by
    refine bL fun e=>y ?_;rw[e,dc,cB I];exact M _ (A5 _ (vp I))
   have e:F3 (H.set id o) d acc p=some i/\se ps (acc++[i]).length=true:=by
    rw[fV];cases p with
    |fix _=>exact⟨hi,v⟩
    |aM _=>exact⟨hi,v⟩
    |cap _ _=>exact⟨hi,v⟩
    |cell j c=>
     simp_all[se,F3]
    |LX j c k=>
     simp_all[se,F3]
   rw[e.1];exact R8 e.2 h y
  ·cases h
section adO
variable {H:List ax} {e:cJ} {id:Nat} {o:ax} (he:∀j,e.at j≠id)
include he
theorem R9:∀(d:List Nat) (h:List AV),pd (H.set id o) e d h=pd H e d h
 |[],[]=>rfl
 |[],_::_=>rfl
 |_::_,[]=>rfl
 |j::d,v::h=>by
  have I:=R9 d h;cases v<;>try rfl
  rename_i i aq k row c;simp only[pd,I];by_cases hi:i=id
  ·subst hi
   have y:aD i (e.at j)=false:=by
    cases hb:aD i (e.at j)with
    |false=>rfl
    |true=>exact absurd (bN hb).symm (he j)
   simp only[y,Bool.false_and];cases (H.set i o)[i]?<;>cases H[i]?<;>(repeat' split)<;>rfl
  ·rw[bL (Ne.symm hi)]
theorem R_:∀(sh:gN) (a:AV),jG (H.set id o) e (fun _=>false) sh a=jG H e (fun _=>false) sh a:=by
 have I:∀{i:Nat},i≠id->(H.set id o)[i]?=H[i]?:=fun h=>bL (Ne.symm h);have d:∀j,¬ (id=e.at j):=fun j h=>he j h.symm;intro sh a;cases a with
 |vQ w i aq oF n=>
  by_cases hi:i=id
  ·subst hi
   cases sh<;>(try rfl)<;>simp only[jG,wm,rA,and_false,if_false,d,false_and]<;>(repeat' split)<;>grind
  ·cases sh<;>(try rfl)<;>grind[jG]
 |ptr i aq k row M=>
  by_cases hi:i=id
  ·subst hi
   cases sh<;>(try rfl)<;>simp only[jG,rA,and_false,if_false,d,false_and]<;>(repeat' split)<;>grind
  ·cases sh<;>(try rfl)<;>grind[jG]
 |map i=>
  by_cases hi:i=id
  ·subst hi
   cases sh<;>(try rfl)<;>simp only[jG,if_false,d]<;>(repeat' split)<;>grind
  ·cases sh<;>(try rfl)<;>grind[jG]
 |clo f y=>
  cases sh<;>(try rfl)
  ·cases y<;>rfl
  grind[jG,R9]
 |lit v=>
  cases sh<;>(try rfl)<;>cases v<;>(try rfl)
  ·rename_i b n c
   cases b<;>cases n<;>cases c<;>rfl
  ·rename_i q
   cases q with
   |none=>rfl
   |some q=>
    obtain⟨b,o',w⟩:=q;cases o'<;>cases w<;>rfl
 |_=>cases sh<;>rfl
theorem L7:∀(d:List gN) (as:List AV),ju (H.set id o) e (fun _=>false) d as=ju H e (fun _=>false) d as
 |[],[]=>rfl
 |[],_::_=>rfl
 |_::_,[]=>rfl
 |sh::d,a::as=>by simp only[ju,R_ he sh a,L7 d as]
theorem adP(sh:Sh)(a:AV):pe (H.set id o) e (fun _=>false) sh a=pe H e (fun _=>false) sh a:=by
 cases sh with
 |s x=>simp only[pe,R_ he]
 |clo f caps=>
  cases a with
  |clo g d=>simp only[pe,L7 he]
  |_=>rfl
theorem R':∀(d:List Sh) (as:List AV),gu (H.set id o) e (fun _=>false) d as=gu H e (fun _=>false) d as
 |[],[]=>rfl
 |[],_::_=>rfl
 |_::_,[]=>rfl
 |sh::d,a::as=>by simp only[gu,adP he sh a,R' d as]
theorem adQ(sh:bY)(t:ax):ku (H.set id o) e (fun _=>false) sh t=ku H e (fun _=>false) sh t:=by
 cases sh with
 |box d=>
  simp_all[ku,L7]
 |ij l T B=>
  cases t with
  |raw x=>cases x<;>rfl
  |_=>rfl
 |_=>cases t<;>rfl
theorem Sa:∀(os:List bY) (d:List Nat),id∉d->lX (H.set id o) e (fun _=>false) os d=lX H e (fun _=>false) os d
 |[],[],_=>rfl
 |[],_::_,_=>rfl
 |_::_,[],_=>rfl
 |sh::os,i::d,h=>by
  have h1:id≠i:=fun e=>h (by rw[e]; exact dx);simp only[lX,bL h1,adQ he,Sa os d fun hm=>h (dh _ hm)]
end adO
theorem Sb{α:Type}{i:Nat}{x:α}:∀(d:List Nat) (l k:List α),i∉d->gE (l.set i x) d k=(gE l d k).set i x
 |[],_,_,_=>by simp[gE]
 |_::_,_,[],_=>by simp[gE]
 |j::d,l,y::k,h=>by
  have h1:i≠j:=fun e=>h (by rw[e]; exact dx);simp only[gE];rw[List.set_comm _ _ h1];exact Sb d _ _ fun hm=>h (dh _ hm)
theorem adR(h:id∉az):bZ (H.set id o) az=bZ H az:=by
 unfold bZ;rw[List.length_set];congr 1;refine List.map_congr_left fun i hi=>?_;unfold wB;rw[bL fun e=>h (by rw[e]; exact hi)]
theorem adS(N:iZ sp=false)(O:se sp.ps 0=true){as:List AV}{H':List ax}{v:AV}(h:ug sp as H=some (b,v,H'))(U:id<H.length)
  (I:∀az,lZ H (fun i=>as.getD i .undef) sp.ps []=some az->id∉az) :
  ug sp as (H.set id o)=some (b,v,H'.set id o)/\∃az,lZ H (fun i=>as.getD i .undef) sp.ps []=some az/\lZ (H.set id o) (fun i=>as.getD i .undef) sp.ps []=some az:=by
 unfold ug at h|-;split at h
 ·cases h
 rename_i az d;have hn:=I az d;have k:=R8 (o:=o) (acc:=[]) O d hn;refine⟨?_,az,d,k⟩;rw[k];simp only[adR hn];split at h
 ·cases h
 rename_i W;have M:qf (iZ sp) az=fun _=>false:=by
  rw[N];rfl
 rw[M]at h|-;have he:∀j,(bZ H az).at j≠id:=by
  intro j e;rcases nU j (bZ H az).az.length with y|y
  ·have:=jW y
   rw[e]at this;exact hn (gg this)
  grind[wx,bZ]
 rw[Sa he _ _ hn,R' he];split at h<;>grind[ox,bZ,Sb,wv]
def aF.du(τ:aF)(sp:aL):aF where
 pf g:=match aD g sp.f with
  |true=>false
  |false=>τ.pf g
 T:=τ.T
 W g as H:=match aD g sp.f with
  |true=>match ug sp as H with
   |some r=>some r
   |none=>τ.W g as H
  |false=>τ.W g as H
 C g as H:=match aD g sp.f with
  |true=>(match lZ H (fun i=>as.getD i .undef) sp.ps [] with
   |some az=>az
   |none=>[])++τ.C g as H
  |false=>τ.C g as H
 I:=τ.I
 N g:=match aD g sp.f with
  |true=>match τ.U g,iZ sp with
   |false,false=>se sp.ps 0
   |_,_=>false
  |false=>τ.N g
 U g:=match aD g sp.f with
  |true=>true
  |false=>τ.U g
def uh:List bY->List bY->Bool
 |_,[]=>true
 |[],o'::d=>o'.mE.isNone&&uh [] d
 |o::os,o'::d=>(match o'.mE with
  |none=>true
  |some l=>match o.mE with
   |some l'=>aD l l'
   |none=>false)&&uh os d
theorem Ga:∀{os k:List bY},uh os k=true->∀(j:Nat) o' l,k[j]? = some o'->o'.mE=some l->∃ o,os[j]? = some o/\o.mE=some l
 |_,[],_,j,_,_,d,_=>by simp at d
 |[],x::k,h,0,o',l,d,v=>by
  simp only[uh,aO]at h;simp at d;subst d;rw[v]at h;cases h.1
 |[],x::k,h,j+1,o',l,d,v=>by
  simp only[uh,aO]at h;obtain⟨o,h1,_⟩:=Ga h.2 j o' l (by simpa using d) v;simp at h1
 |o::os,x::k,h,0,o',l,d,v=>by
  simp only[uh,aO]at h
  grind[bN]
 |o::os,x::k,h,j+1,o',l,d,v=>by
  simp only[uh,aO]at h;exact Ga h.2 j o' l (by simpa using d) v
theorem Sc(lens:eU):∀(os:List bY) (d:LG) (j:Nat) (o:ax),(dL lens os d)[j]? = some o->∃ sh k,os[j]? = some sh/\o=gO lens sh k
 |[],d,j,o,h=>by simp[dL]at h
 |s::os,d,0,o,h=>by
  simp[dL]at h;exact⟨s,d,rfl,h.symm⟩
 |s::os,d,j+1,o,h=>by
  simp only[dL,ZI]at h;obtain⟨sh,k,h1,v⟩:=Sc lens os _ j o h
  grind
theorem Sd{j:Nat}{o:aj} (h:(ay (dL lens os d))[j]?=some o):∃sh,os[j]?=some sh/\o.label=sh.mE:=by
 simp only[ay,dw]at h;obtain⟨o',h1,rfl⟩:=gj.1 h;obtain⟨sh,v,k,rfl⟩:=Sc lens os d j o' h1;exact⟨sh,k,t_ _ _ _⟩
theorem L8(lens:eU):∀(os:List bY) (d:LG) (j:Nat) (sh:bY),os[j]? = some sh->∃ o,(ay (dL lens os d))[j]? = some o/\o.label=sh.mE
 |[],d,j,o,h=>by simp at h
 |s::os,d,0,sh,h=>by
  simp at h;subst h;exact⟨(gO lens s d).ao,by simp[dL,ay],t_ _ _ _⟩
 |s::os,d,j+1,sh,h=>by
  obtain⟨o,h1,k⟩:=L8 lens os (fM s.sz d) j sh (by simpa using h)
  grind[dL,ay]
def sf(sp:aL):Bool:=lu sp.bI&&(dv sp.bI.length sp.fO.length&&uh sp.bI sp.fO)
theorem adT(hp:sf sp=true) (hc:∀ d r,sp.F d=some r->fL P sp.f (sp.ew d) (ay (sp.H0 d)) (sp.out r) (ay (sp.H1 r)))
  {as:List AV} {H H':List ax} {v:AV} (h:ug sp as H=some (true,v,H')):fL P sp.f as (ay H) v (ay H'):=by
 simp only[sf,aO]at hp;obtain⟨hfr,hle,hlab⟩:=hp;have hle:=vo hle;unfold ug at h;split at h
 ·cases h
 rename_i az hids;split at h
 ·cases h
 rename_i hck;simp only[aO]at hck;obtain⟨hnd,hup⟩:=hck;have hnd:=ua hnd;split at h
 case h_2=>cases h
 rename_i b g b' k h1 h2;simp only[bD,bM,wF,aO]at h;obtain⟨⟨⟨rfl,rfl⟩,h3⟩,rfl,rfl⟩:=h;cases hF:sp.F (g++k)with
 |none=>rw[hF]at h3; cases h3
 |some r=>
 simp only[rD];obtain⟨p0,p1,p2,p3⟩:=wD h1 k (cY sp.bI (g++k));have hd:fM (pc sp.bI) (g++k)=k:=by rw[<-p0]; exact qM g k
 have hlen:az.length=(ay (sp.H0 (g++k))).length:=by rw[fB]; simp only[aL.H0,p1,p2]
 have hat:∀j,j<az.length->az[j]?=some ((bZ H az).at j):=fun j y=>jW (e:=bZ H az) y;have hobjs:∀j,j<az.length->∃sh o W U,sp.bI[j]?=some sh/\H[(bZ H az).at j]?=some o/\ku H (bZ H az) (qf (iZ sp) az) sh o=some (true,W) /\
   (sp.H0 (g++k))[j]?=some (gO (cY sp.bI (g++k)) sh (W++U)) /\
   (cY sp.bI (g++k)).aq j=sh.up/\(∀ks v rZ,o=.vQ ks v rZ->(cY sp.bI (g++k)).len j=rZ.length)/\sh.up=0/\(bZ H az).up j=wA o:=by
  intro j y;have hj':j<sp.bI.length:=ab;obtain⟨i,o,W,U,q1,I,N,M,q5,q6⟩:=p3 j sp.bI[j] (cB hj');have q1':=q1;rw[hat j y]at q1;cases q1;refine⟨sp.bI[j],o,W,U,cB hj',I,N,M,q5,q6,?_,?_⟩
  ·have:=eD.1 hfr sp.bI[j] (vp hj')
   exact bN this
  ·simp only[cJ.up,bZ,dc,dw]
   rw[q1'];simp only[Option.map_some,rD,wB];rw[I]
 have hK:∀E E0,E.H=ay H->aJ E->wu (bZ H az) (bif iZ sp then (fm H.length).filter (jX az) else []) E E0->E0.H=ay (sp.H0 (g++k)) ->
   ls H (bZ H az) (qf (iZ sp) az) (cY sp.bI (g++k)) E E0:=by
  intro E E0 hEH HE hlin hE0H;refine { hH:=hEH,HE:=HE,free:=fun i hi b n hb=>?_,en:=hlin.toKeepIn,obj:=fun j o ho=>?_ }
  ·refine hlin.Rv i ?_ b n hb
   have hlt:=bl hb;rw[HE.len,hEH,fB]at hlt;unfold qf at hi;split at hi
   ·rename_i O
    rw[O];simp only[cT,mn,List.mem_range];exact⟨hlt,hi⟩
   ·cases hi
  ·have y:j<az.length:=by
    rcases nU j az.length with hlt|hge
    ·exact hlt
    ·have h1:=bl ho
     have h2:=wx (e:=bZ H az) hge;have h3:(bZ H az).aU=H.length:=rfl;omega
   refine⟨y,?_⟩;obtain⟨sh,o',W,U,q1,I,N,M,q5,q6,q7,q8⟩:=hobjs j y;rw[ho]at I;cases I;obtain⟨r1,r2,r3⟩:=Ch (lens:=cY sp.bI (g++k)) (d:=W++U) N;exact⟨r1,⟨_,by rw[hE0H]; exact bt M,by rw[q5]; exact r2⟩,fun o0 h0=>by rw[hE0H,bt M]at h0; cases h0; rw[Cf,Cg N],q6,fun _=>by rw[q5]; exact q7⟩
 have:=frame (P:=P) (f:=sp.f) (iZ sp) (bif iZ sp then (fm H.length).filter (jX az) else []) (e:=bZ H az) (H:=ay H) (args:=sp.ew (g++k)) (H0:=ay (sp.H0 (g++k)))
  (H1:=ay (sp.H1 r)) (v:=sp.out r) (ew:=as) (hc _ _ hF) hlen (by rw[fB]; rfl) hnd ?_ ?_ (qR hup) ?_ (fun O=>by rw[O]; rfl) ?_ ?_ ?_ ?_ ?_ ?_ ?_
 ·rw[R6]
  exact this
 ·intro j o ho
  have y:j<az.length:=by rw[hlen]; exact bl ho
  obtain⟨sh,o',W,U,q1,I,N,M,q5,q6,q7,q8⟩:=hobjs j y;obtain⟨r1,r2,r3⟩:=Ch (lens:=cY sp.bI (g++k)) (d:=W++U) N;rw[bt M]at ho;cases ho;refine⟨o'.ao,bt I,aj.ED r2,fun v=>?_⟩;rw[r1,r2,q7,q8];simp only[bD];constructor
  ·rintro rfl
   exact⟨0,rfl,ab⟩
  ·rintro⟨u,rfl,rfl⟩
   omega
 ·intro E E0 hEH HE hlin hE0H j o ho
  have y:j<az.length:=by rw[hlen]; exact bl ho
  obtain⟨sh,o',W,U,q1,I,N,M,q5,q6,q7,q8⟩:=hobjs j y;rw[bt M]at ho;cases ho;exact LN (hK E E0 hEH HE hlin hE0H) N U y (fun l hl=>hlin.mE j _ l (by rw[hE0H]; exact bt M) (by rw[t_,hl])) (HE.obj _ _ (by rw[hEH]; exact bt I))
 ·rw[fB,fB]
  simp only[aL.H0,aL.H1,Cm];exact hle
 ·intro O
  simp only[iZ,aO]at O;exact R0 (L5 O.1)
 ·intro O
  simp only[iZ,aO]at O;exact L6 O.2
 ·intro i hi
  cases O:iZ sp with
  |true=>
   rw[O]at hi;simp only[cT,mn]at hi;exact LQ hi.2
  |false=>
   rw[O]at hi;simp at hi
 ·intro j o o' ho ho'
  have y:j<az.length:=by rw[hlen]; exact bl ho
  obtain⟨sh,o2,W,U,q1,I,N,M,_⟩:=hobjs j y;rw[bt M]at ho;rw[bt I]at ho';cases ho;cases ho';rw[LK N,t_]
 ·intro j o l ho hl
  obtain⟨sh,h5,h6⟩:=Sd (show (ay (dL (cY sp.fO r) sp.fO r))[j]?=some o from ho);obtain⟨sh0,h7,h8⟩:=Ga hlab j sh l h5 (by rw[<-h6,hl]);obtain⟨o0,h9,h10⟩:=L8 (cY sp.bI (g++k)) sp.bI (g++k) j sh0 h7;exact⟨o0,h9,by rw[h10,h8]⟩
 ·intro j o o' ho ho'
  have y:j<az.length:=by rw[hlen]; exact bl ho
  obtain⟨sh,o2,W,U,q1,I,N,M,_⟩:=hobjs j y;rw[bt M]at ho;rw[bt I]at ho';cases ho;cases ho';rw[Cg N,Cf]
 ·intro E E0 cs hEH HE hlin hE0H hr
  have hS:=(wC (hK E E0 hEH HE hlin hE0H) h2 []).2.2.2 cs hr;rw[dY]at hS;simp only[aL.ew,hd];exact hS
theorem adU{as:List AV}{H':List ax}{v:AV}{A:Nat}(h:ug sp as H=some (b,v,H'))(k:A<H.length)(hA:∀az,lZ H (fun i=>as.getD i .undef) sp.ps []=some az->A∉az):H'[A]?=H[A]?:=by
 unfold ug at h;split at h
 ·cases h
 rename_i az d;split at h
 ·cases h
 split at h
 case h_2=>cases h
 cases h;unfold ox;rw[fT (by rw[wv]; exact k)];exact FT _ _ _ _ (hA az d)
theorem aH.du{P:ak}{τ:aF}(h:aH P τ){sp:aL}(hb:gr P sp.f=true)(hp:sf sp=true)
  (hc:∀d r,sp.F d=some r->fL P sp.f (sp.ew d) (ay (sp.H0 d)) (sp.out r) (ay (sp.H1 r))):aH P (τ.du sp):=by
 refine⟨h.T,fun g as H b v H' k U=>?_,fun g as H b v H' k A hA M=>?_,fun g as H t k Q hQ=>?_,fun g N as H=>?_,fun g y as H b v H' k id o M O=>?_⟩
 rotate_left 2
 ·obtain⟨g1,v,H',g2,g3,g4⟩:=h.I g as H t k Q hQ
  refine⟨g1,v,H',g2,fun A hA M=>g3 A (fun hm=>hA ?_) M,g4⟩
  grind[aF.du]
 ·simp only[aF.du]at N |-
  cases e:aD g sp.f with
  |true=>grind
  |false=>
   rw[e]at N;exact h.F.1 g N as H
 ·simp only[aF.du]at y k O |-
  cases e:aD g sp.f with
  |false=>
   rw[e]at y k O;exact h.F.2 g y as H b v H' k id o M O
  |true=>
   rw[e]at y k O;simp only[]at y k O|-;split at y
   case h_2=>cases y
   rename_i N hs;have hW0:∀H,τ.W g as H=none:=fun H=>(h.F.1 g N as H).1;have hC0:∀H,τ.C g as H=[]:=fun H=>(h.F.1 g N as H).2
   grind[adS]
 simp only[aF.du]at k;split at k
 ·rename_i e
  have e:=bN e;subst e;split at k
  grind[adT]
  ·exact h.W _ as H b v H' k U
 ·exact h.W g as H b v H' k U
 simp only[aF.du]at k hA;split at k
 ·rename_i e
  rw[e]at hA;simp only[]at hA;split at k
  grind[adU]
  ·exact h.C g as H b v H' k A (fun hm=>hA (List.mem_append_right _ hm)) M
 ·rename_i e
  rw[e]at hA;exact h.C g as H b v H' k A hA M
def aI(t:Option LG)(k:LG->Option β):Option β:=bif t.isSome then k (t.getD []) else none
def i_(b:Bool)(t:Option LG)(k:LG->Option β):Option β:=bif b then k (t.getD []) else none
def be(b:Bool)(r:Option (Nat × LG))(k:Nat->LG->Option β):Option β:=bif (b&&r.isSome) then k (LY r) (LZ r) else none
def adV:Kd->G->G
 |.int _,g=>.i g.iV
 |.str,g=>.s g.sV
 |.bool,g=>.t g.bV
 |.list _,g=>.l g.rZ
def bg:List Kd->LG->LG
 |[],_=>[]
 |k::ks,r=>adV k (r.headD default)::bg ks r.tail
def aF.kQ(τ:aF)(d:List bJ):aF:={ τ with pf:=fun g=>match d.any (fun x=>aD x g)with
 |true=>false
 |false=>τ.pf g }
def aF.kz(τ:aF)(d:List bJ):aF:={ τ with pf:=fun g=>match d.any (fun x=>aD x g)with
 |true=>true
 |false=>τ.pf g }
theorem aH.kz{P:ak}{τ:aF}(h:aH P τ)(d:List bJ):aH P (τ.kz d):=⟨h.T,h.W,h.C,h.I,h.F⟩
theorem aH.kQ{P:ak}{τ:aF}(h:aH P τ)(d:List bJ):aH P (τ.kQ d):=⟨h.T,h.W,h.C,h.I,h.F⟩
theorem adW{t:Option LG}{k:LG->Option β}(h:t=some g):aI t k=k g:=by subst h; rfl
inductive jH (st:LG->bp):Nat->LG->Nat->LG->Prop
 |stop {d d':LG} {x:Nat} (h:st d=some (some x,d')):jH st 1 d x d'
 |next {d d1 d':LG} {x n:Nat} (h:st d=some (none,d1)) (h':jH st n d1 x d'):jH st (n+1) d x d'
theorem jH.iter{st:LG->bp}{k:LG}{x:Nat}(h:jH st n d x k):∀m,n<=m->wG st m d=some (x,k):=by
 induction h with
 |stop h=>
  intro m hm;cases m with
  |zero=>omega
  |succ m=>simp only[wG,h]
 |next h _ v=>
  intro m hm;cases m with
  |zero=>omega
  |succ m=>simp only[wG,h]; exact v m ab
theorem jH.adX{st:LG->bp}{k:LG}{x:Nat}(h:jH st n d x k)(hn:n<=1000000):bR st d=some (x,k):=h.iter _ hn
inductive Hint where
 |freeze (aM:Nat)
 |Se (aM:Nat) (ks:List Kd)
 |Gb (aM c:Nat) (ks:List Kd)
 |L9 (aM:Nat)
 |Sf (aM c:Nat)
 |hole (ks:List Kd)
 |Gc
 |ba (aM l:Nat)
 |L_ (aM:Nat)
 |Sg (aM l:Nat)
 |Si (aM:Nat)
 |mm (aM l:Nat) (KI VI:Ct)
 |Gd (aM c l:Nat) (KI VI:Ct)
 |forget (id:Nat)
 |Ge (aM c:Nat) (ks:List Kd)
 |cZ (aM l:Nat)
 |bU (aM l:Nat)
 |Ma (aM:Nat)
def Gf(aM:Nat)(s:aG):Bool × aG:=
 match s.fr.getD aM .undef with
 |.vQ w id aq oF n=>match s.H[id]? with
  |some (.vQ ks v rZ)=>if aq=v/\oF=0/\w=ks.length then (aD n rZ.length,⟨s.fr.set aM (.listF ks rZ),s.H.set id (.raw .dead)⟩) else (true,s)
  |_=>(true,s)
 |_=>(true,s)
def Mb(aM c:Nat)(ks:List Kd)(s:aG):Bool × aG:=
 match s.fr.getD aM .undef with
 |.ptr id _ _ _ _=>match s.H[id]? with
  |some (.raw (.box cells))=>match cells[c]? with
   |some a=>match isNil a with
    |true=>(true,⟨s.fr,s.H.set id (.raw (.box (cells.set c (.vQ ks.length s.H.length 0 0 0))))++[.vQ ks 0 []]⟩)
    |false=>(true,s)
   |none=>(true,s)
  |_=>(true,s)
 |_=>(true,s)
def Gg(aM c:Nat)(s:aG):Bool × aG:=
 match s.fr.getD aM .undef with
 |.ptr id _ _ _ _=>match s.H[id]? with
  |some (.raw (.box cells))=>match cells[c]? with
   |some (.vQ w d aq oF n)=>match s.H[d]? with
    |some (.vQ ks v rZ)=>if aq=v/\oF=0/\w=ks.length then (aD n rZ.length,⟨s.fr,(s.H.set d (.raw .dead)).set id (.raw (.box (cells.set c (.listF ks rZ))))⟩) else (true,s)
    |_=>(true,s)
   |_=>(true,s)
  |_=>(true,s)
 |_=>(true,s)
def Gh(aM:Nat)(s:aG):Bool × aG:=
 match s.fr.getD aM .undef with
 |.vQ w id aq oF n=>match s.H[id]? with
  |some (.vQ ks v rZ)=>if aq=v/\oF=0/\w=ks.length then (dv n rZ.length,⟨s.fr.set aM (.vQ w id (v+1) 0 n),s.H.set id (.vQ ks (v+1) (rZ.take n))⟩) else (true,s)
  |_=>(true,s)
 |_=>(true,s)
def Gi(aM l:Nat)(s:aG):Bool × aG:=
 match s.fr.getD aM .undef with
 |.map id=>match s.H[id]? with
  |some (.map K (.one (.list ks)) [] cl)=>(mu (ay s.H) l,⟨s.fr,s.H.set id (.ba l K ks [] cl)⟩)
  |_=>(true,s)
 |_=>(true,s)
def Gj(r:LG):LG:=[gi r 0,gi r 1,gi r 2,.t false,.t true]
def Gk(aM l:Nat)(s:aG):Bool × aG:=
 match s.fr.getD aM .undef with
 |.map id=>match s.H[id]? with
  |some (.map K (.one (.list ks)) rZ cl)=>(mu (ay s.H) l,⟨s.fr,s.H.set id (.ba l K ks (rZ.map Gj) cl)⟩)
  |_=>(true,s)
 |_=>(true,s)
def adY(rZ:LL):Bool:=rZ.all fun r=>(gi r 3).bV||(gi r 4).bV
def Gl(aM:Nat)(s:aG):Bool × aG:=
 match s.fr.getD aM .undef with
 |.map id=>match s.H[id]? with
  |some (.ba _ K ks rZ cl)=>(adY rZ,⟨s.fr,s.H.set id (.map K (.one (.list ks)) rZ cl)⟩)
  |_=>(true,s)
 |_=>(true,s)
def ui(rZ:LL):Bool:=rZ.all fun r=>(gi r 3).bV
def Gm(aM:Nat)(s:aG):Bool × aG:=
 match s.fr.getD aM .undef with
 |.map id=>match s.H[id]? with
  |some (.ba _ K ks rZ cl)=>(ui rZ,⟨s.fr,s.H.set id (.map K (.one (.list ks)) rZ cl)⟩)
  |_=>(true,s)
 |_=>(true,s)
def Gn(aM l:Nat)(s:aG):Bool × aG:=
 match s.fr.getD aM .undef with
 |.vQ _ id _ _ _=>match s.H[id]? with
  |some (.vQ [.list ks] 0 rZ)=>(wE (mu (ay s.H) l) (dy 0 rZ.length),⟨s.fr,s.H.set id (.cZ l ks rZ.length [])⟩)
  |_=>(true,s)
 |_=>(true,s)
def Gp(aM l:Nat)(s:aG):Bool × aG:=
 match s.fr.getD aM .undef with
 |.map id=>match s.H[id]? with
  |some (.map K (.agg [.list ks,.list _]) [] cl)=>(mu (ay s.H) l,⟨s.fr,s.H.set id (.bU l K ks [] cl)⟩)
  |_=>(true,s)
 |_=>(true,s)
def Gq(aM:Nat)(s:aG):Bool × aG:=
 match s.fr.getD aM .undef with
 |.map id=>match s.H[id]? with
  |some (.bU _ K ks rZ cl)=>(ui rZ,⟨s.fr,s.H.set id (.map K (.agg [.list ks,.list ks]) rZ cl)⟩)
  |_=>(true,s)
 |_=>(true,s)
def Gr(aM l:Nat)(d h:Ct)(s:aG):Bool × aG:=
 match s.fr.getD aM .undef with
 |.map id=>match s.H[id]? with
  |some (.map K _ [] cl)=>(mu (ay s.H) l,⟨s.fr,s.H.set id (.mm l K d h [] [] cl)⟩)
  |_=>(true,s)
 |_=>(true,s)
def Gs(aM c l:Nat)(d h:Ct)(s:aG):Bool × aG:=
 match s.fr.getD aM .undef with
 |.ptr a _ _ _ _=>match s.H[a]? with
  |some (.raw (.box cells))=>match cells[c]? with
   |some (.map id)=>match s.H[id]? with
    |some (.map K _ rZ cl)=>(wE (mu (ay s.H) l) rZ.isEmpty,⟨s.fr,s.H.set id (.mm l K d h [] [] cl)⟩)
    |_=>(true,s)
   |_=>(true,s)
  |_=>(true,s)
 |_=>(true,s)
def Mc(id:Nat)(s:aG):Bool × aG:=
 match s.H[id]? with
 |some (.raw (.box _))=>(true,⟨s.fr,s.H.set id (.vQ [] 1 [])⟩)
 |some (.map ..)=>(true,⟨s.fr,s.H.set id (.vQ [] 1 [])⟩)
 |some (.mm ..)=>(true,⟨s.fr,s.H.set id (.vQ [] 1 [])⟩)
 |some (.cZ ..)=>(true,⟨s.fr,s.H.set id (.vQ [] 1 [])⟩)
 |_=>(true,s)
def Md(aM c:Nat)(ks:List Kd)(s:aG):Bool × aG:=
 match s.fr.getD aM .undef with
 |.ptr id _ _ _ _=>match s.H[id]? with
  |some (.raw (.box cells))=>match cells[c]? with
   |some (.list w rZ)=>match cf ks rZ with
    |some d=>if w=ks.length then (true,⟨s.fr,s.H.set id (.raw (.box (cells.set c (.listF ks d))))⟩) else (true,s)
    |none=>(true,s)
   |_=>(true,s)
  |_=>(true,s)
 |_=>(true,s)
def Gt:Hint->aG->Bool × aG
 |.freeze i,s=>Gf i s
 |.Se i ks,s=>match isNil (s.fr.getD i .undef) with
  |true=>(true,Ca i ks s)
  |false=>(true,s)
 |.Gb i c ks,s=>Mb i c ks s
 |.L9 i,s=>Gh i s
 |.Sf i c,s=>Gg i c s
 |.hole ks,s=>(true,⟨s.fr,s.H++[.vQ ks 0 []]⟩)
 |.Gc,s=>(true,⟨s.fr,s.H++[.raw .eV]⟩)
 |.ba i l,s=>Gi i l s
 |.L_ i,s=>Gm i s
 |.Sg i l,s=>Gk i l s
 |.Si i,s=>Gl i s
 |.mm i l d h,s=>Gr i l d h s
 |.Gd i c l d h,s=>Gs i c l d h s
 |.forget i,s=>Mc i s
 |.Ge i c ks,s=>Md i c ks s
 |.cZ i l,s=>Gn i l s
 |.bU i l,s=>Gp i l s
 |.Ma i,s=>Gq i s
def Cr:List Hint->aG->Bool × aG
 |[],s=>(true,s)
 |h::d,s=>match Gt h s with
  |(b,s1)=>match Cr d s1 with
   |(k,s2)=>(b&&k,s2)
theorem adZ(h:(Gf aM s).1=true):bO m s.ao (Gf aM s).2.ao:=by
 unfold Gf at h|-;split
 case h_2=>exact bO.refl _
 rename_i w id aq oF n hsl;split
 case h_2=>exact bO.refl _
 rename_i ks v rZ I;split
 case isFalse=>exact bO.refl _
 rename_i N;obtain⟨rfl,rfl,rfl⟩:=N;simp only[hsl,I,and_self,if_true]at h;have hn:=bN h;subst hn;intro E a d;have hH:E.H=ay s.H:=d.H;have M:=ah.Be d.heap id;have hdr:=aJ.drop d.heap id fun o ho=>by
  rw[show E.H[id]?=some (.vQ ks.length aq (rZ.map (aY ks))) by rw[hH]; exact bt I]at ho;cases ho;rfl
 have U:ay (s.H.set id (.raw .dead))=E.H.set id .dead:=by rw[dq,hH]; rfl
 refine⟨E.ae.set id none,E.X,?_,?_⟩
 ·simp only[aG.ao]
  rw[U];refine⟨rfl,?_,d.defers,hdr⟩;refine F1 (eX M _ d.fr) fun c N=>?_;have hr:=LW d.fr N;rw[show s.ao.fr=s.fr from rfl,hsl]at hr;have W:E.H[id]?=some (.vQ ks.length aq (rZ.map (aY ks))):=by rw[hH]; exact bt I
  have ho:=d.heap.obj id _ W;rw[lM];simp only[ad]at hr|-;obtain⟨⟨aU,cap,rfl,hcap,_⟩,_,O⟩:=hr;obtain⟨q1,q2⟩:=O ⟨_,W,rfl⟩;have hcl:gn (rZ.map (aY ks)):=by
   intro r hr;obtain⟨g,_,rfl⟩:=dS.1 hr;exact iR ks g
  refine⟨hcl,aU,cap,au,by simpa using hcap,?_⟩;simp only[a6]at ho;rcases ho with⟨h1,h2⟩|⟨b,mm,h1,h2,O,_,h4⟩
  ·exact .inl h2
  ·obtain⟨g1,o,g2,g3⟩:=q2 b mm h1
   by_cases hm:rZ=[]
   ·subst hm; exact .inl rfl
   ·right
    have:0<rZ.length:=by cases rZ with|nil=>exact(hm rfl).elim|cons _ _=>simp
    simp at O;have ho:=g2 ab;simp at ho;subst ho;simp only[qz]at g3;refine⟨b,0,g3.1,⟨(d.heap.lt id b mm h1).1,?_,(d.heap.lt id b mm h1).2⟩,mq M.toC _ hcl rfl h4⟩;rintro(⟨j,c',y⟩|⟨l,k,c',y⟩)
    case inr=>exact d.heap.d_ _ _ _ _ _ _ h1 y
    simp only[gh]at y;split at y
    ·split at y<;>cases y
    ·rename_i hne
     exact hne (d.heap.inj _ _ _ _ _ h1 y)
 ·simp only[aG.ao]
  rw[U];exact M.toM
theorem ad0{c:Nat}:bO m s.ao (Mb aM c ks s).2.ao:=by
 unfold Mb;split
 case h_2=>exact bO.refl _
 rename_i id aq k row col hsl;split
 case h_2=>exact bO.refl _
 rename_i cells hid;split
 case h_2=>exact bO.refl _
 rename_i a0 ha0;split
 case h_2=>exact bO.refl _
 rename_i hnil;intro E a y;have hH:E.H=ay s.H:=y.H;have hlen:E.H.length=s.H.length:=by rw[hH,fB]
 have W:E.le (E.push E.w (.vQ ks.length 0 []) none):=ah.nW y.heap.len (Ext.refl _) (fun b n h=>by cases h);have hobj:a6 (E.push E.w (.vQ ks.length 0 []) none) E.H.length (.vQ ks.length 0 []):=by
  simp only[a6,ah.push];refine .inl ⟨?_,trivial⟩;rw[lf (by rw[y.heap.len]; omega),y.heap.len,oK];rfl
 have M:aJ (E.push E.w (.vQ ks.length 0 []) none):=aJ.push y.heap (Ext.refl _) (fun b n h=>by cases h) hobj;generalize N:E.push E.w (.vQ ks.length 0 []) none=d at W M;have hw1:d.w=E.w:=by rw[<-N]; rfl
 have hX1:d.X=E.X:=by rw[<-N]; rfl
 have hH1:d.H=ay (s.H++[.vQ ks 0 []]):=by rw[<-N,kP,<-hH]; rfl
 have hidlt:id<s.H.length:=bl hid;have O:d.H[id]?=some (.box cells):=by
  rw[hH1];exact bt (H:=s.H++[.vQ ks 0 []]) (o:=.raw (.box cells)) (by rw[fT hidlt]; exact hid)
 have ho:=M.obj id _ O;simp only[a6]at ho;obtain⟨b,n,h1,h2,h3⟩:=ho;have hver:∀v,(aj.box (cells.set c (.vQ ks.length s.H.length 0 0 0))).aX=some v->(aj.box cells).aX=some v:=fun v hv=>by simpa[aj.aX]using hv
 have U:=ah.rR (o':=.box (cells.set c (.vQ ks.length s.H.length 0 0 0))) (w':=d.w) M O h1 hver rfl (fun _ _=>rfl);have hnew:d.H[s.H.length]?=some (.vQ ks.length 0 []):=by
  rw[hH1];have e:(s.H++[ax.vQ ks 0 []])[s.H.length]?=some (ax.vQ ks 0 []):=by rw[lf (aV _),oK]; rfl
  exact bt e
 have hloc:d.ae[s.H.length]?=some none:=by
  rw[<-N];simp only[ah.push];rw[lf (by rw[y.heap.len]; omega),y.heap.len,hlen,oK];rfl
 have hrel:∀v,ad d a0 v->ad { w:=d.w,H:=d.H.set id (.box (cells.set c (.vQ ks.length s.H.length 0 0 0))),ae:=d.ae,X:=d.X } (.vQ ks.length s.H.length 0 0 0) v:=by
  intro v hv;obtain⟨aU,rfl⟩:=Rq hnil hv;simp only[ad];have hne:id≠s.H.length:=ab;refine⟨⟨aU,0,rfl,aV _,fun h=>absurd h (OT _)⟩,⟨.vQ ks.length 0 [],by rw[bL hne]; exact hnew,rfl,fun v h=>fy _⟩,fun _=>⟨fun _=>⟨trivial,trivial,aU,rfl⟩,fun b m hb=>?_⟩⟩;rw[hloc]at hb;cases hb
 have hHR2:=aJ.set (w':=d.w) M O h1 hver rfl (fun _ _=>rfl) (by
  simp only[a6];refine⟨b,n,h1,by simpa using h2,?_⟩;rw[lL]at h3|-;intro i x I;rw[gh]at I;split at I
  ·rename_i e
   subst e;split at I
   ·cases I
    obtain⟨v,g1,g2,g3⟩:=h3 c a0 ha0;exact⟨v,g1,g2,hrel v g3⟩
   ·cases I
  ·obtain⟨v,g1,g2,g3⟩:=h3 i x I
   exact⟨v,g1,g2,bW U x g3⟩)
 have hden:ay (s.H.set id (.raw (.box (cells.set c (.vQ ks.length s.H.length 0 0 0))))++[.vQ ks 0 []])=d.H.set id (.box (cells.set c (.vQ ks.length s.H.length 0 0 0))):=by
  rw[hH1,kP,kP,dq,List.set_append_left _ _ (by rw[fB]; exact hidlt)];rfl
 refine⟨d.ae,E.X,?_,?_⟩
 ·simp only[aG.ao]
  rw[hden];rw[hw1,hX1]at hHR2;refine⟨rfl,?_,y.defers,hHR2⟩;have:=eX U _ (eX W _ y.fr);rw[hw1,hX1]at this;exact this
 ·simp only[aG.ao]
  rw[hden];have:=(W.trans U).toM (m:=m)
  grind
theorem ad1{c:Nat}(h:(Gg aM c s).1=true):bO m s.ao (Gg aM c s).2.ao:=by
 unfold Gg at h|-;split
 case h_2=>exact bO.refl _
 rename_i id ver0 k row col hsl;split
 case h_2=>exact bO.refl _
 rename_i cells U;split
 case h_2=>exact bO.refl _
 rename_i w y aq oF n hcell;split
 case h_2=>exact bO.refl _
 rename_i ks v rZ hid2;split
 case isFalse=>exact bO.refl _
 rename_i hc;obtain⟨rfl,rfl,rfl⟩:=hc;simp only[hsl,U,hcell,hid2,and_self,if_true]at h;have hn:=bN h;subst hn;intro E a I;have hH:E.H=ay s.H:=I.H;have hne:id≠y:=fun e=>by
  rw[e,hid2]at U;cases U
 have hide:E.H[id]?=some (.box cells):=by rw[hH]; exact bt U
 have hid2e:E.H[y]?=some (.vQ ks.length aq (rZ.map (aY ks))):=by rw[hH]; exact bt hid2
 obtain⟨b0,n0,k1,k2,k3⟩:=I.heap.obj id _ hide;rw[lL]at k3;obtain⟨cv,c1,c2,c3⟩:=k3 c _ hcell;have hfr:=Kv I.heap hid2e c3;have hle:=ah.Be I.heap y;have W:=aJ.drop I.heap y fun o ho=>by
  rw[hid2e]at ho;cases ho;rfl
 generalize N:({ w:=E.w,H:=E.H.set y .dead,ae:=E.ae.set y none,X:=E.X }:ah)=d at hle W hfr;have hw1:d.w=E.w:=by rw[<-N]
 have hX1:d.X=E.X:=by rw[<-N]
 have hid1:d.H[id]?=some (.box cells):=by
  rw[<-N];show (E.H.set y .dead)[id]?=_
  rw[bL (Ne.symm hne)];exact hide
 have hl1:d.ae[id]?=some (some (b0,n0)):=by
  rw[<-N];show (E.ae.set y none)[id]?=_
  rw[bL (Ne.symm hne)];exact k1
 obtain⟨b,n,h1,h2,h3⟩:=W.obj id _ hid1;have hbb:b=b0:=by
  rw[hl1]at h1;cases h1;rfl
 subst hbb;have hver:∀v,(aj.box (cells.set c (.listF ks rZ))).aX=some v->(aj.box cells).aX=some v:=fun v hv=>by simpa[aj.aX]using hv
 have O:=ah.rR (o':=.box (cells.set c (.listF ks rZ))) (w':=d.w) W hid1 h1 hver rfl (fun _ _=>rfl);have hHR2:=aJ.set (w':=d.w) W hid1 h1 hver rfl (fun _ _=>rfl) (by
  simp only[a6];refine⟨b,n,h1,by simpa using h2,?_⟩;rw[lL]at h3|-;intro i x M;rw[gh]at M;split at M
  ·rename_i e
   subst e;split at M
   ·cases M
    refine⟨cv,by rw[show ({ w:=d.w,H:=_,ae:=d.ae,X:=d.X }:ah).w=E.w from hw1]; exact c1,c2,bW O _ hfr⟩
   ·cases M
  ·obtain⟨v,g1,g2,g3⟩:=h3 i x M
   exact⟨v,g1,g2,bW O x g3⟩)
 have hden:ay ((s.H.set y (.raw .dead)).set id (.raw (.box (cells.set c (.listF ks rZ)))))=d.H.set id (.box (cells.set c (.listF ks rZ))):=by
  rw[dq,dq,<-hH,<-N];rfl
 refine⟨d.ae,E.X,?_,?_⟩
 ·simp only[aG.ao]
  rw[hden];rw[hw1,hX1]at hHR2;refine⟨rfl,?_,I.defers,hHR2⟩;have:=eX O _ (eX hle _ I.fr);rw[hw1,hX1]at this;exact this
 ·simp only[aG.ao]
  rw[hden];have:=(hle.trans O).toM (m:=m)
  grind
theorem ad2{c:Nat}:bO m s.ao (Md aM c ks s).2.ao:=by
 unfold Md;split
 case h_2=>exact bO.refl _
 rename_i id ver0 k row col hsl;split
 case h_2=>exact bO.refl _
 rename_i cells hid;split
 case h_2=>exact bO.refl _
 rename_i w rZ W;split
 case h_2=>exact bO.refl _
 rename_i I hg;split
 case isFalse=>exact bO.refl _
 rename_i hw;subst hw;intro E a d;have hH:E.H=ay s.H:=d.H;have M:E.H[id]?=some (.box cells):=by rw[hH]; exact bt hid
 obtain⟨b,n,h1,h2,N⟩:=d.heap.obj id _ M;have O:∀v,(aj.box (cells.set c (.listF ks I))).aX=some v->(aj.box cells).aX=some v:=fun v hv=>by simpa[aj.aX]using hv
 have y:=ah.rR (o':=.box (cells.set c (.listF ks I))) (w':=E.w) d.heap M h1 O rfl (fun _ _=>rfl);have hHR2:=aJ.set (w':=E.w) d.heap M h1 O rfl (fun _ _=>rfl) (by
  simp only[a6];refine⟨b,n,h1,by simpa using h2,?_⟩;rw[lL]at N|-;intro i x h;rw[gh]at h;split at h
  ·rename_i e
   subst e;split at h
   ·cases h
    obtain⟨cv,c1,c2,c3⟩:=N c _ W;refine⟨cv,c1,c2,bW y _ ?_⟩;rw[lM,tG hg];exact c3
   ·cases h
  ·obtain⟨v,g1,g2,g3⟩:=N i x h
   exact⟨v,g1,g2,bW y x g3⟩)
 have U:ay (s.H.set id (.raw (.box (cells.set c (.listF ks I)))))=E.H.set id (.box (cells.set c (.listF ks I))):=by rw[dq,<-hH]; rfl
 refine⟨E.ae,E.X,?_,?_⟩
 ·simp only[aG.ao]
  rw[U];exact⟨rfl,eX y _ d.fr,d.defers,hHR2⟩
 ·simp only[aG.ao]
  rw[U];exact y.toM
theorem ad3(h:(Gh aM s).1=true):bO m s.ao (Gh aM s).2.ao:=by
 unfold Gh at h|-;split
 case h_2=>exact bO.refl _
 rename_i w id aq oF n W;split
 case h_2=>exact bO.refl _
 rename_i ks v rZ hid;split
 case isFalse=>exact bO.refl _
 rename_i M;obtain⟨rfl,rfl,rfl⟩:=M;simp only[W,hid,and_self,if_true]at h;have hn:=vo h;intro E a d;have hH:E.H=ay s.H:=d.H;have y:E.H[id]?=some (.vQ ks.length aq (rZ.map (aY ks))):=by rw[hH]; exact bt hid
 have ho:=d.heap.obj id _ y;obtain⟨l,N⟩:∃l,E.ae[id]?=some l:=by
  have:id<E.ae.length:=by rw[d.heap.len]; exact bl y
  simp_all
 have hls:E.ae.set id l=E.ae:=qF N;have U:ay (s.H.set id (.vQ ks (aq+1) (rZ.take n)))=E.H.set id (.vQ ks.length (aq+1) ((rZ.take n).map (aY ks))):=by rw[dq,hH]; rfl
 have hlc:∀b n,l=some (b,n)->E.w.heap.size<=b\/∃m,E.ae[id]?=some (some (b,m)):=fun b n hb=>.inr ⟨n,by rw[N,hb]⟩;have hup:∀v u,(aj.vQ ks.length (aq+1) ((rZ.take n).map (aY ks))).aX=some v->(aj.vQ ks.length aq (rZ.map (aY ks))).aX=some u->u<=v:=by
  intro v u h1 k;simp[aj.aX]at h1 k;omega
 have hvr:∀v,(aj.vQ ks.length (aq+1) ((rZ.take n).map (aY ks))).aX=some v->∀u,(aj.vQ ks.length aq (rZ.map (aY ks))).aX=some u->u<v:=by
  intro v h1 u k;simp[aj.aX]at h1 k;omega
 have I:=ah.ng (o':=.vQ ks.length (aq+1) ((rZ.take n).map (aY ks))) (l:=l) (w':=E.w) y d.heap.len (aV _) (fun _ _ _=>rfl) hlc (.inr hvr) hup (fun _ h=>by simp[aj.aX]at h);have hHR:=aJ.oP (o':=.vQ ks.length (aq+1) ((rZ.take n).map (aY ks))) (l:=l) (w':=E.w) d.heap y (aV _) (fun _ _ _=>rfl) (fun b n hb=>.inr ⟨n,by rw[N,hb]⟩) (.inr hvr) hup (fun _ h=>by simp[aj.aX]at h) (by
  rw[hls]at I|-;simp only[a6]at ho|-;rcases ho with⟨h1,k⟩|⟨b,mm,h1,k,O,h4,h5⟩
  simp_all
  ·right
   refine⟨b,mm,h1,k,by simp at O|-; omega,?_,?_⟩
   ·intro r hr
    obtain⟨g,_,rfl⟩:=dS.1 hr;exact iR ks g
   ·rw[pS]at h5 |-
    intro i r hi;simp only[dw,sR]at hi;split at hi
    ·obtain⟨g1,g2⟩:=h5 i r (by simpa using hi)
     exact⟨g1,EI (fun a c hr=>bW I a hr) rfl g2⟩
    ·simp at hi)
 rw[hls]at I hHR;refine⟨E.ae,E.X,?_,?_⟩
 ·simp only[aG.ao]
  rw[U];refine⟨rfl,?_,d.defers,hHR⟩;refine F1 (eX I _ d.fr) fun c M=>?_;have hr:=LW d.fr M;rw[show s.ao.fr=s.fr from rfl,W]at hr;simp only[ad]at hr|-;obtain⟨h1,k,O⟩:=hr;exact⟨h1,⟨.vQ ks.length (aq+1) ((rZ.take n).map (aY ks)),cG (bl y),rfl,fun v hv=>by simp[aj.aX]at hv; omega⟩,fun _=>O ⟨_,y,rfl⟩⟩
 ·simp only[aG.ao]
  rw[U];exact I.toM
theorem ad4:bO m s.ao (aG.ao ⟨s.fr,s.H++[.vQ ks 0 []]⟩):=fun E a d=>by
 have hH:E.H=ay s.H:=d.H;have v:E.le (E.push E.w (.vQ ks.length 0 []) none):=ah.nW d.heap.len (Ext.refl _) (fun b n h=>by cases h);have y:a6 (E.push E.w (.vQ ks.length 0 []) none) E.H.length (.vQ ks.length 0 []):=by
  simp only[a6,ah.push];refine .inl ⟨?_,trivial⟩;rw[lf (by rw[d.heap.len]; omega),d.heap.len,oK];rfl
 have I:aJ (E.push E.w (.vQ ks.length 0 []) none):=aJ.push d.heap (Ext.refl _) (fun b n h=>by cases h) y;have k:(aG.ao ⟨s.fr,s.H++[.vQ ks 0 []]⟩).H=E.H++[.vQ ks.length 0 []]:=by
  rw[hH];simp[aG.ao,ay,ax.ao]
 refine⟨E.ae++[none],E.X,?_,?_⟩
 ·rw[k]
  exact⟨k.symm,eX v _ d.fr,d.defers,I⟩
 ·rw[k]
  exact v.toM
theorem ad5:bO m s.ao (aG.ao ⟨s.fr,s.H++[.raw .eV]⟩):=fun E a d=>by
 have hH:E.H=ay s.H:=d.H;have v:E.le (E.push E.w (.eV) none):=ah.nW d.heap.len (Ext.refl _) (fun b n h=>by cases h);have y:a6 (E.push E.w (.eV) none) E.H.length (.eV):=by
  simp only[a6,ah.push];rw[lf (by rw[d.heap.len]; exact aV _),d.heap.len,oK];rfl
 have I:aJ (E.push E.w (.eV) none):=aJ.push d.heap (Ext.refl _) (fun b n h=>by cases h) y;have k:(aG.ao ⟨s.fr,s.H++[.raw .eV]⟩).H=E.H++[.eV]:=by
  rw[hH];simp[aG.ao,ay,ax.ao]
 refine⟨E.ae++[none],E.X,?_,?_⟩
 ·rw[k]
  exact⟨k.symm,eX v _ d.fr,d.defers,I⟩
 ·rw[k]
  exact v.toM
theorem ad6(h:(Gi aM l s).1=true):bO m s.ao (Gi aM l s).2.ao:=by
 unfold Gi at h|-;split
 case h_2=>exact bO.refl _
 rename_i id M;split
 case h_2=>exact bO.refl _
 rename_i K ks cl v;simp only[M,v]at h;intro E a d;have hH:E.H=ay s.H:=d.H;have I:E.H[id]?=some (.map [] cl):=by rw[hH]; exact bt v
 obtain⟨h1,y⟩:=aa0 (w:=ks.length) d.heap I (by rw[hH]; exact h);have k:ay (s.H.set id (.ba l K ks [] cl))=E.H.set id (.ba l ks.length [] cl):=by rw[dq,hH]; rfl
 refine⟨E.ae,E.X,?_,?_⟩
 ·simp only[aG.ao]
  rw[k];exact⟨rfl,eX y _ d.fr,d.defers,h1⟩
 ·simp only[aG.ao]
  rw[k];exact y.toM
theorem ad7{k v:Ct}(h:(Gr aM l k v s).1=true):bO m s.ao (Gr aM l k v s).2.ao:=by
 unfold Gr at h|-;split
 case h_2=>exact bO.refl _
 rename_i id O;split
 case h_2=>exact bO.refl _
 rename_i K V cl I;simp only[O,I]at h;intro E a d;have hH:E.H=ay s.H:=d.H;have N:E.H[id]?=some (.map [] cl):=by rw[hH]; exact bt I
 obtain⟨h1,M⟩:=P2 d.heap N (by rw[hH]; exact h);have y:ay (s.H.set id (.mm l K k v [] [] cl))=E.H.set id (.mm l [] [] cl):=by rw[dq,hH]; rfl
 refine⟨E.ae,E.X,?_,?_⟩
 ·simp only[aG.ao]
  rw[y];exact⟨rfl,eX M _ d.fr,d.defers,h1⟩
 ·simp only[aG.ao]
  rw[y];exact M.toM
theorem ad8{c:Nat}{k v:Ct}(h:(Gs aM c l k v s).1=true):bO m s.ao (Gs aM c l k v s).2.ao:=by
 unfold Gs at h|-;split
 case h_2=>exact bO.refl _
 rename_i a _ _ _ _ O;split
 case h_2=>exact bO.refl _
 rename_i cells U;split
 case h_2=>exact bO.refl _
 rename_i id W;split
 case h_2=>exact bO.refl _
 rename_i K V rZ cl I;simp only[O,U,W,I,wF]at h;obtain⟨h,he⟩:=h;have he:rZ=[]:=by cases rZ with|nil=>rfl|cons _ _=>cases he
 subst he;intro E act d;have hH:E.H=ay s.H:=d.H;have N:E.H[id]?=some (.map [] cl):=by rw[hH]; exact bt I
 obtain⟨h1,M⟩:=P2 d.heap N (by rw[hH]; exact h);have y:ay (s.H.set id (.mm l K k v [] [] cl))=E.H.set id (.mm l [] [] cl):=by rw[dq,hH]; rfl
 refine⟨E.ae,E.X,?_,?_⟩
 ·simp only[aG.ao]
  rw[y];exact⟨rfl,eX M _ d.fr,d.defers,h1⟩
 ·simp only[aG.ao]
  rw[y];exact M.toM
theorem aJ.forget(H:aJ E){l0:Nat}{o:aj}(W:E.H[id]? = some o)(hlab:o.label=some l0)(hver:o.aX = some 0):
  aJ { w:=E.w,H:=E.H.set id (.vQ 0 1 []),ae:=E.ae.set id none,X:=E.X.re (jU E.X.r l0) }/\E.le { w:=E.w,H:=E.H.set id (.vQ 0 1 []),ae:=E.ae.set id none,X:=E.X.re (jU E.X.r l0) }:=by
 have hlt:=bl W;have hltl:id<E.ae.length:=by rw[H.len]; exact hlt
 have H_old:∀(i:Nat) x,(E.H.set id (.vQ 0 1 []))[i]?=some x->(i=id/\x=.vQ 0 1 [])\/(i≠id/\E.H[i]?=some x):=fun i x hi=>by
  by_cases d:i=id
  ·subst d
   rw[cG hlt]at hi;cases hi;exact .inl ⟨rfl,rfl⟩
  ·rw[bL (Ne.symm d)]at hi
   exact .inr ⟨d,hi⟩
 have O:∀(i b m:Nat),(E.ae.set id none)[i]?=some (some (b,m))->i≠id/\E.ae[i]?=some (some (b,m)):=fun i b m hi=>by
  by_cases d:i=id
  ·subst d
   rw[cG hltl]at hi;cases hi
  ·rw[bL (Ne.symm d)]at hi
   exact⟨d,hi⟩
 have hle:E.le { w:=E.w,H:=E.H.set id (.vQ 0 1 []),ae:=E.ae.set id none,X:=E.X.re (jU E.X.r l0) }:=by
  refine⟨fun i aq hp=>?_,aV _,fun _ _ _=>rfl,fun b hb hno=>?_,fun i aq hp N=>?_,⟨rfl,rfl⟩,fun l h hh=>?_,.refl _,fun i l x h1 I hv=>?_⟩
  rotate_right
  ·by_cases d:i=id
   ·subst d
    obtain⟨y,M,h4⟩:=hv;rw[show (E.H.set i (.vQ 0 1 []))[i]?=some (.vQ 0 1 []) from cG hlt]at M;cases M;cases h4
   ·have e3:l≠l0:=fun e3=>d (H.uniq i id x o l h1 W (aj.pR I) (by rw[e3]; exact hlab))
    exact⟨⟨[],by rw[dY]; exact iN e3⟩,x,by simp only[]; rw[bL (Ne.symm d)]; exact h1,I⟩
  ·obtain⟨x,h1,I⟩:=hp
   by_cases d:i=id
   ·subst d
    rw[W]at h1;cases h1;have:=I.2 0 hver;exact⟨.vQ 0 1 [],by simp only[]; rw[cG hlt],rfl,fun v hv=>by cases hv; omega⟩
   ·exact⟨x,by simp only[]; rw[bL (Ne.symm d)]; exact h1,I⟩
  ·rintro (⟨i,c,hi⟩ | ⟨l,h,m,hm⟩)
   ·exact hno (.inl ⟨i,c,(O i b c hi).2⟩)
   ·exact hno (.inr ⟨l,h,m,(lk hm).1⟩)
  ·obtain⟨x,h1,I⟩:=N
   rcases H_old i x h1 with⟨rfl,rfl⟩|⟨d,M⟩
   ·cases I
    obtain⟨y,M,h4⟩:=hp
    grind
   ·exact⟨⟨x,M,I⟩,bL (Ne.symm d)⟩
  ·refine⟨?_,fun y hy=>(lk hy).1⟩
   show h<(jU E.X.r l0 l).length
   grind[PY]
 refine⟨⟨by simp[H.len],fun i j b m n hi hj=>H.inj i j b m n (O _ _ _ hi).2 (O _ _ _ hj).2,fun i b m hi=>H.lt i b m (O _ _ _ hi).2,H.X,fun i x hi=>?_,H.iT.ct hle.toC,fun l h l' h' b m n h1 I=>H.gK _ _ _ _ _ _ _ (lk h1).1 (lk I).1,fun i b m l h n hi U=>H.d_ _ _ _ _ _ _ (O _ _ _ hi).2 (lk U).1,fun l h b m U=>H.dp _ _ _ _ (lk U).1,fun i k x y l hi U h1 I=>?_,fun l hn h y hy=>?_⟩,hle⟩
 ·rcases H_old i x hi with⟨rfl,rfl⟩ | ⟨d,M⟩
  grind[a6]
  ·refine oO (fun a _ hr=>bW hle a hr) (bL (Ne.symm d)) (fun _ _ _=>rfl) (fun l N=>?_) (H.obj i x M)
   have hne2:l≠l0:=fun e=>d (H.uniq i id x o l M W N (by rw[hlab,e]));exact⟨iN hne2,fun _ _ _ _=>rfl⟩
 ·have key:∀ (i:Nat) x,(E.H.set id (.vQ 0 1 []))[i]?=some x->x.label=some l->E.H[i]?=some x:=by
   intro i x hi N;rcases H_old i x hi with⟨rfl,rfl⟩|⟨d,M⟩
   ·cases N
   ·exact M
  exact H.uniq i k x y l (key i x hi h1) (key k y U I) h1 I
 ·obtain⟨g1,g2⟩:=lk hy
  refine H.jS l (fun i x hi N=>?_) h y g1
  grind
theorem aJ.ad9(H:aJ E){o:aj}(d:E.H[id]? = some o)(hlab:o.label=none)(I:o.aX = some 0):
  aJ { w:=E.w,H:=E.H.set id (.vQ 0 1 []),ae:=E.ae.set id none,X:=E.X }/\E.le { w:=E.w,H:=E.H.set id (.vQ 0 1 []),ae:=E.ae.set id none,X:=E.X }:=by
 have O:=bl d;have U:id<E.ae.length:=by rw[H.len]; exact O
 have k:∀v,(aj.vQ 0 1 []).aX=some v->∀u,o.aX=some u->u<v:=fun v y u hu=>by
  rw[I]at hu;cases hu;cases y;exact Nat.zero_lt_one
 have M:∀v u,(aj.vQ 0 1 []).aX=some v->o.aX=some u->u<=v:=fun v u y hu=>Nat.le_of_lt (k v y u hu);have N:o.born=true->o.aX=none->(aj.vQ 0 1 []).aX=none:=fun _ h=>by rw[I]at h; cases h
 refine⟨aJ.oP H d (aV _) (fun _ _ _=>rfl) (fun _ _ h=>by cases h) (.inr k) M N ?_ (hlab:=hlab),ah.ng d H.len (aV _) (fun _ _ _=>rfl) (fun _ _ h=>by cases h) (.inr k) M N (hmm:=.inl (aj.EC hlab))⟩
 grind[a6]
theorem ad_:bO m s.ao (Mc id s).2.ao:=by
 have I:∀o:ax,s.H[id]?=some o->o.ao.label=none->o.ao.aX=some 0->bO m s.ao (aG.ao ⟨s.fr,s.H.set id (.vQ [] 1 [])⟩):=fun o h h1 M=>by
  intro E a d;have hH:E.H=ay s.H:=d.H;obtain⟨y,v⟩:=aJ.ad9 d.heap (by rw[hH]; exact bt h) h1 M;have k:ay (s.H.set id (.vQ [] 1 []))=E.H.set id (.vQ 0 1 []):=by rw[dq,hH]; rfl
  refine⟨E.ae.set id none,E.X,?_,?_⟩
  ·simp only[aG.ao]
   rw[k];exact⟨rfl,eX v _ d.fr,d.defers,y⟩
  ·simp only[aG.ao]
   rw[k];exact v.toM
 unfold Mc;split
 ·rename_i h
  exact I _ h rfl rfl
 ·rename_i h
  exact I _ h rfl rfl
 ·rename_i l K N O rZ mem cl h
  intro E a d;have hH:E.H=ay s.H:=d.H;obtain⟨y,v⟩:=aJ.forget (l0:=l) d.heap (by rw[hH]; exact bt h) rfl rfl;have k:ay (s.H.set id (.vQ [] 1 []))=E.H.set id (.vQ 0 1 []):=by rw[dq,hH]; rfl
  refine⟨E.ae.set id none,E.X.re (jU E.X.r l),?_,?_⟩
  ·simp only[aG.ao]
   rw[k];exact⟨rfl,eX v _ d.fr,d.defers,y⟩
  ·simp only[aG.ao]
   rw[k];exact v.toM
 ·rename_i l ks n U h
  intro E a d;have hH:E.H=ay s.H:=d.H;obtain⟨y,v⟩:=aJ.forget (l0:=l) d.heap (by rw[hH]; exact bt h) rfl rfl;have k:ay (s.H.set id (.vQ [] 1 []))=E.H.set id (.vQ 0 1 []):=by rw[dq,hH]; rfl
  refine⟨E.ae.set id none,E.X.re (jU E.X.r l),?_,?_⟩
  ·simp only[aG.ao]
   rw[k];exact⟨rfl,eX v _ d.fr,d.defers,y⟩
  ·simp only[aG.ao]
   rw[k];exact v.toM
 ·exact bO.refl _
theorem ad'(h:(Gn aM l s).1=true):bO m s.ao (Gn aM l s).2.ao:=by
 unfold Gn at h|-;split
 case h_2=>exact bO.refl _
 rename_i _ id _ _ _ N;split
 case h_2=>exact bO.refl _
 rename_i ks rZ y;simp only[N,y,wF]at h;obtain⟨h,hn⟩:=h;intro E a d;have hH:E.H=ay s.H:=d.H;have M:E.H[id]?=some (.vQ 1 0 (rZ.map (aY [.list ks]))):=by rw[hH]; exact bt y
 have O:rZ.map (aY [.list ks])≠[]:=by
  intro e;rw[List.map_eq_nil_iff]at e;subst e;cases hn
 obtain⟨h1,I⟩:=abc (k:=ks.length) d.heap M O (by rw[hH]; exact h);have v:ay (s.H.set id (.cZ l ks rZ.length []))=E.H.set id (.cZ l ks.length (rZ.map (aY [.list ks])).length []):=by rw[dq,hH,cP]; rfl
 refine⟨E.ae,E.X,?_,?_⟩
 ·simp only[aG.ao]
  rw[v];exact⟨rfl,eX I _ d.fr,d.defers,h1⟩
 ·simp only[aG.ao]
  rw[v];exact I.toM
theorem aea(h:(Gp aM l s).1=true):bO m s.ao (Gp aM l s).2.ao:=by
 unfold Gp at h|-;split
 case h_2=>exact bO.refl _
 rename_i id M;split
 case h_2=>exact bO.refl _
 rename_i K ks N cl v;simp only[M,v]at h;intro E a d;have hH:E.H=ay s.H:=d.H;have I:E.H[id]?=some (.map [] cl):=by rw[hH]; exact bt v
 obtain⟨h1,y⟩:=abf (w:=ks.length) d.heap I (by rw[hH]; exact h);have k:ay (s.H.set id (.bU l K ks [] cl))=E.H.set id (.bU l ks.length [] cl):=by rw[dq,hH]; rfl
 refine⟨E.ae,E.X,?_,?_⟩
 ·simp only[aG.ao]
  rw[k];exact⟨rfl,eX y _ d.fr,d.defers,h1⟩
 ·simp only[aG.ao]
  rw[k];exact y.toM
theorem aeb(h:(Gq aM s).1=true):bO m s.ao (Gq aM s).2.ao:=by
 unfold Gq at h|-;split
 case h_2=>exact bO.refl _
 rename_i id hsl;split
 case h_2=>exact bO.refl _
 rename_i l K ks rZ cl N;simp only[hsl,N]at h;intro E a d;have hH:E.H=ay s.H:=d.H;have I:E.H[id]?=some (.bU l ks.length (ns K ks rZ) cl):=by rw[hH]; exact bt N
 have ho:=d.heap.obj id _ I;simp only[a6]at ho;obtain⟨b,n,ms,g1,g2,W,k00,hh,k1,k2⟩:=ho;obtain⟨h1,h2⟩:=aJ.Ke (o':=.map (dA K (.agg [.list ks,.list ks]) rZ) cl) d.heap I rfl rfl rfl fun O=>by
  simp only[a6];refine⟨b,n,ms,g1,g2,?_⟩;rw[fA]at W|-;obtain⟨q1,q2⟩:=W;refine⟨by simpa[dA,gV,ns]using q1,fun i x e k he=>?_⟩;unfold dA at k;rw[dw]at k;obtain⟨r,hr,rfl⟩:=gj.1 k;have hp:=Fz (K:=K) (ks:=ks) hr;have U:(gi r 3).bV=true:=eD.1 h r (gg hr);obtain⟨a1,a2,a3,a4,a5⟩:=q2 i _ e (P' hp) he;refine⟨bW O _ a1,?_,a3,a4,Ct.tD (.agg [.list ks,.list ks]) (gi r 1).rV⟩;obtain⟨va,vb,hab,ha1,hb1⟩:=k00 e (gg he);have side:∀(s:Bool) (sl:LL),(iS s (p9 K ks r)).2.1=some (sl.map (aY ks))->ad { w:=E.w,H:=E.H.set id (.map (dA K (.agg [.list ks,.list ks]) rZ) cl),ae:=E.ae,X:=E.X.re (jU E.X.r l) } (.listF ks sl) (tf s e.val):=fun s sl hs1=>by
   have hs2:=k2 s i _ (sl.map (aY ks)) e hp hs1 he;rw[lM];simp only[ad];have hcl:gn (sl.map (aY ks)):=by
    intro r hr;obtain⟨g,_,rfl⟩:=dS.1 hr;exact iR ks g
   refine⟨hcl,?_⟩;rcases hs2 with⟨s1,aU,s2⟩|⟨bb,mm,s1,s2,s3,s4,s5,s6⟩
   ·rw[s1]
    exact⟨aU,0,s2,aV _,.inl rfl⟩
   ·refine⟨_,mm,s2,s4,.inr ⟨bb,0,rfl,⟨(d.heap.dp _ _ _ _ s1).1,?_,(d.heap.dp _ _ _ _ s1).2⟩,iE (fun a _ hr=>bW O a hr) rfl s6⟩⟩
    rintro(⟨j,c',v⟩|⟨l',k',c',v⟩)
    ·exact d.heap.d_ _ _ _ _ _ _ v s1
    ·obtain⟨j1,j2⟩:=lk v
     exact j2 (d.heap.gK _ _ _ _ _ _ _ j1 s1).1
  have r0:=side false (oe r 0) (by simp only[p9,iS,U,cT,cF]);have r1:=side true (oe r 1) (by simp only[p9,iS,U,cT]);rw[hab]at r0 r1|-;have r0:ad _ (.listF ks (oe r 0)) va:=r0;have r1:ad _ (.listF ks (oe r 1)) vb:=r1;show ad _ (.agg [.listF ks (oe r 0),.listF ks (oe r 1)]) (.agg #[va,vb])
  rw[ad];refine⟨_,rfl,fun y hy=>?_,?_⟩
  ·simp at hy
   rcases hy with rfl|rfl
   ·exact ha1
   ·exact hb1
  ·simp only[aw,and_true]
   exact⟨r0,r1⟩
 have M:ay (s.H.set id (.map K (.agg [.list ks,.list ks]) rZ cl))=E.H.set id (.map (dA K (.agg [.list ks,.list ks]) rZ) cl):=by rw[dq,hH]; rfl
 refine⟨E.ae,E.X.re (jU E.X.r l),?_,?_⟩
 ·simp only[aG.ao]
  rw[M];exact⟨rfl,eX h2 _ d.fr,d.defers,h1⟩
 ·simp only[aG.ao]
  rw[M];exact h2.toM
theorem aec(h:(Gm aM s).1=true):bO m s.ao (Gm aM s).2.ao:=by
 unfold Gm at h|-;split
 case h_2=>exact bO.refl _
 rename_i id hsl;split
 case h_2=>exact bO.refl _
 rename_i l K ks rZ cl M;simp only[hsl,M]at h;intro E a d;have hH:E.H=ay s.H:=d.H;have y:E.H[id]?=some (.ba l ks.length (iI K ks rZ) cl):=by rw[hH]; exact bt M
 have ho:=d.heap.obj id _ y;simp only[a6]at ho;obtain⟨b,n,ms,g1,g2,O,hh,k1,k2⟩:=ho;obtain⟨h1,U⟩:=aJ.Ke (o':=.map (dA K (.one (.list ks)) rZ) cl) d.heap y rfl rfl rfl fun N=>by
  simp only[a6];refine⟨b,n,ms,g1,g2,?_⟩;rw[fA]at O|-;obtain⟨q1,q2⟩:=O;refine⟨by simpa[dA,dX,iI]using q1,fun i x e k he=>?_⟩;unfold dA at k;rw[dw]at k;obtain⟨r,hr,rfl⟩:=gj.1 k;have W:=yC (K:=K) (ks:=ks) hr;have hin:(gi r 3).bV=true:=eD.1 h r (gg hr);obtain⟨a1,a2,a3,a4,a5⟩:=q2 i _ e (Bv W) he;rw[FA]at a1 a4;refine⟨bW N _ a1,?_,a3,a4,rfl⟩;have hs2:=k2 i _ ((lr r).map (aY ks)) e W (by simp only[kO,hin,cT]) he;show ad _ (.listF ks (lr r)) e.val
  rw[lM];simp only[ad];have hcl:gn ((lr r).map (aY ks)):=by
   intro r hr;obtain⟨g,_,rfl⟩:=dS.1 hr;exact iR ks g
  refine⟨hcl,?_⟩;rcases hs2 with⟨s1,aU,s2⟩|⟨bb,mm,s1,s2,s3,s4,s5,s6⟩
  grind
  ·refine⟨_,mm,s2,s4,.inr ⟨bb,0,rfl,⟨(d.heap.dp _ _ _ _ s1).1,?_,(d.heap.dp _ _ _ _ s1).2⟩,iE (fun a _ hr=>bW N a hr) rfl s6⟩⟩
   rintro(⟨j,c',v⟩|⟨l',k',c',v⟩)
   ·exact d.heap.d_ _ _ _ _ _ _ v s1
   ·obtain⟨j1,j2⟩:=lk v
    exact j2 (d.heap.gK _ _ _ _ _ _ _ j1 s1).1
 have I:ay (s.H.set id (.map K (.one (.list ks)) rZ cl))=E.H.set id (.map (dA K (.one (.list ks)) rZ) cl):=by rw[dq,hH]; rfl
 refine⟨E.ae,E.X.re (jU E.X.r l),?_,?_⟩
 ·simp only[aG.ao]
  rw[I];exact⟨rfl,eX U _ d.fr,d.defers,h1⟩
 ·simp only[aG.ao]
  rw[I];exact U.toM
theorem aed(h:(Gl aM s).1=true):bO m s.ao (Gl aM s).2.ao:=by
 unfold Gl at h|-;split
 case h_2=>exact bO.refl _
 rename_i id hsl;split
 case h_2=>exact bO.refl _
 rename_i l K ks rZ cl U;simp only[hsl,U]at h;intro E a d;have hH:E.H=ay s.H:=d.H;have M:E.H[id]?=some (.ba l ks.length (iI K ks rZ) cl):=by rw[hH]; exact bt U
 have ho:=d.heap.obj id _ M;simp only[a6]at ho;obtain⟨b,n,ms,g1,g2,W,hh,k1,k2⟩:=ho;obtain⟨h1,h2⟩:=aJ.Ke (o':=.map (dA K (.one (.list ks)) rZ) cl) d.heap M rfl rfl rfl fun k=>by
  simp only[a6];refine⟨b,n,ms,g1,g2,?_⟩;rw[fA]at W|-;obtain⟨q1,q2⟩:=W;refine⟨by simpa[dA,dX,iI]using q1,fun i x e y he=>?_⟩;unfold dA at y;rw[dw]at y;obtain⟨r,hr,rfl⟩:=gj.1 y;have hp:=yC (K:=K) (ks:=ks) hr;have N:((gi r 3).bV||(gi r 4).bV)=true:=eD.1 h r (gg hr);obtain⟨a1,a2,a3,a4,a5⟩:=q2 i _ e (Bv hp) he;rw[FA]at a1 a4;refine⟨bW k _ a1,?_,a3,a4,rfl⟩;cases v:(gi r 3).bV with
  |false=>
   rw[v,Bool.false_or]at N;have ev:(ji (kO K ks r).1).2=.listF ks (lr r):=by simp only[kO,v,N]; rfl
   rw[ev]at a2;exact bW k _ a2
  |true=>
  have hs2:=k2 i _ ((lr r).map (aY ks)) e hp (by simp only[kO,v,cT]) he;show ad _ (.listF ks (lr r)) e.val
  rw[lM];simp only[ad];have hcl:gn ((lr r).map (aY ks)):=by
   intro r hr;obtain⟨g,_,rfl⟩:=dS.1 hr;exact iR ks g
  refine⟨hcl,?_⟩;rcases hs2 with⟨s1,aU,s2⟩|⟨bb,mm,s1,s2,s3,s4,s5,s6⟩
  grind
  ·refine⟨_,mm,s2,s4,.inr ⟨bb,0,rfl,⟨(d.heap.dp _ _ _ _ s1).1,?_,(d.heap.dp _ _ _ _ s1).2⟩,iE (fun a _ hr=>bW k a hr) rfl s6⟩⟩
   rintro(⟨j,c',I⟩|⟨l',k',c',I⟩)
   ·exact d.heap.d_ _ _ _ _ _ _ I s1
   ·obtain⟨j1,j2⟩:=lk I
    exact j2 (d.heap.gK _ _ _ _ _ _ _ j1 s1).1
 have O:ay (s.H.set id (.map K (.one (.list ks)) rZ cl))=E.H.set id (.map (dA K (.one (.list ks)) rZ) cl):=by rw[dq,hH]; rfl
 refine⟨E.ae,E.X.re (jU E.X.r l),?_,?_⟩
 ·simp only[aG.ao]
  rw[O];exact⟨rfl,eX h2 _ d.fr,d.defers,h1⟩
 ·simp only[aG.ao]
  rw[O];exact h2.toM
theorem aee(h:(Gk aM l s).1=true):bO m s.ao (Gk aM l s).2.ao:=by
 unfold Gk at h|-;split
 case h_2=>exact bO.refl _
 rename_i id N;split
 case h_2=>exact bO.refl _
 rename_i K ks rZ cl v;simp only[N,v]at h;intro E a d;have hH:E.H=ay s.H:=d.H;have M:E.H[id]?=some (.map (dA K (.one (.list ks)) rZ) cl):=by rw[hH]; exact bt v
 obtain⟨h1,y⟩:=aa1 (w:=ks.length) (es:=iI K ks (rZ.map Gj)) d.heap M (by
  simp only[dX,iI,dA,List.map_map];rfl) (fun x I=>by
  unfold iI at I;obtain⟨r,hr,rfl⟩:=dS.1 I;obtain⟨r0,_,rfl⟩:=dS.1 hr;rfl) (by rw[hH]; exact h)
 have k:ay (s.H.set id (.ba l K ks (rZ.map Gj) cl))=E.H.set id (.ba l ks.length (iI K ks (rZ.map Gj)) cl):=by rw[dq,hH]; rfl
 refine⟨E.ae,E.X,?_,?_⟩
 ·simp only[aG.ao]
  rw[k];exact⟨rfl,eX y _ d.fr,d.defers,h1⟩
 ·simp only[aG.ao]
  rw[k];exact y.toM
theorem aef(h:Hint)(s:aG)(hb:(Gt h s).1=true):bO m s.ao (Gt h s).2.ao:=by
 cases h with
 |freeze i=>exact adZ hb
 |Se i ks=>
  grind[Gt,Rr,bO.refl]
 |Gb i c ks=>exact ad0
 |L9 i=>exact ad3 hb
 |Sf i c=>exact ad1 hb
 |hole ks=>exact ad4
 |Gc=>exact ad5
 |ba i l=>exact ad6 hb
 |L_ i=>exact aec hb
 |Sg i l=>exact aee hb
 |Si i=>exact aed hb
 |mm i l d k=>exact ad7 hb
 |Gd i c l d k=>exact ad8 hb
 |forget i=>exact ad_
 |Ge i c ks=>exact ad2
 |cZ i l=>exact ad' hb
 |bU i l=>exact aea hb
 |Ma i=>exact aeb hb
theorem Sj{m:Nat}:∀(d:List Hint) (s:aG),(Cr d s).1=true->bO m s.ao (Cr d s).2.ao
 |[],s,_=>bO.refl _
 |h::d,s,hb=>by
  simp only[Cr]at hb|-;simp only[aO]at hb;exact(aef h s hb.1).trans (Sj d _ hb.2)
def Sk:List (Nat × List Hint)->Nat->List Hint
 |[],_=>[]
 |(i,d)::l,id=>match aD id i with
  |true=>d
  |false=>Sk l id
def LT.sk(L:LT)(d:List (Nat × List Hint)):LT:=⟨L.loops,fun id s=>Cr (Sk d id) s,L.B7⟩
theorem qS{c:Code}(d:List (Nat × List Hint)):aT P m (bx.sk d) c:=⟨fun _ _ _ _ _ h=>(nomatch h),fun id s hb=>Sj _ s hb,fun _ _ _ _ _ h=>(nomatch h)⟩
theorem aeg(h:ad E (.listF ks []) c):ad E (.emptyS true) c\/ad E (.emptyS false) c:=by
 simp only[ad,gJ,G.rZ,List.length_nil]at h;obtain⟨aU,cap,rfl,_,_⟩:=h;cases aU with
 |none=>grind[ad]
 |some p=>grind[ad]
theorem aeh{f:bJ}{H H':List aj}{v:AV}(h1:fL P f [.emptyS true] H v H')(y:fL P f [.emptyS false] H v H'):fL P f [.listF ks []] H v H':=by
 intro E d hH HE hr
 match k:d.toList,hr with
 |[],hr=>simp[aw]at hr
 |c::cs,hr=>
  simp only[aw]at hr;rcases aeg hr.1 with h|h
  ·exact h1 E d hH HE (by rw[k]; simp only[aw]; exact⟨h,hr.2⟩)
  ·exact y E d hH HE (by rw[k]; simp only[aw]; exact⟨h,hr.2⟩)
end Go.AL

namespace Go.AL
open Go Go.ChangeMaps
variable [Dr]
variable {E:ah} {a:Act} {s:St} {u x:ar} {o:aQ} {w w':bh} {t:Tmp} {r0 r1 r2:Nat} {rZ:LL} {β:Type} {q:bA}
theorem cQ.ox(d:cQ s E a)(t:Tmp){v:AV}(h:ad E v u):cQ (s.put (some t) v s.H) E (a.put (some t) u):=
 ⟨d.H,Kx d.fr (ah.le.refl E) (some t) h,by rw[put_defers]; exact d.defers,d.heap⟩
theorem Cs{m:Nat}{E':ah}(h:E.fX m E'):E.ct E':=
 ⟨fun b hb=>⟨⟨Nat.lt_of_lt_of_le hb.1 h.size,h.af b hb.1 hb.2.1,fun d=>hb.2.2 ((h.X b hb.1).1.1 d)⟩,h.same b hb.1 hb.2.1⟩⟩
theorem pg{P:ak}{ai:Array aQ}{Q:Exit->Act->bh->Prop}{i:Nat}{K:Act->bh->Prop}
  (hi:ai[i]?=some o) (h:o.guard=none) (hr:(execOp a.eval o).run P w=.ok (.value u) w') (d:∀c,o.op≠.defer c) (k:Option Nat) (v:K (a.put o.dst u) w'):wpOpIn (fz k) 0 P ai Q i K a w:=by
 unfold wpOpIn;simp only[hi];rw[iP (by simp[Region.wanted,h])];unfold Oper.wpIn;rw[Oper.semAt_eq _ _ _ d,hr];exact⟨fun _ _=>trivial,v⟩
theorem uj{P:ak}{pf:bJ->Bool}{ai:Array aQ}{Q:Exit->Act->bh->Prop}(y:Option Nat):∀(l:List aQ) (k:Nat) (s s':St) (E:ah) (a:Act) (d:List Nat),
  (∀(j:Nat) (o:aQ),l[j]?=some o->ai[k+j]?=some o)->gX P pf ai l s s'->cQ s E a->(∀I w',iH E s' I w'->wpOpsIn (fz y) 0 P ai Q d I w')->wpOpsIn (fz y) 0 P ai Q (mW k l.length++d) a E.w
 |[],k,s,s',E,a,d,_,h,M,N=>by
  simp only[gX]at h;subst h;exact N _ _ (iH.refl M)
 |o::l,k,s,s',E,a,d,O,h,M,N=>by
  obtain⟨v,H',hy,U⟩:=h;simp only[cz,Eg,mX];rw[wpOpsIn_cons];refine Kz M (by simpa using O 0 o rfl) hy (fun I w' hc=>?_) y;obtain⟨W,r',h1,h2⟩:=hc;refine uj y l (k+1) _ s' { w:=w',H:=H',ae:=W,X:=E.X.re r' } I d (fun j x hx=>?_) U h1 (fun a2 w2 hc2=>N a2 w2 (iH.after h2 hc2));have:=O (j+1) x (by simpa using hx)
  grind
theorem uk(h:t<a.tmps.size):(a.put (some t) u).eval (.tmp t)=u:=by
 simp[Act.eval,Ep,h]
def br.kR:br->Option (cu × aG)
 |.fail=>none
 |.done x s=>some (x,s)
 |.ask b t e=>match b with
  |true=>t.kR
  |false=>e.kR
 |.side b t=>match b with
  |true=>t.kR
  |false=>none
theorem wK:∀{t:br} {x:cu} {s:aG},t.kR=some (x,s)->t.holds fun d s'=>d=x/\s'=s
 |.fail,_,_,h=>by cases h
 |.done _ _,_,_,h=>by
  cases h;exact⟨rfl,rfl⟩
 |.ask b t e,_,_,h=>by
  cases b with
  |true=>exact⟨fun _=>wK (t:=t) h,fun h=>(nomatch h)⟩
  |false=>exact⟨fun h=>(nomatch h),fun _=>wK (t:=e) h⟩
 |.side b t,_,_,h=>by
  cases b with
  |true=>exact⟨rfl,wK (t:=t) h⟩
  |false=>cases h
def h_(st:LG->LG->Option LG)(da:LG->Nat):LL->LG->Option LG
 |[],d=>some d
 |r::rs,d=>match st r d with
  |some h=>bif aD (da h) (da d) then h_ st da rs h else none
  |none=>none
theorem Me{st:LG->LG->Option LG}{da:LG->Nat}:∀(p q:LL) (d:LG),h_ st da (p++q) d=(h_ st da p d).bind (h_ st da q)
 |[],_,_=>rfl
 |r::p,q,d=>by
  simp only[mX,h_];cases st r d with
  |none=>rfl
  |some h=>
   simp only[];cases aD (da h) (da d)with
   |false=>rfl
   |true=>exact Me p q h
def dM(r:LG):Nat:=(gi r 2).iV.toNat
theorem Gu{f:LG->Nat}{r:LG}:∀{l:LL} {seen:Array Nat},(l.map f).Nodup->r∈l->seen.contains (f r)=false ->
  (l.filter fun x => !seen.contains (f x)).Perm (r::l.filter fun x => !(seen.push (f r)).contains (f x))
 |[],_,_,h,_=>by cases h
 |x::l,seen,hn,hm,k=>by
  obtain⟨I,hn⟩:=oL.1 hn;rcases c_.1 hm with rfl|hm
  ·have e:(l.filter fun x => !(seen.push (f r)).contains (f x))=l.filter fun x => !seen.contains (f x):=by
    apply List.filter_congr;intro y M;have:(f y==f r)=false:=by
     rw[beq_eq_false_iff_ne];intro e
     grind
    grind
   simp_all
  ·have d:(f x==f r)=false:=by
    rw[beq_eq_false_iff_ne];intro e
    grind
   have v:=Gu hn hm k;simp only[List.filter_cons,contains_push seen (f r) (f x),d,Bool.or_false];cases seen.contains (f x)with
   |true=>grind
   |false=>
    simp only[Bool.not_false,if_true];exact(List.Perm.cons x v).trans (List.Perm.swap r x _)
structure lx where
 inv:qP
 ps:List fN
 opens:List (Nat × List Kd)
 K:Ct
 V:Ct
 id:Nat
 x:Tmp
 y:Tmp
 it:Tmp
 t1:Tmp
 t2:Tmp
 t3:Tmp
 da:LG->Nat
 init:LG->Nat->LG
 side:LG->Nat->Bool
 st:LG->LG->Option LG
def lx.rs(sp:lx)(r d:LG):aG:=⟨(b_ sp.inv d).fr.set sp.t3 (.tuple [sp.K.av (gi r 0).rV,sp.V.av (gi r 1).rV]),(b_ sp.inv d).H⟩
def lx.s2(sp:lx)(s:aG)(b:Nat):aG:=⟨s.fr.set sp.it (.lit (.pointer (some ⟨b,0,none⟩))),s.H.set sp.id (.raw .dead)⟩
def yR(m:Nat)(inv:qP)(ps:List fN)(x:cu)(s:aG):Option (Bool × LG):=
 match x with
 |.normal=>ow m inv ps s
 |_=>none
structure Cu (P:ak) (sp:lx) (db dC cD:Array aQ):Prop where
 r0:∃o2 ty,db.toList=db.toList.dropLast++[o2]/\o2.guard=none/\o2.op=.range ty (.tmp sp.y)/\o2.dst=some sp.it/\(eT P ty).isSome=true
 r1:∃o1 o2,dC.toList=[o1,o2]/\o1.guard=none/\o1.op=.next (.tmp sp.it) false/\o1.dst=some sp.t1/\o2.guard=none/\o2.op=.extract (.tmp sp.t1) 0/\o2.dst=some sp.t2
 r2:∃o1 l,cD.toList=o1::l/\o1.guard=none/\o1.op=.entry (.tmp sp.it)/\o1.dst=some sp.t3
def ph(r0 d r1 h r2:Nat)(db dC cD:Array aQ)(t2:Tmp)(body:Code):Code:=
 .seq (.region r0 db false) (.block d (.loop (.seq (.region r1 dC false) (.seq (.cond (.tmp t2) .skip (.exit d)) (.block h (.seq (.region r2 cD false) body))))))
theorem aei{d:Option Nat}{k v:Nat}{db dC cD:Array aQ}{t2:Tmp}{body:Code}(h:iW d (ph r0 k r1 v r2 db dC cD t2 body)):iW d body:=h.imp id fun h=>by
 simpa[ph,jq]using h
section range
variable {P:ak} {τ:aF} {L:LT} {m:Nat} {sp:lx} {db dC cD:Array aQ} {body:Code}
def wL(P:ak)(τ:aF)(L:LT)(m:Nat)(sp:lx)(cD:Array aQ)(body:Code):Prop:=
 ∀r d,(g_ P τ cD (cD.toList.drop 1) (sp.rs r d) (fun s=>eH P τ L body s .done)).leaf (yR m sp.inv sp.ps)=sp.st r d
theorem aej(hm:P.follows .mixedOrders=true)(y:aH P τ)(M:aT P m L body)(hr:wL P τ L m sp cD body){r d k:LG}(h:sp.st r d=some k) :
  ∃v:aG,gX P τ.pf cD (cD.toList.drop 1) (sp.rs r d).ao v.ao/\dU P m body v.ao .normal (b_ sp.inv k).ao:=by
 rw[<-hr r d]at h;obtain⟨v,h1,N⟩:=tV y (Q:=fun x s=>yR m sp.inv sp.ps x s=some (true,k)) (ot h);obtain⟨x,O,U,I⟩:=jt hm y body v .done M N;have I:yR m sp.inv sp.ps x O=some (true,k):=I
 grind[yR,yn,qe]
def Mf(P:ak)(τ:aF)(m:Nat)(sp:lx)(cD:Array aQ)(body:Code)(v:Nat):Prop:=∀r d h,sp.st r d=some h ->
 ∃(k:aG) (x:cu),(x=.normal\/x=.exit v)/\gX P τ.pf cD (cD.toList.drop 1) (sp.rs r d).ao k.ao/\dU P m body k.ao x (b_ sp.inv h).ao
theorem aek(hm:P.follows .mixedOrders=true)(k:aH P τ)(v:aT P m L body)(hr:wL P τ L m sp cD body)(y:Nat):Mf P τ m sp cD body y:=fun r d N h=>by
 obtain⟨I,h1,M⟩:=aej hm k v hr h;exact⟨I,.normal,.inl rfl,h1,M⟩
def Sl(m:Nat)(sp:lx)(E:ah)(rZ:LL)(M:LG)(k v h:Nat)(I:Array MapEntry)(a:Act)(w:bh):Prop:=
 ∃(d:LG) (ae:List (Option (Nat × Nat))) (X:XS) (seen:Array Nat) (y:Nat) (p:LL),
  h_ sp.st sp.da p M=some d/\sp.da d=k/\(p++rZ.filter fun x => !seen.contains (dM x)).Perm rZ /\
  cQ (b_ sp.inv d).ao { w:=w,H:=(b_ sp.inv d).ao.H,ae:=ae,X:=X } a/\E.fX m { w:=w,H:=(b_ sp.inv d).ao.H,ae:=ae,X:=X }/\X k /\
  w.heap[k]?=some (.mapIter (some v) h seen y)/\h<=y/\w.heap[v]?=some (.map I h) /\
  ¬ ah.af { w:=w,H:=(b_ sp.inv d).ao.H,ae:=ae,X:=X } v/\bX { w:=w,H:=(b_ sp.inv d).ao.H,ae:=ae,X:=X } (dA sp.K sp.V rZ) I.toList
theorem cQ.um(d:cQ s E a)(hu:s.fr[t]?=some .undef)(u:ar):cQ s E (a.put (some t) u):=by
 have h:=d.ox t (v:=.undef) (u:=u) (by simp[ad])
 simp_all[St.put,nr,qF]
theorem Gv(h:cQ s E a){v:AV}(hu:s.fr[t]?=some v):t<a.tmps.size:=by
 have h1:s.fr.length=a.tmps.size:=by simpa using(rK.1 h.fr).1
 have d:t<s.fr.length:=bl hu;rw[h1]at d;exact d
theorem Gw{cs:Array ar}(d:o.op=.extract (.tmp t) 0)(h:a.eval (.tmp t)=.tuple cs)(k:cs[0]? = some u):
  (execOp a.eval o).run P w=.ok (.value u) w:=by
 obtain⟨dst,op,v,pos,after,guard⟩:=o;subst d;exact oV (by simp[Instr.extract,h,k])
theorem Gx(d:o.op=.next (.tmp t) false)(k:a.eval (.tmp t)=x)(h:(Instr.next x false o.type).run P w=.ok u w'):
  (execOp a.eval o).run P w=.ok (.value u) w':=by
 obtain⟨dst,op,v,pos,after,guard⟩:=o;subst d;subst k;exact oV h
theorem Sn(d:o.op=.entry (.tmp t))(k:a.eval (.tmp t)=x)(h:(Instr.entry x).run P w=.ok u w'):
  (execOp a.eval o).run P w=.ok (.value u) w':=by
 obtain⟨dst,op,v,pos,after,guard⟩:=o;subst d;subst k;exact oV h
theorem Sp{ty:TypeId}(d:o.op=.range ty (.tmp t))(k:a.eval (.tmp t)=x)(h:(Instr.range ty x).run P w=.ok u w'):
  (execOp a.eval o).run P w=.ok (.value u) w':=by
 obtain⟨dst,op,v,pos,after,guard⟩:=o;subst d;subst k;exact oV h
theorem yS{b:Nat}{o:Obj}(h:w.heap[b]?=some o):b<w.heap.size:=(Array.getElem?_eq_some_iff.1 h).1
theorem Gy{r:Nat}{a:Option Nat}{b c:Nat}{s:Array Nat}(h:w.heap[r]?=some (.mapIter a b s c)):w.iterSeen r=s:=by
 unfold World.iterSeen;rw[h]
theorem ael(hm:P.follows .mixedOrders=true)(ht:aH P τ)(hL:aT P m L body)(ho:Cu P sp db dC cD)
  (hu1:∀d,(b_ sp.inv d).fr[sp.t1]?=some .undef) (hu2:∀d,(b_ sp.inv d).fr[sp.t2]?=some .undef) (hut:∀d,(b_ sp.inv d).fr[sp.it]?=some (.lit (.pointer (some ⟨sp.da d,0,none⟩))))
  {E:ah} {rZ:LL} {d0:LG} {itb mb clock:Nat} {ms:Array MapEntry} {r1 b0 b1 r2:Nat} (hr:Mf P τ m sp cD body b1)
  (hsz:E.w.heap.size<=itb) (hn:(rZ.map dM).Nodup) (hlt:∀r∈rZ,dM r<clock) (hne:mb≠itb)
  (hfold:∀p,p.Perm rZ->(h_ sp.st sp.da p d0).isSome=true) {a:Act} {w:bh} (hI:Sl m sp E rZ d0 itb mb clock ms a w) (y:Option Nat) (hro:iW y body) :
  (Code.loop (.seq (.region r1 dC false) (.seq (.cond (.tmp sp.t2) .skip (.exit b0)) (.block b1 (.seq (.region r2 cD false) body))))).wpIn (fz y) 0 P
   (fun e a1 w1=>e=.exit b0/\∃p d,p.Perm rZ/\h_ sp.st sp.da p d0=some d/\ft m E (b_ sp.inv d).ao a1 w1) a w:=by
 obtain⟨o1,o2,e1,g1,p1,q1,g2,p2,q2⟩:=ho.r1;obtain⟨o3,l,e3,g3,p3,q3⟩:=ho.r2;refine wpIn_loop (Sl m sp E rZ d0 itb mb clock ms) (fun _ w=>(leftOf ms (w.iterSeen itb)).size) hI fun a w hI=>?_;obtain⟨d,ae,X,seen,last,p,hf,had,hp,M,I,hXi,hit,hcl,hmb,hown,hre⟩:=hI;have h10:dC[0]?=some o1:=by
  have:dC.toList[0]?=some o1:=by rw[e1]; rfl
  grind
 have h11:dC[1]?=some o2:=by
  have:dC.toList[1]?=some o2:=by rw[e1]; rfl
  grind
 have hsz1:dC.size=2:=by
  have:dC.toList.length=2:=by rw[e1]; rfl
  omega
 have hiv:a.eval (.tmp sp.it)=.pointer (some ⟨itb,0,none⟩):=by
  have h:=M.eval (.tmp sp.it);have e:(b_ sp.inv d).ao.eval (.tmp sp.it)=.lit (.pointer (some ⟨sp.da d,0,none⟩)):=by
   show (b_ sp.inv d).fr.getD sp.it .undef=_
   rw[dc,hut d];rfl
  rw[e]at h;simp only[ad]at h;rw[h,had]
 obtain⟨hlen,hen⟩:=fA.1 hre;have hl1:(dA sp.K sp.V rZ).length=rZ.length:=by simp[dA]
 have row_of:∀(i:Nat) (e:MapEntry),ms.toList[i]?=some e->∃r,rZ[i]?=some r/\e.born=dM r:=by
  intro i e hi;have h1:=bl hi;have O:i<rZ.length:=ab;refine⟨rZ[i],cB O,?_⟩;exact(hen i (sp.K.av (gi rZ[i] 0).rV,sp.V.av (gi rZ[i] 1).rV,(gi rZ[i] 2).iV.toNat) e (by simp[dA,O]) hi).2.2.1
 have hold:∀x∈ms.toList,x.born<clock:=by
  intro x U;obtain⟨i,hi⟩:=sT U;obtain⟨r,h1,O⟩:=row_of i x hi;rw[O]
  grind
 have hbn:(ms.toList.map (·.born)).Nodup:=by
  have:ms.toList.map (·.born)=rZ.map dM:=by
   apply List.ext_getElem?;intro i;simp only[dw]
   grind
  rw[this];exact hn
 refine wpIn_seq (wpIn_region ?_);rw[hsz1];show wpOpsIn (fz y) 0 P dC _ [0,1] a w
 rw[wpOpsIn_cons];have hlt1:=Gv M (hu1 d);have hlt2:=Gv M (hu2 d);rcases run_next_at (P:=P) w o1.type itb mb clock last seen ms clock hit hmb hold hcl with⟨h0,hrun⟩|⟨e,he,w1,hw1,hrun⟩
 ·refine pg h10 g1 (Gx p1 hiv hrun) (fun c e=>by rw[p1]at e; cases e) y ?_
  rw[q1,wpOpsIn_cons];refine pg h11 g2 (Gw p2 (uk hlt1) rfl) (fun c e=>by rw[p2]at e; cases e) y ?_;rw[q2];show (Code.seq _ _).wpIn (fz y) 0 P _ _ w
  refine wpIn_seq (wpIn_cond_false (uk (by simpa[Ep]using hlt2)) (wpIn_exit ?_));refine⟨rfl,p,d,?_,hf,ae,X,?_,I⟩
  ·have:(rZ.filter fun x => !seen.contains (dM x))=[]:=by
    rw[List.filter_eq_nil_iff];intro x U hc;obtain⟨i,hi⟩:=sT U;have h1:=bl hi;have O:i<ms.toList.length:=ab;obtain⟨r,h3,h4⟩:=row_of i _ (cB O);rw[hi]at h3;cases h3;have:ms.toList[i]∈(leftOf ms seen).toList:=by
     unfold leftOf;rw[Array.toList_filter];refine mn.2 ⟨vp O,?_⟩;rw[h4];exact hc
    have h5:(leftOf ms seen).toList.length=0:=ab;rw[List.length_eq_zero_iff.1 h5]at this;cases this
   grind
  ·exact(M.um (hu1 d) (.tuple #[.bool false])).um (hu2 d) (.bool false)
 ·refine pg h10 g1 (Gx p1 hiv hrun) (fun c e=>by rw[p1]at e; cases e) y ?_
  rw[q1,wpOpsIn_cons];refine pg h11 g2 (Gw p2 (uk hlt1) rfl) (fun c e=>by rw[p2]at e; cases e) y ?_;rw[q2];show (Code.seq _ _).wpIn (fz y) 0 P _ _ _
  refine wpIn_seq (wpIn_cond_true (uk (by simpa[Ep]using hlt2)) (wpIn_skip ?_));show (Code.block _ _).wpIn (fz y) 0 P _ _ _
  refine wpIn_block (wpIn_seq (wpIn_region ?_));generalize hw2:setBlock w1 itb (.mapIter (some mb) clock (seen.push e.born) clock)=k;have hw1h:w1.heap=w.heap:=by rcases hw1 with rfl|rfl<;>rfl
  have hos:fl w k:=by rw[<-hw2]; rcases hw1 with rfl|rfl<;>exact⟨rfl,rfl,rfl,by first|exact fun _=>aV _|exact fun _=>gI _ _⟩
  have hit2':k.heap[itb]?=some (.mapIter (some mb) clock (seen.push e.born) clock):=by
   rw[<-hw2];exact(OV (by rw[hw1h]; exact hit)).1
  have hother:∀b,b≠itb->k.heap[b]?=w.heap[b]?:=by
   intro b hb;rw[<-hw2];show (w1.heap.setIfInBounds itb _)[b]?=_
   rw[(OV (by rw[hw1h]; exact hit)).2 b hb,hw1h]
  have hsize:k.heap.size=w.heap.size:=by
   rw[<-hw2];show (w1.heap.setIfInBounds itb _).size=_
   simp[hw1h]
  have hmb2:k.heap[mb]?=some (.map ms clock):=by rw[hother mb hne]; exact hmb
  have fF:ln { w:=w,H:=(b_ sp.inv d).ao.H,ae:=ae,X:=X } { w:=k,H:=(b_ sp.inv d).ao.H,ae:=ae,X:=X }:=
   ⟨rfl,rfl,by show w.heap.size<=k.heap.size; omega,fun b hb U=>⟨U,hother b (fun e=>U (by rw[e]; exact hXi))⟩,fun b hb=>by show b<k.heap.size; rw[hsize]; exact M.heap.X b hb,rfl⟩
  have hmk:nh k X a.defers:=⟨M.defers.1,fun dd hdd=>by
   obtain⟨D,e,h1,O,h3⟩:=M.defers.2 dd hdd
   grind⟩
  have hs1:=((M.fF fF hmk).um (hu1 d) (.tuple #[.bool true,e.key,e.val])).um (hu2 d) (.bool true);obtain⟨hem,hes⟩:=mem_left he;obtain⟨i,hi⟩:=sT hem;obtain⟨r,hri,hrb⟩:=row_of i e hi;have hrm:=gg hri;have hre2:=lW fF.toC hre;obtain⟨k1,k2,_⟩:=(fA.1 hre2).2 i (sp.K.av (gi r 0).rV,sp.V.av (gi r 1).rV,(gi r 2).iV.toNat) e (by simp[dA,hri]) hi;have hiv1:((a.put (some sp.t1) (.tuple #[.bool true,e.key,e.val])).put (some sp.t2) (.bool true)).eval (.tmp sp.it)=.pointer (some ⟨itb,0,none⟩):=by
   have h:=hs1.eval (.tmp sp.it);have e:(b_ sp.inv d).ao.eval (.tmp sp.it)=.lit (.pointer (some ⟨sp.da d,0,none⟩)):=by
    show (b_ sp.inv d).fr.getD sp.it .undef=_
    rw[dc,hut d];rfl
   rw[e]at h;simp only[ad]at h;rw[h,had]
  have h20:cD[0]?=some o3:=by
   have:cD.toList[0]?=some o3:=by rw[e3]; rfl
   grind
  have hl2:cD.toList.drop 1=l:=by rw[e3]; rfl
  have hsz2:cD.size=l.length+1:=by
   have:cD.toList.length=l.length+1:=by rw[e3]; rfl
   omega
  have hlp:(p++(r::rZ.filter fun x => !(seen.push (dM r)).contains (dM x))).Perm rZ:=
   (List.Perm.append_left p (Gu hn hrm (by rw[<-hrb]; exact hes)).symm).trans hp
  have hst:∃N,sp.st r d=some N/\sp.da N=sp.da d:=by
   have h:=hfold _ hlp;rw[Me,hf]at h;simp only[ash,h_]at h;cases hst:sp.st r d with
   |none=>grind
   |some N=>
    rw[hst]at h;simp only[]at h;cases hb:aD (sp.da N) (sp.da d)with
    |true=>simp_all
    |false=>grind
  obtain⟨N,hst,had'⟩:=hst;have hf':h_ sp.st sp.da (p++[r]) d0=some N:=by
   rw[Me,hf];simp only[ash,h_,hst,had'];simp
  obtain⟨s4,xe,hxe,ha4,hsat⟩:=hr r d N hst;rw[hsz2,Jj,Eg,wpOpsIn_cons];refine pg h20 g3 (Sn p3 hiv1 (run_entry_at (P:=P) k itb mb clock seen ms clock e hit2' hmb2 hem hbn)) (fun c e=>by rw[p3]at e; cases e) y ?_;rw[q3];have hs3:=hs1.ox sp.t3 (v:=.tuple [sp.K.av (gi r 0).rV,sp.V.av (gi r 1).rV]) (u:=.tuple #[e.key,e.val]) (by simp only[ad]; exact⟨_,rfl,by simp only[aw]; exact⟨k1,k2,trivial⟩⟩);refine KA (pf:=τ.pf) (ai:=cD) l (0+1) (sp.rs r d).ao s4.ao { w:=k,H:=(b_ sp.inv d).ao.H,ae:=ae,X:=X } _ (by rw[<-hl2]) (by rw[hl2]at ha4; exact ha4) hs3 (fun a3 w3 hc3=>?_) y;obtain⟨yT,r3,hs4,hle3⟩:=hc3;show body.wpIn (fz y) 0 P _ a3 w3
  refine wpIn_mono (hsat y hro { w:=w3,H:=s4.ao.H,ae:=yT,X:=X.re r3 } a3 hs4) fun x a4 w4 U=>?_;obtain⟨rfl,loc4,X4,hs5,hle4⟩:=U;have key:∀{R:Exit->Act->bh->Prop},R .normal a4 w4->OP b1 R xe.toExit a4 w4:=fun h=>by
   rcases hxe with rfl|rfl
   ·exact h
   ·show (if b1=b1 then _ else _)
    grind
  refine key ?_;have W:({ w:=k,H:=(b_ sp.inv d).ao.H,ae:=ae,X:=X }:ah).fX m { w:=w4,H:=(b_ sp.inv N).ao.H,ae:=loc4,X:=X4 }:=hle3.toM.trans hle4;have hXsz:itb<k.heap.size:=yS hit2';have hnown:¬ ah.af { w:=k,H:=(b_ sp.inv d).ao.H,ae:=ae,X:=X } itb:=by
   exact(M.heap.fF fF).rL hXi
  have hmbsz:mb<k.heap.size:=yS hmb2;have hit4:w4.heap[itb]?=some (.mapIter (some mb) clock (seen.push e.born) clock):=by rw[W.same itb hXsz hnown]; exact hit2'
  refine⟨⟨N,loc4,X4,seen.push e.born,clock,p++[r],hf',by rw[had',had],?_,hs5,?_,(W.X itb hXsz).1.2 hXi,hit4,aV _,?_,?_,?_⟩,?_⟩
  simp_all
  ·refine ah.fX.trans (E':={ w:=k,H:=(b_ sp.inv d).ao.H,ae:=ae,X:=X }) ⟨I.bF,?_,?_,I.af,I.live,I.X,I.rl,I.env.trans hos,I.grow⟩ W
   grind
   ·intro b hb hbo
    show k.heap[b]?=_
    rw[hother b ab];exact I.same b hb hbo
  ·rw[W.same mb hmbsz hown]
   exact hmb2
  ·exact W.af mb hmbsz hown
  ·exact lW (Cs W) hre2
  ·show (leftOf ms (w4.iterSeen itb)).size<(leftOf ms (w.iterSeen itb)).size
   rw[Gy hit4,Gy hit];exact left_shrinks ms seen e he
theorem aem(hm:P.follows .mixedOrders=true)(ht:aH P τ)(hL:aT P m L body)(ho:Cu P sp db dC cD)
  (hu1:∀d,(b_ sp.inv d).fr[sp.t1]?=some .undef) (hu2:∀d,(b_ sp.inv d).fr[sp.t2]?=some .undef) (hut:∀d,(b_ sp.inv d).fr[sp.it]?=some (.lit (.pointer (some ⟨sp.da d,0,none⟩))))
  {r1 b0 b1 r2:Nat} (hr:Mf P τ m sp cD body b1)
  {s:aG} {d:LG} {rZ:LL} {N:Nat} (hx:s.eval (.tmp sp.y)=.map sp.id) (hid:s.H[sp.id]?=some (.map sp.K sp.V rZ N)) (hn:(rZ.map dM).Nodup)
  (hlt:∀r∈rZ,dM r<N) (hin:∀b,ow m sp.inv sp.ps (mG sp.opens (sp.s2 s b))=some (true,sp.init d b)) (hadr:∀b,sp.da (sp.init d b)=b)
  (hfold:∀b p,p.Perm rZ->(h_ sp.st sp.da p (sp.init d b)).isSome=true) (E:ah) (a:Act) (M:cQ s.ao E a) (U:Option Nat) (hro:iW U body) {Q:Exit->Act->bh->Prop}
  (hQ:∀a1 w1,(∃b p d',p.Perm rZ/\h_ sp.st sp.da p (sp.init d b)=some d'/\ft m E (b_ sp.inv d').ao a1 w1)->Q .normal a1 w1) :
  wpOpsIn (fz U) 0 P db (Exit.then ((Code.block b0 (.loop (.seq (.region r1 dC false) (.seq (.cond (.tmp sp.t2) .skip (.exit b0)) (.block b1 (.seq (.region r2 cD false) body)))))).wpIn (fz U) 0 P Q) Q) [db.toList.dropLast.length] a E.w:=by
 obtain⟨o2,ty,e1,g2,p2,q2,hty⟩:=ho.r0;have h11:db[db.toList.dropLast.length]?=some o2:=by
  have:db.toList[db.toList.dropLast.length]?=some o2:=by
   rw[e1];simp
  grind
 have hid':E.H[sp.id]?=some (.map (dA sp.K sp.V rZ) N):=by
  rw[M.H];exact bt hid
 have hrx:ad E (.map sp.id) (a.eval (.tmp sp.y)):=by
  have:=M.eval (.tmp sp.y)
  rwa [aG.qJ,hx]at this
 obtain⟨O,n,ms,hc,hloc,hmb,hre⟩:=vJ M.heap hid' hrx;obtain⟨⟨kt,et⟩,hty⟩:=Option.isSome_iff_exists.1 hty;have hmbs:O<E.w.heap.size:=yS hmb;rw[wpOpsIn_cons];refine pg h11 g2 (Sp p2 hc (run_range_map E.w ty kt et O ms N (gW hty) hmb)) (fun c e=>by rw[p2]at e; cases e) U ?_;rw[q2];show (Code.block _ _).wpIn (fz U) 0 P _ _ _
 generalize hw2:E.w.alloc (.mapIter (some O) N #[] N)=I;have hsize:I.heap.size=E.w.heap.size+1:=by rw[<-hw2]; show (E.w.heap.push _).size=_; simp
 have hold:∀b,b<E.w.heap.size->I.heap[b]?=E.w.heap[b]?:=fun b hb=>by rw[<-hw2]; exact(show (E.w.heap.push _)[b]?=_ by grind)
 have hitn:I.heap[E.w.heap.size]?=some (.mapIter (some O) N #[] N):=by rw[<-hw2]; exact(show (E.w.heap.push _)[E.w.heap.size]?=_ by simp)
 have hos:fl E.w I:=by rw[<-hw2]; exact⟨rfl,rfl,rfl,by first|exact fun _=>aV _|exact fun _=>gI _ _⟩
 have hd:=ah.Be M.heap sp.id;have hs2:cQ ⟨s.fr,ay (s.H.set sp.id (.raw .dead))⟩ { w:=E.w,H:=E.H.set sp.id .dead,ae:=E.ae.set sp.id none,X:=E.X } a:=by
  refine⟨?_,eX hd _ M.fr,M.defers,aJ.drop M.heap sp.id fun o ho=>by rw[hid']at ho; cases ho; rfl⟩;rw[dq,show E.H=ay s.H from M.H];rfl
 have fF:ln { w:=E.w,H:=E.H.set sp.id .dead,ae:=E.ae.set sp.id none,X:=E.X } { w:=I,H:=E.H.set sp.id .dead,ae:=E.ae.set sp.id none,X:=E.X.or fun b=>b=E.w.heap.size }:=
  ⟨rfl,rfl,by show E.w.heap.size<=I.heap.size; omega,fun b hb hx=>⟨fun h=>h.elim hx (fun e=>absurd hb (by rw[e]; exact OT _)),hold b hb⟩,fun b hb=>by
   show b<I.heap.size
   rcases hb with hb|hb
   ·have:=M.heap.X b hb
    omega
   ·omega,rfl⟩
 have hs3:=(hs2.fF fF (EJ (X':=E.X.or fun b=>b=E.w.heap.size) (w':=I) hs2.defers (fun _ h1 h2=>⟨.inl h1,h2⟩) fun b h1 _=>hold b (M.heap.X b h1))).ox sp.it (v:=.lit (.pointer (some ⟨E.w.heap.size,0,none⟩))) (u:=.pointer (some ⟨E.w.heap.size,0,none⟩)) (by simp only[ad]);have hs3':cQ (sp.s2 s E.w.heap.size).ao { w:=I,H:=E.H.set sp.id .dead,ae:=E.ae.set sp.id none,X:=E.X.or fun b=>b=E.w.heap.size } _:=hs3;obtain⟨ae,X4,hs4,W⟩:=((qQ sp.opens _).trans (qe (hin E.w.heap.size))) _ _ hs3';have hmbn:¬ ah.af { w:=I,H:=E.H.set sp.id .dead,ae:=E.ae.set sp.id none,X:=E.X.or fun b=>b=E.w.heap.size } O:=by
  rintro(⟨j,c,hj⟩|⟨l,k,c,hj⟩)
  case inr=>exact M.heap.d_ _ _ _ _ _ _ hloc hj
  simp only[gh]at hj;split at hj
  grind
  ·rename_i hne
   exact hne (M.heap.inj _ _ _ _ _ hloc hj)
 have hmb2:I.heap[O]?=some (.map ms N):=by rw[hold O hmbs]; exact hmb
 refine wpIn_block (wpIn_mono (ael hm ht hL ho hu1 hu2 hut (hr:=hr) (E:=E) (rZ:=rZ) (d0:=sp.init d E.w.heap.size) (itb:=E.w.heap.size) (mb:=O) (clock:=N) (ms:=ms)
  (aV _) hn hlt ab (hfold _) ?_ U hro) fun e a1 w1 hq=>?_)
 ·refine⟨sp.init d E.w.heap.size,ae,X4,#[],N,[],rfl,hadr _,?_,hs4,?_,(W.X E.w.heap.size (by show _<I.heap.size; omega)).1.2 (.inr rfl),?_,aV _,?_,?_,?_⟩
  ·have:(rZ.filter fun x => !(#[]:Array Nat).contains (dM x))=rZ:=List.filter_eq_self.2 (fun x _=>by simp)
   rw[List.nil_append,this]
  ·refine hd.toM.trans (ah.fX.trans (E':={ w:=I,H:=E.H.set sp.id .dead,ae:=E.ae.set sp.id none,X:=E.X.or fun b=>b=E.w.heap.size }) ⟨fun _ _ h=>h,?_,?_,fun b _ h=>h,fun _ _ _ h=>⟨h,rfl⟩,fun b hb=>⟨⟨fun h=>h.elim id fun e=>absurd hb (by rw[e]; exact OT _),.inl⟩,Iff.rfl⟩,fun _ _ h=>⟨h,fun _ hq=>hq⟩,hos,fun _ _ _ o h1 h2 _=>⟨⟨[],(dY _).symm⟩,o,h1,h2⟩⟩ W)<;>grind
  ·rw[W.same E.w.heap.size (by show _<I.heap.size; omega) ?_]
   ·exact hitn
   ·exact(hs2.heap.fF fF).rL (.inr rfl)
  omega
  ·exact W.af O (by show _<I.heap.size; omega) hmbn
  ·exact lW (Cs W) (lW fF.toC (lW hd.toC hre))
 ·obtain⟨rfl,p,d',h1,h2,h3⟩:=hq
  simp only[OP,if_true]
  grind
theorem aen(hm:P.follows .mixedOrders=true)(U:aH P τ)(W:aT P m L body)(hr:wL P τ L m sp cD body)(ho:Cu P sp db dC cD)
  (hu1:∀d,(b_ sp.inv d).fr[sp.t1]?=some .undef) (hu2:∀d,(b_ sp.inv d).fr[sp.t2]?=some .undef) (hut:∀d,(b_ sp.inv d).fr[sp.it]?=some (.lit (.pointer (some ⟨sp.da d,0,none⟩))))
  {r0 r1 b0 b1 r2:Nat}
  {s s1:aG} {d:LG} {rZ:LL} {O:Nat} (hp:gX P τ.pf db db.toList.dropLast s.ao s1.ao) (hx:s1.eval (.tmp sp.y)=.map sp.id) (hid:s1.H[sp.id]?=some (.map sp.K sp.V rZ O)) (hn:(rZ.map dM).Nodup)
  (I:∀r∈rZ,dM r<O) (hin:∀b,ow m sp.inv sp.ps (mG sp.opens (sp.s2 s1 b))=some (true,sp.init d b)) (hadr:∀b,sp.da (sp.init d b)=b)
  (hfold:∀b p,p.Perm rZ->(h_ sp.st sp.da p (sp.init d b)).isSome=true) (E:ah) (a:Act) (hs:cQ s.ao E a) (k:Option Nat) (hro:iW k body) :
  (ph r0 b0 r1 b1 r2 db dC cD sp.t2 body).wpIn (fz k) 0 P (fun e M N=>e=.normal/\∃b p v,p.Perm rZ/\h_ sp.st sp.da p (sp.init d b)=some v/\ft m E (b_ sp.inv v).ao M N) a E.w:=by
 refine wpIn_seq (wpIn_region ?_);obtain⟨o2,ty,e1,_⟩:=ho.r0;have hsz:db.size=db.toList.dropLast.length+1:=by
  have h:=congrArg List.length e1;simpa using h
 have hl:fm db.size=mW 0 db.toList.dropLast.length++[db.toList.dropLast.length]:=by
  rw[hsz,List.range_succ,Jj]
 rw[hl];refine uj (pf:=τ.pf) k db.toList.dropLast 0 s.ao s1.ao E a _ (fun j o hj=>?_) hp hs fun M N hc=>?_
 ·have I:=bl hj
  have:db.toList[j]?=some o:=by
   rw[e1,fT I];exact hj
  simpa using this
 ·obtain⟨loc1,r1,h1,h2⟩:=hc
  refine aem hm U W ho hu1 hu2 hut (aek hm U W hr b1) hx hid hn I hin hadr hfold { w:=N,H:=s1.ao.H,ae:=loc1,X:=E.X.re r1 } M h1 k hro fun a2 w2 ⟨b,p,v,g1,g2,g3⟩=>?_;exact⟨rfl,b,p,v,g1,g2,ft.after h2.toM g3⟩
noncomputable def uo(rZ:LL)(k:Nat->LL->Option β):Option β:=
 open Classical in if h:∃r,∀b p,p.Perm rZ->k b p=some r then some h.choose else none
theorem Gz{k:Nat->LL->Option β}{r:β}(h:uo rZ k=some r):∀b p,p.Perm rZ->k b p=some r:=by
 unfold uo at h;split at h<;>grind
theorem Mg{k:Nat->LL->Option β}{r:β}(h:∀b p,p.Perm rZ->k b p=some r):uo rZ k=some r:=by
 cases hb:uo rZ k with
 |some d=>
  have h1:=Gz hb 0 rZ (Jr _);rw[h 0 rZ (Jr _)]at h1;exact h1.symm
 |none=>
  unfold uo at hb;rw[dif_pos ⟨r,h⟩]at hb;cases hb
def mH(rZ:LL)(d:Nat):Bool:=nodupB (rZ.map dM)&&rZ.all fun r=>dy (dM r) d
theorem Sq{d:Nat}(h:mH rZ d=true):(rZ.map dM).Nodup/\∀r∈rZ,dM r<d:=by
 simp only[mH,aO,eD,Nat.blt_eq]at h;exact⟨ua h.1,h.2⟩
noncomputable def sn(sp:lx)(tl:LG->bp)(rZ:LL)(h:Nat)(d:LG):bp:=
 bif mH rZ h then uo rZ (fun b p=>bif sp.side d b then (h_ sp.st sp.da p (sp.init d b)).bind tl else none) else none
def Cv(P:ak)(m:Nat)(c:Code)(sp:bA):Prop:=∀d i h,sp.st d=some (some i,h)->∃o,sp.outs[i]?=some o/\dU P m c (b_ sp.inv d).ao o.x (b_ o.S h).ao
theorem wI.sat{c:Code}(hm:P.follows .mixedOrders=true)(k:aH P τ)(v:aT P m L c)(hr:wI P τ L m c q):Cv P m c q:=by
 intro d i y h;rw[<-hr d]at h;obtain⟨x,s1,N,I⟩:=jt hm k c (b_ q.inv d) .done v (Q:=fun x s=>wH m q.outs 0 x s=some (true,(some i,y))) (ot h);obtain⟨j,o,O,M,U,W⟩:=F5 I;simp only[bD,dj]at M
 grind[yn,qe]
theorem aeo{c:Code}(hr:Cv P m c q){s:aG}{t:br}(h:Cl m q s=some t):Lq P m c s t:=by
 unfold Cl at h;split at h
 case h_2=>cases h
 rename_i b d N;cases h;intro Q y;simp only[br.holds,wF,aO]at y;obtain⟨⟨rfl,h1⟩,I⟩:=y;cases v:q.st d with
 |none=>rw[v]at h1; cases h1
 |some r=>
  obtain⟨k,M⟩:=r;cases k with
  |none=>rw[v]at h1; cases h1
  |some i=>
   obtain⟨o,O,U⟩:=hr d i M v;rw[v]at I;exact⟨o.x,(b_ o.S M),ym ((qQ q.opens s).trans (qe N)) U,F6 O (dj i).symm I⟩
theorem aT.aep{fn:Func} (hn:sd q.key (cN (bf fn))=true) (h:aT P m L (bf fn)) (hr:aT P m L (gP fn q.key)->Cv P m (gP fn q.key) q):
  aT P m (L.gv m q) (bf fn):=by
 refine⟨h.1,h.2.1,fun k y v s t d=>?_⟩;simp only[LT.gv]at d;split at d
 ·rename_i e
  have e:=bN e;subst e;have I:=RS hn v;rw[<-I]at hr;exact aeo (hr (h.sub (ud v) (ue v))) d
 ·exact h.2.2 k y v s t d
def Cw(o:Option Tmp)(t:Tmp):Bool:=
 match o with
 |some x=>aD x t
 |none=>false
theorem Mh{o:Option Tmp}(h:Cw o t=true):o=some t:=by
 cases o with
 |none=>cases h
 |some x=>exact congrArg some (bN h)
def Mi(P:ak)(sp:lx)(ai:Array aQ):Bool:=
 match ai.toList.getLast? with
 |some ⟨d,.range ty (.tmp b),_,_,_,none⟩=>aD b sp.y&&Cw d sp.it&&(eT P ty).isSome
 |_=>false
def Mj(sp:lx)(ai:Array aQ):Bool:=
 match ai.toList with
 |[⟨d,.next (.tmp a) false,_,_,_,none⟩,⟨h,.extract (.tmp b) 0,_,_,_,none⟩]=>aD a sp.it&&Cw d sp.t1&&aD b sp.t1&&Cw h sp.t2
 |_=>false
def Mk(sp:lx)(ai:Array aQ):Bool:=
 match ai.toList with
 |⟨d,.entry (.tmp a),_,_,_,none⟩::_=>aD a sp.it&&Cw d sp.t3
 |_=>false
theorem aeq(h0:Mi P sp db=true)(h1:Mj sp dC=true)(d:Mk sp cD=true):Cu P sp db dC cD:=by
 refine⟨?_,?_,?_⟩
 ·unfold Mi at h0
  split at h0
  ·rename_i k ty b t' v I e
   simp only[aO]at h0;obtain⟨⟨h,M⟩,N⟩:=h0;have h:=bN h;subst h;refine⟨⟨k,.range ty (.tmp sp.y),t',v,I,none⟩,ty,?_,rfl,rfl,Mh M,N⟩
   grind[List.getLast?_eq_some_iff]
  ·cases h0
 ·unfold Mj at h1
  split at h1
  ·rename_i O a _ _ _ k b _ _ _ e
   simp only[aO]at h1
   grind[bN,Mh]
  ·cases h1
 ·unfold Mk at d
  split at d
  ·rename_i O a _ _ _ l e
   simp only[aO]at d
   grind[bN,Mh]
  ·cases d
def Sr:Code->Code
 |.seq _ b=>b
 |_=>.skip
def Ml:Code->Code
 |.seq (.seq _ (.block _ (.loop c))) _=>c
 |_=>.skip
def GA(c:Code):Code:=match Ml c with
 |.seq _ (.seq _ (.block _ (.seq _ b)))=>b
 |_=>.skip
def Mm:Code->Array aQ
 |.region _ ai _=>ai
 |_=>#[]
def yU:Code->Array aQ
 |.seq (.seq r _) _=>Mm r
 |_=>#[]
def Ss(c:Code):Array aQ:=match Ml c with
 |.seq r _=>Mm r
 |_=>#[]
def Cx(c:Code):Array aQ:=match Ml c with
 |.seq _ (.seq _ (.block _ (.seq r _)))=>Mm r
 |_=>#[]
theorem aer{v y t2:Nat}{k:Code} (h:aT P m L (.seq (ph r0 v r1 y r2 db dC cD t2 body) k)):aT P m L body/\aT P m L k:=by
 refine⟨h.sub (fun p d=>?_) (fun p d=>?_),h.sub (fun p d=>?_) (fun p d=>?_)⟩
 ·simp only[cI,ph,dm]
  left;right;split
  ·simp only[c_,cI,dm]
   exact .inr (.inr (.inr (.inr d)))
  ·simp only[cI,dm]
   exact .inr (.inr (.inr d))
 ·simp only[cN,ph,dm]
  exact .inl (.inr (.inr (.inr (.inr (.inr (.inr (.inr (.inr d))))))))
 ·simp only[cI,dm]
  exact .inr d
 ·simp only[cN,dm]
  exact .inr (.inr d)
def Su(P:ak)(τ:aF)(ai:Array aQ)(s:aG):aG:=match (g_ P τ ai ai.toList.dropLast s fun s=>.done .normal s).kR with
 |some (_,s1)=>s1
 |none=>s
theorem Mn(d:aH P τ){ai:Array aQ}{l:List aQ}{s s1:aG}(h:(g_ P τ ai l s fun s=>.done .normal s).kR=some (.normal,s1)):gX P τ.pf ai l s.ao s1.ao:=by
 obtain⟨s',h1,k⟩:=tV d (wK h);obtain⟨_,rfl⟩:=k;exact h1
theorem aes(hm:P.follows .mixedOrders=true)(ht:aH P τ){rest:Code}{v:bA}(hL:aT P m L body)(hr:wL P τ L m sp cD body)(ho:Cu P sp db dC cD)
  (hu1:∀d,(b_ sp.inv d).fr[sp.t1]?=some .undef) (hu2:∀d,(b_ sp.inv d).fr[sp.t2]?=some .undef) (hut:∀d,(b_ sp.inv d).fr[sp.it]?=some (.lit (.pointer (some ⟨sp.da d,0,none⟩))))
  {r0 r1 b0 b1 r2:Nat}
  {rZ:LG->LL} {U:LG->Nat} {pre:LG->aG} (hy:∀d,(g_ P τ db db.toList.dropLast (b_ q.inv d) fun s=>.done .normal s).kR=some (.normal,pre d)) (N:∀d,(pre d).eval (.tmp sp.y)=.map sp.id) (hid:∀d,(pre d).H[sp.id]?=some (.map sp.K sp.V (rZ d) (U d)))
  (hin:∀d b,ow m sp.inv sp.ps (mG sp.opens (sp.s2 (pre d) b))=some (sp.side d b,sp.init d b)) (hadr:∀d b,sp.da (sp.init d b)=b)
  (hinv:v.inv=sp.inv) (houts:v.outs=q.outs) (hrest:Cv P m rest v) (hst:∀d,q.st d=sn sp v.st (rZ d) (U d) d) :
  Cv P m (.seq (ph r0 b0 r1 b1 r2 db dC cD sp.t2 body) rest) q:=by
 intro d i d' h;rw[hst]at h;unfold sn at h;cases W:mH (rZ d) (U d)with
 |false=>rw[W]at h; cases h
 |true=>
  rw[W]at h;simp only[cT]at h;have hall:=Gz h;obtain⟨hn,hlt⟩:=Sq W;have M:∀b p,p.Perm (rZ d)->sp.side d b=true/\∃k,h_ sp.st sp.da p (sp.init d b)=some k/\v.st k=some (some i,d'):=by
   intro b p I;have:=hall b p I;cases hsd:sp.side d b with
   |false=>rw[hsd]at this; cases this
   |true=>
    rw[hsd]at this;simp only[cT]at this;cases O:h_ sp.st sp.da p (sp.init d b)with
    |none=>rw[O]at this; cases this
    |some k=>
     rw[O]at this;exact⟨rfl,k,rfl,this⟩
  obtain⟨_,k,_,g1⟩:=M 0 (rZ d) (Jr _);obtain⟨o,ho1,_⟩:=hrest k i d' g1;refine⟨o,by rw[<-houts]; exact ho1,fun ro hro E a hs=>wpIn_seq (wpIn_mono (aen hm ht hL hr ho hu1 hu2 hut (Mn ht (hy d)) (N d) (hid d) hn hlt (fun b=>by rw[hin d b,(M b (rZ d) (Jr _)).1]) (hadr d) (fun b p I=>?_) E a hs ro (aei hro.seq1)) fun e a1 w1 hq=>?_)⟩
  ·obtain⟨_,d2,h2,_⟩:=M b p I
   rw[h2];rfl
  ·obtain⟨rfl,b,p,d2,I,O,ae,X,hs2,hle⟩:=hq
   obtain⟨_,d3,h3,h4⟩:=M b p I;rw[O]at h3;cases h3;obtain⟨o',ho2,hsat⟩:=hrest d2 i d' h4;rw[ho1]at ho2;cases ho2;rw[hinv]at hsat;exact wpIn_mono (hsat ro hro.Fm { w:=w1,H:=(b_ sp.inv d2).ao.H,ae:=ae,X:=X } a1 hs2) fun x a2 w2 N=>⟨N.1,ft.after hle N.2⟩
theorem aT.Sv(hm:P.follows .mixedOrders=true)(k:aH P τ){fn:Func}{qr:bA}{b0 b1:Nat}{rZ:LG->LL}{clock:LG->Nat}
  (hn:sd q.key (cN (bf fn))=true) (hL:aT P m L (bf fn))
  (v:gP fn q.key=.seq (ph r0 b0 r1 b1 r2 (yU (gP fn q.key)) (Ss (gP fn q.key)) (Cx (gP fn q.key)) sp.t2 (GA (gP fn q.key))) (Sr (gP fn q.key)))
  (ho:(Mi P sp (yU (gP fn q.key))&&Mj sp (Ss (gP fn q.key))&&Mk sp (Cx (gP fn q.key)))=true)
  (hr:wL P τ L m sp (Cx (gP fn q.key)) (GA (gP fn q.key)))
  (U:∀d,(b_ sp.inv d).fr[sp.t1]?=some .undef) (W:∀d,(b_ sp.inv d).fr[sp.t2]?=some .undef) (hut:∀d,(b_ sp.inv d).fr[sp.it]?=some (.lit (.pointer (some ⟨sp.da d,0,none⟩))))
  {pre:LG->aG} (hy:∀d,(g_ P τ (yU (gP fn q.key)) (yU (gP fn q.key)).toList.dropLast (b_ q.inv d) fun s=>.done .normal s).kR=some (.normal,pre d)) (hx:∀d,(pre d).eval (.tmp sp.y)=.map sp.id) (hid:∀d,(pre d).H[sp.id]?=some (.map sp.K sp.V (rZ d) (clock d)))
  (hin:∀d b,ow m sp.inv sp.ps (mG sp.opens (sp.s2 (pre d) b))=some (sp.side d b,sp.init d b)) (N:∀d b,sp.da (sp.init d b)=b)
  (O:qr.inv=sp.inv) (I:qr.outs=q.outs) (M:wI P τ L m (Sr (gP fn q.key)) qr) (hst:∀d,q.st d=sn sp qr.st (rZ d) (clock d) d) :
  aT P m (L.gv m q) (bf fn):=by
 refine aT.aep hn hL fun h=>?_;rw[v]at h;obtain⟨hLb,hLr⟩:=aer h;simp only[aO]at ho;rw[v];exact aes hm k hLb hr (aeq ho.1.1 ho.1.2 ho.2) U W hut hy hx hid hin N O I (M.sat hm k hLr) hst
end range
end Go.AL
