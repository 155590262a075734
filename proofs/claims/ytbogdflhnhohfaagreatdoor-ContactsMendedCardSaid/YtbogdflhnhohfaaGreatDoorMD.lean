/-
 What is proved here: shapes: states and arguments as data alone (integers,strings,rZ),read oF abstract states and built from data; what is built says no more than what was read. No program in sight; no condition.
-/
import Derived.Test.YtbogdflhnhohfaaGreatDoorMC
import Derived.Maps.RangeRun
set_option linter.all false
open Bool renaming and_true->gX,and_eq_true->aK,false_eq_true->lz,not_eq_true'->sX,and_self->yw,eq_false_iff->amu,or_false->o9
open Go renaming Value->ao,FuncId->bP,World->a_,Program->aj,Oper->aU
open Go.Act renaming put->KW
open Go.Exit renaming inBlock->Vs
open Go.MapKept renaming heap_set->amv
open Go.Value.slice renaming injEq->mq
open Int renaming toNat_natCast->aR
open List renaming length_cons->cn,append_nil->da,append_assoc->gG,getElem?_append_left->di,length_map->c8,mem_map->dB,getElem?_map->bY,getElem?_eq_getElem->bZ,mem_of_getElem?->eS,getElem?_append_right->iY,getElem?_set_self->bB,getElem?_set_ne->bg,getElem?_set->eC,all_eq_true->dN,getD_eq_getElem?_getD->cd,getElem?_take->oY,mem_cons->cq,map_cons->dC,range'->FX,cons_append->mr,range'_succ->KJ,length_append->fu,mem_append->db,getElem?_of_mem->yr,mem_cons_self->cX,mem_cons_of_mem->dp,all_cons->oa,nodup_cons->pW,getElem?_inj->F0,set_append_left->BP,range->fo,mem_append_left->oe,any_eq_true->lG,range_eq_range'->Vr,headD_cons->u5,mem_filter->s9,getElem?_cons_succ->Vv,getD_cons_succ->amt,find?_cons_of_neg->K4,getElem_mem->u7,mem_append_right->pY
open List.Perm renaming refl->yx
open Nat renaming le_refl->aM,le_add_right->gY,zero_le->eV,lt_or_ge->mo,zero_add->cP,beq->aG,eq_of_beq_eq_true->bz,sub_self->lF,ble->dS,blt->dq,blt_eq->iZ,le_of_ble_eq_true->BR,lt_irrefl->BU
open Option renaming map_eq_some_iff->eL,map_some->ff,getD_some->m_,bind_some->amw
open Option.some renaming injEq->bf,inj->g_
open Prod.mk renaming injEq->bo
namespace Go.AL
open Go
variable [Dr]
inductive fQ where
 |int (k:IntKind)|str|bool
 |list (ks:List Kd)|row (ks:List Kd)|cptr (ks:List Kd)
 |nil|any
 |C9 (isNil:Bool)
 |fn (f:bP)
 |ptr (j col:Nat)
 |vQ (j w:Nat)
 |sub (j w:Nat)
 |pre (j w:Nat)
 |tV (ks:List Kd)
 |map (j:Nat)
 |addr
 |C_ (f:bP) (js:List Nat)
 |Ik
 deriving Inhabited
abbrev fQ.I:fQ:=.int .i64
inductive Sh where
 |s (a:fQ)
 |clo (f:bP) (caps:List fQ)
 deriving Inhabited
inductive bX where
 |vQ (ks:List Kd) (u:Nat)
 |box (cells:List fQ)
 |map (K V:Ct)
 |gy (l T B:Nat)
 |a7 (l:Nat) (K:Ct) (ks:List Kd)
 |mm (l:Nat) (K KI VI:Ct)
 |cM (l:Nat) (ks:List Kd)
 |bJ (l:Nat) (K:Ct) (ks:List Kd)
 deriving Inhabited
def bX.lU:bX->Option Nat
 |.gy l _ _=>some l
 |.a7 l _ _=>some l
 |.mm l _ _ _=>some l
 |.cM l _=>some l
 |.bJ l _ _=>some l
 |_=>none
def bX.dW:bX->Option Nat
 |.mm l _ _ _=>some l
 |.cM l _=>some l
 |_=>none
def fQ.sz:fQ->Nat
 |.int _ | .str | .bool | .list _ | .row _ | .cptr _ | .tV _ | .pre _ _ | .addr=>1
 |.sub _ _=>2
 |_=>0
def rJ:List fQ->Nat
 | []=>0
 |a::as=>a.sz+rJ as
def Sh.sz:Sh->Nat
 |.s a=>a.sz
 |.clo _ caps=>rJ caps
def Il:List Sh->Nat
 | []=>0
 |a::as=>a.sz+Il as
def bX.sz:bX->Nat
 |.vQ _ _=>1
 |.box cells=>rJ cells
 |.map _ _=>2
 |.gy _ _ _=>1
 |.a7 _ _ _=>2
 |.mm _ _ _ _=>3
 |.cM _ _=>2
 |.bJ _ _ _=>2
def fB:Nat->LG->LG
 |0,d=>d
 |n+1,d=>fB n d.tail
abbrev eo:=List (Nat × Nat)
def eo.len(os:eo)(j:Nat):Nat:=(os.getD j (0,0)).1
def eo.al(os:eo)(j:Nat):Nat:=(os.getD j (0,0)).2
def tX:List Nat->List AV
 | []=>[]
 |j::d=>.ptr j 0 0 0 0::tX d
def fS(lens:eo):fQ->LG->AV
 |.int k,d=>.lit (.int k (d.headD default).iV)
 |.str,d=>.lit (.string (d.headD default).sV)
 |.bool,d=>.lit (.bool (d.headD default).bV)
 |.list ks,d=>.listF ks (d.headD default).rZ
 |.tV ks,d=>.listF ks (d.headD default).rZ
 |.row ks,d=>.agg (aX ks (d.headD default).rV)
 |.cptr ks,d=>.cptr (aX ks (d.headD default).rV)
 |.nil,_=>.lit (.slice none 0 0)
 |.any,_=>.undef
 |.C9 b,_=>.emptyS b
 |.fn f,_=>.clo f []
 |.ptr j g,_=>.ptr j 0 0 0 g
 |.vQ j w,_=>.vQ w j (lens.al j) 0 (lens.len j)
 |.sub j w,d=>.vQ w j (lens.al j) (d.headD default).iV.toNat (d.tail.headD default).iV.toNat
 |.pre j w,d=>.vQ w j (lens.al j) 0 (d.headD default).iV.toNat
 |.map j,_=>.map j
 |.addr,d=>.lit (.pointer (some ⟨(d.headD default).iV.toNat,0,none⟩))
 |.C_ f h,_=>.clo f (tX h)
 |.Ik,_=>.lit .nilIface
def ll(lens:eo):List fQ->LG->List AV
 | [],_=>[]
 |a::as,d=>fS lens a d::ll lens as (fB a.sz d)
def tY(lens:eo):Sh->LG->AV
 |.s a,d=>fS lens a d
 |.clo f caps,d=>.clo f (ll lens caps d)
def im(lens:eo):List Sh->LG->List AV
 | [],_=>[]
 |a::as,d=>tY lens a d::im lens as (fB a.sz d)
def gq(lens:eo):bX->LG->aw
 |.vQ ks u,d=>.vQ ks u (d.headD default).rZ
 |.box g,d=>.raw (.box (ll lens g d))
 |.map K V,d=>.map K V (d.headD default).rZ (d.tail.headD default).iV.toNat
 |.gy l T B,d=>.raw (.gy l T B (d.headD default).sV)
 |.a7 l K ks,d=>.a7 l K ks (d.headD default).rZ (d.tail.headD default).iV.toNat
 |.mm l K h k,d=>.mm l K h k (d.headD default).rZ (d.tail.headD default).rZ (d.tail.tail.headD default).iV.toNat
 |.cM l ks,d=>.cM l ks (d.tail.headD default).iV.toNat (d.headD default).rZ
 |.bJ l K ks,d=>.bJ l K ks (d.headD default).rZ (d.tail.headD default).iV.toNat
def wz(lens:eo)(sh:bX)(d:LG):(gq lens sh d).ar.label=sh.lU:=by cases sh<;>rfl
def Im(lens:eo)(sh:bX)(d:LG):(gq lens sh d).ar.dW=sh.dW:=by cases sh<;>rfl
def dI(lens:eo):List bX->LG->List aw
 | [],_=>[]
 |o::os,d=>gq lens o d::dI lens os (fB o.sz d)
def pr:List bX->Nat
 | []=>0
 |o::os=>o.sz+pr os
def dJ:List bX->LG->eo
 | [],_=>[]
 | o::os,d=>(match o with
  |.vQ _ u=>((d.headD default).rZ.length,u)
  |_=>(0,0))::dJ os (fB o.sz d)
def nG(H:List aw)(e:cz):List Nat->List AV->Bool
 | [],[]=>true
 | j::d,.ptr id al k row c::g=>(match H[id]? with
  |some (.raw _)=>aG id (e.at j)&&aG al 0&&aG k 0&&aG row 0&&aG c 0
  |_=>false)&&nG H e d g
 |_,_=>false
def iL(H:List aw)(e:cz)(fz:Nat->Bool):fQ->AV->Option (Bool × LG)
 |.int k,.lit (.int q n)=>if k=q then some (true,[.i n]) else none
 |.str,.lit (.string s)=>some (true,[.s s])
 |.bool,.lit (.bool b)=>some (true,[.t b])
 | .list ks,a=>match qo ks a with
  |some rZ=>some (true,[.l rZ])
  | none=>match a with
   | .vQ w id al oF n=>match H[id]? with
    |some (.vQ d v rZ)=>if al=v/\oF=0/\w=ks.length/\Kd.gN ks d=true/\fz id=true then some (aG n rZ.length,[.l rZ]) else none
    |_=>none
   |_=>none
 | .row ks,a=>match Ig ks a with
  |some r=>some (true,[.l [r]])
  |none=>none
 | .cptr ks,.cptr cells=>match iK ks cells with
  |some r=>some (true,[.l [r]])
  |none=>none
 | .cptr ks,.ptr id al _ row h=>match H[id]? with
  | some (.raw (.box cells))=>match iK ks cells with
   |some r=>if al=0/\row=0/\h=0/\fz id=true then some (true,[.l [r]]) else none
   |none=>none
  |some (.vQ d v [r])=>if al=v/\row=0/\h=0/\Kd.gN ks d=true/\fz id=true then some (true,[.l [r]]) else none
  |_=>none
 |.nil,.lit (.slice none 0 0)=>some (true,[])
 |.any,_=>some (true,[])
 |.fn f,.clo g []=>if f=g then some (true,[]) else none
 | .ptr j h,.ptr id al k row c=>match H[id]? with
  |some (.raw _)=>if id=e.at j/\al=0/\k=0/\row=0/\c=h then some (true,[]) else none
  |_=>none
 | .vQ j w,.vQ w' id al oF n=>match H[id]? with
  |some (.vQ _ v rZ)=>if w'=w/\id=e.at j/\al=v/\oF=0 then some (aG n rZ.length,[]) else none
  |_=>none
 | .sub j w,.vQ w' id al oF n=>match H[id]? with
  |some (.vQ _ v _)=>if w'=w/\id=e.at j/\al=v then some (true,[.i oF,.i n]) else none
  |_=>none
 | .pre j w,.vQ w' id al oF n=>match H[id]? with
  |some (.vQ _ v _)=>if w'=w/\id=e.at j/\al=v/\oF=0 then some (true,[.i n]) else none
  |some (.cM _ _ _ _)=>if w'=w/\id=e.at j/\al=0/\oF=0 then some (true,[.i n]) else none
  |_=>none
 | .tV ks,a=>match qo ks a with
  |some rZ=>some (true,[.l rZ])
  | none=>match a with
   | .vQ w id al oF n=>match H[id]? with
    |some (.vQ d v rZ)=>if al=v/\oF=0/\w=ks.length/\Kd.gN ks d=true/\fz id=true then some (dS n rZ.length,[.l (rZ.take n)]) else none
    |_=>none
   |_=>none
 | .map j,.map id=>match H[id]? with
  |some (.map _ _ _ _)=>if id=e.at j then some (true,[]) else none
  |some (.a7 _ _ _ _ _)=>if id=e.at j then some (true,[]) else none
  |some (.mm _ _ _ _ _ _ _)=>if id=e.at j then some (true,[]) else none
  |some (.bJ _ _ _ _ _)=>if id=e.at j then some (true,[]) else none
  |_=>none
 |.addr,.lit (.pointer (some ⟨b,0,none⟩))=>some (true,[.i (b:Nat)])
 |.C_ f y,.clo g I=>if f=g/\nG H e y I=true then some (true,[]) else none
 |.Ik,.lit .nilIface=>some (true,[])
 |_,_=>none
def iq(H:List aw)(e:cz)(fz:Nat->Bool):List fQ->List AV->Option (Bool × LG)
 | [],[]=>some (true,[])
 | sh::d,a::as=>match iL H e fz sh a,iq H e fz d as with
  |some (b,g),some (h,k)=>some (b&&h,g++k)
  |_,_=>none
 |_,_=>none
def nH(H:List aw)(e:cz)(fz:Nat->Bool):Sh->AV->Option (Bool × LG)
 |.s a,v=>iL H e fz a v
 |.clo f caps,.clo g d=>if f=g then iq H e fz caps d else none
 |_,_=>none
def fT(H:List aw)(e:cz)(fz:Nat->Bool):List Sh->List AV->Option (Bool × LG)
 | [],[]=>some (true,[])
 | sh::d,a::as=>match nH H e fz sh a,fT H e fz d as with
  |some (b,g),some (h,k)=>some (b&&h,g++k)
  |_,_=>none
 |_,_=>none
def jQ(H:List aw)(e:cz)(fz:Nat->Bool):bX->aw->Option (Bool × LG)
 |.vQ ks _,.vQ g _ rZ=>if Kd.gN ks g then some (true,[.l rZ]) else none
 |.box k,.raw (.box cells)=>iq H e fz k cells
 |.map K V,.map h y rZ d=>if K.same h&&V.same y then some (true,[.l rZ,.i d]) else none
 |.gy l T B,.raw (.gy l' I M s)=>if (aG l l'&&(aG T I&&aG B M))=true then some (true,[.s s]) else none
 |.a7 l K ks,.a7 l' h g rZ d=>if (aG l l'&&(K.same h&&Kd.gN ks g))=true then some (true,[.l rZ,.i d]) else none
 |.mm l K N O,.mm l' h q v rZ mem d=>if (aG l l'&&(K.same h&&(N.same q&&O.same v)))=true then some (true,[.l rZ,.l mem,.i d]) else none
 |.cM l ks,.cM l' g n U=>if (aG l l'&&Kd.gN ks g)=true then some (true,[.l U,.i n]) else none
 |.bJ l K ks,.bJ l' h g rZ d=>if (aG l l'&&(K.same h&&Kd.gN ks g))=true then some (true,[.l rZ,.i d]) else none
 |_,_=>none
def N'{H:List aw}{e:cz}{fz:Nat->Bool}{sh:bX}{o:aw}{b:Bool}{g:LG}(h:jQ H e fz sh o=some (b,g)):o.ar.label=sh.lU:=by
 unfold jQ at h;split at h
 ·rfl
 ·rfl
 ·rfl
 ·split at h
  ·rename_i d
   simp only[aK]at d;have:=bz d.1;subst this;rfl
  ·cases h
 ·split at h
  ·rename_i d
   simp only[aK]at d;have:=bz d.1;subst this;rfl
  ·cases h
 ·split at h
  ·rename_i d
   simp only[aK]at d;have:=bz d.1;subst this;rfl
  ·cases h
 ·split at h
  ·rename_i d
   simp only[aK]at d;have:=bz d.1;subst this;rfl
  ·cases h
 ·split at h
  ·rename_i d
   simp only[aK]at d;have:=bz d.1;subst this;rfl
  ·cases h
 ·cases h
def Io{H:List aw}{e:cz}{fz:Nat->Bool}{sh:bX}{o:aw}{b:Bool}{g:LG}(h:jQ H e fz sh o=some (b,g)):o.ar.dW=sh.dW:=by
 unfold jQ at h;split at h
 ·rfl
 ·rfl
 ·rfl
 ·rfl
 ·rfl
 ·split at h
  ·rename_i d
   simp only[aK]at d;have:=bz d.1;subst this;rfl
  ·cases h
 ·split at h
  ·rename_i d
   simp only[aK]at d;have:=bz d.1;subst this;rfl
  ·cases h
 ·rfl
 ·cases h
def lW(H:List aw)(e:cz)(fz:Nat->Bool):List bX->List Nat->Option (Bool × LG)
 | [],[]=>some (true,[])
 | o::os,i::d=>match H[i]? with
  | some t=>match jQ H e fz o t,lW H e fz os d with
   |some (b,g),some (h,k)=>some (b&&h,g++k)
   |_,_=>none
  |none=>none
 |_,_=>none
def rK:∀(g d:LG),fB g.length (g++d)=d
 | [],_=>rfl
 |_::g,d=>rK g d
def wA:aw->Nat
 |.vQ _ v _=>v
 |_=>0
def wB(H:List aw)(id:Nat):Nat:=match H[id]? with
 |some o=>wA o
 |none=>0
def cA(H:List aw)(aA:List Nat):cz:=⟨aA,aA.map (wB H),H.length⟩
structure C' (E0:af) (lens:eo) (j:Nat) (o:aw):Prop where
 al:o.ar.aV = some (wA o)
 obj:∃ o0,E0.H[j]? = some o0/\o0.aV = some (lens.al j)
 mm:∀ o0,E0.H[j]? = some o0->o0.dW=o.ar.dW
 len:∀ ks v rZ,o=.vQ ks v rZ->lens.len j=rZ.length
 flat:(∀ ks v rZ,o≠.vQ ks v rZ)->lens.al j=0
structure kG (H:List aw) (e:cz) (fz:Nat->Bool) (lens:eo) (E E0:af):Prop where
 hH:E.H=az H
 HE:aJ E
 free:∀ i,fz i=true->∀ b n,E.ae[i]? = some (some (b,n))->E0.kV b
 dy:KeepIn e E E0
 obj:∀ j o,H[e.at j]? = some o->j<e.aA.length/\C' E0 lens j o
section dy
variable {H:List aw} {e:cz} {fz:Nat->Bool} {lens:eo} {E E0:af}
def C'.bx{j:Nat}{o:aw}(h:C' E0 lens j o):E0.bx j (lens.al j):=by
 obtain⟨o0,h1,d⟩:=h.obj;exact⟨o0,h1,ai.F9 d,fun v g=>by rw[d]at g; cases g; exact aM _⟩
def Zd(K:kG H e fz lens E E0){id v n:Nat}{ks:List Kd}{rZ:LL}{c:ao}(N:H[id]? = some (.vQ ks v rZ))(O:fz id=true)(hn:n=rZ.length)
  (d:ad E (.vQ ks.length id v 0 n) c):ad E0 (.listF ks rZ) c:=by
 subst hn;have k:E.H[id]? = some (.vQ ks.length v (rZ.map (aX ks))):=by rw[K.hH]; exact bu N
 have ho:=K.HE.obj id _ k;rw[kq];simp only[ad]at d|-;obtain⟨⟨aN,cap,rfl,M,_⟩,_,h⟩:=d;obtain⟨q1,U⟩:=h ⟨_,k,rfl⟩;have q:fv (rZ.map (aX ks)):=by
  intro r d;obtain⟨g,_,rfl⟩:=dB.1 d;exact gJ ks g
 refine⟨q,aN,cap,by simp,by simpa using M,?_⟩;simp only[aZ]at ho;rcases ho with⟨h1,y⟩|⟨b,m,h1,y,h,_,V⟩
 ·exact .inl y
 ·obtain ⟨g1, o, W, I⟩ := U b m h1
  by_cases hm:rZ=[]
  ·subst hm; exact .inl rfl
  ·right
   have:0<rZ.length:=by cases rZ with|nil=>exact(hm rfl).elim|cons _ _=>simp
   simp at h;have ho:=W (by omega);simp at ho;subst ho;simp only[mq]at I;exact⟨b,0,I.1,K.free id O b m h1,kX K.dy.bU _ q (by rw[K.dy.w]) V⟩
def Ze(K:kG H e fz lens E E0){id v n:Nat}{ks:List Kd}{rZ:LL}{c:ao}(U:H[id]? = some (.vQ ks v rZ))(V:fz id=true)(hn:n<=rZ.length)
  (d:ad E (.vQ ks.length id v 0 n) c):ad E0 (.listF ks (rZ.take n)) c:=by
 have k:E.H[id]? = some (.vQ ks.length v (rZ.map (aX ks))):=by rw[K.hH]; exact bu U
 have ho:=K.HE.obj id _ k;rw[kq];simp only[ad]at d|-;obtain⟨⟨aN,cap,rfl,O,_⟩,_,h⟩:=d;obtain⟨q1,W⟩:=h ⟨_,k,rfl⟩;have y:fv ((rZ.take n).map (aX ks)):=by
  intro r d;obtain⟨g,_,rfl⟩:=dB.1 d;exact gJ ks g
 have q:min n rZ.length=n:=Nat.min_eq_left hn;refine⟨y,aN,cap,by simp[q],by simpa[q]using O,?_⟩;simp only[aZ]at ho;rcases ho with⟨h1,I⟩|⟨b,m,h1,I,h,_,M⟩
 ·left
  have:rZ=[]:=by simpa using I
  rw[this];simp
 ·obtain ⟨g1, o, g2, N⟩ := W b m h1
  by_cases hm:n=0
  ·left; rw[hm]; simp
  ·right
   simp at h;have ho:=g2 (by omega);simp at ho;subst ho;simp only[mq]at N;refine⟨b,0,N.1,K.free id V b m h1,kX K.dy.bU _ y (by rw[K.dy.w]) ?_⟩;rw[om]at M|-;intro i r hi;simp only[bY,oY]at hi;split at hi
   ·exact M i r (by simpa using hi)
   ·simp at hi
def Zf(K:kG H e fz lens E E0){id k:Nat}{cells:List AV}{c:ao} (v:H[id]? = some (.raw (.box cells))) (h:AV.bM cells=true) (y:fz id=true)
  (q:ad E (.ptr id 0 k 0 0) c):ad E0 (.cptr cells) c:=by
 have g:E.H[id]? = some (.box cells):=by rw[K.hH]; exact bu v
 have ho:=K.HE.obj id _ g;simp only[aZ]at ho;obtain⟨b,n,h1,O,I⟩:=ho;simp only[ad]at q|-;obtain⟨_,_,M⟩:=q;obtain⟨U,V,d,N⟩:=M ⟨_,g,rfl⟩;rw[h1]at d;simp only[bf,bo]at d;obtain⟨rfl,rfl⟩:=d;exact⟨h,b,0,by rw[N]; simp,K.free id y b n h1,vd K.dy.bU cells h (by rw[K.dy.w]) I⟩
def Zg(K:kG H e fz lens E E0){id k v:Nat}{ks:List Kd}{r:LG}{c:ao}(I:H[id]? = some (.vQ ks v [r]))(M:fz id=true)
  (h:ad E (.ptr id v k 0 0) c):ad E0 (.cptr (aX ks r)) c:=by
 have g:E.H[id]? = some (.vQ ks.length v [aX ks r]):=by rw[K.hH]; exact bu I
 have ho:=K.HE.obj id _ g;simp only[aZ]at ho;simp only[ad]at h|-;obtain⟨_,_,N⟩:=h;obtain⟨U,V,d,O⟩:=N ⟨_,g,rfl⟩;rcases ho with⟨_,q⟩|⟨b,m,h1,q,W,h4,y⟩
 ·cases q
 ·rw [h1] at d
  simp only[bf,bo]at d;obtain⟨rfl,rfl⟩:=d;simp only[cY]at y;exact⟨gJ ks r,b,0,by rw[O]; simp,K.free id M b m h1,vd K.dy.bU _ (gJ ks r) (by rw[K.dy.w]) y.2.1⟩
def Oa(K:kG H e fz lens E E0):∀{g:List Nat} {q:List AV},nG H e g q=true->∀ cs,ax E q cs->ax E0 (tX g) cs
 | [],[],_,cs,d=>by
  cases cs with
  |nil=>simp[tX,ax]
  |cons _ _=>simp[ax]at d
 | j::g,v::q,h,cs,d=>by
  cases v<;>simp only[nG,lz]at h<;>try cases h
  rename_i id al k row c;simp only[aK]at h;obtain⟨h1,h2⟩:=h;split at h1
  ·rename_i r V
   simp only[aK]at h1;obtain⟨⟨⟨⟨y,I⟩,M⟩,N⟩,O⟩:=h1;have y:=bz y;have I:=bz I;have M:=bz M;have N:=bz N;have O:=bz O;subst y I M N O;cases cs with
   |nil=>simp[ax]at d
   | cons c cs =>
    simp only[ax]at d;simp only[tX,ax];refine⟨?_,Oa K h2 cs d.2⟩;obtain⟨hj,U⟩:=K.obj _ _ V;have hv:=U.flat (fun _ _ _ h=>by cases h);have W:=d.1;simp only[ad]at W|-;obtain⟨h1,h2,h3⟩:=W;refine⟨h1,by have:=U.bx; rwa [hv]at this,fun _=>?_⟩;rw[K.dy.ae _ hj];exact h3 ⟨_,by rw[K.hH]; exact bu V,U.al⟩
  ·cases h1
 | [],_::_,h,_,_=>by simp[nG]at h
 |_::_,[],h,_,_=>by simp[nG]at h
def Ob(K:kG H e fz lens E E0){sh:fQ}{a:AV}{g:LG}(h:iL H e fz sh a=some (true,g))(rest:LG) :
  g.length=sh.sz/\∀ c,ad E a c->ad E0 (fS lens sh (g++rest)) c:=by
 unfold iL at h;split at h
 ·split at h
  ·rename_i hk
   subst hk;cases h;exact⟨rfl,fun c d=>by simp only[ad]at d; subst d; simp[fS,ad,G.iV]⟩
  ·cases h
 ·cases h; exact⟨rfl,fun c d=>by simp only[ad]at d; subst d; simp[fS,ad,G.sV]⟩
 ·cases h; exact⟨rfl,fun c d=>by simp only[ad]at d; subst d; simp[fS,ad,G.bV]⟩
 ·split at h
  ·rename_i rZ d
   cases h;exact⟨rfl,fun c k=>fE K.dy.bU (.listF _ rZ) rfl (NZ d k)⟩
  ·split at h
   ·split at h
    ·rename_i q
     split at h
     ·rename_i k
      obtain⟨rfl,rfl,rfl,N,V⟩:=k;simp only[bf,bo]at h;obtain⟨h1,rfl⟩:=h;have N:=Kd.je N;subst N;exact⟨rfl,fun c d=>Zd K q V (bz h1) d⟩
     ·cases h
    ·cases h
   ·cases h
 ·split at h
  ·rename_i ks a r d
   cases h;have W:=N0 d;subst W;exact⟨rfl,fun c k=>fE K.dy.bU (.agg (aX ks r)) (by simp only[AV.closed,gJ]) k⟩
  ·cases h
 ·split at h
  ·rename_i r d
   cases h;have W:=mE d;subst W;exact⟨rfl,fun c k=>fE K.dy.bU (.cptr _) rfl k⟩
  ·cases h
 ·split at h
  ·rename_i q
   split at h
   ·rename_i r d
    split at h
    ·rename_i k
     obtain⟨rfl,rfl,rfl,V⟩:=k;cases h;have W:=mE d;subst W;exact⟨rfl,fun c d=>Zf K q (gJ _ _) V d⟩
    ·cases h
   ·cases h
  ·rename_i ks' v r q
   split at h
   ·rename_i k
    obtain⟨rfl,rfl,rfl,N,V⟩:=k;cases h;have N:=Kd.je N;subst N;exact⟨rfl,fun c d=>Zg K q V d⟩
   ·cases h
  ·cases h
 ·cases h; exact⟨rfl,fun c d=>by simpa only[fS,ad]using d⟩
 ·cases h; exact⟨rfl,fun c d=>by simp[fS,ad]⟩
 ·split at h
  ·rename_i hk
   subst hk;cases h;exact⟨rfl,fun c d=>fE K.dy.bU (.clo _ []) rfl d⟩
  ·cases h
 ·split at h
  ·rename_i r q
   split at h
   ·rename_i k
    obtain⟨rfl,rfl,rfl,rfl,rfl⟩:=k;cases h;obtain⟨I,y⟩:=K.obj _ _ q;have O:=y.flat (fun _ _ _ h=>by cases h);refine⟨rfl,fun c d=>?_⟩;simp only[ad]at d;simp only[fS,ad];obtain⟨h1,U,M⟩:=d;refine⟨h1,by have:=y.bx; rwa [O]at this,fun _=>?_⟩;rw[K.dy.ae _ I];exact M ⟨_,by rw[K.hH]; exact bu q,y.al⟩
   ·cases h
  ·cases h
 ·split at h
  ·rename_i ks v rZ q
   split at h
   ·rename_i k
    obtain⟨rfl,rfl,rfl,rfl⟩:=k;simp only[bf,bo]at h;obtain⟨h1,rfl⟩:=h;have h1:=bz h1;subst h1;obtain⟨I,y⟩:=K.obj _ _ q;refine⟨rfl,fun c d=>?_⟩;simp only[ad]at d;simp only[fS,ad];rw[y.len _ _ _ rfl];obtain⟨h1,U,M⟩:=d;refine⟨h1,y.bx,fun _=>?_⟩;rw[K.dy.ae _ I];exact M ⟨_,by rw[K.hH]; exact bu q,y.al⟩
   ·cases h
  ·cases h
 ·split at h
  ·rename_i ks v rZ q
   split at h
   ·rename_i k
    obtain⟨rfl,rfl,rfl⟩:=k;cases h;obtain⟨I,y⟩:=K.obj _ _ q;refine⟨rfl,fun c d=>?_⟩;simp only[ad]at d;simp only[fS,ad,mr,u5,List.tail_cons,G.iV,aR];obtain⟨h1,U,M⟩:=d;refine⟨h1,y.bx,fun _=>?_⟩;rw[K.dy.ae _ I];exact M ⟨_,by rw[K.hH]; exact bu q,y.al⟩
   ·cases h
  ·cases h
 ·split at h
  ·rename_i ks v rZ q
   split at h
   ·rename_i k
    obtain⟨rfl,rfl,rfl,rfl⟩:=k;cases h;obtain⟨I,y⟩:=K.obj _ _ q;refine⟨rfl,fun c d=>?_⟩;simp only[ad]at d;simp only[fS,ad,mr,u5,G.iV,aR];obtain⟨h1,U,M⟩:=d;refine⟨h1,y.bx,fun _=>?_⟩;rw[K.dy.ae _ I];exact M ⟨_,by rw[K.hH]; exact bu q,y.al⟩
   ·cases h
  ·rename_i l1 ks1 n1 ms1 q
   split at h
   ·rename_i k
    obtain⟨rfl,rfl,rfl,rfl⟩:=k;cases h;obtain⟨I,y⟩:=K.obj _ _ q;have O:=y.flat (fun _ _ _ h=>by cases h);refine⟨rfl,fun c d=>?_⟩;simp only[ad]at d;simp only[fS,ad,mr,u5,G.iV,aR];obtain⟨h1,U,M⟩:=d;refine⟨h1,y.bx,fun _=>?_⟩;rw[K.dy.ae _ I];exact M ⟨_,by rw[K.hH]; exact bu q,y.al⟩
   ·cases h
  ·cases h
 ·split at h
  ·rename_i rZ d
   cases h;exact⟨rfl,fun c k=>fE K.dy.bU (.listF _ rZ) rfl (NZ d k)⟩
  ·split at h
   ·split at h
    ·rename_i q
     split at h
     ·rename_i k
      obtain⟨rfl,rfl,rfl,N,V⟩:=k;simp only[bf,bo]at h;obtain⟨h1,rfl⟩:=h;have N:=Kd.je N;subst N;exact⟨rfl,fun c d=>Ze K q V (BR h1) d⟩
     ·cases h
    ·cases h
   ·cases h
 ·split at h
  ·rename_i K1 V1 rZ cl q
   split at h
   ·rename_i k
    subst k;cases h;obtain⟨I,y⟩:=K.obj _ _ q;have O:=y.flat (fun _ _ _ h=>by cases h);refine⟨rfl,fun c d=>?_⟩;simp only[ad]at d;simp only[fS,ad];obtain⟨h1,U,M⟩:=d;refine⟨h1,by have:=y.bx; rwa [O]at this,fun _=>?_⟩;rw[K.dy.ae _ I];exact M ⟨_,by rw[K.hH]; exact bu q,y.al⟩
   ·cases h
  ·rename_i l1 K1 ks1 rZ cl q
   split at h
   ·rename_i k
    subst k;cases h;obtain⟨I,y⟩:=K.obj _ _ q;have O:=y.flat (fun _ _ _ h=>by cases h);refine⟨rfl,fun c d=>?_⟩;simp only[ad]at d;simp only[fS,ad];obtain⟨h1,U,M⟩:=d;refine⟨h1,by have:=y.bx; rwa [O]at this,fun _=>?_⟩;rw[K.dy.ae _ I];exact M ⟨_,by rw[K.hH]; exact bu q,y.al⟩
   ·cases h
  ·rename_i l1 K1 KI1 VI1 rZ mem cl q
   split at h
   ·rename_i k
    subst k;cases h;obtain⟨I,y⟩:=K.obj _ _ q;have O:=y.flat (fun _ _ _ h=>by cases h);refine⟨rfl,fun c d=>?_⟩;simp only[ad]at d;simp only[fS,ad];obtain⟨h1,U,M⟩:=d;refine⟨h1,by have:=y.bx; rwa [O]at this,fun _=>?_⟩;rw[K.dy.ae _ I];exact M ⟨_,by rw[K.hH]; exact bu q,y.al⟩
   ·cases h
  ·rename_i l1 K1 ks1 rZ cl q
   split at h
   ·rename_i k
    subst k;cases h;obtain⟨I,y⟩:=K.obj _ _ q;have O:=y.flat (fun _ _ _ h=>by cases h);refine⟨rfl,fun c d=>?_⟩;simp only[ad]at d;simp only[fS,ad];obtain⟨h1,U,M⟩:=d;refine⟨h1,by have:=y.bx; rwa [O]at this,fun _=>?_⟩;rw[K.dy.ae _ I];exact M ⟨_,by rw[K.hH]; exact bu q,y.al⟩
   ·cases h
  ·cases h
 ·cases h; exact⟨rfl,fun c d=>by simp only[ad]at d; subst d; simp[fS,ad,G.iV]⟩
 ·split at h
  ·rename_i k
   obtain⟨rfl,k⟩:=k;cases h;refine⟨rfl,fun c d=>?_⟩;simp only[ad]at d;simp only[fS,ad];obtain⟨cs,r1,r2⟩:=d;exact⟨cs,r1,Oa K k _ r2⟩
  ·cases h
 ·cases h; exact⟨rfl,fun c d=>by simpa only[fS,ad]using d⟩
 ·cases h
def Ip(K:kG H e fz lens E E0):∀{q:List fQ} {as:List AV} {g:LG},iq H e fz q as=some (true,g)->∀(k:LG),
  g.length=rJ q/\as.length=q.length/\(ll lens q (g++k)).length=q.length /\
   (∀ cs,ax E as cs->ax E0 (ll lens q (g++k)) cs)/\∀ b o,E0.w.heap[b]? = E.w.heap[b]? -> cV E as b o->cV E0 (ll lens q (g++k)) b o
 | [],[],g,h,k=>by
  simp only[iq,bf,bo]at h;obtain⟨_,rfl⟩:=h;refine⟨rfl,rfl,rfl,fun cs d=>?_,fun b o _ d=>by simp[ll,cV]⟩;cases cs with
  |nil=>simp[ll,ax]
  |cons _ _=>simp[ax]at d
 | sh::q,a::as,g,h,k=>by
  simp only[iq]at h;split at h
  ·rename_i b M b' y h1 O
   simp only[bf,bo,aK]at h;obtain⟨⟨rfl,rfl⟩,rfl⟩:=h;obtain⟨p1,N⟩:=Ob K h1 (y++k);obtain⟨U,V,W,q5,q6⟩:=Ip K O k;have I:fB sh.sz (M++(y++k))=y++k:=by rw[<-p1]; exact rK M _
   refine⟨by simp only[rJ,fu,p1,U],by simp only[cn,V],?_,?_,?_⟩
   ·simp only[ll,gG,I,cn,W]
   ·intro cs d
    cases cs with
    |nil=>simp[ax]at d
    | cons c cs =>
     simp only[ax]at d;simp only[ll,gG,I,ax];exact⟨N c d.1,q5 cs d.2⟩
   ·intro b o hb d
    simp only[cV]at d;simp only[ll,gG,I,cV];obtain⟨⟨v,r1,r2,r3⟩,r4⟩:=d;exact⟨⟨v,by rw[World.vc hb]; exact r1,r2,N v r3⟩,q6 b (o+1) hb r4⟩
  ·cases h
 | [],_::_,_,h,_=>by simp[iq]at h
 |_::_,[],_,h,_=>by simp[iq]at h
def Oc(K:kG H e fz lens E E0){sh:Sh}{a:AV}{g:LG}(h:nH H e fz sh a=some (true,g))(d:LG) :
  g.length=sh.sz/\∀ c,ad E a c->ad E0 (tY lens sh (g++d)) c:=by
 cases sh with
 |s I=>exact Ob K h d
 | clo f caps =>
  cases a<;>simp only[nH]at h<;>try cases h
  rename_i M N;split at h
  ·rename_i q
   subst q;obtain⟨v,O,U,y,V⟩:=Ip K h d;refine⟨v,fun c k=>?_⟩;simp only[ad]at k;simp only[tY,ad];obtain⟨cs,r1,r2⟩:=k;exact⟨cs,r1,y _ r2⟩
  ·cases h
def zQ(K:kG H e fz lens E E0):∀{k:List Sh} {as:List AV} {g:LG},fT H e fz k as=some (true,g)->∀(d:LG),
  g.length=Il k/\as.length=k.length/\(im lens k (g++d)).length=k.length/\(∀ cs,ax E as cs->ax E0 (im lens k (g++d)) cs)
 | [],[],g,h,d=>by
  simp only[fT,bf,bo]at h;obtain⟨_,rfl⟩:=h;refine⟨rfl,rfl,rfl,fun cs q=>?_⟩;cases cs with
  |nil=>simp[im,ax]
  |cons _ _=>simp[ax]at q
 | sh::k,a::as,g,h,d=>by
  simp only[fT]at h;split at h
  ·rename_i b y b' v h1 M
   simp only[bf,bo,aK]at h;obtain⟨⟨rfl,rfl⟩,rfl⟩:=h;obtain⟨p1,N⟩:=Oc K h1 (v++d);obtain⟨O,U,V,W⟩:=zQ K M d;have I:fB sh.sz (y++(v++d))=v++d:=by rw[<-p1]; exact rK y _
   refine⟨by simp only[Il,fu,p1,O],by simp only[cn,U],by simp only[im,gG,I,cn,V],?_⟩;intro cs q;cases cs with
   |nil=>simp[ax]at q
   | cons c cs =>
    simp only[ax]at q;simp only[im,gG,I,ax];exact⟨N c q.1,W cs q.2⟩
  ·cases h
 | [],_::_,_,h,_=>by simp[fT]at h
 |_::_,[],_,h,_=>by simp[fT]at h
def Od(K:kG H e fz lens E E0):∀{I:List Sh} {as:List AV} {g:LG},fT H e fz I as=some (true,g)->∀{d:LG} {k:Nat} {x v:AV} {c:ao},
  as[k]? = some x->(im lens I (g++d))[k]? = some v->ad E x c->ad E0 v c
 | [],[],_,_,_,_,_,_,_,q,_,_=>by simp at q
 | sh::I,a::as,g,h,d,k,x,v,c,q,y,N=>by
  simp only[fT]at h;split at h
  ·rename_i b O b' M h1 U
   simp only[bf,bo,aK]at h;obtain⟨⟨rfl,rfl⟩,rfl⟩:=h;obtain⟨p1,V⟩:=Oc K h1 (M++d);have W:fB sh.sz (O++(M++d))=M++d:=by rw[<-p1]; exact rK O _
   simp only[im,gG,W]at y;cases k with
   | zero =>
    simp at q y;subst q;subst y;exact V c N
   |succ k=>exact Od K U (by simpa using q) (by simpa using y) N
  ·cases h
 | [],_::_,_,h,_,_,_,_,_,_,_,_=>by simp[fT]at h
 |_::_,[],_,h,_,_,_,_,_,_,_,_=>by simp[fT]at h
def Oe(K:kG H e fz lens E E0){sh:bX}{o:aw}{g:LG}(h:jQ H e fz sh o=some (true,g))(rest:LG)
  {j:Nat} (hj:j<e.aA.length) (hlab:∀ l,sh.lU=some l->E0.X.r l=E.X.r l) (ho:aZ E (e.at j) o.ar):aZ E0 j (gq lens sh (g++rest)).ar:=by
 have M:∀ b:Nat,E0.w.heap[b]? = E.w.heap[b]? := fun b=>by rw[K.dy.w]
 have O:=K.dy.ae j hj;unfold jQ at h;split at h
 ·split at h
  ·rename_i y
   cases h;have y:=Kd.je y;subst y;simp only[gq,aw.ar,aZ]at ho|-;rcases ho with⟨h1,d⟩|⟨b,m,h1,d,I,h4,h5⟩
   ·exact .inl ⟨by rw[O,h1],d⟩
   ·exact .inr ⟨b,m,by rw[O,h1],ve (M b) d,I,h4,kX K.dy.bU _ h4 (M b) h5⟩
  ·cases h
 ·rename_i shs cells
  obtain⟨q1,q2,q3,q5,q6⟩:=Ip K h rest;simp only[gq,aw.ar,aZ]at ho|-;obtain⟨b,n,h1,d,I⟩:=ho;exact⟨b,n,by rw[O,h1],by rw[q3,<-q2]; exact ve (M b) d,q6 b 0 (M b) I⟩
 ·split at h
  ·rename_i y
   cases h;simp only[aK]at y;have h1:=Ct.lP y.1;have d:=Ct.lP y.2;subst h1;subst d;simp only[gq,aw.ar,aZ]at ho|-;obtain⟨b,n,ms,h1,d,I⟩:=ho;refine⟨b,n,ms,by rw[O,h1],?_,kF K.dy.bU I⟩;rw[M b];simpa[G.iV]using d
  ·cases h
 ·rename_i l T B l' T' B' s
  split at h
  ·rename_i y
   cases h;simp only[aK]at y;obtain⟨h1,d,I⟩:=y;have h1:=bz h1;have d:=bz d;have I:=bz I;subst h1 d I;simp only[gq,aw.ar,aZ]at ho|-;obtain⟨b,n,p,v,k,q,U,V,W,g4,g5,g6⟩:=ho;have N:=hlab l rfl;exact⟨b,n,p,v,k,q,by rw[O,U],by rw[M b,V],W,by rw[N,g4],by rw[N]; exact g5,Gc (fun g m _=>M g) (by simpa[G.sV]using g6)⟩
  ·cases h
 ·rename_i l K0 ks l' K' ks' rZ clock
  split at h
  ·rename_i y
   cases h;simp only[aK]at y;obtain⟨h1,d,I⟩:=y;have h1:=bz h1;have d:=Ct.lP d;have I:=Kd.je I;subst h1 d I;simp only[gq,aw.ar,aZ]at ho|-;obtain⟨b,n,ms,U,V,W,g4⟩:=ho;have N:=hlab l rfl;refine⟨b,n,ms,by rw[O,U],?_,kF K.dy.bU W,yD (E:=E) (fun h g m hk=>⟨by rw[N]; exact hk,M g⟩) (fun _ _ _ _ _ b' hb2 hc hr2=>kX K.dy.bU _ hc hb2 hr2) g4⟩;rw[M b];simpa[G.iV]using V
  ·cases h
 ·rename_i l K0 KI VI l' K' KI' VI' rZ mem clock
  split at h
  ·rename_i y
   cases h;simp only[aK]at y;obtain⟨h1,d,I,h4⟩:=y;have h1:=bz h1;have d:=Ct.lP d;have I:=Ct.lP I;have h4:=Ct.lP h4;subst h1 d I h4;simp only[gq,aw.ar,aZ]at ho|-;obtain⟨b,n,ms,U,V,W,g4⟩:=ho;have N:=hlab l rfl;refine⟨b,n,ms,by rw[O,U],?_,kF K.dy.bU W,Ge N (fun _ b' _ _=>M b') (fun _ _ _=>kF K.dy.bU) g4⟩;rw[M b];simpa[G.iV]using V
  ·cases h
 ·rename_i l ks l' ks' n ms
  split at h
  ·rename_i y
   cases h;simp only[aK]at y;obtain⟨h1,d⟩:=y;have h1:=bz h1;have d:=Kd.je d;subst h1 d;simp only[gq,aw.ar,aZ]at ho|-;obtain⟨b,m,cs,el,U,V,W⟩:=ho;have N:=hlab l rfl;refine⟨b,m,cs,el,by rw[O,U],by rw[M b]; exact V,?_⟩;have:=Gg (E:=E) (E':=E0) N (fun _ b' _ _=>M b') (fun rZ _ b' hb2 hc hr2=>kX K.dy.bU rZ hc hb2 hr2) W;simpa[G.iV,G.rZ]using this
  ·cases h
 ·rename_i l K0 ks l' K' ks' rZ clock
  split at h
  ·rename_i y
   cases h;simp only[aK]at y;obtain⟨h1,d,I⟩:=y;have h1:=bz h1;have d:=Ct.lP d;have I:=Kd.je I;subst h1 d I;simp only[gq,aw.ar,aZ]at ho|-;obtain⟨b,n,ms,U,V,W,g4⟩:=ho;have N:=hlab l rfl;refine⟨b,n,ms,by rw[O,U],?_,kF K.dy.bU W,B6 (E:=E) (fun h g m hk=>⟨by rw[N]; exact hk,M g⟩) (fun _ _ _ _ _ _ b' hb2 hc hr2=>kX K.dy.bU _ hc hb2 hr2) g4⟩;rw[M b];simpa[G.iV]using V
  ·cases h
 ·cases h
end dy
def bX.up:bX->Nat
 |.vQ _ u=>u
 |_=>0
def Iq{H:List aw}{e:cz}{fz:Nat->Bool}{lens:eo}{sh:bX}{o:aw}{b:Bool}{g d:LG}(h:jQ H e fz sh o=some (b,g)) :
  o.ar.aV = some (wA o)/\(gq lens sh d).ar.aV = some sh.up/\((∀ ks v rZ,o≠.vQ ks v rZ)->sh.up=0):=by
 unfold jQ at h;split at h
 ·exact⟨rfl,rfl,fun hn=>(hn _ _ _ rfl).elim⟩
 ·exact⟨rfl,rfl,fun _=>rfl⟩
 ·exact⟨rfl,rfl,fun _=>rfl⟩
 ·exact⟨rfl,rfl,fun _=>rfl⟩
 ·exact⟨rfl,rfl,fun _=>rfl⟩
 ·exact⟨rfl,rfl,fun _=>rfl⟩
 ·exact⟨rfl,rfl,fun _=>rfl⟩
 ·exact⟨rfl,rfl,fun _=>rfl⟩
 ·cases h
def Zh{H:List aw}{e:cz}{fz:Nat->Bool}{sh:fQ}{a:AV}{b:Bool}{g:LG}(h:iL H e fz sh a=some (b,g)):g.length=sh.sz:=by
 unfold iL at h;split at h<;>(try split at h)<;>(try split at h)<;>(try split at h)<;>(try split at h)<;>first
  |(cases h; rfl)
  |cases h
def Of{H:List aw}{e:cz}{fz:Nat->Bool}:∀{d:List fQ} {as:List AV} {b:Bool} {g:LG},iq H e fz d as=some (b,g)->g.length=rJ d
 | [],[],_,g,h=>by simp[iq]at h; simp[<-h.2,rJ]
 | sh::d,a::as,b,g,h=>by
  simp only[iq]at h;split at h
  ·rename_i b q v y h1 k
   simp only[bf,bo]at h;obtain⟨_,rfl⟩:=h;simp only[rJ,fu,Zh h1,Of k]
  ·cases h
 | [],_::_,_,_,h|_::_,[],_,_,h=>by simp[iq]at h
def Zi{H:List aw}{e:cz}{fz:Nat->Bool}{sh:bX}{o:aw}{b:Bool}{g:LG}(h:jQ H e fz sh o=some (b,g)):g.length=sh.sz:=by
 unfold jQ at h;split at h
 ·split at h
  ·cases h; rfl
  ·cases h
 ·exact Of h
 ·split at h
  ·cases h; rfl
  ·cases h
 ·split at h
  ·cases h; rfl
  ·cases h
 ·split at h
  ·cases h; rfl
  ·cases h
 ·split at h
  ·cases h; rfl
  ·cases h
 ·split at h
  ·cases h; rfl
  ·cases h
 ·split at h
  ·cases h; rfl
  ·cases h
 ·cases h
def zR{H:List aw}{e:cz}{fz:Nat->Bool}:∀{os:List bX} {aA:List Nat} {g:LG},lW H e fz os aA=some (true,g)->∀(k:LG) (lens:eo),
  g.length=pr os/\aA.length=os.length/\(dI lens os (g++k)).length=os.length /\
  (∀ (j : Nat) (sh : bX), os[j]? = some sh -> ∃ i o q M, aA[j]? = some i /\ H[i]? = some o /\ jQ H e fz sh o = some (true, q) /\ (dI lens os (g ++ k))[j]? = some (gq lens sh (q ++ M)) /\
   (dJ os (g++k)).al j=sh.up/\∀ ks v rZ,o=.vQ ks v rZ->(dJ os (g++k)).len j=rZ.length)
 | [],[],g,h,k,lens=>by
  simp only[lW,bf,bo]at h;obtain⟨_,rfl⟩:=h;exact⟨rfl,rfl,rfl,fun j sh y=>by simp at y⟩
 | sh::os,i::aA,g,h,k,lens=>by
  simp only[lW]at h;split at h
  case h_2=>cases h
  rename_i o ho;split at h
  ·rename_i b q b' N h1 W
   simp only[bf,bo,aK]at h;obtain⟨⟨rfl,rfl⟩,rfl⟩:=h;obtain⟨q0,q1,q2,q3⟩:=zR W k lens;have O:=Zi h1;have I:fB sh.sz (q++(N++k))=N++k:=by rw[<-O]; exact rK q _
   refine⟨by simp only[pr,fu,O,q0],by simp only[cn,q1],by simp only[dI,gG,I,cn,q2],fun j U y=>?_⟩;cases j with
   | zero =>
    simp at y;subst y;refine⟨i,o,q,N++k,rfl,ho,h1,by simp only[dI,gG,List.getElem?_cons_zero],?_,?_⟩
    ·unfold dJ eo.al
     cases sh<;>rfl
    ·rintro ks v rZ rfl
     unfold jQ at h1;split at h1
     ·rename_i d
      cases d;split at h1
      ·cases h1
       simp[dJ,eo.len,G.rZ]
      ·cases h1
     ·rename_i d; cases d
     ·rename_i d; cases d
     ·rename_i d; cases d
     ·rename_i d; cases d
     ·rename_i d; cases d
     ·rename_i d; cases d
     ·rename_i d; cases d
     ·cases h1
   | succ j =>
    obtain⟨i',o',V,M,r1,r2,r3,r4,r5,r6⟩:=q3 j U (by simpa using y);refine⟨i',o',V,M,by simpa using r1,r2,r3,by simpa only[dI,gG,I,Vv]using r4,?_,?_⟩
    ·simpa only[dJ,eo.al,gG,I,amt]using r5
    ·simpa only[dJ,eo.len,gG,I,amt]using r6
  ·cases h
 | [],_::_,_,h,_,_=>by simp[lW]at h
 |_::_,[],_,h,_,_=>by simp[lW]at h
end Go.AL

namespace Go.AL
open Go
variable [Dr]
abbrev tZ(a b:Bool):Bool:=Bool.casesOn a false b
def t_{a b:Bool}:tZ a b=true↔a=true/\b=true:=by cases a<;>simp
open Classical in
noncomputable def qp(E:af)(H0:List ai)(l:Nat):List (Option (Option (Nat × Nat))):=if ∃(j:Nat) (o:ai),H0[j]? = some o/\o.label=some l then E.X.r l else (E.X.r l).map fun _=>none
def Zj{E:af}{H0:List ai}{l j:Nat}{o:ai}(h:H0[j]? = some o)(d:o.label=some l):qp E H0 l=E.X.r l:=iP ⟨j,o,h,d⟩
def Da{E:af}{H0:List ai}{l h:Nat}{q:Option (Nat × Nat)}(d:(qp E H0 l)[h]? = some (some q)):(E.X.r l)[h]? = some (some q)/\∃(j:Nat) (o:ai),H0[j]? = some o/\o.label=some l:=by
 unfold qp at d;split at d
 ·rename_i k
  exact⟨d,k⟩
 ·rw [bY] at d
  cases g:(E.X.r l)[h]? with
  |none=>rw[g]at d; cases d
  |some y=>rw[g]at d; cases d
def Zk(E:af)(H0:List ai)(l:Nat):(qp E H0 l).length=(E.X.r l).length:=by
 unfold qp;split
 ·rfl
 ·simp
noncomputable def kH(E:af)(H0:List ai)(aA:List Nat):af:=⟨E.w,H0,aA.map fun i=>E.ae.getD i none,E.X.re (qp E H0)⟩
def Og(E:af)(H0:List ai)(aA:List Nat):∀ l h,h<(E.X.r l).length->h<((kH E H0 aA).X.r l).length/\∀ q,((kH E H0 aA).X.r l)[h]? = some (some q)->(E.X.r l)[h]? = some (some q) :=
 fun l h d=>⟨by show h<(qp E H0 l).length; rw[Zk]; exact d,fun q g=>(Da (E:=E) (H0:=H0) g).1⟩
def Oh{E:af}{H0:List ai}{aA:List Nat}{b:Nat}(h:(kH E H0 aA).ab b):E.ab b:=by
 rcases h with⟨j,c,g⟩|⟨l,k,c,g⟩
 ·simp only [kH, bY] at g
  obtain⟨i,_,d⟩:=eL.1 g;rw[cd]at d;cases he:E.ae[i]? with
  |none=>rw[he]at d; cases d
  |some y=>rw[he]at d; simp at d; exact .inl ⟨i,c,by rw[he,d]⟩
 ·exact .inr ⟨l,k,c,(Da g).1⟩
def kI(aA:List Nat)(i:Nat):Bool := !aA.any (aG i)
def Oi{aA:List Nat}{i:Nat}(h:kI aA i=true):i∉aA:=by
 intro hm;have:aA.any (aG i)=true:=lG.2 ⟨i,hm,by simp⟩;simp[kI,this]at h
def Oj{E:af}{H:List aw}(hH:E.H=az H)(HE:aJ E){aA:List Nat}(hn:aA.Nodup){os:List bX}{g:LG}(h:lW H (cA H aA) (kI aA) os aA=some (true,g))(M:LG) :
  kG H (cA H aA) (kI aA) (dJ os (g++M)) E (kH E (az (dI (dJ os (g++M)) os (g++M))) aA) /\
   aJ (kH E (az (dI (dJ os (g++M)) os (g++M))) aA):=by
 obtain⟨p0,p1,p2,p3⟩:=zR h M (dJ os (g++M));generalize U:kH E (az (dI (dJ os (g++M)) os (g++M))) aA=E0;have hElen:E.ae.length=H.length:=by rw[HE.len,hH,fA]
 have eids:(cA H aA).aA=aA:=rfl;have hloc:∀ j x,E0.ae[j]? = some x->j<aA.length/\∃ i,aA[j]? = some i/\E.ae.getD i none=x:=by
  intro j x O;rw[<-U]at O;simp only[kH,bY]at O;obtain⟨i,h1,N⟩:=eL.1 O;exact⟨aY h1,i,h1,N⟩
 have getD_some:∀{i:Nat} {x:Nat × Nat},E.ae.getD i none=some x->E.ae[i]? = some (some x):=by
  intro i x O;rw[cd]at O;cases he:E.ae[i]? with
  |none=>rw[he]at O; cases O
  |some y=>rw[he]at O; simp at O; rw[O]
 have hown:∀ b,E0.ab b->E.ab b:=by
  rintro b (⟨j,c,I⟩|⟨l,k,c,I⟩)
  ·obtain ⟨_, i, _, N⟩ := hloc j _ I
   exact .inl ⟨i,c,getD_some N⟩
  ·rw [<- U] at I
   exact .inr ⟨l,k,c,(Da I).1⟩
 have hw:E0.w=E.w:=by rw[<-U]; rfl
 have hX:E0.X.x=E.X.x:=by rw[<-U]; rfl
 have hsome:∀(l k:Nat) q,(E0.X.r l)[k]? = some (some q)->(E.X.r l)[k]? = some (some q)/\∃(j:Nat) (o:ai),E0.H[j]? = some o/\o.label=some l:=fun l k q hq=>by
  rw[<-U]at hq|-;exact Da hq
 have hatl:∀ j,j<aA.length->aA[j]? = some ((cA H aA).at j):=fun j I=>jP (e:=cA H aA) I;have hobjs:∀ j,j<aA.length->∃ sh o W V,os[j]? = some sh/\H[(cA H aA).at j]? = some o/\jQ H (cA H aA) (kI aA) sh o=some (true,W) /\
   (dI (dJ os (g++M)) os (g++M))[j]? = some (gq (dJ os (g++M)) sh (W++V)) /\
   (dJ os (g++M)).al j=sh.up/\∀ ks v rZ,o=.vQ ks v rZ->(dJ os (g++M)).len j=rZ.length:=by
  intro j I;have hj':j<os.length:=by omega
  obtain⟨i,o,W,V,q1,q2,q3,q4,q5,q6⟩:=p3 j os[j] (bZ hj');rw[hatl j I]at q1;cases q1;exact⟨os[j],o,W,V,bZ hj',q2,q3,q4,q5,q6⟩
 have hK:kG H (cA H aA) (kI aA) (dJ os (g++M)) E E0:=by
  refine⟨hH,HE,fun i hi b n hb=>?_,⟨fun b hb=>⟨⟨by rw[hw]; exact hb.1,fun ho=>hb.2.1 (hown b ho),by rw[hX]; exact hb.2.2⟩,by rw[hw]⟩,hw,fun j I=>?_,fun j o l h1 N=>by rw[<-U]at h1|-; exact Zj h1 N⟩,fun j o ho=>?_⟩
  ·refine ⟨by rw [hw]; exact (HE.lt _ _ _ hb).1, ?_, by rw [hX]; exact (HE.lt _ _ _ hb).2⟩
   rintro(⟨j,c,I⟩|⟨l,k,c,I⟩)
   case inr=>exact HE.du _ _ _ _ _ _ hb (hsome l k _ I).1
   obtain⟨_,i',h1,N⟩:=hloc j _ I;have:=HE.inj _ _ _ _ _ hb (getD_some N);subst this;exact Oi hi (eS h1)
  ·rw [<- U]
   simp only[kH,bY,hatl j I,ff];have hlt:(cA H aA).at j<E.ae.length:=by
    obtain⟨sh,o,W,V,_,q2,_⟩:=hobjs j I;rw[hElen];exact aY q2
   rw[cd,bZ hlt];rfl
  ·have I:j<aA.length:=by
    rcases mo j aA.length with hlt|hge
    ·exact hlt
    ·have h1 := aY ho
     have N:=wy (e:=cA H aA) hge;have h3:(cA H aA).aN=H.length:=rfl;omega
   refine⟨I,?_⟩;obtain⟨sh,o',W,V,q1,q2,q3,q4,q5,q6⟩:=hobjs j I;rw[ho]at q2;cases q2;obtain⟨r1,r2,r3⟩:=Iq (lens:=dJ os (g++M)) (d:=W++V) q3;have hq4:E0.H[j]? = some (gq (dJ os (g++M)) sh (W++V)).ar:=by
    rw[<-U];exact bu q4
   exact⟨r1,⟨_,hq4,by rw[q5]; exact r2⟩,fun o0 h0=>by rw[hq4]at h0; cases h0; rw[Im,Io q3],q6,fun hv=>by rw[q5]; exact r3 hv⟩
 have hlabs:∀(j:Nat) o,E0.H[j]? = some o->j<aA.length/\∃ o',E.H[(cA H aA).at j]? = some o'/\o'.label=o.label:=fun j o ho=>by
  rw[<-U]at ho;simp only[kH,az,bY]at ho;obtain⟨o',h1,rfl⟩:=eL.1 ho;have I:j<aA.length:=by
   have:=aY h1;omega
  obtain⟨sh,oo,W,V,q1,q2,q3,q4,_⟩:=hobjs j I;rw[h1]at q4;cases q4;exact⟨I,oo.ar,by rw[hH]; exact bu q2,by rw[N' q3,wz]⟩
 refine⟨hK,?_,?_,?_,fun b O=>?_,fun j o ho=>?_,HE.gL.bU hK.dy.bU,fun l k l' k' b m n h1 N=>HE.fN l k l' k' b m n (hsome _ _ _ h1).1 (hsome _ _ _ N).1,fun i b m l k n hi N=>?_,fun l k b m h1=>by rw[hw,hX]; exact HE.cS l k b m (hsome _ _ _ h1).1,fun i j o o' l hi I h1 N=>?_,fun l hn k q hq=>?_⟩
 ·rw [<- U]
  simp only[kH,c8,fA,p2,p1]
 ·intro i j b m n hi I
  obtain⟨i1,i2,i3,i4⟩:=hloc i _ hi;obtain⟨j1,j2,j3,j4⟩:=hloc j _ I;have:=HE.inj _ _ _ _ _ (getD_some i4) (getD_some j4);subst this;exact(F0 i1 hn).1 (by rw[i3,j3])
 ·intro i b m hi
  obtain⟨_,i2,_,i4⟩:=hloc i _ hi;rw[hw,hX];exact HE.lt _ _ _ (getD_some i4)
 ·rw [hw]
  rw[hX]at O;exact HE.X b O
 ·rw [<- U] at ho
  simp only[kH,az,bY]at ho;obtain⟨o',h1,rfl⟩:=eL.1 ho;have I:j<aA.length:=by
   have:=aY h1;omega
  obtain⟨sh,oo,W,V,q1,q2,q3,q4,q5,q6⟩:=hobjs j I;rw[h1]at q4;cases q4;refine Oe hK q3 V (by exact I) (fun l hl=>?_) (HE.obj _ _ (by rw[hH]; exact bu q2));refine hK.dy.lU j (gq (dJ os (g++M)) sh (W++V)).ar l ?_ (by rw[wz,hl]);rw[<-U];exact bu h1
 ·obtain ⟨_, i', _, h3⟩ := hloc i _ hi
  exact HE.du _ _ _ _ _ _ (getD_some h3) (hsome _ _ _ N).1
 ·obtain ⟨i1, oi, a1, a2⟩ := hlabs i o hi
  obtain⟨j1,oj,b1,b2⟩:=hlabs j o' I;have:=HE.uniq _ _ _ _ l a1 b1 (by rw[a2,h1]) (by rw[b2,N]);exact(F0 i1 hn).1 (by rw[hatl i i1,hatl j j1,this])
 ·obtain ⟨_, j, o, h1, N⟩ := hsome l k q hq
  exact hn j o h1 N
def nodupB:List Nat->Bool
 | []=>true
 |i::d => !d.any (aG i)&&nodupB d
def wC:∀{l:List Nat},nodupB l=true->l.Nodup
 | [],_=>List.nodup_nil
 | i::d,h=>by
  simp only[nodupB,aK,sX]at h;refine pW.2 ⟨fun hm=>?_,wC h.2⟩;have:d.any (aG i)=true:=lG.2 ⟨i,hm,by simp⟩;rw[h.1]at this;cases this
def qs(H:List aw):Nat->Nat->List Nat->List bX->Bool
 |_,0,_,_=>true
 |i,m+1,id::aA,o::os=>aG id i&&((aG (wB H i) 0 || !aG o.up 0)&&qs H (i+1) m aA os)
 |_,_,_,_=>false
def Db{H:List aw}:∀{i m:Nat} {aA:List Nat} {os:List bX},qs H i m aA os=true->∀ j,j<m->aA[j]? = some (i+j)/\∃ o,os[j]? = some o/\(wB H (i+j)=0\/o.up≠0)
 |_,0,_,_,_,j,g=>by omega
 | i,m+1,id::aA,o::os,h,j,g=>by
  simp only[qs,aK,Bool.or_eq_true,sX]at h;obtain⟨h1,d,k⟩:=h;have h1:=bz h1;subst h1;cases j with
  | zero =>
   refine⟨rfl,o,rfl,?_⟩;rcases d with d|d
   ·exact .inl (bz d)
   ·right
    intro e;rw[e]at d;cases d
  | succ j =>
   have:=Db k j (by omega);rw[show id+1+j=id+(j+1) from by omega]at this;simpa using this
 |_,_+1,[],_,h,_,_=>by simp[qs]at h
 |_,_+1,_::_,[],h,_,_=>by simp[qs]at h
def Ol{E:af}{H:List aw}(hH:E.H=az H){aA:List Nat}{os:List bX}{m:Nat}{lens:eo}{E0:af}(M:kG H (cA H aA) (kI aA) lens E E0)(hX:E0.X.x=E.X.x/\E0.X.z=E.X.z)
  (hrl:∀ l h,h<(E.X.r l).length->h<(E0.X.r l).length/\∀ q,(E0.X.r l)[h]? = some (some q)->(E.X.r l)[h]? = some (some q))
  (hok:qs H 0 m aA os=true) (hobj:∀ j,j<m->∃ o sh,H[(cA H aA).at j]? = some o/\os[j]? = some sh/\lens.al j=sh.up) (hown:∀ b,E0.ab b->E.ab b):E.gC m E0:=by
 have key:∀ id,id<m->(cA H aA).at id=id/\∃ o sh,H[id]? = some o/\os[id]? = some sh/\lens.al id=sh.up/\(wA o=0\/sh.up≠0)/\C' E0 lens id o/\id<aA.length:=by
  intro id g;obtain⟨h1,o',V,N⟩:=Db hok id g;rw[cP]at h1 N;have U:=aY h1;have k:=jP (e:=cA H aA) (j:=id) U;rw[show (cA H aA).aA=aA from rfl,h1]at k;have k:=(g_ k).symm;obtain⟨o,sh,d,y,O⟩:=hobj id g;obtain⟨r1,r2⟩:=M.obj id o d;rw[k]at d;rw[V]at y;have y:=g_ y;rw[<-y]at O;refine⟨k,o,o',d,V,O,?_,r2,U⟩;rcases N with N|N
  ·left
   simpa[wB,d]using N
  ·exact .inr N
 refine⟨fun id g hp=>?_,by rw[M.dy.w]; exact aM _,fun b _ _=>by rw[M.dy.w],fun b _ hb ho=>hb (hown b ho),fun id g hp hl=>?_,fun b _=>by rw[hX.1,hX.2]; exact⟨Iff.rfl,Iff.rfl⟩,hrl,by rw[M.dy.w]; exact⟨rfl,rfl,rfl,by first|exact fun _=>aM _|exact fun _=>gY _ _⟩,fun id g l o h1 V _=>?_⟩
 rotate_right
 ·obtain ⟨k, o1, sh, d, y, O, W, I, U⟩ := key id g
  obtain⟨o0,r1,r2⟩:=I.obj;rw[hH,bu d]at h1;cases h1;have hm:=I.mm o0 r1;rw[V]at hm;exact⟨⟨[],by rw[da]; exact M.dy.lU id o0 l r1 (ai.og hm)⟩,o0,r1,hm⟩
 ·obtain ⟨_, o, sh, d, y, O, W, I, _⟩ := key id g
  obtain⟨o0,r1,r2⟩:=I.obj;exact⟨o0,r1,ai.F9 r2,fun v _=>eV v⟩
 ·obtain ⟨k, o, sh, d, y, O, W, I, U⟩ := key id g
  obtain⟨o0,r1,r2⟩:=I.obj;obtain⟨o1,r3,r4⟩:=hl;rw[r1]at r3;cases r3;rw[r2]at r4;have hz:lens.al id=0:=g_ r4;rw[O]at hz;have hv:wA o=0:=W.resolve_right (fun h=>h hz);refine⟨⟨o.ar,by rw[hH]; exact bu d,by rw[I.al,hv]⟩,?_⟩;have:=M.dy.ae id U;rw[k]at this;exact this
structure qt where
 n:Nat
 zT:List (Nat × Sh)
 c7:List bX
def wD:Nat->List (Nat × Sh)->List AV->AV
 | i,(j,_)::d,v::g=>match aG i j with
  |true=>v
  |false=>wD i d g
 |_,_,_=>.undef
def ct(S:qt)(d:LG):aH :=
 ⟨(fo S.n).map fun i=>wD i S.zT (im (dJ S.c7 d) (S.zT.map (·.2)) (fB (pr S.c7) d)),dI (dJ S.c7 d) S.c7 d⟩
def Ir(m:Nat)(S:qt)(aA:List Nat)(s:aH):Option (Bool × LG) :=
 match aG s.fr.length S.n&&(nodupB aA&&qs s.H 0 m aA S.c7)with
 |false=>none
 | true=>match lW s.H (cA s.H aA) (kI aA) S.c7 aA,fT s.H (cA s.H aA) (kI aA) (S.zT.map (·.2)) (S.zT.map fun p=>s.fr.getD p.1 .undef) with
  |some (b,g),some (d,h)=>some (b&&d,g++h)
  |_,_=>none
def Om{E:af}:∀{d:List (Nat × Sh)} {g:List AV} {cs:List ao} {i:Nat} {c:ao},(∀(k:Nat) (p:Nat × Sh) (v:AV),d[k]? = some p->g[k]? = some v->∀ c,cs[p.1]? = some c->ad E v c)->cs[i]? = some c ->
  ad E (wD i d g) c
 | [],_,_,_,_,_,_=>by simp[wD,ad]
 |_::_,[],_,_,_,_,_=>by simp[wD,ad]
 | (j,sh)::d,v::g,cs,i,c,h,q=>by
  simp only[wD];split
  ·rename_i e
   have e:=bz e;subst e;exact h 0 (i,sh) v rfl rfl c q
  ·exact Om (fun k p v y I=>h (k+1) p v (by simpa using y) (by simpa using I)) q
def Zl{m:Nat}{S:qt}{aA:List Nat}{s:aH}{d:LG}(h:Ir m S aA s=some (true,d)):bG m s.ar (ct S d).ar:=fun E a I=>by
 unfold Ir at h;split at h
 ·cases h
 rename_i q;simp only[aK]at q;obtain⟨U,M,V⟩:=q;have U:=bz U;have M:=wC M;split at h
 case h_2=>cases h
 rename_i b g b' y h1 h2;simp only[bf,bo,aK]at h;obtain⟨⟨rfl,rfl⟩,rfl⟩:=h;have hH:E.H=az s.H:=I.H;obtain⟨O,hHR⟩:=Oj hH I.heap M h1 y;obtain⟨p0,p1,p2,p3⟩:=zR h1 y (dJ S.c7 (g++y));have hd:fB (pr S.c7) (g++y)=y:=by rw[<-p0]; exact rK g y
 have hS:=zQ O h2 [];rw[da]at hS;obtain⟨q1,q2,q3,q4⟩:=hS;refine⟨aA.map fun i=>E.ae.getD i none,E.X.re (qp E (ct S (g++y)).ar.H),⟨rfl,?_,I.defers,hHR⟩,?_⟩
 ·have hfr : ax E s.fr a.tmps.toList := I.fr
  obtain⟨f1,f2⟩:=pZ.1 hfr;refine pZ.2 ⟨?_,fun i x c hi q=>?_⟩
  ·simp only [aH.ar, ct, c8, List.length_range]
   omega
  ·simp only [aH.ar, ct, hd, bY] at hi
   obtain⟨i',N,rfl⟩:=eL.1 hi;have hin:i<S.n:=by
    have:=aY N;simpa using this
   rw[List.getElem?_range hin]at N;cases N;refine Om (cs:=a.tmps.toList) (fun k p v hk hv c q=>?_) q;have hk2:(S.zT.map fun p=>s.fr.getD p.1 .undef)[k]? = some (s.fr.getD p.1 .undef):=by simp[hk]
   have hx:ad E (s.fr.getD p.1 .undef) c:=by
    have W:=aY q;rw[<-f1]at W;have e1:s.fr[p.1]? = some (s.fr.getD p.1 .undef):=by
     rw[cd,bZ W];rfl
    exact f2 p.1 _ c e1 q
   exact Od O h2 hk2 (by rw[da]; exact hv) hx
 ·exact Ol hH O ⟨rfl,rfl⟩ (Og E _ aA) V (fun j hj=>by
   obtain⟨r1,o',r2,_⟩:=Db V j hj;obtain⟨i,o,g1,rest1,t1,t2,t3,t4,t5,t6⟩:=p3 j o' r2;have hat:=jP (e:=cA s.H aA) (j:=j) (aY t1);rw[show (cA s.H aA).aA=aA from rfl,t1]at hat;cases hat;exact⟨o,o',t2,r2,t5⟩) (fun b=>Oh)
def Is(aq:Nat)(s:aH):aH :=
 match s.fr.getD aq .undef with
 | .vQ w id al oF n=>match s.H[id]? with
  |some (.vQ ks v rZ)=>if al=v/\oF=0/\w=ks.length then ⟨s.fr.set aq (.vQ w id (v+1) 0 n),s.H.set id (.vQ ks (v+1) (rZ.take n))⟩ else s
  |_=>s
 |_=>s
def Dc{E:af}{a:AV}:∀{fr:List AV} {cs:List ao} {i:Nat},ax E fr cs->(∀ c,cs[i]? = some c->ad E a c)->ax E (fr.set i a) cs
 | [],cs,i,h,_=>by simpa using h
 |x::fr,[],i,h,_=>by simp[ax]at h
 | x::fr,c::cs,0,h,ha=>by
  simp only[ax]at h;simp only[List.set_cons_zero,ax];exact⟨ha c rfl,h.2⟩
 | x::fr,c::cs,i+1,h,ha=>by
  simp only[ax]at h;simp only[List.set_cons_succ,ax];exact⟨h.1,Dc h.2 fun y d=>ha y (by simpa using d)⟩
def It{E:af}{fr:List AV}{cs:List ao}{i:Nat}{c:ao}(h:ax E fr cs)(g:cs[i]? = some c):ad E (fr.getD i .undef) c:=by
 obtain⟨h1,k⟩:=pZ.1 h;have d:=aY g;rw[<-h1]at d;have q:fr[i]? = some (fr.getD i .undef):=by
  rw[cd,bZ d];rfl
 exact k i _ c q g
def Zm{m:Nat}{aq:Nat}{s:aH}:bG m s.ar (Is aq s).ar:=by
 unfold Is;split
 case h_2=>exact bG.refl _
 rename_i w id al oF n hsl;split
 case h_2=>exact bG.refl _
 rename_i ks v rZ hid;split
 case isFalse=>exact bG.refl _
 rename_i M;obtain⟨rfl,rfl,rfl⟩:=M;intro E a d;have hH:E.H=az s.H:=d.H;have y:E.H[id]? = some (.vQ ks.length al (rZ.map (aX ks))):=by rw[hH]; exact bu hid
 have ho:=d.heap.obj id _ y;obtain⟨l,N⟩:∃ l,E.ae[id]? = some l:=by
  have:id<E.ae.length:=by rw[d.heap.len]; exact aY y
  exact⟨_,bZ this⟩
 have V:E.ae.set id l=E.ae:=ph N;have U:az (s.H.set id (.vQ ks (al+1) (rZ.take n)))=E.H.set id (.vQ ks.length (al+1) ((rZ.take n).map (aX ks))):=by rw[cQ,hH]; rfl
 have hlc:∀ b n,l=some (b,n)->E.w.heap.size<=b\/∃ m,E.ae[id]? = some (some (b,m)):=fun b n hb=>.inr ⟨n,by rw[N,hb]⟩;have W:∀ v u,(ai.vQ ks.length (al+1) ((rZ.take n).map (aX ks))).aV = some v->(ai.vQ ks.length al (rZ.map (aX ks))).aV = some u->u<=v:=by
  intro v u h1 k;simp[ai.aV]at h1 k;omega
 have hvr:∀ v,(ai.vQ ks.length (al+1) ((rZ.take n).map (aX ks))).aV = some v->∀ u,(ai.vQ ks.length al (rZ.map (aX ks))).aV = some u->u<v:=by
  intro v h1 u k;simp[ai.aV]at h1 k;omega
 have I:=af.lJ (o':=.vQ ks.length (al+1) ((rZ.take n).map (aX ks))) (l:=l) (w':=E.w) y d.heap.len (aM _) (fun _ _ _=>rfl) hlc (.inr hvr) W (fun _ h=>by simp[ai.aV]at h);have hHR:=aJ.nk (o':=.vQ ks.length (al+1) ((rZ.take n).map (aX ks))) (l:=l) (w':=E.w) d.heap y (aM _) (fun _ _ _=>rfl) (fun b n hb=>.inr ⟨n,by rw[N,hb]⟩) (.inr hvr) W (fun _ h=>by simp[ai.aV]at h) (by
  rw[V]at I|-;simp only[aZ]at ho|-;rcases ho with⟨h1,k⟩|⟨b,mm,h1,k,O,h4,h5⟩
  ·left
   refine⟨h1,?_⟩;have:rZ=[]:=by simpa using k
   rw[this];simp
  ·right
   refine⟨b,mm,h1,k,by simp at O|-; omega,?_,?_⟩
   ·intro r q
    obtain⟨g,_,rfl⟩:=dB.1 q;exact gJ ks g
   ·rw [om] at h5 |-
    intro i r hi;simp only[bY,oY]at hi;split at hi
    ·obtain ⟨g1, g2⟩ := h5 i r (by simpa using hi)
     exact⟨g1,B8 (fun a c q=>bD I a q) rfl g2⟩
    ·simp at hi)
 rw[V]at I hHR;refine⟨E.ae,E.X,?_,?_⟩
 ·simp only [aH.ar]
  rw[U];refine⟨rfl,?_,d.defers,hHR⟩;refine Dc (eh I _ d.fr) fun c M=>?_;have q:=It d.fr M;rw[show s.ar.fr=s.fr from rfl,hsl]at q;simp only[ad]at q|-;obtain⟨h1,k,O⟩:=q;exact⟨h1,⟨.vQ ks.length (al+1) ((rZ.take n).map (aX ks)),bB (aY y),rfl,fun v hv=>by simp[ai.aV]at hv; omega⟩,fun _=>O ⟨_,y,rfl⟩⟩
 ·simp only [aH.ar]
  rw[U];exact I.toM
end Go.AL

namespace Go.AL
open Go
variable [Dr]
def bh.leaf{β:Type}(f:cD->aH->Option (Bool × β)):bh->Option β
 |.fail=>none
 | .done x s=>match f x s with
  |some (b,r)=>bif b then some r else none
  |none=>none
 |.ask b t e=>bif b then t.leaf f else e.leaf f
 |.side b t=>bif b then t.leaf f else none
def rL{β:Type}{f:cD->aH->Option (Bool × β)}:∀{t:bh} {r:β},t.leaf f=some r->t.holds fun x s=>f x s=some (true,r)
 |.fail,_,h=>by cases h
 | .done x s,r,h=>by
  simp only[bh.leaf]at h;split at h
  ·rename_i b g d
   cases b with
   |true=>cases h; exact d
   |false=>cases h
  ·cases h
 | .ask b t e,r,h=>by
  cases b with
  |true=>exact⟨fun _=>rL (t:=t) h,fun h=>by cases h⟩
  |false=>exact⟨fun h=>(nomatch h),fun _=>rL (t:=e) h⟩
 | .side b t,r,h=>by
  cases b with
  |true=>exact And.intro rfl (rL (t:=t) h)
  |false=>cases h
inductive mI where
 |fix (i:Nat)
 |aq (i:Nat)
 |cap (i c:Nat)
 |cell (j c:Nat)
 |Iu (j c k:Nat)
def Dd:AV->Option Nat
 |.ptr id _ _ _ _=>some id
 |.vQ _ id _ _ _=>some id
 |.map id=>some id
 |_=>none
def De(H:List aw)(d:Nat->AV)(g:List Nat):mI->Option Nat
 |.fix i=>some i
 |.aq i=>Dd (d i)
 | .cap i c=>match d i with
  |.clo _ cs=>Dd (cs.getD c .undef)
  |_=>none
 | .cell j c=>match H[g.getD j 0]? with
  |some (.raw (.box cells))=>Dd (cells.getD c .undef)
  |_=>none
 | .Iu j c k=>match H[g.getD j 0]? with
  | some (.raw (.box cells))=>match cells.getD c .undef with
   |.clo _ cs=>Dd (cs.getD k .undef)
   |_=>none
  |_=>none
def lX(H:List aw)(g:Nat->AV):List mI->List Nat->Option (List Nat)
 | [],d=>some d
 | p::ps,d=>match De H g d p with
  |some i=>lX H g ps (d++[i])
  |none=>none
structure wE where
 x:cD
 S:qt
 ps:List mI
structure br where
 key:Nat
 opens:List (Nat × List Kd)
 inv:qt
 ps:List mI
 outs:List wE
 st:LG->Option (Option Nat × LG)
def ua(st:LG->Option (Option Nat × LG)):Nat->LG->Option (Nat × LG)
 |0,_=>none
 | n+1,d=>match st d with
  |some (none,g)=>ua st n g
  |some (some x,g)=>some (x,g)
  |none=>none
def bN(st:LG->Option (Option Nat × LG))(d:LG):Option (Nat × LG):=ua st 1000000 d
def Iv(r:Option (Nat × LG)):Nat:=match r with
 |some (x,_)=>x
 |none=>0
def Iw(r:Option (Nat × LG)):LG:=match r with
 |some (_,d)=>d
 |none=>[]
def nI(m:Nat)(S:qt)(ps:List mI)(s:aH):Option (Bool × LG) :=
 match lX s.H (fun i=>s.fr.getD i .undef) ps []with
 |some aA=>Ir m S aA s
 |none=>none
def qu{m:Nat}{S:qt}{ps:List mI}{s:aH}{d:LG}(h:nI m S ps s=some (true,d)):bG m s.ar (ct S d).ar:=by
 unfold nI at h;split at h
 ·exact Zl h
 ·cases h
def lY:List (Nat × List Kd)->aH->aH
 | [],s=>s
 | (i,ks)::r,s=>match dS 1000000 i with
  |true=>lY r (Is (i-1000000) s)
  | false=>match isNil (s.fr.getD i .undef) with
   |true=>lY r (zL i ks s)
   |false=>lY r s
def qv{m:Nat}:∀(l:List (Nat × List Kd)) (s:aH),bG m s.ar (lY l s).ar
 | [],s=>bG.refl _
 | (i,ks)::r,s=>by
  simp only[lY];split
  ·exact Zm.trans (qv r _)
  ·split
   ·rename_i h
    exact(NY h).trans (qv r _)
   ·exact qv r s
def ub(m:Nat):List wE->Nat->cD->aH->Option (Bool × (Option Nat × LG))
 | [],_,_,_=>none
 | o::os,i,x,s=>match decide (x=o.x) with
  | true=>match nI m o.S o.ps s with
   |some (b,d)=>some (b,(some i,d))
   |none=>none
  |false=>ub m os (i+1) x s
def Df(m:Nat)(sp:br)(x:cD)(s:aH):Option (Bool × (Option Nat × LG)) :=
 match x with
 | .normal=>match nI m sp.inv sp.ps s with
  |some (b,d)=>some (b,(none,d))
  |none=>none
 |x=>ub m sp.outs 0 x (lY sp.opens s)
def Dg{m:Nat}:∀{os:List wE} {i:Nat} {x:cD} {s:aH} {b:Bool} {k:Option Nat} {d:LG},ub m os i x s=some (b,(k,d)) ->
  ∃ j o,os[j]? = some o/\k=some (i+j)/\x=o.x/\nI m o.S o.ps s=some (b,d)
 | [],_,_,_,_,_,_,h=>by cases h
 | o::os,i,x,s,b,k,d,h=>by
  simp only[ub]at h;split at h
  ·rename_i g
   split at h
   ·rename_i M N q
    cases h;exact⟨0,o,rfl,rfl,of_decide_eq_true g,q⟩
   ·cases h
  ·obtain ⟨j, o', h1, v, y, I⟩ := Dg h
   exact⟨j+1,o',by simpa using h1,by rw[v]; congr 1; omega,y,I⟩
section loops
variable {P:aj} {τ:aD} {L:LT} {m:Nat} {c:Code} {sp:br}
def wF(P:aj)(τ:aD)(L:LT)(m:Nat)(c:Code)(sp:br):Prop:=∀ d,(il P τ L c (ct sp.inv d) .done).leaf (Df m sp)=sp.st d
def On(hm:P.follows .mixedOrders=true)(v:aI P τ)(y:aT P m L c)(I:wF P τ L m c sp){d q:LG}{k:Option Nat}(h:sp.st d=some (k,q)) :
  (k = none /\ en P m c (ct sp.inv d).ar .normal (ct sp.inv q).ar) \/
   ∃ j o,k=some j/\sp.outs[j]? = some o/\o.x≠.normal/\en P m c (ct sp.inv d).ar o.x (ct o.S q).ar:=by
 rw[<-I d]at h;obtain⟨x,s1,h1,g⟩:=nE hm v c (ct sp.inv d) .done y (Q:=fun x s=>Df m sp x s=some (true,(k,q))) (rL h);have g:Df m sp x s1=some (true,(k,q)):=g;unfold Df at g;split at g
 ·split at g
  ·rename_i b W M
   cases g;exact .inl ⟨rfl,vM h1 (qu M)⟩
  ·cases g
 ·rename_i N
  obtain⟨j,o,O,U,rfl,V⟩:=Dg g;exact .inr ⟨j,o,by simpa using U,O,fun e=>N e,vM h1 ((qv sp.opens s1).trans (qu V))⟩
def Oo(hm:P.follows .mixedOrders=true)(k:aI P τ)(q:aT P m L c)(v:wF P τ L m c sp):∀(n:Nat) {d y:LG} {x:Nat},ua sp.st n d=some (x,y) ->
  ∃ o,sp.outs[x]? = some o/\nt P m c (ct sp.inv d).ar o.x (ct o.S y).ar
 |0,_,_,_,h=>by cases h
 | n+1,d,y,x,h=>by
  simp only[ua]at h;split at h
  ·rename_i N h1
   rcases On hm k q v h1 with⟨_,O⟩|⟨_,_,g,_⟩
   ·obtain ⟨o, I, M⟩ := Oo hm k q v n h
    exact⟨o,I,.next O M⟩
   ·cases g
  ·rename_i V N h1
   cases h;rcases On hm k q v h1 with⟨g,_⟩|⟨j,o,g,I,M,U⟩
   ·cases g
   ·cases g
    exact⟨o,I,.stop U M⟩
  ·cases h
def zU(r:Option (Nat × LG)):List wE->Nat->bh
 | [],_=>.fail
 | [o],_=>.done o.x (ct o.S (Iw r))
 |o::os,i=>.ask (aG (Iv r) i) (.done o.x (ct o.S (Iw r))) (zU r os (i+1))
def Dh{x:Nat}{d:LG}{Q:cD->aH->Prop}:∀{os:List wE} {i j:Nat} {o:wE},os[j]? = some o->x=i+j->(zU (some (x,d)) os i).holds Q->Q o.x (ct o.S d)
 | [],_,_,_,h,_,_=>by simp at h
 | [o],i,j,o',h,k,g=>by
  cases j with
  | zero =>
   simp at h;subst h;exact g
  |succ j=>simp at h
 | o::o2::os,i,j,o',h,k,g=>by
  simp only[zU,bh.holds]at g;cases j with
  | zero =>
   simp at h;subst h;exact g.1 (by simp only[Iv]; rw[k]; simp)
  | succ j =>
   refine Dh (os:=o2::os) (i:=i+1) (j:=j) (by simpa using h) (by omega) (g.2 ?_);have:x≠i:=by omega
   exact amu.2 fun e=>this (bz e)
def Ix(m:Nat)(sp:br)(s:aH):Option bh :=
 match nI m sp.inv sp.ps (lY sp.opens s)with
 |some (b,d)=>some (.side (tZ b (bN sp.st d).isSome) (zU (bN sp.st d) sp.outs 0))
 |none=>none
def Zn(hm:P.follows .mixedOrders=true)(v:aI P τ)(y:aT P m L c)(I:wF P τ L m c sp){s:aH}{t:bh}(h:Ix m sp s=some t):NA P m c s t:=by
 unfold Ix at h;split at h
 case h_2=>cases h
 rename_i b d M;cases h;intro Q k;simp only[bh.holds,t_,aK]at k;obtain⟨⟨rfl,h1⟩,q⟩:=k;cases g:bN sp.st d with
 |none=>rw[g]at h1; cases h1
 | some r =>
  obtain⟨x,U⟩:=r;obtain⟨o,N,O⟩:=Oo hm v y I 1000000 g;exact⟨o.x,_,O.pre ((qv sp.opens s).trans (qu M)),Dh N (cP x).symm (by rw[g]at q; exact q)⟩
def LT.add(L:LT)(m:Nat)(sp:br):LT:=⟨fun k s=>match aG k sp.key with
 |true=>Ix m sp s
 |false=>L.loops k s,L.pre,L.zH⟩
def rM:∀{c:Code} {k:Nat} {g:Code},(k,g)∈cy c->∀ p,p∈cy g->p∈cy c
 | .seq a b,k,g,h,p,d=>by
  simp only[cy,db]at h|-;rcases h with h|h
  ·exact .inl (rM h p d)
  ·exact .inr (rM h p d)
 | .cond _ a b,k,g,h,p,d=>by
  simp only[cy,db]at h|-;rcases h with h|h
  ·exact .inl (rM h p d)
  ·exact .inr (rM h p d)
 | .block _ c,k,g,h,p,d=>by
  simp only[cy]at h|-;exact rM h p d
 | .loop c,k,g,h,p,d=>by
  simp only[cy]at h|-;split at h
  ·rename_i i hi
   rcases cq.1 h with e|h
   ·cases e
    exact dp _ d
   ·exact dp _ (rM h p d)
  ·exact rM h p d
 |.skip,_,_,h,_,_=>by simp[cy]at h
 |.region ..,_,_,h,_,_=>by simp[cy]at h
 |.exit _,_,_,h,_,_=>by simp[cy]at h
 |.ret,_,_,h,_,_=>by simp[cy]at h
 |.rangeFunc ..,_,_,h,_,_=>by simp[cy]at h
 |.scope _,_,_,h,_,_=>by simp[cy]at h
 |.label _,_,_,h,_,_=>by simp[cy]at h
 |.goto _,_,_,h,_,_=>by simp[cy]at h
 |.refuse _,_,_,h,_,_=>by simp[cy]at h
def rN:∀{c:Code} {k:Nat} {g:Code},(k,g)∈cy c->∀ p,p∈cC g->p∈cC c
 | .seq a b,k,g,h,p,d=>by
  simp only[cy,cC,db]at h|-;rcases h with h|h
  ·exact .inl (rN h p d)
  ·exact .inr (.inr (rN h p d))
 | .cond _ a b,k,g,h,p,d=>by
  simp only[cy,cC,db]at h|-;rcases h with h|h
  ·exact .inl (rN h p d)
  ·exact .inr (rN h p d)
 | .block _ c,k,g,h,p,d=>by
  simp only[cy,cC]at h|-;exact rN h p d
 | .loop c,k,g,h,p,d=>by
  simp only[cy,cC]at h|-;split at h
  ·rename_i i hi
   rcases cq.1 h with e|h
   ·cases e
    exact d
   ·exact rN h p d
  ·exact rN h p d
 |.skip,_,_,h,_,_=>by simp[cy]at h
 |.region ..,_,_,h,_,_=>by simp[cy]at h
 |.exit _,_,_,h,_,_=>by simp[cy]at h
 |.ret,_,_,h,_,_=>by simp[cy]at h
 |.rangeFunc ..,_,_,h,_,_=>by simp[cy]at h
 |.scope _,_,_,h,_,_=>by simp[cy]at h
 |.label _,_,_,h,_,_=>by simp[cy]at h
 |.goto _,_,_,h,_,_=>by simp[cy]at h
 |.refuse _,_,_,h,_,_=>by simp[cy]at h
def rO:∀{c:Code} {k:Nat} {g:Code},(k,g)∈cC c->∀ p,p∈cy g->p∈cy c
 | .seq a b,k,g,h,p,d=>by
  simp only[cy,cC,db]at h|-;rcases h with h|h|h
  ·exact .inl (rO h p d)
  ·right
   split at h
   ·rcases cq.1 h with e | h
    ·cases e
     exact d
    ·cases h
   ·cases h
  ·exact .inr (rO h p d)
 | .cond _ a b,k,g,h,p,d=>by
  simp only[cy,cC,db]at h|-;rcases h with h|h
  ·exact .inl (rO h p d)
  ·exact .inr (rO h p d)
 | .block _ c,k,g,h,p,d=>by
  simp only[cy,cC]at h|-;exact rO h p d
 | .loop c,k,g,h,p,d=>by
  simp only[cC]at h;have:=rO h p d;simp only[cy];split
  ·exact dp _ this
  ·exact this
 |.skip,_,_,h,_,_=>by simp[cC]at h
 |.region ..,_,_,h,_,_=>by simp[cC]at h
 |.exit _,_,_,h,_,_=>by simp[cC]at h
 |.ret,_,_,h,_,_=>by simp[cC]at h
 |.rangeFunc ..,_,_,h,_,_=>by simp[cC]at h
 |.scope _,_,_,h,_,_=>by simp[cC]at h
 |.label _,_,_,h,_,_=>by simp[cC]at h
 |.goto _,_,_,h,_,_=>by simp[cC]at h
 |.refuse _,_,_,h,_,_=>by simp[cC]at h
def rP:∀{c:Code} {k:Nat} {g:Code},(k,g)∈cC c->∀ p,p∈cC g->p∈cC c
 | .seq a b,k,g,h,p,d=>by
  simp only[cC,db]at h|-;rcases h with h|h|h
  ·exact .inl (rP h p d)
  ·right
   right;split at h
   ·rcases cq.1 h with e | h
    ·cases e
     exact d
    ·cases h
   ·cases h
  ·exact .inr (.inr (rP h p d))
 | .cond _ a b,k,g,h,p,d=>by
  simp only[cC,db]at h|-;rcases h with h|h
  ·exact .inl (rP h p d)
  ·exact .inr (rP h p d)
 | .block _ c,k,g,h,p,d=>by
  simp only[cC]at h|-;exact rP h p d
 | .loop c,k,g,h,p,d=>by
  simp only[cC]at h|-;exact rP h p d
 |.skip,_,_,h,_,_=>by simp[cC]at h
 |.region ..,_,_,h,_,_=>by simp[cC]at h
 |.exit _,_,_,h,_,_=>by simp[cC]at h
 |.ret,_,_,h,_,_=>by simp[cC]at h
 |.rangeFunc ..,_,_,h,_,_=>by simp[cC]at h
 |.scope _,_,_,h,_,_=>by simp[cC]at h
 |.label _,_,_,h,_,_=>by simp[cC]at h
 |.goto _,_,_,h,_,_=>by simp[cC]at h
 |.refuse _,_,_,h,_,_=>by simp[cC]at h
def be(fn:Func):Code:=match fn.body with
 |some c=>c
 |none=>.skip
def Zo{fn:Func} (hn:nodupB ((cy (be fn)).map (·.1))=true) {k:Nat} {d:Code} (h:(k,d)∈cy (be fn)):d=zM fn k:=by
 have key:∀(l:List (Nat × Code)),(l.map (·.1)).Nodup->(k,d)∈l->l.find? (fun p=>aG p.1 k)=some (k,d):=by
  intro l
  induction l with
  |nil=>intro _ h; cases h
  | cons p l v =>
   intro g hm;simp only[dC,pW]at g;rcases cq.1 hm with rfl|hm
   ·simp
   ·have q:p.1≠k:=by
     intro e;exact g.1 (dB.2 ⟨(k,d),hm,e.symm⟩)
    have:aG p.1 k=false:=amu.2 fun e=>q (bz e);rw[K4 (by simp[this])];exact v g.2 hm
 unfold zM;unfold be at hn h;split
 ·rename_i c hb
  rw[hb]at hn h;simp only[]at hn h;rw[key _ (wC hn) h]
 ·rename_i hb
  rw[hb]at h;simp[cy]at h
def aT.add(hm:P.follows .mixedOrders=true)(v:aI P τ){fn:Func} (hn:nodupB ((cy (be fn)).map (·.1))=true) (h:aT P m L (be fn)) (q:wF P τ L m (zM fn sp.key) sp) :
  aT P m (L.add m sp) (be fn):=by
 refine⟨fun k y g s t d=>?_,h.2⟩;simp only[LT.add]at d;split at d
 ·rename_i e
  have e:=bz e;subst e;have I:=Zo hn g;rw[<-I]at q;exact Zn hm v (h.sub (rM g) (rN g)) q d
 ·exact h.1 k y g s t d
def fU(fn:Func)(k:Nat):Code:=match fn.body with
 | some c=>match (cC c).find? fun p=>aG p.1 k with
  |some (_,b)=>b
  |none=>.skip
 |none=>.skip
def qw(k:Nat):List (Nat × Code)->Bool
 | []=>true
 | p::l=>match aG p.1 k with
  |true => !l.any (fun q=>aG q.1 k)
  |false=>qw k l
def Oq{k:Nat}{g:Code}:∀{l:List (Nat × Code)},qw k l=true->(k,g)∈l->l.find? (fun p=>aG p.1 k)=some (k,g)
 | [],_,h=>by cases h
 | p::l,ho,hm=>by
  simp only[qw]at ho;cases d:aG p.1 k with
  | true =>
   rw[d]at ho;simp only[sX]at ho;rcases cq.1 hm with rfl|hm
   ·rw[List.find?_cons_of_pos (by simp)]
   ·have : l.any (fun q => aG q.1 k) = true := lG.2 ⟨(k, g), hm, by simp⟩
    rw[this]at ho;cases ho
  | false =>
   rw[d]at ho;rcases cq.1 hm with rfl|hm
   ·simp at d
   ·rw [K4 (by simp [d])]
    exact Oq ho hm
def Ot{fn:Func}{k:Nat}{d:Code} (hn:qw k (cC (be fn))=true) (h:(k,d)∈cC (be fn)):d=fU fn k:=by
 unfold fU;unfold be at hn h;split
 ·rename_i c hb
  rw[hb]at hn h;simp only[]at hn h;rw[Oq hn h]
 ·rename_i hb
  rw[hb]at h;simp[cC]at h
def cW(r:Option (Option Nat × LG)):Option (Nat × LG):=match r with
 |some (some x,d)=>some (x,d)
 |_=>none
def zV(m:Nat)(sp:br)(s:aH):Option bh :=
 match nI m sp.inv sp.ps (lY sp.opens s)with
 |some (b,d)=>some (.side (tZ b (cW (sp.st d)).isSome) (zU (cW (sp.st d)) sp.outs 0))
 |none=>none
def uc(P:aj)(τ:aD)(L:LT)(m:Nat)(c:Code)(sp:br):Prop:=∀ d,(il P τ L c (ct sp.inv d) .done).leaf (ub m sp.outs 0)=sp.st d
def Zp(hm:P.follows .mixedOrders=true)(N:aI P τ)(O:aT P m L c)(q:uc P τ L m c sp){s:aH}{t:bh}(h:zV m sp s=some t):H6 P m c s t:=by
 unfold zV at h;split at h
 case h_2=>cases h
 rename_i b d U;cases h;intro Q v;simp only[bh.holds,t_,aK]at v;obtain⟨⟨rfl,h1⟩,y⟩:=v;cases g:sp.st d with
 |none=>rw[g]at h1; cases h1
 | some r =>
  obtain⟨k,I⟩:=r;cases k with
  |none=>rw[g]at h1; cases h1
  | some i =>
   rw[<-q d]at g;obtain⟨x,s1,V,W⟩:=nE hm N c (ct sp.inv d) .done O (Q:=fun x s=>ub m sp.outs 0 x s=some (true,(some i,I))) (rL g);obtain⟨j,o,q1,M,q3,q4⟩:=Dg W;simp only[bf,cP]at M;subst M;rw[q d]at g;rw[g]at y;refine⟨o.x,(ct o.S I),?_,Dh q1 (cP i).symm y⟩;rw[<-q3];exact vL ((qv sp.opens s).trans (qu U)) (vM V (qu q4))
def LT.fl(L:LT)(m:Nat)(sp:br):LT:=⟨L.loops,L.pre,fun k s=>match aG k sp.key with
 |true=>zV m sp s
 |false=>L.zH k s⟩
def aT.fl(hm:P.follows .mixedOrders=true)(v:aI P τ){fn:Func} (hn:qw sp.key (cC (be fn))=true) (g:aT P m L (be fn)) (q:uc P τ L m (fU fn sp.key) sp) :
  aT P m (L.fl m sp) (be fn):=by
 refine⟨g.1,g.2.1,fun k y h s t d=>?_⟩;simp only[LT.fl]at d;split at d
 ·rename_i e
  have e:=bz e;subst e;have I:=Ot hn h;rw[<-I]at q;exact Zp hm v (g.sub (rO h) (rP h)) q d
 ·exact g.2.2 k y h s t d
end loops
structure aL where
 f:bP
 args:List Sh
 c7:List bX
 ps:List mI
 res:List Sh
 iM:List bX
 Zq:List mI
 opens:List (Nat × List Kd)
 F:LG->Option LG
def aL.gE(sp:aL)(d:LG):List AV:=im (dJ sp.c7 d) sp.args (fB (pr sp.c7) d)
def aL.H0(sp:aL)(d:LG):List aw:=dI (dJ sp.c7 d) sp.c7 d
def aL.out(sp:aL)(r:LG):AV:=fH (im (dJ sp.iM r) sp.res (fB (pr sp.iM) r))
def aL.H1(sp:aL)(r:LG):List aw:=dI (dJ sp.iM r) sp.iM r
def zW(P:aj)(rs:List ResultVar)(sp:aL)(x:cD)(s:aH):Option (Bool × LG) :=
 match x with
 |.exit _=>none
 | _=>(fun s=>match oB P s.ar rs with
  |none=>none
  | some d=>match lX s.H (fun i=>d.getD i .undef) sp.Zq [] with
   |none=>none
   | some aA=>match nodupB aA&&qs s.H 0 sp.c7.length aA sp.iM with
    |false=>none
    | true=>match lW s.H (cA s.H aA) (kI aA) sp.iM aA,fT s.H (cA s.H aA) (kI aA) sp.res d with
     |some (b,g),some (h,k)=>some (b&&h,g++k)
     |_,_=>none) (lY sp.opens s)
def rQ(P:aj)(τ:aD)(L:LT)(fn:Func)(sp:aL):Prop :=
 ∀ d,(il P τ L (be fn) ⟨rh (sp.gE d) fn.ntmps,sp.H0 d⟩ .done).leaf (zW P fn.results.toList sp)=sp.F d
def oL(os:List bX):Bool:=os.all fun o=>aG o.up 0
def Ou:∀{os:List bX} (lens:eo) (d:LG),oL os=true->ML (az (dI lens os d))
 | [],_,_,_=>by intro o ho; simp[dI,az]at ho
 | o::os,lens,d,h=>by
  simp only[oL,oa,aK]at h;intro x g;simp only[dI,az,dC,cq]at g;rcases g with rfl|g
  ·cases o with
   | vQ ks u =>
    have:u=0:=bz h.1;subst this;rfl
   |box _=>rfl
   |map _ _=>rfl
   |gy _ _ _=>rfl
   |a7 _ _ _=>rfl
   |mm _ _ _ _=>rfl
   |cM _ _=>rfl
   |bJ _ _ _=>rfl
  ·exact Ou lens _ h.2 x g
def Iy(lens:eo):∀(os:List bX) (d:LG),(dI lens os d).length=os.length
 | [],_=>rfl
 |_::os,d=>by simp[dI,Iy lens os]
def Zr{P:aj}{sp:aL}{fn:Func}(hf:P.funcs[sp.f]? = some fn)(hb:fn.body.isSome=true)
  (hfr:oL sp.c7=true) {d r:LG} {x:cD} {s0:aH} (h1:en P sp.c7.length (be fn) (aH.ar ⟨rh (sp.gE d) fn.ntmps,sp.H0 d⟩) x s0.ar) (k:zW P fn.results.toList sp x s0=some (true,r)) :
  fO P sp.f (sp.gE d) (az (sp.H0 d)) (sp.out r) (az (sp.H1 r)):=by
 have hbody:fn.body=some (be fn):=by
  unfold be;cases N:fn.body with
  |none=>rw[N]at hb; cases hb
  |some c=>rfl
 have h1:=vM h1 (qv sp.opens s0);generalize hs':lY sp.opens s0=s' at h1;have hxx:(x=.normal\/x=.ret)/\∃ I aA g q,oB P s'.ar fn.results.toList=some I/\(nodupB aA&&qs s'.H 0 sp.c7.length aA sp.iM)=true /\
   lW s'.H (cA s'.H aA) (kI aA) sp.iM aA=some (true,g)/\fT s'.H (cA s'.H aA) (kI aA) sp.res I=some (true,q)/\g++q=r:=by
  have k:zW P fn.results.toList sp x s0=some (true,r):=k;unfold zW at k;split at k
  ·cases k
  ·rename_i N
   simp only[hs']at k;refine⟨by cases x with|normal=>exact .inl rfl|ret=>exact .inr rfl|exit i=>exact(N i rfl).elim,?_⟩;split at k
   ·cases k
   ·rename_i I hvs
    split at k
    ·cases k
    ·rename_i aA hids
     split at k
     ·cases k
     ·rename_i y
      split at k
      ·rename_i b g b' q V q2
       simp only[bf,bo,aK]at k;obtain⟨⟨rfl,rfl⟩,rfl⟩:=k;exact⟨I,aA,g,q,hvs,y,V,q2,rfl⟩
      ·cases k
 obtain⟨N,I,aA,g,q,hvs,y,V,q2,rfl⟩:=hxx;simp only[aK]at y;intro E O hH HE hargs;refine MV hf hbody ?_;have hfe:=MX HE;have hargs0:=tG hfe _ hargs;have hrel:dX ⟨rh (sp.gE d) fn.ntmps,az (sp.H0 d)⟩ { E with X:=⟨E.X.x,fun _=>False,E.X.r⟩ } { tmps:=O++Array.replicate (fn.ntmps-O.size) undef,defers:=[] }:=by
  refine⟨hH,?_,Gj _ _,HE.jy hfe⟩;simp only[rh,Array.toList_append,Array.toList_replicate];refine pe hargs0 ?_;have:=jZ hargs;have e:(sp.gE d).length=O.size:=by simpa using this
  rw[e];have:=Hh (E:={ E with X:=⟨E.X.x,fun _=>False,E.X.r⟩ }) (List.replicate (fn.ntmps-O.size) undef);simpa using this
 refine wpIn_mono (h1 none (MN _) { E with X:=⟨E.X.x,fun _=>False,E.X.r⟩ } _ hrel) fun e a1 w0 ⟨h3,loc',X',M,W⟩=>?_;refine⟨by subst h3; rcases N with rfl|rfl; exact .inl rfl; exact .inr rfl,X',M.defers,fun w1 k1 k2 k3=>?_⟩;obtain⟨M,W⟩:=MW HE M W k1 k2 k3;obtain⟨us,g1,g2⟩:=Hg M fn.results.toList I hvs;have hres:(results fn a1.tmps).run P w1=.ok (if h:us.toArray.size=1 then us.toArray[0] else .tuple us.toArray) w1:=by
  rw[MS];simp only[Sem.run_bind];rw[Array.mapM_eq_mapM_toList,Sem.run_map,g1];rfl
 generalize U:({ w:=w1,H:=s'.ar.H,ae:=loc',X:=E.X.re X'.r }:af)=v at M W g1 g2;have hH1:v.H=az s'.H:=by rw[<-U]; rfl
 obtain⟨hK,hHR⟩:=Oj hH1 M.heap (wC y.1) V q;obtain⟨p0,p1,p2,p3⟩:=zR V q (dJ sp.iM (g++q));have hd:fB (pr sp.iM) (g++q)=q:=by rw[<-p0]; exact rK g q
 have hS:=zQ hK q2 [];rw[da]at hS;have hrl:=hS.2.2.2 us g2;have hleM:=Ol (m:=sp.c7.length) hH1 hK ⟨rfl,rfl⟩ (Og v _ aA) y.2 (fun j hj=>by
  obtain⟨r1,o',r2,_⟩:=Db y.2 j hj;obtain⟨i,o,g1,rest1,t1,t2,t3,t4,t5,t6⟩:=p3 j o' r2;have hat:=jP (e:=cA s'.H aA) (j:=j) (aY t1);rw[show (cA s'.H aA).aA=aA from rfl,t1]at hat;cases hat;exact⟨o,o',t2,r2,t5⟩) (fun b=>Oh)
 have hle:E.le (kH v (az (dI (dJ sp.iM (g++q)) sp.iM (g++q))) aA) :=
  (W.trans hleM).full (by rw[<-U]; exact⟨rfl,rfl⟩) (by rw[hH,fA]; simp only[aL.H0,Iy]; exact aM _) (by rw[hH]; exact Ou _ _ hfr)
 have hw1:v.w=w1:=by rw[<-U]
 have hX1:∀ r,v.X.re r=E.X.re r:=fun r=>by rw[<-U]; rfl
 refine⟨_,hres,_,_,_,rfl,⟨rfl,rfl⟩,aA.map (fun i=>v.ae.getD i none),qp v (az (dI (dJ sp.iM (g++q)) sp.iM (g++q))),?_,?_,?_⟩
 ·have := NV hrl
  simp only[aL.out,aL.H1,hd];simpa only[kH,hw1,hX1]using this
 ·simpa only[kH,hw1,hX1,aL.H1]using hHR
 ·simpa only[kH,hw1,hX1,aL.H1]using hle
def Di{P:aj}{τ:aD}{L:LT}(hm:P.follows .mixedOrders=true)(k:aI P τ){sp:aL}{fn:Func}(q:P.funcs[sp.f]? = some fn)(hb:fn.body.isSome=true)
  (v:aT P sp.c7.length L (be fn)) (hB:rQ P τ L fn sp) (g:oL sp.c7=true) {d r:LG} (h:sp.F d=some r) :
  fO P sp.f (sp.gE d) (az (sp.H0 d)) (sp.out r) (az (sp.H1 r)):=by
 rw[<-hB d]at h;obtain⟨x,s0,h1,y⟩:=nE hm k (be fn) _ .done v (Q:=fun x s=>zW P fn.results.toList sp x s=some (true,r)) (rL h);exact Zr q hb g h1 y
abbrev iO(P:aj)(sp:aL):Prop:=∀ d r,sp.F d=some r->fO P sp.f (sp.gE d) (az (sp.H0 d)) (sp.out r) (az (sp.H1 r))
def lZ{P:aj}{τ:aD}{L:LT}(hm:P.follows .mixedOrders=true)(g:aI P τ){sp:aL}{fn:Func}(k:P.funcs[sp.f]? = some fn)(hb:fn.body.isSome=true)
  (q:aT P sp.c7.length L (be fn)) (hB:rQ P τ L fn sp) (d:oL sp.c7=true):iO P sp:=fun _ _ h=>Di hm g k hb q hB d h
def zX:fQ->Bool
 |.int _ | .str | .bool | .list _ | .tV _ | .row _ | .cptr _ | .nil | .any | .C9 _ | .fn _ | .addr | .Ik=>true
 |_=>false
def Dj:Sh->Bool
 |.s a=>zX a
 |.clo _ caps=>caps.all zX
def Ov{lens:eo}{a:fQ}{d:LG}(h:zX a=true):(fS lens a d).closed=true:=by
 cases a<;>simp only[zX]at h<;>first
  |(cases h; done)
  |rfl
  |(simp only[fS,AV.closed,gJ]; done)
def Ow{lens:eo}:∀{as:List fQ} {d:LG},(as.all zX)=true->AV.bM (ll lens as d)=true
 | [],_,_=>rfl
 | a::as,d,h=>by
  simp only[oa,aK]at h;simp only[ll,AV.bM,Ov h.1,Ow h.2,yw]
def Dk{lens:eo}:∀{as:List Sh} {d:LG},(as.all Dj)=true->AV.bM (im lens as d)=true
 | [],_,_=>rfl
 | a::as,d,h=>by
  simp only[oa,aK]at h;simp only[im,AV.bM,Dk h.2,gX];cases a with
  |s a=>exact Ov h.1
  |clo f caps=>simp only[tY,AV.closed]; exact Ow h.1
def Zs{d:List AV}(h:AV.bM d=true):(fH d).closed=true:=by
 cases d with
 |nil=>rfl
 | cons v d =>
  cases d with
  |nil=>simpa[fH,AV.bM]using h
  |cons g d=>simpa only[fH,AV.closed]using h
def kJ(E:af):af:={ w:=E.w,H:=[],ae:=[],X:=(E.X.or E.ab).re fh }
def Zt{E:af}(x:Nat):¬ (kJ E).ab x:=by rintro(⟨id,c,d⟩|⟨l,k,c,g⟩); simp[kJ]at d; simp[kJ,fh]at g
def Ox{E:af}:E.bU (kJ E):=⟨fun b hb=>⟨⟨hb.1,Zt b,fun d=>d.elim hb.2.2 hb.2.1⟩,rfl⟩⟩
def Zu{E:af}:(kJ E).bU E:=⟨fun b hb=>⟨⟨hb.1,fun ho=>hb.2.2 (Or.inr ho),fun d=>hb.2.2 (Or.inl d)⟩,rfl⟩⟩
def Zv{E:af}(HE:aJ E):aJ (kJ E):=by
 refine⟨rfl,?_,?_,?_,?_,HE.gL.bU Ox,fun l k l' h b m n d=>by simp[kJ,fh]at d,fun i b m l k n hi=>by simp[kJ]at hi,fun l k b m d=>by simp[kJ,fh]at d,fun i j o o' l hi=>by simp[kJ]at hi,fun l _ k q d=>by simp[kJ,fh]at d⟩
 ·intro i j b m n hi; simp[kJ]at hi
 ·intro i b m hi; simp[kJ]at hi
 ·rintro b (g | ho)
  ·exact HE.X b g
  ·exact(HE.B7 ho).1
 ·intro i o hi; simp[kJ]at hi
def Zw{E:af}(HE:aJ E):kG [] (cA [] []) (fun _=>false) [] (kJ E) (kJ E):=by
 exact { hH:=rfl,HE:=Zv HE,free:=fun _ h=>(nomatch h),dy:=⟨fun b hb=>⟨hb,rfl⟩,rfl,fun j d=>absurd d (Nat.not_lt_zero _),fun _ _ _ _ _=>rfl⟩,obj:=fun j o ho=>by simp at ho }
def Zx{E:af}(HE:aJ E):∀{d:List Sh} {as:List AV} {g:LG},(d.all Dj)=true->fT [] (cA [] []) (fun _=>false) d as=some (true,g)->∀(V:LG) (cs:List ao),ax E as cs ->
  ax E (im [] d (g++V)) cs:=by
 have one0:∀{sh:fQ} {a:AV} {b:Bool} {g:LG},iL [] (cA [] []) (fun _=>false) sh a=some (b,g)->a.closed=true\/sh=.any:=by
  intro sh a b g h;unfold iL at h;split at h
  ·exact .inl rfl
  ·exact .inl rfl
  ·exact .inl rfl
  ·split at h
   ·rename_i ha
    left;unfold qo at ha;split at ha<;>first|rfl|cases ha
   ·split at h
    ·simp at h
    ·cases h
  ·split at h
   ·rename_i ha
    left;rw[N0 ha];simp only[AV.closed,gJ]
   ·cases h
  ·exact .inl rfl
  ·simp at h
  ·exact .inl rfl
  ·exact .inr rfl
  ·exact .inl rfl
  ·simp at h
  ·simp at h
  ·simp at h
  ·simp at h
  ·split at h
   ·rename_i ha
    left;unfold qo at ha;split at ha<;>first|rfl|cases ha
   ·split at h
    ·simp at h
    ·cases h
  ·simp at h
  ·exact .inl rfl
  ·rename_i f js f' U
   split at h
   ·rename_i y
    left;cases js with
    | nil=>cases U with
     |nil=>rfl
     |cons _ _=>simp[nG]at y
    | cons j js=>cases U with
     |nil=>simp[nG]at y
     |cons v U=>cases v<;>simp[nG]at y
   ·cases h
  ·exact .inl rfl
  ·cases h
 have oneL:∀{d:List fQ} {as:List AV} {b:Bool} {g:LG},iq [] (cA [] []) (fun _=>false) d as=some (b,g)->∀(cs:List ao),ax E as cs ->
   ∃ k,iq [] (cA [] []) (fun _=>false) d k=some (b,g)/\AV.bM k=true/\ax E k cs:=by
  intro d
  induction d with
  | nil =>
   intro as b g h cs q;cases as with
   |nil=>exact⟨[],h,rfl,q⟩
   |cons _ _=>simp[iq]at h
  | cons sh d W =>
   intro as b g h cs q;cases as with
   |nil=>simp[iq]at h
   | cons a as =>
    cases cs with
    |nil=>simp[ax]at q
    | cons c cs =>
     simp only[ax]at q;simp only[iq]at h;split at h
     ·rename_i b1 g1 b2 g2 h1 O
      cases h;obtain⟨k,I,M,N⟩:=W O cs q.2;rcases one0 h1 with y|rfl
      ·exact⟨a::k,by simp only[iq,h1,I],by simp only[AV.bM,y,M,yw],by simp only[ax]; exact⟨q.1,N⟩⟩
      ·have e:iL [] (cA [] []) (fun _=>false) .any .undef=some (b1,g1):=by
        have:iL [] (cA [] []) (fun _=>false) .any a=some (true,[]):=by cases a<;>rfl
        rw[this]at h1;exact h1
       exact⟨.undef::k,by simp only[iq,e,I],by simp only[AV.bM,M]; rfl,by simp only[ax,ad]; exact⟨trivial,N⟩⟩
     ·cases h
 have oneS:∀{d:List Sh} {as:List AV} {b:Bool} {g:LG},fT [] (cA [] []) (fun _=>false) d as=some (b,g)->∀(cs:List ao),ax E as cs ->
   ∃ k,fT [] (cA [] []) (fun _=>false) d k=some (b,g)/\AV.bM k=true/\ax E k cs:=by
  intro d
  induction d with
  | nil =>
   intro as b g h cs q;cases as with
   |nil=>exact⟨[],h,rfl,q⟩
   |cons _ _=>simp[fT]at h
  | cons sh d W =>
   intro as b g h cs q;cases as with
   |nil=>simp[fT]at h
   | cons a as =>
    cases cs with
    |nil=>simp[ax]at q
    | cons c cs =>
     simp only[ax]at q;simp only[fT]at h;split at h
     ·rename_i b1 g1 b2 g2 h1 O
      cases h;obtain⟨k,I,M,N⟩:=W O cs q.2;cases sh with
      | s sh0 =>
       simp only[nH]at h1;rcases one0 h1 with y|rfl
       ·exact⟨a::k,by simp only[fT,nH,h1,I],by simp only[AV.bM,y,M,yw],by simp only[ax]; exact⟨q.1,N⟩⟩
       ·have e:iL [] (cA [] []) (fun _=>false) .any .undef=some (b1,g1):=by
         have:iL [] (cA [] []) (fun _=>false) .any a=some (true,[]):=by cases a<;>rfl
         rw[this]at h1;exact h1
        exact⟨.undef::k,by simp only[fT,nH,e,I],by simp only[AV.bM,M]; rfl,by simp only[ax,ad]; exact⟨trivial,N⟩⟩
      | clo f caps =>
       cases a<;>simp only[nH]at h1<;>try cases h1
       rename_i f' U;split at h1
       ·rename_i hf
        subst hf;have hx:=q.1;simp only[ad]at hx;obtain⟨us,e1,e2⟩:=hx;obtain⟨vs',l1,l2,l3⟩:=oneL h1 _ e2;exact⟨.clo f vs'::k,by simp only[fT,nH,if_true,l1,I],by simp only[AV.bM,AV.closed,l2,M,yw],
         by simp only[ax,ad]; exact⟨⟨us,e1,l3⟩,N⟩⟩
       ·cases h1
     ·cases h
 intro d as g hcl h V cs q;obtain⟨k,h1,O,h3⟩:=oneS h cs q;have h4:=qT Ox k O h3;have h5:=(zQ (Zw HE) h1 V).2.2.2 cs h4;exact qT Zu _ (Dk hcl) h5
def aD.bk(τ:aD)(sp:aL):aD where
 pf g:=match aG g sp.f with
  |true=>true
  |false=>τ.pf g
 T g as:=match aG g sp.f with
  | true=>match fT [] (cA [] []) (fun _=>false) sp.args as with
   |some (b,d)=>some (tZ b (sp.F d).isSome,fH (im [] sp.res ((sp.F d).getD [])))
   |none=>τ.T g as
  |false=>τ.T g as
 W:=τ.W
 C:=τ.C
 I:=τ.I
 N:=τ.N
 U:=τ.U
def zY(sp:aL):Bool:=(sp.args.all Dj)&&((sp.res.all Dj)&&(sp.c7.isEmpty&&sp.iM.isEmpty))
def aI.bk{P:aj}{τ:aD}(h:aI P τ){sp:aL}(hb:iJ P sp.f=true)(M:zY sp=true)
  (hc:∀ d r,sp.F d=some r->fO P sp.f (sp.gE d) (az (sp.H0 d)) (sp.out r) (az (sp.H1 r))):aI P (τ.bk sp):=by
 simp only[zY,aK,List.isEmpty_iff]at M;obtain⟨y,hp2,hp3,hp4⟩:=M;refine⟨fun g as b v k q=>?_,h.W,h.C,h.I,h.F⟩;simp only[aD.bk]at k;split at k
 ·rename_i e
  have e:=bz e;subst e;split at k
  ·rename_i b' d hr
   simp only[bf,bo]at k;obtain⟨h1,rfl⟩:=k;subst h1;simp only[t_]at q;obtain⟨rfl,N⟩:=q;refine⟨hb,?_⟩;cases O:sp.F d with
   |none=>rw[O]at N; cases N
   | some r =>
    have U:=hc d r O;simp only[aL.gE,aL.H0,aL.out,aL.H1,hp3,hp4,dI,dJ,pr,fB]at U;have:=Xx U (Dk y) (Zs (Dk hp2));intro H E V hH HE hargs;exact this H E V hH HE (by
     have:=Zx HE y hr [] _ hargs
     rwa [da]at this)
  ·exact h.T _ as b v k q
 ·exact h.T g as b v k q
end Go.AL

namespace Go.AL
open Go
variable [Dr]
def Kd.c6:List Kd->Bool
 | []=>true
 |.list _::_=>false
 |_::ks=>Kd.c6 ks
def Ct.bQ:Ct->Bool
 |.one k=>Kd.c6 [k]
 |.agg ks=>Kd.c6 ks
def wG:fQ->Bool
 |.row ks=>Kd.c6 ks
 |.list _ | .tV _ | .cptr _=>false
 |_=>true
def Oy:Sh->Bool
 |.s a=>wG a
 |.clo _ caps=>caps.all wG
def Oz:bX->Bool
 |.vQ ks _=>Kd.c6 ks
 |.box cells=>cells.all wG
 |.map K V=>K.bQ&&V.bQ
 |.gy _ _ _=>true
 |.a7 _ _ _=>false
 |.mm _ K d g=>K.bQ&&(d.bQ&&g.bQ)
 |.cM _ _=>false
 |.bJ _ _ _=>false
def mJ(sp:aL):Bool:=(sp.res.all Oy)&&(sp.iM.all Oz)
def Dl:∀{ks:List Kd} (r:LG),Kd.c6 ks=true->AV.c6 (aX ks r)=true
 | [],_,_=>rfl
 |.list _::_,_,h=>by simp[Kd.c6]at h
 | .int _::ks,r,h | .str::ks,r,h | .bool::ks,r,h=>by
  simp only[Kd.c6]at h;simp only[aX,AV.c6,Dl r.tail h,gX];rfl
def Ct.zZ{K:Ct}(r:LG)(h:K.bQ=true):(K.av r).bQ=true:=by
 cases K with
 | one k =>
  simp only[Ct.bQ]at h;cases k<;>first
   |rfl
   |(simp[Kd.c6]at h; done)
 |agg ks=>simp only[Ct.av,AV.bQ]; exact Dl r h
def OA:∀ d:List Nat,AV.c6 (tX d)=true
 | []=>rfl
 |j::d=>by simp only[tX,AV.c6,OA d,gX]; rfl
def OB{lens:eo}{a:fQ}{d:LG}(h:wG a=true):(fS lens a d).bQ=true:=by
 cases a<;>simp only[wG]at h<;>first
  |(cases h; done)
  |(simp only[fS,AV.bQ]; exact Dl _ h)
  |rfl
  |(simp only[fS,AV.bQ]; exact OA _)
def Iz{lens:eo}:∀{as:List fQ} {d:LG},(as.all wG)=true->AV.c6 (ll lens as d)=true
 | [],_,_=>rfl
 | a::as,d,h=>by
  simp only[oa,aK]at h;simp only[ll,AV.c6,OB h.1,Iz h.2,yw]
def OC{lens:eo}:∀{as:List Sh} {d:LG},(as.all Oy)=true->AV.c6 (im lens as d)=true
 | [],_,_=>rfl
 | a::as,d,h=>by
  simp only[oa,aK]at h;simp only[im,AV.c6,OC h.2,gX];cases a with
  |s a=>exact OB h.1
  |clo f caps=>simp only[tY,AV.bQ]; exact Iz h.1
def Zy{d:List AV}(h:AV.c6 d=true):(fH d).bQ=true:=by
 cases d with
 |nil=>rfl
 | cons v d =>
  cases d with
  |nil=>simpa[fH,AV.c6]using h
  |cons g d=>simpa only[fH,AV.bQ]using h
def OD{lens:eo}:∀{os:List bX} {d:LG},(os.all Oz)=true->((az (dI lens os d)).all ai.bQ)=true
 | [],_,_=>rfl
 | o::os,d,h=>by
  simp only[oa,aK]at h;have k:=OD (lens:=lens) (d:=fB o.sz d) h.2;simp only[dI,az,dC,oa,aK];refine⟨?_,by simpa only[az]using k⟩;cases o with
  | vQ ks u =>
   simp only[gq,aw.ar,ai.bQ,dN,dB];rintro r ⟨g,_,rfl⟩;exact Dl g h.1
  |box cells=>simp only[gq,aw.ar,ai.bQ]; exact Iz h.1
  | map K V =>
   have h1:(K.bQ&&V.bQ)=true:=h.1;simp only[aK]at h1;simp only[gq,aw.ar,ai.bQ,dQ,dN,dB];rintro x ⟨g,_,rfl⟩;simp only[Ct.zZ _ h1.1,Ct.zZ _ h1.2,yw]
  |gy l T B=>rfl
  |a7 l K ks=>cases h.1
  |cM l ks=>cases h.1
  |bJ l K ks=>cases h.1
  | mm l K v I =>
   have h1:(K.bQ&&(v.bQ&&I.bQ))=true:=h.1;simp only[aK]at h1;simp only[gq,aw.ar,ai.bQ,kB,rk,dQ,aK,dN,dB];refine⟨?_,?_⟩
   ·rintro x ⟨g, _, rfl⟩
    exact Ct.zZ _ h1.1
   ·rintro x ⟨g, _, rfl⟩ y M
    obtain⟨q,_,rfl⟩:=dB.1 M;simp only[Ct.zZ _ h1.2.1,Ct.zZ _ h1.2.2,and_self]
def aw.cG(e:cz)(j:Nat):aw->aw
 |.vQ ks v rZ=>.vQ ks (v+e.up j) rZ
 |.raw o=>.raw (o.cG e j)
 |.map K V rZ c=>.map K V rZ c
 |.a7 l K ks rZ c=>.a7 l K ks rZ c
 |.mm l K d g rZ mem c=>.mm l K d g rZ mem c
 |.cM l ks n h=>.cM l ks n h
 |.bJ l K ks rZ c=>.bJ l K ks rZ c
def z_(e:cz):Nat->List aw->List aw
 |_,[]=>[]
 |j,o::os=>o.cG e j::z_ e (j+1) os
def oM(e:cz)(H H1:List aw):List aw:=fI H e.aA (z_ e 0 H1)++(z_ e 0 H1).drop e.aA.length
def Zz(e:cz)(j:Nat)(o:aw):(o.cG e j).ar=o.ar.cG e j:=by
 cases o<;>rfl
def OE(e:cz):∀(j:Nat) (os:List aw),az (z_ e j os)=nF e j (az os)
 |_,[]=>rfl
 | j,o::os=>by
  simp only[z_,az,dC,nF,Zz];have:=OE e (j+1) os;simp only[az]at this;rw[this]
def OF{α β:Type}(f:α->β):∀(d:List Nat) (l g:List α),(fI l d g).map f=fI (l.map f) d (g.map f)
 | [],_,_=>by simp[fI]
 |_::_,_,[]=>by simp[fI]
 |i::d,l,x::g=>by simp[fI,OF f d,List.map_set]
def ZA(e:cz)(H H1:List aw):az (oM e H H1)=pq e (az H) (az H1):=by
 unfold oM pq;rw[<-OE];simp only[az,List.map_append,OF,List.map_drop]
def nJ(e:cz):Nat->List bX->Bool
 |_,[]=>true
 |j,.vQ _ _::os=>nJ e (j+1) os
 |j,_::os=>aG (e.up j) 0&&nJ e (j+1) os
def qx{e:cz}{lens:eo}:∀{j:Nat} {os:List bX} {d:LG},nJ e j os=true->kE e j (az (dI lens os d))=true
 |_,[],_,_=>rfl
 | j,.vQ ks u::os,d,h=>by
  simp only[nJ]at h;have:=qx (lens:=lens) (d:=fB (bX.vQ ks u).sz d) h;simp only[dI,az,dC,kE,aK];exact⟨rfl,by simpa only[az]using this⟩
 | j,.box cells::os,d,h=>by
  simp only[nJ,aK]at h;have:=qx (lens:=lens) (d:=fB (bX.box cells).sz d) h.2;simp only[dI,az,dC,kE,aK];exact⟨h.1,by simpa only[az]using this⟩
 | j,.map K V::os,d,h=>by
  simp only[nJ,aK]at h;have:=qx (lens:=lens) (d:=fB (bX.map K V).sz d) h.2;simp only[dI,az,dC,kE,aK];exact⟨h.1,by simpa only[az]using this⟩
 | j,.gy l T B::os,d,h=>by
  simp only[nJ,aK]at h;have:=qx (lens:=lens) (d:=fB (bX.gy l T B).sz d) h.2;simp only[dI,az,dC,kE,aK];exact⟨h.1,by simpa only[az]using this⟩
 | j,.a7 l K ks::os,d,h=>by
  simp only[nJ,aK]at h;have:=qx (lens:=lens) (d:=fB (bX.a7 l K ks).sz d) h.2;simp only[dI,az,dC,kE,aK];exact⟨h.1,by simpa only[az]using this⟩
 | j,.mm l K g k::os,d,h=>by
  simp only[nJ,aK]at h;have:=qx (lens:=lens) (d:=fB (bX.mm l K g k).sz d) h.2;simp only[dI,az,dC,kE,aK];exact⟨h.1,by simpa only[az]using this⟩
 | j,.cM l ks::os,d,h=>by
  simp only[nJ,aK]at h;have:=qx (lens:=lens) (d:=fB (bX.cM l ks).sz d) h.2;simp only[dI,az,dC,kE,aK];exact⟨h.1,by simpa only[az]using this⟩
 | j,.bJ l K ks::os,d,h=>by
  simp only[nJ,aK]at h;have:=qx (lens:=lens) (d:=fB (bX.bJ l K ks).sz d) h.2;simp only[dI,az,dC,kE,aK];exact⟨h.1,by simpa only[az]using this⟩
def wH(S:Bool)(aA:List Nat)(i:Nat):Bool:=match S with
 |true=>kI aA i
 |false=>false
def rR(sp:aL)(as:List AV)(H:List aw):Option (Bool × AV × List aw) :=
 match lX H (fun i=>as.getD i .undef) sp.ps []with
 |none=>none
 | some aA=>match nodupB aA&&nJ (cA H aA) 0 sp.iM with
  |false=>none
  | true=>match lW H (cA H aA) (wH (mJ sp) aA) sp.c7 aA,fT H (cA H aA) (wH (mJ sp) aA) sp.args as with
   |some (b,g),some (h,d)=>some (tZ (b&&h) (sp.F (g++d)).isSome,(sp.out ((sp.F (g++d)).getD [])).cG (cA H aA),oM (cA H aA) H (sp.H1 ((sp.F (g++d)).getD [])))
   |_,_=>none
def qy:List mI->Nat->Bool
 | [],_=>true
 |.cell j _::ps,n=>dq j n&&qy ps (n+1)
 |.Iu j _ _::ps,n=>dq j n&&qy ps (n+1)
 |_::ps,n=>qy ps (n+1)
def OG{H:List aw}{k:Nat->AV}:∀{ps:List mI} {d aA:List Nat},lX H k ps d=some aA->∀ x∈d,x∈aA
 | [],d,aA,h,x,g=>by cases h; exact g
 | p::ps,d,aA,h,x,g=>by
  unfold lX at h;split at h
  ·exact OG h x (oe _ g)
  ·cases h
def OH{H:List aw}{g:Nat->AV}{id:Nat}{o:aw}:∀{ps:List mI} {acc aA:List Nat},qy ps acc.length=true->lX H g ps acc=some aA->id∉aA->lX (H.set id o) g ps acc=some aA
 | [],acc,aA,_,h,_=>h
 | p::ps,acc,aA,d,h,q=>by
  unfold lX at h|-;split at h
  ·rename_i i hi
   have y:=OG h;have get:∀ j,j<acc.length->(H.set id o)[acc.getD j 0]? = H[acc.getD j 0]? := fun j v=>by
    refine bg fun e=>q ?_;rw[e,cd,bZ v];exact y _ (oe _ (u7 v))
   have e:De (H.set id o) g acc p=some i/\qy ps (acc++[i]).length=true:=by
    rw[fu];cases p with
    |fix _=>exact⟨hi,d⟩
    |aq _=>exact⟨hi,d⟩
    |cap _ _=>exact⟨hi,d⟩
    | cell j c =>
     simp only[qy,aK,iZ]at d;refine⟨?_,d.2⟩;simp only[De]at hi|-;rw[get j d.1];exact hi
    | Iu j c k =>
     simp only[qy,aK,iZ]at d;refine⟨?_,d.2⟩;simp only[De]at hi|-;rw[get j d.1];exact hi
   rw[e.1];exact OH e.2 h q
  ·cases h
section ZB
variable {H:List aw} {e:cz} {id:Nat} {o:aw} (he:∀ j,e.at j≠id)
include he
theorem OI:∀(d:List Nat) (g:List AV),nG (H.set id o) e d g=nG H e d g
 | [],[]=>rfl
 | [],_::_=>rfl
 |_::_,[]=>rfl
 | j::d,v::g=>by
  have q:=OI d g;cases v<;>try rfl
  rename_i i al k row c;simp only[nG,q];by_cases hi:i=id
  ·subst hi
   have h:aG i (e.at j)=false:=by
    cases hb:aG i (e.at j)with
    |false=>rfl
    |true=>exact absurd (bz hb).symm (he j)
   simp only[h,Bool.false_and];cases (H.set i o)[i]? <;> cases H[i]? <;> (repeat' split)<;>rfl
  ·rw[bg (Ne.symm hi)]
theorem OJ:∀(sh:fQ) (a:AV),iL (H.set id o) e (fun _=>false) sh a=iL H e (fun _=>false) sh a:=by
 have d:∀{i:Nat},i≠id->(H.set id o)[i]? = H[i]? := fun h=>bg (Ne.symm h);have g:∀ j,¬ (id=e.at j):=fun j h=>he j h.symm;intro sh a;cases a with
 | vQ w i al oF n =>
  by_cases hi:i=id
  ·subst hi
   cases sh<;>(try rfl)<;>simp only[iL,qo,lz,and_false,if_false,g,false_and]<;>(repeat' split)<;>(first|rfl|simp_all)
  ·cases sh<;>(try rfl)<;>simp only[iL,d hi]
 | ptr i al k row I =>
  by_cases hi:i=id
  ·subst hi
   cases sh<;>(try rfl)<;>simp only[iL,qo,lz,and_false,if_false,g,false_and]<;>(repeat' split)<;>(first|rfl|simp_all)
  ·cases sh<;>(try rfl)<;>simp only[iL,d hi]
 | map i =>
  by_cases hi:i=id
  ·subst hi
   cases sh<;>(try rfl)<;>simp only[iL,qo,lz,and_false,if_false,g,false_and]<;>(repeat' split)<;>(first|rfl|simp_all)
  ·cases sh<;>(try rfl)<;>simp only[iL,d hi]
 | clo f y =>
  cases sh<;>(try rfl)
  ·cases y<;>rfl
  ·simp only[iL,OI he]
 | lit v =>
  cases sh<;>(try rfl)<;>cases v<;>(try rfl)
  ·rename_i b n c
   cases b<;>cases n<;>cases c<;>rfl
  ·rename_i q
   cases q with
   |none=>rfl
   | some q =>
    obtain⟨b,o',w⟩:=q;cases o'<;>cases w<;>rfl
 |_=>cases sh<;>rfl
theorem IA:∀(d:List fQ) (as:List AV),iq (H.set id o) e (fun _=>false) d as=iq H e (fun _=>false) d as
 | [],[]=>rfl
 | [],_::_=>rfl
 |_::_,[]=>rfl
 |sh::d,a::as=>by simp only[iq,OJ he sh a,IA d as]
theorem ZC(sh:Sh)(a:AV):nH (H.set id o) e (fun _=>false) sh a=nH H e (fun _=>false) sh a:=by
 cases sh with
 |s x=>simp only[nH,OJ he]
 | clo f caps =>
  cases a with
  |clo g d=>simp only[nH,IA he]
  |_=>rfl
theorem OK:∀(d:List Sh) (as:List AV),fT (H.set id o) e (fun _=>false) d as=fT H e (fun _=>false) d as
 | [],[]=>rfl
 | [],_::_=>rfl
 |_::_,[]=>rfl
 |sh::d,a::as=>by simp only[fT,ZC he sh a,OK d as]
theorem ZD(sh:bX)(t:aw):jQ (H.set id o) e (fun _=>false) sh t=jQ H e (fun _=>false) sh t:=by
 cases sh with
 | box d =>
  cases t with
  |raw x=>cases x<;>simp only[jQ,IA he]
  |_=>rfl
 | gy l T B =>
  cases t with
  |raw x=>cases x<;>rfl
  |_=>rfl
 |_=>cases t<;>rfl
theorem OL:∀(os:List bX) (d:List Nat),id∉d->lW (H.set id o) e (fun _=>false) os d=lW H e (fun _=>false) os d
 | [],[],_=>rfl
 | [],_::_,_=>rfl
 |_::_,[],_=>rfl
 | sh::os,i::d,h=>by
  have h1:id≠i:=fun e=>h (by rw[e]; exact cX);simp only[lW,bg h1,ZD he,OL os d fun hm=>h (dp _ hm)]
end ZB
def OM{α:Type}{i:Nat}{x:α}:∀(d:List Nat) (l g:List α),i∉d->fI (l.set i x) d g=(fI l d g).set i x
 | [],_,_,_=>by simp[fI]
 |_::_,_,[],_=>by simp[fI]
 | j::d,l,y::g,h=>by
  have h1:i≠j:=fun e=>h (by rw[e]; exact cX);simp only[fI];rw[List.set_comm _ _ h1];exact OM d _ _ fun hm=>h (dp _ hm)
def ZE{H:List aw}{aA:List Nat}{id:Nat}{o:aw}(h:id∉aA):cA (H.set id o) aA=cA H aA:=by
 unfold cA;rw[List.length_set];congr 1;refine List.map_congr_left fun i hi=>?_;unfold wB;rw[bg fun e=>h (by rw[e]; exact hi)]
def ZF{sp:aL}(M:mJ sp=false)(N:qy sp.ps 0=true){as:List AV}{H H':List aw}{b:Bool}{v:AV}(h:rR sp as H=some (b,v,H')){id:Nat}{o:aw}(q:id<H.length)
  (y:∀ aA,lX H (fun i=>as.getD i .undef) sp.ps []=some aA->id∉aA) :
  rR sp as (H.set id o)=some (b,v,H'.set id o)/\∃ aA,lX H (fun i=>as.getD i .undef) sp.ps []=some aA/\lX (H.set id o) (fun i=>as.getD i .undef) sp.ps []=some aA:=by
 unfold rR at h|-;split at h
 ·cases h
 rename_i aA d;have hn:=y aA d;have k:=OH (o:=o) (acc:=[]) N d hn;refine⟨?_,aA,d,k⟩;rw[k];simp only[ZE hn];split at h
 ·cases h
 rename_i U;have I:wH (mJ sp) aA=fun _=>false:=by
  rw[M];rfl
 rw[I]at h|-;have he:∀ j,(cA H aA).at j≠id:=by
  intro j e;rcases mo j (cA H aA).aA.length with g|g
  ·have := jP g
   rw[e]at this;exact hn (eS this)
  ·rw [wy g] at e
   have:(cA H aA).aN=H.length:=rfl;omega
 rw[OL he _ _ hn,OK he];split at h
 case h_2=>cases h
 rename_i h1 V;cases h;have O:∀ X,oM (cA H aA) (H.set id o) X=(oM (cA H aA) H X).set id o:=fun X=>by
  unfold oM;rw[show (cA H aA).aA=aA from rfl,OM aA _ _ hn,BP _ _ (by rw[rH]; exact q)]
 rw[O]
def aD.dm(τ:aD)(sp:aL):aD where
 pf g:=match aG g sp.f with
  |true=>false
  |false=>τ.pf g
 T:=τ.T
 W g as H:=match aG g sp.f with
  | true=>match rR sp as H with
   |some r=>some r
   |none=>τ.W g as H
  |false=>τ.W g as H
 C g as H:=match aG g sp.f with
  | true=>(match lX H (fun i=>as.getD i .undef) sp.ps [] with
   |some aA=>aA
   |none=>[])++τ.C g as H
  |false=>τ.C g as H
 I:=τ.I
 N g:=match aG g sp.f with
  | true=>match τ.U g,mJ sp with
   |false,false=>qy sp.ps 0
   |_,_=>false
  |false=>τ.N g
 U g:=match aG g sp.f with
  |true=>true
  |false=>τ.U g
def rS:List bX->List bX->Bool
 |_,[]=>true
 | [],o'::d=>o'.lU.isNone&&rS [] d
 | o::os,o'::d=>(match o'.lU with
  |none=>true
  | some l=>match o.lU with
   |some l'=>aG l l'
   |none=>false)&&rS os d
def IB:∀{os k:List bX},rS os k=true->∀(j:Nat) o' l,k[j]? = some o'->o'.lU=some l->∃ o,os[j]? = some o/\o.lU=some l
 |_,[],_,j,_,_,d,_=>by simp at d
 | [],x::k,h,0,o',l,d,g=>by
  simp only[rS,aK]at h;simp at d;subst d;rw[g]at h;cases h.1
 | [],x::k,h,j+1,o',l,d,g=>by
  simp only[rS,aK]at h;obtain⟨o,h1,_⟩:=IB h.2 j o' l (by simpa using d) g;simp at h1
 | o::os,x::k,h,0,o',l,d,g=>by
  simp only[rS,aK]at h;simp at d;subst d;have h1:=h.1;rw[g]at h1;simp only[]at h1;split at h1
  ·rename_i l' q
   have:=bz h1;subst this;exact⟨o,rfl,q⟩
  ·cases h1
 | o::os,x::k,h,j+1,o',l,d,g=>by
  simp only[rS,aK]at h;exact IB h.2 j o' l (by simpa using d) g
def ON(lens:eo):∀(os:List bX) (d:LG) (j:Nat) (o:aw),(dI lens os d)[j]? = some o->∃ sh g,os[j]? = some sh/\o=gq lens sh g
 | [],d,j,o,h=>by simp[dI]at h
 | s::os,d,0,o,h=>by
  simp[dI]at h;exact⟨s,d,rfl,h.symm⟩
 | s::os,d,j+1,o,h=>by
  simp only[dI,Vv]at h;obtain⟨sh,g,h1,k⟩:=ON lens os _ j o h;exact⟨sh,g,by simpa using h1,k⟩
def ZG{lens:eo}{os:List bX}{d:LG}{j:Nat}{o:ai} (h:(az (dI lens os d))[j]? = some o):∃ sh,os[j]? = some sh/\o.label=sh.lU:=by
 simp only[az,bY]at h;obtain⟨o',h1,rfl⟩:=eL.1 h;obtain⟨sh,k,g,rfl⟩:=ON lens os d j o' h1;exact⟨sh,g,wz _ _ _⟩
def OO(lens:eo):∀(os:List bX) (d:LG) (j:Nat) (sh:bX),os[j]? = some sh->∃ o,(az (dI lens os d))[j]? = some o/\o.label=sh.lU
 | [],d,j,o,h=>by simp at h
 | s::os,d,0,sh,h=>by
  simp at h;subst h;exact⟨(gq lens s d).ar,by simp[dI,az],wz _ _ _⟩
 | s::os,d,j+1,sh,h=>by
  obtain⟨o,h1,g⟩:=OO lens os (fB s.sz d) j sh (by simpa using h);exact⟨o,by simpa[dI,az]using h1,g⟩
def wI(sp:aL):Bool:=oL sp.c7&&(dS sp.c7.length sp.iM.length&&rS sp.c7 sp.iM)
def ZH{P:aj}{sp:aL}(hp:wI sp=true) (hc:∀ d r,sp.F d=some r->fO P sp.f (sp.gE d) (az (sp.H0 d)) (sp.out r) (az (sp.H1 r)))
  {as:List AV} {H H':List aw} {v:AV} (h:rR sp as H=some (true,v,H')):fO P sp.f as (az H) v (az H'):=by
 simp only[wI,aK]at hp;obtain⟨hfr,hle,hlab⟩:=hp;have hle:=BR hle;unfold rR at h;split at h
 ·cases h
 rename_i aA hids;split at h
 ·cases h
 rename_i hck;simp only[aK]at hck;obtain⟨hnd,hup⟩:=hck;have hnd:=wC hnd;split at h
 case h_2=>cases h
 rename_i b g b' k h1 h2;simp only[bf,bo,t_,aK]at h;obtain⟨⟨⟨rfl,rfl⟩,h3⟩,rfl,rfl⟩:=h;cases hF:sp.F (g++k)with
 |none=>rw[hF]at h3; cases h3
 |some r =>
 simp only[m_];obtain⟨p0,p1,p2,p3⟩:=zR h1 k (dJ sp.c7 (g++k));have hd:fB (pr sp.c7) (g++k)=k:=by rw[<-p0]; exact rK g k
 have hlen:aA.length=(az (sp.H0 (g++k))).length:=by rw[fA]; simp only[aL.H0,p1,p2]
 have hat:∀ j,j<aA.length->aA[j]? = some ((cA H aA).at j):=fun j q=>jP (e:=cA H aA) q;have hobjs:∀ j,j<aA.length->∃ sh o U O,sp.c7[j]? = some sh/\H[(cA H aA).at j]? = some o/\jQ H (cA H aA) (wH (mJ sp) aA) sh o=some (true,U) /\
   (sp.H0 (g++k))[j]? = some (gq (dJ sp.c7 (g++k)) sh (U++O)) /\
   (dJ sp.c7 (g++k)).al j=sh.up/\(∀ ks v rZ,o=.vQ ks v rZ->(dJ sp.c7 (g++k)).len j=rZ.length)/\sh.up=0/\(cA H aA).up j=wA o:=by
  intro j q;have hj':j<sp.c7.length:=by omega
  obtain⟨i,o,U,O,V,y,M,I,q5,q6⟩:=p3 j sp.c7[j] (bZ hj');have q1':=V;rw[hat j q]at V;cases V;refine⟨sp.c7[j],o,U,O,bZ hj',y,M,I,q5,q6,?_,?_⟩
  ·have := dN.1 hfr sp.c7[j] (u7 hj')
   exact bz this
  ·simp only [cz.up, cA, cd, bY]
   rw[q1'];simp only[ff,m_,wB];rw[y]
 have hK:∀ E E0,E.H=az H->aJ E->wv (cA H aA) (bif mJ sp then (fo H.length).filter (kI aA) else []) E E0->E0.H=az (sp.H0 (g++k)) ->
   kG H (cA H aA) (wH (mJ sp) aA) (dJ sp.c7 (g++k)) E E0:=by
  intro E E0 hEH HE W hE0H;refine { hH:=hEH,HE:=HE,free:=fun i hi b n hb=>?_,dy:=W.toKeepIn,obj:=fun j o ho=>?_ }
  ·refine W.Y' i ?_ b n hb
   have hlt:=aY hb;rw[HE.len,hEH,fA]at hlt;unfold wH at hi;split at hi
   ·rename_i N
    rw[N];simp only[cT,s9,List.mem_range];exact⟨hlt,hi⟩
   ·cases hi
  ·have q:j<aA.length:=by
    rcases mo j aA.length with hlt|hge
    ·exact hlt
    ·have h1 := aY ho
     have h2:=wy (e:=cA H aA) hge;have h3:(cA H aA).aN=H.length:=rfl;omega
   refine⟨q,?_⟩;obtain⟨sh,o',U,O,V,y,M,I,q5,q6,q7,q8⟩:=hobjs j q;rw[ho]at y;cases y;obtain⟨r1,r2,r3⟩:=Iq (lens:=dJ sp.c7 (g++k)) (d:=U++O) M;exact⟨r1,⟨_,by rw[hE0H]; exact bu I,by rw[q5]; exact r2⟩,fun o0 h0=>by rw[hE0H,bu I]at h0; cases h0; rw[Im,Io M],q6,fun _=>by rw[q5]; exact q7⟩
 have:=frame (P:=P) (f:=sp.f) (mJ sp) (bif mJ sp then (fo H.length).filter (kI aA) else []) (e:=cA H aA) (H:=az H) (args:=sp.gE (g++k)) (H0:=az (sp.H0 (g++k)))
  (H1:=az (sp.H1 r)) (v:=sp.out r) (gE:=as) (hc _ _ hF) hlen (by rw[fA]; rfl) hnd ?_ ?_ (qx hup) ?_ (fun N=>by rw[N]; rfl) ?_ ?_ ?_ ?_ ?_ ?_ ?_
 ·rw [ZA]
  exact this
 ·intro j o ho
  have q:j<aA.length:=by rw[hlen]; exact aY ho
  obtain⟨sh,o',U,O,V,y,M,I,q5,q6,q7,q8⟩:=hobjs j q;obtain⟨r1,r2,r3⟩:=Iq (lens:=dJ sp.c7 (g++k)) (d:=U++O) M;rw[bu I]at ho;cases ho;refine⟨o'.ar,bu y,ai.F9 r2,fun v=>?_⟩;rw[r1,r2,q7,q8];simp only[bf];constructor
  ·rintro rfl
   exact⟨0,rfl,by omega⟩
  ·rintro ⟨u, rfl, rfl⟩
   omega
 ·intro E E0 hEH HE W hE0H j o ho
  have q:j<aA.length:=by rw[hlen]; exact aY ho
  obtain⟨sh,o',U,O,V,y,M,I,q5,q6,q7,q8⟩:=hobjs j q;rw[bu I]at ho;cases ho;exact Oe (hK E E0 hEH HE W hE0H) M O q (fun l hl=>W.lU j _ l (by rw[hE0H]; exact bu I) (by rw[wz,hl])) (HE.obj _ _ (by rw[hEH]; exact bu y))
 ·rw [fA, fA]
  simp only[aL.H0,aL.H1,Iy];exact hle
 ·intro N
  simp only[mJ,aK]at N;exact Zy (OC N.1)
 ·intro N
  simp only[mJ,aK]at N;exact OD N.2
 ·intro i hi
  cases N:mJ sp with
  | true =>
   rw[N]at hi;simp only[cT,s9]at hi;exact Oi hi.2
  | false =>
   rw[N]at hi;simp at hi
 ·intro j o o' ho ho'
  have q:j<aA.length:=by rw[hlen]; exact aY ho
  obtain⟨sh,o2,U,O,V,y,M,I,_⟩:=hobjs j q;rw[bu I]at ho;rw[bu y]at ho';cases ho;cases ho';rw[N' M,wz]
 ·intro j o l ho hl
  obtain⟨sh,h5,h6⟩:=ZG (show (az (dI (dJ sp.iM r) sp.iM r))[j]? = some o from ho);obtain⟨sh0,h7,h8⟩:=IB hlab j sh l h5 (by rw[<-h6,hl]);obtain⟨o0,h9,h10⟩:=OO (dJ sp.c7 (g++k)) sp.c7 (g++k) j sh0 h7;exact⟨o0,h9,by rw[h10,h8]⟩
 ·intro j o o' ho ho'
  have q:j<aA.length:=by rw[hlen]; exact aY ho
  obtain⟨sh,o2,U,O,V,y,M,I,_⟩:=hobjs j q;rw[bu I]at ho;rw[bu y]at ho';cases ho;cases ho';rw[Io M,Im]
 ·intro E E0 cs hEH HE W hE0H hr
  have hS:=(zQ (hK E E0 hEH HE W hE0H) h2 []).2.2.2 cs hr;rw[da]at hS;simp only[aL.gE,hd];exact hS
def ZI{sp:aL}{as:List AV}{H H':List aw}{v:AV}{b:Bool}{A:Nat}(h:rR sp as H=some (b,v,H'))(g:A<H.length)(hA:∀ aA,lX H (fun i=>as.getD i .undef) sp.ps []=some aA->A∉aA):H'[A]? = H[A]? := by
 unfold rR at h;split at h
 ·cases h
 rename_i aA d;split at h
 ·cases h
 split at h
 case h_2=>cases h
 cases h;unfold oM;rw[di (by rw[rH]; exact g)];exact C5 _ _ _ _ (hA aA d)
def aI.dm{P:aj}{τ:aD}(h:aI P τ){sp:aL}(hb:iJ P sp.f=true)(hp:wI sp=true)
  (hc:∀ d r,sp.F d=some r->fO P sp.f (sp.gE d) (az (sp.H0 d)) (sp.out r) (az (sp.H1 r))):aI P (τ.dm sp):=by
 refine⟨h.T,fun g as H b v H' k V=>?_,fun g as H b v H' k A hA q=>?_,fun g as H t k Q hQ=>?_,fun g y as H=>?_,fun g M as H b v H' k id o q N=>?_⟩
 rotate_left 2
 ·obtain ⟨g1, v, H', g2, g3, g4⟩ := h.I g as H t k Q hQ
  refine⟨g1,v,H',g2,fun A hA q=>g3 A (fun hm=>hA ?_) q,g4⟩;simp only[aD.dm];split
  ·exact pY _ hm
  ·exact hm
 ·simp only [aD.dm] at y |-
  cases e:aG g sp.f with
  |true=>rw[e]at y; cases y
  | false =>
   rw[e]at y;exact h.F.1 g y as H
 ·simp only [aD.dm] at M k N |-
  cases e:aG g sp.f with
  | false =>
   rw[e]at M k N;exact h.F.2 g M as H b v H' k id o q N
  | true =>
   rw[e]at M k N;simp only[]at M k N|-;split at M
   case h_2=>cases M
   rename_i y hs;have hW0:∀ H,τ.W g as H=none:=fun H=>(h.F.1 g y as H).1;have hC0:∀ H,τ.C g as H=[]:=fun H=>(h.F.1 g y as H).2;rw[hW0]at k;split at k
   case h_2=>cases k
   rename_i r O;cases k;obtain⟨q1,aA,q2,q3⟩:=ZF hs M O (o:=o) q fun aA U hm=>N (oe _ (by rw[U]; exact hm));rw[q1];refine⟨rfl,?_⟩;rw[q2,q3,hC0,hC0]
 simp only[aD.dm]at k;split at k
 ·rename_i e
  have e:=bz e;subst e;split at k
  ·rename_i r O
   cases k;subst V;exact⟨hb,ZH hp hc O⟩
  ·exact h.W _ as H b v H' k V
 ·exact h.W g as H b v H' k V
 simp only[aD.dm]at k hA;split at k
 ·rename_i e
  rw[e]at hA;simp only[]at hA;split at k
  ·rename_i r O
   cases k;exact ZI O q fun aA U hm=>hA (oe _ (by rw[U]; exact hm))
  ·exact h.C g as H b v H' k A (fun hm=>hA (pY _ hm)) q
 ·rename_i e
  rw[e]at hA;exact h.C g as H b v H' k A hA q
end Go.AL

namespace Go.AL
open Go
variable [Dr]
def aB{β:Type}(t:Option LG)(k:LG->Option β):Option β:=bif t.isSome then k (t.getD []) else none
def jf{β:Type}(b:Bool)(t:Option LG)(k:LG->Option β):Option β:=bif b then k (t.getD []) else none
def ba{β:Type}(b:Bool)(r:Option (Nat × LG))(k:Nat->LG->Option β):Option β:=bif (b&&r.isSome) then k (Iv r) (Iw r) else none
def ZJ:Kd->G->G
 |.int _,g=>.i g.iV
 |.str,g=>.s g.sV
 |.bool,g=>.t g.bV
 |.list _,g=>.l g.rZ
def aQ:List Kd->LG->LG
 | [],_=>[]
 |k::ks,r=>ZJ k (r.headD default)::aQ ks r.tail
def aD.ka(τ:aD)(d:List bP):aD:={ τ with pf:=fun g=>match d.any (fun x=>aG x g)with
 |true=>false
 |false=>τ.pf g }
def aD.jz(τ:aD)(d:List bP):aD:={ τ with pf:=fun g=>match d.any (fun x=>aG x g)with
 |true=>true
 |false=>τ.pf g }
def aI.jz{P:aj}{τ:aD}(h:aI P τ)(d:List bP):aI P (τ.jz d):=⟨h.T,h.W,h.C,h.I,h.F⟩
def aI.ka{P:aj}{τ:aD}(h:aI P τ)(d:List bP):aI P (τ.ka d):=⟨h.T,h.W,h.C,h.I,h.F⟩
def ZK{β:Type}{t:Option LG}{k:LG->Option β}{g:LG}(h:t=some g):aB t k=k g:=by subst h; rfl
inductive ln (st:LG->Option (Option Nat × LG)):Nat->LG->Nat->LG->Prop
 |stop {d d':LG} {x:Nat} (h:st d=some (some x,d')):ln st 1 d x d'
 |next {d d1 d':LG} {x n:Nat} (h:st d=some (none,d1)) (h':ln st n d1 x d'):ln st (n+1) d x d'
def ln.iter{st:LG->Option (Option Nat × LG)}{n:Nat}{d g:LG}{x:Nat}(h:ln st n d x g):∀ m,n<=m->ua st m d=some (x,g):=by
 induction h with
 | stop h =>
  intro m hm;cases m with
  |zero=>omega
  |succ m=>simp only[ua,h]
 | next h _ k =>
  intro m hm;cases m with
  |zero=>omega
  |succ m=>simp only[ua,h]; exact k m (by omega)
def ln.ZL{st:LG->Option (Option Nat × LG)}{n:Nat}{d g:LG}{x:Nat}(h:ln st n d x g)(hn:n<=1000000):bN st d=some (x,g):=h.iter _ hn
end Go.AL

namespace Go.AL
open Go
variable [Dr]
inductive Hint where
 |freeze (aq:Nat)
 |OP (aq:Nat) (ks:List Kd)
 |OQ (aq c:Nat) (ks:List Kd)
 |IC (aq:Nat)
 |OR (aq c:Nat)
 |hole (ks:List Kd)
 |wK
 |a7 (aq l:Nat)
 |ID (aq:Nat)
 |OS (aq l:Nat)
 |OT (aq:Nat)
 |mm (aq l:Nat) (KI VI:Ct)
 |Dm (aq c l:Nat) (KI VI:Ct)
 |forget (id:Nat)
 |Dn (aq c:Nat) (ks:List Kd)
 |cM (aq l:Nat)
 |bJ (aq l:Nat)
 |IE (aq:Nat)
def Dp(aq:Nat)(s:aH):Bool × aH :=
 match s.fr.getD aq .undef with
 | .vQ w id al oF n=>match s.H[id]? with
  |some (.vQ ks v rZ)=>if al=v/\oF=0/\w=ks.length then (aG n rZ.length,⟨s.fr.set aq (.listF ks rZ),s.H.set id (.raw .dead)⟩) else (true,s)
  |_=>(true,s)
 |_=>(true,s)
def IF(aq c:Nat)(ks:List Kd)(s:aH):Bool × aH :=
 match s.fr.getD aq .undef with
 | .ptr id _ _ _ _=>match s.H[id]? with
  | some (.raw (.box cells))=>match cells[c]? with
   | some a=>match isNil a with
    |true=>(true,⟨s.fr,s.H.set id (.raw (.box (cells.set c (.vQ ks.length s.H.length 0 0 0))))++[.vQ ks 0 []]⟩)
    |false=>(true,s)
   |none=>(true,s)
  |_=>(true,s)
 |_=>(true,s)
def Dq(aq c:Nat)(s:aH):Bool × aH :=
 match s.fr.getD aq .undef with
 | .ptr id _ _ _ _=>match s.H[id]? with
  | some (.raw (.box cells))=>match cells[c]? with
   | some (.vQ w d al oF n)=>match s.H[d]? with
    |some (.vQ ks v rZ)=>if al=v/\oF=0/\w=ks.length then (aG n rZ.length,⟨s.fr,(s.H.set d (.raw .dead)).set id (.raw (.box (cells.set c (.listF ks rZ))))⟩) else (true,s)
    |_=>(true,s)
   |_=>(true,s)
  |_=>(true,s)
 |_=>(true,s)
def Ds(aq:Nat)(s:aH):Bool × aH :=
 match s.fr.getD aq .undef with
 | .vQ w id al oF n=>match s.H[id]? with
  |some (.vQ ks v rZ)=>if al=v/\oF=0/\w=ks.length then (dS n rZ.length,⟨s.fr.set aq (.vQ w id (v+1) 0 n),s.H.set id (.vQ ks (v+1) (rZ.take n))⟩) else (true,s)
  |_=>(true,s)
 |_=>(true,s)
def Dt(aq l:Nat)(s:aH):Bool × aH :=
 match s.fr.getD aq .undef with
 | .map id=>match s.H[id]? with
  |some (.map K (.one (.list ks)) [] cl)=>(kZ (az s.H) l,⟨s.fr,s.H.set id (.a7 l K ks [] cl)⟩)
  |_=>(true,s)
 |_=>(true,s)
def Du(r:LG):LG:=[gi r 0,gi r 1,gi r 2,.t false,.t true]
def Dv(aq l:Nat)(s:aH):Bool × aH :=
 match s.fr.getD aq .undef with
 | .map id=>match s.H[id]? with
  |some (.map K (.one (.list ks)) rZ cl)=>(kZ (az s.H) l,⟨s.fr,s.H.set id (.a7 l K ks (rZ.map Du) cl)⟩)
  |_=>(true,s)
 |_=>(true,s)
def ZM(rZ:LL):Bool:=rZ.all fun r=>(gi r 3).bV||(gi r 4).bV
def Dw(aq:Nat)(s:aH):Bool × aH :=
 match s.fr.getD aq .undef with
 | .map id=>match s.H[id]? with
  |some (.a7 _ K ks rZ cl)=>(ZM rZ,⟨s.fr,s.H.set id (.map K (.one (.list ks)) rZ cl)⟩)
  |_=>(true,s)
 |_=>(true,s)
def rT(rZ:LL):Bool:=rZ.all fun r=>(gi r 3).bV
def Dx(aq:Nat)(s:aH):Bool × aH :=
 match s.fr.getD aq .undef with
 | .map id=>match s.H[id]? with
  |some (.a7 _ K ks rZ cl)=>(rT rZ,⟨s.fr,s.H.set id (.map K (.one (.list ks)) rZ cl)⟩)
  |_=>(true,s)
 |_=>(true,s)
def Dy(aq l:Nat)(s:aH):Bool × aH :=
 match s.fr.getD aq .undef with
 | .vQ _ id _ _ _=>match s.H[id]? with
  |some (.vQ [.list ks] 0 rZ)=>(tZ (kZ (az s.H) l) (dq 0 rZ.length),⟨s.fr,s.H.set id (.cM l ks rZ.length [])⟩)
  |_=>(true,s)
 |_=>(true,s)
def Dz(aq l:Nat)(s:aH):Bool × aH :=
 match s.fr.getD aq .undef with
 | .map id=>match s.H[id]? with
  |some (.map K (.agg [.list ks,.list _]) [] cl)=>(kZ (az s.H) l,⟨s.fr,s.H.set id (.bJ l K ks [] cl)⟩)
  |_=>(true,s)
 |_=>(true,s)
def DA(aq:Nat)(s:aH):Bool × aH :=
 match s.fr.getD aq .undef with
 | .map id=>match s.H[id]? with
  |some (.bJ _ K ks rZ cl)=>(rT rZ,⟨s.fr,s.H.set id (.map K (.agg [.list ks,.list ks]) rZ cl)⟩)
  |_=>(true,s)
 |_=>(true,s)
def DB(aq l:Nat)(d g:Ct)(s:aH):Bool × aH :=
 match s.fr.getD aq .undef with
 | .map id=>match s.H[id]? with
  |some (.map K _ [] cl)=>(kZ (az s.H) l,⟨s.fr,s.H.set id (.mm l K d g [] [] cl)⟩)
  |_=>(true,s)
 |_=>(true,s)
def DC(aq c l:Nat)(d g:Ct)(s:aH):Bool × aH :=
 match s.fr.getD aq .undef with
 | .ptr a _ _ _ _=>match s.H[a]? with
  | some (.raw (.box cells))=>match cells[c]? with
   | some (.map id)=>match s.H[id]? with
    |some (.map K _ rZ cl)=>(tZ (kZ (az s.H) l) rZ.isEmpty,⟨s.fr,s.H.set id (.mm l K d g [] [] cl)⟩)
    |_=>(true,s)
   |_=>(true,s)
  |_=>(true,s)
 |_=>(true,s)
def IG(id:Nat)(s:aH):Bool × aH :=
 match s.H[id]? with
 |some (.raw (.box _))=>(true,⟨s.fr,s.H.set id (.vQ [] 1 [])⟩)
 |some (.map ..)=>(true,⟨s.fr,s.H.set id (.vQ [] 1 [])⟩)
 |some (.mm ..)=>(true,⟨s.fr,s.H.set id (.vQ [] 1 [])⟩)
 |some (.cM ..)=>(true,⟨s.fr,s.H.set id (.vQ [] 1 [])⟩)
 |_=>(true,s)
def IH(aq c:Nat)(ks:List Kd)(s:aH):Bool × aH :=
 match s.fr.getD aq .undef with
 | .ptr id _ _ _ _=>match s.H[id]? with
  | some (.raw (.box cells))=>match cells[c]? with
   | some (.list w rZ)=>match bO ks rZ with
    |some d=>if w=ks.length then (true,⟨s.fr,s.H.set id (.raw (.box (cells.set c (.listF ks d))))⟩) else (true,s)
    |none=>(true,s)
   |_=>(true,s)
  |_=>(true,s)
 |_=>(true,s)
def DD:Hint->aH->Bool × aH
 |.freeze i,s=>Dp i s
 | .OP i ks,s=>match isNil (s.fr.getD i .undef) with
  |true=>(true,zL i ks s)
  |false=>(true,s)
 |.OQ i c ks,s=>IF i c ks s
 |.IC i,s=>Ds i s
 |.OR i c,s=>Dq i c s
 |.hole ks,s=>(true,⟨s.fr,s.H++[.vQ ks 0 []]⟩)
 |.wK,s=>(true,⟨s.fr,s.H++[.raw .eD]⟩)
 |.a7 i l,s=>Dt i l s
 |.ID i,s=>Dx i s
 |.OS i l,s=>Dv i l s
 |.OT i,s=>Dw i s
 |.mm i l d g,s=>DB i l d g s
 |.Dm i c l d g,s=>DC i c l d g s
 |.forget i,s=>IG i s
 |.Dn i c ks,s=>IH i c ks s
 |.cM i l,s=>Dy i l s
 |.bJ i l,s=>Dz i l s
 |.IE i,s=>DA i s
def Ah:List Hint->aH->Bool × aH
 | [],s=>(true,s)
 | h::d,s=>match DD h s with
  | (b,s1)=>match Ah d s1 with
   |(g,s2)=>(b&&g,s2)
def ZN{m:Nat}{aq:Nat}{s:aH}(h:(Dp aq s).1=true):bG m s.ar (Dp aq s).2.ar:=by
 unfold Dp at h|-;split
 case h_2=>exact bG.refl _
 rename_i w id al oF n W;split
 case h_2=>exact bG.refl _
 rename_i ks v rZ I;split
 case isFalse=>exact bG.refl _
 rename_i N;obtain⟨rfl,rfl,rfl⟩:=N;simp only[W,I,and_self,if_true]at h;have hn:=bz h;subst hn;intro E a d;have hH:E.H=az s.H:=d.H;have M:=af.yE d.heap id;have hdr:=aJ.drop d.heap id fun o ho=>by
  rw[show E.H[id]? = some (.vQ ks.length al (rZ.map (aX ks))) by rw[hH]; exact bu I]at ho;cases ho;rfl
 have U:az (s.H.set id (.raw .dead))=E.H.set id .dead:=by rw[cQ,hH]; rfl
 refine⟨E.ae.set id none,E.X,?_,?_⟩
 ·simp only [aH.ar]
  rw[U];refine⟨rfl,?_,d.defers,hdr⟩;refine Dc (eh M _ d.fr) fun c N=>?_;have y:=It d.fr N;rw[show s.ar.fr=s.fr from rfl,W]at y;have V:E.H[id]? = some (.vQ ks.length al (rZ.map (aX ks))):=by rw[hH]; exact bu I
  have ho:=d.heap.obj id _ V;rw[kq];simp only[ad]at y|-;obtain⟨⟨aN,cap,rfl,hcap,_⟩,_,O⟩:=y;obtain⟨q1,q2⟩:=O ⟨_,V,rfl⟩;have hcl:fv (rZ.map (aX ks)):=by
   intro r y;obtain⟨g,_,rfl⟩:=dB.1 y;exact gJ ks g
  refine⟨hcl,aN,cap,by simp,by simpa using hcap,?_⟩;simp only[aZ]at ho;rcases ho with⟨h1,h2⟩|⟨b,mm,h1,h2,O,_,h4⟩
  ·exact .inl h2
  ·obtain ⟨g1, o, g2, g3⟩ := q2 b mm h1
   by_cases hm:rZ=[]
   ·subst hm; exact .inl rfl
   ·right
    have:0<rZ.length:=by cases rZ with|nil=>exact(hm rfl).elim|cons _ _=>simp
    simp at O;have ho:=g2 (by omega);simp at ho;subst ho;simp only[mq]at g3;refine⟨b,0,g3.1,⟨(d.heap.lt id b mm h1).1,?_,(d.heap.lt id b mm h1).2⟩,kX M.toC _ hcl rfl h4⟩;rintro(⟨j,c',q⟩|⟨l,k,c',q⟩)
    case inr=>exact d.heap.du _ _ _ _ _ _ h1 q
    simp only[eC]at q;split at q
    ·split at q<;>cases q
    ·rename_i hne
     exact hne (d.heap.inj _ _ _ _ _ h1 q)
 ·simp only [aH.ar]
  rw[U];exact M.toM
def ZO{m:Nat}{aq c:Nat}{ks:List Kd}{s:aH}:bG m s.ar (IF aq c ks s).2.ar:=by
 unfold IF;split
 case h_2=>exact bG.refl _
 rename_i id al k row col hsl;split
 case h_2=>exact bG.refl _
 rename_i cells hid;split
 case h_2=>exact bG.refl _
 rename_i a0 ha0;split
 case h_2=>exact bG.refl _
 rename_i hnil;intro E a g;have hH:E.H=az s.H:=g.H;have hlen:E.H.length=s.H.length:=by rw[hH,fA]
 have O:E.le (E.push E.w (.vQ ks.length 0 []) none):=af.mv g.heap.len (Ext.refl _) (fun b n h=>by cases h);have hobj:aZ (E.push E.w (.vQ ks.length 0 []) none) E.H.length (.vQ ks.length 0 []):=by
  simp only[aZ,af.push];refine .inl ⟨?_,trivial⟩;rw[iY (by rw[g.heap.len]; exact aM _),g.heap.len,lF];rfl
 have y:aJ (E.push E.w (.vQ ks.length 0 []) none):=aJ.push g.heap (Ext.refl _) (fun b n h=>by cases h) hobj;generalize I:E.push E.w (.vQ ks.length 0 []) none=d at O y;have U:d.w=E.w:=by rw[<-I]; rfl
 have V:d.X=E.X:=by rw[<-I]; rfl
 have W:d.H=az (s.H++[.vQ ks 0 []]):=by rw[<-I,jO,<-hH]; rfl
 have hidlt:id<s.H.length:=aY hid;have M:d.H[id]? = some (.box cells):=by
  rw[W];exact bu (H:=s.H++[.vQ ks 0 []]) (o:=.raw (.box cells)) (by rw[di hidlt]; exact hid)
 have ho:=y.obj id _ M;simp only[aZ]at ho;obtain⟨b,n,h1,h2,h3⟩:=ho;have hver:∀ v,(ai.box (cells.set c (.vQ ks.length s.H.length 0 0 0))).aV = some v->(ai.box cells).aV = some v:=fun v hv=>by simpa[ai.aV]using hv
 have N:=af.qb (o':=.box (cells.set c (.vQ ks.length s.H.length 0 0 0))) (w':=d.w) y M h1 hver rfl (fun _ _=>rfl);have hnew:d.H[s.H.length]? = some (.vQ ks.length 0 []):=by
  rw[W];have e:(s.H++[aw.vQ ks 0 []])[s.H.length]? = some (aw.vQ ks 0 []):=by rw[iY (aM _),lF]; rfl
  exact bu e
 have hloc:d.ae[s.H.length]? = some none:=by
  rw[<-I];simp only[af.push];rw[iY (by rw[g.heap.len]; omega),g.heap.len,hlen,lF];rfl
 have hrel:∀ v,ad d a0 v->ad { w:=d.w,H:=d.H.set id (.box (cells.set c (.vQ ks.length s.H.length 0 0 0))),ae:=d.ae,X:=d.X } (.vQ ks.length s.H.length 0 0 0) v:=by
  intro v hv;obtain⟨aN,rfl⟩:=NX hnil hv;simp only[ad];have hne:id≠s.H.length:=by omega
  refine⟨⟨aN,0,rfl,aM _,fun h=>absurd h (BU _)⟩,⟨.vQ ks.length 0 [],by rw[bg hne]; exact hnew,rfl,fun v h=>eV _⟩,fun _=>⟨fun _=>⟨trivial,trivial,aN,rfl⟩,fun b m hb=>?_⟩⟩;rw[hloc]at hb;cases hb
 have hHR2:=aJ.set (w':=d.w) y M h1 hver rfl (fun _ _=>rfl) (by
  simp only[aZ];refine⟨b,n,h1,by simpa using h2,?_⟩;rw[kn]at h3|-;intro i x q;rw[eC]at q;split at q
  ·rename_i e
   subst e;split at q
   ·cases q
    obtain⟨v,g1,g2,g3⟩:=h3 c a0 ha0;exact⟨v,g1,g2,hrel v g3⟩
   ·cases q
  ·obtain ⟨v, g1, g2, g3⟩ := h3 i x q
   exact⟨v,g1,g2,bD N x g3⟩)
 have hden:az (s.H.set id (.raw (.box (cells.set c (.vQ ks.length s.H.length 0 0 0))))++[.vQ ks 0 []])=d.H.set id (.box (cells.set c (.vQ ks.length s.H.length 0 0 0))):=by
  rw[W,jO,jO,cQ,BP _ _ (by rw[fA]; exact hidlt)];rfl
 refine⟨d.ae,E.X,?_,?_⟩
 ·simp only [aH.ar]
  rw[hden];rw[U,V]at hHR2;refine⟨rfl,?_,g.defers,hHR2⟩;have:=eh N _ (eh O _ g.fr);rw[U,V]at this;exact this
 ·simp only [aH.ar]
  rw[hden];have:=(O.trans N).toM (m:=m);rw[U,V]at this;exact this
def ZP{m:Nat}{aq c:Nat}{s:aH}(h:(Dq aq c s).1=true):bG m s.ar (Dq aq c s).2.ar:=by
 unfold Dq at h|-;split
 case h_2=>exact bG.refl _
 rename_i id ver0 k row col hsl;split
 case h_2=>exact bG.refl _
 rename_i cells N;split
 case h_2=>exact bG.refl _
 rename_i w g al oF n hcell;split
 case h_2=>exact bG.refl _
 rename_i ks v rZ V;split
 case isFalse=>exact bG.refl _
 rename_i hc;obtain⟨rfl,rfl,rfl⟩:=hc;simp only[hsl,N,hcell,V,and_self,if_true]at h;have hn:=bz h;subst hn;intro E a q;have hH:E.H=az s.H:=q.H;have hne:id≠g:=fun e=>by
  rw[e,V]at N;cases N
 have hide:E.H[id]? = some (.box cells):=by rw[hH]; exact bu N
 have hid2e:E.H[g]? = some (.vQ ks.length al (rZ.map (aX ks))):=by rw[hH]; exact bu V
 obtain⟨b0,n0,k1,k2,k3⟩:=q.heap.obj id _ hide;rw[kn]at k3;obtain⟨cv,c1,c2,c3⟩:=k3 c _ hcell;have hfr:=G9 q.heap hid2e c3;have hle:=af.yE q.heap g;have O:=aJ.drop q.heap g fun o ho=>by
  rw[hid2e]at ho;cases ho;rfl
 generalize I:({ w:=E.w,H:=E.H.set g .dead,ae:=E.ae.set g none,X:=E.X }:af)=d at hle O hfr;have U:d.w=E.w:=by rw[<-I]
 have hX1:d.X=E.X:=by rw[<-I]
 have W:d.H[id]? = some (.box cells):=by
  rw[<-I];show (E.H.set g .dead)[id]? = _
  rw[bg (Ne.symm hne)];exact hide
 have hl1:d.ae[id]? = some (some (b0,n0)):=by
  rw[<-I];show (E.ae.set g none)[id]? = _
  rw[bg (Ne.symm hne)];exact k1
 obtain⟨b,n,h1,h2,h3⟩:=O.obj id _ W;have hbb:b=b0:=by
  rw[hl1]at h1;cases h1;rfl
 subst hbb;have hver:∀ v,(ai.box (cells.set c (.listF ks rZ))).aV = some v->(ai.box cells).aV = some v:=fun v hv=>by simpa[ai.aV]using hv
 have M:=af.qb (o':=.box (cells.set c (.listF ks rZ))) (w':=d.w) O W h1 hver rfl (fun _ _=>rfl);have hHR2:=aJ.set (w':=d.w) O W h1 hver rfl (fun _ _=>rfl) (by
  simp only[aZ];refine⟨b,n,h1,by simpa using h2,?_⟩;rw[kn]at h3|-;intro i x y;rw[eC]at y;split at y
  ·rename_i e
   subst e;split at y
   ·cases y
    refine⟨cv,by rw[show ({ w:=d.w,H:=_,ae:=d.ae,X:=d.X }:af).w=E.w from U]; exact c1,c2,bD M _ hfr⟩
   ·cases y
  ·obtain ⟨v, g1, g2, g3⟩ := h3 i x y
   exact⟨v,g1,g2,bD M x g3⟩)
 have hden:az ((s.H.set g (.raw .dead)).set id (.raw (.box (cells.set c (.listF ks rZ)))))=d.H.set id (.box (cells.set c (.listF ks rZ))):=by
  rw[cQ,cQ,<-hH,<-I];rfl
 refine⟨d.ae,E.X,?_,?_⟩
 ·simp only [aH.ar]
  rw[hden];rw[U,hX1]at hHR2;refine⟨rfl,?_,q.defers,hHR2⟩;have:=eh M _ (eh hle _ q.fr);rw[U,hX1]at this;exact this
 ·simp only [aH.ar]
  rw[hden];have:=(hle.trans M).toM (m:=m);rw[U,hX1]at this;exact this
def ZQ{m:Nat}{aq c:Nat}{ks:List Kd}{s:aH}:bG m s.ar (IH aq c ks s).2.ar:=by
 unfold IH;split
 case h_2=>exact bG.refl _
 rename_i id ver0 k row col hsl;split
 case h_2=>exact bG.refl _
 rename_i cells V;split
 case h_2=>exact bG.refl _
 rename_i w rZ O;split
 case h_2=>exact bG.refl _
 rename_i q W;split
 case isFalse=>exact bG.refl _
 rename_i hw;subst hw;intro E a d;have hH:E.H=az s.H:=d.H;have y:E.H[id]? = some (.box cells):=by rw[hH]; exact bu V
 obtain⟨b,n,h1,h2,I⟩:=d.heap.obj id _ y;have M:∀ v,(ai.box (cells.set c (.listF ks q))).aV = some v->(ai.box cells).aV = some v:=fun v hv=>by simpa[ai.aV]using hv
 have h:=af.qb (o':=.box (cells.set c (.listF ks q))) (w':=E.w) d.heap y h1 M rfl (fun _ _=>rfl);have U:=aJ.set (w':=E.w) d.heap y h1 M rfl (fun _ _=>rfl) (by
  simp only[aZ];refine⟨b,n,h1,by simpa using h2,?_⟩;rw[kn]at I|-;intro i x g;rw[eC]at g;split at g
  ·rename_i e
   subst e;split at g
   ·cases g
    obtain⟨cv,c1,c2,c3⟩:=I c _ O;refine⟨cv,c1,c2,bD h _ ?_⟩;rw[kq,rq W];exact c3
   ·cases g
  ·obtain ⟨v, g1, g2, g3⟩ := I i x g
   exact⟨v,g1,g2,bD h x g3⟩)
 have N:az (s.H.set id (.raw (.box (cells.set c (.listF ks q)))))=E.H.set id (.box (cells.set c (.listF ks q))):=by rw[cQ,<-hH]; rfl
 refine⟨E.ae,E.X,?_,?_⟩
 ·simp only [aH.ar]
  rw[N];exact⟨rfl,eh h _ d.fr,d.defers,U⟩
 ·simp only [aH.ar]
  rw[N];exact h.toM
def ZR{m:Nat}{aq:Nat}{s:aH}(h:(Ds aq s).1=true):bG m s.ar (Ds aq s).2.ar:=by
 unfold Ds at h|-;split
 case h_2=>exact bG.refl _
 rename_i w id al oF n V;split
 case h_2=>exact bG.refl _
 rename_i ks v rZ W;split
 case isFalse=>exact bG.refl _
 rename_i M;obtain⟨rfl,rfl,rfl⟩:=M;simp only[V,W,and_self,if_true]at h;have hn:=BR h;intro E a d;have hH:E.H=az s.H:=d.H;have y:E.H[id]? = some (.vQ ks.length al (rZ.map (aX ks))):=by rw[hH]; exact bu W
 have ho:=d.heap.obj id _ y;obtain⟨l,N⟩:∃ l,E.ae[id]? = some l:=by
  have:id<E.ae.length:=by rw[d.heap.len]; exact aY y
  exact⟨_,bZ this⟩
 have hls:E.ae.set id l=E.ae:=ph N;have U:az (s.H.set id (.vQ ks (al+1) (rZ.take n)))=E.H.set id (.vQ ks.length (al+1) ((rZ.take n).map (aX ks))):=by rw[cQ,hH]; rfl
 have hlc:∀ b n,l=some (b,n)->E.w.heap.size<=b\/∃ m,E.ae[id]? = some (some (b,m)):=fun b n hb=>.inr ⟨n,by rw[N,hb]⟩;have hup:∀ v u,(ai.vQ ks.length (al+1) ((rZ.take n).map (aX ks))).aV = some v->(ai.vQ ks.length al (rZ.map (aX ks))).aV = some u->u<=v:=by
  intro v u h1 k;simp[ai.aV]at h1 k;omega
 have hvr:∀ v,(ai.vQ ks.length (al+1) ((rZ.take n).map (aX ks))).aV = some v->∀ u,(ai.vQ ks.length al (rZ.map (aX ks))).aV = some u->u<v:=by
  intro v h1 u k;simp[ai.aV]at h1 k;omega
 have I:=af.lJ (o':=.vQ ks.length (al+1) ((rZ.take n).map (aX ks))) (l:=l) (w':=E.w) y d.heap.len (aM _) (fun _ _ _=>rfl) hlc (.inr hvr) hup (fun _ h=>by simp[ai.aV]at h);have hHR:=aJ.nk (o':=.vQ ks.length (al+1) ((rZ.take n).map (aX ks))) (l:=l) (w':=E.w) d.heap y (aM _) (fun _ _ _=>rfl) (fun b n hb=>.inr ⟨n,by rw[N,hb]⟩) (.inr hvr) hup (fun _ h=>by simp[ai.aV]at h) (by
  rw[hls]at I|-;simp only[aZ]at ho|-;rcases ho with⟨h1,k⟩|⟨b,mm,h1,k,O,h4,h5⟩
  ·left
   refine⟨h1,?_⟩;have:rZ=[]:=by simpa using k
   rw[this];simp
  ·right
   refine⟨b,mm,h1,k,by simp at O|-; omega,?_,?_⟩
   ·intro r q
    obtain⟨g,_,rfl⟩:=dB.1 q;exact gJ ks g
   ·rw [om] at h5 |-
    intro i r hi;simp only[bY,oY]at hi;split at hi
    ·obtain ⟨g1, g2⟩ := h5 i r (by simpa using hi)
     exact⟨g1,B8 (fun a c q=>bD I a q) rfl g2⟩
    ·simp at hi)
 rw[hls]at I hHR;refine⟨E.ae,E.X,?_,?_⟩
 ·simp only [aH.ar]
  rw[U];refine⟨rfl,?_,d.defers,hHR⟩;refine Dc (eh I _ d.fr) fun c M=>?_;have q:=It d.fr M;rw[show s.ar.fr=s.fr from rfl,V]at q;simp only[ad]at q|-;obtain⟨h1,k,O⟩:=q;exact⟨h1,⟨.vQ ks.length (al+1) ((rZ.take n).map (aX ks)),bB (aY y),rfl,fun v hv=>by simp[ai.aV]at hv; omega⟩,fun _=>O ⟨_,y,rfl⟩⟩
 ·simp only [aH.ar]
  rw[U];exact I.toM
def ZS{m:Nat}{ks:List Kd}{s:aH}:bG m s.ar (aH.ar ⟨s.fr,s.H++[.vQ ks 0 []]⟩):=fun E a d=>by
 have hH:E.H=az s.H:=d.H;have k:E.le (E.push E.w (.vQ ks.length 0 []) none):=af.mv d.heap.len (Ext.refl _) (fun b n h=>by cases h);have q:aZ (E.push E.w (.vQ ks.length 0 []) none) E.H.length (.vQ ks.length 0 []):=by
  simp only[aZ,af.push];refine .inl ⟨?_,trivial⟩;rw[iY (by rw[d.heap.len]; exact aM _),d.heap.len,lF];rfl
 have v:aJ (E.push E.w (.vQ ks.length 0 []) none):=aJ.push d.heap (Ext.refl _) (fun b n h=>by cases h) q;have g:(aH.ar ⟨s.fr,s.H++[.vQ ks 0 []]⟩).H=E.H++[.vQ ks.length 0 []]:=by
  rw[hH];simp[aH.ar,az,aw.ar]
 refine⟨E.ae++[none],E.X,?_,?_⟩
 ·rw [g]
  exact⟨g.symm,eh k _ d.fr,d.defers,v⟩
 ·rw [g]
  exact k.toM
def ZT{m:Nat}{s:aH}:bG m s.ar (aH.ar ⟨s.fr,s.H++[.raw .eD]⟩):=fun E a d=>by
 have hH:E.H=az s.H:=d.H;have k:E.le (E.push E.w (.eD) none):=af.mv d.heap.len (Ext.refl _) (fun b n h=>by cases h);have q:aZ (E.push E.w (.eD) none) E.H.length (.eD):=by
  simp only[aZ,af.push];rw[iY (by rw[d.heap.len]; exact aM _),d.heap.len,lF];rfl
 have v:aJ (E.push E.w (.eD) none):=aJ.push d.heap (Ext.refl _) (fun b n h=>by cases h) q;have g:(aH.ar ⟨s.fr,s.H++[.raw .eD]⟩).H=E.H++[.eD]:=by
  rw[hH];simp[aH.ar,az,aw.ar]
 refine⟨E.ae++[none],E.X,?_,?_⟩
 ·rw [g]
  exact⟨g.symm,eh k _ d.fr,d.defers,v⟩
 ·rw [g]
  exact k.toM
def ZU{m:Nat}{aq l:Nat}{s:aH}(h:(Dt aq l s).1=true):bG m s.ar (Dt aq l s).2.ar:=by
 unfold Dt at h|-;split
 case h_2=>exact bG.refl _
 rename_i id y;split
 case h_2=>exact bG.refl _
 rename_i K ks cl k;simp only[y,k]at h;intro E a d;have hH:E.H=az s.H:=d.H;have v:E.H[id]? = some (.map [] cl):=by rw[hH]; exact bu k
 obtain⟨h1,q⟩:=WK (w:=ks.length) d.heap v (by rw[hH]; exact h);have g:az (s.H.set id (.a7 l K ks [] cl))=E.H.set id (.a7 l ks.length [] cl):=by rw[cQ,hH]; rfl
 refine⟨E.ae,E.X,?_,?_⟩
 ·simp only [aH.ar]
  rw[g];exact⟨rfl,eh q _ d.fr,d.defers,h1⟩
 ·simp only [aH.ar]
  rw[g];exact q.toM
def ZV{m:Nat}{aq l:Nat}{g k:Ct}{s:aH}(h:(DB aq l g k s).1=true):bG m s.ar (DB aq l g k s).2.ar:=by
 unfold DB at h|-;split
 case h_2=>exact bG.refl _
 rename_i id M;split
 case h_2=>exact bG.refl _
 rename_i K V cl v;simp only[M,v]at h;intro E a d;have hH:E.H=az s.H:=d.H;have I:E.H[id]? = some (.map [] cl):=by rw[hH]; exact bu v
 obtain⟨h1,y⟩:=Mg d.heap I (by rw[hH]; exact h);have q:az (s.H.set id (.mm l K g k [] [] cl))=E.H.set id (.mm l [] [] cl):=by rw[cQ,hH]; rfl
 refine⟨E.ae,E.X,?_,?_⟩
 ·simp only [aH.ar]
  rw[q];exact⟨rfl,eh y _ d.fr,d.defers,h1⟩
 ·simp only [aH.ar]
  rw[q];exact y.toM
def ZW{m:Nat}{aq c l:Nat}{g k:Ct}{s:aH}(h:(DC aq c l g k s).1=true):bG m s.ar (DC aq c l g k s).2.ar:=by
 unfold DC at h|-;split
 case h_2=>exact bG.refl _
 rename_i a _ _ _ _ M;split
 case h_2=>exact bG.refl _
 rename_i cells N;split
 case h_2=>exact bG.refl _
 rename_i id O;split
 case h_2=>exact bG.refl _
 rename_i K V rZ cl v;simp only[M,N,O,v,t_]at h;obtain⟨h,he⟩:=h;have he:rZ=[]:=by cases rZ with|nil=>rfl|cons _ _=>cases he
 subst he;intro E U d;have hH:E.H=az s.H:=d.H;have I:E.H[id]? = some (.map [] cl):=by rw[hH]; exact bu v
 obtain⟨h1,y⟩:=Mg d.heap I (by rw[hH]; exact h);have q:az (s.H.set id (.mm l K g k [] [] cl))=E.H.set id (.mm l [] [] cl):=by rw[cQ,hH]; rfl
 refine⟨E.ae,E.X,?_,?_⟩
 ·simp only [aH.ar]
  rw[q];exact⟨rfl,eh y _ d.fr,d.defers,h1⟩
 ·simp only [aH.ar]
  rw[q];exact y.toM
def aJ.forget{E:af}(H:aJ E){id l0:Nat}{o:ai}(M:E.H[id]? = some o)(hlab:o.label=some l0)(hver:o.aV = some 0) :
  aJ { w:=E.w,H:=E.H.set id (.vQ 0 1 []),ae:=E.ae.set id none,X:=E.X.re (jd E.X.r l0) }/\E.le { w:=E.w,H:=E.H.set id (.vQ 0 1 []),ae:=E.ae.set id none,X:=E.X.re (jd E.X.r l0) }:=by
 have U:=aY M;have hltl:id<E.ae.length:=by rw[H.len]; exact U
 have V:∀(i:Nat) x,(E.H.set id (.vQ 0 1 []))[i]? = some x->(i=id/\x=.vQ 0 1 [])\/(i≠id/\E.H[i]? = some x):=fun i x hi=>by
  by_cases d:i=id
  ·subst d
   rw[bB U]at hi;cases hi;exact .inl ⟨rfl,rfl⟩
  ·rw [bg (Ne.symm d)] at hi
   exact .inr ⟨d,hi⟩
 have N:∀(i b m:Nat),(E.ae.set id none)[i]? = some (some (b,m))->i≠id/\E.ae[i]? = some (some (b,m)):=fun i b m hi=>by
  by_cases d:i=id
  ·subst d
   rw[bB hltl]at hi;cases hi
  ·rw [bg (Ne.symm d)] at hi
   exact⟨d,hi⟩
 have W:E.le { w:=E.w,H:=E.H.set id (.vQ 0 1 []),ae:=E.ae.set id none,X:=E.X.re (jd E.X.r l0) }:=by
  refine⟨fun i al hp=>?_,aM _,fun _ _ _=>rfl,fun b hb hno=>?_,fun i al hp I=>?_,⟨rfl,rfl⟩,fun l h hh=>?_,.refl _,fun i l x h1 g hv=>?_⟩
  rotate_right
  ·by_cases d : i = id
   ·subst d
    obtain⟨y,q,h4⟩:=hv;rw[show (E.H.set i (.vQ 0 1 []))[i]? = some (.vQ 0 1 []) from bB U]at q;cases q;cases h4
   ·have e3 : l ≠ l0 := fun e3 => d (H.uniq i id x o l h1 M (ai.og g) (by rw [e3]; exact hlab))
    exact⟨⟨[],by rw[da]; exact iN e3⟩,x,by simp only[]; rw[bg (Ne.symm d)]; exact h1,g⟩
  ·obtain ⟨x, h1, g⟩ := hp
   by_cases d:i=id
   ·subst d
    rw[M]at h1;cases h1;have:=g.2 0 hver;exact⟨.vQ 0 1 [],by simp only[]; rw[bB U],rfl,fun v hv=>by cases hv; omega⟩
   ·exact⟨x,by simp only[]; rw[bg (Ne.symm d)]; exact h1,g⟩
  ·rintro (⟨i, c, hi⟩ | ⟨l, h, m, hm⟩)
   ·exact hno (.inl ⟨i,c,(N i b c hi).2⟩)
   ·exact hno (.inr ⟨l,h,m,(j6 hm).1⟩)
  ·obtain ⟨x, h1, g⟩ := I
   rcases V i x h1 with⟨rfl,rfl⟩|⟨d,q⟩
   ·cases g
    obtain⟨y,q,h4⟩:=hp;rw[M]at q;cases q;have:=h4.2 0 hver;omega
   ·exact⟨⟨x,q,g⟩,bg (Ne.symm d)⟩
  ·refine ⟨?_, fun y hy => (j6 hy).1⟩
   show h<(jd E.X.r l0 l).length
   rw[Md];exact hh
 refine⟨⟨by simp[H.len],fun i j b m n hi hj=>H.inj i j b m n (N _ _ _ hi).2 (N _ _ _ hj).2,fun i b m hi=>H.lt i b m (N _ _ _ hi).2,H.X,fun i x hi=>?_,H.gL.bU W.toC,fun l h l' h' b m n h1 g=>H.fN _ _ _ _ _ _ _ (j6 h1).1 (j6 g).1,fun i b m l h n hi O=>H.du _ _ _ _ _ _ (N _ _ _ hi).2 (j6 O).1,fun l h b m O=>H.cS _ _ _ _ (j6 O).1,fun i k x y l hi O h1 g=>?_,fun l hn h y hy=>?_⟩,W⟩
 ·rcases V i x hi with ⟨rfl, rfl⟩ | ⟨d, q⟩
  ·simp only [aZ]
   exact .inl ⟨bB hltl,trivial⟩
  ·refine nh (fun a _ hr => bD W a hr) (bg (Ne.symm d)) (fun _ _ _ => rfl) (fun l I => ?_) (H.obj i x q)
   have hne2:l≠l0:=fun e=>d (H.uniq i id x o l q M I (by rw[hlab,e]));exact⟨iN hne2,fun _ _ _ _=>rfl⟩
 ·have key:∀ (i:Nat) x,(E.H.set id (.vQ 0 1 []))[i]? = some x->x.label=some l->E.H[i]? = some x:=by
   intro i x hi I;rcases V i x hi with⟨rfl,rfl⟩|⟨d,q⟩
   ·cases I
   ·exact q
  exact H.uniq i k x y l (key i x hi h1) (key k y O g) h1 g
 ·obtain ⟨g1, g2⟩ := j6 hy
  refine H.ja l (fun i x hi I=>?_) h y g1;by_cases e:i=id
  ·subst e
   rw[M]at hi;cases hi;exact g2 (by rw[hlab]at I; cases I; rfl)
  ·exact hn i x (by show (E.H.set id (.vQ 0 1 []))[i]? = _; rw[bg (Ne.symm e)]; exact hi) I
def aJ.ZX{E:af}(H:aJ E){id:Nat}{o:ai}(g:E.H[id]? = some o)(hlab:o.label=none)(y:o.aV = some 0) :
  aJ { w:=E.w,H:=E.H.set id (.vQ 0 1 []),ae:=E.ae.set id none,X:=E.X }/\E.le { w:=E.w,H:=E.H.set id (.vQ 0 1 []),ae:=E.ae.set id none,X:=E.X }:=by
 have O:=aY g;have N:id<E.ae.length:=by rw[H.len]; exact O
 have k:∀ v,(ai.vQ 0 1 []).aV = some v->∀ u,o.aV = some u->u<v:=fun v q u d=>by
  rw[y]at d;cases d;cases q;exact Nat.zero_lt_one
 have I:∀ v u,(ai.vQ 0 1 []).aV = some v->o.aV = some u->u<=v:=fun v u q d=>Nat.le_of_lt (k v q u d);have M:o.born=true->o.aV = none->(ai.vQ 0 1 []).aV = none:=fun _ h=>by rw[y]at h; cases h
 refine⟨aJ.nk H g (aM _) (fun _ _ _=>rfl) (fun _ _ h=>by cases h) (.inr k) I M ?_ (hlab:=hlab),af.lJ g H.len (aM _) (fun _ _ _=>rfl) (fun _ _ h=>by cases h) (.inr k) I M (hmm:=.inl (ai.B3 hlab))⟩;simp only[aZ];exact .inl ⟨bB N,trivial⟩
def ZY{m:Nat}{id:Nat}{s:aH}:bG m s.ar (IG id s).2.ar:=by
 have v:∀ o:aw,s.H[id]? = some o->o.ar.label=none->o.ar.aV = some 0->bG m s.ar (aH.ar ⟨s.fr,s.H.set id (.vQ [] 1 [])⟩):=fun o g h1 y=>by
  intro E a d;have hH:E.H=az s.H:=d.H;obtain⟨q,k⟩:=aJ.ZX d.heap (by rw[hH]; exact bu g) h1 y;have h:az (s.H.set id (.vQ [] 1 []))=E.H.set id (.vQ 0 1 []):=by rw[cQ,hH]; rfl
  refine⟨E.ae.set id none,E.X,?_,?_⟩
  ·simp only [aH.ar]
   rw[h];exact⟨rfl,eh k _ d.fr,d.defers,q⟩
  ·simp only [aH.ar]
   rw[h];exact k.toM
 unfold IG;split
 ·rename_i g
  exact v _ g rfl rfl
 ·rename_i g
  exact v _ g rfl rfl
 ·rename_i l K I M rZ mem cl g
  intro E a d;have hH:E.H=az s.H:=d.H;obtain⟨q,k⟩:=aJ.forget (l0:=l) d.heap (by rw[hH]; exact bu g) rfl rfl;have h:az (s.H.set id (.vQ [] 1 []))=E.H.set id (.vQ 0 1 []):=by rw[cQ,hH]; rfl
  refine⟨E.ae.set id none,E.X.re (jd E.X.r l),?_,?_⟩
  ·simp only [aH.ar]
   rw[h];exact⟨rfl,eh k _ d.fr,d.defers,q⟩
  ·simp only [aH.ar]
   rw[h];exact k.toM
 ·rename_i l ks n N g
  intro E a d;have hH:E.H=az s.H:=d.H;obtain⟨q,k⟩:=aJ.forget (l0:=l) d.heap (by rw[hH]; exact bu g) rfl rfl;have h:az (s.H.set id (.vQ [] 1 []))=E.H.set id (.vQ 0 1 []):=by rw[cQ,hH]; rfl
  refine⟨E.ae.set id none,E.X.re (jd E.X.r l),?_,?_⟩
  ·simp only [aH.ar]
   rw[h];exact⟨rfl,eh k _ d.fr,d.defers,q⟩
  ·simp only [aH.ar]
   rw[h];exact k.toM
 ·exact bG.refl _
def ZZ{m:Nat}{aq l:Nat}{s:aH}(h:(Dy aq l s).1=true):bG m s.ar (Dy aq l s).2.ar:=by
 unfold Dy at h|-;split
 case h_2=>exact bG.refl _
 rename_i _ id _ _ _ I;split
 case h_2=>exact bG.refl _
 rename_i ks rZ q;simp only[I,q,t_]at h;obtain⟨h,hn⟩:=h;intro E a d;have hH:E.H=az s.H:=d.H;have y:E.H[id]? = some (.vQ 1 0 (rZ.map (aX [.list ks]))):=by rw[hH]; exact bu q
 have M:rZ.map (aX [.list ks])≠[]:=by
  intro e;rw[List.map_eq_nil_iff]at e;subst e;cases hn
 obtain⟨h1,v⟩:=WZ (k:=ks.length) d.heap y M (by rw[hH]; exact h);have g:az (s.H.set id (.cM l ks rZ.length []))=E.H.set id (.cM l ks.length (rZ.map (aX [.list ks])).length []):=by rw[cQ,hH,c8]; rfl
 refine⟨E.ae,E.X,?_,?_⟩
 ·simp only [aH.ar]
  rw[g];exact⟨rfl,eh v _ d.fr,d.defers,h1⟩
 ·simp only [aH.ar]
  rw[g];exact v.toM
def Z0{m:Nat}{aq l:Nat}{s:aH}(h:(Dz aq l s).1=true):bG m s.ar (Dz aq l s).2.ar:=by
 unfold Dz at h|-;split
 case h_2=>exact bG.refl _
 rename_i id y;split
 case h_2=>exact bG.refl _
 rename_i K ks I cl k;simp only[y,k]at h;intro E a d;have hH:E.H=az s.H:=d.H;have v:E.H[id]? = some (.map [] cl):=by rw[hH]; exact bu k
 obtain⟨h1,q⟩:=W2 (w:=ks.length) d.heap v (by rw[hH]; exact h);have g:az (s.H.set id (.bJ l K ks [] cl))=E.H.set id (.bJ l ks.length [] cl):=by rw[cQ,hH]; rfl
 refine⟨E.ae,E.X,?_,?_⟩
 ·simp only [aH.ar]
  rw[g];exact⟨rfl,eh q _ d.fr,d.defers,h1⟩
 ·simp only [aH.ar]
  rw[g];exact q.toM
def Z1{m:Nat}{aq:Nat}{s:aH}(h:(DA aq s).1=true):bG m s.ar (DA aq s).2.ar:=by
 unfold DA at h|-;split
 case h_2=>exact bG.refl _
 rename_i id hsl;split
 case h_2=>exact bG.refl _
 rename_i l K ks rZ cl N;simp only[hsl,N]at h;intro E a d;have hH:E.H=az s.H:=d.H;have I:E.H[id]? = some (.bJ l ks.length (lO K ks rZ) cl):=by rw[hH]; exact bu N
 have ho:=d.heap.obj id _ I;simp only[aZ]at ho;obtain⟨b,n,ms,g1,g2,V,k00,hh,k1,k2⟩:=ho;obtain⟨h1,W⟩:=aJ.GU (o':=.map (dQ K (.agg [.list ks,.list ks]) rZ) cl) d.heap I rfl rfl rfl fun O=>by
  simp only[aZ];refine⟨b,n,ms,g1,g2,?_⟩;rw[e9]at V|-;obtain⟨q1,q2⟩:=V;refine⟨by simpa[dQ,fZ,lO]using q1,fun i x e q he=>?_⟩;unfold dQ at q;rw[bY]at q;obtain⟨r,k,rfl⟩:=eL.1 q;have hp:=CL (K:=K) (ks:=ks) k;have U:(gi r 3).bV=true:=dN.1 h r (eS k);obtain⟨a1,a2,a3,a4,a5⟩:=q2 i _ e (Mp hp) he;refine⟨bD O _ a1,?_,a3,a4,Ct.tK (.agg [.list ks,.list ks]) (gi r 1).rV⟩;obtain⟨va,vb,hab,ha1,hb1⟩:=k00 e (eS he);have side:∀(s:Bool) (sl:LL),(gK s (oG K ks r)).2.1=some (sl.map (aX ks))->ad { w:=E.w,H:=E.H.set id (.map (dQ K (.agg [.list ks,.list ks]) rZ) cl),ae:=E.ae,X:=E.X.re (jd E.X.r l) } (.listF ks sl) (qV s e.val):=fun s sl hs1=>by
   have hs2:=k2 s i _ (sl.map (aX ks)) e hp hs1 he;rw[kq];simp only[ad];have hcl:fv (sl.map (aX ks)):=by
    intro r k;obtain⟨g,_,rfl⟩:=dB.1 k;exact gJ ks g
   refine⟨hcl,?_⟩;rcases hs2 with⟨s1,aN,s2⟩|⟨bb,mm,s1,s2,s3,s4,s5,s6⟩
   ·rw [s1]
    exact⟨aN,0,s2,aM _,.inl rfl⟩
   ·refine ⟨_, mm, s2, s4, .inr ⟨bb, 0, rfl, ⟨(d.heap.cS _ _ _ _ s1).1, ?_, (d.heap.cS _ _ _ _ s1).2⟩, gz (fun a _ k => bD O a k) rfl s6⟩⟩
    rintro(⟨j,c',v⟩|⟨l',k',c',v⟩)
    ·exact d.heap.du _ _ _ _ _ _ v s1
    ·obtain ⟨j1, j2⟩ := j6 v
     exact j2 (d.heap.fN _ _ _ _ _ _ _ j1 s1).1
  have r0:=side false (mD r 0) (by simp only[oG,gK,U,cT,cF]);have r1:=side true (mD r 1) (by simp only[oG,gK,U,cT]);rw[hab]at r0 r1|-;have r0:ad _ (.listF ks (mD r 0)) va:=r0;have r1:ad _ (.listF ks (mD r 1)) vb:=r1;show ad _ (.agg [.listF ks (mD r 0),.listF ks (mD r 1)]) (.agg #[va,vb])
  rw[ad];refine⟨_,rfl,fun y hy=>?_,?_⟩
  ·simp at hy
   rcases hy with rfl|rfl
   ·exact ha1
   ·exact hb1
  ·simp only [ax, and_true]
   exact⟨r0,r1⟩
 have M:az (s.H.set id (.map K (.agg [.list ks,.list ks]) rZ cl))=E.H.set id (.map (dQ K (.agg [.list ks,.list ks]) rZ) cl):=by rw[cQ,hH]; rfl
 refine⟨E.ae,E.X.re (jd E.X.r l),?_,?_⟩
 ·simp only [aH.ar]
  rw[M];exact⟨rfl,eh W _ d.fr,d.defers,h1⟩
 ·simp only [aH.ar]
  rw[M];exact W.toM
def Z2{m:Nat}{aq:Nat}{s:aH}(h:(Dx aq s).1=true):bG m s.ar (Dx aq s).2.ar:=by
 unfold Dx at h|-;split
 case h_2=>exact bG.refl _
 rename_i id hsl;split
 case h_2=>exact bG.refl _
 rename_i l K ks rZ cl M;simp only[hsl,M]at h;intro E a d;have hH:E.H=az s.H:=d.H;have y:E.H[id]? = some (.a7 l ks.length (gD K ks rZ) cl):=by rw[hH]; exact bu M
 have ho:=d.heap.obj id _ y;simp only[aZ]at ho;obtain⟨b,n,ms,g1,g2,O,hh,k1,k2⟩:=ho;obtain⟨h1,U⟩:=aJ.GU (o':=.map (dQ K (.one (.list ks)) rZ) cl) d.heap y rfl rfl rfl fun N=>by
  simp only[aZ];refine⟨b,n,ms,g1,g2,?_⟩;rw[e9]at O|-;obtain⟨q1,q2⟩:=O;refine⟨by simpa[dQ,dj,gD]using q1,fun i x e q he=>?_⟩;unfold dQ at q;rw[bY]at q;obtain⟨r,k,rfl⟩:=eL.1 q;have V:=v_ (K:=K) (ks:=ks) k;have hin:(gi r 3).bV=true:=dN.1 h r (eS k);obtain⟨W,a2,a3,a4,a5⟩:=q2 i _ e (yU V) he;rw[CM]at W a4;refine⟨bD N _ W,?_,a3,a4,rfl⟩;have hs2:=k2 i _ ((j_ r).map (aX ks)) e V (by simp only[jN,hin,cT]) he;show ad _ (.listF ks (j_ r)) e.val
  rw[kq];simp only[ad];have hcl:fv ((j_ r).map (aX ks)):=by
   intro r k;obtain⟨g,_,rfl⟩:=dB.1 k;exact gJ ks g
  refine⟨hcl,?_⟩;rcases hs2 with⟨s1,aN,s2⟩|⟨bb,mm,s1,s2,s3,s4,s5,s6⟩
  ·rw [s1]
   exact⟨aN,0,s2,aM _,.inl rfl⟩
  ·refine ⟨_, mm, s2, s4, .inr ⟨bb, 0, rfl, ⟨(d.heap.cS _ _ _ _ s1).1, ?_, (d.heap.cS _ _ _ _ s1).2⟩, gz (fun a _ k => bD N a k) rfl s6⟩⟩
   rintro(⟨j,c',v⟩|⟨l',k',c',v⟩)
   ·exact d.heap.du _ _ _ _ _ _ v s1
   ·obtain ⟨j1, j2⟩ := j6 v
    exact j2 (d.heap.fN _ _ _ _ _ _ _ j1 s1).1
 have I:az (s.H.set id (.map K (.one (.list ks)) rZ cl))=E.H.set id (.map (dQ K (.one (.list ks)) rZ) cl):=by rw[cQ,hH]; rfl
 refine⟨E.ae,E.X.re (jd E.X.r l),?_,?_⟩
 ·simp only [aH.ar]
  rw[I];exact⟨rfl,eh U _ d.fr,d.defers,h1⟩
 ·simp only [aH.ar]
  rw[I];exact U.toM
def Z3{m:Nat}{aq:Nat}{s:aH}(h:(Dw aq s).1=true):bG m s.ar (Dw aq s).2.ar:=by
 unfold Dw at h|-;split
 case h_2=>exact bG.refl _
 rename_i id hsl;split
 case h_2=>exact bG.refl _
 rename_i l K ks rZ cl U;simp only[hsl,U]at h;intro E a d;have hH:E.H=az s.H:=d.H;have M:E.H[id]? = some (.a7 l ks.length (gD K ks rZ) cl):=by rw[hH]; exact bu U
 have ho:=d.heap.obj id _ M;simp only[aZ]at ho;obtain⟨b,n,ms,g1,g2,V,hh,k1,k2⟩:=ho;obtain⟨h1,W⟩:=aJ.GU (o':=.map (dQ K (.one (.list ks)) rZ) cl) d.heap M rfl rfl rfl fun q=>by
  simp only[aZ];refine⟨b,n,ms,g1,g2,?_⟩;rw[e9]at V|-;obtain⟨q1,q2⟩:=V;refine⟨by simpa[dQ,dj,gD]using q1,fun i x e y he=>?_⟩;unfold dQ at y;rw[bY]at y;obtain⟨r,k,rfl⟩:=eL.1 y;have hp:=v_ (K:=K) (ks:=ks) k;have N:((gi r 3).bV||(gi r 4).bV)=true:=dN.1 h r (eS k);obtain⟨a1,a2,a3,a4,a5⟩:=q2 i _ e (yU hp) he;rw[CM]at a1 a4;refine⟨bD q _ a1,?_,a3,a4,rfl⟩;cases v:(gi r 3).bV with
  | false =>
   rw[v,Bool.false_or]at N;have ev:(hZ (jN K ks r).1).2=.listF ks (j_ r):=by simp only[jN,v,N]; rfl
   rw[ev]at a2;exact bD q _ a2
  |true =>
  have hs2:=k2 i _ ((j_ r).map (aX ks)) e hp (by simp only[jN,v,cT]) he;show ad _ (.listF ks (j_ r)) e.val
  rw[kq];simp only[ad];have hcl:fv ((j_ r).map (aX ks)):=by
   intro r k;obtain⟨g,_,rfl⟩:=dB.1 k;exact gJ ks g
  refine⟨hcl,?_⟩;rcases hs2 with⟨s1,aN,s2⟩|⟨bb,mm,s1,s2,s3,s4,s5,s6⟩
  ·rw [s1]
   exact⟨aN,0,s2,aM _,.inl rfl⟩
  ·refine ⟨_, mm, s2, s4, .inr ⟨bb, 0, rfl, ⟨(d.heap.cS _ _ _ _ s1).1, ?_, (d.heap.cS _ _ _ _ s1).2⟩, gz (fun a _ k => bD q a k) rfl s6⟩⟩
   rintro(⟨j,c',I⟩|⟨l',k',c',I⟩)
   ·exact d.heap.du _ _ _ _ _ _ I s1
   ·obtain ⟨j1, j2⟩ := j6 I
    exact j2 (d.heap.fN _ _ _ _ _ _ _ j1 s1).1
 have O:az (s.H.set id (.map K (.one (.list ks)) rZ cl))=E.H.set id (.map (dQ K (.one (.list ks)) rZ) cl):=by rw[cQ,hH]; rfl
 refine⟨E.ae,E.X.re (jd E.X.r l),?_,?_⟩
 ·simp only [aH.ar]
  rw[O];exact⟨rfl,eh W _ d.fr,d.defers,h1⟩
 ·simp only [aH.ar]
  rw[O];exact W.toM
def Z4{m:Nat}{aq l:Nat}{s:aH}(h:(Dv aq l s).1=true):bG m s.ar (Dv aq l s).2.ar:=by
 unfold Dv at h|-;split
 case h_2=>exact bG.refl _
 rename_i id I;split
 case h_2=>exact bG.refl _
 rename_i K ks rZ cl k;simp only[I,k]at h;intro E a d;have hH:E.H=az s.H:=d.H;have y:E.H[id]? = some (.map (dQ K (.one (.list ks)) rZ) cl):=by rw[hH]; exact bu k
 obtain⟨h1,q⟩:=WL (w:=ks.length) (es:=gD K ks (rZ.map Du)) d.heap y (by
  simp only[dj,gD,dQ,List.map_map];rfl) (fun x v=>by
  unfold gD at v;obtain⟨r,M,rfl⟩:=dB.1 v;obtain⟨r0,_,rfl⟩:=dB.1 M;rfl) (by rw[hH]; exact h)
 have g:az (s.H.set id (.a7 l K ks (rZ.map Du) cl))=E.H.set id (.a7 l ks.length (gD K ks (rZ.map Du)) cl):=by rw[cQ,hH]; rfl
 refine⟨E.ae,E.X,?_,?_⟩
 ·simp only [aH.ar]
  rw[g];exact⟨rfl,eh q _ d.fr,d.defers,h1⟩
 ·simp only [aH.ar]
  rw[g];exact q.toM
def Z5{m:Nat}(h:Hint)(s:aH)(hb:(DD h s).1=true):bG m s.ar (DD h s).2.ar:=by
 cases h with
 |freeze i=>exact ZN hb
 | OP i ks =>
  simp only[DD];split
  ·rename_i h; exact NY h
  ·exact bG.refl _
 |OQ i c ks=>exact ZO
 |IC i=>exact ZR hb
 |OR i c=>exact ZP hb
 |hole ks=>exact ZS
 |wK=>exact ZT
 |a7 i l=>exact ZU hb
 |ID i=>exact Z2 hb
 |OS i l=>exact Z4 hb
 |OT i=>exact Z3 hb
 |mm i l d g=>exact ZV hb
 |Dm i c l d g=>exact ZW hb
 |forget i=>exact ZY
 |Dn i c ks=>exact ZQ
 |cM i l=>exact ZZ hb
 |bJ i l=>exact Z0 hb
 |IE i=>exact Z1 hb
def OU{m:Nat}:∀(d:List Hint) (s:aH),(Ah d s).1=true->bG m s.ar (Ah d s).2.ar
 | [],s,_=>bG.refl _
 | h::d,s,hb=>by
  simp only[Ah]at hb|-;simp only[aK]at hb;exact(Z5 h s hb.1).trans (OU d _ hb.2)
def OV:List (Nat × List Hint)->Nat->List Hint
 | [],_=>[]
 | (i,d)::l,id=>match aG id i with
  |true=>d
  |false=>OV l id
def LT.rU(L:LT)(d:List (Nat × List Hint)):LT:=⟨L.loops,fun id s=>Ah (OV d id) s,L.zH⟩
def pt{P:aj}{m:Nat}{c:Code}(d:List (Nat × List Hint)):aT P m (bH.rU d) c:=⟨fun _ _ _ _ _ h=>(nomatch h),fun id s hb=>OU _ s hb,fun _ _ _ _ _ h=>(nomatch h)⟩
end Go.AL

namespace Go.AL
open Go
variable [Dr]
def Z6{E:af}{ks:List Kd}{c:ao}(h:ad E (.listF ks []) c):ad E (.emptyS true) c\/ad E (.emptyS false) c:=by
 simp only[ad,fp,G.rZ,List.length_nil]at h;obtain⟨aN,cap,rfl,_,_⟩:=h;cases aN with
 |none=>exact .inl (by simp only[ad]; exact⟨_,_,rfl,rfl⟩)
 |some p=>exact .inr (by simp only[ad]; exact⟨_,_,rfl,rfl⟩)
def Z7{P:aj}{f:bP}{ks:List Kd}{H H':List ai}{v:AV}(h1:fO P f [.emptyS true] H v H')(q:fO P f [.emptyS false] H v H'):fO P f [.listF ks []] H v H':=by
 intro E g hH HE d
 match k:g.toList,d with
 | [],d=>simp[ax]at d
 | c::cs,d =>
  simp only[ax]at d;rcases Z6 d.1 with h|h
  ·exact h1 E g hH HE (by rw[k]; simp only[ax]; exact⟨h,d.2⟩)
  ·exact q E g hH HE (by rw[k]; simp only[ax]; exact⟨h,d.2⟩)
end Go.AL

namespace Go.AL
open Go Go.ChangeMaps
variable [Dr]
def dX.oM{s:St}{E:af}{a:Act}(d:dX s E a)(t:Tmp){v:AV}{u:ao}(g:ad E v u):dX (s.put (some t) v s.H) E (a.put (some t) u) :=
 ⟨d.H,Mz d.fr (af.le.refl E) (some t) g,by rw[put_defers]; exact d.defers,d.heap⟩
def Ai{m:Nat}{E E':af}(h:E.gC m E'):E.bU E' :=
 ⟨fun b hb=>⟨⟨Nat.lt_of_lt_of_le hb.1 h.size,h.ab b hb.1 hb.2.1,fun d=>hb.2.2 ((h.X b hb.1).1.1 d)⟩,h.same b hb.1 hb.2.1⟩⟩
def wL{P:aj}{ah:Array aU}{Q:Exit->Act->a_->Prop}{i:Nat}{o:aU}{K:Act->a_->Prop}{a:Act}{w w':a_}{u:ao}
  (hi:ah[i]? = some o) (g:o.guard=none) (h:(execOp a.eval o).run P w=.ok (.value u) w') (d:∀ c,o.op≠.defer c) (k:Option Nat) (q:K (a.put o.dst u) w'):wpOpIn (fz k) 0 P ah Q i K a w:=by
 unfold wpOpIn;simp only[hi];rw[iP (by simp[Region.wanted,g])];unfold Oper.wpIn;rw[Oper.semAt_eq _ _ _ d,h];exact⟨fun _ _=>trivial,q⟩
def OW{P:aj}{pf:bP->Bool}{ah:Array aU}{Q:Exit->Act->a_->Prop}(g:Option Nat):∀(l:List aU) (k:Nat) (s s':St) (E:af) (a:Act) (d:List Nat),
  (∀(j:Nat) (o:aU),l[j]? = some o->ah[k+j]? = some o)->k_ P pf ah l s s'->dX s E a->(∀ q w',gB E s' q w'->wpOpsIn (fz g) 0 P ah Q d q w')->wpOpsIn (fz g) 0 P ah Q (FX k l.length++d) a E.w
 | [],k,s,s',E,a,d,_,h,y,I=>by
  simp only[k_]at h;subst h;exact I _ _ (gB.refl y)
 | o::l,k,s,s',E,a,d,M,h,y,I=>by
  obtain⟨v,H',V,N⟩:=h;simp only[cn,KJ,mr];rw[wpOpsIn_cons];refine G_ y (by simpa using M 0 o rfl) V (fun q w' W=>?_) g;obtain⟨O,r',h1,h2⟩:=W;refine OW g l (k+1) _ s' { w:=w',H:=H',ae:=O,X:=E.X.re r' } q d (fun j x hx=>?_) N h1 (fun a2 w2 U=>I a2 w2 (gB.after h2 U));have:=M (j+1) x (by simpa using hx)
  rwa [show k+1+j=k+(j+1) from by omega]
def DE{a:Act}{t:Tmp}{u:ao}(h:t<a.tmps.size):(a.put (some t) u).eval (.tmp t)=u:=by
 simp[Act.eval,KW,h]
def bh.rW:bh->Option (cD × aH)
 |.fail=>none
 |.done x s=>some (x,s)
 | .ask b t e=>match b with
  |true=>t.rW
  |false=>e.rW
 | .side b t=>match b with
  |true=>t.rW
  |false=>none
def DF:∀{t:bh} {x:cD} {s:aH},t.rW=some (x,s)->t.holds fun d s'=>d=x/\s'=s
 |.fail,_,_,h=>by cases h
 | .done _ _,_,_,h=>by
  cases h;exact⟨rfl,rfl⟩
 | .ask b t e,_,_,h=>by
  cases b with
  |true=>exact⟨fun _=>DF (t:=t) h,fun h=>(nomatch h)⟩
  |false=>exact⟨fun h=>(nomatch h),fun _=>DF (t:=e) h⟩
 | .side b t,_,_,h=>by
  cases b with
  |true=>exact⟨rfl,DF (t:=t) h⟩
  |false=>cases h
def gf(st:LG->LG->Option LG)(cL:LG->Nat):LL->LG->Option LG
 | [],d=>some d
 | r::rs,d=>match st r d with
  |some g=>bif aG (cL g) (cL d) then gf st cL rs g else none
  |none=>none
def II{st:LG->LG->Option LG}{cL:LG->Nat}:∀(p q:LL) (d:LG),gf st cL (p++q) d=(gf st cL p d).bind (gf st cL q)
 | [],_,_=>rfl
 | r::p,q,d=>by
  simp only[mr,gf];cases st r d with
  |none=>rfl
  | some g =>
   simp only[];cases aG (cL g) (cL d)with
   |false=>rfl
   |true=>exact II p q g
def fC(r:LG):Nat:=(gi r 2).iV.toNat
def OX{f:LG->Nat}{r:LG}:∀{l:LL} {seen:Array Nat},(l.map f).Nodup->r∈l->seen.contains (f r)=false ->
  (l.filter fun x => !seen.contains (f x)).Perm (r::l.filter fun x => !(seen.push (f r)).contains (f x))
 | [],_,_,h,_=>by cases h
 | x::l,seen,hn,hm,d=>by
  obtain⟨g,hn⟩:=pW.1 hn;rcases cq.1 hm with rfl|hm
  ·have e:(l.filter fun x => !(seen.push (f r)).contains (f x))=l.filter fun x => !seen.contains (f x):=by
    apply List.filter_congr;intro y v;have:(f y==f r)=false:=by
     rw[beq_eq_false_iff_ne];intro e;exact g (e▸dB.2 ⟨y,v,rfl⟩)
    rw[contains_push,this,o9]
   rw[List.filter_cons_of_pos (by rw[d]; rfl),List.filter_cons_of_neg (by rw[contains_push]; simp),e]
  ·have q:(f x==f r)=false:=by
    rw[beq_eq_false_iff_ne];intro e;exact g (e▸dB.2 ⟨r,hm,rfl⟩)
   have k:=OX hn hm d;simp only[List.filter_cons,contains_push seen (f r) (f x),q,o9];cases seen.contains (f x)with
   |true=>simpa using k
   | false =>
    simp only[Bool.not_false,if_true];exact(List.Perm.cons x k).trans (List.Perm.swap r x _)
structure ke where
 inv:qt
 ps:List mI
 opens:List (Nat × List Kd)
 K:Ct
 V:Ct
 id:Nat
 x:Tmp
 y:Tmp
 it:Tmp
 t1:Tmp
 t2:Tmp
 t3:Tmp
 cL:LG->Nat
 init:LG->Nat->LG
 side:LG->Nat->Bool
 st:LG->LG->Option LG
def ke.rs(sp:ke)(r d:LG):aH:=⟨(ct sp.inv d).fr.set sp.t3 (.tuple [sp.K.av (gi r 0).rV,sp.V.av (gi r 1).rV]),(ct sp.inv d).H⟩
def ke.s2(sp:ke)(s:aH)(b:Nat):aH:=⟨s.fr.set sp.it (.lit (.pointer (some ⟨b,0,none⟩))),s.H.set sp.id (.raw .dead)⟩
def DG(m:Nat)(inv:qt)(ps:List mI)(x:cD)(s:aH):Option (Bool × LG) :=
 match x with
 |.normal=>nI m inv ps s
 |_=>none
structure Aj (P:aj) (sp:ke) (dY fJ dR:Array aU):Prop where
 r0:∃ o2 ty,dY.toList=dY.toList.dropLast++[o2]/\o2.guard=none/\o2.op=.range ty (.tmp sp.y)/\o2.dst=some sp.it/\(dO P ty).isSome=true
 r1:∃ o1 o2,fJ.toList=[o1,o2]/\o1.guard=none/\o1.op=.next (.tmp sp.it) false/\o1.dst=some sp.t1/\o2.guard=none/\o2.op=.extract (.tmp sp.t1) 0/\o2.dst=some sp.t2
 r2:∃ o1 l,dR.toList=o1::l/\o1.guard=none/\o1.op=.entry (.tmp sp.it)/\o1.dst=some sp.t3
def rX(r0 d r1 g r2:Nat)(dY fJ dR:Array aU)(t2:Tmp)(body:Code):Code :=
 .seq (.region r0 dY false) (.block d (.loop (.seq (.region r1 fJ false) (.seq (.cond (.tmp t2) .skip (.exit d)) (.block g (.seq (.region r2 dR false) body))))))
def Z8{d:Option Nat}{r0 g r1 k r2:Nat}{dY fJ dR:Array aU}{t2:Tmp}{body:Code}(h:ig d (rX r0 g r1 k r2 dY fJ dR t2 body)):ig d body:=h.imp id fun h=>by
 simpa[rX,j8]using h
section range
variable {P:aj} {τ:aD} {L:LT} {m:Nat} {sp:ke} {dY fJ dR:Array aU} {body:Code}
def ud(P:aj)(τ:aD)(L:LT)(m:Nat)(sp:ke)(dR:Array aU)(body:Code):Prop :=
 ∀ r d,(rE P τ dR (dR.toList.drop 1) (sp.rs r d) (fun s=>il P τ L body s .done)).leaf (DG m sp.inv sp.ps)=sp.st r d
def Z9(hm:P.follows .mixedOrders=true)(v:aI P τ)(y:aT P m L body)(I:ud P τ L m sp dR body){r d q:LG}(h:sp.st r d=some q) :
  ∃ k:aH,k_ P τ.pf dR (dR.toList.drop 1) (sp.rs r d).ar k.ar/\en P m body k.ar .normal (ct sp.inv q).ar:=by
 rw[<-I r d]at h;obtain⟨k,h1,M⟩:=C0 v (Q:=fun x s=>DG m sp.inv sp.ps x s=some (true,q)) (rL h);obtain⟨x,N,O,g⟩:=nE hm v body k .done y M;have g:DG m sp.inv sp.ps x N=some (true,q):=g;unfold DG at g;split at g
 ·exact⟨k,h1,vM O (qu g)⟩
 ·cases g
def IJ(P:aj)(τ:aD)(m:Nat)(sp:ke)(dR:Array aU)(body:Code)(k:Nat):Prop:=∀ r d g,sp.st r d=some g ->
 ∃(h:aH) (x:cD),(x=.normal\/x=.exit k)/\k_ P τ.pf dR (dR.toList.drop 1) (sp.rs r d).ar h.ar/\en P m body h.ar x (ct sp.inv g).ar
def Z_(hm:P.follows .mixedOrders=true)(g:aI P τ)(k:aT P m L body)(q:ud P τ L m sp dR body)(v:Nat):IJ P τ m sp dR body v:=fun r d M h=>by
 obtain⟨y,h1,I⟩:=Z9 hm g k q h;exact⟨y,.normal,.inl rfl,h1,I⟩
def OY(m:Nat)(sp:ke)(E:af)(rZ:LL)(y:LG)(h k g:Nat)(v:Array MapEntry)(a:Act)(w:a_):Prop :=
 ∃(d:LG) (ae:List (Option (Nat × Nat))) (X:XS) (seen:Array Nat) (q:Nat) (p:LL),
  gf sp.st sp.cL p y=some d/\sp.cL d=h/\(p++rZ.filter fun x => !seen.contains (fC x)).Perm rZ /\
  dX (ct sp.inv d).ar { w:=w,H:=(ct sp.inv d).ar.H,ae:=ae,X:=X } a/\E.gC m { w:=w,H:=(ct sp.inv d).ar.H,ae:=ae,X:=X }/\X h /\
  w.heap[h]? = some (.mapIter (some k) g seen q)/\g<=q/\w.heap[k]? = some (.map v g) /\
  ¬ af.ab { w:=w,H:=(ct sp.inv d).ar.H,ae:=ae,X:=X } k/\bL { w:=w,H:=(ct sp.inv d).ar.H,ae:=ae,X:=X } (dQ sp.K sp.V rZ) v.toList
def dX.DH{s:St}{E:af}{a:Act}(d:dX s E a){t:Tmp}(g:s.fr[t]? = some .undef)(u:ao):dX s E (a.put (some t) u):=by
 have h:=d.oM t (v:=.undef) (u:=u) (by simp[ad]);have e:s.put (some t) .undef s.H=s:=by
  simp only[St.put,mC,ph g]
 rwa [e]at h
def OZ{s:St}{E:af}{a:Act}(g:dX s E a){t:Tmp}{v:AV}(h:s.fr[t]? = some v):t<a.tmps.size:=by
 have h1:s.fr.length=a.tmps.size:=by simpa using(pZ.1 g.fr).1
 have d:t<s.fr.length:=aY h;rw[h1]at d;exact d
def O0{o:aU}{t:Tmp}{a:Act}{w:a_}{cs:Array ao}{u:ao}(d:o.op=.extract (.tmp t) 0)(g:a.eval (.tmp t)=.tuple cs)(h:cs[0]? = some u) :
  (execOp a.eval o).run P w=.ok (.value u) w:=by
 obtain⟨dst,op,k,pos,after,guard⟩:=o;subst d;exact nr (by simp[Instr.extract,g,h])
def O1{o:aU}{t:Tmp}{a:Act}{w w':a_}{x u:ao}(d:o.op=.next (.tmp t) false)(g:a.eval (.tmp t)=x)(h:(Instr.next x false o.type).run P w=.ok u w') :
  (execOp a.eval o).run P w=.ok (.value u) w':=by
 obtain⟨dst,op,k,pos,after,guard⟩:=o;subst d;subst g;exact nr h
def Z'{o:aU}{t:Tmp}{a:Act}{w w':a_}{x u:ao}(d:o.op=.entry (.tmp t))(g:a.eval (.tmp t)=x)(h:(Instr.entry x).run P w=.ok u w') :
  (execOp a.eval o).run P w=.ok (.value u) w':=by
 obtain⟨dst,op,k,pos,after,guard⟩:=o;subst d;subst g;exact nr h
def aaa{o:aU}{t:Tmp}{ty:TypeId}{a:Act}{w w':a_}{x u:ao}(d:o.op=.range ty (.tmp t))(g:a.eval (.tmp t)=x)(h:(Instr.range ty x).run P w=.ok u w') :
  (execOp a.eval o).run P w=.ok (.value u) w':=by
 obtain⟨dst,op,k,pos,after,guard⟩:=o;subst d;subst g;exact nr h
def IK{w:a_}{b:Nat}{o:Obj}(h:w.heap[b]? = some o):b<w.heap.size:=(Array.getElem?_eq_some_iff.1 h).1
def O2{w:a_}{r:Nat}{a:Option Nat}{b c:Nat}{s:Array Nat}(h:w.heap[r]? = some (.mapIter a b s c)):w.iterSeen r=s:=by
 unfold World.iterSeen;rw[h]
def aab(hm:P.follows .mixedOrders=true)(ht:aI P τ)(hL:aT P m L body)(ho:Aj P sp dY fJ dR)
  (hu1:∀ d,(ct sp.inv d).fr[sp.t1]? = some .undef) (hu2:∀ d,(ct sp.inv d).fr[sp.t2]? = some .undef) (hut:∀ d,(ct sp.inv d).fr[sp.it]? = some (.lit (.pointer (some ⟨sp.cL d,0,none⟩))))
  {E:af} {rZ:LL} {d0:LG} {itb mb clock:Nat} {ms:Array MapEntry} {r1 b0 b1 r2:Nat} (hr:IJ P τ m sp dR body b1)
  (hsz:E.w.heap.size<=itb) (hn:(rZ.map fC).Nodup) (hlt:∀ r∈rZ,fC r<clock) (hne:mb≠itb)
  (hfold:∀ p,p.Perm rZ->(gf sp.st sp.cL p d0).isSome=true) {a:Act} {w:a_} (hI:OY m sp E rZ d0 itb mb clock ms a w) (k:Option Nat) (hro:ig k body) :
  (Code.loop (.seq (.region r1 fJ false) (.seq (.cond (.tmp sp.t2) .skip (.exit b0)) (.block b1 (.seq (.region r2 dR false) body))))).wpIn (fz k) 0 P
   (fun e a1 W=>e=.exit b0/\∃ p d,p.Perm rZ/\gf sp.st sp.cL p d0=some d/\fy m E (ct sp.inv d).ar a1 W) a w:=by
 obtain⟨o1,o2,e1,g1,p1,q1,g2,p2,q2⟩:=ho.r1;obtain⟨o3,l,e3,g3,p3,q3⟩:=ho.r2;refine wpIn_loop (OY m sp E rZ d0 itb mb clock ms) (fun _ w=>(leftOf ms (w.iterSeen itb)).size) hI fun a w hI=>?_;obtain⟨d,ae,X,seen,last,p,hf,had,hp,M,y,hXi,hit,hcl,hmb,hown,hre⟩:=hI;have h10:fJ[0]? = some o1:=by
  have:fJ.toList[0]? = some o1:=by rw[e1]; rfl
  simpa using this
 have h11:fJ[1]? = some o2:=by
  have:fJ.toList[1]? = some o2:=by rw[e1]; rfl
  simpa using this
 have hsz1:fJ.size=2:=by
  have:fJ.toList.length=2:=by rw[e1]; rfl
  simpa using this
 have hiv:a.eval (.tmp sp.it)=.pointer (some ⟨itb,0,none⟩):=by
  have h:=M.eval (.tmp sp.it);have e:(ct sp.inv d).ar.eval (.tmp sp.it)=.lit (.pointer (some ⟨sp.cL d,0,none⟩)):=by
   show (ct sp.inv d).fr.getD sp.it .undef=_
   rw[cd,hut d];rfl
  rw[e]at h;simp only[ad]at h;rw[h,had]
 obtain⟨hlen,hen⟩:=e9.1 hre;have hl1:(dQ sp.K sp.V rZ).length=rZ.length:=by simp[dQ]
 have row_of:∀(i:Nat) (e:MapEntry),ms.toList[i]? = some e->∃ r,rZ[i]? = some r/\e.born=fC r:=by
  intro i e hi;have h1:=aY hi;have q:i<rZ.length:=by omega
  refine⟨rZ[i],bZ q,?_⟩;exact(hen i (sp.K.av (gi rZ[i] 0).rV,sp.V.av (gi rZ[i] 1).rV,(gi rZ[i] 2).iV.toNat) e (by simp[dQ,q]) hi).2.2.1
 have hold:∀ x∈ms.toList,x.born<clock:=by
  intro x N;obtain⟨i,hi⟩:=yr N;obtain⟨r,h1,q⟩:=row_of i x hi;rw[q];exact hlt r (eS h1)
 have hbn:(ms.toList.map (·.born)).Nodup:=by
  have:ms.toList.map (·.born)=rZ.map fC:=by
   apply List.ext_getElem?;intro i;simp only[bY];cases hi:ms.toList[i]? with
   | none =>
    have h1:=List.getElem?_eq_none_iff.1 hi;rw[List.getElem?_eq_none (by omega)];rfl
   | some e =>
    obtain⟨r,h1,q⟩:=row_of i e hi;rw[h1];simp[q]
  rw[this];exact hn
 refine wpIn_seq (wpIn_region ?_);rw[hsz1];show wpOpsIn (fz k) 0 P fJ _ [0,1] a w
 rw[wpOpsIn_cons];have hlt1:=OZ M (hu1 d);have hlt2:=OZ M (hu2 d);rcases run_next_at (P:=P) w o1.type itb mb clock last seen ms clock hit hmb hold hcl with⟨h0,hrun⟩|⟨e,he,W,hw1,hrun⟩
 ·refine wL h10 g1 (O1 p1 hiv hrun) (fun c e => by rw [p1] at e; cases e) k ?_
  rw[q1,wpOpsIn_cons];refine wL h11 g2 (O0 p2 (DE hlt1) rfl) (fun c e=>by rw[p2]at e; cases e) k ?_;rw[q2];show (Code.seq _ _).wpIn (fz k) 0 P _ _ w
  refine wpIn_seq (wpIn_cond_false (DE (by simpa[KW]using hlt2)) (wpIn_exit ?_));refine⟨rfl,p,d,?_,hf,ae,X,?_,y⟩
  ·have:(rZ.filter fun x => !seen.contains (fC x))=[]:=by
    rw[List.filter_eq_nil_iff];intro x N hc;obtain⟨i,hi⟩:=yr N;have h1:=aY hi;have q:i<ms.toList.length:=by omega
    obtain⟨r,h3,h4⟩:=row_of i _ (bZ q);rw[hi]at h3;cases h3;have:ms.toList[i]∈(leftOf ms seen).toList:=by
     unfold leftOf;rw[Array.toList_filter];refine s9.2 ⟨u7 q,?_⟩;rw[h4];exact hc
    have h5:(leftOf ms seen).toList.length=0:=by simpa using h0
    rw[List.length_eq_zero_iff.1 h5]at this;cases this
   rwa [this,da]at hp
  ·exact(M.DH (hu1 d) (.tuple #[.bool false])).DH (hu2 d) (.bool false)
 ·refine wL h10 g1 (O1 p1 hiv hrun) (fun c e => by rw [p1] at e; cases e) k ?_
  rw[q1,wpOpsIn_cons];refine wL h11 g2 (O0 p2 (DE hlt1) rfl) (fun c e=>by rw[p2]at e; cases e) k ?_;rw[q2];show (Code.seq _ _).wpIn (fz k) 0 P _ _ _
  refine wpIn_seq (wpIn_cond_true (DE (by simpa[KW]using hlt2)) (wpIn_skip ?_));show (Code.block _ _).wpIn (fz k) 0 P _ _ _
  refine wpIn_block (wpIn_seq (wpIn_region ?_));generalize hw2:setBlock W itb (.mapIter (some mb) clock (seen.push e.born) clock)=g;have hw1h:W.heap=w.heap:=by rcases hw1 with rfl|rfl<;>rfl
  have hos:fw w g:=by rw[<-hw2]; rcases hw1 with rfl|rfl<;>exact⟨rfl,rfl,rfl,by first|exact fun _=>aM _|exact fun _=>gY _ _⟩
  have hit2':g.heap[itb]? = some (.mapIter (some mb) clock (seen.push e.born) clock):=by
   rw[<-hw2];exact(amv (by rw[hw1h]; exact hit)).1
  have hother:∀ b,b≠itb->g.heap[b]? = w.heap[b]? := by
   intro b hb;rw[<-hw2];show (W.heap.setIfInBounds itb _)[b]? = _
   rw[(amv (by rw[hw1h]; exact hit)).2 b hb,hw1h]
  have hsize:g.heap.size=w.heap.size:=by
   rw[<-hw2];show (W.heap.setIfInBounds itb _).size=_
   simp[hw1h]
  have hmb2:g.heap[mb]? = some (.map ms clock):=by rw[hother mb hne]; exact hmb
  have jy:nv { w:=w,H:=(ct sp.inv d).ar.H,ae:=ae,X:=X } { w:=g,H:=(ct sp.inv d).ar.H,ae:=ae,X:=X } :=
   ⟨rfl,rfl,by show w.heap.size<=g.heap.size; omega,fun b hb N=>⟨N,hother b (fun e=>N (by rw[e]; exact hXi))⟩,fun b hb=>by show b<g.heap.size; rw[hsize]; exact M.heap.X b hb,rfl⟩
  have hmk:pb g X a.defers:=⟨M.defers.1,fun dd hdd=>by
   obtain⟨D,e,h1,q,h3⟩:=M.defers.2 dd hdd;exact⟨D,e,by rw[hother D (fun e=>by rw[e]at h1; rw[hit]at h1; cases h1)]; exact h1,q,h3⟩⟩
  have hs1:=((M.jy jy hmk).DH (hu1 d) (.tuple #[.bool true,e.key,e.val])).DH (hu2 d) (.bool true);obtain⟨hem,hes⟩:=mem_left he;obtain⟨i,hi⟩:=yr hem;obtain⟨r,hri,hrb⟩:=row_of i e hi;have hrm:=eS hri;have hre2:=kF jy.toC hre;obtain⟨k1,k2,_⟩:=(e9.1 hre2).2 i (sp.K.av (gi r 0).rV,sp.V.av (gi r 1).rV,(gi r 2).iV.toNat) e (by simp[dQ,hri]) hi;have hiv1:((a.put (some sp.t1) (.tuple #[.bool true,e.key,e.val])).put (some sp.t2) (.bool true)).eval (.tmp sp.it)=.pointer (some ⟨itb,0,none⟩):=by
   have h:=hs1.eval (.tmp sp.it);have e:(ct sp.inv d).ar.eval (.tmp sp.it)=.lit (.pointer (some ⟨sp.cL d,0,none⟩)):=by
    show (ct sp.inv d).fr.getD sp.it .undef=_
    rw[cd,hut d];rfl
   rw[e]at h;simp only[ad]at h;rw[h,had]
  have h20:dR[0]? = some o3:=by
   have:dR.toList[0]? = some o3:=by rw[e3]; rfl
   simpa using this
  have hl2:dR.toList.drop 1=l:=by rw[e3]; rfl
  have hsz2:dR.size=l.length+1:=by
   have:dR.toList.length=l.length+1:=by rw[e3]; rfl
   simpa using this
  have hlp:(p++(r::rZ.filter fun x => !(seen.push (fC r)).contains (fC x))).Perm rZ :=
   (List.Perm.append_left p (OX hn hrm (by rw[<-hrb]; exact hes)).symm).trans hp
  have O:∃ I,sp.st r d=some I/\sp.cL I=sp.cL d:=by
   have h:=hfold _ hlp;rw[II,hf]at h;simp only[amw,gf]at h;cases O:sp.st r d with
   |none=>rw[O]at h; cases h
   | some I =>
    rw[O]at h;simp only[]at h;cases hb:aG (sp.cL I) (sp.cL d)with
    |true=>exact⟨I,rfl,bz hb⟩
    |false=>rw[hb]at h; cases h
  obtain⟨I,O,had'⟩:=O;have hf':gf sp.st sp.cL (p++[r]) d0=some I:=by
   rw[II,hf];simp only[amw,gf,O,had'];simp
  obtain⟨s4,xe,hxe,ha4,hsat⟩:=hr r d I O;rw[hsz2,Vr,KJ,wpOpsIn_cons];refine wL h20 g3 (Z' p3 hiv1 (run_entry_at (P:=P) g itb mb clock seen ms clock e hit2' hmb2 hem hbn)) (fun c e=>by rw[p3]at e; cases e) k ?_;rw[q3];have hs3:=hs1.oM sp.t3 (v:=.tuple [sp.K.av (gi r 0).rV,sp.V.av (gi r 1).rV]) (u:=.tuple #[e.key,e.val]) (by simp only[ad]; exact⟨_,rfl,by simp only[ax]; exact⟨k1,k2,trivial⟩⟩);refine G' (pf:=τ.pf) (ah:=dR) l (0+1) (sp.rs r d).ar s4.ar { w:=g,H:=(ct sp.inv d).ar.H,ae:=ae,X:=X } _ (by rw[<-hl2]) (by rw[hl2]at ha4; exact ha4) hs3 (fun a3 w3 hc3=>?_) k;obtain⟨loc3,r3,hs4,hle3⟩:=hc3;show body.wpIn (fz k) 0 P _ a3 w3
  refine wpIn_mono (hsat k hro { w:=w3,H:=s4.ar.H,ae:=loc3,X:=X.re r3 } a3 hs4) fun x a4 w4 N=>?_;obtain⟨rfl,loc4,X4,hs5,hle4⟩:=N;have key:∀{R:Exit->Act->a_->Prop},R .normal a4 w4->Vs b1 R xe.toExit a4 w4:=fun h=>by
   rcases hxe with rfl|rfl
   ·exact h
   ·show (if b1 = b1 then _ else _)
    rw[iP rfl];exact h
  refine key ?_;have U:({ w:=g,H:=(ct sp.inv d).ar.H,ae:=ae,X:=X }:af).gC m { w:=w4,H:=(ct sp.inv I).ar.H,ae:=loc4,X:=X4 }:=hle3.toM.trans hle4;have hXsz:itb<g.heap.size:=IK hit2';have hnown:¬ af.ab { w:=g,H:=(ct sp.inv d).ar.H,ae:=ae,X:=X } itb:=by
   exact(M.heap.jy jy).Gh hXi
  have hmbsz:mb<g.heap.size:=IK hmb2;have hit4:w4.heap[itb]? = some (.mapIter (some mb) clock (seen.push e.born) clock):=by rw[U.same itb hXsz hnown]; exact hit2'
  refine⟨⟨I,loc4,X4,seen.push e.born,clock,p++[r],hf',by rw[had',had],?_,hs5,?_,(U.X itb hXsz).1.2 hXi,hit4,aM _,?_,?_,?_⟩,?_⟩
  ·rw [hrb, gG]
   exact hlp
  ·refine af.gC.trans (E' := { w := g, H := (ct sp.inv d).ar.H, ae := ae, X := X }) ⟨y.bx, ?_, ?_, y.ab, y.live, y.X, y.rl, y.env.trans hos, y.grow⟩ U
   ·have := y.size
    show E.w.heap.size<=g.heap.size
    rw[hsize];exact this
   ·intro b hb hbo
    show g.heap[b]? = _
    rw[hother b (by omega)];exact y.same b hb hbo
  ·rw [U.same mb hmbsz hown]
   exact hmb2
  ·exact U.ab mb hmbsz hown
  ·exact kF (Ai U) hre2
  ·show (leftOf ms (w4.iterSeen itb)).size < (leftOf ms (w.iterSeen itb)).size
   rw[O2 hit4,O2 hit];exact left_shrinks ms seen e he
def aac(hm:P.follows .mixedOrders=true)(ht:aI P τ)(hL:aT P m L body)(ho:Aj P sp dY fJ dR)
  (hu1:∀ d,(ct sp.inv d).fr[sp.t1]? = some .undef) (hu2:∀ d,(ct sp.inv d).fr[sp.t2]? = some .undef) (hut:∀ d,(ct sp.inv d).fr[sp.it]? = some (.lit (.pointer (some ⟨sp.cL d,0,none⟩))))
  {r1 b0 b1 r2:Nat} (hr:IJ P τ m sp dR body b1)
  {s:aH} {d:LG} {rZ:LL} {I:Nat} (hx:s.eval (.tmp sp.y)=.map sp.id) (hid:s.H[sp.id]? = some (.map sp.K sp.V rZ I)) (hn:(rZ.map fC).Nodup)
  (hlt:∀ r∈rZ,fC r<I) (hin:∀ b,nI m sp.inv sp.ps (lY sp.opens (sp.s2 s b))=some (true,sp.init d b)) (hadr:∀ b,sp.cL (sp.init d b)=b)
  (hfold:∀ b p,p.Perm rZ->(gf sp.st sp.cL p (sp.init d b)).isSome=true) (E:af) (a:Act) (q:dX s.ar E a) (U:Option Nat) (hro:ig U body) {Q:Exit->Act->a_->Prop}
  (hQ:∀ a1 w1,(∃ b p d',p.Perm rZ/\gf sp.st sp.cL p (sp.init d b)=some d'/\fy m E (ct sp.inv d').ar a1 w1)->Q .normal a1 w1) :
  wpOpsIn (fz U) 0 P dY (Exit.then ((Code.block b0 (.loop (.seq (.region r1 fJ false) (.seq (.cond (.tmp sp.t2) .skip (.exit b0)) (.block b1 (.seq (.region r2 dR false) body)))))).wpIn (fz U) 0 P Q) Q) [dY.toList.dropLast.length] a E.w:=by
 obtain⟨o2,ty,e1,g2,p2,q2,hty⟩:=ho.r0;have h11:dY[dY.toList.dropLast.length]? = some o2:=by
  have:dY.toList[dY.toList.dropLast.length]? = some o2:=by
   rw[e1];simp
  simpa using this
 have hid':E.H[sp.id]? = some (.map (dQ sp.K sp.V rZ) I):=by
  rw[q.H];exact bu hid
 have hrx:ad E (.map sp.id) (a.eval (.tmp sp.y)):=by
  have:=q.eval (.tmp sp.y)
  rwa [aH.po,hx]at this
 obtain⟨M,n,ms,hc,hloc,hmb,hre⟩:=vD q.heap hid' hrx;obtain⟨⟨kt,et⟩,hty⟩:=Option.isSome_iff_exists.1 hty;have hmbs:M<E.w.heap.size:=IK hmb;rw[wpOpsIn_cons];refine wL h11 g2 (aaa p2 hc (run_range_map E.w ty kt et M ms I (gn hty) hmb)) (fun c e=>by rw[p2]at e; cases e) U ?_;rw[q2];show (Code.block _ _).wpIn (fz U) 0 P _ _ _
 generalize hw2:E.w.alloc (.mapIter (some M) I #[] I)=g;have hsize:g.heap.size=E.w.heap.size+1:=by rw[<-hw2]; show (E.w.heap.push _).size=_; simp
 have hold:∀ b,b<E.w.heap.size->g.heap[b]? = E.w.heap[b]? := fun b hb=>by rw[<-hw2]; exact(show (E.w.heap.push _)[b]? = _ by rw[Array.getElem?_push,iN (by omega)])
 have hitn:g.heap[E.w.heap.size]? = some (.mapIter (some M) I #[] I):=by rw[<-hw2]; exact(show (E.w.heap.push _)[E.w.heap.size]? = _ by simp)
 have hos:fw E.w g:=by rw[<-hw2]; exact⟨rfl,rfl,rfl,by first|exact fun _=>aM _|exact fun _=>gY _ _⟩
 have hd:=af.yE q.heap sp.id;have hs2:dX ⟨s.fr,az (s.H.set sp.id (.raw .dead))⟩ { w:=E.w,H:=E.H.set sp.id .dead,ae:=E.ae.set sp.id none,X:=E.X } a:=by
  refine⟨?_,eh hd _ q.fr,q.defers,aJ.drop q.heap sp.id fun o ho=>by rw[hid']at ho; cases ho; rfl⟩;rw[cQ,show E.H=az s.H from q.H];rfl
 have jy:nv { w:=E.w,H:=E.H.set sp.id .dead,ae:=E.ae.set sp.id none,X:=E.X } { w:=g,H:=E.H.set sp.id .dead,ae:=E.ae.set sp.id none,X:=E.X.or fun b=>b=E.w.heap.size } :=
  ⟨rfl, rfl, by show E.w.heap.size <= g.heap.size; omega, fun b hb hx => ⟨fun h => h.elim hx (fun e => absurd hb (by rw [e]; exact BU _)), hold b hb⟩, fun b hb => by
   show b<g.heap.size
   rcases hb with hb|hb
   ·have := q.heap.X b hb
    omega
   ·omega,rfl⟩
 have hs3:=(hs2.jy jy (Lp (X':=E.X.or fun b=>b=E.w.heap.size) (w':=g) hs2.defers (fun _ h1 W=>⟨.inl h1,W⟩) fun b h1 _=>hold b (q.heap.X b h1))).oM sp.it (v:=.lit (.pointer (some ⟨E.w.heap.size,0,none⟩))) (u:=.pointer (some ⟨E.w.heap.size,0,none⟩)) (by simp only[ad]);have hs3':dX (sp.s2 s E.w.heap.size).ar { w:=g,H:=E.H.set sp.id .dead,ae:=E.ae.set sp.id none,X:=E.X.or fun b=>b=E.w.heap.size } _:=hs3;obtain⟨ae,X4,hs4,O⟩:=((qv sp.opens _).trans (qu (hin E.w.heap.size))) _ _ hs3';have hmbn:¬ af.ab { w:=g,H:=E.H.set sp.id .dead,ae:=E.ae.set sp.id none,X:=E.X.or fun b=>b=E.w.heap.size } M:=by
  rintro(⟨j,c,N⟩|⟨l,k,c,N⟩)
  case inr=>exact q.heap.du _ _ _ _ _ _ hloc N
  simp only[eC]at N;split at N
  ·split at N
   ·cases N
   ·cases N
  ·rename_i hne
   exact hne (q.heap.inj _ _ _ _ _ hloc N)
 have hmb2:g.heap[M]? = some (.map ms I):=by rw[hold M hmbs]; exact hmb
 refine wpIn_block (wpIn_mono (aab hm ht hL ho hu1 hu2 hut (hr:=hr) (E:=E) (rZ:=rZ) (d0:=sp.init d E.w.heap.size) (itb:=E.w.heap.size) (mb:=M) (clock:=I) (ms:=ms)
  (aM _) hn hlt (by omega) (hfold _) ?_ U hro) fun e a1 w1 hq=>?_)
 ·refine ⟨sp.init d E.w.heap.size, ae, X4, #[], I, [], rfl, hadr _, ?_, hs4, ?_, (O.X E.w.heap.size (by show _ < g.heap.size; omega)).1.2 (.inr rfl), ?_, aM _, ?_, ?_, ?_⟩
  ·have : (rZ.filter fun x => !(#[] : Array Nat).contains (fC x)) = rZ := List.filter_eq_self.2 (fun x _ => by simp)
   rw[List.nil_append,this]
  ·refine hd.toM.trans (af.gC.trans (E' := { w := g, H := E.H.set sp.id .dead, ae := E.ae.set sp.id none, X := E.X.or fun b => b = E.w.heap.size }) ⟨fun _ _ h => h, ?_, ?_, fun b _ h => h, fun _ _ _ h => ⟨h, rfl⟩, fun b hb => ⟨⟨fun h => h.elim id fun e => absurd hb (by rw [e]; exact BU _), .inl⟩, Iff.rfl⟩, fun _ _ h => ⟨h, fun _ hq => hq⟩, hos, fun _ _ _ o h1 W _ => ⟨⟨[], (da _).symm⟩, o, h1, W⟩⟩ O)
   ·show E.w.heap.size <= g.heap.size
    omega
   ·exact fun b hb _=>hold b hb
  ·rw [O.same E.w.heap.size (by show _ < g.heap.size; omega) ?_]
   ·exact hitn
   ·exact(hs2.heap.jy jy).Gh (.inr rfl)
  ·rw [O.same M (by show _ < g.heap.size; omega) hmbn]
   exact hmb2
  ·exact O.ab M (by show _<g.heap.size; omega) hmbn
  ·exact kF (Ai O) (kF jy.toC (kF hd.toC hre))
 ·obtain ⟨rfl, p, d', h1, W, h3⟩ := hq
  simp only[Vs,if_true];exact hQ _ _ ⟨_,p,d',h1,W,h3⟩
def aad(hm:P.follows .mixedOrders=true)(N:aI P τ)(O:aT P m L body)(hr:ud P τ L m sp dR body)(ho:Aj P sp dY fJ dR)
  (hu1:∀ d,(ct sp.inv d).fr[sp.t1]? = some .undef) (hu2:∀ d,(ct sp.inv d).fr[sp.t2]? = some .undef) (hut:∀ d,(ct sp.inv d).fr[sp.it]? = some (.lit (.pointer (some ⟨sp.cL d,0,none⟩))))
  {r0 r1 b0 U r2:Nat}
  {s s1:aH} {d:LG} {rZ:LL} {M:Nat} (hp:k_ P τ.pf dY dY.toList.dropLast s.ar s1.ar) (hx:s1.eval (.tmp sp.y)=.map sp.id) (hid:s1.H[sp.id]? = some (.map sp.K sp.V rZ M)) (hn:(rZ.map fC).Nodup)
  (q:∀ r∈rZ,fC r<M) (hin:∀ b,nI m sp.inv sp.ps (lY sp.opens (sp.s2 s1 b))=some (true,sp.init d b)) (hadr:∀ b,sp.cL (sp.init d b)=b)
  (hfold:∀ b p,p.Perm rZ->(gf sp.st sp.cL p (sp.init d b)).isSome=true) (E:af) (a:Act) (hs:dX s.ar E a) (g:Option Nat) (hro:ig g body) :
  (rX r0 b0 r1 U r2 dY fJ dR sp.t2 body).wpIn (fz g) 0 P (fun e v I=>e=.normal/\∃ b p k,p.Perm rZ/\gf sp.st sp.cL p (sp.init d b)=some k/\fy m E (ct sp.inv k).ar v I) a E.w:=by
 refine wpIn_seq (wpIn_region ?_);obtain⟨o2,ty,W,_⟩:=ho.r0;have hsz:dY.size=dY.toList.dropLast.length+1:=by
  have h:=congrArg List.length W;simpa using h
 have hl:fo dY.size=FX 0 dY.toList.dropLast.length++[dY.toList.dropLast.length]:=by
  rw[hsz,List.range_succ,Vr]
 rw[hl];refine OW (pf:=τ.pf) g dY.toList.dropLast 0 s.ar s1.ar E a _ (fun j o hj=>?_) hp hs fun v I hc=>?_
 ·have q := aY hj
  have:dY.toList[j]? = some o:=by
   rw[W,di q];exact hj
  simpa using this
 ·obtain ⟨loc1, r1, h1, h2⟩ := hc
  refine aac hm N O ho hu1 hu2 hut (Z_ hm N O hr U) hx hid hn q hin hadr hfold { w:=I,H:=s1.ar.H,ae:=loc1,X:=E.X.re r1 } v h1 g hro fun a2 w2 ⟨b,p,k,g1,g2,g3⟩=>?_;exact⟨rfl,b,p,k,g1,g2,fy.after h2.toM g3⟩
noncomputable def wM{β:Type}(rZ:LL)(k:Nat->LL->Option β):Option β :=
 open Classical in if h:∃ r,∀ b p,p.Perm rZ->k b p=some r then some h.choose else none
def O3{β:Type}{rZ:LL}{k:Nat->LL->Option β}{r:β}(h:wM rZ k=some r):∀ b p,p.Perm rZ->k b p=some r:=by
 unfold wM at h;split at h
 ·rename_i d
  cases h;exact d.choose_spec
 ·cases h
def aae{β:Type}{rZ:LL}{k:Nat->LL->Option β}{r:β}(h:∀ b p,p.Perm rZ->k b p=some r):wM rZ k=some r:=by
 cases hb:wM rZ k with
 | some d =>
  have h1:=O3 hb 0 rZ (yx _);rw[h 0 rZ (yx _)]at h1;exact h1.symm
 | none =>
  unfold wM at hb;rw[dif_pos ⟨r,h⟩]at hb;cases hb
def qz(rZ:LL)(d:Nat):Bool:=nodupB (rZ.map fC)&&rZ.all fun r=>dq (fC r) d
def aaf{rZ:LL}{d:Nat}(h:qz rZ d=true):(rZ.map fC).Nodup/\∀ r∈rZ,fC r<d:=by
 simp only[qz,aK,dN,iZ]at h;exact⟨wC h.1,h.2⟩
noncomputable def qA(sp:ke)(h:LG->Option (Option Nat × LG))(rZ:LL)(g:Nat)(d:LG):Option (Option Nat × LG) :=
 bif qz rZ g then wM rZ (fun b p=>bif sp.side d b then (gf sp.st sp.cL p (sp.init d b)).bind h else none) else none
def Ak(P:aj)(m:Nat)(c:Code)(sp:br):Prop:=∀ d i g,sp.st d=some (some i,g)->∃ o,sp.outs[i]? = some o/\en P m c (ct sp.inv d).ar o.x (ct o.S g).ar
def uc.sat{c:Code}{q:br}(hm:P.follows .mixedOrders=true)(k:aI P τ)(v:aT P m L c)(y:uc P τ L m c q):Ak P m c q:=by
 intro d i I g;rw[<-y d]at g;obtain⟨x,s1,M,N⟩:=nE hm k c (ct q.inv d) .done v (Q:=fun x s=>ub m q.outs 0 x s=some (true,(some i,I))) (rL g);obtain⟨j,o,O,h,U,V⟩:=Dg N;simp only[bf,cP]at h;subst h;refine⟨o,O,?_⟩;rw[<-U];exact vM M (qu V)
def aag{c:Code}{q:br}(M:Ak P m c q){s:aH}{t:bh}(h:zV m q s=some t):H6 P m c s t:=by
 unfold zV at h;split at h
 case h_2=>cases h
 rename_i b d N;cases h;intro Q v;simp only[bh.holds,t_,aK]at v;obtain⟨⟨rfl,h1⟩,y⟩:=v;cases g:q.st d with
 |none=>rw[g]at h1; cases h1
 | some r =>
  obtain⟨k,I⟩:=r;cases k with
  |none=>rw[g]at h1; cases h1
  | some i =>
   obtain⟨o,O,U⟩:=M d i I g;rw[g]at y;exact⟨o.x,(ct o.S I),vL ((qv q.opens s).trans (qu N)) U,Dh O (cP i).symm y⟩
def aT.aah{fn:Func}{q:br} (hn:qw q.key (cC (be fn))=true) (g:aT P m L (be fn)) (v:aT P m L (fU fn q.key)->Ak P m (fU fn q.key) q) :
  aT P m (L.fl m q) (be fn):=by
 refine⟨g.1,g.2.1,fun k y h s t d=>?_⟩;simp only[LT.fl]at d;split at d
 ·rename_i e
  have e:=bz e;subst e;have I:=Ot hn h;rw[<-I]at v;exact aag (v (g.sub (rO h) (rP h))) d
 ·exact g.2.2 k y h s t d
def Am(o:Option Tmp)(t:Tmp):Bool :=
 match o with
 |some x=>aG x t
 |none=>false
def DI{o:Option Tmp}{t:Tmp}(h:Am o t=true):o=some t:=by
 cases o with
 |none=>cases h
 |some x=>exact congrArg some (bz h)
def IL(P:aj)(sp:ke)(ah:Array aU):Bool :=
 match ah.toList.getLast? with
 |some ⟨d,.range ty (.tmp b),_,_,_,none⟩=>aG b sp.y&&Am d sp.it&&(dO P ty).isSome
 |_=>false
def IM(sp:ke)(ah:Array aU):Bool :=
 match ah.toList with
 | [⟨d,.next (.tmp a) false,_,_,_,none⟩,⟨g,.extract (.tmp b) 0,_,_,_,none⟩]=>aG a sp.it&&Am d sp.t1&&aG b sp.t1&&Am g sp.t2
 |_=>false
def IN(sp:ke)(ah:Array aU):Bool :=
 match ah.toList with
 |⟨d,.entry (.tmp a),_,_,_,none⟩::_=>aG a sp.it&&Am d sp.t3
 |_=>false
def aai(h0:IL P sp dY=true)(h1:IM sp fJ=true)(d:IN sp dR=true):Aj P sp dY fJ dR:=by
 refine⟨?_,?_,?_⟩
 ·unfold IL at h0
  split at h0
  ·rename_i I ty b t' M N e
   simp only[aK]at h0;obtain⟨⟨g,q⟩,O⟩:=h0;have g:=bz g;subst g;refine⟨⟨I,.range ty (.tmp sp.y),t',M,N,none⟩,ty,?_,rfl,rfl,DI q,O⟩;have v:dY.toList≠[]:=by
    intro h;rw[h]at e;cases e
   have d:=List.dropLast_concat_getLast v;have U:dY.toList.getLast? = some (dY.toList.getLast v):=by
    rw[List.getLast?_eq_some_iff];exact⟨_,d.symm⟩
   rw[U]at e;rw[g_ e]at d;exact d.symm
  ·cases h0
 ·unfold IM at h1
  split at h1
  ·rename_i V a _ _ _ I b _ _ _ e
   simp only[aK]at h1;obtain⟨⟨⟨k,W⟩,g⟩,q⟩:=h1;have k:=bz k;have g:=bz g;subst k;subst g;exact⟨_,_,e,rfl,rfl,DI W,rfl,rfl,DI q⟩
  ·cases h1
 ·unfold IN at d
  split at d
  ·rename_i V a _ _ _ l e
   simp only[aK]at d;have k:=bz d.1;subst k;exact⟨_,l,e,rfl,rfl,DI d.2⟩
  ·cases d
def O4:Code->Code
 |.seq _ b=>b
 |_=>.skip
def IP:Code->Code
 |.seq (.seq _ (.block _ (.loop c))) _=>c
 |_=>.skip
def DJ(c:Code):Code:=match IP c with
 |.seq _ (.seq _ (.block _ (.seq _ b)))=>b
 |_=>.skip
def IQ:Code->Array aU
 |.region _ ah _=>ah
 |_=>#[]
def wN:Code->Array aU
 |.seq (.seq r _) _=>IQ r
 |_=>#[]
def O5(c:Code):Array aU:=match IP c with
 |.seq r _=>IQ r
 |_=>#[]
def An(c:Code):Array aU:=match IP c with
 |.seq _ (.seq _ (.block _ (.seq r _)))=>IQ r
 |_=>#[]
def aaj{r0 r1 k q r2 t2:Nat}{g:Code} (h:aT P m L (.seq (rX r0 k r1 q r2 dY fJ dR t2 body) g)):aT P m L body/\aT P m L g:=by
 refine⟨h.sub (fun p d=>?_) (fun p d=>?_),h.sub (fun p d=>?_) (fun p d=>?_)⟩
 ·simp only [cy, rX, db]
  left;right;split
  ·simp only [cq, cy, db]
   exact .inr (.inr (.inr (.inr d)))
  ·simp only [cy, db]
   exact .inr (.inr (.inr d))
 ·simp only [cC, rX, db]
  exact .inl (.inr (.inr (.inr (.inr (.inr (.inr (.inr (.inr d))))))))
 ·simp only [cy, db]
  exact .inr d
 ·simp only [cC, db]
  exact .inr (.inr d)
def O6(P:aj)(τ:aD)(ah:Array aU)(s:aH):aH:=match (rE P τ ah ah.toList.dropLast s fun s=>.done .normal s).rW with
 |some (_,s1)=>s1
 |none=>s
def aak(d:aI P τ){ah:Array aU}{l:List aU}{s s1:aH}(h:(rE P τ ah l s fun s=>.done .normal s).rW=some (.normal,s1)):k_ P τ.pf ah l s.ar s1.ar:=by
 obtain⟨s',h1,g⟩:=C0 d (DF h);obtain⟨_,rfl⟩:=g;exact h1
def aal(hm:P.follows .mixedOrders=true)(ht:aI P τ){rest:Code}{q k:br}(hL:aT P m L body)(hr:ud P τ L m sp dR body)(ho:Aj P sp dY fJ dR)
  (hu1:∀ d,(ct sp.inv d).fr[sp.t1]? = some .undef) (hu2:∀ d,(ct sp.inv d).fr[sp.t2]? = some .undef) (hut:∀ d,(ct sp.inv d).fr[sp.it]? = some (.lit (.pointer (some ⟨sp.cL d,0,none⟩))))
  {r0 r1 b0 b1 r2:Nat}
  {rZ:LG->LL} {O:LG->Nat} {pre:LG->aH} (hy:∀ d,(rE P τ dY dY.toList.dropLast (ct q.inv d) fun s=>.done .normal s).rW=some (.normal,pre d)) (M:∀ d,(pre d).eval (.tmp sp.y)=.map sp.id) (hid:∀ d,(pre d).H[sp.id]? = some (.map sp.K sp.V (rZ d) (O d)))
  (hin:∀ d b,nI m sp.inv sp.ps (lY sp.opens (sp.s2 (pre d) b))=some (sp.side d b,sp.init d b)) (hadr:∀ d b,sp.cL (sp.init d b)=b)
  (hinv:k.inv=sp.inv) (houts:k.outs=q.outs) (hrest:Ak P m rest k) (hst:∀ d,q.st d=qA sp k.st (rZ d) (O d) d) :
  Ak P m (.seq (rX r0 b0 r1 b1 r2 dY fJ dR sp.t2 body) rest) q:=by
 intro d i W h;rw[hst]at h;unfold qA at h;cases U:qz (rZ d) (O d)with
 |false=>rw[U]at h; cases h
 | true =>
  rw[U]at h;simp only[cT]at h;have hall:=O3 h;obtain⟨hn,hlt⟩:=aaf U;have I:∀ b p,p.Perm (rZ d)->sp.side d b=true/\∃ g,gf sp.st sp.cL p (sp.init d b)=some g/\k.st g=some (some i,W):=by
   intro b p v;have:=hall b p v;cases hsd:sp.side d b with
   |false=>rw[hsd]at this; cases this
   | true =>
    rw[hsd]at this;simp only[cT]at this;cases N:gf sp.st sp.cL p (sp.init d b)with
    |none=>rw[N]at this; cases this
    | some g =>
     rw[N]at this;exact⟨rfl,g,rfl,this⟩
  obtain⟨_,g,_,g1⟩:=I 0 (rZ d) (yx _);obtain⟨o,ho1,_⟩:=hrest g i W g1;refine⟨o,by rw[<-houts]; exact ho1,fun ro hro E a hs=>wpIn_seq (wpIn_mono (aad hm ht hL hr ho hu1 hu2 hut (aak ht (hy d)) (M d) (hid d) hn hlt (fun b=>by rw[hin d b,(I b (rZ d) (yx _)).1]) (hadr d) (fun b p v=>?_) E a hs ro (Z8 hro.seq1)) fun e a1 w1 hq=>?_)⟩
  ·obtain ⟨_, d2, h2, _⟩ := I b p v
   rw[h2];rfl
  ·obtain ⟨rfl, b, p, d2, v, N, ae, X, hs2, hle⟩ := hq
   obtain⟨_,d3,h3,h4⟩:=I b p v;rw[N]at h3;cases h3;obtain⟨o',ho2,hsat⟩:=hrest d2 i W h4;rw[ho1]at ho2;cases ho2;rw[hinv]at hsat;exact wpIn_mono (hsat ro hro.MM { w:=w1,H:=(ct sp.inv d2).ar.H,ae:=ae,X:=X } a1 hs2) fun x a2 w2 M=>⟨M.1,fy.after hle M.2⟩
def aT.O7(hm:P.follows .mixedOrders=true)(h:aI P τ){fn:Func}{q qr:br}{r0 b0 r1 b1 r2:Nat}{rZ:LG->LL}{clock:LG->Nat}
  (hn:qw q.key (cC (be fn))=true) (hL:aT P m L (be fn))
  (k:fU fn q.key=.seq (rX r0 b0 r1 b1 r2 (wN (fU fn q.key)) (O5 (fU fn q.key)) (An (fU fn q.key)) sp.t2 (DJ (fU fn q.key))) (O4 (fU fn q.key)))
  (ho:(IL P sp (wN (fU fn q.key))&&IM sp (O5 (fU fn q.key))&&IN sp (An (fU fn q.key)))=true)
  (hr:ud P τ L m sp (An (fU fn q.key)) (DJ (fU fn q.key)))
  (O:∀ d,(ct sp.inv d).fr[sp.t1]? = some .undef) (U:∀ d,(ct sp.inv d).fr[sp.t2]? = some .undef) (W:∀ d,(ct sp.inv d).fr[sp.it]? = some (.lit (.pointer (some ⟨sp.cL d,0,none⟩))))
  {pre:LG->aH} (hy:∀ d,(rE P τ (wN (fU fn q.key)) (wN (fU fn q.key)).toList.dropLast (ct q.inv d) fun s=>.done .normal s).rW=some (.normal,pre d)) (hx:∀ d,(pre d).eval (.tmp sp.y)=.map sp.id) (hid:∀ d,(pre d).H[sp.id]? = some (.map sp.K sp.V (rZ d) (clock d)))
  (hin:∀ d b,nI m sp.inv sp.ps (lY sp.opens (sp.s2 (pre d) b))=some (sp.side d b,sp.init d b)) (M:∀ d b,sp.cL (sp.init d b)=b)
  (N:qr.inv=sp.inv) (v:qr.outs=q.outs) (I:uc P τ L m (O4 (fU fn q.key)) qr) (hst:∀ d,q.st d=qA sp qr.st (rZ d) (clock d) d) :
  aT P m (L.fl m q) (be fn):=by
 refine aT.aah hn hL fun g=>?_;rw[k]at g;obtain⟨hLb,hLr⟩:=aaj g;simp only[aK]at ho;rw[k];exact aal hm h hLb hr (aai ho.1.1 ho.1.2 ho.2) O U W hy hx hid hin M N v (I.sat hm h hLr) hst
end range
end Go.AL
