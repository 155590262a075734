/-
 What is proved here: shapes: states and arguments as data alone (integers,strings,rZ),read oF abstract states and built from data; what is built says no more than what was read. No program in sight; no condition.
-/
import Derived.Test.YtpaljghdgljgiaaGreatDoorMC
import Derived.Maps.RangeRun
set_option linter.all false
open Bool renaming and_true->gW,and_eq_true->aL,false_eq_true->lk,not_eq_true'->sL,and_self->xX,eq_false_iff->akq,or_false->oL
open Go renaming Value->al,FuncId->bO,World->ba,Program->aj,Oper->aR
open Go.Act renaming put->JY
open Go.Exit renaming inBlock->T7
open Go.MapKept renaming heap_set->akr
open Go.Value.slice renaming injEq->l6
open Int renaming toNat_natCast->a6
open List renaming length_cons->cd,append_nil->dJ,append_assoc->gG,getElem?_append_left->di,length_map->c9,mem_map->dw,getElem?_map->bW,getElem?_eq_getElem->bY,mem_of_getElem?->eO,getElem?_append_right->ja,getElem?_set_self->bB,getElem?_set_ne->bf,getElem?_set->ef,all_eq_true->dK,getD_eq_getElem?_getD->cu,getElem?_take->oH,mem_cons->cq,map_cons->dx,range'->Fc,cons_append->l7,range'_succ->JL,length_append->fX,mem_append->c_,getElem?_of_mem->xT,mem_cons_self->cW,mem_cons_of_mem->dj,all_cons->nK,nodup_cons->pL,getElem?_inj->Fh,set_append_left->Bk,range->fj,mem_append_left->nO,any_eq_true->lq,range_eq_range'->T6,headD_cons->uJ,mem_filter->sQ,getElem?_cons_succ->T9,getD_cons_succ->akp,find?_cons_of_neg->J3,getElem_mem->uL,mem_append_right->pN
open List.Perm renaming refl->xY
open Nat renaming le_refl->aQ,le_add_right->gX,zero_le->eR,lt_or_ge->l5,zero_add->cP,beq->ar,eq_of_beq_eq_true->bx,sub_self->l9,ble->eh,blt->cS,blt_eq->iL,le_of_ble_eq_true->Bm,lt_irrefl->Bp
open Option renaming map_eq_some_iff->eM,map_some->e_,getD_some->oJ,bind_some->aks
open Option.some renaming injEq->be,inj->jd
open Prod.mk renaming injEq->bo
namespace Go.AL
open Go
variable [Dr]
inductive fP where
 |int (k:IntKind)|str|bool
 |list (ks:List Kd)|row (ks:List Kd)|cptr (ks:List Kd)
 |nil|any
 |CC (isNil:Bool)
 |fn (f:bO)
 |ptr (j col:Nat)
 |vQ (j w:Nat)
 |sub (j w:Nat)
 |pre (j w:Nat)
 |zn (ks:List Kd)
 |map (j:Nat)
 |addr
 |CD (f:bO) (js:List Nat)
 |Hz
 deriving Inhabited
abbrev fP.I:fP:=.int .i64
inductive Sh where
 |s (a:fP)
 |clo (f:bO) (caps:List fP)
 deriving Inhabited
inductive bS where
 |vQ (ks:List Kd) (u:Nat)
 |box (cells:List fP)
 |map (K V:Ct)
 |gx (l T B:Nat)
 |a7 (l:Nat) (K:Ct) (ks:List Kd)
 |mm (l:Nat) (K KI VI:Ct)
 |cM (l:Nat) (ks:List Kd)
 |bH (l:Nat) (K:Ct) (ks:List Kd)
 deriving Inhabited
def bS.lH:bS->Option Nat
 |.gx l _ _=>some l
 |.a7 l _ _=>some l
 |.mm l _ _ _=>some l
 |.cM l _=>some l
 |.bH l _ _=>some l
 |_=>none
def bS.dR:bS->Option Nat
 |.mm l _ _ _=>some l
 |.cM l _=>some l
 |_=>none
def fP.sz:fP->Nat
 |.int _ | .str | .bool | .list _ | .row _ | .cptr _ | .zn _ | .pre _ _ | .addr=>1
 |.sub _ _=>2
 |_=>0
def ry:List fP->Nat
 | []=>0
 |a::as=>a.sz+ry as
def Sh.sz:Sh->Nat
 |.s a=>a.sz
 |.clo _ caps=>ry caps
def HA:List Sh->Nat
 | []=>0
 |a::as=>a.sz+HA as
def bS.sz:bS->Nat
 |.vQ _ _=>1
 |.box cells=>ry cells
 |.map _ _=>2
 |.gx _ _ _=>1
 |.a7 _ _ _=>2
 |.mm _ _ _ _=>3
 |.cM _ _=>2
 |.bH _ _ _=>2
def fx:Nat->LG->LG
 |0,d=>d
 |n+1,d=>fx n d.tail
abbrev dY:=List (Nat × Nat)
def dY.len(os:dY)(j:Nat):Nat:=(os.getD j (0,0)).1
def dY.ak(os:dY)(j:Nat):Nat:=(os.getD j (0,0)).2
def tH:List Nat->List AV
 | []=>[]
 |j::d=>.ptr j 0 0 0 0::tH d
def fQ(lens:dY):fP->LG->AV
 |.int k,d=>.lit (.int k (d.headD default).iV)
 |.str,d=>.lit (.string (d.headD default).sV)
 |.bool,d=>.lit (.bool (d.headD default).bV)
 |.list ks,d=>.listF ks (d.headD default).rZ
 |.zn ks,d=>.listF ks (d.headD default).rZ
 |.row ks,d=>.agg (aT ks (d.headD default).rV)
 |.cptr ks,d=>.cptr (aT ks (d.headD default).rV)
 |.nil,_=>.lit (.slice none 0 0)
 |.any,_=>.undef
 |.CC b,_=>.emptyS b
 |.fn f,_=>.clo f []
 |.ptr j g,_=>.ptr j 0 0 0 g
 |.vQ j w,_=>.vQ w j (lens.ak j) 0 (lens.len j)
 |.sub j w,d=>.vQ w j (lens.ak j) (d.headD default).iV.toNat (d.tail.headD default).iV.toNat
 |.pre j w,d=>.vQ w j (lens.ak j) 0 (d.headD default).iV.toNat
 |.map j,_=>.map j
 |.addr,d=>.lit (.pointer (some ⟨(d.headD default).iV.toNat,0,none⟩))
 |.CD f h,_=>.clo f (tH h)
 |.Hz,_=>.lit .nilIface
def kY(lens:dY):List fP->LG->List AV
 | [],_=>[]
 |a::as,d=>fQ lens a d::kY lens as (fx a.sz d)
def tJ(lens:dY):Sh->LG->AV
 |.s a,d=>fQ lens a d
 |.clo f caps,d=>.clo f (kY lens caps d)
def ij(lens:dY):List Sh->LG->List AV
 | [],_=>[]
 |a::as,d=>tJ lens a d::ij lens as (fx a.sz d)
def gp(lens:dY):bS->LG->au
 |.vQ ks u,d=>.vQ ks u (d.headD default).rZ
 |.box g,d=>.raw (.box (kY lens g d))
 |.map K V,d=>.map K V (d.headD default).rZ (d.tail.headD default).iV.toNat
 |.gx l T B,d=>.raw (.gx l T B (d.headD default).sV)
 |.a7 l K ks,d=>.a7 l K ks (d.headD default).rZ (d.tail.headD default).iV.toNat
 |.mm l K h k,d=>.mm l K h k (d.headD default).rZ (d.tail.headD default).rZ (d.tail.tail.headD default).iV.toNat
 |.cM l ks,d=>.cM l ks (d.tail.headD default).iV.toNat (d.headD default).rZ
 |.bH l K ks,d=>.bH l K ks (d.headD default).rZ (d.tail.headD default).iV.toNat
theorem vU(lens:dY)(sh:bS)(d:LG):(gp lens sh d).ao.label=sh.lH:=by cases sh<;>rfl
theorem HB(lens:dY)(sh:bS)(d:LG):(gp lens sh d).ao.dR=sh.dR:=by cases sh<;>rfl
def dA(lens:dY):List bS->LG->List au
 | [],_=>[]
 |o::os,d=>gp lens o d::dA lens os (fx o.sz d)
def o_:List bS->Nat
 | []=>0
 |o::os=>o.sz+o_ os
def dB:List bS->LG->dY
 | [],_=>[]
 | o::os,d=>(match o with
  |.vQ _ u=>((d.headD default).rZ.length,u)
  |_=>(0,0))::dB os (fx o.sz d)
def nh(H:List au)(e:cy):List Nat->List AV->Bool
 | [],[]=>true
 | j::d,.ptr id ak k row c::g=>(match H[id]? with
  |some (.raw _)=>ar id (e.at j)&&ar ak 0&&ar k 0&&ar row 0&&ar c 0
  |_=>false)&&nh H e d g
 |_,_=>false
def iF(H:List au)(e:cy)(fz:Nat->Bool):fP->AV->Option (Bool × LG)
 |.int k,.lit (.int q n)=>if k=q then some (true,[.i n]) else none
 |.str,.lit (.string s)=>some (true,[.s s])
 |.bool,.lit (.bool b)=>some (true,[.t b])
 | .list ks,a=>match qb ks a with
  |some rZ=>some (true,[.l rZ])
  | none=>match a with
   | .vQ w id ak oF n=>match H[id]? with
    |some (.vQ d v rZ)=>if ak=v/\oF=0/\w=ks.length/\Kd.gN ks d=true/\fz id=true then some (ar n rZ.length,[.l rZ]) else none
    |_=>none
   |_=>none
 | .row ks,a=>match Hv ks a with
  |some r=>some (true,[.l [r]])
  |none=>none
 | .cptr ks,.cptr cells=>match iE ks cells with
  |some r=>some (true,[.l [r]])
  |none=>none
 | .cptr ks,.ptr id ak _ row h=>match H[id]? with
  | some (.raw (.box cells))=>match iE ks cells with
   |some r=>if ak=0/\row=0/\h=0/\fz id=true then some (true,[.l [r]]) else none
   |none=>none
  |some (.vQ d v [r])=>if ak=v/\row=0/\h=0/\Kd.gN ks d=true/\fz id=true then some (true,[.l [r]]) else none
  |_=>none
 |.nil,.lit (.slice none 0 0)=>some (true,[])
 |.any,_=>some (true,[])
 |.fn f,.clo g []=>if f=g then some (true,[]) else none
 | .ptr j h,.ptr id ak k row c=>match H[id]? with
  |some (.raw _)=>if id=e.at j/\ak=0/\k=0/\row=0/\c=h then some (true,[]) else none
  |_=>none
 | .vQ j w,.vQ w' id ak oF n=>match H[id]? with
  |some (.vQ _ v rZ)=>if w'=w/\id=e.at j/\ak=v/\oF=0 then some (ar n rZ.length,[]) else none
  |_=>none
 | .sub j w,.vQ w' id ak oF n=>match H[id]? with
  |some (.vQ _ v _)=>if w'=w/\id=e.at j/\ak=v then some (true,[.i oF,.i n]) else none
  |_=>none
 | .pre j w,.vQ w' id ak oF n=>match H[id]? with
  |some (.vQ _ v _)=>if w'=w/\id=e.at j/\ak=v/\oF=0 then some (true,[.i n]) else none
  |some (.cM _ _ _ _)=>if w'=w/\id=e.at j/\ak=0/\oF=0 then some (true,[.i n]) else none
  |_=>none
 | .zn ks,a=>match qb ks a with
  |some rZ=>some (true,[.l rZ])
  | none=>match a with
   | .vQ w id ak oF n=>match H[id]? with
    |some (.vQ d v rZ)=>if ak=v/\oF=0/\w=ks.length/\Kd.gN ks d=true/\fz id=true then some (eh n rZ.length,[.l (rZ.take n)]) else none
    |_=>none
   |_=>none
 | .map j,.map id=>match H[id]? with
  |some (.map _ _ _ _)=>if id=e.at j then some (true,[]) else none
  |some (.a7 _ _ _ _ _)=>if id=e.at j then some (true,[]) else none
  |some (.mm _ _ _ _ _ _ _)=>if id=e.at j then some (true,[]) else none
  |some (.bH _ _ _ _ _)=>if id=e.at j then some (true,[]) else none
  |_=>none
 |.addr,.lit (.pointer (some ⟨b,0,none⟩))=>some (true,[.i (b:Nat)])
 |.CD f y,.clo g I=>if f=g/\nh H e y I=true then some (true,[]) else none
 |.Hz,.lit .nilIface=>some (true,[])
 |_,_=>none
def il(H:List au)(e:cy)(fz:Nat->Bool):List fP->List AV->Option (Bool × LG)
 | [],[]=>some (true,[])
 | sh::d,a::as=>match iF H e fz sh a,il H e fz d as with
  |some (b,g),some (h,k)=>some (b&&h,g++k)
  |_,_=>none
 |_,_=>none
def nk(H:List au)(e:cy)(fz:Nat->Bool):Sh->AV->Option (Bool × LG)
 |.s a,v=>iF H e fz a v
 |.clo f caps,.clo g d=>if f=g then il H e fz caps d else none
 |_,_=>none
def fS(H:List au)(e:cy)(fz:Nat->Bool):List Sh->List AV->Option (Bool × LG)
 | [],[]=>some (true,[])
 | sh::d,a::as=>match nk H e fz sh a,fS H e fz d as with
  |some (b,g),some (h,k)=>some (b&&h,g++k)
  |_,_=>none
 |_,_=>none
def jG(H:List au)(e:cy)(fz:Nat->Bool):bS->au->Option (Bool × LG)
 |.vQ ks _,.vQ g _ rZ=>if Kd.gN ks g then some (true,[.l rZ]) else none
 |.box k,.raw (.box cells)=>il H e fz k cells
 |.map K V,.map h y rZ d=>if K.same h&&V.same y then some (true,[.l rZ,.i d]) else none
 |.gx l T B,.raw (.gx l' I M s)=>if (ar l l'&&(ar T I&&ar B M))=true then some (true,[.s s]) else none
 |.a7 l K ks,.a7 l' h g rZ d=>if (ar l l'&&(K.same h&&Kd.gN ks g))=true then some (true,[.l rZ,.i d]) else none
 |.mm l K N O,.mm l' h q v rZ mem d=>if (ar l l'&&(K.same h&&(N.same q&&O.same v)))=true then some (true,[.l rZ,.l mem,.i d]) else none
 |.cM l ks,.cM l' g n U=>if (ar l l'&&Kd.gN ks g)=true then some (true,[.l U,.i n]) else none
 |.bH l K ks,.bH l' h g rZ d=>if (ar l l'&&(K.same h&&Kd.gN ks g))=true then some (true,[.l rZ,.i d]) else none
 |_,_=>none
theorem Nd{H:List au}{e:cy}{fz:Nat->Bool}{sh:bS}{o:au}{b:Bool}{g:LG}(h:jG H e fz sh o=some (b,g)):o.ao.label=sh.lH:=by
 unfold jG at h;split at h
 ·rfl
 ·rfl
 ·rfl
 ·split at h
  ·rename_i d
   simp only[aL]at d;have:=bx d.1;subst this;rfl
  ·cases h
 ·split at h
  ·rename_i d
   simp only[aL]at d;have:=bx d.1;subst this;rfl
  ·cases h
 ·split at h
  ·rename_i d
   simp only[aL]at d;have:=bx d.1;subst this;rfl
  ·cases h
 ·split at h
  ·rename_i d
   simp only[aL]at d;have:=bx d.1;subst this;rfl
  ·cases h
 ·split at h
  ·rename_i d
   simp only[aL]at d;have:=bx d.1;subst this;rfl
  ·cases h
 ·cases h
theorem HC{H:List au}{e:cy}{fz:Nat->Bool}{sh:bS}{o:au}{b:Bool}{g:LG}(h:jG H e fz sh o=some (b,g)):o.ao.dR=sh.dR:=by
 unfold jG at h;split at h
 ·rfl
 ·rfl
 ·rfl
 ·rfl
 ·rfl
 ·split at h
  ·rename_i d
   simp only[aL]at d;have:=bx d.1;subst this;rfl
  ·cases h
 ·split at h
  ·rename_i d
   simp only[aL]at d;have:=bx d.1;subst this;rfl
  ·cases h
 ·rfl
 ·cases h
def lJ(H:List au)(e:cy)(fz:Nat->Bool):List bS->List Nat->Option (Bool × LG)
 | [],[]=>some (true,[])
 | o::os,i::d=>match H[i]? with
  | some t=>match jG H e fz o t,lJ H e fz os d with
   |some (b,g),some (h,k)=>some (b&&h,g++k)
   |_,_=>none
  |none=>none
 |_,_=>none
theorem rz:∀(g d:LG),fx g.length (g++d)=d
 | [],_=>rfl
 |_::g,d=>rz g d
def vV:au->Nat
 |.vQ _ v _=>v
 |_=>0
def vW(H:List au)(id:Nat):Nat:=match H[id]? with
 |some o=>vV o
 |none=>0
def cz(H:List au)(aA:List Nat):cy:=⟨aA,aA.map (vW H),H.length⟩
structure CE (E0:af) (lens:dY) (j:Nat) (o:au):Prop where
 ak:o.ao.aU = some (vV o)
 obj:∃ o0,E0.H[j]? = some o0/\o0.aU = some (lens.ak j)
 mm:∀ o0,E0.H[j]? = some o0->o0.dR=o.ao.dR
 len:∀ ks v rZ,o=.vQ ks v rZ->lens.len j=rZ.length
 flat:(∀ ks v rZ,o≠.vQ ks v rZ)->lens.ak j=0
structure ku (H:List au) (e:cy) (fz:Nat->Bool) (lens:dY) (E E0:af):Prop where
 hH:E.H=az H
 HE:aI E
 free:∀ i,fz i=true->∀ b n,E.ae[i]? = some (some (b,n))->E0.kM b
 dv:KeepIn e E E0
 obj:∀ j o,H[e.at j]? = some o->j<e.aA.length/\CE E0 lens j o
section dv
variable {H:List au} {e:cy} {fz:Nat->Bool} {lens:dY} {E E0:af}
theorem CE.bu{j:Nat}{o:au}(h:CE E0 lens j o):E0.bu j (lens.ak j):=by
 obtain⟨o0,h1,d⟩:=h.obj;exact⟨o0,h1,ai.Fs d,fun v g=>by rw[d]at g; cases g; exact aQ _⟩
theorem XR(K:ku H e fz lens E E0){id v n:Nat}{ks:List Kd}{rZ:LL}{c:al}(N:H[id]? = some (.vQ ks v rZ))(O:fz id=true)(U:n=rZ.length)
  (d:ad E (.vQ ks.length id v 0 n) c):ad E0 (.listF ks rZ) c:=by
 subst U;have k:E.H[id]? = some (.vQ ks.length v (rZ.map (aT ks))):=by rw[K.hH]; exact bt N
 have ho:=K.HE.obj id _ k;rw[kf];simp only[ad]at d|-;obtain⟨⟨aN,cap,rfl,M,_⟩,_,h⟩:=d;obtain⟨q1,V⟩:=h ⟨_,k,rfl⟩;have q:fq (rZ.map (aT ks)):=by
  intro r d;obtain⟨g,_,rfl⟩:=dw.1 d;exact gJ ks g
 refine⟨q,aN,cap,by simp,by simpa using M,?_⟩;simp only[aY]at ho;rcases ho with⟨h1,y⟩|⟨b,m,h1,y,h,_,W⟩
 ·exact .inl y
 ·obtain ⟨g1, o, g2, I⟩ := V b m h1
  by_cases hm:rZ=[]
  ·subst hm; exact .inl rfl
  ·right
   have:0<rZ.length:=by cases rZ with|nil=>exact(hm rfl).elim|cons _ _=>simp
   simp at h;have ho:=g2 (by omega);simp at ho;subst ho;simp only[l6]at I;exact⟨b,0,I.1,K.free id O b m h1,kN K.dv.bT _ q (by rw[K.dv.w]) W⟩
theorem XT(K:ku H e fz lens E E0){id v n:Nat}{ks:List Kd}{rZ:LL}{c:al}(U:H[id]? = some (.vQ ks v rZ))(V:fz id=true)(W:n<=rZ.length)
  (d:ad E (.vQ ks.length id v 0 n) c):ad E0 (.listF ks (rZ.take n)) c:=by
 have k:E.H[id]? = some (.vQ ks.length v (rZ.map (aT ks))):=by rw[K.hH]; exact bt U
 have ho:=K.HE.obj id _ k;rw[kf];simp only[ad]at d|-;obtain⟨⟨aN,cap,rfl,O,_⟩,_,h⟩:=d;obtain⟨q1,q2⟩:=h ⟨_,k,rfl⟩;have y:fq ((rZ.take n).map (aT ks)):=by
  intro r d;obtain⟨g,_,rfl⟩:=dw.1 d;exact gJ ks g
 have q:min n rZ.length=n:=Nat.min_eq_left W;refine⟨y,aN,cap,by simp[q],by simpa[q]using O,?_⟩;simp only[aY]at ho;rcases ho with⟨h1,I⟩|⟨b,m,h1,I,h,_,M⟩
 ·left
  have:rZ=[]:=by simpa using I
  rw[this];simp
 ·obtain ⟨g1, o, g2, N⟩ := q2 b m h1
  by_cases hm:n=0
  ·left; rw[hm]; simp
  ·right
   simp at h;have ho:=g2 (by omega);simp at ho;subst ho;simp only[l6]at N;refine⟨b,0,N.1,K.free id V b m h1,kN K.dv.bT _ y (by rw[K.dv.w]) ?_⟩;rw[nR]at M|-;intro i r hi;simp only[bW,oH]at hi;split at hi
   ·exact M i r (by simpa using hi)
   ·simp at hi
theorem XU(K:ku H e fz lens E E0){id k:Nat}{cells:List AV}{c:al} (v:H[id]? = some (.raw (.box cells))) (h:AV.bK cells=true) (y:fz id=true)
  (q:ad E (.ptr id 0 k 0 0) c):ad E0 (.cptr cells) c:=by
 have g:E.H[id]? = some (.box cells):=by rw[K.hH]; exact bt v
 have ho:=K.HE.obj id _ g;simp only[aY]at ho;obtain⟨b,n,h1,O,I⟩:=ho;simp only[ad]at q|-;obtain⟨_,_,M⟩:=q;obtain⟨U,V,d,N⟩:=M ⟨_,g,rfl⟩;rw[h1]at d;simp only[be,bo]at d;obtain⟨rfl,rfl⟩:=d;exact⟨h,b,0,by rw[N]; simp,K.free id y b n h1,uQ K.dv.bT cells h (by rw[K.dv.w]) I⟩
theorem XV(K:ku H e fz lens E E0){id k v:Nat}{ks:List Kd}{r:LG}{c:al}(I:H[id]? = some (.vQ ks v [r]))(M:fz id=true)
  (h:ad E (.ptr id v k 0 0) c):ad E0 (.cptr (aT ks r)) c:=by
 have g:E.H[id]? = some (.vQ ks.length v [aT ks r]):=by rw[K.hH]; exact bt I
 have ho:=K.HE.obj id _ g;simp only[aY]at ho;simp only[ad]at h|-;obtain⟨_,_,N⟩:=h;obtain⟨U,V,d,O⟩:=N ⟨_,g,rfl⟩;rcases ho with⟨_,q⟩|⟨b,m,h1,q,W,h4,y⟩
 ·cases q
 ·rw [h1] at d
  simp only[be,bo]at d;obtain⟨rfl,rfl⟩:=d;simp only[cX]at y;exact⟨gJ ks r,b,0,by rw[O]; simp,K.free id M b m h1,uQ K.dv.bT _ (gJ ks r) (by rw[K.dv.w]) y.2.1⟩
theorem Nf(K:ku H e fz lens E E0):∀{g:List Nat} {q:List AV},nh H e g q=true->∀ cs,aw E q cs->aw E0 (tH g) cs
 | [],[],_,cs,d=>by
  cases cs with
  |nil=>simp[tH,aw]
  |cons _ _=>simp[aw]at d
 | j::g,v::q,h,cs,d=>by
  cases v<;>simp only[nh,lk]at h<;>try cases h
  rename_i id ak k row c;simp only[aL]at h;obtain⟨h1,h2⟩:=h;split at h1
  ·rename_i r V
   simp only[aL]at h1;obtain⟨⟨⟨⟨y,I⟩,M⟩,N⟩,O⟩:=h1;have y:=bx y;have I:=bx I;have M:=bx M;have N:=bx N;have O:=bx O;subst y I M N O;cases cs with
   |nil=>simp[aw]at d
   | cons c cs =>
    simp only[aw]at d;simp only[tH,aw];refine⟨?_,Nf K h2 cs d.2⟩;obtain⟨hj,U⟩:=K.obj _ _ V;have hv:=U.flat (fun _ _ _ h=>by cases h);have W:=d.1;simp only[ad]at W|-;obtain⟨h1,h2,h3⟩:=W;refine⟨h1,by have:=U.bu; rwa [hv]at this,fun _=>?_⟩;rw[K.dv.ae _ hj];exact h3 ⟨_,by rw[K.hH]; exact bt V,U.ak⟩
  ·cases h1
 | [],_::_,h,_,_=>by simp[nh]at h
 |_::_,[],h,_,_=>by simp[nh]at h
theorem Ng(K:ku H e fz lens E E0){sh:fP}{a:AV}{g:LG}(h:iF H e fz sh a=some (true,g))(rest:LG) :
  g.length=sh.sz/\∀ c,ad E a c->ad E0 (fQ lens sh (g++rest)) c:=by
 unfold iF at h;split at h
 ·split at h
  ·rename_i hk
   subst hk;cases h;exact⟨rfl,fun c d=>by simp only[ad]at d; subst d; simp[fQ,ad,G.iV]⟩
  ·cases h
 ·cases h; exact⟨rfl,fun c d=>by simp only[ad]at d; subst d; simp[fQ,ad,G.sV]⟩
 ·cases h; exact⟨rfl,fun c d=>by simp only[ad]at d; subst d; simp[fQ,ad,G.bV]⟩
 ·split at h
  ·rename_i rZ d
   cases h;exact⟨rfl,fun c k=>fB K.dv.bT (.listF _ rZ) rfl (M2 d k)⟩
  ·split at h
   ·split at h
    ·rename_i q
     split at h
     ·rename_i k
      obtain⟨rfl,rfl,rfl,N,V⟩:=k;simp only[be,bo]at h;obtain⟨h1,rfl⟩:=h;have N:=Kd.iS N;subst N;exact⟨rfl,fun c d=>XR K q V (bx h1) d⟩
     ·cases h
    ·cases h
   ·cases h
 ·split at h
  ·rename_i ks a r d
   cases h;have W:=M3 d;subst W;exact⟨rfl,fun c k=>fB K.dv.bT (.agg (aT ks r)) (by simp only[AV.closed,gJ]) k⟩
  ·cases h
 ·split at h
  ·rename_i r d
   cases h;have W:=mo d;subst W;exact⟨rfl,fun c k=>fB K.dv.bT (.cptr _) rfl k⟩
  ·cases h
 ·split at h
  ·rename_i q
   split at h
   ·rename_i r d
    split at h
    ·rename_i k
     obtain⟨rfl,rfl,rfl,V⟩:=k;cases h;have W:=mo d;subst W;exact⟨rfl,fun c d=>XU K q (gJ _ _) V d⟩
    ·cases h
   ·cases h
  ·rename_i ks' v r q
   split at h
   ·rename_i k
    obtain⟨rfl,rfl,rfl,N,V⟩:=k;cases h;have N:=Kd.iS N;subst N;exact⟨rfl,fun c d=>XV K q V d⟩
   ·cases h
  ·cases h
 ·cases h; exact⟨rfl,fun c d=>by simpa only[fQ,ad]using d⟩
 ·cases h; exact⟨rfl,fun c d=>by simp[fQ,ad]⟩
 ·split at h
  ·rename_i hk
   subst hk;cases h;exact⟨rfl,fun c d=>fB K.dv.bT (.clo _ []) rfl d⟩
  ·cases h
 ·split at h
  ·rename_i r q
   split at h
   ·rename_i k
    obtain⟨rfl,rfl,rfl,rfl,rfl⟩:=k;cases h;obtain⟨I,y⟩:=K.obj _ _ q;have O:=y.flat (fun _ _ _ h=>by cases h);refine⟨rfl,fun c d=>?_⟩;simp only[ad]at d;simp only[fQ,ad];obtain⟨h1,U,M⟩:=d;refine⟨h1,by have:=y.bu; rwa [O]at this,fun _=>?_⟩;rw[K.dv.ae _ I];exact M ⟨_,by rw[K.hH]; exact bt q,y.ak⟩
   ·cases h
  ·cases h
 ·split at h
  ·rename_i ks v rZ q
   split at h
   ·rename_i k
    obtain⟨rfl,rfl,rfl,rfl⟩:=k;simp only[be,bo]at h;obtain⟨h1,rfl⟩:=h;have h1:=bx h1;subst h1;obtain⟨I,y⟩:=K.obj _ _ q;refine⟨rfl,fun c d=>?_⟩;simp only[ad]at d;simp only[fQ,ad];rw[y.len _ _ _ rfl];obtain⟨h1,U,M⟩:=d;refine⟨h1,y.bu,fun _=>?_⟩;rw[K.dv.ae _ I];exact M ⟨_,by rw[K.hH]; exact bt q,y.ak⟩
   ·cases h
  ·cases h
 ·split at h
  ·rename_i ks v rZ q
   split at h
   ·rename_i k
    obtain⟨rfl,rfl,rfl⟩:=k;cases h;obtain⟨I,y⟩:=K.obj _ _ q;refine⟨rfl,fun c d=>?_⟩;simp only[ad]at d;simp only[fQ,ad,l7,uJ,List.tail_cons,G.iV,a6];obtain⟨h1,U,M⟩:=d;refine⟨h1,y.bu,fun _=>?_⟩;rw[K.dv.ae _ I];exact M ⟨_,by rw[K.hH]; exact bt q,y.ak⟩
   ·cases h
  ·cases h
 ·split at h
  ·rename_i ks v rZ q
   split at h
   ·rename_i k
    obtain⟨rfl,rfl,rfl,rfl⟩:=k;cases h;obtain⟨I,y⟩:=K.obj _ _ q;refine⟨rfl,fun c d=>?_⟩;simp only[ad]at d;simp only[fQ,ad,l7,uJ,G.iV,a6];obtain⟨h1,U,M⟩:=d;refine⟨h1,y.bu,fun _=>?_⟩;rw[K.dv.ae _ I];exact M ⟨_,by rw[K.hH]; exact bt q,y.ak⟩
   ·cases h
  ·rename_i l1 ks1 n1 ms1 q
   split at h
   ·rename_i k
    obtain⟨rfl,rfl,rfl,rfl⟩:=k;cases h;obtain⟨I,y⟩:=K.obj _ _ q;have O:=y.flat (fun _ _ _ h=>by cases h);refine⟨rfl,fun c d=>?_⟩;simp only[ad]at d;simp only[fQ,ad,l7,uJ,G.iV,a6];obtain⟨h1,U,M⟩:=d;refine⟨h1,y.bu,fun _=>?_⟩;rw[K.dv.ae _ I];exact M ⟨_,by rw[K.hH]; exact bt q,y.ak⟩
   ·cases h
  ·cases h
 ·split at h
  ·rename_i rZ d
   cases h;exact⟨rfl,fun c k=>fB K.dv.bT (.listF _ rZ) rfl (M2 d k)⟩
  ·split at h
   ·split at h
    ·rename_i q
     split at h
     ·rename_i k
      obtain⟨rfl,rfl,rfl,N,V⟩:=k;simp only[be,bo]at h;obtain⟨h1,rfl⟩:=h;have N:=Kd.iS N;subst N;exact⟨rfl,fun c d=>XT K q V (Bm h1) d⟩
     ·cases h
    ·cases h
   ·cases h
 ·split at h
  ·rename_i K1 V1 rZ cl q
   split at h
   ·rename_i k
    subst k;cases h;obtain⟨I,y⟩:=K.obj _ _ q;have O:=y.flat (fun _ _ _ h=>by cases h);refine⟨rfl,fun c d=>?_⟩;simp only[ad]at d;simp only[fQ,ad];obtain⟨h1,U,M⟩:=d;refine⟨h1,by have:=y.bu; rwa [O]at this,fun _=>?_⟩;rw[K.dv.ae _ I];exact M ⟨_,by rw[K.hH]; exact bt q,y.ak⟩
   ·cases h
  ·rename_i l1 K1 ks1 rZ cl q
   split at h
   ·rename_i k
    subst k;cases h;obtain⟨I,y⟩:=K.obj _ _ q;have O:=y.flat (fun _ _ _ h=>by cases h);refine⟨rfl,fun c d=>?_⟩;simp only[ad]at d;simp only[fQ,ad];obtain⟨h1,U,M⟩:=d;refine⟨h1,by have:=y.bu; rwa [O]at this,fun _=>?_⟩;rw[K.dv.ae _ I];exact M ⟨_,by rw[K.hH]; exact bt q,y.ak⟩
   ·cases h
  ·rename_i l1 K1 KI1 VI1 rZ mem cl q
   split at h
   ·rename_i k
    subst k;cases h;obtain⟨I,y⟩:=K.obj _ _ q;have O:=y.flat (fun _ _ _ h=>by cases h);refine⟨rfl,fun c d=>?_⟩;simp only[ad]at d;simp only[fQ,ad];obtain⟨h1,U,M⟩:=d;refine⟨h1,by have:=y.bu; rwa [O]at this,fun _=>?_⟩;rw[K.dv.ae _ I];exact M ⟨_,by rw[K.hH]; exact bt q,y.ak⟩
   ·cases h
  ·rename_i l1 K1 ks1 rZ cl q
   split at h
   ·rename_i k
    subst k;cases h;obtain⟨I,y⟩:=K.obj _ _ q;have O:=y.flat (fun _ _ _ h=>by cases h);refine⟨rfl,fun c d=>?_⟩;simp only[ad]at d;simp only[fQ,ad];obtain⟨h1,U,M⟩:=d;refine⟨h1,by have:=y.bu; rwa [O]at this,fun _=>?_⟩;rw[K.dv.ae _ I];exact M ⟨_,by rw[K.hH]; exact bt q,y.ak⟩
   ·cases h
  ·cases h
 ·cases h; exact⟨rfl,fun c d=>by simp only[ad]at d; subst d; simp[fQ,ad,G.iV]⟩
 ·split at h
  ·rename_i k
   obtain⟨rfl,k⟩:=k;cases h;refine⟨rfl,fun c d=>?_⟩;simp only[ad]at d;simp only[fQ,ad];obtain⟨cs,r1,r2⟩:=d;exact⟨cs,r1,Nf K k _ r2⟩
  ·cases h
 ·cases h; exact⟨rfl,fun c d=>by simpa only[fQ,ad]using d⟩
 ·cases h
theorem HD(K:ku H e fz lens E E0):∀{q:List fP} {as:List AV} {g:LG},il H e fz q as=some (true,g)->∀(k:LG),
  g.length=ry q/\as.length=q.length/\(kY lens q (g++k)).length=q.length /\
   (∀ cs,aw E as cs->aw E0 (kY lens q (g++k)) cs)/\∀ b o,E0.w.heap[b]? = E.w.heap[b]? -> cU E as b o->cU E0 (kY lens q (g++k)) b o
 | [],[],g,h,k=>by
  simp only[il,be,bo]at h;obtain⟨_,rfl⟩:=h;refine⟨rfl,rfl,rfl,fun cs d=>?_,fun b o _ d=>by simp[kY,cU]⟩;cases cs with
  |nil=>simp[kY,aw]
  |cons _ _=>simp[aw]at d
 | sh::q,a::as,g,h,k=>by
  simp only[il]at h;split at h
  ·rename_i b M b' y h1 O
   simp only[be,bo,aL]at h;obtain⟨⟨rfl,rfl⟩,rfl⟩:=h;obtain⟨p1,N⟩:=Ng K h1 (y++k);obtain⟨U,V,W,q5,q6⟩:=HD K O k;have I:fx sh.sz (M++(y++k))=y++k:=by rw[<-p1]; exact rz M _
   refine⟨by simp only[ry,fX,p1,U],by simp only[cd,V],?_,?_,?_⟩
   ·simp only[kY,gG,I,cd,W]
   ·intro cs d
    cases cs with
    |nil=>simp[aw]at d
    | cons c cs =>
     simp only[aw]at d;simp only[kY,gG,I,aw];exact⟨N c d.1,q5 cs d.2⟩
   ·intro b o hb d
    simp only[cU]at d;simp only[kY,gG,I,cU];obtain⟨⟨v,r1,r2,r3⟩,r4⟩:=d;exact⟨⟨v,by rw[World.uP hb]; exact r1,r2,N v r3⟩,q6 b (o+1) hb r4⟩
  ·cases h
 | [],_::_,_,h,_=>by simp[il]at h
 |_::_,[],_,h,_=>by simp[il]at h
theorem Nh(K:ku H e fz lens E E0){sh:Sh}{a:AV}{g:LG}(h:nk H e fz sh a=some (true,g))(d:LG) :
  g.length=sh.sz/\∀ c,ad E a c->ad E0 (tJ lens sh (g++d)) c:=by
 cases sh with
 |s I=>exact Ng K h d
 | clo f caps =>
  cases a<;>simp only[nk]at h<;>try cases h
  rename_i M N;split at h
  ·rename_i q
   subst q;obtain⟨v,O,U,y,V⟩:=HD K h d;refine⟨v,fun c k=>?_⟩;simp only[ad]at k;simp only[tJ,ad];obtain⟨cs,r1,r2⟩:=k;exact⟨cs,r1,y _ r2⟩
  ·cases h
theorem zo(K:ku H e fz lens E E0):∀{k:List Sh} {as:List AV} {g:LG},fS H e fz k as=some (true,g)->∀(d:LG),
  g.length=HA k/\as.length=k.length/\(ij lens k (g++d)).length=k.length/\(∀ cs,aw E as cs->aw E0 (ij lens k (g++d)) cs)
 | [],[],g,h,d=>by
  simp only[fS,be,bo]at h;obtain⟨_,rfl⟩:=h;refine⟨rfl,rfl,rfl,fun cs q=>?_⟩;cases cs with
  |nil=>simp[ij,aw]
  |cons _ _=>simp[aw]at q
 | sh::k,a::as,g,h,d=>by
  simp only[fS]at h;split at h
  ·rename_i b y b' v h1 M
   simp only[be,bo,aL]at h;obtain⟨⟨rfl,rfl⟩,rfl⟩:=h;obtain⟨p1,N⟩:=Nh K h1 (v++d);obtain⟨O,U,V,W⟩:=zo K M d;have I:fx sh.sz (y++(v++d))=v++d:=by rw[<-p1]; exact rz y _
   refine⟨by simp only[HA,fX,p1,O],by simp only[cd,U],by simp only[ij,gG,I,cd,V],?_⟩;intro cs q;cases cs with
   |nil=>simp[aw]at q
   | cons c cs =>
    simp only[aw]at q;simp only[ij,gG,I,aw];exact⟨N c q.1,W cs q.2⟩
  ·cases h
 | [],_::_,_,h,_=>by simp[fS]at h
 |_::_,[],_,h,_=>by simp[fS]at h
theorem Ni(K:ku H e fz lens E E0):∀{I:List Sh} {as:List AV} {g:LG},fS H e fz I as=some (true,g)->∀{d:LG} {k:Nat} {x v:AV} {c:al},
  as[k]? = some x->(ij lens I (g++d))[k]? = some v->ad E x c->ad E0 v c
 | [],[],_,_,_,_,_,_,_,q,_,_=>by simp at q
 | sh::I,a::as,g,h,d,k,x,v,c,q,y,N=>by
  simp only[fS]at h;split at h
  ·rename_i b O b' M h1 U
   simp only[be,bo,aL]at h;obtain⟨⟨rfl,rfl⟩,rfl⟩:=h;obtain⟨p1,V⟩:=Nh K h1 (M++d);have W:fx sh.sz (O++(M++d))=M++d:=by rw[<-p1]; exact rz O _
   simp only[ij,gG,W]at y;cases k with
   | zero =>
    simp at q y;subst q;subst y;exact V c N
   |succ k=>exact Ni K U (by simpa using q) (by simpa using y) N
  ·cases h
 | [],_::_,_,h,_,_,_,_,_,_,_,_=>by simp[fS]at h
 |_::_,[],_,h,_,_,_,_,_,_,_,_=>by simp[fS]at h
theorem Nj(K:ku H e fz lens E E0){sh:bS}{o:au}{g:LG}(h:jG H e fz sh o=some (true,g))(rest:LG)
  {j:Nat} (hj:j<e.aA.length) (hlab:∀ l,sh.lH=some l->E0.X.r l=E.X.r l) (ho:aY E (e.at j) o.ao):aY E0 j (gp lens sh (g++rest)).ao:=by
 have M:∀ b:Nat,E0.w.heap[b]? = E.w.heap[b]? := fun b=>by rw[K.dv.w]
 have O:=K.dv.ae j hj;unfold jG at h;split at h
 ·split at h
  ·rename_i y
   cases h;have y:=Kd.iS y;subst y;simp only[gp,au.ao,aY]at ho|-;rcases ho with⟨h1,d⟩|⟨b,m,h1,d,I,h4,h5⟩
   ·exact .inl ⟨by rw[O,h1],d⟩
   ·exact .inr ⟨b,m,by rw[O,h1],uR (M b) d,I,h4,kN K.dv.bT _ h4 (M b) h5⟩
  ·cases h
 ·rename_i shs cells
  obtain⟨q1,q2,q3,q5,q6⟩:=HD K h rest;simp only[gp,au.ao,aY]at ho|-;obtain⟨b,n,h1,d,I⟩:=ho;exact⟨b,n,by rw[O,h1],by rw[q3,<-q2]; exact uR (M b) d,q6 b 0 (M b) I⟩
 ·split at h
  ·rename_i y
   cases h;simp only[aL]at y;have h1:=Ct.lB y.1;have d:=Ct.lB y.2;subst h1;subst d;simp only[gp,au.ao,aY]at ho|-;obtain⟨b,n,ms,h1,d,I⟩:=ho;refine⟨b,n,ms,by rw[O,h1],?_,kr K.dv.bT I⟩;rw[M b];simpa[G.iV]using d
  ·cases h
 ·rename_i l T B l' T' B' s
  split at h
  ·rename_i y
   cases h;simp only[aL]at y;obtain⟨h1,d,I⟩:=y;have h1:=bx h1;have d:=bx d;have I:=bx I;subst h1 d I;simp only[gp,au.ao,aY]at ho|-;obtain⟨b,n,p,v,k,q,U,V,W,g4,g5,g6⟩:=ho;have N:=hlab l rfl;exact⟨b,n,p,v,k,q,by rw[O,U],by rw[M b,V],W,by rw[N,g4],by rw[N]; exact g5,Fw (fun g m _=>M g) (by simpa[G.sV]using g6)⟩
  ·cases h
 ·rename_i l K0 ks l' K' ks' rZ clock
  split at h
  ·rename_i y
   cases h;simp only[aL]at y;obtain⟨h1,d,I⟩:=y;have h1:=bx h1;have d:=Ct.lB d;have I:=Kd.iS I;subst h1 d I;simp only[gp,au.ao,aY]at ho|-;obtain⟨b,n,ms,U,V,W,g4⟩:=ho;have N:=hlab l rfl;refine⟨b,n,ms,by rw[O,U],?_,kr K.dv.bT W,yb (E:=E) (fun h g m hk=>⟨by rw[N]; exact hk,M g⟩) (fun _ _ _ _ _ b' hb2 hc hr2=>kN K.dv.bT _ hc hb2 hr2) g4⟩;rw[M b];simpa[G.iV]using V
  ·cases h
 ·rename_i l K0 KI VI l' K' KI' VI' rZ mem clock
  split at h
  ·rename_i y
   cases h;simp only[aL]at y;obtain⟨h1,d,I,h4⟩:=y;have h1:=bx h1;have d:=Ct.lB d;have I:=Ct.lB I;have h4:=Ct.lB h4;subst h1 d I h4;simp only[gp,au.ao,aY]at ho|-;obtain⟨b,n,ms,U,V,W,g4⟩:=ho;have N:=hlab l rfl;refine⟨b,n,ms,by rw[O,U],?_,kr K.dv.bT W,Fy N (fun _ b' _ _=>M b') (fun _ _ _=>kr K.dv.bT) g4⟩;rw[M b];simpa[G.iV]using V
  ·cases h
 ·rename_i l ks l' ks' n ms
  split at h
  ·rename_i y
   cases h;simp only[aL]at y;obtain⟨h1,d⟩:=y;have h1:=bx h1;have d:=Kd.iS d;subst h1 d;simp only[gp,au.ao,aY]at ho|-;obtain⟨b,m,cs,el,U,V,W⟩:=ho;have N:=hlab l rfl;refine⟨b,m,cs,el,by rw[O,U],by rw[M b]; exact V,?_⟩;have:=FA (E:=E) (E':=E0) N (fun _ b' _ _=>M b') (fun rZ _ b' hb2 hc hr2=>kN K.dv.bT rZ hc hb2 hr2) W;simpa[G.iV,G.rZ]using this
  ·cases h
 ·rename_i l K0 ks l' K' ks' rZ clock
  split at h
  ·rename_i y
   cases h;simp only[aL]at y;obtain⟨h1,d,I⟩:=y;have h1:=bx h1;have d:=Ct.lB d;have I:=Kd.iS I;subst h1 d I;simp only[gp,au.ao,aY]at ho|-;obtain⟨b,n,ms,U,V,W,g4⟩:=ho;have N:=hlab l rfl;refine⟨b,n,ms,by rw[O,U],?_,kr K.dv.bT W,BA (E:=E) (fun h g m hk=>⟨by rw[N]; exact hk,M g⟩) (fun _ _ _ _ _ _ b' hb2 hc hr2=>kN K.dv.bT _ hc hb2 hr2) g4⟩;rw[M b];simpa[G.iV]using V
  ·cases h
 ·cases h
end dv
def bS.up:bS->Nat
 |.vQ _ u=>u
 |_=>0
theorem HF{H:List au}{e:cy}{fz:Nat->Bool}{lens:dY}{sh:bS}{o:au}{b:Bool}{g d:LG}(h:jG H e fz sh o=some (b,g)) :
  o.ao.aU = some (vV o)/\(gp lens sh d).ao.aU = some sh.up/\((∀ ks v rZ,o≠.vQ ks v rZ)->sh.up=0):=by
 unfold jG at h;split at h
 ·exact⟨rfl,rfl,fun k=>(k _ _ _ rfl).elim⟩
 ·exact⟨rfl,rfl,fun _=>rfl⟩
 ·exact⟨rfl,rfl,fun _=>rfl⟩
 ·exact⟨rfl,rfl,fun _=>rfl⟩
 ·exact⟨rfl,rfl,fun _=>rfl⟩
 ·exact⟨rfl,rfl,fun _=>rfl⟩
 ·exact⟨rfl,rfl,fun _=>rfl⟩
 ·exact⟨rfl,rfl,fun _=>rfl⟩
 ·cases h
theorem XW{H:List au}{e:cy}{fz:Nat->Bool}{sh:fP}{a:AV}{b:Bool}{g:LG}(h:iF H e fz sh a=some (b,g)):g.length=sh.sz:=by
 unfold iF at h;split at h<;>(try split at h)<;>(try split at h)<;>(try split at h)<;>(try split at h)<;>first
  |(cases h; rfl)
  |cases h
theorem Nk{H:List au}{e:cy}{fz:Nat->Bool}:∀{d:List fP} {as:List AV} {b:Bool} {g:LG},il H e fz d as=some (b,g)->g.length=ry d
 | [],[],_,g,h=>by simp[il]at h; simp[<-h.2,ry]
 | sh::d,a::as,b,g,h=>by
  simp only[il]at h;split at h
  ·rename_i b q v y h1 k
   simp only[be,bo]at h;obtain⟨_,rfl⟩:=h;simp only[ry,fX,XW h1,Nk k]
  ·cases h
 | [],_::_,_,_,h|_::_,[],_,_,h=>by simp[il]at h
theorem XX{H:List au}{e:cy}{fz:Nat->Bool}{sh:bS}{o:au}{b:Bool}{g:LG}(h:jG H e fz sh o=some (b,g)):g.length=sh.sz:=by
 unfold jG at h;split at h
 ·split at h
  ·cases h; rfl
  ·cases h
 ·exact Nk h
 ·split at h
  ·cases h; rfl
  ·cases h
 ·split at h
  ·cases h; rfl
  ·cases h
 ·split at h
  ·cases h; rfl
  ·cases h
 ·split at h
  ·cases h; rfl
  ·cases h
 ·split at h
  ·cases h; rfl
  ·cases h
 ·split at h
  ·cases h; rfl
  ·cases h
 ·cases h
theorem zp{H:List au}{e:cy}{fz:Nat->Bool}:∀{os:List bS} {aA:List Nat} {g:LG},lJ H e fz os aA=some (true,g)->∀(k:LG) (lens:dY),
  g.length=o_ os/\aA.length=os.length/\(dA lens os (g++k)).length=os.length /\
  (∀ (j : Nat) (sh : bS), os[j]? = some sh -> ∃ i o q M, aA[j]? = some i /\ H[i]? = some o /\ jG H e fz sh o = some (true, q) /\ (dA lens os (g ++ k))[j]? = some (gp lens sh (q ++ M)) /\
   (dB os (g++k)).ak j=sh.up/\∀ ks v rZ,o=.vQ ks v rZ->(dB os (g++k)).len j=rZ.length)
 | [],[],g,h,k,lens=>by
  simp only[lJ,be,bo]at h;obtain⟨_,rfl⟩:=h;exact⟨rfl,rfl,rfl,fun j sh y=>by simp at y⟩
 | sh::os,i::aA,g,h,k,lens=>by
  simp only[lJ]at h;split at h
  case h_2=>cases h
  rename_i o ho;split at h
  ·rename_i b q b' N h1 W
   simp only[be,bo,aL]at h;obtain⟨⟨rfl,rfl⟩,rfl⟩:=h;obtain⟨q0,q1,q2,q3⟩:=zp W k lens;have O:=XX h1;have I:fx sh.sz (q++(N++k))=N++k:=by rw[<-O]; exact rz q _
   refine⟨by simp only[o_,fX,O,q0],by simp only[cd,q1],by simp only[dA,gG,I,cd,q2],fun j U y=>?_⟩;cases j with
   | zero =>
    simp at y;subst y;refine⟨i,o,q,N++k,rfl,ho,h1,by simp only[dA,gG,List.getElem?_cons_zero],?_,?_⟩
    ·unfold dB dY.ak
     cases sh<;>rfl
    ·rintro ks v rZ rfl
     unfold jG at h1;split at h1
     ·rename_i d
      cases d;split at h1
      ·cases h1
       simp[dB,dY.len,G.rZ]
      ·cases h1
     ·rename_i d; cases d
     ·rename_i d; cases d
     ·rename_i d; cases d
     ·rename_i d; cases d
     ·rename_i d; cases d
     ·rename_i d; cases d
     ·rename_i d; cases d
     ·cases h1
   | succ j =>
    obtain⟨i',o',V,M,r1,r2,r3,r4,r5,r6⟩:=q3 j U (by simpa using y);refine⟨i',o',V,M,by simpa using r1,r2,r3,by simpa only[dA,gG,I,T9]using r4,?_,?_⟩
    ·simpa only[dB,dY.ak,gG,I,akp]using r5
    ·simpa only[dB,dY.len,gG,I,akp]using r6
  ·cases h
 | [],_::_,_,h,_,_=>by simp[lJ]at h
 |_::_,[],_,h,_,_=>by simp[lJ]at h
end Go.AL

namespace Go.AL
open Go
variable [Dr]
abbrev tK(a b:Bool):Bool:=Bool.casesOn a false b
theorem tL{a b:Bool}:tK a b=true↔a=true/\b=true:=by cases a<;>simp
open Classical in
noncomputable def qc(E:af)(H0:List ai)(l:Nat):List (Option (Option (Nat × Nat))):=if ∃(j:Nat) (o:ai),H0[j]? = some o/\o.label=some l then E.X.r l else (E.X.r l).map fun _=>none
theorem XY{E:af}{H0:List ai}{l j:Nat}{o:ai}(h:H0[j]? = some o)(d:o.label=some l):qc E H0 l=E.X.r l:=iP ⟨j,o,h,d⟩
theorem CF{E:af}{H0:List ai}{l h:Nat}{q:Option (Nat × Nat)}(d:(qc E H0 l)[h]? = some (some q)):(E.X.r l)[h]? = some (some q)/\∃(j:Nat) (o:ai),H0[j]? = some o/\o.label=some l:=by
 unfold qc at d;split at d
 ·rename_i k
  exact⟨d,k⟩
 ·rw [bW] at d
  cases g:(E.X.r l)[h]? with
  |none=>rw[g]at d; cases d
  |some y=>rw[g]at d; cases d
theorem XZ(E:af)(H0:List ai)(l:Nat):(qc E H0 l).length=(E.X.r l).length:=by
 unfold qc;split
 ·rfl
 ·simp
noncomputable def kz(E:af)(H0:List ai)(aA:List Nat):af:=⟨E.w,H0,aA.map fun i=>E.ae.getD i none,E.X.re (qc E H0)⟩
theorem Nl(E:af)(H0:List ai)(aA:List Nat):∀ l h,h<(E.X.r l).length->h<((kz E H0 aA).X.r l).length/\∀ q,((kz E H0 aA).X.r l)[h]? = some (some q)->(E.X.r l)[h]? = some (some q) :=
 fun l h d=>⟨by show h<(qc E H0 l).length; rw[XZ]; exact d,fun q g=>(CF (E:=E) (H0:=H0) g).1⟩
theorem Nn{E:af}{H0:List ai}{aA:List Nat}{b:Nat}(h:(kz E H0 aA).ab b):E.ab b:=by
 rcases h with⟨j,c,g⟩|⟨l,k,c,g⟩
 ·simp only [kz, bW] at g
  obtain⟨i,_,d⟩:=eM.1 g;rw[cu]at d;cases he:E.ae[i]? with
  |none=>rw[he]at d; cases d
  |some y=>rw[he]at d; simp at d; exact .inl ⟨i,c,by rw[he,d]⟩
 ·exact .inr ⟨l,k,c,(CF g).1⟩
def kA(aA:List Nat)(i:Nat):Bool := !aA.any (ar i)
theorem No{aA:List Nat}{i:Nat}(h:kA aA i=true):i∉aA:=by
 intro hm;have:aA.any (ar i)=true:=lq.2 ⟨i,hm,by simp⟩;simp[kA,this]at h
theorem Np{E:af}{H:List au}(hH:E.H=az H)(HE:aI E){aA:List Nat}(hn:aA.Nodup){os:List bS}{g:LG}(h:lJ H (cz H aA) (kA aA) os aA=some (true,g))(M:LG) :
  ku H (cz H aA) (kA aA) (dB os (g++M)) E (kz E (az (dA (dB os (g++M)) os (g++M))) aA) /\
   aI (kz E (az (dA (dB os (g++M)) os (g++M))) aA):=by
 obtain⟨p0,p1,p2,p3⟩:=zp h M (dB os (g++M));generalize U:kz E (az (dA (dB os (g++M)) os (g++M))) aA=E0;have hElen:E.ae.length=H.length:=by rw[HE.len,hH,fw]
 have eids:(cz H aA).aA=aA:=rfl;have hloc:∀ j x,E0.ae[j]? = some x->j<aA.length/\∃ i,aA[j]? = some i/\E.ae.getD i none=x:=by
  intro j x O;rw[<-U]at O;simp only[kz,bW]at O;obtain⟨i,h1,N⟩:=eM.1 O;exact⟨aV h1,i,h1,N⟩
 have getD_some:∀{i:Nat} {x:Nat × Nat},E.ae.getD i none=some x->E.ae[i]? = some (some x):=by
  intro i x O;rw[cu]at O;cases he:E.ae[i]? with
  |none=>rw[he]at O; cases O
  |some y=>rw[he]at O; simp at O; rw[O]
 have hown:∀ b,E0.ab b->E.ab b:=by
  rintro b (⟨j,c,I⟩|⟨l,k,c,I⟩)
  ·obtain ⟨_, i, _, N⟩ := hloc j _ I
   exact .inl ⟨i,c,getD_some N⟩
  ·rw [<- U] at I
   exact .inr ⟨l,k,c,(CF I).1⟩
 have hw:E0.w=E.w:=by rw[<-U]; rfl
 have hX:E0.X.x=E.X.x:=by rw[<-U]; rfl
 have hsome:∀(l k:Nat) q,(E0.X.r l)[k]? = some (some q)->(E.X.r l)[k]? = some (some q)/\∃(j:Nat) (o:ai),E0.H[j]? = some o/\o.label=some l:=fun l k q hq=>by
  rw[<-U]at hq|-;exact CF hq
 have hatl:∀ j,j<aA.length->aA[j]? = some ((cz H aA).at j):=fun j I=>jF (e:=cz H aA) I;have hobjs:∀ j,j<aA.length->∃ sh o W V,os[j]? = some sh/\H[(cz H aA).at j]? = some o/\jG H (cz H aA) (kA aA) sh o=some (true,W) /\
   (dA (dB os (g++M)) os (g++M))[j]? = some (gp (dB os (g++M)) sh (W++V)) /\
   (dB os (g++M)).ak j=sh.up/\∀ ks v rZ,o=.vQ ks v rZ->(dB os (g++M)).len j=rZ.length:=by
  intro j I;have hj':j<os.length:=by omega
  obtain⟨i,o,W,V,q1,q2,q3,q4,q5,q6⟩:=p3 j os[j] (bY hj');rw[hatl j I]at q1;cases q1;exact⟨os[j],o,W,V,bY hj',q2,q3,q4,q5,q6⟩
 have hK:ku H (cz H aA) (kA aA) (dB os (g++M)) E E0:=by
  refine⟨hH,HE,fun i hi b n hb=>?_,⟨fun b hb=>⟨⟨by rw[hw]; exact hb.1,fun ho=>hb.2.1 (hown b ho),by rw[hX]; exact hb.2.2⟩,by rw[hw]⟩,hw,fun j I=>?_,fun j o l h1 N=>by rw[<-U]at h1|-; exact XY h1 N⟩,fun j o ho=>?_⟩
  ·refine ⟨by rw [hw]; exact (HE.lt _ _ _ hb).1, ?_, by rw [hX]; exact (HE.lt _ _ _ hb).2⟩
   rintro(⟨j,c,I⟩|⟨l,k,c,I⟩)
   case inr=>exact HE.dm _ _ _ _ _ _ hb (hsome l k _ I).1
   obtain⟨_,i',h1,N⟩:=hloc j _ I;have:=HE.inj _ _ _ _ _ hb (getD_some N);subst this;exact No hi (eO h1)
  ·rw [<- U]
   simp only[kz,bW,hatl j I,e_];have hlt:(cz H aA).at j<E.ae.length:=by
    obtain⟨sh,o,W,V,_,q2,_⟩:=hobjs j I;rw[hElen];exact aV q2
   rw[cu,bY hlt];rfl
  ·have I:j<aA.length:=by
    rcases l5 j aA.length with hlt|hge
    ·exact hlt
    ·have h1 := aV ho
     have N:=vT (e:=cz H aA) hge;have h3:(cz H aA).aN=H.length:=rfl;omega
   refine⟨I,?_⟩;obtain⟨sh,o',W,V,q1,q2,q3,q4,q5,q6⟩:=hobjs j I;rw[ho]at q2;cases q2;obtain⟨r1,r2,r3⟩:=HF (lens:=dB os (g++M)) (d:=W++V) q3;have hq4:E0.H[j]? = some (gp (dB os (g++M)) sh (W++V)).ao:=by
    rw[<-U];exact bt q4
   exact⟨r1,⟨_,hq4,by rw[q5]; exact r2⟩,fun o0 h0=>by rw[hq4]at h0; cases h0; rw[HB,HC q3],q6,fun hv=>by rw[q5]; exact r3 hv⟩
 have hlabs:∀(j:Nat) o,E0.H[j]? = some o->j<aA.length/\∃ o',E.H[(cz H aA).at j]? = some o'/\o'.label=o.label:=fun j o ho=>by
  rw[<-U]at ho;simp only[kz,az,bW]at ho;obtain⟨o',h1,rfl⟩:=eM.1 ho;have I:j<aA.length:=by
   have:=aV h1;omega
  obtain⟨sh,oo,W,V,q1,q2,q3,q4,_⟩:=hobjs j I;rw[h1]at q4;cases q4;exact⟨I,oo.ao,by rw[hH]; exact bt q2,by rw[Nd q3,vU]⟩
 refine⟨hK,?_,?_,?_,fun b O=>?_,fun j o ho=>?_,HE.gL.bT hK.dv.bT,fun l k l' k' b m n h1 N=>HE.fM l k l' k' b m n (hsome _ _ _ h1).1 (hsome _ _ _ N).1,fun i b m l k n hi N=>?_,fun l k b m h1=>by rw[hw,hX]; exact HE.cQ l k b m (hsome _ _ _ h1).1,fun i j o o' l hi I h1 N=>?_,fun l hn k q hq=>?_⟩
 ·rw [<- U]
  simp only[kz,c9,fw,p2,p1]
 ·intro i j b m n hi I
  obtain⟨i1,i2,i3,i4⟩:=hloc i _ hi;obtain⟨j1,j2,j3,j4⟩:=hloc j _ I;have:=HE.inj _ _ _ _ _ (getD_some i4) (getD_some j4);subst this;exact(Fh i1 hn).1 (by rw[i3,j3])
 ·intro i b m hi
  obtain⟨_,i2,_,i4⟩:=hloc i _ hi;rw[hw,hX];exact HE.lt _ _ _ (getD_some i4)
 ·rw [hw]
  rw[hX]at O;exact HE.X b O
 ·rw [<- U] at ho
  simp only[kz,az,bW]at ho;obtain⟨o',h1,rfl⟩:=eM.1 ho;have I:j<aA.length:=by
   have:=aV h1;omega
  obtain⟨sh,oo,W,V,q1,q2,q3,q4,q5,q6⟩:=hobjs j I;rw[h1]at q4;cases q4;refine Nj hK q3 V (by exact I) (fun l hl=>?_) (HE.obj _ _ (by rw[hH]; exact bt q2));refine hK.dv.lH j (gp (dB os (g++M)) sh (W++V)).ao l ?_ (by rw[vU,hl]);rw[<-U];exact bt h1
 ·obtain ⟨_, i', _, h3⟩ := hloc i _ hi
  exact HE.dm _ _ _ _ _ _ (getD_some h3) (hsome _ _ _ N).1
 ·obtain ⟨i1, oi, a1, a2⟩ := hlabs i o hi
  obtain⟨j1,oj,b1,b2⟩:=hlabs j o' I;have:=HE.uniq _ _ _ _ l a1 b1 (by rw[a2,h1]) (by rw[b2,N]);exact(Fh i1 hn).1 (by rw[hatl i i1,hatl j j1,this])
 ·obtain ⟨_, j, o, h1, N⟩ := hsome l k q hq
  exact hn j o h1 N
def nodupB:List Nat->Bool
 | []=>true
 |i::d => !d.any (ar i)&&nodupB d
theorem vX:∀{l:List Nat},nodupB l=true->l.Nodup
 | [],_=>List.nodup_nil
 | i::d,h=>by
  simp only[nodupB,aL,sL]at h;refine pL.2 ⟨fun hm=>?_,vX h.2⟩;have:d.any (ar i)=true:=lq.2 ⟨i,hm,by simp⟩;rw[h.1]at this;cases this
def qd(H:List au):Nat->Nat->List Nat->List bS->Bool
 |_,0,_,_=>true
 |i,m+1,id::aA,o::os=>ar id i&&((ar (vW H i) 0 || !ar o.up 0)&&qd H (i+1) m aA os)
 |_,_,_,_=>false
theorem CG{H:List au}:∀{i m:Nat} {aA:List Nat} {os:List bS},qd H i m aA os=true->∀ j,j<m->aA[j]? = some (i+j)/\∃ o,os[j]? = some o/\(vW H (i+j)=0\/o.up≠0)
 |_,0,_,_,_,j,g=>by omega
 | i,m+1,id::aA,o::os,h,j,g=>by
  simp only[qd,aL,Bool.or_eq_true,sL]at h;obtain⟨h1,d,k⟩:=h;have h1:=bx h1;subst h1;cases j with
  | zero =>
   refine⟨rfl,o,rfl,?_⟩;rcases d with d|d
   ·exact .inl (bx d)
   ·right
    intro e;rw[e]at d;cases d
  | succ j =>
   have:=CG k j (by omega);rw[show id+1+j=id+(j+1) from by omega]at this;simpa using this
 |_,_+1,[],_,h,_,_=>by simp[qd]at h
 |_,_+1,_::_,[],h,_,_=>by simp[qd]at h
theorem Nq{E:af}{H:List au}(hH:E.H=az H){aA:List Nat}{os:List bS}{m:Nat}{lens:dY}{E0:af}(M:ku H (cz H aA) (kA aA) lens E E0)(hX:E0.X.x=E.X.x/\E0.X.z=E.X.z)
  (hrl:∀ l h,h<(E.X.r l).length->h<(E0.X.r l).length/\∀ q,(E0.X.r l)[h]? = some (some q)->(E.X.r l)[h]? = some (some q))
  (hok:qd H 0 m aA os=true) (hobj:∀ j,j<m->∃ o sh,H[(cz H aA).at j]? = some o/\os[j]? = some sh/\lens.ak j=sh.up) (hown:∀ b,E0.ab b->E.ab b):E.gB m E0:=by
 have key:∀ id,id<m->(cz H aA).at id=id/\∃ o sh,H[id]? = some o/\os[id]? = some sh/\lens.ak id=sh.up/\(vV o=0\/sh.up≠0)/\CE E0 lens id o/\id<aA.length:=by
  intro id g;obtain⟨h1,o',V,N⟩:=CG hok id g;rw[cP]at h1 N;have U:=aV h1;have k:=jF (e:=cz H aA) (j:=id) U;rw[show (cz H aA).aA=aA from rfl,h1]at k;have k:=(jd k).symm;obtain⟨o,sh,d,y,O⟩:=hobj id g;obtain⟨r1,r2⟩:=M.obj id o d;rw[k]at d;rw[V]at y;have y:=jd y;rw[<-y]at O;refine⟨k,o,o',d,V,O,?_,r2,U⟩;rcases N with N|N
  ·left
   simpa[vW,d]using N
  ·exact .inr N
 refine⟨fun id g hp=>?_,by rw[M.dv.w]; exact aQ _,fun b _ _=>by rw[M.dv.w],fun b _ hb ho=>hb (hown b ho),fun id g hp hl=>?_,fun b _=>by rw[hX.1,hX.2]; exact⟨Iff.rfl,Iff.rfl⟩,hrl,by rw[M.dv.w]; exact⟨rfl,rfl,rfl,by first|exact fun _=>aQ _|exact fun _=>gX _ _⟩,fun id g l o h1 V _=>?_⟩
 rotate_right
 ·obtain ⟨k, o1, sh, d, y, O, W, I, U⟩ := key id g
  obtain⟨o0,r1,r2⟩:=I.obj;rw[hH,bt d]at h1;cases h1;have hm:=I.mm o0 r1;rw[V]at hm;exact⟨⟨[],by rw[dJ]; exact M.dv.lH id o0 l r1 (ai.nP hm)⟩,o0,r1,hm⟩
 ·obtain ⟨_, o, sh, d, y, O, W, I, _⟩ := key id g
  obtain⟨o0,r1,r2⟩:=I.obj;exact⟨o0,r1,ai.Fs r2,fun v _=>eR v⟩
 ·obtain ⟨k, o, sh, d, y, O, W, I, U⟩ := key id g
  obtain⟨o0,r1,r2⟩:=I.obj;obtain⟨o1,r3,r4⟩:=hl;rw[r1]at r3;cases r3;rw[r2]at r4;have hz:lens.ak id=0:=jd r4;rw[O]at hz;have hv:vV o=0:=W.resolve_right (fun h=>h hz);refine⟨⟨o.ao,by rw[hH]; exact bt d,by rw[I.ak,hv]⟩,?_⟩;have:=M.dv.ae id U;rw[k]at this;exact this
structure qe where
 n:Nat
 zq:List (Nat × Sh)
 c8:List bS
def vY:Nat->List (Nat × Sh)->List AV->AV
 | i,(j,_)::d,v::g=>match ar i j with
  |true=>v
  |false=>vY i d g
 |_,_,_=>.undef
def ch(S:qe)(d:LG):aF :=
 ⟨(fj S.n).map fun i=>vY i S.zq (ij (dB S.c8 d) (S.zq.map (·.2)) (fx (o_ S.c8) d)),dA (dB S.c8 d) S.c8 d⟩
def HG(m:Nat)(S:qe)(aA:List Nat)(s:aF):Option (Bool × LG) :=
 match ar s.fr.length S.n&&(nodupB aA&&qd s.H 0 m aA S.c8)with
 |false=>none
 | true=>match lJ s.H (cz s.H aA) (kA aA) S.c8 aA,fS s.H (cz s.H aA) (kA aA) (S.zq.map (·.2)) (S.zq.map fun p=>s.fr.getD p.1 .undef) with
  |some (b,g),some (d,h)=>some (b&&d,g++h)
  |_,_=>none
theorem Nr{E:af}:∀{d:List (Nat × Sh)} {g:List AV} {cs:List al} {i:Nat} {c:al},(∀(k:Nat) (p:Nat × Sh) (v:AV),d[k]? = some p->g[k]? = some v->∀ c,cs[p.1]? = some c->ad E v c)->cs[i]? = some c ->
  ad E (vY i d g) c
 | [],_,_,_,_,_,_=>by simp[vY,ad]
 |_::_,[],_,_,_,_,_=>by simp[vY,ad]
 | (j,sh)::d,v::g,cs,i,c,h,q=>by
  simp only[vY];split
  ·rename_i e
   have e:=bx e;subst e;exact h 0 (i,sh) v rfl rfl c q
  ·exact Nr (fun k p v y I=>h (k+1) p v (by simpa using y) (by simpa using I)) q
theorem X1{m:Nat}{S:qe}{aA:List Nat}{s:aF}{d:LG}(h:HG m S aA s=some (true,d)):bF m s.ao (ch S d).ao:=fun E a I=>by
 unfold HG at h;split at h
 ·cases h
 rename_i q;simp only[aL]at q;obtain⟨U,M,V⟩:=q;have U:=bx U;have M:=vX M;split at h
 case h_2=>cases h
 rename_i b g b' y h1 h2;simp only[be,bo,aL]at h;obtain⟨⟨rfl,rfl⟩,rfl⟩:=h;have hH:E.H=az s.H:=I.H;obtain⟨O,hHR⟩:=Np hH I.heap M h1 y;obtain⟨p0,p1,p2,p3⟩:=zp h1 y (dB S.c8 (g++y));have hd:fx (o_ S.c8) (g++y)=y:=by rw[<-p0]; exact rz g y
 have hS:=zo O h2 [];rw[dJ]at hS;obtain⟨q1,q2,q3,q4⟩:=hS;refine⟨aA.map fun i=>E.ae.getD i none,E.X.re (qc E (ch S (g++y)).ao.H),⟨rfl,?_,I.defers,hHR⟩,?_⟩
 ·have hfr : aw E s.fr a.tmps.toList := I.fr
  obtain⟨f1,f2⟩:=pO.1 hfr;refine pO.2 ⟨?_,fun i x c hi q=>?_⟩
  ·simp only [aF.ao, ch, c9, List.length_range]
   omega
  ·simp only [aF.ao, ch, hd, bW] at hi
   obtain⟨i',N,rfl⟩:=eM.1 hi;have hin:i<S.n:=by
    have:=aV N;simpa using this
   rw[List.getElem?_range hin]at N;cases N;refine Nr (cs:=a.tmps.toList) (fun k p v hk hv c q=>?_) q;have hk2:(S.zq.map fun p=>s.fr.getD p.1 .undef)[k]? = some (s.fr.getD p.1 .undef):=by simp[hk]
   have hx:ad E (s.fr.getD p.1 .undef) c:=by
    have W:=aV q;rw[<-f1]at W;have e1:s.fr[p.1]? = some (s.fr.getD p.1 .undef):=by
     rw[cu,bY W];rfl
    exact f2 p.1 _ c e1 q
   exact Ni O h2 hk2 (by rw[dJ]; exact hv) hx
 ·exact Nq hH O ⟨rfl,rfl⟩ (Nl E _ aA) V (fun j hj=>by
   obtain⟨r1,o',r2,_⟩:=CG V j hj;obtain⟨i,o,g1,rest1,t1,t2,t3,t4,t5,t6⟩:=p3 j o' r2;have hat:=jF (e:=cz s.H aA) (j:=j) (aV t1);rw[show (cz s.H aA).aA=aA from rfl,t1]at hat;cases hat;exact⟨o,o',t2,r2,t5⟩) (fun b=>Nn)
def HH(ay:Nat)(s:aF):aF :=
 match s.fr.getD ay .undef with
 | .vQ w id ak oF n=>match s.H[id]? with
  |some (.vQ ks v rZ)=>if ak=v/\oF=0/\w=ks.length then ⟨s.fr.set ay (.vQ w id (v+1) 0 n),s.H.set id (.vQ ks (v+1) (rZ.take n))⟩ else s
  |_=>s
 |_=>s
theorem CH{E:af}{a:AV}:∀{fr:List AV} {cs:List al} {i:Nat},aw E fr cs->(∀ c,cs[i]? = some c->ad E a c)->aw E (fr.set i a) cs
 | [],cs,i,h,_=>by simpa using h
 |x::fr,[],i,h,_=>by simp[aw]at h
 | x::fr,c::cs,0,h,ha=>by
  simp only[aw]at h;simp only[List.set_cons_zero,aw];exact⟨ha c rfl,h.2⟩
 | x::fr,c::cs,i+1,h,ha=>by
  simp only[aw]at h;simp only[List.set_cons_succ,aw];exact⟨h.1,CH h.2 fun y d=>ha y (by simpa using d)⟩
theorem HJ{E:af}{fr:List AV}{cs:List al}{i:Nat}{c:al}(h:aw E fr cs)(g:cs[i]? = some c):ad E (fr.getD i .undef) c:=by
 obtain⟨h1,k⟩:=pO.1 h;have d:=aV g;rw[<-h1]at d;have q:fr[i]? = some (fr.getD i .undef):=by
  rw[cu,bY d];rfl
 exact k i _ c q g
theorem X2{m:Nat}{ay:Nat}{s:aF}:bF m s.ao (HH ay s).ao:=by
 unfold HH;split
 case h_2=>exact bF.refl _
 rename_i w id ak oF n hsl;split
 case h_2=>exact bF.refl _
 rename_i ks v rZ hid;split
 case isFalse=>exact bF.refl _
 rename_i M;obtain⟨rfl,rfl,rfl⟩:=M;intro E a d;have hH:E.H=az s.H:=d.H;have y:E.H[id]? = some (.vQ ks.length ak (rZ.map (aT ks))):=by rw[hH]; exact bt hid
 have ho:=d.heap.obj id _ y;obtain⟨l,N⟩:∃ l,E.ae[id]? = some l:=by
  have:id<E.ae.length:=by rw[d.heap.len]; exact aV y
  exact⟨_,bY this⟩
 have V:E.ae.set id l=E.ae:=oV N;have U:az (s.H.set id (.vQ ks (ak+1) (rZ.take n)))=E.H.set id (.vQ ks.length (ak+1) ((rZ.take n).map (aT ks))):=by rw[cR,hH]; rfl
 have hlc:∀ b n,l=some (b,n)->E.w.heap.size<=b\/∃ m,E.ae[id]? = some (some (b,m)):=fun b n hb=>.inr ⟨n,by rw[N,hb]⟩;have W:∀ v u,(ai.vQ ks.length (ak+1) ((rZ.take n).map (aT ks))).aU = some v->(ai.vQ ks.length ak (rZ.map (aT ks))).aU = some u->u<=v:=by
  intro v u h1 k;simp[ai.aU]at h1 k;omega
 have hvr:∀ v,(ai.vQ ks.length (ak+1) ((rZ.take n).map (aT ks))).aU = some v->∀ u,(ai.vQ ks.length ak (rZ.map (aT ks))).aU = some u->u<v:=by
  intro v h1 u k;simp[ai.aU]at h1 k;omega
 have I:=af.me (o':=.vQ ks.length (ak+1) ((rZ.take n).map (aT ks))) (l:=l) (w':=E.w) y d.heap.len (aQ _) (fun _ _ _=>rfl) hlc (.inr hvr) W (fun _ h=>by simp[ai.aU]at h);have hHR:=aI.nS (o':=.vQ ks.length (ak+1) ((rZ.take n).map (aT ks))) (l:=l) (w':=E.w) d.heap y (aQ _) (fun _ _ _=>rfl) (fun b n hb=>.inr ⟨n,by rw[N,hb]⟩) (.inr hvr) W (fun _ h=>by simp[ai.aU]at h) (by
  rw[V]at I|-;simp only[aY]at ho|-;rcases ho with⟨h1,k⟩|⟨b,mm,h1,k,O,h4,h5⟩
  ·left
   refine⟨h1,?_⟩;have:rZ=[]:=by simpa using k
   rw[this];simp
  ·right
   refine⟨b,mm,h1,k,by simp at O|-; omega,?_,?_⟩
   ·intro r q
    obtain⟨g,_,rfl⟩:=dw.1 q;exact gJ ks g
   ·rw [nR] at h5 |-
    intro i r hi;simp only[bW,oH]at hi;split at hi
    ·obtain ⟨g1, g2⟩ := h5 i r (by simpa using hi)
     exact⟨g1,BC (fun a c q=>bD I a q) rfl g2⟩
    ·simp at hi)
 rw[V]at I hHR;refine⟨E.ae,E.X,?_,?_⟩
 ·simp only [aF.ao]
  rw[U];refine⟨rfl,?_,d.defers,hHR⟩;refine CH (en I _ d.fr) fun c M=>?_;have q:=HJ d.fr M;rw[show s.ao.fr=s.fr from rfl,hsl]at q;simp only[ad]at q|-;obtain⟨h1,k,O⟩:=q;exact⟨h1,⟨.vQ ks.length (ak+1) ((rZ.take n).map (aT ks)),bB (aV y),rfl,fun v hv=>by simp[ai.aU]at hv; omega⟩,fun _=>O ⟨_,y,rfl⟩⟩
 ·simp only [aF.ao]
  rw[U];exact I.toM
end Go.AL

namespace Go.AL
open Go
variable [Dr]
def bg.leaf{β:Type}(f:cD->aF->Option (Bool × β)):bg->Option β
 |.fail=>none
 | .done x s=>match f x s with
  |some (b,r)=>bif b then some r else none
  |none=>none
 |.ask b t e=>bif b then t.leaf f else e.leaf f
 |.side b t=>bif b then t.leaf f else none
theorem rA{β:Type}{f:cD->aF->Option (Bool × β)}:∀{t:bg} {r:β},t.leaf f=some r->t.holds fun x s=>f x s=some (true,r)
 |.fail,_,h=>by cases h
 | .done x s,r,h=>by
  simp only[bg.leaf]at h;split at h
  ·rename_i b g d
   cases b with
   |true=>cases h; exact d
   |false=>cases h
  ·cases h
 | .ask b t e,r,h=>by
  cases b with
  |true=>exact⟨fun _=>rA (t:=t) h,fun h=>by cases h⟩
  |false=>exact⟨fun h=>(nomatch h),fun _=>rA (t:=e) h⟩
 | .side b t,r,h=>by
  cases b with
  |true=>exact And.intro rfl (rA (t:=t) h)
  |false=>cases h
inductive mv where
 |fix (i:Nat)
 |ay (i:Nat)
 |cap (i c:Nat)
 |cell (j c:Nat)
 |HK (j c k:Nat)
def CI:AV->Option Nat
 |.ptr id _ _ _ _=>some id
 |.vQ _ id _ _ _=>some id
 |.map id=>some id
 |_=>none
def CJ(H:List au)(d:Nat->AV)(g:List Nat):mv->Option Nat
 |.fix i=>some i
 |.ay i=>CI (d i)
 | .cap i c=>match d i with
  |.clo _ cs=>CI (cs.getD c .undef)
  |_=>none
 | .cell j c=>match H[g.getD j 0]? with
  |some (.raw (.box cells))=>CI (cells.getD c .undef)
  |_=>none
 | .HK j c k=>match H[g.getD j 0]? with
  | some (.raw (.box cells))=>match cells.getD c .undef with
   |.clo _ cs=>CI (cs.getD k .undef)
   |_=>none
  |_=>none
def lK(H:List au)(g:Nat->AV):List mv->List Nat->Option (List Nat)
 | [],d=>some d
 | p::ps,d=>match CJ H g d p with
  |some i=>lK H g ps (d++[i])
  |none=>none
structure vZ where
 x:cD
 S:qe
 ps:List mv
structure bG where
 key:Nat
 opens:List (Nat × List Kd)
 inv:qe
 ps:List mv
 outs:List vZ
 st:LG->Option (Option Nat × LG)
def tM(st:LG->Option (Option Nat × LG)):Nat->LG->Option (Nat × LG)
 |0,_=>none
 | n+1,d=>match st d with
  |some (none,g)=>tM st n g
  |some (some x,g)=>some (x,g)
  |none=>none
def cn(st:LG->Option (Option Nat × LG))(d:LG):Option (Nat × LG):=tM st 1000000 d
def HL(r:Option (Nat × LG)):Nat:=match r with
 |some (x,_)=>x
 |none=>0
def HM(r:Option (Nat × LG)):LG:=match r with
 |some (_,d)=>d
 |none=>[]
def nl(m:Nat)(S:qe)(ps:List mv)(s:aF):Option (Bool × LG) :=
 match lK s.H (fun i=>s.fr.getD i .undef) ps []with
 |some aA=>HG m S aA s
 |none=>none
theorem qf{m:Nat}{S:qe}{ps:List mv}{s:aF}{d:LG}(h:nl m S ps s=some (true,d)):bF m s.ao (ch S d).ao:=by
 unfold nl at h;split at h
 ·exact X1 h
 ·cases h
def lL:List (Nat × List Kd)->aF->aF
 | [],s=>s
 | (i,ks)::r,s=>match eh 1000000 i with
  |true=>lL r (HH (i-1000000) s)
  | false=>match isNil (s.fr.getD i .undef) with
   |true=>lL r (zh i ks s)
   |false=>lL r s
theorem qg{m:Nat}:∀(l:List (Nat × List Kd)) (s:aF),bF m s.ao (lL l s).ao
 | [],s=>bF.refl _
 | (i,ks)::r,s=>by
  simp only[lL];split
  ·exact X2.trans (qg r _)
  ·split
   ·rename_i h
    exact(M1 h).trans (qg r _)
   ·exact qg r s
def tN(m:Nat):List vZ->Nat->cD->aF->Option (Bool × (Option Nat × LG))
 | [],_,_,_=>none
 | o::os,i,x,s=>match decide (x=o.x) with
  | true=>match nl m o.S o.ps s with
   |some (b,d)=>some (b,(some i,d))
   |none=>none
  |false=>tN m os (i+1) x s
def CK(m:Nat)(sp:bG)(x:cD)(s:aF):Option (Bool × (Option Nat × LG)) :=
 match x with
 | .normal=>match nl m sp.inv sp.ps s with
  |some (b,d)=>some (b,(none,d))
  |none=>none
 |x=>tN m sp.outs 0 x (lL sp.opens s)
theorem CL{m:Nat}:∀{os:List vZ} {i:Nat} {x:cD} {s:aF} {b:Bool} {k:Option Nat} {d:LG},tN m os i x s=some (b,(k,d)) ->
  ∃ j o,os[j]? = some o/\k=some (i+j)/\x=o.x/\nl m o.S o.ps s=some (b,d)
 | [],_,_,_,_,_,_,h=>by cases h
 | o::os,i,x,s,b,k,d,h=>by
  simp only[tN]at h;split at h
  ·rename_i g
   split at h
   ·rename_i M N q
    cases h;exact⟨0,o,rfl,rfl,of_decide_eq_true g,q⟩
   ·cases h
  ·obtain ⟨j, o', h1, v, y, I⟩ := CL h
   exact⟨j+1,o',by simpa using h1,by rw[v]; congr 1; omega,y,I⟩
section loops
variable {P:aj} {τ:aH} {L:LT} {m:Nat} {c:Code} {sp:bG}
def v_(P:aj)(τ:aH)(L:LT)(m:Nat)(c:Code)(sp:bG):Prop:=∀ d,(ig P τ L c (ch sp.inv d) .done).leaf (CK m sp)=sp.st d
theorem Ns(hm:P.follows .mixedOrders=true)(v:aJ P τ)(y:aZ P m L c)(I:v_ P τ L m c sp){d q:LG}{k:Option Nat}(h:sp.st d=some (k,q)) :
  (k = none /\ dX P m c (ch sp.inv d).ao .normal (ch sp.inv q).ao) \/
   ∃ j o,k=some j/\sp.outs[j]? = some o/\o.x≠.normal/\dX P m c (ch sp.inv d).ao o.x (ch o.S q).ao:=by
 rw[<-I d]at h;obtain⟨x,s1,h1,g⟩:=nf hm v c (ch sp.inv d) .done y (Q:=fun x s=>CK m sp x s=some (true,(k,q))) (rA h);have g:CK m sp x s1=some (true,(k,q)):=g;unfold CK at g;split at g
 ·split at g
  ·rename_i b W M
   cases g;exact .inl ⟨rfl,vn h1 (qf M)⟩
  ·cases g
 ·rename_i N
  obtain⟨j,o,O,U,rfl,V⟩:=CL g;exact .inr ⟨j,o,by simpa using U,O,fun e=>N e,vn h1 ((qg sp.opens s1).trans (qf V))⟩
theorem Nt(hm:P.follows .mixedOrders=true)(k:aJ P τ)(q:aZ P m L c)(v:v_ P τ L m c sp):∀(n:Nat) {d y:LG} {x:Nat},tM sp.st n d=some (x,y) ->
  ∃ o,sp.outs[x]? = some o/\mU P m c (ch sp.inv d).ao o.x (ch o.S y).ao
 |0,_,_,_,h=>by cases h
 | n+1,d,y,x,h=>by
  simp only[tM]at h;split at h
  ·rename_i N h1
   rcases Ns hm k q v h1 with⟨_,O⟩|⟨_,_,g,_⟩
   ·obtain ⟨o, I, M⟩ := Nt hm k q v n h
    exact⟨o,I,.next O M⟩
   ·cases g
  ·rename_i V N h1
   cases h;rcases Ns hm k q v h1 with⟨g,_⟩|⟨j,o,g,I,M,U⟩
   ·cases g
   ·cases g
    exact⟨o,I,.stop U M⟩
  ·cases h
def zt(r:Option (Nat × LG)):List vZ->Nat->bg
 | [],_=>.fail
 | [o],_=>.done o.x (ch o.S (HM r))
 |o::os,i=>.ask (ar (HL r) i) (.done o.x (ch o.S (HM r))) (zt r os (i+1))
theorem CM{x:Nat}{d:LG}{Q:cD->aF->Prop}:∀{os:List vZ} {i j:Nat} {o:vZ},os[j]? = some o->x=i+j->(zt (some (x,d)) os i).holds Q->Q o.x (ch o.S d)
 | [],_,_,_,h,_,_=>by simp at h
 | [o],i,j,o',h,k,g=>by
  cases j with
  | zero =>
   simp at h;subst h;exact g
  |succ j=>simp at h
 | o::o2::os,i,j,o',h,k,g=>by
  simp only[zt,bg.holds]at g;cases j with
  | zero =>
   simp at h;subst h;exact g.1 (by simp only[HL]; rw[k]; simp)
  | succ j =>
   refine CM (os:=o2::os) (i:=i+1) (j:=j) (by simpa using h) (by omega) (g.2 ?_);have:x≠i:=by omega
   exact akq.2 fun e=>this (bx e)
def HN(m:Nat)(sp:bG)(s:aF):Option bg :=
 match nl m sp.inv sp.ps (lL sp.opens s)with
 |some (b,d)=>some (.side (tK b (cn sp.st d).isSome) (zt (cn sp.st d) sp.outs 0))
 |none=>none
theorem X3(hm:P.follows .mixedOrders=true)(v:aJ P τ)(y:aZ P m L c)(I:v_ P τ L m c sp){s:aF}{t:bg}(h:HN m sp s=some t):MD P m c s t:=by
 unfold HN at h;split at h
 case h_2=>cases h
 rename_i b d M;cases h;intro Q k;simp only[bg.holds,tL,aL]at k;obtain⟨⟨rfl,h1⟩,q⟩:=k;cases g:cn sp.st d with
 |none=>rw[g]at h1; cases h1
 | some r =>
  obtain⟨x,U⟩:=r;obtain⟨o,N,O⟩:=Nt hm v y I 1000000 g;exact⟨o.x,_,O.pre ((qg sp.opens s).trans (qf M)),CM N (cP x).symm (by rw[g]at q; exact q)⟩
def LT.add(L:LT)(m:Nat)(sp:bG):LT:=⟨fun k s=>match ar k sp.key with
 |true=>HN m sp s
 |false=>L.loops k s,L.pre,L.zd⟩
theorem rB:∀{c:Code} {k:Nat} {g:Code},(k,g)∈cw c->∀ p,p∈cw g->p∈cw c
 | .seq a b,k,g,h,p,d=>by
  simp only[cw,c_]at h|-;rcases h with h|h
  ·exact .inl (rB h p d)
  ·exact .inr (rB h p d)
 | .cond _ a b,k,g,h,p,d=>by
  simp only[cw,c_]at h|-;rcases h with h|h
  ·exact .inl (rB h p d)
  ·exact .inr (rB h p d)
 | .block _ c,k,g,h,p,d=>by
  simp only[cw]at h|-;exact rB h p d
 | .loop c,k,g,h,p,d=>by
  simp only[cw]at h|-;split at h
  ·rename_i i hi
   rcases cq.1 h with e|h
   ·cases e
    exact dj _ d
   ·exact dj _ (rB h p d)
  ·exact rB h p d
 |.skip,_,_,h,_,_=>by simp[cw]at h
 |.region ..,_,_,h,_,_=>by simp[cw]at h
 |.exit _,_,_,h,_,_=>by simp[cw]at h
 |.ret,_,_,h,_,_=>by simp[cw]at h
 |.rangeFunc ..,_,_,h,_,_=>by simp[cw]at h
 |.scope _,_,_,h,_,_=>by simp[cw]at h
 |.label _,_,_,h,_,_=>by simp[cw]at h
 |.goto _,_,_,h,_,_=>by simp[cw]at h
 |.refuse _,_,_,h,_,_=>by simp[cw]at h
theorem rC:∀{c:Code} {k:Nat} {g:Code},(k,g)∈cw c->∀ p,p∈cA g->p∈cA c
 | .seq a b,k,g,h,p,d=>by
  simp only[cw,cA,c_]at h|-;rcases h with h|h
  ·exact .inl (rC h p d)
  ·exact .inr (.inr (rC h p d))
 | .cond _ a b,k,g,h,p,d=>by
  simp only[cw,cA,c_]at h|-;rcases h with h|h
  ·exact .inl (rC h p d)
  ·exact .inr (rC h p d)
 | .block _ c,k,g,h,p,d=>by
  simp only[cw,cA]at h|-;exact rC h p d
 | .loop c,k,g,h,p,d=>by
  simp only[cw,cA]at h|-;split at h
  ·rename_i i hi
   rcases cq.1 h with e|h
   ·cases e
    exact d
   ·exact rC h p d
  ·exact rC h p d
 |.skip,_,_,h,_,_=>by simp[cw]at h
 |.region ..,_,_,h,_,_=>by simp[cw]at h
 |.exit _,_,_,h,_,_=>by simp[cw]at h
 |.ret,_,_,h,_,_=>by simp[cw]at h
 |.rangeFunc ..,_,_,h,_,_=>by simp[cw]at h
 |.scope _,_,_,h,_,_=>by simp[cw]at h
 |.label _,_,_,h,_,_=>by simp[cw]at h
 |.goto _,_,_,h,_,_=>by simp[cw]at h
 |.refuse _,_,_,h,_,_=>by simp[cw]at h
theorem rD:∀{c:Code} {k:Nat} {g:Code},(k,g)∈cA c->∀ p,p∈cw g->p∈cw c
 | .seq a b,k,g,h,p,d=>by
  simp only[cw,cA,c_]at h|-;rcases h with h|h|h
  ·exact .inl (rD h p d)
  ·right
   split at h
   ·rcases cq.1 h with e | h
    ·cases e
     exact d
    ·cases h
   ·cases h
  ·exact .inr (rD h p d)
 | .cond _ a b,k,g,h,p,d=>by
  simp only[cw,cA,c_]at h|-;rcases h with h|h
  ·exact .inl (rD h p d)
  ·exact .inr (rD h p d)
 | .block _ c,k,g,h,p,d=>by
  simp only[cw,cA]at h|-;exact rD h p d
 | .loop c,k,g,h,p,d=>by
  simp only[cA]at h;have:=rD h p d;simp only[cw];split
  ·exact dj _ this
  ·exact this
 |.skip,_,_,h,_,_=>by simp[cA]at h
 |.region ..,_,_,h,_,_=>by simp[cA]at h
 |.exit _,_,_,h,_,_=>by simp[cA]at h
 |.ret,_,_,h,_,_=>by simp[cA]at h
 |.rangeFunc ..,_,_,h,_,_=>by simp[cA]at h
 |.scope _,_,_,h,_,_=>by simp[cA]at h
 |.label _,_,_,h,_,_=>by simp[cA]at h
 |.goto _,_,_,h,_,_=>by simp[cA]at h
 |.refuse _,_,_,h,_,_=>by simp[cA]at h
theorem rE:∀{c:Code} {k:Nat} {g:Code},(k,g)∈cA c->∀ p,p∈cA g->p∈cA c
 | .seq a b,k,g,h,p,d=>by
  simp only[cA,c_]at h|-;rcases h with h|h|h
  ·exact .inl (rE h p d)
  ·right
   right;split at h
   ·rcases cq.1 h with e | h
    ·cases e
     exact d
    ·cases h
   ·cases h
  ·exact .inr (.inr (rE h p d))
 | .cond _ a b,k,g,h,p,d=>by
  simp only[cA,c_]at h|-;rcases h with h|h
  ·exact .inl (rE h p d)
  ·exact .inr (rE h p d)
 | .block _ c,k,g,h,p,d=>by
  simp only[cA]at h|-;exact rE h p d
 | .loop c,k,g,h,p,d=>by
  simp only[cA]at h|-;exact rE h p d
 |.skip,_,_,h,_,_=>by simp[cA]at h
 |.region ..,_,_,h,_,_=>by simp[cA]at h
 |.exit _,_,_,h,_,_=>by simp[cA]at h
 |.ret,_,_,h,_,_=>by simp[cA]at h
 |.rangeFunc ..,_,_,h,_,_=>by simp[cA]at h
 |.scope _,_,_,h,_,_=>by simp[cA]at h
 |.label _,_,_,h,_,_=>by simp[cA]at h
 |.goto _,_,_,h,_,_=>by simp[cA]at h
 |.refuse _,_,_,h,_,_=>by simp[cA]at h
def bk(fn:Func):Code:=match fn.body with
 |some c=>c
 |none=>.skip
theorem X5{fn:Func} (g:nodupB ((cw (bk fn)).map (·.1))=true) {k:Nat} {d:Code} (h:(k,d)∈cw (bk fn)):d=zi fn k:=by
 have key:∀(l:List (Nat × Code)),(l.map (·.1)).Nodup->(k,d)∈l->l.find? (fun p=>ar p.1 k)=some (k,d):=by
  intro l
  induction l with
  |nil=>intro _ h; cases h
  | cons p l y =>
   intro q hm;simp only[dx,pL]at q;rcases cq.1 hm with rfl|hm
   ·simp
   ·have v:p.1≠k:=by
     intro e;exact q.1 (dw.2 ⟨(k,d),hm,e.symm⟩)
    have:ar p.1 k=false:=akq.2 fun e=>v (bx e);rw[J3 (by simp[this])];exact y q.2 hm
 unfold zi;unfold bk at g h;split
 ·rename_i c hb
  rw[hb]at g h;simp only[]at g h;rw[key _ (vX g) h]
 ·rename_i hb
  rw[hb]at h;simp[cw]at h
theorem aZ.add(hm:P.follows .mixedOrders=true)(v:aJ P τ){fn:Func} (y:nodupB ((cw (bk fn)).map (·.1))=true) (h:aZ P m L (bk fn)) (q:v_ P τ L m (zi fn sp.key) sp) :
  aZ P m (L.add m sp) (bk fn):=by
 refine⟨fun k I g s t d=>?_,h.2⟩;simp only[LT.add]at d;split at d
 ·rename_i e
  have e:=bx e;subst e;have M:=X5 y g;rw[<-M]at q;exact X3 hm v (h.sub (rB g) (rC g)) q d
 ·exact h.1 k I g s t d
def fT(fn:Func)(k:Nat):Code:=match fn.body with
 | some c=>match (cA c).find? fun p=>ar p.1 k with
  |some (_,b)=>b
  |none=>.skip
 |none=>.skip
def qh(k:Nat):List (Nat × Code)->Bool
 | []=>true
 | p::l=>match ar p.1 k with
  |true => !l.any (fun q=>ar q.1 k)
  |false=>qh k l
theorem Nu{k:Nat}{g:Code}:∀{l:List (Nat × Code)},qh k l=true->(k,g)∈l->l.find? (fun p=>ar p.1 k)=some (k,g)
 | [],_,h=>by cases h
 | p::l,ho,hm=>by
  simp only[qh]at ho;cases d:ar p.1 k with
  | true =>
   rw[d]at ho;simp only[sL]at ho;rcases cq.1 hm with rfl|hm
   ·rw[List.find?_cons_of_pos (by simp)]
   ·have : l.any (fun q => ar q.1 k) = true := lq.2 ⟨(k, g), hm, by simp⟩
    rw[this]at ho;cases ho
  | false =>
   rw[d]at ho;rcases cq.1 hm with rfl|hm
   ·simp at d
   ·rw [J3 (by simp [d])]
    exact Nu ho hm
theorem Nv{fn:Func}{k:Nat}{g:Code} (d:qh k (cA (bk fn))=true) (h:(k,g)∈cA (bk fn)):g=fT fn k:=by
 unfold fT;unfold bk at d h;split
 ·rename_i c hb
  rw[hb]at d h;simp only[]at d h;rw[Nu d h]
 ·rename_i hb
  rw[hb]at h;simp[cA]at h
def dC(r:Option (Option Nat × LG)):Option (Nat × LG):=match r with
 |some (some x,d)=>some (x,d)
 |_=>none
def zu(m:Nat)(sp:bG)(s:aF):Option bg :=
 match nl m sp.inv sp.ps (lL sp.opens s)with
 |some (b,d)=>some (.side (tK b (dC (sp.st d)).isSome) (zt (dC (sp.st d)) sp.outs 0))
 |none=>none
def tO(P:aj)(τ:aH)(L:LT)(m:Nat)(c:Code)(sp:bG):Prop:=∀ d,(ig P τ L c (ch sp.inv d) .done).leaf (tN m sp.outs 0)=sp.st d
theorem X6(hm:P.follows .mixedOrders=true)(N:aJ P τ)(O:aZ P m L c)(q:tO P τ L m c sp){s:aF}{t:bg}(h:zu m sp s=some t):Hm P m c s t:=by
 unfold zu at h;split at h
 case h_2=>cases h
 rename_i b d U;cases h;intro Q v;simp only[bg.holds,tL,aL]at v;obtain⟨⟨rfl,h1⟩,y⟩:=v;cases g:sp.st d with
 |none=>rw[g]at h1; cases h1
 | some r =>
  obtain⟨k,I⟩:=r;cases k with
  |none=>rw[g]at h1; cases h1
  | some i =>
   rw[<-q d]at g;obtain⟨x,s1,V,W⟩:=nf hm N c (ch sp.inv d) .done O (Q:=fun x s=>tN m sp.outs 0 x s=some (true,(some i,I))) (rA g);obtain⟨j,o,q1,M,q3,q4⟩:=CL W;simp only[be,cP]at M;subst M;rw[q d]at g;rw[g]at y;refine⟨o.x,(ch o.S I),?_,CM q1 (cP i).symm y⟩;rw[<-q3];exact vm ((qg sp.opens s).trans (qf U)) (vn V (qf q4))
def LT.fU(L:LT)(m:Nat)(sp:bG):LT:=⟨L.loops,L.pre,fun k s=>match ar k sp.key with
 |true=>zu m sp s
 |false=>L.zd k s⟩
theorem aZ.fU(hm:P.follows .mixedOrders=true)(v:aJ P τ){fn:Func} (y:qh sp.key (cA (bk fn))=true) (g:aZ P m L (bk fn)) (q:tO P τ L m (fT fn sp.key) sp) :
  aZ P m (L.fU m sp) (bk fn):=by
 refine⟨g.1,g.2.1,fun k I h s t d=>?_⟩;simp only[LT.fU]at d;split at d
 ·rename_i e
  have e:=bx e;subst e;have M:=Nv y h;rw[<-M]at q;exact X6 hm v (g.sub (rD h) (rE h)) q d
 ·exact g.2.2 k I h s t d
end loops
structure aO where
 f:bO
 args:List Sh
 c8:List bS
 ps:List mv
 res:List Sh
 iG:List bS
 X7:List mv
 opens:List (Nat × List Kd)
 F:LG->Option LG
def aO.gD(sp:aO)(d:LG):List AV:=ij (dB sp.c8 d) sp.args (fx (o_ sp.c8) d)
def aO.H0(sp:aO)(d:LG):List au:=dA (dB sp.c8 d) sp.c8 d
def aO.out(sp:aO)(r:LG):AV:=fE (ij (dB sp.iG r) sp.res (fx (o_ sp.iG) r))
def aO.H1(sp:aO)(r:LG):List au:=dA (dB sp.iG r) sp.iG r
def zw(P:aj)(rs:List ResultVar)(sp:aO)(x:cD)(s:aF):Option (Bool × LG) :=
 match x with
 |.exit _=>none
 | _=>(fun s=>match n9 P s.ao rs with
  |none=>none
  | some d=>match lK s.H (fun i=>d.getD i .undef) sp.X7 [] with
   |none=>none
   | some aA=>match nodupB aA&&qd s.H 0 sp.c8.length aA sp.iG with
    |false=>none
    | true=>match lJ s.H (cz s.H aA) (kA aA) sp.iG aA,fS s.H (cz s.H aA) (kA aA) sp.res d with
     |some (b,g),some (h,k)=>some (b&&h,g++k)
     |_,_=>none) (lL sp.opens s)
def rF(P:aj)(τ:aH)(L:LT)(fn:Func)(sp:aO):Prop :=
 ∀ d,(ig P τ L (bk fn) ⟨qV (sp.gD d) fn.ntmps,sp.H0 d⟩ .done).leaf (zw P fn.results.toList sp)=sp.F d
def om(os:List bS):Bool:=os.all fun o=>ar o.up 0
theorem Nw:∀{os:List bS} (lens:dY) (d:LG),om os=true->LO (az (dA lens os d))
 | [],_,_,_=>by intro o ho; simp[dA,az]at ho
 | o::os,lens,d,h=>by
  simp only[om,nK,aL]at h;intro x g;simp only[dA,az,dx,cq]at g;rcases g with rfl|g
  ·cases o with
   | vQ ks u =>
    have:u=0:=bx h.1;subst this;rfl
   |box _=>rfl
   |map _ _=>rfl
   |gx _ _ _=>rfl
   |a7 _ _ _=>rfl
   |mm _ _ _ _=>rfl
   |cM _ _=>rfl
   |bH _ _ _=>rfl
  ·exact Nw lens _ h.2 x g
theorem HO(lens:dY):∀(os:List bS) (d:LG),(dA lens os d).length=os.length
 | [],_=>rfl
 |_::os,d=>by simp[dA,HO lens os]
theorem X8{P:aj}{sp:aO}{fn:Func}(hf:P.funcs[sp.f]? = some fn)(hb:fn.body.isSome=true)
  (hfr:om sp.c8=true) {d r:LG} {x:cD} {s0:aF} (h1:dX P sp.c8.length (bk fn) (aF.ao ⟨qV (sp.gD d) fn.ntmps,sp.H0 d⟩) x s0.ao) (k:zw P fn.results.toList sp x s0=some (true,r)) :
  fN P sp.f (sp.gD d) (az (sp.H0 d)) (sp.out r) (az (sp.H1 r)):=by
 have hbody:fn.body=some (bk fn):=by
  unfold bk;cases N:fn.body with
  |none=>rw[N]at hb; cases hb
  |some c=>rfl
 have h1:=vn h1 (qg sp.opens s0);generalize hs':lL sp.opens s0=s' at h1;have hxx:(x=.normal\/x=.ret)/\∃ I aA g q,n9 P s'.ao fn.results.toList=some I/\(nodupB aA&&qd s'.H 0 sp.c8.length aA sp.iG)=true /\
   lJ s'.H (cz s'.H aA) (kA aA) sp.iG aA=some (true,g)/\fS s'.H (cz s'.H aA) (kA aA) sp.res I=some (true,q)/\g++q=r:=by
  have k:zw P fn.results.toList sp x s0=some (true,r):=k;unfold zw at k;split at k
  ·cases k
  ·rename_i N
   simp only[hs']at k;refine⟨by cases x with|normal=>exact .inl rfl|ret=>exact .inr rfl|exit i=>exact(N i rfl).elim,?_⟩;split at k
   ·cases k
   ·rename_i I hvs
    split at k
    ·cases k
    ·rename_i aA hids
     split at k
     ·cases k
     ·rename_i y
      split at k
      ·rename_i b g b' q V q2
       simp only[be,bo,aL]at k;obtain⟨⟨rfl,rfl⟩,rfl⟩:=k;exact⟨I,aA,g,q,hvs,y,V,q2,rfl⟩
      ·cases k
 obtain⟨N,I,aA,g,q,hvs,y,V,q2,rfl⟩:=hxx;simp only[aL]at y;intro E O hH HE hargs;refine LZ hf hbody ?_;have hfe:=L2 HE;have hargs0:=tm hfe _ hargs;have hrel:dS ⟨qV (sp.gD d) fn.ntmps,az (sp.H0 d)⟩ { E with X:=⟨E.X.x,fun _=>False,E.X.r⟩ } { tmps:=O++Array.replicate (fn.ntmps-O.size) undef,defers:=[] }:=by
  refine⟨hH,?_,FD _ _,HE.jl hfe⟩;simp only[qV,Array.toList_append,Array.toList_replicate];refine oR hargs0 ?_;have:=ka hargs;have e:(sp.gD d).length=O.size:=by simpa using this
  rw[e];have:=GA (E:={ E with X:=⟨E.X.x,fun _=>False,E.X.r⟩ }) (List.replicate (fn.ntmps-O.size) undef);simpa using this
 refine wpIn_mono (h1 none (LQ _) { E with X:=⟨E.X.x,fun _=>False,E.X.r⟩ } _ hrel) fun e a1 w0 ⟨h3,loc',X',M,W⟩=>?_;refine⟨by subst h3; rcases N with rfl|rfl; exact .inl rfl; exact .inr rfl,X',M.defers,fun w1 k1 k2 k3=>?_⟩;obtain⟨M,W⟩:=L1 HE M W k1 k2 k3;obtain⟨us,g1,g2⟩:=Gz M fn.results.toList I hvs;have hres:(results fn a1.tmps).run P w1=.ok (if h:us.toArray.size=1 then us.toArray[0] else .tuple us.toArray) w1:=by
  rw[LW];simp only[Sem.run_bind];rw[Array.mapM_eq_mapM_toList,Sem.run_map,g1];rfl
 generalize U:({ w:=w1,H:=s'.ao.H,ae:=loc',X:=E.X.re X'.r }:af)=v at M W g1 g2;have hH1:v.H=az s'.H:=by rw[<-U]; rfl
 obtain⟨hK,hHR⟩:=Np hH1 M.heap (vX y.1) V q;obtain⟨p0,p1,p2,p3⟩:=zp V q (dB sp.iG (g++q));have hd:fx (o_ sp.iG) (g++q)=q:=by rw[<-p0]; exact rz g q
 have hS:=zo hK q2 [];rw[dJ]at hS;have hrl:=hS.2.2.2 us g2;have hleM:=Nq (m:=sp.c8.length) hH1 hK ⟨rfl,rfl⟩ (Nl v _ aA) y.2 (fun j hj=>by
  obtain⟨r1,o',r2,_⟩:=CG y.2 j hj;obtain⟨i,o,g1,rest1,t1,t2,t3,t4,t5,t6⟩:=p3 j o' r2;have hat:=jF (e:=cz s'.H aA) (j:=j) (aV t1);rw[show (cz s'.H aA).aA=aA from rfl,t1]at hat;cases hat;exact⟨o,o',t2,r2,t5⟩) (fun b=>Nn)
 have hle:E.le (kz v (az (dA (dB sp.iG (g++q)) sp.iG (g++q))) aA) :=
  (W.trans hleM).full (by rw[<-U]; exact⟨rfl,rfl⟩) (by rw[hH,fw]; simp only[aO.H0,HO]; exact aQ _) (by rw[hH]; exact Nw _ _ hfr)
 have hw1:v.w=w1:=by rw[<-U]
 have hX1:∀ r,v.X.re r=E.X.re r:=fun r=>by rw[<-U]; rfl
 refine⟨_,hres,_,_,_,rfl,⟨rfl,rfl⟩,aA.map (fun i=>v.ae.getD i none),qc v (az (dA (dB sp.iG (g++q)) sp.iG (g++q))),?_,?_,?_⟩
 ·have := MY hrl
  simp only[aO.out,aO.H1,hd];simpa only[kz,hw1,hX1]using this
 ·simpa only[kz,hw1,hX1,aO.H1]using hHR
 ·simpa only[kz,hw1,hX1,aO.H1]using hle
theorem CN{P:aj}{τ:aH}{L:LT}(hm:P.follows .mixedOrders=true)(k:aJ P τ){sp:aO}{fn:Func}(q:P.funcs[sp.f]? = some fn)(hb:fn.body.isSome=true)
  (v:aZ P sp.c8.length L (bk fn)) (hB:rF P τ L fn sp) (g:om sp.c8=true) {d r:LG} (h:sp.F d=some r) :
  fN P sp.f (sp.gD d) (az (sp.H0 d)) (sp.out r) (az (sp.H1 r)):=by
 rw[<-hB d]at h;obtain⟨x,s0,h1,y⟩:=nf hm k (bk fn) _ .done v (Q:=fun x s=>zw P fn.results.toList sp x s=some (true,r)) (rA h);exact X8 q hb g h1 y
abbrev iT(P:aj)(sp:aO):Prop:=∀ d r,sp.F d=some r->fN P sp.f (sp.gD d) (az (sp.H0 d)) (sp.out r) (az (sp.H1 r))
theorem mw{P:aj}{τ:aH}{L:LT}(hm:P.follows .mixedOrders=true)(g:aJ P τ){sp:aO}{fn:Func}(k:P.funcs[sp.f]? = some fn)(hb:fn.body.isSome=true)
  (q:aZ P sp.c8.length L (bk fn)) (hB:rF P τ L fn sp) (d:om sp.c8=true):iT P sp:=fun _ _ h=>CN hm g k hb q hB d h
def zx:fP->Bool
 |.int _ | .str | .bool | .list _ | .zn _ | .row _ | .cptr _ | .nil | .any | .CC _ | .fn _ | .addr | .Hz=>true
 |_=>false
def CO:Sh->Bool
 |.s a=>zx a
 |.clo _ caps=>caps.all zx
theorem Nx{lens:dY}{a:fP}{d:LG}(h:zx a=true):(fQ lens a d).closed=true:=by
 cases a<;>simp only[zx]at h<;>first
  |(cases h; done)
  |rfl
  |(simp only[fQ,AV.closed,gJ]; done)
theorem Ny{lens:dY}:∀{as:List fP} {d:LG},(as.all zx)=true->AV.bK (kY lens as d)=true
 | [],_,_=>rfl
 | a::as,d,h=>by
  simp only[nK,aL]at h;simp only[kY,AV.bK,Nx h.1,Ny h.2,xX]
theorem CP{lens:dY}:∀{as:List Sh} {d:LG},(as.all CO)=true->AV.bK (ij lens as d)=true
 | [],_,_=>rfl
 | a::as,d,h=>by
  simp only[nK,aL]at h;simp only[ij,AV.bK,CP h.2,gW];cases a with
  |s a=>exact Nx h.1
  |clo f caps=>simp only[tJ,AV.closed]; exact Ny h.1
theorem X9{d:List AV}(h:AV.bK d=true):(fE d).closed=true:=by
 cases d with
 |nil=>rfl
 | cons v d =>
  cases d with
  |nil=>simpa[fE,AV.bK]using h
  |cons g d=>simpa only[fE,AV.closed]using h
def kB(E:af):af:={ w:=E.w,H:=[],ae:=[],X:=(E.X.or E.ab).re fe }
theorem X_{E:af}(x:Nat):¬ (kB E).ab x:=by rintro(⟨id,c,d⟩|⟨l,k,c,g⟩); simp[kB]at d; simp[kB,fe]at g
theorem Nz{E:af}:E.bT (kB E):=⟨fun b hb=>⟨⟨hb.1,X_ b,fun d=>d.elim hb.2.2 hb.2.1⟩,rfl⟩⟩
theorem Ya{E:af}:(kB E).bT E:=⟨fun b hb=>⟨⟨hb.1,fun ho=>hb.2.2 (Or.inr ho),fun d=>hb.2.2 (Or.inl d)⟩,rfl⟩⟩
theorem Yb{E:af}(HE:aI E):aI (kB E):=by
 refine⟨rfl,?_,?_,?_,?_,HE.gL.bT Nz,fun l k l' h b m n d=>by simp[kB,fe]at d,fun i b m l k n hi=>by simp[kB]at hi,fun l k b m d=>by simp[kB,fe]at d,fun i j o o' l hi=>by simp[kB]at hi,fun l _ k q d=>by simp[kB,fe]at d⟩
 ·intro i j b m n hi; simp[kB]at hi
 ·intro i b m hi; simp[kB]at hi
 ·rintro b (g | ho)
  ·exact HE.X b g
  ·exact(HE.BB ho).1
 ·intro i o hi; simp[kB]at hi
theorem Yc{E:af}(HE:aI E):ku [] (cz [] []) (fun _=>false) [] (kB E) (kB E):=by
 exact { hH:=rfl,HE:=Yb HE,free:=fun _ h=>(nomatch h),dv:=⟨fun b hb=>⟨hb,rfl⟩,rfl,fun j d=>absurd d (Nat.not_lt_zero _),fun _ _ _ _ _=>rfl⟩,obj:=fun j o ho=>by simp at ho }
theorem Yd{E:af}(HE:aI E):∀{d:List Sh} {as:List AV} {g:LG},(d.all CO)=true->fS [] (cz [] []) (fun _=>false) d as=some (true,g)->∀(V:LG) (cs:List al),aw E as cs ->
  aw E (ij [] d (g++V)) cs:=by
 have one0:∀{sh:fP} {a:AV} {b:Bool} {g:LG},iF [] (cz [] []) (fun _=>false) sh a=some (b,g)->a.closed=true\/sh=.any:=by
  intro sh a b g h;unfold iF at h;split at h
  ·exact .inl rfl
  ·exact .inl rfl
  ·exact .inl rfl
  ·split at h
   ·rename_i ha
    left;unfold qb at ha;split at ha<;>first|rfl|cases ha
   ·split at h
    ·simp at h
    ·cases h
  ·split at h
   ·rename_i ha
    left;rw[M3 ha];simp only[AV.closed,gJ]
   ·cases h
  ·exact .inl rfl
  ·simp at h
  ·exact .inl rfl
  ·exact .inr rfl
  ·exact .inl rfl
  ·simp at h
  ·simp at h
  ·simp at h
  ·simp at h
  ·split at h
   ·rename_i ha
    left;unfold qb at ha;split at ha<;>first|rfl|cases ha
   ·split at h
    ·simp at h
    ·cases h
  ·simp at h
  ·exact .inl rfl
  ·rename_i f js f' U
   split at h
   ·rename_i y
    left;cases js with
    | nil=>cases U with
     |nil=>rfl
     |cons _ _=>simp[nh]at y
    | cons j js=>cases U with
     |nil=>simp[nh]at y
     |cons v U=>cases v<;>simp[nh]at y
   ·cases h
  ·exact .inl rfl
  ·cases h
 have oneL:∀{d:List fP} {as:List AV} {b:Bool} {g:LG},il [] (cz [] []) (fun _=>false) d as=some (b,g)->∀(cs:List al),aw E as cs ->
   ∃ k,il [] (cz [] []) (fun _=>false) d k=some (b,g)/\AV.bK k=true/\aw E k cs:=by
  intro d
  induction d with
  | nil =>
   intro as b g h cs q;cases as with
   |nil=>exact⟨[],h,rfl,q⟩
   |cons _ _=>simp[il]at h
  | cons sh d W =>
   intro as b g h cs q;cases as with
   |nil=>simp[il]at h
   | cons a as =>
    cases cs with
    |nil=>simp[aw]at q
    | cons c cs =>
     simp only[aw]at q;simp only[il]at h;split at h
     ·rename_i b1 g1 b2 g2 h1 O
      cases h;obtain⟨k,I,M,N⟩:=W O cs q.2;rcases one0 h1 with y|rfl
      ·exact⟨a::k,by simp only[il,h1,I],by simp only[AV.bK,y,M,xX],by simp only[aw]; exact⟨q.1,N⟩⟩
      ·have e:iF [] (cz [] []) (fun _=>false) .any .undef=some (b1,g1):=by
        have:iF [] (cz [] []) (fun _=>false) .any a=some (true,[]):=by cases a<;>rfl
        rw[this]at h1;exact h1
       exact⟨.undef::k,by simp only[il,e,I],by simp only[AV.bK,M]; rfl,by simp only[aw,ad]; exact⟨trivial,N⟩⟩
     ·cases h
 have oneS:∀{d:List Sh} {as:List AV} {b:Bool} {g:LG},fS [] (cz [] []) (fun _=>false) d as=some (b,g)->∀(cs:List al),aw E as cs ->
   ∃ k,fS [] (cz [] []) (fun _=>false) d k=some (b,g)/\AV.bK k=true/\aw E k cs:=by
  intro d
  induction d with
  | nil =>
   intro as b g h cs q;cases as with
   |nil=>exact⟨[],h,rfl,q⟩
   |cons _ _=>simp[fS]at h
  | cons sh d W =>
   intro as b g h cs q;cases as with
   |nil=>simp[fS]at h
   | cons a as =>
    cases cs with
    |nil=>simp[aw]at q
    | cons c cs =>
     simp only[aw]at q;simp only[fS]at h;split at h
     ·rename_i b1 g1 b2 g2 h1 O
      cases h;obtain⟨k,I,M,N⟩:=W O cs q.2;cases sh with
      | s sh0 =>
       simp only[nk]at h1;rcases one0 h1 with y|rfl
       ·exact⟨a::k,by simp only[fS,nk,h1,I],by simp only[AV.bK,y,M,xX],by simp only[aw]; exact⟨q.1,N⟩⟩
       ·have e:iF [] (cz [] []) (fun _=>false) .any .undef=some (b1,g1):=by
         have:iF [] (cz [] []) (fun _=>false) .any a=some (true,[]):=by cases a<;>rfl
         rw[this]at h1;exact h1
        exact⟨.undef::k,by simp only[fS,nk,e,I],by simp only[AV.bK,M]; rfl,by simp only[aw,ad]; exact⟨trivial,N⟩⟩
      | clo f caps =>
       cases a<;>simp only[nk]at h1<;>try cases h1
       rename_i f' U;split at h1
       ·rename_i hf
        subst hf;have hx:=q.1;simp only[ad]at hx;obtain⟨us,e1,e2⟩:=hx;obtain⟨vs',l1,l2,l3⟩:=oneL h1 _ e2;exact⟨.clo f vs'::k,by simp only[fS,nk,if_true,l1,I],by simp only[AV.bK,AV.closed,l2,M,xX],
         by simp only[aw,ad]; exact⟨⟨us,e1,l3⟩,N⟩⟩
       ·cases h1
     ·cases h
 intro d as g hcl h V cs q;obtain⟨k,h1,O,h3⟩:=oneS h cs q;have h4:=qJ Nz k O h3;have h5:=(zo (Yc HE) h1 V).2.2.2 cs h4;exact qJ Ya _ (CP hcl) h5
def aH.bp(τ:aH)(sp:aO):aH where
 pf g:=match ar g sp.f with
  |true=>true
  |false=>τ.pf g
 T g as:=match ar g sp.f with
  | true=>match fS [] (cz [] []) (fun _=>false) sp.args as with
   |some (b,d)=>some (tK b (sp.F d).isSome,fE (ij [] sp.res ((sp.F d).getD [])))
   |none=>τ.T g as
  |false=>τ.T g as
 W:=τ.W
 C:=τ.C
 I:=τ.I
 N:=τ.N
 U:=τ.U
def zy(sp:aO):Bool:=(sp.args.all CO)&&((sp.res.all CO)&&(sp.c8.isEmpty&&sp.iG.isEmpty))
theorem aJ.bp{P:aj}{τ:aH}(h:aJ P τ){sp:aO}(hb:iD P sp.f=true)(M:zy sp=true)
  (hc:∀ d r,sp.F d=some r->fN P sp.f (sp.gD d) (az (sp.H0 d)) (sp.out r) (az (sp.H1 r))):aJ P (τ.bp sp):=by
 simp only[zy,aL,List.isEmpty_iff]at M;obtain⟨y,hp2,hp3,hp4⟩:=M;refine⟨fun g as b v k q=>?_,h.W,h.C,h.I,h.F⟩;simp only[aH.bp]at k;split at k
 ·rename_i e
  have e:=bx e;subst e;split at k
  ·rename_i b' d hr
   simp only[be,bo]at k;obtain⟨h1,rfl⟩:=k;subst h1;simp only[tL]at q;obtain⟨rfl,N⟩:=q;refine⟨hb,?_⟩;cases O:sp.F d with
   |none=>rw[O]at N; cases N
   | some r =>
    have U:=hc d r O;simp only[aO.gD,aO.H0,aO.out,aO.H1,hp3,hp4,dA,dB,o_,fx]at U;have:=Wa U (CP y) (X9 (CP hp2));intro H E V hH HE hargs;exact this H E V hH HE (by
     have:=Yd HE y hr [] _ hargs
     rwa [dJ]at this)
  ·exact h.T _ as b v k q
 ·exact h.T g as b v k q
end Go.AL

namespace Go.AL
open Go
variable [Dr]
def Kd.c7:List Kd->Bool
 | []=>true
 |.list _::_=>false
 |_::ks=>Kd.c7 ks
def Ct.bP:Ct->Bool
 |.one k=>Kd.c7 [k]
 |.agg ks=>Kd.c7 ks
def wa:fP->Bool
 |.row ks=>Kd.c7 ks
 |.list _ | .zn _ | .cptr _=>false
 |_=>true
def NA:Sh->Bool
 |.s a=>wa a
 |.clo _ caps=>caps.all wa
def NB:bS->Bool
 |.vQ ks _=>Kd.c7 ks
 |.box cells=>cells.all wa
 |.map K V=>K.bP&&V.bP
 |.gx _ _ _=>true
 |.a7 _ _ _=>false
 |.mm _ K d g=>K.bP&&(d.bP&&g.bP)
 |.cM _ _=>false
 |.bH _ _ _=>false
def my(sp:aO):Bool:=(sp.res.all NA)&&(sp.iG.all NB)
theorem CQ:∀{ks:List Kd} (r:LG),Kd.c7 ks=true->AV.c7 (aT ks r)=true
 | [],_,_=>rfl
 |.list _::_,_,h=>by simp[Kd.c7]at h
 | .int _::ks,r,h | .str::ks,r,h | .bool::ks,r,h=>by
  simp only[Kd.c7]at h;simp only[aT,AV.c7,CQ r.tail h,gW];rfl
theorem Ct.zz{K:Ct}(r:LG)(h:K.bP=true):(K.av r).bP=true:=by
 cases K with
 | one k =>
  simp only[Ct.bP]at h;cases k<;>first
   |rfl
   |(simp[Kd.c7]at h; done)
 |agg ks=>simp only[Ct.av,AV.bP]; exact CQ r h
theorem NC:∀ d:List Nat,AV.c7 (tH d)=true
 | []=>rfl
 |j::d=>by simp only[tH,AV.c7,NC d,gW]; rfl
theorem ND{lens:dY}{a:fP}{d:LG}(h:wa a=true):(fQ lens a d).bP=true:=by
 cases a<;>simp only[wa]at h<;>first
  |(cases h; done)
  |(simp only[fQ,AV.bP]; exact CQ _ h)
  |rfl
  |(simp only[fQ,AV.bP]; exact NC _)
theorem HP{lens:dY}:∀{as:List fP} {d:LG},(as.all wa)=true->AV.c7 (kY lens as d)=true
 | [],_,_=>rfl
 | a::as,d,h=>by
  simp only[nK,aL]at h;simp only[kY,AV.c7,ND h.1,HP h.2,xX]
theorem NF{lens:dY}:∀{as:List Sh} {d:LG},(as.all NA)=true->AV.c7 (ij lens as d)=true
 | [],_,_=>rfl
 | a::as,d,h=>by
  simp only[nK,aL]at h;simp only[ij,AV.c7,NF h.2,gW];cases a with
  |s a=>exact ND h.1
  |clo f caps=>simp only[tJ,AV.bP]; exact HP h.1
theorem Ye{d:List AV}(h:AV.c7 d=true):(fE d).bP=true:=by
 cases d with
 |nil=>rfl
 | cons v d =>
  cases d with
  |nil=>simpa[fE,AV.c7]using h
  |cons g d=>simpa only[fE,AV.bP]using h
theorem NG{lens:dY}:∀{os:List bS} {d:LG},(os.all NB)=true->((az (dA lens os d)).all ai.bP)=true
 | [],_,_=>rfl
 | o::os,d,h=>by
  simp only[nK,aL]at h;have k:=NG (lens:=lens) (d:=fx o.sz d) h.2;simp only[dA,az,dx,nK,aL];refine⟨?_,by simpa only[az]using k⟩;cases o with
  | vQ ks u =>
   simp only[gp,au.ao,ai.bP,dK,dw];rintro r ⟨g,_,rfl⟩;exact CQ g h.1
  |box cells=>simp only[gp,au.ao,ai.bP]; exact HP h.1
  | map K V =>
   have h1:(K.bP&&V.bP)=true:=h.1;simp only[aL]at h1;simp only[gp,au.ao,ai.bP,dN,dK,dw];rintro x ⟨g,_,rfl⟩;simp only[Ct.zz _ h1.1,Ct.zz _ h1.2,xX]
  |gx l T B=>rfl
  |a7 l K ks=>cases h.1
  |cM l ks=>cases h.1
  |bH l K ks=>cases h.1
  | mm l K v I =>
   have h1:(K.bP&&(v.bP&&I.bP))=true:=h.1;simp only[aL]at h1;simp only[gp,au.ao,ai.bP,km,qX,dN,aL,dK,dw];refine⟨?_,?_⟩
   ·rintro x ⟨g, _, rfl⟩
    exact Ct.zz _ h1.1
   ·rintro x ⟨g, _, rfl⟩ y M
    obtain⟨q,_,rfl⟩:=dw.1 M;simp only[Ct.zz _ h1.2.1,Ct.zz _ h1.2.2,and_self]
def au.cG(e:cy)(j:Nat):au->au
 |.vQ ks v rZ=>.vQ ks (v+e.up j) rZ
 |.raw o=>.raw (o.cG e j)
 |.map K V rZ c=>.map K V rZ c
 |.a7 l K ks rZ c=>.a7 l K ks rZ c
 |.mm l K d g rZ mem c=>.mm l K d g rZ mem c
 |.cM l ks n h=>.cM l ks n h
 |.bH l K ks rZ c=>.bH l K ks rZ c
def zA(e:cy):Nat->List au->List au
 |_,[]=>[]
 |j,o::os=>o.cG e j::zA e (j+1) os
def oq(e:cy)(H H1:List au):List au:=fF H e.aA (zA e 0 H1)++(zA e 0 H1).drop e.aA.length
theorem Yf(e:cy)(j:Nat)(o:au):(o.cG e j).ao=o.ao.cG e j:=by
 cases o<;>rfl
theorem NH(e:cy):∀(j:Nat) (os:List au),az (zA e j os)=ng e j (az os)
 |_,[]=>rfl
 | j,o::os=>by
  simp only[zA,az,dx,ng,Yf];have:=NH e (j+1) os;simp only[az]at this;rw[this]
theorem NI{α β:Type}(f:α->β):∀(d:List Nat) (l g:List α),(fF l d g).map f=fF (l.map f) d (g.map f)
 | [],_,_=>by simp[fF]
 |_::_,_,[]=>by simp[fF]
 |i::d,l,x::g=>by simp[fF,NI f d,List.map_set]
theorem Yg(e:cy)(H H1:List au):az (oq e H H1)=o9 e (az H) (az H1):=by
 unfold oq o9;rw[<-NH];simp only[az,List.map_append,NI,List.map_drop]
def nm(e:cy):Nat->List bS->Bool
 |_,[]=>true
 |j,.vQ _ _::os=>nm e (j+1) os
 |j,_::os=>ar (e.up j) 0&&nm e (j+1) os
theorem qi{e:cy}{lens:dY}:∀{j:Nat} {os:List bS} {d:LG},nm e j os=true->kq e j (az (dA lens os d))=true
 |_,[],_,_=>rfl
 | j,.vQ ks u::os,d,h=>by
  simp only[nm]at h;have:=qi (lens:=lens) (d:=fx (bS.vQ ks u).sz d) h;simp only[dA,az,dx,kq,aL];exact⟨rfl,by simpa only[az]using this⟩
 | j,.box cells::os,d,h=>by
  simp only[nm,aL]at h;have:=qi (lens:=lens) (d:=fx (bS.box cells).sz d) h.2;simp only[dA,az,dx,kq,aL];exact⟨h.1,by simpa only[az]using this⟩
 | j,.map K V::os,d,h=>by
  simp only[nm,aL]at h;have:=qi (lens:=lens) (d:=fx (bS.map K V).sz d) h.2;simp only[dA,az,dx,kq,aL];exact⟨h.1,by simpa only[az]using this⟩
 | j,.gx l T B::os,d,h=>by
  simp only[nm,aL]at h;have:=qi (lens:=lens) (d:=fx (bS.gx l T B).sz d) h.2;simp only[dA,az,dx,kq,aL];exact⟨h.1,by simpa only[az]using this⟩
 | j,.a7 l K ks::os,d,h=>by
  simp only[nm,aL]at h;have:=qi (lens:=lens) (d:=fx (bS.a7 l K ks).sz d) h.2;simp only[dA,az,dx,kq,aL];exact⟨h.1,by simpa only[az]using this⟩
 | j,.mm l K g k::os,d,h=>by
  simp only[nm,aL]at h;have:=qi (lens:=lens) (d:=fx (bS.mm l K g k).sz d) h.2;simp only[dA,az,dx,kq,aL];exact⟨h.1,by simpa only[az]using this⟩
 | j,.cM l ks::os,d,h=>by
  simp only[nm,aL]at h;have:=qi (lens:=lens) (d:=fx (bS.cM l ks).sz d) h.2;simp only[dA,az,dx,kq,aL];exact⟨h.1,by simpa only[az]using this⟩
 | j,.bH l K ks::os,d,h=>by
  simp only[nm,aL]at h;have:=qi (lens:=lens) (d:=fx (bS.bH l K ks).sz d) h.2;simp only[dA,az,dx,kq,aL];exact⟨h.1,by simpa only[az]using this⟩
def wb(S:Bool)(aA:List Nat)(i:Nat):Bool:=match S with
 |true=>kA aA i
 |false=>false
def rG(sp:aO)(as:List AV)(H:List au):Option (Bool × AV × List au) :=
 match lK H (fun i=>as.getD i .undef) sp.ps []with
 |none=>none
 | some aA=>match nodupB aA&&nm (cz H aA) 0 sp.iG with
  |false=>none
  | true=>match lJ H (cz H aA) (wb (my sp) aA) sp.c8 aA,fS H (cz H aA) (wb (my sp) aA) sp.args as with
   |some (b,g),some (h,d)=>some (tK (b&&h) (sp.F (g++d)).isSome,(sp.out ((sp.F (g++d)).getD [])).cG (cz H aA),oq (cz H aA) H (sp.H1 ((sp.F (g++d)).getD [])))
   |_,_=>none
def qj:List mv->Nat->Bool
 | [],_=>true
 |.cell j _::ps,n=>cS j n&&qj ps (n+1)
 |.HK j _ _::ps,n=>cS j n&&qj ps (n+1)
 |_::ps,n=>qj ps (n+1)
theorem NJ{H:List au}{k:Nat->AV}:∀{ps:List mv} {d aA:List Nat},lK H k ps d=some aA->∀ x∈d,x∈aA
 | [],d,aA,h,x,g=>by cases h; exact g
 | p::ps,d,aA,h,x,g=>by
  unfold lK at h;split at h
  ·exact NJ h x (nO _ g)
  ·cases h
theorem NK{H:List au}{g:Nat->AV}{id:Nat}{o:au}:∀{ps:List mv} {acc aA:List Nat},qj ps acc.length=true->lK H g ps acc=some aA->id∉aA->lK (H.set id o) g ps acc=some aA
 | [],acc,aA,_,h,_=>h
 | p::ps,acc,aA,d,h,q=>by
  unfold lK at h|-;split at h
  ·rename_i i hi
   have y:=NJ h;have get:∀ j,j<acc.length->(H.set id o)[acc.getD j 0]? = H[acc.getD j 0]? := fun j v=>by
    refine bf fun e=>q ?_;rw[e,cu,bY v];exact y _ (nO _ (uL v))
   have e:CJ (H.set id o) g acc p=some i/\qj ps (acc++[i]).length=true:=by
    rw[fX];cases p with
    |fix _=>exact⟨hi,d⟩
    |ay _=>exact⟨hi,d⟩
    |cap _ _=>exact⟨hi,d⟩
    | cell j c =>
     simp only[qj,aL,iL]at d;refine⟨?_,d.2⟩;simp only[CJ]at hi|-;rw[get j d.1];exact hi
    | HK j c k =>
     simp only[qj,aL,iL]at d;refine⟨?_,d.2⟩;simp only[CJ]at hi|-;rw[get j d.1];exact hi
   rw[e.1];exact NK e.2 h q
  ·cases h
section Yh
variable {H:List au} {e:cy} {id:Nat} {o:au} (he:∀ j,e.at j≠id)
include he
theorem NL:∀(d:List Nat) (g:List AV),nh (H.set id o) e d g=nh H e d g
 | [],[]=>rfl
 | [],_::_=>rfl
 |_::_,[]=>rfl
 | j::d,v::g=>by
  have q:=NL d g;cases v<;>try rfl
  rename_i i ak k row c;simp only[nh,q];by_cases hi:i=id
  ·subst hi
   have h:ar i (e.at j)=false:=by
    cases hb:ar i (e.at j)with
    |false=>rfl
    |true=>exact absurd (bx hb).symm (he j)
   simp only[h,Bool.false_and];cases (H.set i o)[i]? <;> cases H[i]? <;> (repeat' split)<;>rfl
  ·rw[bf (Ne.symm hi)]
theorem NM:∀(sh:fP) (a:AV),iF (H.set id o) e (fun _=>false) sh a=iF H e (fun _=>false) sh a:=by
 have d:∀{i:Nat},i≠id->(H.set id o)[i]? = H[i]? := fun h=>bf (Ne.symm h);have g:∀ j,¬ (id=e.at j):=fun j h=>he j h.symm;intro sh a;cases a with
 | vQ w i ak oF n =>
  by_cases hi:i=id
  ·subst hi
   cases sh<;>(try rfl)<;>simp only[iF,qb,lk,and_false,if_false,g,false_and]<;>(repeat' split)<;>(first|rfl|simp_all)
  ·cases sh<;>(try rfl)<;>simp only[iF,d hi]
 | ptr i ak k row I =>
  by_cases hi:i=id
  ·subst hi
   cases sh<;>(try rfl)<;>simp only[iF,qb,lk,and_false,if_false,g,false_and]<;>(repeat' split)<;>(first|rfl|simp_all)
  ·cases sh<;>(try rfl)<;>simp only[iF,d hi]
 | map i =>
  by_cases hi:i=id
  ·subst hi
   cases sh<;>(try rfl)<;>simp only[iF,qb,lk,and_false,if_false,g,false_and]<;>(repeat' split)<;>(first|rfl|simp_all)
  ·cases sh<;>(try rfl)<;>simp only[iF,d hi]
 | clo f y =>
  cases sh<;>(try rfl)
  ·cases y<;>rfl
  ·simp only[iF,NL he]
 | lit v =>
  cases sh<;>(try rfl)<;>cases v<;>(try rfl)
  ·rename_i b n c
   cases b<;>cases n<;>cases c<;>rfl
  ·rename_i q
   cases q with
   |none=>rfl
   | some q =>
    obtain⟨b,o',w⟩:=q;cases o'<;>cases w<;>rfl
 |_=>cases sh<;>rfl
theorem HQ:∀(d:List fP) (as:List AV),il (H.set id o) e (fun _=>false) d as=il H e (fun _=>false) d as
 | [],[]=>rfl
 | [],_::_=>rfl
 |_::_,[]=>rfl
 |sh::d,a::as=>by simp only[il,NM he sh a,HQ d as]
theorem Yi(sh:Sh)(a:AV):nk (H.set id o) e (fun _=>false) sh a=nk H e (fun _=>false) sh a:=by
 cases sh with
 |s x=>simp only[nk,NM he]
 | clo f caps =>
  cases a with
  |clo g d=>simp only[nk,HQ he]
  |_=>rfl
theorem NN:∀(d:List Sh) (as:List AV),fS (H.set id o) e (fun _=>false) d as=fS H e (fun _=>false) d as
 | [],[]=>rfl
 | [],_::_=>rfl
 |_::_,[]=>rfl
 |sh::d,a::as=>by simp only[fS,Yi he sh a,NN d as]
theorem Yj(sh:bS)(t:au):jG (H.set id o) e (fun _=>false) sh t=jG H e (fun _=>false) sh t:=by
 cases sh with
 | box d =>
  cases t with
  |raw x=>cases x<;>simp only[jG,HQ he]
  |_=>rfl
 | gx l T B =>
  cases t with
  |raw x=>cases x<;>rfl
  |_=>rfl
 |_=>cases t<;>rfl
theorem NO:∀(os:List bS) (d:List Nat),id∉d->lJ (H.set id o) e (fun _=>false) os d=lJ H e (fun _=>false) os d
 | [],[],_=>rfl
 | [],_::_,_=>rfl
 |_::_,[],_=>rfl
 | sh::os,i::d,h=>by
  have h1:id≠i:=fun e=>h (by rw[e]; exact cW);simp only[lJ,bf h1,Yj he,NO os d fun hm=>h (dj _ hm)]
end Yh
theorem NP{α:Type}{i:Nat}{x:α}:∀(d:List Nat) (l g:List α),i∉d->fF (l.set i x) d g=(fF l d g).set i x
 | [],_,_,_=>by simp[fF]
 |_::_,_,[],_=>by simp[fF]
 | j::d,l,y::g,h=>by
  have h1:i≠j:=fun e=>h (by rw[e]; exact cW);simp only[fF];rw[List.set_comm _ _ h1];exact NP d _ _ fun hm=>h (dj _ hm)
theorem Yk{H:List au}{aA:List Nat}{id:Nat}{o:au}(h:id∉aA):cz (H.set id o) aA=cz H aA:=by
 unfold cz;rw[List.length_set];congr 1;refine List.map_congr_left fun i hi=>?_;unfold vW;rw[bf fun e=>h (by rw[e]; exact hi)]
theorem Yl{sp:aO}(N:my sp=false)(O:qj sp.ps 0=true){as:List AV}{H H':List au}{b:Bool}{v:AV}(h:rG sp as H=some (b,v,H')){id:Nat}{o:au}(y:id<H.length)
  (I:∀ aA,lK H (fun i=>as.getD i .undef) sp.ps []=some aA->id∉aA) :
  rG sp as (H.set id o)=some (b,v,H'.set id o)/\∃ aA,lK H (fun i=>as.getD i .undef) sp.ps []=some aA/\lK (H.set id o) (fun i=>as.getD i .undef) sp.ps []=some aA:=by
 unfold rG at h|-;split at h
 ·cases h
 rename_i aA g;have d:=I aA g;have q:=NK (o:=o) (acc:=[]) O g d;refine⟨?_,aA,g,q⟩;rw[q];simp only[Yk d];split at h
 ·cases h
 rename_i V;have M:wb (my sp) aA=fun _=>false:=by
  rw[N];rfl
 rw[M]at h|-;have he:∀ j,(cz H aA).at j≠id:=by
  intro j e;rcases l5 j (cz H aA).aA.length with k|k
  ·have := jF k
   rw[e]at this;exact d (eO this)
  ·rw [vT k] at e
   have:(cz H aA).aN=H.length:=rfl;omega
 rw[NO he _ _ d,NN he];split at h
 case h_2=>cases h
 rename_i h1 W;cases h;have U:∀ X,oq (cz H aA) (H.set id o) X=(oq (cz H aA) H X).set id o:=fun X=>by
  unfold oq;rw[show (cz H aA).aA=aA from rfl,NP aA _ _ d,Bk _ _ (by rw[rr]; exact y)]
 rw[U]
def aH.dO(τ:aH)(sp:aO):aH where
 pf g:=match ar g sp.f with
  |true=>false
  |false=>τ.pf g
 T:=τ.T
 W g as H:=match ar g sp.f with
  | true=>match rG sp as H with
   |some r=>some r
   |none=>τ.W g as H
  |false=>τ.W g as H
 C g as H:=match ar g sp.f with
  | true=>(match lK H (fun i=>as.getD i .undef) sp.ps [] with
   |some aA=>aA
   |none=>[])++τ.C g as H
  |false=>τ.C g as H
 I:=τ.I
 N g:=match ar g sp.f with
  | true=>match τ.U g,my sp with
   |false,false=>qj sp.ps 0
   |_,_=>false
  |false=>τ.N g
 U g:=match ar g sp.f with
  |true=>true
  |false=>τ.U g
def rH:List bS->List bS->Bool
 |_,[]=>true
 | [],o'::d=>o'.lH.isNone&&rH [] d
 | o::os,o'::d=>(match o'.lH with
  |none=>true
  | some l=>match o.lH with
   |some l'=>ar l l'
   |none=>false)&&rH os d
theorem HR:∀{os k:List bS},rH os k=true->∀(j:Nat) o' l,k[j]? = some o'->o'.lH=some l->∃ o,os[j]? = some o/\o.lH=some l
 |_,[],_,j,_,_,d,_=>by simp at d
 | [],x::k,h,0,o',l,d,g=>by
  simp only[rH,aL]at h;simp at d;subst d;rw[g]at h;cases h.1
 | [],x::k,h,j+1,o',l,d,g=>by
  simp only[rH,aL]at h;obtain⟨o,h1,_⟩:=HR h.2 j o' l (by simpa using d) g;simp at h1
 | o::os,x::k,h,0,o',l,d,g=>by
  simp only[rH,aL]at h;simp at d;subst d;have h1:=h.1;rw[g]at h1;simp only[]at h1;split at h1
  ·rename_i l' q
   have:=bx h1;subst this;exact⟨o,rfl,q⟩
  ·cases h1
 | o::os,x::k,h,j+1,o',l,d,g=>by
  simp only[rH,aL]at h;exact HR h.2 j o' l (by simpa using d) g
theorem NQ(lens:dY):∀(os:List bS) (d:LG) (j:Nat) (o:au),(dA lens os d)[j]? = some o->∃ sh g,os[j]? = some sh/\o=gp lens sh g
 | [],d,j,o,h=>by simp[dA]at h
 | s::os,d,0,o,h=>by
  simp[dA]at h;exact⟨s,d,rfl,h.symm⟩
 | s::os,d,j+1,o,h=>by
  simp only[dA,T9]at h;obtain⟨sh,g,h1,k⟩:=NQ lens os _ j o h;exact⟨sh,g,by simpa using h1,k⟩
theorem Ym{lens:dY}{os:List bS}{d:LG}{j:Nat}{o:ai} (h:(az (dA lens os d))[j]? = some o):∃ sh,os[j]? = some sh/\o.label=sh.lH:=by
 simp only[az,bW]at h;obtain⟨o',h1,rfl⟩:=eM.1 h;obtain⟨sh,k,g,rfl⟩:=NQ lens os d j o' h1;exact⟨sh,g,vU _ _ _⟩
theorem NR(lens:dY):∀(os:List bS) (d:LG) (j:Nat) (sh:bS),os[j]? = some sh->∃ o,(az (dA lens os d))[j]? = some o/\o.label=sh.lH
 | [],d,j,o,h=>by simp at h
 | s::os,d,0,sh,h=>by
  simp at h;subst h;exact⟨(gp lens s d).ao,by simp[dA,az],vU _ _ _⟩
 | s::os,d,j+1,sh,h=>by
  obtain⟨o,h1,g⟩:=NR lens os (fx s.sz d) j sh (by simpa using h);exact⟨o,by simpa[dA,az]using h1,g⟩
def we(sp:aO):Bool:=om sp.c8&&(eh sp.c8.length sp.iG.length&&rH sp.c8 sp.iG)
theorem Yn{P:aj}{sp:aO}(hp:we sp=true) (hc:∀ d r,sp.F d=some r->fN P sp.f (sp.gD d) (az (sp.H0 d)) (sp.out r) (az (sp.H1 r)))
  {as:List AV} {H H':List au} {v:AV} (h:rG sp as H=some (true,v,H')):fN P sp.f as (az H) v (az H'):=by
 simp only[we,aL]at hp;obtain⟨hfr,hle,hlab⟩:=hp;have hle:=Bm hle;unfold rG at h;split at h
 ·cases h
 rename_i aA hids;split at h
 ·cases h
 rename_i hck;simp only[aL]at hck;obtain⟨hnd,hup⟩:=hck;have hnd:=vX hnd;split at h
 case h_2=>cases h
 rename_i b g b' k h1 h2;simp only[be,bo,tL,aL]at h;obtain⟨⟨⟨rfl,rfl⟩,h3⟩,rfl,rfl⟩:=h;cases hF:sp.F (g++k)with
 |none=>rw[hF]at h3; cases h3
 |some r =>
 simp only[oJ];obtain⟨p0,p1,p2,p3⟩:=zp h1 k (dB sp.c8 (g++k));have hd:fx (o_ sp.c8) (g++k)=k:=by rw[<-p0]; exact rz g k
 have hlen:aA.length=(az (sp.H0 (g++k))).length:=by rw[fw]; simp only[aO.H0,p1,p2]
 have hat:∀ j,j<aA.length->aA[j]? = some ((cz H aA).at j):=fun j q=>jF (e:=cz H aA) q;have hobjs:∀ j,j<aA.length->∃ sh o U O,sp.c8[j]? = some sh/\H[(cz H aA).at j]? = some o/\jG H (cz H aA) (wb (my sp) aA) sh o=some (true,U) /\
   (sp.H0 (g++k))[j]? = some (gp (dB sp.c8 (g++k)) sh (U++O)) /\
   (dB sp.c8 (g++k)).ak j=sh.up/\(∀ ks v rZ,o=.vQ ks v rZ->(dB sp.c8 (g++k)).len j=rZ.length)/\sh.up=0/\(cz H aA).up j=vV o:=by
  intro j q;have hj':j<sp.c8.length:=by omega
  obtain⟨i,o,U,O,V,y,M,I,q5,q6⟩:=p3 j sp.c8[j] (bY hj');have q1':=V;rw[hat j q]at V;cases V;refine⟨sp.c8[j],o,U,O,bY hj',y,M,I,q5,q6,?_,?_⟩
  ·have := dK.1 hfr sp.c8[j] (uL hj')
   exact bx this
  ·simp only [cy.up, cz, cu, bW]
   rw[q1'];simp only[e_,oJ,vW];rw[y]
 have hK:∀ E E0,E.H=az H->aI E->vR (cz H aA) (bif my sp then (fj H.length).filter (kA aA) else []) E E0->E0.H=az (sp.H0 (g++k)) ->
   ku H (cz H aA) (wb (my sp) aA) (dB sp.c8 (g++k)) E E0:=by
  intro E E0 hEH HE W hE0H;refine { hH:=hEH,HE:=HE,free:=fun i hi b n hb=>?_,dv:=W.toKeepIn,obj:=fun j o ho=>?_ }
  ·refine W.XN i ?_ b n hb
   have hlt:=aV hb;rw[HE.len,hEH,fw]at hlt;unfold wb at hi;split at hi
   ·rename_i N
    rw[N];simp only[cT,sQ,List.mem_range];exact⟨hlt,hi⟩
   ·cases hi
  ·have q:j<aA.length:=by
    rcases l5 j aA.length with hlt|hge
    ·exact hlt
    ·have h1 := aV ho
     have h2:=vT (e:=cz H aA) hge;have h3:(cz H aA).aN=H.length:=rfl;omega
   refine⟨q,?_⟩;obtain⟨sh,o',U,O,V,y,M,I,q5,q6,q7,q8⟩:=hobjs j q;rw[ho]at y;cases y;obtain⟨r1,r2,r3⟩:=HF (lens:=dB sp.c8 (g++k)) (d:=U++O) M;exact⟨r1,⟨_,by rw[hE0H]; exact bt I,by rw[q5]; exact r2⟩,fun o0 h0=>by rw[hE0H,bt I]at h0; cases h0; rw[HB,HC M],q6,fun _=>by rw[q5]; exact q7⟩
 have:=frame (P:=P) (f:=sp.f) (my sp) (bif my sp then (fj H.length).filter (kA aA) else []) (e:=cz H aA) (H:=az H) (args:=sp.gD (g++k)) (H0:=az (sp.H0 (g++k)))
  (H1:=az (sp.H1 r)) (v:=sp.out r) (gD:=as) (hc _ _ hF) hlen (by rw[fw]; rfl) hnd ?_ ?_ (qi hup) ?_ (fun N=>by rw[N]; rfl) ?_ ?_ ?_ ?_ ?_ ?_ ?_
 ·rw [Yg]
  exact this
 ·intro j o ho
  have q:j<aA.length:=by rw[hlen]; exact aV ho
  obtain⟨sh,o',U,O,V,y,M,I,q5,q6,q7,q8⟩:=hobjs j q;obtain⟨r1,r2,r3⟩:=HF (lens:=dB sp.c8 (g++k)) (d:=U++O) M;rw[bt I]at ho;cases ho;refine⟨o'.ao,bt y,ai.Fs r2,fun v=>?_⟩;rw[r1,r2,q7,q8];simp only[be];constructor
  ·rintro rfl
   exact⟨0,rfl,by omega⟩
  ·rintro ⟨u, rfl, rfl⟩
   omega
 ·intro E E0 hEH HE W hE0H j o ho
  have q:j<aA.length:=by rw[hlen]; exact aV ho
  obtain⟨sh,o',U,O,V,y,M,I,q5,q6,q7,q8⟩:=hobjs j q;rw[bt I]at ho;cases ho;exact Nj (hK E E0 hEH HE W hE0H) M O q (fun l hl=>W.lH j _ l (by rw[hE0H]; exact bt I) (by rw[vU,hl])) (HE.obj _ _ (by rw[hEH]; exact bt y))
 ·rw [fw, fw]
  simp only[aO.H0,aO.H1,HO];exact hle
 ·intro N
  simp only[my,aL]at N;exact Ye (NF N.1)
 ·intro N
  simp only[my,aL]at N;exact NG N.2
 ·intro i hi
  cases N:my sp with
  | true =>
   rw[N]at hi;simp only[cT,sQ]at hi;exact No hi.2
  | false =>
   rw[N]at hi;simp at hi
 ·intro j o o' ho ho'
  have q:j<aA.length:=by rw[hlen]; exact aV ho
  obtain⟨sh,o2,U,O,V,y,M,I,_⟩:=hobjs j q;rw[bt I]at ho;rw[bt y]at ho';cases ho;cases ho';rw[Nd M,vU]
 ·intro j o l ho hl
  obtain⟨sh,h5,h6⟩:=Ym (show (az (dA (dB sp.iG r) sp.iG r))[j]? = some o from ho);obtain⟨sh0,h7,h8⟩:=HR hlab j sh l h5 (by rw[<-h6,hl]);obtain⟨o0,h9,h10⟩:=NR (dB sp.c8 (g++k)) sp.c8 (g++k) j sh0 h7;exact⟨o0,h9,by rw[h10,h8]⟩
 ·intro j o o' ho ho'
  have q:j<aA.length:=by rw[hlen]; exact aV ho
  obtain⟨sh,o2,U,O,V,y,M,I,_⟩:=hobjs j q;rw[bt I]at ho;rw[bt y]at ho';cases ho;cases ho';rw[HC M,HB]
 ·intro E E0 cs hEH HE W hE0H hr
  have hS:=(zo (hK E E0 hEH HE W hE0H) h2 []).2.2.2 cs hr;rw[dJ]at hS;simp only[aO.gD,hd];exact hS
theorem Yo{sp:aO}{as:List AV}{H H':List au}{v:AV}{b:Bool}{A:Nat}(h:rG sp as H=some (b,v,H'))(g:A<H.length)(hA:∀ aA,lK H (fun i=>as.getD i .undef) sp.ps []=some aA->A∉aA):H'[A]? = H[A]? := by
 unfold rG at h;split at h
 ·cases h
 rename_i aA d;split at h
 ·cases h
 split at h
 case h_2=>cases h
 cases h;unfold oq;rw[di (by rw[rr]; exact g)];exact Cy _ _ _ _ (hA aA d)
theorem aJ.dO{P:aj}{τ:aH}(h:aJ P τ){sp:aO}(hb:iD P sp.f=true)(hp:we sp=true)
  (hc:∀ d r,sp.F d=some r->fN P sp.f (sp.gD d) (az (sp.H0 d)) (sp.out r) (az (sp.H1 r))):aJ P (τ.dO sp):=by
 refine⟨h.T,fun g as H b v H' k V=>?_,fun g as H b v H' k A hA q=>?_,fun g as H t k Q hQ=>?_,fun g y as H=>?_,fun g M as H b v H' k id o q N=>?_⟩
 rotate_left 2
 ·obtain ⟨g1, v, H', g2, g3, g4⟩ := h.I g as H t k Q hQ
  refine⟨g1,v,H',g2,fun A hA q=>g3 A (fun hm=>hA ?_) q,g4⟩;simp only[aH.dO];split
  ·exact pN _ hm
  ·exact hm
 ·simp only [aH.dO] at y |-
  cases e:ar g sp.f with
  |true=>rw[e]at y; cases y
  | false =>
   rw[e]at y;exact h.F.1 g y as H
 ·simp only [aH.dO] at M k N |-
  cases e:ar g sp.f with
  | false =>
   rw[e]at M k N;exact h.F.2 g M as H b v H' k id o q N
  | true =>
   rw[e]at M k N;simp only[]at M k N|-;split at M
   case h_2=>cases M
   rename_i y hs;have hW0:∀ H,τ.W g as H=none:=fun H=>(h.F.1 g y as H).1;have hC0:∀ H,τ.C g as H=[]:=fun H=>(h.F.1 g y as H).2;rw[hW0]at k;split at k
   case h_2=>cases k
   rename_i r O;cases k;obtain⟨q1,aA,q2,q3⟩:=Yl hs M O (o:=o) q fun aA U hm=>N (nO _ (by rw[U]; exact hm));rw[q1];refine⟨rfl,?_⟩;rw[q2,q3,hC0,hC0]
 simp only[aH.dO]at k;split at k
 ·rename_i e
  have e:=bx e;subst e;split at k
  ·rename_i r O
   cases k;subst V;exact⟨hb,Yn hp hc O⟩
  ·exact h.W _ as H b v H' k V
 ·exact h.W g as H b v H' k V
 simp only[aH.dO]at k hA;split at k
 ·rename_i e
  rw[e]at hA;simp only[]at hA;split at k
  ·rename_i r O
   cases k;exact Yo O q fun aA U hm=>hA (nO _ (by rw[U]; exact hm))
  ·exact h.C g as H b v H' k A (fun hm=>hA (pN _ hm)) q
 ·rename_i e
  rw[e]at hA;exact h.C g as H b v H' k A hA q
end Go.AL

namespace Go.AL
open Go
variable [Dr]
def aG{β:Type}(t:Option LG)(k:LG->Option β):Option β:=bif t.isSome then k (t.getD []) else none
def mz{β:Type}(b:Bool)(t:Option LG)(k:LG->Option β):Option β:=bif b then k (t.getD []) else none
def bh{β:Type}(b:Bool)(r:Option (Nat × LG))(k:Nat->LG->Option β):Option β:=bif (b&&r.isSome) then k (HL r) (HM r) else none
def Yp:Kd->G->G
 |.int _,g=>.i g.iV
 |.str,g=>.s g.sV
 |.bool,g=>.t g.bV
 |.list _,g=>.l g.rZ
def a8:List Kd->LG->LG
 | [],_=>[]
 |k::ks,r=>Yp k (r.headD default)::a8 ks r.tail
def aH.kC(τ:aH)(d:List bO):aH:={ τ with pf:=fun g=>match d.any (fun x=>ar x g)with
 |true=>false
 |false=>τ.pf g }
def aH.jn(τ:aH)(d:List bO):aH:={ τ with pf:=fun g=>match d.any (fun x=>ar x g)with
 |true=>true
 |false=>τ.pf g }
theorem aJ.jn{P:aj}{τ:aH}(h:aJ P τ)(d:List bO):aJ P (τ.jn d):=⟨h.T,h.W,h.C,h.I,h.F⟩
theorem aJ.kC{P:aj}{τ:aH}(h:aJ P τ)(d:List bO):aJ P (τ.kC d):=⟨h.T,h.W,h.C,h.I,h.F⟩
theorem Yq{β:Type}{t:Option LG}{k:LG->Option β}{g:LG}(h:t=some g):aG t k=k g:=by subst h; rfl
inductive kZ (st:LG->Option (Option Nat × LG)):Nat->LG->Nat->LG->Prop
 |stop {d d':LG} {x:Nat} (h:st d=some (some x,d')):kZ st 1 d x d'
 |next {d d1 d':LG} {x n:Nat} (h:st d=some (none,d1)) (h':kZ st n d1 x d'):kZ st (n+1) d x d'
theorem kZ.iter{st:LG->Option (Option Nat × LG)}{n:Nat}{d g:LG}{x:Nat}(h:kZ st n d x g):∀ m,n<=m->tM st m d=some (x,g):=by
 induction h with
 | stop h =>
  intro m hm;cases m with
  |zero=>omega
  |succ m=>simp only[tM,h]
 | next h _ k =>
  intro m hm;cases m with
  |zero=>omega
  |succ m=>simp only[tM,h]; exact k m (by omega)
theorem kZ.Yr{st:LG->Option (Option Nat × LG)}{n:Nat}{d g:LG}{x:Nat}(h:kZ st n d x g)(k:n<=1000000):cn st d=some (x,g):=h.iter _ k
end Go.AL

namespace Go.AL
open Go
variable [Dr]
inductive Hint where
 |freeze (ay:Nat)
 |NS (ay:Nat) (ks:List Kd)
 |NT (ay c:Nat) (ks:List Kd)
 |HS (ay:Nat)
 |NU (ay c:Nat)
 |hole (ks:List Kd)
 |CR
 |a7 (ay l:Nat)
 |HT (ay:Nat)
 |NV (ay l:Nat)
 |NW (ay:Nat)
 |mm (ay l:Nat) (KI VI:Ct)
 |CS (ay c l:Nat) (KI VI:Ct)
 |forget (id:Nat)
 |CT (ay c:Nat) (ks:List Kd)
 |cM (ay l:Nat)
 |bH (ay l:Nat)
 |HU (ay:Nat)
def CU(ay:Nat)(s:aF):Bool × aF :=
 match s.fr.getD ay .undef with
 | .vQ w id ak oF n=>match s.H[id]? with
  |some (.vQ ks v rZ)=>if ak=v/\oF=0/\w=ks.length then (ar n rZ.length,⟨s.fr.set ay (.listF ks rZ),s.H.set id (.raw .dead)⟩) else (true,s)
  |_=>(true,s)
 |_=>(true,s)
def HV(ay c:Nat)(ks:List Kd)(s:aF):Bool × aF :=
 match s.fr.getD ay .undef with
 | .ptr id _ _ _ _=>match s.H[id]? with
  | some (.raw (.box cells))=>match cells[c]? with
   | some a=>match isNil a with
    |true=>(true,⟨s.fr,s.H.set id (.raw (.box (cells.set c (.vQ ks.length s.H.length 0 0 0))))++[.vQ ks 0 []]⟩)
    |false=>(true,s)
   |none=>(true,s)
  |_=>(true,s)
 |_=>(true,s)
def CV(ay c:Nat)(s:aF):Bool × aF :=
 match s.fr.getD ay .undef with
 | .ptr id _ _ _ _=>match s.H[id]? with
  | some (.raw (.box cells))=>match cells[c]? with
   | some (.vQ w d ak oF n)=>match s.H[d]? with
    |some (.vQ ks v rZ)=>if ak=v/\oF=0/\w=ks.length then (ar n rZ.length,⟨s.fr,(s.H.set d (.raw .dead)).set id (.raw (.box (cells.set c (.listF ks rZ))))⟩) else (true,s)
    |_=>(true,s)
   |_=>(true,s)
  |_=>(true,s)
 |_=>(true,s)
def CW(ay:Nat)(s:aF):Bool × aF :=
 match s.fr.getD ay .undef with
 | .vQ w id ak oF n=>match s.H[id]? with
  |some (.vQ ks v rZ)=>if ak=v/\oF=0/\w=ks.length then (eh n rZ.length,⟨s.fr.set ay (.vQ w id (v+1) 0 n),s.H.set id (.vQ ks (v+1) (rZ.take n))⟩) else (true,s)
  |_=>(true,s)
 |_=>(true,s)
def CX(ay l:Nat)(s:aF):Bool × aF :=
 match s.fr.getD ay .undef with
 | .map id=>match s.H[id]? with
  |some (.map K (.one (.list ks)) [] cl)=>(kP (az s.H) l,⟨s.fr,s.H.set id (.a7 l K ks [] cl)⟩)
  |_=>(true,s)
 |_=>(true,s)
def CY(r:LG):LG:=[gi r 0,gi r 1,gi r 2,.t false,.t true]
def CZ(ay l:Nat)(s:aF):Bool × aF :=
 match s.fr.getD ay .undef with
 | .map id=>match s.H[id]? with
  |some (.map K (.one (.list ks)) rZ cl)=>(kP (az s.H) l,⟨s.fr,s.H.set id (.a7 l K ks (rZ.map CY) cl)⟩)
  |_=>(true,s)
 |_=>(true,s)
def Ys(rZ:LL):Bool:=rZ.all fun r=>(gi r 3).bV||(gi r 4).bV
def C0(ay:Nat)(s:aF):Bool × aF :=
 match s.fr.getD ay .undef with
 | .map id=>match s.H[id]? with
  |some (.a7 _ K ks rZ cl)=>(Ys rZ,⟨s.fr,s.H.set id (.map K (.one (.list ks)) rZ cl)⟩)
  |_=>(true,s)
 |_=>(true,s)
def rI(rZ:LL):Bool:=rZ.all fun r=>(gi r 3).bV
def C1(ay:Nat)(s:aF):Bool × aF :=
 match s.fr.getD ay .undef with
 | .map id=>match s.H[id]? with
  |some (.a7 _ K ks rZ cl)=>(rI rZ,⟨s.fr,s.H.set id (.map K (.one (.list ks)) rZ cl)⟩)
  |_=>(true,s)
 |_=>(true,s)
def C2(ay l:Nat)(s:aF):Bool × aF :=
 match s.fr.getD ay .undef with
 | .vQ _ id _ _ _=>match s.H[id]? with
  |some (.vQ [.list ks] 0 rZ)=>(tK (kP (az s.H) l) (cS 0 rZ.length),⟨s.fr,s.H.set id (.cM l ks rZ.length [])⟩)
  |_=>(true,s)
 |_=>(true,s)
def C3(ay l:Nat)(s:aF):Bool × aF :=
 match s.fr.getD ay .undef with
 | .map id=>match s.H[id]? with
  |some (.map K (.agg [.list ks,.list _]) [] cl)=>(kP (az s.H) l,⟨s.fr,s.H.set id (.bH l K ks [] cl)⟩)
  |_=>(true,s)
 |_=>(true,s)
def C5(ay:Nat)(s:aF):Bool × aF :=
 match s.fr.getD ay .undef with
 | .map id=>match s.H[id]? with
  |some (.bH _ K ks rZ cl)=>(rI rZ,⟨s.fr,s.H.set id (.map K (.agg [.list ks,.list ks]) rZ cl)⟩)
  |_=>(true,s)
 |_=>(true,s)
def C6(ay l:Nat)(d g:Ct)(s:aF):Bool × aF :=
 match s.fr.getD ay .undef with
 | .map id=>match s.H[id]? with
  |some (.map K _ [] cl)=>(kP (az s.H) l,⟨s.fr,s.H.set id (.mm l K d g [] [] cl)⟩)
  |_=>(true,s)
 |_=>(true,s)
def C7(ay c l:Nat)(d g:Ct)(s:aF):Bool × aF :=
 match s.fr.getD ay .undef with
 | .ptr a _ _ _ _=>match s.H[a]? with
  | some (.raw (.box cells))=>match cells[c]? with
   | some (.map id)=>match s.H[id]? with
    |some (.map K _ rZ cl)=>(tK (kP (az s.H) l) rZ.isEmpty,⟨s.fr,s.H.set id (.mm l K d g [] [] cl)⟩)
    |_=>(true,s)
   |_=>(true,s)
  |_=>(true,s)
 |_=>(true,s)
def HW(id:Nat)(s:aF):Bool × aF :=
 match s.H[id]? with
 |some (.raw (.box _))=>(true,⟨s.fr,s.H.set id (.vQ [] 1 [])⟩)
 |some (.map ..)=>(true,⟨s.fr,s.H.set id (.vQ [] 1 [])⟩)
 |some (.mm ..)=>(true,⟨s.fr,s.H.set id (.vQ [] 1 [])⟩)
 |some (.cM ..)=>(true,⟨s.fr,s.H.set id (.vQ [] 1 [])⟩)
 |_=>(true,s)
def HX(ay c:Nat)(ks:List Kd)(s:aF):Bool × aF :=
 match s.fr.getD ay .undef with
 | .ptr id _ _ _ _=>match s.H[id]? with
  | some (.raw (.box cells))=>match cells[c]? with
   | some (.list w rZ)=>match bN ks rZ with
    |some d=>if w=ks.length then (true,⟨s.fr,s.H.set id (.raw (.box (cells.set c (.listF ks d))))⟩) else (true,s)
    |none=>(true,s)
   |_=>(true,s)
  |_=>(true,s)
 |_=>(true,s)
def C8:Hint->aF->Bool × aF
 |.freeze i,s=>CU i s
 | .NS i ks,s=>match isNil (s.fr.getD i .undef) with
  |true=>(true,zh i ks s)
  |false=>(true,s)
 |.NT i c ks,s=>HV i c ks s
 |.HS i,s=>CW i s
 |.NU i c,s=>CV i c s
 |.hole ks,s=>(true,⟨s.fr,s.H++[.vQ ks 0 []]⟩)
 |.CR,s=>(true,⟨s.fr,s.H++[.raw .fA]⟩)
 |.a7 i l,s=>CX i l s
 |.HT i,s=>C1 i s
 |.NV i l,s=>CZ i l s
 |.NW i,s=>C0 i s
 |.mm i l d g,s=>C6 i l d g s
 |.CS i c l d g,s=>C7 i c l d g s
 |.forget i,s=>HW i s
 |.CT i c ks,s=>HX i c ks s
 |.cM i l,s=>C2 i l s
 |.bH i l,s=>C3 i l s
 |.HU i,s=>C5 i s
def zB:List Hint->aF->Bool × aF
 | [],s=>(true,s)
 | h::d,s=>match C8 h s with
  | (b,s1)=>match zB d s1 with
   |(g,s2)=>(b&&g,s2)
theorem Yt{m:Nat}{ay:Nat}{s:aF}(h:(CU ay s).1=true):bF m s.ao (CU ay s).2.ao:=by
 unfold CU at h|-;split
 case h_2=>exact bF.refl _
 rename_i w id ak oF n W;split
 case h_2=>exact bF.refl _
 rename_i ks v rZ I;split
 case isFalse=>exact bF.refl _
 rename_i N;obtain⟨rfl,rfl,rfl⟩:=N;simp only[W,I,and_self,if_true]at h;have hn:=bx h;subst hn;intro E a d;have hH:E.H=az s.H:=d.H;have M:=af.yc d.heap id;have hdr:=aI.drop d.heap id fun o ho=>by
  rw[show E.H[id]? = some (.vQ ks.length ak (rZ.map (aT ks))) by rw[hH]; exact bt I]at ho;cases ho;rfl
 have U:az (s.H.set id (.raw .dead))=E.H.set id .dead:=by rw[cR,hH]; rfl
 refine⟨E.ae.set id none,E.X,?_,?_⟩
 ·simp only [aF.ao]
  rw[U];refine⟨rfl,?_,d.defers,hdr⟩;refine CH (en M _ d.fr) fun c N=>?_;have y:=HJ d.fr N;rw[show s.ao.fr=s.fr from rfl,W]at y;have V:E.H[id]? = some (.vQ ks.length ak (rZ.map (aT ks))):=by rw[hH]; exact bt I
  have ho:=d.heap.obj id _ V;rw[kf];simp only[ad]at y|-;obtain⟨⟨aN,cap,rfl,hcap,_⟩,_,O⟩:=y;obtain⟨q1,q2⟩:=O ⟨_,V,rfl⟩;have hcl:fq (rZ.map (aT ks)):=by
   intro r y;obtain⟨g,_,rfl⟩:=dw.1 y;exact gJ ks g
  refine⟨hcl,aN,cap,by simp,by simpa using hcap,?_⟩;simp only[aY]at ho;rcases ho with⟨h1,h2⟩|⟨b,mm,h1,h2,O,_,h4⟩
  ·exact .inl h2
  ·obtain ⟨g1, o, g2, g3⟩ := q2 b mm h1
   by_cases hm:rZ=[]
   ·subst hm; exact .inl rfl
   ·right
    have:0<rZ.length:=by cases rZ with|nil=>exact(hm rfl).elim|cons _ _=>simp
    simp at O;have ho:=g2 (by omega);simp at ho;subst ho;simp only[l6]at g3;refine⟨b,0,g3.1,⟨(d.heap.lt id b mm h1).1,?_,(d.heap.lt id b mm h1).2⟩,kN M.toC _ hcl rfl h4⟩;rintro(⟨j,c',q⟩|⟨l,k,c',q⟩)
    case inr=>exact d.heap.dm _ _ _ _ _ _ h1 q
    simp only[ef]at q;split at q
    ·split at q<;>cases q
    ·rename_i hne
     exact hne (d.heap.inj _ _ _ _ _ h1 q)
 ·simp only [aF.ao]
  rw[U];exact M.toM
theorem Yu{m:Nat}{ay c:Nat}{ks:List Kd}{s:aF}:bF m s.ao (HV ay c ks s).2.ao:=by
 unfold HV;split
 case h_2=>exact bF.refl _
 rename_i id ak k row col hsl;split
 case h_2=>exact bF.refl _
 rename_i cells hid;split
 case h_2=>exact bF.refl _
 rename_i a0 ha0;split
 case h_2=>exact bF.refl _
 rename_i hnil;intro E a g;have hH:E.H=az s.H:=g.H;have hlen:E.H.length=s.H.length:=by rw[hH,fw]
 have O:E.le (E.push E.w (.vQ ks.length 0 []) none):=af.ma g.heap.len (Ext.refl _) (fun b n h=>by cases h);have hobj:aY (E.push E.w (.vQ ks.length 0 []) none) E.H.length (.vQ ks.length 0 []):=by
  simp only[aY,af.push];refine .inl ⟨?_,trivial⟩;rw[ja (by rw[g.heap.len]; exact aQ _),g.heap.len,l9];rfl
 have y:aI (E.push E.w (.vQ ks.length 0 []) none):=aI.push g.heap (Ext.refl _) (fun b n h=>by cases h) hobj;generalize I:E.push E.w (.vQ ks.length 0 []) none=d at O y;have U:d.w=E.w:=by rw[<-I]; rfl
 have V:d.X=E.X:=by rw[<-I]; rfl
 have W:d.H=az (s.H++[.vQ ks 0 []]):=by rw[<-I,jE,<-hH]; rfl
 have hidlt:id<s.H.length:=aV hid;have M:d.H[id]? = some (.box cells):=by
  rw[W];exact bt (H:=s.H++[.vQ ks 0 []]) (o:=.raw (.box cells)) (by rw[di hidlt]; exact hid)
 have ho:=y.obj id _ M;simp only[aY]at ho;obtain⟨b,n,h1,h2,h3⟩:=ho;have hver:∀ v,(ai.box (cells.set c (.vQ ks.length s.H.length 0 0 0))).aU = some v->(ai.box cells).aU = some v:=fun v hv=>by simpa[ai.aU]using hv
 have N:=af.pT (o':=.box (cells.set c (.vQ ks.length s.H.length 0 0 0))) (w':=d.w) y M h1 hver rfl (fun _ _=>rfl);have hnew:d.H[s.H.length]? = some (.vQ ks.length 0 []):=by
  rw[W];have e:(s.H++[au.vQ ks 0 []])[s.H.length]? = some (au.vQ ks 0 []):=by rw[ja (aQ _),l9]; rfl
  exact bt e
 have hloc:d.ae[s.H.length]? = some none:=by
  rw[<-I];simp only[af.push];rw[ja (by rw[g.heap.len]; omega),g.heap.len,hlen,l9];rfl
 have hrel:∀ v,ad d a0 v->ad { w:=d.w,H:=d.H.set id (.box (cells.set c (.vQ ks.length s.H.length 0 0 0))),ae:=d.ae,X:=d.X } (.vQ ks.length s.H.length 0 0 0) v:=by
  intro v hv;obtain⟨aN,rfl⟩:=M0 hnil hv;simp only[ad];have hne:id≠s.H.length:=by omega
  refine⟨⟨aN,0,rfl,aQ _,fun h=>absurd h (Bp _)⟩,⟨.vQ ks.length 0 [],by rw[bf hne]; exact hnew,rfl,fun v h=>eR _⟩,fun _=>⟨fun _=>⟨trivial,trivial,aN,rfl⟩,fun b m hb=>?_⟩⟩;rw[hloc]at hb;cases hb
 have hHR2:=aI.set (w':=d.w) y M h1 hver rfl (fun _ _=>rfl) (by
  simp only[aY];refine⟨b,n,h1,by simpa using h2,?_⟩;rw[ke]at h3|-;intro i x q;rw[ef]at q;split at q
  ·rename_i e
   subst e;split at q
   ·cases q
    obtain⟨v,g1,g2,g3⟩:=h3 c a0 ha0;exact⟨v,g1,g2,hrel v g3⟩
   ·cases q
  ·obtain ⟨v, g1, g2, g3⟩ := h3 i x q
   exact⟨v,g1,g2,bD N x g3⟩)
 have hden:az (s.H.set id (.raw (.box (cells.set c (.vQ ks.length s.H.length 0 0 0))))++[.vQ ks 0 []])=d.H.set id (.box (cells.set c (.vQ ks.length s.H.length 0 0 0))):=by
  rw[W,jE,jE,cR,Bk _ _ (by rw[fw]; exact hidlt)];rfl
 refine⟨d.ae,E.X,?_,?_⟩
 ·simp only [aF.ao]
  rw[hden];rw[U,V]at hHR2;refine⟨rfl,?_,g.defers,hHR2⟩;have:=en N _ (en O _ g.fr);rw[U,V]at this;exact this
 ·simp only [aF.ao]
  rw[hden];have:=(O.trans N).toM (m:=m);rw[U,V]at this;exact this
theorem Yv{m:Nat}{ay c:Nat}{s:aF}(h:(CV ay c s).1=true):bF m s.ao (CV ay c s).2.ao:=by
 unfold CV at h|-;split
 case h_2=>exact bF.refl _
 rename_i id ver0 k row col hsl;split
 case h_2=>exact bF.refl _
 rename_i cells N;split
 case h_2=>exact bF.refl _
 rename_i w g ak oF n hcell;split
 case h_2=>exact bF.refl _
 rename_i ks v rZ V;split
 case isFalse=>exact bF.refl _
 rename_i hc;obtain⟨rfl,rfl,rfl⟩:=hc;simp only[hsl,N,hcell,V,and_self,if_true]at h;have hn:=bx h;subst hn;intro E a q;have hH:E.H=az s.H:=q.H;have hne:id≠g:=fun e=>by
  rw[e,V]at N;cases N
 have hide:E.H[id]? = some (.box cells):=by rw[hH]; exact bt N
 have hid2e:E.H[g]? = some (.vQ ks.length ak (rZ.map (aT ks))):=by rw[hH]; exact bt V
 obtain⟨b0,n0,k1,k2,k3⟩:=q.heap.obj id _ hide;rw[ke]at k3;obtain⟨cv,c1,c2,c3⟩:=k3 c _ hcell;have hfr:=Gs q.heap hid2e c3;have hle:=af.yc q.heap g;have O:=aI.drop q.heap g fun o ho=>by
  rw[hid2e]at ho;cases ho;rfl
 generalize I:({ w:=E.w,H:=E.H.set g .dead,ae:=E.ae.set g none,X:=E.X }:af)=d at hle O hfr;have U:d.w=E.w:=by rw[<-I]
 have hX1:d.X=E.X:=by rw[<-I]
 have W:d.H[id]? = some (.box cells):=by
  rw[<-I];show (E.H.set g .dead)[id]? = _
  rw[bf (Ne.symm hne)];exact hide
 have hl1:d.ae[id]? = some (some (b0,n0)):=by
  rw[<-I];show (E.ae.set g none)[id]? = _
  rw[bf (Ne.symm hne)];exact k1
 obtain⟨b,n,h1,h2,h3⟩:=O.obj id _ W;have hbb:b=b0:=by
  rw[hl1]at h1;cases h1;rfl
 subst hbb;have hver:∀ v,(ai.box (cells.set c (.listF ks rZ))).aU = some v->(ai.box cells).aU = some v:=fun v hv=>by simpa[ai.aU]using hv
 have M:=af.pT (o':=.box (cells.set c (.listF ks rZ))) (w':=d.w) O W h1 hver rfl (fun _ _=>rfl);have hHR2:=aI.set (w':=d.w) O W h1 hver rfl (fun _ _=>rfl) (by
  simp only[aY];refine⟨b,n,h1,by simpa using h2,?_⟩;rw[ke]at h3|-;intro i x y;rw[ef]at y;split at y
  ·rename_i e
   subst e;split at y
   ·cases y
    refine⟨cv,by rw[show ({ w:=d.w,H:=_,ae:=d.ae,X:=d.X }:af).w=E.w from U]; exact c1,c2,bD M _ hfr⟩
   ·cases y
  ·obtain ⟨v, g1, g2, g3⟩ := h3 i x y
   exact⟨v,g1,g2,bD M x g3⟩)
 have hden:az ((s.H.set g (.raw .dead)).set id (.raw (.box (cells.set c (.listF ks rZ)))))=d.H.set id (.box (cells.set c (.listF ks rZ))):=by
  rw[cR,cR,<-hH,<-I];rfl
 refine⟨d.ae,E.X,?_,?_⟩
 ·simp only [aF.ao]
  rw[hden];rw[U,hX1]at hHR2;refine⟨rfl,?_,q.defers,hHR2⟩;have:=en M _ (en hle _ q.fr);rw[U,hX1]at this;exact this
 ·simp only [aF.ao]
  rw[hden];have:=(hle.trans M).toM (m:=m);rw[U,hX1]at this;exact this
theorem Yw{m:Nat}{ay c:Nat}{ks:List Kd}{s:aF}:bF m s.ao (HX ay c ks s).2.ao:=by
 unfold HX;split
 case h_2=>exact bF.refl _
 rename_i id ver0 k row col hsl;split
 case h_2=>exact bF.refl _
 rename_i cells V;split
 case h_2=>exact bF.refl _
 rename_i w rZ O;split
 case h_2=>exact bF.refl _
 rename_i q W;split
 case isFalse=>exact bF.refl _
 rename_i hw;subst hw;intro E a d;have hH:E.H=az s.H:=d.H;have y:E.H[id]? = some (.box cells):=by rw[hH]; exact bt V
 obtain⟨b,n,h1,h2,I⟩:=d.heap.obj id _ y;have M:∀ v,(ai.box (cells.set c (.listF ks q))).aU = some v->(ai.box cells).aU = some v:=fun v hv=>by simpa[ai.aU]using hv
 have h:=af.pT (o':=.box (cells.set c (.listF ks q))) (w':=E.w) d.heap y h1 M rfl (fun _ _=>rfl);have U:=aI.set (w':=E.w) d.heap y h1 M rfl (fun _ _=>rfl) (by
  simp only[aY];refine⟨b,n,h1,by simpa using h2,?_⟩;rw[ke]at I|-;intro i x g;rw[ef]at g;split at g
  ·rename_i e
   subst e;split at g
   ·cases g
    obtain⟨cv,c1,c2,c3⟩:=I c _ O;refine⟨cv,c1,c2,bD h _ ?_⟩;rw[kf,qY W];exact c3
   ·cases g
  ·obtain ⟨v, g1, g2, g3⟩ := I i x g
   exact⟨v,g1,g2,bD h x g3⟩)
 have N:az (s.H.set id (.raw (.box (cells.set c (.listF ks q)))))=E.H.set id (.box (cells.set c (.listF ks q))):=by rw[cR,<-hH]; rfl
 refine⟨E.ae,E.X,?_,?_⟩
 ·simp only [aF.ao]
  rw[N];exact⟨rfl,en h _ d.fr,d.defers,U⟩
 ·simp only [aF.ao]
  rw[N];exact h.toM
theorem Yx{m:Nat}{ay:Nat}{s:aF}(h:(CW ay s).1=true):bF m s.ao (CW ay s).2.ao:=by
 unfold CW at h|-;split
 case h_2=>exact bF.refl _
 rename_i w id ak oF n V;split
 case h_2=>exact bF.refl _
 rename_i ks v rZ W;split
 case isFalse=>exact bF.refl _
 rename_i M;obtain⟨rfl,rfl,rfl⟩:=M;simp only[V,W,and_self,if_true]at h;have hn:=Bm h;intro E a d;have hH:E.H=az s.H:=d.H;have y:E.H[id]? = some (.vQ ks.length ak (rZ.map (aT ks))):=by rw[hH]; exact bt W
 have ho:=d.heap.obj id _ y;obtain⟨l,N⟩:∃ l,E.ae[id]? = some l:=by
  have:id<E.ae.length:=by rw[d.heap.len]; exact aV y
  exact⟨_,bY this⟩
 have hls:E.ae.set id l=E.ae:=oV N;have U:az (s.H.set id (.vQ ks (ak+1) (rZ.take n)))=E.H.set id (.vQ ks.length (ak+1) ((rZ.take n).map (aT ks))):=by rw[cR,hH]; rfl
 have hlc:∀ b n,l=some (b,n)->E.w.heap.size<=b\/∃ m,E.ae[id]? = some (some (b,m)):=fun b n hb=>.inr ⟨n,by rw[N,hb]⟩;have hup:∀ v u,(ai.vQ ks.length (ak+1) ((rZ.take n).map (aT ks))).aU = some v->(ai.vQ ks.length ak (rZ.map (aT ks))).aU = some u->u<=v:=by
  intro v u h1 k;simp[ai.aU]at h1 k;omega
 have hvr:∀ v,(ai.vQ ks.length (ak+1) ((rZ.take n).map (aT ks))).aU = some v->∀ u,(ai.vQ ks.length ak (rZ.map (aT ks))).aU = some u->u<v:=by
  intro v h1 u k;simp[ai.aU]at h1 k;omega
 have I:=af.me (o':=.vQ ks.length (ak+1) ((rZ.take n).map (aT ks))) (l:=l) (w':=E.w) y d.heap.len (aQ _) (fun _ _ _=>rfl) hlc (.inr hvr) hup (fun _ h=>by simp[ai.aU]at h);have hHR:=aI.nS (o':=.vQ ks.length (ak+1) ((rZ.take n).map (aT ks))) (l:=l) (w':=E.w) d.heap y (aQ _) (fun _ _ _=>rfl) (fun b n hb=>.inr ⟨n,by rw[N,hb]⟩) (.inr hvr) hup (fun _ h=>by simp[ai.aU]at h) (by
  rw[hls]at I|-;simp only[aY]at ho|-;rcases ho with⟨h1,k⟩|⟨b,mm,h1,k,O,h4,h5⟩
  ·left
   refine⟨h1,?_⟩;have:rZ=[]:=by simpa using k
   rw[this];simp
  ·right
   refine⟨b,mm,h1,k,by simp at O|-; omega,?_,?_⟩
   ·intro r q
    obtain⟨g,_,rfl⟩:=dw.1 q;exact gJ ks g
   ·rw [nR] at h5 |-
    intro i r hi;simp only[bW,oH]at hi;split at hi
    ·obtain ⟨g1, g2⟩ := h5 i r (by simpa using hi)
     exact⟨g1,BC (fun a c q=>bD I a q) rfl g2⟩
    ·simp at hi)
 rw[hls]at I hHR;refine⟨E.ae,E.X,?_,?_⟩
 ·simp only [aF.ao]
  rw[U];refine⟨rfl,?_,d.defers,hHR⟩;refine CH (en I _ d.fr) fun c M=>?_;have q:=HJ d.fr M;rw[show s.ao.fr=s.fr from rfl,V]at q;simp only[ad]at q|-;obtain⟨h1,k,O⟩:=q;exact⟨h1,⟨.vQ ks.length (ak+1) ((rZ.take n).map (aT ks)),bB (aV y),rfl,fun v hv=>by simp[ai.aU]at hv; omega⟩,fun _=>O ⟨_,y,rfl⟩⟩
 ·simp only [aF.ao]
  rw[U];exact I.toM
theorem Yy{m:Nat}{ks:List Kd}{s:aF}:bF m s.ao (aF.ao ⟨s.fr,s.H++[.vQ ks 0 []]⟩):=fun E a d=>by
 have hH:E.H=az s.H:=d.H;have k:E.le (E.push E.w (.vQ ks.length 0 []) none):=af.ma d.heap.len (Ext.refl _) (fun b n h=>by cases h);have q:aY (E.push E.w (.vQ ks.length 0 []) none) E.H.length (.vQ ks.length 0 []):=by
  simp only[aY,af.push];refine .inl ⟨?_,trivial⟩;rw[ja (by rw[d.heap.len]; exact aQ _),d.heap.len,l9];rfl
 have v:aI (E.push E.w (.vQ ks.length 0 []) none):=aI.push d.heap (Ext.refl _) (fun b n h=>by cases h) q;have g:(aF.ao ⟨s.fr,s.H++[.vQ ks 0 []]⟩).H=E.H++[.vQ ks.length 0 []]:=by
  rw[hH];simp[aF.ao,az,au.ao]
 refine⟨E.ae++[none],E.X,?_,?_⟩
 ·rw [g]
  exact⟨g.symm,en k _ d.fr,d.defers,v⟩
 ·rw [g]
  exact k.toM
theorem Yz{m:Nat}{s:aF}:bF m s.ao (aF.ao ⟨s.fr,s.H++[.raw .fA]⟩):=fun E a d=>by
 have hH:E.H=az s.H:=d.H;have k:E.le (E.push E.w (.fA) none):=af.ma d.heap.len (Ext.refl _) (fun b n h=>by cases h);have q:aY (E.push E.w (.fA) none) E.H.length (.fA):=by
  simp only[aY,af.push];rw[ja (by rw[d.heap.len]; exact aQ _),d.heap.len,l9];rfl
 have v:aI (E.push E.w (.fA) none):=aI.push d.heap (Ext.refl _) (fun b n h=>by cases h) q;have g:(aF.ao ⟨s.fr,s.H++[.raw .fA]⟩).H=E.H++[.fA]:=by
  rw[hH];simp[aF.ao,az,au.ao]
 refine⟨E.ae++[none],E.X,?_,?_⟩
 ·rw [g]
  exact⟨g.symm,en k _ d.fr,d.defers,v⟩
 ·rw [g]
  exact k.toM
theorem YA{m:Nat}{ay l:Nat}{s:aF}(h:(CX ay l s).1=true):bF m s.ao (CX ay l s).2.ao:=by
 unfold CX at h|-;split
 case h_2=>exact bF.refl _
 rename_i id y;split
 case h_2=>exact bF.refl _
 rename_i K ks cl k;simp only[y,k]at h;intro E a d;have hH:E.H=az s.H:=d.H;have v:E.H[id]? = some (.map [] cl):=by rw[hH]; exact bt k
 obtain⟨h1,q⟩:=Vl (w:=ks.length) d.heap v (by rw[hH]; exact h);have g:az (s.H.set id (.a7 l K ks [] cl))=E.H.set id (.a7 l ks.length [] cl):=by rw[cR,hH]; rfl
 refine⟨E.ae,E.X,?_,?_⟩
 ·simp only [aF.ao]
  rw[g];exact⟨rfl,en q _ d.fr,d.defers,h1⟩
 ·simp only [aF.ao]
  rw[g];exact q.toM
theorem YB{m:Nat}{ay l:Nat}{g k:Ct}{s:aF}(h:(C6 ay l g k s).1=true):bF m s.ao (C6 ay l g k s).2.ao:=by
 unfold C6 at h|-;split
 case h_2=>exact bF.refl _
 rename_i id M;split
 case h_2=>exact bF.refl _
 rename_i K V cl v;simp only[M,v]at h;intro E a d;have hH:E.H=az s.H:=d.H;have I:E.H[id]? = some (.map [] cl):=by rw[hH]; exact bt v
 obtain⟨h1,y⟩:=Lf d.heap I (by rw[hH]; exact h);have q:az (s.H.set id (.mm l K g k [] [] cl))=E.H.set id (.mm l [] [] cl):=by rw[cR,hH]; rfl
 refine⟨E.ae,E.X,?_,?_⟩
 ·simp only [aF.ao]
  rw[q];exact⟨rfl,en y _ d.fr,d.defers,h1⟩
 ·simp only [aF.ao]
  rw[q];exact y.toM
theorem YC{m:Nat}{ay c l:Nat}{g k:Ct}{s:aF}(h:(C7 ay c l g k s).1=true):bF m s.ao (C7 ay c l g k s).2.ao:=by
 unfold C7 at h|-;split
 case h_2=>exact bF.refl _
 rename_i a _ _ _ _ M;split
 case h_2=>exact bF.refl _
 rename_i cells N;split
 case h_2=>exact bF.refl _
 rename_i id O;split
 case h_2=>exact bF.refl _
 rename_i K V rZ cl v;simp only[M,N,O,v,tL]at h;obtain⟨h,he⟩:=h;have he:rZ=[]:=by cases rZ with|nil=>rfl|cons _ _=>cases he
 subst he;intro E U d;have hH:E.H=az s.H:=d.H;have I:E.H[id]? = some (.map [] cl):=by rw[hH]; exact bt v
 obtain⟨h1,y⟩:=Lf d.heap I (by rw[hH]; exact h);have q:az (s.H.set id (.mm l K g k [] [] cl))=E.H.set id (.mm l [] [] cl):=by rw[cR,hH]; rfl
 refine⟨E.ae,E.X,?_,?_⟩
 ·simp only [aF.ao]
  rw[q];exact⟨rfl,en y _ d.fr,d.defers,h1⟩
 ·simp only [aF.ao]
  rw[q];exact y.toM
theorem aI.forget{E:af}(H:aI E){id l0:Nat}{o:ai}(M:E.H[id]? = some o)(hlab:o.label=some l0)(hver:o.aU = some 0) :
  aI { w:=E.w,H:=E.H.set id (.vQ 0 1 []),ae:=E.ae.set id none,X:=E.X.re (iR E.X.r l0) }/\E.le { w:=E.w,H:=E.H.set id (.vQ 0 1 []),ae:=E.ae.set id none,X:=E.X.re (iR E.X.r l0) }:=by
 have U:=aV M;have hltl:id<E.ae.length:=by rw[H.len]; exact U
 have V:∀(i:Nat) x,(E.H.set id (.vQ 0 1 []))[i]? = some x->(i=id/\x=.vQ 0 1 [])\/(i≠id/\E.H[i]? = some x):=fun i x hi=>by
  by_cases d:i=id
  ·subst d
   rw[bB U]at hi;cases hi;exact .inl ⟨rfl,rfl⟩
  ·rw [bf (Ne.symm d)] at hi
   exact .inr ⟨d,hi⟩
 have N:∀(i b m:Nat),(E.ae.set id none)[i]? = some (some (b,m))->i≠id/\E.ae[i]? = some (some (b,m)):=fun i b m hi=>by
  by_cases d:i=id
  ·subst d
   rw[bB hltl]at hi;cases hi
  ·rw [bf (Ne.symm d)] at hi
   exact⟨d,hi⟩
 have W:E.le { w:=E.w,H:=E.H.set id (.vQ 0 1 []),ae:=E.ae.set id none,X:=E.X.re (iR E.X.r l0) }:=by
  refine⟨fun i ak hp=>?_,aQ _,fun _ _ _=>rfl,fun b hb hno=>?_,fun i ak hp I=>?_,⟨rfl,rfl⟩,fun l h hh=>?_,.refl _,fun i l x h1 g hv=>?_⟩
  rotate_right
  ·by_cases d : i = id
   ·subst d
    obtain⟨y,q,h4⟩:=hv;rw[show (E.H.set i (.vQ 0 1 []))[i]? = some (.vQ 0 1 []) from bB U]at q;cases q;cases h4
   ·have e3 : l ≠ l0 := fun e3 => d (H.uniq i id x o l h1 M (ai.nP g) (by rw [e3]; exact hlab))
    exact⟨⟨[],by rw[dJ]; exact iN e3⟩,x,by simp only[]; rw[bf (Ne.symm d)]; exact h1,g⟩
  ·obtain ⟨x, h1, g⟩ := hp
   by_cases d:i=id
   ·subst d
    rw[M]at h1;cases h1;have:=g.2 0 hver;exact⟨.vQ 0 1 [],by simp only[]; rw[bB U],rfl,fun v hv=>by cases hv; omega⟩
   ·exact⟨x,by simp only[]; rw[bf (Ne.symm d)]; exact h1,g⟩
  ·rintro (⟨i, c, hi⟩ | ⟨l, h, m, hm⟩)
   ·exact hno (.inl ⟨i,c,(N i b c hi).2⟩)
   ·exact hno (.inr ⟨l,h,m,(jN hm).1⟩)
  ·obtain ⟨x, h1, g⟩ := I
   rcases V i x h1 with⟨rfl,rfl⟩|⟨d,q⟩
   ·cases g
    obtain⟨y,q,h4⟩:=hp;rw[M]at q;cases q;have:=h4.2 0 hver;omega
   ·exact⟨⟨x,q,g⟩,bf (Ne.symm d)⟩
  ·refine ⟨?_, fun y hy => (jN hy).1⟩
   show h<(iR E.X.r l0 l).length
   rw[Lc];exact hh
 refine⟨⟨by simp[H.len],fun i j b m n hi hj=>H.inj i j b m n (N _ _ _ hi).2 (N _ _ _ hj).2,fun i b m hi=>H.lt i b m (N _ _ _ hi).2,H.X,fun i x hi=>?_,H.gL.bT W.toC,fun l h l' h' b m n h1 g=>H.fM _ _ _ _ _ _ _ (jN h1).1 (jN g).1,fun i b m l h n hi O=>H.dm _ _ _ _ _ _ (N _ _ _ hi).2 (jN O).1,fun l h b m O=>H.cQ _ _ _ _ (jN O).1,fun i k x y l hi O h1 g=>?_,fun l hn h y hy=>?_⟩,W⟩
 ·rcases V i x hi with ⟨rfl, rfl⟩ | ⟨d, q⟩
  ·simp only [aY]
   exact .inl ⟨bB hltl,trivial⟩
  ·refine mO (fun a _ hr => bD W a hr) (bf (Ne.symm d)) (fun _ _ _ => rfl) (fun l I => ?_) (H.obj i x q)
   have hne2:l≠l0:=fun e=>d (H.uniq i id x o l q M I (by rw[hlab,e]));exact⟨iN hne2,fun _ _ _ _=>rfl⟩
 ·have key:∀ (i:Nat) x,(E.H.set id (.vQ 0 1 []))[i]? = some x->x.label=some l->E.H[i]? = some x:=by
   intro i x hi I;rcases V i x hi with⟨rfl,rfl⟩|⟨d,q⟩
   ·cases I
   ·exact q
  exact H.uniq i k x y l (key i x hi h1) (key k y O g) h1 g
 ·obtain ⟨g1, g2⟩ := jN hy
  refine H.iO l (fun i x hi I=>?_) h y g1;by_cases e:i=id
  ·subst e
   rw[M]at hi;cases hi;exact g2 (by rw[hlab]at I; cases I; rfl)
  ·exact hn i x (by show (E.H.set id (.vQ 0 1 []))[i]? = _; rw[bf (Ne.symm e)]; exact hi) I
theorem aI.YD{E:af}(H:aI E){id:Nat}{o:ai}(g:E.H[id]? = some o)(hlab:o.label=none)(y:o.aU = some 0) :
  aI { w:=E.w,H:=E.H.set id (.vQ 0 1 []),ae:=E.ae.set id none,X:=E.X }/\E.le { w:=E.w,H:=E.H.set id (.vQ 0 1 []),ae:=E.ae.set id none,X:=E.X }:=by
 have O:=aV g;have N:id<E.ae.length:=by rw[H.len]; exact O
 have k:∀ v,(ai.vQ 0 1 []).aU = some v->∀ u,o.aU = some u->u<v:=fun v q u d=>by
  rw[y]at d;cases d;cases q;exact Nat.zero_lt_one
 have I:∀ v u,(ai.vQ 0 1 []).aU = some v->o.aU = some u->u<=v:=fun v u q d=>Nat.le_of_lt (k v q u d);have M:o.born=true->o.aU = none->(ai.vQ 0 1 []).aU = none:=fun _ h=>by rw[y]at h; cases h
 refine⟨aI.nS H g (aQ _) (fun _ _ _=>rfl) (fun _ _ h=>by cases h) (.inr k) I M ?_ (hlab:=hlab),af.me g H.len (aQ _) (fun _ _ _=>rfl) (fun _ _ h=>by cases h) (.inr k) I M (hmm:=.inl (ai.Bx hlab))⟩;simp only[aY];exact .inl ⟨bB N,trivial⟩
theorem YE{m:Nat}{id:Nat}{s:aF}:bF m s.ao (HW id s).2.ao:=by
 have v:∀ o:au,s.H[id]? = some o->o.ao.label=none->o.ao.aU = some 0->bF m s.ao (aF.ao ⟨s.fr,s.H.set id (.vQ [] 1 [])⟩):=fun o g h1 y=>by
  intro E a d;have hH:E.H=az s.H:=d.H;obtain⟨q,k⟩:=aI.YD d.heap (by rw[hH]; exact bt g) h1 y;have h:az (s.H.set id (.vQ [] 1 []))=E.H.set id (.vQ 0 1 []):=by rw[cR,hH]; rfl
  refine⟨E.ae.set id none,E.X,?_,?_⟩
  ·simp only [aF.ao]
   rw[h];exact⟨rfl,en k _ d.fr,d.defers,q⟩
  ·simp only [aF.ao]
   rw[h];exact k.toM
 unfold HW;split
 ·rename_i g
  exact v _ g rfl rfl
 ·rename_i g
  exact v _ g rfl rfl
 ·rename_i l K I M rZ mem cl g
  intro E a d;have hH:E.H=az s.H:=d.H;obtain⟨q,k⟩:=aI.forget (l0:=l) d.heap (by rw[hH]; exact bt g) rfl rfl;have h:az (s.H.set id (.vQ [] 1 []))=E.H.set id (.vQ 0 1 []):=by rw[cR,hH]; rfl
  refine⟨E.ae.set id none,E.X.re (iR E.X.r l),?_,?_⟩
  ·simp only [aF.ao]
   rw[h];exact⟨rfl,en k _ d.fr,d.defers,q⟩
  ·simp only [aF.ao]
   rw[h];exact k.toM
 ·rename_i l ks n N g
  intro E a d;have hH:E.H=az s.H:=d.H;obtain⟨q,k⟩:=aI.forget (l0:=l) d.heap (by rw[hH]; exact bt g) rfl rfl;have h:az (s.H.set id (.vQ [] 1 []))=E.H.set id (.vQ 0 1 []):=by rw[cR,hH]; rfl
  refine⟨E.ae.set id none,E.X.re (iR E.X.r l),?_,?_⟩
  ·simp only [aF.ao]
   rw[h];exact⟨rfl,en k _ d.fr,d.defers,q⟩
  ·simp only [aF.ao]
   rw[h];exact k.toM
 ·exact bF.refl _
theorem YF{m:Nat}{ay l:Nat}{s:aF}(h:(C2 ay l s).1=true):bF m s.ao (C2 ay l s).2.ao:=by
 unfold C2 at h|-;split
 case h_2=>exact bF.refl _
 rename_i _ id _ _ _ I;split
 case h_2=>exact bF.refl _
 rename_i ks rZ q;simp only[I,q,tL]at h;obtain⟨h,N⟩:=h;intro E a d;have hH:E.H=az s.H:=d.H;have y:E.H[id]? = some (.vQ 1 0 (rZ.map (aT [.list ks]))):=by rw[hH]; exact bt q
 have M:rZ.map (aT [.list ks])≠[]:=by
  intro e;rw[List.map_eq_nil_iff]at e;subst e;cases N
 obtain⟨h1,v⟩:=Vz (k:=ks.length) d.heap y M (by rw[hH]; exact h);have g:az (s.H.set id (.cM l ks rZ.length []))=E.H.set id (.cM l ks.length (rZ.map (aT [.list ks])).length []):=by rw[cR,hH,c9]; rfl
 refine⟨E.ae,E.X,?_,?_⟩
 ·simp only [aF.ao]
  rw[g];exact⟨rfl,en v _ d.fr,d.defers,h1⟩
 ·simp only [aF.ao]
  rw[g];exact v.toM
theorem YG{m:Nat}{ay l:Nat}{s:aF}(h:(C3 ay l s).1=true):bF m s.ao (C3 ay l s).2.ao:=by
 unfold C3 at h|-;split
 case h_2=>exact bF.refl _
 rename_i id y;split
 case h_2=>exact bF.refl _
 rename_i K ks I cl k;simp only[y,k]at h;intro E a d;have hH:E.H=az s.H:=d.H;have v:E.H[id]? = some (.map [] cl):=by rw[hH]; exact bt k
 obtain⟨h1,q⟩:=VC (w:=ks.length) d.heap v (by rw[hH]; exact h);have g:az (s.H.set id (.bH l K ks [] cl))=E.H.set id (.bH l ks.length [] cl):=by rw[cR,hH]; rfl
 refine⟨E.ae,E.X,?_,?_⟩
 ·simp only [aF.ao]
  rw[g];exact⟨rfl,en q _ d.fr,d.defers,h1⟩
 ·simp only [aF.ao]
  rw[g];exact q.toM
theorem YH{m:Nat}{ay:Nat}{s:aF}(h:(C5 ay s).1=true):bF m s.ao (C5 ay s).2.ao:=by
 unfold C5 at h|-;split
 case h_2=>exact bF.refl _
 rename_i id hsl;split
 case h_2=>exact bF.refl _
 rename_i l K ks rZ cl N;simp only[hsl,N]at h;intro E a d;have hH:E.H=az s.H:=d.H;have I:E.H[id]? = some (.bH l ks.length (lz K ks rZ) cl):=by rw[hH]; exact bt N
 have ho:=d.heap.obj id _ I;simp only[aY]at ho;obtain⟨b,n,ms,g1,g2,V,k00,hh,k1,k2⟩:=ho;obtain⟨h1,W⟩:=aI.Gc (o':=.map (dN K (.agg [.list ks,.list ks]) rZ) cl) d.heap I rfl rfl rfl fun O=>by
  simp only[aY];refine⟨b,n,ms,g1,g2,?_⟩;rw[eW]at V|-;obtain⟨q1,q2⟩:=V;refine⟨by simpa[dN,fY,lz]using q1,fun i x e q he=>?_⟩;unfold dN at q;rw[bW]at q;obtain⟨r,k,rfl⟩:=eM.1 q;have hp:=Ce (K:=K) (ks:=ks) k;have U:(gi r 3).bV=true:=dK.1 h r (eO k);obtain⟨a1,a2,a3,a4,a5⟩:=q2 i _ e (Lo hp) he;refine⟨bD O _ a1,?_,a3,a4,Ct.tu (.agg [.list ks,.list ks]) (gi r 1).rV⟩;obtain⟨va,vb,hab,ha1,hb1⟩:=k00 e (eO he);have side:∀(s:Bool) (sl:LL),(gK s (oc K ks r)).2.1=some (sl.map (aT ks))->ad { w:=E.w,H:=E.H.set id (.map (dN K (.agg [.list ks,.list ks]) rZ) cl),ae:=E.ae,X:=E.X.re (iR E.X.r l) } (.listF ks sl) (qL s e.val):=fun s sl hs1=>by
   have hs2:=k2 s i _ (sl.map (aT ks)) e hp hs1 he;rw[kf];simp only[ad];have hcl:fq (sl.map (aT ks)):=by
    intro r k;obtain⟨g,_,rfl⟩:=dw.1 k;exact gJ ks g
   refine⟨hcl,?_⟩;rcases hs2 with⟨s1,aN,s2⟩|⟨bb,mm,s1,s2,s3,s4,s5,s6⟩
   ·rw [s1]
    exact⟨aN,0,s2,aQ _,.inl rfl⟩
   ·refine ⟨_, mm, s2, s4, .inr ⟨bb, 0, rfl, ⟨(d.heap.cQ _ _ _ _ s1).1, ?_, (d.heap.cQ _ _ _ _ s1).2⟩, gy (fun a _ k => bD O a k) rfl s6⟩⟩
    rintro(⟨j,c',v⟩|⟨l',k',c',v⟩)
    ·exact d.heap.dm _ _ _ _ _ _ v s1
    ·obtain ⟨j1, j2⟩ := jN v
     exact j2 (d.heap.fM _ _ _ _ _ _ _ j1 s1).1
  have r0:=side false (mn r 0) (by simp only[oc,gK,U,cT,cF]);have r1:=side true (mn r 1) (by simp only[oc,gK,U,cT]);rw[hab]at r0 r1|-;have r0:ad _ (.listF ks (mn r 0)) va:=r0;have r1:ad _ (.listF ks (mn r 1)) vb:=r1;show ad _ (.agg [.listF ks (mn r 0),.listF ks (mn r 1)]) (.agg #[va,vb])
  rw[ad];refine⟨_,rfl,fun y hy=>?_,?_⟩
  ·simp at hy
   rcases hy with rfl|rfl
   ·exact ha1
   ·exact hb1
  ·simp only [aw, and_true]
   exact⟨r0,r1⟩
 have M:az (s.H.set id (.map K (.agg [.list ks,.list ks]) rZ cl))=E.H.set id (.map (dN K (.agg [.list ks,.list ks]) rZ) cl):=by rw[cR,hH]; rfl
 refine⟨E.ae,E.X.re (iR E.X.r l),?_,?_⟩
 ·simp only [aF.ao]
  rw[M];exact⟨rfl,en W _ d.fr,d.defers,h1⟩
 ·simp only [aF.ao]
  rw[M];exact W.toM
theorem YI{m:Nat}{ay:Nat}{s:aF}(h:(C1 ay s).1=true):bF m s.ao (C1 ay s).2.ao:=by
 unfold C1 at h|-;split
 case h_2=>exact bF.refl _
 rename_i id hsl;split
 case h_2=>exact bF.refl _
 rename_i l K ks rZ cl M;simp only[hsl,M]at h;intro E a d;have hH:E.H=az s.H:=d.H;have y:E.H[id]? = some (.a7 l ks.length (gC K ks rZ) cl):=by rw[hH]; exact bt M
 have ho:=d.heap.obj id _ y;simp only[aY]at ho;obtain⟨b,n,ms,g1,g2,O,hh,k1,k2⟩:=ho;obtain⟨h1,U⟩:=aI.Gc (o':=.map (dN K (.one (.list ks)) rZ) cl) d.heap y rfl rfl rfl fun N=>by
  simp only[aY];refine⟨b,n,ms,g1,g2,?_⟩;rw[eW]at O|-;obtain⟨q1,q2⟩:=O;refine⟨by simpa[dN,df,gC]using q1,fun i x e q he=>?_⟩;unfold dN at q;rw[bW]at q;obtain⟨r,k,rfl⟩:=eM.1 q;have V:=vH (K:=K) (ks:=ks) k;have hin:(gi r 3).bV=true:=dK.1 h r (eO k);obtain⟨W,a2,a3,a4,a5⟩:=q2 i _ e (yw V) he;rw[Cf]at W a4;refine⟨bD N _ W,?_,a3,a4,rfl⟩;have hs2:=k2 i _ ((jR r).map (aT ks)) e V (by simp only[jD,hin,cT]) he;show ad _ (.listF ks (jR r)) e.val
  rw[kf];simp only[ad];have hcl:fq ((jR r).map (aT ks)):=by
   intro r k;obtain⟨g,_,rfl⟩:=dw.1 k;exact gJ ks g
  refine⟨hcl,?_⟩;rcases hs2 with⟨s1,aN,s2⟩|⟨bb,mm,s1,s2,s3,s4,s5,s6⟩
  ·rw [s1]
   exact⟨aN,0,s2,aQ _,.inl rfl⟩
  ·refine ⟨_, mm, s2, s4, .inr ⟨bb, 0, rfl, ⟨(d.heap.cQ _ _ _ _ s1).1, ?_, (d.heap.cQ _ _ _ _ s1).2⟩, gy (fun a _ k => bD N a k) rfl s6⟩⟩
   rintro(⟨j,c',v⟩|⟨l',k',c',v⟩)
   ·exact d.heap.dm _ _ _ _ _ _ v s1
   ·obtain ⟨j1, j2⟩ := jN v
    exact j2 (d.heap.fM _ _ _ _ _ _ _ j1 s1).1
 have I:az (s.H.set id (.map K (.one (.list ks)) rZ cl))=E.H.set id (.map (dN K (.one (.list ks)) rZ) cl):=by rw[cR,hH]; rfl
 refine⟨E.ae,E.X.re (iR E.X.r l),?_,?_⟩
 ·simp only [aF.ao]
  rw[I];exact⟨rfl,en U _ d.fr,d.defers,h1⟩
 ·simp only [aF.ao]
  rw[I];exact U.toM
theorem YJ{m:Nat}{ay:Nat}{s:aF}(h:(C0 ay s).1=true):bF m s.ao (C0 ay s).2.ao:=by
 unfold C0 at h|-;split
 case h_2=>exact bF.refl _
 rename_i id hsl;split
 case h_2=>exact bF.refl _
 rename_i l K ks rZ cl U;simp only[hsl,U]at h;intro E a d;have hH:E.H=az s.H:=d.H;have M:E.H[id]? = some (.a7 l ks.length (gC K ks rZ) cl):=by rw[hH]; exact bt U
 have ho:=d.heap.obj id _ M;simp only[aY]at ho;obtain⟨b,n,ms,g1,g2,V,hh,k1,k2⟩:=ho;obtain⟨h1,W⟩:=aI.Gc (o':=.map (dN K (.one (.list ks)) rZ) cl) d.heap M rfl rfl rfl fun q=>by
  simp only[aY];refine⟨b,n,ms,g1,g2,?_⟩;rw[eW]at V|-;obtain⟨q1,q2⟩:=V;refine⟨by simpa[dN,df,gC]using q1,fun i x e y he=>?_⟩;unfold dN at y;rw[bW]at y;obtain⟨r,k,rfl⟩:=eM.1 y;have hp:=vH (K:=K) (ks:=ks) k;have N:((gi r 3).bV||(gi r 4).bV)=true:=dK.1 h r (eO k);obtain⟨a1,a2,a3,a4,a5⟩:=q2 i _ e (yw hp) he;rw[Cf]at a1 a4;refine⟨bD q _ a1,?_,a3,a4,rfl⟩;cases v:(gi r 3).bV with
  | false =>
   rw[v,Bool.false_or]at N;have ev:(gY (jD K ks r).1).2=.listF ks (jR r):=by simp only[jD,v,N]; rfl
   rw[ev]at a2;exact bD q _ a2
  |true =>
  have hs2:=k2 i _ ((jR r).map (aT ks)) e hp (by simp only[jD,v,cT]) he;show ad _ (.listF ks (jR r)) e.val
  rw[kf];simp only[ad];have hcl:fq ((jR r).map (aT ks)):=by
   intro r k;obtain⟨g,_,rfl⟩:=dw.1 k;exact gJ ks g
  refine⟨hcl,?_⟩;rcases hs2 with⟨s1,aN,s2⟩|⟨bb,mm,s1,s2,s3,s4,s5,s6⟩
  ·rw [s1]
   exact⟨aN,0,s2,aQ _,.inl rfl⟩
  ·refine ⟨_, mm, s2, s4, .inr ⟨bb, 0, rfl, ⟨(d.heap.cQ _ _ _ _ s1).1, ?_, (d.heap.cQ _ _ _ _ s1).2⟩, gy (fun a _ k => bD q a k) rfl s6⟩⟩
   rintro(⟨j,c',I⟩|⟨l',k',c',I⟩)
   ·exact d.heap.dm _ _ _ _ _ _ I s1
   ·obtain ⟨j1, j2⟩ := jN I
    exact j2 (d.heap.fM _ _ _ _ _ _ _ j1 s1).1
 have O:az (s.H.set id (.map K (.one (.list ks)) rZ cl))=E.H.set id (.map (dN K (.one (.list ks)) rZ) cl):=by rw[cR,hH]; rfl
 refine⟨E.ae,E.X.re (iR E.X.r l),?_,?_⟩
 ·simp only [aF.ao]
  rw[O];exact⟨rfl,en W _ d.fr,d.defers,h1⟩
 ·simp only [aF.ao]
  rw[O];exact W.toM
theorem YK{m:Nat}{ay l:Nat}{s:aF}(h:(CZ ay l s).1=true):bF m s.ao (CZ ay l s).2.ao:=by
 unfold CZ at h|-;split
 case h_2=>exact bF.refl _
 rename_i id I;split
 case h_2=>exact bF.refl _
 rename_i K ks rZ cl k;simp only[I,k]at h;intro E a d;have hH:E.H=az s.H:=d.H;have y:E.H[id]? = some (.map (dN K (.one (.list ks)) rZ) cl):=by rw[hH]; exact bt k
 obtain⟨h1,q⟩:=Vm (w:=ks.length) (es:=gC K ks (rZ.map CY)) d.heap y (by
  simp only[df,gC,dN,List.map_map];rfl) (fun x v=>by
  unfold gC at v;obtain⟨r,M,rfl⟩:=dw.1 v;obtain⟨r0,_,rfl⟩:=dw.1 M;rfl) (by rw[hH]; exact h)
 have g:az (s.H.set id (.a7 l K ks (rZ.map CY) cl))=E.H.set id (.a7 l ks.length (gC K ks (rZ.map CY)) cl):=by rw[cR,hH]; rfl
 refine⟨E.ae,E.X,?_,?_⟩
 ·simp only [aF.ao]
  rw[g];exact⟨rfl,en q _ d.fr,d.defers,h1⟩
 ·simp only [aF.ao]
  rw[g];exact q.toM
theorem YL{m:Nat}(h:Hint)(s:aF)(hb:(C8 h s).1=true):bF m s.ao (C8 h s).2.ao:=by
 cases h with
 |freeze i=>exact Yt hb
 | NS i ks =>
  simp only[C8];split
  ·rename_i h; exact M1 h
  ·exact bF.refl _
 |NT i c ks=>exact Yu
 |HS i=>exact Yx hb
 |NU i c=>exact Yv hb
 |hole ks=>exact Yy
 |CR=>exact Yz
 |a7 i l=>exact YA hb
 |HT i=>exact YI hb
 |NV i l=>exact YK hb
 |NW i=>exact YJ hb
 |mm i l d g=>exact YB hb
 |CS i c l d g=>exact YC hb
 |forget i=>exact YE
 |CT i c ks=>exact Yw
 |cM i l=>exact YF hb
 |bH i l=>exact YG hb
 |HU i=>exact YH hb
theorem NX{m:Nat}:∀(d:List Hint) (s:aF),(zB d s).1=true->bF m s.ao (zB d s).2.ao
 | [],s,_=>bF.refl _
 | h::d,s,hb=>by
  simp only[zB]at hb|-;simp only[aL]at hb;exact(YL h s hb.1).trans (NX d _ hb.2)
def NY:List (Nat × List Hint)->Nat->List Hint
 | [],_=>[]
 | (i,d)::l,id=>match ar id i with
  |true=>d
  |false=>NY l id
def LT.tQ(L:LT)(d:List (Nat × List Hint)):LT:=⟨L.loops,fun id s=>zB (NY d id) s,L.zd⟩
theorem qk{P:aj}{m:Nat}{c:Code}(d:List (Nat × List Hint)):aZ P m (bJ.tQ d) c:=⟨fun _ _ _ _ _ h=>(nomatch h),fun id s hb=>NX _ s hb,fun _ _ _ _ _ h=>(nomatch h)⟩
end Go.AL

namespace Go.AL
open Go
variable [Dr]
theorem YM{E:af}{ks:List Kd}{c:al}(h:ad E (.listF ks []) c):ad E (.emptyS true) c\/ad E (.emptyS false) c:=by
 simp only[ad,fk,G.rZ,List.length_nil]at h;obtain⟨aN,cap,rfl,_,_⟩:=h;cases aN with
 |none=>exact .inl (by simp only[ad]; exact⟨_,_,rfl,rfl⟩)
 |some p=>exact .inr (by simp only[ad]; exact⟨_,_,rfl,rfl⟩)
theorem YN{P:aj}{f:bO}{ks:List Kd}{H H':List ai}{v:AV}(h1:fN P f [.emptyS true] H v H')(q:fN P f [.emptyS false] H v H'):fN P f [.listF ks []] H v H':=by
 intro E g hH HE d
 match k:g.toList,d with
 | [],d=>simp[aw]at d
 | c::cs,d =>
  simp only[aw]at d;rcases YM d.1 with h|h
  ·exact h1 E g hH HE (by rw[k]; simp only[aw]; exact⟨h,d.2⟩)
  ·exact q E g hH HE (by rw[k]; simp only[aw]; exact⟨h,d.2⟩)
end Go.AL

namespace Go.AL
open Go Go.ChangeMaps
variable [Dr]
theorem dS.oq{s:St}{E:af}{a:Act}(d:dS s E a)(t:Tmp){v:AV}{u:al}(g:ad E v u):dS (s.put (some t) v s.H) E (a.put (some t) u) :=
 ⟨d.H,Ly d.fr (af.le.refl E) (some t) g,by rw[put_defers]; exact d.defers,d.heap⟩
theorem zC{m:Nat}{E E':af}(h:E.gB m E'):E.bT E' :=
 ⟨fun b hb=>⟨⟨Nat.lt_of_lt_of_le hb.1 h.size,h.ab b hb.1 hb.2.1,fun d=>hb.2.2 ((h.X b hb.1).1.1 d)⟩,h.same b hb.1 hb.2.1⟩⟩
theorem wg{P:aj}{ah:Array aR}{Q:Exit->Act->ba->Prop}{i:Nat}{o:aR}{K:Act->ba->Prop}{a:Act}{w w':ba}{u:al}
  (hi:ah[i]? = some o) (g:o.guard=none) (h:(execOp a.eval o).run P w=.ok (.value u) w') (d:∀ c,o.op≠.defer c) (k:Option Nat) (q:K (a.put o.dst u) w'):wpOpIn (fz k) 0 P ah Q i K a w:=by
 unfold wpOpIn;simp only[hi];rw[iP (by simp[Region.wanted,g])];unfold Oper.wpIn;rw[Oper.semAt_eq _ _ _ d,h];exact⟨fun _ _=>trivial,q⟩
theorem NZ{P:aj}{pf:bO->Bool}{ah:Array aR}{Q:Exit->Act->ba->Prop}(g:Option Nat):∀(l:List aR) (k:Nat) (s s':St) (E:af) (a:Act) (d:List Nat),
  (∀(j:Nat) (o:aR),l[j]? = some o->ah[k+j]? = some o)->kR P pf ah l s s'->dS s E a->(∀ q w',gA E s' q w'->wpOpsIn (fz g) 0 P ah Q d q w')->wpOpsIn (fz g) 0 P ah Q (Fc k l.length++d) a E.w
 | [],k,s,s',E,a,d,_,h,y,I=>by
  simp only[kR]at h;subst h;exact I _ _ (gA.refl y)
 | o::l,k,s,s',E,a,d,M,h,y,I=>by
  obtain⟨v,H',V,N⟩:=h;simp only[cd,JL,l7];rw[wpOpsIn_cons];refine Gt y (by simpa using M 0 o rfl) V (fun q w' W=>?_) g;obtain⟨O,r',h1,h2⟩:=W;refine NZ g l (k+1) _ s' { w:=w',H:=H',ae:=O,X:=E.X.re r' } q d (fun j x hx=>?_) N h1 (fun a2 w2 U=>I a2 w2 (gA.after h2 U));have:=M (j+1) x (by simpa using hx)
  rwa [show k+1+j=k+(j+1) from by omega]
theorem C9{a:Act}{t:Tmp}{u:al}(h:t<a.tmps.size):(a.put (some t) u).eval (.tmp t)=u:=by
 simp[Act.eval,JY,h]
def bg.rJ:bg->Option (cD × aF)
 |.fail=>none
 |.done x s=>some (x,s)
 | .ask b t e=>match b with
  |true=>t.rJ
  |false=>e.rJ
 | .side b t=>match b with
  |true=>t.rJ
  |false=>none
theorem C_:∀{t:bg} {x:cD} {s:aF},t.rJ=some (x,s)->t.holds fun d s'=>d=x/\s'=s
 |.fail,_,_,h=>by cases h
 | .done _ _,_,_,h=>by
  cases h;exact⟨rfl,rfl⟩
 | .ask b t e,_,_,h=>by
  cases b with
  |true=>exact⟨fun _=>C_ (t:=t) h,fun h=>(nomatch h)⟩
  |false=>exact⟨fun h=>(nomatch h),fun _=>C_ (t:=e) h⟩
 | .side b t,_,_,h=>by
  cases b with
  |true=>exact⟨rfl,C_ (t:=t) h⟩
  |false=>cases h
def f_(st:LG->LG->Option LG)(cJ:LG->Nat):LL->LG->Option LG
 | [],d=>some d
 | r::rs,d=>match st r d with
  |some g=>bif ar (cJ g) (cJ d) then f_ st cJ rs g else none
  |none=>none
theorem HY{st:LG->LG->Option LG}{cJ:LG->Nat}:∀(p q:LL) (d:LG),f_ st cJ (p++q) d=(f_ st cJ p d).bind (f_ st cJ q)
 | [],_,_=>rfl
 | r::p,q,d=>by
  simp only[l7,f_];cases st r d with
  |none=>rfl
  | some g =>
   simp only[];cases ar (cJ g) (cJ d)with
   |false=>rfl
   |true=>exact HY p q g
def fy(r:LG):Nat:=(gi r 2).iV.toNat
theorem N0{f:LG->Nat}{r:LG}:∀{l:LL} {seen:Array Nat},(l.map f).Nodup->r∈l->seen.contains (f r)=false ->
  (l.filter fun x => !seen.contains (f x)).Perm (r::l.filter fun x => !(seen.push (f r)).contains (f x))
 | [],_,_,h,_=>by cases h
 | x::l,seen,d,hm,g=>by
  obtain⟨k,d⟩:=pL.1 d;rcases cq.1 hm with rfl|hm
  ·have e:(l.filter fun x => !(seen.push (f r)).contains (f x))=l.filter fun x => !seen.contains (f x):=by
    apply List.filter_congr;intro y I;have:(f y==f r)=false:=by
     rw[beq_eq_false_iff_ne];intro e;exact k (e▸dw.2 ⟨y,I,rfl⟩)
    rw[contains_push,this,oL]
   rw[List.filter_cons_of_pos (by rw[g]; rfl),List.filter_cons_of_neg (by rw[contains_push]; simp),e]
  ·have v:(f x==f r)=false:=by
    rw[beq_eq_false_iff_ne];intro e;exact k (e▸dw.2 ⟨r,hm,rfl⟩)
   have q:=N0 d hm g;simp only[List.filter_cons,contains_push seen (f r) (f x),v,oL];cases seen.contains (f x)with
   |true=>simpa using q
   | false =>
    simp only[Bool.not_false,if_true];exact(List.Perm.cons x q).trans (List.Perm.swap r x _)
structure jS where
 inv:qe
 ps:List mv
 opens:List (Nat × List Kd)
 K:Ct
 V:Ct
 id:Nat
 x:Tmp
 y:Tmp
 it:Tmp
 t1:Tmp
 t2:Tmp
 t3:Tmp
 cJ:LG->Nat
 init:LG->Nat->LG
 side:LG->Nat->Bool
 st:LG->LG->Option LG
def jS.rs(sp:jS)(r d:LG):aF:=⟨(ch sp.inv d).fr.set sp.t3 (.tuple [sp.K.av (gi r 0).rV,sp.V.av (gi r 1).rV]),(ch sp.inv d).H⟩
def jS.s2(sp:jS)(s:aF)(b:Nat):aF:=⟨s.fr.set sp.it (.lit (.pointer (some ⟨b,0,none⟩))),s.H.set sp.id (.raw .dead)⟩
def C'(m:Nat)(inv:qe)(ps:List mv)(x:cD)(s:aF):Option (Bool × LG) :=
 match x with
 |.normal=>nl m inv ps s
 |_=>none
structure zD (P:aj) (sp:jS) (dU fG dP:Array aR):Prop where
 r0:∃ o2 ty,dU.toList=dU.toList.dropLast++[o2]/\o2.guard=none/\o2.op=.range ty (.tmp sp.y)/\o2.dst=some sp.it/\(dL P ty).isSome=true
 r1:∃ o1 o2,fG.toList=[o1,o2]/\o1.guard=none/\o1.op=.next (.tmp sp.it) false/\o1.dst=some sp.t1/\o2.guard=none/\o2.op=.extract (.tmp sp.t1) 0/\o2.dst=some sp.t2
 r2:∃ o1 l,dP.toList=o1::l/\o1.guard=none/\o1.op=.entry (.tmp sp.it)/\o1.dst=some sp.t3
def rK(r0 d r1 g r2:Nat)(dU fG dP:Array aR)(t2:Tmp)(body:Code):Code :=
 .seq (.region r0 dU false) (.block d (.loop (.seq (.region r1 fG false) (.seq (.cond (.tmp t2) .skip (.exit d)) (.block g (.seq (.region r2 dP false) body))))))
theorem YO{d:Option Nat}{r0 g r1 k r2:Nat}{dU fG dP:Array aR}{t2:Tmp}{body:Code}(h:ib d (rK r0 g r1 k r2 dU fG dP t2 body)):ib d body:=h.imp id fun h=>by
 simpa[rK,jP]using h
section range
variable {P:aj} {τ:aH} {L:LT} {m:Nat} {sp:jS} {dU fG dP:Array aR} {body:Code}
def tR(P:aj)(τ:aH)(L:LT)(m:Nat)(sp:jS)(dP:Array aR)(body:Code):Prop :=
 ∀ r d,(rk P τ dP (dP.toList.drop 1) (sp.rs r d) (fun s=>ig P τ L body s .done)).leaf (C' m sp.inv sp.ps)=sp.st r d
theorem YP(hm:P.follows .mixedOrders=true)(v:aJ P τ)(y:aZ P m L body)(I:tR P τ L m sp dP body){r d q:LG}(h:sp.st r d=some q) :
  ∃ k:aF,kR P τ.pf dP (dP.toList.drop 1) (sp.rs r d).ao k.ao/\dX P m body k.ao .normal (ch sp.inv q).ao:=by
 rw[<-I r d]at h;obtain⟨k,h1,M⟩:=Cu v (Q:=fun x s=>C' m sp.inv sp.ps x s=some (true,q)) (rA h);obtain⟨x,N,O,g⟩:=nf hm v body k .done y M;have g:C' m sp.inv sp.ps x N=some (true,q):=g;unfold C' at g;split at g
 ·exact⟨k,h1,vn O (qf g)⟩
 ·cases g
def HZ(P:aj)(τ:aH)(m:Nat)(sp:jS)(dP:Array aR)(body:Code)(k:Nat):Prop:=∀ r d g,sp.st r d=some g ->
 ∃(h:aF) (x:cD),(x=.normal\/x=.exit k)/\kR P τ.pf dP (dP.toList.drop 1) (sp.rs r d).ao h.ao/\dX P m body h.ao x (ch sp.inv g).ao
theorem YQ(hm:P.follows .mixedOrders=true)(g:aJ P τ)(k:aZ P m L body)(q:tR P τ L m sp dP body)(v:Nat):HZ P τ m sp dP body v:=fun r d M h=>by
 obtain⟨y,h1,I⟩:=YP hm g k q h;exact⟨y,.normal,.inl rfl,h1,I⟩
def N1(m:Nat)(sp:jS)(E:af)(rZ:LL)(y:LG)(h k g:Nat)(v:Array MapEntry)(a:Act)(w:ba):Prop :=
 ∃(d:LG) (ae:List (Option (Nat × Nat))) (X:XS) (seen:Array Nat) (q:Nat) (p:LL),
  f_ sp.st sp.cJ p y=some d/\sp.cJ d=h/\(p++rZ.filter fun x => !seen.contains (fy x)).Perm rZ /\
  dS (ch sp.inv d).ao { w:=w,H:=(ch sp.inv d).ao.H,ae:=ae,X:=X } a/\E.gB m { w:=w,H:=(ch sp.inv d).ao.H,ae:=ae,X:=X }/\X h /\
  w.heap[h]? = some (.mapIter (some k) g seen q)/\g<=q/\w.heap[k]? = some (.map v g) /\
  ¬ af.ab { w:=w,H:=(ch sp.inv d).ao.H,ae:=ae,X:=X } k/\bI { w:=w,H:=(ch sp.inv d).ao.H,ae:=ae,X:=X } (dN sp.K sp.V rZ) v.toList
theorem dS.Da{s:St}{E:af}{a:Act}(d:dS s E a){t:Tmp}(g:s.fr[t]? = some .undef)(u:al):dS s E (a.put (some t) u):=by
 have h:=d.oq t (v:=.undef) (u:=u) (by simp[ad]);have e:s.put (some t) .undef s.H=s:=by
  simp only[St.put,ml,oV g]
 rwa [e]at h
theorem N2{s:St}{E:af}{a:Act}(g:dS s E a){t:Tmp}{v:AV}(h:s.fr[t]? = some v):t<a.tmps.size:=by
 have h1:s.fr.length=a.tmps.size:=by simpa using(pO.1 g.fr).1
 have d:t<s.fr.length:=aV h;rw[h1]at d;exact d
theorem N3{o:aR}{t:Tmp}{a:Act}{w:ba}{cs:Array al}{u:al}(d:o.op=.extract (.tmp t) 0)(g:a.eval (.tmp t)=.tuple cs)(h:cs[0]? = some u) :
  (execOp a.eval o).run P w=.ok (.value u) w:=by
 obtain⟨dst,op,k,pos,after,guard⟩:=o;subst d;exact mT (by simp[Instr.extract,g,h])
theorem N4{o:aR}{t:Tmp}{a:Act}{w w':ba}{x u:al}(d:o.op=.next (.tmp t) false)(g:a.eval (.tmp t)=x)(h:(Instr.next x false o.type).run P w=.ok u w') :
  (execOp a.eval o).run P w=.ok (.value u) w':=by
 obtain⟨dst,op,k,pos,after,guard⟩:=o;subst d;subst g;exact mT h
theorem YR{o:aR}{t:Tmp}{a:Act}{w w':ba}{x u:al}(d:o.op=.entry (.tmp t))(g:a.eval (.tmp t)=x)(h:(Instr.entry x).run P w=.ok u w') :
  (execOp a.eval o).run P w=.ok (.value u) w':=by
 obtain⟨dst,op,k,pos,after,guard⟩:=o;subst d;subst g;exact mT h
theorem YS{o:aR}{t:Tmp}{ty:TypeId}{a:Act}{w w':ba}{x u:al}(d:o.op=.range ty (.tmp t))(g:a.eval (.tmp t)=x)(h:(Instr.range ty x).run P w=.ok u w') :
  (execOp a.eval o).run P w=.ok (.value u) w':=by
 obtain⟨dst,op,k,pos,after,guard⟩:=o;subst d;subst g;exact mT h
theorem H4{w:ba}{b:Nat}{o:Obj}(h:w.heap[b]? = some o):b<w.heap.size:=(Array.getElem?_eq_some_iff.1 h).1
theorem N5{w:ba}{r:Nat}{a:Option Nat}{b c:Nat}{s:Array Nat}(h:w.heap[r]? = some (.mapIter a b s c)):w.iterSeen r=s:=by
 unfold World.iterSeen;rw[h]
theorem YT(hm:P.follows .mixedOrders=true)(ht:aJ P τ)(hL:aZ P m L body)(ho:zD P sp dU fG dP)
  (hu1:∀ d,(ch sp.inv d).fr[sp.t1]? = some .undef) (hu2:∀ d,(ch sp.inv d).fr[sp.t2]? = some .undef) (hut:∀ d,(ch sp.inv d).fr[sp.it]? = some (.lit (.pointer (some ⟨sp.cJ d,0,none⟩))))
  {E:af} {rZ:LL} {d0:LG} {itb mb clock:Nat} {ms:Array MapEntry} {r1 b0 b1 r2:Nat} (hr:HZ P τ m sp dP body b1)
  (hsz:E.w.heap.size<=itb) (hn:(rZ.map fy).Nodup) (hlt:∀ r∈rZ,fy r<clock) (hne:mb≠itb)
  (hfold:∀ p,p.Perm rZ->(f_ sp.st sp.cJ p d0).isSome=true) {a:Act} {w:ba} (hI:N1 m sp E rZ d0 itb mb clock ms a w) (k:Option Nat) (hro:ib k body) :
  (Code.loop (.seq (.region r1 fG false) (.seq (.cond (.tmp sp.t2) .skip (.exit b0)) (.block b1 (.seq (.region r2 dP false) body))))).wpIn (fz k) 0 P
   (fun e a1 W=>e=.exit b0/\∃ p d,p.Perm rZ/\f_ sp.st sp.cJ p d0=some d/\fv m E (ch sp.inv d).ao a1 W) a w:=by
 obtain⟨o1,o2,e1,g1,p1,q1,g2,p2,q2⟩:=ho.r1;obtain⟨o3,l,e3,g3,p3,q3⟩:=ho.r2;refine wpIn_loop (N1 m sp E rZ d0 itb mb clock ms) (fun _ w=>(leftOf ms (w.iterSeen itb)).size) hI fun a w hI=>?_;obtain⟨d,ae,X,seen,last,p,hf,had,hp,M,y,hXi,hit,hcl,hmb,hown,hre⟩:=hI;have h10:fG[0]? = some o1:=by
  have:fG.toList[0]? = some o1:=by rw[e1]; rfl
  simpa using this
 have h11:fG[1]? = some o2:=by
  have:fG.toList[1]? = some o2:=by rw[e1]; rfl
  simpa using this
 have hsz1:fG.size=2:=by
  have:fG.toList.length=2:=by rw[e1]; rfl
  simpa using this
 have hiv:a.eval (.tmp sp.it)=.pointer (some ⟨itb,0,none⟩):=by
  have h:=M.eval (.tmp sp.it);have e:(ch sp.inv d).ao.eval (.tmp sp.it)=.lit (.pointer (some ⟨sp.cJ d,0,none⟩)):=by
   show (ch sp.inv d).fr.getD sp.it .undef=_
   rw[cu,hut d];rfl
  rw[e]at h;simp only[ad]at h;rw[h,had]
 obtain⟨hlen,hen⟩:=eW.1 hre;have hl1:(dN sp.K sp.V rZ).length=rZ.length:=by simp[dN]
 have row_of:∀(i:Nat) (e:MapEntry),ms.toList[i]? = some e->∃ r,rZ[i]? = some r/\e.born=fy r:=by
  intro i e hi;have h1:=aV hi;have q:i<rZ.length:=by omega
  refine⟨rZ[i],bY q,?_⟩;exact(hen i (sp.K.av (gi rZ[i] 0).rV,sp.V.av (gi rZ[i] 1).rV,(gi rZ[i] 2).iV.toNat) e (by simp[dN,q]) hi).2.2.1
 have hold:∀ x∈ms.toList,x.born<clock:=by
  intro x N;obtain⟨i,hi⟩:=xT N;obtain⟨r,h1,q⟩:=row_of i x hi;rw[q];exact hlt r (eO h1)
 have hbn:(ms.toList.map (·.born)).Nodup:=by
  have:ms.toList.map (·.born)=rZ.map fy:=by
   apply List.ext_getElem?;intro i;simp only[bW];cases hi:ms.toList[i]? with
   | none =>
    have h1:=List.getElem?_eq_none_iff.1 hi;rw[List.getElem?_eq_none (by omega)];rfl
   | some e =>
    obtain⟨r,h1,q⟩:=row_of i e hi;rw[h1];simp[q]
  rw[this];exact hn
 refine wpIn_seq (wpIn_region ?_);rw[hsz1];show wpOpsIn (fz k) 0 P fG _ [0,1] a w
 rw[wpOpsIn_cons];have hlt1:=N2 M (hu1 d);have hlt2:=N2 M (hu2 d);rcases run_next_at (P:=P) w o1.type itb mb clock last seen ms clock hit hmb hold hcl with⟨h0,hrun⟩|⟨e,he,W,hw1,hrun⟩
 ·refine wg h10 g1 (N4 p1 hiv hrun) (fun c e => by rw [p1] at e; cases e) k ?_
  rw[q1,wpOpsIn_cons];refine wg h11 g2 (N3 p2 (C9 hlt1) rfl) (fun c e=>by rw[p2]at e; cases e) k ?_;rw[q2];show (Code.seq _ _).wpIn (fz k) 0 P _ _ w
  refine wpIn_seq (wpIn_cond_false (C9 (by simpa[JY]using hlt2)) (wpIn_exit ?_));refine⟨rfl,p,d,?_,hf,ae,X,?_,y⟩
  ·have:(rZ.filter fun x => !seen.contains (fy x))=[]:=by
    rw[List.filter_eq_nil_iff];intro x N hc;obtain⟨i,hi⟩:=xT N;have h1:=aV hi;have q:i<ms.toList.length:=by omega
    obtain⟨r,h3,h4⟩:=row_of i _ (bY q);rw[hi]at h3;cases h3;have:ms.toList[i]∈(leftOf ms seen).toList:=by
     unfold leftOf;rw[Array.toList_filter];refine sQ.2 ⟨uL q,?_⟩;rw[h4];exact hc
    have h5:(leftOf ms seen).toList.length=0:=by simpa using h0
    rw[List.length_eq_zero_iff.1 h5]at this;cases this
   rwa [this,dJ]at hp
  ·exact(M.Da (hu1 d) (.tuple #[.bool false])).Da (hu2 d) (.bool false)
 ·refine wg h10 g1 (N4 p1 hiv hrun) (fun c e => by rw [p1] at e; cases e) k ?_
  rw[q1,wpOpsIn_cons];refine wg h11 g2 (N3 p2 (C9 hlt1) rfl) (fun c e=>by rw[p2]at e; cases e) k ?_;rw[q2];show (Code.seq _ _).wpIn (fz k) 0 P _ _ _
  refine wpIn_seq (wpIn_cond_true (C9 (by simpa[JY]using hlt2)) (wpIn_skip ?_));show (Code.block _ _).wpIn (fz k) 0 P _ _ _
  refine wpIn_block (wpIn_seq (wpIn_region ?_));generalize hw2:setBlock W itb (.mapIter (some mb) clock (seen.push e.born) clock)=g;have hw1h:W.heap=w.heap:=by rcases hw1 with rfl|rfl<;>rfl
  have hos:ft w g:=by rw[<-hw2]; rcases hw1 with rfl|rfl<;>exact⟨rfl,rfl,rfl,by first|exact fun _=>aQ _|exact fun _=>gX _ _⟩
  have hit2':g.heap[itb]? = some (.mapIter (some mb) clock (seen.push e.born) clock):=by
   rw[<-hw2];exact(akr (by rw[hw1h]; exact hit)).1
  have hother:∀ b,b≠itb->g.heap[b]? = w.heap[b]? := by
   intro b hb;rw[<-hw2];show (W.heap.setIfInBounds itb _)[b]? = _
   rw[(akr (by rw[hw1h]; exact hit)).2 b hb,hw1h]
  have hsize:g.heap.size=w.heap.size:=by
   rw[<-hw2];show (W.heap.setIfInBounds itb _).size=_
   simp[hw1h]
  have hmb2:g.heap[mb]? = some (.map ms clock):=by rw[hother mb hne]; exact hmb
  have jl:mV { w:=w,H:=(ch sp.inv d).ao.H,ae:=ae,X:=X } { w:=g,H:=(ch sp.inv d).ao.H,ae:=ae,X:=X } :=
   ⟨rfl,rfl,by show w.heap.size<=g.heap.size; omega,fun b hb N=>⟨N,hother b (fun e=>N (by rw[e]; exact hXi))⟩,fun b hb=>by show b<g.heap.size; rw[hsize]; exact M.heap.X b hb,rfl⟩
  have hmk:oO g X a.defers:=⟨M.defers.1,fun dd hdd=>by
   obtain⟨D,e,h1,q,h3⟩:=M.defers.2 dd hdd;exact⟨D,e,by rw[hother D (fun e=>by rw[e]at h1; rw[hit]at h1; cases h1)]; exact h1,q,h3⟩⟩
  have hs1:=((M.jl jl hmk).Da (hu1 d) (.tuple #[.bool true,e.key,e.val])).Da (hu2 d) (.bool true);obtain⟨hem,hes⟩:=mem_left he;obtain⟨i,hi⟩:=xT hem;obtain⟨r,hri,hrb⟩:=row_of i e hi;have hrm:=eO hri;have hre2:=kr jl.toC hre;obtain⟨k1,k2,_⟩:=(eW.1 hre2).2 i (sp.K.av (gi r 0).rV,sp.V.av (gi r 1).rV,(gi r 2).iV.toNat) e (by simp[dN,hri]) hi;have hiv1:((a.put (some sp.t1) (.tuple #[.bool true,e.key,e.val])).put (some sp.t2) (.bool true)).eval (.tmp sp.it)=.pointer (some ⟨itb,0,none⟩):=by
   have h:=hs1.eval (.tmp sp.it);have e:(ch sp.inv d).ao.eval (.tmp sp.it)=.lit (.pointer (some ⟨sp.cJ d,0,none⟩)):=by
    show (ch sp.inv d).fr.getD sp.it .undef=_
    rw[cu,hut d];rfl
   rw[e]at h;simp only[ad]at h;rw[h,had]
  have h20:dP[0]? = some o3:=by
   have:dP.toList[0]? = some o3:=by rw[e3]; rfl
   simpa using this
  have hl2:dP.toList.drop 1=l:=by rw[e3]; rfl
  have hsz2:dP.size=l.length+1:=by
   have:dP.toList.length=l.length+1:=by rw[e3]; rfl
   simpa using this
  have hlp:(p++(r::rZ.filter fun x => !(seen.push (fy r)).contains (fy x))).Perm rZ :=
   (List.Perm.append_left p (N0 hn hrm (by rw[<-hrb]; exact hes)).symm).trans hp
  have O:∃ I,sp.st r d=some I/\sp.cJ I=sp.cJ d:=by
   have h:=hfold _ hlp;rw[HY,hf]at h;simp only[aks,f_]at h;cases O:sp.st r d with
   |none=>rw[O]at h; cases h
   | some I =>
    rw[O]at h;simp only[]at h;cases hb:ar (sp.cJ I) (sp.cJ d)with
    |true=>exact⟨I,rfl,bx hb⟩
    |false=>rw[hb]at h; cases h
  obtain⟨I,O,had'⟩:=O;have hf':f_ sp.st sp.cJ (p++[r]) d0=some I:=by
   rw[HY,hf];simp only[aks,f_,O,had'];simp
  obtain⟨s4,xe,hxe,ha4,hsat⟩:=hr r d I O;rw[hsz2,T6,JL,wpOpsIn_cons];refine wg h20 g3 (YR p3 hiv1 (run_entry_at (P:=P) g itb mb clock seen ms clock e hit2' hmb2 hem hbn)) (fun c e=>by rw[p3]at e; cases e) k ?_;rw[q3];have hs3:=hs1.oq sp.t3 (v:=.tuple [sp.K.av (gi r 0).rV,sp.V.av (gi r 1).rV]) (u:=.tuple #[e.key,e.val]) (by simp only[ad]; exact⟨_,rfl,by simp only[aw]; exact⟨k1,k2,trivial⟩⟩);refine Gu (pf:=τ.pf) (ah:=dP) l (0+1) (sp.rs r d).ao s4.ao { w:=g,H:=(ch sp.inv d).ao.H,ae:=ae,X:=X } _ (by rw[<-hl2]) (by rw[hl2]at ha4; exact ha4) hs3 (fun a3 w3 hc3=>?_) k;obtain⟨loc3,r3,hs4,hle3⟩:=hc3;show body.wpIn (fz k) 0 P _ a3 w3
  refine wpIn_mono (hsat k hro { w:=w3,H:=s4.ao.H,ae:=loc3,X:=X.re r3 } a3 hs4) fun x a4 w4 N=>?_;obtain⟨rfl,loc4,X4,hs5,hle4⟩:=N;have key:∀{R:Exit->Act->ba->Prop},R .normal a4 w4->T7 b1 R xe.toExit a4 w4:=fun h=>by
   rcases hxe with rfl|rfl
   ·exact h
   ·show (if b1 = b1 then _ else _)
    rw[iP rfl];exact h
  refine key ?_;have U:({ w:=g,H:=(ch sp.inv d).ao.H,ae:=ae,X:=X }:af).gB m { w:=w4,H:=(ch sp.inv I).ao.H,ae:=loc4,X:=X4 }:=hle3.toM.trans hle4;have hXsz:itb<g.heap.size:=H4 hit2';have hnown:¬ af.ab { w:=g,H:=(ch sp.inv d).ao.H,ae:=ae,X:=X } itb:=by
   exact(M.heap.jl jl).FB hXi
  have hmbsz:mb<g.heap.size:=H4 hmb2;have hit4:w4.heap[itb]? = some (.mapIter (some mb) clock (seen.push e.born) clock):=by rw[U.same itb hXsz hnown]; exact hit2'
  refine⟨⟨I,loc4,X4,seen.push e.born,clock,p++[r],hf',by rw[had',had],?_,hs5,?_,(U.X itb hXsz).1.2 hXi,hit4,aQ _,?_,?_,?_⟩,?_⟩
  ·rw [hrb, gG]
   exact hlp
  ·refine af.gB.trans (E' := { w := g, H := (ch sp.inv d).ao.H, ae := ae, X := X }) ⟨y.bu, ?_, ?_, y.ab, y.live, y.X, y.rl, y.env.trans hos, y.grow⟩ U
   ·have := y.size
    show E.w.heap.size<=g.heap.size
    rw[hsize];exact this
   ·intro b hb hbo
    show g.heap[b]? = _
    rw[hother b (by omega)];exact y.same b hb hbo
  ·rw [U.same mb hmbsz hown]
   exact hmb2
  ·exact U.ab mb hmbsz hown
  ·exact kr (zC U) hre2
  ·show (leftOf ms (w4.iterSeen itb)).size < (leftOf ms (w.iterSeen itb)).size
   rw[N5 hit4,N5 hit];exact left_shrinks ms seen e he
theorem YU(hm:P.follows .mixedOrders=true)(ht:aJ P τ)(hL:aZ P m L body)(ho:zD P sp dU fG dP)
  (hu1:∀ d,(ch sp.inv d).fr[sp.t1]? = some .undef) (hu2:∀ d,(ch sp.inv d).fr[sp.t2]? = some .undef) (hut:∀ d,(ch sp.inv d).fr[sp.it]? = some (.lit (.pointer (some ⟨sp.cJ d,0,none⟩))))
  {r1 b0 b1 r2:Nat} (hr:HZ P τ m sp dP body b1)
  {s:aF} {d:LG} {rZ:LL} {I:Nat} (hx:s.eval (.tmp sp.y)=.map sp.id) (hid:s.H[sp.id]? = some (.map sp.K sp.V rZ I)) (hn:(rZ.map fy).Nodup)
  (hlt:∀ r∈rZ,fy r<I) (hin:∀ b,nl m sp.inv sp.ps (lL sp.opens (sp.s2 s b))=some (true,sp.init d b)) (hadr:∀ b,sp.cJ (sp.init d b)=b)
  (hfold:∀ b p,p.Perm rZ->(f_ sp.st sp.cJ p (sp.init d b)).isSome=true) (E:af) (a:Act) (q:dS s.ao E a) (U:Option Nat) (hro:ib U body) {Q:Exit->Act->ba->Prop}
  (hQ:∀ a1 w1,(∃ b p d',p.Perm rZ/\f_ sp.st sp.cJ p (sp.init d b)=some d'/\fv m E (ch sp.inv d').ao a1 w1)->Q .normal a1 w1) :
  wpOpsIn (fz U) 0 P dU (Exit.then ((Code.block b0 (.loop (.seq (.region r1 fG false) (.seq (.cond (.tmp sp.t2) .skip (.exit b0)) (.block b1 (.seq (.region r2 dP false) body)))))).wpIn (fz U) 0 P Q) Q) [dU.toList.dropLast.length] a E.w:=by
 obtain⟨o2,ty,e1,g2,p2,q2,hty⟩:=ho.r0;have h11:dU[dU.toList.dropLast.length]? = some o2:=by
  have:dU.toList[dU.toList.dropLast.length]? = some o2:=by
   rw[e1];simp
  simpa using this
 have hid':E.H[sp.id]? = some (.map (dN sp.K sp.V rZ) I):=by
  rw[q.H];exact bt hid
 have hrx:ad E (.map sp.id) (a.eval (.tmp sp.y)):=by
  have:=q.eval (.tmp sp.y)
  rwa [aF.oZ,hx]at this
 obtain⟨M,n,ms,hc,hloc,hmb,hre⟩:=vd q.heap hid' hrx;obtain⟨⟨kt,et⟩,hty⟩:=Option.isSome_iff_exists.1 hty;have hmbs:M<E.w.heap.size:=H4 hmb;rw[wpOpsIn_cons];refine wg h11 g2 (YS p2 hc (run_range_map E.w ty kt et M ms I (gl hty) hmb)) (fun c e=>by rw[p2]at e; cases e) U ?_;rw[q2];show (Code.block _ _).wpIn (fz U) 0 P _ _ _
 generalize hw2:E.w.alloc (.mapIter (some M) I #[] I)=g;have hsize:g.heap.size=E.w.heap.size+1:=by rw[<-hw2]; show (E.w.heap.push _).size=_; simp
 have hold:∀ b,b<E.w.heap.size->g.heap[b]? = E.w.heap[b]? := fun b hb=>by rw[<-hw2]; exact(show (E.w.heap.push _)[b]? = _ by rw[Array.getElem?_push,iN (by omega)])
 have hitn:g.heap[E.w.heap.size]? = some (.mapIter (some M) I #[] I):=by rw[<-hw2]; exact(show (E.w.heap.push _)[E.w.heap.size]? = _ by simp)
 have hos:ft E.w g:=by rw[<-hw2]; exact⟨rfl,rfl,rfl,by first|exact fun _=>aQ _|exact fun _=>gX _ _⟩
 have hd:=af.yc q.heap sp.id;have hs2:dS ⟨s.fr,az (s.H.set sp.id (.raw .dead))⟩ { w:=E.w,H:=E.H.set sp.id .dead,ae:=E.ae.set sp.id none,X:=E.X } a:=by
  refine⟨?_,en hd _ q.fr,q.defers,aI.drop q.heap sp.id fun o ho=>by rw[hid']at ho; cases ho; rfl⟩;rw[cR,show E.H=az s.H from q.H];rfl
 have jl:mV { w:=E.w,H:=E.H.set sp.id .dead,ae:=E.ae.set sp.id none,X:=E.X } { w:=g,H:=E.H.set sp.id .dead,ae:=E.ae.set sp.id none,X:=E.X.or fun b=>b=E.w.heap.size } :=
  ⟨rfl, rfl, by show E.w.heap.size <= g.heap.size; omega, fun b hb hx => ⟨fun h => h.elim hx (fun e => absurd hb (by rw [e]; exact Bp _)), hold b hb⟩, fun b hb => by
   show b<g.heap.size
   rcases hb with hb|hb
   ·have := q.heap.X b hb
    omega
   ·omega,rfl⟩
 have hs3:=(hs2.jl jl (Kp (X':=E.X.or fun b=>b=E.w.heap.size) (w':=g) hs2.defers (fun _ h1 W=>⟨.inl h1,W⟩) fun b h1 _=>hold b (q.heap.X b h1))).oq sp.it (v:=.lit (.pointer (some ⟨E.w.heap.size,0,none⟩))) (u:=.pointer (some ⟨E.w.heap.size,0,none⟩)) (by simp only[ad]);have hs3':dS (sp.s2 s E.w.heap.size).ao { w:=g,H:=E.H.set sp.id .dead,ae:=E.ae.set sp.id none,X:=E.X.or fun b=>b=E.w.heap.size } _:=hs3;obtain⟨ae,X4,hs4,O⟩:=((qg sp.opens _).trans (qf (hin E.w.heap.size))) _ _ hs3';have hmbn:¬ af.ab { w:=g,H:=E.H.set sp.id .dead,ae:=E.ae.set sp.id none,X:=E.X.or fun b=>b=E.w.heap.size } M:=by
  rintro(⟨j,c,N⟩|⟨l,k,c,N⟩)
  case inr=>exact q.heap.dm _ _ _ _ _ _ hloc N
  simp only[ef]at N;split at N
  ·split at N
   ·cases N
   ·cases N
  ·rename_i hne
   exact hne (q.heap.inj _ _ _ _ _ hloc N)
 have hmb2:g.heap[M]? = some (.map ms I):=by rw[hold M hmbs]; exact hmb
 refine wpIn_block (wpIn_mono (YT hm ht hL ho hu1 hu2 hut (hr:=hr) (E:=E) (rZ:=rZ) (d0:=sp.init d E.w.heap.size) (itb:=E.w.heap.size) (mb:=M) (clock:=I) (ms:=ms)
  (aQ _) hn hlt (by omega) (hfold _) ?_ U hro) fun e a1 w1 hq=>?_)
 ·refine ⟨sp.init d E.w.heap.size, ae, X4, #[], I, [], rfl, hadr _, ?_, hs4, ?_, (O.X E.w.heap.size (by show _ < g.heap.size; omega)).1.2 (.inr rfl), ?_, aQ _, ?_, ?_, ?_⟩
  ·have : (rZ.filter fun x => !(#[] : Array Nat).contains (fy x)) = rZ := List.filter_eq_self.2 (fun x _ => by simp)
   rw[List.nil_append,this]
  ·refine hd.toM.trans (af.gB.trans (E' := { w := g, H := E.H.set sp.id .dead, ae := E.ae.set sp.id none, X := E.X.or fun b => b = E.w.heap.size }) ⟨fun _ _ h => h, ?_, ?_, fun b _ h => h, fun _ _ _ h => ⟨h, rfl⟩, fun b hb => ⟨⟨fun h => h.elim id fun e => absurd hb (by rw [e]; exact Bp _), .inl⟩, Iff.rfl⟩, fun _ _ h => ⟨h, fun _ hq => hq⟩, hos, fun _ _ _ o h1 W _ => ⟨⟨[], (dJ _).symm⟩, o, h1, W⟩⟩ O)
   ·show E.w.heap.size <= g.heap.size
    omega
   ·exact fun b hb _=>hold b hb
  ·rw [O.same E.w.heap.size (by show _ < g.heap.size; omega) ?_]
   ·exact hitn
   ·exact(hs2.heap.jl jl).FB (.inr rfl)
  ·rw [O.same M (by show _ < g.heap.size; omega) hmbn]
   exact hmb2
  ·exact O.ab M (by show _<g.heap.size; omega) hmbn
  ·exact kr (zC O) (kr jl.toC (kr hd.toC hre))
 ·obtain ⟨rfl, p, d', h1, W, h3⟩ := hq
  simp only[T7,if_true];exact hQ _ _ ⟨_,p,d',h1,W,h3⟩
theorem YV(hm:P.follows .mixedOrders=true)(N:aJ P τ)(O:aZ P m L body)(hr:tR P τ L m sp dP body)(ho:zD P sp dU fG dP)
  (hu1:∀ d,(ch sp.inv d).fr[sp.t1]? = some .undef) (hu2:∀ d,(ch sp.inv d).fr[sp.t2]? = some .undef) (hut:∀ d,(ch sp.inv d).fr[sp.it]? = some (.lit (.pointer (some ⟨sp.cJ d,0,none⟩))))
  {r0 r1 b0 U r2:Nat}
  {s s1:aF} {d:LG} {rZ:LL} {M:Nat} (hp:kR P τ.pf dU dU.toList.dropLast s.ao s1.ao) (hx:s1.eval (.tmp sp.y)=.map sp.id) (hid:s1.H[sp.id]? = some (.map sp.K sp.V rZ M)) (hn:(rZ.map fy).Nodup)
  (q:∀ r∈rZ,fy r<M) (hin:∀ b,nl m sp.inv sp.ps (lL sp.opens (sp.s2 s1 b))=some (true,sp.init d b)) (hadr:∀ b,sp.cJ (sp.init d b)=b)
  (hfold:∀ b p,p.Perm rZ->(f_ sp.st sp.cJ p (sp.init d b)).isSome=true) (E:af) (a:Act) (hs:dS s.ao E a) (g:Option Nat) (hro:ib g body) :
  (rK r0 b0 r1 U r2 dU fG dP sp.t2 body).wpIn (fz g) 0 P (fun e v I=>e=.normal/\∃ b p k,p.Perm rZ/\f_ sp.st sp.cJ p (sp.init d b)=some k/\fv m E (ch sp.inv k).ao v I) a E.w:=by
 refine wpIn_seq (wpIn_region ?_);obtain⟨o2,ty,W,_⟩:=ho.r0;have hsz:dU.size=dU.toList.dropLast.length+1:=by
  have h:=congrArg List.length W;simpa using h
 have hl:fj dU.size=Fc 0 dU.toList.dropLast.length++[dU.toList.dropLast.length]:=by
  rw[hsz,List.range_succ,T6]
 rw[hl];refine NZ (pf:=τ.pf) g dU.toList.dropLast 0 s.ao s1.ao E a _ (fun j o hj=>?_) hp hs fun v I hc=>?_
 ·have q := aV hj
  have:dU.toList[j]? = some o:=by
   rw[W,di q];exact hj
  simpa using this
 ·obtain ⟨loc1, r1, h1, h2⟩ := hc
  refine YU hm N O ho hu1 hu2 hut (YQ hm N O hr U) hx hid hn q hin hadr hfold { w:=I,H:=s1.ao.H,ae:=loc1,X:=E.X.re r1 } v h1 g hro fun a2 w2 ⟨b,p,k,g1,g2,g3⟩=>?_;exact⟨rfl,b,p,k,g1,g2,fv.after h2.toM g3⟩
noncomputable def wh{β:Type}(rZ:LL)(k:Nat->LL->Option β):Option β :=
 open Classical in if h:∃ r,∀ b p,p.Perm rZ->k b p=some r then some h.choose else none
theorem N6{β:Type}{rZ:LL}{k:Nat->LL->Option β}{r:β}(h:wh rZ k=some r):∀ b p,p.Perm rZ->k b p=some r:=by
 unfold wh at h;split at h
 ·rename_i d
  cases h;exact d.choose_spec
 ·cases h
theorem YW{β:Type}{rZ:LL}{k:Nat->LL->Option β}{r:β}(h:∀ b p,p.Perm rZ->k b p=some r):wh rZ k=some r:=by
 cases hb:wh rZ k with
 | some d =>
  have h1:=N6 hb 0 rZ (xY _);rw[h 0 rZ (xY _)]at h1;exact h1.symm
 | none =>
  unfold wh at hb;rw[dif_pos ⟨r,h⟩]at hb;cases hb
def ql(rZ:LL)(d:Nat):Bool:=nodupB (rZ.map fy)&&rZ.all fun r=>cS (fy r) d
theorem YX{rZ:LL}{d:Nat}(h:ql rZ d=true):(rZ.map fy).Nodup/\∀ r∈rZ,fy r<d:=by
 simp only[ql,aL,dK,iL]at h;exact⟨vX h.1,h.2⟩
noncomputable def qm(sp:jS)(h:LG->Option (Option Nat × LG))(rZ:LL)(g:Nat)(d:LG):Option (Option Nat × LG) :=
 bif ql rZ g then wh rZ (fun b p=>bif sp.side d b then (f_ sp.st sp.cJ p (sp.init d b)).bind h else none) else none
def zF(P:aj)(m:Nat)(c:Code)(sp:bG):Prop:=∀ d i g,sp.st d=some (some i,g)->∃ o,sp.outs[i]? = some o/\dX P m c (ch sp.inv d).ao o.x (ch o.S g).ao
theorem tO.sat{c:Code}{q:bG}(hm:P.follows .mixedOrders=true)(k:aJ P τ)(v:aZ P m L c)(y:tO P τ L m c q):zF P m c q:=by
 intro d i I g;rw[<-y d]at g;obtain⟨x,s1,M,N⟩:=nf hm k c (ch q.inv d) .done v (Q:=fun x s=>tN m q.outs 0 x s=some (true,(some i,I))) (rA g);obtain⟨j,o,O,h,U,V⟩:=CL N;simp only[be,cP]at h;subst h;refine⟨o,O,?_⟩;rw[<-U];exact vn M (qf V)
theorem YY{c:Code}{q:bG}(M:zF P m c q){s:aF}{t:bg}(h:zu m q s=some t):Hm P m c s t:=by
 unfold zu at h;split at h
 case h_2=>cases h
 rename_i b d N;cases h;intro Q v;simp only[bg.holds,tL,aL]at v;obtain⟨⟨rfl,h1⟩,y⟩:=v;cases g:q.st d with
 |none=>rw[g]at h1; cases h1
 | some r =>
  obtain⟨k,I⟩:=r;cases k with
  |none=>rw[g]at h1; cases h1
  | some i =>
   obtain⟨o,O,U⟩:=M d i I g;rw[g]at y;exact⟨o.x,(ch o.S I),vm ((qg q.opens s).trans (qf N)) U,CM O (cP i).symm y⟩
theorem aZ.YZ{fn:Func}{q:bG} (y:qh q.key (cA (bk fn))=true) (g:aZ P m L (bk fn)) (v:aZ P m L (fT fn q.key)->zF P m (fT fn q.key) q) :
  aZ P m (L.fU m q) (bk fn):=by
 refine⟨g.1,g.2.1,fun k I h s t d=>?_⟩;simp only[LT.fU]at d;split at d
 ·rename_i e
  have e:=bx e;subst e;have M:=Nv y h;rw[<-M]at v;exact YY (v (g.sub (rD h) (rE h))) d
 ·exact g.2.2 k I h s t d
def zG(o:Option Tmp)(t:Tmp):Bool :=
 match o with
 |some x=>ar x t
 |none=>false
theorem Db{o:Option Tmp}{t:Tmp}(h:zG o t=true):o=some t:=by
 cases o with
 |none=>cases h
 |some x=>exact congrArg some (bx h)
def H5(P:aj)(sp:jS)(ah:Array aR):Bool :=
 match ah.toList.getLast? with
 |some ⟨d,.range ty (.tmp b),_,_,_,none⟩=>ar b sp.y&&zG d sp.it&&(dL P ty).isSome
 |_=>false
def H6(sp:jS)(ah:Array aR):Bool :=
 match ah.toList with
 | [⟨d,.next (.tmp a) false,_,_,_,none⟩,⟨g,.extract (.tmp b) 0,_,_,_,none⟩]=>ar a sp.it&&zG d sp.t1&&ar b sp.t1&&zG g sp.t2
 |_=>false
def H7(sp:jS)(ah:Array aR):Bool :=
 match ah.toList with
 |⟨d,.entry (.tmp a),_,_,_,none⟩::_=>ar a sp.it&&zG d sp.t3
 |_=>false
theorem Y0(h0:H5 P sp dU=true)(h1:H6 sp fG=true)(d:H7 sp dP=true):zD P sp dU fG dP:=by
 refine⟨?_,?_,?_⟩
 ·unfold H5 at h0
  split at h0
  ·rename_i I ty b t' M N e
   simp only[aL]at h0;obtain⟨⟨g,q⟩,O⟩:=h0;have g:=bx g;subst g;refine⟨⟨I,.range ty (.tmp sp.y),t',M,N,none⟩,ty,?_,rfl,rfl,Db q,O⟩;have v:dU.toList≠[]:=by
    intro h;rw[h]at e;cases e
   have d:=List.dropLast_concat_getLast v;have U:dU.toList.getLast? = some (dU.toList.getLast v):=by
    rw[List.getLast?_eq_some_iff];exact⟨_,d.symm⟩
   rw[U]at e;rw[jd e]at d;exact d.symm
  ·cases h0
 ·unfold H6 at h1
  split at h1
  ·rename_i V a _ _ _ I b _ _ _ e
   simp only[aL]at h1;obtain⟨⟨⟨k,W⟩,g⟩,q⟩:=h1;have k:=bx k;have g:=bx g;subst k;subst g;exact⟨_,_,e,rfl,rfl,Db W,rfl,rfl,Db q⟩
  ·cases h1
 ·unfold H7 at d
  split at d
  ·rename_i V a _ _ _ l e
   simp only[aL]at d;have k:=bx d.1;subst k;exact⟨_,l,e,rfl,rfl,Db d.2⟩
  ·cases d
def N7:Code->Code
 |.seq _ b=>b
 |_=>.skip
def H8:Code->Code
 |.seq (.seq _ (.block _ (.loop c))) _=>c
 |_=>.skip
def Dc(c:Code):Code:=match H8 c with
 |.seq _ (.seq _ (.block _ (.seq _ b)))=>b
 |_=>.skip
def H9:Code->Array aR
 |.region _ ah _=>ah
 |_=>#[]
def wk:Code->Array aR
 |.seq (.seq r _) _=>H9 r
 |_=>#[]
def N8(c:Code):Array aR:=match H8 c with
 |.seq r _=>H9 r
 |_=>#[]
def zH(c:Code):Array aR:=match H8 c with
 |.seq _ (.seq _ (.block _ (.seq r _)))=>H9 r
 |_=>#[]
theorem Y1{r0 r1 k q r2 t2:Nat}{g:Code} (h:aZ P m L (.seq (rK r0 k r1 q r2 dU fG dP t2 body) g)):aZ P m L body/\aZ P m L g:=by
 refine⟨h.sub (fun p d=>?_) (fun p d=>?_),h.sub (fun p d=>?_) (fun p d=>?_)⟩
 ·simp only [cw, rK, c_]
  left;right;split
  ·simp only [cq, cw, c_]
   exact .inr (.inr (.inr (.inr d)))
  ·simp only [cw, c_]
   exact .inr (.inr (.inr d))
 ·simp only [cA, rK, c_]
  exact .inl (.inr (.inr (.inr (.inr (.inr (.inr (.inr (.inr d))))))))
 ·simp only [cw, c_]
  exact .inr d
 ·simp only [cA, c_]
  exact .inr (.inr d)
def N9(P:aj)(τ:aH)(ah:Array aR)(s:aF):aF:=match (rk P τ ah ah.toList.dropLast s fun s=>.done .normal s).rJ with
 |some (_,s1)=>s1
 |none=>s
theorem Y2(d:aJ P τ){ah:Array aR}{l:List aR}{s s1:aF}(h:(rk P τ ah l s fun s=>.done .normal s).rJ=some (.normal,s1)):kR P τ.pf ah l s.ao s1.ao:=by
 obtain⟨s',h1,g⟩:=Cu d (C_ h);obtain⟨_,rfl⟩:=g;exact h1
theorem Y3(hm:P.follows .mixedOrders=true)(ht:aJ P τ){rest:Code}{q k:bG}(hL:aZ P m L body)(hr:tR P τ L m sp dP body)(ho:zD P sp dU fG dP)
  (hu1:∀ d,(ch sp.inv d).fr[sp.t1]? = some .undef) (hu2:∀ d,(ch sp.inv d).fr[sp.t2]? = some .undef) (hut:∀ d,(ch sp.inv d).fr[sp.it]? = some (.lit (.pointer (some ⟨sp.cJ d,0,none⟩))))
  {r0 r1 b0 b1 r2:Nat}
  {rZ:LG->LL} {O:LG->Nat} {pre:LG->aF} (hy:∀ d,(rk P τ dU dU.toList.dropLast (ch q.inv d) fun s=>.done .normal s).rJ=some (.normal,pre d)) (M:∀ d,(pre d).eval (.tmp sp.y)=.map sp.id) (hid:∀ d,(pre d).H[sp.id]? = some (.map sp.K sp.V (rZ d) (O d)))
  (hin:∀ d b,nl m sp.inv sp.ps (lL sp.opens (sp.s2 (pre d) b))=some (sp.side d b,sp.init d b)) (hadr:∀ d b,sp.cJ (sp.init d b)=b)
  (hinv:k.inv=sp.inv) (houts:k.outs=q.outs) (hrest:zF P m rest k) (hst:∀ d,q.st d=qm sp k.st (rZ d) (O d) d) :
  zF P m (.seq (rK r0 b0 r1 b1 r2 dU fG dP sp.t2 body) rest) q:=by
 intro d i W h;rw[hst]at h;unfold qm at h;cases U:ql (rZ d) (O d)with
 |false=>rw[U]at h; cases h
 | true =>
  rw[U]at h;simp only[cT]at h;have hall:=N6 h;obtain⟨hn,hlt⟩:=YX U;have I:∀ b p,p.Perm (rZ d)->sp.side d b=true/\∃ g,f_ sp.st sp.cJ p (sp.init d b)=some g/\k.st g=some (some i,W):=by
   intro b p v;have:=hall b p v;cases hsd:sp.side d b with
   |false=>rw[hsd]at this; cases this
   | true =>
    rw[hsd]at this;simp only[cT]at this;cases N:f_ sp.st sp.cJ p (sp.init d b)with
    |none=>rw[N]at this; cases this
    | some g =>
     rw[N]at this;exact⟨rfl,g,rfl,this⟩
  obtain⟨_,g,_,g1⟩:=I 0 (rZ d) (xY _);obtain⟨o,ho1,_⟩:=hrest g i W g1;refine⟨o,by rw[<-houts]; exact ho1,fun ro hro E a hs=>wpIn_seq (wpIn_mono (YV hm ht hL hr ho hu1 hu2 hut (Y2 ht (hy d)) (M d) (hid d) hn hlt (fun b=>by rw[hin d b,(I b (rZ d) (xY _)).1]) (hadr d) (fun b p v=>?_) E a hs ro (YO hro.seq1)) fun e a1 w1 hq=>?_)⟩
  ·obtain ⟨_, d2, h2, _⟩ := I b p v
   rw[h2];rfl
  ·obtain ⟨rfl, b, p, d2, v, N, ae, X, hs2, hle⟩ := hq
   obtain⟨_,d3,h3,h4⟩:=I b p v;rw[N]at h3;cases h3;obtain⟨o',ho2,hsat⟩:=hrest d2 i W h4;rw[ho1]at ho2;cases ho2;rw[hinv]at hsat;exact wpIn_mono (hsat ro hro.LP { w:=w1,H:=(ch sp.inv d2).ao.H,ae:=ae,X:=X } a1 hs2) fun x a2 w2 M=>⟨M.1,fv.after hle M.2⟩
theorem aZ.N_(hm:P.follows .mixedOrders=true)(h:aJ P τ){fn:Func}{q qr:bG}{r0 b0 r1 b1 r2:Nat}{rZ:LG->LL}{clock:LG->Nat}
  (hn:qh q.key (cA (bk fn))=true) (hL:aZ P m L (bk fn))
  (k:fT fn q.key=.seq (rK r0 b0 r1 b1 r2 (wk (fT fn q.key)) (N8 (fT fn q.key)) (zH (fT fn q.key)) sp.t2 (Dc (fT fn q.key))) (N7 (fT fn q.key)))
  (ho:(H5 P sp (wk (fT fn q.key))&&H6 sp (N8 (fT fn q.key))&&H7 sp (zH (fT fn q.key)))=true)
  (hr:tR P τ L m sp (zH (fT fn q.key)) (Dc (fT fn q.key)))
  (O:∀ d,(ch sp.inv d).fr[sp.t1]? = some .undef) (U:∀ d,(ch sp.inv d).fr[sp.t2]? = some .undef) (W:∀ d,(ch sp.inv d).fr[sp.it]? = some (.lit (.pointer (some ⟨sp.cJ d,0,none⟩))))
  {pre:LG->aF} (hy:∀ d,(rk P τ (wk (fT fn q.key)) (wk (fT fn q.key)).toList.dropLast (ch q.inv d) fun s=>.done .normal s).rJ=some (.normal,pre d)) (hx:∀ d,(pre d).eval (.tmp sp.y)=.map sp.id) (hid:∀ d,(pre d).H[sp.id]? = some (.map sp.K sp.V (rZ d) (clock d)))
  (hin:∀ d b,nl m sp.inv sp.ps (lL sp.opens (sp.s2 (pre d) b))=some (sp.side d b,sp.init d b)) (M:∀ d b,sp.cJ (sp.init d b)=b)
  (N:qr.inv=sp.inv) (v:qr.outs=q.outs) (I:tO P τ L m (N7 (fT fn q.key)) qr) (hst:∀ d,q.st d=qm sp qr.st (rZ d) (clock d) d) :
  aZ P m (L.fU m q) (bk fn):=by
 refine aZ.YZ hn hL fun g=>?_;rw[k]at g;obtain⟨hLb,hLr⟩:=Y1 g;simp only[aL]at ho;rw[k];exact Y3 hm h hLb hr (Y0 ho.1.1 ho.1.2 ho.2) O U W hy hx hid hin M N v (I.sat hm h hLr) hst
end range
end Go.AL
