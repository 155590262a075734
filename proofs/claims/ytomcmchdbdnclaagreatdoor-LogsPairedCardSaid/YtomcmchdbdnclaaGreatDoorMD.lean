/-
 What is proved: shapes: states as data. No condition.
-/
import Derived.Test.YtomcmchdbdnclaaGreatDoorMC
import Derived.Maps.RangeRun
set_option linter.all false
open Bool renaming and_true->gD,and_eq_true->ax,false_eq_true->kV,not_eq_true'->qW,and_self->wL,eq_false_iff->alU,or_false->Lk
open Go.Act renaming put->Le
open Go.Exit renaming inBlock->WD
open Go.MapKept renaming heap_set->alW
open Go.Value.slice renaming injEq->kX
open Int renaming toNat_natCast->aK
open List renaming length_cons->bG,append_nil->cB,append_assoc->fq,getElem?_append_left->cK,length_map->bN,mem_map->cH,getElem?_map->bB,getElem?_eq_getElem->bx,mem_of_getElem?->dJ,getElem?_append_right->iJ,getElem?_set_self->bf,getElem?_set_ne->aQ,getElem?_set->dv,all_eq_true->da,getD_eq_getElem?_getD->bP,getElem?_take->nk,mem_cons->bC,map_cons->bX,cons_append->kY,length_append->en,mem_append->cw,getElem?_of_mem->wG,all_cons->nm,mem_cons_self->bZ,mem_cons_of_mem->cq,nodup_cons->nq,getElem?_inj->D_,set_append_left->Ah,range'->WA,range'_succ->WB,range->dB,mem_append_left->my,any_eq_true->lI,range_eq_range'->WC,headD_cons->tg,getElem?_cons_succ->WI,getD_cons_succ->Lj,find?_cons_of_neg->alV,getElem_mem->th,mem_filter->wM,mem_append_right->oq
open List.Perm renaming refl->ra
open Nat renaming le_refl->aB,le_add_right->fV,zero_le->dX,lt_or_ge->kU,zero_add->cn,beq->ai,eq_of_beq_eq_true->ba,sub_self->lH,ble->dD,blt->cC,blt_eq->gG,le_of_ble_eq_true->Al,lt_irrefl->An
open Option renaming map_eq_some_iff->dI,map_some->dS,getD_some->np,bind_some->alX
open Option.some renaming injEq->aM,inj->iM
open Prod.mk renaming injEq->aU
namespace Go.AL
open Go
variable [Dr]
inductive fI where
 |int (k:IntKind)|str|bool
 |list (ks:List Kd)|row (ks:List Kd)|cptr (ks:List Kd)
 |nil|any
 |BC (isNil:Bool)
 |fn (f:FuncId)
 |ptr (j col:Nat)
 |vec (j w:Nat)
 |sub (j w:Nat)
 |pre (j w:Nat)
 |xZ (ks:List Kd)
 |map (j:Nat)
 |addr
 |Oo (f:FuncId) (js:List Nat)
 |Gn
 deriving Inhabited
inductive Sh where
 |s (a:fI)
 |clo (f:FuncId) (caps:List fI)
 deriving Inhabited
inductive bA where
 |vec (ks:List Kd) (u:Nat)
 |box (cells:List fI)
 |map (K V:Ct)
 |fN (l T B:Nat)
 |aJ (l:Nat) (K:Ct) (ks:List Kd)
 |mm (l:Nat) (K KI VI:Ct)
 |b_ (l:Nat) (ks:List Kd)
 |bp (l:Nat) (K:Ct) (ks:List Kd)
 deriving Inhabited
def bA.kF:bA->Option Nat
 |.fN l _ _=>some l
 |.aJ l _ _=>some l
 |.mm l _ _ _=>some l
 |.b_ l _=>some l
 |.bp l _ _=>some l
 |_=>none
def bA.dc:bA->Option Nat
 |.mm l _ _ _=>some l
 |.b_ l _=>some l
 |_=>none
def fI.sz:fI->Nat
 |.int _ | .str | .bool | .list _ | .row _ | .cptr _ | .xZ _ | .pre _ _ | .addr=>1
 |.sub _ _=>2
 |_=>0
def qa:List fI->Nat
 | []=>0
 |a::as=>a.sz+qa as
def Sh.sz:Sh->Nat
 |.s a=>a.sz
 |.clo _ caps=>qa caps
def Gp:List Sh->Nat
 | []=>0
 |a::as=>a.sz+Gp as
def bA.sz:bA->Nat
 |.vec _ _=>1
 |.box cells=>qa cells
 |.map _ _=>2
 |.fN _ _ _=>1
 |.aJ _ _ _=>2
 |.mm _ _ _ _=>3
 |.b_ _ _=>2
 |.bp _ _ _=>2
def ew:Nat->List G->List G
 |0,d=>d
 |n+1,d=>ew n d.tail
abbrev dh:=List (Nat × Nat)
def dh.len(os:dh)(j:Nat):Nat:=(os.getD j (0,0)).1
def dh.ver(os:dh)(j:Nat):Nat:=(os.getD j (0,0)).2
def rY:List Nat->List AV
 | []=>[]
 |j::js=>.ptr j 0 0 0 0::rY js
def eV(lens:dh):fI->List G->AV
 |.int k,d=>.lit (.int k (d.headD default).int)
 |.str,d=>.lit (.string (d.headD default).str)
 |.bool,d=>.lit (.bool (d.headD default).bool)
 |.list ks,d=>.listF ks (d.headD default).rows
 |.xZ ks,d=>.listF ks (d.headD default).rows
 |.row ks,d=>.agg (aD ks (d.headD default).row)
 |.cptr ks,d=>.cptr (aD ks (d.headD default).row)
 |.nil,_=>.lit (.slice none 0 0)
 |.any,_=>.undef
 |.BC b,_=>.emptyS b
 |.fn f,_=>.clo f []
 |.ptr j col,_=>.ptr j 0 0 0 col
 |.vec j w,_=>.vec w j (lens.ver j) 0 (lens.len j)
 |.sub j w,d=>.vec w j (lens.ver j) (d.headD default).int.toNat (d.tail.headD default).int.toNat
 |.pre j w,d=>.vec w j (lens.ver j) 0 (d.headD default).int.toNat
 |.map j,_=>.map j
 |.addr,d=>.lit (.pointer (some ⟨(d.headD default).int.toNat,0,none⟩))
 |.Oo f js,_=>.clo f (rY js)
 |.Gn,_=>.lit .nilIface
def jX(lens:dh):List fI->List G->List AV
 | [],_=>[]
 |a::as,d=>eV lens a d::jX lens as (ew a.sz d)
def qb(lens:dh):Sh->List G->AV
 |.s a,d=>eV lens a d
 |.clo f caps,d=>.clo f (jX lens caps d)
def fU(lens:dh):List Sh->List G->List AV
 | [],_=>[]
 |a::as,d=>qb lens a d::fU lens as (ew a.sz d)
def fy(lens:dh):bA->List G->af
 |.vec ks u,d=>.vec ks u (d.headD default).rows
 |.box g,d=>.raw (.box (jX lens g d))
 |.map K V,d=>.map K V (d.headD default).rows (d.tail.headD default).int.toNat
 |.fN l T B,d=>.raw (.fN l T B (d.headD default).str)
 |.aJ l K ks,d=>.aJ l K ks (d.headD default).rows (d.tail.headD default).int.toNat
 |.mm l K KI VI,d=>.mm l K KI VI (d.headD default).rows (d.tail.headD default).rows (d.tail.tail.headD default).int.toNat
 |.b_ l ks,d=>.b_ l ks (d.tail.headD default).int.toNat (d.headD default).rows
 |.bp l K ks,d=>.bp l K ks (d.headD default).rows (d.tail.headD default).int.toNat
theorem uE(lens:dh)(sh:bA)(d:List G):(fy lens sh d).den.label=sh.kF:=by cases sh<;>rfl
theorem Gq(lens:dh)(sh:bA)(d:List G):(fy lens sh d).den.dc=sh.dc:=by cases sh<;>rfl
def cN(lens:dh):List bA->List G->List af
 | [],_=>[]
 |o::os,d=>fy lens o d::cN lens os (ew o.sz d)
def nL:List bA->Nat
 | []=>0
 |o::os=>o.sz+nL os
def cI:List bA->List G->dh
 | [],_=>[]
 | o::os,d=>(match o with
  |.vec _ u=>((d.headD default).rows.length,u)
  |_=>(0,0))::cI os (ew o.sz d)
def l5(H:List af)(e:bL):List Nat->List AV->Bool
 | [],[]=>true
 | j::js,.ptr id ver k row c::vs=>(match H[id]? with
  |some (.raw _)=>ai id (e.at j)&&ai ver 0&&ai k 0&&ai row 0&&ai c 0
  |_=>false)&&l5 H e js vs
 |_,_=>false
def gJ(H:List af)(e:bL)(fz:Nat->Bool):fI->AV->Option (Bool × List G)
 |.int k,.lit (.int k' n)=>if k=k' then some (true,[.i n]) else none
 |.str,.lit (.string s)=>some (true,[.s s])
 |.bool,.lit (.bool b)=>some (true,[.t b])
 | .list ks,a=>match oN ks a with
  |some rows=>some (true,[.l rows])
  | none=>match a with
   | .vec w id ver off n=>match H[id]? with
    |some (.vec d v rows)=>if ver=v/\off=0/\w=ks.length/\Kd.f_ ks d=true/\fz id=true then some (ai n rows.length,[.l rows]) else none
    |_=>none
   |_=>none
 | .row ks,a=>match Gj ks a with
  |some r=>some (true,[.l [r]])
  |none=>none
 | .cptr ks,.cptr cells=>match gI ks cells with
  |some r=>some (true,[.l [r]])
  |none=>none
 | .cptr ks,.ptr id ver _ row col=>match H[id]? with
  | some (.raw (.box cells))=>match gI ks cells with
   |some r=>if ver=0/\row=0/\col=0/\fz id=true then some (true,[.l [r]]) else none
   |none=>none
  |some (.vec d v [r])=>if ver=v/\row=0/\col=0/\Kd.f_ ks d=true/\fz id=true then some (true,[.l [r]]) else none
  |_=>none
 |.nil,.lit (.slice none 0 0)=>some (true,[])
 |.any,_=>some (true,[])
 |.fn f,.clo g []=>if f=g then some (true,[]) else none
 | .ptr j col,.ptr id ver k row c=>match H[id]? with
  |some (.raw _)=>if id=e.at j/\ver=0/\k=0/\row=0/\c=col then some (true,[]) else none
  |_=>none
 | .vec j w,.vec w' id ver off n=>match H[id]? with
  |some (.vec _ v rows)=>if w'=w/\id=e.at j/\ver=v/\off=0 then some (ai n rows.length,[]) else none
  |_=>none
 | .sub j w,.vec w' id ver off n=>match H[id]? with
  |some (.vec _ v _)=>if w'=w/\id=e.at j/\ver=v then some (true,[.i off,.i n]) else none
  |_=>none
 | .pre j w,.vec w' id ver off n=>match H[id]? with
  |some (.vec _ v _)=>if w'=w/\id=e.at j/\ver=v/\off=0 then some (true,[.i n]) else none
  |some (.b_ _ _ _ _)=>if w'=w/\id=e.at j/\ver=0/\off=0 then some (true,[.i n]) else none
  |_=>none
 | .xZ ks,a=>match oN ks a with
  |some rows=>some (true,[.l rows])
  | none=>match a with
   | .vec w id ver off n=>match H[id]? with
    |some (.vec d v rows)=>if ver=v/\off=0/\w=ks.length/\Kd.f_ ks d=true/\fz id=true then some (dD n rows.length,[.l (rows.take n)]) else none
    |_=>none
   |_=>none
 | .map j,.map id=>match H[id]? with
  |some (.map _ _ _ _)=>if id=e.at j then some (true,[]) else none
  |some (.aJ _ _ _ _ _)=>if id=e.at j then some (true,[]) else none
  |some (.mm _ _ _ _ _ _ _)=>if id=e.at j then some (true,[]) else none
  |some (.bp _ _ _ _ _)=>if id=e.at j then some (true,[]) else none
  |_=>none
 |.addr,.lit (.pointer (some ⟨b,0,none⟩))=>some (true,[.i (b:Nat)])
 |.Oo f js,.clo g vs=>if f=g/\l5 H e js vs=true then some (true,[]) else none
 |.Gn,.lit .nilIface=>some (true,[])
 |_,_=>none
def gv(H:List af)(e:bL)(fz:Nat->Bool):List fI->List AV->Option (Bool × List G)
 | [],[]=>some (true,[])
 | sh::d,a::as=>match gJ H e fz sh a,gv H e fz d as with
  |some (b,g),some (k,q)=>some (b&&k,g++q)
  |_,_=>none
 |_,_=>none
def l6(H:List af)(e:bL)(fz:Nat->Bool):Sh->AV->Option (Bool × List G)
 |.s a,v=>gJ H e fz a v
 |.clo f caps,.clo g vs=>if f=g then gv H e fz caps vs else none
 |_,_=>none
def fi(H:List af)(e:bL)(fz:Nat->Bool):List Sh->List AV->Option (Bool × List G)
 | [],[]=>some (true,[])
 | sh::d,a::as=>match l6 H e fz sh a,fi H e fz d as with
  |some (b,g),some (k,q)=>some (b&&k,g++q)
  |_,_=>none
 |_,_=>none
def iT(H:List af)(e:bL)(fz:Nat->Bool):bA->af->Option (Bool × List G)
 |.vec ks _,.vec d _ rows=>if Kd.f_ ks d then some (true,[.l rows]) else none
 |.box k,.raw (.box cells)=>gv H e fz k cells
 |.map K V,.map g v rows clock=>if K.same g&&V.same v then some (true,[.l rows,.i clock]) else none
 |.fN l T B,.raw (.fN l' y I s)=>if (ai l l'&&(ai T y&&ai B I))=true then some (true,[.s s]) else none
 |.aJ l K ks,.aJ l' g d rows clock=>if (ai l l'&&(K.same g&&Kd.f_ ks d))=true then some (true,[.l rows,.i clock]) else none
 |.mm l K KI VI,.mm l' g q u rows mem clock=>if (ai l l'&&(K.same g&&(KI.same q&&VI.same u)))=true then some (true,[.l rows,.l mem,.i clock]) else none
 |.b_ l ks,.b_ l' d n ms=>if (ai l l'&&Kd.f_ ks d)=true then some (true,[.l ms,.i n]) else none
 |.bp l K ks,.bp l' g d rows clock=>if (ai l l'&&(K.same g&&Kd.f_ ks d))=true then some (true,[.l rows,.i clock]) else none
 |_,_=>none
theorem Oq{H:List af}{e:bL}{fz:Nat->Bool}{sh:bA}{o:af}{b:Bool}{g:List G}(h:iT H e fz sh o=some (b,g)):o.den.label=sh.kF:=by
 unfold iT at h;split at h
 ·rfl
 ·rfl
 ·rfl
 ·split at h
  ·rename_i d
   simp only[ax]at d;have:=ba d.1;subst this;rfl
  ·cases h
 ·split at h
  ·rename_i d
   simp only[ax]at d;have:=ba d.1;subst this;rfl
  ·cases h
 ·split at h
  ·rename_i d
   simp only[ax]at d;have:=ba d.1;subst this;rfl
  ·cases h
 ·split at h
  ·rename_i d
   simp only[ax]at d;have:=ba d.1;subst this;rfl
  ·cases h
 ·split at h
  ·rename_i d
   simp only[ax]at d;have:=ba d.1;subst this;rfl
  ·cases h
 ·cases h
theorem Gr{H:List af}{e:bL}{fz:Nat->Bool}{sh:bA}{o:af}{b:Bool}{g:List G}(h:iT H e fz sh o=some (b,g)):o.den.dc=sh.dc:=by
 unfold iT at h;split at h
 ·rfl
 ·rfl
 ·rfl
 ·rfl
 ·rfl
 ·split at h
  ·rename_i d
   simp only[ax]at d;have:=ba d.1;subst this;rfl
  ·cases h
 ·split at h
  ·rename_i d
   simp only[ax]at d;have:=ba d.1;subst this;rfl
  ·cases h
 ·rfl
 ·cases h
def kH(H:List af)(e:bL)(fz:Nat->Bool):List bA->List Nat->Option (Bool × List G)
 | [],[]=>some (true,[])
 | o::os,i::is=>match H[i]? with
  | some t=>match iT H e fz o t,kH H e fz os is with
   |some (b,g),some (d,k)=>some (b&&d,g++k)
   |_,_=>none
  |none=>none
 |_,_=>none
theorem qc:∀(g rest:List G),ew g.length (g++rest)=rest
 | [],_=>rfl
 |_::g,rest=>qc g rest
def uF:af->Nat
 |.vec _ v _=>v
 |_=>0
def uG(H:List af)(id:Nat):Nat:=match H[id]? with
 |some o=>uF o
 |none=>0
def bM(H:List af)(ids:List Nat):bL:=⟨ids,ids.map (uG H),H.length⟩
structure BD (E0:Env) (lens:dh) (j:Nat) (o:af):Prop where
 ver:o.den.aF = some (uF o)
 obj:∃ o0,E0.H[j]? = some o0/\o0.aF = some (lens.ver j)
 mm:∀ o0,E0.H[j]? = some o0->o0.dc=o.den.dc
 len:∀ ks v rows,o=.vec ks v rows->lens.len j=rows.length
 flat:(∀ ks v rows,o≠.vec ks v rows)->lens.ver j=0
structure jC (H:List af) (e:bL) (fz:Nat->Bool) (lens:dh) (E E0:Env):Prop where
 hH:E.H=ah H
 HE:al E
 free:∀ i,fz i=true->∀ b n,E.loc[i]? = some (some (b,n))->E0.jN b
 cT:KeepIn e E E0
 obj:∀ j o,H[e.at j]? = some o->j<e.ids.length/\BD E0 lens j o
section cT
variable {H:List af} {e:bL} {fz:Nat->Bool} {lens:dh} {E E0:Env}
theorem BD.past{j:Nat}{o:af}(h:BD E0 lens j o):E0.past j (lens.ver j):=by
 obtain⟨o0,h1,d⟩:=h.obj;exact⟨o0,h1,ab.Ek d,fun v g=>by rw[d]at g; cases g; exact aB _⟩
theorem aal(K:jC H e fz lens E E0){id v n:Nat}{ks:List Kd}{rows:List (List G)}{c:Value}(hid:H[id]? = some (.vec ks v rows))(I:fz id=true)(M:n=rows.length)
  (hr:rel E (.vec ks.length id v 0 n) c):rel E0 (.listF ks rows) c:=by
 subst M;have k:E.H[id]? = some (.vec ks.length v (rows.map (aD ks))):=by rw[K.hH]; exact a7 hid
 have ho:=K.HE.obj id _ k;rw[jq];simp only[rel]at hr|-;obtain⟨⟨base,cap,rfl,y,_⟩,_,d⟩:=hr;obtain⟨U,N⟩:=d ⟨_,k,rfl⟩;have q:eD (rows.map (aD ks)):=by
  intro r hr;obtain⟨g,_,rfl⟩:=cH.1 hr;exact fW ks g
 refine⟨q,base,cap,by simp,by simpa using y,?_⟩;simp only[aI]at ho;rcases ho with⟨h1,u⟩|⟨b,m,h1,u,d,_,O⟩
 ·exact .inl u
 ·obtain ⟨g1, o, g2, g3⟩ := N b m h1
  by_cases hm:rows=[]
  ·subst hm; exact .inl rfl
  ·right
   have:0<rows.length:=by cases rows with|nil=>exact(hm rfl).elim|cons _ _=>simp
   simp at d;have ho:=g2 (by omega);simp at ho;subst ho;simp only[kX]at g3;exact⟨b,0,g3.1,K.free id I b m h1,jO K.cT.bE _ q (by rw[K.cT.w]) O⟩
theorem aam(K:jC H e fz lens E E0){id v n:Nat}{ks:List Kd}{rows:List (List G)}{c:Value}(hid:H[id]? = some (.vec ks v rows))(N:fz id=true)(O:n<=rows.length)
  (hr:rel E (.vec ks.length id v 0 n) c):rel E0 (.listF ks (rows.take n)) c:=by
 have k:E.H[id]? = some (.vec ks.length v (rows.map (aD ks))):=by rw[K.hH]; exact a7 hid
 have ho:=K.HE.obj id _ k;rw[jq];simp only[rel]at hr|-;obtain⟨⟨base,cap,rfl,M,_⟩,_,d⟩:=hr;obtain⟨V,U⟩:=d ⟨_,k,rfl⟩;have u:eD ((rows.take n).map (aD ks)):=by
  intro r hr;obtain⟨g,_,rfl⟩:=cH.1 hr;exact fW ks g
 have q:min n rows.length=n:=Nat.min_eq_left O;refine⟨u,base,cap,by simp[q],by simpa[q]using M,?_⟩;simp only[aI]at ho;rcases ho with⟨h1,y⟩|⟨b,m,h1,y,d,_,I⟩
 ·left
  have:rows=[]:=by simpa using y
  rw[this];simp
 ·obtain ⟨g1, o, g2, g3⟩ := U b m h1
  by_cases hm:n=0
  ·left; rw[hm]; simp
  ·right
   simp at d;have ho:=g2 (by omega);simp at ho;subst ho;simp only[kX]at g3;refine⟨b,0,g3.1,K.free id N b m h1,jO K.cT.bE _ u (by rw[K.cT.w]) ?_⟩;rw[mD]at I|-;intro i r hi;simp only[bB,nk]at hi;split at hi
   ·exact I i r (by simpa using hi)
   ·simp at hi
theorem aan(K:jC H e fz lens E E0){id k:Nat}{cells:List AV}{c:Value} (hid:H[id]? = some (.raw (.box cells))) (g:AV.bu cells=true) (q:fz id=true)
  (hr:rel E (.ptr id 0 k 0 0) c):rel E0 (.cptr cells) c:=by
 have d:E.H[id]? = some (.box cells):=by rw[K.hH]; exact a7 hid
 have ho:=K.HE.obj id _ d;simp only[aI]at ho;obtain⟨b,n,h1,y,u⟩:=ho;simp only[rel]at hr|-;obtain⟨_,_,v⟩:=hr;obtain⟨I,M,g1,g2⟩:=v ⟨_,d,rfl⟩;rw[h1]at g1;simp only[aM,aU]at g1;obtain⟨rfl,rfl⟩:=g1;exact⟨g,b,0,by rw[g2]; simp,K.free id q b n h1,tw K.cT.bE cells g (by rw[K.cT.w]) u⟩
theorem aao(K:jC H e fz lens E E0){id k v:Nat}{ks:List Kd}{r:List G}{c:Value}(hid:H[id]? = some (.vec ks v [r]))(u:fz id=true)
  (hr:rel E (.ptr id v k 0 0) c):rel E0 (.cptr (aD ks r)) c:=by
 have d:E.H[id]? = some (.vec ks.length v [aD ks r]):=by rw[K.hH]; exact a7 hid
 have ho:=K.HE.obj id _ d;simp only[aI]at ho;simp only[rel]at hr|-;obtain⟨_,_,y⟩:=hr;obtain⟨I,M,g1,g2⟩:=y ⟨_,d,rfl⟩;rcases ho with⟨_,g⟩|⟨b,m,h1,g,N,O,q⟩
 ·cases g
 ·rw [h1] at g1
  simp only[aM,aU]at g1;obtain⟨rfl,rfl⟩:=g1;simp only[cy]at q;exact⟨fW ks r,b,0,by rw[g2]; simp,K.free id u b m h1,tw K.cT.bE _ (fW ks r) (by rw[K.cT.w]) q.2.1⟩
theorem Ot(K:jC H e fz lens E E0):∀{js:List Nat} {vs:List AV},l5 H e js vs=true->∀ cs,ae E vs cs->ae E0 (rY js) cs
 | [],[],_,cs,hr=>by
  cases cs with
  |nil=>simp[rY,ae]
  |cons _ _=>simp[ae]at hr
 | j::js,v::vs,h,cs,hr=>by
  cases v<;>simp only[l5,kV]at h<;>try cases h
  rename_i id ver k row c;simp only[ax]at h;obtain⟨h1,u⟩:=h;split at h1
  ·rename_i r hid
   simp only[ax]at h1;obtain⟨⟨⟨⟨d,a2⟩,a3⟩,a4⟩,a5⟩:=h1;have d:=ba d;have a2:=ba a2;have a3:=ba a3;have a4:=ba a4;have a5:=ba a5;subst d a2 a3 a4 a5;cases cs with
   |nil=>simp[ae]at hr
   | cons c cs =>
    simp only[ae]at hr;simp only[rY,ae];refine⟨?_,Ot K u cs hr.2⟩;obtain⟨y,g⟩:=K.obj _ _ hid;have I:=g.flat (fun _ _ _ h=>by cases h);have q:=hr.1;simp only[rel]at q|-;obtain⟨h1,u,M⟩:=q;refine⟨h1,by have:=g.past; rwa [I]at this,fun _=>?_⟩;rw[K.cT.loc _ y];exact M ⟨_,by rw[K.hH]; exact a7 hid,g.ver⟩
  ·cases h1
 | [],_::_,h,_,_=>by simp[l5]at h
 |_::_,[],h,_,_=>by simp[l5]at h
theorem Ou(K:jC H e fz lens E E0){sh:fI}{a:AV}{g:List G}(h:gJ H e fz sh a=some (true,g))(rest:List G) :
  g.length=sh.sz/\∀ c,rel E a c->rel E0 (eV lens sh (g++rest)) c:=by
 unfold gJ at h;split at h
 ·split at h
  ·rename_i hk
   subst hk;cases h;exact⟨rfl,fun c hr=>by simp only[rel]at hr; subst hr; simp[eV,rel,G.int]⟩
  ·cases h
 ·cases h; exact⟨rfl,fun c hr=>by simp only[rel]at hr; subst hr; simp[eV,rel,G.str]⟩
 ·cases h; exact⟨rfl,fun c hr=>by simp only[rel]at hr; subst hr; simp[eV,rel,G.bool]⟩
 ·split at h
  ·rename_i rows hr
   cases h;exact⟨rfl,fun c d=>eQ K.cT.bE (.listF _ rows) rfl (Ob hr d)⟩
  ·split at h
   ·split at h
    ·rename_i hid
     split at h
     ·rename_i d
      obtain⟨rfl,rfl,rfl,y,N⟩:=d;simp only[aM,aU]at h;obtain⟨h1,rfl⟩:=h;have y:=Kd.gU y;subst y;exact⟨rfl,fun c hr=>aal K hid N (ba h1) hr⟩
     ·cases h
    ·cases h
   ·cases h
 ·split at h
  ·rename_i ks a r hr
   cases h;have O:=Oc hr;subst O;exact⟨rfl,fun c d=>eQ K.cT.bE (.agg (aD ks r)) (by simp only[AV.closed,fW]) d⟩
  ·cases h
 ·split at h
  ·rename_i r hr
   cases h;have O:=ll hr;subst O;exact⟨rfl,fun c d=>eQ K.cT.bE (.cptr _) rfl d⟩
  ·cases h
 ·split at h
  ·rename_i hid
   split at h
   ·rename_i r hr
    split at h
    ·rename_i d
     obtain⟨rfl,rfl,rfl,N⟩:=d;cases h;have O:=ll hr;subst O;exact⟨rfl,fun c hr=>aan K hid (fW _ _) N hr⟩
    ·cases h
   ·cases h
  ·rename_i ks' v r hid
   split at h
   ·rename_i d
    obtain⟨rfl,rfl,rfl,y,N⟩:=d;cases h;have y:=Kd.gU y;subst y;exact⟨rfl,fun c hr=>aao K hid N hr⟩
   ·cases h
  ·cases h
 ·cases h; exact⟨rfl,fun c hr=>by simpa only[eV,rel]using hr⟩
 ·cases h; exact⟨rfl,fun c hr=>by simp[eV,rel]⟩
 ·split at h
  ·rename_i hk
   subst hk;cases h;exact⟨rfl,fun c hr=>eQ K.cT.bE (.clo _ []) rfl hr⟩
  ·cases h
 ·split at h
  ·rename_i r hid
   split at h
   ·rename_i d
    obtain⟨rfl,rfl,rfl,rfl,rfl⟩:=d;cases h;obtain⟨q,k⟩:=K.obj _ _ hid;have I:=k.flat (fun _ _ _ h=>by cases h);refine⟨rfl,fun c hr=>?_⟩;simp only[rel]at hr;simp only[eV,rel];obtain⟨h1,M,u⟩:=hr;refine⟨h1,by have:=k.past; rwa [I]at this,fun _=>?_⟩;rw[K.cT.loc _ q];exact u ⟨_,by rw[K.hH]; exact a7 hid,k.ver⟩
   ·cases h
  ·cases h
 ·split at h
  ·rename_i ks v rows hid
   split at h
   ·rename_i d
    obtain⟨rfl,rfl,rfl,rfl⟩:=d;simp only[aM,aU]at h;obtain⟨h1,rfl⟩:=h;have h1:=ba h1;subst h1;obtain⟨q,k⟩:=K.obj _ _ hid;refine⟨rfl,fun c hr=>?_⟩;simp only[rel]at hr;simp only[eV,rel];rw[k.len _ _ _ rfl];obtain⟨h1,M,u⟩:=hr;refine⟨h1,k.past,fun _=>?_⟩;rw[K.cT.loc _ q];exact u ⟨_,by rw[K.hH]; exact a7 hid,k.ver⟩
   ·cases h
  ·cases h
 ·split at h
  ·rename_i ks v rows hid
   split at h
   ·rename_i d
    obtain⟨rfl,rfl,rfl⟩:=d;cases h;obtain⟨q,k⟩:=K.obj _ _ hid;refine⟨rfl,fun c hr=>?_⟩;simp only[rel]at hr;simp only[eV,rel,kY,tg,List.tail_cons,G.int,aK];obtain⟨h1,M,u⟩:=hr;refine⟨h1,k.past,fun _=>?_⟩;rw[K.cT.loc _ q];exact u ⟨_,by rw[K.hH]; exact a7 hid,k.ver⟩
   ·cases h
  ·cases h
 ·split at h
  ·rename_i ks v rows hid
   split at h
   ·rename_i d
    obtain⟨rfl,rfl,rfl,rfl⟩:=d;cases h;obtain⟨q,k⟩:=K.obj _ _ hid;refine⟨rfl,fun c hr=>?_⟩;simp only[rel]at hr;simp only[eV,rel,kY,tg,G.int,aK];obtain⟨h1,M,u⟩:=hr;refine⟨h1,k.past,fun _=>?_⟩;rw[K.cT.loc _ q];exact u ⟨_,by rw[K.hH]; exact a7 hid,k.ver⟩
   ·cases h
  ·rename_i U W n1 ms1 hid
   split at h
   ·rename_i d
    obtain⟨rfl,rfl,rfl,rfl⟩:=d;cases h;obtain⟨q,k⟩:=K.obj _ _ hid;have I:=k.flat (fun _ _ _ h=>by cases h);refine⟨rfl,fun c hr=>?_⟩;simp only[rel]at hr;simp only[eV,rel,kY,tg,G.int,aK];obtain⟨h1,M,u⟩:=hr;refine⟨h1,k.past,fun _=>?_⟩;rw[K.cT.loc _ q];exact u ⟨_,by rw[K.hH]; exact a7 hid,k.ver⟩
   ·cases h
  ·cases h
 ·split at h
  ·rename_i rows hr
   cases h;exact⟨rfl,fun c d=>eQ K.cT.bE (.listF _ rows) rfl (Ob hr d)⟩
  ·split at h
   ·split at h
    ·rename_i hid
     split at h
     ·rename_i d
      obtain⟨rfl,rfl,rfl,y,N⟩:=d;simp only[aM,aU]at h;obtain⟨h1,rfl⟩:=h;have y:=Kd.gU y;subst y;exact⟨rfl,fun c hr=>aam K hid N (Al h1) hr⟩
     ·cases h
    ·cases h
   ·cases h
 ·split at h
  ·rename_i V V1 rows cl hid
   split at h
   ·rename_i d
    subst d;cases h;obtain⟨q,k⟩:=K.obj _ _ hid;have I:=k.flat (fun _ _ _ h=>by cases h);refine⟨rfl,fun c hr=>?_⟩;simp only[rel]at hr;simp only[eV,rel];obtain⟨h1,M,u⟩:=hr;refine⟨h1,by have:=k.past; rwa [I]at this,fun _=>?_⟩;rw[K.cT.loc _ q];exact u ⟨_,by rw[K.hH]; exact a7 hid,k.ver⟩
   ·cases h
  ·rename_i U V W rows cl hid
   split at h
   ·rename_i d
    subst d;cases h;obtain⟨q,k⟩:=K.obj _ _ hid;have I:=k.flat (fun _ _ _ h=>by cases h);refine⟨rfl,fun c hr=>?_⟩;simp only[rel]at hr;simp only[eV,rel];obtain⟨h1,M,u⟩:=hr;refine⟨h1,by have:=k.past; rwa [I]at this,fun _=>?_⟩;rw[K.cT.loc _ q];exact u ⟨_,by rw[K.hH]; exact a7 hid,k.ver⟩
   ·cases h
  ·rename_i U V KI1 VI1 rows mem cl hid
   split at h
   ·rename_i d
    subst d;cases h;obtain⟨q,k⟩:=K.obj _ _ hid;have I:=k.flat (fun _ _ _ h=>by cases h);refine⟨rfl,fun c hr=>?_⟩;simp only[rel]at hr;simp only[eV,rel];obtain⟨h1,M,u⟩:=hr;refine⟨h1,by have:=k.past; rwa [I]at this,fun _=>?_⟩;rw[K.cT.loc _ q];exact u ⟨_,by rw[K.hH]; exact a7 hid,k.ver⟩
   ·cases h
  ·rename_i U V W rows cl hid
   split at h
   ·rename_i d
    subst d;cases h;obtain⟨q,k⟩:=K.obj _ _ hid;have I:=k.flat (fun _ _ _ h=>by cases h);refine⟨rfl,fun c hr=>?_⟩;simp only[rel]at hr;simp only[eV,rel];obtain⟨h1,M,u⟩:=hr;refine⟨h1,by have:=k.past; rwa [I]at this,fun _=>?_⟩;rw[K.cT.loc _ q];exact u ⟨_,by rw[K.hH]; exact a7 hid,k.ver⟩
   ·cases h
  ·cases h
 ·cases h; exact⟨rfl,fun c hr=>by simp only[rel]at hr; subst hr; simp[eV,rel,G.int]⟩
 ·split at h
  ·rename_i d
   obtain⟨rfl,d⟩:=d;cases h;refine⟨rfl,fun c hr=>?_⟩;simp only[rel]at hr;simp only[eV,rel];obtain⟨cs,r1,r2⟩:=hr;exact⟨cs,r1,Ot K d _ r2⟩
  ·cases h
 ·cases h; exact⟨rfl,fun c hr=>by simpa only[eV,rel]using hr⟩
 ·cases h
theorem Gs(K:jC H e fz lens E E0):∀{d:List fI} {as:List AV} {g:List G},gv H e fz d as=some (true,g)->∀(rest:List G),
  g.length=qa d/\as.length=d.length/\(jX lens d (g++rest)).length=d.length /\
   (∀ cs,ae E as cs->ae E0 (jX lens d (g++rest)) cs)/\∀ b o,E0.w.heap[b]? = E.w.heap[b]? -> cu E as b o->cu E0 (jX lens d (g++rest)) b o
 | [],[],g,h,rest=>by
  simp only[gv,aM,aU]at h;obtain⟨_,rfl⟩:=h;refine⟨rfl,rfl,rfl,fun cs hr=>?_,fun b o _ hr=>by simp[jX,cu]⟩;cases cs with
  |nil=>simp[jX,ae]
  |cons _ _=>simp[ae]at hr
 | sh::d,a::as,g,h,rest=>by
  simp only[gv]at h;split at h
  ·rename_i b g1 V g2 h1 u
   simp only[aM,aU,ax]at h;obtain⟨⟨rfl,rfl⟩,rfl⟩:=h;obtain⟨p1,q⟩:=Ou K h1 (g2++rest);obtain⟨y,I,M,N,O⟩:=Gs K u rest;have k:ew sh.sz (g1++(g2++rest))=g2++rest:=by rw[<-p1]; exact qc g1 _
   refine⟨by simp only[qa,en,p1,y],by simp only[bG,I],?_,?_,?_⟩
   ·simp only[jX,fq,k,bG,M]
   ·intro cs hr
    cases cs with
    |nil=>simp[ae]at hr
    | cons c cs =>
     simp only[ae]at hr;simp only[jX,fq,k,ae];exact⟨q c hr.1,N cs hr.2⟩
   ·intro b o hb hr
    simp only[cu]at hr;simp only[jX,fq,k,cu];obtain⟨⟨v,r1,r2,r3⟩,U⟩:=hr;exact⟨⟨v,by rw[World.tv hb]; exact r1,r2,q v r3⟩,O b (o+1) hb U⟩
  ·cases h
 | [],_::_,_,h,_=>by simp[gv]at h
 |_::_,[],_,h,_=>by simp[gv]at h
theorem Ov(K:jC H e fz lens E E0){sh:Sh}{a:AV}{g:List G}(h:l6 H e fz sh a=some (true,g))(rest:List G) :
  g.length=sh.sz/\∀ c,rel E a c->rel E0 (qb lens sh (g++rest)) c:=by
 cases sh with
 |s a0=>exact Ou K h rest
 | clo f caps =>
  cases a<;>simp only[l6]at h<;>try cases h
  rename_i g1 vs;split at h
  ·rename_i d
   subst d;obtain⟨k,u,v,q,y⟩:=Gs K h rest;refine⟨k,fun c hr=>?_⟩;simp only[rel]at hr;simp only[qb,rel];obtain⟨cs,r1,r2⟩:=hr;exact⟨cs,r1,q _ r2⟩
  ·cases h
theorem x8(K:jC H e fz lens E E0):∀{d:List Sh} {as:List AV} {g:List G},fi H e fz d as=some (true,g)->∀(rest:List G),
  g.length=Gp d/\as.length=d.length/\(fU lens d (g++rest)).length=d.length/\(∀ cs,ae E as cs->ae E0 (fU lens d (g++rest)) cs)
 | [],[],g,h,rest=>by
  simp only[fi,aM,aU]at h;obtain⟨_,rfl⟩:=h;refine⟨rfl,rfl,rfl,fun cs hr=>?_⟩;cases cs with
  |nil=>simp[fU,ae]
  |cons _ _=>simp[ae]at hr
 | sh::d,a::as,g,h,rest=>by
  simp only[fi]at h;split at h
  ·rename_i b g1 N g2 h1 q
   simp only[aM,aU,ax]at h;obtain⟨⟨rfl,rfl⟩,rfl⟩:=h;obtain⟨p1,u⟩:=Ov K h1 (g2++rest);obtain⟨v,y,I,M⟩:=x8 K q rest;have k:ew sh.sz (g1++(g2++rest))=g2++rest:=by rw[<-p1]; exact qc g1 _
   refine⟨by simp only[Gp,en,p1,v],by simp only[bG,y],by simp only[fU,fq,k,bG,I],?_⟩;intro cs hr;cases cs with
   |nil=>simp[ae]at hr
   | cons c cs =>
    simp only[ae]at hr;simp only[fU,fq,k,ae];exact⟨u c hr.1,M cs hr.2⟩
  ·cases h
 | [],_::_,_,h,_=>by simp[fi]at h
 |_::_,[],_,h,_=>by simp[fi]at h
theorem Ow(K:jC H e fz lens E E0):∀{u:List Sh} {as:List AV} {g:List G},fi H e fz u as=some (true,g)->∀{rest:List G} {k:Nat} {x v:AV} {c:Value},
  as[k]? = some x->(fU lens u (g++rest))[k]? = some v->rel E x c->rel E0 v c
 | [],[],_,_,_,_,_,_,_,d,_,_=>by simp at d
 | sh::u,a::as,g,h,rest,k,x,v,c,d,q,hr=>by
  simp only[fi]at h;split at h
  ·rename_i b g1 N g2 h1 y
   simp only[aM,aU,ax]at h;obtain⟨⟨rfl,rfl⟩,rfl⟩:=h;obtain⟨p1,I⟩:=Ov K h1 (g2++rest);have M:ew sh.sz (g1++(g2++rest))=g2++rest:=by rw[<-p1]; exact qc g1 _
   simp only[fU,fq,M]at q;cases k with
   | zero =>
    simp at d q;subst d;subst q;exact I c hr
   |succ k=>exact Ow K y (by simpa using d) (by simpa using q) hr
  ·cases h
 | [],_::_,_,h,_,_,_,_,_,_,_,_=>by simp[fi]at h
 |_::_,[],_,h,_,_,_,_,_,_,_,_=>by simp[fi]at h
theorem Ox(K:jC H e fz lens E E0){sh:bA}{o:af}{g:List G}(h:iT H e fz sh o=some (true,g))(rest:List G)
  {j:Nat} (hj:j<e.ids.length) (hlab:∀ l,sh.kF=some l->E0.X.r l=E.X.r l) (ho:aI E (e.at j) o.den):aI E0 j (fy lens sh (g++rest)).den:=by
 have I:∀ b:Nat,E0.w.heap[b]? = E.w.heap[b]? := fun b=>by rw[K.cT.w]
 have M:=K.cT.loc j hj;unfold iT at h;split at h
 ·split at h
  ·rename_i u
   cases h;have u:=Kd.gU u;subst u;simp only[fy,af.den,aI]at ho|-;rcases ho with⟨h1,d⟩|⟨b,m,h1,d,y,N,h5⟩
   ·exact .inl ⟨by rw[M,h1],d⟩
   ·exact .inr ⟨b,m,by rw[M,h1],tx (I b) d,y,N,jO K.cT.bE _ N (I b) h5⟩
  ·cases h
 ·rename_i shs cells
  obtain⟨q1,q2,q3,q5,q6⟩:=Gs K h rest;simp only[fy,af.den,aI]at ho|-;obtain⟨b,n,h1,d,y⟩:=ho;exact⟨b,n,by rw[M,h1],by rw[q3,<-q2]; exact tx (I b) d,q6 b 0 (I b) y⟩
 ·split at h
  ·rename_i u
   cases h;simp only[ax]at u;have h1:=Ct.ku u.1;have d:=Ct.ku u.2;subst h1;subst d;simp only[fy,af.den,aI]at ho|-;obtain⟨b,n,ms,h1,d,y⟩:=ho;refine⟨b,n,ms,by rw[M,h1],?_,jB K.cT.bE y⟩;rw[I b];simpa[G.int]using d
  ·cases h
 ·rename_i l T B l' T' B' s
  split at h
  ·rename_i u
   cases h;simp only[ax]at u;obtain⟨h1,d,y⟩:=u;have h1:=ba h1;have d:=ba d;have y:=ba y;subst h1 d y;simp only[fy,af.den,aI]at ho|-;obtain⟨b,n,p,v,k,q,g1,g2,g3,g4,g5,g6⟩:=ho;have hr:=hlab l rfl;exact⟨b,n,p,v,k,q,by rw[M,g1],by rw[I b,g2],g3,by rw[hr,g4],by rw[hr]; exact g5,Eo (fun g m _=>I g) (by simpa[G.str]using g6)⟩
  ·cases h
 ·rename_i l K0 ks l' K' ks' rows clock
  split at h
  ·rename_i u
   cases h;simp only[ax]at u;obtain⟨h1,d,y⟩:=u;have h1:=ba h1;have d:=Ct.ku d;have y:=Kd.gU y;subst h1 d y;simp only[fy,af.den,aI]at ho|-;obtain⟨b,n,ms,g1,g2,g3,g4⟩:=ho;have hr:=hlab l rfl;refine⟨b,n,ms,by rw[M,g1],?_,jB K.cT.bE g3,wT (E:=E) (fun h g m hk=>⟨by rw[hr]; exact hk,I g⟩) (fun _ _ _ _ _ O U W V=>jO K.cT.bE _ W U V) g4⟩;rw[I b];simpa[G.int]using g2
  ·cases h
 ·rename_i l K0 KI VI l' K' KI' VI' rows mem clock
  split at h
  ·rename_i u
   cases h;simp only[ax]at u;obtain⟨h1,d,y,N⟩:=u;have h1:=ba h1;have d:=Ct.ku d;have y:=Ct.ku y;have N:=Ct.ku N;subst h1 d y N;simp only[fy,af.den,aI]at ho|-;obtain⟨b,n,ms,g1,g2,g3,g4⟩:=ho;have hr:=hlab l rfl;refine⟨b,n,ms,by rw[M,g1],?_,jB K.cT.bE g3,Er hr (fun _ O _ _=>I O) (fun _ _ _=>jB K.cT.bE) g4⟩;rw[I b];simpa[G.int]using g2
  ·cases h
 ·rename_i l ks l' ks' n ms
  split at h
  ·rename_i u
   cases h;simp only[ax]at u;obtain⟨h1,d⟩:=u;have h1:=ba h1;have d:=Kd.gU d;subst h1 d;simp only[fy,af.den,aI]at ho|-;obtain⟨b,m,cs,el,g1,g2,g3⟩:=ho;have hr:=hlab l rfl;refine⟨b,m,cs,el,by rw[M,g1],by rw[I b]; exact g2,?_⟩;have:=Et (E:=E) (E':=E0) hr (fun _ O _ _=>I O) (fun rows _ O U W V=>jO K.cT.bE rows W U V) g3;simpa[G.int,G.rows]using this
  ·cases h
 ·rename_i l K0 ks l' K' ks' rows clock
  split at h
  ·rename_i u
   cases h;simp only[ax]at u;obtain⟨h1,d,y⟩:=u;have h1:=ba h1;have d:=Ct.ku d;have y:=Kd.gU y;subst h1 d y;simp only[fy,af.den,aI]at ho|-;obtain⟨b,n,ms,g1,g2,g3,g4⟩:=ho;have hr:=hlab l rfl;refine⟨b,n,ms,by rw[M,g1],?_,jB K.cT.bE g3,Az (E:=E) (fun h g m hk=>⟨by rw[hr]; exact hk,I g⟩) (fun _ _ _ _ _ _ O U W V=>jO K.cT.bE _ W U V) g4⟩;rw[I b];simpa[G.int]using g2
  ·cases h
 ·cases h
end cT
def bA.up:bA->Nat
 |.vec _ u=>u
 |_=>0
theorem Gt{H:List af}{e:bL}{fz:Nat->Bool}{lens:dh}{sh:bA}{o:af}{b:Bool}{g d:List G}(h:iT H e fz sh o=some (b,g)) :
  o.den.aF = some (uF o)/\(fy lens sh d).den.aF = some sh.up/\((∀ ks v rows,o≠.vec ks v rows)->sh.up=0):=by
 unfold iT at h;split at h
 ·exact⟨rfl,rfl,fun k=>(k _ _ _ rfl).elim⟩
 ·exact⟨rfl,rfl,fun _=>rfl⟩
 ·exact⟨rfl,rfl,fun _=>rfl⟩
 ·exact⟨rfl,rfl,fun _=>rfl⟩
 ·exact⟨rfl,rfl,fun _=>rfl⟩
 ·exact⟨rfl,rfl,fun _=>rfl⟩
 ·exact⟨rfl,rfl,fun _=>rfl⟩
 ·exact⟨rfl,rfl,fun _=>rfl⟩
 ·cases h
theorem aap{H:List af}{e:bL}{fz:Nat->Bool}{sh:fI}{a:AV}{b:Bool}{g:List G}(h:gJ H e fz sh a=some (b,g)):g.length=sh.sz:=by
 unfold gJ at h;split at h<;>(try split at h)<;>(try split at h)<;>(try split at h)<;>(try split at h)<;>first
  |(cases h; rfl)
  |cases h
theorem Oy{H:List af}{e:bL}{fz:Nat->Bool}:∀{d:List fI} {as:List AV} {b:Bool} {g:List G},gv H e fz d as=some (b,g)->g.length=qa d
 | [],[],_,g,h=>by simp[gv]at h; simp[<-h.2,qa]
 | sh::d,a::as,b,g,h=>by
  simp only[gv]at h;split at h
  ·rename_i b g1 q g2 h1 k
   simp only[aM,aU]at h;obtain⟨_,rfl⟩:=h;simp only[qa,en,aap h1,Oy k]
  ·cases h
 | [],_::_,_,_,h|_::_,[],_,_,h=>by simp[gv]at h
theorem aaq{H:List af}{e:bL}{fz:Nat->Bool}{sh:bA}{o:af}{b:Bool}{g:List G}(h:iT H e fz sh o=some (b,g)):g.length=sh.sz:=by
 unfold iT at h;split at h
 ·split at h
  ·cases h; rfl
  ·cases h
 ·exact Oy h
 ·split at h
  ·cases h; rfl
  ·cases h
 ·split at h
  ·cases h; rfl
  ·cases h
 ·split at h
  ·cases h; rfl
  ·cases h
 ·split at h
  ·cases h; rfl
  ·cases h
 ·split at h
  ·cases h; rfl
  ·cases h
 ·split at h
  ·cases h; rfl
  ·cases h
 ·cases h
theorem x9{H:List af}{e:bL}{fz:Nat->Bool}:∀{os:List bA} {ids:List Nat} {g:List G},kH H e fz os ids=some (true,g)->∀(rest:List G) (lens:dh),
  g.length=nL os/\ids.length=os.length/\(cN lens os (g++rest)).length=os.length /\
  (∀ (j : Nat) (sh : bA), os[j]? = some sh -> ∃ i o g1 q, ids[j]? = some i /\ H[i]? = some o /\ iT H e fz sh o = some (true, g1) /\ (cN lens os (g ++ rest))[j]? = some (fy lens sh (g1 ++ q)) /\
   (cI os (g++rest)).ver j=sh.up/\∀ ks v rows,o=.vec ks v rows->(cI os (g++rest)).len j=rows.length)
 | [],[],g,h,rest,lens=>by
  simp only[kH,aM,aU]at h;obtain⟨_,rfl⟩:=h;exact⟨rfl,rfl,rfl,fun j sh d=>by simp at d⟩
 | sh::os,i::ids,g,h,rest,lens=>by
  simp only[kH]at h;split at h
  case h_2=>cases h
  rename_i o ho;split at h
  ·rename_i b g1 b' g2 h1 M
   simp only[aM,aU,ax]at h;obtain⟨⟨rfl,rfl⟩,rfl⟩:=h;obtain⟨q0,N,O,U⟩:=x9 M rest lens;have u:=aaq h1;have k:ew sh.sz (g1++(g2++rest))=g2++rest:=by rw[<-u]; exact qc g1 _
   refine⟨by simp only[nL,en,u,q0],by simp only[bG,N],by simp only[cN,fq,k,bG,O],fun j y d=>?_⟩;cases j with
   | zero =>
    simp at d;subst d;refine⟨i,o,g1,g2++rest,rfl,ho,h1,by simp only[cN,fq,List.getElem?_cons_zero],?_,?_⟩
    ·unfold cI dh.ver
     cases sh<;>rfl
    ·rintro ks v rows rfl
     unfold iT at h1;split at h1
     ·rename_i heq
      cases heq;split at h1
      ·cases h1
       simp[cI,dh.len,G.rows]
      ·cases h1
     ·rename_i heq; cases heq
     ·rename_i heq; cases heq
     ·rename_i heq; cases heq
     ·rename_i heq; cases heq
     ·rename_i heq; cases heq
     ·rename_i heq; cases heq
     ·rename_i heq; cases heq
     ·cases h1
   | succ j =>
    obtain⟨V,o',I,q,r1,r2,r3,W,r5,r6⟩:=U j y (by simpa using d);refine⟨V,o',I,q,by simpa using r1,r2,r3,by simpa only[cN,fq,k,WI]using W,?_,?_⟩
    ·simpa only[cI,dh.ver,fq,k,Lj]using r5
    ·simpa only[cI,dh.len,fq,k,Lj]using r6
  ·cases h
 | [],_::_,_,h,_,_=>by simp[kH]at h
 |_::_,[],_,h,_,_=>by simp[kH]at h
end Go.AL

namespace Go.AL
open Go
variable [Dr]
abbrev rZ(a b:Bool):Bool:=Bool.casesOn a false b
theorem r7{a b:Bool}:rZ a b=true↔a=true/\b=true:=by cases a<;>simp
open Classical in
noncomputable def oO(E:Env)(H0:List ab)(l:Nat):List (Option (Option (Nat × Nat))):=if ∃(j:Nat) (o:ab),H0[j]? = some o/\o.label=some l then E.X.r l else (E.X.r l).map fun _=>none
theorem aar{E:Env}{H0:List ab}{l j:Nat}{o:ab}(h:H0[j]? = some o)(d:o.label=some l):oO E H0 l=E.X.r l:=if_pos ⟨j,o,h,d⟩
theorem BE{E:Env}{H0:List ab}{l h:Nat}{q:Option (Nat × Nat)}(d:(oO E H0 l)[h]? = some (some q)):(E.X.r l)[h]? = some (some q)/\∃(j:Nat) (o:ab),H0[j]? = some o/\o.label=some l:=by
 unfold oO at d;split at d
 ·rename_i k
  exact⟨d,k⟩
 ·rw [bB] at d
  cases g:(E.X.r l)[h]? with
  |none=>rw[g]at d; cases d
  |some y=>rw[g]at d; cases d
theorem aas(E:Env)(H0:List ab)(l:Nat):(oO E H0 l).length=(E.X.r l).length:=by
 unfold oO;split
 ·rfl
 ·simp
noncomputable def jD(E:Env)(H0:List ab)(ids:List Nat):Env:=⟨E.w,H0,ids.map fun i=>E.loc.getD i none,E.X.re (oO E H0)⟩
theorem Oz(E:Env)(H0:List ab)(ids:List Nat):∀ l h,h<(E.X.r l).length->h<((jD E H0 ids).X.r l).length/\∀ q,((jD E H0 ids).X.r l)[h]? = some (some q)->(E.X.r l)[h]? = some (some q) :=
 fun l h d=>⟨by show h<(oO E H0 l).length; rw[aas]; exact d,fun q g=>(BE (E:=E) (H0:=H0) g).1⟩
theorem OA{E:Env}{H0:List ab}{ids:List Nat}{b:Nat}(h:(jD E H0 ids).own b):E.own b:=by
 rcases h with⟨j,c,g⟩|⟨l,k,c,g⟩
 ·simp only [jD, bB] at g
  obtain⟨i,_,d⟩:=dI.1 g;rw[bP]at d;cases he:E.loc[i]? with
  |none=>rw[he]at d; cases d
  |some y=>rw[he]at d; simp at d; exact .inl ⟨i,c,by rw[he,d]⟩
 ·exact .inr ⟨l,k,c,(BE g).1⟩
def jE(ids:List Nat)(i:Nat):Bool := !ids.any (ai i)
theorem OB{ids:List Nat}{i:Nat}(h:jE ids i=true):i∉ids:=by
 intro hm;have:ids.any (ai i)=true:=lI.2 ⟨i,hm,by simp⟩;simp[jE,this]at h
theorem OC{E:Env}{H:List af}(hH:E.H=ah H)(HE:al E){ids:List Nat}(hn:ids.Nodup){os:List bA}{g:List G}(h:kH H (bM H ids) (jE ids) os ids=some (true,g))(rest:List G) :
  jC H (bM H ids) (jE ids) (cI os (g++rest)) E (jD E (ah (cN (cI os (g++rest)) os (g++rest))) ids) /\
   al (jD E (ah (cN (cI os (g++rest)) os (g++rest))) ids):=by
 obtain⟨p0,p1,p2,p3⟩:=x9 h rest (cI os (g++rest));generalize N:jD E (ah (cN (cI os (g++rest)) os (g++rest))) ids=E0;have hElen:E.loc.length=H.length:=by rw[HE.len,hH,eJ]
 have eids:(bM H ids).ids=ids:=rfl;have hloc:∀ j x,E0.loc[j]? = some x->j<ids.length/\∃ i,ids[j]? = some i/\E.loc.getD i none=x:=by
  intro j x M;rw[<-N]at M;simp only[jD,bB]at M;obtain⟨i,h1,I⟩:=dI.1 M;exact⟨aG h1,i,h1,I⟩
 have getD_some:∀{i:Nat} {x:Nat × Nat},E.loc.getD i none=some x->E.loc[i]? = some (some x):=by
  intro i x M;rw[bP]at M;cases he:E.loc[i]? with
  |none=>rw[he]at M; cases M
  |some y=>rw[he]at M; simp at M; rw[M]
 have hown:∀ b,E0.own b->E.own b:=by
  rintro b (⟨j,c,u⟩|⟨l,k,c,u⟩)
  ·obtain ⟨_, i, _, I⟩ := hloc j _ u
   exact .inl ⟨i,c,getD_some I⟩
  ·rw [<- N] at u
   exact .inr ⟨l,k,c,(BE u).1⟩
 have hw:E0.w=E.w:=by rw[<-N]; rfl
 have hX:E0.X.x=E.X.x:=by rw[<-N]; rfl
 have hsome:∀(l k:Nat) q,(E0.X.r l)[k]? = some (some q)->(E.X.r l)[k]? = some (some q)/\∃(j:Nat) (o:ab),E0.H[j]? = some o/\o.label=some l:=fun l k q hq=>by
  rw[<-N]at hq|-;exact BE hq
 have hatl:∀ j,j<ids.length->ids[j]? = some ((bM H ids).at j):=fun j u=>iS (e:=bM H ids) u;have hobjs:∀ j,j<ids.length->∃ sh o g1 O,os[j]? = some sh/\H[(bM H ids).at j]? = some o/\iT H (bM H ids) (jE ids) sh o=some (true,g1) /\
   (cN (cI os (g++rest)) os (g++rest))[j]? = some (fy (cI os (g++rest)) sh (g1++O)) /\
   (cI os (g++rest)).ver j=sh.up/\∀ ks v rows,o=.vec ks v rows->(cI os (g++rest)).len j=rows.length:=by
  intro j u;have hj':j<os.length:=by omega
  obtain⟨i,o,g1,O,q1,U,W,V,q5,q6⟩:=p3 j os[j] (bx hj');rw[hatl j u]at q1;cases q1;exact⟨os[j],o,g1,O,bx hj',U,W,V,q5,q6⟩
 have hK:jC H (bM H ids) (jE ids) (cI os (g++rest)) E E0:=by
  refine⟨hH,HE,fun i hi b n hb=>?_,⟨fun b hb=>⟨⟨by rw[hw]; exact hb.1,fun ho=>hb.2.1 (hown b ho),by rw[hX]; exact hb.2.2⟩,by rw[hw]⟩,hw,fun j u=>?_,fun j o l h1 I=>by rw[<-N]at h1|-; exact aar h1 I⟩,fun j o ho=>?_⟩
  ·refine ⟨by rw [hw]; exact (HE.lt _ _ _ hb).1, ?_, by rw [hX]; exact (HE.lt _ _ _ hb).2⟩
   rintro(⟨j,c,u⟩|⟨l,k,c,u⟩)
   case inr=>exact HE.cQ _ _ _ _ _ _ hb (hsome l k _ u).1
   obtain⟨_,i',h1,I⟩:=hloc j _ u;have:=HE.inj _ _ _ _ _ hb (getD_some I);subst this;exact OB hi (dJ h1)
  ·rw [<- N]
   simp only[jD,bB,hatl j u,dS];have hlt:(bM H ids).at j<E.loc.length:=by
    obtain⟨sh,o,g1,O,_,U,_⟩:=hobjs j u;rw[hElen];exact aG U
   rw[bP,bx hlt];rfl
  ·have u:j<ids.length:=by
    rcases kU j ids.length with hlt|hge
    ·exact hlt
    ·have h1 := aG ho
     have I:=uD (e:=bM H ids) hge;have h3:(bM H ids).base=H.length:=rfl;omega
   refine⟨u,?_⟩;obtain⟨sh,o',g1,O,q1,U,W,V,q5,q6⟩:=hobjs j u;rw[ho]at U;cases U;obtain⟨r1,r2,r3⟩:=Gt (lens:=cI os (g++rest)) (d:=g1++O) W;have hq4:E0.H[j]? = some (fy (cI os (g++rest)) sh (g1++O)).den:=by
    rw[<-N];exact a7 V
   exact⟨r1,⟨_,hq4,by rw[q5]; exact r2⟩,fun o0 h0=>by rw[hq4]at h0; cases h0; rw[Gq,Gr W],q6,fun hv=>by rw[q5]; exact r3 hv⟩
 have hlabs:∀(j:Nat) o,E0.H[j]? = some o->j<ids.length/\∃ o',E.H[(bM H ids).at j]? = some o'/\o'.label=o.label:=fun j o ho=>by
  rw[<-N]at ho;simp only[jD,ah,bB]at ho;obtain⟨o',h1,rfl⟩:=dI.1 ho;have u:j<ids.length:=by
   have:=aG h1;omega
  obtain⟨sh,oo,g1,O,q1,U,W,V,_⟩:=hobjs j u;rw[h1]at V;cases V;exact⟨u,oo.den,by rw[hH]; exact a7 U,by rw[Oq W,uE]⟩
 refine⟨hK,?_,?_,?_,fun b M=>?_,fun j o ho=>?_,HE.fY.bE hK.cT.bE,fun l k l' k' b m n h1 I=>HE.ff l k l' k' b m n (hsome _ _ _ h1).1 (hsome _ _ _ I).1,fun i b m l k n hi I=>?_,fun l k b m h1=>by rw[hw,hX]; exact HE.cr l k b m (hsome _ _ _ h1).1,fun i j o o' l hi u h1 I=>?_,fun l hn k q hq=>?_⟩
 ·rw [<- N]
  simp only[jD,bN,eJ,p2,p1]
 ·intro i j b m n hi u
  obtain⟨i1,i2,i3,i4⟩:=hloc i _ hi;obtain⟨j1,j2,j3,j4⟩:=hloc j _ u;have:=HE.inj _ _ _ _ _ (getD_some i4) (getD_some j4);subst this;exact(D_ i1 hn).1 (by rw[i3,j3])
 ·intro i b m hi
  obtain⟨_,i2,_,i4⟩:=hloc i _ hi;rw[hw,hX];exact HE.lt _ _ _ (getD_some i4)
 ·rw [hw]
  rw[hX]at M;exact HE.X b M
 ·rw [<- N] at ho
  simp only[jD,ah,bB]at ho;obtain⟨o',h1,rfl⟩:=dI.1 ho;have u:j<ids.length:=by
   have:=aG h1;omega
  obtain⟨sh,oo,g1,O,q1,U,W,V,q5,q6⟩:=hobjs j u;rw[h1]at V;cases V;refine Ox hK W O (by exact u) (fun l hl=>?_) (HE.obj _ _ (by rw[hH]; exact a7 U));refine hK.cT.kF j (fy (cI os (g++rest)) sh (g1++O)).den l ?_ (by rw[uE,hl]);rw[<-N];exact a7 h1
 ·obtain ⟨_, i', _, h3⟩ := hloc i _ hi
  exact HE.cQ _ _ _ _ _ _ (getD_some h3) (hsome _ _ _ I).1
 ·obtain ⟨i1, oi, a1, a2⟩ := hlabs i o hi
  obtain⟨j1,oj,b1,b2⟩:=hlabs j o' u;have:=HE.uniq _ _ _ _ l a1 b1 (by rw[a2,h1]) (by rw[b2,I]);exact(D_ i1 hn).1 (by rw[hatl i i1,hatl j j1,this])
 ·obtain ⟨_, j, o, h1, I⟩ := hsome l k q hq
  exact hn j o h1 I
def nodupB:List Nat->Bool
 | []=>true
 |i::is => !is.any (ai i)&&nodupB is
theorem uH:∀{l:List Nat},nodupB l=true->l.Nodup
 | [],_=>List.nodup_nil
 | i::is,h=>by
  simp only[nodupB,ax,qW]at h;refine nq.2 ⟨fun hm=>?_,uH h.2⟩;have:is.any (ai i)=true:=lI.2 ⟨i,hm,by simp⟩;rw[h.1]at this;cases this
def oP(H:List af):Nat->Nat->List Nat->List bA->Bool
 |_,0,_,_=>true
 |i,m+1,id::ids,o::os=>ai id i&&((ai (uG H i) 0 || !ai o.up 0)&&oP H (i+1) m ids os)
 |_,_,_,_=>false
theorem BF{H:List af}:∀{i m:Nat} {ids:List Nat} {os:List bA},oP H i m ids os=true->∀ j,j<m->ids[j]? = some (i+j)/\∃ o,os[j]? = some o/\(uG H (i+j)=0\/o.up≠0)
 |_,0,_,_,_,j,g=>by omega
 | i,m+1,id::ids,o::os,h,j,g=>by
  simp only[oP,ax,Bool.or_eq_true,qW]at h;obtain⟨h1,d,k⟩:=h;have h1:=ba h1;subst h1;cases j with
  | zero =>
   refine⟨rfl,o,rfl,?_⟩;rcases d with d|d
   ·exact .inl (ba d)
   ·right
    intro e;rw[e]at d;cases d
  | succ j =>
   have:=BF k j (by omega);rw[show id+1+j=id+(j+1) from by omega]at this;simpa using this
 |_,_+1,[],_,h,_,_=>by simp[oP]at h
 |_,_+1,_::_,[],h,_,_=>by simp[oP]at h
theorem OD{E:Env}{H:List af}(hH:E.H=ah H){ids:List Nat}{os:List bA}{m:Nat}{lens:dh}{E0:Env}(y:jC H (bM H ids) (jE ids) lens E E0)(hX:E0.X.x=E.X.x/\E0.X.z=E.X.z)
  (hrl:∀ l h,h<(E.X.r l).length->h<(E0.X.r l).length/\∀ q,(E0.X.r l)[h]? = some (some q)->(E.X.r l)[h]? = some (some q))
  (hok:oP H 0 m ids os=true) (hobj:∀ j,j<m->∃ o sh,H[(bM H ids).at j]? = some o/\os[j]? = some sh/\lens.ver j=sh.up) (hown:∀ b,E0.own b->E.own b):E.fS m E0:=by
 have key:∀ id,id<m->(bM H ids).at id=id/\∃ o sh,H[id]? = some o/\os[id]? = some sh/\lens.ver id=sh.up/\(uF o=0\/sh.up≠0)/\BD E0 lens id o/\id<ids.length:=by
  intro id hid;obtain⟨h1,o',O,I⟩:=BF hok id hid;rw[cn]at h1 I;have N:=aG h1;have g:=iS (e:=bM H ids) (j:=id) N;rw[show (bM H ids).ids=ids from rfl,h1]at g;have g:=(iM g).symm;obtain⟨o,sh,d,k,M⟩:=hobj id hid;obtain⟨r1,r2⟩:=y.obj id o d;rw[g]at d;rw[O]at k;have k:=iM k;rw[<-k]at M;refine⟨g,o,o',d,O,M,?_,r2,N⟩;rcases I with I|I
  ·left
   simpa[uG,d]using I
  ·exact .inr I
 refine⟨fun id hid hp=>?_,by rw[y.cT.w]; exact aB _,fun b _ _=>by rw[y.cT.w],fun b _ hb ho=>hb (hown b ho),fun id hid hp hl=>?_,fun b _=>by rw[hX.1,hX.2]; exact⟨Iff.rfl,Iff.rfl⟩,hrl,by rw[y.cT.w]; exact⟨rfl,rfl,rfl,by first|exact fun _=>aB _|exact fun _=>fV _ _⟩,fun id hid l o h1 O _=>?_⟩
 rotate_right
 ·obtain ⟨g, o1, sh, d, k, M, U, u, N⟩ := key id hid
  obtain⟨o0,r1,r2⟩:=u.obj;rw[hH,a7 d]at h1;cases h1;have hm:=u.mm o0 r1;rw[O]at hm;exact⟨⟨[],by rw[cB]; exact y.cT.kF id o0 l r1 (ab.mz hm)⟩,o0,r1,hm⟩
 ·obtain ⟨_, o, sh, d, k, M, U, u, _⟩ := key id hid
  obtain⟨o0,r1,r2⟩:=u.obj;exact⟨o0,r1,ab.Ek r2,fun v _=>dX v⟩
 ·obtain ⟨g, o, sh, d, k, M, U, u, N⟩ := key id hid
  obtain⟨o0,r1,r2⟩:=u.obj;obtain⟨o1,r3,V⟩:=hl;rw[r1]at r3;cases r3;rw[r2]at V;have W:lens.ver id=0:=iM V;rw[M]at W;have hv:uF o=0:=U.resolve_right (fun h=>h W);refine⟨⟨o.den,by rw[hH]; exact a7 d,by rw[u.ver,hv]⟩,?_⟩;have:=y.cT.loc id N;rw[g]at this;exact this
structure oQ where
 n:Nat
 x_:List (Nat × Sh)
 cY:List bA
def uI:Nat->List (Nat × Sh)->List AV->AV
 | i,(j,_)::d,v::vs=>match ai i j with
  |true=>v
  |false=>uI i d vs
 |_,_,_=>.undef
def bH(S:oQ)(d:List G):ak :=
 ⟨(dB S.n).map fun i=>uI i S.x_ (fU (cI S.cY d) (S.x_.map (·.2)) (ew (nL S.cY) d)),cN (cI S.cY d) S.cY d⟩
def Gu(m:Nat)(S:oQ)(ids:List Nat)(s:ak):Option (Bool × List G) :=
 match ai s.fr.length S.n&&(nodupB ids&&oP s.H 0 m ids S.cY)with
 |false=>none
 | true=>match kH s.H (bM s.H ids) (jE ids) S.cY ids,fi s.H (bM s.H ids) (jE ids) (S.x_.map (·.2)) (S.x_.map fun p=>s.fr.getD p.1 .undef) with
  |some (b,g),some (d,k)=>some (b&&d,g++k)
  |_,_=>none
theorem OE{E:Env}:∀{d:List (Nat × Sh)} {vs:List AV} {cs:List Value} {i:Nat} {c:Value},(∀(k:Nat) (p:Nat × Sh) (v:AV),d[k]? = some p->vs[k]? = some v->∀ c,cs[p.1]? = some c->rel E v c)->cs[i]? = some c ->
  rel E (uI i d vs) c
 | [],_,_,_,_,_,_=>by simp[uI,rel]
 |_::_,[],_,_,_,_,_=>by simp[uI,rel]
 | (j,sh)::d,v::vs,cs,i,c,h,g=>by
  simp only[uI];split
  ·rename_i e
   have e:=ba e;subst e;exact h 0 (i,sh) v rfl rfl c g
  ·exact OE (fun k p v hk q=>h (k+1) p v (by simpa using hk) (by simpa using q)) g
theorem aat{m:Nat}{S:oQ}{ids:List Nat}{s:ak}{d:List G}(h:Gu m S ids s=some (true,d)):bh m s.den (bH S d).den:=fun E a y=>by
 unfold Gu at h;split at h
 ·cases h
 rename_i q;simp only[ax]at q;obtain⟨hlen,I,O⟩:=q;have hlen:=ba hlen;have I:=uH I;split at h
 case h_2=>cases h
 rename_i b g b' u h1 W;simp only[aM,aU,ax]at h;obtain⟨⟨rfl,rfl⟩,rfl⟩:=h;have hH:E.H=ah s.H:=y.H;obtain⟨N,hHR⟩:=OC hH y.heap I h1 u;obtain⟨p0,p1,p2,p3⟩:=x9 h1 u (cI S.cY (g++u));have hd:ew (nL S.cY) (g++u)=u:=by rw[<-p0]; exact qc g u
 have hS:=x8 N W [];rw[cB]at hS;obtain⟨q1,q2,q3,q4⟩:=hS;refine⟨ids.map fun i=>E.loc.getD i none,E.X.re (oO E (bH S (g++u)).den.H),⟨rfl,?_,y.defers,hHR⟩,?_⟩
 ·have hfr : ae E s.fr a.tmps.toList := y.fr
  obtain⟨f1,f2⟩:=ow.1 hfr;refine ow.2 ⟨?_,fun i x c hi q=>?_⟩
  ·simp only [ak.den, bH, bN, List.length_range]
   omega
  ·simp only [ak.den, bH, hd, bB] at hi
   obtain⟨i',M,rfl⟩:=dI.1 hi;have hin:i<S.n:=by
    have:=aG M;simpa using this
   rw[List.getElem?_range hin]at M;cases M;refine OE (cs:=a.tmps.toList) (fun k p v hk hv c q=>?_) q;have hk2:(S.x_.map fun p=>s.fr.getD p.1 .undef)[k]? = some (s.fr.getD p.1 .undef):=by simp[hk]
   have hx:rel E (s.fr.getD p.1 .undef) c:=by
    have U:=aG q;rw[<-f1]at U;have e1:s.fr[p.1]? = some (s.fr.getD p.1 .undef):=by
     rw[bP,bx U];rfl
    exact f2 p.1 _ c e1 q
   exact Ow N W hk2 (by rw[cB]; exact hv) hx
 ·exact OD hH N ⟨rfl,rfl⟩ (Oz E _ ids) O (fun j hj=>by
   obtain⟨r1,o',r2,_⟩:=BF O j hj;obtain⟨i,o,g1,rest1,t1,t2,t3,t4,t5,t6⟩:=p3 j o' r2;have V:=iS (e:=bM s.H ids) (j:=j) (aG t1);rw[show (bM s.H ids).ids=ids from rfl,t1]at V;cases V;exact⟨o,o',t2,r2,t5⟩) (fun b=>OA)
def Gv(slot:Nat)(s:ak):ak :=
 match s.fr.getD slot .undef with
 | .vec w id ver off n=>match s.H[id]? with
  |some (.vec ks v rows)=>if ver=v/\off=0/\w=ks.length then ⟨s.fr.set slot (.vec w id (v+1) 0 n),s.H.set id (.vec ks (v+1) (rows.take n))⟩ else s
  |_=>s
 |_=>s
theorem BG{E:Env}{a:AV}:∀{fr:List AV} {cs:List Value} {i:Nat},ae E fr cs->(∀ c,cs[i]? = some c->rel E a c)->ae E (fr.set i a) cs
 | [],cs,i,h,_=>by simpa using h
 |x::fr,[],i,h,_=>by simp[ae]at h
 | x::fr,c::cs,0,h,ha=>by
  simp only[ae]at h;simp only[List.set_cons_zero,ae];exact⟨ha c rfl,h.2⟩
 | x::fr,c::cs,i+1,h,ha=>by
  simp only[ae]at h;simp only[List.set_cons_succ,ae];exact⟨h.1,BG h.2 fun y d=>ha y (by simpa using d)⟩
theorem Gw{E:Env}{fr:List AV}{cs:List Value}{i:Nat}{c:Value}(h:ae E fr cs)(g:cs[i]? = some c):rel E (fr.getD i .undef) c:=by
 obtain⟨h1,k⟩:=ow.1 h;have d:=aG g;rw[<-h1]at d;have q:fr[i]? = some (fr.getD i .undef):=by
  rw[bP,bx d];rfl
 exact k i _ c q g
theorem aau{m:Nat}{slot:Nat}{s:ak}:bh m s.den (Gv slot s).den:=by
 unfold Gv;split
 case h_2=>exact bh.refl _
 rename_i w id ver off n hsl;split
 case h_2=>exact bh.refl _
 rename_i ks v rows hid;split
 case isFalse=>exact bh.refl _
 rename_i y;obtain⟨rfl,rfl,rfl⟩:=y;intro E a d;have hH:E.H=ah s.H:=d.H;have q:E.H[id]? = some (.vec ks.length ver (rows.map (aD ks))):=by rw[hH]; exact a7 hid
 have ho:=d.heap.obj id _ q;obtain⟨l,I⟩:∃ l,E.loc[id]? = some l:=by
  have:id<E.loc.length:=by rw[d.heap.len]; exact aG q
  exact⟨_,bx this⟩
 have O:E.loc.set id l=E.loc:=nE I;have N:ah (s.H.set id (.vec ks (ver+1) (rows.take n)))=E.H.set id (.vec ks.length (ver+1) ((rows.take n).map (aD ks))):=by rw[ct,hH]; rfl
 have hlc:∀ b n,l=some (b,n)->E.w.heap.size<=b\/∃ m,E.loc[id]? = some (some (b,m)):=fun b n hb=>.inr ⟨n,by rw[I,hb]⟩;have U:∀ v u,(ab.vec ks.length (ver+1) ((rows.take n).map (aD ks))).aF = some v->(ab.vec ks.length ver (rows.map (aD ks))).aF = some u->u<=v:=by
  intro v u h1 k;simp[ab.aF]at h1 k;omega
 have V:∀ v,(ab.vec ks.length (ver+1) ((rows.take n).map (aD ks))).aF = some v->∀ u,(ab.vec ks.length ver (rows.map (aD ks))).aF = some u->u<v:=by
  intro v h1 u k;simp[ab.aF]at h1 k;omega
 have hle:=Env.k_ (o':=.vec ks.length (ver+1) ((rows.take n).map (aD ks))) (l:=l) (w':=E.w) q d.heap.len (aB _) (fun _ _ _=>rfl) hlc (.inr V) U (fun _ h=>by simp[ab.aF]at h);have W:=al.mE (o':=.vec ks.length (ver+1) ((rows.take n).map (aD ks))) (l:=l) (w':=E.w) d.heap q (aB _) (fun _ _ _=>rfl) (fun b n hb=>.inr ⟨n,by rw[I,hb]⟩) (.inr V) U (fun _ h=>by simp[ab.aF]at h) (by
  rw[O]at hle|-;simp only[aI]at ho|-;rcases ho with⟨h1,k⟩|⟨b,mm,h1,k,M,h4,h5⟩
  ·left
   refine⟨h1,?_⟩;have:rows=[]:=by simpa using k
   rw[this];simp
  ·right
   refine⟨b,mm,h1,k,by simp at M|-; omega,?_,?_⟩
   ·intro r hr
    obtain⟨g,_,rfl⟩:=cH.1 hr;exact fW ks g
   ·rw [mD] at h5 |-
    intro i r hi;simp only[bB,nk]at hi;split at hi
    ·obtain ⟨g1, g2⟩ := h5 i r (by simpa using hi)
     exact⟨g1,AB (fun a c hr=>bg hle a hr) rfl g2⟩
    ·simp at hi)
 rw[O]at hle W;refine⟨E.loc,E.X,?_,?_⟩
 ·simp only [ak.den]
  rw[N];refine⟨rfl,?_,d.defers,W⟩;refine BG (dw hle _ d.fr) fun c y=>?_;have hr:=Gw d.fr y;rw[show s.den.fr=s.fr from rfl,hsl]at hr;simp only[rel]at hr|-;obtain⟨h1,k,M⟩:=hr;exact⟨h1,⟨.vec ks.length (ver+1) ((rows.take n).map (aD ks)),bf (aG q),rfl,fun v hv=>by simp[ab.aF]at hv; omega⟩,fun _=>M ⟨_,q,rfl⟩⟩
 ·simp only [ak.den]
  rw[N];exact hle.toM
end Go.AL

namespace Go.AL
open Go
variable [Dr]
def Tree.leaf{β:Type}(f:bU->ak->Option (Bool × β)):Tree->Option β
 |.fail=>none
 | .done x s=>match f x s with
  |some (b,r)=>bif b then some r else none
  |none=>none
 |.ask b t e=>bif b then t.leaf f else e.leaf f
 |.side b t=>bif b then t.leaf f else none
theorem qd{β:Type}{f:bU->ak->Option (Bool × β)}:∀{t:Tree} {r:β},t.leaf f=some r->t.holds fun x s=>f x s=some (true,r)
 |.fail,_,h=>by cases h
 | .done x s,r,h=>by
  simp only[Tree.leaf]at h;split at h
  ·rename_i b r' d
   cases b with
   |true=>cases h; exact d
   |false=>cases h
  ·cases h
 | .ask b t e,r,h=>by
  cases b with
  |true=>exact⟨fun _=>qd (t:=t) h,fun h=>by cases h⟩
  |false=>exact⟨fun h=>(nomatch h),fun _=>qd (t:=e) h⟩
 | .side b t,r,h=>by
  cases b with
  |true=>exact And.intro rfl (qd (t:=t) h)
  |false=>cases h
inductive lr where
 |fix (i:Nat)
 |slot (i:Nat)
 |cap (i c:Nat)
 |cell (j c:Nat)
 |Gx (j c k:Nat)
def BH:AV->Option Nat
 |.ptr id _ _ _ _=>some id
 |.vec _ id _ _ _=>some id
 |.map id=>some id
 |_=>none
def BI(H:List af)(vals:Nat->AV)(acc:List Nat):lr->Option Nat
 |.fix i=>some i
 |.slot i=>BH (vals i)
 | .cap i c=>match vals i with
  |.clo _ cs=>BH (cs.getD c .undef)
  |_=>none
 | .cell j c=>match H[acc.getD j 0]? with
  |some (.raw (.box cells))=>BH (cells.getD c .undef)
  |_=>none
 | .Gx j c k=>match H[acc.getD j 0]? with
  | some (.raw (.box cells))=>match cells.getD c .undef with
   |.clo _ cs=>BH (cs.getD k .undef)
   |_=>none
  |_=>none
def kI(H:List af)(vals:Nat->AV):List lr->List Nat->Option (List Nat)
 | [],acc=>some acc
 | p::ps,acc=>match BI H vals acc p with
  |some i=>kI H vals ps (acc++[i])
  |none=>none
structure uJ where
 x:bU
 S:oQ
 ps:List lr
structure bq where
 key:Nat
 opens:List (Nat × List Kd)
 inv:oQ
 ps:List lr
 outs:List uJ
 st:List G->Option (Option Nat × List G)
def r8(st:List G->Option (Option Nat × List G)):Nat->List G->Option (Nat × List G)
 |0,_=>none
 | n+1,d=>match st d with
  |some (none,d')=>r8 st n d'
  |some (some x,d')=>some (x,d')
  |none=>none
def bV(st:List G->Option (Option Nat × List G))(d:List G):Option (Nat × List G):=r8 st 1000000 d
def Gy(r:Option (Nat × List G)):Nat:=match r with
 |some (x,_)=>x
 |none=>0
def Gz(r:Option (Nat × List G)):List G:=match r with
 |some (_,d)=>d
 |none=>[]
def l7(m:Nat)(S:oQ)(ps:List lr)(s:ak):Option (Bool × List G) :=
 match kI s.H (fun i=>s.fr.getD i .undef) ps []with
 |some ids=>Gu m S ids s
 |none=>none
theorem oR{m:Nat}{S:oQ}{ps:List lr}{s:ak}{d:List G}(h:l7 m S ps s=some (true,d)):bh m s.den (bH S d).den:=by
 unfold l7 at h;split at h
 ·exact aat h
 ·cases h
def kJ:List (Nat × List Kd)->ak->ak
 | [],s=>s
 | (i,ks)::r,s=>match dD 1000000 i with
  |true=>kJ r (Gv (i-1000000) s)
  | false=>match isNil (s.fr.getD i .undef) with
   |true=>kJ r (xV i ks s)
   |false=>kJ r s
theorem oS{m:Nat}:∀(l:List (Nat × List Kd)) (s:ak),bh m s.den (kJ l s).den
 | [],s=>bh.refl _
 | (i,ks)::r,s=>by
  simp only[kJ];split
  ·exact aau.trans (oS r _)
  ·split
   ·rename_i h
    exact(Oa h).trans (oS r _)
   ·exact oS r s
def r9(m:Nat):List uJ->Nat->bU->ak->Option (Bool × (Option Nat × List G))
 | [],_,_,_=>none
 | o::os,i,x,s=>match decide (x=o.x) with
  | true=>match l7 m o.S o.ps s with
   |some (b,d)=>some (b,(some i,d))
   |none=>none
  |false=>r9 m os (i+1) x s
def BJ(m:Nat)(sp:bq)(x:bU)(s:ak):Option (Bool × (Option Nat × List G)) :=
 match x with
 | .normal=>match l7 m sp.inv sp.ps s with
  |some (b,d)=>some (b,(none,d))
  |none=>none
 |x=>r9 m sp.outs 0 x (kJ sp.opens s)
theorem BK{m:Nat}:∀{os:List uJ} {i:Nat} {x:bU} {s:ak} {b:Bool} {k:Option Nat} {d:List G},r9 m os i x s=some (b,(k,d)) ->
  ∃ j o,os[j]? = some o/\k=some (i+j)/\x=o.x/\l7 m o.S o.ps s=some (b,d)
 | [],_,_,_,_,_,_,h=>by cases h
 | o::os,i,x,s,b,k,d,h=>by
  simp only[r9]at h;split at h
  ·rename_i g
   split at h
   ·rename_i y d' hr
    cases h;exact⟨0,o,rfl,rfl,of_decide_eq_true g,hr⟩
   ·cases h
  ·obtain ⟨j, o', h1, q, u, v⟩ := BK h
   exact⟨j+1,o',by simpa using h1,by rw[q]; congr 1; omega,u,v⟩
section loops
variable {P:Program} {τ:au} {L:LT} {m:Nat} {c:Code} {sp:bq}
def cA(P:Program)(τ:au)(L:LT)(m:Nat)(c:Code)(sp:bq):Prop:=∀ d,(gu P τ L c (bH sp.inv d) .done).leaf (BJ m sp)=sp.st d
theorem OF(hm:P.follows .mixedOrders=true)(q:aw P τ)(u:ay P m L c)(hr:cA P τ L m c sp){d d':List G}{k:Option Nat}(h:sp.st d=some (k,d')) :
  (k = none /\ dp P m c (bH sp.inv d).den .normal (bH sp.inv d').den) \/
   ∃ j o,k=some j/\sp.outs[j]? = some o/\o.x≠.normal/\dp P m c (bH sp.inv d).den o.x (bH o.S d').den:=by
 rw[<-hr d]at h;obtain⟨x,s1,h1,g⟩:=lZ hm q c (bH sp.inv d) .done u (Q:=fun x s=>BJ m sp x s=some (true,(k,d'))) (qd h);have g:BJ m sp x s1=some (true,(k,d')):=g;unfold BJ at g;split at g
 ·split at g
  ·rename_i b d2 v
   cases g;exact .inl ⟨rfl,ua h1 (oR v)⟩
  ·cases g
 ·rename_i y
  obtain⟨j,o,g1,g2,rfl,g4⟩:=BK g;exact .inr ⟨j,o,by simpa using g2,g1,fun e=>y e,ua h1 ((oS sp.opens s1).trans (oR g4))⟩
theorem OG(hm:P.follows .mixedOrders=true)(g:aw P τ)(k:ay P m L c)(hr:cA P τ L m c sp):∀(n:Nat) {d d':List G} {x:Nat},r8 sp.st n d=some (x,d') ->
  ∃ o,sp.outs[x]? = some o/\lS P m c (bH sp.inv d).den o.x (bH o.S d').den
 |0,_,_,_,h=>by cases h
 | n+1,d,d',x,h=>by
  simp only[r8]at h;split at h
  ·rename_i d1 h1
   rcases OF hm g k hr h1 with⟨_,q⟩|⟨_,_,hk,_⟩
   ·obtain ⟨o, g1, g2⟩ := OG hm g k hr n h
    exact⟨o,g1,.next q g2⟩
   ·cases hk
  ·rename_i u d1 h1
   cases h;rcases OF hm g k hr h1 with⟨hk,_⟩|⟨j,o,hk,g1,g2,g3⟩
   ·cases hk
   ·cases hk
    exact⟨o,g1,.stop g3 g2⟩
  ·cases h
def ya(r:Option (Nat × List G)):List uJ->Nat->Tree
 | [],_=>.fail
 | [o],_=>.done o.x (bH o.S (Gz r))
 |o::os,i=>.ask (ai (Gy r) i) (.done o.x (bH o.S (Gz r))) (ya r os (i+1))
theorem BL{x:Nat}{d:List G}{Q:bU->ak->Prop}:∀{os:List uJ} {i j:Nat} {o:uJ},os[j]? = some o->x=i+j->(ya (some (x,d)) os i).holds Q->Q o.x (bH o.S d)
 | [],_,_,_,h,_,_=>by simp at h
 | [o],i,j,o',h,k,g=>by
  cases j with
  | zero =>
   simp at h;subst h;exact g
  |succ j=>simp at h
 | o::o2::os,i,j,o',h,k,g=>by
  simp only[ya,Tree.holds]at g;cases j with
  | zero =>
   simp at h;subst h;exact g.1 (by simp only[Gy]; rw[k]; simp)
  | succ j =>
   refine BL (os:=o2::os) (i:=i+1) (j:=j) (by simpa using h) (by omega) (g.2 ?_);have:x≠i:=by omega
   exact alU.2 fun e=>this (ba e)
def GA(m:Nat)(sp:bq)(s:ak):Option Tree :=
 match l7 m sp.inv sp.ps (kJ sp.opens s)with
 |some (b,d)=>some (.side (rZ b (bV sp.st d).isSome) (ya (bV sp.st d) sp.outs 0))
 |none=>none
theorem aav(hm:P.follows .mixedOrders=true)(u:aw P τ)(v:ay P m L c)(hr:cA P τ L m c sp){s:ak}{t:Tree}(h:GA m sp s=some t):NO P m c s t:=by
 unfold GA at h;split at h
 case h_2=>cases h
 rename_i b d y;cases h;intro Q k;simp only[Tree.holds,r7,ax]at k;obtain⟨⟨rfl,h1⟩,q⟩:=k;cases g:bV sp.st d with
 |none=>rw[g]at h1; cases h1
 | some r =>
  obtain⟨x,d'⟩:=r;obtain⟨o,g1,g2⟩:=OG hm u v hr 1000000 g;exact⟨o.x,_,g2.pre ((oS sp.opens s).trans (oR y)),BL g1 (cn x).symm (by rw[g]at q; exact q)⟩
def LT.add(L:LT)(m:Nat)(sp:bq):LT:=⟨fun k s=>match ai k sp.key with
 |true=>GA m sp s
 |false=>L.loops k s,L.pre,L.xR⟩
theorem qe:∀{c:Code} {k:Nat} {g:Code},(k,g)∈bO c->∀ p,p∈bO g->p∈bO c
 | .seq a b,k,g,h,p,d=>by
  simp only[bO,cw]at h|-;rcases h with h|h
  ·exact .inl (qe h p d)
  ·exact .inr (qe h p d)
 | .cond _ a b,k,g,h,p,d=>by
  simp only[bO,cw]at h|-;rcases h with h|h
  ·exact .inl (qe h p d)
  ·exact .inr (qe h p d)
 | .block _ c,k,g,h,p,d=>by
  simp only[bO]at h|-;exact qe h p d
 | .loop c,k,g,h,p,d=>by
  simp only[bO]at h|-;split at h
  ·rename_i i hi
   rcases bC.1 h with e|h
   ·cases e
    exact cq _ d
   ·exact cq _ (qe h p d)
  ·exact qe h p d
 |.skip,_,_,h,_,_=>by simp[bO]at h
 |.region ..,_,_,h,_,_=>by simp[bO]at h
 |.exit _,_,_,h,_,_=>by simp[bO]at h
 |.ret,_,_,h,_,_=>by simp[bO]at h
 |.rangeFunc ..,_,_,h,_,_=>by simp[bO]at h
 |.scope _,_,_,h,_,_=>by simp[bO]at h
 |.label _,_,_,h,_,_=>by simp[bO]at h
 |.goto _,_,_,h,_,_=>by simp[bO]at h
 |.refuse _,_,_,h,_,_=>by simp[bO]at h
theorem qf:∀{c:Code} {k:Nat} {g:Code},(k,g)∈bO c->∀ p,p∈bR g->p∈bR c
 | .seq a b,k,g,h,p,d=>by
  simp only[bO,bR,cw]at h|-;rcases h with h|h
  ·exact .inl (qf h p d)
  ·exact .inr (.inr (qf h p d))
 | .cond _ a b,k,g,h,p,d=>by
  simp only[bO,bR,cw]at h|-;rcases h with h|h
  ·exact .inl (qf h p d)
  ·exact .inr (qf h p d)
 | .block _ c,k,g,h,p,d=>by
  simp only[bO,bR]at h|-;exact qf h p d
 | .loop c,k,g,h,p,d=>by
  simp only[bO,bR]at h|-;split at h
  ·rename_i i hi
   rcases bC.1 h with e|h
   ·cases e
    exact d
   ·exact qf h p d
  ·exact qf h p d
 |.skip,_,_,h,_,_=>by simp[bO]at h
 |.region ..,_,_,h,_,_=>by simp[bO]at h
 |.exit _,_,_,h,_,_=>by simp[bO]at h
 |.ret,_,_,h,_,_=>by simp[bO]at h
 |.rangeFunc ..,_,_,h,_,_=>by simp[bO]at h
 |.scope _,_,_,h,_,_=>by simp[bO]at h
 |.label _,_,_,h,_,_=>by simp[bO]at h
 |.goto _,_,_,h,_,_=>by simp[bO]at h
 |.refuse _,_,_,h,_,_=>by simp[bO]at h
theorem qg:∀{c:Code} {k:Nat} {g:Code},(k,g)∈bR c->∀ p,p∈bO g->p∈bO c
 | .seq a b,k,g,h,p,d=>by
  simp only[bO,bR,cw]at h|-;rcases h with h|h|h
  ·exact .inl (qg h p d)
  ·right
   split at h
   ·rcases bC.1 h with e | h
    ·cases e
     exact d
    ·cases h
   ·cases h
  ·exact .inr (qg h p d)
 | .cond _ a b,k,g,h,p,d=>by
  simp only[bO,bR,cw]at h|-;rcases h with h|h
  ·exact .inl (qg h p d)
  ·exact .inr (qg h p d)
 | .block _ c,k,g,h,p,d=>by
  simp only[bO,bR]at h|-;exact qg h p d
 | .loop c,k,g,h,p,d=>by
  simp only[bR]at h;have:=qg h p d;simp only[bO];split
  ·exact cq _ this
  ·exact this
 |.skip,_,_,h,_,_=>by simp[bR]at h
 |.region ..,_,_,h,_,_=>by simp[bR]at h
 |.exit _,_,_,h,_,_=>by simp[bR]at h
 |.ret,_,_,h,_,_=>by simp[bR]at h
 |.rangeFunc ..,_,_,h,_,_=>by simp[bR]at h
 |.scope _,_,_,h,_,_=>by simp[bR]at h
 |.label _,_,_,h,_,_=>by simp[bR]at h
 |.goto _,_,_,h,_,_=>by simp[bR]at h
 |.refuse _,_,_,h,_,_=>by simp[bR]at h
theorem qh:∀{c:Code} {k:Nat} {g:Code},(k,g)∈bR c->∀ p,p∈bR g->p∈bR c
 | .seq a b,k,g,h,p,d=>by
  simp only[bR,cw]at h|-;rcases h with h|h|h
  ·exact .inl (qh h p d)
  ·right
   right;split at h
   ·rcases bC.1 h with e | h
    ·cases e
     exact d
    ·cases h
   ·cases h
  ·exact .inr (.inr (qh h p d))
 | .cond _ a b,k,g,h,p,d=>by
  simp only[bR,cw]at h|-;rcases h with h|h
  ·exact .inl (qh h p d)
  ·exact .inr (qh h p d)
 | .block _ c,k,g,h,p,d=>by
  simp only[bR]at h|-;exact qh h p d
 | .loop c,k,g,h,p,d=>by
  simp only[bR]at h|-;exact qh h p d
 |.skip,_,_,h,_,_=>by simp[bR]at h
 |.region ..,_,_,h,_,_=>by simp[bR]at h
 |.exit _,_,_,h,_,_=>by simp[bR]at h
 |.ret,_,_,h,_,_=>by simp[bR]at h
 |.rangeFunc ..,_,_,h,_,_=>by simp[bR]at h
 |.scope _,_,_,h,_,_=>by simp[bR]at h
 |.label _,_,_,h,_,_=>by simp[bR]at h
 |.goto _,_,_,h,_,_=>by simp[bR]at h
 |.refuse _,_,_,h,_,_=>by simp[bR]at h
def a6(fn:Func):Code:=match fn.body with
 |some c=>c
 |none=>.skip
theorem aaw{fn:Func} (g:nodupB ((bO (a6 fn)).map (·.1))=true) {k:Nat} {d:Code} (h:(k,d)∈bO (a6 fn)):d=cF fn k:=by
 have key:∀(l:List (Nat × Code)),(l.map (·.1)).Nodup->(k,d)∈l->l.find? (fun p=>ai p.1 k)=some (k,d):=by
  intro l
  induction l with
  |nil=>intro _ h; cases h
  | cons p l v =>
   intro q hm;simp only[bX,nq]at q;rcases bC.1 hm with rfl|hm
   ·simp
   ·have u:p.1≠k:=by
     intro e;exact q.1 (cH.2 ⟨(k,d),hm,e.symm⟩)
    have:ai p.1 k=false:=alU.2 fun e=>u (ba e);rw[alV (by simp[this])];exact v q.2 hm
 unfold cF;unfold a6 at g h;split
 ·rename_i c hb
  rw[hb]at g h;simp only[]at g h;rw[key _ (uH g) h]
 ·rename_i hb
  rw[hb]at h;simp[bO]at h
theorem ay.add(hm:P.follows .mixedOrders=true)(q:aw P τ){fn:Func} (u:nodupB ((bO (a6 fn)).map (·.1))=true) (g:ay P m L (a6 fn)) (hr:cA P τ L m (cF fn sp.key) sp) :
  ay P m (L.add m sp) (a6 fn):=by
 refine⟨fun k v hk s t d=>?_,g.2⟩;simp only[LT.add]at d;split at d
 ·rename_i e
  have e:=ba e;subst e;have y:=aaw u hk;rw[<-y]at hr;exact aav hm q (g.sub (qe hk) (qf hk)) hr d
 ·exact g.1 k v hk s t d
def cutAt(fn:Func)(k:Nat):Code:=match fn.body with
 | some c=>match (bR c).find? fun p=>ai p.1 k with
  |some (_,b)=>b
  |none=>.skip
 |none=>.skip
def qi(k:Nat):List (Nat × Code)->Bool
 | []=>true
 | p::l=>match ai p.1 k with
  |true => !l.any (fun q=>ai q.1 k)
  |false=>qi k l
theorem OH{k:Nat}{g:Code}:∀{l:List (Nat × Code)},qi k l=true->(k,g)∈l->l.find? (fun p=>ai p.1 k)=some (k,g)
 | [],_,h=>by cases h
 | p::l,ho,hm=>by
  simp only[qi]at ho;cases d:ai p.1 k with
  | true =>
   rw[d]at ho;simp only[qW]at ho;rcases bC.1 hm with rfl|hm
   ·rw[List.find?_cons_of_pos (by simp)]
   ·have : l.any (fun q => ai q.1 k) = true := lI.2 ⟨(k, g), hm, by simp⟩
    rw[this]at ho;cases ho
  | false =>
   rw[d]at ho;rcases bC.1 hm with rfl|hm
   ·simp at d
   ·rw [alV (by simp [d])]
    exact OH ho hm
theorem OI{fn:Func}{k:Nat}{g:Code} (d:qi k (bR (a6 fn))=true) (h:(k,g)∈bR (a6 fn)):g=cutAt fn k:=by
 unfold cutAt;unfold a6 at d h;split
 ·rename_i c hb
  rw[hb]at d h;simp only[]at d h;rw[OH d h]
 ·rename_i hb
  rw[hb]at h;simp[bR]at h
def cG(r:Option (Option Nat × List G)):Option (Nat × List G):=match r with
 |some (some x,d)=>some (x,d)
 |_=>none
def yb(m:Nat)(sp:bq)(s:ak):Option Tree :=
 match l7 m sp.inv sp.ps (kJ sp.opens s)with
 |some (b,d)=>some (.side (rZ b (cG (sp.st d)).isSome) (ya (cG (sp.st d)) sp.outs 0))
 |none=>none
def gx(P:Program)(τ:au)(L:LT)(m:Nat)(c:Code)(sp:bq):Prop:=∀ d,(gu P τ L c (bH sp.inv d) .done).leaf (r9 m sp.outs 0)=sp.st d
theorem aax(hm:P.follows .mixedOrders=true)(y:aw P τ)(I:ay P m L c)(hr:gx P τ L m c sp){s:ak}{t:Tree}(h:yb m sp s=some t):Ga P m c s t:=by
 unfold yb at h;split at h
 case h_2=>cases h
 rename_i b d M;cases h;intro Q q;simp only[Tree.holds,r7,ax]at q;obtain⟨⟨rfl,h1⟩,u⟩:=q;cases g:sp.st d with
 |none=>rw[g]at h1; cases h1
 | some r =>
  obtain⟨k,d'⟩:=r;cases k with
  |none=>rw[g]at h1; cases h1
  | some i =>
   rw[<-hr d]at g;obtain⟨x,s1,g1,g2⟩:=lZ hm y c (bH sp.inv d) .done I (Q:=fun x s=>r9 m sp.outs 0 x s=some (true,(some i,d'))) (qd g);obtain⟨j,o,N,v,O,U⟩:=BK g2;simp only[aM,cn]at v;subst v;rw[hr d]at g;rw[g]at u;refine⟨o.x,(bH o.S d'),?_,BL N (cn i).symm u⟩;rw[<-O];exact t_ ((oS sp.opens s).trans (oR M)) (ua g1 (oR U))
def LT.eL(L:LT)(m:Nat)(sp:bq):LT:=⟨L.loops,L.pre,fun k s=>match ai k sp.key with
 |true=>yb m sp s
 |false=>L.xR k s⟩
theorem ay.eL(hm:P.follows .mixedOrders=true)(q:aw P τ){fn:Func} (u:qi sp.key (bR (a6 fn))=true) (g:ay P m L (a6 fn)) (hr:gx P τ L m (cutAt fn sp.key) sp) :
  ay P m (L.eL m sp) (a6 fn):=by
 refine⟨g.1,g.2.1,fun k v hk s t d=>?_⟩;simp only[LT.eL]at d;split at d
 ·rename_i e
  have e:=ba e;subst e;have y:=OI u hk;rw[<-y]at hr;exact aax hm q (g.sub (qg hk) (qh hk)) hr d
 ·exact g.2.2 k v hk s t d
end loops
structure aH where
 f:FuncId
 args:List Sh
 cY:List bA
 ps:List lr
 res:List Sh
 gK:List bA
 ps':List lr
 opens:List (Nat × List Kd)
 F:List G->Option (List G)
def aH.args0(sp:aH)(d:List G):List AV:=fU (cI sp.cY d) sp.args (ew (nL sp.cY) d)
def aH.H0(sp:aH)(d:List G):List af:=cN (cI sp.cY d) sp.cY d
def aH.out(sp:aH)(r:List G):AV:=eI (fU (cI sp.gK r) sp.res (ew (nL sp.gK) r))
def aH.H1(sp:aH)(r:List G):List af:=cN (cI sp.gK r) sp.gK r
def yc(P:Program)(rs:List ResultVar)(sp:aH)(x:bU)(s:ak):Option (Bool × List G) :=
 match x with
 |.exit _=>none
 | _=>(fun s=>match mJ P s.den rs with
  |none=>none
  | some vs=>match kI s.H (fun i=>vs.getD i .undef) sp.ps' [] with
   |none=>none
   | some ids=>match nodupB ids&&oP s.H 0 sp.cY.length ids sp.gK with
    |false=>none
    | true=>match kH s.H (bM s.H ids) (jE ids) sp.gK ids,fi s.H (bM s.H ids) (jE ids) sp.res vs with
     |some (b,g),some (d,k)=>some (b&&d,g++k)
     |_,_=>none) (kJ sp.opens s)
def aX(P:Program)(τ:au)(L:LT)(fn:Func)(sp:aH):Prop :=
 ∀ d,(gu P τ L (a6 fn) ⟨pO (sp.args0 d) fn.ntmps,sp.H0 d⟩ .done).leaf (yc P fn.results.toList sp)=sp.F d
def r_(os:List bA):Bool:=os.all fun o=>ai o.up 0
theorem OJ:∀{os:List bA} (lens:dh) (d:List G),r_ os=true->M0 (ah (cN lens os d))
 | [],_,_,_=>by intro o ho; simp[cN,ah]at ho
 | o::os,lens,d,h=>by
  simp only[r_,nm,ax]at h;intro x g;simp only[cN,ah,bX,bC]at g;rcases g with rfl|g
  ·cases o with
   | vec ks u =>
    have:u=0:=ba h.1;subst this;rfl
   |box _=>rfl
   |map _ _=>rfl
   |fN _ _ _=>rfl
   |aJ _ _ _=>rfl
   |mm _ _ _ _=>rfl
   |b_ _ _=>rfl
   |bp _ _ _=>rfl
  ·exact OJ lens _ h.2 x g
theorem GB(lens:dh):∀(os:List bA) (d:List G),(cN lens os d).length=os.length
 | [],_=>rfl
 |_::os,d=>by simp[cN,GB lens os]
theorem aaz{P:Program}{sp:aH}{fn:Func}(hf:P.funcs[sp.f]? = some fn)(hb:fn.body.isSome=true)
  (hfr:r_ sp.cY=true) {d r:List G} {x:bU} {s0:ak} (h1:dp P sp.cY.length (a6 fn) (ak.den ⟨pO (sp.args0 d) fn.ntmps,sp.H0 d⟩) x s0.den) (k:yc P fn.results.toList sp x s0=some (true,r)) :
  dn P sp.f (sp.args0 d) (ah (sp.H0 d)) (sp.out r) (ah (sp.H1 r)):=by
 have hbody:fn.body=some (a6 fn):=by
  unfold a6;cases I:fn.body with
  |none=>rw[I]at hb; cases hb
  |some c=>rfl
 have h1:=ua h1 (oS sp.opens s0);generalize hs':kJ sp.opens s0=s' at h1;have hxx:(x=.normal\/x=.ret)/\∃ vs ids g q,mJ P s'.den fn.results.toList=some vs/\(nodupB ids&&oP s'.H 0 sp.cY.length ids sp.gK)=true /\
   kH s'.H (bM s'.H ids) (jE ids) sp.gK ids=some (true,g)/\fi s'.H (bM s'.H ids) (jE ids) sp.res vs=some (true,q)/\g++q=r:=by
  have k:yc P fn.results.toList sp x s0=some (true,r):=k;unfold yc at k;split at k
  ·cases k
  ·rename_i I
   simp only[hs']at k;refine⟨by cases x with|normal=>exact .inl rfl|ret=>exact .inr rfl|exit i=>exact(I i rfl).elim,?_⟩;split at k
   ·cases k
   ·rename_i vs V
    split at k
    ·cases k
    ·rename_i ids hids
     split at k
     ·cases k
     ·rename_i v
      split at k
      ·rename_i b g b' q N q2
       simp only[aM,aU,ax]at k;obtain⟨⟨rfl,rfl⟩,rfl⟩:=k;exact⟨vs,ids,g,q,V,v,N,q2,rfl⟩
      ·cases k
 obtain⟨I,vs,ids,g,q,V,v,N,q2,rfl⟩:=hxx;simp only[ax]at v;intro E cargs hH HE hargs;refine M_ hf hbody ?_;have hfe:=Nb HE;have hargs0:=rK hfe _ hargs;have hrel:df ⟨pO (sp.args0 d) fn.ntmps,ah (sp.H0 d)⟩ { E with X:=⟨E.X.x,fun _=>False,E.X.r⟩ } { tmps:=cargs++Array.replicate (fn.ntmps-cargs.size) undef,defers:=[] }:=by
  refine⟨hH,?_,Ew _ _,HE.ir hfe⟩;simp only[pO,Array.toList_append,Array.toList_replicate];refine ny hargs0 ?_;have:=jn hargs;have e:(sp.args0 d).length=cargs.size:=by simpa using this
  rw[e];have:=Fs (E:={ E with X:=⟨E.X.x,fun _=>False,E.X.r⟩ }) (List.replicate (fn.ntmps-cargs.size) undef);simpa using this
 refine wpIn_mono (h1 none (M2 _) { E with X:=⟨E.X.x,fun _=>False,E.X.r⟩ } _ hrel) fun e a1 w0 ⟨h3,loc',X',y,O⟩=>?_;refine⟨by subst h3; rcases I with rfl|rfl; exact .inl rfl; exact .inr rfl,X',y.defers,fun U k1 k2 k3=>?_⟩;obtain⟨y,O⟩:=Na HE y O k1 k2 k3;obtain⟨us,g1,g2⟩:=Fq y fn.results.toList vs V;have hres:(results fn a1.tmps).run P U=.ok (if h:us.toArray.size=1 then us.toArray[0] else .tuple us.toArray) U:=by
  rw[M7];simp only[Sem.run_bind];rw[Array.mapM_eq_mapM_toList,Sem.run_map,g1];rfl
 generalize M:({ w:=U,H:=s'.den.H,loc:=loc',X:=E.X.re X'.r }:Env)=u at y O g1 g2;have hH1:u.H=ah s'.H:=by rw[<-M]; rfl
 obtain⟨hK,hHR⟩:=OC hH1 y.heap (uH v.1) N q;obtain⟨p0,p1,p2,p3⟩:=x9 N q (cI sp.gK (g++q));have hd:ew (nL sp.gK) (g++q)=q:=by rw[<-p0]; exact qc g q
 have hS:=x8 hK q2 [];rw[cB]at hS;have hrl:=hS.2.2.2 us g2;have hleM:=OD (m:=sp.cY.length) hH1 hK ⟨rfl,rfl⟩ (Oz u _ ids) v.2 (fun j hj=>by
  obtain⟨r1,o',r2,_⟩:=BF v.2 j hj;obtain⟨i,o,g1,rest1,t1,t2,t3,t4,t5,t6⟩:=p3 j o' r2;have hat:=iS (e:=bM s'.H ids) (j:=j) (aG t1);rw[show (bM s'.H ids).ids=ids from rfl,t1]at hat;cases hat;exact⟨o,o',t2,r2,t5⟩) (fun b=>OA)
 have hle:E.le (jD u (ah (cN (cI sp.gK (g++q)) sp.gK (g++q))) ids) :=
  (O.trans hleM).full (by rw[<-M]; exact⟨rfl,rfl⟩) (by rw[hH,eJ]; simp only[aH.H0,GB]; exact aB _) (by rw[hH]; exact OJ _ _ hfr)
 have W:u.w=U:=by rw[<-M]
 have hX1:∀ r,u.X.re r=E.X.re r:=fun r=>by rw[<-M]; rfl
 refine⟨_,hres,_,_,_,rfl,⟨rfl,rfl⟩,ids.map (fun i=>u.loc.getD i none),oO u (ah (cN (cI sp.gK (g++q)) sp.gK (g++q))),?_,?_,?_⟩
 ·have := N9 hrl
  simp only[aH.out,aH.H1,hd];simpa only[jD,W,hX1]using this
 ·simpa only[jD,W,hX1,aH.H1]using hHR
 ·simpa only[jD,W,hX1,aH.H1]using hle
theorem GC{P:Program}{τ:au}{L:LT}(hm:P.follows .mixedOrders=true)(k:aw P τ){sp:aH}{fn:Func}(q:P.funcs[sp.f]? = some fn)(hb:fn.body.isSome=true)
  (u:ay P sp.cY.length L (a6 fn)) (hB:aX P τ L fn sp) (g:r_ sp.cY=true) {d r:List G} (h:sp.F d=some r) :
  dn P sp.f (sp.args0 d) (ah (sp.H0 d)) (sp.out r) (ah (sp.H1 r)):=by
 rw[<-hB d]at h;obtain⟨x,s0,h1,v⟩:=lZ hm k (a6 fn) _ .done u (Q:=fun x s=>yc P fn.results.toList sp x s=some (true,r)) (qd h);exact aaz q hb g h1 v
abbrev aY(P:Program)(sp:aH):Prop:=∀ d r,sp.F d=some r->dn P sp.f (sp.args0 d) (ah (sp.H0 d)) (sp.out r) (ah (sp.H1 r))
theorem oT{P:Program}{τ:au}{L:LT}(hm:P.follows .mixedOrders=true)(g:aw P τ){sp:aH}{fn:Func}(k:P.funcs[sp.f]? = some fn)(hb:fn.body.isSome=true)
  (q:ay P sp.cY.length L (a6 fn)) (hB:aX P τ L fn sp) (d:r_ sp.cY=true):aY P sp:=fun _ _ h=>GC hm g k hb q hB d h
def yd:fI->Bool
 |.int _ | .str | .bool | .list _ | .xZ _ | .row _ | .cptr _ | .nil | .any | .BC _ | .fn _ | .addr | .Gn=>true
 |_=>false
def BM:Sh->Bool
 |.s a=>yd a
 |.clo _ caps=>caps.all yd
theorem OK{lens:dh}{a:fI}{d:List G}(h:yd a=true):(eV lens a d).closed=true:=by
 cases a<;>simp only[yd]at h<;>first
  |(cases h; done)
  |rfl
  |(simp only[eV,AV.closed,fW]; done)
theorem OL{lens:dh}:∀{as:List fI} {d:List G},(as.all yd)=true->AV.bu (jX lens as d)=true
 | [],_,_=>rfl
 | a::as,d,h=>by
  simp only[nm,ax]at h;simp only[jX,AV.bu,OK h.1,OL h.2,wL]
theorem BN{lens:dh}:∀{as:List Sh} {d:List G},(as.all BM)=true->AV.bu (fU lens as d)=true
 | [],_,_=>rfl
 | a::as,d,h=>by
  simp only[nm,ax]at h;simp only[fU,AV.bu,BN h.2,gD];cases a with
  |s a=>exact OK h.1
  |clo f caps=>simp only[qb,AV.closed]; exact OL h.1
theorem aaA{vs:List AV}(h:AV.bu vs=true):(eI vs).closed=true:=by
 cases vs with
 |nil=>rfl
 | cons v vs =>
  cases vs with
  |nil=>simpa[eI,AV.bu]using h
  |cons v2 vs=>simpa only[eI,AV.closed]using h
def jF(E:Env):Env:={ w:=E.w,H:=[],loc:=[],X:=(E.X.or E.own).re dZ }
theorem aaB{E:Env}(x:Nat):¬ (jF E).own x:=by rintro(⟨id,c,hid⟩|⟨l,k,c,hk⟩); simp[jF]at hid; simp[jF,dZ]at hk
theorem OM{E:Env}:E.bE (jF E):=⟨fun b hb=>⟨⟨hb.1,aaB b,fun d=>d.elim hb.2.2 hb.2.1⟩,rfl⟩⟩
theorem aaC{E:Env}:(jF E).bE E:=⟨fun b hb=>⟨⟨hb.1,fun ho=>hb.2.2 (Or.inr ho),fun d=>hb.2.2 (Or.inl d)⟩,rfl⟩⟩
theorem aaD{E:Env}(HE:al E):al (jF E):=by
 refine⟨rfl,?_,?_,?_,?_,HE.fY.bE OM,fun l k l' k' b m n hk=>by simp[jF,dZ]at hk,fun i b m l k n hi=>by simp[jF]at hi,fun l k b m hk=>by simp[jF,dZ]at hk,fun i j o o' l hi=>by simp[jF]at hi,fun l _ k q hk=>by simp[jF,dZ]at hk⟩
 ·intro i j b m n hi; simp[jF]at hi
 ·intro i b m hi; simp[jF]at hi
 ·rintro b (d | ho)
  ·exact HE.X b d
  ·exact(HE.AA ho).1
 ·intro i o hi; simp[jF]at hi
theorem aaE{E:Env}(HE:al E):jC [] (bM [] []) (fun _=>false) [] (jF E) (jF E):=by
 exact { hH:=rfl,HE:=aaD HE,free:=fun _ h=>(nomatch h),cT:=⟨fun b hb=>⟨hb,rfl⟩,rfl,fun j d=>absurd d (Nat.not_lt_zero _),fun _ _ _ _ _=>rfl⟩,obj:=fun j o ho=>by simp at ho }
theorem aaF{E:Env}(HE:al E):∀{d:List Sh} {as:List AV} {g:List G},(d.all BM)=true->fi [] (bM [] []) (fun _=>false) d as=some (true,g)->∀(rest:List G) (cs:List Value),ae E as cs ->
  ae E (fU [] d (g++rest)) cs:=by
 have O:∀{sh:fI} {a:AV} {b:Bool} {g:List G},gJ [] (bM [] []) (fun _=>false) sh a=some (b,g)->a.closed=true\/sh=.any:=by
  intro sh a b g h;unfold gJ at h;split at h
  ·exact .inl rfl
  ·exact .inl rfl
  ·exact .inl rfl
  ·split at h
   ·rename_i ha
    left;unfold oN at ha;split at ha<;>first|rfl|cases ha
   ·split at h
    ·simp at h
    ·cases h
  ·split at h
   ·rename_i ha
    left;rw[Oc ha];simp only[AV.closed,fW]
   ·cases h
  ·exact .inl rfl
  ·simp at h
  ·exact .inl rfl
  ·exact .inr rfl
  ·exact .inl rfl
  ·simp at h
  ·simp at h
  ·simp at h
  ·simp at h
  ·split at h
   ·rename_i ha
    left;unfold oN at ha;split at ha<;>first|rfl|cases ha
   ·split at h
    ·simp at h
    ·cases h
  ·simp at h
  ·exact .inl rfl
  ·rename_i f js f' vs
   split at h
   ·rename_i q
    left;cases js with
    | nil=>cases vs with
     |nil=>rfl
     |cons _ _=>simp[l5]at q
    | cons j js=>cases vs with
     |nil=>simp[l5]at q
     |cons v vs=>cases v<;>simp[l5]at q
   ·cases h
  ·exact .inl rfl
  ·cases h
 have V:∀{d:List fI} {as:List AV} {b:Bool} {g:List G},gv [] (bM [] []) (fun _=>false) d as=some (b,g)->∀(cs:List Value),ae E as cs ->
   ∃ k,gv [] (bM [] []) (fun _=>false) d k=some (b,g)/\AV.bu k=true/\ae E k cs:=by
  intro d
  induction d with
  | nil =>
   intro as b g h cs hr;cases as with
   |nil=>exact⟨[],h,rfl,hr⟩
   |cons _ _=>simp[gv]at h
  | cons sh d N =>
   intro as b g h cs hr;cases as with
   |nil=>simp[gv]at h
   | cons a as =>
    cases cs with
    |nil=>simp[ae]at hr
    | cons c cs =>
     simp only[ae]at hr;simp only[gv]at h;split at h
     ·rename_i b1 g1 b2 g2 h1 M
      cases h;obtain⟨k,u,y,I⟩:=N M cs hr.2;rcases O h1 with q|rfl
      ·exact⟨a::k,by simp only[gv,h1,u],by simp only[AV.bu,q,y,wL],by simp only[ae]; exact⟨hr.1,I⟩⟩
      ·have e:gJ [] (bM [] []) (fun _=>false) .any .undef=some (b1,g1):=by
        have:gJ [] (bM [] []) (fun _=>false) .any a=some (true,[]):=by cases a<;>rfl
        rw[this]at h1;exact h1
       exact⟨.undef::k,by simp only[gv,e,u],by simp only[AV.bu,y]; rfl,by simp only[ae,rel]; exact⟨trivial,I⟩⟩
     ·cases h
 have W:∀{d:List Sh} {as:List AV} {b:Bool} {g:List G},fi [] (bM [] []) (fun _=>false) d as=some (b,g)->∀(cs:List Value),ae E as cs ->
   ∃ k,fi [] (bM [] []) (fun _=>false) d k=some (b,g)/\AV.bu k=true/\ae E k cs:=by
  intro d
  induction d with
  | nil =>
   intro as b g h cs hr;cases as with
   |nil=>exact⟨[],h,rfl,hr⟩
   |cons _ _=>simp[fi]at h
  | cons sh d N =>
   intro as b g h cs hr;cases as with
   |nil=>simp[fi]at h
   | cons a as =>
    cases cs with
    |nil=>simp[ae]at hr
    | cons c cs =>
     simp only[ae]at hr;simp only[fi]at h;split at h
     ·rename_i b1 g1 b2 g2 h1 M
      cases h;obtain⟨k,u,y,I⟩:=N M cs hr.2;cases sh with
      | s sh0 =>
       simp only[l6]at h1;rcases O h1 with q|rfl
       ·exact⟨a::k,by simp only[fi,l6,h1,u],by simp only[AV.bu,q,y,wL],by simp only[ae]; exact⟨hr.1,I⟩⟩
       ·have e:gJ [] (bM [] []) (fun _=>false) .any .undef=some (b1,g1):=by
         have:gJ [] (bM [] []) (fun _=>false) .any a=some (true,[]):=by cases a<;>rfl
         rw[this]at h1;exact h1
        exact⟨.undef::k,by simp only[fi,l6,e,u],by simp only[AV.bu,y]; rfl,by simp only[ae,rel]; exact⟨trivial,I⟩⟩
      | clo f caps =>
       cases a<;>simp only[l6]at h1<;>try cases h1
       rename_i f' vs;split at h1
       ·rename_i hf
        subst hf;have U:=hr.1;simp only[rel]at U;obtain⟨us,e1,e2⟩:=U;obtain⟨vs',l1,l2,l3⟩:=V h1 _ e2;exact⟨.clo f vs'::k,by simp only[fi,l6,if_true,l1,u],by simp only[AV.bu,AV.closed,l2,y,wL],
         by simp only[ae,rel]; exact⟨⟨us,e1,l3⟩,I⟩⟩
       ·cases h1
     ·cases h
 intro d as g hcl h rest cs hr;obtain⟨k,h1,M,h3⟩:=W h cs hr;have h4:=pz OM k M h3;have h5:=(x8 (aaE HE) h1 rest).2.2.2 cs h4;exact pz aaC _ (BN hcl) h5
def au.br(τ:au)(sp:aH):au where
 pf g:=match ai g sp.f with
  |true=>true
  |false=>τ.pf g
 T g as:=match ai g sp.f with
  | true=>match fi [] (bM [] []) (fun _=>false) sp.args as with
   |some (b,d)=>some (rZ b (sp.F d).isSome,eI (fU [] sp.res ((sp.F d).getD [])))
   |none=>τ.T g as
  |false=>τ.T g as
 W:=τ.W
 C:=τ.C
 I:=τ.I
 N:=τ.N
 U:=τ.U
def GD(sp:aH):Bool:=(sp.args.all BM)&&((sp.res.all BM)&&(sp.cY.isEmpty&&sp.gK.isEmpty))
theorem aw.br{P:Program}{τ:au}(h:aw P τ){sp:aH}(hb:jd P sp.f=true)(y:GD sp=true)
  (hc:∀ d r,sp.F d=some r->dn P sp.f (sp.args0 d) (ah (sp.H0 d)) (sp.out r) (ah (sp.H1 r))):aw P (τ.br sp):=by
 simp only[GD,ax,List.isEmpty_iff]at y;obtain⟨u,V,hp3,hp4⟩:=y;refine⟨fun g as b v k q=>?_,h.W,h.C,h.I,h.F⟩;simp only[au.br]at k;split at k
 ·rename_i e
  have e:=ba e;subst e;split at k
  ·rename_i b' d hr
   simp only[aM,aU]at k;obtain⟨h1,rfl⟩:=k;subst h1;simp only[r7]at q;obtain⟨rfl,M⟩:=q;refine⟨hb,?_⟩;cases N:sp.F d with
   |none=>rw[N]at M; cases M
   | some r =>
    have O:=hc d r N;simp only[aH.args0,aH.H0,aH.out,aH.H1,hp3,hp4,cN,cI,nL,ew]at O;have:=YL O (BN u) (aaA (BN V));intro H E cargs hH HE U;exact this H E cargs hH HE (by
     have:=aaF HE u hr [] _ U
     rwa [cB]at this)
  ·exact h.T _ as b v k q
 ·exact h.T g as b v k q
end Go.AL

namespace Go.AL
open Go
variable [Dr]
def Kd.cz:List Kd->Bool
 | []=>true
 |.list _::_=>false
 |_::ks=>Kd.cz ks
def Ct.bz:Ct->Bool
 |.one k=>Kd.cz [k]
 |.agg ks=>Kd.cz ks
def uK:fI->Bool
 |.row ks=>Kd.cz ks
 |.list _ | .xZ _ | .cptr _=>false
 |_=>true
def ON:Sh->Bool
 |.s a=>uK a
 |.clo _ caps=>caps.all uK
def OO:bA->Bool
 |.vec ks _=>Kd.cz ks
 |.box cells=>cells.all uK
 |.map K V=>K.bz&&V.bz
 |.fN _ _ _=>true
 |.aJ _ _ _=>false
 |.mm _ K KI VI=>K.bz&&(KI.bz&&VI.bz)
 |.b_ _ _=>false
 |.bp _ _ _=>false
def ls(sp:aH):Bool:=(sp.res.all ON)&&(sp.gK.all OO)
theorem BO:∀{ks:List Kd} (r:List G),Kd.cz ks=true->AV.cz (aD ks r)=true
 | [],_,_=>rfl
 |.list _::_,_,h=>by simp[Kd.cz]at h
 | .int _::ks,r,h | .str::ks,r,h | .bool::ks,r,h=>by
  simp only[Kd.cz]at h;simp only[aD,AV.cz,BO r.tail h,gD];rfl
theorem Ct.ye{K:Ct}(r:List G)(h:K.bz=true):(K.av r).bz=true:=by
 cases K with
 | one k =>
  simp only[Ct.bz]at h;cases k<;>first
   |rfl
   |(simp[Kd.cz]at h; done)
 |agg ks=>simp only[Ct.av,AV.bz]; exact BO r h
theorem OP:∀ js:List Nat,AV.cz (rY js)=true
 | []=>rfl
 |j::js=>by simp only[rY,AV.cz,OP js,gD]; rfl
theorem OQ{lens:dh}{a:fI}{d:List G}(h:uK a=true):(eV lens a d).bz=true:=by
 cases a<;>simp only[uK]at h<;>first
  |(cases h; done)
  |(simp only[eV,AV.bz]; exact BO _ h)
  |rfl
  |(simp only[eV,AV.bz]; exact OP _)
theorem GF{lens:dh}:∀{as:List fI} {d:List G},(as.all uK)=true->AV.cz (jX lens as d)=true
 | [],_,_=>rfl
 | a::as,d,h=>by
  simp only[nm,ax]at h;simp only[jX,AV.cz,OQ h.1,GF h.2,wL]
theorem OR{lens:dh}:∀{as:List Sh} {d:List G},(as.all ON)=true->AV.cz (fU lens as d)=true
 | [],_,_=>rfl
 | a::as,d,h=>by
  simp only[nm,ax]at h;simp only[fU,AV.cz,OR h.2,gD];cases a with
  |s a=>exact OQ h.1
  |clo f caps=>simp only[qb,AV.bz]; exact GF h.1
theorem aaG{vs:List AV}(h:AV.cz vs=true):(eI vs).bz=true:=by
 cases vs with
 |nil=>rfl
 | cons v vs =>
  cases vs with
  |nil=>simpa[eI,AV.cz]using h
  |cons v2 vs=>simpa only[eI,AV.bz]using h
theorem OS{lens:dh}:∀{os:List bA} {d:List G},(os.all OO)=true->((ah (cN lens os d)).all ab.bz)=true
 | [],_,_=>rfl
 | o::os,d,h=>by
  simp only[nm,ax]at h;have k:=OS (lens:=lens) (d:=ew o.sz d) h.2;simp only[cN,ah,bX,nm,ax];refine⟨?_,by simpa only[ah]using k⟩;cases o with
  | vec ks u =>
   simp only[fy,af.den,ab.bz,da,cH];rintro r ⟨g,_,rfl⟩;exact BO g h.1
  |box cells=>simp only[fy,af.den,ab.bz]; exact GF h.1
  | map K V =>
   have h1:(K.bz&&V.bz)=true:=h.1;simp only[ax]at h1;simp only[fy,af.den,ab.bz,c8,da,cH];rintro x ⟨g,_,rfl⟩;simp only[Ct.ye _ h1.1,Ct.ye _ h1.2,wL]
  |fN l T B=>rfl
  |aJ l K ks=>cases h.1
  |b_ l ks=>cases h.1
  |bp l K ks=>cases h.1
  | mm l K KI VI =>
   have h1:(K.bz&&(KI.bz&&VI.bz))=true:=h.1;simp only[ax]at h1;simp only[fy,af.den,ab.bz,jx,pP,c8,ax,da,cH];refine⟨?_,?_⟩
   ·rintro x ⟨g, _, rfl⟩
    exact Ct.ye _ h1.1
   ·rintro x ⟨g, _, rfl⟩ y v
    obtain⟨q,_,rfl⟩:=cH.1 v;simp only[Ct.ye _ h1.2.1,Ct.ye _ h1.2.2,and_self]
def af.bW(e:bL)(j:Nat):af->af
 |.vec ks v rows=>.vec ks (v+e.up j) rows
 |.raw o=>.raw (o.bW e j)
 |.map K V rows c=>.map K V rows c
 |.aJ l K ks rows c=>.aJ l K ks rows c
 |.mm l K KI VI rows mem c=>.mm l K KI VI rows mem c
 |.b_ l ks n ms=>.b_ l ks n ms
 |.bp l K ks rows c=>.bp l K ks rows c
def yf(e:bL):Nat->List af->List af
 |_,[]=>[]
 |j,o::os=>o.bW e j::yf e (j+1) os
def mT(e:bL)(H H1:List af):List af:=eU H e.ids (yf e 0 H1)++(yf e 0 H1).drop e.ids.length
theorem aaH(e:bL)(j:Nat)(o:af):(o.bW e j).den=o.den.bW e j:=by
 cases o<;>rfl
theorem OT(e:bL):∀(j:Nat) (os:List af),ah (yf e j os)=l4 e j (ah os)
 |_,[]=>rfl
 | j,o::os=>by
  simp only[yf,ah,bX,l4,aaH];have:=OT e (j+1) os;simp only[ah]at this;rw[this]
theorem OU{α β:Type}(f:α->β):∀(is:List Nat) (l xs:List α),(eU l is xs).map f=eU (l.map f) is (xs.map f)
 | [],_,_=>by simp[eU]
 |_::_,_,[]=>by simp[eU]
 |i::is,l,x::xs=>by simp[eU,OU f is,List.map_set]
theorem aaI(e:bL)(H H1:List af):ah (mT e H H1)=nK e (ah H) (ah H1):=by
 unfold mT nK;rw[<-OT];simp only[ah,List.map_append,OU,List.map_drop]
def l8(e:bL):Nat->List bA->Bool
 |_,[]=>true
 |j,.vec _ _::os=>l8 e (j+1) os
 |j,_::os=>ai (e.up j) 0&&l8 e (j+1) os
theorem oU{e:bL}{lens:dh}:∀{j:Nat} {os:List bA} {d:List G},l8 e j os=true->jA e j (ah (cN lens os d))=true
 |_,[],_,_=>rfl
 | j,.vec ks u::os,d,h=>by
  simp only[l8]at h;have:=oU (lens:=lens) (d:=ew (bA.vec ks u).sz d) h;simp only[cN,ah,bX,jA,ax];exact⟨rfl,by simpa only[ah]using this⟩
 | j,.box cells::os,d,h=>by
  simp only[l8,ax]at h;have:=oU (lens:=lens) (d:=ew (bA.box cells).sz d) h.2;simp only[cN,ah,bX,jA,ax];exact⟨h.1,by simpa only[ah]using this⟩
 | j,.map K V::os,d,h=>by
  simp only[l8,ax]at h;have:=oU (lens:=lens) (d:=ew (bA.map K V).sz d) h.2;simp only[cN,ah,bX,jA,ax];exact⟨h.1,by simpa only[ah]using this⟩
 | j,.fN l T B::os,d,h=>by
  simp only[l8,ax]at h;have:=oU (lens:=lens) (d:=ew (bA.fN l T B).sz d) h.2;simp only[cN,ah,bX,jA,ax];exact⟨h.1,by simpa only[ah]using this⟩
 | j,.aJ l K ks::os,d,h=>by
  simp only[l8,ax]at h;have:=oU (lens:=lens) (d:=ew (bA.aJ l K ks).sz d) h.2;simp only[cN,ah,bX,jA,ax];exact⟨h.1,by simpa only[ah]using this⟩
 | j,.mm l K KI VI::os,d,h=>by
  simp only[l8,ax]at h;have:=oU (lens:=lens) (d:=ew (bA.mm l K KI VI).sz d) h.2;simp only[cN,ah,bX,jA,ax];exact⟨h.1,by simpa only[ah]using this⟩
 | j,.b_ l ks::os,d,h=>by
  simp only[l8,ax]at h;have:=oU (lens:=lens) (d:=ew (bA.b_ l ks).sz d) h.2;simp only[cN,ah,bX,jA,ax];exact⟨h.1,by simpa only[ah]using this⟩
 | j,.bp l K ks::os,d,h=>by
  simp only[l8,ax]at h;have:=oU (lens:=lens) (d:=ew (bA.bp l K ks).sz d) h.2;simp only[cN,ah,bX,jA,ax];exact⟨h.1,by simpa only[ah]using this⟩
def uL(S:Bool)(ids:List Nat)(i:Nat):Bool:=match S with
 |true=>jE ids i
 |false=>false
def qj(sp:aH)(as:List AV)(H:List af):Option (Bool × AV × List af) :=
 match kI H (fun i=>as.getD i .undef) sp.ps []with
 |none=>none
 | some ids=>match nodupB ids&&l8 (bM H ids) 0 sp.gK with
  |false=>none
  | true=>match kH H (bM H ids) (uL (ls sp) ids) sp.cY ids,fi H (bM H ids) (uL (ls sp) ids) sp.args as with
   |some (b,g),some (k,d)=>some (rZ (b&&k) (sp.F (g++d)).isSome,(sp.out ((sp.F (g++d)).getD [])).bW (bM H ids),mT (bM H ids) H (sp.H1 ((sp.F (g++d)).getD [])))
   |_,_=>none
def oV:List lr->Nat->Bool
 | [],_=>true
 |.cell j _::ps,n=>cC j n&&oV ps (n+1)
 |.Gx j _ _::ps,n=>cC j n&&oV ps (n+1)
 |_::ps,n=>oV ps (n+1)
theorem OV{H:List af}{vals:Nat->AV}:∀{ps:List lr} {acc ids:List Nat},kI H vals ps acc=some ids->∀ x∈acc,x∈ids
 | [],acc,ids,h,x,d=>by cases h; exact d
 | p::ps,acc,ids,h,x,d=>by
  unfold kI at h;split at h
  ·exact OV h x (my _ d)
  ·cases h
theorem OW{H:List af}{vals:Nat->AV}{id:Nat}{o:af}:∀{ps:List lr} {acc ids:List Nat},oV ps acc.length=true->kI H vals ps acc=some ids->id∉ids->kI (H.set id o) vals ps acc=some ids
 | [],acc,ids,_,h,_=>h
 | p::ps,acc,ids,hw,h,hid=>by
  unfold kI at h|-;split at h
  ·rename_i i hi
   have g:=OV h;have get:∀ j,j<acc.length->(H.set id o)[acc.getD j 0]? = H[acc.getD j 0]? := fun j d=>by
    refine aQ fun e=>hid ?_;rw[e,bP,bx d];exact g _ (my _ (th d))
   have e:BI (H.set id o) vals acc p=some i/\oV ps (acc++[i]).length=true:=by
    rw[en];cases p with
    |fix _=>exact⟨hi,hw⟩
    |slot _=>exact⟨hi,hw⟩
    |cap _ _=>exact⟨hi,hw⟩
    | cell j c =>
     simp only[oV,ax,gG]at hw;refine⟨?_,hw.2⟩;simp only[BI]at hi|-;rw[get j hw.1];exact hi
    | Gx j c k =>
     simp only[oV,ax,gG]at hw;refine⟨?_,hw.2⟩;simp only[BI]at hi|-;rw[get j hw.1];exact hi
   rw[e.1];exact OW e.2 h hid
  ·cases h
section aaJ
variable {H:List af} {e:bL} {id:Nat} {o:af} (he:∀ j,e.at j≠id)
include he
theorem OX:∀(js:List Nat) (vs:List AV),l5 (H.set id o) e js vs=l5 H e js vs
 | [],[]=>rfl
 | [],_::_=>rfl
 |_::_,[]=>rfl
 | j::js,v::vs=>by
  have g:=OX js vs;cases v<;>try rfl
  rename_i i ver k row c;simp only[l5,g];by_cases hi:i=id
  ·subst hi
   have d:ai i (e.at j)=false:=by
    cases hb:ai i (e.at j)with
    |false=>rfl
    |true=>exact absurd (ba hb).symm (he j)
   simp only[d,Bool.false_and];cases (H.set i o)[i]? <;> cases H[i]? <;> (repeat' split)<;>rfl
  ·rw[aQ (Ne.symm hi)]
theorem OY:∀(sh:fI) (a:AV),gJ (H.set id o) e (fun _=>false) sh a=gJ H e (fun _=>false) sh a:=by
 have d:∀{i:Nat},i≠id->(H.set id o)[i]? = H[i]? := fun h=>aQ (Ne.symm h);have g:∀ j,¬ (id=e.at j):=fun j h=>he j h.symm;intro sh a;cases a with
 | vec w i ver off n =>
  by_cases hi:i=id
  ·subst hi
   cases sh<;>(try rfl)<;>simp only[gJ,oN,kV,and_false,if_false,g,false_and]<;>(repeat' split)<;>(first|rfl|simp_all)
  ·cases sh<;>(try rfl)<;>simp only[gJ,d hi]
 | ptr i ver k row col =>
  by_cases hi:i=id
  ·subst hi
   cases sh<;>(try rfl)<;>simp only[gJ,oN,kV,and_false,if_false,g,false_and]<;>(repeat' split)<;>(first|rfl|simp_all)
  ·cases sh<;>(try rfl)<;>simp only[gJ,d hi]
 | map i =>
  by_cases hi:i=id
  ·subst hi
   cases sh<;>(try rfl)<;>simp only[gJ,oN,kV,and_false,if_false,g,false_and]<;>(repeat' split)<;>(first|rfl|simp_all)
  ·cases sh<;>(try rfl)<;>simp only[gJ,d hi]
 | clo f vs =>
  cases sh<;>(try rfl)
  ·cases vs<;>rfl
  ·simp only[gJ,OX he]
 | lit v =>
  cases sh<;>(try rfl)<;>cases v<;>(try rfl)
  ·rename_i b n c
   cases b<;>cases n<;>cases c<;>rfl
  ·rename_i q
   cases q with
   |none=>rfl
   | some q =>
    obtain⟨b,o',w⟩:=q;cases o'<;>cases w<;>rfl
 |_=>cases sh<;>rfl
theorem GG:∀(d:List fI) (as:List AV),gv (H.set id o) e (fun _=>false) d as=gv H e (fun _=>false) d as
 | [],[]=>rfl
 | [],_::_=>rfl
 |_::_,[]=>rfl
 |sh::d,a::as=>by simp only[gv,OY he sh a,GG d as]
theorem aaK(sh:Sh)(a:AV):l6 (H.set id o) e (fun _=>false) sh a=l6 H e (fun _=>false) sh a:=by
 cases sh with
 |s x=>simp only[l6,OY he]
 | clo f caps =>
  cases a with
  |clo g vs=>simp only[l6,GG he]
  |_=>rfl
theorem OZ:∀(d:List Sh) (as:List AV),fi (H.set id o) e (fun _=>false) d as=fi H e (fun _=>false) d as
 | [],[]=>rfl
 | [],_::_=>rfl
 |_::_,[]=>rfl
 |sh::d,a::as=>by simp only[fi,aaK he sh a,OZ d as]
theorem aaL(sh:bA)(t:af):iT (H.set id o) e (fun _=>false) sh t=iT H e (fun _=>false) sh t:=by
 cases sh with
 | box d =>
  cases t with
  |raw x=>cases x<;>simp only[iT,GG he]
  |_=>rfl
 | fN l T B =>
  cases t with
  |raw x=>cases x<;>rfl
  |_=>rfl
 |_=>cases t<;>rfl
theorem O0:∀(os:List bA) (is:List Nat),id∉is->kH (H.set id o) e (fun _=>false) os is=kH H e (fun _=>false) os is
 | [],[],_=>rfl
 | [],_::_,_=>rfl
 |_::_,[],_=>rfl
 | sh::os,i::is,h=>by
  have h1:id≠i:=fun e=>h (by rw[e]; exact bZ);simp only[kH,aQ h1,aaL he,O0 os is fun hm=>h (cq _ hm)]
end aaJ
theorem O1{α:Type}{i:Nat}{x:α}:∀(is:List Nat) (l xs:List α),i∉is->eU (l.set i x) is xs=(eU l is xs).set i x
 | [],_,_,_=>by simp[eU]
 |_::_,_,[],_=>by simp[eU]
 | j::is,l,y::xs,h=>by
  have h1:i≠j:=fun e=>h (by rw[e]; exact bZ);simp only[eU];rw[List.set_comm _ _ h1];exact O1 is _ _ fun hm=>h (cq _ hm)
theorem aaM{H:List af}{ids:List Nat}{id:Nat}{o:af}(h:id∉ids):bM (H.set id o) ids=bM H ids:=by
 unfold bM;rw[List.length_set];congr 1;refine List.map_congr_left fun i hi=>?_;unfold uG;rw[aQ fun e=>h (by rw[e]; exact hi)]
theorem aaN{sp:aH}(I:ls sp=false)(hw:oV sp.ps 0=true){as:List AV}{H H':List af}{b:Bool}{v:AV}(h:qj sp as H=some (b,v,H')){id:Nat}{o:af}(u:id<H.length)
  (hid:∀ ids,kI H (fun i=>as.getD i .undef) sp.ps []=some ids->id∉ids) :
  qj sp as (H.set id o)=some (b,v,H'.set id o)/\∃ ids,kI H (fun i=>as.getD i .undef) sp.ps []=some ids/\kI (H.set id o) (fun i=>as.getD i .undef) sp.ps []=some ids:=by
 unfold qj at h|-;split at h
 ·cases h
 rename_i ids g;have d:=hid ids g;have q:=OW (o:=o) (acc:=[]) hw g d;refine⟨?_,ids,g,q⟩;rw[q];simp only[aaM d];split at h
 ·cases h
 rename_i N;have y:uL (ls sp) ids=fun _=>false:=by
  rw[I];rfl
 rw[y]at h|-;have he:∀ j,(bM H ids).at j≠id:=by
  intro j e;rcases kU j (bM H ids).ids.length with k|k
  ·have := iS k
   rw[e]at this;exact d (dJ this)
  ·rw [uD k] at e
   have:(bM H ids).base=H.length:=rfl;omega
 rw[O0 he _ _ d,OZ he];split at h
 case h_2=>cases h
 rename_i h1 O;cases h;have M:∀ X,mT (bM H ids) (H.set id o) X=(mT (bM H ids) H X).set id o:=fun X=>by
  unfold mT;rw[show (bM H ids).ids=ids from rfl,O1 ids _ _ d,Ah _ _ (by rw[p9]; exact u)]
 rw[M]
def au.du(τ:au)(sp:aH):au where
 pf g:=match ai g sp.f with
  |true=>false
  |false=>τ.pf g
 T:=τ.T
 W g as H:=match ai g sp.f with
  | true=>match qj sp as H with
   |some r=>some r
   |none=>τ.W g as H
  |false=>τ.W g as H
 C g as H:=match ai g sp.f with
  | true=>(match kI H (fun i=>as.getD i .undef) sp.ps [] with
   |some ids=>ids
   |none=>[])++τ.C g as H
  |false=>τ.C g as H
 I:=τ.I
 N g:=match ai g sp.f with
  | true=>match τ.U g,ls sp with
   |false,false=>oV sp.ps 0
   |_,_=>false
  |false=>τ.N g
 U g:=match ai g sp.f with
  |true=>true
  |false=>τ.U g
def qk:List bA->List bA->Bool
 |_,[]=>true
 | [],o'::d=>o'.kF.isNone&&qk [] d
 | o::os,o'::d=>(match o'.kF with
  |none=>true
  | some l=>match o.kF with
   |some l'=>ai l l'
   |none=>false)&&qk os d
theorem GH:∀{os k:List bA},qk os k=true->∀(j:Nat) o' l,k[j]? = some o'->o'.kF=some l->∃ o,os[j]? = some o/\o.kF=some l
 |_,[],_,j,_,_,d,_=>by simp at d
 | [],x::k,h,0,o',l,d,g=>by
  simp only[qk,ax]at h;simp at d;subst d;rw[g]at h;cases h.1
 | [],x::k,h,j+1,o',l,d,g=>by
  simp only[qk,ax]at h;obtain⟨o,h1,_⟩:=GH h.2 j o' l (by simpa using d) g;simp at h1
 | o::os,x::k,h,0,o',l,d,g=>by
  simp only[qk,ax]at h;simp at d;subst d;have h1:=h.1;rw[g]at h1;simp only[]at h1;split at h1
  ·rename_i l' q
   have:=ba h1;subst this;exact⟨o,rfl,q⟩
  ·cases h1
 | o::os,x::k,h,j+1,o',l,d,g=>by
  simp only[qk,ax]at h;exact GH h.2 j o' l (by simpa using d) g
theorem O2(lens:dh):∀(os:List bA) (d:List G) (j:Nat) (o:af),(cN lens os d)[j]? = some o->∃ sh d',os[j]? = some sh/\o=fy lens sh d'
 | [],d,j,o,h=>by simp[cN]at h
 | s::os,d,0,o,h=>by
  simp[cN]at h;exact⟨s,d,rfl,h.symm⟩
 | s::os,d,j+1,o,h=>by
  simp only[cN,WI]at h;obtain⟨sh,d',h1,g⟩:=O2 lens os _ j o h;exact⟨sh,d',by simpa using h1,g⟩
theorem aaO{lens:dh}{os:List bA}{d:List G}{j:Nat}{o:ab} (h:(ah (cN lens os d))[j]? = some o):∃ sh,os[j]? = some sh/\o.label=sh.kF:=by
 simp only[ah,bB]at h;obtain⟨o',h1,rfl⟩:=dI.1 h;obtain⟨sh,d',g,rfl⟩:=O2 lens os d j o' h1;exact⟨sh,g,uE _ _ _⟩
theorem O3(lens:dh):∀(os:List bA) (d:List G) (j:Nat) (sh:bA),os[j]? = some sh->∃ o,(ah (cN lens os d))[j]? = some o/\o.label=sh.kF
 | [],d,j,o,h=>by simp at h
 | s::os,d,0,sh,h=>by
  simp at h;subst h;exact⟨(fy lens s d).den,by simp[cN,ah],uE _ _ _⟩
 | s::os,d,j+1,sh,h=>by
  obtain⟨o,h1,g⟩:=O3 lens os (ew s.sz d) j sh (by simpa using h);exact⟨o,by simpa[cN,ah]using h1,g⟩
def BP(sp:aH):Bool:=r_ sp.cY&&(dD sp.cY.length sp.gK.length&&qk sp.cY sp.gK)
theorem aaP{P:Program}{sp:aH}(hp:BP sp=true) (hc:∀ d r,sp.F d=some r->dn P sp.f (sp.args0 d) (ah (sp.H0 d)) (sp.out r) (ah (sp.H1 r)))
  {as:List AV} {H H':List af} {v:AV} (h:qj sp as H=some (true,v,H')):dn P sp.f as (ah H) v (ah H'):=by
 simp only[BP,ax]at hp;obtain⟨hfr,hle,hlab⟩:=hp;have hle:=Al hle;unfold qj at h;split at h
 ·cases h
 rename_i ids hids;split at h
 ·cases h
 rename_i hck;simp only[ax]at hck;obtain⟨hnd,hup⟩:=hck;have hnd:=uH hnd;split at h
 case h_2=>cases h
 rename_i b g b' k h1 h2;simp only[aM,aU,r7,ax]at h;obtain⟨⟨⟨rfl,rfl⟩,h3⟩,rfl,rfl⟩:=h;cases hF:sp.F (g++k)with
 |none=>rw[hF]at h3; cases h3
 |some r =>
 simp only[np];obtain⟨p0,p1,p2,p3⟩:=x9 h1 k (cI sp.cY (g++k));have hd:ew (nL sp.cY) (g++k)=k:=by rw[<-p0]; exact qc g k
 have hlen:ids.length=(ah (sp.H0 (g++k))).length:=by rw[eJ]; simp only[aH.H0,p1,p2]
 have hat:∀ j,j<ids.length->ids[j]? = some ((bM H ids).at j):=fun j q=>iS (e:=bM H ids) q;have hobjs:∀ j,j<ids.length->∃ sh o g1 O,sp.cY[j]? = some sh/\H[(bM H ids).at j]? = some o/\iT H (bM H ids) (uL (ls sp) ids) sh o=some (true,g1) /\
   (sp.H0 (g++k))[j]? = some (fy (cI sp.cY (g++k)) sh (g1++O)) /\
   (cI sp.cY (g++k)).ver j=sh.up/\(∀ ks v rows,o=.vec ks v rows->(cI sp.cY (g++k)).len j=rows.length)/\sh.up=0/\(bM H ids).up j=uF o:=by
  intro j q;have hj':j<sp.cY.length:=by omega
  obtain⟨i,o,g1,O,U,y,M,I,q5,q6⟩:=p3 j sp.cY[j] (bx hj');have q1':=U;rw[hat j q]at U;cases U;refine⟨sp.cY[j],o,g1,O,bx hj',y,M,I,q5,q6,?_,?_⟩
  ·have := da.1 hfr sp.cY[j] (th hj')
   exact ba this
  ·simp only [bL.up, bM, bP, bB]
   rw[q1'];simp only[dS,np,uG];rw[y]
 have hK:∀ E E0,E.H=ah H->al E->uB (bM H ids) (bif ls sp then (dB H.length).filter (jE ids) else []) E E0->E0.H=ah (sp.H0 (g++k)) ->
   jC H (bM H ids) (uL (ls sp) ids) (cI sp.cY (g++k)) E E0:=by
  intro E E0 hEH HE V W;refine { hH:=hEH,HE:=HE,free:=fun i hi b n hb=>?_,cT:=V.toKeepIn,obj:=fun j o ho=>?_ }
  ·refine V.aah i ?_ b n hb
   have hlt:=aG hb;rw[HE.len,hEH,eJ]at hlt;unfold uL at hi;split at hi
   ·rename_i N
    rw[N];simp only[cond_true,wM,List.mem_range];exact⟨hlt,hi⟩
   ·cases hi
  ·have q:j<ids.length:=by
    rcases kU j ids.length with hlt|hge
    ·exact hlt
    ·have h1 := aG ho
     have h2:=uD (e:=bM H ids) hge;have h3:(bM H ids).base=H.length:=rfl;omega
   refine⟨q,?_⟩;obtain⟨sh,o',g1,O,U,y,M,I,q5,q6,q7,q8⟩:=hobjs j q;rw[ho]at y;cases y;obtain⟨r1,r2,r3⟩:=Gt (lens:=cI sp.cY (g++k)) (d:=g1++O) M;exact⟨r1,⟨_,by rw[W]; exact a7 I,by rw[q5]; exact r2⟩,fun o0 h0=>by rw[W,a7 I]at h0; cases h0; rw[Gq,Gr M],q6,fun _=>by rw[q5]; exact q7⟩
 have:=frame (P:=P) (f:=sp.f) (ls sp) (bif ls sp then (dB H.length).filter (jE ids) else []) (e:=bM H ids) (H:=ah H) (args:=sp.args0 (g++k)) (H0:=ah (sp.H0 (g++k)))
  (H1:=ah (sp.H1 r)) (v:=sp.out r) (args0:=as) (hc _ _ hF) hlen (by rw[eJ]; rfl) hnd ?_ ?_ (oU hup) ?_ (fun N=>by rw[N]; rfl) ?_ ?_ ?_ ?_ ?_ ?_ ?_
 ·rw [aaI]
  exact this
 ·intro j o ho
  have q:j<ids.length:=by rw[hlen]; exact aG ho
  obtain⟨sh,o',g1,O,U,y,M,I,q5,q6,q7,q8⟩:=hobjs j q;obtain⟨r1,r2,r3⟩:=Gt (lens:=cI sp.cY (g++k)) (d:=g1++O) M;rw[a7 I]at ho;cases ho;refine⟨o'.den,a7 y,ab.Ek r2,fun v=>?_⟩;rw[r1,r2,q7,q8];simp only[aM];constructor
  ·rintro rfl
   exact⟨0,rfl,by omega⟩
  ·rintro ⟨u, rfl, rfl⟩
   omega
 ·intro E E0 hEH HE V W j o ho
  have q:j<ids.length:=by rw[hlen]; exact aG ho
  obtain⟨sh,o',g1,O,U,y,M,I,q5,q6,q7,q8⟩:=hobjs j q;rw[a7 I]at ho;cases ho;exact Ox (hK E E0 hEH HE V W) M O q (fun l hl=>V.kF j _ l (by rw[W]; exact a7 I) (by rw[uE,hl])) (HE.obj _ _ (by rw[hEH]; exact a7 y))
 ·rw [eJ, eJ]
  simp only[aH.H0,aH.H1,GB];exact hle
 ·intro N
  simp only[ls,ax]at N;exact aaG (OR N.1)
 ·intro N
  simp only[ls,ax]at N;exact OS N.2
 ·intro i hi
  cases N:ls sp with
  | true =>
   rw[N]at hi;simp only[cond_true,wM]at hi;exact OB hi.2
  | false =>
   rw[N]at hi;simp at hi
 ·intro j o o' ho ho'
  have q:j<ids.length:=by rw[hlen]; exact aG ho
  obtain⟨sh,o2,g1,O,U,y,M,I,_⟩:=hobjs j q;rw[a7 I]at ho;rw[a7 y]at ho';cases ho;cases ho';rw[Oq M,uE]
 ·intro j o l ho hl
  obtain⟨sh,h5,h6⟩:=aaO (show (ah (cN (cI sp.gK r) sp.gK r))[j]? = some o from ho);obtain⟨sh0,h7,h8⟩:=GH hlab j sh l h5 (by rw[<-h6,hl]);obtain⟨o0,h9,h10⟩:=O3 (cI sp.cY (g++k)) sp.cY (g++k) j sh0 h7;exact⟨o0,h9,by rw[h10,h8]⟩
 ·intro j o o' ho ho'
  have q:j<ids.length:=by rw[hlen]; exact aG ho
  obtain⟨sh,o2,g1,O,U,y,M,I,_⟩:=hobjs j q;rw[a7 I]at ho;rw[a7 y]at ho';cases ho;cases ho';rw[Gr M,Gq]
 ·intro E E0 cs hEH HE V W hr
  have hS:=(x8 (hK E E0 hEH HE V W) h2 []).2.2.2 cs hr;rw[cB]at hS;simp only[aH.args0,hd];exact hS
theorem aaQ{sp:aH}{as:List AV}{H H':List af}{v:AV}{b:Bool}{A:Nat}(h:qj sp as H=some (b,v,H'))(g:A<H.length)(hA:∀ ids,kI H (fun i=>as.getD i .undef) sp.ps []=some ids->A∉ids):H'[A]? = H[A]? := by
 unfold qj at h;split at h
 ·cases h
 rename_i ids d;split at h
 ·cases h
 split at h
 case h_2=>cases h
 cases h;unfold mT;rw[cK (by rw[p9]; exact g)];exact By _ _ _ _ (hA ids d)
theorem aw.du{P:Program}{τ:au}(h:aw P τ){sp:aH}(hb:jd P sp.f=true)(V:BP sp=true)
  (hc:∀ d r,sp.F d=some r->dn P sp.f (sp.args0 d) (ah (sp.H0 d)) (sp.out r) (ah (sp.H1 r))):aw P (τ.du sp):=by
 refine⟨h.T,fun g as H b v H' k N=>?_,fun g as H b v H' k A hA q=>?_,fun g as H t k Q hQ=>?_,fun g u as H=>?_,fun g y as H b v H' k id o q hid=>?_⟩
 rotate_left 2
 ·obtain ⟨g1, v, H', g2, g3, g4⟩ := h.I g as H t k Q hQ
  refine⟨g1,v,H',g2,fun A hA q=>g3 A (fun hm=>hA ?_) q,g4⟩;simp only[au.du];split
  ·exact oq _ hm
  ·exact hm
 ·simp only [au.du] at u |-
  cases e:ai g sp.f with
  |true=>rw[e]at u; cases u
  | false =>
   rw[e]at u;exact h.F.1 g u as H
 ·simp only [au.du] at y k hid |-
  cases e:ai g sp.f with
  | false =>
   rw[e]at y k hid;exact h.F.2 g y as H b v H' k id o q hid
  | true =>
   rw[e]at y k hid;simp only[]at y k hid|-;split at y
   case h_2=>cases y
   rename_i u hs;have U:∀ H,τ.W g as H=none:=fun H=>(h.F.1 g u as H).1;have O:∀ H,τ.C g as H=[]:=fun H=>(h.F.1 g u as H).2;rw[U]at k;split at k
   case h_2=>cases k
   rename_i r hr;cases k;obtain⟨q1,ids,q2,q3⟩:=aaN hs y hr (o:=o) q fun ids M hm=>hid (my _ (by rw[M]; exact hm));rw[q1];refine⟨rfl,?_⟩;rw[q2,q3,O,O]
 simp only[au.du]at k;split at k
 ·rename_i e
  have e:=ba e;subst e;split at k
  ·rename_i r hr
   cases k;subst N;exact⟨hb,aaP V hc hr⟩
  ·exact h.W _ as H b v H' k N
 ·exact h.W g as H b v H' k N
 simp only[au.du]at k hA;split at k
 ·rename_i e
  rw[e]at hA;simp only[]at hA;split at k
  ·rename_i r hr
   cases k;exact aaQ hr q fun ids M hm=>hA (my _ (by rw[M]; exact hm))
  ·exact h.C g as H b v H' k A (fun hm=>hA (oq _ hm)) q
 ·rename_i e
  rw[e]at hA;exact h.C g as H b v H' k A hA q
end Go.AL

namespace Go.AL
open Go
variable [Dr]
def ar{β:Type}(t:Option (List G))(k:List G->Option β):Option β:=bif t.isSome then k (t.getD []) else none
def lu{β:Type}(b:Bool)(t:Option (List G))(k:List G->Option β):Option β:=bif b then k (t.getD []) else none
def aR{β:Type}(b:Bool)(r:Option (Nat × List G))(k:Nat->List G->Option β):Option β:=bif (b&&r.isSome) then k (Gy r) (Gz r) else none
def aaR:Kd->G->G
 |.int _,g=>.i g.int
 |.str,g=>.s g.str
 |.bool,g=>.t g.bool
 |.list _,g=>.l g.rows
def aT:List Kd->List G->List G
 | [],_=>[]
 |k::ks,r=>aaR k (r.headD default)::aT ks r.tail
def au.gV(τ:au)(d:List FuncId):au:={ τ with pf:=fun g=>match d.any (fun x=>ai x g)with
 |true=>false
 |false=>τ.pf g }
def au.dL(τ:au)(d:List FuncId):au:={ τ with pf:=fun g=>match d.any (fun x=>ai x g)with
 |true=>true
 |false=>τ.pf g }
theorem aw.dL{P:Program}{τ:au}(h:aw P τ)(d:List FuncId):aw P (τ.dL d):=⟨h.T,h.W,h.C,h.I,h.F⟩
theorem aw.gV{P:Program}{τ:au}(h:aw P τ)(d:List FuncId):aw P (τ.gV d):=⟨h.T,h.W,h.C,h.I,h.F⟩
theorem aaS{β:Type}{t:Option (List G)}{k:List G->Option β}{g:List G}(h:t=some g):ar t k=k g:=by subst h; rfl
inductive jG (st:List G->Option (Option Nat × List G)):Nat->List G->Nat->List G->Prop
 |stop {d d':List G} {x:Nat} (h:st d=some (some x,d')):jG st 1 d x d'
 |next {d d1 d':List G} {x n:Nat} (h:st d=some (none,d1)) (h':jG st n d1 x d'):jG st (n+1) d x d'
theorem jG.iter{st:List G->Option (Option Nat × List G)}{n:Nat}{d d':List G}{x:Nat}(h:jG st n d x d'):∀ m,n<=m->r8 st m d=some (x,d'):=by
 induction h with
 | stop h =>
  intro m hm;cases m with
  |zero=>omega
  |succ m=>simp only[r8,h]
 | next h _ g =>
  intro m hm;cases m with
  |zero=>omega
  |succ m=>simp only[r8,h]; exact g m (by omega)
theorem jG.aaT{st:List G->Option (Option Nat × List G)}{n:Nat}{d d':List G}{x:Nat}(h:jG st n d x d')(g:n<=1000000):bV st d=some (x,d'):=h.iter _ g
end Go.AL

namespace Go.AL
open Go
variable [Dr]
inductive Hint where
 |freeze (slot:Nat)
 |O4 (slot:Nat) (ks:List Kd)
 |uM (slot c:Nat) (ks:List Kd)
 |BQ (slot:Nat)
 |uN (slot c:Nat)
 |hole (ks:List Kd)
 |uO
 |aJ (slot l:Nat)
 |BR (slot:Nat)
 |O5 (slot l:Nat)
 |O6 (slot:Nat)
 |mm (slot l:Nat) (KI VI:Ct)
 |uP (slot c l:Nat) (KI VI:Ct)
 |forget (id:Nat)
 |BS (slot c:Nat) (ks:List Kd)
 |b_ (slot l:Nat)
 |bp (slot l:Nat)
 |BT (slot:Nat)
def BU(slot:Nat)(s:ak):Bool × ak :=
 match s.fr.getD slot .undef with
 | .vec w id ver off n=>match s.H[id]? with
  |some (.vec ks v rows)=>if ver=v/\off=0/\w=ks.length then (ai n rows.length,⟨s.fr.set slot (.listF ks rows),s.H.set id (.raw .dead)⟩) else (true,s)
  |_=>(true,s)
 |_=>(true,s)
def GJ(slot c:Nat)(ks:List Kd)(s:ak):Bool × ak :=
 match s.fr.getD slot .undef with
 | .ptr id _ _ _ _=>match s.H[id]? with
  | some (.raw (.box cells))=>match cells[c]? with
   | some a=>match isNil a with
    |true=>(true,⟨s.fr,s.H.set id (.raw (.box (cells.set c (.vec ks.length s.H.length 0 0 0))))++[.vec ks 0 []]⟩)
    |false=>(true,s)
   |none=>(true,s)
  |_=>(true,s)
 |_=>(true,s)
def BV(slot c:Nat)(s:ak):Bool × ak :=
 match s.fr.getD slot .undef with
 | .ptr id _ _ _ _=>match s.H[id]? with
  | some (.raw (.box cells))=>match cells[c]? with
   | some (.vec w d ver off n)=>match s.H[d]? with
    |some (.vec ks v rows)=>if ver=v/\off=0/\w=ks.length then (ai n rows.length,⟨s.fr,(s.H.set d (.raw .dead)).set id (.raw (.box (cells.set c (.listF ks rows))))⟩) else (true,s)
    |_=>(true,s)
   |_=>(true,s)
  |_=>(true,s)
 |_=>(true,s)
def BW(slot:Nat)(s:ak):Bool × ak :=
 match s.fr.getD slot .undef with
 | .vec w id ver off n=>match s.H[id]? with
  |some (.vec ks v rows)=>if ver=v/\off=0/\w=ks.length then (dD n rows.length,⟨s.fr.set slot (.vec w id (v+1) 0 n),s.H.set id (.vec ks (v+1) (rows.take n))⟩) else (true,s)
  |_=>(true,s)
 |_=>(true,s)
def BX(slot l:Nat)(s:ak):Bool × ak :=
 match s.fr.getD slot .undef with
 | .map id=>match s.H[id]? with
  |some (.map K (.one (.list ks)) [] cl)=>(jQ (ah s.H) l,⟨s.fr,s.H.set id (.aJ l K ks [] cl)⟩)
  |_=>(true,s)
 |_=>(true,s)
def BY(r:List G):List G:=[gi r 0,gi r 1,gi r 2,.t false,.t true]
def BZ(slot l:Nat)(s:ak):Bool × ak :=
 match s.fr.getD slot .undef with
 | .map id=>match s.H[id]? with
  |some (.map K (.one (.list ks)) rows cl)=>(jQ (ah s.H) l,⟨s.fr,s.H.set id (.aJ l K ks (rows.map BY) cl)⟩)
  |_=>(true,s)
 |_=>(true,s)
def aaU(rows:List (List G)):Bool:=rows.all fun r=>(gi r 3).bool||(gi r 4).bool
def B0(slot:Nat)(s:ak):Bool × ak :=
 match s.fr.getD slot .undef with
 | .map id=>match s.H[id]? with
  |some (.aJ _ K ks rows cl)=>(aaU rows,⟨s.fr,s.H.set id (.map K (.one (.list ks)) rows cl)⟩)
  |_=>(true,s)
 |_=>(true,s)
def ql(rows:List (List G)):Bool:=rows.all fun r=>(gi r 3).bool
def B1(slot:Nat)(s:ak):Bool × ak :=
 match s.fr.getD slot .undef with
 | .map id=>match s.H[id]? with
  |some (.aJ _ K ks rows cl)=>(ql rows,⟨s.fr,s.H.set id (.map K (.one (.list ks)) rows cl)⟩)
  |_=>(true,s)
 |_=>(true,s)
def B2(slot l:Nat)(s:ak):Bool × ak :=
 match s.fr.getD slot .undef with
 | .vec _ id _ _ _=>match s.H[id]? with
  |some (.vec [.list ks] 0 rows)=>(rZ (jQ (ah s.H) l) (cC 0 rows.length),⟨s.fr,s.H.set id (.b_ l ks rows.length [])⟩)
  |_=>(true,s)
 |_=>(true,s)
def B3(slot l:Nat)(s:ak):Bool × ak :=
 match s.fr.getD slot .undef with
 | .map id=>match s.H[id]? with
  |some (.map K (.agg [.list ks,.list _]) [] cl)=>(jQ (ah s.H) l,⟨s.fr,s.H.set id (.bp l K ks [] cl)⟩)
  |_=>(true,s)
 |_=>(true,s)
def B4(slot:Nat)(s:ak):Bool × ak :=
 match s.fr.getD slot .undef with
 | .map id=>match s.H[id]? with
  |some (.bp _ K ks rows cl)=>(ql rows,⟨s.fr,s.H.set id (.map K (.agg [.list ks,.list ks]) rows cl)⟩)
  |_=>(true,s)
 |_=>(true,s)
def B5(slot l:Nat)(KI VI:Ct)(s:ak):Bool × ak :=
 match s.fr.getD slot .undef with
 | .map id=>match s.H[id]? with
  |some (.map K _ [] cl)=>(jQ (ah s.H) l,⟨s.fr,s.H.set id (.mm l K KI VI [] [] cl)⟩)
  |_=>(true,s)
 |_=>(true,s)
def B6(slot c l:Nat)(KI VI:Ct)(s:ak):Bool × ak :=
 match s.fr.getD slot .undef with
 | .ptr a _ _ _ _=>match s.H[a]? with
  | some (.raw (.box cells))=>match cells[c]? with
   | some (.map id)=>match s.H[id]? with
    |some (.map K _ rows cl)=>(rZ (jQ (ah s.H) l) rows.isEmpty,⟨s.fr,s.H.set id (.mm l K KI VI [] [] cl)⟩)
    |_=>(true,s)
   |_=>(true,s)
  |_=>(true,s)
 |_=>(true,s)
def GL(id:Nat)(s:ak):Bool × ak :=
 match s.H[id]? with
 |some (.raw (.box _))=>(true,⟨s.fr,s.H.set id (.vec [] 1 [])⟩)
 |some (.map ..)=>(true,⟨s.fr,s.H.set id (.vec [] 1 [])⟩)
 |some (.mm ..)=>(true,⟨s.fr,s.H.set id (.vec [] 1 [])⟩)
 |some (.b_ ..)=>(true,⟨s.fr,s.H.set id (.vec [] 1 [])⟩)
 |_=>(true,s)
def GM(slot c:Nat)(ks:List Kd)(s:ak):Bool × ak :=
 match s.fr.getD slot .undef with
 | .ptr id _ _ _ _=>match s.H[id]? with
  | some (.raw (.box cells))=>match cells[c]? with
   | some (.list w rows)=>match a_ ks rows with
    |some gs=>if w=ks.length then (true,⟨s.fr,s.H.set id (.raw (.box (cells.set c (.listF ks gs))))⟩) else (true,s)
    |none=>(true,s)
   |_=>(true,s)
  |_=>(true,s)
 |_=>(true,s)
def B7:Hint->ak->Bool × ak
 |.freeze i,s=>BU i s
 | .O4 i ks,s=>match isNil (s.fr.getD i .undef) with
  |true=>(true,xV i ks s)
  |false=>(true,s)
 |.uM i c ks,s=>GJ i c ks s
 |.BQ i,s=>BW i s
 |.uN i c,s=>BV i c s
 |.hole ks,s=>(true,⟨s.fr,s.H++[.vec ks 0 []]⟩)
 |.uO,s=>(true,⟨s.fr,s.H++[.raw .eP]⟩)
 |.aJ i l,s=>BX i l s
 |.BR i,s=>B1 i s
 |.O5 i l,s=>BZ i l s
 |.O6 i,s=>B0 i s
 |.mm i l KI VI,s=>B5 i l KI VI s
 |.uP i c l KI VI,s=>B6 i c l KI VI s
 |.forget i,s=>GL i s
 |.BS i c ks,s=>GM i c ks s
 |.b_ i l,s=>B2 i l s
 |.bp i l,s=>B3 i l s
 |.BT i,s=>B4 i s
def yg:List Hint->ak->Bool × ak
 | [],s=>(true,s)
 | h::d,s=>match B7 h s with
  | (b,s1)=>match yg d s1 with
   |(g,s2)=>(b&&g,s2)
theorem aaV{m:Nat}{slot:Nat}{s:ak}(h:(BU slot s).1=true):bh m s.den (BU slot s).2.den:=by
 unfold BU at h|-;split
 case h_2=>exact bh.refl _
 rename_i w id ver off n N;split
 case h_2=>exact bh.refl _
 rename_i ks v rows hid;split
 case isFalse=>exact bh.refl _
 rename_i u;obtain⟨rfl,rfl,rfl⟩:=u;simp only[N,hid,and_self,if_true]at h;have hn:=ba h;subst hn;intro E a d;have hH:E.H=ah s.H:=d.H;have hle:=Env.wU d.heap id;have W:=al.drop d.heap id fun o ho=>by
  rw[show E.H[id]? = some (.vec ks.length ver (rows.map (aD ks))) by rw[hH]; exact a7 hid]at ho;cases ho;rfl
 have I:ah (s.H.set id (.raw .dead))=E.H.set id .dead:=by rw[ct,hH]; rfl
 refine⟨E.loc.set id none,E.X,?_,?_⟩
 ·simp only [ak.den]
  rw[I];refine⟨rfl,?_,d.defers,W⟩;refine BG (dw hle _ d.fr) fun c u=>?_;have hr:=Gw d.fr u;rw[show s.den.fr=s.fr from rfl,N]at hr;have M:E.H[id]? = some (.vec ks.length ver (rows.map (aD ks))):=by rw[hH]; exact a7 hid
  have ho:=d.heap.obj id _ M;rw[jq];simp only[rel]at hr|-;obtain⟨⟨base,cap,rfl,V,_⟩,_,y⟩:=hr;obtain⟨q1,q2⟩:=y ⟨_,M,rfl⟩;have O:eD (rows.map (aD ks)):=by
   intro r hr;obtain⟨g,_,rfl⟩:=cH.1 hr;exact fW ks g
  refine⟨O,base,cap,by simp,by simpa using V,?_⟩;simp only[aI]at ho;rcases ho with⟨h1,U⟩|⟨b,mm,h1,U,y,_,h4⟩
  ·exact .inl U
  ·obtain ⟨g1, o, g2, g3⟩ := q2 b mm h1
   by_cases hm:rows=[]
   ·subst hm; exact .inl rfl
   ·right
    have:0<rows.length:=by cases rows with|nil=>exact(hm rfl).elim|cons _ _=>simp
    simp at y;have ho:=g2 (by omega);simp at ho;subst ho;simp only[kX]at g3;refine⟨b,0,g3.1,⟨(d.heap.lt id b mm h1).1,?_,(d.heap.lt id b mm h1).2⟩,jO hle.toC _ O rfl h4⟩;rintro(⟨j,c',q⟩|⟨l,k,c',q⟩)
    case inr=>exact d.heap.cQ _ _ _ _ _ _ h1 q
    simp only[dv]at q;split at q
    ·split at q<;>cases q
    ·rename_i hne
     exact hne (d.heap.inj _ _ _ _ _ h1 q)
 ·simp only [ak.den]
  rw[I];exact hle.toM
theorem aaW{m:Nat}{slot c:Nat}{ks:List Kd}{s:ak}:bh m s.den (GJ slot c ks s).2.den:=by
 unfold GJ;split
 case h_2=>exact bh.refl _
 rename_i id ver k row col hsl;split
 case h_2=>exact bh.refl _
 rename_i cells hid;split
 case h_2=>exact bh.refl _
 rename_i a0 ha0;split
 case h_2=>exact bh.refl _
 rename_i hnil;intro E a g;have hH:E.H=ah s.H:=g.H;have hlen:E.H.length=s.H.length:=by rw[hH,eJ]
 have hle:E.le (E.push E.w (.vec ks.length 0 []) none):=Env.k9 g.heap.len (Ext.refl _) (fun b n h=>by cases h);have hobj:aI (E.push E.w (.vec ks.length 0 []) none) E.H.length (.vec ks.length 0 []):=by
  simp only[aI,Env.push];refine .inl ⟨?_,trivial⟩;rw[iJ (by rw[g.heap.len]; exact aB _),g.heap.len,lH];rfl
 have u:al (E.push E.w (.vec ks.length 0 []) none):=al.push g.heap (Ext.refl _) (fun b n h=>by cases h) hobj;generalize y:E.push E.w (.vec ks.length 0 []) none=d at hle u;have N:d.w=E.w:=by rw[<-y]; rfl
 have O:d.X=E.X:=by rw[<-y]; rfl
 have U:d.H=ah (s.H++[.vec ks 0 []]):=by rw[<-y,iR,<-hH]; rfl
 have hidlt:id<s.H.length:=aG hid;have I:d.H[id]? = some (.box cells):=by
  rw[U];exact a7 (H:=s.H++[.vec ks 0 []]) (o:=.raw (.box cells)) (by rw[cK hidlt]; exact hid)
 have ho:=u.obj id _ I;simp only[aI]at ho;obtain⟨b,n,h1,h2,V⟩:=ho;have hver:∀ v,(ab.box (cells.set c (.vec ks.length s.H.length 0 0 0))).aF = some v->(ab.box cells).aF = some v:=fun v W=>by simpa[ab.aF]using W
 have M:=Env.oB (o':=.box (cells.set c (.vec ks.length s.H.length 0 0 0))) (w':=d.w) u I h1 hver rfl (fun _ _=>rfl);have hnew:d.H[s.H.length]? = some (.vec ks.length 0 []):=by
  rw[U];have e:(s.H++[af.vec ks 0 []])[s.H.length]? = some (af.vec ks 0 []):=by rw[iJ (aB _),lH]; rfl
  exact a7 e
 have hloc:d.loc[s.H.length]? = some none:=by
  rw[<-y];simp only[Env.push];rw[iJ (by rw[g.heap.len]; omega),g.heap.len,hlen,lH];rfl
 have hrel:∀ v,rel d a0 v->rel { w:=d.w,H:=d.H.set id (.box (cells.set c (.vec ks.length s.H.length 0 0 0))),loc:=d.loc,X:=d.X } (.vec ks.length s.H.length 0 0 0) v:=by
  intro v W;obtain⟨base,rfl⟩:=N' hnil W;simp only[rel];have hne:id≠s.H.length:=by omega
  refine⟨⟨base,0,rfl,aB _,fun h=>absurd h (An _)⟩,⟨.vec ks.length 0 [],by rw[aQ hne]; exact hnew,rfl,fun v h=>dX _⟩,fun _=>⟨fun _=>⟨trivial,trivial,base,rfl⟩,fun b m hb=>?_⟩⟩;rw[hloc]at hb;cases hb
 have hHR2:=al.set (w':=d.w) u I h1 hver rfl (fun _ _=>rfl) (by
  simp only[aI];refine⟨b,n,h1,by simpa using h2,?_⟩;rw[jo]at V|-;intro i x q;rw[dv]at q;split at q
  ·rename_i e
   subst e;split at q
   ·cases q
    obtain⟨v,g1,g2,g3⟩:=V c a0 ha0;exact⟨v,g1,g2,hrel v g3⟩
   ·cases q
  ·obtain ⟨v, g1, g2, g3⟩ := V i x q
   exact⟨v,g1,g2,bg M x g3⟩)
 have hden:ah (s.H.set id (.raw (.box (cells.set c (.vec ks.length s.H.length 0 0 0))))++[.vec ks 0 []])=d.H.set id (.box (cells.set c (.vec ks.length s.H.length 0 0 0))):=by
  rw[U,iR,iR,ct,Ah _ _ (by rw[eJ]; exact hidlt)];rfl
 refine⟨d.loc,E.X,?_,?_⟩
 ·simp only [ak.den]
  rw[hden];rw[N,O]at hHR2;refine⟨rfl,?_,g.defers,hHR2⟩;have:=dw M _ (dw hle _ g.fr);rw[N,O]at this;exact this
 ·simp only [ak.den]
  rw[hden];have:=(hle.trans M).toM (m:=m);rw[N,O]at this;exact this
theorem aaX{m:Nat}{slot c:Nat}{s:ak}(h:(BV slot c s).1=true):bh m s.den (BV slot c s).2.den:=by
 unfold BV at h|-;split
 case h_2=>exact bh.refl _
 rename_i id ver0 k row col hsl;split
 case h_2=>exact bh.refl _
 rename_i cells hid;split
 case h_2=>exact bh.refl _
 rename_i w g ver off n W;split
 case h_2=>exact bh.refl _
 rename_i ks v rows O;split
 case isFalse=>exact bh.refl _
 rename_i hc;obtain⟨rfl,rfl,rfl⟩:=hc;simp only[hsl,hid,W,O,and_self,if_true]at h;have hn:=ba h;subst hn;intro E a q;have hH:E.H=ah s.H:=q.H;have hne:id≠g:=fun e=>by
  rw[e,O]at hid;cases hid
 have hide:E.H[id]? = some (.box cells):=by rw[hH]; exact a7 hid
 have hid2e:E.H[g]? = some (.vec ks.length ver (rows.map (aD ks))):=by rw[hH]; exact a7 O
 obtain⟨b0,n0,k1,k2,k3⟩:=q.heap.obj id _ hide;rw[jo]at k3;obtain⟨cv,c1,c2,c3⟩:=k3 c _ W;have hfr:=Fi q.heap hid2e c3;have hle:=Env.wU q.heap g;have M:=al.drop q.heap g fun o ho=>by
  rw[hid2e]at ho;cases ho;rfl
 generalize y:({ w:=E.w,H:=E.H.set g .dead,loc:=E.loc.set g none,X:=E.X }:Env)=d at hle M hfr;have N:d.w=E.w:=by rw[<-y]
 have V:d.X=E.X:=by rw[<-y]
 have U:d.H[id]? = some (.box cells):=by
  rw[<-y];show (E.H.set g .dead)[id]? = _
  rw[aQ (Ne.symm hne)];exact hide
 have hl1:d.loc[id]? = some (some (b0,n0)):=by
  rw[<-y];show (E.loc.set g none)[id]? = _
  rw[aQ (Ne.symm hne)];exact k1
 obtain⟨b,n,h1,h2,h3⟩:=M.obj id _ U;have hbb:b=b0:=by
  rw[hl1]at h1;cases h1;rfl
 subst hbb;have hver:∀ v,(ab.box (cells.set c (.listF ks rows))).aF = some v->(ab.box cells).aF = some v:=fun v hv=>by simpa[ab.aF]using hv
 have I:=Env.oB (o':=.box (cells.set c (.listF ks rows))) (w':=d.w) M U h1 hver rfl (fun _ _=>rfl);have hHR2:=al.set (w':=d.w) M U h1 hver rfl (fun _ _=>rfl) (by
  simp only[aI];refine⟨b,n,h1,by simpa using h2,?_⟩;rw[jo]at h3|-;intro i x u;rw[dv]at u;split at u
  ·rename_i e
   subst e;split at u
   ·cases u
    refine⟨cv,by rw[show ({ w:=d.w,H:=_,loc:=d.loc,X:=d.X }:Env).w=E.w from N]; exact c1,c2,bg I _ hfr⟩
   ·cases u
  ·obtain ⟨v, g1, g2, g3⟩ := h3 i x u
   exact⟨v,g1,g2,bg I x g3⟩)
 have hden:ah ((s.H.set g (.raw .dead)).set id (.raw (.box (cells.set c (.listF ks rows)))))=d.H.set id (.box (cells.set c (.listF ks rows))):=by
  rw[ct,ct,<-hH,<-y];rfl
 refine⟨d.loc,E.X,?_,?_⟩
 ·simp only [ak.den]
  rw[hden];rw[N,V]at hHR2;refine⟨rfl,?_,q.defers,hHR2⟩;have:=dw I _ (dw hle _ q.fr);rw[N,V]at this;exact this
 ·simp only [ak.den]
  rw[hden];have:=(hle.trans I).toM (m:=m);rw[N,V]at this;exact this
theorem aaY{m:Nat}{slot c:Nat}{ks:List Kd}{s:ak}:bh m s.den (GM slot c ks s).2.den:=by
 unfold GM;split
 case h_2=>exact bh.refl _
 rename_i id ver0 k row col hsl;split
 case h_2=>exact bh.refl _
 rename_i cells hid;split
 case h_2=>exact bh.refl _
 rename_i w rows N;split
 case h_2=>exact bh.refl _
 rename_i gs U;split
 case isFalse=>exact bh.refl _
 rename_i hw;subst hw;intro E a d;have hH:E.H=ah s.H:=d.H;have u:E.H[id]? = some (.box cells):=by rw[hH]; exact a7 hid
 obtain⟨b,n,h1,V,y⟩:=d.heap.obj id _ u;have I:∀ v,(ab.box (cells.set c (.listF ks gs))).aF = some v->(ab.box cells).aF = some v:=fun v W=>by simpa[ab.aF]using W
 have q:=Env.oB (o':=.box (cells.set c (.listF ks gs))) (w':=E.w) d.heap u h1 I rfl (fun _ _=>rfl);have O:=al.set (w':=E.w) d.heap u h1 I rfl (fun _ _=>rfl) (by
  simp only[aI];refine⟨b,n,h1,by simpa using V,?_⟩;rw[jo]at y|-;intro i x g;rw[dv]at g;split at g
  ·rename_i e
   subst e;split at g
   ·cases g
    obtain⟨cv,c1,c2,c3⟩:=y c _ N;refine⟨cv,c1,c2,bg q _ ?_⟩;rw[jq,pQ U];exact c3
   ·cases g
  ·obtain ⟨v, g1, g2, g3⟩ := y i x g
   exact⟨v,g1,g2,bg q x g3⟩)
 have M:ah (s.H.set id (.raw (.box (cells.set c (.listF ks gs)))))=E.H.set id (.box (cells.set c (.listF ks gs))):=by rw[ct,<-hH]; rfl
 refine⟨E.loc,E.X,?_,?_⟩
 ·simp only [ak.den]
  rw[M];exact⟨rfl,dw q _ d.fr,d.defers,O⟩
 ·simp only [ak.den]
  rw[M];exact q.toM
theorem aaZ{m:Nat}{slot:Nat}{s:ak}(h:(BW slot s).1=true):bh m s.den (BW slot s).2.den:=by
 unfold BW at h|-;split
 case h_2=>exact bh.refl _
 rename_i w id ver off n O;split
 case h_2=>exact bh.refl _
 rename_i ks v rows hid;split
 case isFalse=>exact bh.refl _
 rename_i y;obtain⟨rfl,rfl,rfl⟩:=y;simp only[O,hid,and_self,if_true]at h;have hn:=Al h;intro E a d;have hH:E.H=ah s.H:=d.H;have q:E.H[id]? = some (.vec ks.length ver (rows.map (aD ks))):=by rw[hH]; exact a7 hid
 have ho:=d.heap.obj id _ q;obtain⟨l,I⟩:∃ l,E.loc[id]? = some l:=by
  have:id<E.loc.length:=by rw[d.heap.len]; exact aG q
  exact⟨_,bx this⟩
 have U:E.loc.set id l=E.loc:=nE I;have N:ah (s.H.set id (.vec ks (ver+1) (rows.take n)))=E.H.set id (.vec ks.length (ver+1) ((rows.take n).map (aD ks))):=by rw[ct,hH]; rfl
 have hlc:∀ b n,l=some (b,n)->E.w.heap.size<=b\/∃ m,E.loc[id]? = some (some (b,m)):=fun b n hb=>.inr ⟨n,by rw[I,hb]⟩;have V:∀ v u,(ab.vec ks.length (ver+1) ((rows.take n).map (aD ks))).aF = some v->(ab.vec ks.length ver (rows.map (aD ks))).aF = some u->u<=v:=by
  intro v u h1 k;simp[ab.aF]at h1 k;omega
 have W:∀ v,(ab.vec ks.length (ver+1) ((rows.take n).map (aD ks))).aF = some v->∀ u,(ab.vec ks.length ver (rows.map (aD ks))).aF = some u->u<v:=by
  intro v h1 u k;simp[ab.aF]at h1 k;omega
 have hle:=Env.k_ (o':=.vec ks.length (ver+1) ((rows.take n).map (aD ks))) (l:=l) (w':=E.w) q d.heap.len (aB _) (fun _ _ _=>rfl) hlc (.inr W) V (fun _ h=>by simp[ab.aF]at h);have hHR:=al.mE (o':=.vec ks.length (ver+1) ((rows.take n).map (aD ks))) (l:=l) (w':=E.w) d.heap q (aB _) (fun _ _ _=>rfl) (fun b n hb=>.inr ⟨n,by rw[I,hb]⟩) (.inr W) V (fun _ h=>by simp[ab.aF]at h) (by
  rw[U]at hle|-;simp only[aI]at ho|-;rcases ho with⟨h1,k⟩|⟨b,mm,h1,k,M,h4,h5⟩
  ·left
   refine⟨h1,?_⟩;have:rows=[]:=by simpa using k
   rw[this];simp
  ·right
   refine⟨b,mm,h1,k,by simp at M|-; omega,?_,?_⟩
   ·intro r hr
    obtain⟨g,_,rfl⟩:=cH.1 hr;exact fW ks g
   ·rw [mD] at h5 |-
    intro i r hi;simp only[bB,nk]at hi;split at hi
    ·obtain ⟨g1, g2⟩ := h5 i r (by simpa using hi)
     exact⟨g1,AB (fun a c hr=>bg hle a hr) rfl g2⟩
    ·simp at hi)
 rw[U]at hle hHR;refine⟨E.loc,E.X,?_,?_⟩
 ·simp only [ak.den]
  rw[N];refine⟨rfl,?_,d.defers,hHR⟩;refine BG (dw hle _ d.fr) fun c y=>?_;have hr:=Gw d.fr y;rw[show s.den.fr=s.fr from rfl,O]at hr;simp only[rel]at hr|-;obtain⟨h1,k,M⟩:=hr;exact⟨h1,⟨.vec ks.length (ver+1) ((rows.take n).map (aD ks)),bf (aG q),rfl,fun v hv=>by simp[ab.aF]at hv; omega⟩,fun _=>M ⟨_,q,rfl⟩⟩
 ·simp only [ak.den]
  rw[N];exact hle.toM
theorem aa0{m:Nat}{ks:List Kd}{s:ak}:bh m s.den (ak.den ⟨s.fr,s.H++[.vec ks 0 []]⟩):=fun E a d=>by
 have hH:E.H=ah s.H:=d.H;have hle:E.le (E.push E.w (.vec ks.length 0 []) none):=Env.k9 d.heap.len (Ext.refl _) (fun b n h=>by cases h);have k:aI (E.push E.w (.vec ks.length 0 []) none) E.H.length (.vec ks.length 0 []):=by
  simp only[aI,Env.push];refine .inl ⟨?_,trivial⟩;rw[iJ (by rw[d.heap.len]; exact aB _),d.heap.len,lH];rfl
 have q:al (E.push E.w (.vec ks.length 0 []) none):=al.push d.heap (Ext.refl _) (fun b n h=>by cases h) k;have g:(ak.den ⟨s.fr,s.H++[.vec ks 0 []]⟩).H=E.H++[.vec ks.length 0 []]:=by
  rw[hH];simp[ak.den,ah,af.den]
 refine⟨E.loc++[none],E.X,?_,?_⟩
 ·rw [g]
  exact⟨g.symm,dw hle _ d.fr,d.defers,q⟩
 ·rw [g]
  exact hle.toM
theorem aa1{m:Nat}{s:ak}:bh m s.den (ak.den ⟨s.fr,s.H++[.raw .eP]⟩):=fun E a d=>by
 have hH:E.H=ah s.H:=d.H;have hle:E.le (E.push E.w (.eP) none):=Env.k9 d.heap.len (Ext.refl _) (fun b n h=>by cases h);have k:aI (E.push E.w (.eP) none) E.H.length (.eP):=by
  simp only[aI,Env.push];rw[iJ (by rw[d.heap.len]; exact aB _),d.heap.len,lH];rfl
 have q:al (E.push E.w (.eP) none):=al.push d.heap (Ext.refl _) (fun b n h=>by cases h) k;have g:(ak.den ⟨s.fr,s.H++[.raw .eP]⟩).H=E.H++[.eP]:=by
  rw[hH];simp[ak.den,ah,af.den]
 refine⟨E.loc++[none],E.X,?_,?_⟩
 ·rw [g]
  exact⟨g.symm,dw hle _ d.fr,d.defers,q⟩
 ·rw [g]
  exact hle.toM
theorem aa2{m:Nat}{slot l:Nat}{s:ak}(h:(BX slot l s).1=true):bh m s.den (BX slot l s).2.den:=by
 unfold BX at h|-;split
 case h_2=>exact bh.refl _
 rename_i id u;split
 case h_2=>exact bh.refl _
 rename_i K ks cl hid;simp only[u,hid]at h;intro E a d;have hH:E.H=ah s.H:=d.H;have q:E.H[id]? = some (.map [] cl):=by rw[hH]; exact a7 hid
 obtain⟨h1,k⟩:=XX (w:=ks.length) d.heap q (by rw[hH]; exact h);have g:ah (s.H.set id (.aJ l K ks [] cl))=E.H.set id (.aJ l ks.length [] cl):=by rw[ct,hH]; rfl
 refine⟨E.loc,E.X,?_,?_⟩
 ·simp only [ak.den]
  rw[g];exact⟨rfl,dw k _ d.fr,d.defers,h1⟩
 ·simp only [ak.den]
  rw[g];exact k.toM
theorem aa3{m:Nat}{slot l:Nat}{KI VI:Ct}{s:ak}(h:(B5 slot l KI VI s).1=true):bh m s.den (B5 slot l KI VI s).2.den:=by
 unfold B5 at h|-;split
 case h_2=>exact bh.refl _
 rename_i id u;split
 case h_2=>exact bh.refl _
 rename_i K V cl hid;simp only[u,hid]at h;intro E a d;have hH:E.H=ah s.H:=d.H;have q:E.H[id]? = some (.map [] cl):=by rw[hH]; exact a7 hid
 obtain⟨h1,k⟩:=Mu d.heap q (by rw[hH]; exact h);have g:ah (s.H.set id (.mm l K KI VI [] [] cl))=E.H.set id (.mm l [] [] cl):=by rw[ct,hH]; rfl
 refine⟨E.loc,E.X,?_,?_⟩
 ·simp only [ak.den]
  rw[g];exact⟨rfl,dw k _ d.fr,d.defers,h1⟩
 ·simp only [ak.den]
  rw[g];exact k.toM
theorem aa4{m:Nat}{slot c l:Nat}{KI VI:Ct}{s:ak}(h:(B6 slot c l KI VI s).1=true):bh m s.den (B6 slot c l KI VI s).2.den:=by
 unfold B6 at h|-;split
 case h_2=>exact bh.refl _
 rename_i a _ _ _ _ u;split
 case h_2=>exact bh.refl _
 rename_i cells v;split
 case h_2=>exact bh.refl _
 rename_i id y;split
 case h_2=>exact bh.refl _
 rename_i K V rows cl hid;simp only[u,v,y,hid,r7]at h;obtain⟨h,he⟩:=h;have he:rows=[]:=by cases rows with|nil=>rfl|cons _ _=>cases he
 subst he;intro E act d;have hH:E.H=ah s.H:=d.H;have q:E.H[id]? = some (.map [] cl):=by rw[hH]; exact a7 hid
 obtain⟨h1,k⟩:=Mu d.heap q (by rw[hH]; exact h);have g:ah (s.H.set id (.mm l K KI VI [] [] cl))=E.H.set id (.mm l [] [] cl):=by rw[ct,hH]; rfl
 refine⟨E.loc,E.X,?_,?_⟩
 ·simp only [ak.den]
  rw[g];exact⟨rfl,dw k _ d.fr,d.defers,h1⟩
 ·simp only [ak.den]
  rw[g];exact k.toM
theorem al.forget{E:Env}(H:al E){id l0:Nat}{o:ab}(hid:E.H[id]? = some o)(hlab:o.label=some l0)(hver:o.aF = some 0) :
  al { w:=E.w,H:=E.H.set id (.vec 0 1 []),loc:=E.loc.set id none,X:=E.X.re (gT E.X.r l0) }/\E.le { w:=E.w,H:=E.H.set id (.vec 0 1 []),loc:=E.loc.set id none,X:=E.X.re (gT E.X.r l0) }:=by
 have M:=aG hid;have hltl:id<E.loc.length:=by rw[H.len]; exact M
 have N:∀(i:Nat) x,(E.H.set id (.vec 0 1 []))[i]? = some x->(i=id/\x=.vec 0 1 [])\/(i≠id/\E.H[i]? = some x):=fun i x hi=>by
  by_cases d:i=id
  ·subst d
   rw[bf M]at hi;cases hi;exact .inl ⟨rfl,rfl⟩
  ·rw [aQ (Ne.symm d)] at hi
   exact .inr ⟨d,hi⟩
 have I:∀(i b m:Nat),(E.loc.set id none)[i]? = some (some (b,m))->i≠id/\E.loc[i]? = some (some (b,m)):=fun i b m hi=>by
  by_cases d:i=id
  ·subst d
   rw[bf hltl]at hi;cases hi
  ·rw [aQ (Ne.symm d)] at hi
   exact⟨d,hi⟩
 have hle:E.le { w:=E.w,H:=E.H.set id (.vec 0 1 []),loc:=E.loc.set id none,X:=E.X.re (gT E.X.r l0) }:=by
  refine⟨fun i ver O=>?_,aB _,fun _ _ _=>rfl,fun b hb hno=>?_,fun i ver O u=>?_,⟨rfl,rfl⟩,fun l h hh=>?_,.refl _,fun i l x h1 g U=>?_⟩
  rotate_right
  ·by_cases d : i = id
   ·subst d
    obtain⟨y,q,V⟩:=U;rw[show (E.H.set i (.vec 0 1 []))[i]? = some (.vec 0 1 []) from bf M]at q;cases q;cases V
   ·have W : l ≠ l0 := fun W => d (H.uniq i id x o l h1 hid (ab.mz g) (by rw [W]; exact hlab))
    exact⟨⟨[],by rw[cB]; exact if_neg W⟩,x,by simp only[]; rw[aQ (Ne.symm d)]; exact h1,g⟩
  ·obtain ⟨x, h1, g⟩ := O
   by_cases d:i=id
   ·subst d
    rw[hid]at h1;cases h1;have:=g.2 0 hver;exact⟨.vec 0 1 [],by simp only[]; rw[bf M],rfl,fun v U=>by cases U; omega⟩
   ·exact⟨x,by simp only[]; rw[aQ (Ne.symm d)]; exact h1,g⟩
  ·rintro (⟨i, c, hi⟩ | ⟨l, h, m, hm⟩)
   ·exact hno (.inl ⟨i,c,(I i b c hi).2⟩)
   ·exact hno (.inr ⟨l,h,m,(ja hm).1⟩)
  ·obtain ⟨x, h1, g⟩ := u
   rcases N i x h1 with⟨rfl,rfl⟩|⟨d,q⟩
   ·cases g
    obtain⟨y,q,V⟩:=O;rw[hid]at q;cases q;have:=V.2 0 hver;omega
   ·exact⟨⟨x,q,g⟩,aQ (Ne.symm d)⟩
  ·refine ⟨?_, fun y hy => (ja hy).1⟩
   show h<(gT E.X.r l0 l).length
   rw[Mr];exact hh
 refine⟨⟨by simp[H.len],fun i j b m n hi hj=>H.inj i j b m n (I _ _ _ hi).2 (I _ _ _ hj).2,fun i b m hi=>H.lt i b m (I _ _ _ hi).2,H.X,fun i x hi=>?_,H.fY.bE hle.toC,fun l h l' h' b m n h1 g=>H.ff _ _ _ _ _ _ _ (ja h1).1 (ja g).1,fun i b m l h n hi hk=>H.cQ _ _ _ _ _ _ (I _ _ _ hi).2 (ja hk).1,fun l h b m hk=>H.cr _ _ _ _ (ja hk).1,fun i k x y l hi hk h1 g=>?_,fun l hn h y hy=>?_⟩,hle⟩
 ·rcases N i x hi with ⟨rfl, rfl⟩ | ⟨d, q⟩
  ·simp only [aI]
   exact .inl ⟨bf hltl,trivial⟩
  ·refine lK (fun a _ hr => bg hle a hr) (aQ (Ne.symm d)) (fun _ _ _ => rfl) (fun l u => ?_) (H.obj i x q)
   have hne2:l≠l0:=fun e=>d (H.uniq i id x o l q hid u (by rw[hlab,e]));exact⟨if_neg hne2,fun _ _ _ _=>rfl⟩
 ·have key:∀ (i:Nat) x,(E.H.set id (.vec 0 1 []))[i]? = some x->x.label=some l->E.H[i]? = some x:=by
   intro i x hi u;rcases N i x hi with⟨rfl,rfl⟩|⟨d,q⟩
   ·cases u
   ·exact q
  exact H.uniq i k x y l (key i x hi h1) (key k y hk g) h1 g
 ·obtain ⟨g1, g2⟩ := ja hy
  refine H.gR l (fun i x hi u=>?_) h y g1;by_cases e:i=id
  ·subst e
   rw[hid]at hi;cases hi;exact g2 (by rw[hlab]at u; cases u; rfl)
  ·exact hn i x (by show (E.H.set id (.vec 0 1 []))[i]? = _; rw[aQ (Ne.symm e)]; exact hi) u
theorem al.aa5{E:Env}(H:al E){id:Nat}{o:ab}(hid:E.H[id]? = some o)(hlab:o.label=none)(k:o.aF = some 0) :
  al { w:=E.w,H:=E.H.set id (.vec 0 1 []),loc:=E.loc.set id none,X:=E.X }/\E.le { w:=E.w,H:=E.H.set id (.vec 0 1 []),loc:=E.loc.set id none,X:=E.X }:=by
 have M:=aG hid;have I:id<E.loc.length:=by rw[H.len]; exact M
 have d:∀ v,(ab.vec 0 1 []).aF = some v->∀ u,o.aF = some u->u<v:=fun v g u hu=>by
  rw[k]at hu;cases hu;cases g;exact Nat.zero_lt_one
 have q:∀ v u,(ab.vec 0 1 []).aF = some v->o.aF = some u->u<=v:=fun v u g hu=>Nat.le_of_lt (d v g u hu);have y:o.born=true->o.aF = none->(ab.vec 0 1 []).aF = none:=fun _ h=>by rw[k]at h; cases h
 refine⟨al.mE H hid (aB _) (fun _ _ _=>rfl) (fun _ _ h=>by cases h) (.inr d) q y ?_ (hlab:=hlab),Env.k_ hid H.len (aB _) (fun _ _ _=>rfl) (fun _ _ h=>by cases h) (.inr d) q y (hmm:=.inl (ab.Aw hlab))⟩;simp only[aI];exact .inl ⟨bf I,trivial⟩
theorem aa6{m:Nat}{id:Nat}{s:ak}:bh m s.den (GL id s).2.den:=by
 have k:∀ o:af,s.H[id]? = some o->o.den.label=none->o.den.aF = some 0->bh m s.den (ak.den ⟨s.fr,s.H.set id (.vec [] 1 [])⟩):=fun o hid h1 q=>by
  intro E a d;have hH:E.H=ah s.H:=d.H;obtain⟨g1,g2⟩:=al.aa5 d.heap (by rw[hH]; exact a7 hid) h1 q;have g:ah (s.H.set id (.vec [] 1 []))=E.H.set id (.vec 0 1 []):=by rw[ct,hH]; rfl
  refine⟨E.loc.set id none,E.X,?_,?_⟩
  ·simp only [ak.den]
   rw[g];exact⟨rfl,dw g2 _ d.fr,d.defers,g1⟩
  ·simp only [ak.den]
   rw[g];exact g2.toM
 unfold GL;split
 ·rename_i hid
  exact k _ hid rfl rfl
 ·rename_i hid
  exact k _ hid rfl rfl
 ·rename_i l K KI VI rows mem cl hid
  intro E a d;have hH:E.H=ah s.H:=d.H;obtain⟨g1,g2⟩:=al.forget (l0:=l) d.heap (by rw[hH]; exact a7 hid) rfl rfl;have g:ah (s.H.set id (.vec [] 1 []))=E.H.set id (.vec 0 1 []):=by rw[ct,hH]; rfl
  refine⟨E.loc.set id none,E.X.re (gT E.X.r l),?_,?_⟩
  ·simp only [ak.den]
   rw[g];exact⟨rfl,dw g2 _ d.fr,d.defers,g1⟩
  ·simp only [ak.den]
   rw[g];exact g2.toM
 ·rename_i l ks n ms hid
  intro E a d;have hH:E.H=ah s.H:=d.H;obtain⟨g1,g2⟩:=al.forget (l0:=l) d.heap (by rw[hH]; exact a7 hid) rfl rfl;have g:ah (s.H.set id (.vec [] 1 []))=E.H.set id (.vec 0 1 []):=by rw[ct,hH]; rfl
  refine⟨E.loc.set id none,E.X.re (gT E.X.r l),?_,?_⟩
  ·simp only [ak.den]
   rw[g];exact⟨rfl,dw g2 _ d.fr,d.defers,g1⟩
  ·simp only [ak.den]
   rw[g];exact g2.toM
 ·exact bh.refl _
theorem aa7{m:Nat}{slot l:Nat}{s:ak}(h:(B2 slot l s).1=true):bh m s.den (B2 slot l s).2.den:=by
 unfold B2 at h|-;split
 case h_2=>exact bh.refl _
 rename_i _ id _ _ _ v;split
 case h_2=>exact bh.refl _
 rename_i ks rows hid;simp only[v,hid,r7]at h;obtain⟨h,I⟩:=h;intro E a d;have hH:E.H=ah s.H:=d.H;have u:E.H[id]? = some (.vec 1 0 (rows.map (aD [.list ks]))):=by rw[hH]; exact a7 hid
 have y:rows.map (aD [.list ks])≠[]:=by
  intro e;rw[List.map_eq_nil_iff]at e;subst e;cases I
 obtain⟨h1,q⟩:=Yc (k:=ks.length) d.heap u y (by rw[hH]; exact h);have g:ah (s.H.set id (.b_ l ks rows.length []))=E.H.set id (.b_ l ks.length (rows.map (aD [.list ks])).length []):=by rw[ct,hH,bN]; rfl
 refine⟨E.loc,E.X,?_,?_⟩
 ·simp only [ak.den]
  rw[g];exact⟨rfl,dw q _ d.fr,d.defers,h1⟩
 ·simp only [ak.den]
  rw[g];exact q.toM
theorem aa8{m:Nat}{slot l:Nat}{s:ak}(h:(B3 slot l s).1=true):bh m s.den (B3 slot l s).2.den:=by
 unfold B3 at h|-;split
 case h_2=>exact bh.refl _
 rename_i id u;split
 case h_2=>exact bh.refl _
 rename_i K ks v cl hid;simp only[u,hid]at h;intro E a d;have hH:E.H=ah s.H:=d.H;have q:E.H[id]? = some (.map [] cl):=by rw[hH]; exact a7 hid
 obtain⟨h1,k⟩:=Yf (w:=ks.length) d.heap q (by rw[hH]; exact h);have g:ah (s.H.set id (.bp l K ks [] cl))=E.H.set id (.bp l ks.length [] cl):=by rw[ct,hH]; rfl
 refine⟨E.loc,E.X,?_,?_⟩
 ·simp only [ak.den]
  rw[g];exact⟨rfl,dw k _ d.fr,d.defers,h1⟩
 ·simp only [ak.den]
  rw[g];exact k.toM
theorem aa9{m:Nat}{slot:Nat}{s:ak}(h:(B4 slot s).1=true):bh m s.den (B4 slot s).2.den:=by
 unfold B4 at h|-;split
 case h_2=>exact bh.refl _
 rename_i id W;split
 case h_2=>exact bh.refl _
 rename_i l K ks rows cl hid;simp only[W,hid]at h;intro E a d;have hH:E.H=ah s.H:=d.H;have u:E.H[id]? = some (.bp l ks.length (kr K ks rows) cl):=by rw[hH]; exact a7 hid
 have ho:=d.heap.obj id _ u;simp only[aI]at ho;obtain⟨b,n,ms,g1,g2,g3,k00,hh,k1,k2⟩:=ho;obtain⟨h1,M⟩:=al.E3 (o':=.map (c8 K (.agg [.list ks,.list ks]) rows) cl) d.heap u rfl rfl rfl fun hle=>by
  simp only[aI];refine⟨b,n,ms,g1,g2,?_⟩;rw[dT]at g3|-;obtain⟨q1,q2⟩:=g3;refine⟨by simpa[c8,fv,kr]using q1,fun i x e k he=>?_⟩;unfold c8 at k;rw[bB]at k;obtain⟨r,hr,rfl⟩:=dI.1 k;have N:=Bf (K:=K) (ks:=ks) hr;have I:(gi r 3).bool=true:=da.1 h r (dJ hr);obtain⟨a1,a2,a3,a4,a5⟩:=q2 i _ e (MD N) he;refine⟨bg hle _ a1,?_,a3,a4,Ct.rO (.agg [.list ks,.list ks]) (gi r 1).row⟩;obtain⟨O,U,hab,ha1,hb1⟩:=k00 e (dJ he);have side:∀(s:Bool) (sl:List (List G)),(fX s (mO K ks r)).2.1=some (sl.map (aD ks))->rel { w:=E.w,H:=E.H.set id (.map (c8 K (.agg [.list ks,.list ks]) rows) cl),loc:=E.loc,X:=E.X.re (gT E.X.r l) } (.listF ks sl) (pE s e.val):=fun s sl hs1=>by
   have hs2:=k2 s i _ (sl.map (aD ks)) e N hs1 he;rw[jq];simp only[rel];have hcl:eD (sl.map (aD ks)):=by
    intro r hr;obtain⟨g,_,rfl⟩:=cH.1 hr;exact fW ks g
   refine⟨hcl,?_⟩;rcases hs2 with⟨s1,base,s2⟩|⟨bb,mm,s1,s2,s3,s4,s5,s6⟩
   ·rw [s1]
    exact⟨base,0,s2,aB _,.inl rfl⟩
   ·refine ⟨_, mm, s2, s4, .inr ⟨bb, 0, rfl, ⟨(d.heap.cr _ _ _ _ s1).1, ?_, (d.heap.cr _ _ _ _ s1).2⟩, fO (fun a _ hr => bg hle a hr) rfl s6⟩⟩
    rintro(⟨j,c',q⟩|⟨l',k',c',q⟩)
    ·exact d.heap.cQ _ _ _ _ _ _ q s1
    ·obtain ⟨j1, j2⟩ := ja q
     exact j2 (d.heap.ff _ _ _ _ _ _ _ j1 s1).1
  have r0:=side false (lk r 0) (by simp only[mO,fX,I,cond_true,cond_false]);have r1:=side true (lk r 1) (by simp only[mO,fX,I,cond_true]);rw[hab]at r0 r1|-;have r0:rel _ (.listF ks (lk r 0)) O:=r0;have r1:rel _ (.listF ks (lk r 1)) U:=r1;show rel _ (.agg [.listF ks (lk r 0),.listF ks (lk r 1)]) (.agg #[O,U])
  rw[rel];refine⟨_,rfl,fun y V=>?_,?_⟩
  ·simp at V
   rcases V with rfl|rfl
   ·exact ha1
   ·exact hb1
  ·simp only [ae, and_true]
   exact⟨r0,r1⟩
 have v:ah (s.H.set id (.map K (.agg [.list ks,.list ks]) rows cl))=E.H.set id (.map (c8 K (.agg [.list ks,.list ks]) rows) cl):=by rw[ct,hH]; rfl
 refine⟨E.loc,E.X.re (gT E.X.r l),?_,?_⟩
 ·simp only [ak.den]
  rw[v];exact⟨rfl,dw M _ d.fr,d.defers,h1⟩
 ·simp only [ak.den]
  rw[v];exact M.toM
theorem aa_{m:Nat}{slot:Nat}{s:ak}(h:(B1 slot s).1=true):bh m s.den (B1 slot s).2.den:=by
 unfold B1 at h|-;split
 case h_2=>exact bh.refl _
 rename_i id N;split
 case h_2=>exact bh.refl _
 rename_i l K ks rows cl hid;simp only[N,hid]at h;intro E a d;have hH:E.H=ah s.H:=d.H;have u:E.H[id]? = some (.aJ l ks.length (fT K ks rows) cl):=by rw[hH]; exact a7 hid
 have ho:=d.heap.obj id _ u;simp only[aI]at ho;obtain⟨b,n,ms,g1,g2,g3,hh,k1,W⟩:=ho;obtain⟨h1,y⟩:=al.E3 (o':=.map (c8 K (.one (.list ks)) rows) cl) d.heap u rfl rfl rfl fun hle=>by
  simp only[aI];refine⟨b,n,ms,g1,g2,?_⟩;rw[dT]at g3|-;obtain⟨q1,q2⟩:=g3;refine⟨by simpa[c8,cL,fT]using q1,fun i x e k he=>?_⟩;unfold c8 at k;rw[bB]at k;obtain⟨r,hr,rfl⟩:=dI.1 k;have I:=uq (K:=K) (ks:=ks) hr;have O:(gi r 3).bool=true:=da.1 h r (dJ hr);obtain⟨M,a2,a3,a4,a5⟩:=q2 i _ e (xf I) he;rw[Bg]at M a4;refine⟨bg hle _ M,?_,a3,a4,rfl⟩;have U:=W i _ ((jg r).map (aD ks)) e I (by simp only[iQ,O,cond_true]) he;show rel _ (.listF ks (jg r)) e.val
  rw[jq];simp only[rel];have V:eD ((jg r).map (aD ks)):=by
   intro r hr;obtain⟨g,_,rfl⟩:=cH.1 hr;exact fW ks g
  refine⟨V,?_⟩;rcases U with⟨s1,base,s2⟩|⟨bb,mm,s1,s2,s3,s4,s5,s6⟩
  ·rw [s1]
   exact⟨base,0,s2,aB _,.inl rfl⟩
  ·refine ⟨_, mm, s2, s4, .inr ⟨bb, 0, rfl, ⟨(d.heap.cr _ _ _ _ s1).1, ?_, (d.heap.cr _ _ _ _ s1).2⟩, fO (fun a _ hr => bg hle a hr) rfl s6⟩⟩
   rintro(⟨j,c',q⟩|⟨l',k',c',q⟩)
   ·exact d.heap.cQ _ _ _ _ _ _ q s1
   ·obtain ⟨j1, j2⟩ := ja q
    exact j2 (d.heap.ff _ _ _ _ _ _ _ j1 s1).1
 have v:ah (s.H.set id (.map K (.one (.list ks)) rows cl))=E.H.set id (.map (c8 K (.one (.list ks)) rows) cl):=by rw[ct,hH]; rfl
 refine⟨E.loc,E.X.re (gT E.X.r l),?_,?_⟩
 ·simp only [ak.den]
  rw[v];exact⟨rfl,dw y _ d.fr,d.defers,h1⟩
 ·simp only [ak.den]
  rw[v];exact y.toM
theorem aa'{m:Nat}{slot:Nat}{s:ak}(h:(B0 slot s).1=true):bh m s.den (B0 slot s).2.den:=by
 unfold B0 at h|-;split
 case h_2=>exact bh.refl _
 rename_i id U;split
 case h_2=>exact bh.refl _
 rename_i l K ks rows cl hid;simp only[U,hid]at h;intro E a d;have hH:E.H=ah s.H:=d.H;have v:E.H[id]? = some (.aJ l ks.length (fT K ks rows) cl):=by rw[hH]; exact a7 hid
 have ho:=d.heap.obj id _ v;simp only[aI]at ho;obtain⟨b,n,ms,g1,g2,g3,hh,k1,k2⟩:=ho;obtain⟨h1,M⟩:=al.E3 (o':=.map (c8 K (.one (.list ks)) rows) cl) d.heap v rfl rfl rfl fun hle=>by
  simp only[aI];refine⟨b,n,ms,g1,g2,?_⟩;rw[dT]at g3|-;obtain⟨q1,q2⟩:=g3;refine⟨by simpa[c8,cL,fT]using q1,fun i x e q he=>?_⟩;unfold c8 at q;rw[bB]at q;obtain⟨r,hr,rfl⟩:=dI.1 q;have N:=uq (K:=K) (ks:=ks) hr;have y:((gi r 3).bool||(gi r 4).bool)=true:=da.1 h r (dJ hr);obtain⟨O,a2,a3,a4,a5⟩:=q2 i _ e (xf N) he;rw[Bg]at O a4;refine⟨bg hle _ O,?_,a3,a4,rfl⟩;cases k:(gi r 3).bool with
  | false =>
   rw[k,Bool.false_or]at y;have ev:(gj (iQ K ks r).1).2=.listF ks (jg r):=by simp only[iQ,k,y]; rfl
   rw[ev]at a2;exact bg hle _ a2
  |true =>
  have V:=k2 i _ ((jg r).map (aD ks)) e N (by simp only[iQ,k,cond_true]) he;show rel _ (.listF ks (jg r)) e.val
  rw[jq];simp only[rel];have W:eD ((jg r).map (aD ks)):=by
   intro r hr;obtain⟨g,_,rfl⟩:=cH.1 hr;exact fW ks g
  refine⟨W,?_⟩;rcases V with⟨s1,base,s2⟩|⟨bb,mm,s1,s2,s3,s4,s5,s6⟩
  ·rw [s1]
   exact⟨base,0,s2,aB _,.inl rfl⟩
  ·refine ⟨_, mm, s2, s4, .inr ⟨bb, 0, rfl, ⟨(d.heap.cr _ _ _ _ s1).1, ?_, (d.heap.cr _ _ _ _ s1).2⟩, fO (fun a _ hr => bg hle a hr) rfl s6⟩⟩
   rintro(⟨j,c',u⟩|⟨l',k',c',u⟩)
   ·exact d.heap.cQ _ _ _ _ _ _ u s1
   ·obtain ⟨j1, j2⟩ := ja u
    exact j2 (d.heap.ff _ _ _ _ _ _ _ j1 s1).1
 have I:ah (s.H.set id (.map K (.one (.list ks)) rows cl))=E.H.set id (.map (c8 K (.one (.list ks)) rows) cl):=by rw[ct,hH]; rfl
 refine⟨E.loc,E.X.re (gT E.X.r l),?_,?_⟩
 ·simp only [ak.den]
  rw[I];exact⟨rfl,dw M _ d.fr,d.defers,h1⟩
 ·simp only [ak.den]
  rw[I];exact M.toM
theorem aba{m:Nat}{slot l:Nat}{s:ak}(h:(BZ slot l s).1=true):bh m s.den (BZ slot l s).2.den:=by
 unfold BZ at h|-;split
 case h_2=>exact bh.refl _
 rename_i id v;split
 case h_2=>exact bh.refl _
 rename_i K ks rows cl hid;simp only[v,hid]at h;intro E a d;have hH:E.H=ah s.H:=d.H;have u:E.H[id]? = some (.map (c8 K (.one (.list ks)) rows) cl):=by rw[hH]; exact a7 hid
 obtain⟨h1,k⟩:=XY (w:=ks.length) (es:=fT K ks (rows.map BY)) d.heap u (by
  simp only[cL,fT,c8,List.map_map];rfl) (fun x q=>by
  unfold fT at q;obtain⟨r,hr,rfl⟩:=cH.1 q;obtain⟨r0,_,rfl⟩:=cH.1 hr;rfl) (by rw[hH]; exact h)
 have g:ah (s.H.set id (.aJ l K ks (rows.map BY) cl))=E.H.set id (.aJ l ks.length (fT K ks (rows.map BY)) cl):=by rw[ct,hH]; rfl
 refine⟨E.loc,E.X,?_,?_⟩
 ·simp only [ak.den]
  rw[g];exact⟨rfl,dw k _ d.fr,d.defers,h1⟩
 ·simp only [ak.den]
  rw[g];exact k.toM
theorem abb{m:Nat}(h:Hint)(s:ak)(hb:(B7 h s).1=true):bh m s.den (B7 h s).2.den:=by
 cases h with
 |freeze i=>exact aaV hb
 | O4 i ks =>
  simp only[B7];split
  ·rename_i h; exact Oa h
  ·exact bh.refl _
 |uM i c ks=>exact aaW
 |BQ i=>exact aaZ hb
 |uN i c=>exact aaX hb
 |hole ks=>exact aa0
 |uO=>exact aa1
 |aJ i l=>exact aa2 hb
 |BR i=>exact aa_ hb
 |O5 i l=>exact aba hb
 |O6 i=>exact aa' hb
 |mm i l KI VI=>exact aa3 hb
 |uP i c l KI VI=>exact aa4 hb
 |forget i=>exact aa6
 |BS i c ks=>exact aaY
 |b_ i l=>exact aa7 hb
 |bp i l=>exact aa8 hb
 |BT i=>exact aa9 hb
theorem O7{m:Nat}:∀(d:List Hint) (s:ak),(yg d s).1=true->bh m s.den (yg d s).2.den
 | [],s,_=>bh.refl _
 | h::d,s,hb=>by
  simp only[yg]at hb|-;simp only[ax]at hb;exact(abb h s hb.1).trans (O7 d _ hb.2)
def O8:List (Nat × List Hint)->Nat->List Hint
 | [],_=>[]
 | (i,d)::l,id=>match ai id i with
  |true=>d
  |false=>O8 l id
def LT.iU(L:LT)(d:List (Nat × List Hint)):LT:=⟨L.loops,fun id s=>yg (O8 d id) s,L.xR⟩
theorem nM{P:Program}{m:Nat}{c:Code}(d:List (Nat × List Hint)):ay P m (aA.iU d) c:=⟨fun _ _ _ _ _ h=>(nomatch h),fun id s hb=>O7 _ s hb,fun _ _ _ _ _ h=>(nomatch h)⟩
end Go.AL

namespace Go.AL
open Go
variable [Dr]
theorem abc{E:Env}{ks:List Kd}{c:Value}(h:rel E (.listF ks []) c):rel E (.emptyS true) c\/rel E (.emptyS false) c:=by
 simp only[rel,eo,G.rows,List.length_nil]at h;obtain⟨base,cap,rfl,_,_⟩:=h;cases base with
 |none=>exact .inl (by simp only[rel]; exact⟨_,_,rfl,rfl⟩)
 |some p=>exact .inr (by simp only[rel]; exact⟨_,_,rfl,rfl⟩)
theorem abd{P:Program}{f:FuncId}{ks:List Kd}{H H':List ab}{v:AV}(h1:dn P f [.emptyS true] H v H')(g:dn P f [.emptyS false] H v H'):dn P f [.listF ks []] H v H':=by
 intro E cargs hH HE hr
 match d:cargs.toList,hr with
 | [],hr=>simp[ae]at hr
 | c::cs,hr =>
  simp only[ae]at hr;rcases abc hr.1 with h|h
  ·exact h1 E cargs hH HE (by rw[d]; simp only[ae]; exact⟨h,hr.2⟩)
  ·exact g E cargs hH HE (by rw[d]; simp only[ae]; exact⟨h,hr.2⟩)
end Go.AL

namespace Go.AL
open Go Go.ChangeMaps
variable [Dr]
theorem df.mT{s:St}{E:Env}{a:Act}(d:df s E a)(t:Tmp){v:AV}{u:Value}(g:rel E v u):df (s.put (some t) v s.H) E (a.put (some t) u) :=
 ⟨d.H,MN d.fr (Env.le.refl E) (some t) g,by rw[put_defers]; exact d.defers,d.heap⟩
theorem yh{m:Nat}{E E':Env}(h:E.fS m E'):E.bE E' :=
 ⟨fun b hb=>⟨⟨Nat.lt_of_lt_of_le hb.1 h.size,h.own b hb.1 hb.2.1,fun d=>hb.2.2 ((h.X b hb.1).1.1 d)⟩,h.same b hb.1 hb.2.1⟩⟩
theorem uQ{P:Program}{ops:Array Oper}{Q:Exit->Act->World->Prop}{i:Nat}{o:Oper}{K:Act->World->Prop}{a:Act}{w w':World}{u:Value}
  (hi:ops[i]? = some o) (g:o.guard=none) (hr:(execOp a.eval o).run P w=.ok (.value u) w') (d:∀ c,o.op≠.defer c) (ro:Option Nat) (k:K (a.put o.dst u) w'):wpOpIn (fz ro) 0 P ops Q i K a w:=by
 unfold wpOpIn;simp only[hi];rw[if_pos (by simp[Region.wanted,g])];unfold Oper.wpIn;rw[Oper.semAt_eq _ _ _ d,hr];exact⟨fun _ _=>trivial,k⟩
theorem O9{P:Program}{pf:FuncId->Bool}{ops:Array Oper}{Q:Exit->Act->World->Prop}(ro:Option Nat):∀(l:List Oper) (k:Nat) (s s':St) (E:Env) (a:Act) (rest:List Nat),
  (∀(j:Nat) (o:Oper),l[j]? = some o->ops[k+j]? = some o)->jS P pf ops l s s'->df s E a->(∀ d w',fR E s' d w'->wpOpsIn (fz ro) 0 P ops Q rest d w')->wpOpsIn (fz ro) 0 P ops Q (WA k l.length++rest) a E.w
 | [],k,s,s',E,a,rest,_,h,g,q=>by
  simp only[jS]at h;subst h;exact q _ _ (fR.refl g)
 | o::l,k,s,s',E,a,rest,u,h,g,q=>by
  obtain⟨v,H',N,y⟩:=h;simp only[bG,WB,kY];rw[wpOpsIn_cons];refine Fj g (by simpa using u 0 o rfl) N (fun d w' O=>?_) ro;obtain⟨I,r',h1,U⟩:=O;refine O9 ro l (k+1) _ s' { w:=w',H:=H',loc:=I,X:=E.X.re r' } d rest (fun j x V=>?_) y h1 (fun a2 W M=>q a2 W (fR.after U M));have:=u (j+1) x (by simpa using V)
  rwa [show k+1+j=k+(j+1) from by omega]
theorem B8{a:Act}{t:Tmp}{u:Value}(h:t<a.tmps.size):(a.put (some t) u).eval (.tmp t)=u:=by
 simp[Act.eval,Le,h]
def Tree.qm:Tree->Option (bU × ak)
 |.fail=>none
 |.done x s=>some (x,s)
 | .ask b t e=>match b with
  |true=>t.qm
  |false=>e.qm
 | .side b t=>match b with
  |true=>t.qm
  |false=>none
theorem B9:∀{t:Tree} {x:bU} {s:ak},t.qm=some (x,s)->t.holds fun d s'=>d=x/\s'=s
 |.fail,_,_,h=>by cases h
 | .done _ _,_,_,h=>by
  cases h;exact⟨rfl,rfl⟩
 | .ask b t e,_,_,h=>by
  cases b with
  |true=>exact⟨fun _=>B9 (t:=t) h,fun h=>(nomatch h)⟩
  |false=>exact⟨fun h=>(nomatch h),fun _=>B9 (t:=e) h⟩
 | .side b t,_,_,h=>by
  cases b with
  |true=>exact⟨rfl,B9 (t:=t) h⟩
  |false=>cases h
def eC(st:List G->List G->Option (List G))(bl:List G->Nat):List (List G)->List G->Option (List G)
 | [],d=>some d
 | r::rs,d=>match st r d with
  |some d'=>bif ai (bl d') (bl d) then eC st bl rs d' else none
  |none=>none
theorem GN{st:List G->List G->Option (List G)}{bl:List G->Nat}:∀(p q:List (List G)) (d:List G),eC st bl (p++q) d=(eC st bl p d).bind (eC st bl q)
 | [],_,_=>rfl
 | r::p,q,d=>by
  simp only[kY,eC];cases st r d with
  |none=>rfl
  | some d' =>
   simp only[];cases ai (bl d') (bl d)with
   |false=>rfl
   |true=>exact GN p q d'
def dF(r:List G):Nat:=(gi r 2).int.toNat
theorem O_{f:List G->Nat}{r:List G}:∀{l:List (List G)} {seen:Array Nat},(l.map f).Nodup->r∈l->seen.contains (f r)=false ->
  (l.filter fun x => !seen.contains (f x)).Perm (r::l.filter fun x => !(seen.push (f r)).contains (f x))
 | [],_,_,h,_=>by cases h
 | x::l,seen,d,hm,g=>by
  obtain⟨k,d⟩:=nq.1 d;rcases bC.1 hm with rfl|hm
  ·have e:(l.filter fun x => !(seen.push (f r)).contains (f x))=l.filter fun x => !seen.contains (f x):=by
    apply List.filter_congr;intro y v;have:(f y==f r)=false:=by
     rw[beq_eq_false_iff_ne];intro e;exact k (e▸cH.2 ⟨y,v,rfl⟩)
    rw[contains_push,this,Lk]
   rw[List.filter_cons_of_pos (by rw[g]; rfl),List.filter_cons_of_neg (by rw[contains_push]; simp),e]
  ·have u:(f x==f r)=false:=by
    rw[beq_eq_false_iff_ne];intro e;exact k (e▸cH.2 ⟨r,hm,rfl⟩)
   have q:=O_ d hm g;simp only[List.filter_cons,contains_push seen (f r) (f x),u,Lk];cases seen.contains (f x)with
   |true=>simpa using q
   | false =>
    simp only[Bool.not_false,if_true];exact(List.Perm.cons x q).trans (List.Perm.swap r x _)
structure iu where
 inv:oQ
 ps:List lr
 opens:List (Nat × List Kd)
 K:Ct
 V:Ct
 id:Nat
 x:Tmp
 y:Tmp
 it:Tmp
 t1:Tmp
 t2:Tmp
 t3:Tmp
 bl:List G->Nat
 init:List G->Nat->List G
 side:List G->Nat->Bool
 st:List G->List G->Option (List G)
def iu.rs(sp:iu)(r d:List G):ak:=⟨(bH sp.inv d).fr.set sp.t3 (.tuple [sp.K.av (gi r 0).row,sp.V.av (gi r 1).row]),(bH sp.inv d).H⟩
def iu.s2(sp:iu)(s:ak)(b:Nat):ak:=⟨s.fr.set sp.it (.lit (.pointer (some ⟨b,0,none⟩))),s.H.set sp.id (.raw .dead)⟩
def B_(m:Nat)(inv:oQ)(ps:List lr)(x:bU)(s:ak):Option (Bool × List G) :=
 match x with
 |.normal=>l7 m inv ps s
 |_=>none
structure yk (P:Program) (sp:iu) (di eW c9:Array Oper):Prop where
 r0:∃ o2 ty,di.toList=di.toList.dropLast++[o2]/\o2.guard=none/\o2.op=.range ty (.tmp sp.y)/\o2.dst=some sp.it/\(c6 P ty).isSome=true
 r1:∃ o1 o2,eW.toList=[o1,o2]/\o1.guard=none/\o1.op=.next (.tmp sp.it) false/\o1.dst=some sp.t1/\o2.guard=none/\o2.op=.extract (.tmp sp.t1) 0/\o2.dst=some sp.t2
 r2:∃ o1 l,c9.toList=o1::l/\o1.guard=none/\o1.op=.entry (.tmp sp.it)/\o1.dst=some sp.t3
def qn(r0 b0 r1 b1 r2:Nat)(di eW c9:Array Oper)(t2:Tmp)(body:Code):Code :=
 .seq (.region r0 di false) (.block b0 (.loop (.seq (.region r1 eW false) (.seq (.cond (.tmp t2) .skip (.exit b0)) (.block b1 (.seq (.region r2 c9 false) body))))))
theorem abe{ro:Option Nat}{r0 b0 r1 b1 r2:Nat}{di eW c9:Array Oper}{t2:Tmp}{body:Code}(h:gq ro (qn r0 b0 r1 b1 r2 di eW c9 t2 body)):gq ro body:=h.imp id fun h=>by
 simpa[qn,je]using h
section range
variable {P:Program} {τ:au} {L:LT} {m:Nat} {sp:iu} {di eW c9:Array Oper} {body:Code}
def oW(P:Program)(τ:au)(L:LT)(m:Nat)(sp:iu)(c9:Array Oper)(body:Code):Prop :=
 ∀ r d,(pZ P τ c9 (c9.toList.drop 1) (sp.rs r d) (fun s=>gu P τ L body s .done)).leaf (B_ m sp.inv sp.ps)=sp.st r d
theorem abf(hm:P.follows .mixedOrders=true)(q:aw P τ)(u:ay P m L body)(hr:oW P τ L m sp c9 body){r d d':List G}(h:sp.st r d=some d') :
  ∃ k:ak,jS P τ.pf c9 (c9.toList.drop 1) (sp.rs r d).den k.den/\dp P m body k.den .normal (bH sp.inv d').den:=by
 rw[<-hr r d]at h;obtain⟨k,h1,v⟩:=Bu q (Q:=fun x s=>B_ m sp.inv sp.ps x s=some (true,d')) (qd h);obtain⟨x,y,I,g⟩:=lZ hm q body k .done u v;have g:B_ m sp.inv sp.ps x y=some (true,d'):=g;unfold B_ at g;split at g
 ·exact⟨k,h1,ua I (oR g)⟩
 ·cases g
def GO(P:Program)(τ:au)(m:Nat)(sp:iu)(c9:Array Oper)(body:Code)(b1:Nat):Prop:=∀ r d d',sp.st r d=some d' ->
 ∃(g:ak) (x:bU),(x=.normal\/x=.exit b1)/\jS P τ.pf c9 (c9.toList.drop 1) (sp.rs r d).den g.den/\dp P m body g.den x (bH sp.inv d').den
theorem abg(hm:P.follows .mixedOrders=true)(g:aw P τ)(k:ay P m L body)(hr:oW P τ L m sp c9 body)(b1:Nat):GO P τ m sp c9 body b1:=fun r d d' h=>by
 obtain⟨q,h1,u⟩:=abf hm g k hr h;exact⟨q,.normal,.inl rfl,h1,u⟩
def O'(m:Nat)(sp:iu)(E:Env)(rows:List (List G))(d0:List G)(itb mb clock:Nat)(ms:Array MapEntry)(a:Act)(w:World):Prop :=
 ∃(d:List G) (loc:List (Option (Nat × Nat))) (X:XS) (seen:Array Nat) (last:Nat) (p:List (List G)),
  eC sp.st sp.bl p d0=some d/\sp.bl d=itb/\(p++rows.filter fun x => !seen.contains (dF x)).Perm rows /\
  df (bH sp.inv d).den { w:=w,H:=(bH sp.inv d).den.H,loc:=loc,X:=X } a/\E.fS m { w:=w,H:=(bH sp.inv d).den.H,loc:=loc,X:=X }/\X itb /\
  w.heap[itb]? = some (.mapIter (some mb) clock seen last)/\clock<=last/\w.heap[mb]? = some (.map ms clock) /\
  ¬ Env.own { w:=w,H:=(bH sp.inv d).den.H,loc:=loc,X:=X } mb/\bt { w:=w,H:=(bH sp.inv d).den.H,loc:=loc,X:=X } (c8 sp.K sp.V rows) ms.toList
theorem df.Ca{s:St}{E:Env}{a:Act}(d:df s E a){t:Tmp}(hu:s.fr[t]? = some .undef)(u:Value):df s E (a.put (some t) u):=by
 have h:=d.mT t (v:=.undef) (u:=u) (by simp[rel]);have e:s.put (some t) .undef s.H=s:=by
  simp only[St.put,lj,nE hu]
 rwa [e]at h
theorem Pa{s:St}{E:Env}{a:Act}(g:df s E a){t:Tmp}{v:AV}(hu:s.fr[t]? = some v):t<a.tmps.size:=by
 have h1:s.fr.length=a.tmps.size:=by simpa using(ow.1 g.fr).1
 have d:t<s.fr.length:=aG hu;rw[h1]at d;exact d
theorem Pb{o:Oper}{t:Tmp}{a:Act}{w:World}{cs:Array Value}{u:Value}(d:o.op=.extract (.tmp t) 0)(g:a.eval (.tmp t)=.tuple cs)(k:cs[0]? = some u) :
  (execOp a.eval o).run P w=.ok (.value u) w:=by
 obtain⟨dst,op,type,pos,after,guard⟩:=o;subst d;exact lR (by simp[Instr.extract,g,k])
theorem Pc{o:Oper}{t:Tmp}{a:Act}{w w':World}{x u:Value}(d:o.op=.next (.tmp t) false)(g:a.eval (.tmp t)=x)(h:(Instr.next x false o.type).run P w=.ok u w') :
  (execOp a.eval o).run P w=.ok (.value u) w':=by
 obtain⟨dst,op,type,pos,after,guard⟩:=o;subst d;subst g;exact lR h
theorem abh{o:Oper}{t:Tmp}{a:Act}{w w':World}{x u:Value}(d:o.op=.entry (.tmp t))(g:a.eval (.tmp t)=x)(h:(Instr.entry x).run P w=.ok u w') :
  (execOp a.eval o).run P w=.ok (.value u) w':=by
 obtain⟨dst,op,type,pos,after,guard⟩:=o;subst d;subst g;exact lR h
theorem abi{o:Oper}{t:Tmp}{ty:TypeId}{a:Act}{w w':World}{x u:Value}(d:o.op=.range ty (.tmp t))(g:a.eval (.tmp t)=x)(h:(Instr.range ty x).run P w=.ok u w') :
  (execOp a.eval o).run P w=.ok (.value u) w':=by
 obtain⟨dst,op,type,pos,after,guard⟩:=o;subst d;subst g;exact lR h
theorem GP{w:World}{b:Nat}{o:Obj}(h:w.heap[b]? = some o):b<w.heap.size:=(Array.getElem?_eq_some_iff.1 h).1
theorem Pd{w:World}{r:Nat}{a:Option Nat}{b c:Nat}{s:Array Nat}(h:w.heap[r]? = some (.mapIter a b s c)):w.iterSeen r=s:=by
 unfold World.iterSeen;rw[h]
theorem abj(hm:P.follows .mixedOrders=true)(ht:aw P τ)(hL:ay P m L body)(ho:yk P sp di eW c9)
  (hu1:∀ d,(bH sp.inv d).fr[sp.t1]? = some .undef) (hu2:∀ d,(bH sp.inv d).fr[sp.t2]? = some .undef) (hut:∀ d,(bH sp.inv d).fr[sp.it]? = some (.lit (.pointer (some ⟨sp.bl d,0,none⟩))))
  {E:Env} {rows:List (List G)} {d0:List G} {itb mb clock:Nat} {ms:Array MapEntry} {r1 b0 b1 r2:Nat} (hr:GO P τ m sp c9 body b1)
  (hsz:E.w.heap.size<=itb) (hn:(rows.map dF).Nodup) (hlt:∀ r∈rows,dF r<clock) (hne:mb≠itb)
  (hfold:∀ p,p.Perm rows->(eC sp.st sp.bl p d0).isSome=true) {a:Act} {w:World} (hI:O' m sp E rows d0 itb mb clock ms a w) (ro:Option Nat) (hro:gq ro body) :
  (Code.loop (.seq (.region r1 eW false) (.seq (.cond (.tmp sp.t2) .skip (.exit b0)) (.block b1 (.seq (.region r2 c9 false) body))))).wpIn (fz ro) 0 P
   (fun e a1 N=>e=.exit b0/\∃ p d,p.Perm rows/\eC sp.st sp.bl p d0=some d/\eH m E (bH sp.inv d).den a1 N) a w:=by
 obtain⟨o1,o2,e1,g1,p1,q1,g2,p2,q2⟩:=ho.r1;obtain⟨o3,l,e3,g3,p3,q3⟩:=ho.r2;refine wpIn_loop (O' m sp E rows d0 itb mb clock ms) (fun _ w=>(leftOf ms (w.iterSeen itb)).size) hI fun a w hI=>?_;obtain⟨d,loc,X,seen,last,p,hf,had,hp,q,hle,hXi,hit,hcl,hmb,hown,hre⟩:=hI;have h10:eW[0]? = some o1:=by
  have:eW.toList[0]? = some o1:=by rw[e1]; rfl
  simpa using this
 have h11:eW[1]? = some o2:=by
  have:eW.toList[1]? = some o2:=by rw[e1]; rfl
  simpa using this
 have hsz1:eW.size=2:=by
  have:eW.toList.length=2:=by rw[e1]; rfl
  simpa using this
 have hiv:a.eval (.tmp sp.it)=.pointer (some ⟨itb,0,none⟩):=by
  have h:=q.eval (.tmp sp.it);have e:(bH sp.inv d).den.eval (.tmp sp.it)=.lit (.pointer (some ⟨sp.bl d,0,none⟩)):=by
   show (bH sp.inv d).fr.getD sp.it .undef=_
   rw[bP,hut d];rfl
  rw[e]at h;simp only[rel]at h;rw[h,had]
 obtain⟨hlen,hen⟩:=dT.1 hre;have hl1:(c8 sp.K sp.V rows).length=rows.length:=by simp[c8]
 have U:∀(i:Nat) (e:MapEntry),ms.toList[i]? = some e->∃ r,rows[i]? = some r/\e.born=dF r:=by
  intro i e hi;have h1:=aG hi;have k:i<rows.length:=by omega
  refine⟨rows[i],bx k,?_⟩;exact(hen i (sp.K.av (gi rows[i] 0).row,sp.V.av (gi rows[i] 1).row,(gi rows[i] 2).int.toNat) e (by simp[c8,k]) hi).2.2.1
 have hold:∀ x∈ms.toList,x.born<clock:=by
  intro x y;obtain⟨i,hi⟩:=wG y;obtain⟨r,h1,k⟩:=U i x hi;rw[k];exact hlt r (dJ h1)
 have hbn:(ms.toList.map (·.born)).Nodup:=by
  have:ms.toList.map (·.born)=rows.map dF:=by
   apply List.ext_getElem?;intro i;simp only[bB];cases hi:ms.toList[i]? with
   | none =>
    have h1:=List.getElem?_eq_none_iff.1 hi;rw[List.getElem?_eq_none (by omega)];rfl
   | some e =>
    obtain⟨r,h1,k⟩:=U i e hi;rw[h1];simp[k]
  rw[this];exact hn
 refine wpIn_seq (wpIn_region ?_);rw[hsz1];show wpOpsIn (fz ro) 0 P eW _ [0,1] a w
 rw[wpOpsIn_cons];have hlt1:=Pa q (hu1 d);have hlt2:=Pa q (hu2 d);rcases run_next_at (P:=P) w o1.type itb mb clock last seen ms clock hit hmb hold hcl with⟨h0,hrun⟩|⟨e,he,N,hw1,hrun⟩
 ·refine uQ h10 g1 (Pc p1 hiv hrun) (fun c e => by rw [p1] at e; cases e) ro ?_
  rw[q1,wpOpsIn_cons];refine uQ h11 g2 (Pb p2 (B8 hlt1) rfl) (fun c e=>by rw[p2]at e; cases e) ro ?_;rw[q2];show (Code.seq _ _).wpIn (fz ro) 0 P _ _ w
  refine wpIn_seq (wpIn_cond_false (B8 (by simpa[Le]using hlt2)) (wpIn_exit ?_));refine⟨rfl,p,d,?_,hf,loc,X,?_,hle⟩
  ·have:(rows.filter fun x => !seen.contains (dF x))=[]:=by
    rw[List.filter_eq_nil_iff];intro x y hc;obtain⟨i,hi⟩:=wG y;have h1:=aG hi;have k:i<ms.toList.length:=by omega
    obtain⟨r,h3,h4⟩:=U i _ (bx k);rw[hi]at h3;cases h3;have:ms.toList[i]∈(leftOf ms seen).toList:=by
     unfold leftOf;rw[Array.toList_filter];refine wM.2 ⟨th k,?_⟩;rw[h4];exact hc
    have h5:(leftOf ms seen).toList.length=0:=by simpa using h0
    rw[List.length_eq_zero_iff.1 h5]at this;cases this
   rwa [this,cB]at hp
  ·exact(q.Ca (hu1 d) (.tuple #[.bool false])).Ca (hu2 d) (.bool false)
 ·refine uQ h10 g1 (Pc p1 hiv hrun) (fun c e => by rw [p1] at e; cases e) ro ?_
  rw[q1,wpOpsIn_cons];refine uQ h11 g2 (Pb p2 (B8 hlt1) rfl) (fun c e=>by rw[p2]at e; cases e) ro ?_;rw[q2];show (Code.seq _ _).wpIn (fz ro) 0 P _ _ _
  refine wpIn_seq (wpIn_cond_true (B8 (by simpa[Le]using hlt2)) (wpIn_skip ?_));show (Code.block _ _).wpIn (fz ro) 0 P _ _ _
  refine wpIn_block (wpIn_seq (wpIn_region ?_));generalize hw2:setBlock N itb (.mapIter (some mb) clock (seen.push e.born) clock)=g;have hw1h:N.heap=w.heap:=by rcases hw1 with rfl|rfl<;>rfl
  have hos:eE w g:=by rw[<-hw2]; rcases hw1 with rfl|rfl<;>exact⟨rfl,rfl,rfl,by first|exact fun _=>aB _|exact fun _=>fV _ _⟩
  have hit2':g.heap[itb]? = some (.mapIter (some mb) clock (seen.push e.born) clock):=by
   rw[<-hw2];exact(alW (by rw[hw1h]; exact hit)).1
  have W:∀ b,b≠itb->g.heap[b]? = w.heap[b]? := by
   intro b hb;rw[<-hw2];show (N.heap.setIfInBounds itb _)[b]? = _
   rw[(alW (by rw[hw1h]; exact hit)).2 b hb,hw1h]
  have hsize:g.heap.size=w.heap.size:=by
   rw[<-hw2];show (N.heap.setIfInBounds itb _).size=_
   simp[hw1h]
  have hmb2:g.heap[mb]? = some (.map ms clock):=by rw[W mb hne]; exact hmb
  have ir:lT { w:=w,H:=(bH sp.inv d).den.H,loc:=loc,X:=X } { w:=g,H:=(bH sp.inv d).den.H,loc:=loc,X:=X } :=
   ⟨rfl,rfl,by show w.heap.size<=g.heap.size; omega,fun b hb y=>⟨y,W b (fun e=>y (by rw[e]; exact hXi))⟩,fun b hb=>by show b<g.heap.size; rw[hsize]; exact q.heap.X b hb,rfl⟩
  have hmk:nv g X a.defers:=⟨q.defers.1,fun dd hdd=>by
   obtain⟨D,e,h1,k,h3⟩:=q.defers.2 dd hdd;exact⟨D,e,by rw[W D (fun e=>by rw[e]at h1; rw[hit]at h1; cases h1)]; exact h1,k,h3⟩⟩
  have hs1:=((q.ir ir hmk).Ca (hu1 d) (.tuple #[.bool true,e.key,e.val])).Ca (hu2 d) (.bool true);obtain⟨hem,hes⟩:=mem_left he;obtain⟨i,hi⟩:=wG hem;obtain⟨r,hri,hrb⟩:=U i e hi;have hrm:=dJ hri;have hre2:=jB ir.toC hre;obtain⟨k1,k2,_⟩:=(dT.1 hre2).2 i (sp.K.av (gi r 0).row,sp.V.av (gi r 1).row,(gi r 2).int.toNat) e (by simp[c8,hri]) hi;have hiv1:((a.put (some sp.t1) (.tuple #[.bool true,e.key,e.val])).put (some sp.t2) (.bool true)).eval (.tmp sp.it)=.pointer (some ⟨itb,0,none⟩):=by
   have h:=hs1.eval (.tmp sp.it);have e:(bH sp.inv d).den.eval (.tmp sp.it)=.lit (.pointer (some ⟨sp.bl d,0,none⟩)):=by
    show (bH sp.inv d).fr.getD sp.it .undef=_
    rw[bP,hut d];rfl
   rw[e]at h;simp only[rel]at h;rw[h,had]
  have h20:c9[0]? = some o3:=by
   have:c9.toList[0]? = some o3:=by rw[e3]; rfl
   simpa using this
  have hl2:c9.toList.drop 1=l:=by rw[e3]; rfl
  have hsz2:c9.size=l.length+1:=by
   have:c9.toList.length=l.length+1:=by rw[e3]; rfl
   simpa using this
  have hlp:(p++(r::rows.filter fun x => !(seen.push (dF r)).contains (dF x))).Perm rows :=
   (List.Perm.append_left p (O_ hn hrm (by rw[<-hrb]; exact hes)).symm).trans hp
  have I:∃ d',sp.st r d=some d'/\sp.bl d'=sp.bl d:=by
   have h:=hfold _ hlp;rw[GN,hf]at h;simp only[alX,eC]at h;cases I:sp.st r d with
   |none=>rw[I]at h; cases h
   | some d' =>
    rw[I]at h;simp only[]at h;cases hb:ai (sp.bl d') (sp.bl d)with
    |true=>exact⟨d',rfl,ba hb⟩
    |false=>rw[hb]at h; cases h
  obtain⟨d',I,had'⟩:=I;have hf':eC sp.st sp.bl (p++[r]) d0=some d':=by
   rw[GN,hf];simp only[alX,eC,I,had'];simp
  obtain⟨s4,xe,hxe,ha4,hsat⟩:=hr r d d' I;rw[hsz2,WC,WB,wpOpsIn_cons];refine uQ h20 g3 (abh p3 hiv1 (run_entry_at (P:=P) g itb mb clock seen ms clock e hit2' hmb2 hem hbn)) (fun c e=>by rw[p3]at e; cases e) ro ?_;rw[q3];have hs3:=hs1.mT sp.t3 (v:=.tuple [sp.K.av (gi r 0).row,sp.V.av (gi r 1).row]) (u:=.tuple #[e.key,e.val]) (by simp only[rel]; exact⟨_,rfl,by simp only[ae]; exact⟨k1,k2,trivial⟩⟩);refine Fk (pf:=τ.pf) (ops:=c9) l (0+1) (sp.rs r d).den s4.den { w:=g,H:=(bH sp.inv d).den.H,loc:=loc,X:=X } _ (by rw[<-hl2]) (by rw[hl2]at ha4; exact ha4) hs3 (fun a3 w3 hc3=>?_) ro;obtain⟨loc3,r3,hs4,hle3⟩:=hc3;show body.wpIn (fz ro) 0 P _ a3 w3
  refine wpIn_mono (hsat ro hro { w:=w3,H:=s4.den.H,loc:=loc3,X:=X.re r3 } a3 hs4) fun x a4 O y=>?_;obtain⟨rfl,loc4,X4,hs5,hle4⟩:=y;have key:∀{R:Exit->Act->World->Prop},R .normal a4 O->WD b1 R xe.toExit a4 O:=fun h=>by
   rcases hxe with rfl|rfl
   ·exact h
   ·show (if b1 = b1 then _ else _)
    rw[if_pos rfl];exact h
  refine key ?_;have M:({ w:=g,H:=(bH sp.inv d).den.H,loc:=loc,X:=X }:Env).fS m { w:=O,H:=(bH sp.inv d').den.H,loc:=loc4,X:=X4 }:=hle3.toM.trans hle4;have hXsz:itb<g.heap.size:=GP hit2';have hnown:¬ Env.own { w:=g,H:=(bH sp.inv d).den.H,loc:=loc,X:=X } itb:=by
   exact(q.heap.ir ir).Eu hXi
  have hmbsz:mb<g.heap.size:=GP hmb2;have hit4:O.heap[itb]? = some (.mapIter (some mb) clock (seen.push e.born) clock):=by rw[M.same itb hXsz hnown]; exact hit2'
  refine⟨⟨d',loc4,X4,seen.push e.born,clock,p++[r],hf',by rw[had',had],?_,hs5,?_,(M.X itb hXsz).1.2 hXi,hit4,aB _,?_,?_,?_⟩,?_⟩
  ·rw [hrb, fq]
   exact hlp
  ·refine Env.fS.trans (E' := { w := g, H := (bH sp.inv d).den.H, loc := loc, X := X }) ⟨hle.past, ?_, ?_, hle.own, hle.live, hle.X, hle.rl, hle.env.trans hos, hle.grow⟩ M
   ·have := hle.size
    show E.w.heap.size<=g.heap.size
    rw[hsize];exact this
   ·intro b hb hbo
    show g.heap[b]? = _
    rw[W b (by omega)];exact hle.same b hb hbo
  ·rw [M.same mb hmbsz hown]
   exact hmb2
  ·exact M.own mb hmbsz hown
  ·exact jB (yh M) hre2
  ·show (leftOf ms (O.iterSeen itb)).size < (leftOf ms (w.iterSeen itb)).size
   rw[Pd hit4,Pd hit];exact left_shrinks ms seen e he
theorem abk(hm:P.follows .mixedOrders=true)(ht:aw P τ)(hL:ay P m L body)(ho:yk P sp di eW c9)
  (hu1:∀ d,(bH sp.inv d).fr[sp.t1]? = some .undef) (hu2:∀ d,(bH sp.inv d).fr[sp.t2]? = some .undef) (hut:∀ d,(bH sp.inv d).fr[sp.it]? = some (.lit (.pointer (some ⟨sp.bl d,0,none⟩))))
  {r1 b0 b1 r2:Nat} (hr:GO P τ m sp c9 body b1)
  {s:ak} {d:List G} {rows:List (List G)} {clock:Nat} (hx:s.eval (.tmp sp.y)=.map sp.id) (hid:s.H[sp.id]? = some (.map sp.K sp.V rows clock)) (hn:(rows.map dF).Nodup)
  (hlt:∀ r∈rows,dF r<clock) (hin:∀ b,l7 m sp.inv sp.ps (kJ sp.opens (sp.s2 s b))=some (true,sp.init d b)) (hadr:∀ b,sp.bl (sp.init d b)=b)
  (hfold:∀ b p,p.Perm rows->(eC sp.st sp.bl p (sp.init d b)).isSome=true) (E:Env) (a:Act) (q:df s.den E a) (ro:Option Nat) (hro:gq ro body) {Q:Exit->Act->World->Prop}
  (hQ:∀ a1 w1,(∃ b p d',p.Perm rows/\eC sp.st sp.bl p (sp.init d b)=some d'/\eH m E (bH sp.inv d').den a1 w1)->Q .normal a1 w1) :
  wpOpsIn (fz ro) 0 P di (Exit.then ((Code.block b0 (.loop (.seq (.region r1 eW false) (.seq (.cond (.tmp sp.t2) .skip (.exit b0)) (.block b1 (.seq (.region r2 c9 false) body)))))).wpIn (fz ro) 0 P Q) Q) [di.toList.dropLast.length] a E.w:=by
 obtain⟨o2,ty,e1,g2,p2,q2,U⟩:=ho.r0;have h11:di[di.toList.dropLast.length]? = some o2:=by
  have:di.toList[di.toList.dropLast.length]? = some o2:=by
   rw[e1];simp
  simpa using this
 have hid':E.H[sp.id]? = some (.map (c8 sp.K sp.V rows) clock):=by
  rw[q.H];exact a7 hid
 have hrx:rel E (.map sp.id) (a.eval (.tmp sp.y)):=by
  have:=q.eval (.tmp sp.y)
  rwa [ak.nJ,hx]at this
 obtain⟨mb,n,ms,hc,hloc,W,hre⟩:=tS q.heap hid' hrx;obtain⟨⟨kt,et⟩,U⟩:=Option.isSome_iff_exists.1 U;have hmbs:mb<E.w.heap.size:=GP W;rw[wpOpsIn_cons];refine uQ h11 g2 (abi p2 hc (run_range_map E.w ty kt et mb ms clock (fG U) W)) (fun c e=>by rw[p2]at e; cases e) ro ?_;rw[q2];show (Code.block _ _).wpIn (fz ro) 0 P _ _ _
 generalize O:E.w.alloc (.mapIter (some mb) clock #[] clock)=g;have hsize:g.heap.size=E.w.heap.size+1:=by rw[<-O]; show (E.w.heap.push _).size=_; simp
 have hold:∀ b,b<E.w.heap.size->g.heap[b]? = E.w.heap[b]? := fun b hb=>by rw[<-O]; exact(show (E.w.heap.push _)[b]? = _ by rw[Array.getElem?_push,if_neg (by omega)])
 have hitn:g.heap[E.w.heap.size]? = some (.mapIter (some mb) clock #[] clock):=by rw[<-O]; exact(show (E.w.heap.push _)[E.w.heap.size]? = _ by simp)
 have hos:eE E.w g:=by rw[<-O]; exact⟨rfl,rfl,rfl,by first|exact fun _=>aB _|exact fun _=>fV _ _⟩
 have hd:=Env.wU q.heap sp.id;have hs2:df ⟨s.fr,ah (s.H.set sp.id (.raw .dead))⟩ { w:=E.w,H:=E.H.set sp.id .dead,loc:=E.loc.set sp.id none,X:=E.X } a:=by
  refine⟨?_,dw hd _ q.fr,q.defers,al.drop q.heap sp.id fun o ho=>by rw[hid']at ho; cases ho; rfl⟩;rw[ct,show E.H=ah s.H from q.H];rfl
 have ir:lT { w:=E.w,H:=E.H.set sp.id .dead,loc:=E.loc.set sp.id none,X:=E.X } { w:=g,H:=E.H.set sp.id .dead,loc:=E.loc.set sp.id none,X:=E.X.or fun b=>b=E.w.heap.size } :=
  ⟨rfl, rfl, by show E.w.heap.size <= g.heap.size; omega, fun b hb hx => ⟨fun h => h.elim hx (fun e => absurd hb (by rw [e]; exact An _)), hold b hb⟩, fun b hb => by
   show b<g.heap.size
   rcases hb with hb|hb
   ·have := q.heap.X b hb
    omega
   ·omega,rfl⟩
 have hs3:=(hs2.ir ir (LC (X':=E.X.or fun b=>b=E.w.heap.size) (w':=g) hs2.defers (fun _ h1 N=>⟨.inl h1,N⟩) fun b h1 _=>hold b (q.heap.X b h1))).mT sp.it (v:=.lit (.pointer (some ⟨E.w.heap.size,0,none⟩))) (u:=.pointer (some ⟨E.w.heap.size,0,none⟩)) (by simp only[rel]);have hs3':df (sp.s2 s E.w.heap.size).den { w:=g,H:=E.H.set sp.id .dead,loc:=E.loc.set sp.id none,X:=E.X.or fun b=>b=E.w.heap.size } _:=hs3;obtain⟨loc,X4,hs4,M⟩:=((oS sp.opens _).trans (oR (hin E.w.heap.size))) _ _ hs3';have hmbn:¬ Env.own { w:=g,H:=E.H.set sp.id .dead,loc:=E.loc.set sp.id none,X:=E.X.or fun b=>b=E.w.heap.size } mb:=by
  rintro(⟨j,c,I⟩|⟨l,k,c,I⟩)
  case inr=>exact q.heap.cQ _ _ _ _ _ _ hloc I
  simp only[dv]at I;split at I
  ·split at I
   ·cases I
   ·cases I
  ·rename_i hne
   exact hne (q.heap.inj _ _ _ _ _ hloc I)
 have hmb2:g.heap[mb]? = some (.map ms clock):=by rw[hold mb hmbs]; exact W
 refine wpIn_block (wpIn_mono (abj hm ht hL ho hu1 hu2 hut (hr:=hr) (E:=E) (rows:=rows) (d0:=sp.init d E.w.heap.size) (itb:=E.w.heap.size) (mb:=mb) (clock:=clock) (ms:=ms)
  (aB _) hn hlt (by omega) (hfold _) ?_ ro hro) fun e a1 w1 hq=>?_)
 ·refine ⟨sp.init d E.w.heap.size, loc, X4, #[], clock, [], rfl, hadr _, ?_, hs4, ?_, (M.X E.w.heap.size (by show _ < g.heap.size; omega)).1.2 (.inr rfl), ?_, aB _, ?_, ?_, ?_⟩
  ·have : (rows.filter fun x => !(#[] : Array Nat).contains (dF x)) = rows := List.filter_eq_self.2 (fun x _ => by simp)
   rw[List.nil_append,this]
  ·refine hd.toM.trans (Env.fS.trans (E' := { w := g, H := E.H.set sp.id .dead, loc := E.loc.set sp.id none, X := E.X.or fun b => b = E.w.heap.size }) ⟨fun _ _ h => h, ?_, ?_, fun b _ h => h, fun _ _ _ h => ⟨h, rfl⟩, fun b hb => ⟨⟨fun h => h.elim id fun e => absurd hb (by rw [e]; exact An _), .inl⟩, Iff.rfl⟩, fun _ _ h => ⟨h, fun _ hq => hq⟩, hos, fun _ _ _ o h1 N _ => ⟨⟨[], (cB _).symm⟩, o, h1, N⟩⟩ M)
   ·show E.w.heap.size <= g.heap.size
    omega
   ·exact fun b hb _=>hold b hb
  ·rw [M.same E.w.heap.size (by show _ < g.heap.size; omega) ?_]
   ·exact hitn
   ·exact(hs2.heap.ir ir).Eu (.inr rfl)
  ·rw [M.same mb (by show _ < g.heap.size; omega) hmbn]
   exact hmb2
  ·exact M.own mb (by show _<g.heap.size; omega) hmbn
  ·exact jB (yh M) (jB ir.toC (jB hd.toC hre))
 ·obtain ⟨rfl, p, d', h1, N, h3⟩ := hq
  simp only[WD,if_true];exact hQ _ _ ⟨_,p,d',h1,N,h3⟩
theorem abl(hm:P.follows .mixedOrders=true)(u:aw P τ)(v:ay P m L body)(hr:oW P τ L m sp c9 body)(ho:yk P sp di eW c9)
  (W:∀ d,(bH sp.inv d).fr[sp.t1]? = some .undef) (hu2:∀ d,(bH sp.inv d).fr[sp.t2]? = some .undef) (hut:∀ d,(bH sp.inv d).fr[sp.it]? = some (.lit (.pointer (some ⟨sp.bl d,0,none⟩))))
  {r0 r1 b0 b1 r2:Nat}
  {s s1:ak} {d:List G} {rows:List (List G)} {clock:Nat} (hp:jS P τ.pf di di.toList.dropLast s.den s1.den) (hx:s1.eval (.tmp sp.y)=.map sp.id) (hid:s1.H[sp.id]? = some (.map sp.K sp.V rows clock)) (hn:(rows.map dF).Nodup)
  (g:∀ r∈rows,dF r<clock) (hin:∀ b,l7 m sp.inv sp.ps (kJ sp.opens (sp.s2 s1 b))=some (true,sp.init d b)) (O:∀ b,sp.bl (sp.init d b)=b)
  (N:∀ b p,p.Perm rows->(eC sp.st sp.bl p (sp.init d b)).isSome=true) (E:Env) (a:Act) (hs:df s.den E a) (ro:Option Nat) (hro:gq ro body) :
  (qn r0 b0 r1 b1 r2 di eW c9 sp.t2 body).wpIn (fz ro) 0 P (fun e k q=>e=.normal/\∃ b p d',p.Perm rows/\eC sp.st sp.bl p (sp.init d b)=some d'/\eH m E (bH sp.inv d').den k q) a E.w:=by
 refine wpIn_seq (wpIn_region ?_);obtain⟨o2,ty,I,_⟩:=ho.r0;have hsz:di.size=di.toList.dropLast.length+1:=by
  have h:=congrArg List.length I;simpa using h
 have hl:dB di.size=WA 0 di.toList.dropLast.length++[di.toList.dropLast.length]:=by
  rw[hsz,List.range_succ,WC]
 rw[hl];refine O9 (pf:=τ.pf) ro di.toList.dropLast 0 s.den s1.den E a _ (fun j o M=>?_) hp hs fun k q hc=>?_
 ·have g := aG M
  have:di.toList[j]? = some o:=by
   rw[I,cK g];exact M
  simpa using this
 ·obtain ⟨U, r1, h1, h2⟩ := hc
  refine abk hm u v ho W hu2 hut (abg hm u v hr b1) hx hid hn g hin O N { w:=q,H:=s1.den.H,loc:=U,X:=E.X.re r1 } k h1 ro hro fun a2 w2 ⟨b,p,d',g1,g2,g3⟩=>?_;exact⟨rfl,b,p,d',g1,g2,eH.after h2.toM g3⟩
noncomputable def uR{β:Type}(rows:List (List G))(k:Nat->List (List G)->Option β):Option β :=
 open Classical in if h:∃ r,∀ b p,p.Perm rows->k b p=some r then some h.choose else none
theorem Pe{β:Type}{rows:List (List G)}{k:Nat->List (List G)->Option β}{r:β}(h:uR rows k=some r):∀ b p,p.Perm rows->k b p=some r:=by
 unfold uR at h;split at h
 ·rename_i d
  cases h;exact d.choose_spec
 ·cases h
theorem abm{β:Type}{rows:List (List G)}{k:Nat->List (List G)->Option β}{r:β}(h:∀ b p,p.Perm rows->k b p=some r):uR rows k=some r:=by
 cases hb:uR rows k with
 | some r' =>
  have h1:=Pe hb 0 rows (ra _);rw[h 0 rows (ra _)]at h1;exact h1.symm
 | none =>
  unfold uR at hb;rw[dif_pos ⟨r,h⟩]at hb;cases hb
def mU(rows:List (List G))(clock:Nat):Bool:=nodupB (rows.map dF)&&rows.all fun r=>cC (dF r) clock
theorem abn{rows:List (List G)}{clock:Nat}(h:mU rows clock=true):(rows.map dF).Nodup/\∀ r∈rows,dF r<clock:=by
 simp only[mU,ax,da,gG]at h;exact⟨uH h.1,h.2⟩
noncomputable def lv(sp:iu)(tl:List G->Option (Option Nat × List G))(rows:List (List G))(clock:Nat)(d:List G):Option (Option Nat × List G) :=
 bif mU rows clock then uR rows (fun b p=>bif sp.side d b then (eC sp.st sp.bl p (sp.init d b)).bind tl else none) else none
def ym(P:Program)(m:Nat)(c:Code)(sp:bq):Prop:=∀ d i d',sp.st d=some (some i,d')->∃ o,sp.outs[i]? = some o/\dp P m c (bH sp.inv d).den o.x (bH o.S d').den
theorem gx.sat{c:Code}{q:bq}(hm:P.follows .mixedOrders=true)(u:aw P τ)(v:ay P m L c)(hr:gx P τ L m c q):ym P m c q:=by
 intro d i d' g;rw[<-hr d]at g;obtain⟨x,s1,g1,g2⟩:=lZ hm u c (bH q.inv d) .done v (Q:=fun x s=>r9 m q.outs 0 x s=some (true,(some i,d'))) (qd g);obtain⟨j,o,y,k,I,M⟩:=BK g2;simp only[aM,cn]at k;subst k;refine⟨o,y,?_⟩;rw[<-I];exact ua g1 (oR M)
theorem abo{c:Code}{q:bq}(hr:ym P m c q){s:ak}{t:Tree}(h:yb m q s=some t):Ga P m c s t:=by
 unfold yb at h;split at h
 case h_2=>cases h
 rename_i b d y;cases h;intro Q u;simp only[Tree.holds,r7,ax]at u;obtain⟨⟨rfl,h1⟩,v⟩:=u;cases g:q.st d with
 |none=>rw[g]at h1; cases h1
 | some r =>
  obtain⟨k,d'⟩:=r;cases k with
  |none=>rw[g]at h1; cases h1
  | some i =>
   obtain⟨o,g1,g2⟩:=hr d i d' g;rw[g]at v;exact⟨o.x,(bH o.S d'),t_ ((oS q.opens s).trans (oR y)) g2,BL g1 (cn i).symm v⟩
theorem ay.abp{fn:Func}{q:bq} (u:qi q.key (bR (a6 fn))=true) (g:ay P m L (a6 fn)) (hr:ay P m L (cutAt fn q.key)->ym P m (cutAt fn q.key) q) :
  ay P m (L.eL m q) (a6 fn):=by
 refine⟨g.1,g.2.1,fun k v hk s t d=>?_⟩;simp only[LT.eL]at d;split at d
 ·rename_i e
  have e:=ba e;subst e;have y:=OI u hk;rw[<-y]at hr;exact abo (hr (g.sub (qg hk) (qh hk))) d
 ·exact g.2.2 k v hk s t d
def yn(o:Option Tmp)(t:Tmp):Bool :=
 match o with
 |some x=>ai x t
 |none=>false
theorem Cb{o:Option Tmp}{t:Tmp}(h:yn o t=true):o=some t:=by
 cases o with
 |none=>cases h
 |some x=>exact congrArg some (ba h)
def GQ(P:Program)(sp:iu)(ops:Array Oper):Bool :=
 match ops.toList.getLast? with
 |some ⟨d2,.range ty (.tmp b),_,_,_,none⟩=>ai b sp.y&&yn d2 sp.it&&(c6 P ty).isSome
 |_=>false
def GR(sp:iu)(ops:Array Oper):Bool :=
 match ops.toList with
 | [⟨d1,.next (.tmp a) false,_,_,_,none⟩,⟨d2,.extract (.tmp b) 0,_,_,_,none⟩]=>ai a sp.it&&yn d1 sp.t1&&ai b sp.t1&&yn d2 sp.t2
 |_=>false
def GS(sp:iu)(ops:Array Oper):Bool :=
 match ops.toList with
 |⟨d1,.entry (.tmp a),_,_,_,none⟩::_=>ai a sp.it&&yn d1 sp.t3
 |_=>false
theorem abq(h0:GQ P sp di=true)(h1:GR sp eW=true)(d:GS sp c9=true):yk P sp di eW c9:=by
 refine⟨?_,?_,?_⟩
 ·unfold GQ at h0
  split at h0
  ·rename_i d2 ty b t' k q e
   simp only[ax]at h0;obtain⟨⟨g3,g4⟩,g5⟩:=h0;have g3:=ba g3;subst g3;refine⟨⟨d2,.range ty (.tmp sp.y),t',k,q,none⟩,ty,?_,rfl,rfl,Cb g4,g5⟩;have g:di.toList≠[]:=by
    intro h;rw[h]at e;cases e
   have d:=List.dropLast_concat_getLast g;have u:di.toList.getLast? = some (di.toList.getLast g):=by
    rw[List.getLast?_eq_some_iff];exact⟨_,d.symm⟩
   rw[u]at e;rw[iM e]at d;exact d.symm
  ·cases h0
 ·unfold GR at h1
  split at h1
  ·rename_i d1 a _ _ _ d2 b _ _ _ e
   simp only[ax]at h1;obtain⟨⟨⟨g1,g2⟩,g3⟩,g4⟩:=h1;have g1:=ba g1;have g3:=ba g3;subst g1;subst g3;exact⟨_,_,e,rfl,rfl,Cb g2,rfl,rfl,Cb g4⟩
  ·cases h1
 ·unfold GS at d
  split at d
  ·rename_i d1 a _ _ _ l e
   simp only[ax]at d;have g1:=ba d.1;subst g1;exact⟨_,l,e,rfl,rfl,Cb d.2⟩
  ·cases d
def uS:Code->Code
 |.seq _ b=>b
 |_=>.skip
def GU:Code->Code
 |.seq (.seq _ (.block _ (.loop c))) _=>c
 |_=>.skip
def uT(c:Code):Code:=match GU c with
 |.seq _ (.seq _ (.block _ (.seq _ b)))=>b
 |_=>.skip
def GV:Code->Array Oper
 |.region _ ops _=>ops
 |_=>#[]
def qo:Code->Array Oper
 |.seq (.seq r _) _=>GV r
 |_=>#[]
def Pf(c:Code):Array Oper:=match GU c with
 |.seq r _=>GV r
 |_=>#[]
def sc(c:Code):Array Oper:=match GU c with
 |.seq _ (.seq _ (.block _ (.seq r _)))=>GV r
 |_=>#[]
theorem abr{r0 r1 b0 b1 r2 t2:Nat}{rest:Code} (h:ay P m L (.seq (qn r0 b0 r1 b1 r2 di eW c9 t2 body) rest)):ay P m L body/\ay P m L rest:=by
 refine⟨h.sub (fun p d=>?_) (fun p d=>?_),h.sub (fun p d=>?_) (fun p d=>?_)⟩
 ·simp only [bO, qn, cw]
  left;right;split
  ·simp only [bC, bO, cw]
   exact .inr (.inr (.inr (.inr d)))
  ·simp only [bO, cw]
   exact .inr (.inr (.inr d))
 ·simp only [bR, qn, cw]
  exact .inl (.inr (.inr (.inr (.inr (.inr (.inr (.inr (.inr d))))))))
 ·simp only [bO, cw]
  exact .inr d
 ·simp only [bR, cw]
  exact .inr (.inr d)
def Cc(P:Program)(τ:au)(ops:Array Oper)(s:ak):ak:=match (pZ P τ ops ops.toList.dropLast s fun s=>.done .normal s).qm with
 |some (_,s1)=>s1
 |none=>s
theorem abt(d:aw P τ){ops:Array Oper}{l:List Oper}{s s1:ak}(h:(pZ P τ ops l s fun s=>.done .normal s).qm=some (.normal,s1)):jS P τ.pf ops l s.den s1.den:=by
 obtain⟨s',h1,g⟩:=Bu d (B9 h);obtain⟨_,rfl⟩:=g;exact h1
theorem abu(hm:P.follows .mixedOrders=true)(ht:aw P τ){rest:Code}{q qr:bq}(hL:ay P m L body)(hr:oW P τ L m sp c9 body)(ho:yk P sp di eW c9)
  (hu1:∀ d,(bH sp.inv d).fr[sp.t1]? = some .undef) (hu2:∀ d,(bH sp.inv d).fr[sp.t2]? = some .undef) (hut:∀ d,(bH sp.inv d).fr[sp.it]? = some (.lit (.pointer (some ⟨sp.bl d,0,none⟩))))
  {r0 r1 b0 b1 r2:Nat}
  {rows:List G->List (List G)} {clock:List G->Nat} {pre:List G->ak} (hy:∀ d,(pZ P τ di di.toList.dropLast (bH q.inv d) fun s=>.done .normal s).qm=some (.normal,pre d)) (u:∀ d,(pre d).eval (.tmp sp.y)=.map sp.id) (hid:∀ d,(pre d).H[sp.id]? = some (.map sp.K sp.V (rows d) (clock d)))
  (hin:∀ d b,l7 m sp.inv sp.ps (kJ sp.opens (sp.s2 (pre d) b))=some (sp.side d b,sp.init d b)) (hadr:∀ d b,sp.bl (sp.init d b)=b)
  (hinv:qr.inv=sp.inv) (houts:qr.outs=q.outs) (M:ym P m rest qr) (hst:∀ d,q.st d=lv sp qr.st (rows d) (clock d) d) :
  ym P m (.seq (qn r0 b0 r1 b1 r2 di eW c9 sp.t2 body) rest) q:=by
 intro d i d' h;rw[hst]at h;unfold lv at h;cases I:mU (rows d) (clock d)with
 |false=>rw[I]at h; cases h
 | true =>
  rw[I]at h;simp only[cond_true]at h;have hall:=Pe h;obtain⟨hn,hlt⟩:=abn I;have k:∀ b p,p.Perm (rows d)->sp.side d b=true/\∃ d1,eC sp.st sp.bl p (sp.init d b)=some d1/\qr.st d1=some (some i,d'):=by
   intro b p g;have:=hall b p g;cases O:sp.side d b with
   |false=>rw[O]at this; cases this
   | true =>
    rw[O]at this;simp only[cond_true]at this;cases v:eC sp.st sp.bl p (sp.init d b)with
    |none=>rw[v]at this; cases this
    | some d1 =>
     rw[v]at this;exact⟨rfl,d1,rfl,this⟩
  obtain⟨_,d1,_,g1⟩:=k 0 (rows d) (ra _);obtain⟨o,U,_⟩:=M d1 i d' g1;refine⟨o,by rw[<-houts]; exact U,fun ro W E a hs=>wpIn_seq (wpIn_mono (abl hm ht hL hr ho hu1 hu2 hut (abt ht (hy d)) (u d) (hid d) hn hlt (fun b=>by rw[hin d b,(k b (rows d) (ra _)).1]) (hadr d) (fun b p g=>?_) E a hs ro (abe W.seq1)) fun e a1 w1 hq=>?_)⟩
  ·obtain ⟨_, d2, h2, _⟩ := k b p g
   rw[h2];rfl
  ·obtain ⟨rfl, b, p, d2, g, v, loc, X, hs2, hle⟩ := hq
   obtain⟨_,d3,h3,h4⟩:=k b p g;rw[v]at h3;cases h3;obtain⟨o',ho2,N⟩:=M d2 i d' h4;rw[U]at ho2;cases ho2;rw[hinv]at N;exact wpIn_mono (N ro W.M1 { w:=w1,H:=(bH sp.inv d2).den.H,loc:=loc,X:=X } a1 hs2) fun x a2 w2 u=>⟨u.1,eH.after hle u.2⟩
theorem ay.Cd(hm:P.follows .mixedOrders=true)(k:aw P τ){fn:Func}{q qr:bq}{r0 b0 r1 b1 r2:Nat}{rows:List G->List (List G)}{clock:List G->Nat}
  (hn:qi q.key (bR (a6 fn))=true) (hL:ay P m L (a6 fn))
  (u:cutAt fn q.key=.seq (qn r0 b0 r1 b1 r2 (qo (cutAt fn q.key)) (Pf (cutAt fn q.key)) (sc (cutAt fn q.key)) sp.t2 (uT (cutAt fn q.key))) (uS (cutAt fn q.key)))
  (ho:(GQ P sp (qo (cutAt fn q.key))&&GR sp (Pf (cutAt fn q.key))&&GS sp (sc (cutAt fn q.key)))=true)
  (hr:oW P τ L m sp (sc (cutAt fn q.key)) (uT (cutAt fn q.key)))
  (N:∀ d,(bH sp.inv d).fr[sp.t1]? = some .undef) (O:∀ d,(bH sp.inv d).fr[sp.t2]? = some .undef) (U:∀ d,(bH sp.inv d).fr[sp.it]? = some (.lit (.pointer (some ⟨sp.bl d,0,none⟩))))
  {pre:List G->ak} (hy:∀ d,(pZ P τ (qo (cutAt fn q.key)) (qo (cutAt fn q.key)).toList.dropLast (bH q.inv d) fun s=>.done .normal s).qm=some (.normal,pre d)) (hx:∀ d,(pre d).eval (.tmp sp.y)=.map sp.id) (hid:∀ d,(pre d).H[sp.id]? = some (.map sp.K sp.V (rows d) (clock d)))
  (W:∀ d b,l7 m sp.inv sp.ps (kJ sp.opens (sp.s2 (pre d) b))=some (sp.side d b,sp.init d b)) (M:∀ d b,sp.bl (sp.init d b)=b)
  (hinv:qr.inv=sp.inv) (v:qr.outs=q.outs) (I:gx P τ L m (uS (cutAt fn q.key)) qr) (hst:∀ d,q.st d=lv sp qr.st (rows d) (clock d) d) :
  ay P m (L.eL m q) (a6 fn):=by
 refine ay.abp hn hL fun g=>?_;rw[u]at g;obtain⟨hLb,hLr⟩:=abr g;simp only[ax]at ho;rw[u];exact abu hm k hLb hr (abq ho.1.1 ho.1.2 ho.2) N O U hy hx hid W M hinv v (I.sat hm k hLr) hst
end range
end Go.AL
