/-
 What is proved here: shapes: states and arguments as data alone (integers,strings,rZ),read oF abstract states and built from data; what is built says no more than what was read. No program in sight; no condition.
-/
import Derived.Test.YtmhkodhaodcfdaaGreatDoorMC
import Derived.Maps.RangeRun
set_option linter.all false
open Bool renaming and_true->gu,and_eq_true->aE,false_eq_true->me,not_eq_true'->qK,and_self->xo,eq_false_iff->nv
open Go renaming Value->ak,FuncId->bC,Program->ai
open Go.Value.slice renaming injEq->lv
open Int renaming toNat_natCast->eH
open List renaming range->jc,length_cons->bW,append_nil->fe,append_assoc->iO,getElem?_append_left->dr,length_map->fJ,mem_map->gG,getElem?_map->cX,getElem?_eq_getElem->cn,mem_of_getElem?->eC,getElem?_append_right->jz,getElem?_set_self->bK,getElem?_set_ne->bc,getElem?_set->eU,all_eq_true->cq,getD_eq_getElem?_getD->eh,getElem?_take->om,mem_cons->cf,map_cons->eM,cons_append->kK,length_append->dG,mem_append->cN,mem_cons_self->cZ,mem_cons_of_mem->c8,all_cons->jA,nodup_cons->uF,getElem?_inj->E8,set_append_left->A3,mem_append_left->xn,any_eq_true->mh,headD_cons->ow,mem_filter->A6,getElem?_cons_succ->Tf,getD_cons_succ->Tg,find?_cons_of_neg->aj6,getElem_mem->sE,mem_append_right->Th
open Nat renaming le_refl->aY,zero_le->fO,lt_or_ge->kJ,zero_add->eo,beq->aH,eq_of_beq_eq_true->bA,sub_self->pt,ble->bf,blt->cR,blt_eq->dH,le_of_ble_eq_true->qL
open Option renaming map_eq_some_iff->eG,map_some->fk,getD_some->uE
open Option.some renaming injEq->a_,inj->iA
open Prod.mk renaming injEq->bk
namespace Go.AL
open Go
variable [Dr]
inductive dV where
 |int (k:IntKind)|str|bool
 |list (ks:List Kd)|row (ks:List Kd)|cptr (ks:List Kd)
 |nil|any
 |Ni (isNil:Bool)
 |fn (f:bC)
 |ptr (j col:Nat)
 |vQ (j w:Nat)
 |sub (j w:Nat)
 |pre (j w:Nat)
 |vP (ks:List Kd)
 |map (j:Nat)
 |addr
 |Nj (f:bC) (js:List Nat)
 |yL
 deriving Inhabited
abbrev dV.I:dV:=.int .i64
inductive Sh where
 |s (a:dV)
 |clo (f:bC) (caps:List dV)
 deriving Inhabited
inductive cH where
 |vQ (ks:List Kd) (u:Nat)
 |box (cells:List dV)
 |map (K V:Ct)
 |cD (l T B:Nat)
 |br (l:Nat) (K:Ct) (ks:List Kd)
 |mm (l:Nat) (K KI VI:Ct)
 |cM (l:Nat) (ks:List Kd)
 |bM (l:Nat) (K:Ct) (ks:List Kd)
 deriving Inhabited
def cH.k8:cH->Option Nat
 |.cD l _ _=>some l
 |.br l _ _=>some l
 |.mm l _ _ _=>some l
 |.cM l _=>some l
 |.bM l _ _=>some l
 |_=>none
def cH.dM:cH->Option Nat
 |.mm l _ _ _=>some l
 |.cM l _=>some l
 |_=>none
def dV.sz:dV->Nat
 |.int _ | .str | .bool | .list _ | .row _ | .cptr _ | .vP _ | .pre _ _ | .addr=>1
 |.sub _ _=>2
 |_=>0
def rz:List dV->Nat
 | []=>0
 |a::as=>a.sz+rz as
def Sh.sz:Sh->Nat
 |.s a=>a.sz
 |.clo _ caps=>rz caps
def Ht:List Sh->Nat
 | []=>0
 |a::as=>a.sz+Ht as
def cH.sz:cH->Nat
 |.vQ _ _=>1
 |.box cells=>rz cells
 |.map _ _=>2
 |.cD _ _ _=>1
 |.br _ _ _=>2
 |.mm _ _ _ _=>3
 |.cM _ _=>2
 |.bM _ _ _=>2
def dv:Nat->LG->LG
 |0,d=>d
 |n+1,d=>dv n d.tail
abbrev eu:=List (Nat × Nat)
def eu.len(os:eu)(j:Nat):Nat:=(os.getD j (0,0)).1
def eu.al(os:eu)(j:Nat):Nat:=(os.getD j (0,0)).2
def tA:List Nat->List AV
 | []=>[]
 |j::a=>.ptr j 0 0 0 0::tA a
def d_(lens:eu):dV->LG->AV
 |.int k,d=>.lit (.int k (d.headD default).iV)
 |.str,d=>.lit (.string (d.headD default).sV)
 |.bool,d=>.lit (.bool (d.headD default).bV)
 |.list ks,d=>.listF ks (d.headD default).rZ
 |.vP ks,d=>.listF ks (d.headD default).rZ
 |.row ks,d=>.agg (a8 ks (d.headD default).rV)
 |.cptr ks,d=>.cptr (a8 ks (d.headD default).rV)
 |.nil,_=>.lit (.slice none 0 0)
 |.any,_=>.undef
 |.Ni b,_=>.emptyS b
 |.fn f,_=>.clo f []
 |.ptr j a,_=>.ptr j 0 0 0 a
 |.vQ j w,_=>.vQ w j (lens.al j) 0 (lens.len j)
 |.sub j w,d=>.vQ w j (lens.al j) (d.headD default).iV.toNat (d.tail.headD default).iV.toNat
 |.pre j w,d=>.vQ w j (lens.al j) 0 (d.headD default).iV.toNat
 |.map j,_=>.map j
 |.addr,d=>.lit (.pointer (some ⟨(d.headD default).iV.toNat,0,none⟩))
 |.Nj f g,_=>.clo f (tA g)
 |.yL,_=>.lit .nilIface
def kC(lens:eu):List dV->LG->List AV
 | [],_=>[]
 |a::as,d=>d_ lens a d::kC lens as (dv a.sz d)
def jH(lens:eu):Sh->LG->AV
 |.s a,d=>d_ lens a d
 |.clo f caps,d=>.clo f (kC lens caps d)
def cO(lens:eu):List Sh->LG->List AV
 | [],_=>[]
 |a::as,d=>jH lens a d::cO lens as (dv a.sz d)
def fF(lens:eu):cH->LG->au
 |.vQ ks u,d=>.vQ ks u (d.headD default).rZ
 |.box a,d=>.raw (.box (kC lens a d))
 |.map K V,d=>.map K V (d.headD default).rZ (d.tail.headD default).iV.toNat
 |.cD l T B,d=>.raw (.cD l T B (d.headD default).sV)
 |.br l K ks,d=>.br l K ks (d.headD default).rZ (d.tail.headD default).iV.toNat
 |.mm l K b g,d=>.mm l K b g (d.headD default).rZ (d.tail.headD default).rZ (d.tail.tail.headD default).iV.toNat
 |.cM l ks,d=>.cM l ks (d.tail.headD default).iV.toNat (d.headD default).rZ
 |.bM l K ks,d=>.bM l K ks (d.headD default).rZ (d.tail.headD default).iV.toNat
def vR(lens:eu)(sh:cH)(d:LG):(fF lens sh d).aw.label=sh.k8:=by cases sh<;>rfl
def Hu(lens:eu)(sh:cH)(d:LG):(fF lens sh d).aw.dM=sh.dM:=by cases sh<;>rfl
def c_(lens:eu):List cH->LG->List au
 | [],_=>[]
 |o::os,d=>fF lens o d::c_ lens os (dv o.sz d)
def oK:List cH->Nat
 | []=>0
 |o::os=>o.sz+oK os
def cV:List cH->LG->eu
 | [],_=>[]
 | o::os,d=>(match o with
  |.vQ _ u=>((d.headD default).rZ.length,u)
  |_=>(0,0))::cV os (dv o.sz d)
def mE(H:List au)(e:cy):List Nat->List AV->Bool
 | [],[]=>true
 | j::a,.ptr id al k row c::b=>(match H[id]? with
  |some (.raw _)=>aH id (e.at j)&&aH al 0&&aH k 0&&aH row 0&&aH c 0
  |_=>false)&&mE H e a b
 |_,_=>false
def ig(H:List au)(e:cy)(fz:Nat->Bool):dV->AV->Option (Bool × LG)
 |.int k,.lit (.int q n)=>if k=q then some (true,[.i n]) else none
 |.str,.lit (.string s)=>some (true,[.s s])
 |.bool,.lit (.bool b)=>some (true,[.t b])
 | .list ks,a=>match pY ks a with
  |some rZ=>some (true,[.l rZ])
  | none=>match a with
   | .vQ w id al oF n=>match H[id]? with
    |some (.vQ d v rZ)=>if al=v/\oF=0/\w=ks.length/\Kd.ib ks d=true/\fz id=true then some (aH n rZ.length,[.l rZ]) else none
    |_=>none
   |_=>none
 | .row ks,a=>match Ho ks a with
  |some r=>some (true,[.l [r]])
  |none=>none
 | .cptr ks,.cptr cells=>match ic ks cells with
  |some r=>some (true,[.l [r]])
  |none=>none
 | .cptr ks,.ptr id al _ row h=>match H[id]? with
  | some (.raw (.box cells))=>match ic ks cells with
   |some r=>if al=0/\row=0/\h=0/\fz id=true then some (true,[.l [r]]) else none
   |none=>none
  |some (.vQ d v [r])=>if al=v/\row=0/\h=0/\Kd.ib ks d=true/\fz id=true then some (true,[.l [r]]) else none
  |_=>none
 |.nil,.lit (.slice none 0 0)=>some (true,[])
 |.any,_=>some (true,[])
 |.fn f,.clo g []=>if f=g then some (true,[]) else none
 | .ptr j h,.ptr id al k row c=>match H[id]? with
  |some (.raw _)=>if id=e.at j/\al=0/\k=0/\row=0/\c=h then some (true,[]) else none
  |_=>none
 | .vQ j w,.vQ w' id al oF n=>match H[id]? with
  |some (.vQ _ v rZ)=>if w'=w/\id=e.at j/\al=v/\oF=0 then some (aH n rZ.length,[]) else none
  |_=>none
 | .sub j w,.vQ w' id al oF n=>match H[id]? with
  |some (.vQ _ v _)=>if w'=w/\id=e.at j/\al=v then some (true,[.i oF,.i n]) else none
  |_=>none
 | .pre j w,.vQ w' id al oF n=>match H[id]? with
  |some (.vQ _ v _)=>if w'=w/\id=e.at j/\al=v/\oF=0 then some (true,[.i n]) else none
  |some (.cM _ _ _ _)=>if w'=w/\id=e.at j/\al=0/\oF=0 then some (true,[.i n]) else none
  |_=>none
 | .vP ks,a=>match pY ks a with
  |some rZ=>some (true,[.l rZ])
  | none=>match a with
   | .vQ w id al oF n=>match H[id]? with
    |some (.vQ d v rZ)=>if al=v/\oF=0/\w=ks.length/\Kd.ib ks d=true/\fz id=true then some (bf n rZ.length,[.l (rZ.take n)]) else none
    |_=>none
   |_=>none
 | .map j,.map id=>match H[id]? with
  |some (.map _ _ _ _)=>if id=e.at j then some (true,[]) else none
  |some (.br _ _ _ _ _)=>if id=e.at j then some (true,[]) else none
  |some (.mm _ _ _ _ _ _ _)=>if id=e.at j then some (true,[]) else none
  |some (.bM _ _ _ _ _)=>if id=e.at j then some (true,[]) else none
  |_=>none
 |.addr,.lit (.pointer (some ⟨b,0,none⟩))=>some (true,[.i (b:Nat)])
 |.Nj f y,.clo g z=>if f=g/\mE H e y z=true then some (true,[]) else none
 |.yL,.lit .nilIface=>some (true,[])
 |_,_=>none
def gQ(H:List au)(e:cy)(fz:Nat->Bool):List dV->List AV->Option (Bool × LG)
 | [],[]=>some (true,[])
 | sh::d,a::as=>match ig H e fz sh a,gQ H e fz d as with
  |some (b,g),some (h,k)=>some (b&&h,g++k)
  |_,_=>none
 |_,_=>none
def mF(H:List au)(e:cy)(fz:Nat->Bool):Sh->AV->Option (Bool × LG)
 |.s a,v=>ig H e fz a v
 |.clo f caps,.clo g b=>if f=g then gQ H e fz caps b else none
 |_,_=>none
def fG(H:List au)(e:cy)(fz:Nat->Bool):List Sh->List AV->Option (Bool × LG)
 | [],[]=>some (true,[])
 | sh::d,a::as=>match mF H e fz sh a,fG H e fz d as with
  |some (b,g),some (h,k)=>some (b&&h,g++k)
  |_,_=>none
 |_,_=>none
def jq(H:List au)(e:cy)(fz:Nat->Bool):cH->au->Option (Bool × LG)
 |.vQ ks _,.vQ b _ rZ=>if Kd.ib ks b then some (true,[.l rZ]) else none
 |.box g,.raw (.box cells)=>gQ H e fz g cells
 |.map K V,.map d q rZ a=>if K.same d&&V.same q then some (true,[.l rZ,.i a]) else none
 |.cD l T B,.raw (.cD l' t v s)=>if (aH l l'&&(aH T t&&aH B v))=true then some (true,[.s s]) else none
 |.br l K ks,.br l' d b rZ a=>if (aH l l'&&(K.same d&&Kd.ib ks b))=true then some (true,[.l rZ,.i a]) else none
 |.mm l K w y,.mm l' d h k rZ mem a=>if (aH l l'&&(K.same d&&(w.same h&&y.same k)))=true then some (true,[.l rZ,.l mem,.i a]) else none
 |.cM l ks,.cM l' b n z=>if (aH l l'&&Kd.ib ks b)=true then some (true,[.l z,.i n]) else none
 |.bM l K ks,.bM l' d b rZ a=>if (aH l l'&&(K.same d&&Kd.ib ks b))=true then some (true,[.l rZ,.i a]) else none
 |_,_=>none
def Nk{H:List au}{e:cy}{fz:Nat->Bool}{sh:cH}{o:au}{b:Bool}{g:LG}(h:jq H e fz sh o=some (b,g)):o.aw.label=sh.k8:=by
 unfold jq at h;split at h
 ·rfl
 ·rfl
 ·rfl
 ·split at h
  ·rename_i a
   simp only[aE]at a;have:=bA a.1;subst this;rfl
  ·cases h
 ·split at h
  ·rename_i a
   simp only[aE]at a;have:=bA a.1;subst this;rfl
  ·cases h
 ·split at h
  ·rename_i a
   simp only[aE]at a;have:=bA a.1;subst this;rfl
  ·cases h
 ·split at h
  ·rename_i a
   simp only[aE]at a;have:=bA a.1;subst this;rfl
  ·cases h
 ·split at h
  ·rename_i a
   simp only[aE]at a;have:=bA a.1;subst this;rfl
  ·cases h
 ·cases h
def Hv{H:List au}{e:cy}{fz:Nat->Bool}{sh:cH}{o:au}{b:Bool}{g:LG}(h:jq H e fz sh o=some (b,g)):o.aw.dM=sh.dM:=by
 unfold jq at h;split at h
 ·rfl
 ·rfl
 ·rfl
 ·rfl
 ·rfl
 ·split at h
  ·rename_i a
   simp only[aE]at a;have:=bA a.1;subst this;rfl
  ·cases h
 ·split at h
  ·rename_i a
   simp only[aE]at a;have:=bA a.1;subst this;rfl
  ·cases h
 ·rfl
 ·cases h
def lb(H:List au)(e:cy)(fz:Nat->Bool):List cH->List Nat->Option (Bool × LG)
 | [],[]=>some (true,[])
 | o::os,i::a=>match H[i]? with
  | some t=>match jq H e fz o t,lb H e fz os a with
   |some (b,g),some (d,h)=>some (b&&d,g++h)
   |_,_=>none
  |none=>none
 |_,_=>none
def rA:∀(g rest:LG),dv g.length (g++rest)=rest
 | [],_=>rfl
 |_::g,rest=>rA g rest
def vS:au->Nat
 |.vQ _ v _=>v
 |_=>0
def vT(H:List au)(id:Nat):Nat:=match H[id]? with
 |some o=>vS o
 |none=>0
def cz(H:List au)(ay:List Nat):cy:=⟨ay,ay.map (vT H),H.length⟩
structure Cn (E0:ae) (lens:eu) (j:Nat) (o:au):Prop where
 al:o.aw.aU = some (vS o)
 obj:∃ o0,E0.H[j]? = some o0/\o0.aU = some (lens.al j)
 mm:∀ o0,E0.H[j]? = some o0->o0.dM=o.aw.dM
 len:∀ ks v rZ,o=.vQ ks v rZ->lens.len j=rZ.length
 flat:(∀ ks v rZ,o≠.vQ ks v rZ)->lens.al j=0
structure jZ (H:List au) (e:cy) (fz:Nat->Bool) (lens:eu) (E E0:ae):Prop where
 hH:E.H=ax H
 HE:aG E
 free:∀ i,fz i=true->∀ b n,E.ad[i]? = some (some (b,n))->E0.jQ b
 dw:KeepIn e E E0
 obj:∀ j o,H[e.at j]? = some o->j<e.ay.length/\Cn E0 lens j o
section dw
variable {H:List au} {e:cy} {fz:Nat->Bool} {lens:eu} {E E0:ae}
theorem Cn.bu{j:Nat}{o:au}(h:Cn E0 lens j o):E0.bu j (lens.al j):=by
 obtain⟨o0,d,a⟩:=h.obj;exact⟨o0,d,ah.Fq a,fun v b=>by rw[a]at b; cases b; exact aY _⟩
theorem W1(K:jZ H e fz lens E E0){id v n:Nat}{ks:List Kd}{rZ:LL}{c:ak}(B:H[id]? = some (.vQ ks v rZ))(F:fz id=true)(I:n=rZ.length)
  (d:ab E (.vQ ks.length id v 0 n) c):ab E0 (.listF ks rZ) c:=by
 subst I;have q:E.H[id]? = some (.vQ ks.length v (rZ.map (a8 ks))):=by rw[K.hH]; exact bx B
 have a:=K.HE.obj id _ q;rw[ki];simp only[ab]at d|-;obtain⟨⟨aN,cap,rfl,A,_⟩,_,h⟩:=d;obtain⟨O,J⟩:=h ⟨_,q,rfl⟩;have t:fg (rZ.map (a8 ks)):=by
  intro r d;obtain⟨g,_,rfl⟩:=gG.1 d;exact gI ks g
 refine⟨t,aN,cap,by simp,by simpa using A,?_⟩;simp only[aV]at a;rcases a with⟨k,y⟩|⟨b,m,k,y,h,_,M⟩
 ·exact .inl y
 ·obtain ⟨U, o, N, z⟩ := J b m k
  by_cases hm:rZ=[]
  ·subst hm; exact .inl rfl
  ·right
   have:0<rZ.length:=by cases rZ with|nil=>exact(hm rfl).elim|cons _ _=>simp
   simp at h;have a:=N (by omega);simp at a;subst a;simp only[lv]at z;exact⟨b,0,z.1,K.free id F b m k,kh K.dw.bZ _ t (by rw[K.dw.w]) M⟩
theorem W2(K:jZ H e fz lens E E0){id v n:Nat}{ks:List Kd}{rZ:LL}{c:ak}(I:H[id]? = some (.vQ ks v rZ))(J:fz id=true)(M:n<=rZ.length)
  (d:ab E (.vQ ks.length id v 0 n) c):ab E0 (.listF ks (rZ.take n)) c:=by
 have q:E.H[id]? = some (.vQ ks.length v (rZ.map (a8 ks))):=by rw[K.hH]; exact bx I
 have a:=K.HE.obj id _ q;rw[ki];simp only[ab]at d|-;obtain⟨⟨aN,cap,rfl,F,_⟩,_,h⟩:=d;obtain⟨U,N⟩:=h ⟨_,q,rfl⟩;have y:fg ((rZ.take n).map (a8 ks)):=by
  intro r d;obtain⟨g,_,rfl⟩:=gG.1 d;exact gI ks g
 have t:min n rZ.length=n:=Nat.min_eq_left M;refine⟨y,aN,cap,by simp[t],by simpa[t]using F,?_⟩;simp only[aV]at a;rcases a with⟨k,z⟩|⟨b,m,k,z,h,_,A⟩
 ·left
  have:rZ=[]:=by simpa using z
  rw[this];simp
 ·obtain ⟨V, o, O, B⟩ := N b m k
  by_cases hm:n=0
  ·left; rw[hm]; simp
  ·right
   simp at h;have a:=O (by omega);simp at a;subst a;simp only[lv]at B;refine⟨b,0,B.1,K.free id J b m k,kh K.dw.bZ _ y (by rw[K.dw.w]) ?_⟩;rw[ox]at A|-;intro i r hi;simp only[cX,om]at hi;split at hi
   ·exact A i r (by simpa using hi)
   ·simp at hi
theorem W3(K:jZ H e fz lens E E0){id k:Nat}{cells:List AV}{c:ak} (v:H[id]? = some (.raw (.box cells))) (g:AV.cb cells=true) (y:fz id=true)
  (h:ab E (.ptr id 0 k 0 0) c):ab E0 (.cptr cells) c:=by
 have d:E.H[id]? = some (.box cells):=by rw[K.hH]; exact bx v
 have q:=K.HE.obj id _ d;simp only[aV]at q;obtain⟨b,n,t,F,z⟩:=q;simp only[ab]at h|-;obtain⟨_,_,A⟩:=h;obtain⟨I,J,a,B⟩:=A ⟨_,d,rfl⟩;rw[t]at a;simp only[a_,bk]at a;obtain⟨rfl,rfl⟩:=a;exact⟨g,b,0,by rw[B]; simp,K.free id y b n t,uP K.dw.bZ cells g (by rw[K.dw.w]) z⟩
theorem W4(K:jZ H e fz lens E E0){id k v:Nat}{ks:List Kd}{r:LG}{c:ak}(z:H[id]? = some (.vQ ks v [r]))(A:fz id=true)
  (g:ab E (.ptr id v k 0 0) c):ab E0 (.cptr (a8 ks r)) c:=by
 have d:E.H[id]? = some (.vQ ks.length v [a8 ks r]):=by rw[K.hH]; exact bx z
 have h:=K.HE.obj id _ d;simp only[aV]at h;simp only[ab]at g|-;obtain⟨_,_,B⟩:=g;obtain⟨I,J,a,F⟩:=B ⟨_,d,rfl⟩;rcases h with⟨_,q⟩|⟨b,m,t,q,M,N,y⟩
 ·cases q
 ·rw [t] at a
  simp only[a_,bk]at a;obtain⟨rfl,rfl⟩:=a;simp only[da]at y;exact⟨gI ks r,b,0,by rw[F]; simp,K.free id A b m t,uP K.dw.bZ _ (gI ks r) (by rw[K.dw.w]) y.2.1⟩
theorem Nl(K:jZ H e fz lens E E0):∀{g:List Nat} {q:List AV},mE H e g q=true->∀ a,ar E q a->ar E0 (tA g) a
 | [],[],_,a,b=>by
  cases a with
  |nil=>simp[tA,ar]
  |cons _ _=>simp[ar]at b
 | j::g,v::q,h,a,b=>by
  cases v<;>simp only[mE,me]at h<;>try cases h
  rename_i id al k row c;simp only[aE]at h;obtain⟨d,I⟩:=h;split at d
  ·rename_i r B
   simp only[aE]at d;obtain⟨⟨⟨⟨t,w⟩,y⟩,z⟩,a5⟩:=d;have t:=bA t;have w:=bA w;have y:=bA y;have z:=bA z;have a5:=bA a5;subst t w y z a5;cases a with
   |nil=>simp[ar]at b
   | cons c a =>
    simp only[ar]at b;simp only[tA,ar];refine⟨?_,Nl K I a b.2⟩;obtain⟨J,A⟩:=K.obj _ _ B;have M:=A.flat (fun _ _ _ h=>by cases h);have F:=b.1;simp only[ab]at F|-;obtain⟨d,I,N⟩:=F;refine⟨d,by have:=A.bu; rwa [M]at this,fun _=>?_⟩;rw[K.dw.ad _ J];exact N ⟨_,by rw[K.hH]; exact bx B,A.al⟩
  ·cases d
 | [],_::_,h,_,_=>by simp[mE]at h
 |_::_,[],h,_,_=>by simp[mE]at h
theorem Nn(K:jZ H e fz lens E E0){sh:dV}{a:AV}{g:LG}(h:ig H e fz sh a=some (true,g))(rest:LG) :
  g.length=sh.sz/\∀ c,ab E a c->ab E0 (d_ lens sh (g++rest)) c:=by
 unfold ig at h;split at h
 ·split at h
  ·rename_i J
   subst J;cases h;exact⟨rfl,fun c b=>by simp only[ab]at b; subst b; simp[d_,ab,G.iV]⟩
  ·cases h
 ·cases h; exact⟨rfl,fun c b=>by simp only[ab]at b; subst b; simp[d_,ab,G.sV]⟩
 ·cases h; exact⟨rfl,fun c b=>by simp only[ab]at b; subst b; simp[d_,ab,G.bV]⟩
 ·split at h
  ·rename_i rZ b
   cases h;exact⟨rfl,fun c d=>gy K.dw.bZ (.listF _ rZ) rfl (M6 b d)⟩
  ·split at h
   ·split at h
    ·rename_i k
     split at h
     ·rename_i d
      obtain⟨rfl,rfl,rfl,z,F⟩:=d;simp only[a_,bk]at h;obtain⟨t,rfl⟩:=h;have z:=Kd.jn z;subst z;exact⟨rfl,fun c b=>W1 K k F (bA t) b⟩
     ·cases h
    ·cases h
   ·cases h
 ·split at h
  ·rename_i ks a r b
   cases h;have I:=M7 b;subst I;exact⟨rfl,fun c d=>gy K.dw.bZ (.agg (a8 ks r)) (by simp only[AV.closed,gI]) d⟩
  ·cases h
 ·split at h
  ·rename_i r b
   cases h;have I:=lO b;subst I;exact⟨rfl,fun c d=>gy K.dw.bZ (.cptr _) rfl d⟩
  ·cases h
 ·split at h
  ·rename_i k
   split at h
   ·rename_i r b
    split at h
    ·rename_i d
     obtain⟨rfl,rfl,rfl,F⟩:=d;cases h;have I:=lO b;subst I;exact⟨rfl,fun c b=>W3 K k (gI _ _) F b⟩
    ·cases h
   ·cases h
  ·rename_i U v r k
   split at h
   ·rename_i d
    obtain⟨rfl,rfl,rfl,z,F⟩:=d;cases h;have z:=Kd.jn z;subst z;exact⟨rfl,fun c b=>W4 K k F b⟩
   ·cases h
  ·cases h
 ·cases h; exact⟨rfl,fun c b=>by simpa only[d_,ab]using b⟩
 ·cases h; exact⟨rfl,fun c b=>by simp[d_,ab]⟩
 ·split at h
  ·rename_i J
   subst J;cases h;exact⟨rfl,fun c b=>gy K.dw.bZ (.clo _ []) rfl b⟩
  ·cases h
 ·split at h
  ·rename_i r k
   split at h
   ·rename_i d
    obtain⟨rfl,rfl,rfl,rfl,rfl⟩:=d;cases h;obtain⟨w,q⟩:=K.obj _ _ k;have A:=q.flat (fun _ _ _ h=>by cases h);refine⟨rfl,fun c b=>?_⟩;simp only[ab]at b;simp only[d_,ab];obtain⟨t,B,y⟩:=b;refine⟨t,by have:=q.bu; rwa [A]at this,fun _=>?_⟩;rw[K.dw.ad _ w];exact y ⟨_,by rw[K.hH]; exact bx k,q.al⟩
   ·cases h
  ·cases h
 ·split at h
  ·rename_i ks v rZ k
   split at h
   ·rename_i d
    obtain⟨rfl,rfl,rfl,rfl⟩:=d;simp only[a_,bk]at h;obtain⟨t,rfl⟩:=h;have t:=bA t;subst t;obtain⟨w,q⟩:=K.obj _ _ k;refine⟨rfl,fun c b=>?_⟩;simp only[ab]at b;simp only[d_,ab];rw[q.len _ _ _ rfl];obtain⟨t,B,y⟩:=b;refine⟨t,q.bu,fun _=>?_⟩;rw[K.dw.ad _ w];exact y ⟨_,by rw[K.hH]; exact bx k,q.al⟩
   ·cases h
  ·cases h
 ·split at h
  ·rename_i ks v rZ k
   split at h
   ·rename_i d
    obtain⟨rfl,rfl,rfl⟩:=d;cases h;obtain⟨w,q⟩:=K.obj _ _ k;refine⟨rfl,fun c b=>?_⟩;simp only[ab]at b;simp only[d_,ab,kK,ow,List.tail_cons,G.iV,eH];obtain⟨t,B,y⟩:=b;refine⟨t,q.bu,fun _=>?_⟩;rw[K.dw.ad _ w];exact y ⟨_,by rw[K.hH]; exact bx k,q.al⟩
   ·cases h
  ·cases h
 ·split at h
  ·rename_i ks v rZ k
   split at h
   ·rename_i d
    obtain⟨rfl,rfl,rfl,rfl⟩:=d;cases h;obtain⟨w,q⟩:=K.obj _ _ k;refine⟨rfl,fun c b=>?_⟩;simp only[ab]at b;simp only[d_,ab,kK,ow,G.iV,eH];obtain⟨t,B,y⟩:=b;refine⟨t,q.bu,fun _=>?_⟩;rw[K.dw.ad _ w];exact y ⟨_,by rw[K.hH]; exact bx k,q.al⟩
   ·cases h
  ·rename_i l1 N Y V k
   split at h
   ·rename_i d
    obtain⟨rfl,rfl,rfl,rfl⟩:=d;cases h;obtain⟨w,q⟩:=K.obj _ _ k;have A:=q.flat (fun _ _ _ h=>by cases h);refine⟨rfl,fun c b=>?_⟩;simp only[ab]at b;simp only[d_,ab,kK,ow,G.iV,eH];obtain⟨t,B,y⟩:=b;refine⟨t,q.bu,fun _=>?_⟩;rw[K.dw.ad _ w];exact y ⟨_,by rw[K.hH]; exact bx k,q.al⟩
   ·cases h
  ·cases h
 ·split at h
  ·rename_i rZ b
   cases h;exact⟨rfl,fun c d=>gy K.dw.bZ (.listF _ rZ) rfl (M6 b d)⟩
  ·split at h
   ·split at h
    ·rename_i k
     split at h
     ·rename_i d
      obtain⟨rfl,rfl,rfl,z,F⟩:=d;simp only[a_,bk]at h;obtain⟨t,rfl⟩:=h;have z:=Kd.jn z;subst z;exact⟨rfl,fun c b=>W2 K k F (qL t) b⟩
     ·cases h
    ·cases h
   ·cases h
 ·split at h
  ·rename_i M V1 rZ cl k
   split at h
   ·rename_i d
    subst d;cases h;obtain⟨w,q⟩:=K.obj _ _ k;have A:=q.flat (fun _ _ _ h=>by cases h);refine⟨rfl,fun c b=>?_⟩;simp only[ab]at b;simp only[d_,ab];obtain⟨t,B,y⟩:=b;refine⟨t,by have:=q.bu; rwa [A]at this,fun _=>?_⟩;rw[K.dw.ad _ w];exact y ⟨_,by rw[K.hH]; exact bx k,q.al⟩
   ·cases h
  ·rename_i l1 M N rZ cl k
   split at h
   ·rename_i d
    subst d;cases h;obtain⟨w,q⟩:=K.obj _ _ k;have A:=q.flat (fun _ _ _ h=>by cases h);refine⟨rfl,fun c b=>?_⟩;simp only[ab]at b;simp only[d_,ab];obtain⟨t,B,y⟩:=b;refine⟨t,by have:=q.bu; rwa [A]at this,fun _=>?_⟩;rw[K.dw.ad _ w];exact y ⟨_,by rw[K.hH]; exact bx k,q.al⟩
   ·cases h
  ·rename_i l1 M W X rZ mem cl k
   split at h
   ·rename_i d
    subst d;cases h;obtain⟨w,q⟩:=K.obj _ _ k;have A:=q.flat (fun _ _ _ h=>by cases h);refine⟨rfl,fun c b=>?_⟩;simp only[ab]at b;simp only[d_,ab];obtain⟨t,B,y⟩:=b;refine⟨t,by have:=q.bu; rwa [A]at this,fun _=>?_⟩;rw[K.dw.ad _ w];exact y ⟨_,by rw[K.hH]; exact bx k,q.al⟩
   ·cases h
  ·rename_i l1 M N rZ cl k
   split at h
   ·rename_i d
    subst d;cases h;obtain⟨w,q⟩:=K.obj _ _ k;have A:=q.flat (fun _ _ _ h=>by cases h);refine⟨rfl,fun c b=>?_⟩;simp only[ab]at b;simp only[d_,ab];obtain⟨t,B,y⟩:=b;refine⟨t,by have:=q.bu; rwa [A]at this,fun _=>?_⟩;rw[K.dw.ad _ w];exact y ⟨_,by rw[K.hH]; exact bx k,q.al⟩
   ·cases h
  ·cases h
 ·cases h; exact⟨rfl,fun c b=>by simp only[ab]at b; subst b; simp[d_,ab,G.iV]⟩
 ·split at h
  ·rename_i d
   obtain⟨rfl,d⟩:=d;cases h;refine⟨rfl,fun c b=>?_⟩;simp only[ab]at b;simp only[d_,ab];obtain⟨O,r1,r2⟩:=b;exact⟨O,r1,Nl K d _ r2⟩
  ·cases h
 ·cases h; exact⟨rfl,fun c b=>by simpa only[d_,ab]using b⟩
 ·cases h
theorem Hw(K:jZ H e fz lens E E0):∀{k:List dV} {as:List AV} {g:LG},gQ H e fz k as=some (true,g)->∀(rest:LG),
  g.length=rz k/\as.length=k.length/\(kC lens k (g++rest)).length=k.length /\
   (∀ q,ar E as q->ar E0 (kC lens k (g++rest)) q)/\∀ b o,E0.w.heap[b]? = E.w.heap[b]? -> cY E as b o->cY E0 (kC lens k (g++rest)) b o
 | [],[],g,h,rest=>by
  simp only[gQ,a_,bk]at h;obtain⟨_,rfl⟩:=h;refine⟨rfl,rfl,rfl,fun q d=>?_,fun b o _ d=>by simp[kC,cY]⟩;cases q with
  |nil=>simp[kC,ar]
  |cons _ _=>simp[ar]at d
 | sh::k,a::as,g,h,rest=>by
  simp only[gQ]at h;split at h
  ·rename_i b z V t F I
   simp only[a_,bk,aE]at h;obtain⟨⟨rfl,rfl⟩,rfl⟩:=h;obtain⟨p1,A⟩:=Nn K F (t++rest);obtain⟨J,M,N,O,U⟩:=Hw K I rest;have y:dv sh.sz (z++(t++rest))=t++rest:=by rw[<-p1]; exact rA z _
   refine⟨by simp only[rz,dG,p1,J],by simp only[bW,M],?_,?_,?_⟩
   ·simp only[kC,iO,y,bW,N]
   ·intro q d
    cases q with
    |nil=>simp[ar]at d
    | cons c q =>
     simp only[ar]at d;simp only[kC,iO,y,ar];exact⟨A c d.1,O q d.2⟩
   ·intro b o B d
    simp only[cY]at d;simp only[kC,iO,y,cY];obtain⟨⟨v,r1,r2,r3⟩,r4⟩:=d;exact⟨⟨v,by rw[World.uO B]; exact r1,r2,A v r3⟩,U b (o+1) B r4⟩
  ·cases h
 | [],_::_,_,h,_=>by simp[gQ]at h
 |_::_,[],_,h,_=>by simp[gQ]at h
theorem No(K:jZ H e fz lens E E0){sh:Sh}{a:AV}{g:LG}(h:mF H e fz sh a=some (true,g))(rest:LG) :
  g.length=sh.sz/\∀ c,ab E a c->ab E0 (jH lens sh (g++rest)) c:=by
 cases sh with
 |s v=>exact Nn K h rest
 | clo f caps =>
  cases a<;>simp only[mF]at h<;>try cases h
  rename_i w y;split at h
  ·rename_i d
   subst d;obtain⟨k,z,A,q,B⟩:=Hw K h rest;refine⟨k,fun c b=>?_⟩;simp only[ab]at b;simp only[jH,ab];obtain⟨t,r1,r2⟩:=b;exact⟨t,r1,q _ r2⟩
  ·cases h
theorem yM(K:jZ H e fz lens E E0):∀{k:List Sh} {as:List AV} {g:LG},fG H e fz k as=some (true,g)->∀(rest:LG),
  g.length=Ht k/\as.length=k.length/\(cO lens k (g++rest)).length=k.length/\(∀ d,ar E as d->ar E0 (cO lens k (g++rest)) d)
 | [],[],g,h,rest=>by
  simp only[fG,a_,bk]at h;obtain⟨_,rfl⟩:=h;refine⟨rfl,rfl,rfl,fun d q=>?_⟩;cases d with
  |nil=>simp[cO,ar]
  |cons _ _=>simp[ar]at q
 | sh::k,a::as,g,h,rest=>by
  simp only[fG]at h;split at h
  ·rename_i b v M t y z
   simp only[a_,bk,aE]at h;obtain⟨⟨rfl,rfl⟩,rfl⟩:=h;obtain⟨p1,A⟩:=No K y (t++rest);obtain⟨B,F,I,J⟩:=yM K z rest;have w:dv sh.sz (v++(t++rest))=t++rest:=by rw[<-p1]; exact rA v _
   refine⟨by simp only[Ht,dG,p1,B],by simp only[bW,F],by simp only[cO,iO,w,bW,I],?_⟩;intro d q;cases d with
   |nil=>simp[ar]at q
   | cons c d =>
    simp only[ar]at q;simp only[cO,iO,w,ar];exact⟨A c q.1,J d q.2⟩
  ·cases h
 | [],_::_,_,h,_=>by simp[fG]at h
 |_::_,[],_,h,_=>by simp[fG]at h
theorem Np(K:jZ H e fz lens E E0):∀{t:List Sh} {as:List AV} {g:LG},fG H e fz t as=some (true,g)->∀{rest:LG} {k:Nat} {x v:AV} {c:ak},
  as[k]? = some x->(cO lens t (g++rest))[k]? = some v->ab E x c->ab E0 v c
 | [],[],_,_,_,_,_,_,_,d,_,_=>by simp at d
 | sh::t,a::as,g,h,rest,k,x,v,c,d,q,y=>by
  simp only[fG]at h;split at h
  ·rename_i b z J w A B
   simp only[a_,bk,aE]at h;obtain⟨⟨rfl,rfl⟩,rfl⟩:=h;obtain⟨p1,F⟩:=No K A (w++rest);have I:dv sh.sz (z++(w++rest))=w++rest:=by rw[<-p1]; exact rA z _
   simp only[cO,iO,I]at q;cases k with
   | zero =>
    simp at d q;subst d;subst q;exact F c y
   |succ k=>exact Np K B (by simpa using d) (by simpa using q) y
  ·cases h
 | [],_::_,_,h,_,_,_,_,_,_,_,_=>by simp[fG]at h
 |_::_,[],_,h,_,_,_,_,_,_,_,_=>by simp[fG]at h
theorem Nq(K:jZ H e fz lens E E0){sh:cH}{o:au}{g:LG}(h:jq H e fz sh o=some (true,g))(rest:LG)
  {j:Nat} (hj:j<e.ay.length) (hlab:∀ l,sh.k8=some l->E0.X.r l=E.X.r l) (z:aV E (e.at j) o.aw):aV E0 j (fF lens sh (g++rest)).aw:=by
 have A:∀ b:Nat,E0.w.heap[b]? = E.w.heap[b]? := fun b=>by rw[K.dw.w]
 have I:=K.dw.ad j hj;unfold jq at h;split at h
 ·split at h
  ·rename_i t
   cases h;have t:=Kd.jn t;subst t;simp only[fF,au.aw,aV]at z|-;rcases z with⟨a,d⟩|⟨b,m,a,d,y,V,h5⟩
   ·exact .inl ⟨by rw[I,a],d⟩
   ·exact .inr ⟨b,m,by rw[I,a],uR (A b) d,y,V,kh K.dw.bZ _ V (A b) h5⟩
  ·cases h
 ·rename_i shs cells
  obtain⟨q1,q2,q3,q5,q6⟩:=Hw K h rest;simp only[fF,au.aw,aV]at z|-;obtain⟨b,n,a,d,y⟩:=z;exact⟨b,n,by rw[I,a],by rw[q3,<-q2]; exact uR (A b) d,q6 b 0 (A b) y⟩
 ·split at h
  ·rename_i t
   cases h;simp only[aE]at t;have a:=Ct.kU t.1;have d:=Ct.kU t.2;subst a;subst d;simp only[fF,au.aw,aV]at z|-;obtain⟨b,n,O,a,d,y⟩:=z;refine⟨b,n,O,by rw[I,a],?_,nT K.dw.bZ y⟩;rw[A b];simpa[G.iV]using d
  ·cases h
 ·rename_i l T B l' T' B' s
  split at h
  ·rename_i t
   cases h;simp only[aE]at t;obtain⟨a,d,y⟩:=t;have a:=bA a;have d:=bA d;have y:=bA y;subst a d y;simp only[fF,au.aw,aV]at z|-;obtain⟨b,n,p,v,k,q,J,M,N,U,g5,g6⟩:=z;have F:=hlab l rfl;exact⟨b,n,p,v,k,q,by rw[I,J],by rw[A b,M],N,by rw[F,U],by rw[F]; exact g5,Fu (fun g m _=>A g) (by simpa[G.sV]using g6)⟩
  ·cases h
 ·rename_i l K0 ks l' K' ks' rZ clock
  split at h
  ·rename_i t
   cases h;simp only[aE]at t;obtain⟨a,d,y⟩:=t;have a:=bA a;have d:=Ct.kU d;have y:=Kd.jn y;subst a d y;simp only[fF,au.aw,aV]at z|-;obtain⟨b,n,O,J,M,N,U⟩:=z;have F:=hlab l rfl;refine⟨b,n,O,by rw[I,J],?_,nT K.dw.bZ N,xy (E:=E) (fun h g m hk=>⟨by rw[F]; exact hk,A g⟩) (fun _ _ _ _ _ W Y hc hr2=>kh K.dw.bZ _ hc Y hr2) U⟩;rw[A b];simpa[G.iV]using M
  ·cases h
 ·rename_i l K0 KI VI l' K' KI' VI' rZ mem clock
  split at h
  ·rename_i t
   cases h;simp only[aE]at t;obtain⟨a,d,y,V⟩:=t;have a:=bA a;have d:=Ct.kU d;have y:=Ct.kU y;have V:=Ct.kU V;subst a d y V;simp only[fF,au.aw,aV]at z|-;obtain⟨b,n,O,J,M,N,U⟩:=z;have F:=hlab l rfl;refine⟨b,n,O,by rw[I,J],?_,nT K.dw.bZ N,Fw F (fun _ W _ _=>A W) (fun _ _ _=>nT K.dw.bZ) U⟩;rw[A b];simpa[G.iV]using M
  ·cases h
 ·rename_i l ks l' ks' n O
  split at h
  ·rename_i t
   cases h;simp only[aE]at t;obtain⟨a,d⟩:=t;have a:=bA a;have d:=Kd.jn d;subst a d;simp only[fF,au.aw,aV]at z|-;obtain⟨b,m,cs,el,J,M,N⟩:=z;have F:=hlab l rfl;refine⟨b,m,cs,el,by rw[I,J],by rw[A b]; exact M,?_⟩;have:=Fy (E:=E) (E':=E0) F (fun _ W _ _=>A W) (fun rZ _ W Y hc hr2=>kh K.dw.bZ rZ hc Y hr2) N;simpa[G.iV,G.rZ]using this
  ·cases h
 ·rename_i l K0 ks l' K' ks' rZ clock
  split at h
  ·rename_i t
   cases h;simp only[aE]at t;obtain⟨a,d,y⟩:=t;have a:=bA a;have d:=Ct.kU d;have y:=Kd.jn y;subst a d y;simp only[fF,au.aw,aV]at z|-;obtain⟨b,n,O,J,M,N,U⟩:=z;have F:=hlab l rfl;refine⟨b,n,O,by rw[I,J],?_,nT K.dw.bZ N,Bf (E:=E) (fun h g m hk=>⟨by rw[F]; exact hk,A g⟩) (fun _ _ _ _ _ _ W Y hc hr2=>kh K.dw.bZ _ hc Y hr2) U⟩;rw[A b];simpa[G.iV]using M
  ·cases h
 ·cases h
end dw
def cH.up:cH->Nat
 |.vQ _ u=>u
 |_=>0
def Hx{H:List au}{e:cy}{fz:Nat->Bool}{lens:eu}{sh:cH}{o:au}{b:Bool}{g d:LG}(h:jq H e fz sh o=some (b,g)) :
  o.aw.aU = some (vS o)/\(fF lens sh d).aw.aU = some sh.up/\((∀ ks v rZ,o≠.vQ ks v rZ)->sh.up=0):=by
 unfold jq at h;split at h
 ·exact⟨rfl,rfl,fun a=>(a _ _ _ rfl).elim⟩
 ·exact⟨rfl,rfl,fun _=>rfl⟩
 ·exact⟨rfl,rfl,fun _=>rfl⟩
 ·exact⟨rfl,rfl,fun _=>rfl⟩
 ·exact⟨rfl,rfl,fun _=>rfl⟩
 ·exact⟨rfl,rfl,fun _=>rfl⟩
 ·exact⟨rfl,rfl,fun _=>rfl⟩
 ·exact⟨rfl,rfl,fun _=>rfl⟩
 ·cases h
def W5{H:List au}{e:cy}{fz:Nat->Bool}{sh:dV}{a:AV}{b:Bool}{g:LG}(h:ig H e fz sh a=some (b,g)):g.length=sh.sz:=by
 unfold ig at h;split at h<;>(try split at h)<;>(try split at h)<;>(try split at h)<;>(try split at h)<;>first
  |(cases h; rfl)
  |cases h
def Nr{H:List au}{e:cy}{fz:Nat->Bool}:∀{d:List dV} {as:List AV} {b:Bool} {g:LG},gQ H e fz d as=some (b,g)->g.length=rz d
 | [],[],_,g,h=>by simp[gQ]at h; simp[<-h.2,rz]
 | sh::d,a::as,b,g,h=>by
  simp only[gQ]at h;split at h
  ·rename_i b t v w k q
   simp only[a_,bk]at h;obtain⟨_,rfl⟩:=h;simp only[rz,dG,W5 k,Nr q]
  ·cases h
 | [],_::_,_,_,h|_::_,[],_,_,h=>by simp[gQ]at h
def W6{H:List au}{e:cy}{fz:Nat->Bool}{sh:cH}{o:au}{b:Bool}{g:LG}(h:jq H e fz sh o=some (b,g)):g.length=sh.sz:=by
 unfold jq at h;split at h
 ·split at h
  ·cases h; rfl
  ·cases h
 ·exact Nr h
 ·split at h
  ·cases h; rfl
  ·cases h
 ·split at h
  ·cases h; rfl
  ·cases h
 ·split at h
  ·cases h; rfl
  ·cases h
 ·split at h
  ·cases h; rfl
  ·cases h
 ·split at h
  ·cases h; rfl
  ·cases h
 ·split at h
  ·cases h; rfl
  ·cases h
 ·cases h
def yN{H:List au}{e:cy}{fz:Nat->Bool}:∀{os:List cH} {ay:List Nat} {g:LG},lb H e fz os ay=some (true,g)->∀(rest:LG) (lens:eu),
  g.length=oK os/\ay.length=os.length/\(c_ lens os (g++rest)).length=os.length /\
  (∀ (j : Nat) (sh : cH), os[j]? = some sh -> ∃ i o k w, ay[j]? = some i /\ H[i]? = some o /\ jq H e fz sh o = some (true, k) /\ (c_ lens os (g ++ rest))[j]? = some (fF lens sh (k ++ w)) /\
   (cV os (g++rest)).al j=sh.up/\∀ ks v rZ,o=.vQ ks v rZ->(cV os (g++rest)).len j=rZ.length)
 | [],[],g,h,rest,lens=>by
  simp only[lb,a_,bk]at h;obtain⟨_,rfl⟩:=h;exact⟨rfl,rfl,rfl,fun j sh q=>by simp at q⟩
 | sh::os,i::ay,g,h,rest,lens=>by
  simp only[lb]at h;split at h
  case h_2=>cases h
  rename_i o F;split at h
  ·rename_i b k U y d I
   simp only[a_,bk,aE]at h;obtain⟨⟨rfl,rfl⟩,rfl⟩:=h;obtain⟨q0,J,M,N⟩:=yN I rest lens;have z:=W6 d;have t:dv sh.sz (k++(y++rest))=y++rest:=by rw[<-z]; exact rA k _
   refine⟨by simp only[oK,dG,z,q0],by simp only[bW,J],by simp only[c_,iO,t,bW,M],fun j A q=>?_⟩;cases j with
   | zero =>
    simp at q;subst q;refine⟨i,o,k,y++rest,rfl,F,d,by simp only[c_,iO,List.getElem?_cons_zero],?_,?_⟩
    ·unfold cV eu.al
     cases sh<;>rfl
    ·rintro ks v rZ rfl
     unfold jq at d;split at d
     ·rename_i a
      cases a;split at d
      ·cases d
       simp[cV,eu.len,G.rZ]
      ·cases d
     ·rename_i a; cases a
     ·rename_i a; cases a
     ·rename_i a; cases a
     ·rename_i a; cases a
     ·rename_i a; cases a
     ·rename_i a; cases a
     ·rename_i a; cases a
     ·cases d
   | succ j =>
    obtain⟨O,o',B,w,r1,r2,r3,r4,r5,r6⟩:=N j A (by simpa using q);refine⟨O,o',B,w,by simpa using r1,r2,r3,by simpa only[c_,iO,t,Tf]using r4,?_,?_⟩
    ·simpa only[cV,eu.al,iO,t,Tg]using r5
    ·simpa only[cV,eu.len,iO,t,Tg]using r6
  ·cases h
 | [],_::_,_,h,_,_=>by simp[lb]at h
 |_::_,[],_,h,_,_=>by simp[lb]at h
end Go.AL

namespace Go.AL
open Go
variable [Dr]
abbrev tC(a b:Bool):Bool:=Bool.casesOn a false b
def tD{a b:Bool}:tC a b=true↔a=true/\b=true:=by cases a<;>simp
open Classical in
noncomputable def pZ(E:ae)(H0:List ah)(l:Nat):List (Option (Option (Nat × Nat))):=if ∃(j:Nat) (o:ah),H0[j]? = some o/\o.label=some l then E.X.r l else (E.X.r l).map fun _=>none
def W7{E:ae}{H0:List ah}{l j:Nat}{o:ah}(h:H0[j]? = some o)(a:o.label=some l):pZ E H0 l=E.X.r l:=iP ⟨j,o,h,a⟩
def Co{E:ae}{H0:List ah}{l h:Nat}{q:Option (Nat × Nat)}(a:(pZ E H0 l)[h]? = some (some q)):(E.X.r l)[h]? = some (some q)/\∃(j:Nat) (o:ah),H0[j]? = some o/\o.label=some l:=by
 unfold pZ at a;split at a
 ·rename_i d
  exact⟨a,d⟩
 ·rw [cX] at a
  cases b:(E.X.r l)[h]? with
  |none=>rw[b]at a; cases a
  |some y=>rw[b]at a; cases a
def W8(E:ae)(H0:List ah)(l:Nat):(pZ E H0 l).length=(E.X.r l).length:=by
 unfold pZ;split
 ·rfl
 ·simp
noncomputable def j5(E:ae)(H0:List ah)(ay:List Nat):ae:=⟨E.w,H0,ay.map fun i=>E.ad.getD i none,E.X.re (pZ E H0)⟩
def Ns(E:ae)(H0:List ah)(ay:List Nat):∀ l h,h<(E.X.r l).length->h<((j5 E H0 ay).X.r l).length/\∀ q,((j5 E H0 ay).X.r l)[h]? = some (some q)->(E.X.r l)[h]? = some (some q) :=
 fun l h a=>⟨by show h<(pZ E H0 l).length; rw[W8]; exact a,fun q b=>(Co (E:=E) (H0:=H0) b).1⟩
def Nt{E:ae}{H0:List ah}{ay:List Nat}{b:Nat}(h:(j5 E H0 ay).bN b):E.bN b:=by
 rcases h with⟨j,c,d⟩|⟨l,k,c,d⟩
 ·simp only [j5, cX] at d
  obtain⟨i,_,a⟩:=eG.1 d;rw[eh]at a;cases he:E.ad[i]? with
  |none=>rw[he]at a; cases a
  |some y=>rw[he]at a; simp at a; exact .inl ⟨i,c,by rw[he,a]⟩
 ·exact .inr ⟨l,k,c,(Co d).1⟩
def j6(ay:List Nat)(i:Nat):Bool := !ay.any (aH i)
def Nu{ay:List Nat}{i:Nat}(h:j6 ay i=true):i∉ay:=by
 intro hm;have:ay.any (aH i)=true:=mh.2 ⟨i,hm,by simp⟩;simp[j6,this]at h
def Nv{E:ae}{H:List au}(hH:E.H=ax H)(HE:aG E){ay:List Nat}(hn:ay.Nodup){os:List cH}{g:LG}(h:lb H (cz H ay) (j6 ay) os ay=some (true,g))(rest:LG) :
  jZ H (cz H ay) (j6 ay) (cV os (g++rest)) E (j5 E (ax (c_ (cV os (g++rest)) os (g++rest))) ay) /\
   aG (j5 E (ax (c_ (cV os (g++rest)) os (g++rest))) ay):=by
 obtain⟨p0,p1,p2,p3⟩:=yN h rest (cV os (g++rest));generalize B:j5 E (ax (c_ (cV os (g++rest)) os (g++rest))) ay=E0;have hElen:E.ad.length=H.length:=by rw[HE.len,hH,fj]
 have eids:(cz H ay).ay=ay:=rfl;have hloc:∀ j x,E0.ad[j]? = some x->j<ay.length/\∃ i,ay[j]? = some i/\E.ad.getD i none=x:=by
  intro j x A;rw[<-B]at A;simp only[j5,cX]at A;obtain⟨i,t,z⟩:=eG.1 A;exact⟨aX t,i,t,z⟩
 have W:∀{i:Nat} {x:Nat × Nat},E.ad.getD i none=some x->E.ad[i]? = some (some x):=by
  intro i x A;rw[eh]at A;cases he:E.ad[i]? with
  |none=>rw[he]at A; cases A
  |some y=>rw[he]at A; simp at A; rw[A]
 have hown:∀ b,E0.bN b->E.bN b:=by
  rintro b (⟨j,c,a⟩|⟨l,k,c,a⟩)
  ·obtain ⟨_, i, _, z⟩ := hloc j _ a
   exact .inl ⟨i,c,W z⟩
  ·rw [<- B] at a
   exact .inr ⟨l,k,c,(Co a).1⟩
 have V:E0.w=E.w:=by rw[<-B]; rfl
 have hX:E0.X.x=E.X.x:=by rw[<-B]; rfl
 have Y:∀(l k:Nat) q,(E0.X.r l)[k]? = some (some q)->(E.X.r l)[k]? = some (some q)/\∃(j:Nat) (o:ah),E0.H[j]? = some o/\o.label=some l:=fun l k q hq=>by
  rw[<-B]at hq|-;exact Co hq
 have hatl:∀ j,j<ay.length->ay[j]? = some ((cz H ay).at j):=fun j a=>jo (e:=cz H ay) a;have hobjs:∀ j,j<ay.length->∃ sh o J I,os[j]? = some sh/\H[(cz H ay).at j]? = some o/\jq H (cz H ay) (j6 ay) sh o=some (true,J) /\
   (c_ (cV os (g++rest)) os (g++rest))[j]? = some (fF (cV os (g++rest)) sh (J++I)) /\
   (cV os (g++rest)).al j=sh.up/\∀ ks v rZ,o=.vQ ks v rZ->(cV os (g++rest)).len j=rZ.length:=by
  intro j a;have hj':j<os.length:=by omega
  obtain⟨i,o,J,I,q1,M,O,N,q5,q6⟩:=p3 j os[j] (cn hj');rw[hatl j a]at q1;cases q1;exact⟨os[j],o,J,I,cn hj',M,O,N,q5,q6⟩
 have hK:jZ H (cz H ay) (j6 ay) (cV os (g++rest)) E E0:=by
  refine⟨hH,HE,fun i hi b n U=>?_,⟨fun b U=>⟨⟨by rw[V]; exact U.1,fun F=>U.2.1 (hown b F),by rw[hX]; exact U.2.2⟩,by rw[V]⟩,V,fun j a=>?_,fun j o l t z=>by rw[<-B]at t|-; exact W7 t z⟩,fun j o F=>?_⟩
  ·refine ⟨by rw [V]; exact (HE.lt _ _ _ U).1, ?_, by rw [hX]; exact (HE.lt _ _ _ U).2⟩
   rintro(⟨j,c,a⟩|⟨l,k,c,a⟩)
   case inr=>exact HE.dm _ _ _ _ _ _ U (Y l k _ a).1
   obtain⟨_,i',t,z⟩:=hloc j _ a;have:=HE.inj _ _ _ _ _ U (W z);subst this;exact Nu hi (eC t)
  ·rw [<- B]
   simp only[j5,cX,hatl j a,fk];have hlt:(cz H ay).at j<E.ad.length:=by
    obtain⟨sh,o,J,I,_,M,_⟩:=hobjs j a;rw[hElen];exact aX M
   rw[eh,cn hlt];rfl
  ·have a:j<ay.length:=by
    rcases kJ j ay.length with hlt|hge
    ·exact hlt
    ·have t := aX F
     have z:=vO (e:=cz H ay) hge;have h3:(cz H ay).aN=H.length:=rfl;omega
   refine⟨a,?_⟩;obtain⟨sh,o',J,I,q1,M,O,N,q5,q6⟩:=hobjs j a;rw[F]at M;cases M;obtain⟨r1,r2,r3⟩:=Hx (lens:=cV os (g++rest)) (d:=J++I) O;have hq4:E0.H[j]? = some (fF (cV os (g++rest)) sh (J++I)).aw:=by
    rw[<-B];exact bx N
   exact⟨r1,⟨_,hq4,by rw[q5]; exact r2⟩,fun o0 h0=>by rw[hq4]at h0; cases h0; rw[Hu,Hv O],q6,fun hv=>by rw[q5]; exact r3 hv⟩
 have hlabs:∀(j:Nat) o,E0.H[j]? = some o->j<ay.length/\∃ o',E.H[(cz H ay).at j]? = some o'/\o'.label=o.label:=fun j o F=>by
  rw[<-B]at F;simp only[j5,ax,cX]at F;obtain⟨o',t,rfl⟩:=eG.1 F;have a:j<ay.length:=by
   have:=aX t;omega
  obtain⟨sh,oo,J,I,q1,M,O,N,_⟩:=hobjs j a;rw[t]at N;cases N;exact⟨a,oo.aw,by rw[hH]; exact bx M,by rw[Nk O,vR]⟩
 refine⟨hK,?_,?_,?_,fun b A=>?_,fun j o F=>?_,HE.gL.bZ hK.dw.bZ,fun l k l' k' b m n t z=>HE.fC l k l' k' b m n (Y _ _ _ t).1 (Y _ _ _ z).1,fun i b m l k n hi z=>?_,fun l k b m t=>by rw[V,hX]; exact HE.cS l k b m (Y _ _ _ t).1,fun i j o o' l hi a t z=>?_,fun l hn k q hq=>?_⟩
 ·rw [<- B]
  simp only[j5,fJ,fj,p2,p1]
 ·intro i j b m n hi a
  obtain⟨i1,i2,i3,i4⟩:=hloc i _ hi;obtain⟨j1,j2,j3,j4⟩:=hloc j _ a;have:=HE.inj _ _ _ _ _ (W i4) (W j4);subst this;exact(E8 i1 hn).1 (by rw[i3,j3])
 ·intro i b m hi
  obtain⟨_,i2,_,i4⟩:=hloc i _ hi;rw[V,hX];exact HE.lt _ _ _ (W i4)
 ·rw [V]
  rw[hX]at A;exact HE.X b A
 ·rw [<- B] at F
  simp only[j5,ax,cX]at F;obtain⟨o',t,rfl⟩:=eG.1 F;have a:j<ay.length:=by
   have:=aX t;omega
  obtain⟨sh,oo,J,I,q1,M,O,N,q5,q6⟩:=hobjs j a;rw[t]at N;cases N;refine Nq hK O I (by exact a) (fun l hl=>?_) (HE.obj _ _ (by rw[hH]; exact bx M));refine hK.dw.k8 j (fF (cV os (g++rest)) sh (J++I)).aw l ?_ (by rw[vR,hl]);rw[<-B];exact bx t
 ·obtain ⟨_, i', _, h3⟩ := hloc i _ hi
  exact HE.dm _ _ _ _ _ _ (W h3) (Y _ _ _ z).1
 ·obtain ⟨i1, oi, a1, a2⟩ := hlabs i o hi
  obtain⟨j1,oj,b1,b2⟩:=hlabs j o' a;have:=HE.uniq _ _ _ _ l a1 b1 (by rw[a2,t]) (by rw[b2,z]);exact(E8 i1 hn).1 (by rw[hatl i i1,hatl j j1,this])
 ·obtain ⟨_, j, o, t, z⟩ := Y l k q hq
  exact hn j o t z
def nodupB:List Nat->Bool
 | []=>true
 |i::a => !a.any (aH i)&&nodupB a
def yO:∀{l:List Nat},nodupB l=true->l.Nodup
 | [],_=>List.nodup_nil
 | i::a,h=>by
  simp only[nodupB,aE,qK]at h;refine uF.2 ⟨fun hm=>?_,yO h.2⟩;have:a.any (aH i)=true:=mh.2 ⟨i,hm,by simp⟩;rw[h.1]at this;cases this
def p9(H:List au):Nat->Nat->List Nat->List cH->Bool
 |_,0,_,_=>true
 |i,m+1,id::ay,o::os=>aH id i&&((aH (vT H i) 0 || !aH o.up 0)&&p9 H (i+1) m ay os)
 |_,_,_,_=>false
def Cp{H:List au}:∀{i m:Nat} {ay:List Nat} {os:List cH},p9 H i m ay os=true->∀ j,j<m->ay[j]? = some (i+j)/\∃ o,os[j]? = some o/\(vT H (i+j)=0\/o.up≠0)
 |_,0,_,_,_,j,d=>by omega
 | i,m+1,id::ay,o::os,h,j,d=>by
  simp only[p9,aE,Bool.or_eq_true,qK]at h;obtain⟨b,a,g⟩:=h;have b:=bA b;subst b;cases j with
  | zero =>
   refine⟨rfl,o,rfl,?_⟩;rcases a with a|a
   ·exact .inl (bA a)
   ·right
    intro e;rw[e]at a;cases a
  | succ j =>
   have:=Cp g j (by omega);rw[show id+1+j=id+(j+1) from by omega]at this;simpa using this
 |_,_+1,[],_,h,_,_=>by simp[p9]at h
 |_,_+1,_::_,[],h,_,_=>by simp[p9]at h
def Nw{E:ae}{H:List au}(hH:E.H=ax H){ay:List Nat}{os:List cH}{m:Nat}{lens:eu}{E0:ae}(y:jZ H (cz H ay) (j6 ay) lens E E0)(N:E0.X.x=E.X.x/\E0.X.z=E.X.z)
  (W:∀ l h,h<(E.X.r l).length->h<(E0.X.r l).length/\∀ q,(E0.X.r l)[h]? = some (some q)->(E.X.r l)[h]? = some (some q))
  (Y:p9 H 0 m ay os=true) (U:∀ j,j<m->∃ o sh,H[(cz H ay).at j]? = some o/\os[j]? = some sh/\lens.al j=sh.up) (V:∀ b,E0.bN b->E.bN b):E.eZ m E0:=by
 have key:∀ id,id<m->(cz H ay).at id=id/\∃ o sh,H[id]? = some o/\os[id]? = some sh/\lens.al id=sh.up/\(vS o=0\/sh.up≠0)/\Cn E0 lens id o/\id<ay.length:=by
  intro id d;obtain⟨A,o',J,B⟩:=Cp Y id d;rw[eo]at A B;have I:=aX A;have g:=jo (e:=cz H ay) (j:=id) I;rw[show (cz H ay).ay=ay from rfl,A]at g;have g:=(iA g).symm;obtain⟨o,sh,a,k,F⟩:=U id d;obtain⟨r1,r2⟩:=y.obj id o a;rw[g]at a;rw[J]at k;have k:=iA k;rw[<-k]at F;refine⟨g,o,o',a,J,F,?_,r2,I⟩;rcases B with B|B
  ·left
   simpa[vT,a]using B
  ·exact .inr B
 refine⟨fun id d hp=>?_,by rw[y.dw.w]; exact aY _,fun b _ _=>by rw[y.dw.w],fun b _ hb ho=>hb (V b ho),fun id d hp hl=>?_,fun b _=>by rw[N.1,N.2]; exact⟨Iff.rfl,Iff.rfl⟩,W,by rw[y.dw.w]; exact⟨rfl,rfl,rfl,by first|exact fun _=>aY _|exact fun _=>Nat.le_add_right _ _⟩,fun id d l o A J _=>?_⟩
 rotate_right
 ·obtain ⟨g, o1, sh, a, k, F, M, t, I⟩ := key id d
  obtain⟨o0,r1,r2⟩:=t.obj;rw[hH,bx a]at A;cases A;have hm:=t.mm o0 r1;rw[J]at hm;exact⟨⟨[],by rw[fe]; exact y.dw.k8 id o0 l r1 (ah.nz hm)⟩,o0,r1,hm⟩
 ·obtain ⟨_, o, sh, a, k, F, M, t, _⟩ := key id d
  obtain⟨o0,r1,r2⟩:=t.obj;exact⟨o0,r1,ah.Fq r2,fun v _=>fO v⟩
 ·obtain ⟨g, o, sh, a, k, F, M, t, I⟩ := key id d
  obtain⟨o0,r1,r2⟩:=t.obj;obtain⟨o1,r3,r4⟩:=hl;rw[r1]at r3;cases r3;rw[r2]at r4;have O:lens.al id=0:=iA r4;rw[F]at O;have hv:vS o=0:=M.resolve_right (fun h=>h O);refine⟨⟨o.aw,by rw[hH]; exact bx a,by rw[t.al,hv]⟩,?_⟩;have:=y.dw.ad id I;rw[g]at this;exact this
structure nU where
 n:Nat
 yP:List (Nat × Sh)
 bU:List cH
def vU:Nat->List (Nat × Sh)->List AV->AV
 | i,(j,_)::a,v::b=>match aH i j with
  |true=>v
  |false=>vU i a b
 |_,_,_=>.undef
def cW(S:nU)(d:LG):aI :=
 ⟨(jc S.n).map fun i=>vU i S.yP (cO (cV S.bU d) (S.yP.map (·.2)) (dv (oK S.bU) d)),c_ (cV S.bU d) S.bU d⟩
def Hy(m:Nat)(S:nU)(ay:List Nat)(s:aI):Option (Bool × LG) :=
 match aH s.fr.length S.n&&(nodupB ay&&p9 s.H 0 m ay S.bU)with
 |false=>none
 | true=>match lb s.H (cz s.H ay) (j6 ay) S.bU ay,fG s.H (cz s.H ay) (j6 ay) (S.yP.map (·.2)) (S.yP.map fun p=>s.fr.getD p.1 .undef) with
  |some (b,g),some (a,d)=>some (b&&a,g++d)
  |_,_=>none
def Nx{E:ae}:∀{a:List (Nat × Sh)} {b:List AV} {cs:List ak} {i:Nat} {c:ak},(∀(k:Nat) (p:Nat × Sh) (v:AV),a[k]? = some p->b[k]? = some v->∀ c,cs[p.1]? = some c->ab E v c)->cs[i]? = some c ->
  ab E (vU i a b) c
 | [],_,_,_,_,_,_=>by simp[vU,ab]
 |_::_,[],_,_,_,_,_=>by simp[vU,ab]
 | (j,sh)::a,v::b,cs,i,c,h,d=>by
  simp only[vU];split
  ·rename_i e
   have e:=bA e;subst e;exact h 0 (i,sh) v rfl rfl c d
  ·exact Nx (fun k p v g q=>h (k+1) p v (by simpa using g) (by simpa using q)) d
def W9{m:Nat}{S:nU}{ay:List Nat}{s:aI}{d:LG}(h:Hy m S ay s=some (true,d)):bD m s.aw (cW S d).aw:=fun E a w=>by
 unfold Hy at h;split at h
 ·cases h
 rename_i q;simp only[aE]at q;obtain⟨B,y,F⟩:=q;have B:=bA B;have y:=yO y;split at h
 case h_2=>cases h
 rename_i b g b' t M N;simp only[a_,bk,aE]at h;obtain⟨⟨rfl,rfl⟩,rfl⟩:=h;have hH:E.H=ax s.H:=w.H;obtain⟨A,U⟩:=Nv hH w.heap y M t;obtain⟨p0,p1,p2,p3⟩:=yN M t (cV S.bU (g++t));have hd:dv (oK S.bU) (g++t)=t:=by rw[<-p0]; exact rA g t
 have O:=yM A N [];rw[fe]at O;obtain⟨q1,q2,q3,q4⟩:=O;refine⟨ay.map fun i=>E.ad.getD i none,E.X.re (pZ E (cW S (g++t)).aw.H),⟨rfl,?_,w.defers,U⟩,?_⟩
 ·have V : ar E s.fr a.tmps.toList := w.fr
  obtain⟨f1,f2⟩:=sI.1 V;refine sI.2 ⟨?_,fun i x c hi q=>?_⟩
  ·simp only [aI.aw, cW, fJ, List.length_range]
   omega
  ·simp only [aI.aw, cW, hd, cX] at hi
   obtain⟨i',z,rfl⟩:=eG.1 hi;have W:i<S.n:=by
    have:=aX z;simpa using this
   rw[List.getElem?_range W]at z;cases z;refine Nx (cs:=a.tmps.toList) (fun k p v hk hv c q=>?_) q;have Y:(S.yP.map fun p=>s.fr.getD p.1 .undef)[k]? = some (s.fr.getD p.1 .undef):=by simp[hk]
   have hx:ab E (s.fr.getD p.1 .undef) c:=by
    have I:=aX q;rw[<-f1]at I;have e1:s.fr[p.1]? = some (s.fr.getD p.1 .undef):=by
     rw[eh,cn I];rfl
    exact f2 p.1 _ c e1 q
   exact Np A N Y (by rw[fe]; exact hv) hx
 ·exact Nw hH A ⟨rfl,rfl⟩ (Ns E _ ay) F (fun j hj=>by
   obtain⟨r1,o',r2,_⟩:=Cp F j hj;obtain⟨i,o,g1,rest1,t1,t2,t3,t4,t5,t6⟩:=p3 j o' r2;have J:=jo (e:=cz s.H ay) (j:=j) (aX t1);rw[show (cz s.H ay).ay=ay from rfl,t1]at J;cases J;exact⟨o,o',t2,r2,t5⟩) (fun b=>Nt)
def Hz(aO:Nat)(s:aI):aI :=
 match s.fr.getD aO .undef with
 | .vQ w id al oF n=>match s.H[id]? with
  |some (.vQ ks v rZ)=>if al=v/\oF=0/\w=ks.length then ⟨s.fr.set aO (.vQ w id (v+1) 0 n),s.H.set id (.vQ ks (v+1) (rZ.take n))⟩ else s
  |_=>s
 |_=>s
def Cq{E:ae}{a:AV}:∀{fr:List AV} {b:List ak} {i:Nat},ar E fr b->(∀ c,b[i]? = some c->ab E a c)->ar E (fr.set i a) b
 | [],b,i,h,_=>by simpa using h
 |x::fr,[],i,h,_=>by simp[ar]at h
 | x::fr,c::b,0,h,d=>by
  simp only[ar]at h;simp only[List.set_cons_zero,ar];exact⟨d c rfl,h.2⟩
 | x::fr,c::b,i+1,h,d=>by
  simp only[ar]at h;simp only[List.set_cons_succ,ar];exact⟨h.1,Cq h.2 fun y g=>d y (by simpa using g)⟩
def HA{E:ae}{fr:List AV}{b:List ak}{i:Nat}{c:ak}(h:ar E fr b)(d:b[i]? = some c):ab E (fr.getD i .undef) c:=by
 obtain⟨g,k⟩:=sI.1 h;have a:=aX d;rw[<-g]at a;have q:fr[i]? = some (fr.getD i .undef):=by
  rw[eh,cn a];rfl
 exact k i _ c q d
def W_{m:Nat}{aO:Nat}{s:aI}:bD m s.aw (Hz aO s).aw:=by
 unfold Hz;split
 case h_2=>exact bD.refl _
 rename_i w id al oF n Y;split
 case h_2=>exact bD.refl _
 rename_i ks v rZ hid;split
 case isFalse=>exact bD.refl _
 rename_i A;obtain⟨rfl,rfl,rfl⟩:=A;intro E a k;have hH:E.H=ax s.H:=k.H;have y:E.H[id]? = some (.vQ ks.length al (rZ.map (a8 ks))):=by rw[hH]; exact bx hid
 have V:=k.heap.obj id _ y;obtain⟨l,B⟩:∃ l,E.ad[id]? = some l:=by
  have:id<E.ad.length:=by rw[k.heap.len]; exact aX y
  exact⟨_,cn this⟩
 have M:E.ad.set id l=E.ad:=pL B;have J:ax (s.H.set id (.vQ ks (al+1) (rZ.take n)))=E.H.set id (.vQ ks.length (al+1) ((rZ.take n).map (a8 ks))):=by rw[cP,hH]; rfl
 have hlc:∀ b n,l=some (b,n)->E.w.heap.size<=b\/∃ m,E.ad[id]? = some (some (b,m)):=fun b n F=>.inr ⟨n,by rw[B,F]⟩;have N:∀ v u,(ah.vQ ks.length (al+1) ((rZ.take n).map (a8 ks))).aU = some v->(ah.vQ ks.length al (rZ.map (a8 ks))).aU = some u->u<=v:=by
  intro v u d q;simp[ah.aU]at d q;omega
 have O:∀ v,(ah.vQ ks.length (al+1) ((rZ.take n).map (a8 ks))).aU = some v->∀ u,(ah.vQ ks.length al (rZ.map (a8 ks))).aU = some u->u<v:=by
  intro v d u q;simp[ah.aU]at d q;omega
 have z:=ae.lG (o':=.vQ ks.length (al+1) ((rZ.take n).map (a8 ks))) (l:=l) (w':=E.w) y k.heap.len (aY _) (fun _ _ _=>rfl) hlc (.inr O) N (fun _ h=>by simp[ah.aU]at h);have U:=aG.nA (o':=.vQ ks.length (al+1) ((rZ.take n).map (a8 ks))) (l:=l) (w':=E.w) k.heap y (aY _) (fun _ _ _=>rfl) (fun b n F=>.inr ⟨n,by rw[B,F]⟩) (.inr O) N (fun _ h=>by simp[ah.aU]at h) (by
  rw[M]at z|-;simp only[aV]at V|-;rcases V with⟨d,q⟩|⟨b,mm,d,q,I,h4,W⟩
  ·left
   refine⟨d,?_⟩;have:rZ=[]:=by simpa using q
   rw[this];simp
  ·right
   refine⟨b,mm,d,q,by simp at I|-; omega,?_,?_⟩
   ·intro r t
    obtain⟨g,_,rfl⟩:=gG.1 t;exact gI ks g
   ·rw [ox] at W |-
    intro i r hi;simp only[cX,om]at hi;split at hi
    ·obtain ⟨g1, g2⟩ := W i r (by simpa using hi)
     exact⟨g1,Bh (fun a c t=>bG z a t) rfl g2⟩
    ·simp at hi)
 rw[M]at z U;refine⟨E.ad,E.X,?_,?_⟩
 ·simp only [aI.aw]
  rw[J];refine⟨rfl,?_,k.defers,U⟩;refine Cq (dX z _ k.fr) fun c A=>?_;have t:=HA k.fr A;rw[show s.aw.fr=s.fr from rfl,Y]at t;simp only[ab]at t|-;obtain⟨d,q,I⟩:=t;exact⟨d,⟨.vQ ks.length (al+1) ((rZ.take n).map (a8 ks)),bK (aX y),rfl,fun v hv=>by simp[ah.aU]at hv; omega⟩,fun _=>I ⟨_,y,rfl⟩⟩
 ·simp only [aI.aw]
  rw[J];exact z.toM
end Go.AL

namespace Go.AL
open Go
variable [Dr]
def bh.leaf{β:Type}(f:cJ->aI->Option (Bool × β)):bh->Option β
 |.fail=>none
 | .done x s=>match f x s with
  |some (b,r)=>bif b then some r else none
  |none=>none
 |.ask b t e=>bif b then t.leaf f else e.leaf f
 |.side b t=>bif b then t.leaf f else none
def rB{β:Type}{f:cJ->aI->Option (Bool × β)}:∀{t:bh} {r:β},t.leaf f=some r->t.holds fun x s=>f x s=some (true,r)
 |.fail,_,h=>by cases h
 | .done x s,r,h=>by
  simp only[bh.leaf]at h;split at h
  ·rename_i b d a
   cases b with
   |true=>cases h; exact a
   |false=>cases h
  ·cases h
 | .ask b t e,r,h=>by
  cases b with
  |true=>exact⟨fun _=>rB (t:=t) h,fun h=>by cases h⟩
  |false=>exact⟨fun h=>(nomatch h),fun _=>rB (t:=e) h⟩
 | .side b t,r,h=>by
  cases b with
  |true=>exact And.intro rfl (rB (t:=t) h)
  |false=>cases h
inductive j7 where
 |fix (i:Nat)
 |aO (i:Nat)
 |cap (i c:Nat)
 |cell (j c:Nat)
 |HB (j c k:Nat)
def Cr:AV->Option Nat
 |.ptr id _ _ _ _=>some id
 |.vQ _ id _ _ _=>some id
 |.map id=>some id
 |_=>none
def Cs(H:List au)(b:Nat->AV)(acc:List Nat):j7->Option Nat
 |.fix i=>some i
 |.aO i=>Cr (b i)
 | .cap i c=>match b i with
  |.clo _ a=>Cr (a.getD c .undef)
  |_=>none
 | .cell j c=>match H[acc.getD j 0]? with
  |some (.raw (.box cells))=>Cr (cells.getD c .undef)
  |_=>none
 | .HB j c k=>match H[acc.getD j 0]? with
  | some (.raw (.box cells))=>match cells.getD c .undef with
   |.clo _ a=>Cr (a.getD k .undef)
   |_=>none
  |_=>none
def ld(H:List au)(a:Nat->AV):List j7->List Nat->Option (List Nat)
 | [],acc=>some acc
 | p::ps,acc=>match Cs H a acc p with
  |some i=>ld H a ps (acc++[i])
  |none=>none
structure vV where
 x:cJ
 S:nU
 ps:List j7
structure bS where
 key:Nat
 opens:List (Nat × List Kd)
 inv:nU
 ps:List j7
 outs:List vV
 st:LG->Option (Option Nat × LG)
def tF(st:LG->Option (Option Nat × LG)):Nat->LG->Option (Nat × LG)
 |0,_=>none
 | n+1,d=>match st d with
  |some (none,a)=>tF st n a
  |some (some x,a)=>some (x,a)
  |none=>none
def cd(st:LG->Option (Option Nat × LG))(d:LG):Option (Nat × LG):=tF st 1000000 d
def HC(r:Option (Nat × LG)):Nat:=match r with
 |some (x,_)=>x
 |none=>0
def HD(r:Option (Nat × LG)):LG:=match r with
 |some (_,d)=>d
 |none=>[]
def oL(m:Nat)(S:nU)(ps:List j7)(s:aI):Option (Bool × LG) :=
 match ld s.H (fun i=>s.fr.getD i .undef) ps []with
 |some ay=>Hy m S ay s
 |none=>none
def p_{m:Nat}{S:nU}{ps:List j7}{s:aI}{d:LG}(h:oL m S ps s=some (true,d)):bD m s.aw (cW S d).aw:=by
 unfold oL at h;split at h
 ·exact W9 h
 ·cases h
def mG:List (Nat × List Kd)->aI->aI
 | [],s=>s
 | (i,ks)::r,s=>match bf 1000000 i with
  |true=>mG r (Hz (i-1000000) s)
  | false=>match isNil (s.fr.getD i .undef) with
   |true=>mG r (yF i ks s)
   |false=>mG r s
def qa{m:Nat}:∀(l:List (Nat × List Kd)) (s:aI),bD m s.aw (mG l s).aw
 | [],s=>bD.refl _
 | (i,ks)::r,s=>by
  simp only[mG];split
  ·exact W_.trans (qa r _)
  ·split
   ·rename_i h
    exact(M5 h).trans (qa r _)
   ·exact qa r s
def tG(m:Nat):List vV->Nat->cJ->aI->Option (Bool × (Option Nat × LG))
 | [],_,_,_=>none
 | o::os,i,x,s=>match decide (x=o.x) with
  | true=>match oL m o.S o.ps s with
   |some (b,d)=>some (b,(some i,d))
   |none=>none
  |false=>tG m os (i+1) x s
def Cu(m:Nat)(sp:bS)(x:cJ)(s:aI):Option (Bool × (Option Nat × LG)) :=
 match x with
 | .normal=>match oL m sp.inv sp.ps s with
  |some (b,d)=>some (b,(none,d))
  |none=>none
 |x=>tG m sp.outs 0 x (mG sp.opens s)
def Cv{m:Nat}:∀{os:List vV} {i:Nat} {x:cJ} {s:aI} {b:Bool} {k:Option Nat} {d:LG},tG m os i x s=some (b,(k,d)) ->
  ∃ j o,os[j]? = some o/\k=some (i+j)/\x=o.x/\oL m o.S o.ps s=some (b,d)
 | [],_,_,_,_,_,_,h=>by cases h
 | o::os,i,x,s,b,k,d,h=>by
  simp only[tG]at h;split at h
  ·rename_i a
   split at h
   ·rename_i y z g
    cases h;exact⟨0,o,rfl,rfl,of_decide_eq_true a,g⟩
   ·cases h
  ·obtain ⟨j, o', q, t, v, w⟩ := Cv h
   exact⟨j+1,o',by simpa using q,by rw[t]; congr 1; omega,v,w⟩
section loops
variable {P:ai} {τ:aJ} {L:LT} {m:Nat} {c:Code} {sp:bS}
def vW(P:ai)(τ:aJ)(L:LT)(m:Nat)(c:Code)(sp:bS):Prop:=∀ d,(fD P τ L c (cW sp.inv d) .done).leaf (Cu m sp)=sp.st d
theorem Ny(hm:P.follows .mixedOrders=true)(t:aL P τ)(v:ba P m L c)(w:vW P τ L m c sp){d g:LG}{k:Option Nat}(h:sp.st d=some (k,g)) :
  (k = none /\ dC P m c (cW sp.inv d).aw .normal (cW sp.inv g).aw) \/
   ∃ j o,k=some j/\sp.outs[j]? = some o/\o.x≠.normal/\dC P m c (cW sp.inv d).aw o.x (cW o.S g).aw:=by
 rw[<-w d]at h;obtain⟨x,s1,q,a⟩:=kZ hm t c (cW sp.inv d) .done v (Q:=fun x s=>Cu m sp x s=some (true,(k,g))) (rB h);have a:Cu m sp x s1=some (true,(k,g)):=a;unfold Cu at a;split at a
 ·split at a
  ·rename_i b I y
   cases a;exact .inl ⟨rfl,xX q (p_ y)⟩
  ·cases a
 ·rename_i z
  obtain⟨j,o,A,B,rfl,F⟩:=Cv a;exact .inr ⟨j,o,by simpa using B,A,fun e=>z e,xX q ((qa sp.opens s1).trans (p_ F))⟩
theorem Nz(hm:P.follows .mixedOrders=true)(b:aL P τ)(g:ba P m L c)(k:vW P τ L m c sp):∀(n:Nat) {d q:LG} {x:Nat},tF sp.st n d=some (x,q) ->
  ∃ o,sp.outs[x]? = some o/\mw P m c (cW sp.inv d).aw o.x (cW o.S q).aw
 |0,_,_,_,h=>by cases h
 | n+1,d,q,x,h=>by
  simp only[tF]at h;split at h
  ·rename_i y t
   rcases Ny hm b g k t with⟨_,z⟩|⟨_,_,a,_⟩
   ·obtain ⟨o, v, w⟩ := Nz hm b g k n h
    exact⟨o,v,.next z w⟩
   ·cases a
  ·rename_i B y t
   cases h;rcases Ny hm b g k t with⟨a,_⟩|⟨j,o,a,v,w,A⟩
   ·cases a
   ·cases a
    exact⟨o,v,.stop A w⟩
  ·cases h
def yQ(r:Option (Nat × LG)):List vV->Nat->bh
 | [],_=>.fail
 | [o],_=>.done o.x (cW o.S (HD r))
 |o::os,i=>.ask (aH (HC r) i) (.done o.x (cW o.S (HD r))) (yQ r os (i+1))
theorem Cw{x:Nat}{d:LG}{Q:cJ->aI->Prop}:∀{os:List vV} {i j:Nat} {o:vV},os[j]? = some o->x=i+j->(yQ (some (x,d)) os i).holds Q->Q o.x (cW o.S d)
 | [],_,_,_,h,_,_=>by simp at h
 | [o],i,j,o',h,b,a=>by
  cases j with
  | zero =>
   simp at h;subst h;exact a
  |succ j=>simp at h
 | o::o2::os,i,j,o',h,b,a=>by
  simp only[yQ,bh.holds]at a;cases j with
  | zero =>
   simp at h;subst h;exact a.1 (by simp only[HC]; rw[b]; simp)
  | succ j =>
   refine Cw (os:=o2::os) (i:=i+1) (j:=j) (by simpa using h) (by omega) (a.2 ?_);have:x≠i:=by omega
   exact nv.2 fun e=>this (bA e)
def HF(m:Nat)(sp:bS)(s:aI):Option bh :=
 match oL m sp.inv sp.ps (mG sp.opens s)with
 |some (b,d)=>some (.side (tC b (cd sp.st d).isSome) (yQ (cd sp.st d) sp.outs 0))
 |none=>none
theorem Xa(hm:P.follows .mixedOrders=true)(v:aL P τ)(w:ba P m L c)(y:vW P τ L m c sp){s:aI}{t:bh}(h:HF m sp s=some t):MJ P m c s t:=by
 unfold HF at h;split at h
 case h_2=>cases h
 rename_i b d z;cases h;intro Q g;simp only[bh.holds,tD,aE]at g;obtain⟨⟨rfl,k⟩,q⟩:=g;cases a:cd sp.st d with
 |none=>rw[a]at k; cases k
 | some r =>
  obtain⟨x,F⟩:=r;obtain⟨o,A,B⟩:=Nz hm v w y 1000000 a;exact⟨o.x,_,B.pre ((qa sp.opens s).trans (p_ z)),Cw A (eo x).symm (by rw[a]at q; exact q)⟩
def LT.add(L:LT)(m:Nat)(sp:bS):LT:=⟨fun k s=>match aH k sp.key with
 |true=>HF m sp s
 |false=>L.loops k s,L.pre,L.yB⟩
theorem rC:∀{c:Code} {k:Nat} {g:Code},(k,g)∈cC c->∀ p,p∈cC g->p∈cC c
 | .seq a b,k,g,h,p,d=>by
  simp only[cC,cN]at h|-;rcases h with h|h
  ·exact .inl (rC h p d)
  ·exact .inr (rC h p d)
 | .cond _ a b,k,g,h,p,d=>by
  simp only[cC,cN]at h|-;rcases h with h|h
  ·exact .inl (rC h p d)
  ·exact .inr (rC h p d)
 | .block _ c,k,g,h,p,d=>by
  simp only[cC]at h|-;exact rC h p d
 | .loop c,k,g,h,p,d=>by
  simp only[cC]at h|-;split at h
  ·rename_i i hi
   rcases cf.1 h with e|h
   ·cases e
    exact c8 _ d
   ·exact c8 _ (rC h p d)
  ·exact rC h p d
 |.skip,_,_,h,_,_=>by simp[cC]at h
 |.region ..,_,_,h,_,_=>by simp[cC]at h
 |.exit _,_,_,h,_,_=>by simp[cC]at h
 |.ret,_,_,h,_,_=>by simp[cC]at h
 |.rangeFunc ..,_,_,h,_,_=>by simp[cC]at h
 |.scope _,_,_,h,_,_=>by simp[cC]at h
 |.label _,_,_,h,_,_=>by simp[cC]at h
 |.goto _,_,_,h,_,_=>by simp[cC]at h
 |.refuse _,_,_,h,_,_=>by simp[cC]at h
theorem rD:∀{c:Code} {k:Nat} {g:Code},(k,g)∈cC c->∀ p,p∈cB g->p∈cB c
 | .seq a b,k,g,h,p,d=>by
  simp only[cC,cB,cN]at h|-;rcases h with h|h
  ·exact .inl (rD h p d)
  ·exact .inr (.inr (rD h p d))
 | .cond _ a b,k,g,h,p,d=>by
  simp only[cC,cB,cN]at h|-;rcases h with h|h
  ·exact .inl (rD h p d)
  ·exact .inr (rD h p d)
 | .block _ c,k,g,h,p,d=>by
  simp only[cC,cB]at h|-;exact rD h p d
 | .loop c,k,g,h,p,d=>by
  simp only[cC,cB]at h|-;split at h
  ·rename_i i hi
   rcases cf.1 h with e|h
   ·cases e
    exact d
   ·exact rD h p d
  ·exact rD h p d
 |.skip,_,_,h,_,_=>by simp[cC]at h
 |.region ..,_,_,h,_,_=>by simp[cC]at h
 |.exit _,_,_,h,_,_=>by simp[cC]at h
 |.ret,_,_,h,_,_=>by simp[cC]at h
 |.rangeFunc ..,_,_,h,_,_=>by simp[cC]at h
 |.scope _,_,_,h,_,_=>by simp[cC]at h
 |.label _,_,_,h,_,_=>by simp[cC]at h
 |.goto _,_,_,h,_,_=>by simp[cC]at h
 |.refuse _,_,_,h,_,_=>by simp[cC]at h
theorem rE:∀{c:Code} {k:Nat} {g:Code},(k,g)∈cB c->∀ p,p∈cC g->p∈cC c
 | .seq a b,k,g,h,p,d=>by
  simp only[cC,cB,cN]at h|-;rcases h with h|h|h
  ·exact .inl (rE h p d)
  ·right
   split at h
   ·rcases cf.1 h with e | h
    ·cases e
     exact d
    ·cases h
   ·cases h
  ·exact .inr (rE h p d)
 | .cond _ a b,k,g,h,p,d=>by
  simp only[cC,cB,cN]at h|-;rcases h with h|h
  ·exact .inl (rE h p d)
  ·exact .inr (rE h p d)
 | .block _ c,k,g,h,p,d=>by
  simp only[cC,cB]at h|-;exact rE h p d
 | .loop c,k,g,h,p,d=>by
  simp only[cB]at h;have:=rE h p d;simp only[cC];split
  ·exact c8 _ this
  ·exact this
 |.skip,_,_,h,_,_=>by simp[cB]at h
 |.region ..,_,_,h,_,_=>by simp[cB]at h
 |.exit _,_,_,h,_,_=>by simp[cB]at h
 |.ret,_,_,h,_,_=>by simp[cB]at h
 |.rangeFunc ..,_,_,h,_,_=>by simp[cB]at h
 |.scope _,_,_,h,_,_=>by simp[cB]at h
 |.label _,_,_,h,_,_=>by simp[cB]at h
 |.goto _,_,_,h,_,_=>by simp[cB]at h
 |.refuse _,_,_,h,_,_=>by simp[cB]at h
theorem rF:∀{c:Code} {k:Nat} {g:Code},(k,g)∈cB c->∀ p,p∈cB g->p∈cB c
 | .seq a b,k,g,h,p,d=>by
  simp only[cB,cN]at h|-;rcases h with h|h|h
  ·exact .inl (rF h p d)
  ·right
   right;split at h
   ·rcases cf.1 h with e | h
    ·cases e
     exact d
    ·cases h
   ·cases h
  ·exact .inr (.inr (rF h p d))
 | .cond _ a b,k,g,h,p,d=>by
  simp only[cB,cN]at h|-;rcases h with h|h
  ·exact .inl (rF h p d)
  ·exact .inr (rF h p d)
 | .block _ c,k,g,h,p,d=>by
  simp only[cB]at h|-;exact rF h p d
 | .loop c,k,g,h,p,d=>by
  simp only[cB]at h|-;exact rF h p d
 |.skip,_,_,h,_,_=>by simp[cB]at h
 |.region ..,_,_,h,_,_=>by simp[cB]at h
 |.exit _,_,_,h,_,_=>by simp[cB]at h
 |.ret,_,_,h,_,_=>by simp[cB]at h
 |.rangeFunc ..,_,_,h,_,_=>by simp[cB]at h
 |.scope _,_,_,h,_,_=>by simp[cB]at h
 |.label _,_,_,h,_,_=>by simp[cB]at h
 |.goto _,_,_,h,_,_=>by simp[cB]at h
 |.refuse _,_,_,h,_,_=>by simp[cB]at h
def bp(fn:Func):Code:=match fn.body with
 |some c=>c
 |none=>.skip
theorem Xb{fn:Func} (b:nodupB ((cC (bp fn)).map (·.1))=true) {k:Nat} {a:Code} (h:(k,a)∈cC (bp fn)):a=yG fn k:=by
 have key:∀(l:List (Nat × Code)),(l.map (·.1)).Nodup->(k,a)∈l->l.find? (fun p=>aH p.1 k)=some (k,a):=by
  intro l
  induction l with
  |nil=>intro _ h; cases h
  | cons p l t =>
   intro d hm;simp only[eM,uF]at d;rcases cf.1 hm with rfl|hm
   ·simp
   ·have q:p.1≠k:=by
     intro e;exact d.1 (gG.2 ⟨(k,a),hm,e.symm⟩)
    have:aH p.1 k=false:=nv.2 fun e=>q (bA e);rw[aj6 (by simp[this])];exact t d.2 hm
 unfold yG;unfold bp at b h;split
 ·rename_i c g
  rw[g]at b h;simp only[]at b h;rw[key _ (yO b) h]
 ·rename_i g
  rw[g]at h;simp[cC]at h
theorem ba.add(hm:P.follows .mixedOrders=true)(h:aL P τ){fn:Func} (q:nodupB ((cC (bp fn)).map (·.1))=true) (d:ba P m L (bp fn)) (g:vW P τ L m (yG fn sp.key) sp) :
  ba P m (L.add m sp) (bp fn):=by
 refine⟨fun k v b s t a=>?_,d.2⟩;simp only[LT.add]at a;split at a
 ·rename_i e
  have e:=bA e;subst e;have w:=Xb q b;rw[<-w]at g;exact Xa hm h (d.sub (rC b) (rD b)) g a
 ·exact d.1 k v b s t a
def ij(fn:Func)(k:Nat):Code:=match fn.body with
 | some c=>match (cB c).find? fun p=>aH p.1 k with
  |some (_,b)=>b
  |none=>.skip
 |none=>.skip
def qb(k:Nat):List (Nat × Code)->Bool
 | []=>true
 | p::l=>match aH p.1 k with
  |true => !l.any (fun q=>aH q.1 k)
  |false=>qb k l
theorem NA{k:Nat}{d:Code}:∀{l:List (Nat × Code)},qb k l=true->(k,d)∈l->l.find? (fun p=>aH p.1 k)=some (k,d)
 | [],_,h=>by cases h
 | p::l,a,hm=>by
  simp only[qb]at a;cases b:aH p.1 k with
  | true =>
   rw[b]at a;simp only[qK]at a;rcases cf.1 hm with rfl|hm
   ·rw[List.find?_cons_of_pos (by simp)]
   ·have : l.any (fun q => aH q.1 k) = true := mh.2 ⟨(k, d), hm, by simp⟩
    rw[this]at a;cases a
  | false =>
   rw[b]at a;rcases cf.1 hm with rfl|hm
   ·simp at b
   ·rw [aj6 (by simp [b])]
    exact NA a hm
theorem NB{fn:Func}{k:Nat}{d:Code} (a:qb k (cB (bp fn))=true) (h:(k,d)∈cB (bp fn)):d=ij fn k:=by
 unfold ij;unfold bp at a h;split
 ·rename_i c b
  rw[b]at a h;simp only[]at a h;rw[NA a h]
 ·rename_i b
  rw[b]at h;simp[cB]at h
def rG(r:Option (Option Nat × LG)):Option (Nat × LG):=match r with
 |some (some x,d)=>some (x,d)
 |_=>none
def yR(m:Nat)(sp:bS)(s:aI):Option bh :=
 match oL m sp.inv sp.ps (mG sp.opens s)with
 |some (b,d)=>some (.side (tC b (rG (sp.st d)).isSome) (yQ (rG (sp.st d)) sp.outs 0))
 |none=>none
def tH(P:ai)(τ:aJ)(L:LT)(m:Nat)(c:Code)(sp:bS):Prop:=∀ d,(fD P τ L c (cW sp.inv d) .done).leaf (tG m sp.outs 0)=sp.st d
theorem Cx(hm:P.follows .mixedOrders=true)(A:aL P τ)(B:ba P m L c)(q:tH P τ L m c sp){s:aI}{t:bh}(h:yR m sp s=some t):He P m c s t:=by
 unfold yR at h;split at h
 case h_2=>cases h
 rename_i b d F;cases h;intro Q v;simp only[bh.holds,tD,aE]at v;obtain⟨⟨rfl,g⟩,w⟩:=v;cases a:sp.st d with
 |none=>rw[a]at g; cases g
 | some r =>
  obtain⟨k,y⟩:=r;cases k with
  |none=>rw[a]at g; cases g
  | some i =>
   rw[<-q d]at a;obtain⟨x,s1,I,J⟩:=kZ hm A c (cW sp.inv d) .done B (Q:=fun x s=>tG m sp.outs 0 x s=some (true,(some i,y))) (rB a);obtain⟨j,o,M,z,N,O⟩:=Cv J;simp only[a_,eo]at z;subst z;rw[q d]at a;rw[a]at w;refine⟨o.x,(cW o.S y),?_,Cw M (eo i).symm w⟩;rw[<-N];exact s_ ((qa sp.opens s).trans (p_ F)) (xX I (p_ O))
def LT.mH(L:LT)(m:Nat)(sp:bS):LT:=⟨L.loops,L.pre,fun k s=>match aH k sp.key with
 |true=>yR m sp s
 |false=>L.yB k s⟩
theorem ba.mH(hm:P.follows .mixedOrders=true)(h:aL P τ){fn:Func} (q:qb sp.key (cB (bp fn))=true) (b:ba P m L (bp fn)) (g:tH P τ L m (ij fn sp.key) sp) :
  ba P m (L.mH m sp) (bp fn):=by
 refine⟨b.1,b.2.1,fun k v d s t a=>?_⟩;simp only[LT.mH]at a;split at a
 ·rename_i e
  have e:=bA e;subst e;have w:=NB q d;rw[<-w]at g;exact Cx hm h (b.sub (rE d) (rF d)) g a
 ·exact b.2.2 k v d s t a
end loops
structure aM where
 f:bC
 args:List Sh
 bU:List cH
 ps:List j7
 res:List Sh
 il:List cH
 Xc:List j7
 opens:List (Nat × List Kd)
 F:LG->Option LG
def aM.iJ(sp:aM)(d:LG):List AV:=cO (cV sp.bU d) sp.args (dv (oK sp.bU) d)
def aM.H0(sp:aM)(d:LG):List au:=c_ (cV sp.bU d) sp.bU d
def aM.out(sp:aM)(r:LG):AV:=dp (cO (cV sp.il r) sp.res (dv (oK sp.il) r))
def aM.H1(sp:aM)(r:LG):List au:=c_ (cV sp.il r) sp.il r
def yS(P:ai)(rs:List ResultVar)(sp:aM)(x:cJ)(s:aI):Option (Bool × LG) :=
 match x with
 |.exit _=>none
 | _=>(fun s=>match nK P s.aw rs with
  |none=>none
  | some a=>match ld s.H (fun i=>a.getD i .undef) sp.Xc [] with
   |none=>none
   | some ay=>match nodupB ay&&p9 s.H 0 sp.bU.length ay sp.il with
    |false=>none
    | true=>match lb s.H (cz s.H ay) (j6 ay) sp.il ay,fG s.H (cz s.H ay) (j6 ay) sp.res a with
     |some (b,g),some (d,h)=>some (b&&d,g++h)
     |_,_=>none) (mG sp.opens s)
def tJ(P:ai)(τ:aJ)(L:LT)(fn:Func)(sp:aM):Prop :=
 ∀ d,(fD P τ L (bp fn) ⟨oE (sp.iJ d) fn.ntmps,sp.H0 d⟩ .done).leaf (yS P fn.results.toList sp)=sp.F d
def nV(os:List cH):Bool:=os.all fun o=>aH o.up 0
def NC:∀{os:List cH} (lens:eu) (d:LG),nV os=true->BP (ax (c_ lens os d))
 | [],_,_,_=>by intro o b; simp[c_,ax]at b
 | o::os,lens,d,h=>by
  simp only[nV,jA,aE]at h;intro x a;simp only[c_,ax,eM,cf]at a;rcases a with rfl|a
  ·cases o with
   | vQ ks u =>
    have:u=0:=bA h.1;subst this;rfl
   |box _=>rfl
   |map _ _=>rfl
   |cD _ _ _=>rfl
   |br _ _ _=>rfl
   |mm _ _ _ _=>rfl
   |cM _ _=>rfl
   |bM _ _ _=>rfl
  ·exact NC lens _ h.2 x a
def HG(lens:eu):∀(os:List cH) (d:LG),(c_ lens os d).length=os.length
 | [],_=>rfl
 |_::os,d=>by simp[c_,HG lens os]
def Xd{P:ai}{sp:aM}{fn:Func}(hf:P.funcs[sp.f]? = some fn)(hb:fn.body.isSome=true)
  (hfr:nV sp.bU=true) {d r:LG} {x:cJ} {z:aI} (I:dC P sp.bU.length (bp fn) (aI.aw ⟨oE (sp.iJ d) fn.ntmps,sp.H0 d⟩) x z.aw) (a:yS P fn.results.toList sp x z=some (true,r)) :
  eK P sp.f (sp.iJ d) (ax (sp.H0 d)) (sp.out r) (ax (sp.H1 r)):=by
 have hbody:fn.body=some (bp fn):=by
  unfold bp;cases A:fn.body with
  |none=>rw[A]at hb; cases hb
  |some c=>rfl
 have I:=xX I (qa sp.opens z);generalize hs':mG sp.opens z=s' at I;have hxx:(x=.normal\/x=.ret)/\∃ v ay g k,nK P s'.aw fn.results.toList=some v/\(nodupB ay&&p9 s'.H 0 sp.bU.length ay sp.il)=true /\
   lb s'.H (cz s'.H ay) (j6 ay) sp.il ay=some (true,g)/\fG s'.H (cz s'.H ay) (j6 ay) sp.res v=some (true,k)/\g++k=r:=by
  have a:yS P fn.results.toList sp x z=some (true,r):=a;unfold yS at a;split at a
  ·cases a
  ·rename_i A
   simp only[hs']at a;refine⟨by cases x with|normal=>exact .inl rfl|ret=>exact .inr rfl|exit i=>exact(A i rfl).elim,?_⟩;split at a
   ·cases a
   ·rename_i v U
    split at a
    ·cases a
    ·rename_i ay hids
     split at a
     ·cases a
     ·rename_i t
      split at a
      ·rename_i b g b' k J Y
       simp only[a_,bk,aE]at a;obtain⟨⟨rfl,rfl⟩,rfl⟩:=a;exact⟨v,ay,g,k,U,t,J,Y,rfl⟩
      ·cases a
 obtain⟨A,v,ay,g,k,U,t,J,Y,rfl⟩:=hxx;simp only[aE]at t;intro E B hH HE hargs;refine LV hf hbody ?_;have hfe:=vq HE;have hargs0:=oG hfe _ hargs;have hrel:c9 ⟨oE (sp.iJ d) fn.ntmps,ax (sp.H0 d)⟩ { E with X:=⟨E.X.x,fun _=>False,E.X.r⟩ } { tmps:=B++Array.replicate (fn.ntmps-B.size) undef,defers:=[] }:=by
  refine⟨hH,?_,uU _ _,HE.iI hfe⟩;simp only[oE,Array.toList_append,Array.toList_replicate];refine nD hargs0 ?_;have:=iC hargs;have e:(sp.iJ d).length=B.size:=by simpa using this
  rw[e];have:=BS (E:={ E with X:=⟨E.X.x,fun _=>False,E.X.r⟩ }) (List.replicate (fn.ntmps-B.size) undef);simpa using this
 refine wpIn_mono (I none (LO _) { E with X:=⟨E.X.x,fun _=>False,E.X.r⟩ } _ hrel) fun e a1 w0 ⟨h3,loc',X',y,M⟩=>?_;refine⟨by subst h3; rcases A with rfl|rfl; exact .inl rfl; exact .inr rfl,X',y.defers,fun N k1 k2 k3=>?_⟩;obtain⟨y,M⟩:=LW HE y M k1 k2 k3;obtain⟨O,g1,g2⟩:=Gu y fn.results.toList v U;have hres:(results fn a1.tmps).run P N=.ok (if h:O.toArray.size=1 then O.toArray[0] else .tuple O.toArray) N:=by
  rw[Gv];simp only[Sem.run_bind];rw[Array.mapM_eq_mapM_toList,Sem.run_map,g1];rfl
 generalize F:({ w:=N,H:=s'.aw.H,ad:=loc',X:=E.X.re X'.r }:ae)=q at y M g1 g2;have hH1:q.H=ax s'.H:=by rw[<-F]; rfl
 obtain⟨hK,hHR⟩:=Nv hH1 y.heap (yO t.1) J k;obtain⟨p0,p1,p2,p3⟩:=yN J k (cV sp.il (g++k));have hd:dv (oK sp.il) (g++k)=k:=by rw[<-p0]; exact rA g k
 have hS:=yM hK Y [];rw[fe]at hS;have hrl:=hS.2.2.2 O g2;have hleM:=Nw (m:=sp.bU.length) hH1 hK ⟨rfl,rfl⟩ (Ns q _ ay) t.2 (fun j hj=>by
  obtain⟨r1,o',r2,_⟩:=Cp t.2 j hj;obtain⟨i,o,g1,rest1,t1,t2,t3,t4,t5,t6⟩:=p3 j o' r2;have hat:=jo (e:=cz s'.H ay) (j:=j) (aX t1);rw[show (cz s'.H ay).ay=ay from rfl,t1]at hat;cases hat;exact⟨o,o',t2,r2,t5⟩) (fun b=>Nt)
 have hle:E.le (j5 q (ax (c_ (cV sp.il (g++k)) sp.il (g++k))) ay) :=
  (M.trans hleM).full (by rw[<-F]; exact⟨rfl,rfl⟩) (by rw[hH,fj]; simp only[aM.H0,HG]; exact aY _) (by rw[hH]; exact NC _ _ hfr)
 have V:q.w=N:=by rw[<-F]
 have W:∀ r,q.X.re r=E.X.re r:=fun r=>by rw[<-F]; rfl
 refine⟨_,hres,_,_,_,rfl,⟨rfl,rfl⟩,ay.map (fun i=>q.ad.getD i none),pZ q (ax (c_ (cV sp.il (g++k)) sp.il (g++k))),?_,?_,?_⟩
 ·have := WV hrl
  simp only[aM.out,aM.H1,hd];simpa only[j5,V,W]using this
 ·simpa only[j5,V,W,aM.H1]using hHR
 ·simpa only[j5,V,W,aM.H1]using hle
def Xe{P:ai}{τ:aJ}{L:LT}(hm:P.follows .mixedOrders=true)(b:aL P τ){sp:aM}{fn:Func}(g:P.funcs[sp.f]? = some fn)(k:fn.body.isSome=true)
  (q:ba P sp.bU.length L (bp fn)) (t:tJ P τ L fn sp) (a:nV sp.bU=true) {d r:LG} (h:sp.F d=some r) :
  eK P sp.f (sp.iJ d) (ax (sp.H0 d)) (sp.out r) (ax (sp.H1 r)):=by
 rw[<-t d]at h;obtain⟨x,y,v,w⟩:=kZ hm b (bp fn) _ .done q (Q:=fun x s=>yS P fn.results.toList sp x s=some (true,r)) (rB h);exact Xd g k a v w
abbrev gR(P:ai)(sp:aM):Prop:=∀ d r,sp.F d=some r->eK P sp.f (sp.iJ d) (ax (sp.H0 d)) (sp.out r) (ax (sp.H1 r))
def qc{P:ai}{τ:aJ}{L:LT}(hm:P.follows .mixedOrders=true)(b:aL P τ){sp:aM}{fn:Func}(d:P.funcs[sp.f]? = some fn)(g:fn.body.isSome=true)
  (k:ba P sp.bU.length L (bp fn)) (q:tJ P τ L fn sp) (a:nV sp.bU=true):gR P sp:=fun _ _ h=>Xe hm b d g k q a h
def yT:dV->Bool
 |.int _ | .str | .bool | .list _ | .vP _ | .row _ | .cptr _ | .nil | .any | .Ni _ | .fn _ | .addr | .yL=>true
 |_=>false
def Cy:Sh->Bool
 |.s a=>yT a
 |.clo _ caps=>caps.all yT
def ND{lens:eu}{a:dV}{d:LG}(h:yT a=true):(d_ lens a d).closed=true:=by
 cases a<;>simp only[yT]at h<;>first
  |(cases h; done)
  |rfl
  |(simp only[d_,AV.closed,gI]; done)
def NF{lens:eu}:∀{as:List dV} {d:LG},(as.all yT)=true->AV.cb (kC lens as d)=true
 | [],_,_=>rfl
 | a::as,d,h=>by
  simp only[jA,aE]at h;simp only[kC,AV.cb,ND h.1,NF h.2,xo]
def Cz{lens:eu}:∀{as:List Sh} {d:LG},(as.all Cy)=true->AV.cb (cO lens as d)=true
 | [],_,_=>rfl
 | a::as,d,h=>by
  simp only[jA,aE]at h;simp only[cO,AV.cb,Cz h.2,gu];cases a with
  |s a=>exact ND h.1
  |clo f caps=>simp only[jH,AV.closed]; exact NF h.1
def Xf{a:List AV}(h:AV.cb a=true):(dp a).closed=true:=by
 cases a with
 |nil=>rfl
 | cons v a =>
  cases a with
  |nil=>simpa[dp,AV.cb]using h
  |cons b a=>simpa only[dp,AV.closed]using h
def j8(E:ae):ae:={ w:=E.w,H:=[],ad:=[],X:=(E.X.or E.bN).re iB }
def Xg{E:ae}(x:Nat):¬ (j8 E).bN x:=by rintro(⟨id,c,a⟩|⟨l,k,c,b⟩); simp[j8]at a; simp[j8,iB]at b
def NG{E:ae}:E.bZ (j8 E):=⟨fun b a=>⟨⟨a.1,Xg b,fun d=>d.elim a.2.2 a.2.1⟩,rfl⟩⟩
def Xh{E:ae}:(j8 E).bZ E:=⟨fun b a=>⟨⟨a.1,fun d=>a.2.2 (Or.inr d),fun g=>a.2.2 (Or.inl g)⟩,rfl⟩⟩
def Xi{E:ae}(HE:aG E):aG (j8 E):=by
 refine⟨rfl,?_,?_,?_,?_,HE.gL.bZ NG,fun l k l' h b m n a=>by simp[j8,iB]at a,fun i b m l k n hi=>by simp[j8]at hi,fun l k b m a=>by simp[j8,iB]at a,fun i j o o' l hi=>by simp[j8]at hi,fun l _ k q a=>by simp[j8,iB]at a⟩
 ·intro i j b m n hi; simp[j8]at hi
 ·intro i b m hi; simp[j8]at hi
 ·rintro b (d | g)
  ·exact HE.X b d
  ·exact(HE.Bg g).1
 ·intro i o hi; simp[j8]at hi
def Xj{E:ae}(HE:aG E):jZ [] (cz [] []) (fun _=>false) [] (j8 E) (j8 E):=by
 exact { hH:=rfl,HE:=Xi HE,free:=fun _ h=>(nomatch h),dw:=⟨fun b a=>⟨a,rfl⟩,rfl,fun j d=>absurd d (Nat.not_lt_zero _),fun _ _ _ _ _=>rfl⟩,obj:=fun j o g=>by simp at g }
def Xk{E:ae}(HE:aG E):∀{q:List Sh} {as:List AV} {g:LG},(q.all Cy)=true->fG [] (cz [] []) (fun _=>false) q as=some (true,g)->∀(rest:LG) (d:List ak),ar E as d ->
  ar E (cO [] q (g++rest)) d:=by
 have U:∀{sh:dV} {a:AV} {b:Bool} {g:LG},ig [] (cz [] []) (fun _=>false) sh a=some (b,g)->a.closed=true\/sh=.any:=by
  intro sh a b g h;unfold ig at h;split at h
  ·exact .inl rfl
  ·exact .inl rfl
  ·exact .inl rfl
  ·split at h
   ·rename_i y
    left;unfold pY at y;split at y<;>first|rfl|cases y
   ·split at h
    ·simp at h
    ·cases h
  ·split at h
   ·rename_i y
    left;rw[M7 y];simp only[AV.closed,gI]
   ·cases h
  ·exact .inl rfl
  ·simp at h
  ·exact .inl rfl
  ·exact .inr rfl
  ·exact .inl rfl
  ·simp at h
  ·simp at h
  ·simp at h
  ·simp at h
  ·split at h
   ·rename_i y
    left;unfold pY at y;split at y<;>first|rfl|cases y
   ·split at h
    ·simp at h
    ·cases h
  ·simp at h
  ·exact .inl rfl
  ·rename_i f V f' J
   split at h
   ·rename_i z
    left;cases V with
    | nil=>cases J with
     |nil=>rfl
     |cons _ _=>simp[mE]at z
    | cons j V=>cases J with
     |nil=>simp[mE]at z
     |cons v J=>cases v<;>simp[mE]at z
   ·cases h
  ·exact .inl rfl
  ·cases h
 have X:∀{q:List dV} {as:List AV} {b:Bool} {g:LG},gQ [] (cz [] []) (fun _=>false) q as=some (b,g)->∀(d:List ak),ar E as d ->
   ∃ t,gQ [] (cz [] []) (fun _=>false) q t=some (b,g)/\AV.cb t=true/\ar E t d:=by
  intro q
  induction q with
  | nil =>
   intro as b g h d w;cases as with
   |nil=>exact⟨[],h,rfl,w⟩
   |cons _ _=>simp[gQ]at h
  | cons sh q M =>
   intro as b g h d w;cases as with
   |nil=>simp[gQ]at h
   | cons a as =>
    cases d with
    |nil=>simp[ar]at w
    | cons c d =>
     simp only[ar]at w;simp only[gQ]at h;split at h
     ·rename_i N O b2 g2 k I
      cases h;obtain⟨t,A,B,F⟩:=M I d w.2;rcases U k with z|rfl
      ·exact⟨a::t,by simp only[gQ,k,A],by simp only[AV.cb,z,B,xo],by simp only[ar]; exact⟨w.1,F⟩⟩
      ·have e:ig [] (cz [] []) (fun _=>false) .any .undef=some (N,O):=by
        have:ig [] (cz [] []) (fun _=>false) .any a=some (true,[]):=by cases a<;>rfl
        rw[this]at k;exact k
       exact⟨.undef::t,by simp only[gQ,e,A],by simp only[AV.cb,B]; rfl,by simp only[ar,ab]; exact⟨trivial,F⟩⟩
     ·cases h
 have Y:∀{q:List Sh} {as:List AV} {b:Bool} {g:LG},fG [] (cz [] []) (fun _=>false) q as=some (b,g)->∀(d:List ak),ar E as d ->
   ∃ t,fG [] (cz [] []) (fun _=>false) q t=some (b,g)/\AV.cb t=true/\ar E t d:=by
  intro q
  induction q with
  | nil =>
   intro as b g h d w;cases as with
   |nil=>exact⟨[],h,rfl,w⟩
   |cons _ _=>simp[fG]at h
  | cons sh q M =>
   intro as b g h d w;cases as with
   |nil=>simp[fG]at h
   | cons a as =>
    cases d with
    |nil=>simp[ar]at w
    | cons c d =>
     simp only[ar]at w;simp only[fG]at h;split at h
     ·rename_i N O b2 g2 k I
      cases h;obtain⟨t,A,B,F⟩:=M I d w.2;cases sh with
      | s sh0 =>
       simp only[mF]at k;rcases U k with z|rfl
       ·exact⟨a::t,by simp only[fG,mF,k,A],by simp only[AV.cb,z,B,xo],by simp only[ar]; exact⟨w.1,F⟩⟩
       ·have e:ig [] (cz [] []) (fun _=>false) .any .undef=some (N,O):=by
         have:ig [] (cz [] []) (fun _=>false) .any a=some (true,[]):=by cases a<;>rfl
         rw[this]at k;exact k
        exact⟨.undef::t,by simp only[fG,mF,e,A],by simp only[AV.cb,B]; rfl,by simp only[ar,ab]; exact⟨trivial,F⟩⟩
      | clo f caps =>
       cases a<;>simp only[mF]at k<;>try cases k
       rename_i f' J;split at k
       ·rename_i hf
        subst hf;have W:=w.1;simp only[ab]at W;obtain⟨us,e1,e2⟩:=W;obtain⟨vs',l1,l2,l3⟩:=X k _ e2;exact⟨.clo f vs'::t,by simp only[fG,mF,if_true,l1,A],by simp only[AV.cb,AV.closed,l2,B,xo],
         by simp only[ar,ab]; exact⟨⟨us,e1,l3⟩,F⟩⟩
       ·cases k
     ·cases h
 intro q as g hcl h rest d w;obtain⟨t,k,I,h3⟩:=Y h d w;have h4:=sJ NG t I h3;have h5:=(yM (Xj HE) k rest).2.2.2 d h4;exact sJ Xh _ (Cz hcl) h5
def aJ.aZ(τ:aJ)(sp:aM):aJ where
 pf g:=match aH g sp.f with
  |true=>true
  |false=>τ.pf g
 T g as:=match aH g sp.f with
  | true=>match fG [] (cz [] []) (fun _=>false) sp.args as with
   |some (b,d)=>some (tC b (sp.F d).isSome,dp (cO [] sp.res ((sp.F d).getD [])))
   |none=>τ.T g as
  |false=>τ.T g as
 W:=τ.W
 C:=τ.C
 I:=τ.I
 N:=τ.N
 U:=τ.U
def yU(sp:aM):Bool:=(sp.args.all Cy)&&((sp.res.all Cy)&&(sp.bU.isEmpty&&sp.il.isEmpty))
def aL.aZ{P:ai}{τ:aJ}(h:aL P τ){sp:aM}(O:fM P sp.f=true)(t:yU sp=true)
  (U:∀ d r,sp.F d=some r->eK P sp.f (sp.iJ d) (ax (sp.H0 d)) (sp.out r) (ax (sp.H1 r))):aL P (τ.aZ sp):=by
 simp only[yU,aE,List.isEmpty_iff]at t;obtain⟨q,J,M,N⟩:=t;refine⟨fun g as b v a k=>?_,h.W,h.C,h.I,h.F⟩;simp only[aJ.aZ]at a;split at a
 ·rename_i e
  have e:=bA e;subst e;split at a
  ·rename_i Y d V
   simp only[a_,bk]at a;obtain⟨X,rfl⟩:=a;subst X;simp only[tD]at k;obtain⟨rfl,w⟩:=k;refine⟨O,?_⟩;cases y:sp.F d with
   |none=>rw[y]at w; cases w
   | some r =>
    have z:=U d r y;simp only[aM.iJ,aM.H0,aM.out,aM.H1,M,N,c_,cV,oK,dv]at z;have:=Vi z (Cz q) (Xf (Cz J));intro H E A hH HE B;exact this H E A hH HE (by
     have:=Xk HE q V [] _ B
     rwa [fe]at this)
  ·exact h.T _ as b v a k
 ·exact h.T g as b v a k
end Go.AL

namespace Go.AL
open Go
variable [Dr]
def Kd.dN:List Kd->Bool
 | []=>true
 |.list _::_=>false
 |_::ks=>Kd.dN ks
def Ct.bR:Ct->Bool
 |.one k=>Kd.dN [k]
 |.agg ks=>Kd.dN ks
def vX:dV->Bool
 |.row ks=>Kd.dN ks
 |.list _ | .vP _ | .cptr _=>false
 |_=>true
def NH:Sh->Bool
 |.s a=>vX a
 |.clo _ caps=>caps.all vX
def NI:cH->Bool
 |.vQ ks _=>Kd.dN ks
 |.box cells=>cells.all vX
 |.map K V=>K.bR&&V.bR
 |.cD _ _ _=>true
 |.br _ _ _=>false
 |.mm _ K a b=>K.bR&&(a.bR&&b.bR)
 |.cM _ _=>false
 |.bM _ _ _=>false
def lS(sp:aM):Bool:=(sp.res.all NH)&&(sp.il.all NI)
def CA:∀{ks:List Kd} (r:LG),Kd.dN ks=true->AV.dN (a8 ks r)=true
 | [],_,_=>rfl
 |.list _::_,_,h=>by simp[Kd.dN]at h
 | .int _::ks,r,h | .str::ks,r,h | .bool::ks,r,h=>by
  simp only[Kd.dN]at h;simp only[a8,AV.dN,CA r.tail h,gu];rfl
def Ct.yV{K:Ct}(r:LG)(h:K.bR=true):(K.av r).bR=true:=by
 cases K with
 | one k =>
  simp only[Ct.bR]at h;cases k<;>first
   |rfl
   |(simp[Kd.dN]at h; done)
 |agg ks=>simp only[Ct.av,AV.bR]; exact CA r h
def NJ:∀ a:List Nat,AV.dN (tA a)=true
 | []=>rfl
 |j::a=>by simp only[tA,AV.dN,NJ a,gu]; rfl
def NK{lens:eu}{a:dV}{d:LG}(h:vX a=true):(d_ lens a d).bR=true:=by
 cases a<;>simp only[vX]at h<;>first
  |(cases h; done)
  |(simp only[d_,AV.bR]; exact CA _ h)
  |rfl
  |(simp only[d_,AV.bR]; exact NJ _)
def HH{lens:eu}:∀{as:List dV} {d:LG},(as.all vX)=true->AV.dN (kC lens as d)=true
 | [],_,_=>rfl
 | a::as,d,h=>by
  simp only[jA,aE]at h;simp only[kC,AV.dN,NK h.1,HH h.2,xo]
def NL{lens:eu}:∀{as:List Sh} {d:LG},(as.all NH)=true->AV.dN (cO lens as d)=true
 | [],_,_=>rfl
 | a::as,d,h=>by
  simp only[jA,aE]at h;simp only[cO,AV.dN,NL h.2,gu];cases a with
  |s a=>exact NK h.1
  |clo f caps=>simp only[jH,AV.bR]; exact HH h.1
def Xl{a:List AV}(h:AV.dN a=true):(dp a).bR=true:=by
 cases a with
 |nil=>rfl
 | cons v a =>
  cases a with
  |nil=>simpa[dp,AV.dN]using h
  |cons b a=>simpa only[dp,AV.bR]using h
def NM{lens:eu}:∀{os:List cH} {d:LG},(os.all NI)=true->((ax (c_ lens os d)).all ah.bR)=true
 | [],_,_=>rfl
 | o::os,d,h=>by
  simp only[jA,aE]at h;have b:=NM (lens:=lens) (d:=dv o.sz d) h.2;simp only[c_,ax,eM,jA,aE];refine⟨?_,by simpa only[ax]using b⟩;cases o with
  | vQ ks u =>
   simp only[fF,au.aw,ah.bR,cq,gG];rintro r ⟨g,_,rfl⟩;exact CA g h.1
  |box cells=>simp only[fF,au.aw,ah.bR]; exact HH h.1
  | map K V =>
   have a:(K.bR&&V.bR)=true:=h.1;simp only[aE]at a;simp only[fF,au.aw,ah.bR,ep,cq,gG];rintro x ⟨g,_,rfl⟩;simp only[Ct.yV _ a.1,Ct.yV _ a.2,xo]
  |cD l T B=>rfl
  |br l K ks=>cases h.1
  |cM l ks=>cases h.1
  |bM l K ks=>cases h.1
  | mm l K k t =>
   have a:(K.bR&&(k.bR&&t.bR))=true:=h.1;simp only[aE]at a;simp only[fF,au.aw,ah.bR,jV,q_,ep,aE,cq,gG];refine⟨?_,?_⟩
   ·rintro x ⟨g, _, rfl⟩
    exact Ct.yV _ a.1
   ·rintro x ⟨g, _, rfl⟩ y v
    obtain⟨q,_,rfl⟩:=gG.1 v;simp only[Ct.yV _ a.2.1,Ct.yV _ a.2.2,and_self]
def au.cG(e:cy)(j:Nat):au->au
 |.vQ ks v rZ=>.vQ ks (v+e.up j) rZ
 |.raw o=>.raw (o.cG e j)
 |.map K V rZ c=>.map K V rZ c
 |.br l K ks rZ c=>.br l K ks rZ c
 |.mm l K a b rZ mem c=>.mm l K a b rZ mem c
 |.cM l ks n d=>.cM l ks n d
 |.bM l K ks rZ c=>.bM l K ks rZ c
def yW(e:cy):Nat->List au->List au
 |_,[]=>[]
 |j,o::os=>o.cG e j::yW e (j+1) os
def qd(e:cy)(H H1:List au):List au:=fo H e.ay (yW e 0 H1)++(yW e 0 H1).drop e.ay.length
def Xm(e:cy)(j:Nat)(o:au):(o.cG e j).aw=o.aw.cG e j:=by
 cases o<;>rfl
def NN(e:cy):∀(j:Nat) (os:List au),ax (yW e j os)=mD e j (ax os)
 |_,[]=>rfl
 | j,o::os=>by
  simp only[yW,ax,eM,mD,Xm];have:=NN e (j+1) os;simp only[ax]at this;rw[this]
def NO{α β:Type}(f:α->β):∀(a:List Nat) (l b:List α),(fo l a b).map f=fo (l.map f) a (b.map f)
 | [],_,_=>by simp[fo]
 |_::_,_,[]=>by simp[fo]
 |i::a,l,x::b=>by simp[fo,NO f a,List.map_set]
def Xn(e:cy)(H H1:List au):ax (qd e H H1)=oJ e (ax H) (ax H1):=by
 unfold qd oJ;rw[<-NN];simp only[ax,List.map_append,NO,List.map_drop]
def mI(e:cy):Nat->List cH->Bool
 |_,[]=>true
 |j,.vQ _ _::os=>mI e (j+1) os
 |j,_::os=>aH (e.up j) 0&&mI e (j+1) os
def qe{e:cy}{lens:eu}:∀{j:Nat} {os:List cH} {d:LG},mI e j os=true->jY e j (ax (c_ lens os d))=true
 |_,[],_,_=>rfl
 | j,.vQ ks u::os,d,h=>by
  simp only[mI]at h;have:=qe (lens:=lens) (d:=dv (cH.vQ ks u).sz d) h;simp only[c_,ax,eM,jY,aE];exact⟨rfl,by simpa only[ax]using this⟩
 | j,.box cells::os,d,h=>by
  simp only[mI,aE]at h;have:=qe (lens:=lens) (d:=dv (cH.box cells).sz d) h.2;simp only[c_,ax,eM,jY,aE];exact⟨h.1,by simpa only[ax]using this⟩
 | j,.map K V::os,d,h=>by
  simp only[mI,aE]at h;have:=qe (lens:=lens) (d:=dv (cH.map K V).sz d) h.2;simp only[c_,ax,eM,jY,aE];exact⟨h.1,by simpa only[ax]using this⟩
 | j,.cD l T B::os,d,h=>by
  simp only[mI,aE]at h;have:=qe (lens:=lens) (d:=dv (cH.cD l T B).sz d) h.2;simp only[c_,ax,eM,jY,aE];exact⟨h.1,by simpa only[ax]using this⟩
 | j,.br l K ks::os,d,h=>by
  simp only[mI,aE]at h;have:=qe (lens:=lens) (d:=dv (cH.br l K ks).sz d) h.2;simp only[c_,ax,eM,jY,aE];exact⟨h.1,by simpa only[ax]using this⟩
 | j,.mm l K a b::os,d,h=>by
  simp only[mI,aE]at h;have:=qe (lens:=lens) (d:=dv (cH.mm l K a b).sz d) h.2;simp only[c_,ax,eM,jY,aE];exact⟨h.1,by simpa only[ax]using this⟩
 | j,.cM l ks::os,d,h=>by
  simp only[mI,aE]at h;have:=qe (lens:=lens) (d:=dv (cH.cM l ks).sz d) h.2;simp only[c_,ax,eM,jY,aE];exact⟨h.1,by simpa only[ax]using this⟩
 | j,.bM l K ks::os,d,h=>by
  simp only[mI,aE]at h;have:=qe (lens:=lens) (d:=dv (cH.bM l K ks).sz d) h.2;simp only[c_,ax,eM,jY,aE];exact⟨h.1,by simpa only[ax]using this⟩
def vY(S:Bool)(ay:List Nat)(i:Nat):Bool:=match S with
 |true=>j6 ay i
 |false=>false
def rH(sp:aM)(as:List AV)(H:List au):Option (Bool × AV × List au) :=
 match ld H (fun i=>as.getD i .undef) sp.ps []with
 |none=>none
 | some ay=>match nodupB ay&&mI (cz H ay) 0 sp.il with
  |false=>none
  | true=>match lb H (cz H ay) (vY (lS sp) ay) sp.bU ay,fG H (cz H ay) (vY (lS sp) ay) sp.args as with
   |some (b,g),some (d,a)=>some (tC (b&&d) (sp.F (g++a)).isSome,(sp.out ((sp.F (g++a)).getD [])).cG (cz H ay),qd (cz H ay) H (sp.H1 ((sp.F (g++a)).getD [])))
   |_,_=>none
def qf:List j7->Nat->Bool
 | [],_=>true
 |.cell j _::ps,n=>cR j n&&qf ps (n+1)
 |.HB j _ _::ps,n=>cR j n&&qf ps (n+1)
 |_::ps,n=>qf ps (n+1)
def NP{H:List au}{b:Nat->AV}:∀{ps:List j7} {acc ay:List Nat},ld H b ps acc=some ay->∀ x∈acc,x∈ay
 | [],acc,ay,h,x,a=>by cases h; exact a
 | p::ps,acc,ay,h,x,a=>by
  unfold ld at h;split at h
  ·exact NP h x (xn _ a)
  ·cases h
def NQ{H:List au}{b:Nat->AV}{id:Nat}{o:au}:∀{ps:List j7} {acc ay:List Nat},qf ps acc.length=true->ld H b ps acc=some ay->id∉ay->ld (H.set id o) b ps acc=some ay
 | [],acc,ay,_,h,_=>h
 | p::ps,acc,ay,a,h,d=>by
  unfold ld at h|-;split at h
  ·rename_i i hi
   have q:=NP h;have get:∀ j,j<acc.length->(H.set id o)[acc.getD j 0]? = H[acc.getD j 0]? := fun j g=>by
    refine bc fun e=>d ?_;rw[e,eh,cn g];exact q _ (xn _ (sE g))
   have e:Cs (H.set id o) b acc p=some i/\qf ps (acc++[i]).length=true:=by
    rw[dG];cases p with
    |fix _=>exact⟨hi,a⟩
    |aO _=>exact⟨hi,a⟩
    |cap _ _=>exact⟨hi,a⟩
    | cell j c =>
     simp only[qf,aE,dH]at a;refine⟨?_,a.2⟩;simp only[Cs]at hi|-;rw[get j a.1];exact hi
    | HB j c k =>
     simp only[qf,aE,dH]at a;refine⟨?_,a.2⟩;simp only[Cs]at hi|-;rw[get j a.1];exact hi
   rw[e.1];exact NQ e.2 h d
  ·cases h
section Xo
variable {H:List au} {e:cy} {id:Nat} {o:au} (he:∀ j,e.at j≠id)
include he
theorem NR:∀(a:List Nat) (b:List AV),mE (H.set id o) e a b=mE H e a b
 | [],[]=>rfl
 | [],_::_=>rfl
 |_::_,[]=>rfl
 | j::a,v::b=>by
  have g:=NR a b;cases v<;>try rfl
  rename_i i al k row c;simp only[mE,g];by_cases hi:i=id
  ·subst hi
   have d:aH i (e.at j)=false:=by
    cases h:aH i (e.at j)with
    |false=>rfl
    |true=>exact absurd (bA h).symm (he j)
   simp only[d,Bool.false_and];cases (H.set i o)[i]? <;> cases H[i]? <;> (repeat' split)<;>rfl
  ·rw[bc (Ne.symm hi)]
theorem NS:∀(sh:dV) (a:AV),ig (H.set id o) e (fun _=>false) sh a=ig H e (fun _=>false) sh a:=by
 have d:∀{i:Nat},i≠id->(H.set id o)[i]? = H[i]? := fun h=>bc (Ne.symm h);have g:∀ j,¬ (id=e.at j):=fun j h=>he j h.symm;intro sh a;cases a with
 | vQ w i al oF n =>
  by_cases hi:i=id
  ·subst hi
   cases sh<;>(try rfl)<;>simp only[ig,pY,me,and_false,if_false,g,false_and]<;>(repeat' split)<;>(first|rfl|simp_all)
  ·cases sh<;>(try rfl)<;>simp only[ig,d hi]
 | ptr i al k row y =>
  by_cases hi:i=id
  ·subst hi
   cases sh<;>(try rfl)<;>simp only[ig,pY,me,and_false,if_false,g,false_and]<;>(repeat' split)<;>(first|rfl|simp_all)
  ·cases sh<;>(try rfl)<;>simp only[ig,d hi]
 | map i =>
  by_cases hi:i=id
  ·subst hi
   cases sh<;>(try rfl)<;>simp only[ig,pY,me,and_false,if_false,g,false_and]<;>(repeat' split)<;>(first|rfl|simp_all)
  ·cases sh<;>(try rfl)<;>simp only[ig,d hi]
 | clo f t =>
  cases sh<;>(try rfl)
  ·cases t<;>rfl
  ·simp only[ig,NR he]
 | lit v =>
  cases sh<;>(try rfl)<;>cases v<;>(try rfl)
  ·rename_i b n c
   cases b<;>cases n<;>cases c<;>rfl
  ·rename_i q
   cases q with
   |none=>rfl
   | some q =>
    obtain⟨b,o',w⟩:=q;cases o'<;>cases w<;>rfl
 |_=>cases sh<;>rfl
theorem HI:∀(b:List dV) (as:List AV),gQ (H.set id o) e (fun _=>false) b as=gQ H e (fun _=>false) b as
 | [],[]=>rfl
 | [],_::_=>rfl
 |_::_,[]=>rfl
 |sh::b,a::as=>by simp only[gQ,NS he sh a,HI b as]
theorem Xp(sh:Sh)(a:AV):mF (H.set id o) e (fun _=>false) sh a=mF H e (fun _=>false) sh a:=by
 cases sh with
 |s x=>simp only[mF,NS he]
 | clo f caps =>
  cases a with
  |clo g b=>simp only[mF,HI he]
  |_=>rfl
theorem NT:∀(b:List Sh) (as:List AV),fG (H.set id o) e (fun _=>false) b as=fG H e (fun _=>false) b as
 | [],[]=>rfl
 | [],_::_=>rfl
 |_::_,[]=>rfl
 |sh::b,a::as=>by simp only[fG,Xp he sh a,NT b as]
theorem Xq(sh:cH)(t:au):jq (H.set id o) e (fun _=>false) sh t=jq H e (fun _=>false) sh t:=by
 cases sh with
 | box a =>
  cases t with
  |raw x=>cases x<;>simp only[jq,HI he]
  |_=>rfl
 | cD l T B =>
  cases t with
  |raw x=>cases x<;>rfl
  |_=>rfl
 |_=>cases t<;>rfl
theorem NU:∀(os:List cH) (a:List Nat),id∉a->lb (H.set id o) e (fun _=>false) os a=lb H e (fun _=>false) os a
 | [],[],_=>rfl
 | [],_::_,_=>rfl
 |_::_,[],_=>rfl
 | sh::os,i::a,h=>by
  have b:id≠i:=fun e=>h (by rw[e]; exact cZ);simp only[lb,bc b,Xq he,NU os a fun hm=>h (c8 _ hm)]
end Xo
def NV{α:Type}{i:Nat}{x:α}:∀(a:List Nat) (l b:List α),i∉a->fo (l.set i x) a b=(fo l a b).set i x
 | [],_,_,_=>by simp[fo]
 |_::_,_,[],_=>by simp[fo]
 | j::a,l,y::b,h=>by
  have d:i≠j:=fun e=>h (by rw[e]; exact cZ);simp only[fo];rw[List.set_comm _ _ d];exact NV a _ _ fun hm=>h (c8 _ hm)
def Xr{H:List au}{ay:List Nat}{id:Nat}{o:au}(h:id∉ay):cz (H.set id o) ay=cz H ay:=by
 unfold cz;rw[List.length_set];congr 1;refine List.map_congr_left fun i hi=>?_;unfold vT;rw[bc fun e=>h (by rw[e]; exact hi)]
def Xs{sp:aM}(y:lS sp=false)(z:qf sp.ps 0=true){as:List AV}{H H':List au}{b:Bool}{v:AV}(h:rH sp as H=some (b,v,H')){id:Nat}{o:au}(q:id<H.length)
  (t:∀ ay,ld H (fun i=>as.getD i .undef) sp.ps []=some ay->id∉ay) :
  rH sp as (H.set id o)=some (b,v,H'.set id o)/\∃ ay,ld H (fun i=>as.getD i .undef) sp.ps []=some ay/\ld (H.set id o) (fun i=>as.getD i .undef) sp.ps []=some ay:=by
 unfold rH at h|-;split at h
 ·cases h
 rename_i ay d;have a:=t ay d;have k:=NQ (o:=o) (acc:=[]) z d a;refine⟨?_,ay,d,k⟩;rw[k];simp only[Xr a];split at h
 ·cases h
 rename_i B;have w:vY (lS sp) ay=fun _=>false:=by
  rw[y];rfl
 rw[w]at h|-;have he:∀ j,(cz H ay).at j≠id:=by
  intro j e;rcases kJ j (cz H ay).ay.length with g|g
  ·have := jo g
   rw[e]at this;exact a (eC this)
  ·rw [vO g] at e
   have:(cz H ay).aN=H.length:=rfl;omega
 rw[NU he _ _ a,NT he];split at h
 case h_2=>cases h
 rename_i F I;cases h;have A:∀ X,qd (cz H ay) (H.set id o) X=(qd (cz H ay) H X).set id o:=fun X=>by
  unfold qd;rw[show (cz H ay).ay=ay from rfl,NV ay _ _ a,A3 _ _ (by rw[ru]; exact q)]
 rw[A]
def aJ.dK(τ:aJ)(sp:aM):aJ where
 pf g:=match aH g sp.f with
  |true=>false
  |false=>τ.pf g
 T:=τ.T
 W g as H:=match aH g sp.f with
  | true=>match rH sp as H with
   |some r=>some r
   |none=>τ.W g as H
  |false=>τ.W g as H
 C g as H:=match aH g sp.f with
  | true=>(match ld H (fun i=>as.getD i .undef) sp.ps [] with
   |some ay=>ay
   |none=>[])++τ.C g as H
  |false=>τ.C g as H
 I:=τ.I
 N g:=match aH g sp.f with
  | true=>match τ.U g,lS sp with
   |false,false=>qf sp.ps 0
   |_,_=>false
  |false=>τ.N g
 U g:=match aH g sp.f with
  |true=>true
  |false=>τ.U g
def rI:List cH->List cH->Bool
 |_,[]=>true
 | [],o'::a=>o'.k8.isNone&&rI [] a
 | o::os,o'::a=>(match o'.k8 with
  |none=>true
  | some l=>match o.k8 with
   |some l'=>aH l l'
   |none=>false)&&rI os a
def HJ:∀{os g:List cH},rI os g=true->∀(j:Nat) o' l,g[j]? = some o'->o'.k8=some l->∃ o,os[j]? = some o/\o.k8=some l
 |_,[],_,j,_,_,a,_=>by simp at a
 | [],x::g,h,0,o',l,a,b=>by
  simp only[rI,aE]at h;simp at a;subst a;rw[b]at h;cases h.1
 | [],x::g,h,j+1,o',l,a,b=>by
  simp only[rI,aE]at h;obtain⟨o,d,_⟩:=HJ h.2 j o' l (by simpa using a) b;simp at d
 | o::os,x::g,h,0,o',l,a,b=>by
  simp only[rI,aE]at h;simp at a;subst a;have d:=h.1;rw[b]at d;simp only[]at d;split at d
  ·rename_i l' k
   have:=bA d;subst this;exact⟨o,rfl,k⟩
  ·cases d
 | o::os,x::g,h,j+1,o',l,a,b=>by
  simp only[rI,aE]at h;exact HJ h.2 j o' l (by simpa using a) b
def NW(lens:eu):∀(os:List cH) (d:LG) (j:Nat) (o:au),(c_ lens os d)[j]? = some o->∃ sh a,os[j]? = some sh/\o=fF lens sh a
 | [],d,j,o,h=>by simp[c_]at h
 | s::os,d,0,o,h=>by
  simp[c_]at h;exact⟨s,d,rfl,h.symm⟩
 | s::os,d,j+1,o,h=>by
  simp only[c_,Tf]at h;obtain⟨sh,a,b,g⟩:=NW lens os _ j o h;exact⟨sh,a,by simpa using b,g⟩
def Xt{lens:eu}{os:List cH}{d:LG}{j:Nat}{o:ah} (h:(ax (c_ lens os d))[j]? = some o):∃ sh,os[j]? = some sh/\o.label=sh.k8:=by
 simp only[ax,cX]at h;obtain⟨o',a,rfl⟩:=eG.1 h;obtain⟨sh,g,b,rfl⟩:=NW lens os d j o' a;exact⟨sh,b,vR _ _ _⟩
def NX(lens:eu):∀(os:List cH) (d:LG) (j:Nat) (sh:cH),os[j]? = some sh->∃ o,(ax (c_ lens os d))[j]? = some o/\o.label=sh.k8
 | [],d,j,o,h=>by simp at h
 | s::os,d,0,sh,h=>by
  simp at h;subst h;exact⟨(fF lens s d).aw,by simp[c_,ax],vR _ _ _⟩
 | s::os,d,j+1,sh,h=>by
  obtain⟨o,a,b⟩:=NX lens os (dv s.sz d) j sh (by simpa using h);exact⟨o,by simpa[c_,ax]using a,b⟩
def vZ(sp:aM):Bool:=nV sp.bU&&(bf sp.bU.length sp.il.length&&rI sp.bU sp.il)
def Xu{P:ai}{sp:aM}(hp:vZ sp=true) (hc:∀ d r,sp.F d=some r->eK P sp.f (sp.iJ d) (ax (sp.H0 d)) (sp.out r) (ax (sp.H1 r)))
  {as:List AV} {H H':List au} {v:AV} (h:rH sp as H=some (true,v,H')):eK P sp.f as (ax H) v (ax H'):=by
 simp only[vZ,aE]at hp;obtain⟨hfr,hle,hlab⟩:=hp;have hle:=qL hle;unfold rH at h;split at h
 ·cases h
 rename_i ay hids;split at h
 ·cases h
 rename_i hck;simp only[aE]at hck;obtain⟨hnd,hup⟩:=hck;have hnd:=yO hnd;split at h
 case h_2=>cases h
 rename_i b g b' k h1 h2;simp only[a_,bk,tD,aE]at h;obtain⟨⟨⟨rfl,rfl⟩,h3⟩,rfl,rfl⟩:=h;cases hF:sp.F (g++k)with
 |none=>rw[hF]at h3; cases h3
 |some r =>
 simp only[uE];obtain⟨p0,p1,p2,p3⟩:=yN h1 k (cV sp.bU (g++k));have hd:dv (oK sp.bU) (g++k)=k:=by rw[<-p0]; exact rA g k
 have V:ay.length=(ax (sp.H0 (g++k))).length:=by rw[fj]; simp only[aM.H0,p1,p2]
 have hat:∀ j,j<ay.length->ay[j]? = some ((cz H ay).at j):=fun j q=>jo (e:=cz H ay) q;have U:∀ j,j<ay.length->∃ sh o B A,sp.bU[j]? = some sh/\H[(cz H ay).at j]? = some o/\jq H (cz H ay) (vY (lS sp) ay) sh o=some (true,B) /\
   (sp.H0 (g++k))[j]? = some (fF (cV sp.bU (g++k)) sh (B++A)) /\
   (cV sp.bU (g++k)).al j=sh.up/\(∀ ks v rZ,o=.vQ ks v rZ->(cV sp.bU (g++k)).len j=rZ.length)/\sh.up=0/\(cz H ay).up j=vS o:=by
  intro j q;have hj':j<sp.bU.length:=by omega
  obtain⟨i,o,B,A,I,t,y,w,O,X⟩:=p3 j sp.bU[j] (cn hj');have q1':=I;rw[hat j q]at I;cases I;refine⟨sp.bU[j],o,B,A,cn hj',t,y,w,O,X,?_,?_⟩
  ·have := cq.1 hfr sp.bU[j] (sE hj')
   exact bA this
  ·simp only [cy.up, cz, eh, cX]
   rw[q1'];simp only[fk,uE,vT];rw[t]
 have hK:∀ E E0,E.H=ax H->aG E->vM (cz H ay) (bif lS sp then (jc H.length).filter (j6 ay) else []) E E0->E0.H=ax (sp.H0 (g++k)) ->
   jZ H (cz H ay) (vY (lS sp) ay) (cV sp.bU (g++k)) E E0:=by
  intro E E0 N HE J M;refine { hH:=N,HE:=HE,free:=fun i hi b n hb=>?_,dw:=J.toKeepIn,obj:=fun j o a=>?_ }
  ·refine J.WX i ?_ b n hb
   have Y:=aX hb;rw[HE.len,N,fj]at Y;unfold vY at hi;split at hi
   ·rename_i z
    rw[z];simp only[cT,A6,List.mem_range];exact⟨Y,hi⟩
   ·cases hi
  ·have q:j<ay.length:=by
    rcases kJ j ay.length with Y|hge
    ·exact Y
    ·have h1 := aX a
     have h2:=vO (e:=cz H ay) hge;have h3:(cz H ay).aN=H.length:=rfl;omega
   refine⟨q,?_⟩;obtain⟨sh,o',B,A,I,t,y,w,O,X,q7,q8⟩:=U j q;rw[a]at t;cases t;obtain⟨r1,r2,r3⟩:=Hx (lens:=cV sp.bU (g++k)) (d:=B++A) y;exact⟨r1,⟨_,by rw[M]; exact bx w,by rw[O]; exact r2⟩,fun o0 h0=>by rw[M,bx w]at h0; cases h0; rw[Hu,Hv y],X,fun _=>by rw[O]; exact q7⟩
 have:=frame (P:=P) (f:=sp.f) (lS sp) (bif lS sp then (jc H.length).filter (j6 ay) else []) (e:=cz H ay) (H:=ax H) (args:=sp.iJ (g++k)) (H0:=ax (sp.H0 (g++k)))
  (H1:=ax (sp.H1 r)) (v:=sp.out r) (iJ:=as) (hc _ _ hF) V (by rw[fj]; rfl) hnd ?_ ?_ (qe hup) ?_ (fun z=>by rw[z]; rfl) ?_ ?_ ?_ ?_ ?_ ?_ ?_
 ·rw [Xn]
  exact this
 ·intro j o a
  have q:j<ay.length:=by rw[V]; exact aX a
  obtain⟨sh,o',B,A,I,t,y,w,O,X,q7,q8⟩:=U j q;obtain⟨r1,r2,r3⟩:=Hx (lens:=cV sp.bU (g++k)) (d:=B++A) y;rw[bx w]at a;cases a;refine⟨o'.aw,bx t,ah.Fq r2,fun v=>?_⟩;rw[r1,r2,q7,q8];simp only[a_];constructor
  ·rintro rfl
   exact⟨0,rfl,by omega⟩
  ·rintro ⟨u, rfl, rfl⟩
   omega
 ·intro E E0 N HE J M j o a
  have q:j<ay.length:=by rw[V]; exact aX a
  obtain⟨sh,o',B,A,I,t,y,w,O,X,q7,q8⟩:=U j q;rw[bx w]at a;cases a;exact Nq (hK E E0 N HE J M) y A q (fun l hl=>J.k8 j _ l (by rw[M]; exact bx w) (by rw[vR,hl])) (HE.obj _ _ (by rw[N]; exact bx t))
 ·rw [fj, fj]
  simp only[aM.H0,aM.H1,HG];exact hle
 ·intro z
  simp only[lS,aE]at z;exact Xl (NL z.1)
 ·intro z
  simp only[lS,aE]at z;exact NM z.2
 ·intro i hi
  cases z:lS sp with
  | true =>
   rw[z]at hi;simp only[cT,A6]at hi;exact Nu hi.2
  | false =>
   rw[z]at hi;simp at hi
 ·intro j o o' a W
  have q:j<ay.length:=by rw[V]; exact aX a
  obtain⟨sh,o2,B,A,I,t,y,w,_⟩:=U j q;rw[bx w]at a;rw[bx t]at W;cases a;cases W;rw[Nk y,vR]
 ·intro j o l a hl
  obtain⟨sh,h5,h6⟩:=Xt (show (ax (c_ (cV sp.il r) sp.il r))[j]? = some o from a);obtain⟨sh0,h7,h8⟩:=HJ hlab j sh l h5 (by rw[<-h6,hl]);obtain⟨o0,h9,h10⟩:=NX (cV sp.bU (g++k)) sp.bU (g++k) j sh0 h7;exact⟨o0,h9,by rw[h10,h8]⟩
 ·intro j o o' a W
  have q:j<ay.length:=by rw[V]; exact aX a
  obtain⟨sh,o2,B,A,I,t,y,w,_⟩:=U j q;rw[bx w]at a;rw[bx t]at W;cases a;cases W;rw[Hv y,Hu]
 ·intro E E0 cs N HE J M hr
  have hS:=(yM (hK E E0 N HE J M) h2 []).2.2.2 cs hr;rw[fe]at hS;simp only[aM.iJ,hd];exact hS
def Xv{sp:aM}{as:List AV}{H H':List au}{v:AV}{b:Bool}{A:Nat}(h:rH sp as H=some (b,v,H'))(d:A<H.length)(g:∀ ay,ld H (fun i=>as.getD i .undef) sp.ps []=some ay->A∉ay):H'[A]? = H[A]? := by
 unfold rH at h;split at h
 ·cases h
 rename_i ay a;split at h
 ·cases h
 split at h
 case h_2=>cases h
 cases h;unfold qd;rw[dr (by rw[ru]; exact d)];exact Cj _ _ _ _ (g ay a)
def aL.dK{P:ai}{τ:aJ}(h:aL P τ){sp:aM}(U:fM P sp.f=true)(V:vZ sp=true)
  (X:∀ d r,sp.F d=some r->eK P sp.f (sp.iJ d) (ax (sp.H0 d)) (sp.out r) (ax (sp.H1 r))):aL P (τ.dK sp):=by
 refine⟨h.T,fun g as H b v H' a M=>?_,fun g as H b v H' a A k q=>?_,fun g as H t a Q Y=>?_,fun g w as H=>?_,fun g y as H b v H' a id o q z=>?_⟩
 rotate_left 2
 ·obtain ⟨g1, v, H', g2, g3, g4⟩ := h.I g as H t a Q Y
  refine⟨g1,v,H',g2,fun A k q=>g3 A (fun hm=>k ?_) q,g4⟩;simp only[aJ.dK];split
  ·exact Th _ hm
  ·exact hm
 ·simp only [aJ.dK] at w |-
  cases e:aH g sp.f with
  |true=>rw[e]at w; cases w
  | false =>
   rw[e]at w;exact h.F.1 g w as H
 ·simp only [aJ.dK] at y a z |-
  cases e:aH g sp.f with
  | false =>
   rw[e]at y a z;exact h.F.2 g y as H b v H' a id o q z
  | true =>
   rw[e]at y a z;simp only[]at y a z|-;split at y
   case h_2=>cases y
   rename_i w hs;have O:∀ H,τ.W g as H=none:=fun H=>(h.F.1 g w as H).1;have N:∀ H,τ.C g as H=[]:=fun H=>(h.F.1 g w as H).2;rw[O]at a;split at a
   case h_2=>cases a
   rename_i r B;cases a;obtain⟨q1,ay,q2,q3⟩:=Xs hs y B (o:=o) q fun ay J hm=>z (xn _ (by rw[J]; exact hm));rw[q1];refine⟨rfl,?_⟩;rw[q2,q3,N,N]
 simp only[aJ.dK]at a;split at a
 ·rename_i e
  have e:=bA e;subst e;split at a
  ·rename_i r B
   cases a;subst M;exact⟨U,Xu V X B⟩
  ·exact h.W _ as H b v H' a M
 ·exact h.W g as H b v H' a M
 simp only[aJ.dK]at a k;split at a
 ·rename_i e
  rw[e]at k;simp only[]at k;split at a
  ·rename_i r B
   cases a;exact Xv B q fun ay J hm=>k (xn _ (by rw[J]; exact hm))
  ·exact h.C g as H b v H' a A (fun hm=>k (Th _ hm)) q
 ·rename_i e
  rw[e]at k;exact h.C g as H b v H' a A k q
end Go.AL

namespace Go.AL
open Go
variable [Dr]
def aj{β:Type}(t:Option LG)(k:LG->Option β):Option β:=bif t.isSome then k (t.getD []) else none
def iY{β:Type}(b:Bool)(t:Option LG)(k:LG->Option β):Option β:=bif b then k (t.getD []) else none
def bT{β:Type}(b:Bool)(r:Option (Nat × LG))(k:Nat->LG->Option β):Option β:=bif (b&&r.isSome) then k (HC r) (HD r) else none
def Xw:Kd->G->G
 |.int _,g=>.i g.iV
 |.str,g=>.s g.sV
 |.bool,g=>.t g.bV
 |.list _,g=>.l g.rZ
def bF:List Kd->LG->LG
 | [],_=>[]
 |k::ks,r=>Xw k (r.headD default)::bF ks r.tail
def aJ.lf(τ:aJ)(a:List bC):aJ:={ τ with pf:=fun g=>match a.any (fun x=>aH x g)with
 |true=>false
 |false=>τ.pf g }
def aL.lf{P:ai}{τ:aJ}(h:aL P τ)(a:List bC):aL P (τ.lf a):=⟨h.T,h.W,h.C,h.I,h.F⟩
def NY{β:Type}{t:Option LG}{k:LG->Option β}{g:LG}(h:t=some g):aj t k=k g:=by subst h; rfl
inductive j9 (st:LG->Option (Option Nat × LG)):Nat->LG->Nat->LG->Prop
 |stop {d d':LG} {x:Nat} (h:st d=some (some x,d')):j9 st 1 d x d'
 |next {d d1 d':LG} {x n:Nat} (h:st d=some (none,d1)) (h':j9 st n d1 x d'):j9 st (n+1) d x d'
def j9.iter{st:LG->Option (Option Nat × LG)}{n:Nat}{d a:LG}{x:Nat}(h:j9 st n d x a):∀ m,n<=m->tF st m d=some (x,a):=by
 induction h with
 | stop h =>
  intro m hm;cases m with
  |zero=>omega
  |succ m=>simp only[tF,h]
 | next h _ b =>
  intro m hm;cases m with
  |zero=>omega
  |succ m=>simp only[tF,h]; exact b m (by omega)
def j9.Xx{st:LG->Option (Option Nat × LG)}{n:Nat}{d a:LG}{x:Nat}(h:j9 st n d x a)(b:n<=1000000):cd st d=some (x,a):=h.iter _ b
end Go.AL

namespace Go.AL
open Go
variable [Dr]
inductive Hint where
 |freeze (aO:Nat)
 |NZ (aO:Nat) (ks:List Kd)
 |CB (aO c:Nat) (ks:List Kd)
 |N0 (aO:Nat)
 |N1 (aO c:Nat)
 |hole (ks:List Kd)
 |N2
 |br (aO l:Nat)
 |N3 (aO:Nat)
 |N4 (aO l:Nat)
 |N5 (aO:Nat)
 |mm (aO l:Nat) (KI VI:Ct)
 |N6 (aO c l:Nat) (KI VI:Ct)
 |forget (id:Nat)
 |N7 (aO c:Nat) (ks:List Kd)
 |cM (aO l:Nat)
 |bM (aO l:Nat)
 |N8 (aO:Nat)
def CC(aO:Nat)(s:aI):Bool × aI :=
 match s.fr.getD aO .undef with
 | .vQ w id al oF n=>match s.H[id]? with
  |some (.vQ ks v rZ)=>if al=v/\oF=0/\w=ks.length then (aH n rZ.length,⟨s.fr.set aO (.listF ks rZ),s.H.set id (.raw .dead)⟩) else (true,s)
  |_=>(true,s)
 |_=>(true,s)
def HK(aO c:Nat)(ks:List Kd)(s:aI):Bool × aI :=
 match s.fr.getD aO .undef with
 | .ptr id _ _ _ _=>match s.H[id]? with
  | some (.raw (.box cells))=>match cells[c]? with
   | some a=>match isNil a with
    |true=>(true,⟨s.fr,s.H.set id (.raw (.box (cells.set c (.vQ ks.length s.H.length 0 0 0))))++[.vQ ks 0 []]⟩)
    |false=>(true,s)
   |none=>(true,s)
  |_=>(true,s)
 |_=>(true,s)
def CD(aO c:Nat)(s:aI):Bool × aI :=
 match s.fr.getD aO .undef with
 | .ptr id _ _ _ _=>match s.H[id]? with
  | some (.raw (.box cells))=>match cells[c]? with
   | some (.vQ w a al oF n)=>match s.H[a]? with
    |some (.vQ ks v rZ)=>if al=v/\oF=0/\w=ks.length then (aH n rZ.length,⟨s.fr,(s.H.set a (.raw .dead)).set id (.raw (.box (cells.set c (.listF ks rZ))))⟩) else (true,s)
    |_=>(true,s)
   |_=>(true,s)
  |_=>(true,s)
 |_=>(true,s)
def CE(aO:Nat)(s:aI):Bool × aI :=
 match s.fr.getD aO .undef with
 | .vQ w id al oF n=>match s.H[id]? with
  |some (.vQ ks v rZ)=>if al=v/\oF=0/\w=ks.length then (bf n rZ.length,⟨s.fr.set aO (.vQ w id (v+1) 0 n),s.H.set id (.vQ ks (v+1) (rZ.take n))⟩) else (true,s)
  |_=>(true,s)
 |_=>(true,s)
def CF(aO l:Nat)(s:aI):Bool × aI :=
 match s.fr.getD aO .undef with
 | .map id=>match s.H[id]? with
  |some (.map K (.one (.list ks)) [] cl)=>(km (ax s.H) l,⟨s.fr,s.H.set id (.br l K ks [] cl)⟩)
  |_=>(true,s)
 |_=>(true,s)
def CG(r:LG):LG:=[gi r 0,gi r 1,gi r 2,.t false,.t true]
def CH(aO l:Nat)(s:aI):Bool × aI :=
 match s.fr.getD aO .undef with
 | .map id=>match s.H[id]? with
  |some (.map K (.one (.list ks)) rZ cl)=>(km (ax s.H) l,⟨s.fr,s.H.set id (.br l K ks (rZ.map CG) cl)⟩)
  |_=>(true,s)
 |_=>(true,s)
def Xy(rZ:LL):Bool:=rZ.all fun r=>(gi r 3).bV||(gi r 4).bV
def CI(aO:Nat)(s:aI):Bool × aI :=
 match s.fr.getD aO .undef with
 | .map id=>match s.H[id]? with
  |some (.br _ K ks rZ cl)=>(Xy rZ,⟨s.fr,s.H.set id (.map K (.one (.list ks)) rZ cl)⟩)
  |_=>(true,s)
 |_=>(true,s)
def N9(rZ:LL):Bool:=rZ.all fun r=>(gi r 3).bV
def CJ(aO:Nat)(s:aI):Bool × aI :=
 match s.fr.getD aO .undef with
 | .map id=>match s.H[id]? with
  |some (.br _ K ks rZ cl)=>(N9 rZ,⟨s.fr,s.H.set id (.map K (.one (.list ks)) rZ cl)⟩)
  |_=>(true,s)
 |_=>(true,s)
def CK(aO l:Nat)(s:aI):Bool × aI :=
 match s.fr.getD aO .undef with
 | .vQ _ id _ _ _=>match s.H[id]? with
  |some (.vQ [.list ks] 0 rZ)=>(tC (km (ax s.H) l) (cR 0 rZ.length),⟨s.fr,s.H.set id (.cM l ks rZ.length [])⟩)
  |_=>(true,s)
 |_=>(true,s)
def CL(aO l:Nat)(s:aI):Bool × aI :=
 match s.fr.getD aO .undef with
 | .map id=>match s.H[id]? with
  |some (.map K (.agg [.list ks,.list _]) [] cl)=>(km (ax s.H) l,⟨s.fr,s.H.set id (.bM l K ks [] cl)⟩)
  |_=>(true,s)
 |_=>(true,s)
def CM(aO:Nat)(s:aI):Bool × aI :=
 match s.fr.getD aO .undef with
 | .map id=>match s.H[id]? with
  |some (.bM _ K ks rZ cl)=>(N9 rZ,⟨s.fr,s.H.set id (.map K (.agg [.list ks,.list ks]) rZ cl)⟩)
  |_=>(true,s)
 |_=>(true,s)
def CN(aO l:Nat)(a b:Ct)(s:aI):Bool × aI :=
 match s.fr.getD aO .undef with
 | .map id=>match s.H[id]? with
  |some (.map K _ [] cl)=>(km (ax s.H) l,⟨s.fr,s.H.set id (.mm l K a b [] [] cl)⟩)
  |_=>(true,s)
 |_=>(true,s)
def CO(aO c l:Nat)(b d:Ct)(s:aI):Bool × aI :=
 match s.fr.getD aO .undef with
 | .ptr a _ _ _ _=>match s.H[a]? with
  | some (.raw (.box cells))=>match cells[c]? with
   | some (.map id)=>match s.H[id]? with
    |some (.map K _ rZ cl)=>(tC (km (ax s.H) l) rZ.isEmpty,⟨s.fr,s.H.set id (.mm l K b d [] [] cl)⟩)
    |_=>(true,s)
   |_=>(true,s)
  |_=>(true,s)
 |_=>(true,s)
def HL(id:Nat)(s:aI):Bool × aI :=
 match s.H[id]? with
 |some (.raw (.box _))=>(true,⟨s.fr,s.H.set id (.vQ [] 1 [])⟩)
 |some (.map ..)=>(true,⟨s.fr,s.H.set id (.vQ [] 1 [])⟩)
 |some (.mm ..)=>(true,⟨s.fr,s.H.set id (.vQ [] 1 [])⟩)
 |some (.cM ..)=>(true,⟨s.fr,s.H.set id (.vQ [] 1 [])⟩)
 |_=>(true,s)
def HM(aO c:Nat)(ks:List Kd)(s:aI):Bool × aI :=
 match s.fr.getD aO .undef with
 | .ptr id _ _ _ _=>match s.H[id]? with
  | some (.raw (.box cells))=>match cells[c]? with
   | some (.list w rZ)=>match oI ks rZ with
    |some a=>if w=ks.length then (true,⟨s.fr,s.H.set id (.raw (.box (cells.set c (.listF ks a))))⟩) else (true,s)
    |none=>(true,s)
   |_=>(true,s)
  |_=>(true,s)
 |_=>(true,s)
def CP:Hint->aI->Bool × aI
 |.freeze i,s=>CC i s
 | .NZ i ks,s=>match isNil (s.fr.getD i .undef) with
  |true=>(true,yF i ks s)
  |false=>(true,s)
 |.CB i c ks,s=>HK i c ks s
 |.N0 i,s=>CE i s
 |.N1 i c,s=>CD i c s
 |.hole ks,s=>(true,⟨s.fr,s.H++[.vQ ks 0 []]⟩)
 |.N2,s=>(true,⟨s.fr,s.H++[.raw .dP]⟩)
 |.br i l,s=>CF i l s
 |.N3 i,s=>CJ i s
 |.N4 i l,s=>CH i l s
 |.N5 i,s=>CI i s
 |.mm i l a b,s=>CN i l a b s
 |.N6 i c l a b,s=>CO i c l a b s
 |.forget i,s=>HL i s
 |.N7 i c ks,s=>HM i c ks s
 |.cM i l,s=>CK i l s
 |.bM i l,s=>CL i l s
 |.N8 i,s=>CM i s
def yX:List Hint->aI->Bool × aI
 | [],s=>(true,s)
 | h::a,s=>match CP h s with
  | (b,s1)=>match yX a s1 with
   |(d,s2)=>(b&&d,s2)
def Xz{m:Nat}{aO:Nat}{s:aI}(h:(CC aO s).1=true):bD m s.aw (CC aO s).2.aw:=by
 unfold CC at h|-;split
 case h_2=>exact bD.refl _
 rename_i w id al oF n N;split
 case h_2=>exact bD.refl _
 rename_i ks v rZ A;split
 case isFalse=>exact bD.refl _
 rename_i F;obtain⟨rfl,rfl,rfl⟩:=F;simp only[N,A,and_self,if_true]at h;have hn:=bA h;subst hn;intro E a d;have hH:E.H=ax s.H:=d.H;have B:=ae.Bi d.heap id;have Y:=aG.drop d.heap id fun o q=>by
  rw[show E.H[id]? = some (.vQ ks.length al (rZ.map (a8 ks))) by rw[hH]; exact bx A]at q;cases q;rfl
 have J:ax (s.H.set id (.raw .dead))=E.H.set id .dead:=by rw[cP,hH]; rfl
 refine⟨E.ad.set id none,E.X,?_,?_⟩
 ·simp only [aI.aw]
  rw[J];refine⟨rfl,?_,d.defers,Y⟩;refine Cq (dX B _ d.fr) fun c F=>?_;have z:=HA d.fr F;rw[show s.aw.fr=s.fr from rfl,N]at z;have M:E.H[id]? = some (.vQ ks.length al (rZ.map (a8 ks))):=by rw[hH]; exact bx A
  have q:=d.heap.obj id _ M;rw[ki];simp only[ab]at z|-;obtain⟨⟨aN,cap,rfl,W,_⟩,_,I⟩:=z;obtain⟨q1,q2⟩:=I ⟨_,M,rfl⟩;have O:fg (rZ.map (a8 ks)):=by
   intro r z;obtain⟨g,_,rfl⟩:=gG.1 z;exact gI ks g
  refine⟨O,aN,cap,by simp,by simpa using W,?_⟩;simp only[aV]at q;rcases q with⟨y,U⟩|⟨b,mm,y,U,I,_,h4⟩
  ·exact .inl U
  ·obtain ⟨g1, o, g2, V⟩ := q2 b mm y
   by_cases hm:rZ=[]
   ·subst hm; exact .inl rfl
   ·right
    have:0<rZ.length:=by cases rZ with|nil=>exact(hm rfl).elim|cons _ _=>simp
    simp at I;have q:=g2 (by omega);simp at q;subst q;simp only[lv]at V;refine⟨b,0,V.1,⟨(d.heap.lt id b mm y).1,?_,(d.heap.lt id b mm y).2⟩,kh B.toC _ O rfl h4⟩;rintro(⟨j,c',t⟩|⟨l,k,c',t⟩)
    case inr=>exact d.heap.dm _ _ _ _ _ _ y t
    simp only[eU]at t;split at t
    ·split at t<;>cases t
    ·rename_i hne
     exact hne (d.heap.inj _ _ _ _ _ y t)
 ·simp only [aI.aw]
  rw[J];exact B.toM
def XA{m:Nat}{aO c:Nat}{ks:List Kd}{s:aI}:bD m s.aw (HK aO c ks s).2.aw:=by
 unfold HK;split
 case h_2=>exact bD.refl _
 rename_i id al k row col hsl;split
 case h_2=>exact bD.refl _
 rename_i cells hid;split
 case h_2=>exact bD.refl _
 rename_i a0 ha0;split
 case h_2=>exact bD.refl _
 rename_i hnil;intro E a g;have hH:E.H=ax s.H:=g.H;have hlen:E.H.length=s.H.length:=by rw[hH,fj]
 have B:E.le (E.push E.w (.vQ ks.length 0 []) none):=ae.lF g.heap.len (Ext.refl _) (fun b n h=>by cases h);have hobj:aV (E.push E.w (.vQ ks.length 0 []) none) E.H.length (.vQ ks.length 0 []):=by
  simp only[aV,ae.push];refine .inl ⟨?_,trivial⟩;rw[jz (by rw[g.heap.len]; exact aY _),g.heap.len,pt];rfl
 have t:aG (E.push E.w (.vQ ks.length 0 []) none):=aG.push g.heap (Ext.refl _) (fun b n h=>by cases h) hobj;generalize y:E.push E.w (.vQ ks.length 0 []) none=d at B t;have F:d.w=E.w:=by rw[<-y]; rfl
 have I:d.X=E.X:=by rw[<-y]; rfl
 have J:d.H=ax (s.H++[.vQ ks 0 []]):=by rw[<-y,jm,<-hH]; rfl
 have Y:id<s.H.length:=aX hid;have z:d.H[id]? = some (.box cells):=by
  rw[J];exact bx (H:=s.H++[.vQ ks 0 []]) (o:=.raw (.box cells)) (by rw[dr Y]; exact hid)
 have ho:=t.obj id _ z;simp only[aV]at ho;obtain⟨b,n,M,h2,N⟩:=ho;have hver:∀ v,(ah.box (cells.set c (.vQ ks.length s.H.length 0 0 0))).aU = some v->(ah.box cells).aU = some v:=fun v O=>by simpa[ah.aU]using O
 have A:=ae.pM (o':=.box (cells.set c (.vQ ks.length s.H.length 0 0 0))) (w':=d.w) t z M hver rfl (fun _ _=>rfl);have hnew:d.H[s.H.length]? = some (.vQ ks.length 0 []):=by
  rw[J];have e:(s.H++[au.vQ ks 0 []])[s.H.length]? = some (au.vQ ks 0 []):=by rw[jz (aY _),pt]; rfl
  exact bx e
 have hloc:d.ad[s.H.length]? = some none:=by
  rw[<-y];simp only[ae.push];rw[jz (by rw[g.heap.len]; omega),g.heap.len,hlen,pt];rfl
 have hrel:∀ v,ab d a0 v->ab { w:=d.w,H:=d.H.set id (.box (cells.set c (.vQ ks.length s.H.length 0 0 0))),ad:=d.ad,X:=d.X } (.vQ ks.length s.H.length 0 0 0) v:=by
  intro v O;obtain⟨aN,rfl⟩:=M4 hnil O;simp only[ab];have hne:id≠s.H.length:=by omega
  refine⟨⟨aN,0,rfl,aY _,fun h=>absurd h (Nat.lt_irrefl _)⟩,⟨.vQ ks.length 0 [],by rw[bc hne]; exact hnew,rfl,fun v h=>fO _⟩,fun _=>⟨fun _=>⟨trivial,trivial,aN,rfl⟩,fun b m hb=>?_⟩⟩;rw[hloc]at hb;cases hb
 have hHR2:=aG.set (w':=d.w) t z M hver rfl (fun _ _=>rfl) (by
  simp only[aV];refine⟨b,n,M,by simpa using h2,?_⟩;rw[kg]at N|-;intro i x q;rw[eU]at q;split at q
  ·rename_i e
   subst e;split at q
   ·cases q
    obtain⟨v,U,V,W⟩:=N c a0 ha0;exact⟨v,U,V,hrel v W⟩
   ·cases q
  ·obtain ⟨v, U, V, W⟩ := N i x q
   exact⟨v,U,V,bG A x W⟩)
 have hden:ax (s.H.set id (.raw (.box (cells.set c (.vQ ks.length s.H.length 0 0 0))))++[.vQ ks 0 []])=d.H.set id (.box (cells.set c (.vQ ks.length s.H.length 0 0 0))):=by
  rw[J,jm,jm,cP,A3 _ _ (by rw[fj]; exact Y)];rfl
 refine⟨d.ad,E.X,?_,?_⟩
 ·simp only [aI.aw]
  rw[hden];rw[F,I]at hHR2;refine⟨rfl,?_,g.defers,hHR2⟩;have:=dX A _ (dX B _ g.fr);rw[F,I]at this;exact this
 ·simp only [aI.aw]
  rw[hden];have:=(B.trans A).toM (m:=m);rw[F,I]at this;exact this
def XB{m:Nat}{aO c:Nat}{s:aI}(h:(CD aO c s).1=true):bD m s.aw (CD aO c s).2.aw:=by
 unfold CD at h|-;split
 case h_2=>exact bD.refl _
 rename_i id ver0 k row col hsl;split
 case h_2=>exact bD.refl _
 rename_i cells B;split
 case h_2=>exact bD.refl _
 rename_i w g al oF n U;split
 case h_2=>exact bD.refl _
 rename_i ks v rZ J;split
 case isFalse=>exact bD.refl _
 rename_i hc;obtain⟨rfl,rfl,rfl⟩:=hc;simp only[hsl,B,U,J,and_self,if_true]at h;have hn:=bA h;subst hn;intro E a q;have hH:E.H=ax s.H:=q.H;have hne:id≠g:=fun e=>by
  rw[e,J]at B;cases B
 have W:E.H[id]? = some (.box cells):=by rw[hH]; exact bx B
 have V:E.H[g]? = some (.vQ ks.length al (rZ.map (a8 ks))):=by rw[hH]; exact bx J
 obtain⟨b0,n0,k1,k2,k3⟩:=q.heap.obj id _ W;rw[kg]at k3;obtain⟨cv,c1,c2,c3⟩:=k3 c _ U;have hfr:=Gl q.heap V c3;have N:=ae.Bi q.heap g;have F:=aG.drop q.heap g fun o ho=>by
  rw[V]at ho;cases ho;rfl
 generalize y:({ w:=E.w,H:=E.H.set g .dead,ad:=E.ad.set g none,X:=E.X }:ae)=d at N F hfr;have I:d.w=E.w:=by rw[<-y]
 have O:d.X=E.X:=by rw[<-y]
 have M:d.H[id]? = some (.box cells):=by
  rw[<-y];show (E.H.set g .dead)[id]? = _
  rw[bc (Ne.symm hne)];exact W
 have hl1:d.ad[id]? = some (some (b0,n0)):=by
  rw[<-y];show (E.ad.set g none)[id]? = _
  rw[bc (Ne.symm hne)];exact k1
 obtain⟨b,n,z,h2,h3⟩:=F.obj id _ M;have hbb:b=b0:=by
  rw[hl1]at z;cases z;rfl
 subst hbb;have Y:∀ v,(ah.box (cells.set c (.listF ks rZ))).aU = some v->(ah.box cells).aU = some v:=fun v hv=>by simpa[ah.aU]using hv
 have A:=ae.pM (o':=.box (cells.set c (.listF ks rZ))) (w':=d.w) F M z Y rfl (fun _ _=>rfl);have hHR2:=aG.set (w':=d.w) F M z Y rfl (fun _ _=>rfl) (by
  simp only[aV];refine⟨b,n,z,by simpa using h2,?_⟩;rw[kg]at h3|-;intro i x t;rw[eU]at t;split at t
  ·rename_i e
   subst e;split at t
   ·cases t
    refine⟨cv,by rw[show ({ w:=d.w,H:=_,ad:=d.ad,X:=d.X }:ae).w=E.w from I]; exact c1,c2,bG A _ hfr⟩
   ·cases t
  ·obtain ⟨v, g1, g2, g3⟩ := h3 i x t
   exact⟨v,g1,g2,bG A x g3⟩)
 have hden:ax ((s.H.set g (.raw .dead)).set id (.raw (.box (cells.set c (.listF ks rZ)))))=d.H.set id (.box (cells.set c (.listF ks rZ))):=by
  rw[cP,cP,<-hH,<-y];rfl
 refine⟨d.ad,E.X,?_,?_⟩
 ·simp only [aI.aw]
  rw[hden];rw[I,O]at hHR2;refine⟨rfl,?_,q.defers,hHR2⟩;have:=dX A _ (dX N _ q.fr);rw[I,O]at this;exact this
 ·simp only [aI.aw]
  rw[hden];have:=(N.trans A).toM (m:=m);rw[I,O]at this;exact this
def XC{m:Nat}{aO c:Nat}{ks:List Kd}{s:aI}:bD m s.aw (HM aO c ks s).2.aw:=by
 unfold HM;split
 case h_2=>exact bD.refl _
 rename_i id ver0 k row col hsl;split
 case h_2=>exact bD.refl _
 rename_i cells J;split
 case h_2=>exact bD.refl _
 rename_i w rZ F;split
 case h_2=>exact bD.refl _
 rename_i q M;split
 case isFalse=>exact bD.refl _
 rename_i N;subst N;intro E a d;have hH:E.H=ax s.H:=d.H;have t:E.H[id]? = some (.box cells):=by rw[hH]; exact bx J
 obtain⟨b,n,y,O,z⟩:=d.heap.obj id _ t;have A:∀ v,(ah.box (cells.set c (.listF ks q))).aU = some v->(ah.box cells).aU = some v:=fun v U=>by simpa[ah.aU]using U
 have h:=ae.pM (o':=.box (cells.set c (.listF ks q))) (w':=E.w) d.heap t y A rfl (fun _ _=>rfl);have I:=aG.set (w':=E.w) d.heap t y A rfl (fun _ _=>rfl) (by
  simp only[aV];refine⟨b,n,y,by simpa using O,?_⟩;rw[kg]at z|-;intro i x g;rw[eU]at g;split at g
  ·rename_i e
   subst e;split at g
   ·cases g
    obtain⟨V,W,Y,c3⟩:=z c _ F;refine⟨V,W,Y,bG h _ ?_⟩;rw[ki,tf M];exact c3
   ·cases g
  ·obtain ⟨v, g1, g2, g3⟩ := z i x g
   exact⟨v,g1,g2,bG h x g3⟩)
 have B:ax (s.H.set id (.raw (.box (cells.set c (.listF ks q)))))=E.H.set id (.box (cells.set c (.listF ks q))):=by rw[cP,<-hH]; rfl
 refine⟨E.ad,E.X,?_,?_⟩
 ·simp only [aI.aw]
  rw[B];exact⟨rfl,dX h _ d.fr,d.defers,I⟩
 ·simp only [aI.aw]
  rw[B];exact h.toM
def XD{m:Nat}{aO:Nat}{s:aI}(h:(CE aO s).1=true):bD m s.aw (CE aO s).2.aw:=by
 unfold CE at h|-;split
 case h_2=>exact bD.refl _
 rename_i w id al oF n M;split
 case h_2=>exact bD.refl _
 rename_i ks v rZ N;split
 case isFalse=>exact bD.refl _
 rename_i A;obtain⟨rfl,rfl,rfl⟩:=A;simp only[M,N,and_self,if_true]at h;have hn:=qL h;intro E a k;have hH:E.H=ax s.H:=k.H;have y:E.H[id]? = some (.vQ ks.length al (rZ.map (a8 ks))):=by rw[hH]; exact bx N
 have Y:=k.heap.obj id _ y;obtain⟨l,B⟩:∃ l,E.ad[id]? = some l:=by
  have:id<E.ad.length:=by rw[k.heap.len]; exact aX y
  exact⟨_,cn this⟩
 have O:E.ad.set id l=E.ad:=pL B;have J:ax (s.H.set id (.vQ ks (al+1) (rZ.take n)))=E.H.set id (.vQ ks.length (al+1) ((rZ.take n).map (a8 ks))):=by rw[cP,hH]; rfl
 have hlc:∀ b n,l=some (b,n)->E.w.heap.size<=b\/∃ m,E.ad[id]? = some (some (b,m)):=fun b n F=>.inr ⟨n,by rw[B,F]⟩;have U:∀ v u,(ah.vQ ks.length (al+1) ((rZ.take n).map (a8 ks))).aU = some v->(ah.vQ ks.length al (rZ.map (a8 ks))).aU = some u->u<=v:=by
  intro v u d q;simp[ah.aU]at d q;omega
 have V:∀ v,(ah.vQ ks.length (al+1) ((rZ.take n).map (a8 ks))).aU = some v->∀ u,(ah.vQ ks.length al (rZ.map (a8 ks))).aU = some u->u<v:=by
  intro v d u q;simp[ah.aU]at d q;omega
 have z:=ae.lG (o':=.vQ ks.length (al+1) ((rZ.take n).map (a8 ks))) (l:=l) (w':=E.w) y k.heap.len (aY _) (fun _ _ _=>rfl) hlc (.inr V) U (fun _ h=>by simp[ah.aU]at h);have W:=aG.nA (o':=.vQ ks.length (al+1) ((rZ.take n).map (a8 ks))) (l:=l) (w':=E.w) k.heap y (aY _) (fun _ _ _=>rfl) (fun b n F=>.inr ⟨n,by rw[B,F]⟩) (.inr V) U (fun _ h=>by simp[ah.aU]at h) (by
  rw[O]at z|-;simp only[aV]at Y|-;rcases Y with⟨d,q⟩|⟨b,mm,d,q,I,h4,h5⟩
  ·left
   refine⟨d,?_⟩;have:rZ=[]:=by simpa using q
   rw[this];simp
  ·right
   refine⟨b,mm,d,q,by simp at I|-; omega,?_,?_⟩
   ·intro r t
    obtain⟨g,_,rfl⟩:=gG.1 t;exact gI ks g
   ·rw [ox] at h5 |-
    intro i r hi;simp only[cX,om]at hi;split at hi
    ·obtain ⟨g1, g2⟩ := h5 i r (by simpa using hi)
     exact⟨g1,Bh (fun a c t=>bG z a t) rfl g2⟩
    ·simp at hi)
 rw[O]at z W;refine⟨E.ad,E.X,?_,?_⟩
 ·simp only [aI.aw]
  rw[J];refine⟨rfl,?_,k.defers,W⟩;refine Cq (dX z _ k.fr) fun c A=>?_;have t:=HA k.fr A;rw[show s.aw.fr=s.fr from rfl,M]at t;simp only[ab]at t|-;obtain⟨d,q,I⟩:=t;exact⟨d,⟨.vQ ks.length (al+1) ((rZ.take n).map (a8 ks)),bK (aX y),rfl,fun v hv=>by simp[ah.aU]at hv; omega⟩,fun _=>I ⟨_,y,rfl⟩⟩
 ·simp only [aI.aw]
  rw[J];exact z.toM
def XE{m:Nat}{ks:List Kd}{s:aI}:bD m s.aw (aI.aw ⟨s.fr,s.H++[.vQ ks 0 []]⟩):=fun E a d=>by
 have hH:E.H=ax s.H:=d.H;have k:E.le (E.push E.w (.vQ ks.length 0 []) none):=ae.lF d.heap.len (Ext.refl _) (fun b n h=>by cases h);have q:aV (E.push E.w (.vQ ks.length 0 []) none) E.H.length (.vQ ks.length 0 []):=by
  simp only[aV,ae.push];refine .inl ⟨?_,trivial⟩;rw[jz (by rw[d.heap.len]; exact aY _),d.heap.len,pt];rfl
 have t:aG (E.push E.w (.vQ ks.length 0 []) none):=aG.push d.heap (Ext.refl _) (fun b n h=>by cases h) q;have g:(aI.aw ⟨s.fr,s.H++[.vQ ks 0 []]⟩).H=E.H++[.vQ ks.length 0 []]:=by
  rw[hH];simp[aI.aw,ax,au.aw]
 refine⟨E.ad++[none],E.X,?_,?_⟩
 ·rw [g]
  exact⟨g.symm,dX k _ d.fr,d.defers,t⟩
 ·rw [g]
  exact k.toM
def XF{m:Nat}{s:aI}:bD m s.aw (aI.aw ⟨s.fr,s.H++[.raw .dP]⟩):=fun E a d=>by
 have hH:E.H=ax s.H:=d.H;have k:E.le (E.push E.w (.dP) none):=ae.lF d.heap.len (Ext.refl _) (fun b n h=>by cases h);have q:aV (E.push E.w (.dP) none) E.H.length (.dP):=by
  simp only[aV,ae.push];rw[jz (by rw[d.heap.len]; exact aY _),d.heap.len,pt];rfl
 have t:aG (E.push E.w (.dP) none):=aG.push d.heap (Ext.refl _) (fun b n h=>by cases h) q;have g:(aI.aw ⟨s.fr,s.H++[.raw .dP]⟩).H=E.H++[.dP]:=by
  rw[hH];simp[aI.aw,ax,au.aw]
 refine⟨E.ad++[none],E.X,?_,?_⟩
 ·rw [g]
  exact⟨g.symm,dX k _ d.fr,d.defers,t⟩
 ·rw [g]
  exact k.toM
def XG{m:Nat}{aO l:Nat}{s:aI}(h:(CF aO l s).1=true):bD m s.aw (CF aO l s).2.aw:=by
 unfold CF at h|-;split
 case h_2=>exact bD.refl _
 rename_i id t;split
 case h_2=>exact bD.refl _
 rename_i K ks cl g;simp only[t,g]at h;intro E a b;have hH:E.H=ax s.H:=b.H;have q:E.H[id]? = some (.map [] cl):=by rw[hH]; exact bx g
 obtain⟨v,k⟩:=Uv (w:=ks.length) b.heap q (by rw[hH]; exact h);have d:ax (s.H.set id (.br l K ks [] cl))=E.H.set id (.br l ks.length [] cl):=by rw[cP,hH]; rfl
 refine⟨E.ad,E.X,?_,?_⟩
 ·simp only [aI.aw]
  rw[d];exact⟨rfl,dX k _ b.fr,b.defers,v⟩
 ·simp only [aI.aw]
  rw[d];exact k.toM
def XH{m:Nat}{aO l:Nat}{d g:Ct}{s:aI}(h:(CN aO l d g s).1=true):bD m s.aw (CN aO l d g s).2.aw:=by
 unfold CN at h|-;split
 case h_2=>exact bD.refl _
 rename_i id w;split
 case h_2=>exact bD.refl _
 rename_i K V cl q;simp only[w,q]at h;intro E a b;have hH:E.H=ax s.H:=b.H;have v:E.H[id]? = some (.map [] cl):=by rw[hH]; exact bx q
 obtain⟨y,t⟩:=Le b.heap v (by rw[hH]; exact h);have k:ax (s.H.set id (.mm l K d g [] [] cl))=E.H.set id (.mm l [] [] cl):=by rw[cP,hH]; rfl
 refine⟨E.ad,E.X,?_,?_⟩
 ·simp only [aI.aw]
  rw[k];exact⟨rfl,dX t _ b.fr,b.defers,y⟩
 ·simp only [aI.aw]
  rw[k];exact t.toM
def XI{m:Nat}{aO c l:Nat}{d g:Ct}{s:aI}(h:(CO aO c l d g s).1=true):bD m s.aw (CO aO c l d g s).2.aw:=by
 unfold CO at h|-;split
 case h_2=>exact bD.refl _
 rename_i a _ _ _ _ w;split
 case h_2=>exact bD.refl _
 rename_i cells y;split
 case h_2=>exact bD.refl _
 rename_i id z;split
 case h_2=>exact bD.refl _
 rename_i K V rZ cl q;simp only[w,y,z,q,tD]at h;obtain⟨h,he⟩:=h;have he:rZ=[]:=by cases rZ with|nil=>rfl|cons _ _=>cases he
 subst he;intro E B b;have hH:E.H=ax s.H:=b.H;have v:E.H[id]? = some (.map [] cl):=by rw[hH]; exact bx q
 obtain⟨A,t⟩:=Le b.heap v (by rw[hH]; exact h);have k:ax (s.H.set id (.mm l K d g [] [] cl))=E.H.set id (.mm l [] [] cl):=by rw[cP,hH]; rfl
 refine⟨E.ad,E.X,?_,?_⟩
 ·simp only [aI.aw]
  rw[k];exact⟨rfl,dX t _ b.fr,b.defers,A⟩
 ·simp only [aI.aw]
  rw[k];exact t.toM
def aG.forget{E:ae}(H:aG E){id l0:Nat}{o:ah}(A:E.H[id]? = some o)(hlab:o.label=some l0)(Y:o.aU = some 0) :
  aG { w:=E.w,H:=E.H.set id (.vQ 0 1 []),ad:=E.ad.set id none,X:=E.X.re (iH E.X.r l0) }/\E.le { w:=E.w,H:=E.H.set id (.vQ 0 1 []),ad:=E.ad.set id none,X:=E.X.re (iH E.X.r l0) }:=by
 have I:=aX A;have hltl:id<E.ad.length:=by rw[H.len]; exact I
 have J:∀(i:Nat) x,(E.H.set id (.vQ 0 1 []))[i]? = some x->(i=id/\x=.vQ 0 1 [])\/(i≠id/\E.H[i]? = some x):=fun i x hi=>by
  by_cases d:i=id
  ·subst d
   rw[bK I]at hi;cases hi;exact .inl ⟨rfl,rfl⟩
  ·rw [bc (Ne.symm d)] at hi
   exact .inr ⟨d,hi⟩
 have B:∀(i b m:Nat),(E.ad.set id none)[i]? = some (some (b,m))->i≠id/\E.ad[i]? = some (some (b,m)):=fun i b m hi=>by
  by_cases d:i=id
  ·subst d
   rw[bK hltl]at hi;cases hi
  ·rw [bc (Ne.symm d)] at hi
   exact⟨d,hi⟩
 have M:E.le { w:=E.w,H:=E.H.set id (.vQ 0 1 []),ad:=E.ad.set id none,X:=E.X.re (iH E.X.r l0) }:=by
  refine⟨fun i al N=>?_,aY _,fun _ _ _=>rfl,fun b hb hno=>?_,fun i al N z=>?_,⟨rfl,rfl⟩,fun l h hh=>?_,.refl _,fun i l x g q O=>?_⟩
  rotate_right
  ·by_cases d : i = id
   ·subst d
    obtain⟨y,t,U⟩:=O;rw[show (E.H.set i (.vQ 0 1 []))[i]? = some (.vQ 0 1 []) from bK I]at t;cases t;cases U
   ·have V : l ≠ l0 := fun V => d (H.uniq i id x o l g A (ah.nz q) (by rw [V]; exact hlab))
    exact⟨⟨[],by rw[fe]; exact iN V⟩,x,by simp only[]; rw[bc (Ne.symm d)]; exact g,q⟩
  ·obtain ⟨x, g, q⟩ := N
   by_cases d:i=id
   ·subst d
    rw[A]at g;cases g;have:=q.2 0 Y;exact⟨.vQ 0 1 [],by simp only[]; rw[bK I],rfl,fun v O=>by cases O; omega⟩
   ·exact⟨x,by simp only[]; rw[bc (Ne.symm d)]; exact g,q⟩
  ·rintro (⟨i, c, hi⟩ | ⟨l, h, m, hm⟩)
   ·exact hno (.inl ⟨i,c,(B i b c hi).2⟩)
   ·exact hno (.inr ⟨l,h,m,(jE hm).1⟩)
  ·obtain ⟨x, g, q⟩ := z
   rcases J i x g with⟨rfl,rfl⟩|⟨d,t⟩
   ·cases q
    obtain⟨y,t,U⟩:=N;rw[A]at t;cases t;have:=U.2 0 Y;omega
   ·exact⟨⟨x,t,q⟩,bc (Ne.symm d)⟩
  ·refine ⟨?_, fun y W => (jE W).1⟩
   show h<(iH E.X.r l0 l).length
   rw[Lb];exact hh
 refine⟨⟨by simp[H.len],fun i j b m n hi hj=>H.inj i j b m n (B _ _ _ hi).2 (B _ _ _ hj).2,fun i b m hi=>H.lt i b m (B _ _ _ hi).2,H.X,fun i x hi=>?_,H.gL.bZ M.toC,fun l h l' h' b m n g q=>H.fC _ _ _ _ _ _ _ (jE g).1 (jE q).1,fun i b m l h n hi F=>H.dm _ _ _ _ _ _ (B _ _ _ hi).2 (jE F).1,fun l h b m F=>H.cS _ _ _ _ (jE F).1,fun i k x y l hi F g q=>?_,fun l hn h y W=>?_⟩,M⟩
 ·rcases J i x hi with ⟨rfl, rfl⟩ | ⟨d, t⟩
  ·simp only [aV]
   exact .inl ⟨bK hltl,trivial⟩
  ·refine mo (fun a _ hr => bG M a hr) (bc (Ne.symm d)) (fun _ _ _ => rfl) (fun l z => ?_) (H.obj i x t)
   have hne2:l≠l0:=fun e=>d (H.uniq i id x o l t A z (by rw[hlab,e]));exact⟨iN hne2,fun _ _ _ _=>rfl⟩
 ·have key:∀ (i:Nat) x,(E.H.set id (.vQ 0 1 []))[i]? = some x->x.label=some l->E.H[i]? = some x:=by
   intro i x hi z;rcases J i x hi with⟨rfl,rfl⟩|⟨d,t⟩
   ·cases z
   ·exact t
  exact H.uniq i k x y l (key i x hi g) (key k y F q) g q
 ·obtain ⟨g1, g2⟩ := jE W
  refine H.iD l (fun i x hi z=>?_) h y g1;by_cases e:i=id
  ·subst e
   rw[A]at hi;cases hi;exact g2 (by rw[hlab]at z; cases z; rfl)
  ·exact hn i x (by show (E.H.set id (.vQ 0 1 []))[i]? = _; rw[bc (Ne.symm e)]; exact hi) z
def aG.XJ{E:ae}(H:aG E){id:Nat}{o:ah}(b:E.H[id]? = some o)(hlab:o.label=none)(k:o.aU = some 0) :
  aG { w:=E.w,H:=E.H.set id (.vQ 0 1 []),ad:=E.ad.set id none,X:=E.X }/\E.le { w:=E.w,H:=E.H.set id (.vQ 0 1 []),ad:=E.ad.set id none,X:=E.X }:=by
 have z:=aX b;have y:id<E.ad.length:=by rw[H.len]; exact z
 have d:∀ v,(ah.vQ 0 1 []).aU = some v->∀ u,o.aU = some u->u<v:=fun v g u a=>by
  rw[k]at a;cases a;cases g;exact Nat.zero_lt_one
 have q:∀ v u,(ah.vQ 0 1 []).aU = some v->o.aU = some u->u<=v:=fun v u g a=>Nat.le_of_lt (d v g u a);have t:o.born=true->o.aU = none->(ah.vQ 0 1 []).aU = none:=fun _ h=>by rw[k]at h; cases h
 refine⟨aG.nA H b (aY _) (fun _ _ _=>rfl) (fun _ _ h=>by cases h) (.inr d) q t ?_ (hlab:=hlab),ae.lG b H.len (aY _) (fun _ _ _=>rfl) (fun _ _ h=>by cases h) (.inr d) q t (hmm:=.inl (ah.Bb hlab))⟩;simp only[aV];exact .inl ⟨bK y,trivial⟩
def XK{m:Nat}{id:Nat}{s:aI}:bD m s.aw (HL id s).2.aw:=by
 have q:∀ o:au,s.H[id]? = some o->o.aw.label=none->o.aw.aU = some 0->bD m s.aw (aI.aw ⟨s.fr,s.H.set id (.vQ [] 1 [])⟩):=fun o d t v=>by
  intro E a b;have hH:E.H=ax s.H:=b.H;obtain⟨k,h⟩:=aG.XJ b.heap (by rw[hH]; exact bx d) t v;have g:ax (s.H.set id (.vQ [] 1 []))=E.H.set id (.vQ 0 1 []):=by rw[cP,hH]; rfl
  refine⟨E.ad.set id none,E.X,?_,?_⟩
  ·simp only [aI.aw]
   rw[g];exact⟨rfl,dX h _ b.fr,b.defers,k⟩
  ·simp only [aI.aw]
   rw[g];exact h.toM
 unfold HL;split
 ·rename_i d
  exact q _ d rfl rfl
 ·rename_i d
  exact q _ d rfl rfl
 ·rename_i l K w y rZ mem cl d
  intro E a b;have hH:E.H=ax s.H:=b.H;obtain⟨k,h⟩:=aG.forget (l0:=l) b.heap (by rw[hH]; exact bx d) rfl rfl;have g:ax (s.H.set id (.vQ [] 1 []))=E.H.set id (.vQ 0 1 []):=by rw[cP,hH]; rfl
  refine⟨E.ad.set id none,E.X.re (iH E.X.r l),?_,?_⟩
  ·simp only [aI.aw]
   rw[g];exact⟨rfl,dX h _ b.fr,b.defers,k⟩
  ·simp only [aI.aw]
   rw[g];exact h.toM
 ·rename_i l ks n z d
  intro E a b;have hH:E.H=ax s.H:=b.H;obtain⟨k,h⟩:=aG.forget (l0:=l) b.heap (by rw[hH]; exact bx d) rfl rfl;have g:ax (s.H.set id (.vQ [] 1 []))=E.H.set id (.vQ 0 1 []):=by rw[cP,hH]; rfl
  refine⟨E.ad.set id none,E.X.re (iH E.X.r l),?_,?_⟩
  ·simp only [aI.aw]
   rw[g];exact⟨rfl,dX h _ b.fr,b.defers,k⟩
  ·simp only [aI.aw]
   rw[g];exact h.toM
 ·exact bD.refl _
def XL{m:Nat}{aO l:Nat}{s:aI}(h:(CK aO l s).1=true):bD m s.aw (CK aO l s).2.aw:=by
 unfold CK at h|-;split
 case h_2=>exact bD.refl _
 rename_i _ id _ _ _ v;split
 case h_2=>exact bD.refl _
 rename_i ks rZ g;simp only[v,g,tD]at h;obtain⟨h,y⟩:=h;intro E a b;have hH:E.H=ax s.H:=b.H;have t:E.H[id]? = some (.vQ 1 0 (rZ.map (a8 [.list ks]))):=by rw[hH]; exact bx g
 have w:rZ.map (a8 [.list ks])≠[]:=by
  intro e;rw[List.map_eq_nil_iff]at e;subst e;cases y
 obtain⟨z,q⟩:=UJ (k:=ks.length) b.heap t w (by rw[hH]; exact h);have d:ax (s.H.set id (.cM l ks rZ.length []))=E.H.set id (.cM l ks.length (rZ.map (a8 [.list ks])).length []):=by rw[cP,hH,fJ]; rfl
 refine⟨E.ad,E.X,?_,?_⟩
 ·simp only [aI.aw]
  rw[d];exact⟨rfl,dX q _ b.fr,b.defers,z⟩
 ·simp only [aI.aw]
  rw[d];exact q.toM
def XM{m:Nat}{aO l:Nat}{s:aI}(h:(CL aO l s).1=true):bD m s.aw (CL aO l s).2.aw:=by
 unfold CL at h|-;split
 case h_2=>exact bD.refl _
 rename_i id t;split
 case h_2=>exact bD.refl _
 rename_i K ks y cl g;simp only[t,g]at h;intro E a b;have hH:E.H=ax s.H:=b.H;have q:E.H[id]? = some (.map [] cl):=by rw[hH]; exact bx g
 obtain⟨v,k⟩:=UM (w:=ks.length) b.heap q (by rw[hH]; exact h);have d:ax (s.H.set id (.bM l K ks [] cl))=E.H.set id (.bM l ks.length [] cl):=by rw[cP,hH]; rfl
 refine⟨E.ad,E.X,?_,?_⟩
 ·simp only [aI.aw]
  rw[d];exact⟨rfl,dX k _ b.fr,b.defers,v⟩
 ·simp only [aI.aw]
  rw[d];exact k.toM
def XN{m:Nat}{aO:Nat}{s:aI}(h:(CM aO s).1=true):bD m s.aw (CM aO s).2.aw:=by
 unfold CM at h|-;split
 case h_2=>exact bD.refl _
 rename_i id W;split
 case h_2=>exact bD.refl _
 rename_i l K ks rZ cl A;simp only[W,A]at h;intro E a d;have hH:E.H=ax s.H:=d.H;have v:E.H[id]? = some (.bM l ks.length (kT K ks rZ) cl):=by rw[hH]; exact bx A
 have I:=d.heap.obj id _ v;simp only[aV]at I;obtain⟨b,n,ms,g1,g2,J,Y,hh,k1,k2⟩:=I;obtain⟨h1,M⟩:=aG.F9 (o':=.map (ep K (.agg [.list ks,.list ks]) rZ) cl) d.heap v rfl rfl rfl fun B=>by
  simp only[aV];refine⟨b,n,ms,g1,g2,?_⟩;rw[fb]at J|-;obtain⟨q1,q2⟩:=J;refine⟨by simpa[ep,fK,kT]using q1,fun i x e q he=>?_⟩;unfold ep at q;rw[cX]at q;obtain⟨r,k,rfl⟩:=eG.1 q;have N:=B1 (K:=K) (ks:=ks) k;have F:(gi r 3).bV=true:=cq.1 h r (eC k);obtain⟨a1,a2,a3,a4,a5⟩:=q2 i _ e (Ln N) he;refine⟨bG B _ a1,?_,a3,a4,Ct.td (.agg [.list ks,.list ks]) (gi r 1).rV⟩;obtain⟨O,U,hab,ha1,hb1⟩:=Y e (eC he);have side:∀(s:Bool) (sl:LL),(gz s (nP K ks r)).2.1=some (sl.map (a8 ks))->ab { w:=E.w,H:=E.H.set id (.map (ep K (.agg [.list ks,.list ks]) rZ) cl),ad:=E.ad,X:=E.X.re (iH E.X.r l) } (.listF ks sl) (qP s e.val):=fun s sl hs1=>by
   have hs2:=k2 s i _ (sl.map (a8 ks)) e N hs1 he;rw[ki];simp only[ab];have hcl:fg (sl.map (a8 ks)):=by
    intro r k;obtain⟨g,_,rfl⟩:=gG.1 k;exact gI ks g
   refine⟨hcl,?_⟩;rcases hs2 with⟨s1,aN,s2⟩|⟨bb,mm,s1,s2,s3,s4,s5,s6⟩
   ·rw [s1]
    exact⟨aN,0,s2,aY _,.inl rfl⟩
   ·refine ⟨_, mm, s2, s4, .inr ⟨bb, 0, rfl, ⟨(d.heap.cS _ _ _ _ s1).1, ?_, (d.heap.cS _ _ _ _ s1).2⟩, ga (fun a _ k => bG B a k) rfl s6⟩⟩
    rintro(⟨j,c',t⟩|⟨l',k',c',t⟩)
    ·exact d.heap.dm _ _ _ _ _ _ t s1
    ·obtain ⟨j1, j2⟩ := jE t
     exact j2 (d.heap.fC _ _ _ _ _ _ _ j1 s1).1
  have r0:=side false (lN r 0) (by simp only[nP,gz,F,cT,cF]);have r1:=side true (lN r 1) (by simp only[nP,gz,F,cT]);rw[hab]at r0 r1|-;have r0:ab _ (.listF ks (lN r 0)) O:=r0;have r1:ab _ (.listF ks (lN r 1)) U:=r1;show ab _ (.agg [.listF ks (lN r 0),.listF ks (lN r 1)]) (.agg #[O,U])
  rw[ab];refine⟨_,rfl,fun y V=>?_,?_⟩
  ·simp at V
   rcases V with rfl|rfl
   ·exact ha1
   ·exact hb1
  ·simp only [ar, and_true]
   exact⟨r0,r1⟩
 have z:ax (s.H.set id (.map K (.agg [.list ks,.list ks]) rZ cl))=E.H.set id (.map (ep K (.agg [.list ks,.list ks]) rZ) cl):=by rw[cP,hH]; rfl
 refine⟨E.ad,E.X.re (iH E.X.r l),?_,?_⟩
 ·simp only [aI.aw]
  rw[z];exact⟨rfl,dX M _ d.fr,d.defers,h1⟩
 ·simp only [aI.aw]
  rw[z];exact M.toM
def XO{m:Nat}{aO:Nat}{s:aI}(h:(CJ aO s).1=true):bD m s.aw (CJ aO s).2.aw:=by
 unfold CJ at h|-;split
 case h_2=>exact bD.refl _
 rename_i id N;split
 case h_2=>exact bD.refl _
 rename_i l K ks rZ cl y;simp only[N,y]at h;intro E a d;have hH:E.H=ax s.H:=d.H;have v:E.H[id]? = some (.br l ks.length (gg K ks rZ) cl):=by rw[hH]; exact bx y
 have A:=d.heap.obj id _ v;simp only[aV]at A;obtain⟨b,n,W,Y,g2,B,hh,k1,k2⟩:=A;obtain⟨h1,F⟩:=aG.F9 (o':=.map (ep K (.one (.list ks)) rZ) cl) d.heap v rfl rfl rfl fun z=>by
  simp only[aV];refine⟨b,n,W,Y,g2,?_⟩;rw[fb]at B|-;obtain⟨q1,q2⟩:=B;refine⟨by simpa[ep,dh,gg]using q1,fun i x e q he=>?_⟩;unfold ep at q;rw[cX]at q;obtain⟨r,k,rfl⟩:=eG.1 q;have I:=vG (K:=K) (ks:=ks) k;have O:(gi r 3).bV=true:=cq.1 h r (eC k);obtain⟨J,a2,a3,M,a5⟩:=q2 i _ e (xP I) he;rw[B2]at J M;refine⟨bG z _ J,?_,a3,M,rfl⟩;have U:=k2 i _ ((jU r).map (a8 ks)) e I (by simp only[jl,O,cT]) he;show ab _ (.listF ks (jU r)) e.val
  rw[ki];simp only[ab];have V:fg ((jU r).map (a8 ks)):=by
   intro r k;obtain⟨g,_,rfl⟩:=gG.1 k;exact gI ks g
  refine⟨V,?_⟩;rcases U with⟨s1,aN,s2⟩|⟨bb,mm,s1,s2,s3,s4,s5,s6⟩
  ·rw [s1]
   exact⟨aN,0,s2,aY _,.inl rfl⟩
  ·refine ⟨_, mm, s2, s4, .inr ⟨bb, 0, rfl, ⟨(d.heap.cS _ _ _ _ s1).1, ?_, (d.heap.cS _ _ _ _ s1).2⟩, ga (fun a _ k => bG z a k) rfl s6⟩⟩
   rintro(⟨j,c',t⟩|⟨l',k',c',t⟩)
   ·exact d.heap.dm _ _ _ _ _ _ t s1
   ·obtain ⟨j1, j2⟩ := jE t
    exact j2 (d.heap.fC _ _ _ _ _ _ _ j1 s1).1
 have w:ax (s.H.set id (.map K (.one (.list ks)) rZ cl))=E.H.set id (.map (ep K (.one (.list ks)) rZ) cl):=by rw[cP,hH]; rfl
 refine⟨E.ad,E.X.re (iH E.X.r l),?_,?_⟩
 ·simp only [aI.aw]
  rw[w];exact⟨rfl,dX F _ d.fr,d.defers,h1⟩
 ·simp only [aI.aw]
  rw[w];exact F.toM
def XP{m:Nat}{aO:Nat}{s:aI}(h:(CI aO s).1=true):bD m s.aw (CI aO s).2.aw:=by
 unfold CI at h|-;split
 case h_2=>exact bD.refl _
 rename_i id V;split
 case h_2=>exact bD.refl _
 rename_i l K ks rZ cl B;simp only[V,B]at h;intro E a d;have hH:E.H=ax s.H:=d.H;have y:E.H[id]? = some (.br l ks.length (gg K ks rZ) cl):=by rw[hH]; exact bx B
 have F:=d.heap.obj id _ y;simp only[aV]at F;obtain⟨b,n,ms,g1,g2,I,hh,k1,k2⟩:=F;obtain⟨h1,J⟩:=aG.F9 (o':=.map (ep K (.one (.list ks)) rZ) cl) d.heap y rfl rfl rfl fun q=>by
  simp only[aV];refine⟨b,n,ms,g1,g2,?_⟩;rw[fb]at I|-;obtain⟨q1,q2⟩:=I;refine⟨by simpa[ep,dh,gg]using q1,fun i x e v he=>?_⟩;unfold ep at v;rw[cX]at v;obtain⟨r,k,rfl⟩:=eG.1 v;have M:=vG (K:=K) (ks:=ks) k;have z:((gi r 3).bV||(gi r 4).bV)=true:=cq.1 h r (eC k);obtain⟨N,O,a3,U,a5⟩:=q2 i _ e (xP M) he;rw[B2]at N U;refine⟨bG q _ N,?_,a3,U,rfl⟩;cases t:(gi r 3).bV with
  | false =>
   rw[t,Bool.false_or]at z;have ev:(gJ (jl K ks r).1).2=.listF ks (jU r):=by simp only[jl,t,z]; rfl
   rw[ev]at O;exact bG q _ O
  |true =>
  have W:=k2 i _ ((jU r).map (a8 ks)) e M (by simp only[jl,t,cT]) he;show ab _ (.listF ks (jU r)) e.val
  rw[ki];simp only[ab];have Y:fg ((jU r).map (a8 ks)):=by
   intro r k;obtain⟨g,_,rfl⟩:=gG.1 k;exact gI ks g
  refine⟨Y,?_⟩;rcases W with⟨s1,aN,s2⟩|⟨bb,mm,s1,s2,s3,s4,s5,s6⟩
  ·rw [s1]
   exact⟨aN,0,s2,aY _,.inl rfl⟩
  ·refine ⟨_, mm, s2, s4, .inr ⟨bb, 0, rfl, ⟨(d.heap.cS _ _ _ _ s1).1, ?_, (d.heap.cS _ _ _ _ s1).2⟩, ga (fun a _ k => bG q a k) rfl s6⟩⟩
   rintro(⟨j,c',w⟩|⟨l',k',c',w⟩)
   ·exact d.heap.dm _ _ _ _ _ _ w s1
   ·obtain ⟨j1, j2⟩ := jE w
    exact j2 (d.heap.fC _ _ _ _ _ _ _ j1 s1).1
 have A:ax (s.H.set id (.map K (.one (.list ks)) rZ cl))=E.H.set id (.map (ep K (.one (.list ks)) rZ) cl):=by rw[cP,hH]; rfl
 refine⟨E.ad,E.X.re (iH E.X.r l),?_,?_⟩
 ·simp only [aI.aw]
  rw[A];exact⟨rfl,dX J _ d.fr,d.defers,h1⟩
 ·simp only [aI.aw]
  rw[A];exact J.toM
def XQ{m:Nat}{aO l:Nat}{s:aI}(h:(CH aO l s).1=true):bD m s.aw (CH aO l s).2.aw:=by
 unfold CH at h|-;split
 case h_2=>exact bD.refl _
 rename_i id v;split
 case h_2=>exact bD.refl _
 rename_i K ks rZ cl g;simp only[v,g]at h;intro E a b;have hH:E.H=ax s.H:=b.H;have t:E.H[id]? = some (.map (ep K (.one (.list ks)) rZ) cl):=by rw[hH]; exact bx g
 obtain⟨y,k⟩:=Uw (w:=ks.length) (es:=gg K ks (rZ.map CG)) b.heap t (by
  simp only[dh,gg,ep,List.map_map];rfl) (fun x q=>by
  unfold gg at q;obtain⟨r,z,rfl⟩:=gG.1 q;obtain⟨r0,_,rfl⟩:=gG.1 z;rfl) (by rw[hH]; exact h)
 have d:ax (s.H.set id (.br l K ks (rZ.map CG) cl))=E.H.set id (.br l ks.length (gg K ks (rZ.map CG)) cl):=by rw[cP,hH]; rfl
 refine⟨E.ad,E.X,?_,?_⟩
 ·simp only [aI.aw]
  rw[d];exact⟨rfl,dX k _ b.fr,b.defers,y⟩
 ·simp only [aI.aw]
  rw[d];exact k.toM
def XT{m:Nat}(h:Hint)(s:aI)(a:(CP h s).1=true):bD m s.aw (CP h s).2.aw:=by
 cases h with
 |freeze i=>exact Xz a
 | NZ i ks =>
  simp only[CP];split
  ·rename_i h; exact M5 h
  ·exact bD.refl _
 |CB i c ks=>exact XA
 |N0 i=>exact XD a
 |N1 i c=>exact XB a
 |hole ks=>exact XE
 |N2=>exact XF
 |br i l=>exact XG a
 |N3 i=>exact XO a
 |N4 i l=>exact XQ a
 |N5 i=>exact XP a
 |mm i l b d=>exact XH a
 |N6 i c l b d=>exact XI a
 |forget i=>exact XK
 |N7 i c ks=>exact XC
 |cM i l=>exact XL a
 |bM i l=>exact XM a
 |N8 i=>exact XN a
def N_{m:Nat}:∀(a:List Hint) (s:aI),(yX a s).1=true->bD m s.aw (yX a s).2.aw
 | [],s,_=>bD.refl _
 | h::a,s,b=>by
  simp only[yX]at b|-;simp only[aE]at b;exact(XT h s b.1).trans (N_ a _ b.2)
def N':List (Nat × List Hint)->Nat->List Hint
 | [],_=>[]
 | (i,a)::l,id=>match aH id i with
  |true=>a
  |false=>N' l id
def LT.CQ(L:LT)(a:List (Nat × List Hint)):LT:=⟨L.loops,fun id s=>yX (N' a id) s,L.yB⟩
def CR{P:ai}{m:Nat}{c:Code}(a:List (Nat × List Hint)):ba P m (dc.CQ a) c:=⟨fun _ _ _ _ _ h=>(nomatch h),fun id s b=>N_ _ s b,fun _ _ _ _ _ h=>(nomatch h)⟩
end Go.AL

namespace Go.AL
open Go
variable [Dr]
end Go.AL

namespace Go.AL
open Go Go.ChangeMaps
variable [Dr]
def c9.qd{s:St}{E:ae}{a:Act}(b:c9 s E a)(t:Tmp){v:AV}{u:ak}(d:ab E v u):c9 (s.put (some t) v s.H) E (a.put (some t) u) :=
 ⟨b.H,Lw b.fr (ae.le.refl E) (some t) d,by rw[put_defers]; exact b.defers,b.heap⟩
def HN{m:Nat}{E E':ae}(h:E.eZ m E'):E.bZ E' :=
 ⟨fun b a=>⟨⟨Nat.lt_of_lt_of_le a.1 h.size,h.bN b a.1 a.2.1,fun d=>a.2.2 ((h.X b a.1).1.1 d)⟩,h.same b a.1 a.2.1⟩⟩
def Oa{P:ai}{pf:bC->Bool}{af:Array Oper}{Q:Exit->Act->World->Prop}(b:Option Nat):∀(l:List Oper) (k:Nat) (s s':St) (E:ae) (a:Act) (rest:List Nat),
  (∀(j:Nat) (o:Oper),l[j]? = some o->af[k+j]? = some o)->ji P pf af l s s'->c9 s E a->(∀ d w',fT E s' d w'->wpOpsIn (fz b) 0 P af Q rest d w')->wpOpsIn (fz b) 0 P af Q (List.range' k l.length++rest) a E.w
 | [],k,s,s',E,a,rest,_,h,g,q=>by
  simp only[ji]at h;subst h;exact q _ _ (fT.refl g)
 | o::l,k,s,s',E,a,rest,t,h,g,q=>by
  obtain⟨v,H',B,y⟩:=h;simp only[bW,List.range'_succ,kK];rw[wpOpsIn_cons];refine Gn g (by simpa using t 0 o rfl) B (fun d w' F=>?_) b;obtain⟨z,I,J,M⟩:=F;refine Oa b l (k+1) _ s' { w:=w',H:=H',ad:=z,X:=E.X.re I } d rest (fun j x N=>?_) y J (fun O U A=>q O U (fT.after M A));have:=t (j+1) x (by simpa using N)
  rwa [show k+1+j=k+(j+1) from by omega]
def bh.qg:bh->Option (cJ × aI)
 |.fail=>none
 |.done x s=>some (x,s)
 | .ask b t e=>match b with
  |true=>t.qg
  |false=>e.qg
 | .side b t=>match b with
  |true=>t.qg
  |false=>none
def yY:∀{t:bh} {x:cJ} {s:aI},t.qg=some (x,s)->t.holds fun a s'=>a=x/\s'=s
 |.fail,_,_,h=>by cases h
 | .done _ _,_,_,h=>by
  cases h;exact⟨rfl,rfl⟩
 | .ask b t e,_,_,h=>by
  cases b with
  |true=>exact⟨fun _=>yY (t:=t) h,fun h=>(nomatch h)⟩
  |false=>exact⟨fun h=>(nomatch h),fun _=>yY (t:=e) h⟩
 | .side b t,_,_,h=>by
  cases b with
  |true=>exact⟨rfl,yY (t:=t) h⟩
  |false=>cases h
def Ob(r:LG):Nat:=(gi r 2).iV.toNat
structure tK where
 inv:nU
 ps:List j7
 opens:List (Nat × List Kd)
 K:Ct
 V:Ct
 id:Nat
 x:Tmp
 y:Tmp
 it:Tmp
 t1:Tmp
 t2:Tmp
 t3:Tmp
 adr:LG->Nat
 init:LG->Nat->LG
 side:LG->Nat->Bool
 st:LG->LG->Option LG
def tK.rs(sp:tK)(r d:LG):aI:=⟨(cW sp.inv d).fr.set sp.t3 (.tuple [sp.K.av (gi r 0).rV,sp.V.av (gi r 1).rV]),(cW sp.inv d).H⟩
def tK.s2(sp:tK)(s:aI)(b:Nat):aI:=⟨s.fr.set sp.it (.lit (.pointer (some ⟨b,0,none⟩))),s.H.set sp.id (.raw .dead)⟩
def Oc(m:Nat)(inv:nU)(ps:List j7)(x:cJ)(s:aI):Option (Bool × LG) :=
 match x with
 |.normal=>oL m inv ps s
 |_=>none
structure akG (P:ai) (sp:tK) (fp fH fq:Array Oper):Prop where
 r0:∃ o2 ty,fp.toList=fp.toList.dropLast++[o2]/\o2.guard=none/\o2.op=.range ty (.tmp sp.y)/\o2.dst=some sp.it/\(dJ P ty).isSome=true
 r1:∃ o1 o2,fH.toList=[o1,o2]/\o1.guard=none/\o1.op=.next (.tmp sp.it) false/\o1.dst=some sp.t1/\o2.guard=none/\o2.op=.extract (.tmp sp.t1) 0/\o2.dst=some sp.t2
 r2:∃ o1 l,fq.toList=o1::l/\o1.guard=none/\o1.op=.entry (.tmp sp.it)/\o1.dst=some sp.t3
section range
variable {P:ai} {τ:aJ} {L:LT} {m:Nat} {sp:tK} {fp fH fq:Array Oper} {body:Code}
def akH(rZ:LL)(a:Nat):Bool:=nodupB (rZ.map Ob)&&rZ.all fun r=>cR (Ob r) a
def yZ(P:ai)(m:Nat)(c:Code)(sp:bS):Prop:=∀ d i a,sp.st d=some (some i,a)->∃ o,sp.outs[i]? = some o/\dC P m c (cW sp.inv d).aw o.x (cW o.S a).aw
theorem tH.sat{c:Code}{q:bS}(hm:P.follows .mixedOrders=true)(g:aL P τ)(h:ba P m L c)(k:tH P τ L m c q):yZ P m c q:=by
 intro d i t a;rw[<-k d]at a;obtain⟨x,s1,v,w⟩:=kZ hm g c (cW q.inv d) .done h (Q:=fun x s=>tG m q.outs 0 x s=some (true,(some i,t))) (rB a);obtain⟨j,o,y,b,z,A⟩:=Cv w;simp only[a_,eo]at b;subst b;refine⟨o,y,?_⟩;rw[<-z];exact xX v (p_ A)
theorem XU{c:Code}{q:bS}(z:yZ P m c q){s:aI}{t:bh}(h:yR m q s=some t):He P m c s t:=by
 unfold yR at h;split at h
 case h_2=>cases h
 rename_i b d A;cases h;intro Q v;simp only[bh.holds,tD,aE]at v;obtain⟨⟨rfl,g⟩,w⟩:=v;cases a:q.st d with
 |none=>rw[a]at g; cases g
 | some r =>
  obtain⟨k,y⟩:=r;cases k with
  |none=>rw[a]at g; cases g
  | some i =>
   obtain⟨o,B,F⟩:=z d i y a;rw[a]at w;exact⟨o.x,(cW o.S y),s_ ((qa q.opens s).trans (p_ A)) F,Cw B (eo i).symm w⟩
theorem ba.XV{fn:Func}{q:bS} (h:qb q.key (cB (bp fn))=true) (b:ba P m L (bp fn)) (g:ba P m L (ij fn q.key)->yZ P m (ij fn q.key) q) :
  ba P m (L.mH m q) (bp fn):=by
 refine⟨b.1,b.2.1,fun k v d s t a=>?_⟩;simp only[LT.mH]at a;split at a
 ·rename_i e
  have e:=bA e;subst e;have w:=NB h d;rw[<-w]at g;exact XU (g (b.sub (rE d) (rF d))) a
 ·exact b.2.2 k v d s t a
def Od:Code->Code
 |.seq _ b=>b
 |_=>.skip
end range
end Go.AL
