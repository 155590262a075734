/-
 What is proved here: shapes: states and arguments as data alone (integers,strings,rows),read off abstract states and built from data; what is built says no more than what was read. No program in sight; no condition.
-/
import Derived.Test.YtgglclbdiagpoaaGreatDoorMC
import Derived.Maps.RangeRun
set_option linter.all false
open Bool renaming and_true→fG,and_eq_true→ar,false_eq_true→lD,not_eq_true'→pq,and_self→t_,eq_false_iff→mw,or_false→I0
open Go.Act renaming put→IS
open Go.MapKept renaming heap_set→ahW
open Go.Value.slice renaming injEq→j0
open Int renaming toNat_natCast→bp
open List renaming range→er,length_cons→cw,append_nil→dx,append_assoc→gV,getElem?_append_left→cQ,length_map→dv,mem_map→di,getElem?_map→bR,getElem?_eq_getElem→bd,mem_of_getElem?→fa,getElem?_append_right→jv,getElem?_set_self→bk,getElem?_set_ne→aV,getElem?_set→dS,all_eq_true→bO,getD_eq_getElem?_getD→b_,getElem?_take→nA,mem_cons→bS,map_cons→cY,cons_append→kO,length_append→dV,mem_append→cG,getElem?_of_mem→tV,all_cons→iG,mem_cons_self→cH,mem_cons_of_mem→cI,nodup_cons→nL,getElem?_inj→BR,range'→SB,range'_succ→SC,mem_append_left→nM,any_eq_true→jz,range_eq_range'→SD,set_append_left→IV,headD_cons→mv,getElem?_cons_succ→SG,getD_cons_succ→ahU,find?_cons_of_neg→ahV,getElem_mem→iJ,mem_filter→BV,mem_append_right→ud
open List.Perm renaming refl→ue
open Nat renaming le_refl→aH,le_add_right→fT,zero_le→dB,lt_or_ge→h_,zero_add→cR,beq→af,eq_of_beq_eq_true→br,sub_self→nK,ble→bI,blt→cJ,blt_eq→dM,le_of_ble_eq_true→ua,lt_irrefl→ub
open Option renaming map_eq_some_iff→dR,map_some→dL,getD_some→nI,bind_some→I1
open Option.some renaming injEq→aX,inj→gh
open Prod.mk renaming injEq→a8
namespace Go.AL
open Go
variable [Dr]
inductive dn where
 |int (k:IntKind)|str|bool
 |list (ks:List Kd)|row (ks:List Kd)|cptr (ks:List Kd)
 |nil|any
 |LN (isNil:Bool)
 |fn (f:FuncId)
 |ptr (j col:Nat)
 |vec (j w:Nat)
 |sub (j w:Nat)
 |pre (j w:Nat)
 |vl (ks:List Kd)
 |map (j:Nat)
 |addr
 |LO (f:FuncId) (js:List Nat)
 |vm
 deriving Inhabited
inductive Sh where
 |s (a:dn)
 |clo (f:FuncId) (caps:List dn)
 deriving Inhabited
inductive bZ where
 |vec (ks:List Kd) (u:Nat)
 |box (cells:List dn)
 |map (K V:Ct)
 |bJ (l T B:Nat)
 |aY (l:Nat) (K:Ct) (ks:List Kd)
 |mm (l:Nat) (K KI VI:Ct)
 deriving Inhabited
def bZ.jl:bZ→Option Nat
 |.bJ l _ _=>some l
 |.aY l _ _=>some l
 |.mm l _ _ _=>some l
 |_=>none
def bZ.db:bZ→Option Nat
 |.mm l _ _ _=>some l
 |_=>none
def dn.sz:dn→Nat
 |.int _ | .str | .bool | .list _ | .row _ | .cptr _ | .vl _ | .pre _ _ | .addr=>1
 |.sub _ _=>2
 |_=>0
def oy:List dn→Nat
 | []=>0
 |a::as=>a.sz+oy as
def Sh.sz:Sh→Nat
 |.s a=>a.sz
 |.clo _ caps=>oy caps
def DK:List Sh→Nat
 | []=>0
 |a::as=>a.sz+DK as
def bZ.sz:bZ→Nat
 |.vec _ _=>1
 |.box cells=>oy cells
 |.map _ _=>2
 |.bJ _ _ _=>1
 |.aY _ _ _=>2
 |.mm _ _ _ _=>3
def cD:Nat→List G→List G
 |0,d=>d
 |n+1,d=>cD n d.tail
abbrev c8:=List (Nat × Nat)
def c8.len(os:c8)(j:Nat):Nat:=(os.getD j (0,0)).1
def c8.ad(os:c8)(j:Nat):Nat:=(os.getD j (0,0)).2
def p7:List Nat→List AV
 | []=>[]
 |j::js=>.ptr j 0 0 0 0::p7 js
def dp(lens:c8):dn→List G→AV
 |.int k,d=>.lit (.int k (d.headD default).int)
 |.str,d=>.lit (.string (d.headD default).str)
 |.bool,d=>.lit (.bool (d.headD default).bool)
 |.list ks,d=>.listF ks (d.headD default).rows
 |.vl ks,d=>.listF ks (d.headD default).rows
 |.row ks,d=>.agg (aK ks (d.headD default).row)
 |.cptr ks,d=>.cptr (aK ks (d.headD default).row)
 |.nil,_=>.lit (.slice none 0 0)
 |.any,_=>.undef
 |.LN b,_=>.emptyS b
 |.fn f,_=>.clo f []
 |.ptr j col,_=>.ptr j 0 0 0 col
 |.vec j w,_=>.vec w j (lens.ad j) 0 (lens.len j)
 |.sub j w,d=>.vec w j (lens.ad j) (d.headD default).int.toNat (d.tail.headD default).int.toNat
 |.pre j w,d=>.vec w j (lens.ad j) 0 (d.headD default).int.toNat
 |.map j,_=>.map j
 |.addr,d=>.lit (.pointer (some ⟨(d.headD default).int.toNat,0,none⟩))
 |.LO f js,_=>.clo f (p7 js)
 |.vm,_=>.lit .nilIface
def iP(lens:c8):List dn→List G→List AV
 | [],_=>[]
 |a::as,d=>dp lens a d::iP lens as (cD a.sz d)
def gO(lens:c8):Sh→List G→AV
 |.s a,d=>dp lens a d
 |.clo f caps,d=>.clo f (iP lens caps d)
def bV(lens:c8):List Sh→List G→List AV
 | [],_=>[]
 |a::as,d=>gO lens a d::bV lens as (cD a.sz d)
def eA(lens:c8):bZ→List G→ah
 |.vec ks u,d=>.vec ks u (d.headD default).rows
 |.box g,d=>.raw (.box (iP lens g d))
 |.map K V,d=>.map K V (d.headD default).rows (d.tail.headD default).int.toNat
 |.bJ l T B,d=>.raw (.bJ l T B (d.headD default).str)
 |.aY l K ks,d=>.aY l K ks (d.headD default).rows (d.tail.headD default).int.toNat
 |.mm l K KI VI,d=>.mm l K KI VI (d.headD default).rows (d.tail.headD default).rows (d.tail.tail.headD default).int.toNat
theorem sd(lens:c8)(sh:bZ)(d:List G):(eA lens sh d).den.label=sh.jl:=by cases sh<;>rfl
theorem DL(lens:c8)(sh:bZ)(d:List G):(eA lens sh d).den.db=sh.db:=by cases sh<;>rfl
def ca(lens:c8):List bZ→List G→List ah
 | [],_=>[]
 |o::os,d=>eA lens o d::ca lens os (cD o.sz d)
def lU:List bZ→Nat
 | []=>0
 |o::os=>o.sz+lU os
def bQ:List bZ→List G→c8
 | [],_=>[]
 | o::os,d=>(match o with
  |.vec _ u=>((d.headD default).rows.length,u)
  |_=>(0,0))::bQ os (cD o.sz d)
def kp(H:List ah)(e:bF):List Nat→List AV→Bool
 | [],[]=>true
 | j::js,.ptr id ad k row c::vs=>(match H[id]? with
  |some (.raw _)=>af id (e.at j)&&af ad 0&&af k 0&&af row 0&&af c 0
  |_=>false)&&kp H e js vs
 |_,_=>false
def fM(H:List ah)(e:bF)(fz:Nat→Bool):dn→AV→Option (Bool × List G)
 |.int k,.lit (.int k' n)=>if k=k' then some (true,[.i n]) else none
 |.str,.lit (.string s)=>some (true,[.s s])
 |.bool,.lit (.bool b)=>some (true,[.t b])
 | .list ks,a=>match mW ks a with
  |some rows=>some (true,[.l rows])
  | none=>match a with
   | .vec w id ad off n=>match H[id]? with
    |some (.vec d v rows)=>if ad=v∧off=0∧w=ks.length∧Kd.iz ks d=true∧fz id=true then some (af n rows.length,[.l rows]) else none
    |_=>none
   |_=>none
 | .row ks,a=>match DF ks a with
  |some r=>some (true,[.l [r]])
  |none=>none
 | .cptr ks,.cptr cells=>match f_ ks cells with
  |some r=>some (true,[.l [r]])
  |none=>none
 | .cptr ks,.ptr id ad _ row col=>match H[id]? with
  | some (.raw (.box cells))=>match f_ ks cells with
   |some r=>if ad=0∧row=0∧col=0∧fz id=true then some (true,[.l [r]]) else none
   |none=>none
  |some (.vec d v [r])=>if ad=v∧row=0∧col=0∧Kd.iz ks d=true∧fz id=true then some (true,[.l [r]]) else none
  |_=>none
 |.nil,.lit (.slice none 0 0)=>some (true,[])
 |.any,_=>some (true,[])
 |.fn f,.clo g []=>if f=g then some (true,[]) else none
 | .ptr j col,.ptr id ad k row c=>match H[id]? with
  |some (.raw _)=>if id=e.at j∧ad=0∧k=0∧row=0∧c=col then some (true,[]) else none
  |_=>none
 | .vec j w,.vec w' id ad off n=>match H[id]? with
  |some (.vec _ v rows)=>if w'=w∧id=e.at j∧ad=v∧off=0 then some (af n rows.length,[]) else none
  |_=>none
 | .sub j w,.vec w' id ad off n=>match H[id]? with
  |some (.vec _ v _)=>if w'=w∧id=e.at j∧ad=v then some (true,[.i off,.i n]) else none
  |_=>none
 | .pre j w,.vec w' id ad off n=>match H[id]? with
  |some (.vec _ v _)=>if w'=w∧id=e.at j∧ad=v∧off=0 then some (true,[.i n]) else none
  |_=>none
 | .vl ks,a=>match mW ks a with
  |some rows=>some (true,[.l rows])
  | none=>match a with
   | .vec w id ad off n=>match H[id]? with
    |some (.vec d v rows)=>if ad=v∧off=0∧w=ks.length∧Kd.iz ks d=true∧fz id=true then some (bI n rows.length,[.l (rows.take n)]) else none
    |_=>none
   |_=>none
 | .map j,.map id=>match H[id]? with
  |some (.map _ _ _ _)=>if id=e.at j then some (true,[]) else none
  |some (.aY _ _ _ _ _)=>if id=e.at j then some (true,[]) else none
  |some (.mm _ _ _ _ _ _ _)=>if id=e.at j then some (true,[]) else none
  |_=>none
 |.addr,.lit (.pointer (some ⟨b,0,none⟩))=>some (true,[.i (b:Nat)])
 |.LO f js,.clo g vs=>if f=g∧kp H e js vs=true then some (true,[]) else none
 |.vm,.lit .nilIface=>some (true,[])
 |_,_=>none
def fx(H:List ah)(e:bF)(fz:Nat→Bool):List dn→List AV→Option (Bool × List G)
 | [],[]=>some (true,[])
 | sh::d,a::as=>match fM H e fz sh a,fx H e fz d as with
  |some (b,g),some (h,k)=>some (b&&h,g++k)
  |_,_=>none
 |_,_=>none
def kq(H:List ah)(e:bF)(fz:Nat→Bool):Sh→AV→Option (Bool × List G)
 |.s a,v=>fM H e fz a v
 |.clo f caps,.clo g vs=>if f=g then fx H e fz caps vs else none
 |_,_=>none
def eB(H:List ah)(e:bF)(fz:Nat→Bool):List Sh→List AV→Option (Bool × List G)
 | [],[]=>some (true,[])
 | sh::d,a::as=>match kq H e fz sh a,eB H e fz d as with
  |some (b,g),some (h,k)=>some (b&&h,g++k)
  |_,_=>none
 |_,_=>none
def gP(H:List ah)(e:bF)(fz:Nat→Bool):bZ→ah→Option (Bool × List G)
 |.vec ks _,.vec g _ rows=>if Kd.iz ks g then some (true,[.l rows]) else none
 |.box h,.raw (.box cells)=>fx H e fz h cells
 |.map K V,.map d t rows clock=>if K.same d&&V.same t then some (true,[.l rows,.i clock]) else none
 |.bJ l T B,.raw (.bJ l' u v s)=>if (af l l'&&(af T u&&af B v))=true then some (true,[.s s]) else none
 |.aY l K ks,.aY l' d g rows clock=>if (af l l'&&(K.same d&&Kd.iz ks g))=true then some (true,[.l rows,.i clock]) else none
 |.mm l K KI VI,.mm l' d k q rows mem clock=>if (af l l'&&(K.same d&&(KI.same k&&VI.same q)))=true then some (true,[.l rows,.l mem,.i clock]) else none
 |_,_=>none
theorem LP{H:List ah}{e:bF}{fz:Nat→Bool}{sh:bZ}{o:ah}{b:Bool}{g:List G}(h:gP H e fz sh o=some (b,g)):o.den.label=sh.jl:=by
 unfold gP at h;split at h
 ·rfl
 ·rfl
 ·rfl
 ·split at h
  ·rename_i d
   simp only[ar]at d;have:=br d.1;subst this;rfl
  ·cases h
 ·split at h
  ·rename_i d
   simp only[ar]at d;have:=br d.1;subst this;rfl
  ·cases h
 ·split at h
  ·rename_i d
   simp only[ar]at d;have:=br d.1;subst this;rfl
  ·cases h
 ·cases h
theorem DM{H:List ah}{e:bF}{fz:Nat→Bool}{sh:bZ}{o:ah}{b:Bool}{g:List G}(h:gP H e fz sh o=some (b,g)):o.den.db=sh.db:=by
 unfold gP at h;split at h
 ·rfl
 ·rfl
 ·rfl
 ·rfl
 ·rfl
 ·split at h
  ·rename_i d
   simp only[ar]at d;have:=br d.1;subst this;rfl
  ·cases h
 ·cases h
def jn(H:List ah)(e:bF)(fz:Nat→Bool):List bZ→List Nat→Option (Bool × List G)
 | [],[]=>some (true,[])
 | o::os,i::is=>match H[i]? with
  | some t=>match gP H e fz o t,jn H e fz os is with
   |some (b,g),some (d,h)=>some (b&&d,g++h)
   |_,_=>none
  |none=>none
 |_,_=>none
theorem oz:∀(g rest:List G),cD g.length (g++rest)=rest
 | [],_=>rfl
 |_::g,rest=>oz g rest
def se:ah→Nat
 |.vec _ v _=>v
 |_=>0
def sf(H:List ah)(id:Nat):Nat:=match H[id]? with
 |some o=>se o
 |none=>0
def bB(H:List ah)(ids:List Nat):bF:=⟨ids,ids.map (sf H),H.length⟩
structure yZ (E0:Env) (lens:c8) (j:Nat) (o:ah):Prop where
 ad:o.den.aF = some (se o)
 obj:∃ o0,E0.H[j]? = some o0∧o0.aF = some (lens.ad j)
 mm:∀ o0,E0.H[j]? = some o0→o0.db=o.den.db
 len:∀ ks v rows,o=.vec ks v rows→lens.len j=rows.length
 flat:(∀ ks v rows,o≠.vec ks v rows)→lens.ad j=0
structure iA (H:List ah) (e:bF) (fz:Nat→Bool) (lens:c8) (E E0:Env):Prop where
 hH:E.H=ai H
 HE:aq E
 free:∀ i,fz i=true→∀ b n,E.loc[i]? = some (some (b,n))→E0.ig b
 cT:KeepIn e E E0
 obj:∀ j o,H[e.at j]? = some o→j<e.ids.length∧yZ E0 lens j o
section cT
variable {H:List ah} {e:bF} {fz:Nat→Bool} {lens:c8} {E E0:Env}
theorem yZ.past{j:Nat}{o:ah}(h:yZ E0 lens j o):E0.past j (lens.ad j):=by
 obtain⟨o0,h1,d⟩:=h.obj;exact⟨o0,h1,ab.B0 d,fun v g=>by rw[d]at g; cases g; exact aH _⟩
theorem Wi(K:iA H e fz lens E E0){id v n:Nat}{ks:List Kd}{rows:List (List G)}{c:Value}(hid:H[id]? = some (.vec ks v rows))(y:fz id=true)(z:n=rows.length)
  (d:rel E (.vec ks.length id v 0 n) c):rel E0 (.listF ks rows) c:=by
 subst z;have k:E.H[id]? = some (.vec ks.length v (rows.map (aK ks))):=by rw[K.hH]; exact bf hid
 have ho:=K.HE.obj id _ k;rw[jC];simp only[rel]at d⊢;obtain⟨⟨base,cap,rfl,u,_⟩,_,h⟩:=d;obtain⟨J,B⟩:=h ⟨_,k,rfl⟩;have q:ff (rows.map (aK ks)):=by
  intro r d;obtain⟨g,_,rfl⟩:=di.1 d;exact fW ks g
 refine⟨q,base,cap,by simp,by simpa using u,?_⟩;simp only[aR]at ho;rcases ho with⟨h1,t⟩|⟨b,m,h1,t,h,_,I⟩
 ·exact .inl t
 ·obtain ⟨g1, o, g2, g3⟩ := B b m h1
  by_cases hm:rows=[]
  ·subst hm; exact .inl rfl
  ·right
   have:0<rows.length:=by cases rows with|nil=>exact(hm rfl).elim|cons _ _=>simp
   simp at h;have ho:=g2 (by omega);simp at ho;subst ho;simp only[j0]at g3;exact⟨b,0,g3.1,K.free id y b m h1,kY K.cT.bD _ q (by rw[K.cT.w]) I⟩
theorem Wj(K:iA H e fz lens E E0){id v n:Nat}{ks:List Kd}{rows:List (List G)}{c:Value}(hid:H[id]? = some (.vec ks v rows))(B:fz id=true)(I:n≤rows.length)
  (d:rel E (.vec ks.length id v 0 n) c):rel E0 (.listF ks (rows.take n)) c:=by
 have k:E.H[id]? = some (.vec ks.length v (rows.map (aK ks))):=by rw[K.hH]; exact bf hid
 have ho:=K.HE.obj id _ k;rw[jC];simp only[rel]at d⊢;obtain⟨⟨base,cap,rfl,z,_⟩,_,h⟩:=d;obtain⟨M,J⟩:=h ⟨_,k,rfl⟩;have t:ff ((rows.take n).map (aK ks)):=by
  intro r d;obtain⟨g,_,rfl⟩:=di.1 d;exact fW ks g
 have q:min n rows.length=n:=Nat.min_eq_left I;refine⟨t,base,cap,by simp[q],by simpa[q]using z,?_⟩;simp only[aR]at ho;rcases ho with⟨h1,u⟩|⟨b,m,h1,u,h,_,y⟩
 ·left
  have:rows=[]:=by simpa using u
  rw[this];simp
 ·obtain ⟨g1, o, g2, g3⟩ := J b m h1
  by_cases hm:n=0
  ·left; rw[hm]; simp
  ·right
   simp at h;have ho:=g2 (by omega);simp at ho;subst ho;simp only[j0]at g3;refine⟨b,0,g3.1,K.free id B b m h1,kY K.cT.bD _ t (by rw[K.cT.w]) ?_⟩;rw[lH]at y⊢;intro i r hi;simp only[bR,nA]at hi;split at hi
   ·exact y i r (by simpa using hi)
   ·simp at hi
theorem Wk(K:iA H e fz lens E E0){id k:Nat}{cells:List AV}{c:Value} (hid:H[id]? = some (.raw (.box cells))) (g:AV.bu cells=true) (q:fz id=true)
  (h:rel E (.ptr id 0 k 0 0) c):rel E0 (.cptr cells) c:=by
 have d:E.H[id]? = some (.box cells):=by rw[K.hH]; exact bf hid
 have ho:=K.HE.obj id _ d;simp only[aR]at ho;obtain⟨b,n,h1,v,t⟩:=ho;simp only[rel]at h⊢;obtain⟨_,_,u⟩:=h;obtain⟨y,z,g1,g2⟩:=u ⟨_,d,rfl⟩;rw[h1]at g1;simp only[aX,a8]at g1;obtain⟨rfl,rfl⟩:=g1;exact⟨g,b,0,by rw[g2]; simp,K.free id q b n h1,q9 K.cT.bD cells g (by rw[K.cT.w]) t⟩
theorem Wl(K:iA H e fz lens E E0){id k v:Nat}{ks:List Kd}{r:List G}{c:Value}(hid:H[id]? = some (.vec ks v [r]))(t:fz id=true)
  (g:rel E (.ptr id v k 0 0) c):rel E0 (.cptr (aK ks r)) c:=by
 have d:E.H[id]? = some (.vec ks.length v [aK ks r]):=by rw[K.hH]; exact bf hid
 have ho:=K.HE.obj id _ d;simp only[aR]at ho;simp only[rel]at g⊢;obtain⟨_,_,u⟩:=g;obtain⟨y,z,g1,g2⟩:=u ⟨_,d,rfl⟩;rcases ho with⟨_,h⟩|⟨b,m,h1,h,B,I,q⟩
 ·cases h
 ·rw [h1] at g1
  simp only[aX,a8]at g1;obtain⟨rfl,rfl⟩:=g1;simp only[cz]at q;exact⟨fW ks r,b,0,by rw[g2]; simp,K.free id t b m h1,q9 K.cT.bD _ (fW ks r) (by rw[K.cT.w]) q.2.1⟩
theorem LQ(K:iA H e fz lens E E0):∀{js:List Nat} {vs:List AV},kp H e js vs=true→∀ cs,ae E vs cs→ae E0 (p7 js) cs
 | [],[],_,cs,d=>by
  cases cs with
  |nil=>simp[p7,ae]
  |cons _ _=>simp[ae]at d
 | j::js,v::vs,h,cs,d=>by
  cases v<;>simp only[kp,lD]at h<;>try cases h
  rename_i id ad k row c;simp only[ar]at h;obtain⟨h1,u⟩:=h;split at h1
  ·rename_i r hid
   simp only[ar]at h1;obtain⟨⟨⟨⟨g,a2⟩,a3⟩,a4⟩,a5⟩:=h1;have g:=br g;have a2:=br a2;have a3:=br a3;have a4:=br a4;have a5:=br a5;subst g a2 a3 a4 a5;cases cs with
   |nil=>simp[ae]at d
   | cons c cs =>
    simp only[ae]at d;simp only[p7,ae];refine⟨?_,LQ K u cs d.2⟩;obtain⟨y,q⟩:=K.obj _ _ hid;have z:=q.flat (fun _ _ _ h=>by cases h);have t:=d.1;simp only[rel]at t⊢;obtain⟨h1,u,B⟩:=t;refine⟨h1,by have:=q.past; rwa [z]at this,fun _=>?_⟩;rw[K.cT.loc _ y];exact B ⟨_,by rw[K.hH]; exact bf hid,q.ad⟩
  ·cases h1
 | [],_::_,h,_,_=>by simp[kp]at h
 |_::_,[],h,_,_=>by simp[kp]at h
theorem LR(K:iA H e fz lens E E0){sh:dn}{a:AV}{g:List G}(h:fM H e fz sh a=some (true,g))(rest:List G) :
  g.length=sh.sz∧∀ c,rel E a c→rel E0 (dp lens sh (g++rest)) c:=by
 unfold fM at h;split at h
 ·split at h
  ·rename_i hk
   subst hk;cases h;exact⟨rfl,fun c d=>by simp only[rel]at d; subst d; simp[dp,rel,G.int]⟩
  ·cases h
 ·cases h; exact⟨rfl,fun c d=>by simp only[rel]at d; subst d; simp[dp,rel,G.str]⟩
 ·cases h; exact⟨rfl,fun c d=>by simp only[rel]at d; subst d; simp[dp,rel,G.bool]⟩
 ·split at h
  ·rename_i rows d
   cases h;exact⟨rfl,fun c k=>fg K.cT.bD (.listF _ rows) rfl (LB d k)⟩
  ·split at h
   ·split at h
    ·rename_i hid
     split at h
     ·rename_i k
      obtain⟨rfl,rfl,rfl,y,z⟩:=k;simp only[aX,a8]at h;obtain⟨h1,rfl⟩:=h;have y:=Kd.jM y;subst y;exact⟨rfl,fun c d=>Wi K hid z (br h1) d⟩
     ·cases h
    ·cases h
   ·cases h
 ·split at h
  ·rename_i ks a r d
   cases h;have J:=LC d;subst J;exact⟨rfl,fun c k=>fg K.cT.bD (.agg (aK ks r)) (by simp only[AV.closed,fW]) k⟩
  ·cases h
 ·split at h
  ·rename_i r d
   cases h;have J:=ki d;subst J;exact⟨rfl,fun c k=>fg K.cT.bD (.cptr _) rfl k⟩
  ·cases h
 ·split at h
  ·rename_i hid
   split at h
   ·rename_i r d
    split at h
    ·rename_i k
     obtain⟨rfl,rfl,rfl,z⟩:=k;cases h;have J:=ki d;subst J;exact⟨rfl,fun c d=>Wk K hid (fW _ _) z d⟩
    ·cases h
   ·cases h
  ·rename_i O v r hid
   split at h
   ·rename_i k
    obtain⟨rfl,rfl,rfl,y,z⟩:=k;cases h;have y:=Kd.jM y;subst y;exact⟨rfl,fun c d=>Wl K hid z d⟩
   ·cases h
  ·cases h
 ·cases h; exact⟨rfl,fun c d=>by simpa only[dp,rel]using d⟩
 ·cases h; exact⟨rfl,fun c d=>by simp[dp,rel]⟩
 ·split at h
  ·rename_i hk
   subst hk;cases h;exact⟨rfl,fun c d=>fg K.cT.bD (.clo _ []) rfl d⟩
  ·cases h
 ·split at h
  ·rename_i r hid
   split at h
   ·rename_i k
    obtain⟨rfl,rfl,rfl,rfl,rfl⟩:=k;cases h;obtain⟨t,q⟩:=K.obj _ _ hid;have B:=q.flat (fun _ _ _ h=>by cases h);refine⟨rfl,fun c d=>?_⟩;simp only[rel]at d;simp only[dp,rel];obtain⟨h1,I,u⟩:=d;refine⟨h1,by have:=q.past; rwa [B]at this,fun _=>?_⟩;rw[K.cT.loc _ t];exact u ⟨_,by rw[K.hH]; exact bf hid,q.ad⟩
   ·cases h
  ·cases h
 ·split at h
  ·rename_i ks v rows hid
   split at h
   ·rename_i k
    obtain⟨rfl,rfl,rfl,rfl⟩:=k;simp only[aX,a8]at h;obtain⟨h1,rfl⟩:=h;have h1:=br h1;subst h1;obtain⟨t,q⟩:=K.obj _ _ hid;refine⟨rfl,fun c d=>?_⟩;simp only[rel]at d;simp only[dp,rel];rw[q.len _ _ _ rfl];obtain⟨h1,I,u⟩:=d;refine⟨h1,q.past,fun _=>?_⟩;rw[K.cT.loc _ t];exact u ⟨_,by rw[K.hH]; exact bf hid,q.ad⟩
   ·cases h
  ·cases h
 ·split at h
  ·rename_i ks v rows hid
   split at h
   ·rename_i k
    obtain⟨rfl,rfl,rfl⟩:=k;cases h;obtain⟨t,q⟩:=K.obj _ _ hid;refine⟨rfl,fun c d=>?_⟩;simp only[rel]at d;simp only[dp,rel,kO,mv,List.tail_cons,G.int,bp];obtain⟨h1,I,u⟩:=d;refine⟨h1,q.past,fun _=>?_⟩;rw[K.cT.loc _ t];exact u ⟨_,by rw[K.hH]; exact bf hid,q.ad⟩
   ·cases h
  ·cases h
 ·split at h
  ·rename_i ks v rows hid
   split at h
   ·rename_i k
    obtain⟨rfl,rfl,rfl,rfl⟩:=k;cases h;obtain⟨t,q⟩:=K.obj _ _ hid;refine⟨rfl,fun c d=>?_⟩;simp only[rel]at d;simp only[dp,rel,kO,mv,G.int,bp];obtain⟨h1,I,u⟩:=d;refine⟨h1,q.past,fun _=>?_⟩;rw[K.cT.loc _ t];exact u ⟨_,by rw[K.hH]; exact bf hid,q.ad⟩
   ·cases h
  ·cases h
 ·split at h
  ·rename_i rows d
   cases h;exact⟨rfl,fun c k=>fg K.cT.bD (.listF _ rows) rfl (LB d k)⟩
  ·split at h
   ·split at h
    ·rename_i hid
     split at h
     ·rename_i k
      obtain⟨rfl,rfl,rfl,y,z⟩:=k;simp only[aX,a8]at h;obtain⟨h1,rfl⟩:=h;have y:=Kd.jM y;subst y;exact⟨rfl,fun c d=>Wj K hid z (ua h1) d⟩
     ·cases h
    ·cases h
   ·cases h
 ·split at h
  ·rename_i M W rows cl hid
   split at h
   ·rename_i k
    subst k;cases h;obtain⟨t,q⟩:=K.obj _ _ hid;have B:=q.flat (fun _ _ _ h=>by cases h);refine⟨rfl,fun c d=>?_⟩;simp only[rel]at d;simp only[dp,rel];obtain⟨h1,I,u⟩:=d;refine⟨h1,by have:=q.past; rwa [B]at this,fun _=>?_⟩;rw[K.cT.loc _ t];exact u ⟨_,by rw[K.hH]; exact bf hid,q.ad⟩
   ·cases h
  ·rename_i N M R rows cl hid
   split at h
   ·rename_i k
    subst k;cases h;obtain⟨t,q⟩:=K.obj _ _ hid;have B:=q.flat (fun _ _ _ h=>by cases h);refine⟨rfl,fun c d=>?_⟩;simp only[rel]at d;simp only[dp,rel];obtain⟨h1,I,u⟩:=d;refine⟨h1,by have:=q.past; rwa [B]at this,fun _=>?_⟩;rw[K.cT.loc _ t];exact u ⟨_,by rw[K.hH]; exact bf hid,q.ad⟩
   ·cases h
  ·rename_i N M U V rows mem cl hid
   split at h
   ·rename_i k
    subst k;cases h;obtain⟨t,q⟩:=K.obj _ _ hid;have B:=q.flat (fun _ _ _ h=>by cases h);refine⟨rfl,fun c d=>?_⟩;simp only[rel]at d;simp only[dp,rel];obtain⟨h1,I,u⟩:=d;refine⟨h1,by have:=q.past; rwa [B]at this,fun _=>?_⟩;rw[K.cT.loc _ t];exact u ⟨_,by rw[K.hH]; exact bf hid,q.ad⟩
   ·cases h
  ·cases h
 ·cases h; exact⟨rfl,fun c d=>by simp only[rel]at d; subst d; simp[dp,rel,G.int]⟩
 ·split at h
  ·rename_i k
   obtain⟨rfl,k⟩:=k;cases h;refine⟨rfl,fun c d=>?_⟩;simp only[rel]at d;simp only[dp,rel];obtain⟨cs,r1,r2⟩:=d;exact⟨cs,r1,LQ K k _ r2⟩
  ·cases h
 ·cases h; exact⟨rfl,fun c d=>by simpa only[dp,rel]using d⟩
 ·cases h
theorem DN(K:iA H e fz lens E E0):∀{k:List dn} {as:List AV} {g:List G},fx H e fz k as=some (true,g)→∀(rest:List G),
  g.length=oy k∧as.length=k.length∧(iP lens k (g++rest)).length=k.length ∧
   (∀ cs,ae E as cs→ae E0 (iP lens k (g++rest)) cs)∧∀ b o,E0.w.heap[b]? = E.w.heap[b]? → cf E as b o→cf E0 (iP lens k (g++rest)) b o
 | [],[],g,h,rest=>by
  simp only[fx,aX,a8]at h;obtain⟨_,rfl⟩:=h;refine⟨rfl,rfl,rfl,fun cs d=>?_,fun b o _ d=>by simp[iP,cf]⟩;cases cs with
  |nil=>simp[iP,ae]
  |cons _ _=>simp[ae]at d
 | sh::k,a::as,g,h,rest=>by
  simp only[fx]at h;split at h
  ·rename_i b g1 N g2 h1 u
   simp only[aX,a8,ar]at h;obtain⟨⟨rfl,rfl⟩,rfl⟩:=h;obtain⟨p1,t⟩:=LR K h1 (g2++rest);obtain⟨y,z,B,I,J⟩:=DN K u rest;have q:cD sh.sz (g1++(g2++rest))=g2++rest:=by rw[←p1]; exact oz g1 _
   refine⟨by simp only[oy,dV,p1,y],by simp only[cw,z],?_,?_,?_⟩
   ·simp only[iP,gV,q,cw,B]
   ·intro cs d
    cases cs with
    |nil=>simp[ae]at d
    | cons c cs =>
     simp only[ae]at d;simp only[iP,gV,q,ae];exact⟨t c d.1,I cs d.2⟩
   ·intro b o hb d
    simp only[cf]at d;simp only[iP,gV,q,cf];obtain⟨⟨v,r1,r2,r3⟩,M⟩:=d;exact⟨⟨v,by rw[World.qZ hb]; exact r1,r2,t v r3⟩,J b (o+1) hb M⟩
  ·cases h
 | [],_::_,_,h,_=>by simp[fx]at h
 |_::_,[],_,h,_=>by simp[fx]at h
theorem LS(K:iA H e fz lens E E0){sh:Sh}{a:AV}{g:List G}(h:kq H e fz sh a=some (true,g))(rest:List G) :
  g.length=sh.sz∧∀ c,rel E a c→rel E0 (gO lens sh (g++rest)) c:=by
 cases sh with
 |s a0=>exact LR K h rest
 | clo f caps =>
  cases a<;>simp only[kq]at h<;>try cases h
  rename_i g1 vs;split at h
  ·rename_i k
   subst k;obtain⟨q,u,v,t,y⟩:=DN K h rest;refine⟨q,fun c d=>?_⟩;simp only[rel]at d;simp only[gO,rel];obtain⟨cs,r1,r2⟩:=d;exact⟨cs,r1,t _ r2⟩
  ·cases h
theorem vn(K:iA H e fz lens E E0):∀{d:List Sh} {as:List AV} {g:List G},eB H e fz d as=some (true,g)→∀(rest:List G),
  g.length=DK d∧as.length=d.length∧(bV lens d (g++rest)).length=d.length∧(∀ cs,ae E as cs→ae E0 (bV lens d (g++rest)) cs)
 | [],[],g,h,rest=>by
  simp only[eB,aX,a8]at h;obtain⟨_,rfl⟩:=h;refine⟨rfl,rfl,rfl,fun cs k=>?_⟩;cases cs with
  |nil=>simp[bV,ae]
  |cons _ _=>simp[ae]at k
 | sh::d,a::as,g,h,rest=>by
  simp only[eB]at h;split at h
  ·rename_i b g1 I g2 h1 t
   simp only[aX,a8,ar]at h;obtain⟨⟨rfl,rfl⟩,rfl⟩:=h;obtain⟨p1,u⟩:=LS K h1 (g2++rest);obtain⟨v,y,z,B⟩:=vn K t rest;have q:cD sh.sz (g1++(g2++rest))=g2++rest:=by rw[←p1]; exact oz g1 _
   refine⟨by simp only[DK,dV,p1,v],by simp only[cw,y],by simp only[bV,gV,q,cw,z],?_⟩;intro cs k;cases cs with
   |nil=>simp[ae]at k
   | cons c cs =>
    simp only[ae]at k;simp only[bV,gV,q,ae];exact⟨u c k.1,B cs k.2⟩
  ·cases h
 | [],_::_,_,h,_=>by simp[eB]at h
 |_::_,[],_,h,_=>by simp[eB]at h
theorem LU(K:iA H e fz lens E E0):∀{t:List Sh} {as:List AV} {g:List G},eB H e fz t as=some (true,g)→∀{rest:List G} {k:Nat} {x v:AV} {c:Value},
  as[k]? = some x→(bV lens t (g++rest))[k]? = some v→rel E x c→rel E0 v c
 | [],[],_,_,_,_,_,_,_,d,_,_=>by simp at d
 | sh::t,a::as,g,h,rest,k,x,v,c,d,q,u=>by
  simp only[eB]at h;split at h
  ·rename_i b g1 I g2 h1 y
   simp only[aX,a8,ar]at h;obtain⟨⟨rfl,rfl⟩,rfl⟩:=h;obtain⟨p1,z⟩:=LS K h1 (g2++rest);have B:cD sh.sz (g1++(g2++rest))=g2++rest:=by rw[←p1]; exact oz g1 _
   simp only[bV,gV,B]at q;cases k with
   | zero =>
    simp at d q;subst d;subst q;exact z c u
   |succ k=>exact LU K y (by simpa using d) (by simpa using q) u
  ·cases h
 | [],_::_,_,h,_,_,_,_,_,_,_,_=>by simp[eB]at h
 |_::_,[],_,h,_,_,_,_,_,_,_,_=>by simp[eB]at h
theorem LV(K:iA H e fz lens E E0){sh:bZ}{o:ah}{g:List G}(h:gP H e fz sh o=some (true,g))(rest:List G)
  {j:Nat} (R:j<e.ids.length) (hlab:∀ l,sh.jl=some l→E0.X.r l=E.X.r l) (ho:aR E (e.at j) o.den):aR E0 j (eA lens sh (g++rest)).den:=by
 have y:∀ b:Nat,E0.w.heap[b]? = E.w.heap[b]? := fun b=>by rw[K.cT.w]
 have z:=K.cT.loc j R;unfold gP at h;split at h
 ·split at h
  ·rename_i u
   cases h;have u:=Kd.jM u;subst u;simp only[eA,ah.den,aR]at ho⊢;rcases ho with⟨h1,d⟩|⟨b,m,h1,d,t,I,U⟩
   ·exact .inl ⟨by rw[z,h1],d⟩
   ·exact .inr ⟨b,m,by rw[z,h1],q_ (y b) d,t,I,kY K.cT.bD _ I (y b) U⟩
  ·cases h
 ·rename_i shs cells
  obtain⟨q1,V,W,q5,q6⟩:=DN K h rest;simp only[eA,ah.den,aR]at ho⊢;obtain⟨b,n,h1,d,t⟩:=ho;exact⟨b,n,by rw[z,h1],by rw[W,←V]; exact q_ (y b) d,q6 b 0 (y b) t⟩
 ·split at h
  ·rename_i u
   cases h;simp only[ar]at u;have h1:=Ct.jL u.1;have d:=Ct.jL u.2;subst h1;subst d;simp only[eA,ah.den,aR]at ho⊢;obtain⟨b,n,ms,h1,d,t⟩:=ho;refine⟨b,n,ms,by rw[z,h1],?_,jm K.cT.bD t⟩;rw[y b];simpa[G.int]using d
  ·cases h
 ·rename_i l T B l' T' B' s
  split at h
  ·rename_i u
   cases h;simp only[ar]at u;obtain⟨h1,d,t⟩:=u;have h1:=br h1;have d:=br d;have t:=br t;subst h1 d t;simp only[eA,ah.den,aR]at ho⊢;obtain⟨b,n,p,v,k,q,g1,g2,g3,g4,g5,g6⟩:=ho;have J:=hlab l rfl;exact⟨b,n,p,v,k,q,by rw[z,g1],by rw[y b,g2],g3,by rw[J,g4],by rw[J]; exact g5,B3 (fun g m _=>y g) (by simpa[G.str]using g6)⟩
  ·cases h
 ·rename_i l K0 ks l' K' ks' rows clock
  split at h
  ·rename_i u
   cases h;simp only[ar]at u;obtain⟨h1,d,t⟩:=u;have h1:=br h1;have d:=Ct.jL d;have t:=Kd.jM t;subst h1 d t;simp only[eA,ah.den,aR]at ho⊢;obtain⟨b,n,ms,g1,g2,g3,g4⟩:=ho;have J:=hlab l rfl;refine⟨b,n,ms,by rw[z,g1],?_,jm K.cT.bD g3,uh (E:=E) (fun h g m hk=>⟨by rw[J]; exact hk,y g⟩) (fun _ _ _ _ _ M N hc O=>kY K.cT.bD _ hc N O) g4⟩;rw[y b];simpa[G.int]using g2
  ·cases h
 ·rename_i l K0 KI VI l' K' KI' VI' rows mem clock
  split at h
  ·rename_i u
   cases h;simp only[ar]at u;obtain⟨h1,d,t,I⟩:=u;have h1:=br h1;have d:=Ct.jL d;have t:=Ct.jL t;have I:=Ct.jL I;subst h1 d t I;simp only[eA,ah.den,aR]at ho⊢;obtain⟨b,n,ms,g1,g2,g3,g4⟩:=ho;have J:=hlab l rfl;refine⟨b,n,ms,by rw[z,g1],?_,jm K.cT.bD g3,B6 J (fun _ M _ _=>y M) (fun _ _ _=>jm K.cT.bD) g4⟩;rw[y b];simpa[G.int]using g2
  ·cases h
 ·cases h
end cT
def bZ.up:bZ→Nat
 |.vec _ u=>u
 |_=>0
theorem DO{H:List ah}{e:bF}{fz:Nat→Bool}{lens:c8}{sh:bZ}{o:ah}{b:Bool}{g d:List G}(h:gP H e fz sh o=some (b,g)) :
  o.den.aF = some (se o)∧(eA lens sh d).den.aF = some sh.up∧((∀ ks v rows,o≠.vec ks v rows)→sh.up=0):=by
 unfold gP at h;split at h
 ·exact⟨rfl,rfl,fun k=>(k _ _ _ rfl).elim⟩
 ·exact⟨rfl,rfl,fun _=>rfl⟩
 ·exact⟨rfl,rfl,fun _=>rfl⟩
 ·exact⟨rfl,rfl,fun _=>rfl⟩
 ·exact⟨rfl,rfl,fun _=>rfl⟩
 ·exact⟨rfl,rfl,fun _=>rfl⟩
 ·cases h
theorem Wm{H:List ah}{e:bF}{fz:Nat→Bool}{sh:dn}{a:AV}{b:Bool}{g:List G}(h:fM H e fz sh a=some (b,g)):g.length=sh.sz:=by
 unfold fM at h;split at h<;>(try split at h)<;>(try split at h)<;>(try split at h)<;>(try split at h)<;>first
  |(cases h; rfl)
  |cases h
theorem LW{H:List ah}{e:bF}{fz:Nat→Bool}:∀{d:List dn} {as:List AV} {b:Bool} {g:List G},fx H e fz d as=some (b,g)→g.length=oy d
 | [],[],_,g,h=>by simp[fx]at h; simp[←h.2,oy]
 | sh::d,a::as,b,g,h=>by
  simp only[fx]at h;split at h
  ·rename_i b g1 q g2 h1 k
   simp only[aX,a8]at h;obtain⟨_,rfl⟩:=h;simp only[oy,dV,Wm h1,LW k]
  ·cases h
 | [],_::_,_,_,h|_::_,[],_,_,h=>by simp[fx]at h
theorem Wn{H:List ah}{e:bF}{fz:Nat→Bool}{sh:bZ}{o:ah}{b:Bool}{g:List G}(h:gP H e fz sh o=some (b,g)):g.length=sh.sz:=by
 unfold gP at h;split at h
 ·split at h
  ·cases h; rfl
  ·cases h
 ·exact LW h
 ·split at h
  ·cases h; rfl
  ·cases h
 ·split at h
  ·cases h; rfl
  ·cases h
 ·split at h
  ·cases h; rfl
  ·cases h
 ·split at h
  ·cases h; rfl
  ·cases h
 ·cases h
theorem vo{H:List ah}{e:bF}{fz:Nat→Bool}:∀{os:List bZ} {ids:List Nat} {g:List G},jn H e fz os ids=some (true,g)→∀(rest:List G) (lens:c8),
  g.length=lU os∧ids.length=os.length∧(ca lens os (g++rest)).length=os.length ∧
  (∀ (j : Nat) (sh : bZ), os[j]? = some sh → ∃ i o g1 q, ids[j]? = some i ∧ H[i]? = some o ∧ gP H e fz sh o = some (true, g1) ∧ (ca lens os (g ++ rest))[j]? = some (eA lens sh (g1 ++ q)) ∧
   (bQ os (g++rest)).ad j=sh.up∧∀ ks v rows,o=.vec ks v rows→(bQ os (g++rest)).len j=rows.length)
 | [],[],g,h,rest,lens=>by
  simp only[jn,aX,a8]at h;obtain⟨_,rfl⟩:=h;exact⟨rfl,rfl,rfl,fun j sh d=>by simp at d⟩
 | sh::os,i::ids,g,h,rest,lens=>by
  simp only[jn]at h;split at h
  case h_2=>cases h
  rename_i o ho;split at h
  ·rename_i b g1 V g2 h1 z
   simp only[aX,a8,ar]at h;obtain⟨⟨rfl,rfl⟩,rfl⟩:=h;obtain⟨B,I,J,M⟩:=vo z rest lens;have t:=Wn h1;have k:cD sh.sz (g1++(g2++rest))=g2++rest:=by rw[←t]; exact oz g1 _
   refine⟨by simp only[lU,dV,t,B],by simp only[cw,I],by simp only[ca,gV,k,cw,J],fun j u d=>?_⟩;cases j with
   | zero =>
    simp at d;subst d;refine⟨i,o,g1,g2++rest,rfl,ho,h1,by simp only[ca,gV,List.getElem?_cons_zero],?_,?_⟩
    ·unfold bQ c8.ad
     cases sh<;>rfl
    ·rintro ks v rows rfl
     unfold gP at h1;split at h1
     ·rename_i heq
      cases heq;split at h1
      ·cases h1
       simp[bQ,c8.len,G.rows]
      ·cases h1
     ·rename_i heq; cases heq
     ·rename_i heq; cases heq
     ·rename_i heq; cases heq
     ·rename_i heq; cases heq
     ·rename_i heq; cases heq
     ·cases h1
   | succ j =>
    obtain⟨N,o',y,q,r1,r2,r3,O,R,U⟩:=M j u (by simpa using d);refine⟨N,o',y,q,by simpa using r1,r2,r3,by simpa only[ca,gV,k,SG]using O,?_,?_⟩
    ·simpa only[bQ,c8.ad,gV,k,ahU]using R
    ·simpa only[bQ,c8.len,gV,k,ahU]using U
  ·cases h
 | [],_::_,_,h,_,_=>by simp[jn]at h
 |_::_,[],_,h,_,_=>by simp[jn]at h
end Go.AL

namespace Go.AL
open Go
variable [Dr]
abbrev sg(a b:Bool):Bool:=Bool.casesOn a false b
theorem sk{a b:Bool}:sg a b=true↔a=true∧b=true:=by cases a<;>simp
open Classical in
noncomputable def mX(E:Env)(H0:List ab)(l:Nat):List (Option (Option (Nat × Nat))):=if ∃(j:Nat) (o:ab),H0[j]? = some o∧o.label=some l then E.X.r l else (E.X.r l).map fun _=>none
theorem Wo{E:Env}{H0:List ab}{l j:Nat}{o:ab}(h:H0[j]? = some o)(d:o.label=some l):mX E H0 l=E.X.r l:=if_pos ⟨j,o,h,d⟩
theorem y4{E:Env}{H0:List ab}{l h:Nat}{q:Option (Nat × Nat)}(d:(mX E H0 l)[h]? = some (some q)):(E.X.r l)[h]? = some (some q)∧∃(j:Nat) (o:ab),H0[j]? = some o∧o.label=some l:=by
 unfold mX at d;split at d
 ·rename_i k
  exact⟨d,k⟩
 ·rw [bR] at d
  cases g:(E.X.r l)[h]? with
  |none=>rw[g]at d; cases d
  |some y=>rw[g]at d; cases d
theorem Wp(E:Env)(H0:List ab)(l:Nat):(mX E H0 l).length=(E.X.r l).length:=by
 unfold mX;split
 ·rfl
 ·simp
noncomputable def iB(E:Env)(H0:List ab)(ids:List Nat):Env:=⟨E.w,H0,ids.map fun i=>E.loc.getD i none,E.X.re (mX E H0)⟩
theorem LX(E:Env)(H0:List ab)(ids:List Nat):∀ l h,h<(E.X.r l).length→h<((iB E H0 ids).X.r l).length∧∀ q,((iB E H0 ids).X.r l)[h]? = some (some q)→(E.X.r l)[h]? = some (some q) :=
 fun l h d=>⟨by show h<(mX E H0 l).length; rw[Wp]; exact d,fun q g=>(y4 (E:=E) (H0:=H0) g).1⟩
theorem LY{E:Env}{H0:List ab}{ids:List Nat}{b:Nat}(h:(iB E H0 ids).own b):E.own b:=by
 rcases h with⟨j,c,g⟩|⟨l,k,c,g⟩
 ·simp only [iB, bR] at g
  obtain⟨i,_,d⟩:=dR.1 g;rw[b_]at d;cases he:E.loc[i]? with
  |none=>rw[he]at d; cases d
  |some y=>rw[he]at d; simp at d; exact .inl ⟨i,c,by rw[he,d]⟩
 ·exact .inr ⟨l,k,c,(y4 g).1⟩
def iC(ids:List Nat)(i:Nat):Bool := !ids.any (af i)
theorem LZ{ids:List Nat}{i:Nat}(h:iC ids i=true):i∉ids:=by
 intro hm;have:ids.any (af i)=true:=jz.2 ⟨i,hm,by simp⟩;simp[iC,this]at h
theorem L0{E:Env}{H:List ah}(hH:E.H=ai H)(HE:aq E){ids:List Nat}(hn:ids.Nodup){os:List bZ}{g:List G}(h:jn H (bB H ids) (iC ids) os ids=some (true,g))(rest:List G) :
  iA H (bB H ids) (iC ids) (bQ os (g++rest)) E (iB E (ai (ca (bQ os (g++rest)) os (g++rest))) ids) ∧
   aq (iB E (ai (ca (bQ os (g++rest)) os (g++rest))) ids):=by
 obtain⟨p0,p1,p2,p3⟩:=vo h rest (bQ os (g++rest));generalize B:iB E (ai (ca (bQ os (g++rest)) os (g++rest))) ids=E0;have hElen:E.loc.length=H.length:=by rw[HE.len,hH,eH]
 have eids:(bB H ids).ids=ids:=rfl;have R:∀ j x,E0.loc[j]? = some x→j<ids.length∧∃ i,ids[j]? = some i∧E.loc.getD i none=x:=by
  intro j x z;rw[←B]at z;simp only[iB,bR]at z;obtain⟨i,h1,u⟩:=dR.1 z;exact⟨aL h1,i,h1,u⟩
 have getD_some:∀{i:Nat} {x:Nat × Nat},E.loc.getD i none=some x→E.loc[i]? = some (some x):=by
  intro i x z;rw[b_]at z;cases he:E.loc[i]? with
  |none=>rw[he]at z; cases z
  |some y=>rw[he]at z; simp at z; rw[z]
 have hown:∀ b,E0.own b→E.own b:=by
  rintro b (⟨j,c,t⟩|⟨l,k,c,t⟩)
  ·obtain ⟨_, i, _, u⟩ := R j _ t
   exact .inl ⟨i,c,getD_some u⟩
  ·rw [← B] at t
   exact .inr ⟨l,k,c,(y4 t).1⟩
 have hw:E0.w=E.w:=by rw[←B]; rfl
 have hX:E0.X.x=E.X.x:=by rw[←B]; rfl
 have O:∀(l k:Nat) q,(E0.X.r l)[k]? = some (some q)→(E.X.r l)[k]? = some (some q)∧∃(j:Nat) (o:ab),E0.H[j]? = some o∧o.label=some l:=fun l k q hq=>by
  rw[←B]at hq⊢;exact y4 hq
 have hatl:∀ j,j<ids.length→ids[j]? = some ((bB H ids).at j):=fun j t=>gN (e:=bB H ids) t;have W:∀ j,j<ids.length→∃ sh o g1 I,os[j]? = some sh∧H[(bB H ids).at j]? = some o∧gP H (bB H ids) (iC ids) sh o=some (true,g1) ∧
   (ca (bQ os (g++rest)) os (g++rest))[j]? = some (eA (bQ os (g++rest)) sh (g1++I)) ∧
   (bQ os (g++rest)).ad j=sh.up∧∀ ks v rows,o=.vec ks v rows→(bQ os (g++rest)).len j=rows.length:=by
  intro j t;have hj':j<os.length:=by omega
  obtain⟨i,o,g1,I,U,J,N,M,V,q6⟩:=p3 j os[j] (bd hj');rw[hatl j t]at U;cases U;exact⟨os[j],o,g1,I,bd hj',J,N,M,V,q6⟩
 have hK:iA H (bB H ids) (iC ids) (bQ os (g++rest)) E E0:=by
  refine⟨hH,HE,fun i hi b n hb=>?_,⟨fun b hb=>⟨⟨by rw[hw]; exact hb.1,fun ho=>hb.2.1 (hown b ho),by rw[hX]; exact hb.2.2⟩,by rw[hw]⟩,hw,fun j t=>?_,fun j o l h1 u=>by rw[←B]at h1⊢; exact Wo h1 u⟩,fun j o ho=>?_⟩
  ·refine ⟨by rw [hw]; exact (HE.lt _ _ _ hb).1, ?_, by rw [hX]; exact (HE.lt _ _ _ hb).2⟩
   rintro(⟨j,c,t⟩|⟨l,k,c,t⟩)
   case inr=>exact HE.cN _ _ _ _ _ _ hb (O l k _ t).1
   obtain⟨_,i',h1,u⟩:=R j _ t;have:=HE.inj _ _ _ _ _ hb (getD_some u);subst this;exact LZ hi (fa h1)
  ·rw [← B]
   simp only[iB,bR,hatl j t,dL];have hlt:(bB H ids).at j<E.loc.length:=by
    obtain⟨sh,o,g1,I,_,J,_⟩:=W j t;rw[hElen];exact aL J
   rw[b_,bd hlt];rfl
  ·have t:j<ids.length:=by
    rcases h_ j ids.length with hlt|hge
    ·exact hlt
    ·have h1 := aL ho
     have u:=sc (e:=bB H ids) hge;have h3:(bB H ids).base=H.length:=rfl;omega
   refine⟨t,?_⟩;obtain⟨sh,o',g1,I,U,J,N,M,V,q6⟩:=W j t;rw[ho]at J;cases J;obtain⟨r1,r2,r3⟩:=DO (lens:=bQ os (g++rest)) (d:=g1++I) N;have hq4:E0.H[j]? = some (eA (bQ os (g++rest)) sh (g1++I)).den:=by
    rw[←B];exact bf M
   exact⟨r1,⟨_,hq4,by rw[V]; exact r2⟩,fun o0 h0=>by rw[hq4]at h0; cases h0; rw[DL,DM N],q6,fun hv=>by rw[V]; exact r3 hv⟩
 have hlabs:∀(j:Nat) o,E0.H[j]? = some o→j<ids.length∧∃ o',E.H[(bB H ids).at j]? = some o'∧o'.label=o.label:=fun j o ho=>by
  rw[←B]at ho;simp only[iB,ai,bR]at ho;obtain⟨o',h1,rfl⟩:=dR.1 ho;have t:j<ids.length:=by
   have:=aL h1;omega
  obtain⟨sh,oo,g1,I,U,J,N,M,_⟩:=W j t;rw[h1]at M;cases M;exact⟨t,oo.den,by rw[hH]; exact bf J,by rw[LP N,sd]⟩
 refine⟨hK,?_,?_,?_,fun b z=>?_,fun j o ho=>?_,HE.fh.bD hK.cT.bD,fun l k l' k' b m n h1 u=>HE.eS l k l' k' b m n (O _ _ _ h1).1 (O _ _ _ u).1,fun i b m l k n hi u=>?_,fun l k b m h1=>by rw[hw,hX]; exact HE.cn l k b m (O _ _ _ h1).1,fun i j o o' l hi t h1 u=>?_,fun l hn k q hq=>?_⟩
 ·rw [← B]
  simp only[iB,dv,eH,p2,p1]
 ·intro i j b m n hi t
  obtain⟨i1,i2,i3,i4⟩:=R i _ hi;obtain⟨j1,j2,j3,j4⟩:=R j _ t;have:=HE.inj _ _ _ _ _ (getD_some i4) (getD_some j4);subst this;exact(BR i1 hn).1 (by rw[i3,j3])
 ·intro i b m hi
  obtain⟨_,i2,_,i4⟩:=R i _ hi;rw[hw,hX];exact HE.lt _ _ _ (getD_some i4)
 ·rw [hw]
  rw[hX]at z;exact HE.X b z
 ·rw [← B] at ho
  simp only[iB,ai,bR]at ho;obtain⟨o',h1,rfl⟩:=dR.1 ho;have t:j<ids.length:=by
   have:=aL h1;omega
  obtain⟨sh,oo,g1,I,U,J,N,M,V,q6⟩:=W j t;rw[h1]at M;cases M;refine LV hK N I (by exact t) (fun l hl=>?_) (HE.obj _ _ (by rw[hH]; exact bf J));refine hK.cT.jl j (eA (bQ os (g++rest)) sh (g1++I)).den l ?_ (by rw[sd,hl]);rw[←B];exact bf h1
 ·obtain ⟨_, i', _, h3⟩ := R i _ hi
  exact HE.cN _ _ _ _ _ _ (getD_some h3) (O _ _ _ u).1
 ·obtain ⟨i1, oi, a1, a2⟩ := hlabs i o hi
  obtain⟨j1,oj,b1,b2⟩:=hlabs j o' t;have:=HE.uniq _ _ _ _ l a1 b1 (by rw[a2,h1]) (by rw[b2,u]);exact(BR i1 hn).1 (by rw[hatl i i1,hatl j j1,this])
 ·obtain ⟨_, j, o, h1, u⟩ := O l k q hq
  exact hn j o h1 u
def nodupB:List Nat→Bool
 | []=>true
 |i::is => !is.any (af i)&&nodupB is
theorem sn:∀{l:List Nat},nodupB l=true→l.Nodup
 | [],_=>List.nodup_nil
 | i::is,h=>by
  simp only[nodupB,ar,pq]at h;refine nL.2 ⟨fun hm=>?_,sn h.2⟩;have:is.any (af i)=true:=jz.2 ⟨i,hm,by simp⟩;rw[h.1]at this;cases this
def mY(H:List ah):Nat→Nat→List Nat→List bZ→Bool
 |_,0,_,_=>true
 |i,m+1,id::ids,o::os=>af id i&&((af (sf H i) 0 || !af o.up 0)&&mY H (i+1) m ids os)
 |_,_,_,_=>false
theorem y5{H:List ah}:∀{i m:Nat} {ids:List Nat} {os:List bZ},mY H i m ids os=true→∀ j,j<m→ids[j]? = some (i+j)∧∃ o,os[j]? = some o∧(sf H (i+j)=0∨o.up≠0)
 |_,0,_,_,_,j,g=>by omega
 | i,m+1,id::ids,o::os,h,j,g=>by
  simp only[mY,ar,Bool.or_eq_true,pq]at h;obtain⟨h1,d,k⟩:=h;have h1:=br h1;subst h1;cases j with
  | zero =>
   refine⟨rfl,o,rfl,?_⟩;rcases d with d|d
   ·exact .inl (br d)
   ·right
    intro e;rw[e]at d;cases d
  | succ j =>
   have:=y5 k j (by omega);rw[show id+1+j=id+(j+1) from by omega]at this;simpa using this
 |_,_+1,[],_,h,_,_=>by simp[mY]at h
 |_,_+1,_::_,[],h,_,_=>by simp[mY]at h
theorem L1{E:Env}{H:List ah}(hH:E.H=ai H){ids:List Nat}{os:List bZ}{m:Nat}{lens:c8}{E0:Env}(u:iA H (bB H ids) (iC ids) lens E E0)(hX:E0.X.x=E.X.x∧E0.X.z=E.X.z)
  (V:∀ l h,h<(E.X.r l).length→h<(E0.X.r l).length∧∀ q,(E0.X.r l)[h]? = some (some q)→(E.X.r l)[h]? = some (some q))
  (W:mY H 0 m ids os=true) (R:∀ j,j<m→∃ o sh,H[(bB H ids).at j]? = some o∧os[j]? = some sh∧lens.ad j=sh.up) (U:∀ b,E0.own b→E.own b):E.eX m E0:=by
 have key:∀ id,id<m→(bB H ids).at id=id∧∃ o sh,H[id]? = some o∧os[id]? = some sh∧lens.ad id=sh.up∧(se o=0∨sh.up≠0)∧yZ E0 lens id o∧id<ids.length:=by
  intro id hid;obtain⟨h1,o',J,y⟩:=y5 W id hid;rw[cR]at h1 y;have I:=aL h1;have g:=gN (e:=bB H ids) (j:=id) I;rw[show (bB H ids).ids=ids from rfl,h1]at g;have g:=(gh g).symm;obtain⟨o,sh,d,k,B⟩:=R id hid;obtain⟨r1,r2⟩:=u.obj id o d;rw[g]at d;rw[J]at k;have k:=gh k;rw[←k]at B;refine⟨g,o,o',d,J,B,?_,r2,I⟩;rcases y with y|y
  ·left
   simpa[sf,d]using y
  ·exact .inr y
 refine⟨fun id hid hp=>?_,by rw[u.cT.w]; exact aH _,fun b _ _=>by rw[u.cT.w],fun b _ hb ho=>hb (U b ho),fun id hid hp hl=>?_,fun b _=>by rw[hX.1,hX.2]; exact⟨Iff.rfl,Iff.rfl⟩,V,by rw[u.cT.w]; exact⟨rfl,rfl,rfl,by first|exact fun _=>aH _|exact fun _=>fT _ _⟩,fun id hid l o h1 J _=>?_⟩
 rotate_right
 ·obtain ⟨g, o1, sh, d, k, B, M, t, I⟩ := key id hid
  obtain⟨o0,r1,r2⟩:=t.obj;rw[hH,bf d]at h1;cases h1;have hm:=t.mm o0 r1;rw[J]at hm;exact⟨⟨[],by rw[dx]; exact u.cT.jl id o0 l r1 (ab.kX hm)⟩,o0,r1,hm⟩
 ·obtain ⟨_, o, sh, d, k, B, M, t, _⟩ := key id hid
  obtain⟨o0,r1,r2⟩:=t.obj;exact⟨o0,r1,ab.B0 r2,fun v _=>dB v⟩
 ·obtain ⟨g, o, sh, d, k, B, M, t, I⟩ := key id hid
  obtain⟨o0,r1,r2⟩:=t.obj;obtain⟨o1,r3,N⟩:=hl;rw[r1]at r3;cases r3;rw[r2]at N;have O:lens.ad id=0:=gh N;rw[B]at O;have hv:se o=0:=M.resolve_right (fun h=>h O);refine⟨⟨o.den,by rw[hH]; exact bf d,by rw[t.ad,hv]⟩,?_⟩;have:=u.cT.loc id I;rw[g]at this;exact this
structure m_ where
 n:Nat
 vp:List (Nat × Sh)
 cF:List bZ
def so:Nat→List (Nat × Sh)→List AV→AV
 | i,(j,_)::d,v::vs=>match af i j with
  |true=>v
  |false=>so i d vs
 |_,_,_=>.undef
def bC(S:m_)(d:List G):al :=
 ⟨(er S.n).map fun i=>so i S.vp (bV (bQ S.cF d) (S.vp.map (·.2)) (cD (lU S.cF) d)),ca (bQ S.cF d) S.cF d⟩
def DP(m:Nat)(S:m_)(ids:List Nat)(s:al):Option (Bool × List G) :=
 match af s.fr.length S.n&&(nodupB ids&&mY s.H 0 m ids S.cF)with
 |false=>none
 | true=>match jn s.H (bB s.H ids) (iC ids) S.cF ids,eB s.H (bB s.H ids) (iC ids) (S.vp.map (·.2)) (S.vp.map fun p=>s.fr.getD p.1 .undef) with
  |some (b,g),some (d,h)=>some (b&&d,g++h)
  |_,_=>none
theorem L2{E:Env}:∀{d:List (Nat × Sh)} {vs:List AV} {cs:List Value} {i:Nat} {c:Value},(∀(k:Nat) (p:Nat × Sh) (v:AV),d[k]? = some p→vs[k]? = some v→∀ c,cs[p.1]? = some c→rel E v c)→cs[i]? = some c →
  rel E (so i d vs) c
 | [],_,_,_,_,_,_=>by simp[so,rel]
 |_::_,[],_,_,_,_,_=>by simp[so,rel]
 | (j,sh)::d,v::vs,cs,i,c,h,g=>by
  simp only[so];split
  ·rename_i e
   have e:=br e;subst e;exact h 0 (i,sh) v rfl rfl c g
  ·exact L2 (fun k p v hk q=>h (k+1) p v (by simpa using hk) (by simpa using q)) g
theorem Wq{m:Nat}{S:m_}{ids:List Nat}{s:al}{d:List G}(h:DP m S ids s=some (true,d)):bq m s.den (bC S d).den:=fun E a u=>by
 unfold DP at h;split at h
 ·cases h
 rename_i q;simp only[ar]at q;obtain⟨hlen,y,I⟩:=q;have hlen:=br hlen;have y:=sn y;split at h
 case h_2=>cases h
 rename_i b g b' t h1 N;simp only[aX,a8,ar]at h;obtain⟨⟨rfl,rfl⟩,rfl⟩:=h;have hH:E.H=ai s.H:=u.H;obtain⟨B,R⟩:=L0 hH u.heap y h1 t;obtain⟨p0,p1,p2,p3⟩:=vo h1 t (bQ S.cF (g++t));have hd:cD (lU S.cF) (g++t)=t:=by rw[←p0]; exact oz g t
 have O:=vn B N [];rw[dx]at O;obtain⟨q1,q2,q3,q4⟩:=O;refine⟨ids.map fun i=>E.loc.getD i none,E.X.re (mX E (bC S (g++t)).den.H),⟨rfl,?_,u.defers,R⟩,?_⟩
 ·have U : ae E s.fr a.tmps.toList := u.fr
  obtain⟨f1,f2⟩:=mC.1 U;refine mC.2 ⟨?_,fun i x c hi q=>?_⟩
  ·simp only [al.den, bC, dv, List.length_range]
   omega
  ·simp only [al.den, bC, hd, bR] at hi
   obtain⟨i',z,rfl⟩:=dR.1 hi;have V:i<S.n:=by
    have:=aL z;simpa using this
   rw[List.getElem?_range V]at z;cases z;refine L2 (cs:=a.tmps.toList) (fun k p v hk hv c q=>?_) q;have W:(S.vp.map fun p=>s.fr.getD p.1 .undef)[k]? = some (s.fr.getD p.1 .undef):=by simp[hk]
   have hx:rel E (s.fr.getD p.1 .undef) c:=by
    have J:=aL q;rw[←f1]at J;have e1:s.fr[p.1]? = some (s.fr.getD p.1 .undef):=by
     rw[b_,bd J];rfl
    exact f2 p.1 _ c e1 q
   exact LU B N W (by rw[dx]; exact hv) hx
 ·exact L1 hH B ⟨rfl,rfl⟩ (LX E _ ids) I (fun j hj=>by
   obtain⟨r1,o',r2,_⟩:=y5 I j hj;obtain⟨i,o,g1,rest1,t1,t2,t3,t4,t5,t6⟩:=p3 j o' r2;have M:=gN (e:=bB s.H ids) (j:=j) (aL t1);rw[show (bB s.H ids).ids=ids from rfl,t1]at M;cases M;exact⟨o,o',t2,r2,t5⟩) (fun b=>LY)
/-! ### d array under a slice, cut to g slice -/
def DQ(slot:Nat)(s:al):al :=
 match s.fr.getD slot .undef with
 | .vec w id ad off n=>match s.H[id]? with
  |some (.vec ks v rows)=>if ad=v∧off=0∧w=ks.length then ⟨s.fr.set slot (.vec w id (v+1) 0 n),s.H.set id (.vec ks (v+1) (rows.take n))⟩ else s
  |_=>s
 |_=>s
theorem y6{E:Env}{a:AV}:∀{fr:List AV} {cs:List Value} {i:Nat},ae E fr cs→(∀ c,cs[i]? = some c→rel E a c)→ae E (fr.set i a) cs
 | [],cs,i,h,_=>by simpa using h
 |x::fr,[],i,h,_=>by simp[ae]at h
 | x::fr,c::cs,0,h,ha=>by
  simp only[ae]at h;simp only[List.set_cons_zero,ae];exact⟨ha c rfl,h.2⟩
 | x::fr,c::cs,i+1,h,ha=>by
  simp only[ae]at h;simp only[List.set_cons_succ,ae];exact⟨h.1,y6 h.2 fun y d=>ha y (by simpa using d)⟩
theorem DR{E:Env}{fr:List AV}{cs:List Value}{i:Nat}{c:Value}(h:ae E fr cs)(g:cs[i]? = some c):rel E (fr.getD i .undef) c:=by
 obtain⟨h1,k⟩:=mC.1 h;have d:=aL g;rw[←h1]at d;have q:fr[i]? = some (fr.getD i .undef):=by
  rw[b_,bd d];rfl
 exact k i _ c q g
theorem Wr{m:Nat}{slot:Nat}{s:al}:bq m s.den (DQ slot s).den:=by
 unfold DQ;split
 case h_2=>exact bq.refl _
 rename_i w id ad off n U;split
 case h_2=>exact bq.refl _
 rename_i ks v rows hid;split
 case isFalse=>exact bq.refl _
 rename_i y;obtain⟨rfl,rfl,rfl⟩:=y;intro E a d;have hH:E.H=ai s.H:=d.H;have t:E.H[id]? = some (.vec ks.length ad (rows.map (aK ks))):=by rw[hH]; exact bf hid
 have ho:=d.heap.obj id _ t;obtain⟨l,z⟩:∃ l,E.loc[id]? = some l:=by
  have:id<E.loc.length:=by rw[d.heap.len]; exact aL t
  exact⟨_,bd this⟩
 have J:E.loc.set id l=E.loc:=lO z;have I:ai (s.H.set id (.vec ks (ad+1) (rows.take n)))=E.H.set id (.vec ks.length (ad+1) ((rows.take n).map (aK ks))):=by rw[dj,hH]; rfl
 have V:∀ b n,l=some (b,n)→E.w.heap.size≤b∨∃ m,E.loc[id]? = some (some (b,m)):=fun b n hb=>.inr ⟨n,by rw[z,hb]⟩;have M:∀ v u,(ab.vec ks.length (ad+1) ((rows.take n).map (aK ks))).aF = some v→(ab.vec ks.length ad (rows.map (aK ks))).aF = some u→u≤v:=by
  intro v u h1 k;simp[ab.aF]at h1 k;omega
 have N:∀ v,(ab.vec ks.length (ad+1) ((rows.take n).map (aK ks))).aF = some v→∀ u,(ab.vec ks.length ad (rows.map (aK ks))).aF = some u→u<v:=by
  intro v h1 u k;simp[ab.aF]at h1 k;omega
 have hle:=Env.jE (o':=.vec ks.length (ad+1) ((rows.take n).map (aK ks))) (l:=l) (w':=E.w) t d.heap.len (aH _) (fun _ _ _=>rfl) V (.inr N) M (fun _ h=>by simp[ab.aF]at h);have O:=aq.k0 (o':=.vec ks.length (ad+1) ((rows.take n).map (aK ks))) (l:=l) (w':=E.w) d.heap t (aH _) (fun _ _ _=>rfl) (fun b n hb=>.inr ⟨n,by rw[z,hb]⟩) (.inr N) M (fun _ h=>by simp[ab.aF]at h) (by
  rw[J]at hle⊢;simp only[aR]at ho⊢;rcases ho with⟨h1,k⟩|⟨b,mm,h1,k,B,h4,R⟩
  ·left
   refine⟨h1,?_⟩;have:rows=[]:=by simpa using k
   rw[this];simp
  ·right
   refine⟨b,mm,h1,k,by simp at B⊢; omega,?_,?_⟩
   ·intro r q
    obtain⟨g,_,rfl⟩:=di.1 q;exact fW ks g
   ·rw [lH] at R ⊢
    intro i r hi;simp only[bR,nA]at hi;split at hi
    ·obtain ⟨g1, g2⟩ := R i r (by simpa using hi)
     exact⟨g1,xX (fun a c q=>bK hle a q) rfl g2⟩
    ·simp at hi)
 rw[J]at hle O;refine⟨E.loc,E.X,?_,?_⟩
 ·simp only [al.den]
  rw[I];refine⟨rfl,?_,d.defers,O⟩;refine y6 (dN hle _ d.fr) fun c y=>?_;have q:=DR d.fr y;rw[show s.den.fr=s.fr from rfl,U]at q;simp only[rel]at q⊢;obtain⟨h1,k,B⟩:=q;exact⟨h1,⟨.vec ks.length (ad+1) ((rows.take n).map (aK ks)),bk (aL t),rfl,fun v W=>by simp[ab.aF]at W; omega⟩,fun _=>B ⟨_,t,rfl⟩⟩
 ·simp only [al.den]
  rw[I];exact hle.toM
end Go.AL

namespace Go.AL
open Go
variable [Dr]
def Tree.leaf{β:Type}(f:bW→al→Option (Bool × β)):Tree→Option β
 |.fail=>none
 | .done x s=>match f x s with
  |some (b,r)=>bif b then some r else none
  |none=>none
 |.ask b t e=>bif b then t.leaf f else e.leaf f
 |.side b t=>bif b then t.leaf f else none
theorem oA{β:Type}{f:bW→al→Option (Bool × β)}:∀{t:Tree} {r:β},t.leaf f=some r→t.holds fun x s=>f x s=some (true,r)
 |.fail,_,h=>by cases h
 | .done x s,r,h=>by
  simp only[Tree.leaf]at h;split at h
  ·rename_i b r' d
   cases b with
   |true=>cases h; exact d
   |false=>cases h
  ·cases h
 | .ask b t e,r,h=>by
  cases b with
  |true=>exact⟨fun _=>oA (t:=t) h,fun h=>by cases h⟩
  |false=>exact⟨fun h=>(nomatch h),fun _=>oA (t:=e) h⟩
 | .side b t,r,h=>by
  cases b with
  |true=>exact And.intro rfl (oA (t:=t) h)
  |false=>cases h
inductive jS where
 |fix (i:Nat)
 |slot (i:Nat)
 |cap (i c:Nat)
 |cell (j c:Nat)
 |DS (j c k:Nat)
def y7:AV→Option Nat
 |.ptr id _ _ _ _=>some id
 |.vec _ id _ _ _=>some id
 |.map id=>some id
 |_=>none
def y8(H:List ah)(vals:Nat→AV)(acc:List Nat):jS→Option Nat
 |.fix i=>some i
 |.slot i=>y7 (vals i)
 | .cap i c=>match vals i with
  |.clo _ cs=>y7 (cs.getD c .undef)
  |_=>none
 | .cell j c=>match H[acc.getD j 0]? with
  |some (.raw (.box cells))=>y7 (cells.getD c .undef)
  |_=>none
 | .DS j c k=>match H[acc.getD j 0]? with
  | some (.raw (.box cells))=>match cells.getD c .undef with
   |.clo _ cs=>y7 (cs.getD k .undef)
   |_=>none
  |_=>none
def jo(H:List ah)(vals:Nat→AV):List jS→List Nat→Option (List Nat)
 | [],acc=>some acc
 | p::ps,acc=>match y8 H vals acc p with
  |some i=>jo H vals ps (acc++[i])
  |none=>none
/-! ### d -/
structure sq where
 x:bW
 S:m_
 ps:List jS
structure bH where
 key:Nat
 opens:List (Nat × List Kd)
 inv:m_
 ps:List jS
 outs:List sq
 st:List G→Option (Option Nat × List G)
def p8(st:List G→Option (Option Nat × List G)):Nat→List G→Option (Nat × List G)
 |0,_=>none
 | n+1,d=>match st d with
  |some (none,d')=>p8 st n d'
  |some (some x,d')=>some (x,d')
  |none=>none
def cu(st:List G→Option (Option Nat × List G))(d:List G):Option (Nat × List G):=p8 st 1000000 d
def DT(r:Option (Nat × List G)):Nat:=match r with
 |some (x,_)=>x
 |none=>0
def DU(r:Option (Nat × List G)):List G:=match r with
 |some (_,d)=>d
 |none=>[]
def kr(m:Nat)(S:m_)(ps:List jS)(s:al):Option (Bool × List G) :=
 match jo s.H (fun i=>s.fr.getD i .undef) ps []with
 |some ids=>DP m S ids s
 |none=>none
theorem nc{m:Nat}{S:m_}{ps:List jS}{s:al}{d:List G}(h:kr m S ps s=some (true,d)):bq m s.den (bC S d).den:=by
 unfold kr at h;split at h
 ·exact Wq h
 ·cases h
def jq:List (Nat × List Kd)→al→al
 | [],s=>s
 | (i,ks)::r,s=>match bI 1000000 i with
  |true=>jq r (DQ (i-1000000) s)
  | false=>match isNil (s.fr.getD i .undef) with
   |true=>jq r (vh i ks s)
   |false=>jq r s
theorem nf{m:Nat}:∀(l:List (Nat × List Kd)) (s:al),bq m s.den (jq l s).den
 | [],s=>bq.refl _
 | (i,ks)::r,s=>by
  simp only[jq];split
  ·exact Wr.trans (nf r _)
  ·split
   ·rename_i h
    exact(LA h).trans (nf r _)
   ·exact nf r s
def p9(m:Nat):List sq→Nat→bW→al→Option (Bool × (Option Nat × List G))
 | [],_,_,_=>none
 | o::os,i,x,s=>match decide (x=o.x) with
  | true=>match kr m o.S o.ps s with
   |some (b,d)=>some (b,(some i,d))
   |none=>none
  |false=>p9 m os (i+1) x s
def y9(m:Nat)(sp:bH)(x:bW)(s:al):Option (Bool × (Option Nat × List G)) :=
 match x with
 | .normal=>match kr m sp.inv sp.ps s with
  |some (b,d)=>some (b,(none,d))
  |none=>none
 |x=>p9 m sp.outs 0 x (jq sp.opens s)
theorem y_{m:Nat}:∀{os:List sq} {i:Nat} {x:bW} {s:al} {b:Bool} {k:Option Nat} {d:List G},p9 m os i x s=some (b,(k,d)) →
  ∃ j o,os[j]? = some o∧k=some (i+j)∧x=o.x∧kr m o.S o.ps s=some (b,d)
 | [],_,_,_,_,_,_,h=>by cases h
 | o::os,i,x,s,b,k,d,h=>by
  simp only[p9]at h;split at h
  ·rename_i g
   split at h
   ·rename_i y d' q
    cases h;exact⟨0,o,rfl,rfl,of_decide_eq_true g,q⟩
   ·cases h
  ·obtain ⟨j, o', h1, t, u, v⟩ := y_ h
   exact⟨j+1,o',by simpa using h1,by rw[t]; congr 1; omega,u,v⟩
section loops
variable {P:Program} {τ:au} {L:LT} {m:Nat} {c:Code} {sp:bH}
def cP(P:Program)(τ:au)(L:LT)(m:Nat)(c:Code)(sp:bH):Prop:=∀ d,(fL P τ L c (bC sp.inv d) .done).leaf (y9 m sp)=sp.st d
theorem L3(hm:P.follows .mixedOrders=true)(q:aw P τ)(t:aJ P m L c)(u:cP P τ L m c sp){d d':List G}{k:Option Nat}(h:sp.st d=some (k,d')) :
  (k = none ∧ dA P m c (bC sp.inv d).den .normal (bC sp.inv d').den) ∨
   ∃ j o,k=some j∧sp.outs[j]? = some o∧o.x≠.normal∧dA P m c (bC sp.inv d).den o.x (bC o.S d').den:=by
 rw[←u d]at h;obtain⟨x,s1,h1,g⟩:=lk hm q c (bC sp.inv d) .done t (Q:=fun x s=>y9 m sp x s=some (true,(k,d'))) (oA h);have g:y9 m sp x s1=some (true,(k,d')):=g;unfold y9 at g;split at g
 ·split at g
  ·rename_i b d2 v
   cases g;exact .inl ⟨rfl,rL h1 (nc v)⟩
  ·cases g
 ·rename_i y
  obtain⟨j,o,g1,g2,rfl,g4⟩:=y_ g;exact .inr ⟨j,o,by simpa using g2,g1,fun e=>y e,rL h1 ((nf sp.opens s1).trans (nc g4))⟩
theorem L4(hm:P.follows .mixedOrders=true)(g:aw P τ)(k:aJ P m L c)(q:cP P τ L m c sp):∀(n:Nat) {d d':List G} {x:Nat},p8 sp.st n d=some (x,d') →
  ∃ o,sp.outs[x]? = some o∧kf P m c (bC sp.inv d).den o.x (bC o.S d').den
 |0,_,_,_,h=>by cases h
 | n+1,d,d',x,h=>by
  simp only[p8]at h;split at h
  ·rename_i d1 h1
   rcases L3 hm g k q h1 with⟨_,t⟩|⟨_,_,hk,_⟩
   ·obtain ⟨o, g1, g2⟩ := L4 hm g k q n h
    exact⟨o,g1,.next t g2⟩
   ·cases hk
  ·rename_i u d1 h1
   cases h;rcases L3 hm g k q h1 with⟨hk,_⟩|⟨j,o,hk,g1,g2,g3⟩
   ·cases hk
   ·cases hk
    exact⟨o,g1,.stop g3 g2⟩
  ·cases h
def vq(r:Option (Nat × List G)):List sq→Nat→Tree
 | [],_=>.fail
 | [o],_=>.done o.x (bC o.S (DU r))
 |o::os,i=>.ask (af (DT r) i) (.done o.x (bC o.S (DU r))) (vq r os (i+1))
theorem za{x:Nat}{d:List G}{Q:bW→al→Prop}:∀{os:List sq} {i j:Nat} {o:sq},os[j]? = some o→x=i+j→(vq (some (x,d)) os i).holds Q→Q o.x (bC o.S d)
 | [],_,_,_,h,_,_=>by simp at h
 | [o],i,j,o',h,k,g=>by
  cases j with
  | zero =>
   simp at h;subst h;exact g
  |succ j=>simp at h
 | o::o2::os,i,j,o',h,k,g=>by
  simp only[vq,Tree.holds]at g;cases j with
  | zero =>
   simp at h;subst h;exact g.1 (by simp only[DT]; rw[k]; simp)
  | succ j =>
   refine za (os:=o2::os) (i:=i+1) (j:=j) (by simpa using h) (by omega) (g.2 ?_);have:x≠i:=by omega
   exact mw.2 fun e=>this (br e)
def DV(m:Nat)(sp:bH)(s:al):Option Tree :=
 match kr m sp.inv sp.ps (jq sp.opens s)with
 |some (b,d)=>some (.side (sg b (cu sp.st d).isSome) (vq (cu sp.st d) sp.outs 0))
 |none=>none
theorem Ws(hm:P.follows .mixedOrders=true)(u:aw P τ)(v:aJ P m L c)(y:cP P τ L m c sp){s:al}{t:Tree}(h:DV m sp s=some t):Lg P m c s t:=by
 unfold DV at h;split at h
 case h_2=>cases h
 rename_i b d z;cases h;intro Q k;simp only[Tree.holds,sk,ar]at k;obtain⟨⟨rfl,h1⟩,q⟩:=k;cases g:cu sp.st d with
 |none=>rw[g]at h1; cases h1
 | some r =>
  obtain⟨x,d'⟩:=r;obtain⟨o,g1,g2⟩:=L4 hm u v y 1000000 g;exact⟨o.x,_,g2.pre ((nf sp.opens s).trans (nc z)),za g1 (cR x).symm (by rw[g]at q; exact q)⟩
def LT.add(L:LT)(m:Nat)(sp:bH):LT:=⟨fun k s=>match af k sp.key with
 |true=>DV m sp s
 |false=>L.loops k s,L.pre,L.ve⟩
theorem oB:∀{c:Code} {k:Nat} {g:Code},(k,g)∈bE c→∀ p,p∈bE g→p∈bE c
 | .seq a b,k,g,h,p,d=>by
  simp only[bE,cG]at h⊢;rcases h with h|h
  ·exact .inl (oB h p d)
  ·exact .inr (oB h p d)
 | .cond _ a b,k,g,h,p,d=>by
  simp only[bE,cG]at h⊢;rcases h with h|h
  ·exact .inl (oB h p d)
  ·exact .inr (oB h p d)
 | .block _ c,k,g,h,p,d=>by
  simp only[bE]at h⊢;exact oB h p d
 | .loop c,k,g,h,p,d=>by
  simp only[bE]at h⊢;split at h
  ·rename_i i hi
   rcases bS.1 h with e|h
   ·cases e
    exact cI _ d
   ·exact cI _ (oB h p d)
  ·exact oB h p d
 |.skip,_,_,h,_,_=>by simp[bE]at h
 |.region ..,_,_,h,_,_=>by simp[bE]at h
 |.exit _,_,_,h,_,_=>by simp[bE]at h
 |.ret,_,_,h,_,_=>by simp[bE]at h
 |.rangeFunc ..,_,_,h,_,_=>by simp[bE]at h
 |.scope _,_,_,h,_,_=>by simp[bE]at h
 |.label _,_,_,h,_,_=>by simp[bE]at h
 |.goto _,_,_,h,_,_=>by simp[bE]at h
 |.refuse _,_,_,h,_,_=>by simp[bE]at h
theorem oC:∀{c:Code} {k:Nat} {g:Code},(k,g)∈bE c→∀ p,p∈bG g→p∈bG c
 | .seq a b,k,g,h,p,d=>by
  simp only[bE,bG,cG]at h⊢;rcases h with h|h
  ·exact .inl (oC h p d)
  ·exact .inr (.inr (oC h p d))
 | .cond _ a b,k,g,h,p,d=>by
  simp only[bE,bG,cG]at h⊢;rcases h with h|h
  ·exact .inl (oC h p d)
  ·exact .inr (oC h p d)
 | .block _ c,k,g,h,p,d=>by
  simp only[bE,bG]at h⊢;exact oC h p d
 | .loop c,k,g,h,p,d=>by
  simp only[bE,bG]at h⊢;split at h
  ·rename_i i hi
   rcases bS.1 h with e|h
   ·cases e
    exact d
   ·exact oC h p d
  ·exact oC h p d
 |.skip,_,_,h,_,_=>by simp[bE]at h
 |.region ..,_,_,h,_,_=>by simp[bE]at h
 |.exit _,_,_,h,_,_=>by simp[bE]at h
 |.ret,_,_,h,_,_=>by simp[bE]at h
 |.rangeFunc ..,_,_,h,_,_=>by simp[bE]at h
 |.scope _,_,_,h,_,_=>by simp[bE]at h
 |.label _,_,_,h,_,_=>by simp[bE]at h
 |.goto _,_,_,h,_,_=>by simp[bE]at h
 |.refuse _,_,_,h,_,_=>by simp[bE]at h
theorem oD:∀{c:Code} {k:Nat} {g:Code},(k,g)∈bG c→∀ p,p∈bE g→p∈bE c
 | .seq a b,k,g,h,p,d=>by
  simp only[bE,bG,cG]at h⊢;rcases h with h|h|h
  ·exact .inl (oD h p d)
  ·right
   split at h
   ·rcases bS.1 h with e | h
    ·cases e
     exact d
    ·cases h
   ·cases h
  ·exact .inr (oD h p d)
 | .cond _ a b,k,g,h,p,d=>by
  simp only[bE,bG,cG]at h⊢;rcases h with h|h
  ·exact .inl (oD h p d)
  ·exact .inr (oD h p d)
 | .block _ c,k,g,h,p,d=>by
  simp only[bE,bG]at h⊢;exact oD h p d
 | .loop c,k,g,h,p,d=>by
  simp only[bG]at h;have:=oD h p d;simp only[bE];split
  ·exact cI _ this
  ·exact this
 |.skip,_,_,h,_,_=>by simp[bG]at h
 |.region ..,_,_,h,_,_=>by simp[bG]at h
 |.exit _,_,_,h,_,_=>by simp[bG]at h
 |.ret,_,_,h,_,_=>by simp[bG]at h
 |.rangeFunc ..,_,_,h,_,_=>by simp[bG]at h
 |.scope _,_,_,h,_,_=>by simp[bG]at h
 |.label _,_,_,h,_,_=>by simp[bG]at h
 |.goto _,_,_,h,_,_=>by simp[bG]at h
 |.refuse _,_,_,h,_,_=>by simp[bG]at h
theorem oE:∀{c:Code} {k:Nat} {g:Code},(k,g)∈bG c→∀ p,p∈bG g→p∈bG c
 | .seq a b,k,g,h,p,d=>by
  simp only[bG,cG]at h⊢;rcases h with h|h|h
  ·exact .inl (oE h p d)
  ·right
   right;split at h
   ·rcases bS.1 h with e | h
    ·cases e
     exact d
    ·cases h
   ·cases h
  ·exact .inr (.inr (oE h p d))
 | .cond _ a b,k,g,h,p,d=>by
  simp only[bG,cG]at h⊢;rcases h with h|h
  ·exact .inl (oE h p d)
  ·exact .inr (oE h p d)
 | .block _ c,k,g,h,p,d=>by
  simp only[bG]at h⊢;exact oE h p d
 | .loop c,k,g,h,p,d=>by
  simp only[bG]at h⊢;exact oE h p d
 |.skip,_,_,h,_,_=>by simp[bG]at h
 |.region ..,_,_,h,_,_=>by simp[bG]at h
 |.exit _,_,_,h,_,_=>by simp[bG]at h
 |.ret,_,_,h,_,_=>by simp[bG]at h
 |.rangeFunc ..,_,_,h,_,_=>by simp[bG]at h
 |.scope _,_,_,h,_,_=>by simp[bG]at h
 |.label _,_,_,h,_,_=>by simp[bG]at h
 |.goto _,_,_,h,_,_=>by simp[bG]at h
 |.refuse _,_,_,h,_,_=>by simp[bG]at h
def ba(fn:Func):Code:=match fn.body with
 |some c=>c
 |none=>.skip
theorem Wt{fn:Func} (g:nodupB ((bE (ba fn)).map (·.1))=true) {k:Nat} {d:Code} (h:(k,d)∈bE (ba fn)):d=cS fn k:=by
 have key:∀(l:List (Nat × Code)),(l.map (·.1)).Nodup→(k,d)∈l→l.find? (fun p=>af p.1 k)=some (k,d):=by
  intro l
  induction l with
  |nil=>intro _ h; cases h
  | cons p l u =>
   intro q hm;simp only[cY,nL]at q;rcases bS.1 hm with rfl|hm
   ·simp
   ·have t:p.1≠k:=by
     intro e;exact q.1 (di.2 ⟨(k,d),hm,e.symm⟩)
    have:af p.1 k=false:=mw.2 fun e=>t (br e);rw[ahV (by simp[this])];exact u q.2 hm
 unfold cS;unfold ba at g h;split
 ·rename_i c hb
  rw[hb]at g h;simp only[]at g h;rw[key _ (sn g) h]
 ·rename_i hb
  rw[hb]at h;simp[bE]at h
theorem aJ.add(hm:P.follows .mixedOrders=true)(q:aw P τ){fn:Func} (u:nodupB ((bE (ba fn)).map (·.1))=true) (g:aJ P m L (ba fn)) (h:cP P τ L m (cS fn sp.key) sp) :
  aJ P m (L.add m sp) (ba fn):=by
 refine⟨fun k v hk s t d=>?_,g.2⟩;simp only[LT.add]at d;split at d
 ·rename_i e
  have e:=br e;subst e;have y:=Wt u hk;rw[←y]at h;exact Ws hm q (g.sub (oB hk) (oC hk)) h d
 ·exact g.1 k v hk s t d
/-! ### Code behind other code -/
def cutAt(fn:Func)(k:Nat):Code:=match fn.body with
 | some c=>match (bG c).find? fun p=>af p.1 k with
  |some (_,b)=>b
  |none=>.skip
 |none=>.skip
def oF(k:Nat):List (Nat × Code)→Bool
 | []=>true
 | p::l=>match af p.1 k with
  |true => !l.any (fun q=>af q.1 k)
  |false=>oF k l
theorem L5{k:Nat}{g:Code}:∀{l:List (Nat × Code)},oF k l=true→(k,g)∈l→l.find? (fun p=>af p.1 k)=some (k,g)
 | [],_,h=>by cases h
 | p::l,ho,hm=>by
  simp only[oF]at ho;cases d:af p.1 k with
  | true =>
   rw[d]at ho;simp only[pq]at ho;rcases bS.1 hm with rfl|hm
   ·rw[List.find?_cons_of_pos (by simp)]
   ·have : l.any (fun q => af q.1 k) = true := jz.2 ⟨(k, g), hm, by simp⟩
    rw[this]at ho;cases ho
  | false =>
   rw[d]at ho;rcases bS.1 hm with rfl|hm
   ·simp at d
   ·rw [ahV (by simp [d])]
    exact L5 ho hm
theorem L6{fn:Func}{k:Nat}{g:Code} (d:oF k (bG (ba fn))=true) (h:(k,g)∈bG (ba fn)):g=cutAt fn k:=by
 unfold cutAt;unfold ba at d h;split
 ·rename_i c hb
  rw[hb]at d h;simp only[]at d h;rw[L5 d h]
 ·rename_i hb
  rw[hb]at h;simp[bG]at h
def dD(r:Option (Option Nat × List G)):Option (Nat × List G):=match r with
 |some (some x,d)=>some (x,d)
 |_=>none
def vr(m:Nat)(sp:bH)(s:al):Option Tree :=
 match kr m sp.inv sp.ps (jq sp.opens s)with
 |some (b,d)=>some (.side (sg b (dD (sp.st d)).isSome) (vq (dD (sp.st d)) sp.outs 0))
 |none=>none
def iQ(P:Program)(τ:au)(L:LT)(m:Nat)(c:Code)(sp:bH):Prop:=∀ d,(fL P τ L c (bC sp.inv d) .done).leaf (p9 m sp.outs 0)=sp.st d
theorem zb(hm:P.follows .mixedOrders=true)(z:aw P τ)(B:aJ P m L c)(q:iQ P τ L m c sp){s:al}{t:Tree}(h:vr m sp s=some t):DA P m c s t:=by
 unfold vr at h;split at h
 case h_2=>cases h
 rename_i b d I;cases h;intro Q u;simp only[Tree.holds,sk,ar]at u;obtain⟨⟨rfl,h1⟩,v⟩:=u;cases g:sp.st d with
 |none=>rw[g]at h1; cases h1
 | some r =>
  obtain⟨k,d'⟩:=r;cases k with
  |none=>rw[g]at h1; cases h1
  | some i =>
   rw[←q d]at g;obtain⟨x,s1,g1,g2⟩:=lk hm z c (bC sp.inv d) .done B (Q:=fun x s=>p9 m sp.outs 0 x s=some (true,(some i,d'))) (oA g);obtain⟨j,o,J,y,M,N⟩:=y_ g2;simp only[aX,cR]at y;subst y;rw[q d]at g;rw[g]at v;refine⟨o.x,(bC o.S d'),?_,za J (cR i).symm v⟩;rw[←M];exact rK ((nf sp.opens s).trans (nc I)) (rL g1 (nc N))
def LT.gQ(L:LT)(m:Nat)(sp:bH):LT:=⟨L.loops,L.pre,fun k s=>match af k sp.key with
 |true=>vr m sp s
 |false=>L.ve k s⟩
theorem aJ.gQ(hm:P.follows .mixedOrders=true)(q:aw P τ){fn:Func} (u:oF sp.key (bG (ba fn))=true) (g:aJ P m L (ba fn)) (h:iQ P τ L m (cutAt fn sp.key) sp) :
  aJ P m (L.gQ m sp) (ba fn):=by
 refine⟨g.1,g.2.1,fun k v hk s t d=>?_⟩;simp only[LT.gQ]at d;split at d
 ·rename_i e
  have e:=br e;subst e;have y:=L6 u hk;rw[←y]at h;exact zb hm q (g.sub (oD hk) (oE hk)) h d
 ·exact g.2.2 k v hk s t d
end loops
/-! ### d -/
structure ax where
 f:FuncId
 args:List Sh
 cF:List bZ
 ps:List jS
 res:List Sh
 fN:List bZ
 Wu:List jS
 opens:List (Nat × List Kd)
 F:List G→Option (List G)
def ax.args0(sp:ax)(d:List G):List AV:=bV (bQ sp.cF d) sp.args (cD (lU sp.cF) d)
def ax.H0(sp:ax)(d:List G):List ah:=ca (bQ sp.cF d) sp.cF d
def ax.out(sp:ax)(r:List G):AV:=df (bV (bQ sp.fN r) sp.res (cD (lU sp.fN) r))
def ax.H1(sp:ax)(r:List G):List ah:=ca (bQ sp.fN r) sp.fN r
def vt(P:Program)(rs:List ResultVar)(sp:ax)(x:bW)(s:al):Option (Bool × List G) :=
 match x with
 |.exit _=>none
 | _=>(fun s=>match rM P s.den rs with
  |none=>none
  | some vs=>match jo s.H (fun i=>vs.getD i .undef) sp.Wu [] with
   |none=>none
   | some ids=>match nodupB ids&&mY s.H 0 sp.cF.length ids sp.fN with
    |false=>none
    | true=>match jn s.H (bB s.H ids) (iC ids) sp.fN ids,eB s.H (bB s.H ids) (iC ids) sp.res vs with
     |some (b,g),some (d,h)=>some (b&&d,g++h)
     |_,_=>none) (jq sp.opens s)
def aO(P:Program)(τ:au)(L:LT)(fn:Func)(sp:ax):Prop :=
 ∀ d,(fL P τ L (ba fn) ⟨yx (sp.args0 d) fn.ntmps,sp.H0 d⟩ .done).leaf (vt P fn.results.toList sp)=sp.F d
def p_(os:List bZ):Bool:=os.all fun o=>af o.up 0
theorem L7:∀{os:List bZ} (lens:c8) (d:List G),p_ os=true→Ku (ai (ca lens os d))
 | [],_,_,_=>by intro o ho; simp[ca,ai]at ho
 | o::os,lens,d,h=>by
  simp only[p_,iG,ar]at h;intro x g;simp only[ca,ai,cY,bS]at g;rcases g with rfl|g
  ·cases o with
   | vec ks u =>
    have:u=0:=br h.1;subst this;rfl
   |box _=>rfl
   |map _ _=>rfl
   |bJ _ _ _=>rfl
   |aY _ _ _=>rfl
   |mm _ _ _ _=>rfl
  ·exact L7 lens _ h.2 x g
theorem DW(lens:c8):∀(os:List bZ) (d:List G),(ca lens os d).length=os.length
 | [],_=>rfl
 |_::os,d=>by simp[ca,DW lens os]
theorem Wv{P:Program}{sp:ax}{fn:Func}(hf:P.funcs[sp.f]? = some fn)(hb:fn.body.isSome=true)
  (hfr:p_ sp.cF=true) {d r:List G} {x:bW} {y:al} (h1:dA P sp.cF.length (ba fn) (al.den ⟨yx (sp.args0 d) fn.ntmps,sp.H0 d⟩) x y.den) (k:vt P fn.results.toList sp x y=some (true,r)) :
  cq P sp.f (sp.args0 d) (ai (sp.H0 d)) (sp.out r) (ai (sp.H1 r)):=by
 have hbody:fn.body=some (ba fn):=by
  unfold ba;cases z:fn.body with
  |none=>rw[z]at hb; cases hb
  |some c=>rfl
 have h1:=rL h1 (nf sp.opens y);generalize hs':jq sp.opens y=s' at h1;have hxx:(x=.normal∨x=.ret)∧∃ vs ids g q,rM P s'.den fn.results.toList=some vs∧(nodupB ids&&mY s'.H 0 sp.cF.length ids sp.fN)=true ∧
   jn s'.H (bB s'.H ids) (iC ids) sp.fN ids=some (true,g)∧eB s'.H (bB s'.H ids) (iC ids) sp.res vs=some (true,q)∧g++q=r:=by
  have k:vt P fn.results.toList sp x y=some (true,r):=k;unfold vt at k;split at k
  ·cases k
  ·rename_i z
   simp only[hs']at k;refine⟨by cases x with|normal=>exact .inl rfl|ret=>exact .inr rfl|exit i=>exact(z i rfl).elim,?_⟩;split at k
   ·cases k
   ·rename_i vs N
    split at k
    ·cases k
    ·rename_i ids hids
     split at k
     ·cases k
     ·rename_i u
      split at k
      ·rename_i b g b' q I U
       simp only[aX,a8,ar]at k;obtain⟨⟨rfl,rfl⟩,rfl⟩:=k;exact⟨vs,ids,g,q,N,u,I,U,rfl⟩
      ·cases k
 obtain⟨z,vs,ids,g,q,N,u,I,U,rfl⟩:=hxx;simp only[ar]at u;intro E cargs hH HE V;refine UP hf hbody ?_;have W:=UR HE;have hargs0:=rN W _ V;have hrel:cV ⟨yx (sp.args0 d) fn.ntmps,ai (sp.H0 d)⟩ { E with X:=⟨E.X.x,fun _=>False,E.X.r⟩ } { tmps:=cargs++Array.replicate (fn.ntmps-cargs.size) undef,defers:=[] }:=by
  refine⟨hH,?_,Je _ _,HE.gI W⟩;simp only[yx,Array.toList_append,Array.toList_replicate];refine mJ hargs0 ?_;have:=jd V;have e:(sp.args0 d).length=cargs.size:=by simpa using this
  rw[e];have:=KB (E:={ E with X:=⟨E.X.x,fun _=>False,E.X.r⟩ }) (List.replicate (fn.ntmps-cargs.size) undef);simpa using this
 refine wpIn_mono (h1 none (UH _) { E with X:=⟨E.X.x,fun _=>False,E.X.r⟩ } _ hrel) fun e a1 w0 ⟨h3,loc',X',v,J⟩=>?_;refine⟨by subst h3; rcases z with rfl|rfl; exact .inl rfl; exact .inr rfl,X',v.defers,fun M k1 k2 k3=>?_⟩;obtain⟨v,J⟩:=UQ HE v J k1 k2 k3;obtain⟨us,g1,g2⟩:=KA v fn.results.toList vs N;have hres:(results fn a1.tmps).run P M=.ok (if h:us.toArray.size=1 then us.toArray[0] else .tuple us.toArray) M:=by
  rw[UO];simp only[Sem.run_bind];rw[Array.mapM_eq_mapM_toList,Sem.run_map,g1];rfl
 generalize B:({ w:=M,H:=s'.den.H,loc:=loc',X:=E.X.re X'.r }:Env)=t at v J g1 g2;have hH1:t.H=ai s'.H:=by rw[←B]; rfl
 obtain⟨hK,hHR⟩:=L0 hH1 v.heap (sn u.1) I q;obtain⟨p0,p1,p2,p3⟩:=vo I q (bQ sp.fN (g++q));have hd:cD (lU sp.fN) (g++q)=q:=by rw[←p0]; exact oz g q
 have hS:=vn hK U [];rw[dx]at hS;have hrl:=hS.2.2.2 us g2;have hleM:=L1 (m:=sp.cF.length) hH1 hK ⟨rfl,rfl⟩ (LX t _ ids) u.2 (fun j hj=>by
  obtain⟨r1,o',r2,_⟩:=y5 u.2 j hj;obtain⟨i,o,g1,rest1,t1,t2,t3,t4,t5,t6⟩:=p3 j o' r2;have hat:=gN (e:=bB s'.H ids) (j:=j) (aL t1);rw[show (bB s'.H ids).ids=ids from rfl,t1]at hat;cases hat;exact⟨o,o',t2,r2,t5⟩) (fun b=>LY)
 have hle:E.le (iB t (ai (ca (bQ sp.fN (g++q)) sp.fN (g++q))) ids) :=
  (J.trans hleM).full (by rw[←B]; exact⟨rfl,rfl⟩) (by rw[hH,eH]; simp only[ax.H0,DW]; exact aH _) (by rw[hH]; exact L7 _ _ hfr)
 have O:t.w=M:=by rw[←B]
 have R:∀ r,t.X.re r=E.X.re r:=fun r=>by rw[←B]; rfl
 refine⟨_,hres,_,_,_,rfl,⟨rfl,rfl⟩,ids.map (fun i=>t.loc.getD i none),mX t (ai (ca (bQ sp.fN (g++q)) sp.fN (g++q))),?_,?_,?_⟩
 ·have := Wd hrl
  simp only[ax.out,ax.H1,hd];simpa only[iB,O,R]using this
 ·simpa only[iB,O,R,ax.H1]using hHR
 ·simpa only[iB,O,R,ax.H1]using hle
theorem Ww{P:Program}{τ:au}{L:LT}(hm:P.follows .mixedOrders=true)(k:aw P τ){sp:ax}{fn:Func}(q:P.funcs[sp.f]? = some fn)(hb:fn.body.isSome=true)
  (t:aJ P sp.cF.length L (ba fn)) (u:aO P τ L fn sp) (g:p_ sp.cF=true) {d r:List G} (h:sp.F d=some r) :
  cq P sp.f (sp.args0 d) (ai (sp.H0 d)) (sp.out r) (ai (sp.H1 r)):=by
 rw[←u d]at h;obtain⟨x,y,h1,v⟩:=lk hm k (ba fn) _ .done t (Q:=fun x s=>vt P fn.results.toList sp x s=some (true,r)) (oA h);exact Wv q hb g h1 v
abbrev aM(P:Program)(sp:ax):Prop:=∀ d r,sp.F d=some r→cq P sp.f (sp.args0 d) (ai (sp.H0 d)) (sp.out r) (ai (sp.H1 r))
theorem qa{P:Program}{τ:au}{L:LT}(hm:P.follows .mixedOrders=true)(g:aw P τ){sp:ax}{fn:Func}(k:P.funcs[sp.f]? = some fn)(hb:fn.body.isSome=true)
  (q:aJ P sp.cF.length L (ba fn)) (t:aO P τ L fn sp) (d:p_ sp.cF=true):aM P sp:=fun _ _ h=>Ww hm g k hb q t d h
/-! ### Tables -/
def vu:dn→Bool
 |.int _ | .str | .bool | .list _ | .vl _ | .row _ | .cptr _ | .nil | .any | .LN _ | .fn _ | .addr | .vm=>true
 |_=>false
def zd:Sh→Bool
 |.s a=>vu a
 |.clo _ caps=>caps.all vu
theorem L8{lens:c8}{a:dn}{d:List G}(h:vu a=true):(dp lens a d).closed=true:=by
 cases a<;>simp only[vu]at h<;>first
  |(cases h; done)
  |rfl
  |(simp only[dp,AV.closed,fW]; done)
theorem L9{lens:c8}:∀{as:List dn} {d:List G},(as.all vu)=true→AV.bu (iP lens as d)=true
 | [],_,_=>rfl
 | a::as,d,h=>by
  simp only[iG,ar]at h;simp only[iP,AV.bu,L8 h.1,L9 h.2,t_]
theorem ze{lens:c8}:∀{as:List Sh} {d:List G},(as.all zd)=true→AV.bu (bV lens as d)=true
 | [],_,_=>rfl
 | a::as,d,h=>by
  simp only[iG,ar]at h;simp only[bV,AV.bu,ze h.2,fG];cases a with
  |s a=>exact L8 h.1
  |clo f caps=>simp only[gO,AV.closed]; exact L9 h.1
theorem Wx{vs:List AV}(h:AV.bu vs=true):(df vs).closed=true:=by
 cases vs with
 |nil=>rfl
 | cons v vs =>
  cases vs with
  |nil=>simpa[df,AV.bu]using h
  |cons v2 vs=>simpa only[df,AV.closed]using h
def iD(E:Env):Env:={ w:=E.w,H:=[],loc:=[],X:=(E.X.or E.own).re eD }
theorem Wy{E:Env}(x:Nat):¬ (iD E).own x:=by rintro(⟨id,c,hid⟩|⟨l,k,c,hk⟩); simp[iD]at hid; simp[iD,eD]at hk
theorem L_{E:Env}:E.bD (iD E):=⟨fun b hb=>⟨⟨hb.1,Wy b,fun d=>d.elim hb.2.2 hb.2.1⟩,rfl⟩⟩
theorem Wz{E:Env}:(iD E).bD E:=⟨fun b hb=>⟨⟨hb.1,fun ho=>hb.2.2 (Or.inr ho),fun d=>hb.2.2 (Or.inl d)⟩,rfl⟩⟩
theorem WA{E:Env}(HE:aq E):aq (iD E):=by
 refine⟨rfl,?_,?_,?_,?_,HE.fh.bD L_,fun l k l' k' b m n hk=>by simp[iD,eD]at hk,fun i b m l k n hi=>by simp[iD]at hi,fun l k b m hk=>by simp[iD,eD]at hk,fun i j o o' l hi=>by simp[iD]at hi,fun l _ k q hk=>by simp[iD,eD]at hk⟩
 ·intro i j b m n hi; simp[iD]at hi
 ·intro i b m hi; simp[iD]at hi
 ·rintro b (d | ho)
  ·exact HE.X b d
  ·exact(HE.xW ho).1
 ·intro i o hi; simp[iD]at hi
theorem WB{E:Env}(HE:aq E):iA [] (bB [] []) (fun _=>false) [] (iD E) (iD E):=by
 exact { hH:=rfl,HE:=WA HE,free:=fun _ h=>(nomatch h),cT:=⟨fun b hb=>⟨hb,rfl⟩,rfl,fun j d=>absurd d (Nat.not_lt_zero _),fun _ _ _ _ _=>rfl⟩,obj:=fun j o ho=>by simp at ho }
theorem WC{E:Env}(HE:aq E):∀{d:List Sh} {as:List AV} {g:List G},(d.all zd)=true→eB [] (bB [] []) (fun _=>false) d as=some (true,g)→∀(rest:List G) (cs:List Value),ae E as cs →
  ae E (bV [] d (g++rest)) cs:=by
 have J:∀{sh:dn} {a:AV} {b:Bool} {g:List G},fM [] (bB [] []) (fun _=>false) sh a=some (b,g)→a.closed=true∨sh=.any:=by
  intro sh a b g h;unfold fM at h;split at h
  ·exact .inl rfl
  ·exact .inl rfl
  ·exact .inl rfl
  ·split at h
   ·rename_i ha
    left;unfold mW at ha;split at ha<;>first|rfl|cases ha
   ·split at h
    ·simp at h
    ·cases h
  ·split at h
   ·rename_i ha
    left;rw[LC ha];simp only[AV.closed,fW]
   ·cases h
  ·exact .inl rfl
  ·simp at h
  ·exact .inl rfl
  ·exact .inr rfl
  ·exact .inl rfl
  ·simp at h
  ·simp at h
  ·simp at h
  ·simp at h
  ·split at h
   ·rename_i ha
    left;unfold mW at ha;split at ha<;>first|rfl|cases ha
   ·split at h
    ·simp at h
    ·cases h
  ·simp at h
  ·exact .inl rfl
  ·rename_i f js V vs
   split at h
   ·rename_i t
    left;cases js with
    | nil=>cases vs with
     |nil=>rfl
     |cons _ _=>simp[kp]at t
    | cons j js=>cases vs with
     |nil=>simp[kp]at t
     |cons v vs=>cases v<;>simp[kp]at t
   ·cases h
  ·exact .inl rfl
  ·cases h
 have N:∀{d:List dn} {as:List AV} {b:Bool} {g:List G},fx [] (bB [] []) (fun _=>false) d as=some (b,g)→∀(cs:List Value),ae E as cs →
   ∃ k,fx [] (bB [] []) (fun _=>false) d k=some (b,g)∧AV.bu k=true∧ae E k cs:=by
  intro d
  induction d with
  | nil =>
   intro as b g h cs q;cases as with
   |nil=>exact⟨[],h,rfl,q⟩
   |cons _ _=>simp[fx]at h
  | cons sh d I =>
   intro as b g h cs q;cases as with
   |nil=>simp[fx]at h
   | cons a as =>
    cases cs with
    |nil=>simp[ae]at q
    | cons c cs =>
     simp only[ae]at q;simp only[fx]at h;split at h
     ·rename_i b1 g1 W g2 h1 B
      cases h;obtain⟨k,u,y,z⟩:=I B cs q.2;rcases J h1 with t|rfl
      ·exact⟨a::k,by simp only[fx,h1,u],by simp only[AV.bu,t,y,t_],by simp only[ae]; exact⟨q.1,z⟩⟩
      ·have e:fM [] (bB [] []) (fun _=>false) .any .undef=some (b1,g1):=by
        have:fM [] (bB [] []) (fun _=>false) .any a=some (true,[]):=by cases a<;>rfl
        rw[this]at h1;exact h1
       exact⟨.undef::k,by simp only[fx,e,u],by simp only[AV.bu,y]; rfl,by simp only[ae,rel]; exact⟨trivial,z⟩⟩
     ·cases h
 have O:∀{d:List Sh} {as:List AV} {b:Bool} {g:List G},eB [] (bB [] []) (fun _=>false) d as=some (b,g)→∀(cs:List Value),ae E as cs →
   ∃ k,eB [] (bB [] []) (fun _=>false) d k=some (b,g)∧AV.bu k=true∧ae E k cs:=by
  intro d
  induction d with
  | nil =>
   intro as b g h cs q;cases as with
   |nil=>exact⟨[],h,rfl,q⟩
   |cons _ _=>simp[eB]at h
  | cons sh d I =>
   intro as b g h cs q;cases as with
   |nil=>simp[eB]at h
   | cons a as =>
    cases cs with
    |nil=>simp[ae]at q
    | cons c cs =>
     simp only[ae]at q;simp only[eB]at h;split at h
     ·rename_i b1 g1 W g2 h1 B
      cases h;obtain⟨k,u,y,z⟩:=I B cs q.2;cases sh with
      | s sh0 =>
       simp only[kq]at h1;rcases J h1 with t|rfl
       ·exact⟨a::k,by simp only[eB,kq,h1,u],by simp only[AV.bu,t,y,t_],by simp only[ae]; exact⟨q.1,z⟩⟩
       ·have e:fM [] (bB [] []) (fun _=>false) .any .undef=some (b1,g1):=by
         have:fM [] (bB [] []) (fun _=>false) .any a=some (true,[]):=by cases a<;>rfl
         rw[this]at h1;exact h1
        exact⟨.undef::k,by simp only[eB,kq,e,u],by simp only[AV.bu,y]; rfl,by simp only[ae,rel]; exact⟨trivial,z⟩⟩
      | clo f caps =>
       cases a<;>simp only[kq]at h1<;>try cases h1
       rename_i V vs;split at h1
       ·rename_i hf
        subst hf;have M:=q.1;simp only[rel]at M;obtain⟨us,e1,e2⟩:=M;obtain⟨R,l1,l2,l3⟩:=N h1 _ e2;exact⟨.clo f R::k,by simp only[eB,kq,if_true,l1,u],by simp only[AV.bu,AV.closed,l2,y,t_],
         by simp only[ae,rel]; exact⟨⟨us,e1,l3⟩,z⟩⟩
       ·cases h1
     ·cases h
 intro d as g U h rest cs q;obtain⟨k,h1,B,h3⟩:=O h cs q;have h4:=pE L_ k B h3;have h5:=(vn (WB HE) h1 rest).2.2.2 cs h4;exact pE Wz _ (ze U) h5
def au.aS(τ:au)(sp:ax):au where
 pf g:=match af g sp.f with
  |true=>true
  |false=>τ.pf g
 T g as:=match af g sp.f with
  | true=>match eB [] (bB [] []) (fun _=>false) sp.args as with
   |some (b,d)=>some (sg b (sp.F d).isSome,df (bV [] sp.res ((sp.F d).getD [])))
   |none=>τ.T g as
  |false=>τ.T g as
 W:=τ.W
 C:=τ.C
 I:=τ.I
 N:=τ.N
 U:=τ.U
def DX(sp:ax):Bool:=(sp.args.all zd)&&((sp.res.all zd)&&(sp.cF.isEmpty&&sp.fN.isEmpty))
theorem aw.aS{P:Program}{τ:au}(h:aw P τ){sp:ax}(hb:iv P sp.f=true)(u:DX sp=true)
  (R:∀ d r,sp.F d=some r→cq P sp.f (sp.args0 d) (ai (sp.H0 d)) (sp.out r) (ai (sp.H1 r))):aw P (τ.aS sp):=by
 simp only[DX,ar,List.isEmpty_iff]at u;obtain⟨t,M,N,O⟩:=u;refine⟨fun g as b v k q=>?_,h.W,h.C,h.I,h.F⟩;simp only[au.aS]at k;split at k
 ·rename_i e
  have e:=br e;subst e;split at k
  ·rename_i V d U
   simp only[aX,a8]at k;obtain⟨h1,rfl⟩:=k;subst h1;simp only[sk]at q;obtain⟨rfl,y⟩:=q;refine⟨hb,?_⟩;cases z:sp.F d with
   |none=>rw[z]at y; cases y
   | some r =>
    have B:=R d r z;simp only[ax.args0,ax.H0,ax.out,ax.H1,N,O,ca,bQ,lU,cD]at B;have:=US B (ze t) (Wx (ze M));intro H E cargs hH HE J;exact this H E cargs hH HE (by
     have:=WC HE t U [] _ J
     rwa [dx]at this)
  ·exact h.T _ as b v k q
 ·exact h.T g as b v k q
end Go.AL

namespace Go.AL
open Go
variable [Dr]
def Kd.cy:List Kd→Bool
 | []=>true
 |.list _::_=>false
 |_::ks=>Kd.cy ks
def Ct.bA:Ct→Bool
 |.one k=>Kd.cy [k]
 |.agg ks=>Kd.cy ks
def sr:dn→Bool
 |.row ks=>Kd.cy ks
 |.list _ | .vl _ | .cptr _=>false
 |_=>true
def Ma:Sh→Bool
 |.s a=>sr a
 |.clo _ caps=>caps.all sr
def Mb:bZ→Bool
 |.vec ks _=>Kd.cy ks
 |.box cells=>cells.all sr
 |.map K V=>K.bA&&V.bA
 |.bJ _ _ _=>true
 |.aY _ K ks=>K.bA&&Kd.cy ks
 |.mm _ K KI VI=>K.bA&&(KI.bA&&VI.bA)
def jT(sp:ax):Bool:=(sp.res.all Ma)&&(sp.fN.all Mb)
theorem vw:∀{ks:List Kd} (r:List G),Kd.cy ks=true→AV.cy (aK ks r)=true
 | [],_,_=>rfl
 |.list _::_,_,h=>by simp[Kd.cy]at h
 | .int _::ks,r,h | .str::ks,r,h | .bool::ks,r,h=>by
  simp only[Kd.cy]at h;simp only[aK,AV.cy,vw r.tail h,fG];rfl
theorem Ct.su{K:Ct}(r:List G)(h:K.bA=true):(K.av r).bA=true:=by
 cases K with
 | one k =>
  simp only[Ct.bA]at h;cases k<;>first
   |rfl
   |(simp[Kd.cy]at h; done)
 |agg ks=>simp only[Ct.av,AV.bA]; exact vw r h
theorem Mc:∀ js:List Nat,AV.cy (p7 js)=true
 | []=>rfl
 |j::js=>by simp only[p7,AV.cy,Mc js,fG]; rfl
theorem Md{lens:c8}{a:dn}{d:List G}(h:sr a=true):(dp lens a d).bA=true:=by
 cases a<;>simp only[sr]at h<;>first
  |(cases h; done)
  |(simp only[dp,AV.bA]; exact vw _ h)
  |rfl
  |(simp only[dp,AV.bA]; exact Mc _)
theorem DY{lens:c8}:∀{as:List dn} {d:List G},(as.all sr)=true→AV.cy (iP lens as d)=true
 | [],_,_=>rfl
 | a::as,d,h=>by
  simp only[iG,ar]at h;simp only[iP,AV.cy,Md h.1,DY h.2,t_]
theorem Me{lens:c8}:∀{as:List Sh} {d:List G},(as.all Ma)=true→AV.cy (bV lens as d)=true
 | [],_,_=>rfl
 | a::as,d,h=>by
  simp only[iG,ar]at h;simp only[bV,AV.cy,Me h.2,fG];cases a with
  |s a=>exact Md h.1
  |clo f caps=>simp only[gO,AV.bA]; exact DY h.1
theorem WD{vs:List AV}(h:AV.cy vs=true):(df vs).bA=true:=by
 cases vs with
 |nil=>rfl
 | cons v vs =>
  cases vs with
  |nil=>simpa[df,AV.cy]using h
  |cons v2 vs=>simpa only[df,AV.bA]using h
theorem Mf{lens:c8}:∀{os:List bZ} {d:List G},(os.all Mb)=true→((ai (ca lens os d)).all ab.bA)=true
 | [],_,_=>rfl
 | o::os,d,h=>by
  simp only[iG,ar]at h;have k:=Mf (lens:=lens) (d:=cD o.sz d) h.2;simp only[ca,ai,cY,iG,ar];refine⟨?_,by simpa only[ai]using k⟩;cases o with
  | vec ks u =>
   simp only[eA,ah.den,ab.bA,bO,di];rintro r ⟨g,_,rfl⟩;exact vw g h.1
  |box cells=>simp only[eA,ah.den,ab.bA]; exact DY h.1
  | map K V =>
   have h1:(K.bA&&V.bA)=true:=h.1;simp only[ar]at h1;simp only[eA,ah.den,ab.bA,dH,bO,di];rintro x ⟨g,_,rfl⟩;simp only[Ct.su _ h1.1,Ct.su _ h1.2,t_]
  |bJ l T B=>rfl
  | aY l K ks =>
   have h1:(K.bA&&Kd.cy ks)=true:=h.1;simp only[ar]at h1;simp only[eA,ah.den,ab.bA,gu,bO,di];rintro x ⟨g,_,rfl⟩;simp only[jK,Ct.su _ h1.1,Bool.true_and];cases (gi g 3).bool with
   |false=>rfl
   | true =>
    simp only[cond_true,bO,di];rintro r ⟨g2,_,rfl⟩;exact vw g2 h1.2
  | mm l K KI VI =>
   have h1:(K.bA&&(KI.bA&&VI.bA))=true:=h.1;simp only[ar]at h1;simp only[eA,ah.den,ab.bA,iy,n4,dH,ar,bO,di];refine⟨?_,?_⟩
   ·rintro x ⟨g, _, rfl⟩
    exact Ct.su _ h1.1
   ·rintro x ⟨g, _, rfl⟩ y t
    obtain⟨q,_,rfl⟩:=di.1 t;simp only[Ct.su _ h1.2.1,Ct.su _ h1.2.2,and_self]
def ah.bY(e:bF)(j:Nat):ah→ah
 |.vec ks v rows=>.vec ks (v+e.up j) rows
 |.raw o=>.raw (o.bY e j)
 |.map K V rows c=>.map K V rows c
 |.aY l K ks rows c=>.aY l K ks rows c
 |.mm l K KI VI rows mem c=>.mm l K KI VI rows mem c
def vz(e:bF):Nat→List ah→List ah
 |_,[]=>[]
 |j,o::os=>o.bY e j::vz e (j+1) os
def ll(e:bF)(H H1:List ah):List ah:=eb H e.ids (vz e 0 H1)++(vz e 0 H1).drop e.ids.length
theorem WE(e:bF)(j:Nat)(o:ah):(o.bY e j).den=o.den.bY e j:=by
 cases o<;>rfl
theorem Mg(e:bF):∀(j:Nat) (os:List ah),ai (vz e j os)=km e j (ai os)
 |_,[]=>rfl
 | j,o::os=>by
  simp only[vz,ai,cY,km,WE];have:=Mg e (j+1) os;simp only[ai]at this;rw[this]
theorem Mh{α β:Type}(f:α→β):∀(is:List Nat) (l xs:List α),(eb l is xs).map f=eb (l.map f) is (xs.map f)
 | [],_,_=>by simp[eb]
 |_::_,_,[]=>by simp[eb]
 |i::is,l,x::xs=>by simp[eb,Mh f is,List.map_set]
theorem WG(e:bF)(H H1:List ah):ai (ll e H H1)=ow e (ai H) (ai H1):=by
 unfold ll ow;rw[←Mg];simp only[ai,List.map_append,Mh,List.map_drop]
def lV(e:bF):Nat→List bZ→Bool
 |_,[]=>true
 |j,.vec _ _::os=>lV e (j+1) os
 |j,_::os=>af (e.up j) 0&&lV e (j+1) os
theorem qb{e:bF}{lens:c8}:∀{j:Nat} {os:List bZ} {d:List G},lV e j os=true→kn e j (ai (ca lens os d))=true
 |_,[],_,_=>rfl
 | j,.vec ks u::os,d,h=>by
  simp only[lV]at h;have:=qb (lens:=lens) (d:=cD (bZ.vec ks u).sz d) h;simp only[ca,ai,cY,kn,ar];exact⟨rfl,by simpa only[ai]using this⟩
 | j,.box cells::os,d,h=>by
  simp only[lV,ar]at h;have:=qb (lens:=lens) (d:=cD (bZ.box cells).sz d) h.2;simp only[ca,ai,cY,kn,ar];exact⟨h.1,by simpa only[ai]using this⟩
 | j,.map K V::os,d,h=>by
  simp only[lV,ar]at h;have:=qb (lens:=lens) (d:=cD (bZ.map K V).sz d) h.2;simp only[ca,ai,cY,kn,ar];exact⟨h.1,by simpa only[ai]using this⟩
 | j,.bJ l T B::os,d,h=>by
  simp only[lV,ar]at h;have:=qb (lens:=lens) (d:=cD (bZ.bJ l T B).sz d) h.2;simp only[ca,ai,cY,kn,ar];exact⟨h.1,by simpa only[ai]using this⟩
 | j,.aY l K ks::os,d,h=>by
  simp only[lV,ar]at h;have:=qb (lens:=lens) (d:=cD (bZ.aY l K ks).sz d) h.2;simp only[ca,ai,cY,kn,ar];exact⟨h.1,by simpa only[ai]using this⟩
 | j,.mm l K KI VI::os,d,h=>by
  simp only[lV,ar]at h;have:=qb (lens:=lens) (d:=cD (bZ.mm l K KI VI).sz d) h.2;simp only[ca,ai,cY,kn,ar];exact⟨h.1,by simpa only[ai]using this⟩
def sv(S:Bool)(ids:List Nat)(i:Nat):Bool:=match S with
 |true=>iC ids i
 |false=>false
def oG(sp:ax)(as:List AV)(H:List ah):Option (Bool × AV × List ah) :=
 match jo H (fun i=>as.getD i .undef) sp.ps []with
 |none=>none
 | some ids=>match nodupB ids&&lV (bB H ids) 0 sp.fN with
  |false=>none
  | true=>match jn H (bB H ids) (sv (jT sp) ids) sp.cF ids,eB H (bB H ids) (sv (jT sp) ids) sp.args as with
   |some (b,g),some (h,d)=>some (sg (b&&h) (sp.F (g++d)).isSome,(sp.out ((sp.F (g++d)).getD [])).bY (bB H ids),ll (bB H ids) H (sp.H1 ((sp.F (g++d)).getD [])))
   |_,_=>none
def ng:List jS→Nat→Bool
 | [],_=>true
 |.cell j _::ps,n=>cJ j n&&ng ps (n+1)
 |.DS j _ _::ps,n=>cJ j n&&ng ps (n+1)
 |_::ps,n=>ng ps (n+1)
theorem Mi{H:List ah}{vals:Nat→AV}:∀{ps:List jS} {acc ids:List Nat},jo H vals ps acc=some ids→∀ x∈acc,x∈ids
 | [],acc,ids,h,x,d=>by cases h; exact d
 | p::ps,acc,ids,h,x,d=>by
  unfold jo at h;split at h
  ·exact Mi h x (nM _ d)
  ·cases h
theorem Mj{H:List ah}{vals:Nat→AV}{id:Nat}{o:ah}:∀{ps:List jS} {acc ids:List Nat},ng ps acc.length=true→jo H vals ps acc=some ids→id∉ids→jo (H.set id o) vals ps acc=some ids
 | [],acc,ids,_,h,_=>h
 | p::ps,acc,ids,hw,h,hid=>by
  unfold jo at h⊢;split at h
  ·rename_i i hi
   have g:=Mi h;have get:∀ j,j<acc.length→(H.set id o)[acc.getD j 0]? = H[acc.getD j 0]? := fun j d=>by
    refine aV fun e=>hid ?_;rw[e,b_,bd d];exact g _ (nM _ (iJ d))
   have e:y8 (H.set id o) vals acc p=some i∧ng ps (acc++[i]).length=true:=by
    rw[dV];cases p with
    |fix _=>exact⟨hi,hw⟩
    |slot _=>exact⟨hi,hw⟩
    |cap _ _=>exact⟨hi,hw⟩
    | cell j c =>
     simp only[ng,ar,dM]at hw;refine⟨?_,hw.2⟩;simp only[y8]at hi⊢;rw[get j hw.1];exact hi
    | DS j c k =>
     simp only[ng,ar,dM]at hw;refine⟨?_,hw.2⟩;simp only[y8]at hi⊢;rw[get j hw.1];exact hi
   rw[e.1];exact Mj e.2 h hid
  ·cases h
section WH
variable {H:List ah} {e:bF} {id:Nat} {o:ah} (he:∀ j,e.at j≠id)
include he
theorem Mk:∀(js:List Nat) (vs:List AV),kp (H.set id o) e js vs=kp H e js vs
 | [],[]=>rfl
 | [],_::_=>rfl
 |_::_,[]=>rfl
 | j::js,v::vs=>by
  have g:=Mk js vs;cases v<;>try rfl
  rename_i i ad k row c;simp only[kp,g];by_cases hi:i=id
  ·subst hi
   have d:af i (e.at j)=false:=by
    cases hb:af i (e.at j)with
    |false=>rfl
    |true=>exact absurd (br hb).symm (he j)
   simp only[d,Bool.false_and];cases (H.set i o)[i]? <;> cases H[i]? <;> (repeat' split)<;>rfl
  ·rw[aV (Ne.symm hi)]
theorem Ml:∀(sh:dn) (a:AV),fM (H.set id o) e (fun _=>false) sh a=fM H e (fun _=>false) sh a:=by
 have d:∀{i:Nat},i≠id→(H.set id o)[i]? = H[i]? := fun h=>aV (Ne.symm h);have g:∀ j,¬ (id=e.at j):=fun j h=>he j h.symm;intro sh a;cases a with
 | vec w i ad off n =>
  by_cases hi:i=id
  ·subst hi
   cases sh<;>(try rfl)<;>simp only[fM,mW,lD,and_false,if_false,g,false_and]<;>(repeat' split)<;>(first|rfl|simp_all)
  ·cases sh<;>(try rfl)<;>simp only[fM,d hi]
 | ptr i ad k row col =>
  by_cases hi:i=id
  ·subst hi
   cases sh<;>(try rfl)<;>simp only[fM,mW,lD,and_false,if_false,g,false_and]<;>(repeat' split)<;>(first|rfl|simp_all)
  ·cases sh<;>(try rfl)<;>simp only[fM,d hi]
 | map i =>
  by_cases hi:i=id
  ·subst hi
   cases sh<;>(try rfl)<;>simp only[fM,mW,lD,and_false,if_false,g,false_and]<;>(repeat' split)<;>(first|rfl|simp_all)
  ·cases sh<;>(try rfl)<;>simp only[fM,d hi]
 | clo f vs =>
  cases sh<;>(try rfl)
  ·cases vs<;>rfl
  ·simp only[fM,Mk he]
 | lit v =>
  cases sh<;>(try rfl)<;>cases v<;>(try rfl)
  ·rename_i b n c
   cases b<;>cases n<;>cases c<;>rfl
  ·rename_i q
   cases q with
   |none=>rfl
   | some q =>
    obtain⟨b,o',w⟩:=q;cases o'<;>cases w<;>rfl
 |_=>cases sh<;>rfl
theorem DZ:∀(d:List dn) (as:List AV),fx (H.set id o) e (fun _=>false) d as=fx H e (fun _=>false) d as
 | [],[]=>rfl
 | [],_::_=>rfl
 |_::_,[]=>rfl
 |sh::d,a::as=>by simp only[fx,Ml he sh a,DZ d as]
theorem WI(sh:Sh)(a:AV):kq (H.set id o) e (fun _=>false) sh a=kq H e (fun _=>false) sh a:=by
 cases sh with
 |s x=>simp only[kq,Ml he]
 | clo f caps =>
  cases a with
  |clo g vs=>simp only[kq,DZ he]
  |_=>rfl
theorem Mm:∀(d:List Sh) (as:List AV),eB (H.set id o) e (fun _=>false) d as=eB H e (fun _=>false) d as
 | [],[]=>rfl
 | [],_::_=>rfl
 |_::_,[]=>rfl
 |sh::d,a::as=>by simp only[eB,WI he sh a,Mm d as]
theorem WJ(sh:bZ)(t:ah):gP (H.set id o) e (fun _=>false) sh t=gP H e (fun _=>false) sh t:=by
 cases sh with
 | box d =>
  cases t with
  |raw x=>cases x<;>simp only[gP,DZ he]
  |_=>rfl
 | bJ l T B =>
  cases t with
  |raw x=>cases x<;>rfl
  |_=>rfl
 |_=>cases t<;>rfl
theorem Mn:∀(os:List bZ) (is:List Nat),id∉is→jn (H.set id o) e (fun _=>false) os is=jn H e (fun _=>false) os is
 | [],[],_=>rfl
 | [],_::_,_=>rfl
 |_::_,[],_=>rfl
 | sh::os,i::is,h=>by
  have h1:id≠i:=fun e=>h (by rw[e]; exact cH);simp only[jn,aV h1,WJ he,Mn os is fun hm=>h (cI _ hm)]
end WH
theorem Mo{α:Type}{i:Nat}{x:α}:∀(is:List Nat) (l xs:List α),i∉is→eb (l.set i x) is xs=(eb l is xs).set i x
 | [],_,_,_=>by simp[eb]
 |_::_,_,[],_=>by simp[eb]
 | j::is,l,y::xs,h=>by
  have h1:i≠j:=fun e=>h (by rw[e]; exact cH);simp only[eb];rw[List.set_comm _ _ h1];exact Mo is _ _ fun hm=>h (cI _ hm)
theorem WK{H:List ah}{ids:List Nat}{id:Nat}{o:ah}(h:id∉ids):bB (H.set id o) ids=bB H ids:=by
 unfold bB;rw[List.length_set];congr 1;refine List.map_congr_left fun i hi=>?_;unfold sf;rw[aV fun e=>h (by rw[e]; exact hi)]
theorem WL{sp:ax}(y:jT sp=false)(hw:ng sp.ps 0=true){as:List AV}{H H':List ah}{b:Bool}{v:AV}(h:oG sp as H=some (b,v,H')){id:Nat}{o:ah}(t:id<H.length)
  (hid:∀ ids,jo H (fun i=>as.getD i .undef) sp.ps []=some ids→id∉ids) :
  oG sp as (H.set id o)=some (b,v,H'.set id o)∧∃ ids,jo H (fun i=>as.getD i .undef) sp.ps []=some ids∧jo (H.set id o) (fun i=>as.getD i .undef) sp.ps []=some ids:=by
 unfold oG at h⊢;split at h
 ·cases h
 rename_i ids g;have d:=hid ids g;have q:=Mj (o:=o) (acc:=[]) hw g d;refine⟨?_,ids,g,q⟩;rw[q];simp only[WK d];split at h
 ·cases h
 rename_i B;have u:sv (jT sp) ids=fun _=>false:=by
  rw[y];rfl
 rw[u]at h⊢;have he:∀ j,(bB H ids).at j≠id:=by
  intro j e;rcases h_ j (bB H ids).ids.length with k|k
  ·have := gN k
   rw[e]at this;exact d (fa this)
  ·rw [sc k] at e
   have:(bB H ids).base=H.length:=rfl;omega
 rw[Mn he _ _ d,Mm he];split at h
 case h_2=>cases h
 rename_i h1 I;cases h;have z:∀ X,ll (bB H ids) (H.set id o) X=(ll (bB H ids) H X).set id o:=fun X=>by
  unfold ll;rw[show (bB H ids).ids=ids from rfl,Mo ids _ _ d,IV _ _ (by rw[ot]; exact t)]
 rw[z]
def au.c9(τ:au)(sp:ax):au where
 pf g:=match af g sp.f with
  |true=>false
  |false=>τ.pf g
 T:=τ.T
 W g as H:=match af g sp.f with
  | true=>match oG sp as H with
   |some r=>some r
   |none=>τ.W g as H
  |false=>τ.W g as H
 C g as H:=match af g sp.f with
  | true=>(match jo H (fun i=>as.getD i .undef) sp.ps [] with
   |some ids=>ids
   |none=>[])++τ.C g as H
  |false=>τ.C g as H
 I:=τ.I
 N g:=match af g sp.f with
  | true=>match τ.U g,jT sp with
   |false,false=>ng sp.ps 0
   |_,_=>false
  |false=>τ.N g
 U g:=match af g sp.f with
  |true=>true
  |false=>τ.U g
def oH:List bZ→List bZ→Bool
 |_,[]=>true
 | [],o'::d=>o'.jl.isNone&&oH [] d
 | o::os,o'::d=>(match o'.jl with
  |none=>true
  | some l=>match o.jl with
   |some l'=>af l l'
   |none=>false)&&oH os d
theorem D0:∀{os k:List bZ},oH os k=true→∀(j:Nat) o' l,k[j]? = some o'→o'.jl=some l→∃ o,os[j]? = some o∧o.jl=some l
 |_,[],_,j,_,_,d,_=>by simp at d
 | [],x::k,h,0,o',l,d,g=>by
  simp only[oH,ar]at h;simp at d;subst d;rw[g]at h;cases h.1
 | [],x::k,h,j+1,o',l,d,g=>by
  simp only[oH,ar]at h;obtain⟨o,h1,_⟩:=D0 h.2 j o' l (by simpa using d) g;simp at h1
 | o::os,x::k,h,0,o',l,d,g=>by
  simp only[oH,ar]at h;simp at d;subst d;have h1:=h.1;rw[g]at h1;simp only[]at h1;split at h1
  ·rename_i l' q
   have:=br h1;subst this;exact⟨o,rfl,q⟩
  ·cases h1
 | o::os,x::k,h,j+1,o',l,d,g=>by
  simp only[oH,ar]at h;exact D0 h.2 j o' l (by simpa using d) g
theorem Mp(lens:c8):∀(os:List bZ) (d:List G) (j:Nat) (o:ah),(ca lens os d)[j]? = some o→∃ sh d',os[j]? = some sh∧o=eA lens sh d'
 | [],d,j,o,h=>by simp[ca]at h
 | s::os,d,0,o,h=>by
  simp[ca]at h;exact⟨s,d,rfl,h.symm⟩
 | s::os,d,j+1,o,h=>by
  simp only[ca,SG]at h;obtain⟨sh,d',h1,g⟩:=Mp lens os _ j o h;exact⟨sh,d',by simpa using h1,g⟩
theorem WM{lens:c8}{os:List bZ}{d:List G}{j:Nat}{o:ab} (h:(ai (ca lens os d))[j]? = some o):∃ sh,os[j]? = some sh∧o.label=sh.jl:=by
 simp only[ai,bR]at h;obtain⟨o',h1,rfl⟩:=dR.1 h;obtain⟨sh,d',g,rfl⟩:=Mp lens os d j o' h1;exact⟨sh,g,sd _ _ _⟩
theorem Mq(lens:c8):∀(os:List bZ) (d:List G) (j:Nat) (sh:bZ),os[j]? = some sh→∃ o,(ai (ca lens os d))[j]? = some o∧o.label=sh.jl
 | [],d,j,o,h=>by simp at h
 | s::os,d,0,sh,h=>by
  simp at h;subst h;exact⟨(eA lens s d).den,by simp[ca,ai],sd _ _ _⟩
 | s::os,d,j+1,sh,h=>by
  obtain⟨o,h1,g⟩:=Mq lens os (cD s.sz d) j sh (by simpa using h);exact⟨o,by simpa[ca,ai]using h1,g⟩
def zf(sp:ax):Bool:=p_ sp.cF&&(bI sp.cF.length sp.fN.length&&oH sp.cF sp.fN)
theorem WN{P:Program}{sp:ax}(hp:zf sp=true) (hc:∀ d r,sp.F d=some r→cq P sp.f (sp.args0 d) (ai (sp.H0 d)) (sp.out r) (ai (sp.H1 r)))
  {as:List AV} {H H':List ah} {v:AV} (h:oG sp as H=some (true,v,H')):cq P sp.f as (ai H) v (ai H'):=by
 simp only[zf,ar]at hp;obtain⟨hfr,hle,hlab⟩:=hp;have hle:=ua hle;unfold oG at h;split at h
 ·cases h
 rename_i ids hids;split at h
 ·cases h
 rename_i hck;simp only[ar]at hck;obtain⟨hnd,hup⟩:=hck;have hnd:=sn hnd;split at h
 case h_2=>cases h
 rename_i b g b' k h1 h2;simp only[aX,a8,sk,ar]at h;obtain⟨⟨⟨rfl,rfl⟩,h3⟩,rfl,rfl⟩:=h;cases hF:sp.F (g++k)with
 |none=>rw[hF]at h3; cases h3
 |some r =>
 simp only[nI];obtain⟨p0,p1,p2,p3⟩:=vo h1 k (bQ sp.cF (g++k));have hd:cD (lU sp.cF) (g++k)=k:=by rw[←p0]; exact oz g k
 have hlen:ids.length=(ai (sp.H0 (g++k))).length:=by rw[eH]; simp only[ax.H0,p1,p2]
 have hat:∀ j,j<ids.length→ids[j]? = some ((bB H ids).at j):=fun j q=>gN (e:=bB H ids) q;have U:∀ j,j<ids.length→∃ sh o g1 I,sp.cF[j]? = some sh∧H[(bB H ids).at j]? = some o∧gP H (bB H ids) (sv (jT sp) ids) sh o=some (true,g1) ∧
   (sp.H0 (g++k))[j]? = some (eA (bQ sp.cF (g++k)) sh (g1++I)) ∧
   (bQ sp.cF (g++k)).ad j=sh.up∧(∀ ks v rows,o=.vec ks v rows→(bQ sp.cF (g++k)).len j=rows.length)∧sh.up=0∧(bB H ids).up j=se o:=by
  intro j q;have hj':j<sp.cF.length:=by omega
  obtain⟨i,o,g1,I,J,t,z,y,R,W⟩:=p3 j sp.cF[j] (bd hj');have q1':=J;rw[hat j q]at J;cases J;refine⟨sp.cF[j],o,g1,I,bd hj',t,z,y,R,W,?_,?_⟩
  ·have := bO.1 hfr sp.cF[j] (iJ hj')
   exact br this
  ·simp only [bF.up, bB, b_, bR]
   rw[q1'];simp only[dL,nI,sf];rw[t]
 have hK:∀ E E0,E.H=ai H→aq E→yU (bB H ids) (bif jT sp then (er H.length).filter (iC ids) else []) E E0→E0.H=ai (sp.H0 (g++k)) →
   iA H (bB H ids) (sv (jT sp) ids) (bQ sp.cF (g++k)) E E0:=by
  intro E E0 O HE M N;refine { hH:=O,HE:=HE,free:=fun i hi b n hb=>?_,cT:=M.toKeepIn,obj:=fun j o ho=>?_ }
  ·refine M.Wf i ?_ b n hb
   have hlt:=aL hb;rw[HE.len,O,eH]at hlt;unfold sv at hi;split at hi
   ·rename_i B
    rw[B];simp only[cond_true,BV,List.mem_range];exact⟨hlt,hi⟩
   ·cases hi
  ·have q:j<ids.length:=by
    rcases h_ j ids.length with hlt|hge
    ·exact hlt
    ·have h1 := aL ho
     have h2:=sc (e:=bB H ids) hge;have h3:(bB H ids).base=H.length:=rfl;omega
   refine⟨q,?_⟩;obtain⟨sh,o',g1,I,J,t,z,y,R,W,q7,q8⟩:=U j q;rw[ho]at t;cases t;obtain⟨r1,r2,r3⟩:=DO (lens:=bQ sp.cF (g++k)) (d:=g1++I) z;exact⟨r1,⟨_,by rw[N]; exact bf y,by rw[R]; exact r2⟩,fun o0 h0=>by rw[N,bf y]at h0; cases h0; rw[DL,DM z],W,fun _=>by rw[R]; exact q7⟩
 have:=frame (P:=P) (f:=sp.f) (jT sp) (bif jT sp then (er H.length).filter (iC ids) else []) (e:=bB H ids) (H:=ai H) (args:=sp.args0 (g++k)) (H0:=ai (sp.H0 (g++k)))
  (H1:=ai (sp.H1 r)) (v:=sp.out r) (args0:=as) (hc _ _ hF) hlen (by rw[eH]; rfl) hnd ?_ ?_ (qb hup) ?_ (fun B=>by rw[B]; rfl) ?_ ?_ ?_ ?_ ?_ ?_ ?_
 ·rw [WG]
  exact this
 ·intro j o ho
  have q:j<ids.length:=by rw[hlen]; exact aL ho
  obtain⟨sh,o',g1,I,J,t,z,y,R,W,q7,q8⟩:=U j q;obtain⟨r1,r2,r3⟩:=DO (lens:=bQ sp.cF (g++k)) (d:=g1++I) z;rw[bf y]at ho;cases ho;refine⟨o'.den,bf t,ab.B0 r2,fun v=>?_⟩;rw[r1,r2,q7,q8];simp only[aX];constructor
  ·rintro rfl
   exact⟨0,rfl,by omega⟩
  ·rintro ⟨u, rfl, rfl⟩
   omega
 ·intro E E0 O HE M N j o ho
  have q:j<ids.length:=by rw[hlen]; exact aL ho
  obtain⟨sh,o',g1,I,J,t,z,y,R,W,q7,q8⟩:=U j q;rw[bf y]at ho;cases ho;exact LV (hK E E0 O HE M N) z I q (fun l hl=>M.jl j _ l (by rw[N]; exact bf y) (by rw[sd,hl])) (HE.obj _ _ (by rw[O]; exact bf t))
 ·rw [eH, eH]
  simp only[ax.H0,ax.H1,DW];exact hle
 ·intro B
  simp only[jT,ar]at B;exact WD (Me B.1)
 ·intro B
  simp only[jT,ar]at B;exact Mf B.2
 ·intro i hi
  cases B:jT sp with
  | true =>
   rw[B]at hi;simp only[cond_true,BV]at hi;exact LZ hi.2
  | false =>
   rw[B]at hi;simp at hi
 ·intro j o o' ho V
  have q:j<ids.length:=by rw[hlen]; exact aL ho
  obtain⟨sh,o2,g1,I,J,t,z,y,_⟩:=U j q;rw[bf y]at ho;rw[bf t]at V;cases ho;cases V;rw[LP z,sd]
 ·intro j o l ho hl
  obtain⟨sh,h5,h6⟩:=WM (show (ai (ca (bQ sp.fN r) sp.fN r))[j]? = some o from ho);obtain⟨sh0,h7,h8⟩:=D0 hlab j sh l h5 (by rw[←h6,hl]);obtain⟨o0,h9,h10⟩:=Mq (bQ sp.cF (g++k)) sp.cF (g++k) j sh0 h7;exact⟨o0,h9,by rw[h10,h8]⟩
 ·intro j o o' ho V
  have q:j<ids.length:=by rw[hlen]; exact aL ho
  obtain⟨sh,o2,g1,I,J,t,z,y,_⟩:=U j q;rw[bf y]at ho;rw[bf t]at V;cases ho;cases V;rw[DM z,DL]
 ·intro E E0 cs O HE M N hr
  have hS:=(vn (hK E E0 O HE M N) h2 []).2.2.2 cs hr;rw[dx]at hS;simp only[ax.args0,hd];exact hS
theorem WO{sp:ax}{as:List AV}{H H':List ah}{v:AV}{b:Bool}{A:Nat}(h:oG sp as H=some (b,v,H'))(g:A<H.length)(k:∀ ids,jo H (fun i=>as.getD i .undef) sp.ps []=some ids→A∉ids):H'[A]? = H[A]? := by
 unfold oG at h;split at h
 ·cases h
 rename_i ids d;split at h
 ·cases h
 split at h
 case h_2=>cases h
 cases h;unfold ll;rw[cQ (by rw[ot]; exact g)];exact yV _ _ _ _ (k ids d)
theorem aw.c9{P:Program}{τ:au}(h:aw P τ){sp:ax}(hb:iv P sp.f=true)(R:zf sp=true)
  (U:∀ d r,sp.F d=some r→cq P sp.f (sp.args0 d) (ai (sp.H0 d)) (sp.out r) (ai (sp.H1 r))):aw P (τ.c9 sp):=by
 refine⟨h.T,fun g as H b v H' k M=>?_,fun g as H b v H' k A q u=>?_,fun g as H t k Q V=>?_,fun g y as H=>?_,fun g z as H b v H' k id o u hid=>?_⟩
 rotate_left 2
 ·obtain ⟨g1, v, H', g2, g3, g4⟩ := h.I g as H t k Q V
  refine⟨g1,v,H',g2,fun A q u=>g3 A (fun hm=>q ?_) u,g4⟩;simp only[au.c9];split
  ·exact ud _ hm
  ·exact hm
 ·simp only [au.c9] at y ⊢
  cases e:af g sp.f with
  |true=>rw[e]at y; cases y
  | false =>
   rw[e]at y;exact h.F.1 g y as H
 ·simp only [au.c9] at z k hid ⊢
  cases e:af g sp.f with
  | false =>
   rw[e]at z k hid;exact h.F.2 g z as H b v H' k id o u hid
  | true =>
   rw[e]at z k hid;simp only[]at z k hid⊢;split at z
   case h_2=>cases z
   rename_i y hs;have O:∀ H,τ.W g as H=none:=fun H=>(h.F.1 g y as H).1;have N:∀ H,τ.C g as H=[]:=fun H=>(h.F.1 g y as H).2;rw[O]at k;split at k
   case h_2=>cases k
   rename_i r B;cases k;obtain⟨q1,ids,q2,q3⟩:=WL hs z B (o:=o) u fun ids J hm=>hid (nM _ (by rw[J]; exact hm));rw[q1];refine⟨rfl,?_⟩;rw[q2,q3,N,N]
 simp only[au.c9]at k;split at k
 ·rename_i e
  have e:=br e;subst e;split at k
  ·rename_i r B
   cases k;subst M;exact⟨hb,WN R U B⟩
  ·exact h.W _ as H b v H' k M
 ·exact h.W g as H b v H' k M
 simp only[au.c9]at k q;split at k
 ·rename_i e
  rw[e]at q;simp only[]at q;split at k
  ·rename_i r B
   cases k;exact WO B u fun ids J hm=>q (nM _ (by rw[J]; exact hm))
  ·exact h.C g as H b v H' k A (fun hm=>q (ud _ hm)) u
 ·rename_i e
  rw[e]at q;exact h.C g as H b v H' k A q u
end Go.AL

namespace Go.AL
open Go
variable [Dr]
def aj{β:Type}(t:Option (List G))(k:List G→Option β):Option β:=bif t.isSome then k (t.getD []) else none
def sw{β:Type}(b:Bool)(t:Option (List G))(k:List G→Option β):Option β:=bif b then k (t.getD []) else none
def bh{β:Type}(b:Bool)(r:Option (Nat × List G))(k:Nat→List G→Option β):Option β:=bif (b&&r.isSome) then k (DT r) (DU r) else none
def WQ:Kd→G→G
 |.int _,g=>.i g.int
 |.str,g=>.s g.str
 |.bool,g=>.t g.bool
 |.list _,g=>.l g.rows
def be:List Kd→List G→List G
 | [],_=>[]
 |k::ks,r=>WQ k (r.headD default)::be ks r.tail
def au.fy(τ:au)(d:List FuncId):au:={ τ with pf:=fun g=>match d.any (fun x=>af x g)with
 |true=>false
 |false=>τ.pf g }
theorem aw.fy{P:Program}{τ:au}(h:aw P τ)(d:List FuncId):aw P (τ.fy d):=⟨h.T,h.W,h.C,h.I,h.F⟩
inductive lW (st:List G→Option (Option Nat × List G)):Nat→List G→Nat→List G→Prop
 |stop {d d':List G} {x:Nat} (h:st d=some (some x,d')):lW st 1 d x d'
 |next {d d1 d':List G} {x n:Nat} (h:st d=some (none,d1)) (h':lW st n d1 x d'):lW st (n+1) d x d'
theorem lW.iter{st:List G→Option (Option Nat × List G)}{n:Nat}{d d':List G}{x:Nat}(h:lW st n d x d'):∀ m,n≤m→p8 st m d=some (x,d'):=by
 induction h with
 | stop h =>
  intro m hm;cases m with
  |zero=>omega
  |succ m=>simp only[p8,h]
 | next h _ g =>
  intro m hm;cases m with
  |zero=>omega
  |succ m=>simp only[p8,h]; exact g m (by omega)
theorem lW.WR{st:List G→Option (Option Nat × List G)}{n:Nat}{d d':List G}{x:Nat}(h:lW st n d x d')(g:n≤1000000):cu st d=some (x,d'):=h.iter _ g
end Go.AL

namespace Go.AL
open Go
variable [Dr]
inductive Hint where
 |freeze (slot:Nat)
 |Mr (slot:Nat) (ks:List Kd)
 |D1 (slot c:Nat) (ks:List Kd)
 |Ms (slot:Nat)
 |Mt (slot c:Nat)
 |hole (ks:List Kd)
 |sx
 |aY (slot l:Nat)
 |zg (slot:Nat)
 |mm (slot l:Nat) (KI VI:Ct)
 |sA (slot c l:Nat) (KI VI:Ct)
 |forget (id:Nat)
 |zh (slot c:Nat) (ks:List Kd)
def zi(slot:Nat)(s:al):Bool × al :=
 match s.fr.getD slot .undef with
 | .vec w id ad off n=>match s.H[id]? with
  |some (.vec ks v rows)=>if ad=v∧off=0∧w=ks.length then (af n rows.length,⟨s.fr.set slot (.listF ks rows),s.H.set id (.raw .dead)⟩) else (true,s)
  |_=>(true,s)
 |_=>(true,s)
def D2(slot c:Nat)(ks:List Kd)(s:al):Bool × al :=
 match s.fr.getD slot .undef with
 | .ptr id _ _ _ _=>match s.H[id]? with
  | some (.raw (.box cells))=>match cells[c]? with
   | some a=>match isNil a with
    |true=>(true,⟨s.fr,s.H.set id (.raw (.box (cells.set c (.vec ks.length s.H.length 0 0 0))))++[.vec ks 0 []]⟩)
    |false=>(true,s)
   |none=>(true,s)
  |_=>(true,s)
 |_=>(true,s)
def zk(slot c:Nat)(s:al):Bool × al :=
 match s.fr.getD slot .undef with
 | .ptr id _ _ _ _=>match s.H[id]? with
  | some (.raw (.box cells))=>match cells[c]? with
   | some (.vec w d ad off n)=>match s.H[d]? with
    |some (.vec ks v rows)=>if ad=v∧off=0∧w=ks.length then (af n rows.length,⟨s.fr,(s.H.set d (.raw .dead)).set id (.raw (.box (cells.set c (.listF ks rows))))⟩) else (true,s)
    |_=>(true,s)
   |_=>(true,s)
  |_=>(true,s)
 |_=>(true,s)
def zl(slot:Nat)(s:al):Bool × al :=
 match s.fr.getD slot .undef with
 | .vec w id ad off n=>match s.H[id]? with
  |some (.vec ks v rows)=>if ad=v∧off=0∧w=ks.length then (bI n rows.length,⟨s.fr.set slot (.vec w id (v+1) 0 n),s.H.set id (.vec ks (v+1) (rows.take n))⟩) else (true,s)
  |_=>(true,s)
 |_=>(true,s)
def zm(slot l:Nat)(s:al):Bool × al :=
 match s.fr.getD slot .undef with
 | .map id=>match s.H[id]? with
  |some (.map K (.one (.list ks)) [] cl)=>(mN (ai s.H) l,⟨s.fr,s.H.set id (.aY l K ks [] cl)⟩)
  |_=>(true,s)
 |_=>(true,s)
def zn(rows:List (List G)):Bool:=rows.all fun r=>(gi r 3).bool
def zo(slot:Nat)(s:al):Bool × al :=
 match s.fr.getD slot .undef with
 | .map id=>match s.H[id]? with
  |some (.aY _ K ks rows cl)=>(zn rows,⟨s.fr,s.H.set id (.map K (.one (.list ks)) rows cl)⟩)
  |_=>(true,s)
 |_=>(true,s)
def zp(slot l:Nat)(KI VI:Ct)(s:al):Bool × al :=
 match s.fr.getD slot .undef with
 | .map id=>match s.H[id]? with
  |some (.map K _ [] cl)=>(mN (ai s.H) l,⟨s.fr,s.H.set id (.mm l K KI VI [] [] cl)⟩)
  |_=>(true,s)
 |_=>(true,s)
def zq(slot c l:Nat)(KI VI:Ct)(s:al):Bool × al :=
 match s.fr.getD slot .undef with
 | .ptr a _ _ _ _=>match s.H[a]? with
  | some (.raw (.box cells))=>match cells[c]? with
   | some (.map id)=>match s.H[id]? with
    |some (.map K _ rows cl)=>(sg (mN (ai s.H) l) rows.isEmpty,⟨s.fr,s.H.set id (.mm l K KI VI [] [] cl)⟩)
    |_=>(true,s)
   |_=>(true,s)
  |_=>(true,s)
 |_=>(true,s)
def D3(id:Nat)(s:al):Bool × al :=
 match s.H[id]? with
 |some (.raw (.box _))=>(true,⟨s.fr,s.H.set id (.vec [] 1 [])⟩)
 |some (.map ..)=>(true,⟨s.fr,s.H.set id (.vec [] 1 [])⟩)
 |some (.mm ..)=>(true,⟨s.fr,s.H.set id (.vec [] 1 [])⟩)
 |_=>(true,s)
def D4(slot c:Nat)(ks:List Kd)(s:al):Bool × al :=
 match s.fr.getD slot .undef with
 | .ptr id _ _ _ _=>match s.H[id]? with
  | some (.raw (.box cells))=>match cells[c]? with
   | some (.list w rows)=>match bg ks rows with
    |some gs=>if w=ks.length then (true,⟨s.fr,s.H.set id (.raw (.box (cells.set c (.listF ks gs))))⟩) else (true,s)
    |none=>(true,s)
   |_=>(true,s)
  |_=>(true,s)
 |_=>(true,s)
def zt:Hint→al→Bool × al
 |.freeze i,s=>zi i s
 | .Mr i ks,s=>match isNil (s.fr.getD i .undef) with
  |true=>(true,vh i ks s)
  |false=>(true,s)
 |.D1 i c ks,s=>D2 i c ks s
 |.Ms i,s=>zl i s
 |.Mt i c,s=>zk i c s
 |.hole ks,s=>(true,⟨s.fr,s.H++[.vec ks 0 []]⟩)
 |.sx,s=>(true,⟨s.fr,s.H++[.raw .dX]⟩)
 |.aY i l,s=>zm i l s
 |.zg i,s=>zo i s
 |.mm i l KI VI,s=>zp i l KI VI s
 |.sA i c l KI VI,s=>zq i c l KI VI s
 |.forget i,s=>D3 i s
 |.zh i c ks,s=>D4 i c ks s
def vA:List Hint→al→Bool × al
 | [],s=>(true,s)
 | h::d,s=>match zt h s with
  | (b,s1)=>match vA d s1 with
   |(g,s2)=>(b&&g,s2)
theorem WS{m:Nat}{slot:Nat}{s:al}(h:(zi slot s).1=true):bq m s.den (zi slot s).2.den:=by
 unfold zi at h⊢;split
 case h_2=>exact bq.refl _
 rename_i w id ad off n I;split
 case h_2=>exact bq.refl _
 rename_i ks v rows hid;split
 case isFalse=>exact bq.refl _
 rename_i u;obtain⟨rfl,rfl,rfl⟩:=u;simp only[I,hid,and_self,if_true]at h;have U:=br h;subst U;intro E a d;have hH:E.H=ai s.H:=d.H;have hle:=Env.uj d.heap id;have O:=aq.drop d.heap id fun o ho=>by
  rw[show E.H[id]? = some (.vec ks.length ad (rows.map (aK ks))) by rw[hH]; exact bf hid]at ho;cases ho;rfl
 have z:ai (s.H.set id (.raw .dead))=E.H.set id .dead:=by rw[dj,hH]; rfl
 refine⟨E.loc.set id none,E.X,?_,?_⟩
 ·simp only [al.den]
  rw[z];refine⟨rfl,?_,d.defers,O⟩;refine y6 (dN hle _ d.fr) fun c u=>?_;have t:=DR d.fr u;rw[show s.den.fr=s.fr from rfl,I]at t;have B:E.H[id]? = some (.vec ks.length ad (rows.map (aK ks))):=by rw[hH]; exact bf hid
  have ho:=d.heap.obj id _ B;rw[jC];simp only[rel]at t⊢;obtain⟨⟨base,cap,rfl,N,_⟩,_,y⟩:=t;obtain⟨q1,V⟩:=y ⟨_,B,rfl⟩;have J:ff (rows.map (aK ks)):=by
   intro r t;obtain⟨g,_,rfl⟩:=di.1 t;exact fW ks g
  refine⟨J,base,cap,by simp,by simpa using N,?_⟩;simp only[aR]at ho;rcases ho with⟨h1,M⟩|⟨b,mm,h1,M,y,_,W⟩
  ·exact .inl M
  ·obtain ⟨g1, o, g2, g3⟩ := V b mm h1
   by_cases hm:rows=[]
   ·subst hm; exact .inl rfl
   ·right
    have:0<rows.length:=by cases rows with|nil=>exact(hm rfl).elim|cons _ _=>simp
    simp at y;have ho:=g2 (by omega);simp at ho;subst ho;simp only[j0]at g3;refine⟨b,0,g3.1,⟨(d.heap.lt id b mm h1).1,?_,(d.heap.lt id b mm h1).2⟩,kY hle.toC _ J rfl W⟩;rintro(⟨j,c',q⟩|⟨l,k,c',q⟩)
    case inr=>exact d.heap.cN _ _ _ _ _ _ h1 q
    simp only[dS]at q;split at q
    ·split at q<;>cases q
    ·rename_i R
     exact R (d.heap.inj _ _ _ _ _ h1 q)
 ·simp only [al.den]
  rw[z];exact hle.toM
theorem WT{m:Nat}{slot c:Nat}{ks:List Kd}{s:al}:bq m s.den (D2 slot c ks s).2.den:=by
 unfold D2;split
 case h_2=>exact bq.refl _
 rename_i id ad k row col hsl;split
 case h_2=>exact bq.refl _
 rename_i cells hid;split
 case h_2=>exact bq.refl _
 rename_i a0 ha0;split
 case h_2=>exact bq.refl _
 rename_i W;intro E a g;have hH:E.H=ai s.H:=g.H;have hlen:E.H.length=s.H.length:=by rw[hH,eH]
 have hle:E.le (E.push E.w (.vec ks.length 0 []) none):=Env.jD g.heap.len (Ext.refl _) (fun b n h=>by cases h);have hobj:aR (E.push E.w (.vec ks.length 0 []) none) E.H.length (.vec ks.length 0 []):=by
  simp only[aR,Env.push];refine .inl ⟨?_,trivial⟩;rw[jv (by rw[g.heap.len]; exact aH _),g.heap.len,nK];rfl
 have t:aq (E.push E.w (.vec ks.length 0 []) none):=aq.push g.heap (Ext.refl _) (fun b n h=>by cases h) hobj;generalize u:E.push E.w (.vec ks.length 0 []) none=d at hle t;have B:d.w=E.w:=by rw[←u]; rfl
 have I:d.X=E.X:=by rw[←u]; rfl
 have J:d.H=ai (s.H++[.vec ks 0 []]):=by rw[←u,hG,←hH]; rfl
 have O:id<s.H.length:=aL hid;have y:d.H[id]? = some (.box cells):=by
  rw[J];exact bf (H:=s.H++[.vec ks 0 []]) (o:=.raw (.box cells)) (by rw[cQ O]; exact hid)
 have ho:=t.obj id _ y;simp only[aR]at ho;obtain⟨b,n,h1,h2,M⟩:=ho;have R:∀ v,(ab.box (cells.set c (.vec ks.length s.H.length 0 0 0))).aF = some v→(ab.box cells).aF = some v:=fun v N=>by simpa[ab.aF]using N
 have z:=Env.mM (o':=.box (cells.set c (.vec ks.length s.H.length 0 0 0))) (w':=d.w) t y h1 R rfl (fun _ _=>rfl);have hnew:d.H[s.H.length]? = some (.vec ks.length 0 []):=by
  rw[J];have e:(s.H++[ah.vec ks 0 []])[s.H.length]? = some (ah.vec ks 0 []):=by rw[jv (aH _),nK]; rfl
  exact bf e
 have hloc:d.loc[s.H.length]? = some none:=by
  rw[←u];simp only[Env.push];rw[jv (by rw[g.heap.len]; omega),g.heap.len,hlen,nK];rfl
 have hrel:∀ v,rel d a0 v→rel { w:=d.w,H:=d.H.set id (.box (cells.set c (.vec ks.length s.H.length 0 0 0))),loc:=d.loc,X:=d.X } (.vec ks.length s.H.length 0 0 0) v:=by
  intro v N;obtain⟨base,rfl⟩:=Lz W N;simp only[rel];have hne:id≠s.H.length:=by omega
  refine⟨⟨base,0,rfl,aH _,fun h=>absurd h (ub _)⟩,⟨.vec ks.length 0 [],by rw[aV hne]; exact hnew,rfl,fun v h=>dB _⟩,fun _=>⟨fun _=>⟨trivial,trivial,base,rfl⟩,fun b m hb=>?_⟩⟩;rw[hloc]at hb;cases hb
 have U:=aq.set (w':=d.w) t y h1 R rfl (fun _ _=>rfl) (by
  simp only[aR];refine⟨b,n,h1,by simpa using h2,?_⟩;rw[iL]at M⊢;intro i x q;rw[dS]at q;split at q
  ·rename_i e
   subst e;split at q
   ·cases q
    obtain⟨v,g1,g2,g3⟩:=M c a0 ha0;exact⟨v,g1,g2,hrel v g3⟩
   ·cases q
  ·obtain ⟨v, g1, g2, g3⟩ := M i x q
   exact⟨v,g1,g2,bK z x g3⟩)
 have V:ai (s.H.set id (.raw (.box (cells.set c (.vec ks.length s.H.length 0 0 0))))++[.vec ks 0 []])=d.H.set id (.box (cells.set c (.vec ks.length s.H.length 0 0 0))):=by
  rw[J,hG,hG,dj,IV _ _ (by rw[eH]; exact O)];rfl
 refine⟨d.loc,E.X,?_,?_⟩
 ·simp only [al.den]
  rw[V];rw[B,I]at U;refine⟨rfl,?_,g.defers,U⟩;have:=dN z _ (dN hle _ g.fr);rw[B,I]at this;exact this
 ·simp only [al.den]
  rw[V];have:=(hle.trans z).toM (m:=m);rw[B,I]at this;exact this
theorem WU{m:Nat}{slot c:Nat}{s:al}(h:(zk slot c s).1=true):bq m s.den (zk slot c s).2.den:=by
 unfold zk at h⊢;split
 case h_2=>exact bq.refl _
 rename_i id ver0 k row col hsl;split
 case h_2=>exact bq.refl _
 rename_i cells hid;split
 case h_2=>exact bq.refl _
 rename_i w g ad off n N;split
 case h_2=>exact bq.refl _
 rename_i ks v rows I;split
 case isFalse=>exact bq.refl _
 rename_i hc;obtain⟨rfl,rfl,rfl⟩:=hc;simp only[hsl,hid,N,I,and_self,if_true]at h;have hn:=br h;subst hn;intro E a q;have hH:E.H=ai s.H:=q.H;have hne:id≠g:=fun e=>by
  rw[e,I]at hid;cases hid
 have R:E.H[id]? = some (.box cells):=by rw[hH]; exact bf hid
 have O:E.H[g]? = some (.vec ks.length ad (rows.map (aK ks))):=by rw[hH]; exact bf I
 obtain⟨b0,n0,k1,k2,k3⟩:=q.heap.obj id _ R;rw[iL]at k3;obtain⟨cv,c1,c2,c3⟩:=k3 c _ N;have hfr:=Kf q.heap O c3;have hle:=Env.uj q.heap g;have z:=aq.drop q.heap g fun o ho=>by
  rw[O]at ho;cases ho;rfl
 generalize u:({ w:=E.w,H:=E.H.set g .dead,loc:=E.loc.set g none,X:=E.X }:Env)=d at hle z hfr;have B:d.w=E.w:=by rw[←u]
 have M:d.X=E.X:=by rw[←u]
 have J:d.H[id]? = some (.box cells):=by
  rw[←u];show (E.H.set g .dead)[id]? = _
  rw[aV (Ne.symm hne)];exact R
 have hl1:d.loc[id]? = some (some (b0,n0)):=by
  rw[←u];show (E.loc.set g none)[id]? = _
  rw[aV (Ne.symm hne)];exact k1
 obtain⟨b,n,h1,h2,h3⟩:=z.obj id _ J;have hbb:b=b0:=by
  rw[hl1]at h1;cases h1;rfl
 subst hbb;have U:∀ v,(ab.box (cells.set c (.listF ks rows))).aF = some v→(ab.box cells).aF = some v:=fun v hv=>by simpa[ab.aF]using hv
 have y:=Env.mM (o':=.box (cells.set c (.listF ks rows))) (w':=d.w) z J h1 U rfl (fun _ _=>rfl);have V:=aq.set (w':=d.w) z J h1 U rfl (fun _ _=>rfl) (by
  simp only[aR];refine⟨b,n,h1,by simpa using h2,?_⟩;rw[iL]at h3⊢;intro i x t;rw[dS]at t;split at t
  ·rename_i e
   subst e;split at t
   ·cases t
    refine⟨cv,by rw[show ({ w:=d.w,H:=_,loc:=d.loc,X:=d.X }:Env).w=E.w from B]; exact c1,c2,bK y _ hfr⟩
   ·cases t
  ·obtain ⟨v, g1, g2, g3⟩ := h3 i x t
   exact⟨v,g1,g2,bK y x g3⟩)
 have W:ai ((s.H.set g (.raw .dead)).set id (.raw (.box (cells.set c (.listF ks rows)))))=d.H.set id (.box (cells.set c (.listF ks rows))):=by
  rw[dj,dj,←hH,←u];rfl
 refine⟨d.loc,E.X,?_,?_⟩
 ·simp only [al.den]
  rw[W];rw[B,M]at V;refine⟨rfl,?_,q.defers,V⟩;have:=dN y _ (dN hle _ q.fr);rw[B,M]at this;exact this
 ·simp only [al.den]
  rw[W];have:=(hle.trans y).toM (m:=m);rw[B,M]at this;exact this
theorem WV{m:Nat}{slot c:Nat}{ks:List Kd}{s:al}:bq m s.den (D4 slot c ks s).2.den:=by
 unfold D4;split
 case h_2=>exact bq.refl _
 rename_i id O k row col R;split
 case h_2=>exact bq.refl _
 rename_i cells hid;split
 case h_2=>exact bq.refl _
 rename_i w rows z;split
 case h_2=>exact bq.refl _
 rename_i gs I;split
 case isFalse=>exact bq.refl _
 rename_i hw;subst hw;intro E a d;have hH:E.H=ai s.H:=d.H;have q:E.H[id]? = some (.box cells):=by rw[hH]; exact bf hid
 obtain⟨b,n,h1,J,t⟩:=d.heap.obj id _ q;have u:∀ v,(ab.box (cells.set c (.listF ks gs))).aF = some v→(ab.box cells).aF = some v:=fun v M=>by simpa[ab.aF]using M
 have h:=Env.mM (o':=.box (cells.set c (.listF ks gs))) (w':=E.w) d.heap q h1 u rfl (fun _ _=>rfl);have B:=aq.set (w':=E.w) d.heap q h1 u rfl (fun _ _=>rfl) (by
  simp only[aR];refine⟨b,n,h1,by simpa using J,?_⟩;rw[iL]at t⊢;intro i x g;rw[dS]at g;split at g
  ·rename_i e
   subst e;split at g
   ·cases g
    obtain⟨N,c1,c2,c3⟩:=t c _ z;refine⟨N,c1,c2,bK h _ ?_⟩;rw[jC,rS I];exact c3
   ·cases g
  ·obtain ⟨v, g1, g2, g3⟩ := t i x g
   exact⟨v,g1,g2,bK h x g3⟩)
 have y:ai (s.H.set id (.raw (.box (cells.set c (.listF ks gs)))))=E.H.set id (.box (cells.set c (.listF ks gs))):=by rw[dj,←hH]; rfl
 refine⟨E.loc,E.X,?_,?_⟩
 ·simp only [al.den]
  rw[y];exact⟨rfl,dN h _ d.fr,d.defers,B⟩
 ·simp only [al.den]
  rw[y];exact h.toM
theorem WW{m:Nat}{slot:Nat}{s:al}(h:(zl slot s).1=true):bq m s.den (zl slot s).2.den:=by
 unfold zl at h⊢;split
 case h_2=>exact bq.refl _
 rename_i w id ad off n J;split
 case h_2=>exact bq.refl _
 rename_i ks v rows hid;split
 case isFalse=>exact bq.refl _
 rename_i y;obtain⟨rfl,rfl,rfl⟩:=y;simp only[J,hid,and_self,if_true]at h;have hn:=ua h;intro E a d;have hH:E.H=ai s.H:=d.H;have t:E.H[id]? = some (.vec ks.length ad (rows.map (aK ks))):=by rw[hH]; exact bf hid
 have ho:=d.heap.obj id _ t;obtain⟨l,z⟩:∃ l,E.loc[id]? = some l:=by
  have:id<E.loc.length:=by rw[d.heap.len]; exact aL t
  exact⟨_,bd this⟩
 have M:E.loc.set id l=E.loc:=lO z;have I:ai (s.H.set id (.vec ks (ad+1) (rows.take n)))=E.H.set id (.vec ks.length (ad+1) ((rows.take n).map (aK ks))):=by rw[dj,hH]; rfl
 have V:∀ b n,l=some (b,n)→E.w.heap.size≤b∨∃ m,E.loc[id]? = some (some (b,m)):=fun b n hb=>.inr ⟨n,by rw[z,hb]⟩;have N:∀ v u,(ab.vec ks.length (ad+1) ((rows.take n).map (aK ks))).aF = some v→(ab.vec ks.length ad (rows.map (aK ks))).aF = some u→u≤v:=by
  intro v u h1 k;simp[ab.aF]at h1 k;omega
 have O:∀ v,(ab.vec ks.length (ad+1) ((rows.take n).map (aK ks))).aF = some v→∀ u,(ab.vec ks.length ad (rows.map (aK ks))).aF = some u→u<v:=by
  intro v h1 u k;simp[ab.aF]at h1 k;omega
 have hle:=Env.jE (o':=.vec ks.length (ad+1) ((rows.take n).map (aK ks))) (l:=l) (w':=E.w) t d.heap.len (aH _) (fun _ _ _=>rfl) V (.inr O) N (fun _ h=>by simp[ab.aF]at h);have R:=aq.k0 (o':=.vec ks.length (ad+1) ((rows.take n).map (aK ks))) (l:=l) (w':=E.w) d.heap t (aH _) (fun _ _ _=>rfl) (fun b n hb=>.inr ⟨n,by rw[z,hb]⟩) (.inr O) N (fun _ h=>by simp[ab.aF]at h) (by
  rw[M]at hle⊢;simp only[aR]at ho⊢;rcases ho with⟨h1,k⟩|⟨b,mm,h1,k,B,h4,U⟩
  ·left
   refine⟨h1,?_⟩;have:rows=[]:=by simpa using k
   rw[this];simp
  ·right
   refine⟨b,mm,h1,k,by simp at B⊢; omega,?_,?_⟩
   ·intro r q
    obtain⟨g,_,rfl⟩:=di.1 q;exact fW ks g
   ·rw [lH] at U ⊢
    intro i r hi;simp only[bR,nA]at hi;split at hi
    ·obtain ⟨g1, g2⟩ := U i r (by simpa using hi)
     exact⟨g1,xX (fun a c q=>bK hle a q) rfl g2⟩
    ·simp at hi)
 rw[M]at hle R;refine⟨E.loc,E.X,?_,?_⟩
 ·simp only [al.den]
  rw[I];refine⟨rfl,?_,d.defers,R⟩;refine y6 (dN hle _ d.fr) fun c y=>?_;have q:=DR d.fr y;rw[show s.den.fr=s.fr from rfl,J]at q;simp only[rel]at q⊢;obtain⟨h1,k,B⟩:=q;exact⟨h1,⟨.vec ks.length (ad+1) ((rows.take n).map (aK ks)),bk (aL t),rfl,fun v W=>by simp[ab.aF]at W; omega⟩,fun _=>B ⟨_,t,rfl⟩⟩
 ·simp only [al.den]
  rw[I];exact hle.toM
theorem WX{m:Nat}{ks:List Kd}{s:al}:bq m s.den (al.den ⟨s.fr,s.H++[.vec ks 0 []]⟩):=fun E a d=>by
 have hH:E.H=ai s.H:=d.H;have hle:E.le (E.push E.w (.vec ks.length 0 []) none):=Env.jD d.heap.len (Ext.refl _) (fun b n h=>by cases h);have k:aR (E.push E.w (.vec ks.length 0 []) none) E.H.length (.vec ks.length 0 []):=by
  simp only[aR,Env.push];refine .inl ⟨?_,trivial⟩;rw[jv (by rw[d.heap.len]; exact aH _),d.heap.len,nK];rfl
 have q:aq (E.push E.w (.vec ks.length 0 []) none):=aq.push d.heap (Ext.refl _) (fun b n h=>by cases h) k;have g:(al.den ⟨s.fr,s.H++[.vec ks 0 []]⟩).H=E.H++[.vec ks.length 0 []]:=by
  rw[hH];simp[al.den,ai,ah.den]
 refine⟨E.loc++[none],E.X,?_,?_⟩
 ·rw [g]
  exact⟨g.symm,dN hle _ d.fr,d.defers,q⟩
 ·rw [g]
  exact hle.toM
theorem WY{m:Nat}{s:al}:bq m s.den (al.den ⟨s.fr,s.H++[.raw .dX]⟩):=fun E a d=>by
 have hH:E.H=ai s.H:=d.H;have hle:E.le (E.push E.w (.dX) none):=Env.jD d.heap.len (Ext.refl _) (fun b n h=>by cases h);have k:aR (E.push E.w (.dX) none) E.H.length (.dX):=by
  simp only[aR,Env.push];rw[jv (by rw[d.heap.len]; exact aH _),d.heap.len,nK];rfl
 have q:aq (E.push E.w (.dX) none):=aq.push d.heap (Ext.refl _) (fun b n h=>by cases h) k;have g:(al.den ⟨s.fr,s.H++[.raw .dX]⟩).H=E.H++[.dX]:=by
  rw[hH];simp[al.den,ai,ah.den]
 refine⟨E.loc++[none],E.X,?_,?_⟩
 ·rw [g]
  exact⟨g.symm,dN hle _ d.fr,d.defers,q⟩
 ·rw [g]
  exact hle.toM
theorem WZ{m:Nat}{slot l:Nat}{s:al}(h:(zm slot l s).1=true):bq m s.den (zm slot l s).2.den:=by
 unfold zm at h⊢;split
 case h_2=>exact bq.refl _
 rename_i id t;split
 case h_2=>exact bq.refl _
 rename_i K ks cl hid;simp only[t,hid]at h;intro E a d;have hH:E.H=ai s.H:=d.H;have q:E.H[id]? = some (.map [] cl):=by rw[hH]; exact bf hid
 obtain⟨h1,k⟩:=T7 (w:=ks.length) d.heap q (by rw[hH]; exact h);have g:ai (s.H.set id (.aY l K ks [] cl))=E.H.set id (.aY l ks.length [] cl):=by rw[dj,hH]; rfl
 refine⟨E.loc,E.X,?_,?_⟩
 ·simp only [al.den]
  rw[g];exact⟨rfl,dN k _ d.fr,d.defers,h1⟩
 ·simp only [al.den]
  rw[g];exact k.toM
theorem W0{m:Nat}{slot l:Nat}{KI VI:Ct}{s:al}(h:(zp slot l KI VI s).1=true):bq m s.den (zp slot l KI VI s).2.den:=by
 unfold zp at h⊢;split
 case h_2=>exact bq.refl _
 rename_i id t;split
 case h_2=>exact bq.refl _
 rename_i K V cl hid;simp only[t,hid]at h;intro E a d;have hH:E.H=ai s.H:=d.H;have q:E.H[id]? = some (.map [] cl):=by rw[hH]; exact bf hid
 obtain⟨h1,k⟩:=J7 d.heap q (by rw[hH]; exact h);have g:ai (s.H.set id (.mm l K KI VI [] [] cl))=E.H.set id (.mm l [] [] cl):=by rw[dj,hH]; rfl
 refine⟨E.loc,E.X,?_,?_⟩
 ·simp only [al.den]
  rw[g];exact⟨rfl,dN k _ d.fr,d.defers,h1⟩
 ·simp only [al.den]
  rw[g];exact k.toM
theorem W1{m:Nat}{slot c l:Nat}{KI VI:Ct}{s:al}(h:(zq slot c l KI VI s).1=true):bq m s.den (zq slot c l KI VI s).2.den:=by
 unfold zq at h⊢;split
 case h_2=>exact bq.refl _
 rename_i a _ _ _ _ t;split
 case h_2=>exact bq.refl _
 rename_i cells u;split
 case h_2=>exact bq.refl _
 rename_i id v;split
 case h_2=>exact bq.refl _
 rename_i K V rows cl hid;simp only[t,u,v,hid,sk]at h;obtain⟨h,he⟩:=h;have he:rows=[]:=by cases rows with|nil=>rfl|cons _ _=>cases he
 subst he;intro E act d;have hH:E.H=ai s.H:=d.H;have q:E.H[id]? = some (.map [] cl):=by rw[hH]; exact bf hid
 obtain⟨h1,k⟩:=J7 d.heap q (by rw[hH]; exact h);have g:ai (s.H.set id (.mm l K KI VI [] [] cl))=E.H.set id (.mm l [] [] cl):=by rw[dj,hH]; rfl
 refine⟨E.loc,E.X,?_,?_⟩
 ·simp only [al.den]
  rw[g];exact⟨rfl,dN k _ d.fr,d.defers,h1⟩
 ·simp only [al.den]
  rw[g];exact k.toM
theorem aq.forget{E:Env}(H:aq E){id l0:Nat}{o:ab}(hid:E.H[id]? = some o)(hlab:o.label=some l0)(R:o.aF = some 0) :
  aq { w:=E.w,H:=E.H.set id (.vec 0 1 []),loc:=E.loc.set id none,X:=E.X.re (iq E.X.r l0) }∧E.le { w:=E.w,H:=E.H.set id (.vec 0 1 []),loc:=E.loc.set id none,X:=E.X.re (iq E.X.r l0) }:=by
 have z:=aL hid;have U:id<E.loc.length:=by rw[H.len]; exact z
 have B:∀(i:Nat) x,(E.H.set id (.vec 0 1 []))[i]? = some x→(i=id∧x=.vec 0 1 [])∨(i≠id∧E.H[i]? = some x):=fun i x hi=>by
  by_cases d:i=id
  ·subst d
   rw[bk z]at hi;cases hi;exact .inl ⟨rfl,rfl⟩
  ·rw [aV (Ne.symm d)] at hi
   exact .inr ⟨d,hi⟩
 have u:∀(i b m:Nat),(E.loc.set id none)[i]? = some (some (b,m))→i≠id∧E.loc[i]? = some (some (b,m)):=fun i b m hi=>by
  by_cases d:i=id
  ·subst d
   rw[bk U]at hi;cases hi
  ·rw [aV (Ne.symm d)] at hi
   exact⟨d,hi⟩
 have hle:E.le { w:=E.w,H:=E.H.set id (.vec 0 1 []),loc:=E.loc.set id none,X:=E.X.re (iq E.X.r l0) }:=by
  refine⟨fun i ad I=>?_,aH _,fun _ _ _=>rfl,fun b hb V=>?_,fun i ad I t=>?_,⟨rfl,rfl⟩,fun l h hh=>?_,.refl _,fun i l x h1 g J=>?_⟩
  rotate_right
  ·by_cases d : i = id
   ·subst d
    obtain⟨y,q,M⟩:=J;rw[show (E.H.set i (.vec 0 1 []))[i]? = some (.vec 0 1 []) from bk z]at q;cases q;cases M
   ·have N : l ≠ l0 := fun N => d (H.uniq i id x o l h1 hid (ab.kX g) (by rw [N]; exact hlab))
    exact⟨⟨[],by rw[dx]; exact if_neg N⟩,x,by simp only[]; rw[aV (Ne.symm d)]; exact h1,g⟩
  ·obtain ⟨x, h1, g⟩ := I
   by_cases d:i=id
   ·subst d
    rw[hid]at h1;cases h1;have:=g.2 0 R;exact⟨.vec 0 1 [],by simp only[]; rw[bk z],rfl,fun v J=>by cases J; omega⟩
   ·exact⟨x,by simp only[]; rw[aV (Ne.symm d)]; exact h1,g⟩
  ·rintro (⟨i, c, hi⟩ | ⟨l, h, m, hm⟩)
   ·exact V (.inl ⟨i,c,(u i b c hi).2⟩)
   ·exact V (.inr ⟨l,h,m,(iN hm).1⟩)
  ·obtain ⟨x, h1, g⟩ := t
   rcases B i x h1 with⟨rfl,rfl⟩|⟨d,q⟩
   ·cases g
    obtain⟨y,q,M⟩:=I;rw[hid]at q;cases q;have:=M.2 0 R;omega
   ·exact⟨⟨x,q,g⟩,aV (Ne.symm d)⟩
  ·refine ⟨?_, fun y O => (iN O).1⟩
   show h<(iq E.X.r l0 l).length
   rw[J4];exact hh
 refine⟨⟨by simp[H.len],fun i j b m n hi hj=>H.inj i j b m n (u _ _ _ hi).2 (u _ _ _ hj).2,fun i b m hi=>H.lt i b m (u _ _ _ hi).2,H.X,fun i x hi=>?_,H.fh.bD hle.toC,fun l h l' h' b m n h1 g=>H.eS _ _ _ _ _ _ _ (iN h1).1 (iN g).1,fun i b m l h n hi hk=>H.cN _ _ _ _ _ _ (u _ _ _ hi).2 (iN hk).1,fun l h b m hk=>H.cn _ _ _ _ (iN hk).1,fun i k x y l hi hk h1 g=>?_,fun l hn h y O=>?_⟩,hle⟩
 ·rcases B i x hi with ⟨rfl, rfl⟩ | ⟨d, q⟩
  ·simp only [aR]
   exact .inl ⟨bk U,trivial⟩
  ·refine j6 (fun a _ hr => bK hle a hr) (aV (Ne.symm d)) (fun _ _ _ => rfl) (fun l t => ?_) (H.obj i x q)
   have W:l≠l0:=fun e=>d (H.uniq i id x o l q hid t (by rw[hlab,e]));exact⟨if_neg W,fun _ _ _ _=>rfl⟩
 ·have key:∀ (i:Nat) x,(E.H.set id (.vec 0 1 []))[i]? = some x→x.label=some l→E.H[i]? = some x:=by
   intro i x hi t;rcases B i x hi with⟨rfl,rfl⟩|⟨d,q⟩
   ·cases t
   ·exact q
  exact H.uniq i k x y l (key i x hi h1) (key k y hk g) h1 g
 ·obtain ⟨g1, g2⟩ := iN O
  refine H.gk l (fun i x hi t=>?_) h y g1;by_cases e:i=id
  ·subst e
   rw[hid]at hi;cases hi;exact g2 (by rw[hlab]at t; cases t; rfl)
  ·exact hn i x (by show (E.H.set id (.vec 0 1 []))[i]? = _; rw[aV (Ne.symm e)]; exact hi) t
theorem aq.W2{E:Env}(H:aq E){id:Nat}{o:ab}(hid:E.H[id]? = some o)(hlab:o.label=none)(k:o.aF = some 0) :
  aq { w:=E.w,H:=E.H.set id (.vec 0 1 []),loc:=E.loc.set id none,X:=E.X }∧E.le { w:=E.w,H:=E.H.set id (.vec 0 1 []),loc:=E.loc.set id none,X:=E.X }:=by
 have z:=aL hid;have y:id<E.loc.length:=by rw[H.len]; exact z
 have d:∀ v,(ab.vec 0 1 []).aF = some v→∀ u,o.aF = some u→u<v:=fun v g u hu=>by
  rw[k]at hu;cases hu;cases g;exact Nat.zero_lt_one
 have q:∀ v u,(ab.vec 0 1 []).aF = some v→o.aF = some u→u≤v:=fun v u g hu=>Nat.le_of_lt (d v g u hu);have t:o.born=true→o.aF = none→(ab.vec 0 1 []).aF = none:=fun _ h=>by rw[k]at h; cases h
 refine⟨aq.k0 H hid (aH _) (fun _ _ _=>rfl) (fun _ _ h=>by cases h) (.inr d) q t ?_ (hlab:=hlab),Env.jE hid H.len (aH _) (fun _ _ _=>rfl) (fun _ _ h=>by cases h) (.inr d) q t (hmm:=.inl (ab.xS hlab))⟩;simp only[aR];exact .inl ⟨bk y,trivial⟩
theorem W3{m:Nat}{id:Nat}{s:al}:bq m s.den (D3 id s).2.den:=by
 have h:∀ o:ah,s.H[id]? = some o→o.den.label=none→o.den.aF = some 0→bq m s.den (al.den ⟨s.fr,s.H.set id (.vec [] 1 [])⟩):=fun o hid h1 k=>by
  intro E a d;have hH:E.H=ai s.H:=d.H;obtain⟨g1,g2⟩:=aq.W2 d.heap (by rw[hH]; exact bf hid) h1 k;have g:ai (s.H.set id (.vec [] 1 []))=E.H.set id (.vec 0 1 []):=by rw[dj,hH]; rfl
  refine⟨E.loc.set id none,E.X,?_,?_⟩
  ·simp only [al.den]
   rw[g];exact⟨rfl,dN g2 _ d.fr,d.defers,g1⟩
  ·simp only [al.den]
   rw[g];exact g2.toM
 unfold D3;split
 ·rename_i hid
  exact h _ hid rfl rfl
 ·rename_i hid
  exact h _ hid rfl rfl
 ·rename_i l K KI VI rows mem cl hid
  intro E a d;have hH:E.H=ai s.H:=d.H;obtain⟨g1,g2⟩:=aq.forget (l0:=l) d.heap (by rw[hH]; exact bf hid) rfl rfl;have g:ai (s.H.set id (.vec [] 1 []))=E.H.set id (.vec 0 1 []):=by rw[dj,hH]; rfl
  refine⟨E.loc.set id none,E.X.re (iq E.X.r l),?_,?_⟩
  ·simp only [al.den]
   rw[g];exact⟨rfl,dN g2 _ d.fr,d.defers,g1⟩
  ·simp only [al.den]
   rw[g];exact g2.toM
 ·exact bq.refl _
theorem W4{m:Nat}{slot:Nat}{s:al}(h:(zo slot s).1=true):bq m s.den (zo slot s).2.den:=by
 unfold zo at h⊢;split
 case h_2=>exact bq.refl _
 rename_i id B;split
 case h_2=>exact bq.refl _
 rename_i l K ks rows cl hid;simp only[B,hid]at h;intro E a d;have hH:E.H=ai s.H:=d.H;have u:E.H[id]? = some (.aY l ks.length (gu K ks rows) cl):=by rw[hH]; exact bf hid
 have ho:=d.heap.obj id _ u;simp only[aR]at ho;obtain⟨b,n,ms,g1,g2,g3,hh,k1,N⟩:=ho;obtain⟨h1,y⟩:=aq.T3 (o':=.map (dH K (.one (.list ks)) rows) cl) d.heap u rfl rfl rfl fun hle=>by
  simp only[aR];refine⟨b,n,ms,g1,g2,?_⟩;rw[eE]at g3⊢;obtain⟨O,R⟩:=g3;refine⟨by simpa[dH,cC,gu]using O,fun i x e q he=>?_⟩;unfold dH at q;rw[bR]at q;obtain⟨r,k,rfl⟩:=dR.1 q;have z:=uT (K:=K) (ks:=ks) k;have I:(gi r 3).bool=true:=bO.1 h r (fa k);obtain⟨U,a2,a3,a4,a5⟩:=R i _ e (yo z) he;refine⟨bK hle _ U,?_,a3,a4,rfl⟩;have J:=N i _ ((lg r).map (aK ks)) e z (by simp only[jK,I,cond_true]) he;show rel _ (.listF ks (lg r)) e.val
  rw[jC];simp only[rel];have M:ff ((lg r).map (aK ks)):=by
   intro r k;obtain⟨g,_,rfl⟩:=di.1 k;exact fW ks g
  refine⟨M,?_⟩;rcases J with⟨s1,base,s2⟩|⟨V,mm,s1,s2,s3,W,s5,s6⟩
  ·rw [s1]
   exact⟨base,0,s2,aH _,.inl rfl⟩
  ·refine ⟨_, mm, s2, W, .inr ⟨V, 0, rfl, ⟨(d.heap.cn _ _ _ _ s1).1, ?_, (d.heap.cn _ _ _ _ s1).2⟩, kZ (fun a _ k => bK hle a k) rfl s6⟩⟩
   rintro(⟨j,c',t⟩|⟨l',k',c',t⟩)
   ·exact d.heap.cN _ _ _ _ _ _ t s1
   ·obtain ⟨j1, j2⟩ := iN t
    exact j2 (d.heap.eS _ _ _ _ _ _ _ j1 s1).1
 have v:ai (s.H.set id (.map K (.one (.list ks)) rows cl))=E.H.set id (.map (dH K (.one (.list ks)) rows) cl):=by rw[dj,hH]; rfl
 refine⟨E.loc,E.X.re (iq E.X.r l),?_,?_⟩
 ·simp only [al.den]
  rw[v];exact⟨rfl,dN y _ d.fr,d.defers,h1⟩
 ·simp only [al.den]
  rw[v];exact y.toM
theorem W5{m:Nat}(h:Hint)(s:al)(hb:(zt h s).1=true):bq m s.den (zt h s).2.den:=by
 cases h with
 |freeze i=>exact WS hb
 | Mr i ks =>
  simp only[zt];split
  ·rename_i h; exact LA h
  ·exact bq.refl _
 |D1 i c ks=>exact WT
 |Ms i=>exact WW hb
 |Mt i c=>exact WU hb
 |hole ks=>exact WX
 |sx=>exact WY
 |aY i l=>exact WZ hb
 |zg i=>exact W4 hb
 |mm i l KI VI=>exact W0 hb
 |sA i c l KI VI=>exact W1 hb
 |forget i=>exact W3
 |zh i c ks=>exact WV
theorem Mu{m:Nat}:∀(d:List Hint) (s:al),(vA d s).1=true→bq m s.den (vA d s).2.den
 | [],s,_=>bq.refl _
 | h::d,s,hb=>by
  simp only[vA]at hb⊢;simp only[ar]at hb;exact(W5 h s hb.1).trans (Mu d _ hb.2)
def Mv:List (Nat × List Hint)→Nat→List Hint
 | [],_=>[]
 | (i,d)::l,id=>match af id i with
  |true=>d
  |false=>Mv l id
def LT.ku(L:LT)(d:List (Nat × List Hint)):LT:=⟨L.loops,fun id s=>vA (Mv d id) s,L.ve⟩
theorem oI{P:Program}{m:Nat}{c:Code}(d:List (Nat × List Hint)):aJ P m (az.ku d) c:=⟨fun _ _ _ _ _ h=>(nomatch h),fun id s hb=>Mu _ s hb,fun _ _ _ _ _ h=>(nomatch h)⟩
end Go.AL

namespace Go.AL
open Go
variable [Dr]
end Go.AL

namespace Go.AL
open Go Go.ChangeMaps
variable [Dr]
theorem cV.ll{s:St}{E:Env}{a:Act}(d:cV s E a)(t:Tmp){v:AV}{u:Value}(g:rel E v u):cV (s.put (some t) v s.H) E (a.put (some t) u) :=
 ⟨d.H,Kh d.fr (Env.le.refl E) (some t) g,by rw[put_defers]; exact d.defers,d.heap⟩
theorem vB{m:Nat}{E E':Env}(h:E.eX m E'):E.bD E' :=
 ⟨fun b hb=>⟨⟨Nat.lt_of_lt_of_le hb.1 h.size,h.own b hb.1 hb.2.1,fun d=>hb.2.2 ((h.X b hb.1).1.1 d)⟩,h.same b hb.1 hb.2.1⟩⟩
theorem sB{P:Program}{ops:Array Oper}{Q:Exit→Act→World→Prop}{i:Nat}{o:Oper}{K:Act→World→Prop}{a:Act}{w w':World}{u:Value}
  (hi:ops[i]? = some o) (g:o.guard=none) (h:(execOp a.eval o).run P w=.ok (.value u) w') (d:∀ c,o.op≠.defer c) (ro:Option Nat) (k:K (a.put o.dst u) w'):wpOpIn (fz ro) 0 P ops Q i K a w:=by
 unfold wpOpIn;simp only[hi];rw[if_pos (by simp[Region.wanted,g])];unfold Oper.wpIn;rw[Oper.semAt_eq _ _ _ d,h];exact⟨fun _ _=>trivial,k⟩
theorem Mw{P:Program}{pf:FuncId→Bool}{ops:Array Oper}{Q:Exit→Act→World→Prop}(ro:Option Nat):∀(l:List Oper) (k:Nat) (s s':St) (E:Env) (a:Act) (rest:List Nat),
  (∀(j:Nat) (o:Oper),l[j]? = some o→ops[k+j]? = some o)→jh P pf ops l s s'→cV s E a→(∀ d w',eW E s' d w'→wpOpsIn (fz ro) 0 P ops Q rest d w')→wpOpsIn (fz ro) 0 P ops Q (SB k l.length++rest) a E.w
 | [],k,s,s',E,a,rest,_,h,g,q=>by
  simp only[jh]at h;subst h;exact q _ _ (eW.refl g)
 | o::l,k,s,s',E,a,rest,t,h,g,q=>by
  obtain⟨v,H',B,u⟩:=h;simp only[cw,SC,kO];rw[wpOpsIn_cons];refine CU g (by simpa using t 0 o rfl) B (fun d w' I=>?_) ro;obtain⟨y,r',h1,J⟩:=I;refine Mw ro l (k+1) _ s' { w:=w',H:=H',loc:=y,X:=E.X.re r' } d rest (fun j x M=>?_) u h1 (fun a2 N z=>q a2 N (eW.after J z));have:=t (j+1) x (by simpa using M)
  rwa [show k+1+j=k+(j+1) from by omega]
theorem zu{a:Act}{t:Tmp}{u:Value}(h:t<a.tmps.size):(a.put (some t) u).eval (.tmp t)=u:=by
 simp[Act.eval,IS,h]
def Tree.oJ:Tree→Option (bW × al)
 |.fail=>none
 |.done x s=>some (x,s)
 | .ask b t e=>match b with
  |true=>t.oJ
  |false=>e.oJ
 | .side b t=>match b with
  |true=>t.oJ
  |false=>none
theorem zw:∀{t:Tree} {x:bW} {s:al},t.oJ=some (x,s)→t.holds fun d s'=>d=x∧s'=s
 |.fail,_,_,h=>by cases h
 | .done _ _,_,_,h=>by
  cases h;exact⟨rfl,rfl⟩
 | .ask b t e,_,_,h=>by
  cases b with
  |true=>exact⟨fun _=>zw (t:=t) h,fun h=>(nomatch h)⟩
  |false=>exact⟨fun h=>(nomatch h),fun _=>zw (t:=e) h⟩
 | .side b t,_,_,h=>by
  cases b with
  |true=>exact⟨rfl,zw (t:=t) h⟩
  |false=>cases h
def eZ(st:List G→List G→Option (List G))(cd:List G→Nat):List (List G)→List G→Option (List G)
 | [],d=>some d
 | r::rs,d=>match st r d with
  |some d'=>bif af (cd d') (cd d) then eZ st cd rs d' else none
  |none=>none
theorem D5{st:List G→List G→Option (List G)}{cd:List G→Nat}:∀(p q:List (List G)) (d:List G),eZ st cd (p++q) d=(eZ st cd p d).bind (eZ st cd q)
 | [],_,_=>rfl
 | r::p,q,d=>by
  simp only[kO,eZ];cases st r d with
  |none=>rfl
  | some d' =>
   simp only[];cases af (cd d') (cd d)with
   |false=>rfl
   |true=>exact D5 p q d'
def fk(r:List G):Nat:=(gi r 2).int.toNat
theorem Mx{f:List G→Nat}{r:List G}:∀{l:List (List G)} {seen:Array Nat},(l.map f).Nodup→r∈l→seen.contains (f r)=false →
  (l.filter fun x => !seen.contains (f x)).Perm (r::l.filter fun x => !(seen.push (f r)).contains (f x))
 | [],_,_,h,_=>by cases h
 | x::l,seen,d,hm,g=>by
  obtain⟨k,d⟩:=nL.1 d;rcases bS.1 hm with rfl|hm
  ·have e:(l.filter fun x => !(seen.push (f r)).contains (f x))=l.filter fun x => !seen.contains (f x):=by
    apply List.filter_congr;intro y u;have:(f y==f r)=false:=by
     rw[beq_eq_false_iff_ne];intro e;exact k (e▸di.2 ⟨y,u,rfl⟩)
    rw[contains_push,this,I0]
   rw[List.filter_cons_of_pos (by rw[g]; rfl),List.filter_cons_of_neg (by rw[contains_push]; simp),e]
  ·have t:(f x==f r)=false:=by
    rw[beq_eq_false_iff_ne];intro e;exact k (e▸di.2 ⟨r,hm,rfl⟩)
   have q:=Mx d hm g;simp only[List.filter_cons,contains_push seen (f r) (f x),t,I0];cases seen.contains (f x)with
   |true=>simpa using q
   | false =>
    simp only[Bool.not_false,if_true];exact(List.Perm.cons x q).trans (List.Perm.swap r x _)
structure iR where
 inv:m_
 ps:List jS
 opens:List (Nat × List Kd)
 K:Ct
 V:Ct
 id:Nat
 x:Tmp
 y:Tmp
 it:Tmp
 t1:Tmp
 t2:Tmp
 t3:Tmp
 cd:List G→Nat
 init:List G→Nat→List G
 side:List G→Nat→Bool
 st:List G→List G→Option (List G)
def iR.rs(sp:iR)(r d:List G):al:=⟨(bC sp.inv d).fr.set sp.t3 (.tuple [sp.K.av (gi r 0).row,sp.V.av (gi r 1).row]),(bC sp.inv d).H⟩
def iR.s2(sp:iR)(s:al)(b:Nat):al:=⟨s.fr.set sp.it (.lit (.pointer (some ⟨b,0,none⟩))),s.H.set sp.id (.raw .dead)⟩
def zx(m:Nat)(inv:m_)(ps:List jS)(x:bW)(s:al):Option (Bool × List G) :=
 match x with
 |.normal=>kr m inv ps s
 |_=>none
structure vC (P:Program) (sp:iR) (cU ef dh:Array Oper):Prop where
 r0:∃ o2 ty,cU.toList=cU.toList.dropLast++[o2]∧o2.guard=none∧o2.op=.range ty (.tmp sp.y)∧o2.dst=some sp.it∧(cZ P ty).isSome=true
 r1:∃ o1 o2,ef.toList=[o1,o2]∧o1.guard=none∧o1.op=.next (.tmp sp.it) false∧o1.dst=some sp.t1∧o2.guard=none∧o2.op=.extract (.tmp sp.t1) 0∧o2.dst=some sp.t2
 r2:∃ o1 l,dh.toList=o1::l∧o1.guard=none∧o1.op=.entry (.tmp sp.it)∧o1.dst=some sp.t3
def oK(r0 b0 r1 b1 r2:Nat)(cU ef dh:Array Oper)(t2:Tmp)(body:Code):Code :=
 .seq (.region r0 cU false) (.block b0 (.loop (.seq (.region r1 ef false) (.seq (.cond (.tmp t2) .skip (.exit b0)) (.block b1 (.seq (.region r2 dh false) body))))))
theorem W6{ro:Option Nat}{r0 b0 r1 b1 r2:Nat}{cU ef dh:Array Oper}{t2:Tmp}{body:Code}(h:fu ro (oK r0 b0 r1 b1 r2 cU ef dh t2 body)):fu ro body:=h.imp id fun h=>by
 simpa[oK,g_]using h
section range
variable {P:Program} {τ:au} {L:LT} {m:Nat} {sp:iR} {cU ef dh:Array Oper} {body:Code}
def qc(P:Program)(τ:au)(L:LT)(m:Nat)(sp:iR)(dh:Array Oper)(body:Code):Prop :=
 ∀ r d,(oh P τ dh (dh.toList.drop 1) (sp.rs r d) (fun s=>fL P τ L body s .done)).leaf (zx m sp.inv sp.ps)=sp.st r d
theorem W7(hm:P.follows .mixedOrders=true)(q:aw P τ)(t:aJ P m L body)(u:qc P τ L m sp dh body){r d d':List G}(h:sp.st r d=some d') :
  ∃ k:al,jh P τ.pf dh (dh.toList.drop 1) (sp.rs r d).den k.den∧dA P m body k.den .normal (bC sp.inv d').den:=by
 rw[←u r d]at h;obtain⟨k,h1,v⟩:=yR q (Q:=fun x s=>zx m sp.inv sp.ps x s=some (true,d')) (oA h);obtain⟨x,y,z,g⟩:=lk hm q body k .done t v;have g:zx m sp.inv sp.ps x y=some (true,d'):=g;unfold zx at g;split at g
 ·exact⟨k,h1,rL z (nc g)⟩
 ·cases g
def My(m:Nat)(sp:iR)(E:Env)(rows:List (List G))(d0:List G)(itb mb clock:Nat)(ms:Array MapEntry)(a:Act)(w:World):Prop :=
 ∃(d:List G) (loc:List (Option (Nat × Nat))) (X:XS) (seen:Array Nat) (last:Nat) (p:List (List G)),
  eZ sp.st sp.cd p d0=some d∧sp.cd d=itb∧(p++rows.filter fun x => !seen.contains (fk x)).Perm rows ∧
  cV (bC sp.inv d).den { w:=w,H:=(bC sp.inv d).den.H,loc:=loc,X:=X } a∧E.eX m { w:=w,H:=(bC sp.inv d).den.H,loc:=loc,X:=X }∧X itb ∧
  w.heap[itb]? = some (.mapIter (some mb) clock seen last)∧clock≤last∧w.heap[mb]? = some (.map ms clock) ∧
  ¬ Env.own { w:=w,H:=(bC sp.inv d).den.H,loc:=loc,X:=X } mb∧bo { w:=w,H:=(bC sp.inv d).den.H,loc:=loc,X:=X } (dH sp.K sp.V rows) ms.toList
theorem cV.zy{s:St}{E:Env}{a:Act}(d:cV s E a){t:Tmp}(hu:s.fr[t]? = some .undef)(u:Value):cV s E (a.put (some t) u):=by
 have h:=d.ll t (v:=.undef) (u:=u) (by simp[rel]);have e:s.put (some t) .undef s.H=s:=by
  simp only[St.put,jJ,lO hu]
 rwa [e]at h
theorem Mz{s:St}{E:Env}{a:Act}(g:cV s E a){t:Tmp}{v:AV}(hu:s.fr[t]? = some v):t<a.tmps.size:=by
 have h1:s.fr.length=a.tmps.size:=by simpa using(mC.1 g.fr).1
 have d:t<s.fr.length:=aL hu;rw[h1]at d;exact d
theorem MA{o:Oper}{t:Tmp}{a:Act}{w:World}{cs:Array Value}{u:Value}(d:o.op=.extract (.tmp t) 0)(g:a.eval (.tmp t)=.tuple cs)(h:cs[0]? = some u) :
  (execOp a.eval o).run P w=.ok (.value u) w:=by
 obtain⟨dst,op,type,pos,after,guard⟩:=o;subst d;exact ke (by simp[Instr.extract,g,h])
theorem MB{o:Oper}{t:Tmp}{a:Act}{w w':World}{x u:Value}(d:o.op=.next (.tmp t) false)(g:a.eval (.tmp t)=x)(h:(Instr.next x false o.type).run P w=.ok u w') :
  (execOp a.eval o).run P w=.ok (.value u) w':=by
 obtain⟨dst,op,type,pos,after,guard⟩:=o;subst d;subst g;exact ke h
theorem W8{o:Oper}{t:Tmp}{a:Act}{w w':World}{x u:Value}(d:o.op=.entry (.tmp t))(g:a.eval (.tmp t)=x)(h:(Instr.entry x).run P w=.ok u w') :
  (execOp a.eval o).run P w=.ok (.value u) w':=by
 obtain⟨dst,op,type,pos,after,guard⟩:=o;subst d;subst g;exact ke h
theorem W9{o:Oper}{t:Tmp}{ty:TypeId}{a:Act}{w w':World}{x u:Value}(d:o.op=.range ty (.tmp t))(g:a.eval (.tmp t)=x)(h:(Instr.range ty x).run P w=.ok u w') :
  (execOp a.eval o).run P w=.ok (.value u) w':=by
 obtain⟨dst,op,type,pos,after,guard⟩:=o;subst d;subst g;exact ke h
theorem D6{w:World}{b:Nat}{o:Obj}(h:w.heap[b]? = some o):b<w.heap.size:=(Array.getElem?_eq_some_iff.1 h).1
theorem MC{w:World}{r:Nat}{a:Option Nat}{b c:Nat}{s:Array Nat}(h:w.heap[r]? = some (.mapIter a b s c)):w.iterSeen r=s:=by
 unfold World.iterSeen;rw[h]
theorem W_(hm:P.follows .mixedOrders=true)(ht:aw P τ)(hL:aJ P m L body)(hr:qc P τ L m sp dh body)(ho:vC P sp cU ef dh)
  (hu1:∀ d,(bC sp.inv d).fr[sp.t1]? = some .undef) (hu2:∀ d,(bC sp.inv d).fr[sp.t2]? = some .undef) (hut:∀ d,(bC sp.inv d).fr[sp.it]? = some (.lit (.pointer (some ⟨sp.cd d,0,none⟩))))
  {E:Env} {rows:List (List G)} {d0:List G} {itb mb clock:Nat} {ms:Array MapEntry} {r1 b0 b1 r2:Nat}
  (hsz:E.w.heap.size≤itb) (hn:(rows.map fk).Nodup) (hlt:∀ r∈rows,fk r<clock) (hne:mb≠itb)
  (hfold:∀ p,p.Perm rows→(eZ sp.st sp.cd p d0).isSome=true) {a:Act} {w:World} (hI:My m sp E rows d0 itb mb clock ms a w) (ro:Option Nat) (hro:fu ro body) :
  (Code.loop (.seq (.region r1 ef false) (.seq (.cond (.tmp sp.t2) .skip (.exit b0)) (.block b1 (.seq (.region r2 dh false) body))))).wpIn (fz ro) 0 P
   (fun e a1 B=>e=.exit b0∧∃ p d,p.Perm rows∧eZ sp.st sp.cd p d0=some d∧eF m E (bC sp.inv d).den a1 B) a w:=by
 obtain⟨o1,o2,e1,g1,p1,q1,g2,O,q2⟩:=ho.r1;obtain⟨o3,l,e3,g3,p3,q3⟩:=ho.r2;refine wpIn_loop (My m sp E rows d0 itb mb clock ms) (fun _ w=>(leftOf ms (w.iterSeen itb)).size) hI fun a w hI=>?_;obtain⟨d,loc,X,seen,last,p,hf,had,hp,q,hle,hXi,hit,hcl,hmb,hown,hre⟩:=hI;have h10:ef[0]? = some o1:=by
  have:ef.toList[0]? = some o1:=by rw[e1]; rfl
  simpa using this
 have h11:ef[1]? = some o2:=by
  have:ef.toList[1]? = some o2:=by rw[e1]; rfl
  simpa using this
 have hsz1:ef.size=2:=by
  have:ef.toList.length=2:=by rw[e1]; rfl
  simpa using this
 have hiv:a.eval (.tmp sp.it)=.pointer (some ⟨itb,0,none⟩):=by
  have h:=q.eval (.tmp sp.it);have e:(bC sp.inv d).den.eval (.tmp sp.it)=.lit (.pointer (some ⟨sp.cd d,0,none⟩)):=by
   show (bC sp.inv d).fr.getD sp.it .undef=_
   rw[b_,hut d];rfl
  rw[e]at h;simp only[rel]at h;rw[h,had]
 obtain⟨hlen,hen⟩:=eE.1 hre;have hl1:(dH sp.K sp.V rows).length=rows.length:=by simp[dH]
 have I:∀(i:Nat) (e:MapEntry),ms.toList[i]? = some e→∃ r,rows[i]? = some r∧e.born=fk r:=by
  intro i e hi;have h1:=aL hi;have k:i<rows.length:=by omega
  refine⟨rows[i],bd k,?_⟩;exact(hen i (sp.K.av (gi rows[i] 0).row,sp.V.av (gi rows[i] 1).row,(gi rows[i] 2).int.toNat) e (by simp[dH,k]) hi).2.2.1
 have hold:∀ x∈ms.toList,x.born<clock:=by
  intro x t;obtain⟨i,hi⟩:=tV t;obtain⟨r,h1,k⟩:=I i x hi;rw[k];exact hlt r (fa h1)
 have hbn:(ms.toList.map (·.born)).Nodup:=by
  have:ms.toList.map (·.born)=rows.map fk:=by
   apply List.ext_getElem?;intro i;simp only[bR];cases hi:ms.toList[i]? with
   | none =>
    have h1:=List.getElem?_eq_none_iff.1 hi;rw[List.getElem?_eq_none (by omega)];rfl
   | some e =>
    obtain⟨r,h1,k⟩:=I i e hi;rw[h1];simp[k]
  rw[this];exact hn
 refine wpIn_seq (wpIn_region ?_);rw[hsz1];show wpOpsIn (fz ro) 0 P ef _ [0,1] a w
 rw[wpOpsIn_cons];have hlt1:=Mz q (hu1 d);have hlt2:=Mz q (hu2 d);rcases run_next_at (P:=P) w o1.type itb mb clock last seen ms clock hit hmb hold hcl with⟨h0,W⟩|⟨e,he,B,hw1,W⟩
 ·refine sB h10 g1 (MB p1 hiv W) (fun c e => by rw [p1] at e; cases e) ro ?_
  rw[q1,wpOpsIn_cons];refine sB h11 g2 (MA O (zu hlt1) rfl) (fun c e=>by rw[O]at e; cases e) ro ?_;rw[q2];show (Code.seq _ _).wpIn (fz ro) 0 P _ _ w
  refine wpIn_seq (wpIn_cond_false (zu (by simpa[IS]using hlt2)) (wpIn_exit ?_));refine⟨rfl,p,d,?_,hf,loc,X,?_,hle⟩
  ·have:(rows.filter fun x => !seen.contains (fk x))=[]:=by
    rw[List.filter_eq_nil_iff];intro x t hc;obtain⟨i,hi⟩:=tV t;have h1:=aL hi;have k:i<ms.toList.length:=by omega
    obtain⟨r,R,h4⟩:=I i _ (bd k);rw[hi]at R;cases R;have:ms.toList[i]∈(leftOf ms seen).toList:=by
     unfold leftOf;rw[Array.toList_filter];refine BV.2 ⟨iJ k,?_⟩;rw[h4];exact hc
    have h5:(leftOf ms seen).toList.length=0:=by simpa using h0
    rw[List.length_eq_zero_iff.1 h5]at this;cases this
   rwa [this,dx]at hp
  ·exact(q.zy (hu1 d) (.tuple #[.bool false])).zy (hu2 d) (.bool false)
 ·refine sB h10 g1 (MB p1 hiv W) (fun c e => by rw [p1] at e; cases e) ro ?_
  rw[q1,wpOpsIn_cons];refine sB h11 g2 (MA O (zu hlt1) rfl) (fun c e=>by rw[O]at e; cases e) ro ?_;rw[q2];show (Code.seq _ _).wpIn (fz ro) 0 P _ _ _
  refine wpIn_seq (wpIn_cond_true (zu (by simpa[IS]using hlt2)) (wpIn_skip ?_));show (Code.block _ _).wpIn (fz ro) 0 P _ _ _
  refine wpIn_block (wpIn_seq (wpIn_region ?_));generalize N:setBlock B itb (.mapIter (some mb) clock (seen.push e.born) clock)=g;have M:B.heap=w.heap:=by rcases hw1 with rfl|rfl<;>rfl
  have hos:dC w g:=by rw[←N]; rcases hw1 with rfl|rfl<;>exact⟨rfl,rfl,rfl,by first|exact fun _=>aH _|exact fun _=>fT _ _⟩
  have U:g.heap[itb]? = some (.mapIter (some mb) clock (seen.push e.born) clock):=by
   rw[←N];exact(ahW (by rw[M]; exact hit)).1
  have J:∀ b,b≠itb→g.heap[b]? = w.heap[b]? := by
   intro b hb;rw[←N];show (B.heap.setIfInBounds itb _)[b]? = _
   rw[(ahW (by rw[M]; exact hit)).2 b hb,M]
  have hsize:g.heap.size=w.heap.size:=by
   rw[←N];show (B.heap.setIfInBounds itb _).size=_
   simp[M]
  have hmb2:g.heap[mb]? = some (.map ms clock):=by rw[J mb hne]; exact hmb
  have gI:kg { w:=w,H:=(bC sp.inv d).den.H,loc:=loc,X:=X } { w:=g,H:=(bC sp.inv d).den.H,loc:=loc,X:=X } :=
   ⟨rfl,rfl,by show w.heap.size≤g.heap.size; omega,fun b hb t=>⟨t,J b (fun e=>t (by rw[e]; exact hXi))⟩,fun b hb=>by show b<g.heap.size; rw[hsize]; exact q.heap.X b hb,rfl⟩
  have hmk:lI g X a.defers:=⟨q.defers.1,fun dd hdd=>by
   obtain⟨D,e,h1,k,R⟩:=q.defers.2 dd hdd;exact⟨D,e,by rw[J D (fun e=>by rw[e]at h1; rw[hit]at h1; cases h1)]; exact h1,k,R⟩⟩
  have hs1:=((q.gI gI hmk).zy (hu1 d) (.tuple #[.bool true,e.key,e.val])).zy (hu2 d) (.bool true);obtain⟨hem,hes⟩:=mem_left he;obtain⟨i,hi⟩:=tV hem;obtain⟨r,hri,hrb⟩:=I i e hi;have hrm:=fa hri;have hre2:=jm gI.toC hre;obtain⟨k1,k2,_⟩:=(eE.1 hre2).2 i (sp.K.av (gi r 0).row,sp.V.av (gi r 1).row,(gi r 2).int.toNat) e (by simp[dH,hri]) hi;have hiv1:((a.put (some sp.t1) (.tuple #[.bool true,e.key,e.val])).put (some sp.t2) (.bool true)).eval (.tmp sp.it)=.pointer (some ⟨itb,0,none⟩):=by
   have h:=hs1.eval (.tmp sp.it);have e:(bC sp.inv d).den.eval (.tmp sp.it)=.lit (.pointer (some ⟨sp.cd d,0,none⟩)):=by
    show (bC sp.inv d).fr.getD sp.it .undef=_
    rw[b_,hut d];rfl
   rw[e]at h;simp only[rel]at h;rw[h,had]
  have h20:dh[0]? = some o3:=by
   have:dh.toList[0]? = some o3:=by rw[e3]; rfl
   simpa using this
  have hl2:dh.toList.drop 1=l:=by rw[e3]; rfl
  have hsz2:dh.size=l.length+1:=by
   have:dh.toList.length=l.length+1:=by rw[e3]; rfl
   simpa using this
  have hlp:(p++(r::rows.filter fun x => !(seen.push (fk r)).contains (fk x))).Perm rows :=
   (List.Perm.append_left p (Mx hn hrm (by rw[←hrb]; exact hes)).symm).trans hp
  have y:∃ d',sp.st r d=some d'∧sp.cd d'=sp.cd d:=by
   have h:=hfold _ hlp;rw[D5,hf]at h;simp only[I1,eZ]at h;cases y:sp.st r d with
   |none=>rw[y]at h; cases h
   | some d' =>
    rw[y]at h;simp only[]at h;cases hb:af (sp.cd d') (sp.cd d)with
    |true=>exact⟨d',rfl,br hb⟩
    |false=>rw[hb]at h; cases h
  obtain⟨d',y,had'⟩:=y;have hf':eZ sp.st sp.cd (p++[r]) d0=some d':=by
   rw[D5,hf];simp only[I1,eZ,y,had'];simp
  obtain⟨s4,ha4,hsat⟩:=W7 hm ht hL hr y;rw[hsz2,SD,SC,wpOpsIn_cons];refine sB h20 g3 (W8 p3 hiv1 (run_entry_at (P:=P) g itb mb clock seen ms clock e U hmb2 hem hbn)) (fun c e=>by rw[p3]at e; cases e) ro ?_;rw[q3];have hs3:=hs1.ll sp.t3 (v:=.tuple [sp.K.av (gi r 0).row,sp.V.av (gi r 1).row]) (u:=.tuple #[e.key,e.val]) (by simp only[rel]; exact⟨_,rfl,by simp only[ae]; exact⟨k1,k2,trivial⟩⟩);refine CV (pf:=τ.pf) (ops:=dh) l (0+1) (sp.rs r d).den s4.den { w:=g,H:=(bC sp.inv d).den.H,loc:=loc,X:=X } _ (by rw[←hl2]) (by rw[hl2]at ha4; exact ha4) hs3 (fun a3 w3 hc3=>?_) ro;obtain⟨loc3,r3,hs4,hle3⟩:=hc3;show body.wpIn (fz ro) 0 P _ a3 w3
  refine wpIn_mono (hsat ro hro { w:=w3,H:=s4.den.H,loc:=loc3,X:=X.re r3 } a3 hs4) fun x a4 w4 t=>?_;obtain⟨rfl,loc4,X4,hs5,hle4⟩:=t;have z:({ w:=g,H:=(bC sp.inv d).den.H,loc:=loc,X:=X }:Env).eX m { w:=w4,H:=(bC sp.inv d').den.H,loc:=loc4,X:=X4 }:=hle3.toM.trans hle4;have hXsz:itb<g.heap.size:=D6 U;have hnown:¬ Env.own { w:=g,H:=(bC sp.inv d).den.H,loc:=loc,X:=X } itb:=by
   exact(q.heap.gI gI).B7 hXi
  have hmbsz:mb<g.heap.size:=D6 hmb2;have hit4:w4.heap[itb]? = some (.mapIter (some mb) clock (seen.push e.born) clock):=by rw[z.same itb hXsz hnown]; exact U
  refine⟨⟨d',loc4,X4,seen.push e.born,clock,p++[r],hf',by rw[had',had],?_,hs5,?_,(z.X itb hXsz).1.2 hXi,hit4,aH _,?_,?_,?_⟩,?_⟩
  ·rw [hrb, gV]
   exact hlp
  ·refine Env.eX.trans (E' := { w := g, H := (bC sp.inv d).den.H, loc := loc, X := X }) ⟨hle.past, ?_, ?_, hle.own, hle.live, hle.X, hle.rl, hle.env.trans hos, hle.grow⟩ z
   ·have := hle.size
    show E.w.heap.size≤g.heap.size
    rw[hsize];exact this
   ·intro b hb hbo
    show g.heap[b]? = _
    rw[J b (by omega)];exact hle.same b hb hbo
  ·rw [z.same mb hmbsz hown]
   exact hmb2
  ·exact z.own mb hmbsz hown
  ·exact jm (vB z) hre2
  ·show (leftOf ms (w4.iterSeen itb)).size < (leftOf ms (w.iterSeen itb)).size
   rw[MC hit4,MC hit];exact left_shrinks ms seen e he
theorem Xa(hm:P.follows .mixedOrders=true)(ht:aw P τ)(hL:aJ P m L body)(hr:qc P τ L m sp dh body)(ho:vC P sp cU ef dh)
  (hu1:∀ d,(bC sp.inv d).fr[sp.t1]? = some .undef) (hu2:∀ d,(bC sp.inv d).fr[sp.t2]? = some .undef) (hut:∀ d,(bC sp.inv d).fr[sp.it]? = some (.lit (.pointer (some ⟨sp.cd d,0,none⟩))))
  {r1 b0 b1 r2:Nat}
  {s:al} {d:List G} {rows:List (List G)} {clock:Nat} (O:s.eval (.tmp sp.y)=.map sp.id) (hid:s.H[sp.id]? = some (.map sp.K sp.V rows clock)) (hn:(rows.map fk).Nodup)
  (hlt:∀ r∈rows,fk r<clock) (hin:∀ b,kr m sp.inv sp.ps (jq sp.opens (sp.s2 s b))=some (true,sp.init d b)) (hadr:∀ b,sp.cd (sp.init d b)=b)
  (hfold:∀ b p,p.Perm rows→(eZ sp.st sp.cd p (sp.init d b)).isSome=true) (E:Env) (a:Act) (q:cV s.den E a) (ro:Option Nat) (hro:fu ro body) {Q:Exit→Act→World→Prop}
  (hQ:∀ R U,(∃ b p d',p.Perm rows∧eZ sp.st sp.cd p (sp.init d b)=some d'∧eF m E (bC sp.inv d').den R U)→Q .normal R U) :
  wpOpsIn (fz ro) 0 P cU (Exit.then ((Code.block b0 (.loop (.seq (.region r1 ef false) (.seq (.cond (.tmp sp.t2) .skip (.exit b0)) (.block b1 (.seq (.region r2 dh false) body)))))).wpIn (fz ro) 0 P Q) Q) [cU.toList.dropLast.length] a E.w:=by
 obtain⟨o2,ty,e1,g2,p2,q2,J⟩:=ho.r0;have h11:cU[cU.toList.dropLast.length]? = some o2:=by
  have:cU.toList[cU.toList.dropLast.length]? = some o2:=by
   rw[e1];simp
  simpa using this
 have hid':E.H[sp.id]? = some (.map (dH sp.K sp.V rows) clock):=by
  rw[q.H];exact bf hid
 have hrx:rel E (.map sp.id) (a.eval (.tmp sp.y)):=by
  have:=q.eval (.tmp sp.y)
  rwa [al.lR,O]at this
 obtain⟨mb,n,ms,hc,hloc,M,hre⟩:=rD q.heap hid' hrx;obtain⟨⟨kt,et⟩,J⟩:=Option.isSome_iff_exists.1 J;have hmbs:mb<E.w.heap.size:=D6 M;rw[wpOpsIn_cons];refine sB h11 g2 (W9 p2 hc (run_range_map E.w ty kt et mb ms clock (fJ J) M)) (fun c e=>by rw[p2]at e; cases e) ro ?_;rw[q2];show (Code.block _ _).wpIn (fz ro) 0 P _ _ _
 generalize I:E.w.alloc (.mapIter (some mb) clock #[] clock)=g;have hsize:g.heap.size=E.w.heap.size+1:=by rw[←I]; show (E.w.heap.push _).size=_; simp
 have hold:∀ b,b<E.w.heap.size→g.heap[b]? = E.w.heap[b]? := fun b hb=>by rw[←I]; exact(show (E.w.heap.push _)[b]? = _ by rw[Array.getElem?_push,if_neg (by omega)])
 have hitn:g.heap[E.w.heap.size]? = some (.mapIter (some mb) clock #[] clock):=by rw[←I]; exact(show (E.w.heap.push _)[E.w.heap.size]? = _ by simp)
 have hos:dC E.w g:=by rw[←I]; exact⟨rfl,rfl,rfl,by first|exact fun _=>aH _|exact fun _=>fT _ _⟩
 have W:=Env.uj q.heap sp.id;have N:cV ⟨s.fr,ai (s.H.set sp.id (.raw .dead))⟩ { w:=E.w,H:=E.H.set sp.id .dead,loc:=E.loc.set sp.id none,X:=E.X } a:=by
  refine⟨?_,dN W _ q.fr,q.defers,aq.drop q.heap sp.id fun o ho=>by rw[hid']at ho; cases ho; rfl⟩;rw[dj,show E.H=ai s.H from q.H];rfl
 have gI:kg { w:=E.w,H:=E.H.set sp.id .dead,loc:=E.loc.set sp.id none,X:=E.X } { w:=g,H:=E.H.set sp.id .dead,loc:=E.loc.set sp.id none,X:=E.X.or fun b=>b=E.w.heap.size } :=
  ⟨rfl, rfl, by show E.w.heap.size ≤ g.heap.size; omega, fun b hb O => ⟨fun h => h.elim O (fun e => absurd hb (by rw [e]; exact ub _)), hold b hb⟩, fun b hb => by
   show b<g.heap.size
   rcases hb with hb|hb
   ·have := q.heap.X b hb
    omega
   ·omega,rfl⟩
 have hs3:=(N.gI gI (Jf (X':=E.X.or fun b=>b=E.w.heap.size) (w':=g) N.defers (fun _ h1 B=>⟨.inl h1,B⟩) fun b h1 _=>hold b (q.heap.X b h1))).ll sp.it (v:=.lit (.pointer (some ⟨E.w.heap.size,0,none⟩))) (u:=.pointer (some ⟨E.w.heap.size,0,none⟩)) (by simp only[rel]);have hs3':cV (sp.s2 s E.w.heap.size).den { w:=g,H:=E.H.set sp.id .dead,loc:=E.loc.set sp.id none,X:=E.X.or fun b=>b=E.w.heap.size } _:=hs3;obtain⟨loc,X4,hs4,z⟩:=((nf sp.opens _).trans (nc (hin E.w.heap.size))) _ _ hs3';have hmbn:¬ Env.own { w:=g,H:=E.H.set sp.id .dead,loc:=E.loc.set sp.id none,X:=E.X.or fun b=>b=E.w.heap.size } mb:=by
  rintro(⟨j,c,t⟩|⟨l,k,c,t⟩)
  case inr=>exact q.heap.cN _ _ _ _ _ _ hloc t
  simp only[dS]at t;split at t
  ·split at t
   ·cases t
   ·cases t
  ·rename_i hne
   exact hne (q.heap.inj _ _ _ _ _ hloc t)
 have hmb2:g.heap[mb]? = some (.map ms clock):=by rw[hold mb hmbs]; exact M
 refine wpIn_block (wpIn_mono (W_ hm ht hL hr ho hu1 hu2 hut (E:=E) (rows:=rows) (d0:=sp.init d E.w.heap.size) (itb:=E.w.heap.size) (mb:=mb) (clock:=clock) (ms:=ms)
  (aH _) hn hlt (by omega) (hfold _) ?_ ro hro) fun e R U hq=>?_)
 ·refine ⟨sp.init d E.w.heap.size, loc, X4, #[], clock, [], rfl, hadr _, ?_, hs4, ?_, (z.X E.w.heap.size (by show _ < g.heap.size; omega)).1.2 (.inr rfl), ?_, aH _, ?_, ?_, ?_⟩
  ·have : (rows.filter fun x => !(#[] : Array Nat).contains (fk x)) = rows := List.filter_eq_self.2 (fun x _ => by simp)
   rw[List.nil_append,this]
  ·refine W.toM.trans (Env.eX.trans (E' := { w := g, H := E.H.set sp.id .dead, loc := E.loc.set sp.id none, X := E.X.or fun b => b = E.w.heap.size }) ⟨fun _ _ h => h, ?_, ?_, fun b _ h => h, fun _ _ _ h => ⟨h, rfl⟩, fun b hb => ⟨⟨fun h => h.elim id fun e => absurd hb (by rw [e]; exact ub _), .inl⟩, Iff.rfl⟩, fun _ _ h => ⟨h, fun _ hq => hq⟩, hos, fun _ _ _ o h1 B _ => ⟨⟨[], (dx _).symm⟩, o, h1, B⟩⟩ z)
   ·show E.w.heap.size ≤ g.heap.size
    omega
   ·exact fun b hb _=>hold b hb
  ·rw [z.same E.w.heap.size (by show _ < g.heap.size; omega) ?_]
   ·exact hitn
   ·exact(N.heap.gI gI).B7 (.inr rfl)
  ·rw [z.same mb (by show _ < g.heap.size; omega) hmbn]
   exact hmb2
  ·exact z.own mb (by show _<g.heap.size; omega) hmbn
  ·exact jm (vB z) (jm gI.toC (jm W.toC hre))
 ·obtain ⟨rfl, p, d', h1, B, h3⟩ := hq
  simp only[Exit.inBlock,if_true];exact hQ _ _ ⟨_,p,d',h1,B,h3⟩
theorem Xb(hm:P.follows .mixedOrders=true)(U:aw P τ)(W:aJ P m L body)(hr:qc P τ L m sp dh body)(ho:vC P sp cU ef dh)
  (I:∀ d,(bC sp.inv d).fr[sp.t1]? = some .undef) (J:∀ d,(bC sp.inv d).fr[sp.t2]? = some .undef) (M:∀ d,(bC sp.inv d).fr[sp.it]? = some (.lit (.pointer (some ⟨sp.cd d,0,none⟩))))
  {r0 r1 b0 b1 r2:Nat}
  {s s1:al} {d:List G} {rows:List (List G)} {clock:Nat} (hp:jh P τ.pf cU cU.toList.dropLast s.den s1.den) (hx:s1.eval (.tmp sp.y)=.map sp.id) (hid:s1.H[sp.id]? = some (.map sp.K sp.V rows clock)) (hn:(rows.map fk).Nodup)
  (g:∀ r∈rows,fk r<clock) (N:∀ b,kr m sp.inv sp.ps (jq sp.opens (sp.s2 s1 b))=some (true,sp.init d b)) (z:∀ b,sp.cd (sp.init d b)=b)
  (v:∀ b p,p.Perm rows→(eZ sp.st sp.cd p (sp.init d b)).isSome=true) (E:Env) (a:Act) (hs:cV s.den E a) (ro:Option Nat) (O:fu ro body) :
  (oK r0 b0 r1 b1 r2 cU ef dh sp.t2 body).wpIn (fz ro) 0 P (fun e k q=>e=.normal∧∃ b p d',p.Perm rows∧eZ sp.st sp.cd p (sp.init d b)=some d'∧eF m E (bC sp.inv d').den k q) a E.w:=by
 refine wpIn_seq (wpIn_region ?_);obtain⟨o2,ty,t,_⟩:=ho.r0;have R:cU.size=cU.toList.dropLast.length+1:=by
  have h:=congrArg List.length t;simpa using h
 have hl:er cU.size=SB 0 cU.toList.dropLast.length++[cU.toList.dropLast.length]:=by
  rw[R,List.range_succ,SD]
 rw[hl];refine Mw (pf:=τ.pf) ro cU.toList.dropLast 0 s.den s1.den E a _ (fun j o u=>?_) hp hs fun k q hc=>?_
 ·have g := aL u
  have:cU.toList[j]? = some o:=by
   rw[t,cQ g];exact u
  simpa using this
 ·obtain ⟨B, r1, h1, h2⟩ := hc
  refine Xa hm U W hr ho I J M hx hid hn g N z v { w:=q,H:=s1.den.H,loc:=B,X:=E.X.re r1 } k h1 ro O fun a2 w2 ⟨b,p,d',g1,g2,g3⟩=>?_;exact⟨rfl,b,p,d',g1,g2,eF.after h2.toM g3⟩
noncomputable def sC{β:Type}(rows:List (List G))(k:Nat→List (List G)→Option β):Option β :=
 open Classical in if h:∃ r,∀ b p,p.Perm rows→k b p=some r then some h.choose else none
theorem MD{β:Type}{rows:List (List G)}{k:Nat→List (List G)→Option β}{r:β}(h:sC rows k=some r):∀ b p,p.Perm rows→k b p=some r:=by
 unfold sC at h;split at h
 ·rename_i d
  cases h;exact d.choose_spec
 ·cases h
theorem Xc{β:Type}{rows:List (List G)}{k:Nat→List (List G)→Option β}{r:β}(h:∀ b p,p.Perm rows→k b p=some r):sC rows k=some r:=by
 cases hb:sC rows k with
 | some r' =>
  have h1:=MD hb 0 rows (ue _);rw[h 0 rows (ue _)]at h1;exact h1.symm
 | none =>
  unfold sC at hb;rw[dif_pos ⟨r,h⟩]at hb;cases hb
def qd(rows:List (List G))(clock:Nat):Bool:=nodupB (rows.map fk)&&rows.all fun r=>cJ (fk r) clock
theorem Xd{rows:List (List G)}{clock:Nat}(h:qd rows clock=true):(rows.map fk).Nodup∧∀ r∈rows,fk r<clock:=by
 simp only[qd,ar,bO,dM]at h;exact⟨sn h.1,h.2⟩
noncomputable def qe(sp:iR)(tl:List G→Option (Option Nat × List G))(rows:List (List G))(clock:Nat)(d:List G):Option (Option Nat × List G) :=
 bif qd rows clock then sC rows (fun b p=>bif sp.side d b then (eZ sp.st sp.cd p (sp.init d b)).bind tl else none) else none
def vD(P:Program)(m:Nat)(c:Code)(sp:bH):Prop:=∀ d i d',sp.st d=some (some i,d')→∃ o,sp.outs[i]? = some o∧dA P m c (bC sp.inv d).den o.x (bC o.S d').den
theorem iQ.sat{c:Code}{q:bH}(hm:P.follows .mixedOrders=true)(k:aw P τ)(t:aJ P m L c)(u:iQ P τ L m c q):vD P m c q:=by
 intro d i d' g;rw[←u d]at g;obtain⟨x,s1,g1,g2⟩:=lk hm k c (bC q.inv d) .done t (Q:=fun x s=>p9 m q.outs 0 x s=some (true,(some i,d'))) (oA g);obtain⟨j,o,v,h,y,z⟩:=y_ g2;simp only[aX,cR]at h;subst h;refine⟨o,v,?_⟩;rw[←y];exact rL g1 (nc z)
theorem Xe{c:Code}{q:bH}(y:vD P m c q){s:al}{t:Tree}(h:vr m q s=some t):DA P m c s t:=by
 unfold vr at h;split at h
 case h_2=>cases h
 rename_i b d z;cases h;intro Q u;simp only[Tree.holds,sk,ar]at u;obtain⟨⟨rfl,h1⟩,v⟩:=u;cases g:q.st d with
 |none=>rw[g]at h1; cases h1
 | some r =>
  obtain⟨k,d'⟩:=r;cases k with
  |none=>rw[g]at h1; cases h1
  | some i =>
   obtain⟨o,g1,g2⟩:=y d i d' g;rw[g]at v;exact⟨o.x,(bC o.S d'),rK ((nf q.opens s).trans (nc z)) g2,za g1 (cR i).symm v⟩
theorem aJ.Xf{fn:Func}{q:bH} (u:oF q.key (bG (ba fn))=true) (g:aJ P m L (ba fn)) (h:aJ P m L (cutAt fn q.key)→vD P m (cutAt fn q.key) q) :
  aJ P m (L.gQ m q) (ba fn):=by
 refine⟨g.1,g.2.1,fun k v hk s t d=>?_⟩;simp only[LT.gQ]at d;split at d
 ·rename_i e
  have e:=br e;subst e;have y:=L6 u hk;rw[←y]at h;exact Xe (h (g.sub (oD hk) (oE hk))) d
 ·exact g.2.2 k v hk s t d
def vE(o:Option Tmp)(t:Tmp):Bool :=
 match o with
 |some x=>af x t
 |none=>false
theorem zz{o:Option Tmp}{t:Tmp}(h:vE o t=true):o=some t:=by
 cases o with
 |none=>cases h
 |some x=>exact congrArg some (br h)
def D7(P:Program)(sp:iR)(ops:Array Oper):Bool :=
 match ops.toList.getLast? with
 |some ⟨d2,.range ty (.tmp b),_,_,_,none⟩=>af b sp.y&&vE d2 sp.it&&(cZ P ty).isSome
 |_=>false
def D8(sp:iR)(ops:Array Oper):Bool :=
 match ops.toList with
 | [⟨d1,.next (.tmp a) false,_,_,_,none⟩,⟨d2,.extract (.tmp b) 0,_,_,_,none⟩]=>af a sp.it&&vE d1 sp.t1&&af b sp.t1&&vE d2 sp.t2
 |_=>false
def D9(sp:iR)(ops:Array Oper):Bool :=
 match ops.toList with
 |⟨d1,.entry (.tmp a),_,_,_,none⟩::_=>af a sp.it&&vE d1 sp.t3
 |_=>false
theorem Xg(h0:D7 P sp cU=true)(h1:D8 sp ef=true)(d:D9 sp dh=true):vC P sp cU ef dh:=by
 refine⟨?_,?_,?_⟩
 ·unfold D7 at h0
  split at h0
  ·rename_i d2 ty b t' k q e
   simp only[ar]at h0;obtain⟨⟨g3,g4⟩,g5⟩:=h0;have g3:=br g3;subst g3;refine⟨⟨d2,.range ty (.tmp sp.y),t',k,q,none⟩,ty,?_,rfl,rfl,zz g4,g5⟩;have g:cU.toList≠[]:=by
    intro h;rw[h]at e;cases e
   have d:=List.dropLast_concat_getLast g;have t:cU.toList.getLast? = some (cU.toList.getLast g):=by
    rw[List.getLast?_eq_some_iff];exact⟨_,d.symm⟩
   rw[t]at e;rw[gh e]at d;exact d.symm
  ·cases h0
 ·unfold D8 at h1
  split at h1
  ·rename_i d1 a _ _ _ d2 b _ _ _ e
   simp only[ar]at h1;obtain⟨⟨⟨g1,g2⟩,g3⟩,g4⟩:=h1;have g1:=br g1;have g3:=br g3;subst g1;subst g3;exact⟨_,_,e,rfl,rfl,zz g2,rfl,rfl,zz g4⟩
  ·cases h1
 ·unfold D9 at d
  split at d
  ·rename_i d1 a _ _ _ l e
   simp only[ar]at d;have g1:=br d.1;subst g1;exact⟨_,l,e,rfl,rfl,zz d.2⟩
  ·cases d
def D_:Code→Code
 |.seq _ b=>b
 |_=>.skip
def Ea:Code→Code
 |.seq (.seq _ (.block _ (.loop c))) _=>c
 |_=>.skip
def Eb(c:Code):Code:=match Ea c with
 |.seq _ (.seq _ (.block _ (.seq _ b)))=>b
 |_=>.skip
def Ec:Code→Array Oper
 |.region _ ops _=>ops
 |_=>#[]
def vF:Code→Array Oper
 |.seq (.seq r _) _=>Ec r
 |_=>#[]
def ME(c:Code):Array Oper:=match Ea c with
 |.seq r _=>Ec r
 |_=>#[]
def zA(c:Code):Array Oper:=match Ea c with
 |.seq _ (.seq _ (.block _ (.seq r _)))=>Ec r
 |_=>#[]
theorem Xh{r0 r1 b0 b1 r2 t2:Nat}{rest:Code} (h:aJ P m L (.seq (oK r0 b0 r1 b1 r2 cU ef dh t2 body) rest)):aJ P m L body∧aJ P m L rest:=by
 refine⟨h.sub (fun p d=>?_) (fun p d=>?_),h.sub (fun p d=>?_) (fun p d=>?_)⟩
 ·simp only [bE, oK, cG]
  left;right;split
  ·simp only [bS, bE, cG]
   exact .inr (.inr (.inr (.inr d)))
  ·simp only [bE, cG]
   exact .inr (.inr (.inr d))
 ·simp only [bG, oK, cG]
  exact .inl (.inr (.inr (.inr (.inr (.inr (.inr (.inr (.inr d))))))))
 ·simp only [bE, cG]
  exact .inr d
 ·simp only [bG, cG]
  exact .inr (.inr d)
def Xi(P:Program)(τ:au)(ops:Array Oper)(s:al):al:=match (oh P τ ops ops.toList.dropLast s fun s=>.done .normal s).oJ with
 |some (_,s1)=>s1
 |none=>s
theorem Xj(d:aw P τ){ops:Array Oper}{l:List Oper}{s s1:al}(h:(oh P τ ops l s fun s=>.done .normal s).oJ=some (.normal,s1)):jh P τ.pf ops l s.den s1.den:=by
 obtain⟨s',h1,g⟩:=yR d (zw h);obtain⟨_,rfl⟩:=g;exact h1
theorem Xk(hm:P.follows .mixedOrders=true)(O:aw P τ){rest:Code}{q qr:bH}(hL:aJ P m L body)(hr:qc P τ L m sp dh body)(ho:vC P sp cU ef dh)
  (hu1:∀ d,(bC sp.inv d).fr[sp.t1]? = some .undef) (hu2:∀ d,(bC sp.inv d).fr[sp.t2]? = some .undef) (hut:∀ d,(bC sp.inv d).fr[sp.it]? = some (.lit (.pointer (some ⟨sp.cd d,0,none⟩))))
  {r0 r1 b0 b1 r2:Nat}
  {rows:List G→List (List G)} {clock:List G→Nat} {pre:List G→al} (hy:∀ d,(oh P τ cU cU.toList.dropLast (bC q.inv d) fun s=>.done .normal s).oJ=some (.normal,pre d)) (t:∀ d,(pre d).eval (.tmp sp.y)=.map sp.id) (hid:∀ d,(pre d).H[sp.id]? = some (.map sp.K sp.V (rows d) (clock d)))
  (hin:∀ d b,kr m sp.inv sp.ps (jq sp.opens (sp.s2 (pre d) b))=some (sp.side d b,sp.init d b)) (W:∀ d b,sp.cd (sp.init d b)=b)
  (hinv:qr.inv=sp.inv) (U:qr.outs=q.outs) (z:vD P m rest qr) (hst:∀ d,q.st d=qe sp qr.st (rows d) (clock d) d) :
  vD P m (.seq (oK r0 b0 r1 b1 r2 cU ef dh sp.t2 body) rest) q:=by
 intro d i d' h;rw[hst]at h;unfold qe at h;cases v:qd (rows d) (clock d)with
 |false=>rw[v]at h; cases h
 | true =>
  rw[v]at h;simp only[cond_true]at h;have hall:=MD h;obtain⟨hn,hlt⟩:=Xd v;have k:∀ b p,p.Perm (rows d)→sp.side d b=true∧∃ d1,eZ sp.st sp.cd p (sp.init d b)=some d1∧qr.st d1=some (some i,d'):=by
   intro b p g;have:=hall b p g;cases I:sp.side d b with
   |false=>rw[I]at this; cases this
   | true =>
    rw[I]at this;simp only[cond_true]at this;cases u:eZ sp.st sp.cd p (sp.init d b)with
    |none=>rw[u]at this; cases this
    | some d1 =>
     rw[u]at this;exact⟨rfl,d1,rfl,this⟩
  obtain⟨_,d1,_,g1⟩:=k 0 (rows d) (ue _);obtain⟨o,J,_⟩:=z d1 i d' g1;refine⟨o,by rw[←U]; exact J,fun ro M E a hs=>wpIn_seq (wpIn_mono (Xb hm O hL hr ho hu1 hu2 hut (Xj O (hy d)) (t d) (hid d) hn hlt (fun b=>by rw[hin d b,(k b (rows d) (ue _)).1]) (W d) (fun b p g=>?_) E a hs ro (W6 M.seq1)) fun e a1 w1 hq=>?_)⟩
  ·obtain ⟨_, d2, h2, _⟩ := k b p g
   rw[h2];rfl
  ·obtain ⟨rfl, b, p, d2, g, u, loc, X, hs2, hle⟩ := hq
   obtain⟨_,d3,R,h4⟩:=k b p g;rw[u]at R;cases R;obtain⟨o',N,B⟩:=z d2 i d' h4;rw[J]at N;cases N;rw[hinv]at B;exact wpIn_mono (B ro M.Kv { w:=w1,H:=(bC sp.inv d2).den.H,loc:=loc,X:=X } a1 hs2) fun x a2 w2 t=>⟨t.1,eF.after hle t.2⟩
theorem aJ.Xl(hm:P.follows .mixedOrders=true)(h:aw P τ){fn:Func}{q qr:bH}{r0 b0 r1 b1 r2:Nat}{rows:List G→List (List G)}{clock:List G→Nat}
  (R:oF q.key (bG (ba fn))=true) (U:aJ P m L (ba fn))
  (k:cutAt fn q.key=.seq (oK r0 b0 r1 b1 r2 (vF (cutAt fn q.key)) (ME (cutAt fn q.key)) (zA (cutAt fn q.key)) sp.t2 (Eb (cutAt fn q.key))) (D_ (cutAt fn q.key)))
  (ho:(D7 P sp (vF (cutAt fn q.key))&&D8 sp (ME (cutAt fn q.key))&&D9 sp (zA (cutAt fn q.key)))=true)
  (W:qc P τ L m sp (zA (cutAt fn q.key)) (Eb (cutAt fn q.key)))
  (z:∀ d,(bC sp.inv d).fr[sp.t1]? = some .undef) (B:∀ d,(bC sp.inv d).fr[sp.t2]? = some .undef) (I:∀ d,(bC sp.inv d).fr[sp.it]? = some (.lit (.pointer (some ⟨sp.cd d,0,none⟩))))
  {pre:List G→al} (hy:∀ d,(oh P τ (vF (cutAt fn q.key)) (vF (cutAt fn q.key)).toList.dropLast (bC q.inv d) fun s=>.done .normal s).oJ=some (.normal,pre d)) (hx:∀ d,(pre d).eval (.tmp sp.y)=.map sp.id) (hid:∀ d,(pre d).H[sp.id]? = some (.map sp.K sp.V (rows d) (clock d)))
  (J:∀ d b,kr m sp.inv sp.ps (jq sp.opens (sp.s2 (pre d) b))=some (sp.side d b,sp.init d b)) (v:∀ d b,sp.cd (sp.init d b)=b)
  (hinv:qr.inv=sp.inv) (t:qr.outs=q.outs) (u:iQ P τ L m (D_ (cutAt fn q.key)) qr) (M:∀ d,q.st d=qe sp qr.st (rows d) (clock d) d) :
  aJ P m (L.gQ m q) (ba fn):=by
 refine aJ.Xf R U fun g=>?_;rw[k]at g;obtain⟨N,O⟩:=Xh g;simp only[ar]at ho;rw[k];exact Xk hm h N W (Xg ho.1.1 ho.1.2 ho.2) z B I hy hx hid J v hinv t (u.sat hm h O) M
end range
end Go.AL
