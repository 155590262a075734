/-
 What is proved here: shapes: states and arguments as data alone (integers,strings,rows),read off abstract states and built from data; what is built says no more than what was read. No program in sight; no condition.
-/
import Derived.Test.YtjmnkdlhpemooaaGreatDoorMC
import Derived.Maps.RangeRun
set_option linter.all false
open Bool renaming and_true→fD,and_eq_true→ax,false_eq_true→kF,not_eq_true'→oW,and_self→tx,eq_false_iff→ag1,or_false→tC
open Go.Act renaming put→wO
open Go.Exit renaming inBlock→AT
open Go.MapKept renaming heap_set→HD
open Go.Value.slice renaming injEq→jT
open Int renaming toNat_natCast→bD
open List renaming length_cons→cr,append_nil→db,append_assoc→gp,getElem?_append_left→cK,length_map→cN,mem_map→cV,getElem?_map→bT,getElem?_eq_getElem→bt,mem_of_getElem?→eB,getElem?_append_right→hZ,getElem?_set_self→bx,getElem?_set_ne→aR,getElem?_set→dU,all_eq_true→dq,getD_eq_getElem?_getD→bG,getElem?_take→nf,mem_cons→bR,map_cons→dg,cons_append→kG,length_append→dY,mem_append→cZ,getElem?_of_mem→nl,all_cons→kI,mem_cons_self→cO,mem_cons_of_mem→c9,nodup_cons→kK,getElem?_inj→AR,range'→nq,range'_succ→wP,range→dP,mem_append_left→oY,any_eq_true→ia,range_eq_range'→AS,set_append_left→Hy,headD_cons→wS,getElem?_cons_succ→Se,getD_cons_succ→ag0,find?_cons_of_neg→ag2,getElem_mem→ly,mem_filter→mu,mem_append_right→tA
open List.Perm renaming refl→nu
open Nat renaming le_refl→aD,le_add_right→eR,zero_le→eI,lt_or_ge→jy,zero_add→cW,beq→ae,eq_of_beq_eq_true→bk,sub_self→mn,ble→ep,blt→er,blt_eq→jb,le_of_ble_eq_true→qy,lt_irrefl→qz
open Option renaming map_eq_some_iff→dN,map_some→dO,getD_some→ga,bind_some→AZ
open Option.some renaming injEq→aQ,inj→gx
open Prod.mk renaming injEq→a7
namespace Go.AL
open Go
variable [Dr]
inductive eP where
 |int (k:IntKind)|str|bool
 |list (ks:List Kd)|row (ks:List Kd)|cptr (ks:List Kd)
 |nil|any
 |Kl (isNil:Bool)
 |fn (f:FuncId)
 |ptr (j col:Nat)
 |vec (j w:Nat)
 |sub (j w:Nat)
 |pre (j w:Nat)
 |rO (ks:List Kd)
 |map (j:Nat)
 |addr
 |Km (f:FuncId) (js:List Nat)
 |CW
 deriving Inhabited
inductive Sh where
 |s (a:eP)
 |clo (f:FuncId) (caps:List eP)
 deriving Inhabited
inductive cf where
 |vec (ks:List Kd) (u:Nat)
 |box (cells:List eP)
 |map (K V:Ct)
 |eJ (l T B:Nat)
 |aO (l:Nat) (K:Ct) (ks:List Kd)
 |mm (l:Nat) (K KI VI:Ct)
 deriving Inhabited
def cf.jm:cf→Option Nat
 |.eJ l _ _=>some l
 |.aO l _ _=>some l
 |.mm l _ _ _=>some l
 |_=>none
def cf.dh:cf→Option Nat
 |.mm l _ _ _=>some l
 |_=>none
def eP.sz:eP→Nat
 |.int _ | .str | .bool | .list _ | .row _ | .cptr _ | .rO _ | .pre _ _ | .addr=>1
 |.sub _ _=>2
 |_=>0
def nZ:List eP→Nat
 | []=>0
 |a::as=>a.sz+nZ as
def Sh.sz:Sh→Nat
 |.s a=>a.sz
 |.clo _ caps=>nZ caps
def CX:List Sh→Nat
 | []=>0
 |a::as=>a.sz+CX as
def cf.sz:cf→Nat
 |.vec _ _=>1
 |.box cells=>nZ cells
 |.map _ _=>2
 |.eJ _ _ _=>1
 |.aO _ _ _=>2
 |.mm _ _ _ _=>3
def eg:Nat→List G→List G
 |0,d=>d
 |n+1,d=>eg n d.tail
abbrev c6:=List (Nat × Nat)
def c6.len(os:c6)(j:Nat):Nat:=(os.getD j (0,0)).1
def c6.ad(os:c6)(j:Nat):Nat:=(os.getD j (0,0)).2
def pO:List Nat→List AV
 | []=>[]
 |j::js=>.ptr j 0 0 0 0::pO js
def eF(lens:c6):eP→List G→AV
 |.int k,d=>.lit (.int k (d.headD default).int)
 |.str,d=>.lit (.string (d.headD default).str)
 |.bool,d=>.lit (.bool (d.headD default).bool)
 |.list ks,d=>.listF ks (d.headD default).rows
 |.rO ks,d=>.listF ks (d.headD default).rows
 |.row ks,d=>.agg (aH ks (d.headD default).row)
 |.cptr ks,d=>.cptr (aH ks (d.headD default).row)
 |.nil,_=>.lit (.slice none 0 0)
 |.any,_=>.undef
 |.Kl b,_=>.emptyS b
 |.fn f,_=>.clo f []
 |.ptr j col,_=>.ptr j 0 0 0 col
 |.vec j w,_=>.vec w j (lens.ad j) 0 (lens.len j)
 |.sub j w,d=>.vec w j (lens.ad j) (d.headD default).int.toNat (d.tail.headD default).int.toNat
 |.pre j w,d=>.vec w j (lens.ad j) 0 (d.headD default).int.toNat
 |.map j,_=>.map j
 |.addr,d=>.lit (.pointer (some ⟨(d.headD default).int.toNat,0,none⟩))
 |.Km f js,_=>.clo f (pO js)
 |.CW,_=>.lit .nilIface
def iS(lens:c6):List eP→List G→List AV
 | [],_=>[]
 |a::as,d=>eF lens a d::iS lens as (eg a.sz d)
def n3(lens:c6):Sh→List G→AV
 |.s a,d=>eF lens a d
 |.clo f caps,d=>.clo f (iS lens caps d)
def eY(lens:c6):List Sh→List G→List AV
 | [],_=>[]
 |a::as,d=>n3 lens a d::eY lens as (eg a.sz d)
def eZ(lens:c6):cf→List G→ah
 |.vec ks u,d=>.vec ks u (d.headD default).rows
 |.box h,d=>.raw (.box (iS lens h d))
 |.map K V,d=>.map K V (d.headD default).rows (d.tail.headD default).int.toNat
 |.eJ l T B,d=>.raw (.eJ l T B (d.headD default).str)
 |.aO l K ks,d=>.aO l K ks (d.headD default).rows (d.tail.headD default).int.toNat
 |.mm l K KI VI,d=>.mm l K KI VI (d.headD default).rows (d.tail.headD default).rows (d.tail.tail.headD default).int.toNat
theorem rP(lens:c6)(sh:cf)(d:List G):(eZ lens sh d).den.label=sh.jm:=by cases sh<;>rfl
theorem CY(lens:c6)(sh:cf)(d:List G):(eZ lens sh d).den.dh=sh.dh:=by cases sh<;>rfl
def cF(lens:c6):List cf→List G→List ah
 | [],_=>[]
 |o::os,d=>eZ lens o d::cF lens os (eg o.sz d)
def lN:List cf→Nat
 | []=>0
 |o::os=>o.sz+lN os
def ct:List cf→List G→c6
 | [],_=>[]
 | o::os,d=>(match o with
  |.vec _ u=>((d.headD default).rows.length,u)
  |_=>(0,0))::ct os (eg o.sz d)
def km(H:List ah)(e:bN):List Nat→List AV→Bool
 | [],[]=>true
 | j::js,.ptr id ad k row c::vs=>(match H[id]? with
  |some (.raw _)=>ae id (e.at j)&&ae ad 0&&ae k 0&&ae row 0&&ae c 0
  |_=>false)&&km H e js vs
 |_,_=>false
def fK(H:List ah)(e:bN)(fz:Nat→Bool):eP→AV→Option (Bool × List G)
 |.int k,.lit (.int k' n)=>if k=k' then some (true,[.i n]) else none
 |.str,.lit (.string s)=>some (true,[.s s])
 |.bool,.lit (.bool b)=>some (true,[.t b])
 | .list ks,a=>match mL ks a with
  |some rows=>some (true,[.l rows])
  | none=>match a with
   | .vec w id ad off n=>match H[id]? with
    |some (.vec d v rows)=>if ad=v∧off=0∧w=ks.length∧Kd.gE ks d=true∧fz id=true then some (ae n rows.length,[.l rows]) else none
    |_=>none
   |_=>none
 | .row ks,a=>match CR ks a with
  |some r=>some (true,[.l [r]])
  |none=>none
 | .cptr ks,.cptr cells=>match fW ks cells with
  |some r=>some (true,[.l [r]])
  |none=>none
 | .cptr ks,.ptr id ad _ row col=>match H[id]? with
  | some (.raw (.box cells))=>match fW ks cells with
   |some r=>if ad=0∧row=0∧col=0∧fz id=true then some (true,[.l [r]]) else none
   |none=>none
  |some (.vec d v [r])=>if ad=v∧row=0∧col=0∧Kd.gE ks d=true∧fz id=true then some (true,[.l [r]]) else none
  |_=>none
 |.nil,.lit (.slice none 0 0)=>some (true,[])
 |.any,_=>some (true,[])
 |.fn f,.clo g []=>if f=g then some (true,[]) else none
 | .ptr j col,.ptr id ad k row c=>match H[id]? with
  |some (.raw _)=>if id=e.at j∧ad=0∧k=0∧row=0∧c=col then some (true,[]) else none
  |_=>none
 | .vec j w,.vec w' id ad off n=>match H[id]? with
  |some (.vec _ v rows)=>if w'=w∧id=e.at j∧ad=v∧off=0 then some (ae n rows.length,[]) else none
  |_=>none
 | .sub j w,.vec w' id ad off n=>match H[id]? with
  |some (.vec _ v _)=>if w'=w∧id=e.at j∧ad=v then some (true,[.i off,.i n]) else none
  |_=>none
 | .pre j w,.vec w' id ad off n=>match H[id]? with
  |some (.vec _ v _)=>if w'=w∧id=e.at j∧ad=v∧off=0 then some (true,[.i n]) else none
  |_=>none
 | .rO ks,a=>match mL ks a with
  |some rows=>some (true,[.l rows])
  | none=>match a with
   | .vec w id ad off n=>match H[id]? with
    |some (.vec d v rows)=>if ad=v∧off=0∧w=ks.length∧Kd.gE ks d=true∧fz id=true then some (ep n rows.length,[.l (rows.take n)]) else none
    |_=>none
   |_=>none
 | .map j,.map id=>match H[id]? with
  |some (.map _ _ _ _)=>if id=e.at j then some (true,[]) else none
  |some (.aO _ _ _ _ _)=>if id=e.at j then some (true,[]) else none
  |some (.mm _ _ _ _ _ _ _)=>if id=e.at j then some (true,[]) else none
  |_=>none
 |.addr,.lit (.pointer (some ⟨b,0,none⟩))=>some (true,[.i (b:Nat)])
 |.Km f js,.clo g vs=>if f=g∧km H e js vs=true then some (true,[]) else none
 |.CW,.lit .nilIface=>some (true,[])
 |_,_=>none
def fx(H:List ah)(e:bN)(fz:Nat→Bool):List eP→List AV→Option (Bool × List G)
 | [],[]=>some (true,[])
 | sh::d,a::as=>match fK H e fz sh a,fx H e fz d as with
  |some (b,g),some (h,k)=>some (b&&h,g++k)
  |_,_=>none
 |_,_=>none
def kn(H:List ah)(e:bN)(fz:Nat→Bool):Sh→AV→Option (Bool × List G)
 |.s a,v=>fK H e fz a v
 |.clo f caps,.clo g vs=>if f=g then fx H e fz caps vs else none
 |_,_=>none
def eA(H:List ah)(e:bN)(fz:Nat→Bool):List Sh→List AV→Option (Bool × List G)
 | [],[]=>some (true,[])
 | sh::d,a::as=>match kn H e fz sh a,eA H e fz d as with
  |some (b,g),some (h,k)=>some (b&&h,g++k)
  |_,_=>none
 |_,_=>none
def gI(H:List ah)(e:bN)(fz:Nat→Bool):cf→ah→Option (Bool × List G)
 |.vec ks _,.vec h _ rows=>if Kd.gE ks h then some (true,[.l rows]) else none
 |.box k,.raw (.box cells)=>fx H e fz k cells
 |.map K V,.map d v rows clock=>if K.same d&&V.same v then some (true,[.l rows,.i clock]) else none
 |.eJ l T B,.raw (.eJ l' y I s)=>if (ae l l'&&(ae T y&&ae B I))=true then some (true,[.s s]) else none
 |.aO l K ks,.aO l' d h rows clock=>if (ae l l'&&(K.same d&&Kd.gE ks h))=true then some (true,[.l rows,.i clock]) else none
 |.mm l K KI VI,.mm l' d q u rows mem clock=>if (ae l l'&&(K.same d&&(KI.same q&&VI.same u)))=true then some (true,[.l rows,.l mem,.i clock]) else none
 |_,_=>none
theorem Kn{H:List ah}{e:bN}{fz:Nat→Bool}{sh:cf}{o:ah}{b:Bool}{g:List G}(h:gI H e fz sh o=some (b,g)):o.den.label=sh.jm:=by
 unfold gI at h;split at h
 ·rfl
 ·rfl
 ·rfl
 ·split at h
  ·rename_i d
   simp only[ax]at d;have:=bk d.1;subst this;rfl
  ·cases h
 ·split at h
  ·rename_i d
   simp only[ax]at d;have:=bk d.1;subst this;rfl
  ·cases h
 ·split at h
  ·rename_i d
   simp only[ax]at d;have:=bk d.1;subst this;rfl
  ·cases h
 ·cases h
theorem CZ{H:List ah}{e:bN}{fz:Nat→Bool}{sh:cf}{o:ah}{b:Bool}{g:List G}(h:gI H e fz sh o=some (b,g)):o.den.dh=sh.dh:=by
 unfold gI at h;split at h
 ·rfl
 ·rfl
 ·rfl
 ·rfl
 ·rfl
 ·split at h
  ·rename_i d
   simp only[ax]at d;have:=bk d.1;subst this;rfl
  ·cases h
 ·cases h
def jn(H:List ah)(e:bN)(fz:Nat→Bool):List cf→List Nat→Option (Bool × List G)
 | [],[]=>some (true,[])
 | o::os,i::is=>match H[i]? with
  | some t=>match gI H e fz o t,jn H e fz os is with
   |some (b,g),some (d,h)=>some (b&&d,g++h)
   |_,_=>none
  |none=>none
 |_,_=>none
theorem n4:∀(g rest:List G),eg g.length (g++rest)=rest
 | [],_=>rfl
 |_::g,rest=>n4 g rest
def rQ:ah→Nat
 |.vec _ v _=>v
 |_=>0
def rR(H:List ah)(id:Nat):Nat:=match H[id]? with
 |some o=>rQ o
 |none=>0
def bK(H:List ah)(ids:List Nat):bN:=⟨ids,ids.map (rR H),H.length⟩
structure yg (E0:Env) (lens:c6) (j:Nat) (o:ah):Prop where
 ad:o.den.aF = some (rQ o)
 obj:∃ o0,E0.H[j]? = some o0∧o0.aF = some (lens.ad j)
 mm:∀ o0,E0.H[j]? = some o0→o0.dh=o.den.dh
 len:∀ ks v rows,o=.vec ks v rows→lens.len j=rows.length
 flat:(∀ ks v rows,o≠.vec ks v rows)→lens.ad j=0
structure iz (H:List ah) (e:bN) (fz:Nat→Bool) (lens:c6) (E E0:Env):Prop where
 hH:E.H=aj H
 HE:ar E
 free:∀ i,fz i=true→∀ b n,E.loc[i]? = some (some (b,n))→E0.iL b
 c7:KeepIn e E E0
 obj:∀ j o,H[e.at j]? = some o→j<e.ids.length∧yg E0 lens j o
section c7
variable {H:List ah} {e:bN} {fz:Nat→Bool} {lens:c6} {E E0:Env}
theorem yg.past{j:Nat}{o:ah}(h:yg E0 lens j o):E0.past j (lens.ad j):=by
 obtain⟨o0,h1,d⟩:=h.obj;exact⟨o0,h1,ab.A8 d,fun v k=>by rw[d]at k; cases k; exact aD _⟩
theorem VE(K:iz H e fz lens E E0){id v n:Nat}{ks:List Kd}{rows:List (List G)}{c:Value}(hid:H[id]? = some (.vec ks v rows))(y:fz id=true)(B:n=rows.length)
  (hr:rel E (.vec ks.length id v 0 n) c):rel E0 (.listF ks rows) c:=by
 subst B;have h:E.H[id]? = some (.vec ks.length v (rows.map (aH ks))):=by rw[K.hH]; exact a_ hid
 have ho:=K.HE.obj id _ h;rw[iN];simp only[rel]at hr⊢;obtain⟨⟨base,cap,rfl,u,_⟩,_,d⟩:=hr;obtain⟨M,I⟩:=d ⟨_,h,rfl⟩;have k:eS (rows.map (aH ks)):=by
  intro r hr;obtain⟨g,_,rfl⟩:=cV.1 hr;exact fG ks g
 refine⟨k,base,cap,by simp,by simpa using u,?_⟩;simp only[aJ]at ho;rcases ho with⟨h1,q⟩|⟨b,m,h1,q,d,_,J⟩
 ·exact .inl q
 ·obtain ⟨g1, o, g2, g3⟩ := I b m h1
  by_cases hm:rows=[]
  ·subst hm; exact .inl rfl
  ·right
   have:0<rows.length:=by cases rows with|nil=>exact(hm rfl).elim|cons _ _=>simp
   simp at d;have ho:=g2 (by omega);simp at ho;subst ho;simp only[jT]at g3;exact⟨b,0,g3.1,K.free id y b m h1,kO K.c7.bF _ k (by rw[K.c7.w]) J⟩
theorem VF(K:iz H e fz lens E E0){id v n:Nat}{ks:List Kd}{rows:List (List G)}{c:Value}(hid:H[id]? = some (.vec ks v rows))(I:fz id=true)(J:n≤rows.length)
  (hr:rel E (.vec ks.length id v 0 n) c):rel E0 (.listF ks (rows.take n)) c:=by
 have h:E.H[id]? = some (.vec ks.length v (rows.map (aH ks))):=by rw[K.hH]; exact a_ hid
 have ho:=K.HE.obj id _ h;rw[iN];simp only[rel]at hr⊢;obtain⟨⟨base,cap,rfl,B,_⟩,_,d⟩:=hr;obtain⟨N,M⟩:=d ⟨_,h,rfl⟩;have q:eS ((rows.take n).map (aH ks)):=by
  intro r hr;obtain⟨g,_,rfl⟩:=cV.1 hr;exact fG ks g
 have k:min n rows.length=n:=Nat.min_eq_left J;refine⟨q,base,cap,by simp[k],by simpa[k]using B,?_⟩;simp only[aJ]at ho;rcases ho with⟨h1,u⟩|⟨b,m,h1,u,d,_,y⟩
 ·left
  have:rows=[]:=by simpa using u
  rw[this];simp
 ·obtain ⟨g1, o, g2, g3⟩ := M b m h1
  by_cases hm:n=0
  ·left; rw[hm]; simp
  ·right
   simp at d;have ho:=g2 (by omega);simp at ho;subst ho;simp only[jT]at g3;refine⟨b,0,g3.1,K.free id I b m h1,kO K.c7.bF _ q (by rw[K.c7.w]) ?_⟩;rw[lz]at y⊢;intro i r hi;simp only[bT,nf]at hi;split at hi
   ·exact y i r (by simpa using hi)
   ·simp at hi
theorem VG(K:iz H e fz lens E E0){id k:Nat}{cells:List AV}{c:Value} (hid:H[id]? = some (.raw (.box cells))) (h:AV.bl cells=true) (q:fz id=true)
  (hr:rel E (.ptr id 0 k 0 0) c):rel E0 (.cptr cells) c:=by
 have d:E.H[id]? = some (.box cells):=by rw[K.hH]; exact a_ hid
 have ho:=K.HE.obj id _ d;simp only[aJ]at ho;obtain⟨b,n,h1,y,u⟩:=ho;simp only[rel]at hr⊢;obtain⟨_,_,v⟩:=hr;obtain⟨B,I,g1,g2⟩:=v ⟨_,d,rfl⟩;rw[h1]at g1;simp only[aQ,a7]at g1;obtain⟨rfl,rfl⟩:=g1;exact⟨h,b,0,by rw[g2]; simp,K.free id q b n h1,qG K.c7.bF cells h (by rw[K.c7.w]) u⟩
theorem VH(K:iz H e fz lens E E0){id k v:Nat}{ks:List Kd}{r:List G}{c:Value}(hid:H[id]? = some (.vec ks v [r]))(u:fz id=true)
  (hr:rel E (.ptr id v k 0 0) c):rel E0 (.cptr (aH ks r)) c:=by
 have d:E.H[id]? = some (.vec ks.length v [aH ks r]):=by rw[K.hH]; exact a_ hid
 have ho:=K.HE.obj id _ d;simp only[aJ]at ho;simp only[rel]at hr⊢;obtain⟨_,_,y⟩:=hr;obtain⟨B,I,g1,g2⟩:=y ⟨_,d,rfl⟩;rcases ho with⟨_,h⟩|⟨b,m,h1,h,J,M,q⟩
 ·cases h
 ·rw [h1] at g1
  simp only[aQ,a7]at g1;obtain⟨rfl,rfl⟩:=g1;simp only[cA]at q;exact⟨fG ks r,b,0,by rw[g2]; simp,K.free id u b m h1,qG K.c7.bF _ (fG ks r) (by rw[K.c7.w]) q.2.1⟩
theorem Ko(K:iz H e fz lens E E0):∀{js:List Nat} {vs:List AV},km H e js vs=true→∀ cs,af E vs cs→af E0 (pO js) cs
 | [],[],_,cs,hr=>by
  cases cs with
  |nil=>simp[pO,af]
  |cons _ _=>simp[af]at hr
 | j::js,v::vs,h,cs,hr=>by
  cases v<;>simp only[km,kF]at h<;>try cases h
  rename_i id ad k row c;simp only[ax]at h;obtain⟨h1,y⟩:=h;split at h1
  ·rename_i r hid
   simp only[ax]at h1;obtain⟨⟨⟨⟨d,a2⟩,a3⟩,a4⟩,a5⟩:=h1;have d:=bk d;have a2:=bk a2;have a3:=bk a3;have a4:=bk a4;have a5:=bk a5;subst d a2 a3 a4 a5;cases cs with
   |nil=>simp[af]at hr
   | cons c cs =>
    simp only[af]at hr;simp only[pO,af];refine⟨?_,Ko K y cs hr.2⟩;obtain⟨B,q⟩:=K.obj _ _ hid;have I:=q.flat (fun _ _ _ h=>by cases h);have u:=hr.1;simp only[rel]at u⊢;obtain⟨h1,y,J⟩:=u;refine⟨h1,by have:=q.past; rwa [I]at this,fun _=>?_⟩;rw[K.c7.loc _ B];exact J ⟨_,by rw[K.hH]; exact a_ hid,q.ad⟩
  ·cases h1
 | [],_::_,h,_,_=>by simp[km]at h
 |_::_,[],h,_,_=>by simp[km]at h
theorem Kp(K:iz H e fz lens E E0){sh:eP}{a:AV}{g:List G}(h:fK H e fz sh a=some (true,g))(rest:List G) :
  g.length=sh.sz∧∀ c,rel E a c→rel E0 (eF lens sh (g++rest)) c:=by
 unfold fK at h;split at h
 ·split at h
  ·rename_i hk
   subst hk;cases h;exact⟨rfl,fun c hr=>by simp only[rel]at hr; subst hr; simp[eF,rel,G.int]⟩
  ·cases h
 ·cases h; exact⟨rfl,fun c hr=>by simp only[rel]at hr; subst hr; simp[eF,rel,G.str]⟩
 ·cases h; exact⟨rfl,fun c hr=>by simp only[rel]at hr; subst hr; simp[eF,rel,G.bool]⟩
 ·split at h
  ·rename_i rows hr
   cases h;exact⟨rfl,fun c d=>dL K.c7.bF (.listF _ rows) rfl (J_ hr d)⟩
  ·split at h
   ·split at h
    ·rename_i hid
     split at h
     ·rename_i d
      obtain⟨rfl,rfl,rfl,y,B⟩:=d;simp only[aQ,a7]at h;obtain⟨h1,rfl⟩:=h;have y:=Kd.iQ y;subst y;exact⟨rfl,fun c hr=>VE K hid B (bk h1) hr⟩
     ·cases h
    ·cases h
   ·cases h
 ·split at h
  ·rename_i ks a r hr
   cases h;have M:=J' hr;subst M;exact⟨rfl,fun c d=>dL K.c7.bF (.agg (aH ks r)) (by simp only[AV.closed,fG]) d⟩
  ·cases h
 ·split at h
  ·rename_i r hr
   cases h;have M:=kf hr;subst M;exact⟨rfl,fun c d=>dL K.c7.bF (.cptr _) rfl d⟩
  ·cases h
 ·split at h
  ·rename_i hid
   split at h
   ·rename_i r hr
    split at h
    ·rename_i d
     obtain⟨rfl,rfl,rfl,B⟩:=d;cases h;have M:=kf hr;subst M;exact⟨rfl,fun c hr=>VG K hid (fG _ _) B hr⟩
    ·cases h
   ·cases h
  ·rename_i O v r hid
   split at h
   ·rename_i d
    obtain⟨rfl,rfl,rfl,y,B⟩:=d;cases h;have y:=Kd.iQ y;subst y;exact⟨rfl,fun c hr=>VH K hid B hr⟩
   ·cases h
  ·cases h
 ·cases h; exact⟨rfl,fun c hr=>by simpa only[eF,rel]using hr⟩
 ·cases h; exact⟨rfl,fun c hr=>by simp[eF,rel]⟩
 ·split at h
  ·rename_i hk
   subst hk;cases h;exact⟨rfl,fun c hr=>dL K.c7.bF (.clo _ []) rfl hr⟩
  ·cases h
 ·split at h
  ·rename_i r hid
   split at h
   ·rename_i d
    obtain⟨rfl,rfl,rfl,rfl,rfl⟩:=d;cases h;obtain⟨q,k⟩:=K.obj _ _ hid;have I:=k.flat (fun _ _ _ h=>by cases h);refine⟨rfl,fun c hr=>?_⟩;simp only[rel]at hr;simp only[eF,rel];obtain⟨h1,J,u⟩:=hr;refine⟨h1,by have:=k.past; rwa [I]at this,fun _=>?_⟩;rw[K.c7.loc _ q];exact u ⟨_,by rw[K.hH]; exact a_ hid,k.ad⟩
   ·cases h
  ·cases h
 ·split at h
  ·rename_i ks v rows hid
   split at h
   ·rename_i d
    obtain⟨rfl,rfl,rfl,rfl⟩:=d;simp only[aQ,a7]at h;obtain⟨h1,rfl⟩:=h;have h1:=bk h1;subst h1;obtain⟨q,k⟩:=K.obj _ _ hid;refine⟨rfl,fun c hr=>?_⟩;simp only[rel]at hr;simp only[eF,rel];rw[k.len _ _ _ rfl];obtain⟨h1,J,u⟩:=hr;refine⟨h1,k.past,fun _=>?_⟩;rw[K.c7.loc _ q];exact u ⟨_,by rw[K.hH]; exact a_ hid,k.ad⟩
   ·cases h
  ·cases h
 ·split at h
  ·rename_i ks v rows hid
   split at h
   ·rename_i d
    obtain⟨rfl,rfl,rfl⟩:=d;cases h;obtain⟨q,k⟩:=K.obj _ _ hid;refine⟨rfl,fun c hr=>?_⟩;simp only[rel]at hr;simp only[eF,rel,kG,wS,List.tail_cons,G.int,bD];obtain⟨h1,J,u⟩:=hr;refine⟨h1,k.past,fun _=>?_⟩;rw[K.c7.loc _ q];exact u ⟨_,by rw[K.hH]; exact a_ hid,k.ad⟩
   ·cases h
  ·cases h
 ·split at h
  ·rename_i ks v rows hid
   split at h
   ·rename_i d
    obtain⟨rfl,rfl,rfl,rfl⟩:=d;cases h;obtain⟨q,k⟩:=K.obj _ _ hid;refine⟨rfl,fun c hr=>?_⟩;simp only[rel]at hr;simp only[eF,rel,kG,wS,G.int,bD];obtain⟨h1,J,u⟩:=hr;refine⟨h1,k.past,fun _=>?_⟩;rw[K.c7.loc _ q];exact u ⟨_,by rw[K.hH]; exact a_ hid,k.ad⟩
   ·cases h
  ·cases h
 ·split at h
  ·rename_i rows hr
   cases h;exact⟨rfl,fun c d=>dL K.c7.bF (.listF _ rows) rfl (J_ hr d)⟩
  ·split at h
   ·split at h
    ·rename_i hid
     split at h
     ·rename_i d
      obtain⟨rfl,rfl,rfl,y,B⟩:=d;simp only[aQ,a7]at h;obtain⟨h1,rfl⟩:=h;have y:=Kd.iQ y;subst y;exact⟨rfl,fun c hr=>VF K hid B (qy h1) hr⟩
     ·cases h
    ·cases h
   ·cases h
 ·split at h
  ·rename_i N V1 rows cl hid
   split at h
   ·rename_i d
    subst d;cases h;obtain⟨q,k⟩:=K.obj _ _ hid;have I:=k.flat (fun _ _ _ h=>by cases h);refine⟨rfl,fun c hr=>?_⟩;simp only[rel]at hr;simp only[eF,rel];obtain⟨h1,J,u⟩:=hr;refine⟨h1,by have:=k.past; rwa [I]at this,fun _=>?_⟩;rw[K.c7.loc _ q];exact u ⟨_,by rw[K.hH]; exact a_ hid,k.ad⟩
   ·cases h
  ·rename_i l1 N U rows cl hid
   split at h
   ·rename_i d
    subst d;cases h;obtain⟨q,k⟩:=K.obj _ _ hid;have I:=k.flat (fun _ _ _ h=>by cases h);refine⟨rfl,fun c hr=>?_⟩;simp only[rel]at hr;simp only[eF,rel];obtain⟨h1,J,u⟩:=hr;refine⟨h1,by have:=k.past; rwa [I]at this,fun _=>?_⟩;rw[K.c7.loc _ q];exact u ⟨_,by rw[K.hH]; exact a_ hid,k.ad⟩
   ·cases h
  ·rename_i l1 N V W rows mem cl hid
   split at h
   ·rename_i d
    subst d;cases h;obtain⟨q,k⟩:=K.obj _ _ hid;have I:=k.flat (fun _ _ _ h=>by cases h);refine⟨rfl,fun c hr=>?_⟩;simp only[rel]at hr;simp only[eF,rel];obtain⟨h1,J,u⟩:=hr;refine⟨h1,by have:=k.past; rwa [I]at this,fun _=>?_⟩;rw[K.c7.loc _ q];exact u ⟨_,by rw[K.hH]; exact a_ hid,k.ad⟩
   ·cases h
  ·cases h
 ·cases h; exact⟨rfl,fun c hr=>by simp only[rel]at hr; subst hr; simp[eF,rel,G.int]⟩
 ·split at h
  ·rename_i d
   obtain⟨rfl,d⟩:=d;cases h;refine⟨rfl,fun c hr=>?_⟩;simp only[rel]at hr;simp only[eF,rel];obtain⟨cs,r1,r2⟩:=hr;exact⟨cs,r1,Ko K d _ r2⟩
  ·cases h
 ·cases h; exact⟨rfl,fun c hr=>by simpa only[eF,rel]using hr⟩
 ·cases h
theorem C0(K:iz H e fz lens E E0):∀{d:List eP} {as:List AV} {g:List G},fx H e fz d as=some (true,g)→∀(rest:List G),
  g.length=nZ d∧as.length=d.length∧(iS lens d (g++rest)).length=d.length ∧
   (∀ cs,af E as cs→af E0 (iS lens d (g++rest)) cs)∧∀ b o,E0.w.heap[b]? = E.w.heap[b]? → cn E as b o→cn E0 (iS lens d (g++rest)) b o
 | [],[],g,h,rest=>by
  simp only[fx,aQ,a7]at h;obtain⟨_,rfl⟩:=h;refine⟨rfl,rfl,rfl,fun cs hr=>?_,fun b o _ hr=>by simp[iS,cn]⟩;cases cs with
  |nil=>simp[iS,af]
  |cons _ _=>simp[af]at hr
 | sh::d,a::as,g,h,rest=>by
  simp only[fx]at h;split at h
  ·rename_i b g1 O g2 h1 u
   simp only[aQ,a7,ax]at h;obtain⟨⟨rfl,rfl⟩,rfl⟩:=h;obtain⟨p1,q⟩:=Kp K h1 (g2++rest);obtain⟨y,B,I,J,M⟩:=C0 K u rest;have k:eg sh.sz (g1++(g2++rest))=g2++rest:=by rw[←p1]; exact n4 g1 _
   refine⟨by simp only[nZ,dY,p1,y],by simp only[cr,B],?_,?_,?_⟩
   ·simp only[iS,gp,k,cr,I]
   ·intro cs hr
    cases cs with
    |nil=>simp[af]at hr
    | cons c cs =>
     simp only[af]at hr;simp only[iS,gp,k,af];exact⟨q c hr.1,J cs hr.2⟩
   ·intro b o hb hr
    simp only[cn]at hr;simp only[iS,gp,k,cn];obtain⟨⟨v,r1,r2,r3⟩,N⟩:=hr;exact⟨⟨v,by rw[World.qF hb]; exact r1,r2,q v r3⟩,M b (o+1) hb N⟩
  ·cases h
 | [],_::_,_,h,_=>by simp[fx]at h
 |_::_,[],_,h,_=>by simp[fx]at h
theorem Kq(K:iz H e fz lens E E0){sh:Sh}{a:AV}{g:List G}(h:kn H e fz sh a=some (true,g))(rest:List G) :
  g.length=sh.sz∧∀ c,rel E a c→rel E0 (n3 lens sh (g++rest)) c:=by
 cases sh with
 |s a0=>exact Kp K h rest
 | clo f caps =>
  cases a<;>simp only[kn]at h<;>try cases h
  rename_i g1 vs;split at h
  ·rename_i d
   subst d;obtain⟨k,u,v,q,y⟩:=C0 K h rest;refine⟨k,fun c hr=>?_⟩;simp only[rel]at hr;simp only[n3,rel];obtain⟨cs,r1,r2⟩:=hr;exact⟨cs,r1,q _ r2⟩
  ·cases h
theorem uM(K:iz H e fz lens E E0):∀{d:List Sh} {as:List AV} {g:List G},eA H e fz d as=some (true,g)→∀(rest:List G),
  g.length=CX d∧as.length=d.length∧(eY lens d (g++rest)).length=d.length∧(∀ cs,af E as cs→af E0 (eY lens d (g++rest)) cs)
 | [],[],g,h,rest=>by
  simp only[eA,aQ,a7]at h;obtain⟨_,rfl⟩:=h;refine⟨rfl,rfl,rfl,fun cs hr=>?_⟩;cases cs with
  |nil=>simp[eY,af]
  |cons _ _=>simp[af]at hr
 | sh::d,a::as,g,h,rest=>by
  simp only[eA]at h;split at h
  ·rename_i b g1 J g2 h1 q
   simp only[aQ,a7,ax]at h;obtain⟨⟨rfl,rfl⟩,rfl⟩:=h;obtain⟨p1,u⟩:=Kq K h1 (g2++rest);obtain⟨v,y,B,I⟩:=uM K q rest;have k:eg sh.sz (g1++(g2++rest))=g2++rest:=by rw[←p1]; exact n4 g1 _
   refine⟨by simp only[CX,dY,p1,v],by simp only[cr,y],by simp only[eY,gp,k,cr,B],?_⟩;intro cs hr;cases cs with
   |nil=>simp[af]at hr
   | cons c cs =>
    simp only[af]at hr;simp only[eY,gp,k,af];exact⟨u c hr.1,I cs hr.2⟩
  ·cases h
 | [],_::_,_,h,_=>by simp[eA]at h
 |_::_,[],_,h,_=>by simp[eA]at h
theorem Kr(K:iz H e fz lens E E0):∀{u:List Sh} {as:List AV} {g:List G},eA H e fz u as=some (true,g)→∀{rest:List G} {k:Nat} {x v:AV} {c:Value},
  as[k]? = some x→(eY lens u (g++rest))[k]? = some v→rel E x c→rel E0 v c
 | [],[],_,_,_,_,_,_,_,d,_,_=>by simp at d
 | sh::u,a::as,g,h,rest,k,x,v,c,d,q,hr=>by
  simp only[eA]at h;split at h
  ·rename_i b g1 J g2 h1 y
   simp only[aQ,a7,ax]at h;obtain⟨⟨rfl,rfl⟩,rfl⟩:=h;obtain⟨p1,B⟩:=Kq K h1 (g2++rest);have I:eg sh.sz (g1++(g2++rest))=g2++rest:=by rw[←p1]; exact n4 g1 _
   simp only[eY,gp,I]at q;cases k with
   | zero =>
    simp at d q;subst d;subst q;exact B c hr
   |succ k=>exact Kr K y (by simpa using d) (by simpa using q) hr
  ·cases h
 | [],_::_,_,h,_,_,_,_,_,_,_,_=>by simp[eA]at h
 |_::_,[],_,h,_,_,_,_,_,_,_,_=>by simp[eA]at h
theorem Ks(K:iz H e fz lens E E0){sh:cf}{o:ah}{g:List G}(h:gI H e fz sh o=some (true,g))(rest:List G)
  {j:Nat} (V:j<e.ids.length) (hlab:∀ l,sh.jm=some l→E0.X.r l=E.X.r l) (ho:aJ E (e.at j) o.den):aJ E0 j (eZ lens sh (g++rest)).den:=by
 have I:∀ b:Nat,E0.w.heap[b]? = E.w.heap[b]? := fun b=>by rw[K.c7.w]
 have J:=K.c7.loc j V;unfold gI at h;split at h
 ·split at h
  ·rename_i y
   cases h;have y:=Kd.iQ y;subst y;simp only[eZ,ah.den,aJ]at ho⊢;rcases ho with⟨h1,d⟩|⟨b,m,h1,d,u,M,W⟩
   ·exact .inl ⟨by rw[J,h1],d⟩
   ·exact .inr ⟨b,m,by rw[J,h1],qH (I b) d,u,M,kO K.c7.bF _ M (I b) W⟩
  ·cases h
 ·rename_i shs cells
  obtain⟨q1,q2,q3,q5,q6⟩:=C0 K h rest;simp only[eZ,ah.den,aJ]at ho⊢;obtain⟨b,n,h1,d,u⟩:=ho;exact⟨b,n,by rw[J,h1],by rw[q3,←q2]; exact qH (I b) d,q6 b 0 (I b) u⟩
 ·split at h
  ·rename_i y
   cases h;simp only[ax]at y;have h1:=Ct.jG y.1;have d:=Ct.jG y.2;subst h1;subst d;simp only[eZ,ah.den,aJ]at ho⊢;obtain⟨b,n,ms,h1,d,u⟩:=ho;refine⟨b,n,ms,by rw[J,h1],?_,iR K.c7.bF u⟩;rw[I b];simpa[G.int]using d
  ·cases h
 ·rename_i l T B l' T' B' s
  split at h
  ·rename_i y
   cases h;simp only[ax]at y;obtain⟨h1,d,u⟩:=y;have h1:=bk h1;have d:=bk d;have u:=bk u;subst h1 d u;simp only[eZ,ah.den,aJ]at ho⊢;obtain⟨b,n,p,v,k,q,g1,g2,g3,g4,g5,g6⟩:=ho;have hr:=hlab l rfl;exact⟨b,n,p,v,k,q,by rw[J,g1],by rw[I b,g2],g3,by rw[hr,g4],by rw[hr]; exact g5,Ba (fun g m _=>I g) (by simpa[G.str]using g6)⟩
  ·cases h
 ·rename_i l K0 ks l' K' ks' rows clock
  split at h
  ·rename_i y
   cases h;simp only[ax]at y;obtain⟨h1,d,u⟩:=y;have h1:=bk h1;have d:=Ct.jG d;have u:=Kd.iQ u;subst h1 d u;simp only[eZ,ah.den,aJ]at ho⊢;obtain⟨b,n,ms,g1,g2,g3,g4⟩:=ho;have hr:=hlab l rfl;refine⟨b,n,ms,by rw[J,g1],?_,iR K.c7.bF g3,tG (E:=E) (fun h g m hk=>⟨by rw[hr]; exact hk,I g⟩) (fun _ _ _ _ _ N O hc U=>kO K.c7.bF _ hc O U) g4⟩;rw[I b];simpa[G.int]using g2
  ·cases h
 ·rename_i l K0 KI VI l' K' KI' VI' rows mem clock
  split at h
  ·rename_i y
   cases h;simp only[ax]at y;obtain⟨h1,d,u,M⟩:=y;have h1:=bk h1;have d:=Ct.jG d;have u:=Ct.jG u;have M:=Ct.jG M;subst h1 d u M;simp only[eZ,ah.den,aJ]at ho⊢;obtain⟨b,n,ms,g1,g2,g3,g4⟩:=ho;have hr:=hlab l rfl;refine⟨b,n,ms,by rw[J,g1],?_,iR K.c7.bF g3,Bd hr (fun _ N _ _=>I N) (fun _ _ _=>iR K.c7.bF) g4⟩;rw[I b];simpa[G.int]using g2
  ·cases h
 ·cases h
end c7
def cf.up:cf→Nat
 |.vec _ u=>u
 |_=>0
theorem C1{H:List ah}{e:bN}{fz:Nat→Bool}{lens:c6}{sh:cf}{o:ah}{b:Bool}{g d:List G}(h:gI H e fz sh o=some (b,g)) :
  o.den.aF = some (rQ o)∧(eZ lens sh d).den.aF = some sh.up∧((∀ ks v rows,o≠.vec ks v rows)→sh.up=0):=by
 unfold gI at h;split at h
 ·exact⟨rfl,rfl,fun k=>(k _ _ _ rfl).elim⟩
 ·exact⟨rfl,rfl,fun _=>rfl⟩
 ·exact⟨rfl,rfl,fun _=>rfl⟩
 ·exact⟨rfl,rfl,fun _=>rfl⟩
 ·exact⟨rfl,rfl,fun _=>rfl⟩
 ·exact⟨rfl,rfl,fun _=>rfl⟩
 ·cases h
theorem VJ{H:List ah}{e:bN}{fz:Nat→Bool}{sh:eP}{a:AV}{b:Bool}{g:List G}(h:fK H e fz sh a=some (b,g)):g.length=sh.sz:=by
 unfold fK at h;split at h<;>(try split at h)<;>(try split at h)<;>(try split at h)<;>(try split at h)<;>first
  |(cases h; rfl)
  |cases h
theorem Kt{H:List ah}{e:bN}{fz:Nat→Bool}:∀{d:List eP} {as:List AV} {b:Bool} {g:List G},fx H e fz d as=some (b,g)→g.length=nZ d
 | [],[],_,g,h=>by simp[fx]at h; simp[←h.2,nZ]
 | sh::d,a::as,b,g,h=>by
  simp only[fx]at h;split at h
  ·rename_i b g1 q g2 h1 k
   simp only[aQ,a7]at h;obtain⟨_,rfl⟩:=h;simp only[nZ,dY,VJ h1,Kt k]
  ·cases h
 | [],_::_,_,_,h|_::_,[],_,_,h=>by simp[fx]at h
theorem VK{H:List ah}{e:bN}{fz:Nat→Bool}{sh:cf}{o:ah}{b:Bool}{g:List G}(h:gI H e fz sh o=some (b,g)):g.length=sh.sz:=by
 unfold gI at h;split at h
 ·split at h
  ·cases h; rfl
  ·cases h
 ·exact Kt h
 ·split at h
  ·cases h; rfl
  ·cases h
 ·split at h
  ·cases h; rfl
  ·cases h
 ·split at h
  ·cases h; rfl
  ·cases h
 ·split at h
  ·cases h; rfl
  ·cases h
 ·cases h
theorem uN{H:List ah}{e:bN}{fz:Nat→Bool}:∀{os:List cf} {ids:List Nat} {g:List G},jn H e fz os ids=some (true,g)→∀(rest:List G) (lens:c6),
  g.length=lN os∧ids.length=os.length∧(cF lens os (g++rest)).length=os.length ∧
  (∀ (j : Nat) (sh : cf), os[j]? = some sh → ∃ i o g1 q, ids[j]? = some i ∧ H[i]? = some o ∧ gI H e fz sh o = some (true, g1) ∧ (cF lens os (g ++ rest))[j]? = some (eZ lens sh (g1 ++ q)) ∧
   (ct os (g++rest)).ad j=sh.up∧∀ ks v rows,o=.vec ks v rows→(ct os (g++rest)).len j=rows.length)
 | [],[],g,h,rest,lens=>by
  simp only[jn,aQ,a7]at h;obtain⟨_,rfl⟩:=h;exact⟨rfl,rfl,rfl,fun j sh d=>by simp at d⟩
 | sh::os,i::ids,g,h,rest,lens=>by
  simp only[jn]at h;split at h
  case h_2=>cases h
  rename_i o ho;split at h
  ·rename_i b g1 b' g2 h1 I
   simp only[aQ,a7,ax]at h;obtain⟨⟨rfl,rfl⟩,rfl⟩:=h;obtain⟨J,M,N,O⟩:=uN I rest lens;have u:=VK h1;have k:eg sh.sz (g1++(g2++rest))=g2++rest:=by rw[←u]; exact n4 g1 _
   refine⟨by simp only[lN,dY,u,J],by simp only[cr,M],by simp only[cF,gp,k,cr,N],fun j y d=>?_⟩;cases j with
   | zero =>
    simp at d;subst d;refine⟨i,o,g1,g2++rest,rfl,ho,h1,by simp only[cF,gp,List.getElem?_cons_zero],?_,?_⟩
    ·unfold ct c6.ad
     cases sh<;>rfl
    ·rintro ks v rows rfl
     unfold gI at h1;split at h1
     ·rename_i heq
      cases heq;split at h1
      ·cases h1
       simp[ct,c6.len,G.rows]
      ·cases h1
     ·rename_i heq; cases heq
     ·rename_i heq; cases heq
     ·rename_i heq; cases heq
     ·rename_i heq; cases heq
     ·rename_i heq; cases heq
     ·cases h1
   | succ j =>
    obtain⟨U,o',B,q,r1,r2,r3,V,W,r6⟩:=O j y (by simpa using d);refine⟨U,o',B,q,by simpa using r1,r2,r3,by simpa only[cF,gp,k,Se]using V,?_,?_⟩
    ·simpa only[ct,c6.ad,gp,k,ag0]using W
    ·simpa only[ct,c6.len,gp,k,ag0]using r6
  ·cases h
 | [],_::_,_,h,_,_=>by simp[jn]at h
 |_::_,[],_,h,_,_=>by simp[jn]at h
end Go.AL

namespace Go.AL
open Go
variable [Dr]
abbrev rS(a b:Bool):Bool:=Bool.casesOn a false b
theorem rT{a b:Bool}:rS a b=true↔a=true∧b=true:=by cases a<;>simp
open Classical in
noncomputable def mM(E:Env)(H0:List ab)(l:Nat):List (Option (Option (Nat × Nat))):=if ∃(j:Nat) (o:ab),H0[j]? = some o∧o.label=some l then E.X.r l else (E.X.r l).map fun _=>none
theorem VL{E:Env}{H0:List ab}{l j:Nat}{o:ab}(h:H0[j]? = some o)(d:o.label=some l):mM E H0 l=E.X.r l:=if_pos ⟨j,o,h,d⟩
theorem yh{E:Env}{H0:List ab}{l h:Nat}{q:Option (Nat × Nat)}(d:(mM E H0 l)[h]? = some (some q)):(E.X.r l)[h]? = some (some q)∧∃(j:Nat) (o:ab),H0[j]? = some o∧o.label=some l:=by
 unfold mM at d;split at d
 ·rename_i u
  exact⟨d,u⟩
 ·rw [bT] at d
  cases k:(E.X.r l)[h]? with
  |none=>rw[k]at d; cases d
  |some y=>rw[k]at d; cases d
theorem VM(E:Env)(H0:List ab)(l:Nat):(mM E H0 l).length=(E.X.r l).length:=by
 unfold mM;split
 ·rfl
 ·simp
noncomputable def iA(E:Env)(H0:List ab)(ids:List Nat):Env:=⟨E.w,H0,ids.map fun i=>E.loc.getD i none,E.X.re (mM E H0)⟩
theorem Ku(E:Env)(H0:List ab)(ids:List Nat):∀ l h,h<(E.X.r l).length→h<((iA E H0 ids).X.r l).length∧∀ q,((iA E H0 ids).X.r l)[h]? = some (some q)→(E.X.r l)[h]? = some (some q) :=
 fun l h d=>⟨by show h<(mM E H0 l).length; rw[VM]; exact d,fun q k=>(yh (E:=E) (H0:=H0) k).1⟩
theorem Kv{E:Env}{H0:List ab}{ids:List Nat}{b:Nat}(h:(iA E H0 ids).own b):E.own b:=by
 rcases h with⟨j,c,q⟩|⟨l,k,c,q⟩
 ·simp only [iA, bT] at q
  obtain⟨i,_,d⟩:=dN.1 q;rw[bG]at d;cases he:E.loc[i]? with
  |none=>rw[he]at d; cases d
  |some y=>rw[he]at d; simp at d; exact .inl ⟨i,c,by rw[he,d]⟩
 ·exact .inr ⟨l,k,c,(yh q).1⟩
def iB(ids:List Nat)(i:Nat):Bool := !ids.any (ae i)
theorem Kw{ids:List Nat}{i:Nat}(h:iB ids i=true):i∉ids:=by
 intro hm;have:ids.any (ae i)=true:=ia.2 ⟨i,hm,by simp⟩;simp[iB,this]at h
theorem Kx{E:Env}{H:List ah}(hH:E.H=aj H)(HE:ar E){ids:List Nat}(hn:ids.Nodup){os:List cf}{g:List G}(h:jn H (bK H ids) (iB ids) os ids=some (true,g))(rest:List G) :
  iz H (bK H ids) (iB ids) (ct os (g++rest)) E (iA E (aj (cF (ct os (g++rest)) os (g++rest))) ids) ∧
   ar (iA E (aj (cF (ct os (g++rest)) os (g++rest))) ids):=by
 obtain⟨p0,p1,p2,p3⟩:=uN h rest (ct os (g++rest));generalize J:iA E (aj (cF (ct os (g++rest)) os (g++rest))) ids=E0;have hElen:E.loc.length=H.length:=by rw[HE.len,hH,eD]
 have eids:(bK H ids).ids=ids:=rfl;have W:∀ j x,E0.loc[j]? = some x→j<ids.length∧∃ i,ids[j]? = some i∧E.loc.getD i none=x:=by
  intro j x I;rw[←J]at I;simp only[iA,bT]at I;obtain⟨i,h1,B⟩:=dN.1 I;exact⟨aI h1,i,h1,B⟩
 have getD_some:∀{i:Nat} {x:Nat × Nat},E.loc.getD i none=some x→E.loc[i]? = some (some x):=by
  intro i x I;rw[bG]at I;cases he:E.loc[i]? with
  |none=>rw[he]at I; cases I
  |some y=>rw[he]at I; simp at I; rw[I]
 have hown:∀ b,E0.own b→E.own b:=by
  rintro b (⟨j,c,u⟩|⟨l,k,c,u⟩)
  ·obtain ⟨_, i, _, B⟩ := W j _ u
   exact .inl ⟨i,c,getD_some B⟩
  ·rw [← J] at u
   exact .inr ⟨l,k,c,(yh u).1⟩
 have hw:E0.w=E.w:=by rw[←J]; rfl
 have hX:E0.X.x=E.X.x:=by rw[←J]; rfl
 have V:∀(l k:Nat) q,(E0.X.r l)[k]? = some (some q)→(E.X.r l)[k]? = some (some q)∧∃(j:Nat) (o:ab),E0.H[j]? = some o∧o.label=some l:=fun l k q hq=>by
  rw[←J]at hq⊢;exact yh hq
 have hatl:∀ j,j<ids.length→ids[j]? = some ((bK H ids).at j):=fun j u=>gH (e:=bK H ids) u;have hobjs:∀ j,j<ids.length→∃ sh o g1 M,os[j]? = some sh∧H[(bK H ids).at j]? = some o∧gI H (bK H ids) (iB ids) sh o=some (true,g1) ∧
   (cF (ct os (g++rest)) os (g++rest))[j]? = some (eZ (ct os (g++rest)) sh (g1++M)) ∧
   (ct os (g++rest)).ad j=sh.up∧∀ ks v rows,o=.vec ks v rows→(ct os (g++rest)).len j=rows.length:=by
  intro j u;have hj':j<os.length:=by omega
  obtain⟨i,o,g1,M,q1,N,U,O,q5,q6⟩:=p3 j os[j] (bt hj');rw[hatl j u]at q1;cases q1;exact⟨os[j],o,g1,M,bt hj',N,U,O,q5,q6⟩
 have hK:iz H (bK H ids) (iB ids) (ct os (g++rest)) E E0:=by
  refine⟨hH,HE,fun i hi b n hb=>?_,⟨fun b hb=>⟨⟨by rw[hw]; exact hb.1,fun ho=>hb.2.1 (hown b ho),by rw[hX]; exact hb.2.2⟩,by rw[hw]⟩,hw,fun j u=>?_,fun j o l h1 B=>by rw[←J]at h1⊢; exact VL h1 B⟩,fun j o ho=>?_⟩
  ·refine ⟨by rw [hw]; exact (HE.lt _ _ _ hb).1, ?_, by rw [hX]; exact (HE.lt _ _ _ hb).2⟩
   rintro(⟨j,c,u⟩|⟨l,k,c,u⟩)
   case inr=>exact HE.cP _ _ _ _ _ _ hb (V l k _ u).1
   obtain⟨_,i',h1,B⟩:=W j _ u;have:=HE.inj _ _ _ _ _ hb (getD_some B);subst this;exact Kw hi (eB h1)
  ·rw [← J]
   simp only[iA,bT,hatl j u,dO];have hlt:(bK H ids).at j<E.loc.length:=by
    obtain⟨sh,o,g1,M,_,N,_⟩:=hobjs j u;rw[hElen];exact aI N
   rw[bG,bt hlt];rfl
  ·have u:j<ids.length:=by
    rcases jy j ids.length with hlt|hge
    ·exact hlt
    ·have h1 := aI ho
     have B:=rN (e:=bK H ids) hge;have h3:(bK H ids).base=H.length:=rfl;omega
   refine⟨u,?_⟩;obtain⟨sh,o',g1,M,q1,N,U,O,q5,q6⟩:=hobjs j u;rw[ho]at N;cases N;obtain⟨r1,r2,r3⟩:=C1 (lens:=ct os (g++rest)) (d:=g1++M) U;have hq4:E0.H[j]? = some (eZ (ct os (g++rest)) sh (g1++M)).den:=by
    rw[←J];exact a_ O
   exact⟨r1,⟨_,hq4,by rw[q5]; exact r2⟩,fun o0 h0=>by rw[hq4]at h0; cases h0; rw[CY,CZ U],q6,fun hv=>by rw[q5]; exact r3 hv⟩
 have hlabs:∀(j:Nat) o,E0.H[j]? = some o→j<ids.length∧∃ o',E.H[(bK H ids).at j]? = some o'∧o'.label=o.label:=fun j o ho=>by
  rw[←J]at ho;simp only[iA,aj,bT]at ho;obtain⟨o',h1,rfl⟩:=dN.1 ho;have u:j<ids.length:=by
   have:=aI h1;omega
  obtain⟨sh,oo,g1,M,q1,N,U,O,_⟩:=hobjs j u;rw[h1]at O;cases O;exact⟨u,oo.den,by rw[hH]; exact a_ N,by rw[Kn U,rP]⟩
 refine⟨hK,?_,?_,?_,fun b I=>?_,fun j o ho=>?_,HE.fb.bF hK.c7.bF,fun l k l' k' b m n h1 B=>HE.eC l k l' k' b m n (V _ _ _ h1).1 (V _ _ _ B).1,fun i b m l k n hi B=>?_,fun l k b m h1=>by rw[hw,hX]; exact HE.ch l k b m (V _ _ _ h1).1,fun i j o o' l hi u h1 B=>?_,fun l hn k q hq=>?_⟩
 ·rw [← J]
  simp only[iA,cN,eD,p2,p1]
 ·intro i j b m n hi u
  obtain⟨i1,i2,i3,i4⟩:=W i _ hi;obtain⟨j1,j2,j3,j4⟩:=W j _ u;have:=HE.inj _ _ _ _ _ (getD_some i4) (getD_some j4);subst this;exact(AR i1 hn).1 (by rw[i3,j3])
 ·intro i b m hi
  obtain⟨_,i2,_,i4⟩:=W i _ hi;rw[hw,hX];exact HE.lt _ _ _ (getD_some i4)
 ·rw [hw]
  rw[hX]at I;exact HE.X b I
 ·rw [← J] at ho
  simp only[iA,aj,bT]at ho;obtain⟨o',h1,rfl⟩:=dN.1 ho;have u:j<ids.length:=by
   have:=aI h1;omega
  obtain⟨sh,oo,g1,M,q1,N,U,O,q5,q6⟩:=hobjs j u;rw[h1]at O;cases O;refine Ks hK U M (by exact u) (fun l hl=>?_) (HE.obj _ _ (by rw[hH]; exact a_ N));refine hK.c7.jm j (eZ (ct os (g++rest)) sh (g1++M)).den l ?_ (by rw[rP,hl]);rw[←J];exact a_ h1
 ·obtain ⟨_, i', _, h3⟩ := W i _ hi
  exact HE.cP _ _ _ _ _ _ (getD_some h3) (V _ _ _ B).1
 ·obtain ⟨i1, oi, a1, a2⟩ := hlabs i o hi
  obtain⟨j1,oj,b1,b2⟩:=hlabs j o' u;have:=HE.uniq _ _ _ _ l a1 b1 (by rw[a2,h1]) (by rw[b2,B]);exact(AR i1 hn).1 (by rw[hatl i i1,hatl j j1,this])
 ·obtain ⟨_, j, o, h1, B⟩ := V l k q hq
  exact hn j o h1 B
def nodupB:List Nat→Bool
 | []=>true
 |i::is => !is.any (ae i)&&nodupB is
theorem rU:∀{l:List Nat},nodupB l=true→l.Nodup
 | [],_=>List.nodup_nil
 | i::is,h=>by
  simp only[nodupB,ax,oW]at h;refine kK.2 ⟨fun hm=>?_,rU h.2⟩;have:is.any (ae i)=true:=ia.2 ⟨i,hm,by simp⟩;rw[h.1]at this;cases this
def mN(H:List ah):Nat→Nat→List Nat→List cf→Bool
 |_,0,_,_=>true
 |i,m+1,id::ids,o::os=>ae id i&&((ae (rR H i) 0 || !ae o.up 0)&&mN H (i+1) m ids os)
 |_,_,_,_=>false
theorem yk{H:List ah}:∀{i m:Nat} {ids:List Nat} {os:List cf},mN H i m ids os=true→∀ j,j<m→ids[j]? = some (i+j)∧∃ o,os[j]? = some o∧(rR H (i+j)=0∨o.up≠0)
 |_,0,_,_,_,j,k=>by omega
 | i,m+1,id::ids,o::os,h,j,k=>by
  simp only[mN,ax,Bool.or_eq_true,oW]at h;obtain⟨h1,d,q⟩:=h;have h1:=bk h1;subst h1;cases j with
  | zero =>
   refine⟨rfl,o,rfl,?_⟩;rcases d with d|d
   ·exact .inl (bk d)
   ·right
    intro e;rw[e]at d;cases d
  | succ j =>
   have:=yk q j (by omega);rw[show id+1+j=id+(j+1) from by omega]at this;simpa using this
 |_,_+1,[],_,h,_,_=>by simp[mN]at h
 |_,_+1,_::_,[],h,_,_=>by simp[mN]at h
theorem Ky{E:Env}{H:List ah}(hH:E.H=aj H){ids:List Nat}{os:List cf}{m:Nat}{lens:c6}{E0:Env}(B:iz H (bK H ids) (iB ids) lens E E0)(hX:E0.X.x=E.X.x∧E0.X.z=E.X.z)
  (hrl:∀ l h,h<(E.X.r l).length→h<(E0.X.r l).length∧∀ q,(E0.X.r l)[h]? = some (some q)→(E.X.r l)[h]? = some (some q))
  (bY:mN H 0 m ids os=true) (W:∀ j,j<m→∃ o sh,H[(bK H ids).at j]? = some o∧os[j]? = some sh∧lens.ad j=sh.up) (hown:∀ b,E0.own b→E.own b):E.dx m E0:=by
 have key:∀ id,id<m→(bK H ids).at id=id∧∃ o sh,H[id]? = some o∧os[id]? = some sh∧lens.ad id=sh.up∧(rQ o=0∨sh.up≠0)∧yg E0 lens id o∧id<ids.length:=by
  intro id hid;obtain⟨h1,o',N,I⟩:=yk bY id hid;rw[cW]at h1 I;have M:=aI h1;have k:=gH (e:=bK H ids) (j:=id) M;rw[show (bK H ids).ids=ids from rfl,h1]at k;have k:=(gx k).symm;obtain⟨o,sh,d,u,J⟩:=W id hid;obtain⟨r1,r2⟩:=B.obj id o d;rw[k]at d;rw[N]at u;have u:=gx u;rw[←u]at J;refine⟨k,o,o',d,N,J,?_,r2,M⟩;rcases I with I|I
  ·left
   simpa[rR,d]using I
  ·exact .inr I
 refine⟨fun id hid hp=>?_,by rw[B.c7.w]; exact aD _,fun b _ _=>by rw[B.c7.w],fun b _ hb ho=>hb (hown b ho),fun id hid hp hl=>?_,fun b _=>by rw[hX.1,hX.2]; exact⟨Iff.rfl,Iff.rfl⟩,hrl,by rw[B.c7.w]; exact⟨rfl,rfl,rfl,by first|exact fun _=>aD _|exact fun _=>eR _ _⟩,fun id hid l o h1 N _=>?_⟩
 rotate_right
 ·obtain ⟨k, o1, sh, d, u, J, O, y, M⟩ := key id hid
  obtain⟨o0,r1,r2⟩:=y.obj;rw[hH,a_ d]at h1;cases h1;have hm:=y.mm o0 r1;rw[N]at hm;exact⟨⟨[],by rw[db]; exact B.c7.jm id o0 l r1 (ab.kM hm)⟩,o0,r1,hm⟩
 ·obtain ⟨_, o, sh, d, u, J, O, y, _⟩ := key id hid
  obtain⟨o0,r1,r2⟩:=y.obj;exact⟨o0,r1,ab.A8 r2,fun v _=>eI v⟩
 ·obtain ⟨k, o, sh, d, u, J, O, y, M⟩ := key id hid
  obtain⟨o0,r1,r2⟩:=y.obj;obtain⟨o1,r3,U⟩:=hl;rw[r1]at r3;cases r3;rw[r2]at U;have V:lens.ad id=0:=gx U;rw[J]at V;have hv:rQ o=0:=O.resolve_right (fun h=>h V);refine⟨⟨o.den,by rw[hH]; exact a_ d,by rw[y.ad,hv]⟩,?_⟩;have:=B.c7.loc id M;rw[k]at this;exact this
structure mO where
 n:Nat
 uO:List (Nat × Sh)
 cI:List cf
def rV:Nat→List (Nat × Sh)→List AV→AV
 | i,(j,_)::d,v::vs=>match ae i j with
  |true=>v
  |false=>rV i d vs
 |_,_,_=>.undef
def aN(S:mO)(d:List G):al :=
 ⟨(dP S.n).map fun i=>rV i S.uO (eY (ct S.cI d) (S.uO.map (·.2)) (eg (lN S.cI) d)),cF (ct S.cI d) S.cI d⟩
def C2(m:Nat)(S:mO)(ids:List Nat)(s:al):Option (Bool × List G) :=
 match ae s.fr.length S.n&&(nodupB ids&&mN s.H 0 m ids S.cI)with
 |false=>none
 | true=>match jn s.H (bK s.H ids) (iB ids) S.cI ids,eA s.H (bK s.H ids) (iB ids) (S.uO.map (·.2)) (S.uO.map fun p=>s.fr.getD p.1 .undef) with
  |some (b,g),some (d,h)=>some (b&&d,g++h)
  |_,_=>none
theorem Kz{E:Env}:∀{d:List (Nat × Sh)} {vs:List AV} {cs:List Value} {i:Nat} {c:Value},(∀(k:Nat) (p:Nat × Sh) (v:AV),d[k]? = some p→vs[k]? = some v→∀ c,cs[p.1]? = some c→rel E v c)→cs[i]? = some c →
  rel E (rV i d vs) c
 | [],_,_,_,_,_,_=>by simp[rV,rel]
 |_::_,[],_,_,_,_,_=>by simp[rV,rel]
 | (j,sh)::d,v::vs,cs,i,c,h,q=>by
  simp only[rV];split
  ·rename_i e
   have e:=bk e;subst e;exact h 0 (i,sh) v rfl rfl c q
  ·exact Kz (fun k p v hk u=>h (k+1) p v (by simpa using hk) (by simpa using u)) q
theorem VN{m:Nat}{S:mO}{ids:List Nat}{s:al}{d:List G}(h:C2 m S ids s=some (true,d)):be m s.den (aN S d).den:=fun E a y=>by
 unfold C2 at h;split at h
 ·cases h
 rename_i q;simp only[ax]at q;obtain⟨hlen,B,bY⟩:=q;have hlen:=bk hlen;have B:=rU B;split at h
 case h_2=>cases h
 rename_i b g b' u h1 O;simp only[aQ,a7,ax]at h;obtain⟨⟨rfl,rfl⟩,rfl⟩:=h;have hH:E.H=aj s.H:=y.H;obtain⟨J,V⟩:=Kx hH y.heap B h1 u;obtain⟨p0,p1,p2,p3⟩:=uN h1 u (ct S.cI (g++u));have hd:eg (lN S.cI) (g++u)=u:=by rw[←p0]; exact n4 g u
 have U:=uM J O [];rw[db]at U;obtain⟨q1,q2,q3,q4⟩:=U;refine⟨ids.map fun i=>E.loc.getD i none,E.X.re (mM E (aN S (g++u)).den.H),⟨rfl,?_,y.defers,V⟩,?_⟩
 ·have W : af E s.fr a.tmps.toList := y.fr
  obtain⟨f1,f2⟩:=mv.1 W;refine mv.2 ⟨?_,fun i x c hi q=>?_⟩
  ·simp only [al.den, aN, cN, List.length_range]
   omega
  ·simp only [al.den, aN, hd, bT] at hi
   obtain⟨i',I,rfl⟩:=dN.1 hi;have hin:i<S.n:=by
    have:=aI I;simpa using this
   rw[List.getElem?_range hin]at I;cases I;refine Kz (cs:=a.tmps.toList) (fun k p v hk hv c q=>?_) q;have hk2:(S.uO.map fun p=>s.fr.getD p.1 .undef)[k]? = some (s.fr.getD p.1 .undef):=by simp[hk]
   have hx:rel E (s.fr.getD p.1 .undef) c:=by
    have M:=aI q;rw[←f1]at M;have e1:s.fr[p.1]? = some (s.fr.getD p.1 .undef):=by
     rw[bG,bt M];rfl
    exact f2 p.1 _ c e1 q
   exact Kr J O hk2 (by rw[db]; exact hv) hx
 ·exact Ky hH J ⟨rfl,rfl⟩ (Ku E _ ids) bY (fun j hj=>by
   obtain⟨r1,o',r2,_⟩:=yk bY j hj;obtain⟨i,o,g1,rest1,t1,t2,t3,t4,t5,t6⟩:=p3 j o' r2;have N:=gH (e:=bK s.H ids) (j:=j) (aI t1);rw[show (bK s.H ids).ids=ids from rfl,t1]at N;cases N;exact⟨o,o',t2,r2,t5⟩) (fun b=>Kv)
/-! ### d array under a slice, cut to h slice -/
def C3(slot:Nat)(s:al):al :=
 match s.fr.getD slot .undef with
 | .vec w id ad off n=>match s.H[id]? with
  |some (.vec ks v rows)=>if ad=v∧off=0∧w=ks.length then ⟨s.fr.set slot (.vec w id (v+1) 0 n),s.H.set id (.vec ks (v+1) (rows.take n))⟩ else s
  |_=>s
 |_=>s
theorem ym{E:Env}{a:AV}:∀{fr:List AV} {cs:List Value} {i:Nat},af E fr cs→(∀ c,cs[i]? = some c→rel E a c)→af E (fr.set i a) cs
 | [],cs,i,h,_=>by simpa using h
 |x::fr,[],i,h,_=>by simp[af]at h
 | x::fr,c::cs,0,h,ha=>by
  simp only[af]at h;simp only[List.set_cons_zero,af];exact⟨ha c rfl,h.2⟩
 | x::fr,c::cs,i+1,h,ha=>by
  simp only[af]at h;simp only[List.set_cons_succ,af];exact⟨h.1,ym h.2 fun y d=>ha y (by simpa using d)⟩
theorem C4{E:Env}{fr:List AV}{cs:List Value}{i:Nat}{c:Value}(h:af E fr cs)(k:cs[i]? = some c):rel E (fr.getD i .undef) c:=by
 obtain⟨h1,q⟩:=mv.1 h;have d:=aI k;rw[←h1]at d;have u:fr[i]? = some (fr.getD i .undef):=by
  rw[bG,bt d];rfl
 exact q i _ c u k
theorem VO{m:Nat}{slot:Nat}{s:al}:be m s.den (C3 slot s).den:=by
 unfold C3;split
 case h_2=>exact be.refl _
 rename_i w id ad off n W;split
 case h_2=>exact be.refl _
 rename_i ks v rows hid;split
 case isFalse=>exact be.refl _
 rename_i y;obtain⟨rfl,rfl,rfl⟩:=y;intro E a d;have hH:E.H=aj s.H:=d.H;have q:E.H[id]? = some (.vec ks.length ad (rows.map (aH ks))):=by rw[hH]; exact a_ hid
 have ho:=d.heap.obj id _ q;obtain⟨l,B⟩:∃ l,E.loc[id]? = some l:=by
  have:id<E.loc.length:=by rw[d.heap.len]; exact aI q
  exact⟨_,bt this⟩
 have M:E.loc.set id l=E.loc:=lG B;have J:aj (s.H.set id (.vec ks (ad+1) (rows.take n)))=E.H.set id (.vec ks.length (ad+1) ((rows.take n).map (aH ks))):=by rw[c5,hH]; rfl
 have hlc:∀ b n,l=some (b,n)→E.w.heap.size≤b∨∃ m,E.loc[id]? = some (some (b,m)):=fun b n hb=>.inr ⟨n,by rw[B,hb]⟩;have N:∀ v u,(ab.vec ks.length (ad+1) ((rows.take n).map (aH ks))).aF = some v→(ab.vec ks.length ad (rows.map (aH ks))).aF = some u→u≤v:=by
  intro v u h1 k;simp[ab.aF]at h1 k;omega
 have O:∀ v,(ab.vec ks.length (ad+1) ((rows.take n).map (aH ks))).aF = some v→∀ u,(ab.vec ks.length ad (rows.map (aH ks))).aF = some u→u<v:=by
  intro v h1 u k;simp[ab.aF]at h1 k;omega
 have hle:=Env.jD (o':=.vec ks.length (ad+1) ((rows.take n).map (aH ks))) (l:=l) (w':=E.w) q d.heap.len (aD _) (fun _ _ _=>rfl) hlc (.inr O) N (fun _ h=>by simp[ab.aF]at h);have U:=ar.kP (o':=.vec ks.length (ad+1) ((rows.take n).map (aH ks))) (l:=l) (w':=E.w) d.heap q (aD _) (fun _ _ _=>rfl) (fun b n hb=>.inr ⟨n,by rw[B,hb]⟩) (.inr O) N (fun _ h=>by simp[ab.aF]at h) (by
  rw[M]at hle⊢;simp only[aJ]at ho⊢;rcases ho with⟨h1,k⟩|⟨b,mm,h1,k,I,h4,V⟩
  ·left
   refine⟨h1,?_⟩;have:rows=[]:=by simpa using k
   rw[this];simp
  ·right
   refine⟨b,mm,h1,k,by simp at I⊢; omega,?_,?_⟩
   ·intro r hr
    obtain⟨g,_,rfl⟩:=cV.1 hr;exact fG ks g
   ·rw [lz] at V ⊢
    intro i r hi;simp only[bT,nf]at hi;split at hi
    ·obtain ⟨g1, g2⟩ := V i r (by simpa using hi)
     exact⟨g1,tH (fun a c hr=>bH hle a hr) rfl g2⟩
    ·simp at hi)
 rw[M]at hle U;refine⟨E.loc,E.X,?_,?_⟩
 ·simp only [al.den]
  rw[J];refine⟨rfl,?_,d.defers,U⟩;refine ym (dw hle _ d.fr) fun c y=>?_;have hr:=C4 d.fr y;rw[show s.den.fr=s.fr from rfl,W]at hr;simp only[rel]at hr⊢;obtain⟨h1,k,I⟩:=hr;exact⟨h1,⟨.vec ks.length (ad+1) ((rows.take n).map (aH ks)),bx (aI q),rfl,fun v hv=>by simp[ab.aF]at hv; omega⟩,fun _=>I ⟨_,q,rfl⟩⟩
 ·simp only [al.den]
  rw[J];exact hle.toM
end Go.AL

namespace Go.AL
open Go
variable [Dr]
def Tree.leaf{β:Type}(f:bL→al→Option (Bool × β)):Tree→Option β
 |.fail=>none
 | .done x s=>match f x s with
  |some (b,r)=>bif b then some r else none
  |none=>none
 |.ask b t e=>bif b then t.leaf f else e.leaf f
 |.side b t=>bif b then t.leaf f else none
theorem n_{β:Type}{f:bL→al→Option (Bool × β)}:∀{t:Tree} {r:β},t.leaf f=some r→t.holds fun x s=>f x s=some (true,r)
 |.fail,_,h=>by cases h
 | .done x s,r,h=>by
  simp only[Tree.leaf]at h;split at h
  ·rename_i b r' d
   cases b with
   |true=>cases h; exact d
   |false=>cases h
  ·cases h
 | .ask b t e,r,h=>by
  cases b with
  |true=>exact⟨fun _=>n_ (t:=t) h,fun h=>by cases h⟩
  |false=>exact⟨fun h=>(nomatch h),fun _=>n_ (t:=e) h⟩
 | .side b t,r,h=>by
  cases b with
  |true=>exact And.intro rfl (n_ (t:=t) h)
  |false=>cases h
inductive jM where
 |fix (i:Nat)
 |slot (i:Nat)
 |cap (i c:Nat)
 |cell (j c:Nat)
 |C5 (j c k:Nat)
def yn:AV→Option Nat
 |.ptr id _ _ _ _=>some id
 |.vec _ id _ _ _=>some id
 |.map id=>some id
 |_=>none
def yo(H:List ah)(vals:Nat→AV)(acc:List Nat):jM→Option Nat
 |.fix i=>some i
 |.slot i=>yn (vals i)
 | .cap i c=>match vals i with
  |.clo _ cs=>yn (cs.getD c .undef)
  |_=>none
 | .cell j c=>match H[acc.getD j 0]? with
  |some (.raw (.box cells))=>yn (cells.getD c .undef)
  |_=>none
 | .C5 j c k=>match H[acc.getD j 0]? with
  | some (.raw (.box cells))=>match cells.getD c .undef with
   |.clo _ cs=>yn (cs.getD k .undef)
   |_=>none
  |_=>none
def jo(H:List ah)(vals:Nat→AV):List jM→List Nat→Option (List Nat)
 | [],acc=>some acc
 | p::ps,acc=>match yo H vals acc p with
  |some i=>jo H vals ps (acc++[i])
  |none=>none
/-! ### d -/
structure rW where
 x:bL
 S:mO
 ps:List jM
structure bz where
 key:Nat
 opens:List (Nat × List Kd)
 inv:mO
 ps:List jM
 outs:List rW
 st:List G→Option (Option Nat × List G)
def pP(st:List G→Option (Option Nat × List G)):Nat→List G→Option (Nat × List G)
 |0,_=>none
 | n+1,d=>match st d with
  |some (none,d')=>pP st n d'
  |some (some x,d')=>some (x,d')
  |none=>none
def bV(st:List G→Option (Option Nat × List G))(d:List G):Option (Nat × List G):=pP st 1000000 d
def C6(r:Option (Nat × List G)):Nat:=match r with
 |some (x,_)=>x
 |none=>0
def C7(r:Option (Nat × List G)):List G:=match r with
 |some (_,d)=>d
 |none=>[]
def iC(m:Nat)(S:mO)(ps:List jM)(s:al):Option (Bool × List G) :=
 match jo s.H (fun i=>s.fr.getD i .undef) ps []with
 |some ids=>C2 m S ids s
 |none=>none
theorem lO{m:Nat}{S:mO}{ps:List jM}{s:al}{d:List G}(h:iC m S ps s=some (true,d)):be m s.den (aN S d).den:=by
 unfold iC at h;split at h
 ·exact VN h
 ·cases h
def gJ:List (Nat × List Kd)→al→al
 | [],s=>s
 | (i,ks)::r,s=>match ep 1000000 i with
  |true=>gJ r (C3 (i-1000000) s)
  | false=>match isNil (s.fr.getD i .undef) with
   |true=>gJ r (uJ i ks s)
   |false=>gJ r s
theorem lP{m:Nat}:∀(l:List (Nat × List Kd)) (s:al),be m s.den (gJ l s).den
 | [],s=>be.refl _
 | (i,ks)::r,s=>by
  simp only[gJ];split
  ·exact VO.trans (lP r _)
  ·split
   ·rename_i h
    exact(J9 h).trans (lP r _)
   ·exact lP r s
def pQ(m:Nat):List rW→Nat→bL→al→Option (Bool × (Option Nat × List G))
 | [],_,_,_=>none
 | o::os,i,x,s=>match decide (x=o.x) with
  | true=>match iC m o.S o.ps s with
   |some (b,d)=>some (b,(some i,d))
   |none=>none
  |false=>pQ m os (i+1) x s
def yp(m:Nat)(sp:bz)(x:bL)(s:al):Option (Bool × (Option Nat × List G)) :=
 match x with
 | .normal=>match iC m sp.inv sp.ps s with
  |some (b,d)=>some (b,(none,d))
  |none=>none
 |x=>pQ m sp.outs 0 x (gJ sp.opens s)
theorem yq{m:Nat}:∀{os:List rW} {i:Nat} {x:bL} {s:al} {b:Bool} {k:Option Nat} {d:List G},pQ m os i x s=some (b,(k,d)) →
  ∃ j o,os[j]? = some o∧k=some (i+j)∧x=o.x∧iC m o.S o.ps s=some (b,d)
 | [],_,_,_,_,_,_,h=>by cases h
 | o::os,i,x,s,b,k,d,h=>by
  simp only[pQ]at h;split at h
  ·rename_i q
   split at h
   ·rename_i B d' hr
    cases h;exact⟨0,o,rfl,rfl,of_decide_eq_true q,hr⟩
   ·cases h
  ·obtain ⟨j, o', h1, u, v, y⟩ := yq h
   exact⟨j+1,o',by simpa using h1,by rw[u]; congr 1; omega,v,y⟩
section loops
variable {P:Program} {τ:ak} {L:LT} {m:Nat} {c:Code} {sp:bz}
def cy(P:Program)(τ:ak)(L:LT)(m:Nat)(c:Code)(sp:bz):Prop:=∀ d,(ed P τ L c (aN sp.inv d) .done).leaf (yp m sp)=sp.st d
theorem KA(hm:P.follows .mixedOrders=true)(u:aq P τ)(v:aA P m L c)(hr:cy P τ L m c sp){d d':List G}{k:Option Nat}(h:sp.st d=some (k,d')) :
  (k = none ∧ cM P m c (aN sp.inv d).den .normal (aN sp.inv d').den) ∨
   ∃ j o,k=some j∧sp.outs[j]? = some o∧o.x≠.normal∧cM P m c (aN sp.inv d).den o.x (aN o.S d').den:=by
 rw[←hr d]at h;obtain⟨x,s1,h1,q⟩:=gV hm u c (aN sp.inv d) .done v (Q:=fun x s=>yp m sp x s=some (true,(k,d'))) (n_ h);have q:yp m sp x s1=some (true,(k,d')):=q;unfold yp at q;split at q
 ·split at q
  ·rename_i b d2 y
   cases q;exact .inl ⟨rfl,rk h1 (lO y)⟩
  ·cases q
 ·rename_i B
  obtain⟨j,o,g1,g2,rfl,g4⟩:=yq q;exact .inr ⟨j,o,by simpa using g2,g1,fun e=>B e,rk h1 ((lP sp.opens s1).trans (lO g4))⟩
theorem KB(hm:P.follows .mixedOrders=true)(k:aq P τ)(q:aA P m L c)(hr:cy P τ L m c sp):∀(n:Nat) {d d':List G} {x:Nat},pP sp.st n d=some (x,d') →
  ∃ o,sp.outs[x]? = some o∧j_ P m c (aN sp.inv d).den o.x (aN o.S d').den
 |0,_,_,_,h=>by cases h
 | n+1,d,d',x,h=>by
  simp only[pP]at h;split at h
  ·rename_i d1 h1
   rcases KA hm k q hr h1 with⟨_,u⟩|⟨_,_,hk,_⟩
   ·obtain ⟨o, g1, g2⟩ := KB hm k q hr n h
    exact⟨o,g1,.next u g2⟩
   ·cases hk
  ·rename_i v d1 h1
   cases h;rcases KA hm k q hr h1 with⟨hk,_⟩|⟨j,o,hk,g1,g2,g3⟩
   ·cases hk
   ·cases hk
    exact⟨o,g1,.stop g3 g2⟩
  ·cases h
def uP(r:Option (Nat × List G)):List rW→Nat→Tree
 | [],_=>.fail
 | [o],_=>.done o.x (aN o.S (C7 r))
 |o::os,i=>.ask (ae (C6 r) i) (.done o.x (aN o.S (C7 r))) (uP r os (i+1))
theorem yr{x:Nat}{d:List G}{Q:bL→al→Prop}:∀{os:List rW} {i j:Nat} {o:rW},os[j]? = some o→x=i+j→(uP (some (x,d)) os i).holds Q→Q o.x (aN o.S d)
 | [],_,_,_,h,_,_=>by simp at h
 | [o],i,j,o',h,q,k=>by
  cases j with
  | zero =>
   simp at h;subst h;exact k
  |succ j=>simp at h
 | o::o2::os,i,j,o',h,q,k=>by
  simp only[uP,Tree.holds]at k;cases j with
  | zero =>
   simp at h;subst h;exact k.1 (by simp only[C6]; rw[q]; simp)
  | succ j =>
   refine yr (os:=o2::os) (i:=i+1) (j:=j) (by simpa using h) (by omega) (k.2 ?_);have:x≠i:=by omega
   exact ag1.2 fun e=>this (bk e)
def C8(m:Nat)(sp:bz)(s:al):Option Tree :=
 match iC m sp.inv sp.ps (gJ sp.opens s)with
 |some (b,d)=>some (.side (rS b (bV sp.st d).isSome) (uP (bV sp.st d) sp.outs 0))
 |none=>none
theorem VP(hm:P.follows .mixedOrders=true)(v:aq P τ)(y:aA P m L c)(hr:cy P τ L m c sp){s:al}{t:Tree}(h:C8 m sp s=some t):JN P m c s t:=by
 unfold C8 at h;split at h
 case h_2=>cases h
 rename_i b d B;cases h;intro Q q;simp only[Tree.holds,rT,ax]at q;obtain⟨⟨rfl,h1⟩,u⟩:=q;cases k:bV sp.st d with
 |none=>rw[k]at h1; cases h1
 | some r =>
  obtain⟨x,d'⟩:=r;obtain⟨o,g1,g2⟩:=KB hm v y hr 1000000 k;exact⟨o.x,_,g2.pre ((lP sp.opens s).trans (lO B)),yr g1 (cW x).symm (by rw[k]at u; exact u)⟩
def LT.add(L:LT)(m:Nat)(sp:bz):LT:=⟨fun k s=>match ae k sp.key with
 |true=>C8 m sp s
 |false=>L.loops k s,L.pre,L.uG⟩
theorem oa:∀{c:Code} {k:Nat} {q:Code},(k,q)∈bM c→∀ p,p∈bM q→p∈bM c
 | .seq a b,k,q,h,p,d=>by
  simp only[bM,cZ]at h⊢;rcases h with h|h
  ·exact .inl (oa h p d)
  ·exact .inr (oa h p d)
 | .cond _ a b,k,q,h,p,d=>by
  simp only[bM,cZ]at h⊢;rcases h with h|h
  ·exact .inl (oa h p d)
  ·exact .inr (oa h p d)
 | .block _ c,k,q,h,p,d=>by
  simp only[bM]at h⊢;exact oa h p d
 | .loop c,k,q,h,p,d=>by
  simp only[bM]at h⊢;split at h
  ·rename_i i hi
   rcases bR.1 h with e|h
   ·cases e
    exact c9 _ d
   ·exact c9 _ (oa h p d)
  ·exact oa h p d
 |.skip,_,_,h,_,_=>by simp[bM]at h
 |.region ..,_,_,h,_,_=>by simp[bM]at h
 |.exit _,_,_,h,_,_=>by simp[bM]at h
 |.ret,_,_,h,_,_=>by simp[bM]at h
 |.rangeFunc ..,_,_,h,_,_=>by simp[bM]at h
 |.scope _,_,_,h,_,_=>by simp[bM]at h
 |.label _,_,_,h,_,_=>by simp[bM]at h
 |.goto _,_,_,h,_,_=>by simp[bM]at h
 |.refuse _,_,_,h,_,_=>by simp[bM]at h
theorem ob:∀{c:Code} {k:Nat} {q:Code},(k,q)∈bM c→∀ p,p∈bI q→p∈bI c
 | .seq a b,k,q,h,p,d=>by
  simp only[bM,bI,cZ]at h⊢;rcases h with h|h
  ·exact .inl (ob h p d)
  ·exact .inr (.inr (ob h p d))
 | .cond _ a b,k,q,h,p,d=>by
  simp only[bM,bI,cZ]at h⊢;rcases h with h|h
  ·exact .inl (ob h p d)
  ·exact .inr (ob h p d)
 | .block _ c,k,q,h,p,d=>by
  simp only[bM,bI]at h⊢;exact ob h p d
 | .loop c,k,q,h,p,d=>by
  simp only[bM,bI]at h⊢;split at h
  ·rename_i i hi
   rcases bR.1 h with e|h
   ·cases e
    exact d
   ·exact ob h p d
  ·exact ob h p d
 |.skip,_,_,h,_,_=>by simp[bM]at h
 |.region ..,_,_,h,_,_=>by simp[bM]at h
 |.exit _,_,_,h,_,_=>by simp[bM]at h
 |.ret,_,_,h,_,_=>by simp[bM]at h
 |.rangeFunc ..,_,_,h,_,_=>by simp[bM]at h
 |.scope _,_,_,h,_,_=>by simp[bM]at h
 |.label _,_,_,h,_,_=>by simp[bM]at h
 |.goto _,_,_,h,_,_=>by simp[bM]at h
 |.refuse _,_,_,h,_,_=>by simp[bM]at h
theorem od:∀{c:Code} {k:Nat} {q:Code},(k,q)∈bI c→∀ p,p∈bM q→p∈bM c
 | .seq a b,k,q,h,p,d=>by
  simp only[bM,bI,cZ]at h⊢;rcases h with h|h|h
  ·exact .inl (od h p d)
  ·right
   split at h
   ·rcases bR.1 h with e | h
    ·cases e
     exact d
    ·cases h
   ·cases h
  ·exact .inr (od h p d)
 | .cond _ a b,k,q,h,p,d=>by
  simp only[bM,bI,cZ]at h⊢;rcases h with h|h
  ·exact .inl (od h p d)
  ·exact .inr (od h p d)
 | .block _ c,k,q,h,p,d=>by
  simp only[bM,bI]at h⊢;exact od h p d
 | .loop c,k,q,h,p,d=>by
  simp only[bI]at h;have:=od h p d;simp only[bM];split
  ·exact c9 _ this
  ·exact this
 |.skip,_,_,h,_,_=>by simp[bI]at h
 |.region ..,_,_,h,_,_=>by simp[bI]at h
 |.exit _,_,_,h,_,_=>by simp[bI]at h
 |.ret,_,_,h,_,_=>by simp[bI]at h
 |.rangeFunc ..,_,_,h,_,_=>by simp[bI]at h
 |.scope _,_,_,h,_,_=>by simp[bI]at h
 |.label _,_,_,h,_,_=>by simp[bI]at h
 |.goto _,_,_,h,_,_=>by simp[bI]at h
 |.refuse _,_,_,h,_,_=>by simp[bI]at h
theorem oe:∀{c:Code} {k:Nat} {q:Code},(k,q)∈bI c→∀ p,p∈bI q→p∈bI c
 | .seq a b,k,q,h,p,d=>by
  simp only[bI,cZ]at h⊢;rcases h with h|h|h
  ·exact .inl (oe h p d)
  ·right
   right;split at h
   ·rcases bR.1 h with e | h
    ·cases e
     exact d
    ·cases h
   ·cases h
  ·exact .inr (.inr (oe h p d))
 | .cond _ a b,k,q,h,p,d=>by
  simp only[bI,cZ]at h⊢;rcases h with h|h
  ·exact .inl (oe h p d)
  ·exact .inr (oe h p d)
 | .block _ c,k,q,h,p,d=>by
  simp only[bI]at h⊢;exact oe h p d
 | .loop c,k,q,h,p,d=>by
  simp only[bI]at h⊢;exact oe h p d
 |.skip,_,_,h,_,_=>by simp[bI]at h
 |.region ..,_,_,h,_,_=>by simp[bI]at h
 |.exit _,_,_,h,_,_=>by simp[bI]at h
 |.ret,_,_,h,_,_=>by simp[bI]at h
 |.rangeFunc ..,_,_,h,_,_=>by simp[bI]at h
 |.scope _,_,_,h,_,_=>by simp[bI]at h
 |.label _,_,_,h,_,_=>by simp[bI]at h
 |.goto _,_,_,h,_,_=>by simp[bI]at h
 |.refuse _,_,_,h,_,_=>by simp[bI]at h
def aU(fn:Func):Code:=match fn.body with
 |some c=>c
 |none=>.skip
theorem VQ{fn:Func} (q:nodupB ((bM (aU fn)).map (·.1))=true) {k:Nat} {d:Code} (h:(k,d)∈bM (aU fn)):d=cD fn k:=by
 have key:∀(l:List (Nat × Code)),(l.map (·.1)).Nodup→(k,d)∈l→l.find? (fun p=>ae p.1 k)=some (k,d):=by
  intro l
  induction l with
  |nil=>intro _ h; cases h
  | cons p l v =>
   intro u hm;simp only[dg,kK]at u;rcases bR.1 hm with rfl|hm
   ·simp
   ·have aw:p.1≠k:=by
     intro e;exact u.1 (cV.2 ⟨(k,d),hm,e.symm⟩)
    have:ae p.1 k=false:=ag1.2 fun e=>aw (bk e);rw[ag2 (by simp[this])];exact v u.2 hm
 unfold cD;unfold aU at q h;split
 ·rename_i c hb
  rw[hb]at q h;simp only[]at q h;rw[key _ (rU q) h]
 ·rename_i hb
  rw[hb]at h;simp[bM]at h
theorem aA.add(hm:P.follows .mixedOrders=true)(q:aq P τ){fn:Func} (u:nodupB ((bM (aU fn)).map (·.1))=true) (h:aA P m L (aU fn)) (hr:cy P τ L m (cD fn sp.key) sp) :
  aA P m (L.add m sp) (aU fn):=by
 refine⟨fun k v hk s t d=>?_,h.2⟩;simp only[LT.add]at d;split at d
 ·rename_i e
  have e:=bk e;subst e;have y:=VQ u hk;rw[←y]at hr;exact VP hm q (h.sub (oa hk) (ob hk)) hr d
 ·exact h.1 k v hk s t d
/-! ### Code behind other code -/
def cutAt(fn:Func)(k:Nat):Code:=match fn.body with
 | some c=>match (bI c).find? fun p=>ae p.1 k with
  |some (_,b)=>b
  |none=>.skip
 |none=>.skip
def k_(k:Nat):List (Nat × Code)→Bool
 | []=>true
 | p::l=>match ae p.1 k with
  |true => !l.any (fun q=>ae q.1 k)
  |false=>k_ k l
theorem KC{k:Nat}{u:Code}:∀{l:List (Nat × Code)},k_ k l=true→(k,u)∈l→l.find? (fun p=>ae p.1 k)=some (k,u)
 | [],_,h=>by cases h
 | p::l,ho,hm=>by
  simp only[k_]at ho;cases d:ae p.1 k with
  | true =>
   rw[d]at ho;simp only[oW]at ho;rcases bR.1 hm with rfl|hm
   ·rw[List.find?_cons_of_pos (by simp)]
   ·have : l.any (fun q => ae q.1 k) = true := ia.2 ⟨(k, u), hm, by simp⟩
    rw[this]at ho;cases ho
  | false =>
   rw[d]at ho;rcases bR.1 hm with rfl|hm
   ·simp at d
   ·rw [ag2 (by simp [d])]
    exact KC ho hm
theorem C9{fn:Func}{k:Nat}{q:Code} (d:k_ k (bI (aU fn))=true) (h:(k,q)∈bI (aU fn)):q=cutAt fn k:=by
 unfold cutAt;unfold aU at d h;split
 ·rename_i c hb
  rw[hb]at d h;simp only[]at d h;rw[KC d h]
 ·rename_i hb
  rw[hb]at h;simp[bI]at h
def dn(r:Option (Option Nat × List G)):Option (Nat × List G):=match r with
 |some (some x,d)=>some (x,d)
 |_=>none
def uQ(m:Nat)(sp:bz)(s:al):Option Tree :=
 match iC m sp.inv sp.ps (gJ sp.opens s)with
 |some (b,d)=>some (.side (rS b (dn (sp.st d)).isSome) (uP (dn (sp.st d)) sp.outs 0))
 |none=>none
def gW(P:Program)(τ:ak)(L:LT)(m:Nat)(c:Code)(sp:bz):Prop:=∀ d,(ed P τ L c (aN sp.inv d) .done).leaf (pQ m sp.outs 0)=sp.st d
theorem VR(hm:P.follows .mixedOrders=true)(B:aq P τ)(I:aA P m L c)(hr:gW P τ L m c sp){s:al}{t:Tree}(h:uQ m sp s=some t):x3 P m c s t:=by
 unfold uQ at h;split at h
 case h_2=>cases h
 rename_i b d J;cases h;intro Q u;simp only[Tree.holds,rT,ax]at u;obtain⟨⟨rfl,h1⟩,v⟩:=u;cases q:sp.st d with
 |none=>rw[q]at h1; cases h1
 | some r =>
  obtain⟨k,d'⟩:=r;cases k with
  |none=>rw[q]at h1; cases h1
  | some i =>
   rw[←hr d]at q;obtain⟨x,s1,g1,g2⟩:=gV hm B c (aN sp.inv d) .done I (Q:=fun x s=>pQ m sp.outs 0 x s=some (true,(some i,d'))) (n_ q);obtain⟨j,o,M,y,N,O⟩:=yq g2;simp only[aQ,cW]at y;subst y;rw[hr d]at q;rw[q]at v;refine⟨o.x,(aN o.S d'),?_,yr M (cW i).symm v⟩;rw[←N];exact rj ((lP sp.opens s).trans (lO J)) (rk g1 (lO O))
def LT.fX(L:LT)(m:Nat)(sp:bz):LT:=⟨L.loops,L.pre,fun k s=>match ae k sp.key with
 |true=>uQ m sp s
 |false=>L.uG k s⟩
theorem aA.fX(hm:P.follows .mixedOrders=true)(q:aq P τ){fn:Func} (u:k_ sp.key (bI (aU fn))=true) (h:aA P m L (aU fn)) (hr:gW P τ L m (cutAt fn sp.key) sp) :
  aA P m (L.fX m sp) (aU fn):=by
 refine⟨h.1,h.2.1,fun k v hk s t d=>?_⟩;simp only[LT.fX]at d;split at d
 ·rename_i e
  have e:=bk e;subst e;have y:=C9 u hk;rw[←y]at hr;exact VR hm q (h.sub (od hk) (oe hk)) hr d
 ·exact h.2.2 k v hk s t d
end loops
/-! ### d -/
structure aG where
 f:FuncId
 args:List Sh
 cI:List cf
 ps:List jM
 res:List Sh
 fL:List cf
 VS:List jM
 opens:List (Nat × List Kd)
 F:List G→Option (List G)
def aG.args0(sp:aG)(d:List G):List AV:=eY (ct sp.cI d) sp.args (eg (lN sp.cI) d)
def aG.H0(sp:aG)(d:List G):List ah:=cF (ct sp.cI d) sp.cI d
def aG.out(sp:aG)(r:List G):AV:=df (eY (ct sp.fL r) sp.res (eg (lN sp.fL) r))
def aG.H1(sp:aG)(r:List G):List ah:=cF (ct sp.fL r) sp.fL r
def uR(P:Program)(rs:List ResultVar)(sp:aG)(x:bL)(s:al):Option (Bool × List G) :=
 match x with
 |.exit _=>none
 | _=>(fun s=>match ir P s.den rs with
  |none=>none
  | some vs=>match jo s.H (fun i=>vs.getD i .undef) sp.VS [] with
   |none=>none
   | some ids=>match nodupB ids&&mN s.H 0 sp.cI.length ids sp.fL with
    |false=>none
    | true=>match jn s.H (bK s.H ids) (iB ids) sp.fL ids,eA s.H (bK s.H ids) (iB ids) sp.res vs with
     |some (b,g),some (d,h)=>some (b&&d,g++h)
     |_,_=>none) (gJ sp.opens s)
def aX(P:Program)(τ:ak)(L:LT)(fn:Func)(sp:aG):Prop :=
 ∀ d,(ed P τ L (aU fn) ⟨jh (sp.args0 d) fn.ntmps,sp.H0 d⟩ .done).leaf (uR P fn.results.toList sp)=sp.F d
def pR(os:List cf):Bool:=os.all fun o=>ae o.up 0
theorem KD:∀{os:List cf} (lens:c6) (d:List G),pR os=true→xG (aj (cF lens os d))
 | [],_,_,_=>by intro o ho; simp[cF,aj]at ho
 | o::os,lens,d,h=>by
  simp only[pR,kI,ax]at h;intro x k;simp only[cF,aj,dg,bR]at k;rcases k with rfl|k
  ·cases o with
   | vec ks u =>
    have:u=0:=bk h.1;subst this;rfl
   |box _=>rfl
   |map _ _=>rfl
   |eJ _ _ _=>rfl
   |aO _ _ _=>rfl
   |mm _ _ _ _=>rfl
  ·exact KD lens _ h.2 x k
theorem C_(lens:c6):∀(os:List cf) (d:List G),(cF lens os d).length=os.length
 | [],_=>rfl
 |_::os,d=>by simp[cF,C_ lens os]
theorem VT{P:Program}{sp:aG}{fn:Func}(hf:P.funcs[sp.f]? = some fn)(hb:fn.body.isSome=true)
  (hfr:pR sp.cI=true) {d r:List G} {x:bL} {B:al} (h1:cM P sp.cI.length (aU fn) (al.den ⟨jh (sp.args0 d) fn.ntmps,sp.H0 d⟩) x B.den) (k:uR P fn.results.toList sp x B=some (true,r)) :
  dB P sp.f (sp.args0 d) (aj (sp.H0 d)) (sp.out r) (aj (sp.H1 r)):=by
 have hbody:fn.body=some (aU fn):=by
  unfold aU;cases I:fn.body with
  |none=>rw[I]at hb; cases hb
  |some c=>rfl
 have h1:=rk h1 (lP sp.opens B);generalize hs':gJ sp.opens B=s' at h1;have hxx:(x=.normal∨x=.ret)∧∃ vs ids g q,ir P s'.den fn.results.toList=some vs∧(nodupB ids&&mN s'.H 0 sp.cI.length ids sp.fL)=true ∧
   jn s'.H (bK s'.H ids) (iB ids) sp.fL ids=some (true,g)∧eA s'.H (bK s'.H ids) (iB ids) sp.res vs=some (true,q)∧g++q=r:=by
  have k:uR P fn.results.toList sp x B=some (true,r):=k;unfold uR at k;split at k
  ·cases k
  ·rename_i I
   simp only[hs']at k;refine⟨by cases x with|normal=>exact .inl rfl|ret=>exact .inr rfl|exit i=>exact(I i rfl).elim,?_⟩;split at k
   ·cases k
   ·rename_i vs U
    split at k
    ·cases k
    ·rename_i ids hids
     split at k
     ·cases k
     ·rename_i v
      split at k
      ·rename_i b g b' q M q2
       simp only[aQ,a7,ax]at k;obtain⟨⟨rfl,rfl⟩,rfl⟩:=k;exact⟨vs,ids,g,q,U,v,M,q2,rfl⟩
      ·cases k
 obtain⟨I,vs,ids,g,q,U,v,M,q2,rfl⟩:=hxx;simp only[ax]at v;intro E cargs hH HE hargs;refine B8 hf hbody ?_;have hfe:=rq HE;have hargs0:=mG hfe _ hargs;have hrel:bP ⟨jh (sp.args0 d) fn.ntmps,aj (sp.H0 d)⟩ { E with X:=⟨E.X.x,fun _=>False,E.X.r⟩ } { tmps:=cargs++Array.replicate (fn.ntmps-cargs.size) undef,defers:=[] }:=by
  refine⟨hH,?_,pd _ _,HE.cH hfe⟩;simp only[jh,Array.toList_append,Array.toList_replicate];refine j7 hargs0 ?_;have:=gb hargs;have e:(sp.args0 d).length=cargs.size:=by simpa using this
  rw[e];have:=ua (E:={ E with X:=⟨E.X.x,fun _=>False,E.X.r⟩ }) (List.replicate (fn.ntmps-cargs.size) undef);simpa using this
 refine wpIn_mono (h1 none (B6 _) { E with X:=⟨E.X.x,fun _=>False,E.X.r⟩ } _ hrel) fun e a1 w0 ⟨h3,loc',X',y,N⟩=>?_;refine⟨by subst h3; rcases I with rfl|rfl; exact .inl rfl; exact .inr rfl,X',y.defers,fun O k1 k2 k3=>?_⟩;obtain⟨y,N⟩:=B9 HE y N k1 k2 k3;obtain⟨us,g1,g2⟩:=xJ y fn.results.toList vs U;have hres:(results fn a1.tmps).run P O=.ok (if h:us.toArray.size=1 then us.toArray[0] else .tuple us.toArray) O:=by
  rw[xK];simp only[Sem.run_bind];rw[Array.mapM_eq_mapM_toList,Sem.run_map,g1];rfl
 generalize J:({ w:=O,H:=s'.den.H,loc:=loc',X:=E.X.re X'.r }:Env)=u at y N g1 g2;have hH1:u.H=aj s'.H:=by rw[←J]; rfl
 obtain⟨hK,hHR⟩:=Kx hH1 y.heap (rU v.1) M q;obtain⟨p0,p1,p2,p3⟩:=uN M q (ct sp.fL (g++q));have hd:eg (lN sp.fL) (g++q)=q:=by rw[←p0]; exact n4 g q
 have hS:=uM hK q2 [];rw[db]at hS;have hrl:=hS.2.2.2 us g2;have hleM:=Ky (m:=sp.cI.length) hH1 hK ⟨rfl,rfl⟩ (Ku u _ ids) v.2 (fun j hj=>by
  obtain⟨r1,o',r2,_⟩:=yk v.2 j hj;obtain⟨i,o,g1,rest1,t1,t2,t3,t4,t5,t6⟩:=p3 j o' r2;have hat:=gH (e:=bK s'.H ids) (j:=j) (aI t1);rw[show (bK s'.H ids).ids=ids from rfl,t1]at hat;cases hat;exact⟨o,o',t2,r2,t5⟩) (fun b=>Kv)
 have hle:E.le (iA u (aj (cF (ct sp.fL (g++q)) sp.fL (g++q))) ids) :=
  (N.trans hleM).full (by rw[←J]; exact⟨rfl,rfl⟩) (by rw[hH,eD]; simp only[aG.H0,C_]; exact aD _) (by rw[hH]; exact KD _ _ hfr)
 have V:u.w=O:=by rw[←J]
 have W:∀ r,u.X.re r=E.X.re r:=fun r=>by rw[←J]; rfl
 refine⟨_,hres,_,_,_,rfl,⟨rfl,rfl⟩,ids.map (fun i=>u.loc.getD i none),mM u (aj (cF (ct sp.fL (g++q)) sp.fL (g++q))),?_,?_,?_⟩
 ·have := J6 hrl
  simp only[aG.out,aG.H1,hd];simpa only[iA,V,W]using this
 ·simpa only[iA,V,W,aG.H1]using hHR
 ·simpa only[iA,V,W,aG.H1]using hle
theorem VU{P:Program}{τ:ak}{L:LT}(hm:P.follows .mixedOrders=true)(q:aq P τ){sp:aG}{fn:Func}(u:P.funcs[sp.f]? = some fn)(hb:fn.body.isSome=true)
  (v:aA P sp.cI.length L (aU fn)) (y:aX P τ L fn sp) (k:pR sp.cI=true) {d r:List G} (h:sp.F d=some r) :
  dB P sp.f (sp.args0 d) (aj (sp.H0 d)) (sp.out r) (aj (sp.H1 r)):=by
 rw[←y d]at h;obtain⟨x,I,h1,B⟩:=gV hm q (aU fn) _ .done v (Q:=fun x s=>uR P fn.results.toList sp x s=some (true,r)) (n_ h);exact VT u hb k h1 B
abbrev aV(P:Program)(sp:aG):Prop:=∀ d r,sp.F d=some r→dB P sp.f (sp.args0 d) (aj (sp.H0 d)) (sp.out r) (aj (sp.H1 r))
theorem rX{P:Program}{τ:ak}{L:LT}(hm:P.follows .mixedOrders=true)(k:aq P τ){sp:aG}{fn:Func}(q:P.funcs[sp.f]? = some fn)(hb:fn.body.isSome=true)
  (u:aA P sp.cI.length L (aU fn)) (v:aX P τ L fn sp) (d:pR sp.cI=true):aV P sp:=fun _ _ h=>VU hm k q hb u v d h
/-! ### Tables -/
def uS:eP→Bool
 |.int _ | .str | .bool | .list _ | .rO _ | .row _ | .cptr _ | .nil | .any | .Kl _ | .fn _ | .addr | .CW=>true
 |_=>false
def yt:Sh→Bool
 |.s a=>uS a
 |.clo _ caps=>caps.all uS
theorem KE{lens:c6}{a:eP}{d:List G}(h:uS a=true):(eF lens a d).closed=true:=by
 cases a<;>simp only[uS]at h<;>first
  |(cases h; done)
  |rfl
  |(simp only[eF,AV.closed,fG]; done)
theorem KF{lens:c6}:∀{as:List eP} {d:List G},(as.all uS)=true→AV.bl (iS lens as d)=true
 | [],_,_=>rfl
 | a::as,d,h=>by
  simp only[kI,ax]at h;simp only[iS,AV.bl,KE h.1,KF h.2,tx]
theorem yu{lens:c6}:∀{as:List Sh} {d:List G},(as.all yt)=true→AV.bl (eY lens as d)=true
 | [],_,_=>rfl
 | a::as,d,h=>by
  simp only[kI,ax]at h;simp only[eY,AV.bl,yu h.2,fD];cases a with
  |s a=>exact KE h.1
  |clo f caps=>simp only[n3,AV.closed]; exact KF h.1
theorem VV{vs:List AV}(h:AV.bl vs=true):(df vs).closed=true:=by
 cases vs with
 |nil=>rfl
 | cons v vs =>
  cases vs with
  |nil=>simpa[df,AV.bl]using h
  |cons v2 vs=>simpa only[df,AV.closed]using h
def iD(E:Env):Env:={ w:=E.w,H:=[],loc:=[],X:=(E.X.or E.own).re dK }
theorem VW{E:Env}(x:Nat):¬ (iD E).own x:=by rintro(⟨id,c,hid⟩|⟨l,k,c,hk⟩); simp[iD]at hid; simp[iD,dK]at hk
theorem KG{E:Env}:E.bF (iD E):=⟨fun b hb=>⟨⟨hb.1,VW b,fun d=>d.elim hb.2.2 hb.2.1⟩,rfl⟩⟩
theorem VX{E:Env}:(iD E).bF E:=⟨fun b hb=>⟨⟨hb.1,fun ho=>hb.2.2 (Or.inr ho),fun d=>hb.2.2 (Or.inl d)⟩,rfl⟩⟩
theorem VY{E:Env}(HE:ar E):ar (iD E):=by
 refine⟨rfl,?_,?_,?_,?_,HE.fb.bF KG,fun l k l' k' b m n hk=>by simp[iD,dK]at hk,fun i b m l k n hi=>by simp[iD]at hi,fun l k b m hk=>by simp[iD,dK]at hk,fun i j o o' l hi=>by simp[iD]at hi,fun l _ k q hk=>by simp[iD,dK]at hk⟩
 ·intro i j b m n hi; simp[iD]at hi
 ·intro i b m hi; simp[iD]at hi
 ·rintro b (d | ho)
  ·exact HE.X b d
  ·exact(HE.w5 ho).1
 ·intro i o hi; simp[iD]at hi
theorem VZ{E:Env}(HE:ar E):iz [] (bK [] []) (fun _=>false) [] (iD E) (iD E):=by
 exact { hH:=rfl,HE:=VY HE,free:=fun _ h=>(nomatch h),c7:=⟨fun b hb=>⟨hb,rfl⟩,rfl,fun j d=>absurd d (Nat.not_lt_zero _),fun _ _ _ _ _=>rfl⟩,obj:=fun j o ho=>by simp at ho }
theorem V3{E:Env}(HE:ar E):∀{d:List Sh} {as:List AV} {g:List G},(d.all yt)=true→eA [] (bK [] []) (fun _=>false) d as=some (true,g)→∀(rest:List G) (cs:List Value),af E as cs →
  af E (eY [] d (g++rest)) cs:=by
 have M:∀{sh:eP} {a:AV} {b:Bool} {g:List G},fK [] (bK [] []) (fun _=>false) sh a=some (b,g)→a.closed=true∨sh=.any:=by
  intro sh a b g h;unfold fK at h;split at h
  ·exact .inl rfl
  ·exact .inl rfl
  ·exact .inl rfl
  ·split at h
   ·rename_i ha
    left;unfold mL at ha;split at ha<;>first|rfl|cases ha
   ·split at h
    ·simp at h
    ·cases h
  ·split at h
   ·rename_i ha
    left;rw[J' ha];simp only[AV.closed,fG]
   ·cases h
  ·exact .inl rfl
  ·simp at h
  ·exact .inl rfl
  ·exact .inr rfl
  ·exact .inl rfl
  ·simp at h
  ·simp at h
  ·simp at h
  ·simp at h
  ·split at h
   ·rename_i ha
    left;unfold mL at ha;split at ha<;>first|rfl|cases ha
   ·split at h
    ·simp at h
    ·cases h
  ·simp at h
  ·exact .inl rfl
  ·rename_i f js f' vs
   split at h
   ·rename_i q
    left;cases js with
    | nil=>cases vs with
     |nil=>rfl
     |cons _ _=>simp[km]at q
    | cons j js=>cases vs with
     |nil=>simp[km]at q
     |cons v vs=>cases v<;>simp[km]at q
   ·cases h
  ·exact .inl rfl
  ·cases h
 have O:∀{d:List eP} {as:List AV} {b:Bool} {g:List G},fx [] (bK [] []) (fun _=>false) d as=some (b,g)→∀(cs:List Value),af E as cs →
   ∃ k,fx [] (bK [] []) (fun _=>false) d k=some (b,g)∧AV.bl k=true∧af E k cs:=by
  intro d
  induction d with
  | nil =>
   intro as b g h cs hr;cases as with
   |nil=>exact⟨[],h,rfl,hr⟩
   |cons _ _=>simp[fx]at h
  | cons sh d J =>
   intro as b g h cs hr;cases as with
   |nil=>simp[fx]at h
   | cons a as =>
    cases cs with
    |nil=>simp[af]at hr
    | cons c cs =>
     simp only[af]at hr;simp only[fx]at h;split at h
     ·rename_i b1 g1 b2 g2 h1 I
      cases h;obtain⟨k,u,y,B⟩:=J I cs hr.2;rcases M h1 with q|rfl
      ·exact⟨a::k,by simp only[fx,h1,u],by simp only[AV.bl,q,y,tx],by simp only[af]; exact⟨hr.1,B⟩⟩
      ·have e:fK [] (bK [] []) (fun _=>false) .any .undef=some (b1,g1):=by
        have:fK [] (bK [] []) (fun _=>false) .any a=some (true,[]):=by cases a<;>rfl
        rw[this]at h1;exact h1
       exact⟨.undef::k,by simp only[fx,e,u],by simp only[AV.bl,y]; rfl,by simp only[af,rel]; exact⟨trivial,B⟩⟩
     ·cases h
 have U:∀{d:List Sh} {as:List AV} {b:Bool} {g:List G},eA [] (bK [] []) (fun _=>false) d as=some (b,g)→∀(cs:List Value),af E as cs →
   ∃ k,eA [] (bK [] []) (fun _=>false) d k=some (b,g)∧AV.bl k=true∧af E k cs:=by
  intro d
  induction d with
  | nil =>
   intro as b g h cs hr;cases as with
   |nil=>exact⟨[],h,rfl,hr⟩
   |cons _ _=>simp[eA]at h
  | cons sh d J =>
   intro as b g h cs hr;cases as with
   |nil=>simp[eA]at h
   | cons a as =>
    cases cs with
    |nil=>simp[af]at hr
    | cons c cs =>
     simp only[af]at hr;simp only[eA]at h;split at h
     ·rename_i b1 g1 b2 g2 h1 I
      cases h;obtain⟨k,u,y,B⟩:=J I cs hr.2;cases sh with
      | s sh0 =>
       simp only[kn]at h1;rcases M h1 with q|rfl
       ·exact⟨a::k,by simp only[eA,kn,h1,u],by simp only[AV.bl,q,y,tx],by simp only[af]; exact⟨hr.1,B⟩⟩
       ·have e:fK [] (bK [] []) (fun _=>false) .any .undef=some (b1,g1):=by
         have:fK [] (bK [] []) (fun _=>false) .any a=some (true,[]):=by cases a<;>rfl
         rw[this]at h1;exact h1
        exact⟨.undef::k,by simp only[eA,kn,e,u],by simp only[AV.bl,y]; rfl,by simp only[af,rel]; exact⟨trivial,B⟩⟩
      | clo f caps =>
       cases a<;>simp only[kn]at h1<;>try cases h1
       rename_i f' vs;split at h1
       ·rename_i hf
        subst hf;have N:=hr.1;simp only[rel]at N;obtain⟨us,e1,e2⟩:=N;obtain⟨V,l1,l2,l3⟩:=O h1 _ e2;exact⟨.clo f V::k,by simp only[eA,kn,if_true,l1,u],by simp only[AV.bl,AV.closed,l2,y,tx],
         by simp only[af,rel]; exact⟨⟨us,e1,l3⟩,B⟩⟩
       ·cases h1
     ·cases h
 intro d as g W h rest cs hr;obtain⟨k,h1,I,h3⟩:=U h cs hr;have h4:=ny KG k I h3;have h5:=(uM (VZ HE) h1 rest).2.2.2 cs h4;exact ny VX _ (yu W) h5
def ak.bC(τ:ak)(sp:aG):ak where
 pf g:=match ae g sp.f with
  |true=>true
  |false=>τ.pf g
 T g as:=match ae g sp.f with
  | true=>match eA [] (bK [] []) (fun _=>false) sp.args as with
   |some (b,d)=>some (rS b (sp.F d).isSome,df (eY [] sp.res ((sp.F d).getD [])))
   |none=>τ.T g as
  |false=>τ.T g as
 W:=τ.W
 C:=τ.C
 I:=τ.I
 N:=τ.N
 U:=τ.U
def C'(sp:aG):Bool:=(sp.args.all yt)&&((sp.res.all yt)&&(sp.cI.isEmpty&&sp.fL.isEmpty))
theorem aq.bC{P:Program}{τ:ak}(h:aq P τ){sp:aG}(hb:fc P sp.f=true)(u:C' sp=true)
  (U:∀ d r,sp.F d=some r→dB P sp.f (sp.args0 d) (aj (sp.H0 d)) (sp.out r) (aj (sp.H1 r))):aq P (τ.bC sp):=by
 simp only[C',ax,List.isEmpty_iff]at u;obtain⟨q,M,N,O⟩:=u;refine⟨fun g as b v hg k=>?_,h.W,h.C,h.I,h.F⟩;simp only[ak.bC]at hg;split at hg
 ·rename_i e
  have e:=bk e;subst e;split at hg
  ·rename_i V d hr
   simp only[aQ,a7]at hg;obtain⟨h1,rfl⟩:=hg;subst h1;simp only[rT]at k;obtain⟨rfl,y⟩:=k;refine⟨hb,?_⟩;cases hF:sp.F d with
   |none=>rw[hF]at y; cases y
   | some r =>
    have B:=U d r hF;simp only[aG.args0,aG.H0,aG.out,aG.H1,N,O,cF,ct,lN,eg]at B;have:=Uf B (yu q) (VV (yu M));intro H E cargs hH HE J;exact this H E cargs hH HE (by
     have:=V3 HE q hr [] _ J
     rwa [db]at this)
  ·exact h.T _ as b v hg k
 ·exact h.T g as b v hg k
end Go.AL

namespace Go.AL
open Go
variable [Dr]
def Kd.cw:List Kd→Bool
 | []=>true
 |.list _::_=>false
 |_::ks=>Kd.cw ks
def Ct.bJ:Ct→Bool
 |.one k=>Kd.cw [k]
 |.agg ks=>Kd.cw ks
def rY:eP→Bool
 |.row ks=>Kd.cw ks
 |.list _ | .rO _ | .cptr _=>false
 |_=>true
def KH:Sh→Bool
 |.s a=>rY a
 |.clo _ caps=>caps.all rY
def KJ:cf→Bool
 |.vec ks _=>Kd.cw ks
 |.box cells=>cells.all rY
 |.map K V=>K.bJ&&V.bJ
 |.eJ _ _ _=>true
 |.aO _ _ _=>false
 |.mm _ K KI VI=>K.bJ&&(KI.bJ&&VI.bJ)
def jN(sp:aG):Bool:=(sp.res.all KH)&&(sp.fL.all KJ)
theorem yv:∀{ks:List Kd} (r:List G),Kd.cw ks=true→AV.cw (aH ks r)=true
 | [],_,_=>rfl
 |.list _::_,_,h=>by simp[Kd.cw]at h
 | .int _::ks,r,h | .str::ks,r,h | .bool::ks,r,h=>by
  simp only[Kd.cw]at h;simp only[aH,AV.cw,yv r.tail h,fD];rfl
theorem Ct.uT{K:Ct}(r:List G)(h:K.bJ=true):(K.av r).bJ=true:=by
 cases K with
 | one k =>
  simp only[Ct.bJ]at h;cases k<;>first
   |rfl
   |(simp[Kd.cw]at h; done)
 |agg ks=>simp only[Ct.av,AV.bJ]; exact yv r h
theorem KK:∀ js:List Nat,AV.cw (pO js)=true
 | []=>rfl
 |j::js=>by simp only[pO,AV.cw,KK js,fD]; rfl
theorem KL{lens:c6}{a:eP}{d:List G}(h:rY a=true):(eF lens a d).bJ=true:=by
 cases a<;>simp only[rY]at h<;>first
  |(cases h; done)
  |(simp only[eF,AV.bJ]; exact yv _ h)
  |rfl
  |(simp only[eF,AV.bJ]; exact KK _)
theorem Da{lens:c6}:∀{as:List eP} {d:List G},(as.all rY)=true→AV.cw (iS lens as d)=true
 | [],_,_=>rfl
 | a::as,d,h=>by
  simp only[kI,ax]at h;simp only[iS,AV.cw,KL h.1,Da h.2,tx]
theorem KM{lens:c6}:∀{as:List Sh} {d:List G},(as.all KH)=true→AV.cw (eY lens as d)=true
 | [],_,_=>rfl
 | a::as,d,h=>by
  simp only[kI,ax]at h;simp only[eY,AV.cw,KM h.2,fD];cases a with
  |s a=>exact KL h.1
  |clo f caps=>simp only[n3,AV.bJ]; exact Da h.1
theorem V4{vs:List AV}(h:AV.cw vs=true):(df vs).bJ=true:=by
 cases vs with
 |nil=>rfl
 | cons v vs =>
  cases vs with
  |nil=>simpa[df,AV.cw]using h
  |cons v2 vs=>simpa only[df,AV.bJ]using h
theorem KN{lens:c6}:∀{os:List cf} {d:List G},(os.all KJ)=true→((aj (cF lens os d)).all ab.bJ)=true
 | [],_,_=>rfl
 | o::os,d,h=>by
  simp only[kI,ax]at h;have k:=KN (lens:=lens) (d:=eg o.sz d) h.2;simp only[cF,aj,dg,kI,ax];refine⟨?_,by simpa only[aj]using k⟩;cases o with
  | vec ks u =>
   simp only[eZ,ah.den,ab.bJ,dq,cV];rintro r ⟨g,_,rfl⟩;exact yv g h.1
  |box cells=>simp only[eZ,ah.den,ab.bJ]; exact Da h.1
  | map K V =>
   have h1:(K.bJ&&V.bJ)=true:=h.1;simp only[ax]at h1;simp only[eZ,ah.den,ab.bJ,cS,dq,cV];rintro x ⟨g,_,rfl⟩;simp only[Ct.uT _ h1.1,Ct.uT _ h1.2,tx]
  |eJ l T B=>rfl
  |aO l K ks=>cases h.1
  | mm l K KI VI =>
   have h1:(K.bJ&&(KI.bJ&&VI.bJ))=true:=h.1;simp only[ax]at h1;simp only[eZ,ah.den,ab.bJ,iw,nJ,cS,ax,dq,cV];refine⟨?_,?_⟩
   ·rintro x ⟨g, _, rfl⟩
    exact Ct.uT _ h1.1
   ·rintro x ⟨g, _, rfl⟩ y v
    obtain⟨q,_,rfl⟩:=cV.1 v;simp only[Ct.uT _ h1.2.1,Ct.uT _ h1.2.2,and_self]
def ah.cd(e:bN)(j:Nat):ah→ah
 |.vec ks v rows=>.vec ks (v+e.up j) rows
 |.raw o=>.raw (o.cd e j)
 |.map K V rows c=>.map K V rows c
 |.aO l K ks rows c=>.aO l K ks rows c
 |.mm l K KI VI rows mem c=>.mm l K KI VI rows mem c
def uU(e:bN):Nat→List ah→List ah
 |_,[]=>[]
 |j,o::os=>o.cd e j::uU e (j+1) os
def jq(e:bN)(H H1:List ah):List ah:=ef H e.ids (uU e 0 H1)++(uU e 0 H1).drop e.ids.length
theorem V5(e:bN)(j:Nat)(o:ah):(o.cd e j).den=o.den.cd e j:=by
 cases o<;>rfl
theorem KO(e:bN):∀(j:Nat) (os:List ah),aj (uU e j os)=ki e j (aj os)
 |_,[]=>rfl
 | j,o::os=>by
  simp only[uU,aj,dg,ki,V5];have:=KO e (j+1) os;simp only[aj]at this;rw[this]
theorem KP{α β:Type}(f:α→β):∀(is:List Nat) (l xs:List α),(ef l is xs).map f=ef (l.map f) is (xs.map f)
 | [],_,_=>by simp[ef]
 |_::_,_,[]=>by simp[ef]
 |i::is,l,x::xs=>by simp[ef,KP f is,List.map_set]
theorem V6(e:bN)(H H1:List ah):aj (jq e H H1)=nV e (aj H) (aj H1):=by
 unfold jq nV;rw[←KO];simp only[aj,List.map_append,KP,List.map_drop]
def lQ(e:bN):Nat→List cf→Bool
 |_,[]=>true
 |j,.vec _ _::os=>lQ e (j+1) os
 |j,_::os=>ae (e.up j) 0&&lQ e (j+1) os
theorem pS{e:bN}{lens:c6}:∀{j:Nat} {os:List cf} {d:List G},lQ e j os=true→kl e j (aj (cF lens os d))=true
 |_,[],_,_=>rfl
 | j,.vec ks u::os,d,h=>by
  simp only[lQ]at h;have:=pS (lens:=lens) (d:=eg (cf.vec ks u).sz d) h;simp only[cF,aj,dg,kl,ax];exact⟨rfl,by simpa only[aj]using this⟩
 | j,.box cells::os,d,h=>by
  simp only[lQ,ax]at h;have:=pS (lens:=lens) (d:=eg (cf.box cells).sz d) h.2;simp only[cF,aj,dg,kl,ax];exact⟨h.1,by simpa only[aj]using this⟩
 | j,.map K V::os,d,h=>by
  simp only[lQ,ax]at h;have:=pS (lens:=lens) (d:=eg (cf.map K V).sz d) h.2;simp only[cF,aj,dg,kl,ax];exact⟨h.1,by simpa only[aj]using this⟩
 | j,.eJ l T B::os,d,h=>by
  simp only[lQ,ax]at h;have:=pS (lens:=lens) (d:=eg (cf.eJ l T B).sz d) h.2;simp only[cF,aj,dg,kl,ax];exact⟨h.1,by simpa only[aj]using this⟩
 | j,.aO l K ks::os,d,h=>by
  simp only[lQ,ax]at h;have:=pS (lens:=lens) (d:=eg (cf.aO l K ks).sz d) h.2;simp only[cF,aj,dg,kl,ax];exact⟨h.1,by simpa only[aj]using this⟩
 | j,.mm l K KI VI::os,d,h=>by
  simp only[lQ,ax]at h;have:=pS (lens:=lens) (d:=eg (cf.mm l K KI VI).sz d) h.2;simp only[cF,aj,dg,kl,ax];exact⟨h.1,by simpa only[aj]using this⟩
def rZ(S:Bool)(ids:List Nat)(i:Nat):Bool:=match S with
 |true=>iB ids i
 |false=>false
def og(sp:aG)(as:List AV)(H:List ah):Option (Bool × AV × List ah) :=
 match jo H (fun i=>as.getD i .undef) sp.ps []with
 |none=>none
 | some ids=>match nodupB ids&&lQ (bK H ids) 0 sp.fL with
  |false=>none
  | true=>match jn H (bK H ids) (rZ (jN sp) ids) sp.cI ids,eA H (bK H ids) (rZ (jN sp) ids) sp.args as with
   |some (b,g),some (h,d)=>some (rS (b&&h) (sp.F (g++d)).isSome,(sp.out ((sp.F (g++d)).getD [])).cd (bK H ids),jq (bK H ids) H (sp.H1 ((sp.F (g++d)).getD [])))
   |_,_=>none
def mP:List jM→Nat→Bool
 | [],_=>true
 |.cell j _::ps,n=>er j n&&mP ps (n+1)
 |.C5 j _ _::ps,n=>er j n&&mP ps (n+1)
 |_::ps,n=>mP ps (n+1)
theorem KQ{H:List ah}{vals:Nat→AV}:∀{ps:List jM} {acc ids:List Nat},jo H vals ps acc=some ids→∀ x∈acc,x∈ids
 | [],acc,ids,h,x,d=>by cases h; exact d
 | p::ps,acc,ids,h,x,d=>by
  unfold jo at h;split at h
  ·exact KQ h x (oY _ d)
  ·cases h
theorem KR{H:List ah}{vals:Nat→AV}{id:Nat}{o:ah}:∀{ps:List jM} {acc ids:List Nat},mP ps acc.length=true→jo H vals ps acc=some ids→id∉ids→jo (H.set id o) vals ps acc=some ids
 | [],acc,ids,_,h,_=>h
 | p::ps,acc,ids,hw,h,hid=>by
  unfold jo at h⊢;split at h
  ·rename_i i hi
   have q:=KQ h;have get:∀ j,j<acc.length→(H.set id o)[acc.getD j 0]? = H[acc.getD j 0]? := fun j d=>by
    refine aR fun e=>hid ?_;rw[e,bG,bt d];exact q _ (oY _ (ly d))
   have e:yo (H.set id o) vals acc p=some i∧mP ps (acc++[i]).length=true:=by
    rw[dY];cases p with
    |fix _=>exact⟨hi,hw⟩
    |slot _=>exact⟨hi,hw⟩
    |cap _ _=>exact⟨hi,hw⟩
    | cell j c =>
     simp only[mP,ax,jb]at hw;refine⟨?_,hw.2⟩;simp only[yo]at hi⊢;rw[get j hw.1];exact hi
    | C5 j c k =>
     simp only[mP,ax,jb]at hw;refine⟨?_,hw.2⟩;simp only[yo]at hi⊢;rw[get j hw.1];exact hi
   rw[e.1];exact KR e.2 h hid
  ·cases h
section V7
variable {H:List ah} {e:bN} {id:Nat} {o:ah} (he:∀ j,e.at j≠id)
include he
theorem KS:∀(js:List Nat) (vs:List AV),km (H.set id o) e js vs=km H e js vs
 | [],[]=>rfl
 | [],_::_=>rfl
 |_::_,[]=>rfl
 | j::js,v::vs=>by
  have d:=KS js vs;cases v<;>try rfl
  rename_i i ad k row c;simp only[km,d];by_cases hi:i=id
  ·subst hi
   have aw:ae i (e.at j)=false:=by
    cases hb:ae i (e.at j)with
    |false=>rfl
    |true=>exact absurd (bk hb).symm (he j)
   simp only[aw,Bool.false_and];cases (H.set i o)[i]? <;> cases H[i]? <;> (repeat' split)<;>rfl
  ·rw[aR (Ne.symm hi)]
theorem KT:∀(sh:eP) (a:AV),fK (H.set id o) e (fun _=>false) sh a=fK H e (fun _=>false) sh a:=by
 have aw:∀{i:Nat},i≠id→(H.set id o)[i]? = H[i]? := fun h=>aR (Ne.symm h);have d:∀ j,¬ (id=e.at j):=fun j h=>he j h.symm;intro sh a;cases a with
 | vec w i ad off n =>
  by_cases hi:i=id
  ·subst hi
   cases sh<;>(try rfl)<;>simp only[fK,mL,kF,and_false,if_false,d,false_and]<;>(repeat' split)<;>(first|rfl|simp_all)
  ·cases sh<;>(try rfl)<;>simp only[fK,aw hi]
 | ptr i ad k row col =>
  by_cases hi:i=id
  ·subst hi
   cases sh<;>(try rfl)<;>simp only[fK,mL,kF,and_false,if_false,d,false_and]<;>(repeat' split)<;>(first|rfl|simp_all)
  ·cases sh<;>(try rfl)<;>simp only[fK,aw hi]
 | map i =>
  by_cases hi:i=id
  ·subst hi
   cases sh<;>(try rfl)<;>simp only[fK,mL,kF,and_false,if_false,d,false_and]<;>(repeat' split)<;>(first|rfl|simp_all)
  ·cases sh<;>(try rfl)<;>simp only[fK,aw hi]
 | clo f vs =>
  cases sh<;>(try rfl)
  ·cases vs<;>rfl
  ·simp only[fK,KS he]
 | lit v =>
  cases sh<;>(try rfl)<;>cases v<;>(try rfl)
  ·rename_i b n c
   cases b<;>cases n<;>cases c<;>rfl
  ·rename_i q
   cases q with
   |none=>rfl
   | some q =>
    obtain⟨b,o',w⟩:=q;cases o'<;>cases w<;>rfl
 |_=>cases sh<;>rfl
theorem Db:∀(d:List eP) (as:List AV),fx (H.set id o) e (fun _=>false) d as=fx H e (fun _=>false) d as
 | [],[]=>rfl
 | [],_::_=>rfl
 |_::_,[]=>rfl
 |sh::d,a::as=>by simp only[fx,KT he sh a,Db d as]
theorem V8(sh:Sh)(a:AV):kn (H.set id o) e (fun _=>false) sh a=kn H e (fun _=>false) sh a:=by
 cases sh with
 |s x=>simp only[kn,KT he]
 | clo f caps =>
  cases a with
  |clo g vs=>simp only[kn,Db he]
  |_=>rfl
theorem KU:∀(d:List Sh) (as:List AV),eA (H.set id o) e (fun _=>false) d as=eA H e (fun _=>false) d as
 | [],[]=>rfl
 | [],_::_=>rfl
 |_::_,[]=>rfl
 |sh::d,a::as=>by simp only[eA,V8 he sh a,KU d as]
theorem V9(sh:cf)(t:ah):gI (H.set id o) e (fun _=>false) sh t=gI H e (fun _=>false) sh t:=by
 cases sh with
 | box d =>
  cases t with
  |raw x=>cases x<;>simp only[gI,Db he]
  |_=>rfl
 | eJ l T B =>
  cases t with
  |raw x=>cases x<;>rfl
  |_=>rfl
 |_=>cases t<;>rfl
theorem KV:∀(os:List cf) (is:List Nat),id∉is→jn (H.set id o) e (fun _=>false) os is=jn H e (fun _=>false) os is
 | [],[],_=>rfl
 | [],_::_,_=>rfl
 |_::_,[],_=>rfl
 | sh::os,i::is,h=>by
  have h1:id≠i:=fun e=>h (by rw[e]; exact cO);simp only[jn,aR h1,V9 he,KV os is fun hm=>h (c9 _ hm)]
end V7
theorem KW{α:Type}{i:Nat}{x:α}:∀(is:List Nat) (l xs:List α),i∉is→ef (l.set i x) is xs=(ef l is xs).set i x
 | [],_,_,_=>by simp[ef]
 |_::_,_,[],_=>by simp[ef]
 | j::is,l,y::xs,h=>by
  have h1:i≠j:=fun e=>h (by rw[e]; exact cO);simp only[ef];rw[List.set_comm _ _ h1];exact KW is _ _ fun hm=>h (c9 _ hm)
theorem V_{H:List ah}{ids:List Nat}{id:Nat}{o:ah}(h:id∉ids):bK (H.set id o) ids=bK H ids:=by
 unfold bK;rw[List.length_set];congr 1;refine List.map_congr_left fun i hi=>?_;unfold rR;rw[aR fun e=>h (by rw[e]; exact hi)]
theorem Wa{sp:aG}(I:jN sp=false)(hw:mP sp.ps 0=true){as:List AV}{H H':List ah}{b:Bool}{v:AV}(h:og sp as H=some (b,v,H')){id:Nat}{o:ah}(y:id<H.length)
  (hid:∀ ids,jo H (fun i=>as.getD i .undef) sp.ps []=some ids→id∉ids) :
  og sp as (H.set id o)=some (b,v,H'.set id o)∧∃ ids,jo H (fun i=>as.getD i .undef) sp.ps []=some ids∧jo (H.set id o) (fun i=>as.getD i .undef) sp.ps []=some ids:=by
 unfold og at h⊢;split at h
 ·cases h
 rename_i ids k;have d:=hid ids k;have u:=KR (o:=o) (acc:=[]) hw k d;refine⟨?_,ids,k,u⟩;rw[u];simp only[V_ d];split at h
 ·cases h
 rename_i M;have B:rZ (jN sp) ids=fun _=>false:=by
  rw[I];rfl
 rw[B]at h⊢;have he:∀ j,(bK H ids).at j≠id:=by
  intro j e;rcases jy j (bK H ids).ids.length with q|q
  ·have := gH q
   rw[e]at this;exact d (eB this)
  ·rw [rN q] at e
   have:(bK H ids).base=H.length:=rfl;omega
 rw[KV he _ _ d,KU he];split at h
 case h_2=>cases h
 rename_i h1 N;cases h;have J:∀ X,jq (bK H ids) (H.set id o) X=(jq (bK H ids) H X).set id o:=fun X=>by
  unfold jq;rw[show (bK H ids).ids=ids from rfl,KW ids _ _ d,Hy _ _ (by rw[nU]; exact y)]
 rw[J]
def ak.cT(τ:ak)(sp:aG):ak where
 pf g:=match ae g sp.f with
  |true=>false
  |false=>τ.pf g
 T:=τ.T
 W g as H:=match ae g sp.f with
  | true=>match og sp as H with
   |some r=>some r
   |none=>τ.W g as H
  |false=>τ.W g as H
 C g as H:=match ae g sp.f with
  | true=>(match jo H (fun i=>as.getD i .undef) sp.ps [] with
   |some ids=>ids
   |none=>[])++τ.C g as H
  |false=>τ.C g as H
 I:=τ.I
 N g:=match ae g sp.f with
  | true=>match τ.U g,jN sp with
   |false,false=>mP sp.ps 0
   |_,_=>false
  |false=>τ.N g
 U g:=match ae g sp.f with
  |true=>true
  |false=>τ.U g
def oh:List cf→List cf→Bool
 |_,[]=>true
 | [],o'::d=>o'.jm.isNone&&oh [] d
 | o::os,o'::d=>(match o'.jm with
  |none=>true
  | some l=>match o.jm with
   |some l'=>ae l l'
   |none=>false)&&oh os d
theorem Dc:∀{os q:List cf},oh os q=true→∀(j:Nat) o' l,q[j]? = some o'→o'.jm=some l→∃ o,os[j]? = some o∧o.jm=some l
 |_,[],_,j,_,_,d,_=>by simp at d
 | [],x::q,h,0,o',l,d,k=>by
  simp only[oh,ax]at h;simp at d;subst d;rw[k]at h;cases h.1
 | [],x::q,h,j+1,o',l,d,k=>by
  simp only[oh,ax]at h;obtain⟨o,h1,_⟩:=Dc h.2 j o' l (by simpa using d) k;simp at h1
 | o::os,x::q,h,0,o',l,d,k=>by
  simp only[oh,ax]at h;simp at d;subst d;have h1:=h.1;rw[k]at h1;simp only[]at h1;split at h1
  ·rename_i l' u
   have:=bk h1;subst this;exact⟨o,rfl,u⟩
  ·cases h1
 | o::os,x::q,h,j+1,o',l,d,k=>by
  simp only[oh,ax]at h;exact Dc h.2 j o' l (by simpa using d) k
theorem KX(lens:c6):∀(os:List cf) (d:List G) (j:Nat) (o:ah),(cF lens os d)[j]? = some o→∃ sh d',os[j]? = some sh∧o=eZ lens sh d'
 | [],d,j,o,h=>by simp[cF]at h
 | s::os,d,0,o,h=>by
  simp[cF]at h;exact⟨s,d,rfl,h.symm⟩
 | s::os,d,j+1,o,h=>by
  simp only[cF,Se]at h;obtain⟨sh,d',h1,k⟩:=KX lens os _ j o h;exact⟨sh,d',by simpa using h1,k⟩
theorem Wb{lens:c6}{os:List cf}{d:List G}{j:Nat}{o:ab} (h:(aj (cF lens os d))[j]? = some o):∃ sh,os[j]? = some sh∧o.label=sh.jm:=by
 simp only[aj,bT]at h;obtain⟨o',h1,rfl⟩:=dN.1 h;obtain⟨sh,d',k,rfl⟩:=KX lens os d j o' h1;exact⟨sh,k,rP _ _ _⟩
theorem KY(lens:c6):∀(os:List cf) (d:List G) (j:Nat) (sh:cf),os[j]? = some sh→∃ o,(aj (cF lens os d))[j]? = some o∧o.label=sh.jm
 | [],d,j,o,h=>by simp at h
 | s::os,d,0,sh,h=>by
  simp at h;subst h;exact⟨(eZ lens s d).den,by simp[cF,aj],rP _ _ _⟩
 | s::os,d,j+1,sh,h=>by
  obtain⟨o,h1,k⟩:=KY lens os (eg s.sz d) j sh (by simpa using h);exact⟨o,by simpa[cF,aj]using h1,k⟩
def yw(sp:aG):Bool:=pR sp.cI&&(ep sp.cI.length sp.fL.length&&oh sp.cI sp.fL)
theorem Wc{P:Program}{sp:aG}(hp:yw sp=true) (hc:∀ d r,sp.F d=some r→dB P sp.f (sp.args0 d) (aj (sp.H0 d)) (sp.out r) (aj (sp.H1 r)))
  {as:List AV} {H H':List ah} {v:AV} (h:og sp as H=some (true,v,H')):dB P sp.f as (aj H) v (aj H'):=by
 simp only[yw,ax]at hp;obtain⟨hfr,hle,hlab⟩:=hp;have hle:=qy hle;unfold og at h;split at h
 ·cases h
 rename_i ids hids;split at h
 ·cases h
 rename_i hck;simp only[ax]at hck;obtain⟨hnd,hup⟩:=hck;have hnd:=rU hnd;split at h
 case h_2=>cases h
 rename_i b g b' k h1 h2;simp only[aQ,a7,rT,ax]at h;obtain⟨⟨⟨rfl,rfl⟩,h3⟩,rfl,rfl⟩:=h;cases hF:sp.F (g++k)with
 |none=>rw[hF]at h3; cases h3
 |some r =>
 simp only[ga];obtain⟨p0,p1,p2,p3⟩:=uN h1 k (ct sp.cI (g++k));have hd:eg (lN sp.cI) (g++k)=k:=by rw[←p0]; exact n4 g k
 have hlen:ids.length=(aj (sp.H0 (g++k))).length:=by rw[eD]; simp only[aG.H0,p1,p2]
 have hat:∀ j,j<ids.length→ids[j]? = some ((bK H ids).at j):=fun j q=>gH (e:=bK H ids) q;have hobjs:∀ j,j<ids.length→∃ sh o g1 M,sp.cI[j]? = some sh∧H[(bK H ids).at j]? = some o∧gI H (bK H ids) (rZ (jN sp) ids) sh o=some (true,g1) ∧
   (sp.H0 (g++k))[j]? = some (eZ (ct sp.cI (g++k)) sh (g1++M)) ∧
   (ct sp.cI (g++k)).ad j=sh.up∧(∀ ks v rows,o=.vec ks v rows→(ct sp.cI (g++k)).len j=rows.length)∧sh.up=0∧(bK H ids).up j=rQ o:=by
  intro j q;have hj':j<sp.cI.length:=by omega
  obtain⟨i,o,g1,M,N,y,I,B,W,q6⟩:=p3 j sp.cI[j] (bt hj');have q1':=N;rw[hat j q]at N;cases N;refine⟨sp.cI[j],o,g1,M,bt hj',y,I,B,W,q6,?_,?_⟩
  ·have := dq.1 hfr sp.cI[j] (ly hj')
   exact bk this
  ·simp only [bN.up, bK, bG, bT]
   rw[q1'];simp only[dO,ga,rR];rw[y]
 have hK:∀ E E0,E.H=aj H→ar E→yb (bK H ids) (bif jN sp then (dP H.length).filter (iB ids) else []) E E0→E0.H=aj (sp.H0 (g++k)) →
   iz H (bK H ids) (rZ (jN sp) ids) (ct sp.cI (g++k)) E E0:=by
  intro E E0 V HE O U;refine { hH:=V,HE:=HE,free:=fun i hi b n hb=>?_,c7:=O.toKeepIn,obj:=fun j o ho=>?_ }
  ·refine O.VB i ?_ b n hb
   have hlt:=aI hb;rw[HE.len,V,eD]at hlt;unfold rZ at hi;split at hi
   ·rename_i J
    rw[J];simp only[cond_true,mu,List.mem_range];exact⟨hlt,hi⟩
   ·cases hi
  ·have q:j<ids.length:=by
    rcases jy j ids.length with hlt|hge
    ·exact hlt
    ·have h1 := aI ho
     have h2:=rN (e:=bK H ids) hge;have h3:(bK H ids).base=H.length:=rfl;omega
   refine⟨q,?_⟩;obtain⟨sh,o',g1,M,N,y,I,B,W,q6,q7,q8⟩:=hobjs j q;rw[ho]at y;cases y;obtain⟨r1,r2,r3⟩:=C1 (lens:=ct sp.cI (g++k)) (d:=g1++M) I;exact⟨r1,⟨_,by rw[U]; exact a_ B,by rw[W]; exact r2⟩,fun o0 h0=>by rw[U,a_ B]at h0; cases h0; rw[CY,CZ I],q6,fun _=>by rw[W]; exact q7⟩
 have:=frame (P:=P) (f:=sp.f) (jN sp) (bif jN sp then (dP H.length).filter (iB ids) else []) (e:=bK H ids) (H:=aj H) (args:=sp.args0 (g++k)) (H0:=aj (sp.H0 (g++k)))
  (H1:=aj (sp.H1 r)) (v:=sp.out r) (args0:=as) (hc _ _ hF) hlen (by rw[eD]; rfl) hnd ?_ ?_ (pS hup) ?_ (fun J=>by rw[J]; rfl) ?_ ?_ ?_ ?_ ?_ ?_ ?_
 ·rw [V6]
  exact this
 ·intro j o ho
  have q:j<ids.length:=by rw[hlen]; exact aI ho
  obtain⟨sh,o',g1,M,N,y,I,B,W,q6,q7,q8⟩:=hobjs j q;obtain⟨r1,r2,r3⟩:=C1 (lens:=ct sp.cI (g++k)) (d:=g1++M) I;rw[a_ B]at ho;cases ho;refine⟨o'.den,a_ y,ab.A8 r2,fun v=>?_⟩;rw[r1,r2,q7,q8];simp only[aQ];constructor
  ·rintro rfl
   exact⟨0,rfl,by omega⟩
  ·rintro ⟨u, rfl, rfl⟩
   omega
 ·intro E E0 V HE O U j o ho
  have q:j<ids.length:=by rw[hlen]; exact aI ho
  obtain⟨sh,o',g1,M,N,y,I,B,W,q6,q7,q8⟩:=hobjs j q;rw[a_ B]at ho;cases ho;exact Ks (hK E E0 V HE O U) I M q (fun l hl=>O.jm j _ l (by rw[U]; exact a_ B) (by rw[rP,hl])) (HE.obj _ _ (by rw[V]; exact a_ y))
 ·rw [eD, eD]
  simp only[aG.H0,aG.H1,C_];exact hle
 ·intro J
  simp only[jN,ax]at J;exact V4 (KM J.1)
 ·intro J
  simp only[jN,ax]at J;exact KN J.2
 ·intro i hi
  cases J:jN sp with
  | true =>
   rw[J]at hi;simp only[cond_true,mu]at hi;exact Kw hi.2
  | false =>
   rw[J]at hi;simp at hi
 ·intro j o o' ho ho'
  have q:j<ids.length:=by rw[hlen]; exact aI ho
  obtain⟨sh,o2,g1,M,N,y,I,B,_⟩:=hobjs j q;rw[a_ B]at ho;rw[a_ y]at ho';cases ho;cases ho';rw[Kn I,rP]
 ·intro j o l ho hl
  obtain⟨sh,h5,h6⟩:=Wb (show (aj (cF (ct sp.fL r) sp.fL r))[j]? = some o from ho);obtain⟨sh0,h7,h8⟩:=Dc hlab j sh l h5 (by rw[←h6,hl]);obtain⟨o0,h9,h10⟩:=KY (ct sp.cI (g++k)) sp.cI (g++k) j sh0 h7;exact⟨o0,h9,by rw[h10,h8]⟩
 ·intro j o o' ho ho'
  have q:j<ids.length:=by rw[hlen]; exact aI ho
  obtain⟨sh,o2,g1,M,N,y,I,B,_⟩:=hobjs j q;rw[a_ B]at ho;rw[a_ y]at ho';cases ho;cases ho';rw[CZ I,CY]
 ·intro E E0 cs V HE O U hr
  have hS:=(uM (hK E E0 V HE O U) h2 []).2.2.2 cs hr;rw[db]at hS;simp only[aG.args0,hd];exact hS
theorem Wd{sp:aG}{as:List AV}{H H':List ah}{v:AV}{b:Bool}{A:Nat}(h:og sp as H=some (b,v,H'))(k:A<H.length)(q:∀ ids,jo H (fun i=>as.getD i .undef) sp.ps []=some ids→A∉ids):H'[A]? = H[A]? := by
 unfold og at h;split at h
 ·cases h
 rename_i ids d;split at h
 ·cases h
 split at h
 case h_2=>cases h
 cases h;unfold jq;rw[cK (by rw[nU]; exact k)];exact yc _ _ _ _ (q ids d)
theorem aq.cT{P:Program}{τ:ak}(h:aq P τ){sp:aG}(hb:fc P sp.f=true)(O:yw sp=true)
  (U:∀ d r,sp.F d=some r→dB P sp.f (sp.args0 d) (aj (sp.H0 d)) (sp.out r) (aj (sp.H1 r))):aq P (τ.cT sp):=by
 refine⟨h.T,fun g as H b v H' hg J=>?_,fun g as H b v H' hg A k q=>?_,fun g as H t hg Q V=>?_,fun g u as H=>?_,fun g y as H b v H' hg id o q hid=>?_⟩
 rotate_left 2
 ·obtain ⟨g1, v, H', g2, g3, g4⟩ := h.I g as H t hg Q V
  refine⟨g1,v,H',g2,fun A k q=>g3 A (fun hm=>k ?_) q,g4⟩;simp only[ak.cT];split
  ·exact tA _ hm
  ·exact hm
 ·simp only [ak.cT] at u ⊢
  cases e:ae g sp.f with
  |true=>rw[e]at u; cases u
  | false =>
   rw[e]at u;exact h.F.1 g u as H
 ·simp only [ak.cT] at y hg hid ⊢
  cases e:ae g sp.f with
  | false =>
   rw[e]at y hg hid;exact h.F.2 g y as H b v H' hg id o q hid
  | true =>
   rw[e]at y hg hid;simp only[]at y hg hid⊢;split at y
   case h_2=>cases y
   rename_i u hs;have N:∀ H,τ.W g as H=none:=fun H=>(h.F.1 g u as H).1;have M:∀ H,τ.C g as H=[]:=fun H=>(h.F.1 g u as H).2;rw[N]at hg;split at hg
   case h_2=>cases hg
   rename_i r hr;cases hg;obtain⟨q1,ids,q2,q3⟩:=Wa hs y hr (o:=o) q fun ids B hm=>hid (oY _ (by rw[B]; exact hm));rw[q1];refine⟨rfl,?_⟩;rw[q2,q3,M,M]
 simp only[ak.cT]at hg;split at hg
 ·rename_i e
  have e:=bk e;subst e;split at hg
  ·rename_i r hr
   cases hg;subst J;exact⟨hb,Wc O U hr⟩
  ·exact h.W _ as H b v H' hg J
 ·exact h.W g as H b v H' hg J
 simp only[ak.cT]at hg k;split at hg
 ·rename_i e
  rw[e]at k;simp only[]at k;split at hg
  ·rename_i r hr
   cases hg;exact Wd hr q fun ids B hm=>k (oY _ (by rw[B]; exact hm))
  ·exact h.C g as H b v H' hg A (fun hm=>k (tA _ hm)) q
 ·rename_i e
  rw[e]at k;exact h.C g as H b v H' hg A k q
end Go.AL

namespace Go.AL
open Go
variable [Dr]
def ay{β:Type}(t:Option (List G))(k:List G→Option β):Option β:=bif t.isSome then k (t.getD []) else none
def iE{β:Type}(b:Bool)(t:Option (List G))(k:List G→Option β):Option β:=bif b then k (t.getD []) else none
def a8{β:Type}(b:Bool)(r:Option (Nat × List G))(k:Nat→List G→Option β):Option β:=bif (b&&r.isSome) then k (C6 r) (C7 r) else none
def We:Kd→G→G
 |.int _,g=>.i g.int
 |.str,g=>.s g.str
 |.bool,g=>.t g.bool
 |.list _,g=>.l g.rows
def aM:List Kd→List G→List G
 | [],_=>[]
 |k::ks,r=>We k (r.headD default)::aM ks r.tail
def ak.fY(τ:ak)(d:List FuncId):ak:={ τ with pf:=fun g=>match d.any (fun x=>ae x g)with
 |true=>false
 |false=>τ.pf g }
def ak.kp(τ:ak)(d:List FuncId):ak:={ τ with pf:=fun g=>match d.any (fun x=>ae x g)with
 |true=>true
 |false=>τ.pf g }
theorem aq.kp{P:Program}{τ:ak}(h:aq P τ)(d:List FuncId):aq P (τ.kp d):=⟨h.T,h.W,h.C,h.I,h.F⟩
theorem aq.fY{P:Program}{τ:ak}(h:aq P τ)(d:List FuncId):aq P (τ.fY d):=⟨h.T,h.W,h.C,h.I,h.F⟩
theorem Wf{β:Type}{t:Option (List G)}{k:List G→Option β}{g:List G}(h:t=some g):ay t k=k g:=by subst h; rfl
inductive iT (st:List G→Option (Option Nat × List G)):Nat→List G→Nat→List G→Prop
 |stop {d d':List G} {x:Nat} (h:st d=some (some x,d')):iT st 1 d x d'
 |next {d d1 d':List G} {x n:Nat} (h:st d=some (none,d1)) (h':iT st n d1 x d'):iT st (n+1) d x d'
theorem iT.iter{st:List G→Option (Option Nat × List G)}{n:Nat}{d d':List G}{x:Nat}(h:iT st n d x d'):∀ m,n≤m→pP st m d=some (x,d'):=by
 induction h with
 | stop h =>
  intro m hm;cases m with
  |zero=>omega
  |succ m=>simp only[pP,h]
 | next h _ k =>
  intro m hm;cases m with
  |zero=>omega
  |succ m=>simp only[pP,h]; exact k m (by omega)
theorem iT.Wg{st:List G→Option (Option Nat × List G)}{n:Nat}{d d':List G}{x:Nat}(h:iT st n d x d')(k:n≤1000000):bV st d=some (x,d'):=h.iter _ k
end Go.AL

namespace Go.AL
open Go
variable [Dr]
inductive Hint where
 |freeze (slot:Nat)
 |KZ (slot:Nat) (ks:List Kd)
 |K3 (slot c:Nat) (ks:List Kd)
 |K4 (slot:Nat)
 |K5 (slot c:Nat)
 |hole (ks:List Kd)
 |r7
 |aO (slot l:Nat)
 |yx (slot:Nat)
 |yy (slot l:Nat)
 |yz (slot:Nat)
 |mm (slot l:Nat) (KI VI:Ct)
 |r8 (slot c l:Nat) (KI VI:Ct)
 |forget (id:Nat)
 |K6 (slot c:Nat) (ks:List Kd)
def yA(slot:Nat)(s:al):Bool × al :=
 match s.fr.getD slot .undef with
 | .vec w id ad off n=>match s.H[id]? with
  |some (.vec ks v rows)=>if ad=v∧off=0∧w=ks.length then (ae n rows.length,⟨s.fr.set slot (.listF ks rows),s.H.set id (.raw .dead)⟩) else (true,s)
  |_=>(true,s)
 |_=>(true,s)
def Dd(slot c:Nat)(ks:List Kd)(s:al):Bool × al :=
 match s.fr.getD slot .undef with
 | .ptr id _ _ _ _=>match s.H[id]? with
  | some (.raw (.box cells))=>match cells[c]? with
   | some a=>match isNil a with
    |true=>(true,⟨s.fr,s.H.set id (.raw (.box (cells.set c (.vec ks.length s.H.length 0 0 0))))++[.vec ks 0 []]⟩)
    |false=>(true,s)
   |none=>(true,s)
  |_=>(true,s)
 |_=>(true,s)
def yB(slot c:Nat)(s:al):Bool × al :=
 match s.fr.getD slot .undef with
 | .ptr id _ _ _ _=>match s.H[id]? with
  | some (.raw (.box cells))=>match cells[c]? with
   | some (.vec w d ad off n)=>match s.H[d]? with
    |some (.vec ks v rows)=>if ad=v∧off=0∧w=ks.length then (ae n rows.length,⟨s.fr,(s.H.set d (.raw .dead)).set id (.raw (.box (cells.set c (.listF ks rows))))⟩) else (true,s)
    |_=>(true,s)
   |_=>(true,s)
  |_=>(true,s)
 |_=>(true,s)
def yC(slot:Nat)(s:al):Bool × al :=
 match s.fr.getD slot .undef with
 | .vec w id ad off n=>match s.H[id]? with
  |some (.vec ks v rows)=>if ad=v∧off=0∧w=ks.length then (ep n rows.length,⟨s.fr.set slot (.vec w id (v+1) 0 n),s.H.set id (.vec ks (v+1) (rows.take n))⟩) else (true,s)
  |_=>(true,s)
 |_=>(true,s)
def yD(slot l:Nat)(s:al):Bool × al :=
 match s.fr.getD slot .undef with
 | .map id=>match s.H[id]? with
  |some (.map K (.one (.list ks)) [] cl)=>(kT (aj s.H) l,⟨s.fr,s.H.set id (.aO l K ks [] cl)⟩)
  |_=>(true,s)
 |_=>(true,s)
def uV(r:List G):List G:=[gi r 0,gi r 1,gi r 2,.t false,.t true]
def yE(slot l:Nat)(s:al):Bool × al :=
 match s.fr.getD slot .undef with
 | .map id=>match s.H[id]? with
  |some (.map K (.one (.list ks)) rows cl)=>(kT (aj s.H) l,⟨s.fr,s.H.set id (.aO l K ks (rows.map uV) cl)⟩)
  |_=>(true,s)
 |_=>(true,s)
def r9(rows:List (List G)):Bool:=rows.all fun r=>(gi r 3).bool||(gi r 4).bool
def yF(slot:Nat)(s:al):Bool × al :=
 match s.fr.getD slot .undef with
 | .map id=>match s.H[id]? with
  |some (.aO _ K ks rows cl)=>(r9 rows,⟨s.fr,s.H.set id (.map K (.one (.list ks)) rows cl)⟩)
  |_=>(true,s)
 |_=>(true,s)
def yG(rows:List (List G)):Bool:=rows.all fun r=>(gi r 3).bool
def yH(slot:Nat)(s:al):Bool × al :=
 match s.fr.getD slot .undef with
 | .map id=>match s.H[id]? with
  |some (.aO _ K ks rows cl)=>(yG rows,⟨s.fr,s.H.set id (.map K (.one (.list ks)) rows cl)⟩)
  |_=>(true,s)
 |_=>(true,s)
def yI(slot l:Nat)(KI VI:Ct)(s:al):Bool × al :=
 match s.fr.getD slot .undef with
 | .map id=>match s.H[id]? with
  |some (.map K _ [] cl)=>(kT (aj s.H) l,⟨s.fr,s.H.set id (.mm l K KI VI [] [] cl)⟩)
  |_=>(true,s)
 |_=>(true,s)
def yJ(slot c l:Nat)(KI VI:Ct)(s:al):Bool × al :=
 match s.fr.getD slot .undef with
 | .ptr a _ _ _ _=>match s.H[a]? with
  | some (.raw (.box cells))=>match cells[c]? with
   | some (.map id)=>match s.H[id]? with
    |some (.map K _ rows cl)=>(rS (kT (aj s.H) l) rows.isEmpty,⟨s.fr,s.H.set id (.mm l K KI VI [] [] cl)⟩)
    |_=>(true,s)
   |_=>(true,s)
  |_=>(true,s)
 |_=>(true,s)
def De(id:Nat)(s:al):Bool × al :=
 match s.H[id]? with
 |some (.raw (.box _))=>(true,⟨s.fr,s.H.set id (.vec [] 1 [])⟩)
 |some (.map ..)=>(true,⟨s.fr,s.H.set id (.vec [] 1 [])⟩)
 |some (.mm ..)=>(true,⟨s.fr,s.H.set id (.vec [] 1 [])⟩)
 |_=>(true,s)
def Df(slot c:Nat)(ks:List Kd)(s:al):Bool × al :=
 match s.fr.getD slot .undef with
 | .ptr id _ _ _ _=>match s.H[id]? with
  | some (.raw (.box cells))=>match cells[c]? with
   | some (.list w rows)=>match bu ks rows with
    |some gs=>if w=ks.length then (true,⟨s.fr,s.H.set id (.raw (.box (cells.set c (.listF ks gs))))⟩) else (true,s)
    |none=>(true,s)
   |_=>(true,s)
  |_=>(true,s)
 |_=>(true,s)
def yK:Hint→al→Bool × al
 |.freeze i,s=>yA i s
 | .KZ i ks,s=>match isNil (s.fr.getD i .undef) with
  |true=>(true,uJ i ks s)
  |false=>(true,s)
 |.K3 i c ks,s=>Dd i c ks s
 |.K4 i,s=>yC i s
 |.K5 i c,s=>yB i c s
 |.hole ks,s=>(true,⟨s.fr,s.H++[.vec ks 0 []]⟩)
 |.r7,s=>(true,⟨s.fr,s.H++[.raw .dQ]⟩)
 |.aO i l,s=>yD i l s
 |.yx i,s=>yH i s
 |.yy i l,s=>yE i l s
 |.yz i,s=>yF i s
 |.mm i l KI VI,s=>yI i l KI VI s
 |.r8 i c l KI VI,s=>yJ i c l KI VI s
 |.forget i,s=>De i s
 |.K6 i c ks,s=>Df i c ks s
def uW:List Hint→al→Bool × al
 | [],s=>(true,s)
 | h::d,s=>match yK h s with
  | (b,s1)=>match uW d s1 with
   |(k,s2)=>(b&&k,s2)
theorem Wh{m:Nat}{slot:Nat}{s:al}(h:(yA slot s).1=true):be m s.den (yA slot s).2.den:=by
 unfold yA at h⊢;split
 case h_2=>exact be.refl _
 rename_i w id ad off n J;split
 case h_2=>exact be.refl _
 rename_i ks v rows hid;split
 case isFalse=>exact be.refl _
 rename_i u;obtain⟨rfl,rfl,rfl⟩:=u;simp only[J,hid,and_self,if_true]at h;have V:=bk h;subst V;intro E a d;have hH:E.H=aj s.H:=d.H;have hle:=Env.qI d.heap id;have U:=ar.drop d.heap id fun o ho=>by
  rw[show E.H[id]? = some (.vec ks.length ad (rows.map (aH ks))) by rw[hH]; exact a_ hid]at ho;cases ho;rfl
 have B:aj (s.H.set id (.raw .dead))=E.H.set id .dead:=by rw[c5,hH]; rfl
 refine⟨E.loc.set id none,E.X,?_,?_⟩
 ·simp only [al.den]
  rw[B];refine⟨rfl,?_,d.defers,U⟩;refine ym (dw hle _ d.fr) fun c u=>?_;have hr:=C4 d.fr u;rw[show s.den.fr=s.fr from rfl,J]at hr;have I:E.H[id]? = some (.vec ks.length ad (rows.map (aH ks))):=by rw[hH]; exact a_ hid
  have ho:=d.heap.obj id _ I;rw[iN];simp only[rel]at hr⊢;obtain⟨⟨base,cap,rfl,O,_⟩,_,y⟩:=hr;obtain⟨q1,W⟩:=y ⟨_,I,rfl⟩;have M:eS (rows.map (aH ks)):=by
   intro r hr;obtain⟨g,_,rfl⟩:=cV.1 hr;exact fG ks g
  refine⟨M,base,cap,by simp,by simpa using O,?_⟩;simp only[aJ]at ho;rcases ho with⟨h1,N⟩|⟨b,mm,h1,N,y,_,h4⟩
  ·exact .inl N
  ·obtain ⟨g1, o, g2, g3⟩ := W b mm h1
   by_cases hm:rows=[]
   ·subst hm; exact .inl rfl
   ·right
    have:0<rows.length:=by cases rows with|nil=>exact(hm rfl).elim|cons _ _=>simp
    simp at y;have ho:=g2 (by omega);simp at ho;subst ho;simp only[jT]at g3;refine⟨b,0,g3.1,⟨(d.heap.lt id b mm h1).1,?_,(d.heap.lt id b mm h1).2⟩,kO hle.toC _ M rfl h4⟩;rintro(⟨j,c',q⟩|⟨l,k,c',q⟩)
    case inr=>exact d.heap.cP _ _ _ _ _ _ h1 q
    simp only[dU]at q;split at q
    ·split at q<;>cases q
    ·rename_i aw
     exact aw (d.heap.inj _ _ _ _ _ h1 q)
 ·simp only [al.den]
  rw[B];exact hle.toM
theorem Wi{m:Nat}{slot c:Nat}{ks:List Kd}{s:al}:be m s.den (Dd slot c ks s).2.den:=by
 unfold Dd;split
 case h_2=>exact be.refl _
 rename_i id ad k row col hsl;split
 case h_2=>exact be.refl _
 rename_i cells hid;split
 case h_2=>exact be.refl _
 rename_i a0 ha0;split
 case h_2=>exact be.refl _
 rename_i hnil;intro E a q;have hH:E.H=aj s.H:=q.H;have hlen:E.H.length=s.H.length:=by rw[hH,eD]
 have hle:E.le (E.push E.w (.vec ks.length 0 []) none):=Env.jC q.heap.len (Ext.refl _) (fun b n h=>by cases h);have hobj:aJ (E.push E.w (.vec ks.length 0 []) none) E.H.length (.vec ks.length 0 []):=by
  simp only[aJ,Env.push];refine .inl ⟨?_,trivial⟩;rw[hZ (by rw[q.heap.len]; exact aD _),q.heap.len,mn];rfl
 have y:ar (E.push E.w (.vec ks.length 0 []) none):=ar.push q.heap (Ext.refl _) (fun b n h=>by cases h) hobj;generalize B:E.push E.w (.vec ks.length 0 []) none=d at hle y;have M:d.w=E.w:=by rw[←B]; rfl
 have N:d.X=E.X:=by rw[←B]; rfl
 have O:d.H=aj (s.H++[.vec ks 0 []]):=by rw[←B,gU,←hH]; rfl
 have W:id<s.H.length:=aI hid;have I:d.H[id]? = some (.box cells):=by
  rw[O];exact a_ (H:=s.H++[.vec ks 0 []]) (o:=.raw (.box cells)) (by rw[cK W]; exact hid)
 have ho:=y.obj id _ I;simp only[aJ]at ho;obtain⟨b,n,h1,h2,U⟩:=ho;have hver:∀ v,(ab.box (cells.set c (.vec ks.length s.H.length 0 0 0))).aF = some v→(ab.box cells).aF = some v:=fun v V=>by simpa[ab.aF]using V
 have J:=Env.mB (o':=.box (cells.set c (.vec ks.length s.H.length 0 0 0))) (w':=d.w) y I h1 hver rfl (fun _ _=>rfl);have hnew:d.H[s.H.length]? = some (.vec ks.length 0 []):=by
  rw[O];have e:(s.H++[ah.vec ks 0 []])[s.H.length]? = some (ah.vec ks 0 []):=by rw[hZ (aD _),mn]; rfl
  exact a_ e
 have hloc:d.loc[s.H.length]? = some none:=by
  rw[←B];simp only[Env.push];rw[hZ (by rw[q.heap.len]; omega),q.heap.len,hlen,mn];rfl
 have hrel:∀ v,rel d a0 v→rel { w:=d.w,H:=d.H.set id (.box (cells.set c (.vec ks.length s.H.length 0 0 0))),loc:=d.loc,X:=d.X } (.vec ks.length s.H.length 0 0 0) v:=by
  intro v V;obtain⟨base,rfl⟩:=J8 hnil V;simp only[rel];have aw:id≠s.H.length:=by omega
  refine⟨⟨base,0,rfl,aD _,fun h=>absurd h (qz _)⟩,⟨.vec ks.length 0 [],by rw[aR aw]; exact hnew,rfl,fun v h=>eI _⟩,fun _=>⟨fun _=>⟨trivial,trivial,base,rfl⟩,fun b m hb=>?_⟩⟩;rw[hloc]at hb;cases hb
 have hHR2:=ar.set (w':=d.w) y I h1 hver rfl (fun _ _=>rfl) (by
  simp only[aJ];refine⟨b,n,h1,by simpa using h2,?_⟩;rw[iM]at U⊢;intro i x u;rw[dU]at u;split at u
  ·rename_i e
   subst e;split at u
   ·cases u
    obtain⟨v,g1,g2,g3⟩:=U c a0 ha0;exact⟨v,g1,g2,hrel v g3⟩
   ·cases u
  ·obtain ⟨v, g1, g2, g3⟩ := U i x u
   exact⟨v,g1,g2,bH J x g3⟩)
 have hden:aj (s.H.set id (.raw (.box (cells.set c (.vec ks.length s.H.length 0 0 0))))++[.vec ks 0 []])=d.H.set id (.box (cells.set c (.vec ks.length s.H.length 0 0 0))):=by
  rw[O,gU,gU,c5,Hy _ _ (by rw[eD]; exact W)];rfl
 refine⟨d.loc,E.X,?_,?_⟩
 ·simp only [al.den]
  rw[hden];rw[M,N]at hHR2;refine⟨rfl,?_,q.defers,hHR2⟩;have:=dw J _ (dw hle _ q.fr);rw[M,N]at this;exact this
 ·simp only [al.den]
  rw[hden];have:=(hle.trans J).toM (m:=m);rw[M,N]at this;exact this
theorem Wj{m:Nat}{slot c:Nat}{s:al}(h:(yB slot c s).1=true):be m s.den (yB slot c s).2.den:=by
 unfold yB at h⊢;split
 case h_2=>exact be.refl _
 rename_i id ver0 k row col hsl;split
 case h_2=>exact be.refl _
 rename_i cells hid;split
 case h_2=>exact be.refl _
 rename_i w q ad off n V;split
 case h_2=>exact be.refl _
 rename_i ks v rows N;split
 case isFalse=>exact be.refl _
 rename_i hc;obtain⟨rfl,rfl,rfl⟩:=hc;simp only[hsl,hid,V,N,and_self,if_true]at h;have hn:=bk h;subst hn;intro E a u;have hH:E.H=aj s.H:=u.H;have aw:id≠q:=fun e=>by
  rw[e,N]at hid;cases hid
 have hide:E.H[id]? = some (.box cells):=by rw[hH]; exact a_ hid
 have W:E.H[q]? = some (.vec ks.length ad (rows.map (aH ks))):=by rw[hH]; exact a_ N
 obtain⟨b0,n0,k1,k2,k3⟩:=u.heap.obj id _ hide;rw[iM]at k3;obtain⟨cv,c1,c2,c3⟩:=k3 c _ V;have hfr:=IW u.heap W c3;have hle:=Env.qI u.heap q;have J:=ar.drop u.heap q fun o ho=>by
  rw[W]at ho;cases ho;rfl
 generalize B:({ w:=E.w,H:=E.H.set q .dead,loc:=E.loc.set q none,X:=E.X }:Env)=d at hle J hfr;have M:d.w=E.w:=by rw[←B]
 have U:d.X=E.X:=by rw[←B]
 have O:d.H[id]? = some (.box cells):=by
  rw[←B];show (E.H.set q .dead)[id]? = _
  rw[aR (Ne.symm aw)];exact hide
 have hl1:d.loc[id]? = some (some (b0,n0)):=by
  rw[←B];show (E.loc.set q none)[id]? = _
  rw[aR (Ne.symm aw)];exact k1
 obtain⟨b,n,h1,h2,h3⟩:=J.obj id _ O;have hbb:b=b0:=by
  rw[hl1]at h1;cases h1;rfl
 subst hbb;have hver:∀ v,(ab.box (cells.set c (.listF ks rows))).aF = some v→(ab.box cells).aF = some v:=fun v hv=>by simpa[ab.aF]using hv
 have I:=Env.mB (o':=.box (cells.set c (.listF ks rows))) (w':=d.w) J O h1 hver rfl (fun _ _=>rfl);have hHR2:=ar.set (w':=d.w) J O h1 hver rfl (fun _ _=>rfl) (by
  simp only[aJ];refine⟨b,n,h1,by simpa using h2,?_⟩;rw[iM]at h3⊢;intro i x y;rw[dU]at y;split at y
  ·rename_i e
   subst e;split at y
   ·cases y
    refine⟨cv,by rw[show ({ w:=d.w,H:=_,loc:=d.loc,X:=d.X }:Env).w=E.w from M]; exact c1,c2,bH I _ hfr⟩
   ·cases y
  ·obtain ⟨v, g1, g2, g3⟩ := h3 i x y
   exact⟨v,g1,g2,bH I x g3⟩)
 have hden:aj ((s.H.set q (.raw .dead)).set id (.raw (.box (cells.set c (.listF ks rows)))))=d.H.set id (.box (cells.set c (.listF ks rows))):=by
  rw[c5,c5,←hH,←B];rfl
 refine⟨d.loc,E.X,?_,?_⟩
 ·simp only [al.den]
  rw[hden];rw[M,U]at hHR2;refine⟨rfl,?_,u.defers,hHR2⟩;have:=dw I _ (dw hle _ u.fr);rw[M,U]at this;exact this
 ·simp only [al.den]
  rw[hden];have:=(hle.trans I).toM (m:=m);rw[M,U]at this;exact this
theorem Wk{m:Nat}{slot c:Nat}{ks:List Kd}{s:al}:be m s.den (Df slot c ks s).2.den:=by
 unfold Df;split
 case h_2=>exact be.refl _
 rename_i id W k row col hsl;split
 case h_2=>exact be.refl _
 rename_i cells hid;split
 case h_2=>exact be.refl _
 rename_i w rows J;split
 case h_2=>exact be.refl _
 rename_i gs hg;split
 case isFalse=>exact be.refl _
 rename_i hw;subst hw;intro E a d;have hH:E.H=aj s.H:=d.H;have u:E.H[id]? = some (.box cells):=by rw[hH]; exact a_ hid
 obtain⟨b,n,h1,N,y⟩:=d.heap.obj id _ u;have B:∀ v,(ab.box (cells.set c (.listF ks gs))).aF = some v→(ab.box cells).aF = some v:=fun v O=>by simpa[ab.aF]using O
 have q:=Env.mB (o':=.box (cells.set c (.listF ks gs))) (w':=E.w) d.heap u h1 B rfl (fun _ _=>rfl);have M:=ar.set (w':=E.w) d.heap u h1 B rfl (fun _ _=>rfl) (by
  simp only[aJ];refine⟨b,n,h1,by simpa using N,?_⟩;rw[iM]at y⊢;intro i x h;rw[dU]at h;split at h
  ·rename_i e
   subst e;split at h
   ·cases h
    obtain⟨U,c1,c2,V⟩:=y c _ J;refine⟨U,c1,c2,bH q _ ?_⟩;rw[iN,pE hg];exact V
   ·cases h
  ·obtain ⟨v, g1, g2, g3⟩ := y i x h
   exact⟨v,g1,g2,bH q x g3⟩)
 have I:aj (s.H.set id (.raw (.box (cells.set c (.listF ks gs)))))=E.H.set id (.box (cells.set c (.listF ks gs))):=by rw[c5,←hH]; rfl
 refine⟨E.loc,E.X,?_,?_⟩
 ·simp only [al.den]
  rw[I];exact⟨rfl,dw q _ d.fr,d.defers,M⟩
 ·simp only [al.den]
  rw[I];exact q.toM
theorem Wl{m:Nat}{slot:Nat}{s:al}(h:(yC slot s).1=true):be m s.den (yC slot s).2.den:=by
 unfold yC at h⊢;split
 case h_2=>exact be.refl _
 rename_i w id ad off n M;split
 case h_2=>exact be.refl _
 rename_i ks v rows hid;split
 case isFalse=>exact be.refl _
 rename_i y;obtain⟨rfl,rfl,rfl⟩:=y;simp only[M,hid,and_self,if_true]at h;have hn:=qy h;intro E a d;have hH:E.H=aj s.H:=d.H;have q:E.H[id]? = some (.vec ks.length ad (rows.map (aH ks))):=by rw[hH]; exact a_ hid
 have ho:=d.heap.obj id _ q;obtain⟨l,B⟩:∃ l,E.loc[id]? = some l:=by
  have:id<E.loc.length:=by rw[d.heap.len]; exact aI q
  exact⟨_,bt this⟩
 have N:E.loc.set id l=E.loc:=lG B;have J:aj (s.H.set id (.vec ks (ad+1) (rows.take n)))=E.H.set id (.vec ks.length (ad+1) ((rows.take n).map (aH ks))):=by rw[c5,hH]; rfl
 have hlc:∀ b n,l=some (b,n)→E.w.heap.size≤b∨∃ m,E.loc[id]? = some (some (b,m)):=fun b n hb=>.inr ⟨n,by rw[B,hb]⟩;have O:∀ v u,(ab.vec ks.length (ad+1) ((rows.take n).map (aH ks))).aF = some v→(ab.vec ks.length ad (rows.map (aH ks))).aF = some u→u≤v:=by
  intro v u h1 k;simp[ab.aF]at h1 k;omega
 have U:∀ v,(ab.vec ks.length (ad+1) ((rows.take n).map (aH ks))).aF = some v→∀ u,(ab.vec ks.length ad (rows.map (aH ks))).aF = some u→u<v:=by
  intro v h1 u k;simp[ab.aF]at h1 k;omega
 have hle:=Env.jD (o':=.vec ks.length (ad+1) ((rows.take n).map (aH ks))) (l:=l) (w':=E.w) q d.heap.len (aD _) (fun _ _ _=>rfl) hlc (.inr U) O (fun _ h=>by simp[ab.aF]at h);have V:=ar.kP (o':=.vec ks.length (ad+1) ((rows.take n).map (aH ks))) (l:=l) (w':=E.w) d.heap q (aD _) (fun _ _ _=>rfl) (fun b n hb=>.inr ⟨n,by rw[B,hb]⟩) (.inr U) O (fun _ h=>by simp[ab.aF]at h) (by
  rw[N]at hle⊢;simp only[aJ]at ho⊢;rcases ho with⟨h1,k⟩|⟨b,mm,h1,k,I,h4,W⟩
  ·left
   refine⟨h1,?_⟩;have:rows=[]:=by simpa using k
   rw[this];simp
  ·right
   refine⟨b,mm,h1,k,by simp at I⊢; omega,?_,?_⟩
   ·intro r hr
    obtain⟨g,_,rfl⟩:=cV.1 hr;exact fG ks g
   ·rw [lz] at W ⊢
    intro i r hi;simp only[bT,nf]at hi;split at hi
    ·obtain ⟨g1, g2⟩ := W i r (by simpa using hi)
     exact⟨g1,tH (fun a c hr=>bH hle a hr) rfl g2⟩
    ·simp at hi)
 rw[N]at hle V;refine⟨E.loc,E.X,?_,?_⟩
 ·simp only [al.den]
  rw[J];refine⟨rfl,?_,d.defers,V⟩;refine ym (dw hle _ d.fr) fun c y=>?_;have hr:=C4 d.fr y;rw[show s.den.fr=s.fr from rfl,M]at hr;simp only[rel]at hr⊢;obtain⟨h1,k,I⟩:=hr;exact⟨h1,⟨.vec ks.length (ad+1) ((rows.take n).map (aH ks)),bx (aI q),rfl,fun v hv=>by simp[ab.aF]at hv; omega⟩,fun _=>I ⟨_,q,rfl⟩⟩
 ·simp only [al.den]
  rw[J];exact hle.toM
theorem Wm{m:Nat}{ks:List Kd}{s:al}:be m s.den (al.den ⟨s.fr,s.H++[.vec ks 0 []]⟩):=fun E a d=>by
 have hH:E.H=aj s.H:=d.H;have hle:E.le (E.push E.w (.vec ks.length 0 []) none):=Env.jC d.heap.len (Ext.refl _) (fun b n h=>by cases h);have q:aJ (E.push E.w (.vec ks.length 0 []) none) E.H.length (.vec ks.length 0 []):=by
  simp only[aJ,Env.push];refine .inl ⟨?_,trivial⟩;rw[hZ (by rw[d.heap.len]; exact aD _),d.heap.len,mn];rfl
 have u:ar (E.push E.w (.vec ks.length 0 []) none):=ar.push d.heap (Ext.refl _) (fun b n h=>by cases h) q;have k:(al.den ⟨s.fr,s.H++[.vec ks 0 []]⟩).H=E.H++[.vec ks.length 0 []]:=by
  rw[hH];simp[al.den,aj,ah.den]
 refine⟨E.loc++[none],E.X,?_,?_⟩
 ·rw [k]
  exact⟨k.symm,dw hle _ d.fr,d.defers,u⟩
 ·rw [k]
  exact hle.toM
theorem Wn{m:Nat}{s:al}:be m s.den (al.den ⟨s.fr,s.H++[.raw .dQ]⟩):=fun E a d=>by
 have hH:E.H=aj s.H:=d.H;have hle:E.le (E.push E.w (.dQ) none):=Env.jC d.heap.len (Ext.refl _) (fun b n h=>by cases h);have q:aJ (E.push E.w (.dQ) none) E.H.length (.dQ):=by
  simp only[aJ,Env.push];rw[hZ (by rw[d.heap.len]; exact aD _),d.heap.len,mn];rfl
 have u:ar (E.push E.w (.dQ) none):=ar.push d.heap (Ext.refl _) (fun b n h=>by cases h) q;have k:(al.den ⟨s.fr,s.H++[.raw .dQ]⟩).H=E.H++[.dQ]:=by
  rw[hH];simp[al.den,aj,ah.den]
 refine⟨E.loc++[none],E.X,?_,?_⟩
 ·rw [k]
  exact⟨k.symm,dw hle _ d.fr,d.defers,u⟩
 ·rw [k]
  exact hle.toM
theorem Wo{m:Nat}{slot l:Nat}{s:al}(h:(yD slot l s).1=true):be m s.den (yD slot l s).2.den:=by
 unfold yD at h⊢;split
 case h_2=>exact be.refl _
 rename_i id v;split
 case h_2=>exact be.refl _
 rename_i K ks cl hid;simp only[v,hid]at h;intro E a d;have hH:E.H=aj s.H:=d.H;have u:E.H[id]? = some (.map [] cl):=by rw[hH]; exact a_ hid
 obtain⟨h1,q⟩:=Tv (w:=ks.length) d.heap u (by rw[hH]; exact h);have k:aj (s.H.set id (.aO l K ks [] cl))=E.H.set id (.aO l ks.length [] cl):=by rw[c5,hH]; rfl
 refine⟨E.loc,E.X,?_,?_⟩
 ·simp only [al.den]
  rw[k];exact⟨rfl,dw q _ d.fr,d.defers,h1⟩
 ·simp only [al.den]
  rw[k];exact q.toM
theorem Wp{m:Nat}{slot l:Nat}{KI VI:Ct}{s:al}(h:(yI slot l KI VI s).1=true):be m s.den (yI slot l KI VI s).2.den:=by
 unfold yI at h⊢;split
 case h_2=>exact be.refl _
 rename_i id v;split
 case h_2=>exact be.refl _
 rename_i K V cl hid;simp only[v,hid]at h;intro E a d;have hH:E.H=aj s.H:=d.H;have u:E.H[id]? = some (.map [] cl):=by rw[hH]; exact a_ hid
 obtain⟨h1,q⟩:=IM d.heap u (by rw[hH]; exact h);have k:aj (s.H.set id (.mm l K KI VI [] [] cl))=E.H.set id (.mm l [] [] cl):=by rw[c5,hH]; rfl
 refine⟨E.loc,E.X,?_,?_⟩
 ·simp only [al.den]
  rw[k];exact⟨rfl,dw q _ d.fr,d.defers,h1⟩
 ·simp only [al.den]
  rw[k];exact q.toM
theorem Wq{m:Nat}{slot c l:Nat}{KI VI:Ct}{s:al}(h:(yJ slot c l KI VI s).1=true):be m s.den (yJ slot c l KI VI s).2.den:=by
 unfold yJ at h⊢;split
 case h_2=>exact be.refl _
 rename_i a _ _ _ _ v;split
 case h_2=>exact be.refl _
 rename_i cells y;split
 case h_2=>exact be.refl _
 rename_i id B;split
 case h_2=>exact be.refl _
 rename_i K V rows cl hid;simp only[v,y,B,hid,rT]at h;obtain⟨h,he⟩:=h;have he:rows=[]:=by cases rows with|nil=>rfl|cons _ _=>cases he
 subst he;intro E act d;have hH:E.H=aj s.H:=d.H;have u:E.H[id]? = some (.map [] cl):=by rw[hH]; exact a_ hid
 obtain⟨h1,q⟩:=IM d.heap u (by rw[hH]; exact h);have k:aj (s.H.set id (.mm l K KI VI [] [] cl))=E.H.set id (.mm l [] [] cl):=by rw[c5,hH]; rfl
 refine⟨E.loc,E.X,?_,?_⟩
 ·simp only [al.den]
  rw[k];exact⟨rfl,dw q _ d.fr,d.defers,h1⟩
 ·simp only [al.den]
  rw[k];exact q.toM
theorem ar.forget{E:Env}(H:ar E){id l0:Nat}{o:ab}(hid:E.H[id]? = some o)(hlab:o.label=some l0)(hver:o.aF = some 0) :
  ar { w:=E.w,H:=E.H.set id (.vec 0 1 []),loc:=E.loc.set id none,X:=E.X.re (gR E.X.r l0) }∧E.le { w:=E.w,H:=E.H.set id (.vec 0 1 []),loc:=E.loc.set id none,X:=E.X.re (gR E.X.r l0) }:=by
 have J:=aI hid;have hltl:id<E.loc.length:=by rw[H.len]; exact J
 have M:∀(i:Nat) x,(E.H.set id (.vec 0 1 []))[i]? = some x→(i=id∧x=.vec 0 1 [])∨(i≠id∧E.H[i]? = some x):=fun i x hi=>by
  by_cases d:i=id
  ·subst d
   rw[bx J]at hi;cases hi;exact .inl ⟨rfl,rfl⟩
  ·rw [aR (Ne.symm d)] at hi
   exact .inr ⟨d,hi⟩
 have I:∀(i b m:Nat),(E.loc.set id none)[i]? = some (some (b,m))→i≠id∧E.loc[i]? = some (some (b,m)):=fun i b m hi=>by
  by_cases d:i=id
  ·subst d
   rw[bx hltl]at hi;cases hi
  ·rw [aR (Ne.symm d)] at hi
   exact⟨d,hi⟩
 have hle:E.le { w:=E.w,H:=E.H.set id (.vec 0 1 []),loc:=E.loc.set id none,X:=E.X.re (gR E.X.r l0) }:=by
  refine⟨fun i ad N=>?_,aD _,fun _ _ _=>rfl,fun b hb hno=>?_,fun i ad N B=>?_,⟨rfl,rfl⟩,fun l h hh=>?_,.refl _,fun i l x h1 q O=>?_⟩
  rotate_right
  ·by_cases d : i = id
   ·subst d
    obtain⟨y,u,U⟩:=O;rw[show (E.H.set i (.vec 0 1 []))[i]? = some (.vec 0 1 []) from bx J]at u;cases u;cases U
   ·have V : l ≠ l0 := fun V => d (H.uniq i id x o l h1 hid (ab.kM q) (by rw [V]; exact hlab))
    exact⟨⟨[],by rw[db]; exact if_neg V⟩,x,by simp only[]; rw[aR (Ne.symm d)]; exact h1,q⟩
  ·obtain ⟨x, h1, q⟩ := N
   by_cases d:i=id
   ·subst d
    rw[hid]at h1;cases h1;have:=q.2 0 hver;exact⟨.vec 0 1 [],by simp only[]; rw[bx J],rfl,fun v O=>by cases O; omega⟩
   ·exact⟨x,by simp only[]; rw[aR (Ne.symm d)]; exact h1,q⟩
  ·rintro (⟨i, c, hi⟩ | ⟨l, h, m, hm⟩)
   ·exact hno (.inl ⟨i,c,(I i b c hi).2⟩)
   ·exact hno (.inr ⟨l,h,m,(il hm).1⟩)
  ·obtain ⟨x, h1, q⟩ := B
   rcases M i x h1 with⟨rfl,rfl⟩|⟨d,u⟩
   ·cases q
    obtain⟨y,u,U⟩:=N;rw[hid]at u;cases u;have:=U.2 0 hver;omega
   ·exact⟨⟨x,u,q⟩,aR (Ne.symm d)⟩
  ·refine ⟨?_, fun y W => (il W).1⟩
   show h<(gR E.X.r l0 l).length
   rw[IJ];exact hh
 refine⟨⟨by simp[H.len],fun i j b m n hi hj=>H.inj i j b m n (I _ _ _ hi).2 (I _ _ _ hj).2,fun i b m hi=>H.lt i b m (I _ _ _ hi).2,H.X,fun i x hi=>?_,H.fb.bF hle.toC,fun l h l' h' b m n h1 q=>H.eC _ _ _ _ _ _ _ (il h1).1 (il q).1,fun i b m l h n hi hk=>H.cP _ _ _ _ _ _ (I _ _ _ hi).2 (il hk).1,fun l h b m hk=>H.ch _ _ _ _ (il hk).1,fun i k x y l hi hk h1 q=>?_,fun l hn h y W=>?_⟩,hle⟩
 ·rcases M i x hi with ⟨rfl, rfl⟩ | ⟨d, u⟩
  ·simp only [aJ]
   exact .inl ⟨bx hltl,trivial⟩
  ·refine jZ (fun a _ hr => bH hle a hr) (aR (Ne.symm d)) (fun _ _ _ => rfl) (fun l B => ?_) (H.obj i x u)
   have hne2:l≠l0:=fun e=>d (H.uniq i id x o l u hid B (by rw[hlab,e]));exact⟨if_neg hne2,fun _ _ _ _=>rfl⟩
 ·have key:∀ (i:Nat) x,(E.H.set id (.vec 0 1 []))[i]? = some x→x.label=some l→E.H[i]? = some x:=by
   intro i x hi B;rcases M i x hi with⟨rfl,rfl⟩|⟨d,u⟩
   ·cases B
   ·exact u
  exact H.uniq i k x y l (key i x hi h1) (key k y hk q) h1 q
 ·obtain ⟨g1, g2⟩ := il W
  refine H.gd l (fun i x hi B=>?_) h y g1;by_cases e:i=id
  ·subst e
   rw[hid]at hi;cases hi;exact g2 (by rw[hlab]at B; cases B; rfl)
  ·exact hn i x (by show (E.H.set id (.vec 0 1 []))[i]? = _; rw[aR (Ne.symm e)]; exact hi) B
theorem ar.Wr{E:Env}(H:ar E){id:Nat}{o:ab}(hid:E.H[id]? = some o)(hlab:o.label=none)(q:o.aF = some 0) :
  ar { w:=E.w,H:=E.H.set id (.vec 0 1 []),loc:=E.loc.set id none,X:=E.X }∧E.le { w:=E.w,H:=E.H.set id (.vec 0 1 []),loc:=E.loc.set id none,X:=E.X }:=by
 have J:=aI hid;have I:id<E.loc.length:=by rw[H.len]; exact J
 have d:∀ v,(ab.vec 0 1 []).aF = some v→∀ u,o.aF = some u→u<v:=fun v k u hu=>by
  rw[q]at hu;cases hu;cases k;exact Nat.zero_lt_one
 have y:∀ v u,(ab.vec 0 1 []).aF = some v→o.aF = some u→u≤v:=fun v u k hu=>Nat.le_of_lt (d v k u hu);have B:o.born=true→o.aF = none→(ab.vec 0 1 []).aF = none:=fun _ h=>by rw[q]at h; cases h
 refine⟨ar.kP H hid (aD _) (fun _ _ _=>rfl) (fun _ _ h=>by cases h) (.inr d) y B ?_ (hlab:=hlab),Env.jD hid H.len (aD _) (fun _ _ _=>rfl) (fun _ _ h=>by cases h) (.inr d) y B (hmm:=.inl (ab.wX hlab))⟩;simp only[aJ];exact .inl ⟨bx I,trivial⟩
theorem Ws{m:Nat}{id:Nat}{s:al}:be m s.den (De id s).2.den:=by
 have k:∀ o:ah,s.H[id]? = some o→o.den.label=none→o.den.aF = some 0→be m s.den (al.den ⟨s.fr,s.H.set id (.vec [] 1 [])⟩):=fun o hid h1 q=>by
  intro E a d;have hH:E.H=aj s.H:=d.H;obtain⟨g1,g2⟩:=ar.Wr d.heap (by rw[hH]; exact a_ hid) h1 q;have h:aj (s.H.set id (.vec [] 1 []))=E.H.set id (.vec 0 1 []):=by rw[c5,hH]; rfl
  refine⟨E.loc.set id none,E.X,?_,?_⟩
  ·simp only [al.den]
   rw[h];exact⟨rfl,dw g2 _ d.fr,d.defers,g1⟩
  ·simp only [al.den]
   rw[h];exact g2.toM
 unfold De;split
 ·rename_i hid
  exact k _ hid rfl rfl
 ·rename_i hid
  exact k _ hid rfl rfl
 ·rename_i l K KI VI rows mem cl hid
  intro E a d;have hH:E.H=aj s.H:=d.H;obtain⟨g1,g2⟩:=ar.forget (l0:=l) d.heap (by rw[hH]; exact a_ hid) rfl rfl;have h:aj (s.H.set id (.vec [] 1 []))=E.H.set id (.vec 0 1 []):=by rw[c5,hH]; rfl
  refine⟨E.loc.set id none,E.X.re (gR E.X.r l),?_,?_⟩
  ·simp only [al.den]
   rw[h];exact⟨rfl,dw g2 _ d.fr,d.defers,g1⟩
  ·simp only [al.den]
   rw[h];exact g2.toM
 ·exact be.refl _
theorem Wt{m:Nat}{slot:Nat}{s:al}(h:(yH slot s).1=true):be m s.den (yH slot s).2.den:=by
 unfold yH at h⊢;split
 case h_2=>exact be.refl _
 rename_i id J;split
 case h_2=>exact be.refl _
 rename_i l K ks rows cl hid;simp only[J,hid]at h;intro E a d;have hH:E.H=aj s.H:=d.H;have u:E.H[id]? = some (.aO l ks.length (eX K ks rows) cl):=by rw[hH]; exact a_ hid
 have ho:=d.heap.obj id _ u;simp only[aJ]at ho;obtain⟨b,n,ms,g1,g2,g3,hh,k1,U⟩:=ho;obtain⟨h1,y⟩:=ar.IK (o':=.map (cS K (.one (.list ks)) rows) cl) d.heap u rfl rfl rfl fun hle=>by
  simp only[aJ];refine⟨b,n,ms,g1,g2,?_⟩;rw[dX]at g3⊢;obtain⟨V,W⟩:=g3;refine⟨by simpa[cS,cu,eX]using V,fun i x e k he=>?_⟩;unfold cS at k;rw[bT]at k;obtain⟨r,hr,rfl⟩:=dN.1 k;have B:=rG (K:=K) (ks:=ks) hr;have M:(gi r 3).bool=true:=dq.1 h r (eB hr);obtain⟨I,a2,a3,a4,a5⟩:=W i _ e (tV B) he;rw[xR]at I a4;refine⟨bH hle _ I,?_,a3,a4,rfl⟩;have N:=U i _ ((gT r).map (aH ks)) e B (by simp only[gD,M,cond_true]) he;show rel _ (.listF ks (gT r)) e.val
  rw[iN];simp only[rel];have O:eS ((gT r).map (aH ks)):=by
   intro r hr;obtain⟨g,_,rfl⟩:=cV.1 hr;exact fG ks g
  refine⟨O,?_⟩;rcases N with⟨s1,base,s2⟩|⟨bb,mm,s1,s2,s3,s4,s5,s6⟩
  ·rw [s1]
   exact⟨base,0,s2,aD _,.inl rfl⟩
  ·refine ⟨_, mm, s2, s4, .inr ⟨bb, 0, rfl, ⟨(d.heap.ch _ _ _ _ s1).1, ?_, (d.heap.ch _ _ _ _ s1).2⟩, jY (fun a _ hr => bH hle a hr) rfl s6⟩⟩
   rintro(⟨j,c',q⟩|⟨l',k',c',q⟩)
   ·exact d.heap.cP _ _ _ _ _ _ q s1
   ·obtain ⟨j1, j2⟩ := il q
    exact j2 (d.heap.eC _ _ _ _ _ _ _ j1 s1).1
 have v:aj (s.H.set id (.map K (.one (.list ks)) rows cl))=E.H.set id (.map (cS K (.one (.list ks)) rows) cl):=by rw[c5,hH]; rfl
 refine⟨E.loc,E.X.re (gR E.X.r l),?_,?_⟩
 ·simp only [al.den]
  rw[v];exact⟨rfl,dw y _ d.fr,d.defers,h1⟩
 ·simp only [al.den]
  rw[v];exact y.toM
theorem Wu{m:Nat}{slot:Nat}{s:al}(h:(yF slot s).1=true):be m s.den (yF slot s).2.den:=by
 unfold yF at h⊢;split
 case h_2=>exact be.refl _
 rename_i id N;split
 case h_2=>exact be.refl _
 rename_i l K ks rows cl hid;simp only[N,hid]at h;intro E a d;have hH:E.H=aj s.H:=d.H;have v:E.H[id]? = some (.aO l ks.length (eX K ks rows) cl):=by rw[hH]; exact a_ hid
 have ho:=d.heap.obj id _ v;simp only[aJ]at ho;obtain⟨b,n,ms,g1,g2,g3,hh,k1,V⟩:=ho;obtain⟨h1,I⟩:=ar.IK (o':=.map (cS K (.one (.list ks)) rows) cl) d.heap v rfl rfl rfl fun hle=>by
  simp only[aJ];refine⟨b,n,ms,g1,g2,?_⟩;rw[dX]at g3⊢;obtain⟨W,q2⟩:=g3;refine⟨by simpa[cS,cu,eX]using W,fun i x e q he=>?_⟩;unfold cS at q;rw[bT]at q;obtain⟨r,hr,rfl⟩:=dN.1 q;have J:=rG (K:=K) (ks:=ks) hr;have y:((gi r 3).bool||(gi r 4).bool)=true:=dq.1 h r (eB hr);obtain⟨M,a2,a3,a4,a5⟩:=q2 i _ e (tV J) he;rw[xR]at M a4;refine⟨bH hle _ M,?_,a3,a4,rfl⟩;cases k:(gi r 3).bool with
  | false =>
   rw[k,Bool.false_or]at y;have ev:(fp (gD K ks r).1).2=.listF ks (gT r):=by simp only[gD,k,y]; rfl
   rw[ev]at a2;exact bH hle _ a2
  |true =>
  have O:=V i _ ((gT r).map (aH ks)) e J (by simp only[gD,k,cond_true]) he;show rel _ (.listF ks (gT r)) e.val
  rw[iN];simp only[rel];have U:eS ((gT r).map (aH ks)):=by
   intro r hr;obtain⟨g,_,rfl⟩:=cV.1 hr;exact fG ks g
  refine⟨U,?_⟩;rcases O with⟨s1,base,s2⟩|⟨bb,mm,s1,s2,s3,s4,s5,s6⟩
  ·rw [s1]
   exact⟨base,0,s2,aD _,.inl rfl⟩
  ·refine ⟨_, mm, s2, s4, .inr ⟨bb, 0, rfl, ⟨(d.heap.ch _ _ _ _ s1).1, ?_, (d.heap.ch _ _ _ _ s1).2⟩, jY (fun a _ hr => bH hle a hr) rfl s6⟩⟩
   rintro(⟨j,c',u⟩|⟨l',k',c',u⟩)
   ·exact d.heap.cP _ _ _ _ _ _ u s1
   ·obtain ⟨j1, j2⟩ := il u
    exact j2 (d.heap.eC _ _ _ _ _ _ _ j1 s1).1
 have B:aj (s.H.set id (.map K (.one (.list ks)) rows cl))=E.H.set id (.map (cS K (.one (.list ks)) rows) cl):=by rw[c5,hH]; rfl
 refine⟨E.loc,E.X.re (gR E.X.r l),?_,?_⟩
 ·simp only [al.den]
  rw[B];exact⟨rfl,dw I _ d.fr,d.defers,h1⟩
 ·simp only [al.den]
  rw[B];exact I.toM
theorem Wv{m:Nat}{slot l:Nat}{s:al}(h:(yE slot l s).1=true):be m s.den (yE slot l s).2.den:=by
 unfold yE at h⊢;split
 case h_2=>exact be.refl _
 rename_i id y;split
 case h_2=>exact be.refl _
 rename_i K ks rows cl hid;simp only[y,hid]at h;intro E a d;have hH:E.H=aj s.H:=d.H;have v:E.H[id]? = some (.map (cS K (.one (.list ks)) rows) cl):=by rw[hH]; exact a_ hid
 obtain⟨h1,q⟩:=Tw (w:=ks.length) (es:=eX K ks (rows.map uV)) d.heap v (by
  simp only[cu,eX,cS,List.map_map];rfl) (fun x u=>by
  unfold eX at u;obtain⟨r,hr,rfl⟩:=cV.1 u;obtain⟨r0,_,rfl⟩:=cV.1 hr;rfl) (by rw[hH]; exact h)
 have k:aj (s.H.set id (.aO l K ks (rows.map uV) cl))=E.H.set id (.aO l ks.length (eX K ks (rows.map uV)) cl):=by rw[c5,hH]; rfl
 refine⟨E.loc,E.X,?_,?_⟩
 ·simp only [al.den]
  rw[k];exact⟨rfl,dw q _ d.fr,d.defers,h1⟩
 ·simp only [al.den]
  rw[k];exact q.toM
theorem Ww{m:Nat}(h:Hint)(s:al)(hb:(yK h s).1=true):be m s.den (yK h s).2.den:=by
 cases h with
 |freeze i=>exact Wh hb
 | KZ i ks =>
  simp only[yK];split
  ·rename_i h; exact J9 h
  ·exact be.refl _
 |K3 i c ks=>exact Wi
 |K4 i=>exact Wl hb
 |K5 i c=>exact Wj hb
 |hole ks=>exact Wm
 |r7=>exact Wn
 |aO i l=>exact Wo hb
 |yx i=>exact Wt hb
 |yy i l=>exact Wv hb
 |yz i=>exact Wu hb
 |mm i l KI VI=>exact Wp hb
 |r8 i c l KI VI=>exact Wq hb
 |forget i=>exact Ws
 |K6 i c ks=>exact Wk
theorem K7{m:Nat}:∀(d:List Hint) (s:al),(uW d s).1=true→be m s.den (uW d s).2.den
 | [],s,_=>be.refl _
 | h::d,s,hb=>by
  simp only[uW]at hb⊢;simp only[ax]at hb;exact(Ww h s hb.1).trans (K7 d _ hb.2)
def K8:List (Nat × List Hint)→Nat→List Hint
 | [],_=>[]
 | (i,d)::l,id=>match ae id i with
  |true=>d
  |false=>K8 l id
def LT.jO(L:LT)(d:List (Nat × List Hint)):LT:=⟨L.loops,fun id s=>uW (K8 d id) s,L.uG⟩
theorem pT{P:Program}{m:Nat}{c:Code}(d:List (Nat × List Hint)):aA P m (az.jO d) c:=⟨fun _ _ _ _ _ h=>(nomatch h),fun id s hb=>K7 _ s hb,fun _ _ _ _ _ h=>(nomatch h)⟩
end Go.AL

namespace Go.AL
open Go
variable [Dr]
end Go.AL

namespace Go.AL
open Go Go.ChangeMaps
variable [Dr]
theorem bP.jq{s:St}{E:Env}{a:Act}(d:bP s E a)(t:Tmp){v:AV}{u:Value}(h:rel E v u):bP (s.put (some t) v s.H) E (a.put (some t) u) :=
 ⟨d.H,IX d.fr (Env.le.refl E) (some t) h,by rw[put_defers]; exact d.defers,d.heap⟩
theorem pU{m:Nat}{E E':Env}(h:E.dx m E'):E.bF E' :=
 ⟨fun b hb=>⟨⟨Nat.lt_of_lt_of_le hb.1 h.size,h.own b hb.1 hb.2.1,fun d=>hb.2.2 ((h.X b hb.1).1.1 d)⟩,h.same b hb.1 hb.2.1⟩⟩
theorem kq{P:Program}{ops:Array Oper}{Q:Exit→Act→World→Prop}{i:Nat}{o:Oper}{K:Act→World→Prop}{a:Act}{w w':World}{u:Value}
  (hi:ops[i]? = some o) (hg:o.guard=none) (hr:(execOp a.eval o).run P w=.ok (.value u) w') (d:∀ c,o.op≠.defer c) (ro:Option Nat) (h:K (a.put o.dst u) w'):wpOpIn (fz ro) 0 P ops Q i K a w:=by
 unfold wpOpIn;simp only[hi];rw[if_pos (by simp[Region.wanted,hg])];unfold Oper.wpIn;rw[Oper.semAt_eq _ _ _ d,hr];exact⟨fun _ _=>trivial,h⟩
theorem yL{P:Program}{pf:FuncId→Bool}{ops:Array Oper}{Q:Exit→Act→World→Prop}(ro:Option Nat):∀(l:List Oper) (k:Nat) (s s':St) (E:Env) (a:Act) (rest:List Nat),
  (∀(j:Nat) (o:Oper),l[j]? = some o→ops[k+j]? = some o)→fI P pf ops l s s'→bP s E a→(∀ d w',eV E s' d w'→wpOpsIn (fz ro) 0 P ops Q rest d w')→wpOpsIn (fz ro) 0 P ops Q (nq k l.length++rest) a E.w
 | [],k,s,s',E,a,rest,_,h,q,u=>by
  simp only[fI]at h;subst h;exact u _ _ (eV.refl q)
 | o::l,k,s,s',E,a,rest,y,h,q,u=>by
  obtain⟨v,H',M,B⟩:=h;simp only[cr,wP,kG];rw[wpOpsIn_cons];refine B1 q (by simpa using y 0 o rfl) M (fun d w' N=>?_) ro;obtain⟨I,r',h1,O⟩:=N;refine yL ro l (k+1) _ s' { w:=w',H:=H',loc:=I,X:=E.X.re r' } d rest (fun j x U=>?_) B h1 (fun a2 V J=>u a2 V (eV.after O J));have:=y (j+1) x (by simpa using U)
  rwa [show k+1+j=k+(j+1) from by omega]
theorem om{a:Act}{t:Tmp}{u:Value}(h:t<a.tmps.size):(a.put (some t) u).eval (.tmp t)=u:=by
 simp[Act.eval,wO,h]
def Tree.kr:Tree→Option (bL × al)
 |.fail=>none
 |.done x s=>some (x,s)
 | .ask b t e=>match b with
  |true=>t.kr
  |false=>e.kr
 | .side b t=>match b with
  |true=>t.kr
  |false=>none
theorem uX:∀{t:Tree} {x:bL} {s:al},t.kr=some (x,s)→t.holds fun d s'=>d=x∧s'=s
 |.fail,_,_,h=>by cases h
 | .done _ _,_,_,h=>by
  cases h;exact⟨rfl,rfl⟩
 | .ask b t e,_,_,h=>by
  cases b with
  |true=>exact⟨fun _=>uX (t:=t) h,fun h=>(nomatch h)⟩
  |false=>exact⟨fun h=>(nomatch h),fun _=>uX (t:=e) h⟩
 | .side b t,_,_,h=>by
  cases b with
  |true=>exact⟨rfl,uX (t:=t) h⟩
  |false=>cases h
def cG(st:List G→List G→Option (List G))(aY:List G→Nat):List (List G)→List G→Option (List G)
 | [],d=>some d
 | r::rs,d=>match st r d with
  |some d'=>bif ae (aY d') (aY d) then cG st aY rs d' else none
  |none=>none
theorem uY{st:List G→List G→Option (List G)}{aY:List G→Nat}:∀(p q:List (List G)) (d:List G),cG st aY (p++q) d=(cG st aY p d).bind (cG st aY q)
 | [],_,_=>rfl
 | r::p,q,d=>by
  simp only[kG,cG];cases st r d with
  |none=>rfl
  | some d' =>
   simp only[];cases ae (aY d') (aY d)with
   |false=>rfl
   |true=>exact uY p q d'
def cU(r:List G):Nat:=(gi r 2).int.toNat
theorem yM{f:List G→Nat}{r:List G}:∀{l:List (List G)} {seen:Array Nat},(l.map f).Nodup→r∈l→seen.contains (f r)=false →
  (l.filter fun x => !seen.contains (f x)).Perm (r::l.filter fun x => !(seen.push (f r)).contains (f x))
 | [],_,_,h,_=>by cases h
 | x::l,seen,d,hm,k=>by
  obtain⟨q,d⟩:=kK.1 d;rcases bR.1 hm with rfl|hm
  ·have e:(l.filter fun x => !(seen.push (f r)).contains (f x))=l.filter fun x => !seen.contains (f x):=by
    apply List.filter_congr;intro y v;have:(f y==f r)=false:=by
     rw[beq_eq_false_iff_ne];intro e;exact q (e▸cV.2 ⟨y,v,rfl⟩)
    rw[contains_push,this,tC]
   rw[List.filter_cons_of_pos (by rw[k]; rfl),List.filter_cons_of_neg (by rw[contains_push]; simp),e]
  ·have aw:(f x==f r)=false:=by
    rw[beq_eq_false_iff_ne];intro e;exact q (e▸cV.2 ⟨r,hm,rfl⟩)
   have u:=yM d hm k;simp only[List.filter_cons,contains_push seen (f r) (f x),aw,tC];cases seen.contains (f x)with
   |true=>simpa using u
   | false =>
    simp only[Bool.not_false,if_true];exact(List.Perm.cons x u).trans (List.Perm.swap r x _)
structure fh where
 inv:mO
 ps:List jM
 opens:List (Nat × List Kd)
 K:Ct
 V:Ct
 id:Nat
 x:Tmp
 y:Tmp
 it:Tmp
 t1:Tmp
 t2:Tmp
 t3:Tmp
 aY:List G→Nat
 init:List G→Nat→List G
 side:List G→Nat→Bool
 st:List G→List G→Option (List G)
def fh.rs(sp:fh)(r d:List G):al:=⟨(aN sp.inv d).fr.set sp.t3 (.tuple [sp.K.av (gi r 0).row,sp.V.av (gi r 1).row]),(aN sp.inv d).H⟩
def fh.s2(sp:fh)(s:al)(b:Nat):al:=⟨s.fr.set sp.it (.lit (.pointer (some ⟨b,0,none⟩))),s.H.set sp.id (.raw .dead)⟩
def yN(m:Nat)(inv:mO)(ps:List jM)(x:bL)(s:al):Option (Bool × List G) :=
 match x with
 |.normal=>iC m inv ps s
 |_=>none
structure mQ (P:Program) (sp:fh) (bg bS bq:Array Oper):Prop where
 r0:∃ o2 ty,bg.toList=bg.toList.dropLast++[o2]∧o2.guard=none∧o2.op=.range ty (.tmp sp.y)∧o2.dst=some sp.it∧(dc P ty).isSome=true
 r1:∃ o1 o2,bS.toList=[o1,o2]∧o1.guard=none∧o1.op=.next (.tmp sp.it) false∧o1.dst=some sp.t1∧o2.guard=none∧o2.op=.extract (.tmp sp.t1) 0∧o2.dst=some sp.t2
 r2:∃ o1 l,bq.toList=o1::l∧o1.guard=none∧o1.op=.entry (.tmp sp.it)∧o1.dst=some sp.t3
def la(r0 b0 r1 b1 r2:Nat)(bg bS bq:Array Oper)(t2:Tmp)(body:Code):Code :=
 .seq (.region r0 bg false) (.block b0 (.loop (.seq (.region r1 bS false) (.seq (.cond (.tmp t2) .skip (.exit b0)) (.block b1 (.seq (.region r2 bq false) body))))))
theorem K9{ro:Option Nat}{r0 b0 r1 b1 r2:Nat}{bg bS bq:Array Oper}{t2:Tmp}{body:Code}(h:eM ro (la r0 b0 r1 b1 r2 bg bS bq t2 body)):eM ro body:=h.imp id fun h=>by
 simpa[la,fV]using h
section range
variable {P:Program} {τ:ak} {L:LT} {m:Nat} {sp:fh} {bg bS bq:Array Oper} {body:Code}
def jP(P:Program)(τ:ak)(L:LT)(m:Nat)(sp:fh)(bq:Array Oper)(body:Code):Prop :=
 ∀ r d,(lM P τ bq (bq.toList.drop 1) (sp.rs r d) (fun s=>ed P τ L body s .done)).leaf (yN m sp.inv sp.ps)=sp.st r d
theorem K_(hm:P.follows .mixedOrders=true)(u:aq P τ)(v:aA P m L body)(hr:jP P τ L m sp bq body){r d d':List G}(h:sp.st r d=some d') :
  ∃ q:al,fI P τ.pf bq (bq.toList.drop 1) (sp.rs r d).den q.den∧cM P m body q.den .normal (aN sp.inv d').den:=by
 rw[←hr r d]at h;obtain⟨q,h1,y⟩:=x7 u (Q:=fun x s=>yN m sp.inv sp.ps x s=some (true,d')) (n_ h);obtain⟨x,B,I,k⟩:=gV hm u body q .done v y;have k:yN m sp.inv sp.ps x B=some (true,d'):=k;unfold yN at k;split at k
 ·exact⟨q,h1,rk I (lO k)⟩
 ·cases k
def Dg(P:Program)(τ:ak)(m:Nat)(sp:fh)(bq:Array Oper)(body:Code)(b1:Nat):Prop:=∀ r d d',sp.st r d=some d' →
 ∃(h:al) (x:bL),(x=.normal∨x=.exit b1)∧fI P τ.pf bq (bq.toList.drop 1) (sp.rs r d).den h.den∧cM P m body h.den x (aN sp.inv d').den
theorem Wx(hm:P.follows .mixedOrders=true)(k:aq P τ)(q:aA P m L body)(hr:jP P τ L m sp bq body)(b1:Nat):Dg P τ m sp bq body b1:=fun r d d' h=>by
 obtain⟨u,h1,v⟩:=K_ hm k q hr h;exact⟨u,.normal,.inl rfl,h1,v⟩
def La(m:Nat)(sp:fh)(E:Env)(rows:List (List G))(d0:List G)(itb mb clock:Nat)(ms:Array MapEntry)(a:Act)(w:World):Prop :=
 ∃(d:List G) (loc:List (Option (Nat × Nat))) (X:XS) (seen:Array Nat) (last:Nat) (p:List (List G)),
  cG sp.st sp.aY p d0=some d∧sp.aY d=itb∧(p++rows.filter fun x => !seen.contains (cU x)).Perm rows ∧
  bP (aN sp.inv d).den { w:=w,H:=(aN sp.inv d).den.H,loc:=loc,X:=X } a∧E.dx m { w:=w,H:=(aN sp.inv d).den.H,loc:=loc,X:=X }∧X itb ∧
  w.heap[itb]? = some (.mapIter (some mb) clock seen last)∧clock≤last∧w.heap[mb]? = some (.map ms clock) ∧
  ¬ Env.own { w:=w,H:=(aN sp.inv d).den.H,loc:=loc,X:=X } mb∧bB { w:=w,H:=(aN sp.inv d).den.H,loc:=loc,X:=X } (cS sp.K sp.V rows) ms.toList
theorem bP.oq{s:St}{E:Env}{a:Act}(d:bP s E a){t:Tmp}(hu:s.fr[t]? = some .undef)(u:Value):bP s E (a.put (some t) u):=by
 have h:=d.jq t (v:=.undef) (u:=u) (by simp[rel]);have e:s.put (some t) .undef s.H=s:=by
  simp only[St.put,jg,lG hu]
 rwa [e]at h
theorem yO{s:St}{E:Env}{a:Act}(h:bP s E a){t:Tmp}{v:AV}(hu:s.fr[t]? = some v):t<a.tmps.size:=by
 have h1:s.fr.length=a.tmps.size:=by simpa using(mv.1 h.fr).1
 have d:t<s.fr.length:=aI hu;rw[h1]at d;exact d
theorem yP{o:Oper}{t:Tmp}{a:Act}{w:World}{cs:Array Value}{u:Value}(d:o.op=.extract (.tmp t) 0)(h:a.eval (.tmp t)=.tuple cs)(k:cs[0]? = some u) :
  (execOp a.eval o).run P w=.ok (.value u) w:=by
 obtain⟨dst,op,type,pos,after,guard⟩:=o;subst d;exact j9 (by simp[Instr.extract,h,k])
theorem yQ{o:Oper}{t:Tmp}{a:Act}{w w':World}{x u:Value}(d:o.op=.next (.tmp t) false)(k:a.eval (.tmp t)=x)(h:(Instr.next x false o.type).run P w=.ok u w') :
  (execOp a.eval o).run P w=.ok (.value u) w':=by
 obtain⟨dst,op,type,pos,after,guard⟩:=o;subst d;subst k;exact j9 h
theorem Lb{o:Oper}{t:Tmp}{a:Act}{w w':World}{x u:Value}(d:o.op=.entry (.tmp t))(k:a.eval (.tmp t)=x)(h:(Instr.entry x).run P w=.ok u w') :
  (execOp a.eval o).run P w=.ok (.value u) w':=by
 obtain⟨dst,op,type,pos,after,guard⟩:=o;subst d;subst k;exact j9 h
theorem Lc{o:Oper}{t:Tmp}{ty:TypeId}{a:Act}{w w':World}{x u:Value}(d:o.op=.range ty (.tmp t))(k:a.eval (.tmp t)=x)(h:(Instr.range ty x).run P w=.ok u w') :
  (execOp a.eval o).run P w=.ok (.value u) w':=by
 obtain⟨dst,op,type,pos,after,guard⟩:=o;subst d;subst k;exact j9 h
theorem r_{w:World}{b:Nat}{o:Obj}(h:w.heap[b]? = some o):b<w.heap.size:=(Array.getElem?_eq_some_iff.1 h).1
theorem yR{w:World}{r:Nat}{a:Option Nat}{b c:Nat}{s:Array Nat}(h:w.heap[r]? = some (.mapIter a b s c)):w.iterSeen r=s:=by
 unfold World.iterSeen;rw[h]
theorem Wy(hm:P.follows .mixedOrders=true)(ht:aq P τ)(hL:aA P m L body)(ho:mQ P sp bg bS bq)
  (hu1:∀ d,(aN sp.inv d).fr[sp.t1]? = some .undef) (hu2:∀ d,(aN sp.inv d).fr[sp.t2]? = some .undef) (hut:∀ d,(aN sp.inv d).fr[sp.it]? = some (.lit (.pointer (some ⟨sp.aY d,0,none⟩))))
  {E:Env} {rows:List (List G)} {d0:List G} {itb mb clock:Nat} {ms:Array MapEntry} {r1 b0 b1 r2:Nat} (hr:Dg P τ m sp bq body b1)
  (hsz:E.w.heap.size≤itb) (hn:(rows.map cU).Nodup) (hlt:∀ r∈rows,cU r<clock) (aw:mb≠itb)
  (hfold:∀ p,p.Perm rows→(cG sp.st sp.aY p d0).isSome=true) {a:Act} {w:World} (hI:La m sp E rows d0 itb mb clock ms a w) (ro:Option Nat) (hro:eM ro body) :
  (Code.loop (.seq (.region r1 bS false) (.seq (.cond (.tmp sp.t2) .skip (.exit b0)) (.block b1 (.seq (.region r2 bq false) body))))).wpIn (fz ro) 0 P
   (fun e a1 M=>e=.exit b0∧∃ p d,p.Perm rows∧cG sp.st sp.aY p d0=some d∧dt m E (aN sp.inv d).den a1 M) a w:=by
 obtain⟨o1,o2,e1,g1,p1,q1,g2,p2,q2⟩:=ho.r1;obtain⟨o3,l,e3,g3,p3,q3⟩:=ho.r2;refine wpIn_loop (La m sp E rows d0 itb mb clock ms) (fun _ w=>(leftOf ms (w.iterSeen itb)).size) hI fun a w hI=>?_;obtain⟨d,loc,X,seen,last,p,hf,had,hp,y,hle,hXi,hit,hcl,hmb,hown,hre⟩:=hI;have h10:bS[0]? = some o1:=by
  have:bS.toList[0]? = some o1:=by rw[e1]; rfl
  simpa using this
 have h11:bS[1]? = some o2:=by
  have:bS.toList[1]? = some o2:=by rw[e1]; rfl
  simpa using this
 have hsz1:bS.size=2:=by
  have:bS.toList.length=2:=by rw[e1]; rfl
  simpa using this
 have hiv:a.eval (.tmp sp.it)=.pointer (some ⟨itb,0,none⟩):=by
  have h:=y.eval (.tmp sp.it);have e:(aN sp.inv d).den.eval (.tmp sp.it)=.lit (.pointer (some ⟨sp.aY d,0,none⟩)):=by
   show (aN sp.inv d).fr.getD sp.it .undef=_
   rw[bG,hut d];rfl
  rw[e]at h;simp only[rel]at h;rw[h,had]
 obtain⟨hlen,hen⟩:=dX.1 hre;have hl1:(cS sp.K sp.V rows).length=rows.length:=by simp[cS]
 have O:∀(i:Nat) (e:MapEntry),ms.toList[i]? = some e→∃ r,rows[i]? = some r∧e.born=cU r:=by
  intro i e hi;have h1:=aI hi;have q:i<rows.length:=by omega
  refine⟨rows[i],bt q,?_⟩;exact(hen i (sp.K.av (gi rows[i] 0).row,sp.V.av (gi rows[i] 1).row,(gi rows[i] 2).int.toNat) e (by simp[cS,q]) hi).2.2.1
 have hold:∀ x∈ms.toList,x.born<clock:=by
  intro x B;obtain⟨i,hi⟩:=nl B;obtain⟨r,h1,q⟩:=O i x hi;rw[q];exact hlt r (eB h1)
 have hbn:(ms.toList.map (·.born)).Nodup:=by
  have:ms.toList.map (·.born)=rows.map cU:=by
   apply List.ext_getElem?;intro i;simp only[bT];cases hi:ms.toList[i]? with
   | none =>
    have h1:=List.getElem?_eq_none_iff.1 hi;rw[List.getElem?_eq_none (by omega)];rfl
   | some e =>
    obtain⟨r,h1,q⟩:=O i e hi;rw[h1];simp[q]
  rw[this];exact hn
 refine wpIn_seq (wpIn_region ?_);rw[hsz1];show wpOpsIn (fz ro) 0 P bS _ [0,1] a w
 rw[wpOpsIn_cons];have hlt1:=yO y (hu1 d);have hlt2:=yO y (hu2 d);rcases run_next_at (P:=P) w o1.type itb mb clock last seen ms clock hit hmb hold hcl with⟨h0,hrun⟩|⟨e,he,M,hw1,hrun⟩
 ·refine kq h10 g1 (yQ p1 hiv hrun) (fun c e => by rw [p1] at e; cases e) ro ?_
  rw[q1,wpOpsIn_cons];refine kq h11 g2 (yP p2 (om hlt1) rfl) (fun c e=>by rw[p2]at e; cases e) ro ?_;rw[q2];show (Code.seq _ _).wpIn (fz ro) 0 P _ _ w
  refine wpIn_seq (wpIn_cond_false (om (by simpa[wO]using hlt2)) (wpIn_exit ?_));refine⟨rfl,p,d,?_,hf,loc,X,?_,hle⟩
  ·have:(rows.filter fun x => !seen.contains (cU x))=[]:=by
    rw[List.filter_eq_nil_iff];intro x B hc;obtain⟨i,hi⟩:=nl B;have h1:=aI hi;have q:i<ms.toList.length:=by omega
    obtain⟨r,h3,h4⟩:=O i _ (bt q);rw[hi]at h3;cases h3;have:ms.toList[i]∈(leftOf ms seen).toList:=by
     unfold leftOf;rw[Array.toList_filter];refine mu.2 ⟨ly q,?_⟩;rw[h4];exact hc
    have h5:(leftOf ms seen).toList.length=0:=by simpa using h0
    rw[List.length_eq_zero_iff.1 h5]at this;cases this
   rwa [this,db]at hp
  ·exact(y.oq (hu1 d) (.tuple #[.bool false])).oq (hu2 d) (.bool false)
 ·refine kq h10 g1 (yQ p1 hiv hrun) (fun c e => by rw [p1] at e; cases e) ro ?_
  rw[q1,wpOpsIn_cons];refine kq h11 g2 (yP p2 (om hlt1) rfl) (fun c e=>by rw[p2]at e; cases e) ro ?_;rw[q2];show (Code.seq _ _).wpIn (fz ro) 0 P _ _ _
  refine wpIn_seq (wpIn_cond_true (om (by simpa[wO]using hlt2)) (wpIn_skip ?_));show (Code.block _ _).wpIn (fz ro) 0 P _ _ _
  refine wpIn_block (wpIn_seq (wpIn_region ?_));generalize hw2:setBlock M itb (.mapIter (some mb) clock (seen.push e.born) clock)=k;have W:M.heap=w.heap:=by rcases hw1 with rfl|rfl<;>rfl
  have hos:dR w k:=by rw[←hw2]; rcases hw1 with rfl|rfl<;>exact⟨rfl,rfl,rfl,by first|exact fun _=>aD _|exact fun _=>eR _ _⟩
  have hit2':k.heap[itb]? = some (.mapIter (some mb) clock (seen.push e.born) clock):=by
   rw[←hw2];exact(HD (by rw[W]; exact hit)).1
  have U:∀ b,b≠itb→k.heap[b]? = w.heap[b]? := by
   intro b hb;rw[←hw2];show (M.heap.setIfInBounds itb _)[b]? = _
   rw[(HD (by rw[W]; exact hit)).2 b hb,W]
  have hsize:k.heap.size=w.heap.size:=by
   rw[←hw2];show (M.heap.setIfInBounds itb _).size=_
   simp[W]
  have hmb2:k.heap[mb]? = some (.map ms clock):=by rw[U mb aw]; exact hmb
  have cH:gC { w:=w,H:=(aN sp.inv d).den.H,loc:=loc,X:=X } { w:=k,H:=(aN sp.inv d).den.H,loc:=loc,X:=X } :=
   ⟨rfl,rfl,by show w.heap.size≤k.heap.size; omega,fun b hb B=>⟨B,U b (fun e=>B (by rw[e]; exact hXi))⟩,fun b hb=>by show b<k.heap.size; rw[hsize]; exact y.heap.X b hb,rfl⟩
  have hmk:je k X a.defers:=⟨y.defers.1,fun dd hdd=>by
   obtain⟨D,e,h1,q,h3⟩:=y.defers.2 dd hdd;exact⟨D,e,by rw[U D (fun e=>by rw[e]at h1; rw[hit]at h1; cases h1)]; exact h1,q,h3⟩⟩
  have hs1:=((y.cH cH hmk).oq (hu1 d) (.tuple #[.bool true,e.key,e.val])).oq (hu2 d) (.bool true);obtain⟨hem,hes⟩:=mem_left he;obtain⟨i,hi⟩:=nl hem;obtain⟨r,hri,hrb⟩:=O i e hi;have hrm:=eB hri;have hre2:=iR cH.toC hre;obtain⟨k1,k2,_⟩:=(dX.1 hre2).2 i (sp.K.av (gi r 0).row,sp.V.av (gi r 1).row,(gi r 2).int.toNat) e (by simp[cS,hri]) hi;have hiv1:((a.put (some sp.t1) (.tuple #[.bool true,e.key,e.val])).put (some sp.t2) (.bool true)).eval (.tmp sp.it)=.pointer (some ⟨itb,0,none⟩):=by
   have h:=hs1.eval (.tmp sp.it);have e:(aN sp.inv d).den.eval (.tmp sp.it)=.lit (.pointer (some ⟨sp.aY d,0,none⟩)):=by
    show (aN sp.inv d).fr.getD sp.it .undef=_
    rw[bG,hut d];rfl
   rw[e]at h;simp only[rel]at h;rw[h,had]
  have h20:bq[0]? = some o3:=by
   have:bq.toList[0]? = some o3:=by rw[e3]; rfl
   simpa using this
  have hl2:bq.toList.drop 1=l:=by rw[e3]; rfl
  have hsz2:bq.size=l.length+1:=by
   have:bq.toList.length=l.length+1:=by rw[e3]; rfl
   simpa using this
  have hlp:(p++(r::rows.filter fun x => !(seen.push (cU r)).contains (cU x))).Perm rows :=
   (List.Perm.append_left p (yM hn hrm (by rw[←hrb]; exact hes)).symm).trans hp
  have I:∃ d',sp.st r d=some d'∧sp.aY d'=sp.aY d:=by
   have h:=hfold _ hlp;rw[uY,hf]at h;simp only[AZ,cG]at h;cases I:sp.st r d with
   |none=>rw[I]at h; cases h
   | some d' =>
    rw[I]at h;simp only[]at h;cases hb:ae (sp.aY d') (sp.aY d)with
    |true=>exact⟨d',rfl,bk hb⟩
    |false=>rw[hb]at h; cases h
  obtain⟨d',I,had'⟩:=I;have hf':cG sp.st sp.aY (p++[r]) d0=some d':=by
   rw[uY,hf];simp only[AZ,cG,I,had'];simp
  obtain⟨s4,xe,hxe,ha4,hsat⟩:=hr r d d' I;rw[hsz2,AS,wP,wpOpsIn_cons];refine kq h20 g3 (Lb p3 hiv1 (run_entry_at (P:=P) k itb mb clock seen ms clock e hit2' hmb2 hem hbn)) (fun c e=>by rw[p3]at e; cases e) ro ?_;rw[q3];have hs3:=hs1.jq sp.t3 (v:=.tuple [sp.K.av (gi r 0).row,sp.V.av (gi r 1).row]) (u:=.tuple #[e.key,e.val]) (by simp only[rel]; exact⟨_,rfl,by simp only[af]; exact⟨k1,k2,trivial⟩⟩);refine xC (pf:=τ.pf) (ops:=bq) l (0+1) (sp.rs r d).den s4.den { w:=k,H:=(aN sp.inv d).den.H,loc:=loc,X:=X } _ (by rw[←hl2]) (by rw[hl2]at ha4; exact ha4) hs3 (fun a3 w3 hc3=>?_) ro;obtain⟨loc3,r3,hs4,hle3⟩:=hc3;show body.wpIn (fz ro) 0 P _ a3 w3
  refine wpIn_mono (hsat ro hro { w:=w3,H:=s4.den.H,loc:=loc3,X:=X.re r3 } a3 hs4) fun x a4 N B=>?_;obtain⟨rfl,loc4,X4,hs5,hle4⟩:=B;have key:∀{R:Exit→Act→World→Prop},R .normal a4 N→AT b1 R xe.toExit a4 N:=fun h=>by
   rcases hxe with rfl|rfl
   ·exact h
   ·show (if b1 = b1 then _ else _)
    rw[if_pos rfl];exact h
  refine key ?_;have J:({ w:=k,H:=(aN sp.inv d).den.H,loc:=loc,X:=X }:Env).dx m { w:=N,H:=(aN sp.inv d').den.H,loc:=loc4,X:=X4 }:=hle3.toM.trans hle4;have hXsz:itb<k.heap.size:=r_ hit2';have hnown:¬ Env.own { w:=k,H:=(aN sp.inv d).den.H,loc:=loc,X:=X } itb:=by
   exact(y.heap.cH cH).nz hXi
  have hmbsz:mb<k.heap.size:=r_ hmb2;have hit4:N.heap[itb]? = some (.mapIter (some mb) clock (seen.push e.born) clock):=by rw[J.same itb hXsz hnown]; exact hit2'
  refine⟨⟨d',loc4,X4,seen.push e.born,clock,p++[r],hf',by rw[had',had],?_,hs5,?_,(J.X itb hXsz).1.2 hXi,hit4,aD _,?_,?_,?_⟩,?_⟩
  ·rw [hrb, gp]
   exact hlp
  ·refine Env.dx.trans (E' := { w := k, H := (aN sp.inv d).den.H, loc := loc, X := X }) ⟨hle.past, ?_, ?_, hle.own, hle.live, hle.X, hle.rl, hle.env.trans hos, hle.grow⟩ J
   ·have := hle.size
    show E.w.heap.size≤k.heap.size
    rw[hsize];exact this
   ·intro b hb hbo
    show k.heap[b]? = _
    rw[U b (by omega)];exact hle.same b hb hbo
  ·rw [J.same mb hmbsz hown]
   exact hmb2
  ·exact J.own mb hmbsz hown
  ·exact iR (pU J) hre2
  ·show (leftOf ms (N.iterSeen itb)).size < (leftOf ms (w.iterSeen itb)).size
   rw[yR hit4,yR hit];exact left_shrinks ms seen e he
theorem Wz(hm:P.follows .mixedOrders=true)(ht:aq P τ)(hL:aA P m L body)(ho:mQ P sp bg bS bq)
  (hu1:∀ d,(aN sp.inv d).fr[sp.t1]? = some .undef) (hu2:∀ d,(aN sp.inv d).fr[sp.t2]? = some .undef) (hut:∀ d,(aN sp.inv d).fr[sp.it]? = some (.lit (.pointer (some ⟨sp.aY d,0,none⟩))))
  {r1 b0 b1 r2:Nat} (hr:Dg P τ m sp bq body b1)
  {s:al} {d:List G} {rows:List (List G)} {clock:Nat} (hx:s.eval (.tmp sp.y)=.map sp.id) (hid:s.H[sp.id]? = some (.map sp.K sp.V rows clock)) (hn:(rows.map cU).Nodup)
  (hlt:∀ r∈rows,cU r<clock) (hin:∀ b,iC m sp.inv sp.ps (gJ sp.opens (sp.s2 s b))=some (true,sp.init d b)) (hadr:∀ b,sp.aY (sp.init d b)=b)
  (hfold:∀ b p,p.Perm rows→(cG sp.st sp.aY p (sp.init d b)).isSome=true) (E:Env) (a:Act) (B:bP s.den E a) (ro:Option Nat) (hro:eM ro body) {Q:Exit→Act→World→Prop}
  (hQ:∀ a1 w1,(∃ b p d',p.Perm rows∧cG sp.st sp.aY p (sp.init d b)=some d'∧dt m E (aN sp.inv d').den a1 w1)→Q .normal a1 w1) :
  wpOpsIn (fz ro) 0 P bg (Exit.then ((Code.block b0 (.loop (.seq (.region r1 bS false) (.seq (.cond (.tmp sp.t2) .skip (.exit b0)) (.block b1 (.seq (.region r2 bq false) body)))))).wpIn (fz ro) 0 P Q) Q) [bg.toList.dropLast.length] a E.w:=by
 obtain⟨o2,ty,e1,g2,p2,q2,O⟩:=ho.r0;have h11:bg[bg.toList.dropLast.length]? = some o2:=by
  have:bg.toList[bg.toList.dropLast.length]? = some o2:=by
   rw[e1];simp
  simpa using this
 have hid':E.H[sp.id]? = some (.map (cS sp.K sp.V rows) clock):=by
  rw[B.H];exact a_ hid
 have hrx:rel E (.map sp.id) (a.eval (.tmp sp.y)):=by
  have:=B.eval (.tmp sp.y)
  rwa [al.kY,hx]at this
 obtain⟨mb,n,ms,hc,hloc,U,hre⟩:=pk B.heap hid' hrx;obtain⟨⟨kt,et⟩,O⟩:=Option.isSome_iff_exists.1 O;have hmbs:mb<E.w.heap.size:=r_ U;rw[wpOpsIn_cons];refine kq h11 g2 (Lc p2 hc (run_range_map E.w ty kt et mb ms clock (ft O) U)) (fun c e=>by rw[p2]at e; cases e) ro ?_;rw[q2];show (Code.block _ _).wpIn (fz ro) 0 P _ _ _
 generalize N:E.w.alloc (.mapIter (some mb) clock #[] clock)=q;have hsize:q.heap.size=E.w.heap.size+1:=by rw[←N]; show (E.w.heap.push _).size=_; simp
 have hold:∀ b,b<E.w.heap.size→q.heap[b]? = E.w.heap[b]? := fun b hb=>by rw[←N]; exact(show (E.w.heap.push _)[b]? = _ by rw[Array.getElem?_push,if_neg (by omega)])
 have hitn:q.heap[E.w.heap.size]? = some (.mapIter (some mb) clock #[] clock):=by rw[←N]; exact(show (E.w.heap.push _)[E.w.heap.size]? = _ by simp)
 have hos:dR E.w q:=by rw[←N]; exact⟨rfl,rfl,rfl,by first|exact fun _=>aD _|exact fun _=>eR _ _⟩
 have hd:=Env.qI B.heap sp.id;have W:bP ⟨s.fr,aj (s.H.set sp.id (.raw .dead))⟩ { w:=E.w,H:=E.H.set sp.id .dead,loc:=E.loc.set sp.id none,X:=E.X } a:=by
  refine⟨?_,dw hd _ B.fr,B.defers,ar.drop B.heap sp.id fun o ho=>by rw[hid']at ho; cases ho; rfl⟩;rw[c5,show E.H=aj s.H from B.H];rfl
 have cH:gC { w:=E.w,H:=E.H.set sp.id .dead,loc:=E.loc.set sp.id none,X:=E.X } { w:=q,H:=E.H.set sp.id .dead,loc:=E.loc.set sp.id none,X:=E.X.or fun b=>b=E.w.heap.size } :=
  ⟨rfl, rfl, by show E.w.heap.size ≤ q.heap.size; omega, fun b hb hx => ⟨fun h => h.elim hx (fun e => absurd hb (by rw [e]; exact qz _)), hold b hb⟩, fun b hb => by
   show b<q.heap.size
   rcases hb with hb|hb
   ·have := B.heap.X b hb
    omega
   ·omega,rfl⟩
 have hs3:=(W.cH cH (w6 (X':=E.X.or fun b=>b=E.w.heap.size) (w':=q) W.defers (fun _ h1 M=>⟨.inl h1,M⟩) fun b h1 _=>hold b (B.heap.X b h1))).jq sp.it (v:=.lit (.pointer (some ⟨E.w.heap.size,0,none⟩))) (u:=.pointer (some ⟨E.w.heap.size,0,none⟩)) (by simp only[rel]);have hs3':bP (sp.s2 s E.w.heap.size).den { w:=q,H:=E.H.set sp.id .dead,loc:=E.loc.set sp.id none,X:=E.X.or fun b=>b=E.w.heap.size } _:=hs3;obtain⟨loc,X4,hs4,J⟩:=((lP sp.opens _).trans (lO (hin E.w.heap.size))) _ _ hs3';have hmbn:¬ Env.own { w:=q,H:=E.H.set sp.id .dead,loc:=E.loc.set sp.id none,X:=E.X.or fun b=>b=E.w.heap.size } mb:=by
  rintro(⟨j,c,I⟩|⟨l,k,c,I⟩)
  case inr=>exact B.heap.cP _ _ _ _ _ _ hloc I
  simp only[dU]at I;split at I
  ·split at I
   ·cases I
   ·cases I
  ·rename_i aw
   exact aw (B.heap.inj _ _ _ _ _ hloc I)
 have hmb2:q.heap[mb]? = some (.map ms clock):=by rw[hold mb hmbs]; exact U
 refine wpIn_block (wpIn_mono (Wy hm ht hL ho hu1 hu2 hut (hr:=hr) (E:=E) (rows:=rows) (d0:=sp.init d E.w.heap.size) (itb:=E.w.heap.size) (mb:=mb) (clock:=clock) (ms:=ms)
  (aD _) hn hlt (by omega) (hfold _) ?_ ro hro) fun e a1 w1 hq=>?_)
 ·refine ⟨sp.init d E.w.heap.size, loc, X4, #[], clock, [], rfl, hadr _, ?_, hs4, ?_, (J.X E.w.heap.size (by show _ < q.heap.size; omega)).1.2 (.inr rfl), ?_, aD _, ?_, ?_, ?_⟩
  ·have : (rows.filter fun x => !(#[] : Array Nat).contains (cU x)) = rows := List.filter_eq_self.2 (fun x _ => by simp)
   rw[List.nil_append,this]
  ·refine hd.toM.trans (Env.dx.trans (E' := { w := q, H := E.H.set sp.id .dead, loc := E.loc.set sp.id none, X := E.X.or fun b => b = E.w.heap.size }) ⟨fun _ _ h => h, ?_, ?_, fun b _ h => h, fun _ _ _ h => ⟨h, rfl⟩, fun b hb => ⟨⟨fun h => h.elim id fun e => absurd hb (by rw [e]; exact qz _), .inl⟩, Iff.rfl⟩, fun _ _ h => ⟨h, fun _ hq => hq⟩, hos, fun _ _ _ o h1 M _ => ⟨⟨[], (db _).symm⟩, o, h1, M⟩⟩ J)
   ·show E.w.heap.size ≤ q.heap.size
    omega
   ·exact fun b hb _=>hold b hb
  ·rw [J.same E.w.heap.size (by show _ < q.heap.size; omega) ?_]
   ·exact hitn
   ·exact(W.heap.cH cH).nz (.inr rfl)
  ·rw [J.same mb (by show _ < q.heap.size; omega) hmbn]
   exact hmb2
  ·exact J.own mb (by show _<q.heap.size; omega) hmbn
  ·exact iR (pU J) (iR cH.toC (iR hd.toC hre))
 ·obtain ⟨rfl, p, d', h1, M, h3⟩ := hq
  simp only[AT,if_true];exact hQ _ _ ⟨_,p,d',h1,M,h3⟩
theorem WA(hm:P.follows .mixedOrders=true)(v:aq P τ)(B:aA P m L body)(hr:jP P τ L m sp bq body)(ho:mQ P sp bg bS bq)
  (U:∀ d,(aN sp.inv d).fr[sp.t1]? = some .undef) (W:∀ d,(aN sp.inv d).fr[sp.t2]? = some .undef) (hut:∀ d,(aN sp.inv d).fr[sp.it]? = some (.lit (.pointer (some ⟨sp.aY d,0,none⟩))))
  {r0 r1 b0 b1 r2:Nat}
  {s s1:al} {d:List G} {rows:List (List G)} {clock:Nat} (hp:fI P τ.pf bg bg.toList.dropLast s.den s1.den) (hx:s1.eval (.tmp sp.y)=.map sp.id) (hid:s1.H[sp.id]? = some (.map sp.K sp.V rows clock)) (hn:(rows.map cU).Nodup)
  (k:∀ r∈rows,cU r<clock) (hin:∀ b,iC m sp.inv sp.ps (gJ sp.opens (sp.s2 s1 b))=some (true,sp.init d b)) (N:∀ b,sp.aY (sp.init d b)=b)
  (M:∀ b p,p.Perm rows→(cG sp.st sp.aY p (sp.init d b)).isSome=true) (E:Env) (a:Act) (hs:bP s.den E a) (ro:Option Nat) (hro:eM ro body) :
  (la r0 b0 r1 b1 r2 bg bS bq sp.t2 body).wpIn (fz ro) 0 P (fun e q u=>e=.normal∧∃ b p d',p.Perm rows∧cG sp.st sp.aY p (sp.init d b)=some d'∧dt m E (aN sp.inv d').den q u) a E.w:=by
 refine wpIn_seq (wpIn_region ?_);obtain⟨o2,ty,I,_⟩:=ho.r0;have hsz:bg.size=bg.toList.dropLast.length+1:=by
  have h:=congrArg List.length I;simpa using h
 have hl:dP bg.size=nq 0 bg.toList.dropLast.length++[bg.toList.dropLast.length]:=by
  rw[hsz,List.range_succ,AS]
 rw[hl];refine yL (pf:=τ.pf) ro bg.toList.dropLast 0 s.den s1.den E a _ (fun j o J=>?_) hp hs fun q u hc=>?_
 ·have k := aI J
  have:bg.toList[j]? = some o:=by
   rw[I,cK k];exact J
  simpa using this
 ·obtain ⟨O, r1, h1, h2⟩ := hc
  refine Wz hm v B ho U W hut (Wx hm v B hr b1) hx hid hn k hin N M { w:=u,H:=s1.den.H,loc:=O,X:=E.X.re r1 } q h1 ro hro fun a2 w2 ⟨b,p,d',g1,g2,g3⟩=>?_;exact⟨rfl,b,p,d',g1,g2,dt.after h2.toM g3⟩
noncomputable def sa{β:Type}(rows:List (List G))(k:Nat→List (List G)→Option β):Option β :=
 open Classical in if h:∃ r,∀ b p,p.Perm rows→k b p=some r then some h.choose else none
theorem Dh{β:Type}{rows:List (List G)}{k:Nat→List (List G)→Option β}{r:β}(h:sa rows k=some r):∀ b p,p.Perm rows→k b p=some r:=by
 unfold sa at h;split at h
 ·rename_i d
  cases h;exact d.choose_spec
 ·cases h
theorem Ld{β:Type}{rows:List (List G)}{k:Nat→List (List G)→Option β}{r:β}(h:∀ b p,p.Perm rows→k b p=some r):sa rows k=some r:=by
 cases hb:sa rows k with
 | some r' =>
  have h1:=Dh hb 0 rows (nu _);rw[h 0 rows (nu _)]at h1;exact h1.symm
 | none =>
  unfold sa at hb;rw[dif_pos ⟨r,h⟩]at hb;cases hb
def ku(rows:List (List G))(clock:Nat):Bool:=nodupB (rows.map cU)&&rows.all fun r=>er (cU r) clock
theorem Le{rows:List (List G)}{clock:Nat}(h:ku rows clock=true):(rows.map cU).Nodup∧∀ r∈rows,cU r<clock:=by
 simp only[ku,ax,dq,jb]at h;exact⟨rU h.1,h.2⟩
noncomputable def iU(sp:fh)(tl:List G→Option (Option Nat × List G))(rows:List (List G))(clock:Nat)(d:List G):Option (Option Nat × List G) :=
 bif ku rows clock then sa rows (fun b p=>bif sp.side d b then (cG sp.st sp.aY p (sp.init d b)).bind tl else none) else none
def pV(P:Program)(m:Nat)(c:Code)(sp:bz):Prop:=∀ d i d',sp.st d=some (some i,d')→∃ o,sp.outs[i]? = some o∧cM P m c (aN sp.inv d).den o.x (aN o.S d').den
theorem gW.sat{c:Code}{q:bz}(hm:P.follows .mixedOrders=true)(u:aq P τ)(v:aA P m L c)(hr:gW P τ L m c q):pV P m c q:=by
 intro d i d' h;rw[←hr d]at h;obtain⟨x,s1,g1,g2⟩:=gV hm u c (aN q.inv d) .done v (Q:=fun x s=>pQ m q.outs 0 x s=some (true,(some i,d'))) (n_ h);obtain⟨j,o,y,k,B,I⟩:=yq g2;simp only[aQ,cW]at k;subst k;refine⟨o,y,?_⟩;rw[←B];exact rk g1 (lO I)
theorem WB{c:Code}{q:bz}(hr:pV P m c q){s:al}{t:Tree}(h:uQ m q s=some t):x3 P m c s t:=by
 unfold uQ at h;split at h
 case h_2=>cases h
 rename_i b d B;cases h;intro Q v;simp only[Tree.holds,rT,ax]at v;obtain⟨⟨rfl,h1⟩,y⟩:=v;cases u:q.st d with
 |none=>rw[u]at h1; cases h1
 | some r =>
  obtain⟨k,d'⟩:=r;cases k with
  |none=>rw[u]at h1; cases h1
  | some i =>
   obtain⟨o,g1,g2⟩:=hr d i d' u;rw[u]at y;exact⟨o.x,(aN o.S d'),rj ((lP q.opens s).trans (lO B)) g2,yr g1 (cW i).symm y⟩
theorem aA.Lf{fn:Func}{q:bz} (u:k_ q.key (bI (aU fn))=true) (h:aA P m L (aU fn)) (hr:aA P m L (cutAt fn q.key)→pV P m (cutAt fn q.key) q) :
  aA P m (L.fX m q) (aU fn):=by
 refine⟨h.1,h.2.1,fun k v hk s t d=>?_⟩;simp only[LT.fX]at d;split at d
 ·rename_i e
  have e:=bk e;subst e;have y:=C9 u hk;rw[←y]at hr;exact WB (hr (h.sub (od hk) (oe hk))) d
 ·exact h.2.2 k v hk s t d
def uZ(o:Option Tmp)(t:Tmp):Bool :=
 match o with
 |some x=>ae x t
 |none=>false
theorem yS{o:Option Tmp}{t:Tmp}(h:uZ o t=true):o=some t:=by
 cases o with
 |none=>cases h
 |some x=>exact congrArg some (bk h)
def yT(P:Program)(sp:fh)(ops:Array Oper):Bool :=
 match ops.toList.getLast? with
 |some ⟨d2,.range ty (.tmp b),_,_,_,none⟩=>ae b sp.y&&uZ d2 sp.it&&(dc P ty).isSome
 |_=>false
def yU(sp:fh)(ops:Array Oper):Bool :=
 match ops.toList with
 | [⟨d1,.next (.tmp a) false,_,_,_,none⟩,⟨d2,.extract (.tmp b) 0,_,_,_,none⟩]=>ae a sp.it&&uZ d1 sp.t1&&ae b sp.t1&&uZ d2 sp.t2
 |_=>false
def yV(sp:fh)(ops:Array Oper):Bool :=
 match ops.toList with
 |⟨d1,.entry (.tmp a),_,_,_,none⟩::_=>ae a sp.it&&uZ d1 sp.t3
 |_=>false
theorem Lg(h0:yT P sp bg=true)(h1:yU sp bS=true)(d:yV sp bq=true):mQ P sp bg bS bq:=by
 refine⟨?_,?_,?_⟩
 ·unfold yT at h0
  split at h0
  ·rename_i d2 ty b t' k q e
   simp only[ax]at h0;obtain⟨⟨g3,g4⟩,g5⟩:=h0;have g3:=bk g3;subst g3;refine⟨⟨d2,.range ty (.tmp sp.y),t',k,q,none⟩,ty,?_,rfl,rfl,yS g4,g5⟩;have aw:bg.toList≠[]:=by
    intro h;rw[h]at e;cases e
   have d:=List.dropLast_concat_getLast aw;have u:bg.toList.getLast? = some (bg.toList.getLast aw):=by
    rw[List.getLast?_eq_some_iff];exact⟨_,d.symm⟩
   rw[u]at e;rw[gx e]at d;exact d.symm
  ·cases h0
 ·unfold yU at h1
  split at h1
  ·rename_i d1 a _ _ _ d2 b _ _ _ e
   simp only[ax]at h1;obtain⟨⟨⟨g1,g2⟩,g3⟩,g4⟩:=h1;have g1:=bk g1;have g3:=bk g3;subst g1;subst g3;exact⟨_,_,e,rfl,rfl,yS g2,rfl,rfl,yS g4⟩
  ·cases h1
 ·unfold yV at d
  split at d
  ·rename_i d1 a _ _ _ l e
   simp only[ax]at d;have g1:=bk d.1;subst g1;exact⟨_,l,e,rfl,rfl,yS d.2⟩
  ·cases d
def pW:Code→Code
 |.seq _ b=>b
 |_=>.skip
def Di:Code→Code
 |.seq (.seq _ (.block _ (.loop c))) _=>c
 |_=>.skip
def pX(c:Code):Code:=match Di c with
 |.seq _ (.seq _ (.block _ (.seq _ b)))=>b
 |_=>.skip
def Dj:Code→Array Oper
 |.region _ ops _=>ops
 |_=>#[]
def lb:Code→Array Oper
 |.seq (.seq r _) _=>Dj r
 |_=>#[]
def yW(c:Code):Array Oper:=match Di c with
 |.seq r _=>Dj r
 |_=>#[]
def mR(c:Code):Array Oper:=match Di c with
 |.seq _ (.seq _ (.block _ (.seq r _)))=>Dj r
 |_=>#[]
theorem Lh{r0 r1 b0 b1 r2 t2:Nat}{rest:Code} (h:aA P m L (.seq (la r0 b0 r1 b1 r2 bg bS bq t2 body) rest)):aA P m L body∧aA P m L rest:=by
 refine⟨h.sub (fun p d=>?_) (fun p d=>?_),h.sub (fun p d=>?_) (fun p d=>?_)⟩
 ·simp only [bM, la, cZ]
  left;right;split
  ·simp only [bR, bM, cZ]
   exact .inr (.inr (.inr (.inr d)))
  ·simp only [bM, cZ]
   exact .inr (.inr (.inr d))
 ·simp only [bI, la, cZ]
  exact .inl (.inr (.inr (.inr (.inr (.inr (.inr (.inr (.inr d))))))))
 ·simp only [bM, cZ]
  exact .inr d
 ·simp only [bI, cZ]
  exact .inr (.inr d)
def Dk(P:Program)(τ:ak)(ops:Array Oper)(s:al):al:=match (lM P τ ops ops.toList.dropLast s fun s=>.done .normal s).kr with
 |some (_,s1)=>s1
 |none=>s
theorem Li(d:aq P τ){ops:Array Oper}{l:List Oper}{s s1:al}(h:(lM P τ ops l s fun s=>.done .normal s).kr=some (.normal,s1)):fI P τ.pf ops l s.den s1.den:=by
 obtain⟨s',h1,k⟩:=x7 d (uX h);obtain⟨_,rfl⟩:=k;exact h1
theorem WC(hm:P.follows .mixedOrders=true)(W:aq P τ){rest:Code}{q qr:bz}(hL:aA P m L body)(hr:jP P τ L m sp bq body)(ho:mQ P sp bg bS bq)
  (hu1:∀ d,(aN sp.inv d).fr[sp.t1]? = some .undef) (hu2:∀ d,(aN sp.inv d).fr[sp.t2]? = some .undef) (hut:∀ d,(aN sp.inv d).fr[sp.it]? = some (.lit (.pointer (some ⟨sp.aY d,0,none⟩))))
  {r0 r1 b0 b1 r2:Nat}
  {rows:List G→List (List G)} {clock:List G→Nat} {pre:List G→al} (hy:∀ d,(lM P τ bg bg.toList.dropLast (aN q.inv d) fun s=>.done .normal s).kr=some (.normal,pre d)) (v:∀ d,(pre d).eval (.tmp sp.y)=.map sp.id) (hid:∀ d,(pre d).H[sp.id]? = some (.map sp.K sp.V (rows d) (clock d)))
  (hin:∀ d b,iC m sp.inv sp.ps (gJ sp.opens (sp.s2 (pre d) b))=some (sp.side d b,sp.init d b)) (hadr:∀ d b,sp.aY (sp.init d b)=b)
  (hinv:qr.inv=sp.inv) (houts:qr.outs=q.outs) (I:pV P m rest qr) (hst:∀ d,q.st d=iU sp qr.st (rows d) (clock d) d) :
  pV P m (.seq (la r0 b0 r1 b1 r2 bg bS bq sp.t2 body) rest) q:=by
 intro d i d' h;rw[hst]at h;unfold iU at h;cases bY:ku (rows d) (clock d)with
 |false=>rw[bY]at h; cases h
 | true =>
  rw[bY]at h;simp only[cond_true]at h;have hall:=Dh h;obtain⟨hn,hlt⟩:=Le bY;have u:∀ b p,p.Perm (rows d)→sp.side d b=true∧∃ d1,cG sp.st sp.aY p (sp.init d b)=some d1∧qr.st d1=some (some i,d'):=by
   intro b p k;have:=hall b p k;cases M:sp.side d b with
   |false=>rw[M]at this; cases this
   | true =>
    rw[M]at this;simp only[cond_true]at this;cases B:cG sp.st sp.aY p (sp.init d b)with
    |none=>rw[B]at this; cases this
    | some d1 =>
     rw[B]at this;exact⟨rfl,d1,rfl,this⟩
  obtain⟨_,d1,_,g1⟩:=u 0 (rows d) (nu _);obtain⟨o,N,_⟩:=I d1 i d' g1;refine⟨o,by rw[←houts]; exact N,fun ro O E a hs=>wpIn_seq (wpIn_mono (WA hm W hL hr ho hu1 hu2 hut (Li W (hy d)) (v d) (hid d) hn hlt (fun b=>by rw[hin d b,(u b (rows d) (nu _)).1]) (hadr d) (fun b p k=>?_) E a hs ro (K9 O.seq1)) fun e a1 w1 hq=>?_)⟩
  ·obtain ⟨_, d2, h2, _⟩ := u b p k
   rw[h2];rfl
  ·obtain ⟨rfl, b, p, d2, k, B, loc, X, hs2, hle⟩ := hq
   obtain⟨_,d3,h3,h4⟩:=u b p k;rw[B]at h3;cases h3;obtain⟨o',U,J⟩:=I d2 i d' h4;rw[N]at U;cases U;rw[hinv]at J;exact wpIn_mono (J ro O.B5 { w:=w1,H:=(aN sp.inv d2).den.H,loc:=loc,X:=X } a1 hs2) fun x a2 w2 v=>⟨v.1,dt.after hle v.2⟩
theorem aA.WD(hm:P.follows .mixedOrders=true)(k:aq P τ){fn:Func}{q qr:bz}{r0 b0 r1 b1 r2:Nat}{rows:List G→List (List G)}{clock:List G→Nat}
  (hn:k_ q.key (bI (aU fn))=true) (hL:aA P m L (aU fn))
  (u:cutAt fn q.key=.seq (la r0 b0 r1 b1 r2 (lb (cutAt fn q.key)) (yW (cutAt fn q.key)) (mR (cutAt fn q.key)) sp.t2 (pX (cutAt fn q.key))) (pW (cutAt fn q.key)))
  (ho:(yT P sp (lb (cutAt fn q.key))&&yU sp (yW (cutAt fn q.key))&&yV sp (mR (cutAt fn q.key)))=true)
  (hr:jP P τ L m sp (mR (cutAt fn q.key)) (pX (cutAt fn q.key)))
  (J:∀ d,(aN sp.inv d).fr[sp.t1]? = some .undef) (M:∀ d,(aN sp.inv d).fr[sp.t2]? = some .undef) (N:∀ d,(aN sp.inv d).fr[sp.it]? = some (.lit (.pointer (some ⟨sp.aY d,0,none⟩))))
  {pre:List G→al} (hy:∀ d,(lM P τ (lb (cutAt fn q.key)) (lb (cutAt fn q.key)).toList.dropLast (aN q.inv d) fun s=>.done .normal s).kr=some (.normal,pre d)) (hx:∀ d,(pre d).eval (.tmp sp.y)=.map sp.id) (hid:∀ d,(pre d).H[sp.id]? = some (.map sp.K sp.V (rows d) (clock d)))
  (O:∀ d b,iC m sp.inv sp.ps (gJ sp.opens (sp.s2 (pre d) b))=some (sp.side d b,sp.init d b)) (I:∀ d b,sp.aY (sp.init d b)=b)
  (hinv:qr.inv=sp.inv) (v:qr.outs=q.outs) (B:gW P τ L m (pW (cutAt fn q.key)) qr) (U:∀ d,q.st d=iU sp qr.st (rows d) (clock d) d) :
  aA P m (L.fX m q) (aU fn):=by
 refine aA.Lf hn hL fun h=>?_;rw[u]at h;obtain⟨W,hLr⟩:=Lh h;simp only[ax]at ho;rw[u];exact WC hm k W hr (Lg ho.1.1 ho.1.2 ho.2) J M N hy hx hid O I hinv v (B.sat hm k hLr) U
end range
end Go.AL
