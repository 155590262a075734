/-
 What is proved here: shapes: states and arguments as data alone (integers,strings,rows),read off abstract states and built from data; what is built says no more than what was read. No program in sight; no condition.
-/
import Derived.Test.YtnijefkndkgebaaGreatDoorMC
import Derived.Maps.RangeRun
set_option linter.all false
open Bool renaming and_true→fT,and_eq_true→az,false_eq_true→kY,not_eq_true'→mQ,and_self→sZ,eq_false_iff→ah3,or_false→HG
open Go.Act renaming put→wu
open Go.MapKept renaming heap_set→HI
open Go.Value.slice renaming injEq→jD
open Int renaming toNat_natCast→a8
open List renaming length_cons→cD,append_nil→da,append_assoc→gF,getElem?_append_left→cM,length_map→dO,mem_map→dp,getElem?_map→ch,getElem?_eq_getElem→bL,mem_of_getElem?→eX,getElem?_append_right→il,getElem?_set_self→bC,getElem?_set_ne→aT,getElem?_set→dW,all_eq_true→cQ,getD_eq_getElem?_getD→ct,getElem?_take→lP,mem_cons→bY,map_cons→dx,cons_append→lR,length_append→fH,mem_append→cU,getElem?_of_mem→mN,all_cons→lU,mem_cons_self→cY,mem_cons_of_mem→di,nodup_cons→lW,getElem?_inj→AF,range'→sV,range'_succ→Ht,range→dI,mem_append_left→qc,any_eq_true→jF,range_eq_range'→AH,set_append_left→HA,headD_cons→wz,getElem?_cons_succ→SV,getD_cons_succ→ah2,find?_cons_of_neg→ah4,getElem_mem→mT,mem_filter→AK,mem_append_right→wB
open List.Perm renaming refl→oE
open Nat renaming le_refl→aD,le_add_right→eW,zero_le→eC,lt_or_ge→jb,zero_add→cT,beq→ad,eq_of_beq_eq_true→bu,sub_self→mP,ble→dA,blt→ft,blt_eq→kg,le_of_ble_eq_true→s7,lt_irrefl→qe
open Option renaming map_eq_some_iff→dV,map_some→eM,getD_some→k9,bind_some→AM
open Option.some renaming injEq→aY,inj→gl
open Prod.mk renaming injEq→bh
namespace Go.AL
open Go
variable [Dr]
inductive eJ where
 |int (k:IntKind)|str|bool
 |list (ks:List Kd)|row (ks:List Kd)|cptr (ks:List Kd)
 |nil|any
 |Ko (isNil:Bool)
 |fn (f:FuncId)
 |ptr (j col:Nat)
 |vec (j w:Nat)
 |sub (j w:Nat)
 |pre (j w:Nat)
 |rh (ks:List Kd)
 |map (j:Nat)
 |addr
 |Kp (f:FuncId) (js:List Nat)
 |CD
 deriving Inhabited
inductive Sh where
 |s (a:eJ)
 |clo (f:FuncId) (caps:List eJ)
 deriving Inhabited
inductive cr where
 |vec (ks:List Kd) (u:Nat)
 |box (cells:List eJ)
 |map (K V:Ct)
 |eF (l T B:Nat)
 |aI (l:Nat) (K:Ct) (ks:List Kd)
 |mm (l:Nat) (K KI VI:Ct)
 deriving Inhabited
def cr.iQ:cr→Option Nat
 |.eF l _ _=>some l
 |.aI l _ _=>some l
 |.mm l _ _ _=>some l
 |_=>none
def cr.db:cr→Option Nat
 |.mm l _ _ _=>some l
 |_=>none
def eJ.sz:eJ→Nat
 |.int _ | .str | .bool | .list _ | .row _ | .cptr _ | .rh _ | .pre _ _ | .addr=>1
 |.sub _ _=>2
 |_=>0
def nE:List eJ→Nat
 | []=>0
 |a::as=>a.sz+nE as
def Sh.sz:Sh→Nat
 |.s a=>a.sz
 |.clo _ caps=>nE caps
def CE:List Sh→Nat
 | []=>0
 |a::as=>a.sz+CE as
def cr.sz:cr→Nat
 |.vec _ _=>1
 |.box cells=>nE cells
 |.map _ _=>2
 |.eF _ _ _=>1
 |.aI _ _ _=>2
 |.mm _ _ _ _=>3
def ev:Nat→List G→List G
 |0,d=>d
 |n+1,d=>ev n d.tail
abbrev c9:=List (Nat × Nat)
def c9.len(os:c9)(j:Nat):Nat:=(os.getD j (0,0)).1
def c9.af(os:c9)(j:Nat):Nat:=(os.getD j (0,0)).2
def ph:List Nat→List AV
 | []=>[]
 |j::js=>.ptr j 0 0 0 0::ph js
def eL(lens:c9):eJ→List G→AV
 |.int k,d=>.lit (.int k (d.headD default).int)
 |.str,d=>.lit (.string (d.headD default).str)
 |.bool,d=>.lit (.bool (d.headD default).bool)
 |.list ks,d=>.listF ks (d.headD default).rows
 |.rh ks,d=>.listF ks (d.headD default).rows
 |.row ks,d=>.agg (aJ ks (d.headD default).row)
 |.cptr ks,d=>.cptr (aJ ks (d.headD default).row)
 |.nil,_=>.lit (.slice none 0 0)
 |.any,_=>.undef
 |.Ko b,_=>.emptyS b
 |.fn f,_=>.clo f []
 |.ptr j col,_=>.ptr j 0 0 0 col
 |.vec j w,_=>.vec w j (lens.af j) 0 (lens.len j)
 |.sub j w,d=>.vec w j (lens.af j) (d.headD default).int.toNat (d.tail.headD default).int.toNat
 |.pre j w,d=>.vec w j (lens.af j) 0 (d.headD default).int.toNat
 |.map j,_=>.map j
 |.addr,d=>.lit (.pointer (some ⟨(d.headD default).int.toNat,0,none⟩))
 |.Kp f js,_=>.clo f (ph js)
 |.CD,_=>.lit .nilIface
def iB(lens:c9):List eJ→List G→List AV
 | [],_=>[]
 |a::as,d=>eL lens a d::iB lens as (ev a.sz d)
def pj(lens:c9):Sh→List G→AV
 |.s a,d=>eL lens a d
 |.clo f caps,d=>.clo f (iB lens caps d)
def fl(lens:c9):List Sh→List G→List AV
 | [],_=>[]
 |a::as,d=>pj lens a d::fl lens as (ev a.sz d)
def eT(lens:c9):cr→List G→aj
 |.vec ks u,d=>.vec ks u (d.headD default).rows
 |.box g,d=>.raw (.box (iB lens g d))
 |.map K V,d=>.map K V (d.headD default).rows (d.tail.headD default).int.toNat
 |.eF l T B,d=>.raw (.eF l T B (d.headD default).str)
 |.aI l K ks,d=>.aI l K ks (d.headD default).rows (d.tail.headD default).int.toNat
 |.mm l K KI VI,d=>.mm l K KI VI (d.headD default).rows (d.tail.headD default).rows (d.tail.tail.headD default).int.toNat
theorem rj(lens:c9)(sh:cr)(d:List G):(eT lens sh d).den.label=sh.iQ:=by cases sh<;>rfl
theorem CF(lens:c9)(sh:cr)(d:List G):(eT lens sh d).den.db=sh.db:=by cases sh<;>rfl
def cO(lens:c9):List cr→List G→List aj
 | [],_=>[]
 |o::os,d=>eT lens o d::cO lens os (ev o.sz d)
def lv:List cr→Nat
 | []=>0
 |o::os=>o.sz+lv os
def cH:List cr→List G→c9
 | [],_=>[]
 | o::os,d=>(match o with
  |.vec _ u=>((d.headD default).rows.length,u)
  |_=>(0,0))::cH os (ev o.sz d)
def jU(H:List aj)(e:bP):List Nat→List AV→Bool
 | [],[]=>true
 | j::js,.ptr id af k row c::vs=>(match H[id]? with
  |some (.raw _)=>ad id (e.at j)&&ad af 0&&ad k 0&&ad row 0&&ad c 0
  |_=>false)&&jU H e js vs
 |_,_=>false
def fw(H:List aj)(e:bP)(fz:Nat→Bool):eJ→AV→Option (Bool × List G)
 |.int k,.lit (.int k' n)=>if k=k' then some (true,[.i n]) else none
 |.str,.lit (.string s)=>some (true,[.s s])
 |.bool,.lit (.bool b)=>some (true,[.t b])
 | .list ks,a=>match mr ks a with
  |some rows=>some (true,[.l rows])
  | none=>match a with
   | .vec w id af off n=>match H[id]? with
    |some (.vec d v rows)=>if af=v∧off=0∧w=ks.length∧Kd.gr ks d=true∧fz id=true then some (ad n rows.length,[.l rows]) else none
    |_=>none
   |_=>none
 | .row ks,a=>match Cy ks a with
  |some r=>some (true,[.l [r]])
  |none=>none
 | .cptr ks,.cptr cells=>match fO ks cells with
  |some r=>some (true,[.l [r]])
  |none=>none
 | .cptr ks,.ptr id af _ row col=>match H[id]? with
  | some (.raw (.box cells))=>match fO ks cells with
   |some r=>if af=0∧row=0∧col=0∧fz id=true then some (true,[.l [r]]) else none
   |none=>none
  |some (.vec d v [r])=>if af=v∧row=0∧col=0∧Kd.gr ks d=true∧fz id=true then some (true,[.l [r]]) else none
  |_=>none
 |.nil,.lit (.slice none 0 0)=>some (true,[])
 |.any,_=>some (true,[])
 |.fn f,.clo g []=>if f=g then some (true,[]) else none
 | .ptr j col,.ptr id af k row c=>match H[id]? with
  |some (.raw _)=>if id=e.at j∧af=0∧k=0∧row=0∧c=col then some (true,[]) else none
  |_=>none
 | .vec j w,.vec w' id af off n=>match H[id]? with
  |some (.vec _ v rows)=>if w'=w∧id=e.at j∧af=v∧off=0 then some (ad n rows.length,[]) else none
  |_=>none
 | .sub j w,.vec w' id af off n=>match H[id]? with
  |some (.vec _ v _)=>if w'=w∧id=e.at j∧af=v then some (true,[.i off,.i n]) else none
  |_=>none
 | .pre j w,.vec w' id af off n=>match H[id]? with
  |some (.vec _ v _)=>if w'=w∧id=e.at j∧af=v∧off=0 then some (true,[.i n]) else none
  |_=>none
 | .rh ks,a=>match mr ks a with
  |some rows=>some (true,[.l rows])
  | none=>match a with
   | .vec w id af off n=>match H[id]? with
    |some (.vec d v rows)=>if af=v∧off=0∧w=ks.length∧Kd.gr ks d=true∧fz id=true then some (dA n rows.length,[.l (rows.take n)]) else none
    |_=>none
   |_=>none
 | .map j,.map id=>match H[id]? with
  |some (.map _ _ _ _)=>if id=e.at j then some (true,[]) else none
  |some (.aI _ _ _ _ _)=>if id=e.at j then some (true,[]) else none
  |some (.mm _ _ _ _ _ _ _)=>if id=e.at j then some (true,[]) else none
  |_=>none
 |.addr,.lit (.pointer (some ⟨b,0,none⟩))=>some (true,[.i (b:Nat)])
 |.Kp f js,.clo g vs=>if f=g∧jU H e js vs=true then some (true,[]) else none
 |.CD,.lit .nilIface=>some (true,[])
 |_,_=>none
def fm(H:List aj)(e:bP)(fz:Nat→Bool):List eJ→List AV→Option (Bool × List G)
 | [],[]=>some (true,[])
 | sh::d,a::as=>match fw H e fz sh a,fm H e fz d as with
  |some (b,g),some (h,k)=>some (b&&h,g++k)
  |_,_=>none
 |_,_=>none
def jV(H:List aj)(e:bP)(fz:Nat→Bool):Sh→AV→Option (Bool × List G)
 |.s a,v=>fw H e fz a v
 |.clo f caps,.clo g vs=>if f=g then fm H e fz caps vs else none
 |_,_=>none
def ew(H:List aj)(e:bP)(fz:Nat→Bool):List Sh→List AV→Option (Bool × List G)
 | [],[]=>some (true,[])
 | sh::d,a::as=>match jV H e fz sh a,ew H e fz d as with
  |some (b,g),some (h,k)=>some (b&&h,g++k)
  |_,_=>none
 |_,_=>none
def gA(H:List aj)(e:bP)(fz:Nat→Bool):cr→aj→Option (Bool × List G)
 |.vec ks _,.vec g _ rows=>if Kd.gr ks g then some (true,[.l rows]) else none
 |.box h,.raw (.box cells)=>fm H e fz h cells
 |.map K V,.map d u rows clock=>if K.same d&&V.same u then some (true,[.l rows,.i clock]) else none
 |.eF l T B,.raw (.eF l' v y s)=>if (ad l l'&&(ad T v&&ad B y))=true then some (true,[.s s]) else none
 |.aI l K ks,.aI l' d g rows clock=>if (ad l l'&&(K.same d&&Kd.gr ks g))=true then some (true,[.l rows,.i clock]) else none
 |.mm l K KI VI,.mm l' d k q rows mem clock=>if (ad l l'&&(K.same d&&(KI.same k&&VI.same q)))=true then some (true,[.l rows,.l mem,.i clock]) else none
 |_,_=>none
theorem Kq{H:List aj}{e:bP}{fz:Nat→Bool}{sh:cr}{o:aj}{b:Bool}{g:List G}(h:gA H e fz sh o=some (b,g)):o.den.label=sh.iQ:=by
 unfold gA at h;split at h
 ·rfl
 ·rfl
 ·rfl
 ·split at h
  ·rename_i d
   simp only[az]at d;have:=bu d.1;subst this;rfl
  ·cases h
 ·split at h
  ·rename_i d
   simp only[az]at d;have:=bu d.1;subst this;rfl
  ·cases h
 ·split at h
  ·rename_i d
   simp only[az]at d;have:=bu d.1;subst this;rfl
  ·cases h
 ·cases h
theorem CG{H:List aj}{e:bP}{fz:Nat→Bool}{sh:cr}{o:aj}{b:Bool}{g:List G}(h:gA H e fz sh o=some (b,g)):o.den.db=sh.db:=by
 unfold gA at h;split at h
 ·rfl
 ·rfl
 ·rfl
 ·rfl
 ·rfl
 ·split at h
  ·rename_i d
   simp only[az]at d;have:=bu d.1;subst this;rfl
  ·cases h
 ·cases h
def iR(H:List aj)(e:bP)(fz:Nat→Bool):List cr→List Nat→Option (Bool × List G)
 | [],[]=>some (true,[])
 | o::os,i::is=>match H[i]? with
  | some t=>match gA H e fz o t,iR H e fz os is with
   |some (b,g),some (d,h)=>some (b&&d,g++h)
   |_,_=>none
  |none=>none
 |_,_=>none
theorem nF:∀(g rest:List G),ev g.length (g++rest)=rest
 | [],_=>rfl
 |_::g,rest=>nF g rest
def rk:aj→Nat
 |.vec _ v _=>v
 |_=>0
def rm(H:List aj)(id:Nat):Nat:=match H[id]? with
 |some o=>rk o
 |none=>0
def bM(H:List aj)(ids:List Nat):bP:=⟨ids,ids.map (rm H),H.length⟩
structure x9 (E0:Env) (lens:c9) (j:Nat) (o:aj):Prop where
 af:o.den.aG = some (rk o)
 obj:∃ o0,E0.H[j]? = some o0∧o0.aG = some (lens.af j)
 mm:∀ o0,E0.H[j]? = some o0→o0.db=o.den.db
 len:∀ ks v rows,o=.vec ks v rows→lens.len j=rows.length
 flat:(∀ ks v rows,o≠.vec ks v rows)→lens.af j=0
structure hG (H:List aj) (e:bP) (fz:Nat→Bool) (lens:c9) (E E0:Env):Prop where
 hH:E.H=ao H
 HE:au E
 free:∀ i,fz i=true→∀ b n,E.loc[i]? = some (some (b,n))→E0.ir b
 cV:KeepIn e E E0
 obj:∀ j o,H[e.at j]? = some o→j<e.ids.length∧x9 E0 lens j o
section cV
variable {H:List aj} {e:bP} {fz:Nat→Bool} {lens:c9} {E E0:Env}
theorem x9.past{j:Nat}{o:aj}(h:x9 E0 lens j o):E0.past j (lens.af j):=by
 obtain⟨o0,h1,d⟩:=h.obj;exact⟨o0,h1,ab.AQ d,fun v g=>by rw[d]at g; cases g; exact aD _⟩
theorem We(K:hG H e fz lens E E0){id v n:Nat}{ks:List Kd}{rows:List (List G)}{c:Value}(hid:H[id]? = some (.vec ks v rows))(B:fz id=true)(I:n=rows.length)
  (d:rel E (.vec ks.length id v 0 n) c):rel E0 (.listF ks rows) c:=by
 subst I;have k:E.H[id]? = some (.vec ks.length v (rows.map (aJ ks))):=by rw[K.hH]; exact bl hid
 have ho:=K.HE.obj id _ k;rw[iH];simp only[rel]at d⊢;obtain⟨⟨base,cap,rfl,y,_⟩,_,h⟩:=d;obtain⟨N,J⟩:=h ⟨_,k,rfl⟩;have q:eZ (rows.map (aJ ks)):=by
  intro r d;obtain⟨g,_,rfl⟩:=dp.1 d;exact fI ks g
 refine⟨q,base,cap,by simp,by simpa using y,?_⟩;simp only[aO]at ho;rcases ho with⟨h1,u⟩|⟨b,m,h1,u,h,_,M⟩
 ·exact .inl u
 ·obtain ⟨g1, o, g2, g3⟩ := J b m h1
  by_cases hm:rows=[]
  ·subst hm; exact .inl rfl
  ·right
   have:0<rows.length:=by cases rows with|nil=>exact(hm rfl).elim|cons _ _=>simp
   simp at h;have ho:=g2 (by omega);simp at ho;subst ho;simp only[jD]at g3;exact⟨b,0,g3.1,K.free id B b m h1,km K.cV.bI _ q (by rw[K.cV.w]) M⟩
theorem Wf(K:hG H e fz lens E E0){id v n:Nat}{ks:List Kd}{rows:List (List G)}{c:Value}(hid:H[id]? = some (.vec ks v rows))(J:fz id=true)(M:n≤rows.length)
  (d:rel E (.vec ks.length id v 0 n) c):rel E0 (.listF ks (rows.take n)) c:=by
 have k:E.H[id]? = some (.vec ks.length v (rows.map (aJ ks))):=by rw[K.hH]; exact bl hid
 have ho:=K.HE.obj id _ k;rw[iH];simp only[rel]at d⊢;obtain⟨⟨base,cap,rfl,I,_⟩,_,h⟩:=d;obtain⟨O,N⟩:=h ⟨_,k,rfl⟩;have u:eZ ((rows.take n).map (aJ ks)):=by
  intro r d;obtain⟨g,_,rfl⟩:=dp.1 d;exact fI ks g
 have q:min n rows.length=n:=Nat.min_eq_left M;refine⟨u,base,cap,by simp[q],by simpa[q]using I,?_⟩;simp only[aO]at ho;rcases ho with⟨h1,y⟩|⟨b,m,h1,y,h,_,B⟩
 ·left
  have:rows=[]:=by simpa using y
  rw[this];simp
 ·obtain ⟨g1, o, g2, g3⟩ := N b m h1
  by_cases hm:n=0
  ·left; rw[hm]; simp
  ·right
   simp at h;have ho:=g2 (by omega);simp at ho;subst ho;simp only[jD]at g3;refine⟨b,0,g3.1,K.free id J b m h1,km K.cV.bI _ u (by rw[K.cV.w]) ?_⟩;rw[lb]at B⊢;intro i r hi;simp only[ch,lP]at hi;split at hi
   ·exact B i r (by simpa using hi)
   ·simp at hi
theorem Wg(K:hG H e fz lens E E0){id k:Nat}{cells:List AV}{c:Value} (hid:H[id]? = some (.raw (.box cells))) (g:AV.bq cells=true) (q:fz id=true)
  (h:rel E (.ptr id 0 k 0 0) c):rel E0 (.cptr cells) c:=by
 have d:E.H[id]? = some (.box cells):=by rw[K.hH]; exact bl hid
 have ho:=K.HE.obj id _ d;simp only[aO]at ho;obtain⟨b,n,h1,y,u⟩:=ho;simp only[rel]at h⊢;obtain⟨_,_,v⟩:=h;obtain⟨B,I,g1,g2⟩:=v ⟨_,d,rfl⟩;rw[h1]at g1;simp only[aY,bh]at g1;obtain⟨rfl,rfl⟩:=g1;exact⟨g,b,0,by rw[g2]; simp,K.free id q b n h1,qi K.cV.bI cells g (by rw[K.cV.w]) u⟩
theorem Wh(K:hG H e fz lens E E0){id k v:Nat}{ks:List Kd}{r:List G}{c:Value}(hid:H[id]? = some (.vec ks v [r]))(u:fz id=true)
  (g:rel E (.ptr id v k 0 0) c):rel E0 (.cptr (aJ ks r)) c:=by
 have d:E.H[id]? = some (.vec ks.length v [aJ ks r]):=by rw[K.hH]; exact bl hid
 have ho:=K.HE.obj id _ d;simp only[aO]at ho;simp only[rel]at g⊢;obtain⟨_,_,y⟩:=g;obtain⟨B,I,g1,g2⟩:=y ⟨_,d,rfl⟩;rcases ho with⟨_,h⟩|⟨b,m,h1,h,J,M,q⟩
 ·cases h
 ·rw [h1] at g1
  simp only[aY,bh]at g1;obtain⟨rfl,rfl⟩:=g1;simp only[cB]at q;exact⟨fI ks r,b,0,by rw[g2]; simp,K.free id u b m h1,qi K.cV.bI _ (fI ks r) (by rw[K.cV.w]) q.2.1⟩
theorem Kr(K:hG H e fz lens E E0):∀{js:List Nat} {vs:List AV},jU H e js vs=true→∀ cs,ah E vs cs→ah E0 (ph js) cs
 | [],[],_,cs,d=>by
  cases cs with
  |nil=>simp[ph,ah]
  |cons _ _=>simp[ah]at d
 | j::js,v::vs,h,cs,d=>by
  cases v<;>simp only[jU,kY]at h<;>try cases h
  rename_i id af k row c;simp only[az]at h;obtain⟨h1,y⟩:=h;split at h1
  ·rename_i r hid
   simp only[az]at h1;obtain⟨⟨⟨⟨g,a2⟩,a3⟩,a4⟩,a5⟩:=h1;have g:=bu g;have a2:=bu a2;have a3:=bu a3;have a4:=bu a4;have a5:=bu a5;subst g a2 a3 a4 a5;cases cs with
   |nil=>simp[ah]at d
   | cons c cs =>
    simp only[ah]at d;simp only[ph,ah];refine⟨?_,Kr K y cs d.2⟩;obtain⟨B,q⟩:=K.obj _ _ hid;have I:=q.flat (fun _ _ _ h=>by cases h);have u:=d.1;simp only[rel]at u⊢;obtain⟨h1,y,J⟩:=u;refine⟨h1,by have:=q.past; rwa [I]at this,fun _=>?_⟩;rw[K.cV.loc _ B];exact J ⟨_,by rw[K.hH]; exact bl hid,q.af⟩
  ·cases h1
 | [],_::_,h,_,_=>by simp[jU]at h
 |_::_,[],h,_,_=>by simp[jU]at h
theorem Ks(K:hG H e fz lens E E0){sh:eJ}{a:AV}{g:List G}(h:fw H e fz sh a=some (true,g))(rest:List G) :
  g.length=sh.sz∧∀ c,rel E a c→rel E0 (eL lens sh (g++rest)) c:=by
 unfold fw at h;split at h
 ·split at h
  ·rename_i hk
   subst hk;cases h;exact⟨rfl,fun c d=>by simp only[rel]at d; subst d; simp[eL,rel,G.int]⟩
  ·cases h
 ·cases h; exact⟨rfl,fun c d=>by simp only[rel]at d; subst d; simp[eL,rel,G.str]⟩
 ·cases h; exact⟨rfl,fun c d=>by simp only[rel]at d; subst d; simp[eL,rel,G.bool]⟩
 ·split at h
  ·rename_i rows d
   cases h;exact⟨rfl,fun c k=>dK K.cV.bI (.listF _ rows) rfl (Kc d k)⟩
  ·split at h
   ·split at h
    ·rename_i hid
     split at h
     ·rename_i k
      obtain⟨rfl,rfl,rfl,B,I⟩:=k;simp only[aY,bh]at h;obtain⟨h1,rfl⟩:=h;have B:=Kd.iz B;subst B;exact⟨rfl,fun c d=>We K hid I (bu h1) d⟩
     ·cases h
    ·cases h
   ·cases h
 ·split at h
  ·rename_i ks a r d
   cases h;have N:=Ke d;subst N;exact⟨rfl,fun c k=>dK K.cV.bI (.agg (aJ ks r)) (by simp only[AV.closed,fI]) k⟩
  ·cases h
 ·split at h
  ·rename_i r d
   cases h;have N:=jQ d;subst N;exact⟨rfl,fun c k=>dK K.cV.bI (.cptr _) rfl k⟩
  ·cases h
 ·split at h
  ·rename_i hid
   split at h
   ·rename_i r d
    split at h
    ·rename_i k
     obtain⟨rfl,rfl,rfl,I⟩:=k;cases h;have N:=jQ d;subst N;exact⟨rfl,fun c d=>Wg K hid (fI _ _) I d⟩
    ·cases h
   ·cases h
  ·rename_i V v r hid
   split at h
   ·rename_i k
    obtain⟨rfl,rfl,rfl,B,I⟩:=k;cases h;have B:=Kd.iz B;subst B;exact⟨rfl,fun c d=>Wh K hid I d⟩
   ·cases h
  ·cases h
 ·cases h; exact⟨rfl,fun c d=>by simpa only[eL,rel]using d⟩
 ·cases h; exact⟨rfl,fun c d=>by simp[eL,rel]⟩
 ·split at h
  ·rename_i hk
   subst hk;cases h;exact⟨rfl,fun c d=>dK K.cV.bI (.clo _ []) rfl d⟩
  ·cases h
 ·split at h
  ·rename_i r hid
   split at h
   ·rename_i k
    obtain⟨rfl,rfl,rfl,rfl,rfl⟩:=k;cases h;obtain⟨u,q⟩:=K.obj _ _ hid;have J:=q.flat (fun _ _ _ h=>by cases h);refine⟨rfl,fun c d=>?_⟩;simp only[rel]at d;simp only[eL,rel];obtain⟨h1,M,y⟩:=d;refine⟨h1,by have:=q.past; rwa [J]at this,fun _=>?_⟩;rw[K.cV.loc _ u];exact y ⟨_,by rw[K.hH]; exact bl hid,q.af⟩
   ·cases h
  ·cases h
 ·split at h
  ·rename_i ks v rows hid
   split at h
   ·rename_i k
    obtain⟨rfl,rfl,rfl,rfl⟩:=k;simp only[aY,bh]at h;obtain⟨h1,rfl⟩:=h;have h1:=bu h1;subst h1;obtain⟨u,q⟩:=K.obj _ _ hid;refine⟨rfl,fun c d=>?_⟩;simp only[rel]at d;simp only[eL,rel];rw[q.len _ _ _ rfl];obtain⟨h1,M,y⟩:=d;refine⟨h1,q.past,fun _=>?_⟩;rw[K.cV.loc _ u];exact y ⟨_,by rw[K.hH]; exact bl hid,q.af⟩
   ·cases h
  ·cases h
 ·split at h
  ·rename_i ks v rows hid
   split at h
   ·rename_i k
    obtain⟨rfl,rfl,rfl⟩:=k;cases h;obtain⟨u,q⟩:=K.obj _ _ hid;refine⟨rfl,fun c d=>?_⟩;simp only[rel]at d;simp only[eL,rel,lR,wz,List.tail_cons,G.int,a8];obtain⟨h1,M,y⟩:=d;refine⟨h1,q.past,fun _=>?_⟩;rw[K.cV.loc _ u];exact y ⟨_,by rw[K.hH]; exact bl hid,q.af⟩
   ·cases h
  ·cases h
 ·split at h
  ·rename_i ks v rows hid
   split at h
   ·rename_i k
    obtain⟨rfl,rfl,rfl,rfl⟩:=k;cases h;obtain⟨u,q⟩:=K.obj _ _ hid;refine⟨rfl,fun c d=>?_⟩;simp only[rel]at d;simp only[eL,rel,lR,wz,G.int,a8];obtain⟨h1,M,y⟩:=d;refine⟨h1,q.past,fun _=>?_⟩;rw[K.cV.loc _ u];exact y ⟨_,by rw[K.hH]; exact bl hid,q.af⟩
   ·cases h
  ·cases h
 ·split at h
  ·rename_i rows d
   cases h;exact⟨rfl,fun c k=>dK K.cV.bI (.listF _ rows) rfl (Kc d k)⟩
  ·split at h
   ·split at h
    ·rename_i hid
     split at h
     ·rename_i k
      obtain⟨rfl,rfl,rfl,B,I⟩:=k;simp only[aY,bh]at h;obtain⟨h1,rfl⟩:=h;have B:=Kd.iz B;subst B;exact⟨rfl,fun c d=>Wf K hid I (s7 h1) d⟩
     ·cases h
    ·cases h
   ·cases h
 ·split at h
  ·rename_i O V1 rows cl hid
   split at h
   ·rename_i k
    subst k;cases h;obtain⟨u,q⟩:=K.obj _ _ hid;have J:=q.flat (fun _ _ _ h=>by cases h);refine⟨rfl,fun c d=>?_⟩;simp only[rel]at d;simp only[eL,rel];obtain⟨h1,M,y⟩:=d;refine⟨h1,by have:=q.past; rwa [J]at this,fun _=>?_⟩;rw[K.cV.loc _ u];exact y ⟨_,by rw[K.hH]; exact bl hid,q.af⟩
   ·cases h
  ·rename_i U O W rows cl hid
   split at h
   ·rename_i k
    subst k;cases h;obtain⟨u,q⟩:=K.obj _ _ hid;have J:=q.flat (fun _ _ _ h=>by cases h);refine⟨rfl,fun c d=>?_⟩;simp only[rel]at d;simp only[eL,rel];obtain⟨h1,M,y⟩:=d;refine⟨h1,by have:=q.past; rwa [J]at this,fun _=>?_⟩;rw[K.cV.loc _ u];exact y ⟨_,by rw[K.hH]; exact bl hid,q.af⟩
   ·cases h
  ·rename_i U O KI1 VI1 rows mem cl hid
   split at h
   ·rename_i k
    subst k;cases h;obtain⟨u,q⟩:=K.obj _ _ hid;have J:=q.flat (fun _ _ _ h=>by cases h);refine⟨rfl,fun c d=>?_⟩;simp only[rel]at d;simp only[eL,rel];obtain⟨h1,M,y⟩:=d;refine⟨h1,by have:=q.past; rwa [J]at this,fun _=>?_⟩;rw[K.cV.loc _ u];exact y ⟨_,by rw[K.hH]; exact bl hid,q.af⟩
   ·cases h
  ·cases h
 ·cases h; exact⟨rfl,fun c d=>by simp only[rel]at d; subst d; simp[eL,rel,G.int]⟩
 ·split at h
  ·rename_i k
   obtain⟨rfl,k⟩:=k;cases h;refine⟨rfl,fun c d=>?_⟩;simp only[rel]at d;simp only[eL,rel];obtain⟨cs,r1,r2⟩:=d;exact⟨cs,r1,Kr K k _ r2⟩
  ·cases h
 ·cases h; exact⟨rfl,fun c d=>by simpa only[eL,rel]using d⟩
 ·cases h
theorem CH(K:hG H e fz lens E E0):∀{k:List eJ} {as:List AV} {g:List G},fm H e fz k as=some (true,g)→∀(rest:List G),
  g.length=nE k∧as.length=k.length∧(iB lens k (g++rest)).length=k.length ∧
   (∀ cs,ah E as cs→ah E0 (iB lens k (g++rest)) cs)∧∀ b o,E0.w.heap[b]? = E.w.heap[b]? → cu E as b o→cu E0 (iB lens k (g++rest)) b o
 | [],[],g,h,rest=>by
  simp only[fm,aY,bh]at h;obtain⟨_,rfl⟩:=h;refine⟨rfl,rfl,rfl,fun cs d=>?_,fun b o _ d=>by simp[iB,cu]⟩;cases cs with
  |nil=>simp[iB,ah]
  |cons _ _=>simp[ah]at d
 | sh::k,a::as,g,h,rest=>by
  simp only[fm]at h;split at h
  ·rename_i b g1 U g2 h1 y
   simp only[aY,bh,az]at h;obtain⟨⟨rfl,rfl⟩,rfl⟩:=h;obtain⟨p1,u⟩:=Ks K h1 (g2++rest);obtain⟨B,I,J,M,N⟩:=CH K y rest;have q:ev sh.sz (g1++(g2++rest))=g2++rest:=by rw[←p1]; exact nF g1 _
   refine⟨by simp only[nE,fH,p1,B],by simp only[cD,I],?_,?_,?_⟩
   ·simp only[iB,gF,q,cD,J]
   ·intro cs d
    cases cs with
    |nil=>simp[ah]at d
    | cons c cs =>
     simp only[ah]at d;simp only[iB,gF,q,ah];exact⟨u c d.1,M cs d.2⟩
   ·intro b o hb d
    simp only[cu]at d;simp only[iB,gF,q,cu];obtain⟨⟨v,r1,r2,r3⟩,O⟩:=d;exact⟨⟨v,by rw[World.qh hb]; exact r1,r2,u v r3⟩,N b (o+1) hb O⟩
  ·cases h
 | [],_::_,_,h,_=>by simp[fm]at h
 |_::_,[],_,h,_=>by simp[fm]at h
theorem Kt(K:hG H e fz lens E E0){sh:Sh}{a:AV}{g:List G}(h:jV H e fz sh a=some (true,g))(rest:List G) :
  g.length=sh.sz∧∀ c,rel E a c→rel E0 (pj lens sh (g++rest)) c:=by
 cases sh with
 |s a0=>exact Ks K h rest
 | clo f caps =>
  cases a<;>simp only[jV]at h<;>try cases h
  rename_i g1 vs;split at h
  ·rename_i k
   subst k;obtain⟨q,v,y,u,B⟩:=CH K h rest;refine⟨q,fun c d=>?_⟩;simp only[rel]at d;simp only[pj,rel];obtain⟨cs,r1,r2⟩:=d;exact⟨cs,r1,u _ r2⟩
  ·cases h
theorem uv(K:hG H e fz lens E E0):∀{d:List Sh} {as:List AV} {g:List G},ew H e fz d as=some (true,g)→∀(rest:List G),
  g.length=CE d∧as.length=d.length∧(fl lens d (g++rest)).length=d.length∧(∀ cs,ah E as cs→ah E0 (fl lens d (g++rest)) cs)
 | [],[],g,h,rest=>by
  simp only[ew,aY,bh]at h;obtain⟨_,rfl⟩:=h;refine⟨rfl,rfl,rfl,fun cs k=>?_⟩;cases cs with
  |nil=>simp[fl,ah]
  |cons _ _=>simp[ah]at k
 | sh::d,a::as,g,h,rest=>by
  simp only[ew]at h;split at h
  ·rename_i b g1 M g2 h1 u
   simp only[aY,bh,az]at h;obtain⟨⟨rfl,rfl⟩,rfl⟩:=h;obtain⟨p1,v⟩:=Kt K h1 (g2++rest);obtain⟨y,B,I,J⟩:=uv K u rest;have q:ev sh.sz (g1++(g2++rest))=g2++rest:=by rw[←p1]; exact nF g1 _
   refine⟨by simp only[CE,fH,p1,y],by simp only[cD,B],by simp only[fl,gF,q,cD,I],?_⟩;intro cs k;cases cs with
   |nil=>simp[ah]at k
   | cons c cs =>
    simp only[ah]at k;simp only[fl,gF,q,ah];exact⟨v c k.1,J cs k.2⟩
  ·cases h
 | [],_::_,_,h,_=>by simp[ew]at h
 |_::_,[],_,h,_=>by simp[ew]at h
theorem Ku(K:hG H e fz lens E E0):∀{u:List Sh} {as:List AV} {g:List G},ew H e fz u as=some (true,g)→∀{rest:List G} {k:Nat} {x v:AV} {c:Value},
  as[k]? = some x→(fl lens u (g++rest))[k]? = some v→rel E x c→rel E0 v c
 | [],[],_,_,_,_,_,_,_,d,_,_=>by simp at d
 | sh::u,a::as,g,h,rest,k,x,v,c,d,q,y=>by
  simp only[ew]at h;split at h
  ·rename_i b g1 M g2 h1 B
   simp only[aY,bh,az]at h;obtain⟨⟨rfl,rfl⟩,rfl⟩:=h;obtain⟨p1,I⟩:=Kt K h1 (g2++rest);have J:ev sh.sz (g1++(g2++rest))=g2++rest:=by rw[←p1]; exact nF g1 _
   simp only[fl,gF,J]at q;cases k with
   | zero =>
    simp at d q;subst d;subst q;exact I c y
   |succ k=>exact Ku K B (by simpa using d) (by simpa using q) y
  ·cases h
 | [],_::_,_,h,_,_,_,_,_,_,_,_=>by simp[ew]at h
 |_::_,[],_,h,_,_,_,_,_,_,_,_=>by simp[ew]at h
theorem Kv(K:hG H e fz lens E E0){sh:cr}{o:aj}{g:List G}(h:gA H e fz sh o=some (true,g))(rest:List G)
  {j:Nat} (W:j<e.ids.length) (hlab:∀ l,sh.iQ=some l→E0.X.r l=E.X.r l) (ho:aO E (e.at j) o.den):aO E0 j (eT lens sh (g++rest)).den:=by
 have I:∀ b:Nat,E0.w.heap[b]? = E.w.heap[b]? := fun b=>by rw[K.cV.w]
 have J:=K.cV.loc j W;unfold gA at h;split at h
 ·split at h
  ·rename_i y
   cases h;have y:=Kd.iz y;subst y;simp only[eT,aj.den,aO]at ho⊢;rcases ho with⟨h1,d⟩|⟨b,m,h1,d,u,M,h5⟩
   ·exact .inl ⟨by rw[J,h1],d⟩
   ·exact .inr ⟨b,m,by rw[J,h1],qj (I b) d,u,M,km K.cV.bI _ M (I b) h5⟩
  ·cases h
 ·rename_i shs cells
  obtain⟨q1,q2,q3,q5,q6⟩:=CH K h rest;simp only[eT,aj.den,aO]at ho⊢;obtain⟨b,n,h1,d,u⟩:=ho;exact⟨b,n,by rw[J,h1],by rw[q3,←q2]; exact qj (I b) d,q6 b 0 (I b) u⟩
 ·split at h
  ·rename_i y
   cases h;simp only[az]at y;have h1:=Ct.jl y.1;have d:=Ct.jl y.2;subst h1;subst d;simp only[eT,aj.den,aO]at ho⊢;obtain⟨b,n,ms,h1,d,u⟩:=ho;refine⟨b,n,ms,by rw[J,h1],?_,iA K.cV.bI u⟩;rw[I b];simpa[G.int]using d
  ·cases h
 ·rename_i l T B l' T' B' s
  split at h
  ·rename_i y
   cases h;simp only[az]at y;obtain⟨h1,d,u⟩:=y;have h1:=bu h1;have d:=bu d;have u:=bu u;subst h1 d u;simp only[eT,aj.den,aO]at ho⊢;obtain⟨b,n,p,v,k,q,g1,g2,g3,g4,g5,g6⟩:=ho;have N:=hlab l rfl;exact⟨b,n,p,v,k,q,by rw[J,g1],by rw[I b,g2],g3,by rw[N,g4],by rw[N]; exact g5,AU (fun g m _=>I g) (by simpa[G.str]using g6)⟩
  ·cases h
 ·rename_i l K0 ks l' K' ks' rows clock
  split at h
  ·rename_i y
   cases h;simp only[az]at y;obtain⟨h1,d,u⟩:=y;have h1:=bu h1;have d:=Ct.jl d;have u:=Kd.iz u;subst h1 d u;simp only[eT,aj.den,aO]at ho⊢;obtain⟨b,n,ms,g1,g2,g3,g4⟩:=ho;have N:=hlab l rfl;refine⟨b,n,ms,by rw[J,g1],?_,iA K.cV.bI g3,ta (E:=E) (fun h g m hk=>⟨by rw[N]; exact hk,I g⟩) (fun _ _ _ _ _ O U hc V=>km K.cV.bI _ hc U V) g4⟩;rw[I b];simpa[G.int]using g2
  ·cases h
 ·rename_i l K0 KI VI l' K' KI' VI' rows mem clock
  split at h
  ·rename_i y
   cases h;simp only[az]at y;obtain⟨h1,d,u,M⟩:=y;have h1:=bu h1;have d:=Ct.jl d;have u:=Ct.jl u;have M:=Ct.jl M;subst h1 d u M;simp only[eT,aj.den,aO]at ho⊢;obtain⟨b,n,ms,g1,g2,g3,g4⟩:=ho;have N:=hlab l rfl;refine⟨b,n,ms,by rw[J,g1],?_,iA K.cV.bI g3,AY N (fun _ O _ _=>I O) (fun _ _ _=>iA K.cV.bI) g4⟩;rw[I b];simpa[G.int]using g2
  ·cases h
 ·cases h
end cV
def cr.up:cr→Nat
 |.vec _ u=>u
 |_=>0
theorem CI{H:List aj}{e:bP}{fz:Nat→Bool}{lens:c9}{sh:cr}{o:aj}{b:Bool}{g d:List G}(h:gA H e fz sh o=some (b,g)) :
  o.den.aG = some (rk o)∧(eT lens sh d).den.aG = some sh.up∧((∀ ks v rows,o≠.vec ks v rows)→sh.up=0):=by
 unfold gA at h;split at h
 ·exact⟨rfl,rfl,fun k=>(k _ _ _ rfl).elim⟩
 ·exact⟨rfl,rfl,fun _=>rfl⟩
 ·exact⟨rfl,rfl,fun _=>rfl⟩
 ·exact⟨rfl,rfl,fun _=>rfl⟩
 ·exact⟨rfl,rfl,fun _=>rfl⟩
 ·exact⟨rfl,rfl,fun _=>rfl⟩
 ·cases h
theorem Wi{H:List aj}{e:bP}{fz:Nat→Bool}{sh:eJ}{a:AV}{b:Bool}{g:List G}(h:fw H e fz sh a=some (b,g)):g.length=sh.sz:=by
 unfold fw at h;split at h<;>(try split at h)<;>(try split at h)<;>(try split at h)<;>(try split at h)<;>first
  |(cases h; rfl)
  |cases h
theorem Kw{H:List aj}{e:bP}{fz:Nat→Bool}:∀{d:List eJ} {as:List AV} {b:Bool} {g:List G},fm H e fz d as=some (b,g)→g.length=nE d
 | [],[],_,g,h=>by simp[fm]at h; simp[←h.2,nE]
 | sh::d,a::as,b,g,h=>by
  simp only[fm]at h;split at h
  ·rename_i b g1 q g2 h1 k
   simp only[aY,bh]at h;obtain⟨_,rfl⟩:=h;simp only[nE,fH,Wi h1,Kw k]
  ·cases h
 | [],_::_,_,_,h|_::_,[],_,_,h=>by simp[fm]at h
theorem Wj{H:List aj}{e:bP}{fz:Nat→Bool}{sh:cr}{o:aj}{b:Bool}{g:List G}(h:gA H e fz sh o=some (b,g)):g.length=sh.sz:=by
 unfold gA at h;split at h
 ·split at h
  ·cases h; rfl
  ·cases h
 ·exact Kw h
 ·split at h
  ·cases h; rfl
  ·cases h
 ·split at h
  ·cases h; rfl
  ·cases h
 ·split at h
  ·cases h; rfl
  ·cases h
 ·split at h
  ·cases h; rfl
  ·cases h
 ·cases h
theorem uw{H:List aj}{e:bP}{fz:Nat→Bool}:∀{os:List cr} {ids:List Nat} {g:List G},iR H e fz os ids=some (true,g)→∀(rest:List G) (lens:c9),
  g.length=lv os∧ids.length=os.length∧(cO lens os (g++rest)).length=os.length ∧
  (∀ (j : Nat) (sh : cr), os[j]? = some sh → ∃ i o g1 q, ids[j]? = some i ∧ H[i]? = some o ∧ gA H e fz sh o = some (true, g1) ∧ (cO lens os (g ++ rest))[j]? = some (eT lens sh (g1 ++ q)) ∧
   (cH os (g++rest)).af j=sh.up∧∀ ks v rows,o=.vec ks v rows→(cH os (g++rest)).len j=rows.length)
 | [],[],g,h,rest,lens=>by
  simp only[iR,aY,bh]at h;obtain⟨_,rfl⟩:=h;exact⟨rfl,rfl,rfl,fun j sh d=>by simp at d⟩
 | sh::os,i::ids,g,h,rest,lens=>by
  simp only[iR]at h;split at h
  case h_2=>cases h
  rename_i o ho;split at h
  ·rename_i b g1 b' g2 h1 I
   simp only[aY,bh,az]at h;obtain⟨⟨rfl,rfl⟩,rfl⟩:=h;obtain⟨J,M,N,O⟩:=uw I rest lens;have u:=Wj h1;have k:ev sh.sz (g1++(g2++rest))=g2++rest:=by rw[←u]; exact nF g1 _
   refine⟨by simp only[lv,fH,u,J],by simp only[cD,M],by simp only[cO,gF,k,cD,N],fun j y d=>?_⟩;cases j with
   | zero =>
    simp at d;subst d;refine⟨i,o,g1,g2++rest,rfl,ho,h1,by simp only[cO,gF,List.getElem?_cons_zero],?_,?_⟩
    ·unfold cH c9.af
     cases sh<;>rfl
    ·rintro ks v rows rfl
     unfold gA at h1;split at h1
     ·rename_i heq
      cases heq;split at h1
      ·cases h1
       simp[cH,c9.len,G.rows]
      ·cases h1
     ·rename_i heq; cases heq
     ·rename_i heq; cases heq
     ·rename_i heq; cases heq
     ·rename_i heq; cases heq
     ·rename_i heq; cases heq
     ·cases h1
   | succ j =>
    obtain⟨U,o',B,q,r1,r2,r3,V,W,r6⟩:=O j y (by simpa using d);refine⟨U,o',B,q,by simpa using r1,r2,r3,by simpa only[cO,gF,k,SV]using V,?_,?_⟩
    ·simpa only[cH,c9.af,gF,k,ah2]using W
    ·simpa only[cH,c9.len,gF,k,ah2]using r6
  ·cases h
 | [],_::_,_,h,_,_=>by simp[iR]at h
 |_::_,[],_,h,_,_=>by simp[iR]at h
end Go.AL

namespace Go.AL
open Go
variable [Dr]
abbrev rq(a b:Bool):Bool:=Bool.casesOn a false b
theorem rr{a b:Bool}:rq a b=true↔a=true∧b=true:=by cases a<;>simp
open Classical in
noncomputable def mu(E:Env)(H0:List ab)(l:Nat):List (Option (Option (Nat × Nat))):=if ∃(j:Nat) (o:ab),H0[j]? = some o∧o.label=some l then E.X.r l else (E.X.r l).map fun _=>none
theorem Wk{E:Env}{H0:List ab}{l j:Nat}{o:ab}(h:H0[j]? = some o)(d:o.label=some l):mu E H0 l=E.X.r l:=if_pos ⟨j,o,h,d⟩
theorem x_{E:Env}{H0:List ab}{l h:Nat}{q:Option (Nat × Nat)}(d:(mu E H0 l)[h]? = some (some q)):(E.X.r l)[h]? = some (some q)∧∃(j:Nat) (o:ab),H0[j]? = some o∧o.label=some l:=by
 unfold mu at d;split at d
 ·rename_i k
  exact⟨d,k⟩
 ·rw [ch] at d
  cases g:(E.X.r l)[h]? with
  |none=>rw[g]at d; cases d
  |some y=>rw[g]at d; cases d
theorem Wl(E:Env)(H0:List ab)(l:Nat):(mu E H0 l).length=(E.X.r l).length:=by
 unfold mu;split
 ·rfl
 ·simp
noncomputable def hZ(E:Env)(H0:List ab)(ids:List Nat):Env:=⟨E.w,H0,ids.map fun i=>E.loc.getD i none,E.X.re (mu E H0)⟩
theorem Kx(E:Env)(H0:List ab)(ids:List Nat):∀ l h,h<(E.X.r l).length→h<((hZ E H0 ids).X.r l).length∧∀ q,((hZ E H0 ids).X.r l)[h]? = some (some q)→(E.X.r l)[h]? = some (some q) :=
 fun l h d=>⟨by show h<(mu E H0 l).length; rw[Wl]; exact d,fun q g=>(x_ (E:=E) (H0:=H0) g).1⟩
theorem Ky{E:Env}{H0:List ab}{ids:List Nat}{b:Nat}(h:(hZ E H0 ids).own b):E.own b:=by
 rcases h with⟨j,c,g⟩|⟨l,k,c,g⟩
 ·simp only [hZ, ch] at g
  obtain⟨i,_,d⟩:=dV.1 g;rw[ct]at d;cases he:E.loc[i]? with
  |none=>rw[he]at d; cases d
  |some y=>rw[he]at d; simp at d; exact .inl ⟨i,c,by rw[he,d]⟩
 ·exact .inr ⟨l,k,c,(x_ g).1⟩
def h_(ids:List Nat)(i:Nat):Bool := !ids.any (ad i)
theorem Kz{ids:List Nat}{i:Nat}(h:h_ ids i=true):i∉ids:=by
 intro hm;have:ids.any (ad i)=true:=jF.2 ⟨i,hm,by simp⟩;simp[h_,this]at h
theorem KA{E:Env}{H:List aj}(hH:E.H=ao H)(HE:au E){ids:List Nat}(hn:ids.Nodup){os:List cr}{g:List G}(h:iR H (bM H ids) (h_ ids) os ids=some (true,g))(rest:List G) :
  hG H (bM H ids) (h_ ids) (cH os (g++rest)) E (hZ E (ao (cO (cH os (g++rest)) os (g++rest))) ids) ∧
   au (hZ E (ao (cO (cH os (g++rest)) os (g++rest))) ids):=by
 obtain⟨p0,p1,p2,p3⟩:=uw h rest (cH os (g++rest));generalize J:hZ E (ao (cO (cH os (g++rest)) os (g++rest))) ids=E0;have hElen:E.loc.length=H.length:=by rw[HE.len,hH,eD]
 have eids:(bM H ids).ids=ids:=rfl;have W:∀ j x,E0.loc[j]? = some x→j<ids.length∧∃ i,ids[j]? = some i∧E.loc.getD i none=x:=by
  intro j x I;rw[←J]at I;simp only[hZ,ch]at I;obtain⟨i,h1,B⟩:=dV.1 I;exact⟨aK h1,i,h1,B⟩
 have getD_some:∀{i:Nat} {x:Nat × Nat},E.loc.getD i none=some x→E.loc[i]? = some (some x):=by
  intro i x I;rw[ct]at I;cases he:E.loc[i]? with
  |none=>rw[he]at I; cases I
  |some y=>rw[he]at I; simp at I; rw[I]
 have hown:∀ b,E0.own b→E.own b:=by
  rintro b (⟨j,c,u⟩|⟨l,k,c,u⟩)
  ·obtain ⟨_, i, _, B⟩ := W j _ u
   exact .inl ⟨i,c,getD_some B⟩
  ·rw [← J] at u
   exact .inr ⟨l,k,c,(x_ u).1⟩
 have hw:E0.w=E.w:=by rw[←J]; rfl
 have hX:E0.X.x=E.X.x:=by rw[←J]; rfl
 have V:∀(l k:Nat) q,(E0.X.r l)[k]? = some (some q)→(E.X.r l)[k]? = some (some q)∧∃(j:Nat) (o:ab),E0.H[j]? = some o∧o.label=some l:=fun l k q hq=>by
  rw[←J]at hq⊢;exact x_ hq
 have hatl:∀ j,j<ids.length→ids[j]? = some ((bM H ids).at j):=fun j u=>gz (e:=bM H ids) u;have hobjs:∀ j,j<ids.length→∃ sh o g1 M,os[j]? = some sh∧H[(bM H ids).at j]? = some o∧gA H (bM H ids) (h_ ids) sh o=some (true,g1) ∧
   (cO (cH os (g++rest)) os (g++rest))[j]? = some (eT (cH os (g++rest)) sh (g1++M)) ∧
   (cH os (g++rest)).af j=sh.up∧∀ ks v rows,o=.vec ks v rows→(cH os (g++rest)).len j=rows.length:=by
  intro j u;have hj':j<os.length:=by omega
  obtain⟨i,o,g1,M,q1,N,U,O,q5,q6⟩:=p3 j os[j] (bL hj');rw[hatl j u]at q1;cases q1;exact⟨os[j],o,g1,M,bL hj',N,U,O,q5,q6⟩
 have hK:hG H (bM H ids) (h_ ids) (cH os (g++rest)) E E0:=by
  refine⟨hH,HE,fun i hi b n hb=>?_,⟨fun b hb=>⟨⟨by rw[hw]; exact hb.1,fun ho=>hb.2.1 (hown b ho),by rw[hX]; exact hb.2.2⟩,by rw[hw]⟩,hw,fun j u=>?_,fun j o l h1 B=>by rw[←J]at h1⊢; exact Wk h1 B⟩,fun j o ho=>?_⟩
  ·refine ⟨by rw [hw]; exact (HE.lt _ _ _ hb).1, ?_, by rw [hX]; exact (HE.lt _ _ _ hb).2⟩
   rintro(⟨j,c,u⟩|⟨l,k,c,u⟩)
   case inr=>exact HE.cR _ _ _ _ _ _ hb (V l k _ u).1
   obtain⟨_,i',h1,B⟩:=W j _ u;have:=HE.inj _ _ _ _ _ hb (getD_some B);subst this;exact Kz hi (eX h1)
  ·rw [← J]
   simp only[hZ,ch,hatl j u,eM];have hlt:(bM H ids).at j<E.loc.length:=by
    obtain⟨sh,o,g1,M,_,N,_⟩:=hobjs j u;rw[hElen];exact aK N
   rw[ct,bL hlt];rfl
  ·have u:j<ids.length:=by
    rcases jb j ids.length with hlt|hge
    ·exact hlt
    ·have h1 := aK ho
     have B:=rf (e:=bM H ids) hge;have h3:(bM H ids).base=H.length:=rfl;omega
   refine⟨u,?_⟩;obtain⟨sh,o',g1,M,q1,N,U,O,q5,q6⟩:=hobjs j u;rw[ho]at N;cases N;obtain⟨r1,r2,r3⟩:=CI (lens:=cH os (g++rest)) (d:=g1++M) U;have hq4:E0.H[j]? = some (eT (cH os (g++rest)) sh (g1++M)).den:=by
    rw[←J];exact bl O
   exact⟨r1,⟨_,hq4,by rw[q5]; exact r2⟩,fun o0 h0=>by rw[hq4]at h0; cases h0; rw[CF,CG U],q6,fun hv=>by rw[q5]; exact r3 hv⟩
 have hlabs:∀(j:Nat) o,E0.H[j]? = some o→j<ids.length∧∃ o',E.H[(bM H ids).at j]? = some o'∧o'.label=o.label:=fun j o ho=>by
  rw[←J]at ho;simp only[hZ,ao,ch]at ho;obtain⟨o',h1,rfl⟩:=dV.1 ho;have u:j<ids.length:=by
   have:=aK h1;omega
  obtain⟨sh,oo,g1,M,q1,N,U,O,_⟩:=hobjs j u;rw[h1]at O;cases O;exact⟨u,oo.den,by rw[hH]; exact bl N,by rw[Kq U,rj]⟩
 refine⟨hK,?_,?_,?_,fun b I=>?_,fun j o ho=>?_,HE.e9.bI hK.cV.bI,fun l k l' k' b m n h1 B=>HE.eG l k l' k' b m n (V _ _ _ h1).1 (V _ _ _ B).1,fun i b m l k n hi B=>?_,fun l k b m h1=>by rw[hw,hX]; exact HE.cz l k b m (V _ _ _ h1).1,fun i j o o' l hi u h1 B=>?_,fun l hn k q hq=>?_⟩
 ·rw [← J]
  simp only[hZ,dO,eD,p2,p1]
 ·intro i j b m n hi u
  obtain⟨i1,i2,i3,i4⟩:=W i _ hi;obtain⟨j1,j2,j3,j4⟩:=W j _ u;have:=HE.inj _ _ _ _ _ (getD_some i4) (getD_some j4);subst this;exact(AF i1 hn).1 (by rw[i3,j3])
 ·intro i b m hi
  obtain⟨_,i2,_,i4⟩:=W i _ hi;rw[hw,hX];exact HE.lt _ _ _ (getD_some i4)
 ·rw [hw]
  rw[hX]at I;exact HE.X b I
 ·rw [← J] at ho
  simp only[hZ,ao,ch]at ho;obtain⟨o',h1,rfl⟩:=dV.1 ho;have u:j<ids.length:=by
   have:=aK h1;omega
  obtain⟨sh,oo,g1,M,q1,N,U,O,q5,q6⟩:=hobjs j u;rw[h1]at O;cases O;refine Kv hK U M (by exact u) (fun l hl=>?_) (HE.obj _ _ (by rw[hH]; exact bl N));refine hK.cV.iQ j (eT (cH os (g++rest)) sh (g1++M)).den l ?_ (by rw[rj,hl]);rw[←J];exact bl h1
 ·obtain ⟨_, i', _, h3⟩ := W i _ hi
  exact HE.cR _ _ _ _ _ _ (getD_some h3) (V _ _ _ B).1
 ·obtain ⟨i1, oi, a1, a2⟩ := hlabs i o hi
  obtain⟨j1,oj,b1,b2⟩:=hlabs j o' u;have:=HE.uniq _ _ _ _ l a1 b1 (by rw[a2,h1]) (by rw[b2,B]);exact(AF i1 hn).1 (by rw[hatl i i1,hatl j j1,this])
 ·obtain ⟨_, j, o, h1, B⟩ := V l k q hq
  exact hn j o h1 B
def nodupB:List Nat→Bool
 | []=>true
 |i::is => !is.any (ad i)&&nodupB is
theorem ru:∀{l:List Nat},nodupB l=true→l.Nodup
 | [],_=>List.nodup_nil
 | i::is,h=>by
  simp only[nodupB,az,mQ]at h;refine lW.2 ⟨fun hm=>?_,ru h.2⟩;have:is.any (ad i)=true:=jF.2 ⟨i,hm,by simp⟩;rw[h.1]at this;cases this
def mv(H:List aj):Nat→Nat→List Nat→List cr→Bool
 |_,0,_,_=>true
 |i,m+1,id::ids,o::os=>ad id i&&((ad (rm H i) 0 || !ad o.up 0)&&mv H (i+1) m ids os)
 |_,_,_,_=>false
theorem ya{H:List aj}:∀{i m:Nat} {ids:List Nat} {os:List cr},mv H i m ids os=true→∀ j,j<m→ids[j]? = some (i+j)∧∃ o,os[j]? = some o∧(rm H (i+j)=0∨o.up≠0)
 |_,0,_,_,_,j,g=>by omega
 | i,m+1,id::ids,o::os,h,j,g=>by
  simp only[mv,az,Bool.or_eq_true,mQ]at h;obtain⟨h1,d,k⟩:=h;have h1:=bu h1;subst h1;cases j with
  | zero =>
   refine⟨rfl,o,rfl,?_⟩;rcases d with d|d
   ·exact .inl (bu d)
   ·right
    intro e;rw[e]at d;cases d
  | succ j =>
   have:=ya k j (by omega);rw[show id+1+j=id+(j+1) from by omega]at this;simpa using this
 |_,_+1,[],_,h,_,_=>by simp[mv]at h
 |_,_+1,_::_,[],h,_,_=>by simp[mv]at h
theorem KB{E:Env}{H:List aj}(hH:E.H=ao H){ids:List Nat}{os:List cr}{m:Nat}{lens:c9}{E0:Env}(y:hG H (bM H ids) (h_ ids) lens E E0)(hX:E0.X.x=E.X.x∧E0.X.z=E.X.z)
  (hrl:∀ l h,h<(E.X.r l).length→h<(E0.X.r l).length∧∀ q,(E0.X.r l)[h]? = some (some q)→(E.X.r l)[h]? = some (some q))
  (hok:mv H 0 m ids os=true) (V:∀ j,j<m→∃ o sh,H[(bM H ids).at j]? = some o∧os[j]? = some sh∧lens.af j=sh.up) (W:∀ b,E0.own b→E.own b):E.dv m E0:=by
 have key:∀ id,id<m→(bM H ids).at id=id∧∃ o sh,H[id]? = some o∧os[id]? = some sh∧lens.af id=sh.up∧(rk o=0∨sh.up≠0)∧x9 E0 lens id o∧id<ids.length:=by
  intro id hid;obtain⟨h1,o',M,B⟩:=ya hok id hid;rw[cT]at h1 B;have J:=aK h1;have g:=gz (e:=bM H ids) (j:=id) J;rw[show (bM H ids).ids=ids from rfl,h1]at g;have g:=(gl g).symm;obtain⟨o,sh,d,k,I⟩:=V id hid;obtain⟨r1,r2⟩:=y.obj id o d;rw[g]at d;rw[M]at k;have k:=gl k;rw[←k]at I;refine⟨g,o,o',d,M,I,?_,r2,J⟩;rcases B with B|B
  ·left
   simpa[rm,d]using B
  ·exact .inr B
 refine⟨fun id hid hp=>?_,by rw[y.cV.w]; exact aD _,fun b _ _=>by rw[y.cV.w],fun b _ hb ho=>hb (W b ho),fun id hid hp hl=>?_,fun b _=>by rw[hX.1,hX.2]; exact⟨Iff.rfl,Iff.rfl⟩,hrl,by rw[y.cV.w]; exact⟨rfl,rfl,rfl,by first|exact fun _=>aD _|exact fun _=>eW _ _⟩,fun id hid l o h1 M _=>?_⟩
 rotate_right
 ·obtain ⟨g, o1, sh, d, k, I, N, u, J⟩ := key id hid
  obtain⟨o0,r1,r2⟩:=u.obj;rw[hH,bl d]at h1;cases h1;have hm:=u.mm o0 r1;rw[M]at hm;exact⟨⟨[],by rw[da]; exact y.cV.iQ id o0 l r1 (ab.kh hm)⟩,o0,r1,hm⟩
 ·obtain ⟨_, o, sh, d, k, I, N, u, _⟩ := key id hid
  obtain⟨o0,r1,r2⟩:=u.obj;exact⟨o0,r1,ab.AQ r2,fun v _=>eC v⟩
 ·obtain ⟨g, o, sh, d, k, I, N, u, J⟩ := key id hid
  obtain⟨o0,r1,r2⟩:=u.obj;obtain⟨o1,r3,O⟩:=hl;rw[r1]at r3;cases r3;rw[r2]at O;have U:lens.af id=0:=gl O;rw[I]at U;have hv:rk o=0:=N.resolve_right (fun h=>h U);refine⟨⟨o.den,by rw[hH]; exact bl d,by rw[u.af,hv]⟩,?_⟩;have:=y.cV.loc id J;rw[g]at this;exact this
structure mw where
 n:Nat
 ux:List (Nat × Sh)
 cI:List cr
def ry:Nat→List (Nat × Sh)→List AV→AV
 | i,(j,_)::d,v::vs=>match ad i j with
  |true=>v
  |false=>ry i d vs
 |_,_,_=>.undef
def aR(S:mw)(d:List G):ar :=
 ⟨(dI S.n).map fun i=>ry i S.ux (fl (cH S.cI d) (S.ux.map (·.2)) (ev (lv S.cI) d)),cO (cH S.cI d) S.cI d⟩
def CJ(m:Nat)(S:mw)(ids:List Nat)(s:ar):Option (Bool × List G) :=
 match ad s.fr.length S.n&&(nodupB ids&&mv s.H 0 m ids S.cI)with
 |false=>none
 | true=>match iR s.H (bM s.H ids) (h_ ids) S.cI ids,ew s.H (bM s.H ids) (h_ ids) (S.ux.map (·.2)) (S.ux.map fun p=>s.fr.getD p.1 .undef) with
  |some (b,g),some (d,h)=>some (b&&d,g++h)
  |_,_=>none
theorem KC{E:Env}:∀{d:List (Nat × Sh)} {vs:List AV} {cs:List Value} {i:Nat} {c:Value},(∀(k:Nat) (p:Nat × Sh) (v:AV),d[k]? = some p→vs[k]? = some v→∀ c,cs[p.1]? = some c→rel E v c)→cs[i]? = some c →
  rel E (ry i d vs) c
 | [],_,_,_,_,_,_=>by simp[ry,rel]
 |_::_,[],_,_,_,_,_=>by simp[ry,rel]
 | (j,sh)::d,v::vs,cs,i,c,h,g=>by
  simp only[ry];split
  ·rename_i e
   have e:=bu e;subst e;exact h 0 (i,sh) v rfl rfl c g
  ·exact KC (fun k p v hk q=>h (k+1) p v (by simpa using hk) (by simpa using q)) g
theorem Wm{m:Nat}{S:mw}{ids:List Nat}{s:ar}{d:List G}(h:CJ m S ids s=some (true,d)):bx m s.den (aR S d).den:=fun E a y=>by
 unfold CJ at h;split at h
 ·cases h
 rename_i q;simp only[az]at q;obtain⟨hlen,B,M⟩:=q;have hlen:=bu hlen;have B:=ru B;split at h
 case h_2=>cases h
 rename_i b g b' u h1 U;simp only[aY,bh,az]at h;obtain⟨⟨rfl,rfl⟩,rfl⟩:=h;have hH:E.H=ao s.H:=y.H;obtain⟨J,W⟩:=KA hH y.heap B h1 u;obtain⟨p0,p1,p2,p3⟩:=uw h1 u (cH S.cI (g++u));have hd:ev (lv S.cI) (g++u)=u:=by rw[←p0]; exact nF g u
 have V:=uv J U [];rw[da]at V;obtain⟨q1,q2,q3,q4⟩:=V;refine⟨ids.map fun i=>E.loc.getD i none,E.X.re (mu E (aR S (g++u)).den.H),⟨rfl,?_,y.defers,W⟩,?_⟩
 ·have hfr : ah E s.fr a.tmps.toList := y.fr
  obtain⟨f1,f2⟩:=l4.1 hfr;refine l4.2 ⟨?_,fun i x c hi q=>?_⟩
  ·simp only [ar.den, aR, dO, List.length_range]
   omega
  ·simp only [ar.den, aR, hd, ch] at hi
   obtain⟨i',I,rfl⟩:=dV.1 hi;have hin:i<S.n:=by
    have:=aK I;simpa using this
   rw[List.getElem?_range hin]at I;cases I;refine KC (cs:=a.tmps.toList) (fun k p v hk hv c q=>?_) q;have hk2:(S.ux.map fun p=>s.fr.getD p.1 .undef)[k]? = some (s.fr.getD p.1 .undef):=by simp[hk]
   have hx:rel E (s.fr.getD p.1 .undef) c:=by
    have N:=aK q;rw[←f1]at N;have e1:s.fr[p.1]? = some (s.fr.getD p.1 .undef):=by
     rw[ct,bL N];rfl
    exact f2 p.1 _ c e1 q
   exact Ku J U hk2 (by rw[da]; exact hv) hx
 ·exact KB hH J ⟨rfl,rfl⟩ (Kx E _ ids) M (fun j hj=>by
   obtain⟨r1,o',r2,_⟩:=ya M j hj;obtain⟨i,o,g1,rest1,t1,t2,t3,t4,t5,t6⟩:=p3 j o' r2;have O:=gz (e:=bM s.H ids) (j:=j) (aK t1);rw[show (bM s.H ids).ids=ids from rfl,t1]at O;cases O;exact⟨o,o',t2,r2,t5⟩) (fun b=>Ky)
/-! ### d array under a slice, cut to g slice -/
def CK(slot:Nat)(s:ar):ar :=
 match s.fr.getD slot .undef with
 | .vec w id af off n=>match s.H[id]? with
  |some (.vec ks v rows)=>if af=v∧off=0∧w=ks.length then ⟨s.fr.set slot (.vec w id (v+1) 0 n),s.H.set id (.vec ks (v+1) (rows.take n))⟩ else s
  |_=>s
 |_=>s
theorem yb{E:Env}{a:AV}:∀{fr:List AV} {cs:List Value} {i:Nat},ah E fr cs→(∀ c,cs[i]? = some c→rel E a c)→ah E (fr.set i a) cs
 | [],cs,i,h,_=>by simpa using h
 |x::fr,[],i,h,_=>by simp[ah]at h
 | x::fr,c::cs,0,h,ha=>by
  simp only[ah]at h;simp only[List.set_cons_zero,ah];exact⟨ha c rfl,h.2⟩
 | x::fr,c::cs,i+1,h,ha=>by
  simp only[ah]at h;simp only[List.set_cons_succ,ah];exact⟨h.1,yb h.2 fun y d=>ha y (by simpa using d)⟩
theorem CL{E:Env}{fr:List AV}{cs:List Value}{i:Nat}{c:Value}(h:ah E fr cs)(g:cs[i]? = some c):rel E (fr.getD i .undef) c:=by
 obtain⟨h1,k⟩:=l4.1 h;have d:=aK g;rw[←h1]at d;have q:fr[i]? = some (fr.getD i .undef):=by
  rw[ct,bL d];rfl
 exact k i _ c q g
theorem Wn{m:Nat}{slot:Nat}{s:ar}:bx m s.den (CK slot s).den:=by
 unfold CK;split
 case h_2=>exact bx.refl _
 rename_i w id af off n hsl;split
 case h_2=>exact bx.refl _
 rename_i ks v rows hid;split
 case isFalse=>exact bx.refl _
 rename_i B;obtain⟨rfl,rfl,rfl⟩:=B;intro E a d;have hH:E.H=ao s.H:=d.H;have y:E.H[id]? = some (.vec ks.length af (rows.map (aJ ks))):=by rw[hH]; exact bl hid
 have ho:=d.heap.obj id _ y;obtain⟨l,I⟩:∃ l,E.loc[id]? = some l:=by
  have:id<E.loc.length:=by rw[d.heap.len]; exact aK y
  exact⟨_,bL this⟩
 have N:E.loc.set id l=E.loc:=ll I;have M:ao (s.H.set id (.vec ks (af+1) (rows.take n)))=E.H.set id (.vec ks.length (af+1) ((rows.take n).map (aJ ks))):=by rw[dh,hH]; rfl
 have hlc:∀ b n,l=some (b,n)→E.w.heap.size≤b∨∃ m,E.loc[id]? = some (some (b,m)):=fun b n hb=>.inr ⟨n,by rw[I,hb]⟩;have O:∀ v u,(ab.vec ks.length (af+1) ((rows.take n).map (aJ ks))).aG = some v→(ab.vec ks.length af (rows.map (aJ ks))).aG = some u→u≤v:=by
  intro v u h1 k;simp[ab.aG]at h1 k;omega
 have U:∀ v,(ab.vec ks.length (af+1) ((rows.take n).map (aJ ks))).aG = some v→∀ u,(ab.vec ks.length af (rows.map (aJ ks))).aG = some u→u<v:=by
  intro v h1 u k;simp[ab.aG]at h1 k;omega
 have hle:=Env.jg (o':=.vec ks.length (af+1) ((rows.take n).map (aJ ks))) (l:=l) (w':=E.w) y d.heap.len (aD _) (fun _ _ _=>rfl) hlc (.inr U) O (fun _ h=>by simp[ab.aG]at h);have V:=au.kr (o':=.vec ks.length (af+1) ((rows.take n).map (aJ ks))) (l:=l) (w':=E.w) d.heap y (aD _) (fun _ _ _=>rfl) (fun b n hb=>.inr ⟨n,by rw[I,hb]⟩) (.inr U) O (fun _ h=>by simp[ab.aG]at h) (by
  rw[N]at hle⊢;simp only[aO]at ho⊢;rcases ho with⟨h1,k⟩|⟨b,mm,h1,k,J,h4,W⟩
  ·left
   refine⟨h1,?_⟩;have:rows=[]:=by simpa using k
   rw[this];simp
  ·right
   refine⟨b,mm,h1,k,by simp at J⊢; omega,?_,?_⟩
   ·intro r q
    obtain⟨g,_,rfl⟩:=dp.1 q;exact fI ks g
   ·rw [lb] at W ⊢
    intro i r hi;simp only[ch,lP]at hi;split at hi
    ·obtain ⟨g1, g2⟩ := W i r (by simpa using hi)
     exact⟨g1,tb (fun a c q=>bT hle a q) rfl g2⟩
    ·simp at hi)
 rw[N]at hle V;refine⟨E.loc,E.X,?_,?_⟩
 ·simp only [ar.den]
  rw[M];refine⟨rfl,?_,d.defers,V⟩;refine yb (dB hle _ d.fr) fun c B=>?_;have q:=CL d.fr B;rw[show s.den.fr=s.fr from rfl,hsl]at q;simp only[rel]at q⊢;obtain⟨h1,k,J⟩:=q;exact⟨h1,⟨.vec ks.length (af+1) ((rows.take n).map (aJ ks)),bC (aK y),rfl,fun v hv=>by simp[ab.aG]at hv; omega⟩,fun _=>J ⟨_,y,rfl⟩⟩
 ·simp only [ar.den]
  rw[M];exact hle.toM
end Go.AL

namespace Go.AL
open Go
variable [Dr]
def Tree.leaf{β:Type}(f:bV→ar→Option (Bool × β)):Tree→Option β
 |.fail=>none
 | .done x s=>match f x s with
  |some (b,r)=>bif b then some r else none
  |none=>none
 |.ask b t e=>bif b then t.leaf f else e.leaf f
 |.side b t=>bif b then t.leaf f else none
theorem nG{β:Type}{f:bV→ar→Option (Bool × β)}:∀{t:Tree} {r:β},t.leaf f=some r→t.holds fun x s=>f x s=some (true,r)
 |.fail,_,h=>by cases h
 | .done x s,r,h=>by
  simp only[Tree.leaf]at h;split at h
  ·rename_i b r' d
   cases b with
   |true=>cases h; exact d
   |false=>cases h
  ·cases h
 | .ask b t e,r,h=>by
  cases b with
  |true=>exact⟨fun _=>nG (t:=t) h,fun h=>by cases h⟩
  |false=>exact⟨fun h=>(nomatch h),fun _=>nG (t:=e) h⟩
 | .side b t,r,h=>by
  cases b with
  |true=>exact And.intro rfl (nG (t:=t) h)
  |false=>cases h
inductive jt where
 |fix (i:Nat)
 |slot (i:Nat)
 |cap (i c:Nat)
 |cell (j c:Nat)
 |CM (j c k:Nat)
def yc:AV→Option Nat
 |.ptr id _ _ _ _=>some id
 |.vec _ id _ _ _=>some id
 |.map id=>some id
 |_=>none
def yd(H:List aj)(vals:Nat→AV)(acc:List Nat):jt→Option Nat
 |.fix i=>some i
 |.slot i=>yc (vals i)
 | .cap i c=>match vals i with
  |.clo _ cs=>yc (cs.getD c .undef)
  |_=>none
 | .cell j c=>match H[acc.getD j 0]? with
  |some (.raw (.box cells))=>yc (cells.getD c .undef)
  |_=>none
 | .CM j c k=>match H[acc.getD j 0]? with
  | some (.raw (.box cells))=>match cells.getD c .undef with
   |.clo _ cs=>yc (cs.getD k .undef)
   |_=>none
  |_=>none
def iS(H:List aj)(vals:Nat→AV):List jt→List Nat→Option (List Nat)
 | [],acc=>some acc
 | p::ps,acc=>match yd H vals acc p with
  |some i=>iS H vals ps (acc++[i])
  |none=>none
/-! ### d -/
structure rz where
 x:bV
 S:mw
 ps:List jt
structure be where
 key:Nat
 opens:List (Nat × List Kd)
 inv:mw
 ps:List jt
 outs:List rz
 st:List G→Option (Option Nat × List G)
def pk(st:List G→Option (Option Nat × List G)):Nat→List G→Option (Nat × List G)
 |0,_=>none
 | n+1,d=>match st d with
  |some (none,d')=>pk st n d'
  |some (some x,d')=>some (x,d')
  |none=>none
def bG(st:List G→Option (Option Nat × List G))(d:List G):Option (Nat × List G):=pk st 1000000 d
def CN(r:Option (Nat × List G)):Nat:=match r with
 |some (x,_)=>x
 |none=>0
def CO(r:Option (Nat × List G)):List G:=match r with
 |some (_,d)=>d
 |none=>[]
def ia(m:Nat)(S:mw)(ps:List jt)(s:ar):Option (Bool × List G) :=
 match iS s.H (fun i=>s.fr.getD i .undef) ps []with
 |some ids=>CJ m S ids s
 |none=>none
theorem lx{m:Nat}{S:mw}{ps:List jt}{s:ar}{d:List G}(h:ia m S ps s=some (true,d)):bx m s.den (aR S d).den:=by
 unfold ia at h;split at h
 ·exact Wm h
 ·cases h
def gB:List (Nat × List Kd)→ar→ar
 | [],s=>s
 | (i,ks)::r,s=>match dA 1000000 i with
  |true=>gB r (CK (i-1000000) s)
  | false=>match isNil (s.fr.getD i .undef) with
   |true=>gB r (uo i ks s)
   |false=>gB r s
theorem ly{m:Nat}:∀(l:List (Nat × List Kd)) (s:ar),bx m s.den (gB l s).den
 | [],s=>bx.refl _
 | (i,ks)::r,s=>by
  simp only[gB];split
  ·exact Wn.trans (ly r _)
  ·split
   ·rename_i h
    exact(Kb h).trans (ly r _)
   ·exact ly r s
def pn(m:Nat):List rz→Nat→bV→ar→Option (Bool × (Option Nat × List G))
 | [],_,_,_=>none
 | o::os,i,x,s=>match decide (x=o.x) with
  | true=>match ia m o.S o.ps s with
   |some (b,d)=>some (b,(some i,d))
   |none=>none
  |false=>pn m os (i+1) x s
def ye(m:Nat)(sp:be)(x:bV)(s:ar):Option (Bool × (Option Nat × List G)) :=
 match x with
 | .normal=>match ia m sp.inv sp.ps s with
  |some (b,d)=>some (b,(none,d))
  |none=>none
 |x=>pn m sp.outs 0 x (gB sp.opens s)
theorem yf{m:Nat}:∀{os:List rz} {i:Nat} {x:bV} {s:ar} {b:Bool} {k:Option Nat} {d:List G},pn m os i x s=some (b,(k,d)) →
  ∃ j o,os[j]? = some o∧k=some (i+j)∧x=o.x∧ia m o.S o.ps s=some (b,d)
 | [],_,_,_,_,_,_,h=>by cases h
 | o::os,i,x,s,b,k,d,h=>by
  simp only[pn]at h;split at h
  ·rename_i g
   split at h
   ·rename_i B d' q
    cases h;exact⟨0,o,rfl,rfl,of_decide_eq_true g,q⟩
   ·cases h
  ·obtain ⟨j, o', h1, u, v, y⟩ := yf h
   exact⟨j+1,o',by simpa using h1,by rw[u]; congr 1; omega,v,y⟩
section loops
variable {P:Program} {τ:ak} {L:LT} {m:Nat} {c:Code} {sp:be}
def b_(P:Program)(τ:ak)(L:LT)(m:Nat)(c:Code)(sp:be):Prop:=∀ d,(en P τ L c (aR sp.inv d) .done).leaf (ye m sp)=sp.st d
theorem KD(hm:P.follows .mixedOrders=true)(q:al P τ)(u:ax P m L c)(v:b_ P τ L m c sp){d d':List G}{k:Option Nat}(h:sp.st d=some (k,d')) :
  (k = none ∧ c5 P m c (aR sp.inv d).den .normal (aR sp.inv d').den) ∨
   ∃ j o,k=some j∧sp.outs[j]? = some o∧o.x≠.normal∧c5 P m c (aR sp.inv d).den o.x (aR o.S d').den:=by
 rw[←v d]at h;obtain⟨x,s1,h1,g⟩:=gM hm q c (aR sp.inv d) .done u (Q:=fun x s=>ye m sp x s=some (true,(k,d'))) (nG h);have g:ye m sp x s1=some (true,(k,d')):=g;unfold ye at g;split at g
 ·split at g
  ·rename_i b d2 y
   cases g;exact .inl ⟨rfl,qJ h1 (lx y)⟩
  ·cases g
 ·rename_i B
  obtain⟨j,o,g1,g2,rfl,g4⟩:=yf g;exact .inr ⟨j,o,by simpa using g2,g1,fun e=>B e,qJ h1 ((ly sp.opens s1).trans (lx g4))⟩
theorem KE(hm:P.follows .mixedOrders=true)(g:al P τ)(k:ax P m L c)(q:b_ P τ L m c sp):∀(n:Nat) {d d':List G} {x:Nat},pk sp.st n d=some (x,d') →
  ∃ o,sp.outs[x]? = some o∧jM P m c (aR sp.inv d).den o.x (aR o.S d').den
 |0,_,_,_,h=>by cases h
 | n+1,d,d',x,h=>by
  simp only[pk]at h;split at h
  ·rename_i d1 h1
   rcases KD hm g k q h1 with⟨_,u⟩|⟨_,_,hk,_⟩
   ·obtain ⟨o, g1, g2⟩ := KE hm g k q n h
    exact⟨o,g1,.next u g2⟩
   ·cases hk
  ·rename_i v d1 h1
   cases h;rcases KD hm g k q h1 with⟨hk,_⟩|⟨j,o,hk,g1,g2,g3⟩
   ·cases hk
   ·cases hk
    exact⟨o,g1,.stop g3 g2⟩
  ·cases h
def uy(r:Option (Nat × List G)):List rz→Nat→Tree
 | [],_=>.fail
 | [o],_=>.done o.x (aR o.S (CO r))
 |o::os,i=>.ask (ad (CN r) i) (.done o.x (aR o.S (CO r))) (uy r os (i+1))
theorem yg{x:Nat}{d:List G}{Q:bV→ar→Prop}:∀{os:List rz} {i j:Nat} {o:rz},os[j]? = some o→x=i+j→(uy (some (x,d)) os i).holds Q→Q o.x (aR o.S d)
 | [],_,_,_,h,_,_=>by simp at h
 | [o],i,j,o',h,k,g=>by
  cases j with
  | zero =>
   simp at h;subst h;exact g
  |succ j=>simp at h
 | o::o2::os,i,j,o',h,k,g=>by
  simp only[uy,Tree.holds]at g;cases j with
  | zero =>
   simp at h;subst h;exact g.1 (by simp only[CN]; rw[k]; simp)
  | succ j =>
   refine yg (os:=o2::os) (i:=i+1) (j:=j) (by simpa using h) (by omega) (g.2 ?_);have:x≠i:=by omega
   exact ah3.2 fun e=>this (bu e)
def CP(m:Nat)(sp:be)(s:ar):Option Tree :=
 match ia m sp.inv sp.ps (gB sp.opens s)with
 |some (b,d)=>some (.side (rq b (bG sp.st d).isSome) (uy (bG sp.st d) sp.outs 0))
 |none=>none
theorem Wo(hm:P.follows .mixedOrders=true)(u:al P τ)(v:ax P m L c)(y:b_ P τ L m c sp){s:ar}{t:Tree}(h:CP m sp s=some t):JR P m c s t:=by
 unfold CP at h;split at h
 case h_2=>cases h
 rename_i b d B;cases h;intro Q k;simp only[Tree.holds,rr,az]at k;obtain⟨⟨rfl,h1⟩,q⟩:=k;cases g:bG sp.st d with
 |none=>rw[g]at h1; cases h1
 | some r =>
  obtain⟨x,d'⟩:=r;obtain⟨o,g1,g2⟩:=KE hm u v y 1000000 g;exact⟨o.x,_,g2.pre ((ly sp.opens s).trans (lx B)),yg g1 (cT x).symm (by rw[g]at q; exact q)⟩
def LT.add(L:LT)(m:Nat)(sp:be):LT:=⟨fun k s=>match ad k sp.key with
 |true=>CP m sp s
 |false=>L.loops k s,L.pre,L.uj⟩
theorem nH:∀{c:Code} {k:Nat} {g:Code},(k,g)∈bO c→∀ p,p∈bO g→p∈bO c
 | .seq a b,k,g,h,p,d=>by
  simp only[bO,cU]at h⊢;rcases h with h|h
  ·exact .inl (nH h p d)
  ·exact .inr (nH h p d)
 | .cond _ a b,k,g,h,p,d=>by
  simp only[bO,cU]at h⊢;rcases h with h|h
  ·exact .inl (nH h p d)
  ·exact .inr (nH h p d)
 | .block _ c,k,g,h,p,d=>by
  simp only[bO]at h⊢;exact nH h p d
 | .loop c,k,g,h,p,d=>by
  simp only[bO]at h⊢;split at h
  ·rename_i i hi
   rcases bY.1 h with e|h
   ·cases e
    exact di _ d
   ·exact di _ (nH h p d)
  ·exact nH h p d
 |.skip,_,_,h,_,_=>by simp[bO]at h
 |.region ..,_,_,h,_,_=>by simp[bO]at h
 |.exit _,_,_,h,_,_=>by simp[bO]at h
 |.ret,_,_,h,_,_=>by simp[bO]at h
 |.rangeFunc ..,_,_,h,_,_=>by simp[bO]at h
 |.scope _,_,_,h,_,_=>by simp[bO]at h
 |.label _,_,_,h,_,_=>by simp[bO]at h
 |.goto _,_,_,h,_,_=>by simp[bO]at h
 |.refuse _,_,_,h,_,_=>by simp[bO]at h
theorem nI:∀{c:Code} {k:Nat} {g:Code},(k,g)∈bO c→∀ p,p∈bJ g→p∈bJ c
 | .seq a b,k,g,h,p,d=>by
  simp only[bO,bJ,cU]at h⊢;rcases h with h|h
  ·exact .inl (nI h p d)
  ·exact .inr (.inr (nI h p d))
 | .cond _ a b,k,g,h,p,d=>by
  simp only[bO,bJ,cU]at h⊢;rcases h with h|h
  ·exact .inl (nI h p d)
  ·exact .inr (nI h p d)
 | .block _ c,k,g,h,p,d=>by
  simp only[bO,bJ]at h⊢;exact nI h p d
 | .loop c,k,g,h,p,d=>by
  simp only[bO,bJ]at h⊢;split at h
  ·rename_i i hi
   rcases bY.1 h with e|h
   ·cases e
    exact d
   ·exact nI h p d
  ·exact nI h p d
 |.skip,_,_,h,_,_=>by simp[bO]at h
 |.region ..,_,_,h,_,_=>by simp[bO]at h
 |.exit _,_,_,h,_,_=>by simp[bO]at h
 |.ret,_,_,h,_,_=>by simp[bO]at h
 |.rangeFunc ..,_,_,h,_,_=>by simp[bO]at h
 |.scope _,_,_,h,_,_=>by simp[bO]at h
 |.label _,_,_,h,_,_=>by simp[bO]at h
 |.goto _,_,_,h,_,_=>by simp[bO]at h
 |.refuse _,_,_,h,_,_=>by simp[bO]at h
theorem nJ:∀{c:Code} {k:Nat} {g:Code},(k,g)∈bJ c→∀ p,p∈bO g→p∈bO c
 | .seq a b,k,g,h,p,d=>by
  simp only[bO,bJ,cU]at h⊢;rcases h with h|h|h
  ·exact .inl (nJ h p d)
  ·right
   split at h
   ·rcases bY.1 h with e | h
    ·cases e
     exact d
    ·cases h
   ·cases h
  ·exact .inr (nJ h p d)
 | .cond _ a b,k,g,h,p,d=>by
  simp only[bO,bJ,cU]at h⊢;rcases h with h|h
  ·exact .inl (nJ h p d)
  ·exact .inr (nJ h p d)
 | .block _ c,k,g,h,p,d=>by
  simp only[bO,bJ]at h⊢;exact nJ h p d
 | .loop c,k,g,h,p,d=>by
  simp only[bJ]at h;have:=nJ h p d;simp only[bO];split
  ·exact di _ this
  ·exact this
 |.skip,_,_,h,_,_=>by simp[bJ]at h
 |.region ..,_,_,h,_,_=>by simp[bJ]at h
 |.exit _,_,_,h,_,_=>by simp[bJ]at h
 |.ret,_,_,h,_,_=>by simp[bJ]at h
 |.rangeFunc ..,_,_,h,_,_=>by simp[bJ]at h
 |.scope _,_,_,h,_,_=>by simp[bJ]at h
 |.label _,_,_,h,_,_=>by simp[bJ]at h
 |.goto _,_,_,h,_,_=>by simp[bJ]at h
 |.refuse _,_,_,h,_,_=>by simp[bJ]at h
theorem nK:∀{c:Code} {k:Nat} {g:Code},(k,g)∈bJ c→∀ p,p∈bJ g→p∈bJ c
 | .seq a b,k,g,h,p,d=>by
  simp only[bJ,cU]at h⊢;rcases h with h|h|h
  ·exact .inl (nK h p d)
  ·right
   right;split at h
   ·rcases bY.1 h with e | h
    ·cases e
     exact d
    ·cases h
   ·cases h
  ·exact .inr (.inr (nK h p d))
 | .cond _ a b,k,g,h,p,d=>by
  simp only[bJ,cU]at h⊢;rcases h with h|h
  ·exact .inl (nK h p d)
  ·exact .inr (nK h p d)
 | .block _ c,k,g,h,p,d=>by
  simp only[bJ]at h⊢;exact nK h p d
 | .loop c,k,g,h,p,d=>by
  simp only[bJ]at h⊢;exact nK h p d
 |.skip,_,_,h,_,_=>by simp[bJ]at h
 |.region ..,_,_,h,_,_=>by simp[bJ]at h
 |.exit _,_,_,h,_,_=>by simp[bJ]at h
 |.ret,_,_,h,_,_=>by simp[bJ]at h
 |.rangeFunc ..,_,_,h,_,_=>by simp[bJ]at h
 |.scope _,_,_,h,_,_=>by simp[bJ]at h
 |.label _,_,_,h,_,_=>by simp[bJ]at h
 |.goto _,_,_,h,_,_=>by simp[bJ]at h
 |.refuse _,_,_,h,_,_=>by simp[bJ]at h
def aQ(fn:Func):Code:=match fn.body with
 |some c=>c
 |none=>.skip
theorem Wp{fn:Func} (g:nodupB ((bO (aQ fn)).map (·.1))=true) {k:Nat} {d:Code} (h:(k,d)∈bO (aQ fn)):d=cf fn k:=by
 have key:∀(l:List (Nat × Code)),(l.map (·.1)).Nodup→(k,d)∈l→l.find? (fun p=>ad p.1 k)=some (k,d):=by
  intro l
  induction l with
  |nil=>intro _ h; cases h
  | cons p l v =>
   intro q hm;simp only[dx,lW]at q;rcases bY.1 hm with rfl|hm
   ·simp
   ·have u:p.1≠k:=by
     intro e;exact q.1 (dp.2 ⟨(k,d),hm,e.symm⟩)
    have:ad p.1 k=false:=ah3.2 fun e=>u (bu e);rw[ah4 (by simp[this])];exact v q.2 hm
 unfold cf;unfold aQ at g h;split
 ·rename_i c hb
  rw[hb]at g h;simp only[]at g h;rw[key _ (ru g) h]
 ·rename_i hb
  rw[hb]at h;simp[bO]at h
theorem ax.add(hm:P.follows .mixedOrders=true)(q:al P τ){fn:Func} (u:nodupB ((bO (aQ fn)).map (·.1))=true) (g:ax P m L (aQ fn)) (h:b_ P τ L m (cf fn sp.key) sp) :
  ax P m (L.add m sp) (aQ fn):=by
 refine⟨fun k v hk s t d=>?_,g.2⟩;simp only[LT.add]at d;split at d
 ·rename_i e
  have e:=bu e;subst e;have y:=Wp u hk;rw[←y]at h;exact Wo hm q (g.sub (nH hk) (nI hk)) h d
 ·exact g.1 k v hk s t d
/-! ### Code behind other code -/
def cutAt(fn:Func)(k:Nat):Code:=match fn.body with
 | some c=>match (bJ c).find? fun p=>ad p.1 k with
  |some (_,b)=>b
  |none=>.skip
 |none=>.skip
def kL(k:Nat):List (Nat × Code)→Bool
 | []=>true
 | p::l=>match ad p.1 k with
  |true => !l.any (fun q=>ad q.1 k)
  |false=>kL k l
theorem KF{k:Nat}{g:Code}:∀{l:List (Nat × Code)},kL k l=true→(k,g)∈l→l.find? (fun p=>ad p.1 k)=some (k,g)
 | [],_,h=>by cases h
 | p::l,ho,hm=>by
  simp only[kL]at ho;cases d:ad p.1 k with
  | true =>
   rw[d]at ho;simp only[mQ]at ho;rcases bY.1 hm with rfl|hm
   ·rw[List.find?_cons_of_pos (by simp)]
   ·have : l.any (fun q => ad q.1 k) = true := jF.2 ⟨(k, g), hm, by simp⟩
    rw[this]at ho;cases ho
  | false =>
   rw[d]at ho;rcases bY.1 hm with rfl|hm
   ·simp at d
   ·rw [ah4 (by simp [d])]
    exact KF ho hm
theorem CQ{fn:Func}{k:Nat}{g:Code} (d:kL k (bJ (aQ fn))=true) (h:(k,g)∈bJ (aQ fn)):g=cutAt fn k:=by
 unfold cutAt;unfold aQ at d h;split
 ·rename_i c hb
  rw[hb]at d h;simp only[]at d h;rw[KF d h]
 ·rename_i hb
  rw[hb]at h;simp[bJ]at h
def bW(r:Option (Option Nat × List G)):Option (Nat × List G):=match r with
 |some (some x,d)=>some (x,d)
 |_=>none
def uz(m:Nat)(sp:be)(s:ar):Option Tree :=
 match ia m sp.inv sp.ps (gB sp.opens s)with
 |some (b,d)=>some (.side (rq b (bW (sp.st d)).isSome) (uy (bW (sp.st d)) sp.outs 0))
 |none=>none
def fo(P:Program)(τ:ak)(L:LT)(m:Nat)(c:Code)(sp:be):Prop:=∀ d,(en P τ L c (aR sp.inv d) .done).leaf (pn m sp.outs 0)=sp.st d
theorem Wq(hm:P.follows .mixedOrders=true)(B:al P τ)(I:ax P m L c)(q:fo P τ L m c sp){s:ar}{t:Tree}(h:uz m sp s=some t):xN P m c s t:=by
 unfold uz at h;split at h
 case h_2=>cases h
 rename_i b d J;cases h;intro Q u;simp only[Tree.holds,rr,az]at u;obtain⟨⟨rfl,h1⟩,v⟩:=u;cases g:sp.st d with
 |none=>rw[g]at h1; cases h1
 | some r =>
  obtain⟨k,d'⟩:=r;cases k with
  |none=>rw[g]at h1; cases h1
  | some i =>
   rw[←q d]at g;obtain⟨x,s1,g1,g2⟩:=gM hm B c (aR sp.inv d) .done I (Q:=fun x s=>pn m sp.outs 0 x s=some (true,(some i,d'))) (nG g);obtain⟨j,o,M,y,N,O⟩:=yf g2;simp only[aY,cT]at y;subst y;rw[q d]at g;rw[g]at v;refine⟨o.x,(aR o.S d'),?_,yg M (cT i).symm v⟩;rw[←N];exact qI ((ly sp.opens s).trans (lx J)) (qJ g1 (lx O))
def LT.dZ(L:LT)(m:Nat)(sp:be):LT:=⟨L.loops,L.pre,fun k s=>match ad k sp.key with
 |true=>uz m sp s
 |false=>L.uj k s⟩
theorem ax.dZ(hm:P.follows .mixedOrders=true)(q:al P τ){fn:Func} (u:kL sp.key (bJ (aQ fn))=true) (g:ax P m L (aQ fn)) (h:fo P τ L m (cutAt fn sp.key) sp) :
  ax P m (L.dZ m sp) (aQ fn):=by
 refine⟨g.1,g.2.1,fun k v hk s t d=>?_⟩;simp only[LT.dZ]at d;split at d
 ·rename_i e
  have e:=bu e;subst e;have y:=CQ u hk;rw[←y]at h;exact Wq hm q (g.sub (nJ hk) (nK hk)) h d
 ·exact g.2.2 k v hk s t d
end loops
/-! ### d -/
structure aH where
 f:FuncId
 args:List Sh
 cI:List cr
 ps:List jt
 res:List Sh
 fx:List cr
 Wr:List jt
 opens:List (Nat × List Kd)
 F:List G→Option (List G)
def aH.args0(sp:aH)(d:List G):List AV:=fl (cH sp.cI d) sp.args (ev (lv sp.cI) d)
def aH.H0(sp:aH)(d:List G):List aj:=cO (cH sp.cI d) sp.cI d
def aH.out(sp:aH)(r:List G):AV:=df (fl (cH sp.fx r) sp.res (ev (lv sp.fx) r))
def aH.H1(sp:aH)(r:List G):List aj:=cO (cH sp.fx r) sp.fx r
def uA(P:Program)(rs:List ResultVar)(sp:aH)(x:bV)(s:ar):Option (Bool × List G) :=
 match x with
 |.exit _=>none
 | _=>(fun s=>match gX P s.den rs with
  |none=>none
  | some vs=>match iS s.H (fun i=>vs.getD i .undef) sp.Wr [] with
   |none=>none
   | some ids=>match nodupB ids&&mv s.H 0 sp.cI.length ids sp.fx with
    |false=>none
    | true=>match iR s.H (bM s.H ids) (h_ ids) sp.fx ids,ew s.H (bM s.H ids) (h_ ids) sp.res vs with
     |some (b,g),some (d,h)=>some (b&&d,g++h)
     |_,_=>none) (gB sp.opens s)
def aX(P:Program)(τ:ak)(L:LT)(fn:Func)(sp:aH):Prop :=
 ∀ d,(en P τ L (aQ fn) ⟨iM (sp.args0 d) fn.ntmps,sp.H0 d⟩ .done).leaf (uA P fn.results.toList sp)=sp.F d
def po(os:List cr):Bool:=os.all fun o=>ad o.up 0
theorem KG:∀{os:List cr} (lens:c9) (d:List G),po os=true→xq (ao (cO lens os d))
 | [],_,_,_=>by intro o ho; simp[cO,ao]at ho
 | o::os,lens,d,h=>by
  simp only[po,lU,az]at h;intro x g;simp only[cO,ao,dx,bY]at g;rcases g with rfl|g
  ·cases o with
   | vec ks u =>
    have:u=0:=bu h.1;subst this;rfl
   |box _=>rfl
   |map _ _=>rfl
   |eF _ _ _=>rfl
   |aI _ _ _=>rfl
   |mm _ _ _ _=>rfl
  ·exact KG lens _ h.2 x g
theorem CR(lens:c9):∀(os:List cr) (d:List G),(cO lens os d).length=os.length
 | [],_=>rfl
 |_::os,d=>by simp[cO,CR lens os]
theorem Ws{P:Program}{sp:aH}{fn:Func}(hf:P.funcs[sp.f]? = some fn)(hb:fn.body.isSome=true)
  (hfr:po sp.cI=true) {d r:List G} {x:bV} {B:ar} (h1:c5 P sp.cI.length (aQ fn) (ar.den ⟨iM (sp.args0 d) fn.ntmps,sp.H0 d⟩) x B.den) (k:uA P fn.results.toList sp x B=some (true,r)) :
  dC P sp.f (sp.args0 d) (ao (sp.H0 d)) (sp.out r) (ao (sp.H1 r)):=by
 have hbody:fn.body=some (aQ fn):=by
  unfold aQ;cases I:fn.body with
  |none=>rw[I]at hb; cases hb
  |some c=>rfl
 have h1:=qJ h1 (ly sp.opens B);generalize hs':gB sp.opens B=s' at h1;have hxx:(x=.normal∨x=.ret)∧∃ vs ids g q,gX P s'.den fn.results.toList=some vs∧(nodupB ids&&mv s'.H 0 sp.cI.length ids sp.fx)=true ∧
   iR s'.H (bM s'.H ids) (h_ ids) sp.fx ids=some (true,g)∧ew s'.H (bM s'.H ids) (h_ ids) sp.res vs=some (true,q)∧g++q=r:=by
  have k:uA P fn.results.toList sp x B=some (true,r):=k;unfold uA at k;split at k
  ·cases k
  ·rename_i I
   simp only[hs']at k;refine⟨by cases x with|normal=>exact .inl rfl|ret=>exact .inr rfl|exit i=>exact(I i rfl).elim,?_⟩;split at k
   ·cases k
   ·rename_i vs U
    split at k
    ·cases k
    ·rename_i ids hids
     split at k
     ·cases k
     ·rename_i v
      split at k
      ·rename_i b g b' q M q2
       simp only[aY,bh,az]at k;obtain⟨⟨rfl,rfl⟩,rfl⟩:=k;exact⟨vs,ids,g,q,U,v,M,q2,rfl⟩
      ·cases k
 obtain⟨I,vs,ids,g,q,U,v,M,q2,rfl⟩:=hxx;simp only[az]at v;intro E cargs hH HE hargs;refine BQ hf hbody ?_;have hfe:=qK HE;have hargs0:=ml hfe _ hargs;have hrel:bQ ⟨iM (sp.args0 d) fn.ntmps,ao (sp.H0 d)⟩ { E with X:=⟨E.X.x,fun _=>False,E.X.r⟩ } { tmps:=cargs++Array.replicate (fn.ntmps-cargs.size) undef,defers:=[] }:=by
  refine⟨hH,?_,oH _ _,HE.cG hfe⟩;simp only[iM,Array.toList_append,Array.toList_replicate];refine jJ hargs0 ?_;have:=fV hargs;have e:(sp.args0 d).length=cargs.size:=by simpa using this
  rw[e];have:=tG (E:={ E with X:=⟨E.X.x,fun _=>False,E.X.r⟩ }) (List.replicate (fn.ntmps-cargs.size) undef);simpa using this
 refine wpIn_mono (h1 none (BN _) { E with X:=⟨E.X.x,fun _=>False,E.X.r⟩ } _ hrel) fun e a1 w0 ⟨h3,loc',X',y,N⟩=>?_;refine⟨by subst h3; rcases I with rfl|rfl; exact .inl rfl; exact .inr rfl,X',y.defers,fun O k1 k2 k3=>?_⟩;obtain⟨y,N⟩:=BR HE y N k1 k2 k3;obtain⟨us,g1,g2⟩:=xv y fn.results.toList vs U;have hres:(results fn a1.tmps).run P O=.ok (if h:us.toArray.size=1 then us.toArray[0] else .tuple us.toArray) O:=by
  rw[xw];simp only[Sem.run_bind];rw[Array.mapM_eq_mapM_toList,Sem.run_map,g1];rfl
 generalize J:({ w:=O,H:=s'.den.H,loc:=loc',X:=E.X.re X'.r }:Env)=u at y N g1 g2;have hH1:u.H=ao s'.H:=by rw[←J]; rfl
 obtain⟨hK,hHR⟩:=KA hH1 y.heap (ru v.1) M q;obtain⟨p0,p1,p2,p3⟩:=uw M q (cH sp.fx (g++q));have hd:ev (lv sp.fx) (g++q)=q:=by rw[←p0]; exact nF g q
 have hS:=uv hK q2 [];rw[da]at hS;have hrl:=hS.2.2.2 us g2;have hleM:=KB (m:=sp.cI.length) hH1 hK ⟨rfl,rfl⟩ (Kx u _ ids) v.2 (fun j hj=>by
  obtain⟨r1,o',r2,_⟩:=ya v.2 j hj;obtain⟨i,o,g1,rest1,t1,t2,t3,t4,t5,t6⟩:=p3 j o' r2;have hat:=gz (e:=bM s'.H ids) (j:=j) (aK t1);rw[show (bM s'.H ids).ids=ids from rfl,t1]at hat;cases hat;exact⟨o,o',t2,r2,t5⟩) (fun b=>Ky)
 have hle:E.le (hZ u (ao (cO (cH sp.fx (g++q)) sp.fx (g++q))) ids) :=
  (N.trans hleM).full (by rw[←J]; exact⟨rfl,rfl⟩) (by rw[hH,eD]; simp only[aH.H0,CR]; exact aD _) (by rw[hH]; exact KG _ _ hfr)
 have V:u.w=O:=by rw[←J]
 have W:∀ r,u.X.re r=E.X.re r:=fun r=>by rw[←J]; rfl
 refine⟨_,hres,_,_,_,rfl,⟨rfl,rfl⟩,ids.map (fun i=>u.loc.getD i none),mu u (ao (cO (cH sp.fx (g++q)) sp.fx (g++q))),?_,?_,?_⟩
 ·have := J_ hrl
  simp only[aH.out,aH.H1,hd];simpa only[hZ,V,W]using this
 ·simpa only[hZ,V,W,aH.H1]using hHR
 ·simpa only[hZ,V,W,aH.H1]using hle
theorem Wt{P:Program}{τ:ak}{L:LT}(hm:P.follows .mixedOrders=true)(k:al P τ){sp:aH}{fn:Func}(q:P.funcs[sp.f]? = some fn)(hb:fn.body.isSome=true)
  (u:ax P sp.cI.length L (aQ fn)) (v:aX P τ L fn sp) (g:po sp.cI=true) {d r:List G} (h:sp.F d=some r) :
  dC P sp.f (sp.args0 d) (ao (sp.H0 d)) (sp.out r) (ao (sp.H1 r)):=by
 rw[←v d]at h;obtain⟨x,B,h1,y⟩:=gM hm k (aQ fn) _ .done u (Q:=fun x s=>uA P fn.results.toList sp x s=some (true,r)) (nG h);exact Ws q hb g h1 y
abbrev aV(P:Program)(sp:aH):Prop:=∀ d r,sp.F d=some r→dC P sp.f (sp.args0 d) (ao (sp.H0 d)) (sp.out r) (ao (sp.H1 r))
theorem pq{P:Program}{τ:ak}{L:LT}(hm:P.follows .mixedOrders=true)(g:al P τ){sp:aH}{fn:Func}(k:P.funcs[sp.f]? = some fn)(hb:fn.body.isSome=true)
  (q:ax P sp.cI.length L (aQ fn)) (u:aX P τ L fn sp) (d:po sp.cI=true):aV P sp:=fun _ _ h=>Wt hm g k hb q u d h
/-! ### Tables -/
def uB:eJ→Bool
 |.int _ | .str | .bool | .list _ | .rh _ | .row _ | .cptr _ | .nil | .any | .Ko _ | .fn _ | .addr | .CD=>true
 |_=>false
def yh:Sh→Bool
 |.s a=>uB a
 |.clo _ caps=>caps.all uB
theorem KH{lens:c9}{a:eJ}{d:List G}(h:uB a=true):(eL lens a d).closed=true:=by
 cases a<;>simp only[uB]at h<;>first
  |(cases h; done)
  |rfl
  |(simp only[eL,AV.closed,fI]; done)
theorem KJ{lens:c9}:∀{as:List eJ} {d:List G},(as.all uB)=true→AV.bq (iB lens as d)=true
 | [],_,_=>rfl
 | a::as,d,h=>by
  simp only[lU,az]at h;simp only[iB,AV.bq,KH h.1,KJ h.2,sZ]
theorem yk{lens:c9}:∀{as:List Sh} {d:List G},(as.all yh)=true→AV.bq (fl lens as d)=true
 | [],_,_=>rfl
 | a::as,d,h=>by
  simp only[lU,az]at h;simp only[fl,AV.bq,yk h.2,fT];cases a with
  |s a=>exact KH h.1
  |clo f caps=>simp only[pj,AV.closed]; exact KJ h.1
theorem Wu{vs:List AV}(h:AV.bq vs=true):(df vs).closed=true:=by
 cases vs with
 |nil=>rfl
 | cons v vs =>
  cases vs with
  |nil=>simpa[df,AV.bq]using h
  |cons v2 vs=>simpa only[df,AV.closed]using h
def ib(E:Env):Env:={ w:=E.w,H:=[],loc:=[],X:=(E.X.or E.own).re dJ }
theorem Wv{E:Env}(x:Nat):¬ (ib E).own x:=by rintro(⟨id,c,hid⟩|⟨l,k,c,hk⟩); simp[ib]at hid; simp[ib,dJ]at hk
theorem KK{E:Env}:E.bI (ib E):=⟨fun b hb=>⟨⟨hb.1,Wv b,fun d=>d.elim hb.2.2 hb.2.1⟩,rfl⟩⟩
theorem Ww{E:Env}:(ib E).bI E:=⟨fun b hb=>⟨⟨hb.1,fun ho=>hb.2.2 (Or.inr ho),fun d=>hb.2.2 (Or.inl d)⟩,rfl⟩⟩
theorem Wx{E:Env}(HE:au E):au (ib E):=by
 refine⟨rfl,?_,?_,?_,?_,HE.e9.bI KK,fun l k l' k' b m n hk=>by simp[ib,dJ]at hk,fun i b m l k n hi=>by simp[ib]at hi,fun l k b m hk=>by simp[ib,dJ]at hk,fun i j o o' l hi=>by simp[ib]at hi,fun l _ k q hk=>by simp[ib,dJ]at hk⟩
 ·intro i j b m n hi; simp[ib]at hi
 ·intro i b m hi; simp[ib]at hi
 ·rintro b (d | ho)
  ·exact HE.X b d
  ·exact(HE.wN ho).1
 ·intro i o hi; simp[ib]at hi
theorem Wy{E:Env}(HE:au E):hG [] (bM [] []) (fun _=>false) [] (ib E) (ib E):=by
 exact { hH:=rfl,HE:=Wx HE,free:=fun _ h=>(nomatch h),cV:=⟨fun b hb=>⟨hb,rfl⟩,rfl,fun j d=>absurd d (Nat.not_lt_zero _),fun _ _ _ _ _=>rfl⟩,obj:=fun j o ho=>by simp at ho }
theorem Wz{E:Env}(HE:au E):∀{d:List Sh} {as:List AV} {g:List G},(d.all yh)=true→ew [] (bM [] []) (fun _=>false) d as=some (true,g)→∀(rest:List G) (cs:List Value),ah E as cs →
  ah E (fl [] d (g++rest)) cs:=by
 have N:∀{sh:eJ} {a:AV} {b:Bool} {g:List G},fw [] (bM [] []) (fun _=>false) sh a=some (b,g)→a.closed=true∨sh=.any:=by
  intro sh a b g h;unfold fw at h;split at h
  ·exact .inl rfl
  ·exact .inl rfl
  ·exact .inl rfl
  ·split at h
   ·rename_i ha
    left;unfold mr at ha;split at ha<;>first|rfl|cases ha
   ·split at h
    ·simp at h
    ·cases h
  ·split at h
   ·rename_i ha
    left;rw[Ke ha];simp only[AV.closed,fI]
   ·cases h
  ·exact .inl rfl
  ·simp at h
  ·exact .inl rfl
  ·exact .inr rfl
  ·exact .inl rfl
  ·simp at h
  ·simp at h
  ·simp at h
  ·simp at h
  ·split at h
   ·rename_i ha
    left;unfold mr at ha;split at ha<;>first|rfl|cases ha
   ·split at h
    ·simp at h
    ·cases h
  ·simp at h
  ·exact .inl rfl
  ·rename_i f js f' vs
   split at h
   ·rename_i u
    left;cases js with
    | nil=>cases vs with
     |nil=>rfl
     |cons _ _=>simp[jU]at u
    | cons j js=>cases vs with
     |nil=>simp[jU]at u
     |cons v vs=>cases v<;>simp[jU]at u
   ·cases h
  ·exact .inl rfl
  ·cases h
 have U:∀{d:List eJ} {as:List AV} {b:Bool} {g:List G},fm [] (bM [] []) (fun _=>false) d as=some (b,g)→∀(cs:List Value),ah E as cs →
   ∃ k,fm [] (bM [] []) (fun _=>false) d k=some (b,g)∧AV.bq k=true∧ah E k cs:=by
  intro d
  induction d with
  | nil =>
   intro as b g h cs q;cases as with
   |nil=>exact⟨[],h,rfl,q⟩
   |cons _ _=>simp[fm]at h
  | cons sh d M =>
   intro as b g h cs q;cases as with
   |nil=>simp[fm]at h
   | cons a as =>
    cases cs with
    |nil=>simp[ah]at q
    | cons c cs =>
     simp only[ah]at q;simp only[fm]at h;split at h
     ·rename_i b1 g1 b2 g2 h1 J
      cases h;obtain⟨k,y,B,I⟩:=M J cs q.2;rcases N h1 with u|rfl
      ·exact⟨a::k,by simp only[fm,h1,y],by simp only[AV.bq,u,B,sZ],by simp only[ah]; exact⟨q.1,I⟩⟩
      ·have e:fw [] (bM [] []) (fun _=>false) .any .undef=some (b1,g1):=by
        have:fw [] (bM [] []) (fun _=>false) .any a=some (true,[]):=by cases a<;>rfl
        rw[this]at h1;exact h1
       exact⟨.undef::k,by simp only[fm,e,y],by simp only[AV.bq,B]; rfl,by simp only[ah,rel]; exact⟨trivial,I⟩⟩
     ·cases h
 have V:∀{d:List Sh} {as:List AV} {b:Bool} {g:List G},ew [] (bM [] []) (fun _=>false) d as=some (b,g)→∀(cs:List Value),ah E as cs →
   ∃ k,ew [] (bM [] []) (fun _=>false) d k=some (b,g)∧AV.bq k=true∧ah E k cs:=by
  intro d
  induction d with
  | nil =>
   intro as b g h cs q;cases as with
   |nil=>exact⟨[],h,rfl,q⟩
   |cons _ _=>simp[ew]at h
  | cons sh d M =>
   intro as b g h cs q;cases as with
   |nil=>simp[ew]at h
   | cons a as =>
    cases cs with
    |nil=>simp[ah]at q
    | cons c cs =>
     simp only[ah]at q;simp only[ew]at h;split at h
     ·rename_i b1 g1 b2 g2 h1 J
      cases h;obtain⟨k,y,B,I⟩:=M J cs q.2;cases sh with
      | s sh0 =>
       simp only[jV]at h1;rcases N h1 with u|rfl
       ·exact⟨a::k,by simp only[ew,jV,h1,y],by simp only[AV.bq,u,B,sZ],by simp only[ah]; exact⟨q.1,I⟩⟩
       ·have e:fw [] (bM [] []) (fun _=>false) .any .undef=some (b1,g1):=by
         have:fw [] (bM [] []) (fun _=>false) .any a=some (true,[]):=by cases a<;>rfl
         rw[this]at h1;exact h1
        exact⟨.undef::k,by simp only[ew,jV,e,y],by simp only[AV.bq,B]; rfl,by simp only[ah,rel]; exact⟨trivial,I⟩⟩
      | clo f caps =>
       cases a<;>simp only[jV]at h1<;>try cases h1
       rename_i f' vs;split at h1
       ·rename_i hf
        subst hf;have O:=q.1;simp only[rel]at O;obtain⟨us,e1,e2⟩:=O;obtain⟨W,l1,l2,l3⟩:=U h1 _ e2;exact⟨.clo f W::k,by simp only[ew,jV,if_true,l1,y],by simp only[AV.bq,AV.closed,l2,B,sZ],
         by simp only[ah,rel]; exact⟨⟨us,e1,l3⟩,I⟩⟩
       ·cases h1
     ·cases h
 intro d as g hcl h rest cs q;obtain⟨k,h1,J,h3⟩:=V h cs q;have h4:=mV KK k J h3;have h5:=(uv (Wy HE) h1 rest).2.2.2 cs h4;exact mV Ww _ (yk hcl) h5
def ak.bt(τ:ak)(sp:aH):ak where
 pf g:=match ad g sp.f with
  |true=>true
  |false=>τ.pf g
 T g as:=match ad g sp.f with
  | true=>match ew [] (bM [] []) (fun _=>false) sp.args as with
   |some (b,d)=>some (rq b (sp.F d).isSome,df (fl [] sp.res ((sp.F d).getD [])))
   |none=>τ.T g as
  |false=>τ.T g as
 W:=τ.W
 C:=τ.C
 I:=τ.I
 N:=τ.N
 U:=τ.U
def CS(sp:aH):Bool:=(sp.args.all yh)&&((sp.res.all yh)&&(sp.cI.isEmpty&&sp.fx.isEmpty))
theorem al.bt{P:Program}{τ:ak}(h:al P τ){sp:aH}(hb:e_ P sp.f=true)(y:CS sp=true)
  (hc:∀ d r,sp.F d=some r→dC P sp.f (sp.args0 d) (ao (sp.H0 d)) (sp.out r) (ao (sp.H1 r))):al P (τ.bt sp):=by
 simp only[CS,az,List.isEmpty_iff]at y;obtain⟨u,O,U,V⟩:=y;refine⟨fun g as b v k q=>?_,h.W,h.C,h.I,h.F⟩;simp only[ak.bt]at k;split at k
 ·rename_i e
  have e:=bu e;subst e;split at k
  ·rename_i b' d hr
   simp only[aY,bh]at k;obtain⟨h1,rfl⟩:=k;subst h1;simp only[rr]at q;obtain⟨rfl,B⟩:=q;refine⟨hb,?_⟩;cases J:sp.F d with
   |none=>rw[J]at B; cases B
   | some r =>
    have M:=hc d r J;simp only[aH.args0,aH.H0,aH.out,aH.H1,U,V,cO,cH,lv,ev]at M;have:=UN M (yk u) (Wu (yk O));intro H E cargs hH HE N;exact this H E cargs hH HE (by
     have:=Wz HE u hr [] _ N
     rwa [da]at this)
  ·exact h.T _ as b v k q
 ·exact h.T g as b v k q
end Go.AL

namespace Go.AL
open Go
variable [Dr]
def Kd.cA:List Kd→Bool
 | []=>true
 |.list _::_=>false
 |_::ks=>Kd.cA ks
def Ct.bK:Ct→Bool
 |.one k=>Kd.cA [k]
 |.agg ks=>Kd.cA ks
def rA:eJ→Bool
 |.row ks=>Kd.cA ks
 |.list _ | .rh _ | .cptr _=>false
 |_=>true
def KL:Sh→Bool
 |.s a=>rA a
 |.clo _ caps=>caps.all rA
def KM:cr→Bool
 |.vec ks _=>Kd.cA ks
 |.box cells=>cells.all rA
 |.map K V=>K.bK&&V.bK
 |.eF _ _ _=>true
 |.aI _ K ks=>K.bK&&Kd.cA ks
 |.mm _ K KI VI=>K.bK&&(KI.bK&&VI.bK)
def ju(sp:aH):Bool:=(sp.res.all KL)&&(sp.fx.all KM)
theorem uC:∀{ks:List Kd} (r:List G),Kd.cA ks=true→AV.cA (aJ ks r)=true
 | [],_,_=>rfl
 |.list _::_,_,h=>by simp[Kd.cA]at h
 | .int _::ks,r,h | .str::ks,r,h | .bool::ks,r,h=>by
  simp only[Kd.cA]at h;simp only[aJ,AV.cA,uC r.tail h,fT];rfl
theorem Ct.rB{K:Ct}(r:List G)(h:K.bK=true):(K.av r).bK=true:=by
 cases K with
 | one k =>
  simp only[Ct.bK]at h;cases k<;>first
   |rfl
   |(simp[Kd.cA]at h; done)
 |agg ks=>simp only[Ct.av,AV.bK]; exact uC r h
theorem KN:∀ js:List Nat,AV.cA (ph js)=true
 | []=>rfl
 |j::js=>by simp only[ph,AV.cA,KN js,fT]; rfl
theorem KO{lens:c9}{a:eJ}{d:List G}(h:rA a=true):(eL lens a d).bK=true:=by
 cases a<;>simp only[rA]at h<;>first
  |(cases h; done)
  |(simp only[eL,AV.bK]; exact uC _ h)
  |rfl
  |(simp only[eL,AV.bK]; exact KN _)
theorem CT{lens:c9}:∀{as:List eJ} {d:List G},(as.all rA)=true→AV.cA (iB lens as d)=true
 | [],_,_=>rfl
 | a::as,d,h=>by
  simp only[lU,az]at h;simp only[iB,AV.cA,KO h.1,CT h.2,sZ]
theorem KP{lens:c9}:∀{as:List Sh} {d:List G},(as.all KL)=true→AV.cA (fl lens as d)=true
 | [],_,_=>rfl
 | a::as,d,h=>by
  simp only[lU,az]at h;simp only[fl,AV.cA,KP h.2,fT];cases a with
  |s a=>exact KO h.1
  |clo f caps=>simp only[pj,AV.bK]; exact CT h.1
theorem WA{vs:List AV}(h:AV.cA vs=true):(df vs).bK=true:=by
 cases vs with
 |nil=>rfl
 | cons v vs =>
  cases vs with
  |nil=>simpa[df,AV.cA]using h
  |cons v2 vs=>simpa only[df,AV.bK]using h
theorem KQ{lens:c9}:∀{os:List cr} {d:List G},(os.all KM)=true→((ao (cO lens os d)).all ab.bK)=true
 | [],_,_=>rfl
 | o::os,d,h=>by
  simp only[lU,az]at h;have k:=KQ (lens:=lens) (d:=ev o.sz d) h.2;simp only[cO,ao,dx,lU,az];refine⟨?_,by simpa only[ao]using k⟩;cases o with
  | vec ks u =>
   simp only[eT,aj.den,ab.bK,cQ,dp];rintro r ⟨g,_,rfl⟩;exact uC g h.1
  |box cells=>simp only[eT,aj.den,ab.bK]; exact CT h.1
  | map K V =>
   have h1:(K.bK&&V.bK)=true:=h.1;simp only[az]at h1;simp only[eT,aj.den,ab.bK,dj,cQ,dp];rintro x ⟨g,_,rfl⟩;simp only[Ct.rB _ h1.1,Ct.rB _ h1.2,sZ]
  |eF l T B=>rfl
  | aI l K ks =>
   have h1:(K.bK&&Kd.cA ks)=true:=h.1;simp only[az]at h1;simp only[eT,aj.den,ab.bK,f_,cQ,dp];rintro x ⟨g,_,rfl⟩;simp only[jk,Ct.rB _ h1.1,Bool.true_and];cases (gi g 3).bool with
   |false=>rfl
   | true =>
    simp only[cond_true,cQ,dp];rintro r ⟨g2,_,rfl⟩;exact uC g2 h1.2
  | mm l K KI VI =>
   have h1:(K.bK&&(KI.bK&&VI.bK))=true:=h.1;simp only[az]at h1;simp only[eT,aj.den,ab.bK,g_,nm,dj,az,cQ,dp];refine⟨?_,?_⟩
   ·rintro x ⟨g, _, rfl⟩
    exact Ct.rB _ h1.1
   ·rintro x ⟨g, _, rfl⟩ y v
    obtain⟨q,_,rfl⟩:=dp.1 v;simp only[Ct.rB _ h1.2.1,Ct.rB _ h1.2.2,and_self]
def aj.cq(e:bP)(j:Nat):aj→aj
 |.vec ks v rows=>.vec ks (v+e.up j) rows
 |.raw o=>.raw (o.cq e j)
 |.map K V rows c=>.map K V rows c
 |.aI l K ks rows c=>.aI l K ks rows c
 |.mm l K KI VI rows mem c=>.mm l K KI VI rows mem c
def uD(e:bP):Nat→List aj→List aj
 |_,[]=>[]
 |j,o::os=>o.cq e j::uD e (j+1) os
def iT(e:bP)(H H1:List aj):List aj:=eo H e.ids (uD e 0 H1)++(uD e 0 H1).drop e.ids.length
theorem WB(e:bP)(j:Nat)(o:aj):(o.cq e j).den=o.den.cq e j:=by
 cases o<;>rfl
theorem KR(e:bP):∀(j:Nat) (os:List aj),ao (uD e j os)=jS e j (ao os)
 |_,[]=>rfl
 | j,o::os=>by
  simp only[uD,ao,dx,jS,WB];have:=KR e (j+1) os;simp only[ao]at this;rw[this]
theorem KS{α β:Type}(f:α→β):∀(is:List Nat) (l xs:List α),(eo l is xs).map f=eo (l.map f) is (xs.map f)
 | [],_,_=>by simp[eo]
 |_::_,_,[]=>by simp[eo]
 |i::is,l,x::xs=>by simp[eo,KS f is,List.map_set]
theorem WC(e:bP)(H H1:List aj):ao (iT e H H1)=nC e (ao H) (ao H1):=by
 unfold iT nC;rw[←KR];simp only[ao,List.map_append,KS,List.map_drop]
def lz(e:bP):Nat→List cr→Bool
 |_,[]=>true
 |j,.vec _ _::os=>lz e (j+1) os
 |j,_::os=>ad (e.up j) 0&&lz e (j+1) os
theorem pr{e:bP}{lens:c9}:∀{j:Nat} {os:List cr} {d:List G},lz e j os=true→jT e j (ao (cO lens os d))=true
 |_,[],_,_=>rfl
 | j,.vec ks u::os,d,h=>by
  simp only[lz]at h;have:=pr (lens:=lens) (d:=ev (cr.vec ks u).sz d) h;simp only[cO,ao,dx,jT,az];exact⟨rfl,by simpa only[ao]using this⟩
 | j,.box cells::os,d,h=>by
  simp only[lz,az]at h;have:=pr (lens:=lens) (d:=ev (cr.box cells).sz d) h.2;simp only[cO,ao,dx,jT,az];exact⟨h.1,by simpa only[ao]using this⟩
 | j,.map K V::os,d,h=>by
  simp only[lz,az]at h;have:=pr (lens:=lens) (d:=ev (cr.map K V).sz d) h.2;simp only[cO,ao,dx,jT,az];exact⟨h.1,by simpa only[ao]using this⟩
 | j,.eF l T B::os,d,h=>by
  simp only[lz,az]at h;have:=pr (lens:=lens) (d:=ev (cr.eF l T B).sz d) h.2;simp only[cO,ao,dx,jT,az];exact⟨h.1,by simpa only[ao]using this⟩
 | j,.aI l K ks::os,d,h=>by
  simp only[lz,az]at h;have:=pr (lens:=lens) (d:=ev (cr.aI l K ks).sz d) h.2;simp only[cO,ao,dx,jT,az];exact⟨h.1,by simpa only[ao]using this⟩
 | j,.mm l K KI VI::os,d,h=>by
  simp only[lz,az]at h;have:=pr (lens:=lens) (d:=ev (cr.mm l K KI VI).sz d) h.2;simp only[cO,ao,dx,jT,az];exact⟨h.1,by simpa only[ao]using this⟩
def rC(S:Bool)(ids:List Nat)(i:Nat):Bool:=match S with
 |true=>h_ ids i
 |false=>false
def nL(sp:aH)(as:List AV)(H:List aj):Option (Bool × AV × List aj) :=
 match iS H (fun i=>as.getD i .undef) sp.ps []with
 |none=>none
 | some ids=>match nodupB ids&&lz (bM H ids) 0 sp.fx with
  |false=>none
  | true=>match iR H (bM H ids) (rC (ju sp) ids) sp.cI ids,ew H (bM H ids) (rC (ju sp) ids) sp.args as with
   |some (b,g),some (h,d)=>some (rq (b&&h) (sp.F (g++d)).isSome,(sp.out ((sp.F (g++d)).getD [])).cq (bM H ids),iT (bM H ids) H (sp.H1 ((sp.F (g++d)).getD [])))
   |_,_=>none
def my:List jt→Nat→Bool
 | [],_=>true
 |.cell j _::ps,n=>ft j n&&my ps (n+1)
 |.CM j _ _::ps,n=>ft j n&&my ps (n+1)
 |_::ps,n=>my ps (n+1)
theorem KT{H:List aj}{vals:Nat→AV}:∀{ps:List jt} {acc ids:List Nat},iS H vals ps acc=some ids→∀ x∈acc,x∈ids
 | [],acc,ids,h,x,d=>by cases h; exact d
 | p::ps,acc,ids,h,x,d=>by
  unfold iS at h;split at h
  ·exact KT h x (qc _ d)
  ·cases h
theorem KU{H:List aj}{vals:Nat→AV}{id:Nat}{o:aj}:∀{ps:List jt} {acc ids:List Nat},my ps acc.length=true→iS H vals ps acc=some ids→id∉ids→iS (H.set id o) vals ps acc=some ids
 | [],acc,ids,_,h,_=>h
 | p::ps,acc,ids,hw,h,hid=>by
  unfold iS at h⊢;split at h
  ·rename_i i hi
   have g:=KT h;have get:∀ j,j<acc.length→(H.set id o)[acc.getD j 0]? = H[acc.getD j 0]? := fun j d=>by
    refine aT fun e=>hid ?_;rw[e,ct,bL d];exact g _ (qc _ (mT d))
   have e:yd (H.set id o) vals acc p=some i∧my ps (acc++[i]).length=true:=by
    rw[fH];cases p with
    |fix _=>exact⟨hi,hw⟩
    |slot _=>exact⟨hi,hw⟩
    |cap _ _=>exact⟨hi,hw⟩
    | cell j c =>
     simp only[my,az,kg]at hw;refine⟨?_,hw.2⟩;simp only[yd]at hi⊢;rw[get j hw.1];exact hi
    | CM j c k =>
     simp only[my,az,kg]at hw;refine⟨?_,hw.2⟩;simp only[yd]at hi⊢;rw[get j hw.1];exact hi
   rw[e.1];exact KU e.2 h hid
  ·cases h
section WD
variable {H:List aj} {e:bP} {id:Nat} {o:aj} (he:∀ j,e.at j≠id)
include he
theorem KV:∀(js:List Nat) (vs:List AV),jU (H.set id o) e js vs=jU H e js vs
 | [],[]=>rfl
 | [],_::_=>rfl
 |_::_,[]=>rfl
 | j::js,v::vs=>by
  have g:=KV js vs;cases v<;>try rfl
  rename_i i af k row c;simp only[jU,g];by_cases hi:i=id
  ·subst hi
   have d:ad i (e.at j)=false:=by
    cases hb:ad i (e.at j)with
    |false=>rfl
    |true=>exact absurd (bu hb).symm (he j)
   simp only[d,Bool.false_and];cases (H.set i o)[i]? <;> cases H[i]? <;> (repeat' split)<;>rfl
  ·rw[aT (Ne.symm hi)]
theorem KW:∀(sh:eJ) (a:AV),fw (H.set id o) e (fun _=>false) sh a=fw H e (fun _=>false) sh a:=by
 have d:∀{i:Nat},i≠id→(H.set id o)[i]? = H[i]? := fun h=>aT (Ne.symm h);have g:∀ j,¬ (id=e.at j):=fun j h=>he j h.symm;intro sh a;cases a with
 | vec w i af off n =>
  by_cases hi:i=id
  ·subst hi
   cases sh<;>(try rfl)<;>simp only[fw,mr,kY,and_false,if_false,g,false_and]<;>(repeat' split)<;>(first|rfl|simp_all)
  ·cases sh<;>(try rfl)<;>simp only[fw,d hi]
 | ptr i af k row col =>
  by_cases hi:i=id
  ·subst hi
   cases sh<;>(try rfl)<;>simp only[fw,mr,kY,and_false,if_false,g,false_and]<;>(repeat' split)<;>(first|rfl|simp_all)
  ·cases sh<;>(try rfl)<;>simp only[fw,d hi]
 | map i =>
  by_cases hi:i=id
  ·subst hi
   cases sh<;>(try rfl)<;>simp only[fw,mr,kY,and_false,if_false,g,false_and]<;>(repeat' split)<;>(first|rfl|simp_all)
  ·cases sh<;>(try rfl)<;>simp only[fw,d hi]
 | clo f vs =>
  cases sh<;>(try rfl)
  ·cases vs<;>rfl
  ·simp only[fw,KV he]
 | lit v =>
  cases sh<;>(try rfl)<;>cases v<;>(try rfl)
  ·rename_i b n c
   cases b<;>cases n<;>cases c<;>rfl
  ·rename_i q
   cases q with
   |none=>rfl
   | some q =>
    obtain⟨b,o',w⟩:=q;cases o'<;>cases w<;>rfl
 |_=>cases sh<;>rfl
theorem CU:∀(d:List eJ) (as:List AV),fm (H.set id o) e (fun _=>false) d as=fm H e (fun _=>false) d as
 | [],[]=>rfl
 | [],_::_=>rfl
 |_::_,[]=>rfl
 |sh::d,a::as=>by simp only[fm,KW he sh a,CU d as]
theorem WE(sh:Sh)(a:AV):jV (H.set id o) e (fun _=>false) sh a=jV H e (fun _=>false) sh a:=by
 cases sh with
 |s x=>simp only[jV,KW he]
 | clo f caps =>
  cases a with
  |clo g vs=>simp only[jV,CU he]
  |_=>rfl
theorem KX:∀(d:List Sh) (as:List AV),ew (H.set id o) e (fun _=>false) d as=ew H e (fun _=>false) d as
 | [],[]=>rfl
 | [],_::_=>rfl
 |_::_,[]=>rfl
 |sh::d,a::as=>by simp only[ew,WE he sh a,KX d as]
theorem WG(sh:cr)(t:aj):gA (H.set id o) e (fun _=>false) sh t=gA H e (fun _=>false) sh t:=by
 cases sh with
 | box d =>
  cases t with
  |raw x=>cases x<;>simp only[gA,CU he]
  |_=>rfl
 | eF l T B =>
  cases t with
  |raw x=>cases x<;>rfl
  |_=>rfl
 |_=>cases t<;>rfl
theorem KY:∀(os:List cr) (is:List Nat),id∉is→iR (H.set id o) e (fun _=>false) os is=iR H e (fun _=>false) os is
 | [],[],_=>rfl
 | [],_::_,_=>rfl
 |_::_,[],_=>rfl
 | sh::os,i::is,h=>by
  have h1:id≠i:=fun e=>h (by rw[e]; exact cY);simp only[iR,aT h1,WG he,KY os is fun hm=>h (di _ hm)]
end WD
theorem KZ{α:Type}{i:Nat}{x:α}:∀(is:List Nat) (l xs:List α),i∉is→eo (l.set i x) is xs=(eo l is xs).set i x
 | [],_,_,_=>by simp[eo]
 |_::_,_,[],_=>by simp[eo]
 | j::is,l,y::xs,h=>by
  have h1:i≠j:=fun e=>h (by rw[e]; exact cY);simp only[eo];rw[List.set_comm _ _ h1];exact KZ is _ _ fun hm=>h (di _ hm)
theorem WH{H:List aj}{ids:List Nat}{id:Nat}{o:aj}(h:id∉ids):bM (H.set id o) ids=bM H ids:=by
 unfold bM;rw[List.length_set];congr 1;refine List.map_congr_left fun i hi=>?_;unfold rm;rw[aT fun e=>h (by rw[e]; exact hi)]
theorem WI{sp:aH}(B:ju sp=false)(hw:my sp.ps 0=true){as:List AV}{H H':List aj}{b:Bool}{v:AV}(h:nL sp as H=some (b,v,H')){id:Nat}{o:aj}(u:id<H.length)
  (hid:∀ ids,iS H (fun i=>as.getD i .undef) sp.ps []=some ids→id∉ids) :
  nL sp as (H.set id o)=some (b,v,H'.set id o)∧∃ ids,iS H (fun i=>as.getD i .undef) sp.ps []=some ids∧iS (H.set id o) (fun i=>as.getD i .undef) sp.ps []=some ids:=by
 unfold nL at h⊢;split at h
 ·cases h
 rename_i ids g;have d:=hid ids g;have q:=KU (o:=o) (acc:=[]) hw g d;refine⟨?_,ids,g,q⟩;rw[q];simp only[WH d];split at h
 ·cases h
 rename_i J;have y:rC (ju sp) ids=fun _=>false:=by
  rw[B];rfl
 rw[y]at h⊢;have he:∀ j,(bM H ids).at j≠id:=by
  intro j e;rcases jb j (bM H ids).ids.length with k|k
  ·have := gz k
   rw[e]at this;exact d (eX this)
  ·rw [rf k] at e
   have:(bM H ids).base=H.length:=rfl;omega
 rw[KY he _ _ d,KX he];split at h
 case h_2=>cases h
 rename_i h1 M;cases h;have I:∀ X,iT (bM H ids) (H.set id o) X=(iT (bM H ids) H X).set id o:=fun X=>by
  unfold iT;rw[show (bM H ids).ids=ids from rfl,KZ ids _ _ d,HA _ _ (by rw[nB]; exact u)]
 rw[I]
def ak.cS(τ:ak)(sp:aH):ak where
 pf g:=match ad g sp.f with
  |true=>false
  |false=>τ.pf g
 T:=τ.T
 W g as H:=match ad g sp.f with
  | true=>match nL sp as H with
   |some r=>some r
   |none=>τ.W g as H
  |false=>τ.W g as H
 C g as H:=match ad g sp.f with
  | true=>(match iS H (fun i=>as.getD i .undef) sp.ps [] with
   |some ids=>ids
   |none=>[])++τ.C g as H
  |false=>τ.C g as H
 I:=τ.I
 N g:=match ad g sp.f with
  | true=>match τ.U g,ju sp with
   |false,false=>my sp.ps 0
   |_,_=>false
  |false=>τ.N g
 U g:=match ad g sp.f with
  |true=>true
  |false=>τ.U g
def nM:List cr→List cr→Bool
 |_,[]=>true
 | [],o'::d=>o'.iQ.isNone&&nM [] d
 | o::os,o'::d=>(match o'.iQ with
  |none=>true
  | some l=>match o.iQ with
   |some l'=>ad l l'
   |none=>false)&&nM os d
theorem CV:∀{os k:List cr},nM os k=true→∀(j:Nat) o' l,k[j]? = some o'→o'.iQ=some l→∃ o,os[j]? = some o∧o.iQ=some l
 |_,[],_,j,_,_,d,_=>by simp at d
 | [],x::k,h,0,o',l,d,g=>by
  simp only[nM,az]at h;simp at d;subst d;rw[g]at h;cases h.1
 | [],x::k,h,j+1,o',l,d,g=>by
  simp only[nM,az]at h;obtain⟨o,h1,_⟩:=CV h.2 j o' l (by simpa using d) g;simp at h1
 | o::os,x::k,h,0,o',l,d,g=>by
  simp only[nM,az]at h;simp at d;subst d;have h1:=h.1;rw[g]at h1;simp only[]at h1;split at h1
  ·rename_i l' q
   have:=bu h1;subst this;exact⟨o,rfl,q⟩
  ·cases h1
 | o::os,x::k,h,j+1,o',l,d,g=>by
  simp only[nM,az]at h;exact CV h.2 j o' l (by simpa using d) g
theorem K3(lens:c9):∀(os:List cr) (d:List G) (j:Nat) (o:aj),(cO lens os d)[j]? = some o→∃ sh d',os[j]? = some sh∧o=eT lens sh d'
 | [],d,j,o,h=>by simp[cO]at h
 | s::os,d,0,o,h=>by
  simp[cO]at h;exact⟨s,d,rfl,h.symm⟩
 | s::os,d,j+1,o,h=>by
  simp only[cO,SV]at h;obtain⟨sh,d',h1,g⟩:=K3 lens os _ j o h;exact⟨sh,d',by simpa using h1,g⟩
theorem WJ{lens:c9}{os:List cr}{d:List G}{j:Nat}{o:ab} (h:(ao (cO lens os d))[j]? = some o):∃ sh,os[j]? = some sh∧o.label=sh.iQ:=by
 simp only[ao,ch]at h;obtain⟨o',h1,rfl⟩:=dV.1 h;obtain⟨sh,d',g,rfl⟩:=K3 lens os d j o' h1;exact⟨sh,g,rj _ _ _⟩
theorem K4(lens:c9):∀(os:List cr) (d:List G) (j:Nat) (sh:cr),os[j]? = some sh→∃ o,(ao (cO lens os d))[j]? = some o∧o.label=sh.iQ
 | [],d,j,o,h=>by simp at h
 | s::os,d,0,sh,h=>by
  simp at h;subst h;exact⟨(eT lens s d).den,by simp[cO,ao],rj _ _ _⟩
 | s::os,d,j+1,sh,h=>by
  obtain⟨o,h1,g⟩:=K4 lens os (ev s.sz d) j sh (by simpa using h);exact⟨o,by simpa[cO,ao]using h1,g⟩
def ym(sp:aH):Bool:=po sp.cI&&(dA sp.cI.length sp.fx.length&&nM sp.cI sp.fx)
theorem WK{P:Program}{sp:aH}(hp:ym sp=true) (hc:∀ d r,sp.F d=some r→dC P sp.f (sp.args0 d) (ao (sp.H0 d)) (sp.out r) (ao (sp.H1 r)))
  {as:List AV} {H H':List aj} {v:AV} (h:nL sp as H=some (true,v,H')):dC P sp.f as (ao H) v (ao H'):=by
 simp only[ym,az]at hp;obtain⟨hfr,hle,hlab⟩:=hp;have hle:=s7 hle;unfold nL at h;split at h
 ·cases h
 rename_i ids hids;split at h
 ·cases h
 rename_i hck;simp only[az]at hck;obtain⟨hnd,hup⟩:=hck;have hnd:=ru hnd;split at h
 case h_2=>cases h
 rename_i b g b' k h1 h2;simp only[aY,bh,rr,az]at h;obtain⟨⟨⟨rfl,rfl⟩,h3⟩,rfl,rfl⟩:=h;cases hF:sp.F (g++k)with
 |none=>rw[hF]at h3; cases h3
 |some r =>
 simp only[k9];obtain⟨p0,p1,p2,p3⟩:=uw h1 k (cH sp.cI (g++k));have hd:ev (lv sp.cI) (g++k)=k:=by rw[←p0]; exact nF g k
 have hlen:ids.length=(ao (sp.H0 (g++k))).length:=by rw[eD]; simp only[aH.H0,p1,p2]
 have hat:∀ j,j<ids.length→ids[j]? = some ((bM H ids).at j):=fun j q=>gz (e:=bM H ids) q;have hobjs:∀ j,j<ids.length→∃ sh o g1 M,sp.cI[j]? = some sh∧H[(bM H ids).at j]? = some o∧gA H (bM H ids) (rC (ju sp) ids) sh o=some (true,g1) ∧
   (sp.H0 (g++k))[j]? = some (eT (cH sp.cI (g++k)) sh (g1++M)) ∧
   (cH sp.cI (g++k)).af j=sh.up∧(∀ ks v rows,o=.vec ks v rows→(cH sp.cI (g++k)).len j=rows.length)∧sh.up=0∧(bM H ids).up j=rk o:=by
  intro j q;have hj':j<sp.cI.length:=by omega
  obtain⟨i,o,g1,M,N,y,I,B,W,q6⟩:=p3 j sp.cI[j] (bL hj');have q1':=N;rw[hat j q]at N;cases N;refine⟨sp.cI[j],o,g1,M,bL hj',y,I,B,W,q6,?_,?_⟩
  ·have := cQ.1 hfr sp.cI[j] (mT hj')
   exact bu this
  ·simp only [bP.up, bM, ct, ch]
   rw[q1'];simp only[eM,k9,rm];rw[y]
 have hK:∀ E E0,E.H=ao H→au E→xV (bM H ids) (bif ju sp then (dI H.length).filter (h_ ids) else []) E E0→E0.H=ao (sp.H0 (g++k)) →
   hG H (bM H ids) (rC (ju sp) ids) (cH sp.cI (g++k)) E E0:=by
  intro E E0 V HE O U;refine { hH:=V,HE:=HE,free:=fun i hi b n hb=>?_,cV:=O.toKeepIn,obj:=fun j o ho=>?_ }
  ·refine O.Wb i ?_ b n hb
   have hlt:=aK hb;rw[HE.len,V,eD]at hlt;unfold rC at hi;split at hi
   ·rename_i J
    rw[J];simp only[cond_true,AK,List.mem_range];exact⟨hlt,hi⟩
   ·cases hi
  ·have q:j<ids.length:=by
    rcases jb j ids.length with hlt|hge
    ·exact hlt
    ·have h1 := aK ho
     have h2:=rf (e:=bM H ids) hge;have h3:(bM H ids).base=H.length:=rfl;omega
   refine⟨q,?_⟩;obtain⟨sh,o',g1,M,N,y,I,B,W,q6,q7,q8⟩:=hobjs j q;rw[ho]at y;cases y;obtain⟨r1,r2,r3⟩:=CI (lens:=cH sp.cI (g++k)) (d:=g1++M) I;exact⟨r1,⟨_,by rw[U]; exact bl B,by rw[W]; exact r2⟩,fun o0 h0=>by rw[U,bl B]at h0; cases h0; rw[CF,CG I],q6,fun _=>by rw[W]; exact q7⟩
 have:=frame (P:=P) (f:=sp.f) (ju sp) (bif ju sp then (dI H.length).filter (h_ ids) else []) (e:=bM H ids) (H:=ao H) (args:=sp.args0 (g++k)) (H0:=ao (sp.H0 (g++k)))
  (H1:=ao (sp.H1 r)) (v:=sp.out r) (args0:=as) (hc _ _ hF) hlen (by rw[eD]; rfl) hnd ?_ ?_ (pr hup) ?_ (fun J=>by rw[J]; rfl) ?_ ?_ ?_ ?_ ?_ ?_ ?_
 ·rw [WC]
  exact this
 ·intro j o ho
  have q:j<ids.length:=by rw[hlen]; exact aK ho
  obtain⟨sh,o',g1,M,N,y,I,B,W,q6,q7,q8⟩:=hobjs j q;obtain⟨r1,r2,r3⟩:=CI (lens:=cH sp.cI (g++k)) (d:=g1++M) I;rw[bl B]at ho;cases ho;refine⟨o'.den,bl y,ab.AQ r2,fun v=>?_⟩;rw[r1,r2,q7,q8];simp only[aY];constructor
  ·rintro rfl
   exact⟨0,rfl,by omega⟩
  ·rintro ⟨u, rfl, rfl⟩
   omega
 ·intro E E0 V HE O U j o ho
  have q:j<ids.length:=by rw[hlen]; exact aK ho
  obtain⟨sh,o',g1,M,N,y,I,B,W,q6,q7,q8⟩:=hobjs j q;rw[bl B]at ho;cases ho;exact Kv (hK E E0 V HE O U) I M q (fun l hl=>O.iQ j _ l (by rw[U]; exact bl B) (by rw[rj,hl])) (HE.obj _ _ (by rw[V]; exact bl y))
 ·rw [eD, eD]
  simp only[aH.H0,aH.H1,CR];exact hle
 ·intro J
  simp only[ju,az]at J;exact WA (KP J.1)
 ·intro J
  simp only[ju,az]at J;exact KQ J.2
 ·intro i hi
  cases J:ju sp with
  | true =>
   rw[J]at hi;simp only[cond_true,AK]at hi;exact Kz hi.2
  | false =>
   rw[J]at hi;simp at hi
 ·intro j o o' ho ho'
  have q:j<ids.length:=by rw[hlen]; exact aK ho
  obtain⟨sh,o2,g1,M,N,y,I,B,_⟩:=hobjs j q;rw[bl B]at ho;rw[bl y]at ho';cases ho;cases ho';rw[Kq I,rj]
 ·intro j o l ho hl
  obtain⟨sh,h5,h6⟩:=WJ (show (ao (cO (cH sp.fx r) sp.fx r))[j]? = some o from ho);obtain⟨sh0,h7,h8⟩:=CV hlab j sh l h5 (by rw[←h6,hl]);obtain⟨o0,h9,h10⟩:=K4 (cH sp.cI (g++k)) sp.cI (g++k) j sh0 h7;exact⟨o0,h9,by rw[h10,h8]⟩
 ·intro j o o' ho ho'
  have q:j<ids.length:=by rw[hlen]; exact aK ho
  obtain⟨sh,o2,g1,M,N,y,I,B,_⟩:=hobjs j q;rw[bl B]at ho;rw[bl y]at ho';cases ho;cases ho';rw[CG I,CF]
 ·intro E E0 cs V HE O U hr
  have hS:=(uv (hK E E0 V HE O U) h2 []).2.2.2 cs hr;rw[da]at hS;simp only[aH.args0,hd];exact hS
theorem WL{sp:aH}{as:List AV}{H H':List aj}{v:AV}{b:Bool}{A:Nat}(h:nL sp as H=some (b,v,H'))(g:A<H.length)(k:∀ ids,iS H (fun i=>as.getD i .undef) sp.ps []=some ids→A∉ids):H'[A]? = H[A]? := by
 unfold nL at h;split at h
 ·cases h
 rename_i ids d;split at h
 ·cases h
 split at h
 case h_2=>cases h
 cases h;unfold iT;rw[cM (by rw[nB]; exact g)];exact xW _ _ _ _ (k ids d)
theorem al.cS{P:Program}{τ:ak}(h:al P τ){sp:aH}(hb:e_ P sp.f=true)(V:ym sp=true)
  (hc:∀ d r,sp.F d=some r→dC P sp.f (sp.args0 d) (ao (sp.H0 d)) (sp.out r) (ao (sp.H1 r))):al P (τ.cS sp):=by
 refine⟨h.T,fun g as H b v H' k N=>?_,fun g as H b v H' k A q u=>?_,fun g as H t k Q hQ=>?_,fun g y as H=>?_,fun g B as H b v H' k id o u hid=>?_⟩
 rotate_left 2
 ·obtain ⟨g1, v, H', g2, g3, g4⟩ := h.I g as H t k Q hQ
  refine⟨g1,v,H',g2,fun A q u=>g3 A (fun hm=>q ?_) u,g4⟩;simp only[ak.cS];split
  ·exact wB _ hm
  ·exact hm
 ·simp only [ak.cS] at y ⊢
  cases e:ad g sp.f with
  |true=>rw[e]at y; cases y
  | false =>
   rw[e]at y;exact h.F.1 g y as H
 ·simp only [ak.cS] at B k hid ⊢
  cases e:ad g sp.f with
  | false =>
   rw[e]at B k hid;exact h.F.2 g B as H b v H' k id o u hid
  | true =>
   rw[e]at B k hid;simp only[]at B k hid⊢;split at B
   case h_2=>cases B
   rename_i y hs;have U:∀ H,τ.W g as H=none:=fun H=>(h.F.1 g y as H).1;have O:∀ H,τ.C g as H=[]:=fun H=>(h.F.1 g y as H).2;rw[U]at k;split at k
   case h_2=>cases k
   rename_i r J;cases k;obtain⟨q1,ids,q2,q3⟩:=WI hs B J (o:=o) u fun ids M hm=>hid (qc _ (by rw[M]; exact hm));rw[q1];refine⟨rfl,?_⟩;rw[q2,q3,O,O]
 simp only[ak.cS]at k;split at k
 ·rename_i e
  have e:=bu e;subst e;split at k
  ·rename_i r J
   cases k;subst N;exact⟨hb,WK V hc J⟩
  ·exact h.W _ as H b v H' k N
 ·exact h.W g as H b v H' k N
 simp only[ak.cS]at k q;split at k
 ·rename_i e
  rw[e]at q;simp only[]at q;split at k
  ·rename_i r J
   cases k;exact WL J u fun ids M hm=>q (qc _ (by rw[M]; exact hm))
  ·exact h.C g as H b v H' k A (fun hm=>q (wB _ hm)) u
 ·rename_i e
  rw[e]at q;exact h.C g as H b v H' k A q u
end Go.AL

namespace Go.AL
open Go
variable [Dr]
def aA{β:Type}(t:Option (List G))(k:List G→Option β):Option β:=bif t.isSome then k (t.getD []) else none
def fP{β:Type}(b:Bool)(t:Option (List G))(k:List G→Option β):Option β:=bif b then k (t.getD []) else none
def aN{β:Type}(b:Bool)(r:Option (Nat × List G))(k:Nat→List G→Option β):Option β:=bif (b&&r.isSome) then k (CN r) (CO r) else none
def WM:Kd→G→G
 |.int _,g=>.i g.int
 |.str,g=>.s g.str
 |.bool,g=>.t g.bool
 |.list _,g=>.l g.rows
def aF:List Kd→List G→List G
 | [],_=>[]
 |k::ks,r=>WM k (r.headD default)::aF ks r.tail
def ak.eU(τ:ak)(d:List FuncId):ak:={ τ with pf:=fun g=>match d.any (fun x=>ad x g)with
 |true=>false
 |false=>τ.pf g }
def ak.ic(τ:ak)(d:List FuncId):ak:={ τ with pf:=fun g=>match d.any (fun x=>ad x g)with
 |true=>true
 |false=>τ.pf g }
theorem al.ic{P:Program}{τ:ak}(h:al P τ)(d:List FuncId):al P (τ.ic d):=⟨h.T,h.W,h.C,h.I,h.F⟩
theorem al.eU{P:Program}{τ:ak}(h:al P τ)(d:List FuncId):al P (τ.eU d):=⟨h.T,h.W,h.C,h.I,h.F⟩
theorem WN{β:Type}{t:Option (List G)}{k:List G→Option β}{g:List G}(h:t=some g):aA t k=k g:=by subst h; rfl
inductive iC (st:List G→Option (Option Nat × List G)):Nat→List G→Nat→List G→Prop
 |stop {d d':List G} {x:Nat} (h:st d=some (some x,d')):iC st 1 d x d'
 |next {d d1 d':List G} {x n:Nat} (h:st d=some (none,d1)) (h':iC st n d1 x d'):iC st (n+1) d x d'
theorem iC.iter{st:List G→Option (Option Nat × List G)}{n:Nat}{d d':List G}{x:Nat}(h:iC st n d x d'):∀ m,n≤m→pk st m d=some (x,d'):=by
 induction h with
 | stop h =>
  intro m hm;cases m with
  |zero=>omega
  |succ m=>simp only[pk,h]
 | next h _ g =>
  intro m hm;cases m with
  |zero=>omega
  |succ m=>simp only[pk,h]; exact g m (by omega)
theorem iC.WO{st:List G→Option (Option Nat × List G)}{n:Nat}{d d':List G}{x:Nat}(h:iC st n d x d')(g:n≤1000000):bG st d=some (x,d'):=h.iter _ g
end Go.AL

namespace Go.AL
open Go
variable [Dr]
inductive Hint where
 |freeze (slot:Nat)
 |K5 (slot:Nat) (ks:List Kd)
 |K6 (slot c:Nat) (ks:List Kd)
 |yn (slot:Nat)
 |K7 (slot c:Nat)
 |hole (ks:List Kd)
 |rD
 |aI (slot l:Nat)
 |yo (slot:Nat)
 |mm (slot l:Nat) (KI VI:Ct)
 |rE (slot c l:Nat) (KI VI:Ct)
 |forget (id:Nat)
 |K8 (slot c:Nat) (ks:List Kd)
def yp(slot:Nat)(s:ar):Bool × ar :=
 match s.fr.getD slot .undef with
 | .vec w id af off n=>match s.H[id]? with
  |some (.vec ks v rows)=>if af=v∧off=0∧w=ks.length then (ad n rows.length,⟨s.fr.set slot (.listF ks rows),s.H.set id (.raw .dead)⟩) else (true,s)
  |_=>(true,s)
 |_=>(true,s)
def CW(slot c:Nat)(ks:List Kd)(s:ar):Bool × ar :=
 match s.fr.getD slot .undef with
 | .ptr id _ _ _ _=>match s.H[id]? with
  | some (.raw (.box cells))=>match cells[c]? with
   | some a=>match isNil a with
    |true=>(true,⟨s.fr,s.H.set id (.raw (.box (cells.set c (.vec ks.length s.H.length 0 0 0))))++[.vec ks 0 []]⟩)
    |false=>(true,s)
   |none=>(true,s)
  |_=>(true,s)
 |_=>(true,s)
def yq(slot c:Nat)(s:ar):Bool × ar :=
 match s.fr.getD slot .undef with
 | .ptr id _ _ _ _=>match s.H[id]? with
  | some (.raw (.box cells))=>match cells[c]? with
   | some (.vec w d af off n)=>match s.H[d]? with
    |some (.vec ks v rows)=>if af=v∧off=0∧w=ks.length then (ad n rows.length,⟨s.fr,(s.H.set d (.raw .dead)).set id (.raw (.box (cells.set c (.listF ks rows))))⟩) else (true,s)
    |_=>(true,s)
   |_=>(true,s)
  |_=>(true,s)
 |_=>(true,s)
def yr(slot:Nat)(s:ar):Bool × ar :=
 match s.fr.getD slot .undef with
 | .vec w id af off n=>match s.H[id]? with
  |some (.vec ks v rows)=>if af=v∧off=0∧w=ks.length then (dA n rows.length,⟨s.fr.set slot (.vec w id (v+1) 0 n),s.H.set id (.vec ks (v+1) (rows.take n))⟩) else (true,s)
  |_=>(true,s)
 |_=>(true,s)
def yt(slot l:Nat)(s:ar):Bool × ar :=
 match s.fr.getD slot .undef with
 | .map id=>match s.H[id]? with
  |some (.map K (.one (.list ks)) [] cl)=>(ma (ao s.H) l,⟨s.fr,s.H.set id (.aI l K ks [] cl)⟩)
  |_=>(true,s)
 |_=>(true,s)
def yu(rows:List (List G)):Bool:=rows.all fun r=>(gi r 3).bool
def yv(slot:Nat)(s:ar):Bool × ar :=
 match s.fr.getD slot .undef with
 | .map id=>match s.H[id]? with
  |some (.aI _ K ks rows cl)=>(yu rows,⟨s.fr,s.H.set id (.map K (.one (.list ks)) rows cl)⟩)
  |_=>(true,s)
 |_=>(true,s)
def yw(slot l:Nat)(KI VI:Ct)(s:ar):Bool × ar :=
 match s.fr.getD slot .undef with
 | .map id=>match s.H[id]? with
  |some (.map K _ [] cl)=>(ma (ao s.H) l,⟨s.fr,s.H.set id (.mm l K KI VI [] [] cl)⟩)
  |_=>(true,s)
 |_=>(true,s)
def yx(slot c l:Nat)(KI VI:Ct)(s:ar):Bool × ar :=
 match s.fr.getD slot .undef with
 | .ptr a _ _ _ _=>match s.H[a]? with
  | some (.raw (.box cells))=>match cells[c]? with
   | some (.map id)=>match s.H[id]? with
    |some (.map K _ rows cl)=>(rq (ma (ao s.H) l) rows.isEmpty,⟨s.fr,s.H.set id (.mm l K KI VI [] [] cl)⟩)
    |_=>(true,s)
   |_=>(true,s)
  |_=>(true,s)
 |_=>(true,s)
def CX(id:Nat)(s:ar):Bool × ar :=
 match s.H[id]? with
 |some (.raw (.box _))=>(true,⟨s.fr,s.H.set id (.vec [] 1 [])⟩)
 |some (.map ..)=>(true,⟨s.fr,s.H.set id (.vec [] 1 [])⟩)
 |some (.mm ..)=>(true,⟨s.fr,s.H.set id (.vec [] 1 [])⟩)
 |_=>(true,s)
def CY(slot c:Nat)(ks:List Kd)(s:ar):Bool × ar :=
 match s.fr.getD slot .undef with
 | .ptr id _ _ _ _=>match s.H[id]? with
  | some (.raw (.box cells))=>match cells[c]? with
   | some (.list w rows)=>match bz ks rows with
    |some gs=>if w=ks.length then (true,⟨s.fr,s.H.set id (.raw (.box (cells.set c (.listF ks gs))))⟩) else (true,s)
    |none=>(true,s)
   |_=>(true,s)
  |_=>(true,s)
 |_=>(true,s)
def yy:Hint→ar→Bool × ar
 |.freeze i,s=>yp i s
 | .K5 i ks,s=>match isNil (s.fr.getD i .undef) with
  |true=>(true,uo i ks s)
  |false=>(true,s)
 |.K6 i c ks,s=>CW i c ks s
 |.yn i,s=>yr i s
 |.K7 i c,s=>yq i c s
 |.hole ks,s=>(true,⟨s.fr,s.H++[.vec ks 0 []]⟩)
 |.rD,s=>(true,⟨s.fr,s.H++[.raw .dP]⟩)
 |.aI i l,s=>yt i l s
 |.yo i,s=>yv i s
 |.mm i l KI VI,s=>yw i l KI VI s
 |.rE i c l KI VI,s=>yx i c l KI VI s
 |.forget i,s=>CX i s
 |.K8 i c ks,s=>CY i c ks s
def uE:List Hint→ar→Bool × ar
 | [],s=>(true,s)
 | h::d,s=>match yy h s with
  | (b,s1)=>match uE d s1 with
   |(g,s2)=>(b&&g,s2)
theorem WQ{m:Nat}{slot:Nat}{s:ar}(h:(yp slot s).1=true):bx m s.den (yp slot s).2.den:=by
 unfold yp at h⊢;split
 case h_2=>exact bx.refl _
 rename_i w id af off n M;split
 case h_2=>exact bx.refl _
 rename_i ks v rows hid;split
 case isFalse=>exact bx.refl _
 rename_i y;obtain⟨rfl,rfl,rfl⟩:=y;simp only[M,hid,and_self,if_true]at h;have hn:=bu h;subst hn;intro E a d;have hH:E.H=ao s.H:=d.H;have hle:=Env.qk d.heap id;have V:=au.drop d.heap id fun o ho=>by
  rw[show E.H[id]? = some (.vec ks.length af (rows.map (aJ ks))) by rw[hH]; exact bl hid]at ho;cases ho;rfl
 have I:ao (s.H.set id (.raw .dead))=E.H.set id .dead:=by rw[dh,hH]; rfl
 refine⟨E.loc.set id none,E.X,?_,?_⟩
 ·simp only [ar.den]
  rw[I];refine⟨rfl,?_,d.defers,V⟩;refine yb (dB hle _ d.fr) fun c y=>?_;have u:=CL d.fr y;rw[show s.den.fr=s.fr from rfl,M]at u;have J:E.H[id]? = some (.vec ks.length af (rows.map (aJ ks))):=by rw[hH]; exact bl hid
  have ho:=d.heap.obj id _ J;rw[iH];simp only[rel]at u⊢;obtain⟨⟨base,cap,rfl,U,_⟩,_,B⟩:=u;obtain⟨q1,q2⟩:=B ⟨_,J,rfl⟩;have N:eZ (rows.map (aJ ks)):=by
   intro r u;obtain⟨g,_,rfl⟩:=dp.1 u;exact fI ks g
  refine⟨N,base,cap,by simp,by simpa using U,?_⟩;simp only[aO]at ho;rcases ho with⟨h1,O⟩|⟨b,mm,h1,O,B,_,h4⟩
  ·exact .inl O
  ·obtain ⟨g1, o, g2, g3⟩ := q2 b mm h1
   by_cases hm:rows=[]
   ·subst hm; exact .inl rfl
   ·right
    have:0<rows.length:=by cases rows with|nil=>exact(hm rfl).elim|cons _ _=>simp
    simp at B;have ho:=g2 (by omega);simp at ho;subst ho;simp only[jD]at g3;refine⟨b,0,g3.1,⟨(d.heap.lt id b mm h1).1,?_,(d.heap.lt id b mm h1).2⟩,km hle.toC _ N rfl h4⟩;rintro(⟨j,c',q⟩|⟨l,k,c',q⟩)
    case inr=>exact d.heap.cR _ _ _ _ _ _ h1 q
    simp only[dW]at q;split at q
    ·split at q<;>cases q
    ·rename_i W
     exact W (d.heap.inj _ _ _ _ _ h1 q)
 ·simp only [ar.den]
  rw[I];exact hle.toM
theorem WR{m:Nat}{slot c:Nat}{ks:List Kd}{s:ar}:bx m s.den (CW slot c ks s).2.den:=by
 unfold CW;split
 case h_2=>exact bx.refl _
 rename_i id af k row col hsl;split
 case h_2=>exact bx.refl _
 rename_i cells hid;split
 case h_2=>exact bx.refl _
 rename_i a0 ha0;split
 case h_2=>exact bx.refl _
 rename_i hnil;intro E a g;have hH:E.H=ao s.H:=g.H;have hlen:E.H.length=s.H.length:=by rw[hH,eD]
 have hle:E.le (E.push E.w (.vec ks.length 0 []) none):=Env.jf g.heap.len (Ext.refl _) (fun b n h=>by cases h);have hobj:aO (E.push E.w (.vec ks.length 0 []) none) E.H.length (.vec ks.length 0 []):=by
  simp only[aO,Env.push];refine .inl ⟨?_,trivial⟩;rw[il (by rw[g.heap.len]; exact aD _),g.heap.len,mP];rfl
 have u:au (E.push E.w (.vec ks.length 0 []) none):=au.push g.heap (Ext.refl _) (fun b n h=>by cases h) hobj;generalize y:E.push E.w (.vec ks.length 0 []) none=d at hle u;have J:d.w=E.w:=by rw[←y]; rfl
 have M:d.X=E.X:=by rw[←y]; rfl
 have N:d.H=ao (s.H++[.vec ks 0 []]):=by rw[←y,gL,←hH]; rfl
 have V:id<s.H.length:=aK hid;have B:d.H[id]? = some (.box cells):=by
  rw[N];exact bl (H:=s.H++[.vec ks 0 []]) (o:=.raw (.box cells)) (by rw[cM V]; exact hid)
 have ho:=u.obj id _ B;simp only[aO]at ho;obtain⟨b,n,h1,h2,O⟩:=ho;have W:∀ v,(ab.box (cells.set c (.vec ks.length s.H.length 0 0 0))).aG = some v→(ab.box cells).aG = some v:=fun v U=>by simpa[ab.aG]using U
 have I:=Env.l_ (o':=.box (cells.set c (.vec ks.length s.H.length 0 0 0))) (w':=d.w) u B h1 W rfl (fun _ _=>rfl);have hnew:d.H[s.H.length]? = some (.vec ks.length 0 []):=by
  rw[N];have e:(s.H++[aj.vec ks 0 []])[s.H.length]? = some (aj.vec ks 0 []):=by rw[il (aD _),mP]; rfl
  exact bl e
 have hloc:d.loc[s.H.length]? = some none:=by
  rw[←y];simp only[Env.push];rw[il (by rw[g.heap.len]; omega),g.heap.len,hlen,mP];rfl
 have hrel:∀ v,rel d a0 v→rel { w:=d.w,H:=d.H.set id (.box (cells.set c (.vec ks.length s.H.length 0 0 0))),loc:=d.loc,X:=d.X } (.vec ks.length s.H.length 0 0 0) v:=by
  intro v U;obtain⟨base,rfl⟩:=Ka hnil U;simp only[rel];have hne:id≠s.H.length:=by omega
  refine⟨⟨base,0,rfl,aD _,fun h=>absurd h (qe _)⟩,⟨.vec ks.length 0 [],by rw[aT hne]; exact hnew,rfl,fun v h=>eC _⟩,fun _=>⟨fun _=>⟨trivial,trivial,base,rfl⟩,fun b m hb=>?_⟩⟩;rw[hloc]at hb;cases hb
 have hHR2:=au.set (w':=d.w) u B h1 W rfl (fun _ _=>rfl) (by
  simp only[aO];refine⟨b,n,h1,by simpa using h2,?_⟩;rw[iu]at O⊢;intro i x q;rw[dW]at q;split at q
  ·rename_i e
   subst e;split at q
   ·cases q
    obtain⟨v,g1,g2,g3⟩:=O c a0 ha0;exact⟨v,g1,g2,hrel v g3⟩
   ·cases q
  ·obtain ⟨v, g1, g2, g3⟩ := O i x q
   exact⟨v,g1,g2,bT I x g3⟩)
 have hden:ao (s.H.set id (.raw (.box (cells.set c (.vec ks.length s.H.length 0 0 0))))++[.vec ks 0 []])=d.H.set id (.box (cells.set c (.vec ks.length s.H.length 0 0 0))):=by
  rw[N,gL,gL,dh,HA _ _ (by rw[eD]; exact V)];rfl
 refine⟨d.loc,E.X,?_,?_⟩
 ·simp only [ar.den]
  rw[hden];rw[J,M]at hHR2;refine⟨rfl,?_,g.defers,hHR2⟩;have:=dB I _ (dB hle _ g.fr);rw[J,M]at this;exact this
 ·simp only [ar.den]
  rw[hden];have:=(hle.trans I).toM (m:=m);rw[J,M]at this;exact this
theorem WS{m:Nat}{slot c:Nat}{s:ar}(h:(yq slot c s).1=true):bx m s.den (yq slot c s).2.den:=by
 unfold yq at h⊢;split
 case h_2=>exact bx.refl _
 rename_i id ver0 k row col hsl;split
 case h_2=>exact bx.refl _
 rename_i cells hid;split
 case h_2=>exact bx.refl _
 rename_i w g af off n U;split
 case h_2=>exact bx.refl _
 rename_i ks v rows M;split
 case isFalse=>exact bx.refl _
 rename_i hc;obtain⟨rfl,rfl,rfl⟩:=hc;simp only[hsl,hid,U,M,and_self,if_true]at h;have hn:=bu h;subst hn;intro E a q;have hH:E.H=ao s.H:=q.H;have hne:id≠g:=fun e=>by
  rw[e,M]at hid;cases hid
 have W:E.H[id]? = some (.box cells):=by rw[hH]; exact bl hid
 have V:E.H[g]? = some (.vec ks.length af (rows.map (aJ ks))):=by rw[hH]; exact bl M
 obtain⟨b0,n0,k1,k2,k3⟩:=q.heap.obj id _ W;rw[iu]at k3;obtain⟨cv,c1,c2,c3⟩:=k3 c _ U;have hfr:=I2 q.heap V c3;have hle:=Env.qk q.heap g;have I:=au.drop q.heap g fun o ho=>by
  rw[V]at ho;cases ho;rfl
 generalize y:({ w:=E.w,H:=E.H.set g .dead,loc:=E.loc.set g none,X:=E.X }:Env)=d at hle I hfr;have J:d.w=E.w:=by rw[←y]
 have O:d.X=E.X:=by rw[←y]
 have N:d.H[id]? = some (.box cells):=by
  rw[←y];show (E.H.set g .dead)[id]? = _
  rw[aT (Ne.symm hne)];exact W
 have hl1:d.loc[id]? = some (some (b0,n0)):=by
  rw[←y];show (E.loc.set g none)[id]? = _
  rw[aT (Ne.symm hne)];exact k1
 obtain⟨b,n,h1,h2,h3⟩:=I.obj id _ N;have hbb:b=b0:=by
  rw[hl1]at h1;cases h1;rfl
 subst hbb;have hver:∀ v,(ab.box (cells.set c (.listF ks rows))).aG = some v→(ab.box cells).aG = some v:=fun v hv=>by simpa[ab.aG]using hv
 have B:=Env.l_ (o':=.box (cells.set c (.listF ks rows))) (w':=d.w) I N h1 hver rfl (fun _ _=>rfl);have hHR2:=au.set (w':=d.w) I N h1 hver rfl (fun _ _=>rfl) (by
  simp only[aO];refine⟨b,n,h1,by simpa using h2,?_⟩;rw[iu]at h3⊢;intro i x u;rw[dW]at u;split at u
  ·rename_i e
   subst e;split at u
   ·cases u
    refine⟨cv,by rw[show ({ w:=d.w,H:=_,loc:=d.loc,X:=d.X }:Env).w=E.w from J]; exact c1,c2,bT B _ hfr⟩
   ·cases u
  ·obtain ⟨v, g1, g2, g3⟩ := h3 i x u
   exact⟨v,g1,g2,bT B x g3⟩)
 have hden:ao ((s.H.set g (.raw .dead)).set id (.raw (.box (cells.set c (.listF ks rows)))))=d.H.set id (.box (cells.set c (.listF ks rows))):=by
  rw[dh,dh,←hH,←y];rfl
 refine⟨d.loc,E.X,?_,?_⟩
 ·simp only [ar.den]
  rw[hden];rw[J,O]at hHR2;refine⟨rfl,?_,q.defers,hHR2⟩;have:=dB B _ (dB hle _ q.fr);rw[J,O]at this;exact this
 ·simp only [ar.den]
  rw[hden];have:=(hle.trans B).toM (m:=m);rw[J,O]at this;exact this
theorem WT{m:Nat}{slot c:Nat}{ks:List Kd}{s:ar}:bx m s.den (CY slot c ks s).2.den:=by
 unfold CY;split
 case h_2=>exact bx.refl _
 rename_i id W k row col hsl;split
 case h_2=>exact bx.refl _
 rename_i cells hid;split
 case h_2=>exact bx.refl _
 rename_i w rows I;split
 case h_2=>exact bx.refl _
 rename_i gs M;split
 case isFalse=>exact bx.refl _
 rename_i hw;subst hw;intro E a d;have hH:E.H=ao s.H:=d.H;have q:E.H[id]? = some (.box cells):=by rw[hH]; exact bl hid
 obtain⟨b,n,h1,N,u⟩:=d.heap.obj id _ q;have y:∀ v,(ab.box (cells.set c (.listF ks gs))).aG = some v→(ab.box cells).aG = some v:=fun v O=>by simpa[ab.aG]using O
 have h:=Env.l_ (o':=.box (cells.set c (.listF ks gs))) (w':=E.w) d.heap q h1 y rfl (fun _ _=>rfl);have J:=au.set (w':=E.w) d.heap q h1 y rfl (fun _ _=>rfl) (by
  simp only[aO];refine⟨b,n,h1,by simpa using N,?_⟩;rw[iu]at u⊢;intro i x g;rw[dW]at g;split at g
  ·rename_i e
   subst e;split at g
   ·cases g
    obtain⟨U,c1,c2,V⟩:=u c _ I;refine⟨U,c1,c2,bT h _ ?_⟩;rw[iH,oY M];exact V
   ·cases g
  ·obtain ⟨v, g1, g2, g3⟩ := u i x g
   exact⟨v,g1,g2,bT h x g3⟩)
 have B:ao (s.H.set id (.raw (.box (cells.set c (.listF ks gs)))))=E.H.set id (.box (cells.set c (.listF ks gs))):=by rw[dh,←hH]; rfl
 refine⟨E.loc,E.X,?_,?_⟩
 ·simp only [ar.den]
  rw[B];exact⟨rfl,dB h _ d.fr,d.defers,J⟩
 ·simp only [ar.den]
  rw[B];exact h.toM
theorem WU{m:Nat}{slot:Nat}{s:ar}(h:(yr slot s).1=true):bx m s.den (yr slot s).2.den:=by
 unfold yr at h⊢;split
 case h_2=>exact bx.refl _
 rename_i w id af off n N;split
 case h_2=>exact bx.refl _
 rename_i ks v rows hid;split
 case isFalse=>exact bx.refl _
 rename_i B;obtain⟨rfl,rfl,rfl⟩:=B;simp only[N,hid,and_self,if_true]at h;have hn:=s7 h;intro E a d;have hH:E.H=ao s.H:=d.H;have y:E.H[id]? = some (.vec ks.length af (rows.map (aJ ks))):=by rw[hH]; exact bl hid
 have ho:=d.heap.obj id _ y;obtain⟨l,I⟩:∃ l,E.loc[id]? = some l:=by
  have:id<E.loc.length:=by rw[d.heap.len]; exact aK y
  exact⟨_,bL this⟩
 have O:E.loc.set id l=E.loc:=ll I;have M:ao (s.H.set id (.vec ks (af+1) (rows.take n)))=E.H.set id (.vec ks.length (af+1) ((rows.take n).map (aJ ks))):=by rw[dh,hH]; rfl
 have hlc:∀ b n,l=some (b,n)→E.w.heap.size≤b∨∃ m,E.loc[id]? = some (some (b,m)):=fun b n hb=>.inr ⟨n,by rw[I,hb]⟩;have U:∀ v u,(ab.vec ks.length (af+1) ((rows.take n).map (aJ ks))).aG = some v→(ab.vec ks.length af (rows.map (aJ ks))).aG = some u→u≤v:=by
  intro v u h1 k;simp[ab.aG]at h1 k;omega
 have V:∀ v,(ab.vec ks.length (af+1) ((rows.take n).map (aJ ks))).aG = some v→∀ u,(ab.vec ks.length af (rows.map (aJ ks))).aG = some u→u<v:=by
  intro v h1 u k;simp[ab.aG]at h1 k;omega
 have hle:=Env.jg (o':=.vec ks.length (af+1) ((rows.take n).map (aJ ks))) (l:=l) (w':=E.w) y d.heap.len (aD _) (fun _ _ _=>rfl) hlc (.inr V) U (fun _ h=>by simp[ab.aG]at h);have W:=au.kr (o':=.vec ks.length (af+1) ((rows.take n).map (aJ ks))) (l:=l) (w':=E.w) d.heap y (aD _) (fun _ _ _=>rfl) (fun b n hb=>.inr ⟨n,by rw[I,hb]⟩) (.inr V) U (fun _ h=>by simp[ab.aG]at h) (by
  rw[O]at hle⊢;simp only[aO]at ho⊢;rcases ho with⟨h1,k⟩|⟨b,mm,h1,k,J,h4,h5⟩
  ·left
   refine⟨h1,?_⟩;have:rows=[]:=by simpa using k
   rw[this];simp
  ·right
   refine⟨b,mm,h1,k,by simp at J⊢; omega,?_,?_⟩
   ·intro r q
    obtain⟨g,_,rfl⟩:=dp.1 q;exact fI ks g
   ·rw [lb] at h5 ⊢
    intro i r hi;simp only[ch,lP]at hi;split at hi
    ·obtain ⟨g1, g2⟩ := h5 i r (by simpa using hi)
     exact⟨g1,tb (fun a c q=>bT hle a q) rfl g2⟩
    ·simp at hi)
 rw[O]at hle W;refine⟨E.loc,E.X,?_,?_⟩
 ·simp only [ar.den]
  rw[M];refine⟨rfl,?_,d.defers,W⟩;refine yb (dB hle _ d.fr) fun c B=>?_;have q:=CL d.fr B;rw[show s.den.fr=s.fr from rfl,N]at q;simp only[rel]at q⊢;obtain⟨h1,k,J⟩:=q;exact⟨h1,⟨.vec ks.length (af+1) ((rows.take n).map (aJ ks)),bC (aK y),rfl,fun v hv=>by simp[ab.aG]at hv; omega⟩,fun _=>J ⟨_,y,rfl⟩⟩
 ·simp only [ar.den]
  rw[M];exact hle.toM
theorem WV{m:Nat}{ks:List Kd}{s:ar}:bx m s.den (ar.den ⟨s.fr,s.H++[.vec ks 0 []]⟩):=fun E a d=>by
 have hH:E.H=ao s.H:=d.H;have hle:E.le (E.push E.w (.vec ks.length 0 []) none):=Env.jf d.heap.len (Ext.refl _) (fun b n h=>by cases h);have k:aO (E.push E.w (.vec ks.length 0 []) none) E.H.length (.vec ks.length 0 []):=by
  simp only[aO,Env.push];refine .inl ⟨?_,trivial⟩;rw[il (by rw[d.heap.len]; exact aD _),d.heap.len,mP];rfl
 have q:au (E.push E.w (.vec ks.length 0 []) none):=au.push d.heap (Ext.refl _) (fun b n h=>by cases h) k;have g:(ar.den ⟨s.fr,s.H++[.vec ks 0 []]⟩).H=E.H++[.vec ks.length 0 []]:=by
  rw[hH];simp[ar.den,ao,aj.den]
 refine⟨E.loc++[none],E.X,?_,?_⟩
 ·rw [g]
  exact⟨g.symm,dB hle _ d.fr,d.defers,q⟩
 ·rw [g]
  exact hle.toM
theorem WW{m:Nat}{s:ar}:bx m s.den (ar.den ⟨s.fr,s.H++[.raw .dP]⟩):=fun E a d=>by
 have hH:E.H=ao s.H:=d.H;have hle:E.le (E.push E.w (.dP) none):=Env.jf d.heap.len (Ext.refl _) (fun b n h=>by cases h);have k:aO (E.push E.w (.dP) none) E.H.length (.dP):=by
  simp only[aO,Env.push];rw[il (by rw[d.heap.len]; exact aD _),d.heap.len,mP];rfl
 have q:au (E.push E.w (.dP) none):=au.push d.heap (Ext.refl _) (fun b n h=>by cases h) k;have g:(ar.den ⟨s.fr,s.H++[.raw .dP]⟩).H=E.H++[.dP]:=by
  rw[hH];simp[ar.den,ao,aj.den]
 refine⟨E.loc++[none],E.X,?_,?_⟩
 ·rw [g]
  exact⟨g.symm,dB hle _ d.fr,d.defers,q⟩
 ·rw [g]
  exact hle.toM
theorem WX{m:Nat}{slot l:Nat}{s:ar}(h:(yt slot l s).1=true):bx m s.den (yt slot l s).2.den:=by
 unfold yt at h⊢;split
 case h_2=>exact bx.refl _
 rename_i id u;split
 case h_2=>exact bx.refl _
 rename_i K ks cl hid;simp only[u,hid]at h;intro E a d;have hH:E.H=ao s.H:=d.H;have q:E.H[id]? = some (.map [] cl):=by rw[hH]; exact bl hid
 obtain⟨h1,k⟩:=T7 (w:=ks.length) d.heap q (by rw[hH]; exact h);have g:ao (s.H.set id (.aI l K ks [] cl))=E.H.set id (.aI l ks.length [] cl):=by rw[dh,hH]; rfl
 refine⟨E.loc,E.X,?_,?_⟩
 ·simp only [ar.den]
  rw[g];exact⟨rfl,dB k _ d.fr,d.defers,h1⟩
 ·simp only [ar.den]
  rw[g];exact k.toM
theorem WY{m:Nat}{slot l:Nat}{KI VI:Ct}{s:ar}(h:(yw slot l KI VI s).1=true):bx m s.den (yw slot l KI VI s).2.den:=by
 unfold yw at h⊢;split
 case h_2=>exact bx.refl _
 rename_i id u;split
 case h_2=>exact bx.refl _
 rename_i K V cl hid;simp only[u,hid]at h;intro E a d;have hH:E.H=ao s.H:=d.H;have q:E.H[id]? = some (.map [] cl):=by rw[hH]; exact bl hid
 obtain⟨h1,k⟩:=IU d.heap q (by rw[hH]; exact h);have g:ao (s.H.set id (.mm l K KI VI [] [] cl))=E.H.set id (.mm l [] [] cl):=by rw[dh,hH]; rfl
 refine⟨E.loc,E.X,?_,?_⟩
 ·simp only [ar.den]
  rw[g];exact⟨rfl,dB k _ d.fr,d.defers,h1⟩
 ·simp only [ar.den]
  rw[g];exact k.toM
theorem WZ{m:Nat}{slot c l:Nat}{KI VI:Ct}{s:ar}(h:(yx slot c l KI VI s).1=true):bx m s.den (yx slot c l KI VI s).2.den:=by
 unfold yx at h⊢;split
 case h_2=>exact bx.refl _
 rename_i a _ _ _ _ u;split
 case h_2=>exact bx.refl _
 rename_i cells v;split
 case h_2=>exact bx.refl _
 rename_i id y;split
 case h_2=>exact bx.refl _
 rename_i K V rows cl hid;simp only[u,v,y,hid,rr]at h;obtain⟨h,he⟩:=h;have he:rows=[]:=by cases rows with|nil=>rfl|cons _ _=>cases he
 subst he;intro E act d;have hH:E.H=ao s.H:=d.H;have q:E.H[id]? = some (.map [] cl):=by rw[hH]; exact bl hid
 obtain⟨h1,k⟩:=IU d.heap q (by rw[hH]; exact h);have g:ao (s.H.set id (.mm l K KI VI [] [] cl))=E.H.set id (.mm l [] [] cl):=by rw[dh,hH]; rfl
 refine⟨E.loc,E.X,?_,?_⟩
 ·simp only [ar.den]
  rw[g];exact⟨rfl,dB k _ d.fr,d.defers,h1⟩
 ·simp only [ar.den]
  rw[g];exact k.toM
theorem au.forget{E:Env}(H:au E){id l0:Nat}{o:ab}(hid:E.H[id]? = some o)(hlab:o.label=some l0)(W:o.aG = some 0) :
  au { w:=E.w,H:=E.H.set id (.vec 0 1 []),loc:=E.loc.set id none,X:=E.X.re (gU E.X.r l0) }∧E.le { w:=E.w,H:=E.H.set id (.vec 0 1 []),loc:=E.loc.set id none,X:=E.X.re (gU E.X.r l0) }:=by
 have I:=aK hid;have hltl:id<E.loc.length:=by rw[H.len]; exact I
 have J:∀(i:Nat) x,(E.H.set id (.vec 0 1 []))[i]? = some x→(i=id∧x=.vec 0 1 [])∨(i≠id∧E.H[i]? = some x):=fun i x hi=>by
  by_cases d:i=id
  ·subst d
   rw[bC I]at hi;cases hi;exact .inl ⟨rfl,rfl⟩
  ·rw [aT (Ne.symm d)] at hi
   exact .inr ⟨d,hi⟩
 have B:∀(i b m:Nat),(E.loc.set id none)[i]? = some (some (b,m))→i≠id∧E.loc[i]? = some (some (b,m)):=fun i b m hi=>by
  by_cases d:i=id
  ·subst d
   rw[bC hltl]at hi;cases hi
  ·rw [aT (Ne.symm d)] at hi
   exact⟨d,hi⟩
 have hle:E.le { w:=E.w,H:=E.H.set id (.vec 0 1 []),loc:=E.loc.set id none,X:=E.X.re (gU E.X.r l0) }:=by
  refine⟨fun i af M=>?_,aD _,fun _ _ _=>rfl,fun b hb hno=>?_,fun i af M u=>?_,⟨rfl,rfl⟩,fun l h hh=>?_,.refl _,fun i l x h1 g N=>?_⟩
  rotate_right
  ·by_cases d : i = id
   ·subst d
    obtain⟨y,q,O⟩:=N;rw[show (E.H.set i (.vec 0 1 []))[i]? = some (.vec 0 1 []) from bC I]at q;cases q;cases O
   ·have U : l ≠ l0 := fun U => d (H.uniq i id x o l h1 hid (ab.kh g) (by rw [U]; exact hlab))
    exact⟨⟨[],by rw[da]; exact if_neg U⟩,x,by simp only[]; rw[aT (Ne.symm d)]; exact h1,g⟩
  ·obtain ⟨x, h1, g⟩ := M
   by_cases d:i=id
   ·subst d
    rw[hid]at h1;cases h1;have:=g.2 0 W;exact⟨.vec 0 1 [],by simp only[]; rw[bC I],rfl,fun v N=>by cases N; omega⟩
   ·exact⟨x,by simp only[]; rw[aT (Ne.symm d)]; exact h1,g⟩
  ·rintro (⟨i, c, hi⟩ | ⟨l, h, m, hm⟩)
   ·exact hno (.inl ⟨i,c,(B i b c hi).2⟩)
   ·exact hno (.inr ⟨l,h,m,(ix hm).1⟩)
  ·obtain ⟨x, h1, g⟩ := u
   rcases J i x h1 with⟨rfl,rfl⟩|⟨d,q⟩
   ·cases g
    obtain⟨y,q,O⟩:=M;rw[hid]at q;cases q;have:=O.2 0 W;omega
   ·exact⟨⟨x,q,g⟩,aT (Ne.symm d)⟩
  ·refine ⟨?_, fun y V => (ix V).1⟩
   show h<(gU E.X.r l0 l).length
   rw[IQ];exact hh
 refine⟨⟨by simp[H.len],fun i j b m n hi hj=>H.inj i j b m n (B _ _ _ hi).2 (B _ _ _ hj).2,fun i b m hi=>H.lt i b m (B _ _ _ hi).2,H.X,fun i x hi=>?_,H.e9.bI hle.toC,fun l h l' h' b m n h1 g=>H.eG _ _ _ _ _ _ _ (ix h1).1 (ix g).1,fun i b m l h n hi hk=>H.cR _ _ _ _ _ _ (B _ _ _ hi).2 (ix hk).1,fun l h b m hk=>H.cz _ _ _ _ (ix hk).1,fun i k x y l hi hk h1 g=>?_,fun l hn h y V=>?_⟩,hle⟩
 ·rcases J i x hi with ⟨rfl, rfl⟩ | ⟨d, q⟩
  ·simp only [aO]
   exact .inl ⟨bC hltl,trivial⟩
  ·refine jG (fun a _ hr => bT hle a hr) (aT (Ne.symm d)) (fun _ _ _ => rfl) (fun l u => ?_) (H.obj i x q)
   have hne2:l≠l0:=fun e=>d (H.uniq i id x o l q hid u (by rw[hlab,e]));exact⟨if_neg hne2,fun _ _ _ _=>rfl⟩
 ·have key:∀ (i:Nat) x,(E.H.set id (.vec 0 1 []))[i]? = some x→x.label=some l→E.H[i]? = some x:=by
   intro i x hi u;rcases J i x hi with⟨rfl,rfl⟩|⟨d,q⟩
   ·cases u
   ·exact q
  exact H.uniq i k x y l (key i x hi h1) (key k y hk g) h1 g
 ·obtain ⟨g1, g2⟩ := ix V
  refine H.fW l (fun i x hi u=>?_) h y g1;by_cases e:i=id
  ·subst e
   rw[hid]at hi;cases hi;exact g2 (by rw[hlab]at u; cases u; rfl)
  ·exact hn i x (by show (E.H.set id (.vec 0 1 []))[i]? = _; rw[aT (Ne.symm e)]; exact hi) u
theorem au.W0{E:Env}(H:au E){id:Nat}{o:ab}(hid:E.H[id]? = some o)(hlab:o.label=none)(k:o.aG = some 0) :
  au { w:=E.w,H:=E.H.set id (.vec 0 1 []),loc:=E.loc.set id none,X:=E.X }∧E.le { w:=E.w,H:=E.H.set id (.vec 0 1 []),loc:=E.loc.set id none,X:=E.X }:=by
 have I:=aK hid;have B:id<E.loc.length:=by rw[H.len]; exact I
 have d:∀ v,(ab.vec 0 1 []).aG = some v→∀ u,o.aG = some u→u<v:=fun v g u hu=>by
  rw[k]at hu;cases hu;cases g;exact Nat.zero_lt_one
 have q:∀ v u,(ab.vec 0 1 []).aG = some v→o.aG = some u→u≤v:=fun v u g hu=>Nat.le_of_lt (d v g u hu);have y:o.born=true→o.aG = none→(ab.vec 0 1 []).aG = none:=fun _ h=>by rw[k]at h; cases h
 refine⟨au.kr H hid (aD _) (fun _ _ _=>rfl) (fun _ _ h=>by cases h) (.inr d) q y ?_ (hlab:=hlab),Env.jg hid H.len (aD _) (fun _ _ _=>rfl) (fun _ _ h=>by cases h) (.inr d) q y (hmm:=.inl (ab.wK hlab))⟩;simp only[aO];exact .inl ⟨bC B,trivial⟩
theorem W1{m:Nat}{id:Nat}{s:ar}:bx m s.den (CX id s).2.den:=by
 have h:∀ o:aj,s.H[id]? = some o→o.den.label=none→o.den.aG = some 0→bx m s.den (ar.den ⟨s.fr,s.H.set id (.vec [] 1 [])⟩):=fun o hid h1 k=>by
  intro E a d;have hH:E.H=ao s.H:=d.H;obtain⟨g1,g2⟩:=au.W0 d.heap (by rw[hH]; exact bl hid) h1 k;have g:ao (s.H.set id (.vec [] 1 []))=E.H.set id (.vec 0 1 []):=by rw[dh,hH]; rfl
  refine⟨E.loc.set id none,E.X,?_,?_⟩
  ·simp only [ar.den]
   rw[g];exact⟨rfl,dB g2 _ d.fr,d.defers,g1⟩
  ·simp only [ar.den]
   rw[g];exact g2.toM
 unfold CX;split
 ·rename_i hid
  exact h _ hid rfl rfl
 ·rename_i hid
  exact h _ hid rfl rfl
 ·rename_i l K KI VI rows mem cl hid
  intro E a d;have hH:E.H=ao s.H:=d.H;obtain⟨g1,g2⟩:=au.forget (l0:=l) d.heap (by rw[hH]; exact bl hid) rfl rfl;have g:ao (s.H.set id (.vec [] 1 []))=E.H.set id (.vec 0 1 []):=by rw[dh,hH]; rfl
  refine⟨E.loc.set id none,E.X.re (gU E.X.r l),?_,?_⟩
  ·simp only [ar.den]
   rw[g];exact⟨rfl,dB g2 _ d.fr,d.defers,g1⟩
  ·simp only [ar.den]
   rw[g];exact g2.toM
 ·exact bx.refl _
theorem W2{m:Nat}{slot:Nat}{s:ar}(h:(yv slot s).1=true):bx m s.den (yv slot s).2.den:=by
 unfold yv at h⊢;split
 case h_2=>exact bx.refl _
 rename_i id J;split
 case h_2=>exact bx.refl _
 rename_i l K ks rows cl hid;simp only[J,hid]at h;intro E a d;have hH:E.H=ao s.H:=d.H;have v:E.H[id]? = some (.aI l ks.length (f_ K ks rows) cl):=by rw[hH]; exact bl hid
 have ho:=d.heap.obj id _ v;simp only[aO]at ho;obtain⟨b,n,ms,g1,g2,g3,hh,k1,U⟩:=ho;obtain⟨h1,B⟩:=au.T3 (o':=.map (dj K (.one (.list ks)) rows) cl) d.heap v rfl rfl rfl fun hle=>by
  simp only[aO];refine⟨b,n,ms,g1,g2,?_⟩;rw[eg]at g3⊢;obtain⟨V,W⟩:=g3;refine⟨by simpa[dj,cF,f_]using V,fun i x e q he=>?_⟩;unfold dj at q;rw[ch]at q;obtain⟨r,k,rfl⟩:=dV.1 q;have I:=tW (K:=K) (ks:=ks) k;have M:(gi r 3).bool=true:=cQ.1 h r (eX k);obtain⟨a1,a2,a3,a4,a5⟩:=W i _ e (xf I) he;refine⟨bT hle _ a1,?_,a3,a4,rfl⟩;have N:=U i _ ((jP r).map (aJ ks)) e I (by simp only[jk,M,cond_true]) he;show rel _ (.listF ks (jP r)) e.val
  rw[iH];simp only[rel];have O:eZ ((jP r).map (aJ ks)):=by
   intro r k;obtain⟨g,_,rfl⟩:=dp.1 k;exact fI ks g
  refine⟨O,?_⟩;rcases N with⟨s1,base,s2⟩|⟨bb,mm,s1,s2,s3,s4,s5,s6⟩
  ·rw [s1]
   exact⟨base,0,s2,aD _,.inl rfl⟩
  ·refine ⟨_, mm, s2, s4, .inr ⟨bb, 0, rfl, ⟨(d.heap.cz _ _ _ _ s1).1, ?_, (d.heap.cz _ _ _ _ s1).2⟩, kn (fun a _ k => bT hle a k) rfl s6⟩⟩
   rintro(⟨j,c',u⟩|⟨l',k',c',u⟩)
   ·exact d.heap.cR _ _ _ _ _ _ u s1
   ·obtain ⟨j1, j2⟩ := ix u
    exact j2 (d.heap.eG _ _ _ _ _ _ _ j1 s1).1
 have y:ao (s.H.set id (.map K (.one (.list ks)) rows cl))=E.H.set id (.map (dj K (.one (.list ks)) rows) cl):=by rw[dh,hH]; rfl
 refine⟨E.loc,E.X.re (gU E.X.r l),?_,?_⟩
 ·simp only [ar.den]
  rw[y];exact⟨rfl,dB B _ d.fr,d.defers,h1⟩
 ·simp only [ar.den]
  rw[y];exact B.toM
theorem W3{m:Nat}(h:Hint)(s:ar)(hb:(yy h s).1=true):bx m s.den (yy h s).2.den:=by
 cases h with
 |freeze i=>exact WQ hb
 | K5 i ks =>
  simp only[yy];split
  ·rename_i h; exact Kb h
  ·exact bx.refl _
 |K6 i c ks=>exact WR
 |yn i=>exact WU hb
 |K7 i c=>exact WS hb
 |hole ks=>exact WV
 |rD=>exact WW
 |aI i l=>exact WX hb
 |yo i=>exact W2 hb
 |mm i l KI VI=>exact WY hb
 |rE i c l KI VI=>exact WZ hb
 |forget i=>exact W1
 |K8 i c ks=>exact WT
theorem K9{m:Nat}:∀(d:List Hint) (s:ar),(uE d s).1=true→bx m s.den (uE d s).2.den
 | [],s,_=>bx.refl _
 | h::d,s,hb=>by
  simp only[uE]at hb⊢;simp only[az]at hb;exact(W3 h s hb.1).trans (K9 d _ hb.2)
def K_:List (Nat × List Hint)→Nat→List Hint
 | [],_=>[]
 | (i,d)::l,id=>match ad id i with
  |true=>d
  |false=>K_ l id
def LT.iD(L:LT)(d:List (Nat × List Hint)):LT:=⟨L.loops,fun id s=>uE (K_ d id) s,L.uj⟩
theorem nN{P:Program}{m:Nat}{c:Code}(d:List (Nat × List Hint)):ax P m (ay.iD d) c:=⟨fun _ _ _ _ _ h=>(nomatch h),fun id s hb=>K9 _ s hb,fun _ _ _ _ _ h=>(nomatch h)⟩
end Go.AL

namespace Go.AL
open Go
variable [Dr]
end Go.AL

namespace Go.AL
open Go Go.ChangeMaps
variable [Dr]
theorem bQ.iT{s:St}{E:Env}{a:Act}(d:bQ s E a)(t:Tmp){v:AV}{u:Value}(g:rel E v u):bQ (s.put (some t) v s.H) E (a.put (some t) u) :=
 ⟨d.H,I3 d.fr (Env.le.refl E) (some t) g,by rw[put_defers]; exact d.defers,d.heap⟩
theorem pt{m:Nat}{E E':Env}(h:E.dv m E'):E.bI E' :=
 ⟨fun b hb=>⟨⟨Nat.lt_of_lt_of_le hb.1 h.size,h.own b hb.1 hb.2.1,fun d=>hb.2.2 ((h.X b hb.1).1.1 d)⟩,h.same b hb.1 hb.2.1⟩⟩
theorem jW{P:Program}{ops:Array Oper}{Q:Exit→Act→World→Prop}{i:Nat}{o:Oper}{K:Act→World→Prop}{a:Act}{w w':World}{u:Value}
  (hi:ops[i]? = some o) (g:o.guard=none) (h:(execOp a.eval o).run P w=.ok (.value u) w') (d:∀ c,o.op≠.defer c) (ro:Option Nat) (k:K (a.put o.dst u) w'):wpOpIn (fz ro) 0 P ops Q i K a w:=by
 unfold wpOpIn;simp only[hi];rw[if_pos (by simp[Region.wanted,g])];unfold Oper.wpIn;rw[Oper.semAt_eq _ _ _ d,h];exact⟨fun _ _=>trivial,k⟩
theorem yz{P:Program}{pf:FuncId→Bool}{ops:Array Oper}{Q:Exit→Act→World→Prop}(ro:Option Nat):∀(l:List Oper) (k:Nat) (s s':St) (E:Env) (a:Act) (rest:List Nat),
  (∀(j:Nat) (o:Oper),l[j]? = some o→ops[k+j]? = some o)→fM P pf ops l s s'→bQ s E a→(∀ d w',eR E s' d w'→wpOpsIn (fz ro) 0 P ops Q rest d w')→wpOpsIn (fz ro) 0 P ops Q (sV k l.length++rest) a E.w
 | [],k,s,s',E,a,rest,_,h,g,q=>by
  simp only[fM]at h;subst h;exact q _ _ (eR.refl g)
 | o::l,k,s,s',E,a,rest,u,h,g,q=>by
  obtain⟨v,H',J,y⟩:=h;simp only[cD,Ht,lR];rw[wpOpsIn_cons];refine BI g (by simpa using u 0 o rfl) J (fun d w' M=>?_) ro;obtain⟨B,r',h1,N⟩:=M;refine yz ro l (k+1) _ s' { w:=w',H:=H',loc:=B,X:=E.X.re r' } d rest (fun j x O=>?_) y h1 (fun a2 U I=>q a2 U (eR.after N I));have:=u (j+1) x (by simpa using O)
  rwa [show k+1+j=k+(j+1) from by omega]
theorem nO{a:Act}{t:Tmp}{u:Value}(h:t<a.tmps.size):(a.put (some t) u).eval (.tmp t)=u:=by
 simp[Act.eval,wu,h]
def Tree.jX:Tree→Option (bV × ar)
 |.fail=>none
 |.done x s=>some (x,s)
 | .ask b t e=>match b with
  |true=>t.jX
  |false=>e.jX
 | .side b t=>match b with
  |true=>t.jX
  |false=>none
theorem uF:∀{t:Tree} {x:bV} {s:ar},t.jX=some (x,s)→t.holds fun d s'=>d=x∧s'=s
 |.fail,_,_,h=>by cases h
 | .done _ _,_,_,h=>by
  cases h;exact⟨rfl,rfl⟩
 | .ask b t e,_,_,h=>by
  cases b with
  |true=>exact⟨fun _=>uF (t:=t) h,fun h=>(nomatch h)⟩
  |false=>exact⟨fun h=>(nomatch h),fun _=>uF (t:=e) h⟩
 | .side b t,_,_,h=>by
  cases b with
  |true=>exact⟨rfl,uF (t:=t) h⟩
  |false=>cases h
def cL(st:List G→List G→Option (List G))(bf:List G→Nat):List (List G)→List G→Option (List G)
 | [],d=>some d
 | r::rs,d=>match st r d with
  |some d'=>bif ad (bf d') (bf d) then cL st bf rs d' else none
  |none=>none
theorem uG{st:List G→List G→Option (List G)}{bf:List G→Nat}:∀(p q:List (List G)) (d:List G),cL st bf (p++q) d=(cL st bf p d).bind (cL st bf q)
 | [],_,_=>rfl
 | r::p,q,d=>by
  simp only[lR,cL];cases st r d with
  |none=>rfl
  | some d' =>
   simp only[];cases ad (bf d') (bf d)with
   |false=>rfl
   |true=>exact uG p q d'
def c6(r:List G):Nat:=(gi r 2).int.toNat
theorem yA{f:List G→Nat}{r:List G}:∀{l:List (List G)} {seen:Array Nat},(l.map f).Nodup→r∈l→seen.contains (f r)=false →
  (l.filter fun x => !seen.contains (f x)).Perm (r::l.filter fun x => !(seen.push (f r)).contains (f x))
 | [],_,_,h,_=>by cases h
 | x::l,seen,d,hm,g=>by
  obtain⟨k,d⟩:=lW.1 d;rcases bY.1 hm with rfl|hm
  ·have e:(l.filter fun x => !(seen.push (f r)).contains (f x))=l.filter fun x => !seen.contains (f x):=by
    apply List.filter_congr;intro y v;have:(f y==f r)=false:=by
     rw[beq_eq_false_iff_ne];intro e;exact k (e▸dp.2 ⟨y,v,rfl⟩)
    rw[contains_push,this,HG]
   rw[List.filter_cons_of_pos (by rw[g]; rfl),List.filter_cons_of_neg (by rw[contains_push]; simp),e]
  ·have u:(f x==f r)=false:=by
    rw[beq_eq_false_iff_ne];intro e;exact k (e▸dp.2 ⟨r,hm,rfl⟩)
   have q:=yA d hm g;simp only[List.filter_cons,contains_push seen (f r) (f x),u,HG];cases seen.contains (f x)with
   |true=>simpa using q
   | false =>
    simp only[Bool.not_false,if_true];exact(List.Perm.cons x q).trans (List.Perm.swap r x _)
structure fy where
 inv:mw
 ps:List jt
 opens:List (Nat × List Kd)
 K:Ct
 V:Ct
 id:Nat
 x:Tmp
 y:Tmp
 it:Tmp
 t1:Tmp
 t2:Tmp
 t3:Tmp
 bf:List G→Nat
 init:List G→Nat→List G
 side:List G→Nat→Bool
 st:List G→List G→Option (List G)
def fy.rs(sp:fy)(r d:List G):ar:=⟨(aR sp.inv d).fr.set sp.t3 (.tuple [sp.K.av (gi r 0).row,sp.V.av (gi r 1).row]),(aR sp.inv d).H⟩
def fy.s2(sp:fy)(s:ar)(b:Nat):ar:=⟨s.fr.set sp.it (.lit (.pointer (some ⟨b,0,none⟩))),s.H.set sp.id (.raw .dead)⟩
def yB(m:Nat)(inv:mw)(ps:List jt)(x:bV)(s:ar):Option (Bool × List G) :=
 match x with
 |.normal=>ia m inv ps s
 |_=>none
structure mz (P:Program) (sp:fy) (bk bU bB:Array Oper):Prop where
 r0:∃ o2 ty,bk.toList=bk.toList.dropLast++[o2]∧o2.guard=none∧o2.op=.range ty (.tmp sp.y)∧o2.dst=some sp.it∧(c8 P ty).isSome=true
 r1:∃ o1 o2,bU.toList=[o1,o2]∧o1.guard=none∧o1.op=.next (.tmp sp.it) false∧o1.dst=some sp.t1∧o2.guard=none∧o2.op=.extract (.tmp sp.t1) 0∧o2.dst=some sp.t2
 r2:∃ o1 l,bB.toList=o1::l∧o1.guard=none∧o1.op=.entry (.tmp sp.it)∧o1.dst=some sp.t3
def kM(r0 b0 r1 b1 r2:Nat)(bk bU bB:Array Oper)(t2:Tmp)(body:Code):Code :=
 .seq (.region r0 bk false) (.block b0 (.loop (.seq (.region r1 bU false) (.seq (.cond (.tmp t2) .skip (.exit b0)) (.block b1 (.seq (.region r2 bB false) body))))))
theorem La{ro:Option Nat}{r0 b0 r1 b1 r2:Nat}{bk bU bB:Array Oper}{t2:Tmp}{body:Code}(h:eI ro (kM r0 b0 r1 b1 r2 bk bU bB t2 body)):eI ro body:=h.imp id fun h=>by
 simpa[kM,fN]using h
section range
variable {P:Program} {τ:ak} {L:LT} {m:Nat} {sp:fy} {bk bU bB:Array Oper} {body:Code}
def jv(P:Program)(τ:ak)(L:LT)(m:Nat)(sp:fy)(bB:Array Oper)(body:Code):Prop :=
 ∀ r d,(lu P τ bB (bB.toList.drop 1) (sp.rs r d) (fun s=>en P τ L body s .done)).leaf (yB m sp.inv sp.ps)=sp.st r d
theorem Lb(hm:P.follows .mixedOrders=true)(q:al P τ)(u:ax P m L body)(v:jv P τ L m sp bB body){r d d':List G}(h:sp.st r d=some d') :
  ∃ k:ar,fM P τ.pf bB (bB.toList.drop 1) (sp.rs r d).den k.den∧c5 P m body k.den .normal (aR sp.inv d').den:=by
 rw[←v r d]at h;obtain⟨k,h1,y⟩:=xR q (Q:=fun x s=>yB m sp.inv sp.ps x s=some (true,d')) (nG h);obtain⟨x,B,I,g⟩:=gM hm q body k .done u y;have g:yB m sp.inv sp.ps x B=some (true,d'):=g;unfold yB at g;split at g
 ·exact⟨k,h1,qJ I (lx g)⟩
 ·cases g
def Lc(m:Nat)(sp:fy)(E:Env)(rows:List (List G))(d0:List G)(itb mb clock:Nat)(ms:Array MapEntry)(a:Act)(w:World):Prop :=
 ∃(d:List G) (loc:List (Option (Nat × Nat))) (X:XS) (seen:Array Nat) (last:Nat) (p:List (List G)),
  cL sp.st sp.bf p d0=some d∧sp.bf d=itb∧(p++rows.filter fun x => !seen.contains (c6 x)).Perm rows ∧
  bQ (aR sp.inv d).den { w:=w,H:=(aR sp.inv d).den.H,loc:=loc,X:=X } a∧E.dv m { w:=w,H:=(aR sp.inv d).den.H,loc:=loc,X:=X }∧X itb ∧
  w.heap[itb]? = some (.mapIter (some mb) clock seen last)∧clock≤last∧w.heap[mb]? = some (.map ms clock) ∧
  ¬ Env.own { w:=w,H:=(aR sp.inv d).den.H,loc:=loc,X:=X } mb∧bD { w:=w,H:=(aR sp.inv d).den.H,loc:=loc,X:=X } (dj sp.K sp.V rows) ms.toList
theorem bQ.nP{s:St}{E:Env}{a:Act}(d:bQ s E a){t:Tmp}(hu:s.fr[t]? = some .undef)(u:Value):bQ s E (a.put (some t) u):=by
 have h:=d.iT t (v:=.undef) (u:=u) (by simp[rel]);have e:s.put (some t) .undef s.H=s:=by
  simp only[St.put,iL,ll hu]
 rwa [e]at h
theorem yC{s:St}{E:Env}{a:Act}(g:bQ s E a){t:Tmp}{v:AV}(hu:s.fr[t]? = some v):t<a.tmps.size:=by
 have h1:s.fr.length=a.tmps.size:=by simpa using(l4.1 g.fr).1
 have d:t<s.fr.length:=aK hu;rw[h1]at d;exact d
theorem yD{o:Oper}{t:Tmp}{a:Act}{w:World}{cs:Array Value}{u:Value}(d:o.op=.extract (.tmp t) 0)(g:a.eval (.tmp t)=.tuple cs)(h:cs[0]? = some u) :
  (execOp a.eval o).run P w=.ok (.value u) w:=by
 obtain⟨dst,op,type,pos,after,guard⟩:=o;subst d;exact jL (by simp[Instr.extract,g,h])
theorem yE{o:Oper}{t:Tmp}{a:Act}{w w':World}{x u:Value}(d:o.op=.next (.tmp t) false)(g:a.eval (.tmp t)=x)(h:(Instr.next x false o.type).run P w=.ok u w') :
  (execOp a.eval o).run P w=.ok (.value u) w':=by
 obtain⟨dst,op,type,pos,after,guard⟩:=o;subst d;subst g;exact jL h
theorem Ld{o:Oper}{t:Tmp}{a:Act}{w w':World}{x u:Value}(d:o.op=.entry (.tmp t))(g:a.eval (.tmp t)=x)(h:(Instr.entry x).run P w=.ok u w') :
  (execOp a.eval o).run P w=.ok (.value u) w':=by
 obtain⟨dst,op,type,pos,after,guard⟩:=o;subst d;subst g;exact jL h
theorem Le{o:Oper}{t:Tmp}{ty:TypeId}{a:Act}{w w':World}{x u:Value}(d:o.op=.range ty (.tmp t))(g:a.eval (.tmp t)=x)(h:(Instr.range ty x).run P w=.ok u w') :
  (execOp a.eval o).run P w=.ok (.value u) w':=by
 obtain⟨dst,op,type,pos,after,guard⟩:=o;subst d;subst g;exact jL h
theorem rF{w:World}{b:Nat}{o:Obj}(h:w.heap[b]? = some o):b<w.heap.size:=(Array.getElem?_eq_some_iff.1 h).1
theorem yF{w:World}{r:Nat}{a:Option Nat}{b c:Nat}{s:Array Nat}(h:w.heap[r]? = some (.mapIter a b s c)):w.iterSeen r=s:=by
 unfold World.iterSeen;rw[h]
theorem W4(hm:P.follows .mixedOrders=true)(ht:al P τ)(hL:ax P m L body)(hr:jv P τ L m sp bB body)(ho:mz P sp bk bU bB)
  (hu1:∀ d,(aR sp.inv d).fr[sp.t1]? = some .undef) (hu2:∀ d,(aR sp.inv d).fr[sp.t2]? = some .undef) (hut:∀ d,(aR sp.inv d).fr[sp.it]? = some (.lit (.pointer (some ⟨sp.bf d,0,none⟩))))
  {E:Env} {rows:List (List G)} {d0:List G} {itb mb clock:Nat} {ms:Array MapEntry} {r1 b0 b1 r2:Nat}
  (hsz:E.w.heap.size≤itb) (hn:(rows.map c6).Nodup) (hlt:∀ r∈rows,c6 r<clock) (hne:mb≠itb)
  (hfold:∀ p,p.Perm rows→(cL sp.st sp.bf p d0).isSome=true) {a:Act} {w:World} (hI:Lc m sp E rows d0 itb mb clock ms a w) (ro:Option Nat) (hro:eI ro body) :
  (Code.loop (.seq (.region r1 bU false) (.seq (.cond (.tmp sp.t2) .skip (.exit b0)) (.block b1 (.seq (.region r2 bB false) body))))).wpIn (fz ro) 0 P
   (fun e a1 J=>e=.exit b0∧∃ p d,p.Perm rows∧cL sp.st sp.bf p d0=some d∧dD m E (aR sp.inv d).den a1 J) a w:=by
 obtain⟨o1,o2,e1,g1,p1,q1,g2,W,q2⟩:=ho.r1;obtain⟨o3,l,e3,g3,p3,q3⟩:=ho.r2;refine wpIn_loop (Lc m sp E rows d0 itb mb clock ms) (fun _ w=>(leftOf ms (w.iterSeen itb)).size) hI fun a w hI=>?_;obtain⟨d,loc,X,seen,last,p,hf,had,hp,q,hle,hXi,hit,hcl,hmb,hown,hre⟩:=hI;have h10:bU[0]? = some o1:=by
  have:bU.toList[0]? = some o1:=by rw[e1]; rfl
  simpa using this
 have h11:bU[1]? = some o2:=by
  have:bU.toList[1]? = some o2:=by rw[e1]; rfl
  simpa using this
 have hsz1:bU.size=2:=by
  have:bU.toList.length=2:=by rw[e1]; rfl
  simpa using this
 have hiv:a.eval (.tmp sp.it)=.pointer (some ⟨itb,0,none⟩):=by
  have h:=q.eval (.tmp sp.it);have e:(aR sp.inv d).den.eval (.tmp sp.it)=.lit (.pointer (some ⟨sp.bf d,0,none⟩)):=by
   show (aR sp.inv d).fr.getD sp.it .undef=_
   rw[ct,hut d];rfl
  rw[e]at h;simp only[rel]at h;rw[h,had]
 obtain⟨hlen,hen⟩:=eg.1 hre;have hl1:(dj sp.K sp.V rows).length=rows.length:=by simp[dj]
 have M:∀(i:Nat) (e:MapEntry),ms.toList[i]? = some e→∃ r,rows[i]? = some r∧e.born=c6 r:=by
  intro i e hi;have h1:=aK hi;have k:i<rows.length:=by omega
  refine⟨rows[i],bL k,?_⟩;exact(hen i (sp.K.av (gi rows[i] 0).row,sp.V.av (gi rows[i] 1).row,(gi rows[i] 2).int.toNat) e (by simp[dj,k]) hi).2.2.1
 have hold:∀ x∈ms.toList,x.born<clock:=by
  intro x y;obtain⟨i,hi⟩:=mN y;obtain⟨r,h1,k⟩:=M i x hi;rw[k];exact hlt r (eX h1)
 have hbn:(ms.toList.map (·.born)).Nodup:=by
  have:ms.toList.map (·.born)=rows.map c6:=by
   apply List.ext_getElem?;intro i;simp only[ch];cases hi:ms.toList[i]? with
   | none =>
    have h1:=List.getElem?_eq_none_iff.1 hi;rw[List.getElem?_eq_none (by omega)];rfl
   | some e =>
    obtain⟨r,h1,k⟩:=M i e hi;rw[h1];simp[k]
  rw[this];exact hn
 refine wpIn_seq (wpIn_region ?_);rw[hsz1];show wpOpsIn (fz ro) 0 P bU _ [0,1] a w
 rw[wpOpsIn_cons];have hlt1:=yC q (hu1 d);have hlt2:=yC q (hu2 d);rcases run_next_at (P:=P) w o1.type itb mb clock last seen ms clock hit hmb hold hcl with⟨h0,hrun⟩|⟨e,he,J,hw1,hrun⟩
 ·refine jW h10 g1 (yE p1 hiv hrun) (fun c e => by rw [p1] at e; cases e) ro ?_
  rw[q1,wpOpsIn_cons];refine jW h11 g2 (yD W (nO hlt1) rfl) (fun c e=>by rw[W]at e; cases e) ro ?_;rw[q2];show (Code.seq _ _).wpIn (fz ro) 0 P _ _ w
  refine wpIn_seq (wpIn_cond_false (nO (by simpa[wu]using hlt2)) (wpIn_exit ?_));refine⟨rfl,p,d,?_,hf,loc,X,?_,hle⟩
  ·have:(rows.filter fun x => !seen.contains (c6 x))=[]:=by
    rw[List.filter_eq_nil_iff];intro x y hc;obtain⟨i,hi⟩:=mN y;have h1:=aK hi;have k:i<ms.toList.length:=by omega
    obtain⟨r,h3,h4⟩:=M i _ (bL k);rw[hi]at h3;cases h3;have:ms.toList[i]∈(leftOf ms seen).toList:=by
     unfold leftOf;rw[Array.toList_filter];refine AK.2 ⟨mT k,?_⟩;rw[h4];exact hc
    have h5:(leftOf ms seen).toList.length=0:=by simpa using h0
    rw[List.length_eq_zero_iff.1 h5]at this;cases this
   rwa [this,da]at hp
  ·exact(q.nP (hu1 d) (.tuple #[.bool false])).nP (hu2 d) (.bool false)
 ·refine jW h10 g1 (yE p1 hiv hrun) (fun c e => by rw [p1] at e; cases e) ro ?_
  rw[q1,wpOpsIn_cons];refine jW h11 g2 (yD W (nO hlt1) rfl) (fun c e=>by rw[W]at e; cases e) ro ?_;rw[q2];show (Code.seq _ _).wpIn (fz ro) 0 P _ _ _
  refine wpIn_seq (wpIn_cond_true (nO (by simpa[wu]using hlt2)) (wpIn_skip ?_));show (Code.block _ _).wpIn (fz ro) 0 P _ _ _
  refine wpIn_block (wpIn_seq (wpIn_region ?_));generalize U:setBlock J itb (.mapIter (some mb) clock (seen.push e.born) clock)=g;have O:J.heap=w.heap:=by rcases hw1 with rfl|rfl<;>rfl
  have hos:dQ w g:=by rw[←U]; rcases hw1 with rfl|rfl<;>exact⟨rfl,rfl,rfl,by first|exact fun _=>aD _|exact fun _=>eW _ _⟩
  have hit2':g.heap[itb]? = some (.mapIter (some mb) clock (seen.push e.born) clock):=by
   rw[←U];exact(HI (by rw[O]; exact hit)).1
  have N:∀ b,b≠itb→g.heap[b]? = w.heap[b]? := by
   intro b hb;rw[←U];show (J.heap.setIfInBounds itb _)[b]? = _
   rw[(HI (by rw[O]; exact hit)).2 b hb,O]
  have hsize:g.heap.size=w.heap.size:=by
   rw[←U];show (J.heap.setIfInBounds itb _).size=_
   simp[O]
  have hmb2:g.heap[mb]? = some (.map ms clock):=by rw[N mb hne]; exact hmb
  have cG:gq { w:=w,H:=(aR sp.inv d).den.H,loc:=loc,X:=X } { w:=g,H:=(aR sp.inv d).den.H,loc:=loc,X:=X } :=
   ⟨rfl,rfl,by show w.heap.size≤g.heap.size; omega,fun b hb y=>⟨y,N b (fun e=>y (by rw[e]; exact hXi))⟩,fun b hb=>by show b<g.heap.size; rw[hsize]; exact q.heap.X b hb,rfl⟩
  have hmk:iJ g X a.defers:=⟨q.defers.1,fun dd hdd=>by
   obtain⟨D,e,h1,k,h3⟩:=q.defers.2 dd hdd;exact⟨D,e,by rw[N D (fun e=>by rw[e]at h1; rw[hit]at h1; cases h1)]; exact h1,k,h3⟩⟩
  have hs1:=((q.cG cG hmk).nP (hu1 d) (.tuple #[.bool true,e.key,e.val])).nP (hu2 d) (.bool true);obtain⟨hem,hes⟩:=mem_left he;obtain⟨i,hi⟩:=mN hem;obtain⟨r,hri,hrb⟩:=M i e hi;have hrm:=eX hri;have hre2:=iA cG.toC hre;obtain⟨k1,k2,_⟩:=(eg.1 hre2).2 i (sp.K.av (gi r 0).row,sp.V.av (gi r 1).row,(gi r 2).int.toNat) e (by simp[dj,hri]) hi;have hiv1:((a.put (some sp.t1) (.tuple #[.bool true,e.key,e.val])).put (some sp.t2) (.bool true)).eval (.tmp sp.it)=.pointer (some ⟨itb,0,none⟩):=by
   have h:=hs1.eval (.tmp sp.it);have e:(aR sp.inv d).den.eval (.tmp sp.it)=.lit (.pointer (some ⟨sp.bf d,0,none⟩)):=by
    show (aR sp.inv d).fr.getD sp.it .undef=_
    rw[ct,hut d];rfl
   rw[e]at h;simp only[rel]at h;rw[h,had]
  have h20:bB[0]? = some o3:=by
   have:bB.toList[0]? = some o3:=by rw[e3]; rfl
   simpa using this
  have hl2:bB.toList.drop 1=l:=by rw[e3]; rfl
  have hsz2:bB.size=l.length+1:=by
   have:bB.toList.length=l.length+1:=by rw[e3]; rfl
   simpa using this
  have hlp:(p++(r::rows.filter fun x => !(seen.push (c6 r)).contains (c6 x))).Perm rows :=
   (List.Perm.append_left p (yA hn hrm (by rw[←hrb]; exact hes)).symm).trans hp
  have B:∃ d',sp.st r d=some d'∧sp.bf d'=sp.bf d:=by
   have h:=hfold _ hlp;rw[uG,hf]at h;simp only[AM,cL]at h;cases B:sp.st r d with
   |none=>rw[B]at h; cases h
   | some d' =>
    rw[B]at h;simp only[]at h;cases hb:ad (sp.bf d') (sp.bf d)with
    |true=>exact⟨d',rfl,bu hb⟩
    |false=>rw[hb]at h; cases h
  obtain⟨d',B,had'⟩:=B;have hf':cL sp.st sp.bf (p++[r]) d0=some d':=by
   rw[uG,hf];simp only[AM,cL,B,had'];simp
  obtain⟨s4,ha4,hsat⟩:=Lb hm ht hL hr B;rw[hsz2,AH,Ht,wpOpsIn_cons];refine jW h20 g3 (Ld p3 hiv1 (run_entry_at (P:=P) g itb mb clock seen ms clock e hit2' hmb2 hem hbn)) (fun c e=>by rw[p3]at e; cases e) ro ?_;rw[q3];have hs3:=hs1.iT sp.t3 (v:=.tuple [sp.K.av (gi r 0).row,sp.V.av (gi r 1).row]) (u:=.tuple #[e.key,e.val]) (by simp only[rel]; exact⟨_,rfl,by simp only[ah]; exact⟨k1,k2,trivial⟩⟩);refine xm (pf:=τ.pf) (ops:=bB) l (0+1) (sp.rs r d).den s4.den { w:=g,H:=(aR sp.inv d).den.H,loc:=loc,X:=X } _ (by rw[←hl2]) (by rw[hl2]at ha4; exact ha4) hs3 (fun a3 w3 hc3=>?_) ro;obtain⟨loc3,r3,hs4,hle3⟩:=hc3;show body.wpIn (fz ro) 0 P _ a3 w3
  refine wpIn_mono (hsat ro hro { w:=w3,H:=s4.den.H,loc:=loc3,X:=X.re r3 } a3 hs4) fun x a4 w4 y=>?_;obtain⟨rfl,loc4,X4,hs5,hle4⟩:=y;have I:({ w:=g,H:=(aR sp.inv d).den.H,loc:=loc,X:=X }:Env).dv m { w:=w4,H:=(aR sp.inv d').den.H,loc:=loc4,X:=X4 }:=hle3.toM.trans hle4;have hXsz:itb<g.heap.size:=rF hit2';have hnown:¬ Env.own { w:=g,H:=(aR sp.inv d).den.H,loc:=loc,X:=X } itb:=by
   exact(q.heap.cG cG).mW hXi
  have hmbsz:mb<g.heap.size:=rF hmb2;have hit4:w4.heap[itb]? = some (.mapIter (some mb) clock (seen.push e.born) clock):=by rw[I.same itb hXsz hnown]; exact hit2'
  refine⟨⟨d',loc4,X4,seen.push e.born,clock,p++[r],hf',by rw[had',had],?_,hs5,?_,(I.X itb hXsz).1.2 hXi,hit4,aD _,?_,?_,?_⟩,?_⟩
  ·rw [hrb, gF]
   exact hlp
  ·refine Env.dv.trans (E' := { w := g, H := (aR sp.inv d).den.H, loc := loc, X := X }) ⟨hle.past, ?_, ?_, hle.own, hle.live, hle.X, hle.rl, hle.env.trans hos, hle.grow⟩ I
   ·have := hle.size
    show E.w.heap.size≤g.heap.size
    rw[hsize];exact this
   ·intro b hb hbo
    show g.heap[b]? = _
    rw[N b (by omega)];exact hle.same b hb hbo
  ·rw [I.same mb hmbsz hown]
   exact hmb2
  ·exact I.own mb hmbsz hown
  ·exact iA (pt I) hre2
  ·show (leftOf ms (w4.iterSeen itb)).size < (leftOf ms (w.iterSeen itb)).size
   rw[yF hit4,yF hit];exact left_shrinks ms seen e he
theorem W5(hm:P.follows .mixedOrders=true)(ht:al P τ)(hL:ax P m L body)(hr:jv P τ L m sp bB body)(ho:mz P sp bk bU bB)
  (hu1:∀ d,(aR sp.inv d).fr[sp.t1]? = some .undef) (hu2:∀ d,(aR sp.inv d).fr[sp.t2]? = some .undef) (hut:∀ d,(aR sp.inv d).fr[sp.it]? = some (.lit (.pointer (some ⟨sp.bf d,0,none⟩))))
  {r1 b0 b1 r2:Nat}
  {s:ar} {d:List G} {rows:List (List G)} {clock:Nat} (W:s.eval (.tmp sp.y)=.map sp.id) (hid:s.H[sp.id]? = some (.map sp.K sp.V rows clock)) (hn:(rows.map c6).Nodup)
  (hlt:∀ r∈rows,c6 r<clock) (hin:∀ b,ia m sp.inv sp.ps (gB sp.opens (sp.s2 s b))=some (true,sp.init d b)) (hadr:∀ b,sp.bf (sp.init d b)=b)
  (hfold:∀ b p,p.Perm rows→(cL sp.st sp.bf p (sp.init d b)).isSome=true) (E:Env) (a:Act) (q:bQ s.den E a) (ro:Option Nat) (hro:eI ro body) {Q:Exit→Act→World→Prop}
  (hQ:∀ a1 w1,(∃ b p d',p.Perm rows∧cL sp.st sp.bf p (sp.init d b)=some d'∧dD m E (aR sp.inv d').den a1 w1)→Q .normal a1 w1) :
  wpOpsIn (fz ro) 0 P bk (Exit.then ((Code.block b0 (.loop (.seq (.region r1 bU false) (.seq (.cond (.tmp sp.t2) .skip (.exit b0)) (.block b1 (.seq (.region r2 bB false) body)))))).wpIn (fz ro) 0 P Q) Q) [bk.toList.dropLast.length] a E.w:=by
 obtain⟨o2,ty,e1,g2,p2,q2,N⟩:=ho.r0;have h11:bk[bk.toList.dropLast.length]? = some o2:=by
  have:bk.toList[bk.toList.dropLast.length]? = some o2:=by
   rw[e1];simp
  simpa using this
 have hid':E.H[sp.id]? = some (.map (dj sp.K sp.V rows) clock):=by
  rw[q.H];exact bl hid
 have hrx:rel E (.map sp.id) (a.eval (.tmp sp.y)):=by
  have:=q.eval (.tmp sp.y)
  rwa [ar.kG,W]at this
 obtain⟨mb,n,ms,hc,hloc,O,hre⟩:=oM q.heap hid' hrx;obtain⟨⟨kt,et⟩,N⟩:=Option.isSome_iff_exists.1 N;have hmbs:mb<E.w.heap.size:=rF O;rw[wpOpsIn_cons];refine jW h11 g2 (Le p2 hc (run_range_map E.w ty kt et mb ms clock (fi N) O)) (fun c e=>by rw[p2]at e; cases e) ro ?_;rw[q2];show (Code.block _ _).wpIn (fz ro) 0 P _ _ _
 generalize M:E.w.alloc (.mapIter (some mb) clock #[] clock)=g;have hsize:g.heap.size=E.w.heap.size+1:=by rw[←M]; show (E.w.heap.push _).size=_; simp
 have hold:∀ b,b<E.w.heap.size→g.heap[b]? = E.w.heap[b]? := fun b hb=>by rw[←M]; exact(show (E.w.heap.push _)[b]? = _ by rw[Array.getElem?_push,if_neg (by omega)])
 have hitn:g.heap[E.w.heap.size]? = some (.mapIter (some mb) clock #[] clock):=by rw[←M]; exact(show (E.w.heap.push _)[E.w.heap.size]? = _ by simp)
 have hos:dQ E.w g:=by rw[←M]; exact⟨rfl,rfl,rfl,by first|exact fun _=>aD _|exact fun _=>eW _ _⟩
 have hd:=Env.qk q.heap sp.id;have U:bQ ⟨s.fr,ao (s.H.set sp.id (.raw .dead))⟩ { w:=E.w,H:=E.H.set sp.id .dead,loc:=E.loc.set sp.id none,X:=E.X } a:=by
  refine⟨?_,dB hd _ q.fr,q.defers,au.drop q.heap sp.id fun o ho=>by rw[hid']at ho; cases ho; rfl⟩;rw[dh,show E.H=ao s.H from q.H];rfl
 have cG:gq { w:=E.w,H:=E.H.set sp.id .dead,loc:=E.loc.set sp.id none,X:=E.X } { w:=g,H:=E.H.set sp.id .dead,loc:=E.loc.set sp.id none,X:=E.X.or fun b=>b=E.w.heap.size } :=
  ⟨rfl, rfl, by show E.w.heap.size ≤ g.heap.size; omega, fun b hb W => ⟨fun h => h.elim W (fun e => absurd hb (by rw [e]; exact qe _)), hold b hb⟩, fun b hb => by
   show b<g.heap.size
   rcases hb with hb|hb
   ·have := q.heap.X b hb
    omega
   ·omega,rfl⟩
 have hs3:=(U.cG cG (wO (X':=E.X.or fun b=>b=E.w.heap.size) (w':=g) U.defers (fun _ h1 J=>⟨.inl h1,J⟩) fun b h1 _=>hold b (q.heap.X b h1))).iT sp.it (v:=.lit (.pointer (some ⟨E.w.heap.size,0,none⟩))) (u:=.pointer (some ⟨E.w.heap.size,0,none⟩)) (by simp only[rel]);have hs3':bQ (sp.s2 s E.w.heap.size).den { w:=g,H:=E.H.set sp.id .dead,loc:=E.loc.set sp.id none,X:=E.X.or fun b=>b=E.w.heap.size } _:=hs3;obtain⟨loc,X4,hs4,I⟩:=((ly sp.opens _).trans (lx (hin E.w.heap.size))) _ _ hs3';have hmbn:¬ Env.own { w:=g,H:=E.H.set sp.id .dead,loc:=E.loc.set sp.id none,X:=E.X.or fun b=>b=E.w.heap.size } mb:=by
  rintro(⟨j,c,B⟩|⟨l,k,c,B⟩)
  case inr=>exact q.heap.cR _ _ _ _ _ _ hloc B
  simp only[dW]at B;split at B
  ·split at B
   ·cases B
   ·cases B
  ·rename_i hne
   exact hne (q.heap.inj _ _ _ _ _ hloc B)
 have hmb2:g.heap[mb]? = some (.map ms clock):=by rw[hold mb hmbs]; exact O
 refine wpIn_block (wpIn_mono (W4 hm ht hL hr ho hu1 hu2 hut (E:=E) (rows:=rows) (d0:=sp.init d E.w.heap.size) (itb:=E.w.heap.size) (mb:=mb) (clock:=clock) (ms:=ms)
  (aD _) hn hlt (by omega) (hfold _) ?_ ro hro) fun e a1 w1 hq=>?_)
 ·refine ⟨sp.init d E.w.heap.size, loc, X4, #[], clock, [], rfl, hadr _, ?_, hs4, ?_, (I.X E.w.heap.size (by show _ < g.heap.size; omega)).1.2 (.inr rfl), ?_, aD _, ?_, ?_, ?_⟩
  ·have : (rows.filter fun x => !(#[] : Array Nat).contains (c6 x)) = rows := List.filter_eq_self.2 (fun x _ => by simp)
   rw[List.nil_append,this]
  ·refine hd.toM.trans (Env.dv.trans (E' := { w := g, H := E.H.set sp.id .dead, loc := E.loc.set sp.id none, X := E.X.or fun b => b = E.w.heap.size }) ⟨fun _ _ h => h, ?_, ?_, fun b _ h => h, fun _ _ _ h => ⟨h, rfl⟩, fun b hb => ⟨⟨fun h => h.elim id fun e => absurd hb (by rw [e]; exact qe _), .inl⟩, Iff.rfl⟩, fun _ _ h => ⟨h, fun _ hq => hq⟩, hos, fun _ _ _ o h1 J _ => ⟨⟨[], (da _).symm⟩, o, h1, J⟩⟩ I)
   ·show E.w.heap.size ≤ g.heap.size
    omega
   ·exact fun b hb _=>hold b hb
  ·rw [I.same E.w.heap.size (by show _ < g.heap.size; omega) ?_]
   ·exact hitn
   ·exact(U.heap.cG cG).mW (.inr rfl)
  ·rw [I.same mb (by show _ < g.heap.size; omega) hmbn]
   exact hmb2
  ·exact I.own mb (by show _<g.heap.size; omega) hmbn
  ·exact iA (pt I) (iA cG.toC (iA hd.toC hre))
 ·obtain ⟨rfl, p, d', h1, J, h3⟩ := hq
  simp only[Exit.inBlock,if_true];exact hQ _ _ ⟨_,p,d',h1,J,h3⟩
theorem W6(hm:P.follows .mixedOrders=true)(ht:al P τ)(hL:ax P m L body)(hr:jv P τ L m sp bB body)(ho:mz P sp bk bU bB)
  (M:∀ d,(aR sp.inv d).fr[sp.t1]? = some .undef) (N:∀ d,(aR sp.inv d).fr[sp.t2]? = some .undef) (O:∀ d,(aR sp.inv d).fr[sp.it]? = some (.lit (.pointer (some ⟨sp.bf d,0,none⟩))))
  {r0 r1 b0 b1 r2:Nat}
  {s s1:ar} {d:List G} {rows:List (List G)} {clock:Nat} (hp:fM P τ.pf bk bk.toList.dropLast s.den s1.den) (hx:s1.eval (.tmp sp.y)=.map sp.id) (hid:s1.H[sp.id]? = some (.map sp.K sp.V rows clock)) (hn:(rows.map c6).Nodup)
  (g:∀ r∈rows,c6 r<clock) (U:∀ b,ia m sp.inv sp.ps (gB sp.opens (sp.s2 s1 b))=some (true,sp.init d b)) (I:∀ b,sp.bf (sp.init d b)=b)
  (B:∀ b p,p.Perm rows→(cL sp.st sp.bf p (sp.init d b)).isSome=true) (E:Env) (a:Act) (hs:bQ s.den E a) (ro:Option Nat) (W:eI ro body) :
  (kM r0 b0 r1 b1 r2 bk bU bB sp.t2 body).wpIn (fz ro) 0 P (fun e k q=>e=.normal∧∃ b p d',p.Perm rows∧cL sp.st sp.bf p (sp.init d b)=some d'∧dD m E (aR sp.inv d').den k q) a E.w:=by
 refine wpIn_seq (wpIn_region ?_);obtain⟨o2,ty,u,_⟩:=ho.r0;have hsz:bk.size=bk.toList.dropLast.length+1:=by
  have h:=congrArg List.length u;simpa using h
 have hl:dI bk.size=sV 0 bk.toList.dropLast.length++[bk.toList.dropLast.length]:=by
  rw[hsz,List.range_succ,AH]
 rw[hl];refine yz (pf:=τ.pf) ro bk.toList.dropLast 0 s.den s1.den E a _ (fun j o v=>?_) hp hs fun k q hc=>?_
 ·have g := aK v
  have:bk.toList[j]? = some o:=by
   rw[u,cM g];exact v
  simpa using this
 ·obtain ⟨J, r1, h1, h2⟩ := hc
  refine W5 hm ht hL hr ho M N O hx hid hn g U I B { w:=q,H:=s1.den.H,loc:=J,X:=E.X.re r1 } k h1 ro W fun a2 w2 ⟨b,p,d',g1,g2,g3⟩=>?_;exact⟨rfl,b,p,d',g1,g2,dD.after h2.toM g3⟩
noncomputable def rG{β:Type}(rows:List (List G))(k:Nat→List (List G)→Option β):Option β :=
 open Classical in if h:∃ r,∀ b p,p.Perm rows→k b p=some r then some h.choose else none
theorem CZ{β:Type}{rows:List (List G)}{k:Nat→List (List G)→Option β}{r:β}(h:rG rows k=some r):∀ b p,p.Perm rows→k b p=some r:=by
 unfold rG at h;split at h
 ·rename_i d
  cases h;exact d.choose_spec
 ·cases h
theorem Lf{β:Type}{rows:List (List G)}{k:Nat→List (List G)→Option β}{r:β}(h:∀ b p,p.Perm rows→k b p=some r):rG rows k=some r:=by
 cases hb:rG rows k with
 | some r' =>
  have h1:=CZ hb 0 rows (oE _);rw[h 0 rows (oE _)]at h1;exact h1.symm
 | none =>
  unfold rG at hb;rw[dif_pos ⟨r,h⟩]at hb;cases hb
def lA(rows:List (List G))(clock:Nat):Bool:=nodupB (rows.map c6)&&rows.all fun r=>ft (c6 r) clock
theorem Lg{rows:List (List G)}{clock:Nat}(h:lA rows clock=true):(rows.map c6).Nodup∧∀ r∈rows,c6 r<clock:=by
 simp only[lA,az,cQ,kg]at h;exact⟨ru h.1,h.2⟩
noncomputable def jx(sp:fy)(tl:List G→Option (Option Nat × List G))(rows:List (List G))(clock:Nat)(d:List G):Option (Option Nat × List G) :=
 bif lA rows clock then rG rows (fun b p=>bif sp.side d b then (cL sp.st sp.bf p (sp.init d b)).bind tl else none) else none
def pv(P:Program)(m:Nat)(c:Code)(sp:be):Prop:=∀ d i d',sp.st d=some (some i,d')→∃ o,sp.outs[i]? = some o∧c5 P m c (aR sp.inv d).den o.x (aR o.S d').den
theorem fo.sat{c:Code}{q:be}(hm:P.follows .mixedOrders=true)(k:al P τ)(u:ax P m L c)(v:fo P τ L m c q):pv P m c q:=by
 intro d i d' g;rw[←v d]at g;obtain⟨x,s1,g1,g2⟩:=gM hm k c (aR q.inv d) .done u (Q:=fun x s=>pn m q.outs 0 x s=some (true,(some i,d'))) (nG g);obtain⟨j,o,y,h,B,I⟩:=yf g2;simp only[aY,cT]at h;subst h;refine⟨o,y,?_⟩;rw[←B];exact qJ g1 (lx I)
theorem W7{c:Code}{q:be}(y:pv P m c q){s:ar}{t:Tree}(h:uz m q s=some t):xN P m c s t:=by
 unfold uz at h;split at h
 case h_2=>cases h
 rename_i b d B;cases h;intro Q u;simp only[Tree.holds,rr,az]at u;obtain⟨⟨rfl,h1⟩,v⟩:=u;cases g:q.st d with
 |none=>rw[g]at h1; cases h1
 | some r =>
  obtain⟨k,d'⟩:=r;cases k with
  |none=>rw[g]at h1; cases h1
  | some i =>
   obtain⟨o,g1,g2⟩:=y d i d' g;rw[g]at v;exact⟨o.x,(aR o.S d'),qI ((ly q.opens s).trans (lx B)) g2,yg g1 (cT i).symm v⟩
theorem ax.Lh{fn:Func}{q:be} (u:kL q.key (bJ (aQ fn))=true) (g:ax P m L (aQ fn)) (h:ax P m L (cutAt fn q.key)→pv P m (cutAt fn q.key) q) :
  ax P m (L.dZ m q) (aQ fn):=by
 refine⟨g.1,g.2.1,fun k v hk s t d=>?_⟩;simp only[LT.dZ]at d;split at d
 ·rename_i e
  have e:=bu e;subst e;have y:=CQ u hk;rw[←y]at h;exact W7 (h (g.sub (nJ hk) (nK hk))) d
 ·exact g.2.2 k v hk s t d
def uH(o:Option Tmp)(t:Tmp):Bool :=
 match o with
 |some x=>ad x t
 |none=>false
theorem yG{o:Option Tmp}{t:Tmp}(h:uH o t=true):o=some t:=by
 cases o with
 |none=>cases h
 |some x=>exact congrArg some (bu h)
def yH(P:Program)(sp:fy)(ops:Array Oper):Bool :=
 match ops.toList.getLast? with
 |some ⟨d2,.range ty (.tmp b),_,_,_,none⟩=>ad b sp.y&&uH d2 sp.it&&(c8 P ty).isSome
 |_=>false
def yI(sp:fy)(ops:Array Oper):Bool :=
 match ops.toList with
 | [⟨d1,.next (.tmp a) false,_,_,_,none⟩,⟨d2,.extract (.tmp b) 0,_,_,_,none⟩]=>ad a sp.it&&uH d1 sp.t1&&ad b sp.t1&&uH d2 sp.t2
 |_=>false
def yJ(sp:fy)(ops:Array Oper):Bool :=
 match ops.toList with
 |⟨d1,.entry (.tmp a),_,_,_,none⟩::_=>ad a sp.it&&uH d1 sp.t3
 |_=>false
theorem Li(h0:yH P sp bk=true)(h1:yI sp bU=true)(d:yJ sp bB=true):mz P sp bk bU bB:=by
 refine⟨?_,?_,?_⟩
 ·unfold yH at h0
  split at h0
  ·rename_i d2 ty b t' p' k e
   simp only[az]at h0;obtain⟨⟨g3,g4⟩,g5⟩:=h0;have g3:=bu g3;subst g3;refine⟨⟨d2,.range ty (.tmp sp.y),t',p',k,none⟩,ty,?_,rfl,rfl,yG g4,g5⟩;have g:bk.toList≠[]:=by
    intro h;rw[h]at e;cases e
   have d:=List.dropLast_concat_getLast g;have q:bk.toList.getLast? = some (bk.toList.getLast g):=by
    rw[List.getLast?_eq_some_iff];exact⟨_,d.symm⟩
   rw[q]at e;rw[gl e]at d;exact d.symm
  ·cases h0
 ·unfold yI at h1
  split at h1
  ·rename_i d1 a _ _ _ d2 b _ _ _ e
   simp only[az]at h1;obtain⟨⟨⟨g1,g2⟩,g3⟩,g4⟩:=h1;have g1:=bu g1;have g3:=bu g3;subst g1;subst g3;exact⟨_,_,e,rfl,rfl,yG g2,rfl,rfl,yG g4⟩
  ·cases h1
 ·unfold yJ at d
  split at d
  ·rename_i d1 a _ _ _ l e
   simp only[az]at d;have g1:=bu d.1;subst g1;exact⟨_,l,e,rfl,rfl,yG d.2⟩
  ·cases d
def rH:Code→Code
 |.seq _ b=>b
 |_=>.skip
def C0:Code→Code
 |.seq (.seq _ (.block _ (.loop c))) _=>c
 |_=>.skip
def rI(c:Code):Code:=match C0 c with
 |.seq _ (.seq _ (.block _ (.seq _ b)))=>b
 |_=>.skip
def C1:Code→Array Oper
 |.region _ ops _=>ops
 |_=>#[]
def lB:Code→Array Oper
 |.seq (.seq r _) _=>C1 r
 |_=>#[]
def yK(c:Code):Array Oper:=match C0 c with
 |.seq r _=>C1 r
 |_=>#[]
def nQ(c:Code):Array Oper:=match C0 c with
 |.seq _ (.seq _ (.block _ (.seq r _)))=>C1 r
 |_=>#[]
theorem Lj{r0 r1 b0 b1 r2 t2:Nat}{rest:Code} (h:ax P m L (.seq (kM r0 b0 r1 b1 r2 bk bU bB t2 body) rest)):ax P m L body∧ax P m L rest:=by
 refine⟨h.sub (fun p d=>?_) (fun p d=>?_),h.sub (fun p d=>?_) (fun p d=>?_)⟩
 ·simp only [bO, kM, cU]
  left;right;split
  ·simp only [bY, bO, cU]
   exact .inr (.inr (.inr (.inr d)))
  ·simp only [bO, cU]
   exact .inr (.inr (.inr d))
 ·simp only [bJ, kM, cU]
  exact .inl (.inr (.inr (.inr (.inr (.inr (.inr (.inr (.inr d))))))))
 ·simp only [bO, cU]
  exact .inr d
 ·simp only [bJ, cU]
  exact .inr (.inr d)
def Lk(P:Program)(τ:ak)(ops:Array Oper)(s:ar):ar:=match (lu P τ ops ops.toList.dropLast s fun s=>.done .normal s).jX with
 |some (_,s1)=>s1
 |none=>s
theorem Ll(d:al P τ){ops:Array Oper}{l:List Oper}{s s1:ar}(h:(lu P τ ops l s fun s=>.done .normal s).jX=some (.normal,s1)):fM P τ.pf ops l s.den s1.den:=by
 obtain⟨s',h1,g⟩:=xR d (uF h);obtain⟨_,rfl⟩:=g;exact h1
theorem W8(hm:P.follows .mixedOrders=true)(W:al P τ){rest:Code}{q qr:be}(hL:ax P m L body)(hr:jv P τ L m sp bB body)(ho:mz P sp bk bU bB)
  (hu1:∀ d,(aR sp.inv d).fr[sp.t1]? = some .undef) (hu2:∀ d,(aR sp.inv d).fr[sp.t2]? = some .undef) (hut:∀ d,(aR sp.inv d).fr[sp.it]? = some (.lit (.pointer (some ⟨sp.bf d,0,none⟩))))
  {r0 r1 b0 b1 r2:Nat}
  {rows:List G→List (List G)} {clock:List G→Nat} {pre:List G→ar} (hy:∀ d,(lu P τ bk bk.toList.dropLast (aR q.inv d) fun s=>.done .normal s).jX=some (.normal,pre d)) (u:∀ d,(pre d).eval (.tmp sp.y)=.map sp.id) (hid:∀ d,(pre d).H[sp.id]? = some (.map sp.K sp.V (rows d) (clock d)))
  (hin:∀ d b,ia m sp.inv sp.ps (gB sp.opens (sp.s2 (pre d) b))=some (sp.side d b,sp.init d b)) (hadr:∀ d b,sp.bf (sp.init d b)=b)
  (hinv:qr.inv=sp.inv) (houts:qr.outs=q.outs) (I:pv P m rest qr) (hst:∀ d,q.st d=jx sp qr.st (rows d) (clock d) d) :
  pv P m (.seq (kM r0 b0 r1 b1 r2 bk bU bB sp.t2 body) rest) q:=by
 intro d i d' h;rw[hst]at h;unfold jx at h;cases B:lA (rows d) (clock d)with
 |false=>rw[B]at h; cases h
 | true =>
  rw[B]at h;simp only[cond_true]at h;have hall:=CZ h;obtain⟨hn,hlt⟩:=Lg B;have k:∀ b p,p.Perm (rows d)→sp.side d b=true∧∃ d1,cL sp.st sp.bf p (sp.init d b)=some d1∧qr.st d1=some (some i,d'):=by
   intro b p g;have:=hall b p g;cases M:sp.side d b with
   |false=>rw[M]at this; cases this
   | true =>
    rw[M]at this;simp only[cond_true]at this;cases v:cL sp.st sp.bf p (sp.init d b)with
    |none=>rw[v]at this; cases this
    | some d1 =>
     rw[v]at this;exact⟨rfl,d1,rfl,this⟩
  obtain⟨_,d1,_,g1⟩:=k 0 (rows d) (oE _);obtain⟨o,N,_⟩:=I d1 i d' g1;refine⟨o,by rw[←houts]; exact N,fun ro O E a hs=>wpIn_seq (wpIn_mono (W6 hm W hL hr ho hu1 hu2 hut (Ll W (hy d)) (u d) (hid d) hn hlt (fun b=>by rw[hin d b,(k b (rows d) (oE _)).1]) (hadr d) (fun b p g=>?_) E a hs ro (La O.seq1)) fun e a1 w1 hq=>?_)⟩
  ·obtain ⟨_, d2, h2, _⟩ := k b p g
   rw[h2];rfl
  ·obtain ⟨rfl, b, p, d2, g, v, loc, X, hs2, hle⟩ := hq
   obtain⟨_,d3,h3,h4⟩:=k b p g;rw[v]at h3;cases h3;obtain⟨o',U,J⟩:=I d2 i d' h4;rw[N]at U;cases U;rw[hinv]at J;exact wpIn_mono (J ro O.BM { w:=w1,H:=(aR sp.inv d2).den.H,loc:=loc,X:=X } a1 hs2) fun x a2 w2 u=>⟨u.1,dD.after hle u.2⟩
theorem ax.W9(hm:P.follows .mixedOrders=true)(h:al P τ){fn:Func}{q qr:be}{r0 b0 r1 b1 r2:Nat}{rows:List G→List (List G)}{clock:List G→Nat}
  (hn:kL q.key (bJ (aQ fn))=true) (hL:ax P m L (aQ fn))
  (k:cutAt fn q.key=.seq (kM r0 b0 r1 b1 r2 (lB (cutAt fn q.key)) (yK (cutAt fn q.key)) (nQ (cutAt fn q.key)) sp.t2 (rI (cutAt fn q.key))) (rH (cutAt fn q.key)))
  (ho:(yH P sp (lB (cutAt fn q.key))&&yI sp (yK (cutAt fn q.key))&&yJ sp (nQ (cutAt fn q.key)))=true)
  (hr:jv P τ L m sp (nQ (cutAt fn q.key)) (rI (cutAt fn q.key)))
  (I:∀ d,(aR sp.inv d).fr[sp.t1]? = some .undef) (J:∀ d,(aR sp.inv d).fr[sp.t2]? = some .undef) (M:∀ d,(aR sp.inv d).fr[sp.it]? = some (.lit (.pointer (some ⟨sp.bf d,0,none⟩))))
  {pre:List G→ar} (hy:∀ d,(lu P τ (lB (cutAt fn q.key)) (lB (cutAt fn q.key)).toList.dropLast (aR q.inv d) fun s=>.done .normal s).jX=some (.normal,pre d)) (hx:∀ d,(pre d).eval (.tmp sp.y)=.map sp.id) (hid:∀ d,(pre d).H[sp.id]? = some (.map sp.K sp.V (rows d) (clock d)))
  (N:∀ d b,ia m sp.inv sp.ps (gB sp.opens (sp.s2 (pre d) b))=some (sp.side d b,sp.init d b)) (B:∀ d b,sp.bf (sp.init d b)=b)
  (hinv:qr.inv=sp.inv) (u:qr.outs=q.outs) (v:fo P τ L m (rH (cutAt fn q.key)) qr) (O:∀ d,q.st d=jx sp qr.st (rows d) (clock d) d) :
  ax P m (L.dZ m q) (aQ fn):=by
 refine ax.Lh hn hL fun g=>?_;rw[k]at g;obtain⟨U,W⟩:=Lj g;simp only[az]at ho;rw[k];exact W8 hm h U hr (Li ho.1.1 ho.1.2 ho.2) I J M hy hx hid N B hinv u (v.sat hm h W) O
end range
end Go.AL
