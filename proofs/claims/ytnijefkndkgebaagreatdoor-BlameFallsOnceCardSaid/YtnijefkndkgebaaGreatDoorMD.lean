/-
 What is proved here: shapes: states and arguments as data alone (integers,strings,rows),read off abstract states and built from data; what is built says no more than what was read. No program in sight; no condition.
-/
import Derived.Test.YtnijefkndkgebaaGreatDoorMC
import Derived.Maps.RangeRun
set_option linter.all false
open Bool renaming and_true→fH,and_eq_true→aB,false_eq_true→kK,not_eq_true'→mE,and_self→sG,eq_false_iff→agK,or_false→G1
open Go.Act renaming put→vN
open Go.MapKept renaming heap_set→G3
open Go.Value.slice renaming injEq→jv
open Int renaming toNat_natCast→a7
open List renaming length_cons→cB,append_nil→cY,append_assoc→gu,getElem?_append_left→cK,length_map→dE,mem_map→dF,getElem?_map→bZ,getElem?_eq_getElem→bI,mem_of_getElem?→eM,getElem?_append_right→ia,getElem?_set_self→bB,getElem?_set_ne→aT,getElem?_set→dN,all_eq_true→cO,getD_eq_getElem?_getD→ch,getElem?_take→lA,mem_cons→bV,map_cons→dq,cons_append→lC,length_append→fi,mem_append→cS,getElem?_of_mem→mB,all_cons→lF,mem_cons_self→db,mem_cons_of_mem→df,nodup_cons→lI,getElem?_inj→zV,range'→sC,range'_succ→GO,range→dG,mem_append_left→pO,any_eq_true→jy,range_eq_range'→zX,set_append_left→GW,headD_cons→vQ,getElem?_cons_succ→RI,getD_cons_succ→agJ,find?_cons_of_neg→agL,getElem_mem→kN,mem_filter→z7,mem_append_right→vS
open List.Perm renaming refl→oe
open Nat renaming le_refl→aG,le_add_right→eL,zero_le→ef,lt_or_ge→iV,zero_add→cP,beq→ad,eq_of_beq_eq_true→bt,sub_self→mD,ble→dH,blt→fj,blt_eq→j8,le_of_ble_eq_true→sH,lt_irrefl→pQ
open Option renaming map_eq_some_iff→dM,map_some→eF,getD_some→lH,bind_some→z8
open Option.some renaming injEq→aZ,inj→fW
open Prod.mk renaming injEq→be
namespace Go.AL
open Go
variable [Dr]
inductive eA where
 |int (k:IntKind)|str|bool
 |list (ks:List Kd)|row (ks:List Kd)|cptr (ks:List Kd)
 |nil|any
 |JM (isNil:Bool)
 |fn (f:FuncId)
 |ptr (j col:Nat)
 |vec (j w:Nat)
 |sub (j w:Nat)
 |pre (j w:Nat)
 |t_ (ks:List Kd)
 |map (j:Nat)
 |addr
 |JN (f:FuncId) (js:List Nat)
 |B7
 deriving Inhabited
inductive Sh where
 |s (a:eA)
 |clo (f:FuncId) (caps:List eA)
 deriving Inhabited
inductive cf where
 |vec (ks:List Kd) (u:Nat)
 |box (cells:List eA)
 |map (K V:Ct)
 |er (l T B:Nat)
 |aH (l:Nat) (K:Ct) (ks:List Kd)
 |mm (l:Nat) (K KI VI:Ct)
 deriving Inhabited
def cf.iL:cf→Option Nat
 |.er l _ _=>some l
 |.aH l _ _=>some l
 |.mm l _ _ _=>some l
 |_=>none
def cf.cZ:cf→Option Nat
 |.mm l _ _ _=>some l
 |_=>none
def eA.sz:eA→Nat
 |.int _ | .str | .bool | .list _ | .row _ | .cptr _ | .t_ _ | .pre _ _ | .addr=>1
 |.sub _ _=>2
 |_=>0
def nr:List eA→Nat
 | []=>0
 |a::as=>a.sz+nr as
def Sh.sz:Sh→Nat
 |.s a=>a.sz
 |.clo _ caps=>nr caps
def B8:List Sh→Nat
 | []=>0
 |a::as=>a.sz+B8 as
def cf.sz:cf→Nat
 |.vec _ _=>1
 |.box cells=>nr cells
 |.map _ _=>2
 |.er _ _ _=>1
 |.aH _ _ _=>2
 |.mm _ _ _ _=>3
def eb:Nat→List G→List G
 |0,d=>d
 |n+1,d=>eb n d.tail
abbrev cX:=List (Nat × Nat)
def cX.len(os:cX)(j:Nat):Nat:=(os.getD j (0,0)).1
def cX.ae(os:cX)(j:Nat):Nat:=(os.getD j (0,0)).2
def oT:List Nat→List AV
 | []=>[]
 |j::js=>.ptr j 0 0 0 0::oT js
def eB(lens:cX):eA→List G→AV
 |.int k,d=>.lit (.int k (d.headD default).int)
 |.str,d=>.lit (.string (d.headD default).str)
 |.bool,d=>.lit (.bool (d.headD default).bool)
 |.list ks,d=>.listF ks (d.headD default).rows
 |.t_ ks,d=>.listF ks (d.headD default).rows
 |.row ks,d=>.agg (aJ ks (d.headD default).row)
 |.cptr ks,d=>.cptr (aJ ks (d.headD default).row)
 |.nil,_=>.lit (.slice none 0 0)
 |.any,_=>.undef
 |.JM b,_=>.emptyS b
 |.fn f,_=>.clo f []
 |.ptr j col,_=>.ptr j 0 0 0 col
 |.vec j w,_=>.vec w j (lens.ae j) 0 (lens.len j)
 |.sub j w,d=>.vec w j (lens.ae j) (d.headD default).int.toNat (d.tail.headD default).int.toNat
 |.pre j w,d=>.vec w j (lens.ae j) 0 (d.headD default).int.toNat
 |.map j,_=>.map j
 |.addr,d=>.lit (.pointer (some ⟨(d.headD default).int.toNat,0,none⟩))
 |.JN f js,_=>.clo f (oT js)
 |.B7,_=>.lit .nilIface
def iw(lens:cX):List eA→List G→List AV
 | [],_=>[]
 |a::as,d=>eB lens a d::iw lens as (eb a.sz d)
def oU(lens:cX):Sh→List G→AV
 |.s a,d=>eB lens a d
 |.clo f caps,d=>.clo f (iw lens caps d)
def fc(lens:cX):List Sh→List G→List AV
 | [],_=>[]
 |a::as,d=>oU lens a d::fc lens as (eb a.sz d)
def eJ(lens:cX):cf→List G→ai
 |.vec ks u,d=>.vec ks u (d.headD default).rows
 |.box g,d=>.raw (.box (iw lens g d))
 |.map K V,d=>.map K V (d.headD default).rows (d.tail.headD default).int.toNat
 |.er l T B,d=>.raw (.er l T B (d.headD default).str)
 |.aH l K ks,d=>.aH l K ks (d.headD default).rows (d.tail.headD default).int.toNat
 |.mm l K KI VI,d=>.mm l K KI VI (d.headD default).rows (d.tail.headD default).rows (d.tail.tail.headD default).int.toNat
theorem qJ(lens:cX)(sh:cf)(d:List G):(eJ lens sh d).den.label=sh.iL:=by cases sh<;>rfl
theorem B9(lens:cX)(sh:cf)(d:List G):(eJ lens sh d).den.cZ=sh.cZ:=by cases sh<;>rfl
def cM(lens:cX):List cf→List G→List ai
 | [],_=>[]
 |o::os,d=>eJ lens o d::cM lens os (eb o.sz d)
def k8:List cf→Nat
 | []=>0
 |o::os=>o.sz+k8 os
def cF:List cf→List G→cX
 | [],_=>[]
 | o::os,d=>(match o with
  |.vec _ u=>((d.headD default).rows.length,u)
  |_=>(0,0))::cF os (eb o.sz d)
def jN(H:List ai)(e:bL):List Nat→List AV→Bool
 | [],[]=>true
 | j::js,.ptr id ae k row c::vs=>(match H[id]? with
  |some (.raw _)=>ad id (e.at j)&&ad ae 0&&ad k 0&&ad row 0&&ad c 0
  |_=>false)&&jN H e js vs
 |_,_=>false
def fl(H:List ai)(e:bL)(fz:Nat→Bool):eA→AV→Option (Bool × List G)
 |.int k,.lit (.int k' n)=>if k=k' then some (true,[.i n]) else none
 |.str,.lit (.string s)=>some (true,[.s s])
 |.bool,.lit (.bool b)=>some (true,[.t b])
 | .list ks,a=>match l5 ks a with
  |some rows=>some (true,[.l rows])
  | none=>match a with
   | .vec w id ae off n=>match H[id]? with
    |some (.vec d v rows)=>if ae=v∧off=0∧w=ks.length∧Kd.f_ ks d=true∧fz id=true then some (ad n rows.length,[.l rows]) else none
    |_=>none
   |_=>none
 | .row ks,a=>match B2 ks a with
  |some r=>some (true,[.l [r]])
  |none=>none
 | .cptr ks,.cptr cells=>match fF ks cells with
  |some r=>some (true,[.l [r]])
  |none=>none
 | .cptr ks,.ptr id ae _ row col=>match H[id]? with
  | some (.raw (.box cells))=>match fF ks cells with
   |some r=>if ae=0∧row=0∧col=0∧fz id=true then some (true,[.l [r]]) else none
   |none=>none
  |some (.vec d v [r])=>if ae=v∧row=0∧col=0∧Kd.f_ ks d=true∧fz id=true then some (true,[.l [r]]) else none
  |_=>none
 |.nil,.lit (.slice none 0 0)=>some (true,[])
 |.any,_=>some (true,[])
 |.fn f,.clo g []=>if f=g then some (true,[]) else none
 | .ptr j col,.ptr id ae k row c=>match H[id]? with
  |some (.raw _)=>if id=e.at j∧ae=0∧k=0∧row=0∧c=col then some (true,[]) else none
  |_=>none
 | .vec j w,.vec w' id ae off n=>match H[id]? with
  |some (.vec _ v rows)=>if w'=w∧id=e.at j∧ae=v∧off=0 then some (ad n rows.length,[]) else none
  |_=>none
 | .sub j w,.vec w' id ae off n=>match H[id]? with
  |some (.vec _ v _)=>if w'=w∧id=e.at j∧ae=v then some (true,[.i off,.i n]) else none
  |_=>none
 | .pre j w,.vec w' id ae off n=>match H[id]? with
  |some (.vec _ v _)=>if w'=w∧id=e.at j∧ae=v∧off=0 then some (true,[.i n]) else none
  |_=>none
 | .t_ ks,a=>match l5 ks a with
  |some rows=>some (true,[.l rows])
  | none=>match a with
   | .vec w id ae off n=>match H[id]? with
    |some (.vec d v rows)=>if ae=v∧off=0∧w=ks.length∧Kd.f_ ks d=true∧fz id=true then some (dH n rows.length,[.l (rows.take n)]) else none
    |_=>none
   |_=>none
 | .map j,.map id=>match H[id]? with
  |some (.map _ _ _ _)=>if id=e.at j then some (true,[]) else none
  |some (.aH _ _ _ _ _)=>if id=e.at j then some (true,[]) else none
  |some (.mm _ _ _ _ _ _ _)=>if id=e.at j then some (true,[]) else none
  |_=>none
 |.addr,.lit (.pointer (some ⟨b,0,none⟩))=>some (true,[.i (b:Nat)])
 |.JN f js,.clo g vs=>if f=g∧jN H e js vs=true then some (true,[]) else none
 |.B7,.lit .nilIface=>some (true,[])
 |_,_=>none
def fe(H:List ai)(e:bL)(fz:Nat→Bool):List eA→List AV→Option (Bool × List G)
 | [],[]=>some (true,[])
 | sh::d,a::as=>match fl H e fz sh a,fe H e fz d as with
  |some (b,g),some (h,k)=>some (b&&h,g++k)
  |_,_=>none
 |_,_=>none
def jO(H:List ai)(e:bL)(fz:Nat→Bool):Sh→AV→Option (Bool × List G)
 |.s a,v=>fl H e fz a v
 |.clo f caps,.clo g vs=>if f=g then fe H e fz caps vs else none
 |_,_=>none
def ed(H:List ai)(e:bL)(fz:Nat→Bool):List Sh→List AV→Option (Bool × List G)
 | [],[]=>some (true,[])
 | sh::d,a::as=>match jO H e fz sh a,ed H e fz d as with
  |some (b,g),some (h,k)=>some (b&&h,g++k)
  |_,_=>none
 |_,_=>none
def gh(H:List ai)(e:bL)(fz:Nat→Bool):cf→ai→Option (Bool × List G)
 |.vec ks _,.vec g _ rows=>if Kd.f_ ks g then some (true,[.l rows]) else none
 |.box h,.raw (.box cells)=>fe H e fz h cells
 |.map K V,.map d u rows clock=>if K.same d&&V.same u then some (true,[.l rows,.i clock]) else none
 |.er l T B,.raw (.er l' v y s)=>if (ad l l'&&(ad T v&&ad B y))=true then some (true,[.s s]) else none
 |.aH l K ks,.aH l' d g rows clock=>if (ad l l'&&(K.same d&&Kd.f_ ks g))=true then some (true,[.l rows,.i clock]) else none
 |.mm l K KI VI,.mm l' d k q rows mem clock=>if (ad l l'&&(K.same d&&(KI.same k&&VI.same q)))=true then some (true,[.l rows,.l mem,.i clock]) else none
 |_,_=>none
theorem JO{H:List ai}{e:bL}{fz:Nat→Bool}{sh:cf}{o:ai}{b:Bool}{g:List G}(h:gh H e fz sh o=some (b,g)):o.den.label=sh.iL:=by
 unfold gh at h;split at h
 ·rfl
 ·rfl
 ·rfl
 ·split at h
  ·rename_i d
   simp only[aB]at d;have:=bt d.1;subst this;rfl
  ·cases h
 ·split at h
  ·rename_i d
   simp only[aB]at d;have:=bt d.1;subst this;rfl
  ·cases h
 ·split at h
  ·rename_i d
   simp only[aB]at d;have:=bt d.1;subst this;rfl
  ·cases h
 ·cases h
theorem B_{H:List ai}{e:bL}{fz:Nat→Bool}{sh:cf}{o:ai}{b:Bool}{g:List G}(h:gh H e fz sh o=some (b,g)):o.den.cZ=sh.cZ:=by
 unfold gh at h;split at h
 ·rfl
 ·rfl
 ·rfl
 ·rfl
 ·rfl
 ·split at h
  ·rename_i d
   simp only[aB]at d;have:=bt d.1;subst this;rfl
  ·cases h
 ·cases h
def iM(H:List ai)(e:bL)(fz:Nat→Bool):List cf→List Nat→Option (Bool × List G)
 | [],[]=>some (true,[])
 | o::os,i::is=>match H[i]? with
  | some t=>match gh H e fz o t,iM H e fz os is with
   |some (b,g),some (d,h)=>some (b&&d,g++h)
   |_,_=>none
  |none=>none
 |_,_=>none
theorem nt:∀(g rest:List G),eb g.length (g++rest)=rest
 | [],_=>rfl
 |_::g,rest=>nt g rest
def qK:ai→Nat
 |.vec _ v _=>v
 |_=>0
def qL(H:List ai)(id:Nat):Nat:=match H[id]? with
 |some o=>qK o
 |none=>0
def bJ(H:List ai)(ids:List Nat):bL:=⟨ids,ids.map (qL H),H.length⟩
structure xA (E0:Env) (lens:cX) (j:Nat) (o:ai):Prop where
 ae:o.den.aF = some (qK o)
 obj:∃ o0,E0.H[j]? = some o0∧o0.aF = some (lens.ae j)
 mm:∀ o0,E0.H[j]? = some o0→o0.cZ=o.den.cZ
 len:∀ ks v rows,o=.vec ks v rows→lens.len j=rows.length
 flat:(∀ ks v rows,o≠.vec ks v rows)→lens.ae j=0
structure gT (H:List ai) (e:bL) (fz:Nat→Bool) (lens:cX) (E E0:Env):Prop where
 hH:E.H=ao H
 HE:au E
 free:∀ i,fz i=true→∀ b n,E.loc[i]? = some (some (b,n))→E0.ig b
 cQ:KeepIn e E E0
 obj:∀ j o,H[e.at j]? = some o→j<e.ids.length∧xA E0 lens j o
section cQ
variable {H:List ai} {e:bL} {fz:Nat→Bool} {lens:cX} {E E0:Env}
theorem xA.past{j:Nat}{o:ai}(h:xA E0 lens j o):E0.past j (lens.ae j):=by
 obtain⟨o0,h1,d⟩:=h.obj;exact⟨o0,h1,ab.Ah d,fun v g=>by rw[d]at g; cases g; exact aG _⟩
theorem U6(K:gT H e fz lens E E0){id v n:Nat}{ks:List Kd}{rows:List (List G)}{c:Value}(hid:H[id]? = some (.vec ks v rows))(B:fz id=true)(I:n=rows.length)
  (d:rel E (.vec ks.length id v 0 n) c):rel E0 (.listF ks rows) c:=by
 subst I;have k:E.H[id]? = some (.vec ks.length v (rows.map (aJ ks))):=by rw[K.hH]; exact bk hid
 have ho:=K.HE.obj id _ k;rw[iC];simp only[rel]at d⊢;obtain⟨⟨base,cap,rfl,y,_⟩,_,h⟩:=d;obtain⟨N,J⟩:=h ⟨_,k,rfl⟩;have q:eQ (rows.map (aJ ks)):=by
  intro r d;obtain⟨g,_,rfl⟩:=dF.1 d;exact fy ks g
 refine⟨q,base,cap,by simp,by simpa using y,?_⟩;simp only[aN]at ho;rcases ho with⟨h1,u⟩|⟨b,m,h1,u,h,_,M⟩
 ·exact .inl u
 ·obtain ⟨g1, o, g2, g3⟩ := J b m h1
  by_cases hm:rows=[]
  ·subst hm; exact .inl rfl
  ·right
   have:0<rows.length:=by cases rows with|nil=>exact(hm rfl).elim|cons _ _=>simp
   simp at h;have ho:=g2 (by omega);simp at ho;subst ho;simp only[jv]at g3;exact⟨b,0,g3.1,K.free id B b m h1,ka K.cQ.bF _ q (by rw[K.cQ.w]) M⟩
theorem U7(K:gT H e fz lens E E0){id v n:Nat}{ks:List Kd}{rows:List (List G)}{c:Value}(hid:H[id]? = some (.vec ks v rows))(J:fz id=true)(M:n≤rows.length)
  (d:rel E (.vec ks.length id v 0 n) c):rel E0 (.listF ks (rows.take n)) c:=by
 have k:E.H[id]? = some (.vec ks.length v (rows.map (aJ ks))):=by rw[K.hH]; exact bk hid
 have ho:=K.HE.obj id _ k;rw[iC];simp only[rel]at d⊢;obtain⟨⟨base,cap,rfl,I,_⟩,_,h⟩:=d;obtain⟨O,N⟩:=h ⟨_,k,rfl⟩;have u:eQ ((rows.take n).map (aJ ks)):=by
  intro r d;obtain⟨g,_,rfl⟩:=dF.1 d;exact fy ks g
 have q:min n rows.length=n:=Nat.min_eq_left M;refine⟨u,base,cap,by simp[q],by simpa[q]using I,?_⟩;simp only[aN]at ho;rcases ho with⟨h1,y⟩|⟨b,m,h1,y,h,_,B⟩
 ·left
  have:rows=[]:=by simpa using y
  rw[this];simp
 ·obtain ⟨g1, o, g2, g3⟩ := N b m h1
  by_cases hm:n=0
  ·left; rw[hm]; simp
  ·right
   simp at h;have ho:=g2 (by omega);simp at ho;subst ho;simp only[jv]at g3;refine⟨b,0,g3.1,K.free id J b m h1,ka K.cQ.bF _ u (by rw[K.cQ.w]) ?_⟩;rw[kO]at B⊢;intro i r hi;simp only[bZ,lA]at hi;split at hi
   ·exact B i r (by simpa using hi)
   ·simp at hi
theorem U8(K:gT H e fz lens E E0){id k:Nat}{cells:List AV}{c:Value} (hid:H[id]? = some (.raw (.box cells))) (g:AV.bq cells=true) (q:fz id=true)
  (h:rel E (.ptr id 0 k 0 0) c):rel E0 (.cptr cells) c:=by
 have d:E.H[id]? = some (.box cells):=by rw[K.hH]; exact bk hid
 have ho:=K.HE.obj id _ d;simp only[aN]at ho;obtain⟨b,n,h1,y,u⟩:=ho;simp only[rel]at h⊢;obtain⟨_,_,v⟩:=h;obtain⟨B,I,g1,g2⟩:=v ⟨_,d,rfl⟩;rw[h1]at g1;simp only[aZ,be]at g1;obtain⟨rfl,rfl⟩:=g1;exact⟨g,b,0,by rw[g2]; simp,K.free id q b n h1,pU K.cQ.bF cells g (by rw[K.cQ.w]) u⟩
theorem U9(K:gT H e fz lens E E0){id k v:Nat}{ks:List Kd}{r:List G}{c:Value}(hid:H[id]? = some (.vec ks v [r]))(u:fz id=true)
  (g:rel E (.ptr id v k 0 0) c):rel E0 (.cptr (aJ ks r)) c:=by
 have d:E.H[id]? = some (.vec ks.length v [aJ ks r]):=by rw[K.hH]; exact bk hid
 have ho:=K.HE.obj id _ d;simp only[aN]at ho;simp only[rel]at g⊢;obtain⟨_,_,y⟩:=g;obtain⟨B,I,g1,g2⟩:=y ⟨_,d,rfl⟩;rcases ho with⟨_,h⟩|⟨b,m,h1,h,J,M,q⟩
 ·cases h
 ·rw [h1] at g1
  simp only[aZ,be]at g1;obtain⟨rfl,rfl⟩:=g1;simp only[cz]at q;exact⟨fy ks r,b,0,by rw[g2]; simp,K.free id u b m h1,pU K.cQ.bF _ (fy ks r) (by rw[K.cQ.w]) q.2.1⟩
theorem JP(K:gT H e fz lens E E0):∀{js:List Nat} {vs:List AV},jN H e js vs=true→∀ cs,af E vs cs→af E0 (oT js) cs
 | [],[],_,cs,d=>by
  cases cs with
  |nil=>simp[oT,af]
  |cons _ _=>simp[af]at d
 | j::js,v::vs,h,cs,d=>by
  cases v<;>simp only[jN,kK]at h<;>try cases h
  rename_i id ae k row c;simp only[aB]at h;obtain⟨h1,y⟩:=h;split at h1
  ·rename_i r hid
   simp only[aB]at h1;obtain⟨⟨⟨⟨g,a2⟩,a3⟩,a4⟩,a5⟩:=h1;have g:=bt g;have a2:=bt a2;have a3:=bt a3;have a4:=bt a4;have a5:=bt a5;subst g a2 a3 a4 a5;cases cs with
   |nil=>simp[af]at d
   | cons c cs =>
    simp only[af]at d;simp only[oT,af];refine⟨?_,JP K y cs d.2⟩;obtain⟨B,q⟩:=K.obj _ _ hid;have I:=q.flat (fun _ _ _ h=>by cases h);have u:=d.1;simp only[rel]at u⊢;obtain⟨h1,y,J⟩:=u;refine⟨h1,by have:=q.past; rwa [I]at this,fun _=>?_⟩;rw[K.cQ.loc _ B];exact J ⟨_,by rw[K.hH]; exact bk hid,q.ae⟩
  ·cases h1
 | [],_::_,h,_,_=>by simp[jN]at h
 |_::_,[],h,_,_=>by simp[jN]at h
theorem JQ(K:gT H e fz lens E E0){sh:eA}{a:AV}{g:List G}(h:fl H e fz sh a=some (true,g))(rest:List G) :
  g.length=sh.sz∧∀ c,rel E a c→rel E0 (eB lens sh (g++rest)) c:=by
 unfold fl at h;split at h
 ·split at h
  ·rename_i hk
   subst hk;cases h;exact⟨rfl,fun c d=>by simp only[rel]at d; subst d; simp[eB,rel,G.int]⟩
  ·cases h
 ·cases h; exact⟨rfl,fun c d=>by simp only[rel]at d; subst d; simp[eB,rel,G.str]⟩
 ·cases h; exact⟨rfl,fun c d=>by simp only[rel]at d; subst d; simp[eB,rel,G.bool]⟩
 ·split at h
  ·rename_i rows d
   cases h;exact⟨rfl,fun c k=>dB K.cQ.bF (.listF _ rows) rfl (JA d k)⟩
  ·split at h
   ·split at h
    ·rename_i hid
     split at h
     ·rename_i k
      obtain⟨rfl,rfl,rfl,B,I⟩:=k;simp only[aZ,be]at h;obtain⟨h1,rfl⟩:=h;have B:=Kd.ir B;subst B;exact⟨rfl,fun c d=>U6 K hid I (bt h1) d⟩
     ·cases h
    ·cases h
   ·cases h
 ·split at h
  ·rename_i ks a r d
   cases h;have N:=JB d;subst N;exact⟨rfl,fun c k=>dB K.cQ.bF (.agg (aJ ks r)) (by simp only[AV.closed,fy]) k⟩
  ·cases h
 ·split at h
  ·rename_i r d
   cases h;have N:=jJ d;subst N;exact⟨rfl,fun c k=>dB K.cQ.bF (.cptr _) rfl k⟩
  ·cases h
 ·split at h
  ·rename_i hid
   split at h
   ·rename_i r d
    split at h
    ·rename_i k
     obtain⟨rfl,rfl,rfl,I⟩:=k;cases h;have N:=jJ d;subst N;exact⟨rfl,fun c d=>U8 K hid (fy _ _) I d⟩
    ·cases h
   ·cases h
  ·rename_i V v r hid
   split at h
   ·rename_i k
    obtain⟨rfl,rfl,rfl,B,I⟩:=k;cases h;have B:=Kd.ir B;subst B;exact⟨rfl,fun c d=>U9 K hid I d⟩
   ·cases h
  ·cases h
 ·cases h; exact⟨rfl,fun c d=>by simpa only[eB,rel]using d⟩
 ·cases h; exact⟨rfl,fun c d=>by simp[eB,rel]⟩
 ·split at h
  ·rename_i hk
   subst hk;cases h;exact⟨rfl,fun c d=>dB K.cQ.bF (.clo _ []) rfl d⟩
  ·cases h
 ·split at h
  ·rename_i r hid
   split at h
   ·rename_i k
    obtain⟨rfl,rfl,rfl,rfl,rfl⟩:=k;cases h;obtain⟨u,q⟩:=K.obj _ _ hid;have J:=q.flat (fun _ _ _ h=>by cases h);refine⟨rfl,fun c d=>?_⟩;simp only[rel]at d;simp only[eB,rel];obtain⟨h1,M,y⟩:=d;refine⟨h1,by have:=q.past; rwa [J]at this,fun _=>?_⟩;rw[K.cQ.loc _ u];exact y ⟨_,by rw[K.hH]; exact bk hid,q.ae⟩
   ·cases h
  ·cases h
 ·split at h
  ·rename_i ks v rows hid
   split at h
   ·rename_i k
    obtain⟨rfl,rfl,rfl,rfl⟩:=k;simp only[aZ,be]at h;obtain⟨h1,rfl⟩:=h;have h1:=bt h1;subst h1;obtain⟨u,q⟩:=K.obj _ _ hid;refine⟨rfl,fun c d=>?_⟩;simp only[rel]at d;simp only[eB,rel];rw[q.len _ _ _ rfl];obtain⟨h1,M,y⟩:=d;refine⟨h1,q.past,fun _=>?_⟩;rw[K.cQ.loc _ u];exact y ⟨_,by rw[K.hH]; exact bk hid,q.ae⟩
   ·cases h
  ·cases h
 ·split at h
  ·rename_i ks v rows hid
   split at h
   ·rename_i k
    obtain⟨rfl,rfl,rfl⟩:=k;cases h;obtain⟨u,q⟩:=K.obj _ _ hid;refine⟨rfl,fun c d=>?_⟩;simp only[rel]at d;simp only[eB,rel,lC,vQ,List.tail_cons,G.int,a7];obtain⟨h1,M,y⟩:=d;refine⟨h1,q.past,fun _=>?_⟩;rw[K.cQ.loc _ u];exact y ⟨_,by rw[K.hH]; exact bk hid,q.ae⟩
   ·cases h
  ·cases h
 ·split at h
  ·rename_i ks v rows hid
   split at h
   ·rename_i k
    obtain⟨rfl,rfl,rfl,rfl⟩:=k;cases h;obtain⟨u,q⟩:=K.obj _ _ hid;refine⟨rfl,fun c d=>?_⟩;simp only[rel]at d;simp only[eB,rel,lC,vQ,G.int,a7];obtain⟨h1,M,y⟩:=d;refine⟨h1,q.past,fun _=>?_⟩;rw[K.cQ.loc _ u];exact y ⟨_,by rw[K.hH]; exact bk hid,q.ae⟩
   ·cases h
  ·cases h
 ·split at h
  ·rename_i rows d
   cases h;exact⟨rfl,fun c k=>dB K.cQ.bF (.listF _ rows) rfl (JA d k)⟩
  ·split at h
   ·split at h
    ·rename_i hid
     split at h
     ·rename_i k
      obtain⟨rfl,rfl,rfl,B,I⟩:=k;simp only[aZ,be]at h;obtain⟨h1,rfl⟩:=h;have B:=Kd.ir B;subst B;exact⟨rfl,fun c d=>U7 K hid I (sH h1) d⟩
     ·cases h
    ·cases h
   ·cases h
 ·split at h
  ·rename_i O V1 rows cl hid
   split at h
   ·rename_i k
    subst k;cases h;obtain⟨u,q⟩:=K.obj _ _ hid;have J:=q.flat (fun _ _ _ h=>by cases h);refine⟨rfl,fun c d=>?_⟩;simp only[rel]at d;simp only[eB,rel];obtain⟨h1,M,y⟩:=d;refine⟨h1,by have:=q.past; rwa [J]at this,fun _=>?_⟩;rw[K.cQ.loc _ u];exact y ⟨_,by rw[K.hH]; exact bk hid,q.ae⟩
   ·cases h
  ·rename_i U O W rows cl hid
   split at h
   ·rename_i k
    subst k;cases h;obtain⟨u,q⟩:=K.obj _ _ hid;have J:=q.flat (fun _ _ _ h=>by cases h);refine⟨rfl,fun c d=>?_⟩;simp only[rel]at d;simp only[eB,rel];obtain⟨h1,M,y⟩:=d;refine⟨h1,by have:=q.past; rwa [J]at this,fun _=>?_⟩;rw[K.cQ.loc _ u];exact y ⟨_,by rw[K.hH]; exact bk hid,q.ae⟩
   ·cases h
  ·rename_i U O KI1 VI1 rows mem cl hid
   split at h
   ·rename_i k
    subst k;cases h;obtain⟨u,q⟩:=K.obj _ _ hid;have J:=q.flat (fun _ _ _ h=>by cases h);refine⟨rfl,fun c d=>?_⟩;simp only[rel]at d;simp only[eB,rel];obtain⟨h1,M,y⟩:=d;refine⟨h1,by have:=q.past; rwa [J]at this,fun _=>?_⟩;rw[K.cQ.loc _ u];exact y ⟨_,by rw[K.hH]; exact bk hid,q.ae⟩
   ·cases h
  ·cases h
 ·cases h; exact⟨rfl,fun c d=>by simp only[rel]at d; subst d; simp[eB,rel,G.int]⟩
 ·split at h
  ·rename_i k
   obtain⟨rfl,k⟩:=k;cases h;refine⟨rfl,fun c d=>?_⟩;simp only[rel]at d;simp only[eB,rel];obtain⟨cs,r1,r2⟩:=d;exact⟨cs,r1,JP K k _ r2⟩
  ·cases h
 ·cases h; exact⟨rfl,fun c d=>by simpa only[eB,rel]using d⟩
 ·cases h
theorem Ca(K:gT H e fz lens E E0):∀{k:List eA} {as:List AV} {g:List G},fe H e fz k as=some (true,g)→∀(rest:List G),
  g.length=nr k∧as.length=k.length∧(iw lens k (g++rest)).length=k.length ∧
   (∀ cs,af E as cs→af E0 (iw lens k (g++rest)) cs)∧∀ b o,E0.w.heap[b]? = E.w.heap[b]? → cn E as b o→cn E0 (iw lens k (g++rest)) b o
 | [],[],g,h,rest=>by
  simp only[fe,aZ,be]at h;obtain⟨_,rfl⟩:=h;refine⟨rfl,rfl,rfl,fun cs d=>?_,fun b o _ d=>by simp[iw,cn]⟩;cases cs with
  |nil=>simp[iw,af]
  |cons _ _=>simp[af]at d
 | sh::k,a::as,g,h,rest=>by
  simp only[fe]at h;split at h
  ·rename_i b g1 U g2 h1 y
   simp only[aZ,be,aB]at h;obtain⟨⟨rfl,rfl⟩,rfl⟩:=h;obtain⟨p1,u⟩:=JQ K h1 (g2++rest);obtain⟨B,I,J,M,N⟩:=Ca K y rest;have q:eb sh.sz (g1++(g2++rest))=g2++rest:=by rw[←p1]; exact nt g1 _
   refine⟨by simp only[nr,fi,p1,B],by simp only[cB,I],?_,?_,?_⟩
   ·simp only[iw,gu,q,cB,J]
   ·intro cs d
    cases cs with
    |nil=>simp[af]at d
    | cons c cs =>
     simp only[af]at d;simp only[iw,gu,q,af];exact⟨u c d.1,M cs d.2⟩
   ·intro b o hb d
    simp only[cn]at d;simp only[iw,gu,q,cn];obtain⟨⟨v,r1,r2,r3⟩,O⟩:=d;exact⟨⟨v,by rw[World.pT hb]; exact r1,r2,u v r3⟩,N b (o+1) hb O⟩
  ·cases h
 | [],_::_,_,h,_=>by simp[fe]at h
 |_::_,[],_,h,_=>by simp[fe]at h
theorem JR(K:gT H e fz lens E E0){sh:Sh}{a:AV}{g:List G}(h:jO H e fz sh a=some (true,g))(rest:List G) :
  g.length=sh.sz∧∀ c,rel E a c→rel E0 (oU lens sh (g++rest)) c:=by
 cases sh with
 |s a0=>exact JQ K h rest
 | clo f caps =>
  cases a<;>simp only[jO]at h<;>try cases h
  rename_i g1 vs;split at h
  ·rename_i k
   subst k;obtain⟨q,v,y,u,B⟩:=Ca K h rest;refine⟨q,fun c d=>?_⟩;simp only[rel]at d;simp only[oU,rel];obtain⟨cs,r1,r2⟩:=d;exact⟨cs,r1,u _ r2⟩
  ·cases h
theorem ua(K:gT H e fz lens E E0):∀{d:List Sh} {as:List AV} {g:List G},ed H e fz d as=some (true,g)→∀(rest:List G),
  g.length=B8 d∧as.length=d.length∧(fc lens d (g++rest)).length=d.length∧(∀ cs,af E as cs→af E0 (fc lens d (g++rest)) cs)
 | [],[],g,h,rest=>by
  simp only[ed,aZ,be]at h;obtain⟨_,rfl⟩:=h;refine⟨rfl,rfl,rfl,fun cs k=>?_⟩;cases cs with
  |nil=>simp[fc,af]
  |cons _ _=>simp[af]at k
 | sh::d,a::as,g,h,rest=>by
  simp only[ed]at h;split at h
  ·rename_i b g1 M g2 h1 u
   simp only[aZ,be,aB]at h;obtain⟨⟨rfl,rfl⟩,rfl⟩:=h;obtain⟨p1,v⟩:=JR K h1 (g2++rest);obtain⟨y,B,I,J⟩:=ua K u rest;have q:eb sh.sz (g1++(g2++rest))=g2++rest:=by rw[←p1]; exact nt g1 _
   refine⟨by simp only[B8,fi,p1,y],by simp only[cB,B],by simp only[fc,gu,q,cB,I],?_⟩;intro cs k;cases cs with
   |nil=>simp[af]at k
   | cons c cs =>
    simp only[af]at k;simp only[fc,gu,q,af];exact⟨v c k.1,J cs k.2⟩
  ·cases h
 | [],_::_,_,h,_=>by simp[ed]at h
 |_::_,[],_,h,_=>by simp[ed]at h
theorem JS(K:gT H e fz lens E E0):∀{u:List Sh} {as:List AV} {g:List G},ed H e fz u as=some (true,g)→∀{rest:List G} {k:Nat} {x v:AV} {c:Value},
  as[k]? = some x→(fc lens u (g++rest))[k]? = some v→rel E x c→rel E0 v c
 | [],[],_,_,_,_,_,_,_,d,_,_=>by simp at d
 | sh::u,a::as,g,h,rest,k,x,v,c,d,q,y=>by
  simp only[ed]at h;split at h
  ·rename_i b g1 M g2 h1 B
   simp only[aZ,be,aB]at h;obtain⟨⟨rfl,rfl⟩,rfl⟩:=h;obtain⟨p1,I⟩:=JR K h1 (g2++rest);have J:eb sh.sz (g1++(g2++rest))=g2++rest:=by rw[←p1]; exact nt g1 _
   simp only[fc,gu,J]at q;cases k with
   | zero =>
    simp at d q;subst d;subst q;exact I c y
   |succ k=>exact JS K B (by simpa using d) (by simpa using q) y
  ·cases h
 | [],_::_,_,h,_,_,_,_,_,_,_,_=>by simp[ed]at h
 |_::_,[],_,h,_,_,_,_,_,_,_,_=>by simp[ed]at h
theorem JT(K:gT H e fz lens E E0){sh:cf}{o:ai}{g:List G}(h:gh H e fz sh o=some (true,g))(rest:List G)
  {j:Nat} (W:j<e.ids.length) (hlab:∀ l,sh.iL=some l→E0.X.r l=E.X.r l) (ho:aN E (e.at j) o.den):aN E0 j (eJ lens sh (g++rest)).den:=by
 have I:∀ b:Nat,E0.w.heap[b]? = E.w.heap[b]? := fun b=>by rw[K.cQ.w]
 have J:=K.cQ.loc j W;unfold gh at h;split at h
 ·split at h
  ·rename_i y
   cases h;have y:=Kd.ir y;subst y;simp only[eJ,ai.den,aN]at ho⊢;rcases ho with⟨h1,d⟩|⟨b,m,h1,d,u,M,h5⟩
   ·exact .inl ⟨by rw[J,h1],d⟩
   ·exact .inr ⟨b,m,by rw[J,h1],pV (I b) d,u,M,ka K.cQ.bF _ M (I b) h5⟩
  ·cases h
 ·rename_i shs cells
  obtain⟨q1,q2,q3,q5,q6⟩:=Ca K h rest;simp only[eJ,ai.den,aN]at ho⊢;obtain⟨b,n,h1,d,u⟩:=ho;exact⟨b,n,by rw[J,h1],by rw[q3,←q2]; exact pV (I b) d,q6 b 0 (I b) u⟩
 ·split at h
  ·rename_i y
   cases h;simp only[aB]at y;have h1:=Ct.jd y.1;have d:=Ct.jd y.2;subst h1;subst d;simp only[eJ,ai.den,aN]at ho⊢;obtain⟨b,n,ms,h1,d,u⟩:=ho;refine⟨b,n,ms,by rw[J,h1],?_,iu K.cQ.bF u⟩;rw[I b];simpa[G.int]using d
  ·cases h
 ·rename_i l T B l' T' B' s
  split at h
  ·rename_i y
   cases h;simp only[aB]at y;obtain⟨h1,d,u⟩:=y;have h1:=bt h1;have d:=bt d;have u:=bt u;subst h1 d u;simp only[eJ,ai.den,aN]at ho⊢;obtain⟨b,n,p,v,k,q,g1,g2,g3,g4,g5,g6⟩:=ho;have N:=hlab l rfl;exact⟨b,n,p,v,k,q,by rw[J,g1],by rw[I b,g2],g3,by rw[N,g4],by rw[N]; exact g5,Al (fun g m _=>I g) (by simpa[G.str]using g6)⟩
  ·cases h
 ·rename_i l K0 ks l' K' ks' rows clock
  split at h
  ·rename_i y
   cases h;simp only[aB]at y;obtain⟨h1,d,u⟩:=y;have h1:=bt h1;have d:=Ct.jd d;have u:=Kd.ir u;subst h1 d u;simp only[eJ,ai.den,aN]at ho⊢;obtain⟨b,n,ms,g1,g2,g3,g4⟩:=ho;have N:=hlab l rfl;refine⟨b,n,ms,by rw[J,g1],?_,iu K.cQ.bF g3,sN (E:=E) (fun h g m hk=>⟨by rw[N]; exact hk,I g⟩) (fun _ _ _ _ _ O U hc V=>ka K.cQ.bF _ hc U V) g4⟩;rw[I b];simpa[G.int]using g2
  ·cases h
 ·rename_i l K0 KI VI l' K' KI' VI' rows mem clock
  split at h
  ·rename_i y
   cases h;simp only[aB]at y;obtain⟨h1,d,u,M⟩:=y;have h1:=bt h1;have d:=Ct.jd d;have u:=Ct.jd u;have M:=Ct.jd M;subst h1 d u M;simp only[eJ,ai.den,aN]at ho⊢;obtain⟨b,n,ms,g1,g2,g3,g4⟩:=ho;have N:=hlab l rfl;refine⟨b,n,ms,by rw[J,g1],?_,iu K.cQ.bF g3,Ao N (fun _ O _ _=>I O) (fun _ _ _=>iu K.cQ.bF) g4⟩;rw[I b];simpa[G.int]using g2
  ·cases h
 ·cases h
end cQ
def cf.up:cf→Nat
 |.vec _ u=>u
 |_=>0
theorem Cb{H:List ai}{e:bL}{fz:Nat→Bool}{lens:cX}{sh:cf}{o:ai}{b:Bool}{g d:List G}(h:gh H e fz sh o=some (b,g)) :
  o.den.aF = some (qK o)∧(eJ lens sh d).den.aF = some sh.up∧((∀ ks v rows,o≠.vec ks v rows)→sh.up=0):=by
 unfold gh at h;split at h
 ·exact⟨rfl,rfl,fun k=>(k _ _ _ rfl).elim⟩
 ·exact⟨rfl,rfl,fun _=>rfl⟩
 ·exact⟨rfl,rfl,fun _=>rfl⟩
 ·exact⟨rfl,rfl,fun _=>rfl⟩
 ·exact⟨rfl,rfl,fun _=>rfl⟩
 ·exact⟨rfl,rfl,fun _=>rfl⟩
 ·cases h
theorem U_{H:List ai}{e:bL}{fz:Nat→Bool}{sh:eA}{a:AV}{b:Bool}{g:List G}(h:fl H e fz sh a=some (b,g)):g.length=sh.sz:=by
 unfold fl at h;split at h<;>(try split at h)<;>(try split at h)<;>(try split at h)<;>(try split at h)<;>first
  |(cases h; rfl)
  |cases h
theorem JU{H:List ai}{e:bL}{fz:Nat→Bool}:∀{d:List eA} {as:List AV} {b:Bool} {g:List G},fe H e fz d as=some (b,g)→g.length=nr d
 | [],[],_,g,h=>by simp[fe]at h; simp[←h.2,nr]
 | sh::d,a::as,b,g,h=>by
  simp only[fe]at h;split at h
  ·rename_i b g1 q g2 h1 k
   simp only[aZ,be]at h;obtain⟨_,rfl⟩:=h;simp only[nr,fi,U_ h1,JU k]
  ·cases h
 | [],_::_,_,_,h|_::_,[],_,_,h=>by simp[fe]at h
theorem U'{H:List ai}{e:bL}{fz:Nat→Bool}{sh:cf}{o:ai}{b:Bool}{g:List G}(h:gh H e fz sh o=some (b,g)):g.length=sh.sz:=by
 unfold gh at h;split at h
 ·split at h
  ·cases h; rfl
  ·cases h
 ·exact JU h
 ·split at h
  ·cases h; rfl
  ·cases h
 ·split at h
  ·cases h; rfl
  ·cases h
 ·split at h
  ·cases h; rfl
  ·cases h
 ·split at h
  ·cases h; rfl
  ·cases h
 ·cases h
theorem ub{H:List ai}{e:bL}{fz:Nat→Bool}:∀{os:List cf} {ids:List Nat} {g:List G},iM H e fz os ids=some (true,g)→∀(rest:List G) (lens:cX),
  g.length=k8 os∧ids.length=os.length∧(cM lens os (g++rest)).length=os.length ∧
  (∀ (j : Nat) (sh : cf), os[j]? = some sh → ∃ i o g1 q, ids[j]? = some i ∧ H[i]? = some o ∧ gh H e fz sh o = some (true, g1) ∧ (cM lens os (g ++ rest))[j]? = some (eJ lens sh (g1 ++ q)) ∧
   (cF os (g++rest)).ae j=sh.up∧∀ ks v rows,o=.vec ks v rows→(cF os (g++rest)).len j=rows.length)
 | [],[],g,h,rest,lens=>by
  simp only[iM,aZ,be]at h;obtain⟨_,rfl⟩:=h;exact⟨rfl,rfl,rfl,fun j sh d=>by simp at d⟩
 | sh::os,i::ids,g,h,rest,lens=>by
  simp only[iM]at h;split at h
  case h_2=>cases h
  rename_i o ho;split at h
  ·rename_i b g1 b' g2 h1 I
   simp only[aZ,be,aB]at h;obtain⟨⟨rfl,rfl⟩,rfl⟩:=h;obtain⟨J,M,N,O⟩:=ub I rest lens;have u:=U' h1;have k:eb sh.sz (g1++(g2++rest))=g2++rest:=by rw[←u]; exact nt g1 _
   refine⟨by simp only[k8,fi,u,J],by simp only[cB,M],by simp only[cM,gu,k,cB,N],fun j y d=>?_⟩;cases j with
   | zero =>
    simp at d;subst d;refine⟨i,o,g1,g2++rest,rfl,ho,h1,by simp only[cM,gu,List.getElem?_cons_zero],?_,?_⟩
    ·unfold cF cX.ae
     cases sh<;>rfl
    ·rintro ks v rows rfl
     unfold gh at h1;split at h1
     ·rename_i heq
      cases heq;split at h1
      ·cases h1
       simp[cF,cX.len,G.rows]
      ·cases h1
     ·rename_i heq; cases heq
     ·rename_i heq; cases heq
     ·rename_i heq; cases heq
     ·rename_i heq; cases heq
     ·rename_i heq; cases heq
     ·cases h1
   | succ j =>
    obtain⟨U,o',B,q,r1,r2,r3,V,W,r6⟩:=O j y (by simpa using d);refine⟨U,o',B,q,by simpa using r1,r2,r3,by simpa only[cM,gu,k,RI]using V,?_,?_⟩
    ·simpa only[cF,cX.ae,gu,k,agJ]using W
    ·simpa only[cF,cX.len,gu,k,agJ]using r6
  ·cases h
 | [],_::_,_,h,_,_=>by simp[iM]at h
 |_::_,[],_,h,_,_=>by simp[iM]at h
end Go.AL

namespace Go.AL
open Go
variable [Dr]
abbrev qM(a b:Bool):Bool:=Bool.casesOn a false b
theorem qN{a b:Bool}:qM a b=true↔a=true∧b=true:=by cases a<;>simp
open Classical in
noncomputable def l6(E:Env)(H0:List ab)(l:Nat):List (Option (Option (Nat × Nat))):=if ∃(j:Nat) (o:ab),H0[j]? = some o∧o.label=some l then E.X.r l else (E.X.r l).map fun _=>none
theorem Va{E:Env}{H0:List ab}{l j:Nat}{o:ab}(h:H0[j]? = some o)(d:o.label=some l):l6 E H0 l=E.X.r l:=if_pos ⟨j,o,h,d⟩
theorem xB{E:Env}{H0:List ab}{l h:Nat}{q:Option (Nat × Nat)}(d:(l6 E H0 l)[h]? = some (some q)):(E.X.r l)[h]? = some (some q)∧∃(j:Nat) (o:ab),H0[j]? = some o∧o.label=some l:=by
 unfold l6 at d;split at d
 ·rename_i k
  exact⟨d,k⟩
 ·rw [bZ] at d
  cases g:(E.X.r l)[h]? with
  |none=>rw[g]at d; cases d
  |some y=>rw[g]at d; cases d
theorem Vb(E:Env)(H0:List ab)(l:Nat):(l6 E H0 l).length=(E.X.r l).length:=by
 unfold l6;split
 ·rfl
 ·simp
noncomputable def gU(E:Env)(H0:List ab)(ids:List Nat):Env:=⟨E.w,H0,ids.map fun i=>E.loc.getD i none,E.X.re (l6 E H0)⟩
theorem JV(E:Env)(H0:List ab)(ids:List Nat):∀ l h,h<(E.X.r l).length→h<((gU E H0 ids).X.r l).length∧∀ q,((gU E H0 ids).X.r l)[h]? = some (some q)→(E.X.r l)[h]? = some (some q) :=
 fun l h d=>⟨by show h<(l6 E H0 l).length; rw[Vb]; exact d,fun q g=>(xB (E:=E) (H0:=H0) g).1⟩
theorem JW{E:Env}{H0:List ab}{ids:List Nat}{b:Nat}(h:(gU E H0 ids).own b):E.own b:=by
 rcases h with⟨j,c,g⟩|⟨l,k,c,g⟩
 ·simp only [gU, bZ] at g
  obtain⟨i,_,d⟩:=dM.1 g;rw[ch]at d;cases he:E.loc[i]? with
  |none=>rw[he]at d; cases d
  |some y=>rw[he]at d; simp at d; exact .inl ⟨i,c,by rw[he,d]⟩
 ·exact .inr ⟨l,k,c,(xB g).1⟩
def gV(ids:List Nat)(i:Nat):Bool := !ids.any (ad i)
theorem JX{ids:List Nat}{i:Nat}(h:gV ids i=true):i∉ids:=by
 intro hm;have:ids.any (ad i)=true:=jy.2 ⟨i,hm,by simp⟩;simp[gV,this]at h
theorem JY{E:Env}{H:List ai}(hH:E.H=ao H)(HE:au E){ids:List Nat}(hn:ids.Nodup){os:List cf}{g:List G}(h:iM H (bJ H ids) (gV ids) os ids=some (true,g))(rest:List G) :
  gT H (bJ H ids) (gV ids) (cF os (g++rest)) E (gU E (ao (cM (cF os (g++rest)) os (g++rest))) ids) ∧
   au (gU E (ao (cM (cF os (g++rest)) os (g++rest))) ids):=by
 obtain⟨p0,p1,p2,p3⟩:=ub h rest (cF os (g++rest));generalize J:gU E (ao (cM (cF os (g++rest)) os (g++rest))) ids=E0;have hElen:E.loc.length=H.length:=by rw[HE.len,hH,eg]
 have eids:(bJ H ids).ids=ids:=rfl;have W:∀ j x,E0.loc[j]? = some x→j<ids.length∧∃ i,ids[j]? = some i∧E.loc.getD i none=x:=by
  intro j x I;rw[←J]at I;simp only[gU,bZ]at I;obtain⟨i,h1,B⟩:=dM.1 I;exact⟨aK h1,i,h1,B⟩
 have getD_some:∀{i:Nat} {x:Nat × Nat},E.loc.getD i none=some x→E.loc[i]? = some (some x):=by
  intro i x I;rw[ch]at I;cases he:E.loc[i]? with
  |none=>rw[he]at I; cases I
  |some y=>rw[he]at I; simp at I; rw[I]
 have hown:∀ b,E0.own b→E.own b:=by
  rintro b (⟨j,c,u⟩|⟨l,k,c,u⟩)
  ·obtain ⟨_, i, _, B⟩ := W j _ u
   exact .inl ⟨i,c,getD_some B⟩
  ·rw [← J] at u
   exact .inr ⟨l,k,c,(xB u).1⟩
 have hw:E0.w=E.w:=by rw[←J]; rfl
 have hX:E0.X.x=E.X.x:=by rw[←J]; rfl
 have V:∀(l k:Nat) q,(E0.X.r l)[k]? = some (some q)→(E.X.r l)[k]? = some (some q)∧∃(j:Nat) (o:ab),E0.H[j]? = some o∧o.label=some l:=fun l k q hq=>by
  rw[←J]at hq⊢;exact xB hq
 have hatl:∀ j,j<ids.length→ids[j]? = some ((bJ H ids).at j):=fun j u=>gg (e:=bJ H ids) u;have hobjs:∀ j,j<ids.length→∃ sh o g1 M,os[j]? = some sh∧H[(bJ H ids).at j]? = some o∧gh H (bJ H ids) (gV ids) sh o=some (true,g1) ∧
   (cM (cF os (g++rest)) os (g++rest))[j]? = some (eJ (cF os (g++rest)) sh (g1++M)) ∧
   (cF os (g++rest)).ae j=sh.up∧∀ ks v rows,o=.vec ks v rows→(cF os (g++rest)).len j=rows.length:=by
  intro j u;have hj':j<os.length:=by omega
  obtain⟨i,o,g1,M,q1,N,U,O,q5,q6⟩:=p3 j os[j] (bI hj');rw[hatl j u]at q1;cases q1;exact⟨os[j],o,g1,M,bI hj',N,U,O,q5,q6⟩
 have hK:gT H (bJ H ids) (gV ids) (cF os (g++rest)) E E0:=by
  refine⟨hH,HE,fun i hi b n hb=>?_,⟨fun b hb=>⟨⟨by rw[hw]; exact hb.1,fun ho=>hb.2.1 (hown b ho),by rw[hX]; exact hb.2.2⟩,by rw[hw]⟩,hw,fun j u=>?_,fun j o l h1 B=>by rw[←J]at h1⊢; exact Va h1 B⟩,fun j o ho=>?_⟩
  ·refine ⟨by rw [hw]; exact (HE.lt _ _ _ hb).1, ?_, by rw [hX]; exact (HE.lt _ _ _ hb).2⟩
   rintro(⟨j,c,u⟩|⟨l,k,c,u⟩)
   case inr=>exact HE.cN _ _ _ _ _ _ hb (V l k _ u).1
   obtain⟨_,i',h1,B⟩:=W j _ u;have:=HE.inj _ _ _ _ _ hb (getD_some B);subst this;exact JX hi (eM h1)
  ·rw [← J]
   simp only[gU,bZ,hatl j u,eF];have hlt:(bJ H ids).at j<E.loc.length:=by
    obtain⟨sh,o,g1,M,_,N,_⟩:=hobjs j u;rw[hElen];exact aK N
   rw[ch,bI hlt];rfl
  ·have u:j<ids.length:=by
    rcases iV j ids.length with hlt|hge
    ·exact hlt
    ·have h1 := aK ho
     have B:=qI (e:=bJ H ids) hge;have h3:(bJ H ids).base=H.length:=rfl;omega
   refine⟨u,?_⟩;obtain⟨sh,o',g1,M,q1,N,U,O,q5,q6⟩:=hobjs j u;rw[ho]at N;cases N;obtain⟨r1,r2,r3⟩:=Cb (lens:=cF os (g++rest)) (d:=g1++M) U;have hq4:E0.H[j]? = some (eJ (cF os (g++rest)) sh (g1++M)).den:=by
    rw[←J];exact bk O
   exact⟨r1,⟨_,hq4,by rw[q5]; exact r2⟩,fun o0 h0=>by rw[hq4]at h0; cases h0; rw[B9,B_ U],q6,fun hv=>by rw[q5]; exact r3 hv⟩
 have hlabs:∀(j:Nat) o,E0.H[j]? = some o→j<ids.length∧∃ o',E.H[(bJ H ids).at j]? = some o'∧o'.label=o.label:=fun j o ho=>by
  rw[←J]at ho;simp only[gU,ao,bZ]at ho;obtain⟨o',h1,rfl⟩:=dM.1 ho;have u:j<ids.length:=by
   have:=aK h1;omega
  obtain⟨sh,oo,g1,M,q1,N,U,O,_⟩:=hobjs j u;rw[h1]at O;cases O;exact⟨u,oo.den,by rw[hH]; exact bk N,by rw[JO U,qJ]⟩
 refine⟨hK,?_,?_,?_,fun b I=>?_,fun j o ho=>?_,HE.eR.bF hK.cQ.bF,fun l k l' k' b m n h1 B=>HE.eu l k l' k' b m n (V _ _ _ h1).1 (V _ _ _ B).1,fun i b m l k n hi B=>?_,fun l k b m h1=>by rw[hw,hX]; exact HE.cu l k b m (V _ _ _ h1).1,fun i j o o' l hi u h1 B=>?_,fun l hn k q hq=>?_⟩
 ·rw [← J]
  simp only[gU,dE,eg,p2,p1]
 ·intro i j b m n hi u
  obtain⟨i1,i2,i3,i4⟩:=W i _ hi;obtain⟨j1,j2,j3,j4⟩:=W j _ u;have:=HE.inj _ _ _ _ _ (getD_some i4) (getD_some j4);subst this;exact(zV i1 hn).1 (by rw[i3,j3])
 ·intro i b m hi
  obtain⟨_,i2,_,i4⟩:=W i _ hi;rw[hw,hX];exact HE.lt _ _ _ (getD_some i4)
 ·rw [hw]
  rw[hX]at I;exact HE.X b I
 ·rw [← J] at ho
  simp only[gU,ao,bZ]at ho;obtain⟨o',h1,rfl⟩:=dM.1 ho;have u:j<ids.length:=by
   have:=aK h1;omega
  obtain⟨sh,oo,g1,M,q1,N,U,O,q5,q6⟩:=hobjs j u;rw[h1]at O;cases O;refine JT hK U M (by exact u) (fun l hl=>?_) (HE.obj _ _ (by rw[hH]; exact bk N));refine hK.cQ.iL j (eJ (cF os (g++rest)) sh (g1++M)).den l ?_ (by rw[qJ,hl]);rw[←J];exact bk h1
 ·obtain ⟨_, i', _, h3⟩ := W i _ hi
  exact HE.cN _ _ _ _ _ _ (getD_some h3) (V _ _ _ B).1
 ·obtain ⟨i1, oi, a1, a2⟩ := hlabs i o hi
  obtain⟨j1,oj,b1,b2⟩:=hlabs j o' u;have:=HE.uniq _ _ _ _ l a1 b1 (by rw[a2,h1]) (by rw[b2,B]);exact(zV i1 hn).1 (by rw[hatl i i1,hatl j j1,this])
 ·obtain ⟨_, j, o, h1, B⟩ := V l k q hq
  exact hn j o h1 B
def nodupB:List Nat→Bool
 | []=>true
 |i::is => !is.any (ad i)&&nodupB is
theorem qO:∀{l:List Nat},nodupB l=true→l.Nodup
 | [],_=>List.nodup_nil
 | i::is,h=>by
  simp only[nodupB,aB,mE]at h;refine lI.2 ⟨fun hm=>?_,qO h.2⟩;have:is.any (ad i)=true:=jy.2 ⟨i,hm,by simp⟩;rw[h.1]at this;cases this
def l7(H:List ai):Nat→Nat→List Nat→List cf→Bool
 |_,0,_,_=>true
 |i,m+1,id::ids,o::os=>ad id i&&((ad (qL H i) 0 || !ad o.up 0)&&l7 H (i+1) m ids os)
 |_,_,_,_=>false
theorem xC{H:List ai}:∀{i m:Nat} {ids:List Nat} {os:List cf},l7 H i m ids os=true→∀ j,j<m→ids[j]? = some (i+j)∧∃ o,os[j]? = some o∧(qL H (i+j)=0∨o.up≠0)
 |_,0,_,_,_,j,g=>by omega
 | i,m+1,id::ids,o::os,h,j,g=>by
  simp only[l7,aB,Bool.or_eq_true,mE]at h;obtain⟨h1,d,k⟩:=h;have h1:=bt h1;subst h1;cases j with
  | zero =>
   refine⟨rfl,o,rfl,?_⟩;rcases d with d|d
   ·exact .inl (bt d)
   ·right
    intro e;rw[e]at d;cases d
  | succ j =>
   have:=xC k j (by omega);rw[show id+1+j=id+(j+1) from by omega]at this;simpa using this
 |_,_+1,[],_,h,_,_=>by simp[l7]at h
 |_,_+1,_::_,[],h,_,_=>by simp[l7]at h
theorem JZ{E:Env}{H:List ai}(hH:E.H=ao H){ids:List Nat}{os:List cf}{m:Nat}{lens:cX}{E0:Env}(y:gT H (bJ H ids) (gV ids) lens E E0)(hX:E0.X.x=E.X.x∧E0.X.z=E.X.z)
  (hrl:∀ l h,h<(E.X.r l).length→h<(E0.X.r l).length∧∀ q,(E0.X.r l)[h]? = some (some q)→(E.X.r l)[h]? = some (some q))
  (hok:l7 H 0 m ids os=true) (V:∀ j,j<m→∃ o sh,H[(bJ H ids).at j]? = some o∧os[j]? = some sh∧lens.ae j=sh.up) (W:∀ b,E0.own b→E.own b):E.di m E0:=by
 have key:∀ id,id<m→(bJ H ids).at id=id∧∃ o sh,H[id]? = some o∧os[id]? = some sh∧lens.ae id=sh.up∧(qK o=0∨sh.up≠0)∧xA E0 lens id o∧id<ids.length:=by
  intro id hid;obtain⟨h1,o',M,B⟩:=xC hok id hid;rw[cP]at h1 B;have J:=aK h1;have g:=gg (e:=bJ H ids) (j:=id) J;rw[show (bJ H ids).ids=ids from rfl,h1]at g;have g:=(fW g).symm;obtain⟨o,sh,d,k,I⟩:=V id hid;obtain⟨r1,r2⟩:=y.obj id o d;rw[g]at d;rw[M]at k;have k:=fW k;rw[←k]at I;refine⟨g,o,o',d,M,I,?_,r2,J⟩;rcases B with B|B
  ·left
   simpa[qL,d]using B
  ·exact .inr B
 refine⟨fun id hid hp=>?_,by rw[y.cQ.w]; exact aG _,fun b _ _=>by rw[y.cQ.w],fun b _ hb ho=>hb (W b ho),fun id hid hp hl=>?_,fun b _=>by rw[hX.1,hX.2]; exact⟨Iff.rfl,Iff.rfl⟩,hrl,by rw[y.cQ.w]; exact⟨rfl,rfl,rfl,by first|exact fun _=>aG _|exact fun _=>eL _ _⟩,fun id hid l o h1 M _=>?_⟩
 rotate_right
 ·obtain ⟨g, o1, sh, d, k, I, N, u, J⟩ := key id hid
  obtain⟨o0,r1,r2⟩:=u.obj;rw[hH,bk d]at h1;cases h1;have hm:=u.mm o0 r1;rw[M]at hm;exact⟨⟨[],by rw[cY]; exact y.cQ.iL id o0 l r1 (ab.j9 hm)⟩,o0,r1,hm⟩
 ·obtain ⟨_, o, sh, d, k, I, N, u, _⟩ := key id hid
  obtain⟨o0,r1,r2⟩:=u.obj;exact⟨o0,r1,ab.Ah r2,fun v _=>ef v⟩
 ·obtain ⟨g, o, sh, d, k, I, N, u, J⟩ := key id hid
  obtain⟨o0,r1,r2⟩:=u.obj;obtain⟨o1,r3,O⟩:=hl;rw[r1]at r3;cases r3;rw[r2]at O;have U:lens.ae id=0:=fW O;rw[I]at U;have hv:qK o=0:=N.resolve_right (fun h=>h U);refine⟨⟨o.den,by rw[hH]; exact bk d,by rw[u.ae,hv]⟩,?_⟩;have:=y.cQ.loc id J;rw[g]at this;exact this
structure l8 where
 n:Nat
 uc:List (Nat × Sh)
 cG:List cf
def qP:Nat→List (Nat × Sh)→List AV→AV
 | i,(j,_)::d,v::vs=>match ad i j with
  |true=>v
  |false=>qP i d vs
 |_,_,_=>.undef
def aQ(S:l8)(d:List G):ar :=
 ⟨(dG S.n).map fun i=>qP i S.uc (fc (cF S.cG d) (S.uc.map (·.2)) (eb (k8 S.cG) d)),cM (cF S.cG d) S.cG d⟩
def Cc(m:Nat)(S:l8)(ids:List Nat)(s:ar):Option (Bool × List G) :=
 match ad s.fr.length S.n&&(nodupB ids&&l7 s.H 0 m ids S.cG)with
 |false=>none
 | true=>match iM s.H (bJ s.H ids) (gV ids) S.cG ids,ed s.H (bJ s.H ids) (gV ids) (S.uc.map (·.2)) (S.uc.map fun p=>s.fr.getD p.1 .undef) with
  |some (b,g),some (d,h)=>some (b&&d,g++h)
  |_,_=>none
theorem J0{E:Env}:∀{d:List (Nat × Sh)} {vs:List AV} {cs:List Value} {i:Nat} {c:Value},(∀(k:Nat) (p:Nat × Sh) (v:AV),d[k]? = some p→vs[k]? = some v→∀ c,cs[p.1]? = some c→rel E v c)→cs[i]? = some c →
  rel E (qP i d vs) c
 | [],_,_,_,_,_,_=>by simp[qP,rel]
 |_::_,[],_,_,_,_,_=>by simp[qP,rel]
 | (j,sh)::d,v::vs,cs,i,c,h,g=>by
  simp only[qP];split
  ·rename_i e
   have e:=bt e;subst e;exact h 0 (i,sh) v rfl rfl c g
  ·exact J0 (fun k p v hk q=>h (k+1) p v (by simpa using hk) (by simpa using q)) g
theorem Vc{m:Nat}{S:l8}{ids:List Nat}{s:ar}{d:List G}(h:Cc m S ids s=some (true,d)):bu m s.den (aQ S d).den:=fun E a y=>by
 unfold Cc at h;split at h
 ·cases h
 rename_i q;simp only[aB]at q;obtain⟨hlen,B,M⟩:=q;have hlen:=bt hlen;have B:=qO B;split at h
 case h_2=>cases h
 rename_i b g b' u h1 U;simp only[aZ,be,aB]at h;obtain⟨⟨rfl,rfl⟩,rfl⟩:=h;have hH:E.H=ao s.H:=y.H;obtain⟨J,W⟩:=JY hH y.heap B h1 u;obtain⟨p0,p1,p2,p3⟩:=ub h1 u (cF S.cG (g++u));have hd:eb (k8 S.cG) (g++u)=u:=by rw[←p0]; exact nt g u
 have V:=ua J U [];rw[cY]at V;obtain⟨q1,q2,q3,q4⟩:=V;refine⟨ids.map fun i=>E.loc.getD i none,E.X.re (l6 E (aQ S (g++u)).den.H),⟨rfl,?_,y.defers,W⟩,?_⟩
 ·have hfr : af E s.fr a.tmps.toList := y.fr
  obtain⟨f1,f2⟩:=lL.1 hfr;refine lL.2 ⟨?_,fun i x c hi q=>?_⟩
  ·simp only [ar.den, aQ, dE, List.length_range]
   omega
  ·simp only [ar.den, aQ, hd, bZ] at hi
   obtain⟨i',I,rfl⟩:=dM.1 hi;have hin:i<S.n:=by
    have:=aK I;simpa using this
   rw[List.getElem?_range hin]at I;cases I;refine J0 (cs:=a.tmps.toList) (fun k p v hk hv c q=>?_) q;have hk2:(S.uc.map fun p=>s.fr.getD p.1 .undef)[k]? = some (s.fr.getD p.1 .undef):=by simp[hk]
   have hx:rel E (s.fr.getD p.1 .undef) c:=by
    have N:=aK q;rw[←f1]at N;have e1:s.fr[p.1]? = some (s.fr.getD p.1 .undef):=by
     rw[ch,bI N];rfl
    exact f2 p.1 _ c e1 q
   exact JS J U hk2 (by rw[cY]; exact hv) hx
 ·exact JZ hH J ⟨rfl,rfl⟩ (JV E _ ids) M (fun j hj=>by
   obtain⟨r1,o',r2,_⟩:=xC M j hj;obtain⟨i,o,g1,rest1,t1,t2,t3,t4,t5,t6⟩:=p3 j o' r2;have O:=gg (e:=bJ s.H ids) (j:=j) (aK t1);rw[show (bJ s.H ids).ids=ids from rfl,t1]at O;cases O;exact⟨o,o',t2,r2,t5⟩) (fun b=>JW)
/-! ### d array under a slice, cut to g slice -/
def Cd(slot:Nat)(s:ar):ar :=
 match s.fr.getD slot .undef with
 | .vec w id ae off n=>match s.H[id]? with
  |some (.vec ks v rows)=>if ae=v∧off=0∧w=ks.length then ⟨s.fr.set slot (.vec w id (v+1) 0 n),s.H.set id (.vec ks (v+1) (rows.take n))⟩ else s
  |_=>s
 |_=>s
theorem xD{E:Env}{a:AV}:∀{fr:List AV} {cs:List Value} {i:Nat},af E fr cs→(∀ c,cs[i]? = some c→rel E a c)→af E (fr.set i a) cs
 | [],cs,i,h,_=>by simpa using h
 |x::fr,[],i,h,_=>by simp[af]at h
 | x::fr,c::cs,0,h,ha=>by
  simp only[af]at h;simp only[List.set_cons_zero,af];exact⟨ha c rfl,h.2⟩
 | x::fr,c::cs,i+1,h,ha=>by
  simp only[af]at h;simp only[List.set_cons_succ,af];exact⟨h.1,xD h.2 fun y d=>ha y (by simpa using d)⟩
theorem Ce{E:Env}{fr:List AV}{cs:List Value}{i:Nat}{c:Value}(h:af E fr cs)(g:cs[i]? = some c):rel E (fr.getD i .undef) c:=by
 obtain⟨h1,k⟩:=lL.1 h;have d:=aK g;rw[←h1]at d;have q:fr[i]? = some (fr.getD i .undef):=by
  rw[ch,bI d];rfl
 exact k i _ c q g
theorem Vd{m:Nat}{slot:Nat}{s:ar}:bu m s.den (Cd slot s).den:=by
 unfold Cd;split
 case h_2=>exact bu.refl _
 rename_i w id ae off n hsl;split
 case h_2=>exact bu.refl _
 rename_i ks v rows hid;split
 case isFalse=>exact bu.refl _
 rename_i B;obtain⟨rfl,rfl,rfl⟩:=B;intro E a d;have hH:E.H=ao s.H:=d.H;have y:E.H[id]? = some (.vec ks.length ae (rows.map (aJ ks))):=by rw[hH]; exact bk hid
 have ho:=d.heap.obj id _ y;obtain⟨l,I⟩:∃ l,E.loc[id]? = some l:=by
  have:id<E.loc.length:=by rw[d.heap.len]; exact aK y
  exact⟨_,bI this⟩
 have N:E.loc.set id l=E.loc:=kU I;have M:ao (s.H.set id (.vec ks (ae+1) (rows.take n)))=E.H.set id (.vec ks.length (ae+1) ((rows.take n).map (aJ ks))):=by rw[c7,hH]; rfl
 have hlc:∀ b n,l=some (b,n)→E.w.heap.size≤b∨∃ m,E.loc[id]? = some (some (b,m)):=fun b n hb=>.inr ⟨n,by rw[I,hb]⟩;have O:∀ v u,(ab.vec ks.length (ae+1) ((rows.take n).map (aJ ks))).aF = some v→(ab.vec ks.length ae (rows.map (aJ ks))).aF = some u→u≤v:=by
  intro v u h1 k;simp[ab.aF]at h1 k;omega
 have U:∀ v,(ab.vec ks.length (ae+1) ((rows.take n).map (aJ ks))).aF = some v→∀ u,(ab.vec ks.length ae (rows.map (aJ ks))).aF = some u→u<v:=by
  intro v h1 u k;simp[ab.aF]at h1 k;omega
 have hle:=Env.iZ (o':=.vec ks.length (ae+1) ((rows.take n).map (aJ ks))) (l:=l) (w':=E.w) y d.heap.len (aG _) (fun _ _ _=>rfl) hlc (.inr U) O (fun _ h=>by simp[ab.aF]at h);have V:=au.kf (o':=.vec ks.length (ae+1) ((rows.take n).map (aJ ks))) (l:=l) (w':=E.w) d.heap y (aG _) (fun _ _ _=>rfl) (fun b n hb=>.inr ⟨n,by rw[I,hb]⟩) (.inr U) O (fun _ h=>by simp[ab.aF]at h) (by
  rw[N]at hle⊢;simp only[aN]at ho⊢;rcases ho with⟨h1,k⟩|⟨b,mm,h1,k,J,h4,W⟩
  ·left
   refine⟨h1,?_⟩;have:rows=[]:=by simpa using k
   rw[this];simp
  ·right
   refine⟨b,mm,h1,k,by simp at J⊢; omega,?_,?_⟩
   ·intro r q
    obtain⟨g,_,rfl⟩:=dF.1 q;exact fy ks g
   ·rw [kO] at W ⊢
    intro i r hi;simp only[bZ,lA]at hi;split at hi
    ·obtain ⟨g1, g2⟩ := W i r (by simpa using hi)
     exact⟨g1,sO (fun a c q=>bP hle a q) rfl g2⟩
    ·simp at hi)
 rw[N]at hle V;refine⟨E.loc,E.X,?_,?_⟩
 ·simp only [ar.den]
  rw[M];refine⟨rfl,?_,d.defers,V⟩;refine xD (du hle _ d.fr) fun c B=>?_;have q:=Ce d.fr B;rw[show s.den.fr=s.fr from rfl,hsl]at q;simp only[rel]at q⊢;obtain⟨h1,k,J⟩:=q;exact⟨h1,⟨.vec ks.length (ae+1) ((rows.take n).map (aJ ks)),bB (aK y),rfl,fun v hv=>by simp[ab.aF]at hv; omega⟩,fun _=>J ⟨_,y,rfl⟩⟩
 ·simp only [ar.den]
  rw[M];exact hle.toM
end Go.AL

namespace Go.AL
open Go
variable [Dr]
def Tree.leaf{β:Type}(f:bS→ar→Option (Bool × β)):Tree→Option β
 |.fail=>none
 | .done x s=>match f x s with
  |some (b,r)=>bif b then some r else none
  |none=>none
 |.ask b t e=>bif b then t.leaf f else e.leaf f
 |.side b t=>bif b then t.leaf f else none
theorem nu{β:Type}{f:bS→ar→Option (Bool × β)}:∀{t:Tree} {r:β},t.leaf f=some r→t.holds fun x s=>f x s=some (true,r)
 |.fail,_,h=>by cases h
 | .done x s,r,h=>by
  simp only[Tree.leaf]at h;split at h
  ·rename_i b r' d
   cases b with
   |true=>cases h; exact d
   |false=>cases h
  ·cases h
 | .ask b t e,r,h=>by
  cases b with
  |true=>exact⟨fun _=>nu (t:=t) h,fun h=>by cases h⟩
  |false=>exact⟨fun h=>(nomatch h),fun _=>nu (t:=e) h⟩
 | .side b t,r,h=>by
  cases b with
  |true=>exact And.intro rfl (nu (t:=t) h)
  |false=>cases h
inductive jk where
 |fix (i:Nat)
 |slot (i:Nat)
 |cap (i c:Nat)
 |cell (j c:Nat)
 |Cf (j c k:Nat)
def xE:AV→Option Nat
 |.ptr id _ _ _ _=>some id
 |.vec _ id _ _ _=>some id
 |.map id=>some id
 |_=>none
def xF(H:List ai)(vals:Nat→AV)(acc:List Nat):jk→Option Nat
 |.fix i=>some i
 |.slot i=>xE (vals i)
 | .cap i c=>match vals i with
  |.clo _ cs=>xE (cs.getD c .undef)
  |_=>none
 | .cell j c=>match H[acc.getD j 0]? with
  |some (.raw (.box cells))=>xE (cells.getD c .undef)
  |_=>none
 | .Cf j c k=>match H[acc.getD j 0]? with
  | some (.raw (.box cells))=>match cells.getD c .undef with
   |.clo _ cs=>xE (cs.getD k .undef)
   |_=>none
  |_=>none
def iN(H:List ai)(vals:Nat→AV):List jk→List Nat→Option (List Nat)
 | [],acc=>some acc
 | p::ps,acc=>match xF H vals acc p with
  |some i=>iN H vals ps (acc++[i])
  |none=>none
/-! ### d -/
structure qQ where
 x:bS
 S:l8
 ps:List jk
structure bp where
 key:Nat
 opens:List (Nat × List Kd)
 inv:l8
 ps:List jk
 outs:List qQ
 st:List G→Option (Option Nat × List G)
def oV(st:List G→Option (Option Nat × List G)):Nat→List G→Option (Nat × List G)
 |0,_=>none
 | n+1,d=>match st d with
  |some (none,d')=>oV st n d'
  |some (some x,d')=>some (x,d')
  |none=>none
def bQ(st:List G→Option (Option Nat × List G))(d:List G):Option (Nat × List G):=oV st 1000000 d
def Cg(r:Option (Nat × List G)):Nat:=match r with
 |some (x,_)=>x
 |none=>0
def Ch(r:Option (Nat × List G)):List G:=match r with
 |some (_,d)=>d
 |none=>[]
def gW(m:Nat)(S:l8)(ps:List jk)(s:ar):Option (Bool × List G) :=
 match iN s.H (fun i=>s.fr.getD i .undef) ps []with
 |some ids=>Cc m S ids s
 |none=>none
theorem k9{m:Nat}{S:l8}{ps:List jk}{s:ar}{d:List G}(h:gW m S ps s=some (true,d)):bu m s.den (aQ S d).den:=by
 unfold gW at h;split at h
 ·exact Vc h
 ·cases h
def gj:List (Nat × List Kd)→ar→ar
 | [],s=>s
 | (i,ks)::r,s=>match dH 1000000 i with
  |true=>gj r (Cd (i-1000000) s)
  | false=>match isNil (s.fr.getD i .undef) with
   |true=>gj r (tW i ks s)
   |false=>gj r s
theorem k_{m:Nat}:∀(l:List (Nat × List Kd)) (s:ar),bu m s.den (gj l s).den
 | [],s=>bu.refl _
 | (i,ks)::r,s=>by
  simp only[gj];split
  ·exact Vd.trans (k_ r _)
  ·split
   ·rename_i h
    exact(Jz h).trans (k_ r _)
   ·exact k_ r s
def oW(m:Nat):List qQ→Nat→bS→ar→Option (Bool × (Option Nat × List G))
 | [],_,_,_=>none
 | o::os,i,x,s=>match decide (x=o.x) with
  | true=>match gW m o.S o.ps s with
   |some (b,d)=>some (b,(some i,d))
   |none=>none
  |false=>oW m os (i+1) x s
def xG(m:Nat)(sp:bp)(x:bS)(s:ar):Option (Bool × (Option Nat × List G)) :=
 match x with
 | .normal=>match gW m sp.inv sp.ps s with
  |some (b,d)=>some (b,(none,d))
  |none=>none
 |x=>oW m sp.outs 0 x (gj sp.opens s)
theorem xH{m:Nat}:∀{os:List qQ} {i:Nat} {x:bS} {s:ar} {b:Bool} {k:Option Nat} {d:List G},oW m os i x s=some (b,(k,d)) →
  ∃ j o,os[j]? = some o∧k=some (i+j)∧x=o.x∧gW m o.S o.ps s=some (b,d)
 | [],_,_,_,_,_,_,h=>by cases h
 | o::os,i,x,s,b,k,d,h=>by
  simp only[oW]at h;split at h
  ·rename_i g
   split at h
   ·rename_i B d' q
    cases h;exact⟨0,o,rfl,rfl,of_decide_eq_true g,q⟩
   ·cases h
  ·obtain ⟨j, o', h1, u, v, y⟩ := xH h
   exact⟨j+1,o',by simpa using h1,by rw[u]; congr 1; omega,v,y⟩
section loops
variable {P:Program} {τ:aj} {L:LT} {m:Nat} {c:Code} {sp:bp}
def cr(P:Program)(τ:aj)(L:LT)(m:Nat)(c:Code)(sp:bp):Prop:=∀ d,(dW P τ L c (aQ sp.inv d) .done).leaf (xG m sp)=sp.st d
theorem J1(hm:P.follows .mixedOrders=true)(q:ak P τ)(u:ax P m L c)(v:cr P τ L m c sp){d d':List G}{k:Option Nat}(h:sp.st d=some (k,d')) :
  (k = none ∧ cU P m c (aQ sp.inv d).den .normal (aQ sp.inv d').den) ∨
   ∃ j o,k=some j∧sp.outs[j]? = some o∧o.x≠.normal∧cU P m c (aQ sp.inv d).den o.x (aQ o.S d').den:=by
 rw[←v d]at h;obtain⟨x,s1,h1,g⟩:=gC hm q c (aQ sp.inv d) .done u (Q:=fun x s=>xG m sp x s=some (true,(k,d'))) (nu h);have g:xG m sp x s1=some (true,(k,d')):=g;unfold xG at g;split at g
 ·split at g
  ·rename_i b d2 y
   cases g;exact .inl ⟨rfl,qo h1 (k9 y)⟩
  ·cases g
 ·rename_i B
  obtain⟨j,o,g1,g2,rfl,g4⟩:=xH g;exact .inr ⟨j,o,by simpa using g2,g1,fun e=>B e,qo h1 ((k_ sp.opens s1).trans (k9 g4))⟩
theorem J2(hm:P.follows .mixedOrders=true)(g:ak P τ)(k:ax P m L c)(q:cr P τ L m c sp):∀(n:Nat) {d d':List G} {x:Nat},oV sp.st n d=some (x,d') →
  ∃ o,sp.outs[x]? = some o∧jF P m c (aQ sp.inv d).den o.x (aQ o.S d').den
 |0,_,_,_,h=>by cases h
 | n+1,d,d',x,h=>by
  simp only[oV]at h;split at h
  ·rename_i d1 h1
   rcases J1 hm g k q h1 with⟨_,u⟩|⟨_,_,hk,_⟩
   ·obtain ⟨o, g1, g2⟩ := J2 hm g k q n h
    exact⟨o,g1,.next u g2⟩
   ·cases hk
  ·rename_i v d1 h1
   cases h;rcases J1 hm g k q h1 with⟨hk,_⟩|⟨j,o,hk,g1,g2,g3⟩
   ·cases hk
   ·cases hk
    exact⟨o,g1,.stop g3 g2⟩
  ·cases h
def ud(r:Option (Nat × List G)):List qQ→Nat→Tree
 | [],_=>.fail
 | [o],_=>.done o.x (aQ o.S (Ch r))
 |o::os,i=>.ask (ad (Cg r) i) (.done o.x (aQ o.S (Ch r))) (ud r os (i+1))
theorem xI{x:Nat}{d:List G}{Q:bS→ar→Prop}:∀{os:List qQ} {i j:Nat} {o:qQ},os[j]? = some o→x=i+j→(ud (some (x,d)) os i).holds Q→Q o.x (aQ o.S d)
 | [],_,_,_,h,_,_=>by simp at h
 | [o],i,j,o',h,k,g=>by
  cases j with
  | zero =>
   simp at h;subst h;exact g
  |succ j=>simp at h
 | o::o2::os,i,j,o',h,k,g=>by
  simp only[ud,Tree.holds]at g;cases j with
  | zero =>
   simp at h;subst h;exact g.1 (by simp only[Cg]; rw[k]; simp)
  | succ j =>
   refine xI (os:=o2::os) (i:=i+1) (j:=j) (by simpa using h) (by omega) (g.2 ?_);have:x≠i:=by omega
   exact agK.2 fun e=>this (bt e)
def Ci(m:Nat)(sp:bp)(s:ar):Option Tree :=
 match gW m sp.inv sp.ps (gj sp.opens s)with
 |some (b,d)=>some (.side (qM b (bQ sp.st d).isSome) (ud (bQ sp.st d) sp.outs 0))
 |none=>none
theorem Ve(hm:P.follows .mixedOrders=true)(u:ak P τ)(v:ax P m L c)(y:cr P τ L m c sp){s:ar}{t:Tree}(h:Ci m sp s=some t):Jd P m c s t:=by
 unfold Ci at h;split at h
 case h_2=>cases h
 rename_i b d B;cases h;intro Q k;simp only[Tree.holds,qN,aB]at k;obtain⟨⟨rfl,h1⟩,q⟩:=k;cases g:bQ sp.st d with
 |none=>rw[g]at h1; cases h1
 | some r =>
  obtain⟨x,d'⟩:=r;obtain⟨o,g1,g2⟩:=J2 hm u v y 1000000 g;exact⟨o.x,_,g2.pre ((k_ sp.opens s).trans (k9 B)),xI g1 (cP x).symm (by rw[g]at q; exact q)⟩
def LT.add(L:LT)(m:Nat)(sp:bp):LT:=⟨fun k s=>match ad k sp.key with
 |true=>Ci m sp s
 |false=>L.loops k s,L.pre,L.tT⟩
theorem nv:∀{c:Code} {k:Nat} {g:Code},(k,g)∈bK c→∀ p,p∈bK g→p∈bK c
 | .seq a b,k,g,h,p,d=>by
  simp only[bK,cS]at h⊢;rcases h with h|h
  ·exact .inl (nv h p d)
  ·exact .inr (nv h p d)
 | .cond _ a b,k,g,h,p,d=>by
  simp only[bK,cS]at h⊢;rcases h with h|h
  ·exact .inl (nv h p d)
  ·exact .inr (nv h p d)
 | .block _ c,k,g,h,p,d=>by
  simp only[bK]at h⊢;exact nv h p d
 | .loop c,k,g,h,p,d=>by
  simp only[bK]at h⊢;split at h
  ·rename_i i hi
   rcases bV.1 h with e|h
   ·cases e
    exact df _ d
   ·exact df _ (nv h p d)
  ·exact nv h p d
 |.skip,_,_,h,_,_=>by simp[bK]at h
 |.region ..,_,_,h,_,_=>by simp[bK]at h
 |.exit _,_,_,h,_,_=>by simp[bK]at h
 |.ret,_,_,h,_,_=>by simp[bK]at h
 |.rangeFunc ..,_,_,h,_,_=>by simp[bK]at h
 |.scope _,_,_,h,_,_=>by simp[bK]at h
 |.label _,_,_,h,_,_=>by simp[bK]at h
 |.goto _,_,_,h,_,_=>by simp[bK]at h
 |.refuse _,_,_,h,_,_=>by simp[bK]at h
theorem nw:∀{c:Code} {k:Nat} {g:Code},(k,g)∈bK c→∀ p,p∈bG g→p∈bG c
 | .seq a b,k,g,h,p,d=>by
  simp only[bK,bG,cS]at h⊢;rcases h with h|h
  ·exact .inl (nw h p d)
  ·exact .inr (.inr (nw h p d))
 | .cond _ a b,k,g,h,p,d=>by
  simp only[bK,bG,cS]at h⊢;rcases h with h|h
  ·exact .inl (nw h p d)
  ·exact .inr (nw h p d)
 | .block _ c,k,g,h,p,d=>by
  simp only[bK,bG]at h⊢;exact nw h p d
 | .loop c,k,g,h,p,d=>by
  simp only[bK,bG]at h⊢;split at h
  ·rename_i i hi
   rcases bV.1 h with e|h
   ·cases e
    exact d
   ·exact nw h p d
  ·exact nw h p d
 |.skip,_,_,h,_,_=>by simp[bK]at h
 |.region ..,_,_,h,_,_=>by simp[bK]at h
 |.exit _,_,_,h,_,_=>by simp[bK]at h
 |.ret,_,_,h,_,_=>by simp[bK]at h
 |.rangeFunc ..,_,_,h,_,_=>by simp[bK]at h
 |.scope _,_,_,h,_,_=>by simp[bK]at h
 |.label _,_,_,h,_,_=>by simp[bK]at h
 |.goto _,_,_,h,_,_=>by simp[bK]at h
 |.refuse _,_,_,h,_,_=>by simp[bK]at h
theorem ny:∀{c:Code} {k:Nat} {g:Code},(k,g)∈bG c→∀ p,p∈bK g→p∈bK c
 | .seq a b,k,g,h,p,d=>by
  simp only[bK,bG,cS]at h⊢;rcases h with h|h|h
  ·exact .inl (ny h p d)
  ·right
   split at h
   ·rcases bV.1 h with e | h
    ·cases e
     exact d
    ·cases h
   ·cases h
  ·exact .inr (ny h p d)
 | .cond _ a b,k,g,h,p,d=>by
  simp only[bK,bG,cS]at h⊢;rcases h with h|h
  ·exact .inl (ny h p d)
  ·exact .inr (ny h p d)
 | .block _ c,k,g,h,p,d=>by
  simp only[bK,bG]at h⊢;exact ny h p d
 | .loop c,k,g,h,p,d=>by
  simp only[bG]at h;have:=ny h p d;simp only[bK];split
  ·exact df _ this
  ·exact this
 |.skip,_,_,h,_,_=>by simp[bG]at h
 |.region ..,_,_,h,_,_=>by simp[bG]at h
 |.exit _,_,_,h,_,_=>by simp[bG]at h
 |.ret,_,_,h,_,_=>by simp[bG]at h
 |.rangeFunc ..,_,_,h,_,_=>by simp[bG]at h
 |.scope _,_,_,h,_,_=>by simp[bG]at h
 |.label _,_,_,h,_,_=>by simp[bG]at h
 |.goto _,_,_,h,_,_=>by simp[bG]at h
 |.refuse _,_,_,h,_,_=>by simp[bG]at h
theorem nz:∀{c:Code} {k:Nat} {g:Code},(k,g)∈bG c→∀ p,p∈bG g→p∈bG c
 | .seq a b,k,g,h,p,d=>by
  simp only[bG,cS]at h⊢;rcases h with h|h|h
  ·exact .inl (nz h p d)
  ·right
   right;split at h
   ·rcases bV.1 h with e | h
    ·cases e
     exact d
    ·cases h
   ·cases h
  ·exact .inr (.inr (nz h p d))
 | .cond _ a b,k,g,h,p,d=>by
  simp only[bG,cS]at h⊢;rcases h with h|h
  ·exact .inl (nz h p d)
  ·exact .inr (nz h p d)
 | .block _ c,k,g,h,p,d=>by
  simp only[bG]at h⊢;exact nz h p d
 | .loop c,k,g,h,p,d=>by
  simp only[bG]at h⊢;exact nz h p d
 |.skip,_,_,h,_,_=>by simp[bG]at h
 |.region ..,_,_,h,_,_=>by simp[bG]at h
 |.exit _,_,_,h,_,_=>by simp[bG]at h
 |.ret,_,_,h,_,_=>by simp[bG]at h
 |.rangeFunc ..,_,_,h,_,_=>by simp[bG]at h
 |.scope _,_,_,h,_,_=>by simp[bG]at h
 |.label _,_,_,h,_,_=>by simp[bG]at h
 |.goto _,_,_,h,_,_=>by simp[bG]at h
 |.refuse _,_,_,h,_,_=>by simp[bG]at h
def aR(fn:Func):Code:=match fn.body with
 |some c=>c
 |none=>.skip
theorem Vf{fn:Func} (g:nodupB ((bK (aR fn)).map (·.1))=true) {k:Nat} {d:Code} (h:(k,d)∈bK (aR fn)):d=cw fn k:=by
 have key:∀(l:List (Nat × Code)),(l.map (·.1)).Nodup→(k,d)∈l→l.find? (fun p=>ad p.1 k)=some (k,d):=by
  intro l
  induction l with
  |nil=>intro _ h; cases h
  | cons p l v =>
   intro q hm;simp only[dq,lI]at q;rcases bV.1 hm with rfl|hm
   ·simp
   ·have u:p.1≠k:=by
     intro e;exact q.1 (dF.2 ⟨(k,d),hm,e.symm⟩)
    have:ad p.1 k=false:=agK.2 fun e=>u (bt e);rw[agL (by simp[this])];exact v q.2 hm
 unfold cw;unfold aR at g h;split
 ·rename_i c hb
  rw[hb]at g h;simp only[]at g h;rw[key _ (qO g) h]
 ·rename_i hb
  rw[hb]at h;simp[bK]at h
theorem ax.add(hm:P.follows .mixedOrders=true)(q:ak P τ){fn:Func} (u:nodupB ((bK (aR fn)).map (·.1))=true) (g:ax P m L (aR fn)) (h:cr P τ L m (cw fn sp.key) sp) :
  ax P m (L.add m sp) (aR fn):=by
 refine⟨fun k v hk s t d=>?_,g.2⟩;simp only[LT.add]at d;split at d
 ·rename_i e
  have e:=bt e;subst e;have y:=Vf u hk;rw[←y]at h;exact Ve hm q (g.sub (nv hk) (nw hk)) h d
 ·exact g.1 k v hk s t d
/-! ### Code behind other code -/
def cutAt(fn:Func)(k:Nat):Code:=match fn.body with
 | some c=>match (bG c).find? fun p=>ad p.1 k with
  |some (_,b)=>b
  |none=>.skip
 |none=>.skip
def kC(k:Nat):List (Nat × Code)→Bool
 | []=>true
 | p::l=>match ad p.1 k with
  |true => !l.any (fun q=>ad q.1 k)
  |false=>kC k l
theorem J3{k:Nat}{g:Code}:∀{l:List (Nat × Code)},kC k l=true→(k,g)∈l→l.find? (fun p=>ad p.1 k)=some (k,g)
 | [],_,h=>by cases h
 | p::l,ho,hm=>by
  simp only[kC]at ho;cases d:ad p.1 k with
  | true =>
   rw[d]at ho;simp only[mE]at ho;rcases bV.1 hm with rfl|hm
   ·rw[List.find?_cons_of_pos (by simp)]
   ·have : l.any (fun q => ad q.1 k) = true := jy.2 ⟨(k, g), hm, by simp⟩
    rw[this]at ho;cases ho
  | false =>
   rw[d]at ho;rcases bV.1 hm with rfl|hm
   ·simp at d
   ·rw [agL (by simp [d])]
    exact J3 ho hm
theorem Cj{fn:Func}{k:Nat}{g:Code} (d:kC k (bG (aR fn))=true) (h:(k,g)∈bG (aR fn)):g=cutAt fn k:=by
 unfold cutAt;unfold aR at d h;split
 ·rename_i c hb
  rw[hb]at d h;simp only[]at d h;rw[J3 d h]
 ·rename_i hb
  rw[hb]at h;simp[bG]at h
def bU(r:Option (Option Nat × List G)):Option (Nat × List G):=match r with
 |some (some x,d)=>some (x,d)
 |_=>none
def ue(m:Nat)(sp:bp)(s:ar):Option Tree :=
 match gW m sp.inv sp.ps (gj sp.opens s)with
 |some (b,d)=>some (.side (qM b (bU (sp.st d)).isSome) (ud (bU (sp.st d)) sp.outs 0))
 |none=>none
def fm(P:Program)(τ:aj)(L:LT)(m:Nat)(c:Code)(sp:bp):Prop:=∀ d,(dW P τ L c (aQ sp.inv d) .done).leaf (oW m sp.outs 0)=sp.st d
theorem Vg(hm:P.follows .mixedOrders=true)(B:ak P τ)(I:ax P m L c)(q:fm P τ L m c sp){s:ar}{t:Tree}(h:ue m sp s=some t):xk P m c s t:=by
 unfold ue at h;split at h
 case h_2=>cases h
 rename_i b d J;cases h;intro Q u;simp only[Tree.holds,qN,aB]at u;obtain⟨⟨rfl,h1⟩,v⟩:=u;cases g:sp.st d with
 |none=>rw[g]at h1; cases h1
 | some r =>
  obtain⟨k,d'⟩:=r;cases k with
  |none=>rw[g]at h1; cases h1
  | some i =>
   rw[←q d]at g;obtain⟨x,s1,g1,g2⟩:=gC hm B c (aQ sp.inv d) .done I (Q:=fun x s=>oW m sp.outs 0 x s=some (true,(some i,d'))) (nu g);obtain⟨j,o,M,y,N,O⟩:=xH g2;simp only[aZ,cP]at y;subst y;rw[q d]at g;rw[g]at v;refine⟨o.x,(aQ o.S d'),?_,xI M (cP i).symm v⟩;rw[←N];exact qn ((k_ sp.opens s).trans (k9 J)) (qo g1 (k9 O))
def LT.dY(L:LT)(m:Nat)(sp:bp):LT:=⟨L.loops,L.pre,fun k s=>match ad k sp.key with
 |true=>ue m sp s
 |false=>L.tT k s⟩
theorem ax.dY(hm:P.follows .mixedOrders=true)(q:ak P τ){fn:Func} (u:kC sp.key (bG (aR fn))=true) (g:ax P m L (aR fn)) (h:fm P τ L m (cutAt fn sp.key) sp) :
  ax P m (L.dY m sp) (aR fn):=by
 refine⟨g.1,g.2.1,fun k v hk s t d=>?_⟩;simp only[LT.dY]at d;split at d
 ·rename_i e
  have e:=bt e;subst e;have y:=Cj u hk;rw[←y]at h;exact Vg hm q (g.sub (ny hk) (nz hk)) h d
 ·exact g.2.2 k v hk s t d
end loops
/-! ### d -/
structure aD where
 f:FuncId
 args:List Sh
 cG:List cf
 ps:List jk
 res:List Sh
 fo:List cf
 Vh:List jk
 opens:List (Nat × List Kd)
 F:List G→Option (List G)
def aD.args0(sp:aD)(d:List G):List AV:=fc (cF sp.cG d) sp.args (eb (k8 sp.cG) d)
def aD.H0(sp:aD)(d:List G):List ai:=cM (cF sp.cG d) sp.cG d
def aD.out(sp:aD)(r:List G):AV:=c6 (fc (cF sp.fo r) sp.res (eb (k8 sp.fo) r))
def aD.H1(sp:aD)(r:List G):List ai:=cM (cF sp.fo r) sp.fo r
def uf(P:Program)(rs:List ResultVar)(sp:aD)(x:bS)(s:ar):Option (Bool × List G) :=
 match x with
 |.exit _=>none
 | _=>(fun s=>match gQ P s.den rs with
  |none=>none
  | some vs=>match iN s.H (fun i=>vs.getD i .undef) sp.Vh [] with
   |none=>none
   | some ids=>match nodupB ids&&l7 s.H 0 sp.cG.length ids sp.fo with
    |false=>none
    | true=>match iM s.H (bJ s.H ids) (gV ids) sp.fo ids,ed s.H (bJ s.H ids) (gV ids) sp.res vs with
     |some (b,g),some (d,h)=>some (b&&d,g++h)
     |_,_=>none) (gj sp.opens s)
def aX(P:Program)(τ:aj)(L:LT)(fn:Func)(sp:aD):Prop :=
 ∀ d,(dW P τ L (aR fn) ⟨iH (sp.args0 d) fn.ntmps,sp.H0 d⟩ .done).leaf (uf P fn.results.toList sp)=sp.F d
def oX(os:List cf):Bool:=os.all fun o=>ad o.up 0
theorem J4:∀{os:List cf} (lens:cX) (d:List G),oX os=true→wU (ao (cM lens os d))
 | [],_,_,_=>by intro o ho; simp[cM,ao]at ho
 | o::os,lens,d,h=>by
  simp only[oX,lF,aB]at h;intro x g;simp only[cM,ao,dq,bV]at g;rcases g with rfl|g
  ·cases o with
   | vec ks u =>
    have:u=0:=bt h.1;subst this;rfl
   |box _=>rfl
   |map _ _=>rfl
   |er _ _ _=>rfl
   |aH _ _ _=>rfl
   |mm _ _ _ _=>rfl
  ·exact J4 lens _ h.2 x g
theorem Ck(lens:cX):∀(os:List cf) (d:List G),(cM lens os d).length=os.length
 | [],_=>rfl
 |_::os,d=>by simp[cM,Ck lens os]
theorem Vi{P:Program}{sp:aD}{fn:Func}(hf:P.funcs[sp.f]? = some fn)(hb:fn.body.isSome=true)
  (hfr:oX sp.cG=true) {d r:List G} {x:bS} {B:ar} (h1:cU P sp.cG.length (aR fn) (ar.den ⟨iH (sp.args0 d) fn.ntmps,sp.H0 d⟩) x B.den) (k:uf P fn.results.toList sp x B=some (true,r)) :
  dv P sp.f (sp.args0 d) (ao (sp.H0 d)) (sp.out r) (ao (sp.H1 r)):=by
 have hbody:fn.body=some (aR fn):=by
  unfold aR;cases I:fn.body with
  |none=>rw[I]at hb; cases hb
  |some c=>rfl
 have h1:=qo h1 (k_ sp.opens B);generalize hs':gj sp.opens B=s' at h1;have hxx:(x=.normal∨x=.ret)∧∃ vs ids g q,gQ P s'.den fn.results.toList=some vs∧(nodupB ids&&l7 s'.H 0 sp.cG.length ids sp.fo)=true ∧
   iM s'.H (bJ s'.H ids) (gV ids) sp.fo ids=some (true,g)∧ed s'.H (bJ s'.H ids) (gV ids) sp.res vs=some (true,q)∧g++q=r:=by
  have k:uf P fn.results.toList sp x B=some (true,r):=k;unfold uf at k;split at k
  ·cases k
  ·rename_i I
   simp only[hs']at k;refine⟨by cases x with|normal=>exact .inl rfl|ret=>exact .inr rfl|exit i=>exact(I i rfl).elim,?_⟩;split at k
   ·cases k
   ·rename_i vs U
    split at k
    ·cases k
    ·rename_i ids hids
     split at k
     ·cases k
     ·rename_i v
      split at k
      ·rename_i b g b' q M q2
       simp only[aZ,be,aB]at k;obtain⟨⟨rfl,rfl⟩,rfl⟩:=k;exact⟨vs,ids,g,q,U,v,M,q2,rfl⟩
      ·cases k
 obtain⟨I,vs,ids,g,q,U,v,M,q2,rfl⟩:=hxx;simp only[aB]at v;intro E cargs hH HE hargs;refine Bk hf hbody ?_;have hfe:=qp HE;have hargs0:=lX hfe _ hargs;have hrel:bN ⟨iH (sp.args0 d) fn.ntmps,ao (sp.H0 d)⟩ { E with X:=⟨E.X.x,fun _=>False,E.X.r⟩ } { tmps:=cargs++Array.replicate (fn.ntmps-cargs.size) undef,defers:=[] }:=by
  refine⟨hH,?_,om _ _,HE.cD hfe⟩;simp only[iH,Array.toList_append,Array.toList_replicate];refine jC hargs0 ?_;have:=fI hargs;have e:(sp.args0 d).length=cargs.size:=by simpa using this
  rw[e];have:=td (E:={ E with X:=⟨E.X.x,fun _=>False,E.X.r⟩ }) (List.replicate (fn.ntmps-cargs.size) undef);simpa using this
 refine wpIn_mono (h1 none (Bh _) { E with X:=⟨E.X.x,fun _=>False,E.X.r⟩ } _ hrel) fun e a1 w0 ⟨h3,loc',X',y,N⟩=>?_;refine⟨by subst h3; rcases I with rfl|rfl; exact .inl rfl; exact .inr rfl,X',y.defers,fun O k1 k2 k3=>?_⟩;obtain⟨y,N⟩:=Bl HE y N k1 k2 k3;obtain⟨us,g1,g2⟩:=wX y fn.results.toList vs U;have hres:(results fn a1.tmps).run P O=.ok (if h:us.toArray.size=1 then us.toArray[0] else .tuple us.toArray) O:=by
  rw[wY];simp only[Sem.run_bind];rw[Array.mapM_eq_mapM_toList,Sem.run_map,g1];rfl
 generalize J:({ w:=O,H:=s'.den.H,loc:=loc',X:=E.X.re X'.r }:Env)=u at y N g1 g2;have hH1:u.H=ao s'.H:=by rw[←J]; rfl
 obtain⟨hK,hHR⟩:=JY hH1 y.heap (qO v.1) M q;obtain⟨p0,p1,p2,p3⟩:=ub M q (cF sp.fo (g++q));have hd:eb (k8 sp.fo) (g++q)=q:=by rw[←p0]; exact nt g q
 have hS:=ua hK q2 [];rw[cY]at hS;have hrl:=hS.2.2.2 us g2;have hleM:=JZ (m:=sp.cG.length) hH1 hK ⟨rfl,rfl⟩ (JV u _ ids) v.2 (fun j hj=>by
  obtain⟨r1,o',r2,_⟩:=xC v.2 j hj;obtain⟨i,o,g1,rest1,t1,t2,t3,t4,t5,t6⟩:=p3 j o' r2;have hat:=gg (e:=bJ s'.H ids) (j:=j) (aK t1);rw[show (bJ s'.H ids).ids=ids from rfl,t1]at hat;cases hat;exact⟨o,o',t2,r2,t5⟩) (fun b=>JW)
 have hle:E.le (gU u (ao (cM (cF sp.fo (g++q)) sp.fo (g++q))) ids) :=
  (N.trans hleM).full (by rw[←J]; exact⟨rfl,rfl⟩) (by rw[hH,eg]; simp only[aD.H0,Ck]; exact aG _) (by rw[hH]; exact J4 _ _ hfr)
 have V:u.w=O:=by rw[←J]
 have W:∀ r,u.X.re r=E.X.re r:=fun r=>by rw[←J]; rfl
 refine⟨_,hres,_,_,_,rfl,⟨rfl,rfl⟩,ids.map (fun i=>u.loc.getD i none),l6 u (ao (cM (cF sp.fo (g++q)) sp.fo (g++q))),?_,?_,?_⟩
 ·have := Jw hrl
  simp only[aD.out,aD.H1,hd];simpa only[gU,V,W]using this
 ·simpa only[gU,V,W,aD.H1]using hHR
 ·simpa only[gU,V,W,aD.H1]using hle
theorem Vj{P:Program}{τ:aj}{L:LT}(hm:P.follows .mixedOrders=true)(k:ak P τ){sp:aD}{fn:Func}(q:P.funcs[sp.f]? = some fn)(hb:fn.body.isSome=true)
  (u:ax P sp.cG.length L (aR fn)) (v:aX P τ L fn sp) (g:oX sp.cG=true) {d r:List G} (h:sp.F d=some r) :
  dv P sp.f (sp.args0 d) (ao (sp.H0 d)) (sp.out r) (ao (sp.H1 r)):=by
 rw[←v d]at h;obtain⟨x,B,h1,y⟩:=gC hm k (aR fn) _ .done u (Q:=fun x s=>uf P fn.results.toList sp x s=some (true,r)) (nu h);exact Vi q hb g h1 y
abbrev aU(P:Program)(sp:aD):Prop:=∀ d r,sp.F d=some r→dv P sp.f (sp.args0 d) (ao (sp.H0 d)) (sp.out r) (ao (sp.H1 r))
theorem nA{P:Program}{τ:aj}{L:LT}(hm:P.follows .mixedOrders=true)(g:ak P τ){sp:aD}{fn:Func}(k:P.funcs[sp.f]? = some fn)(hb:fn.body.isSome=true)
  (q:ax P sp.cG.length L (aR fn)) (u:aX P τ L fn sp) (d:oX sp.cG=true):aU P sp:=fun _ _ h=>Vj hm g k hb q u d h
/-! ### Tables -/
def ug:eA→Bool
 |.int _ | .str | .bool | .list _ | .t_ _ | .row _ | .cptr _ | .nil | .any | .JM _ | .fn _ | .addr | .B7=>true
 |_=>false
def xJ:Sh→Bool
 |.s a=>ug a
 |.clo _ caps=>caps.all ug
theorem J5{lens:cX}{a:eA}{d:List G}(h:ug a=true):(eB lens a d).closed=true:=by
 cases a<;>simp only[ug]at h<;>first
  |(cases h; done)
  |rfl
  |(simp only[eB,AV.closed,fy]; done)
theorem J6{lens:cX}:∀{as:List eA} {d:List G},(as.all ug)=true→AV.bq (iw lens as d)=true
 | [],_,_=>rfl
 | a::as,d,h=>by
  simp only[lF,aB]at h;simp only[iw,AV.bq,J5 h.1,J6 h.2,sG]
theorem xK{lens:cX}:∀{as:List Sh} {d:List G},(as.all xJ)=true→AV.bq (fc lens as d)=true
 | [],_,_=>rfl
 | a::as,d,h=>by
  simp only[lF,aB]at h;simp only[fc,AV.bq,xK h.2,fH];cases a with
  |s a=>exact J5 h.1
  |clo f caps=>simp only[oU,AV.closed]; exact J6 h.1
theorem Vk{vs:List AV}(h:AV.bq vs=true):(c6 vs).closed=true:=by
 cases vs with
 |nil=>rfl
 | cons v vs =>
  cases vs with
  |nil=>simpa[c6,AV.bq]using h
  |cons v2 vs=>simpa only[c6,AV.closed]using h
def gX(E:Env):Env:={ w:=E.w,H:=[],loc:=[],X:=(E.X.or E.own).re dA }
theorem Vl{E:Env}(x:Nat):¬ (gX E).own x:=by rintro(⟨id,c,hid⟩|⟨l,k,c,hk⟩); simp[gX]at hid; simp[gX,dA]at hk
theorem J7{E:Env}:E.bF (gX E):=⟨fun b hb=>⟨⟨hb.1,Vl b,fun d=>d.elim hb.2.2 hb.2.1⟩,rfl⟩⟩
theorem Vm{E:Env}:(gX E).bF E:=⟨fun b hb=>⟨⟨hb.1,fun ho=>hb.2.2 (Or.inr ho),fun d=>hb.2.2 (Or.inl d)⟩,rfl⟩⟩
theorem Vn{E:Env}(HE:au E):au (gX E):=by
 refine⟨rfl,?_,?_,?_,?_,HE.eR.bF J7,fun l k l' k' b m n hk=>by simp[gX,dA]at hk,fun i b m l k n hi=>by simp[gX]at hi,fun l k b m hk=>by simp[gX,dA]at hk,fun i j o o' l hi=>by simp[gX]at hi,fun l _ k q hk=>by simp[gX,dA]at hk⟩
 ·intro i j b m n hi; simp[gX]at hi
 ·intro i b m hi; simp[gX]at hi
 ·rintro b (d | ho)
  ·exact HE.X b d
  ·exact(HE.wa ho).1
 ·intro i o hi; simp[gX]at hi
theorem Vo{E:Env}(HE:au E):gT [] (bJ [] []) (fun _=>false) [] (gX E) (gX E):=by
 exact { hH:=rfl,HE:=Vn HE,free:=fun _ h=>(nomatch h),cQ:=⟨fun b hb=>⟨hb,rfl⟩,rfl,fun j d=>absurd d (Nat.not_lt_zero _),fun _ _ _ _ _=>rfl⟩,obj:=fun j o ho=>by simp at ho }
theorem Vp{E:Env}(HE:au E):∀{d:List Sh} {as:List AV} {g:List G},(d.all xJ)=true→ed [] (bJ [] []) (fun _=>false) d as=some (true,g)→∀(rest:List G) (cs:List Value),af E as cs →
  af E (fc [] d (g++rest)) cs:=by
 have N:∀{sh:eA} {a:AV} {b:Bool} {g:List G},fl [] (bJ [] []) (fun _=>false) sh a=some (b,g)→a.closed=true∨sh=.any:=by
  intro sh a b g h;unfold fl at h;split at h
  ·exact .inl rfl
  ·exact .inl rfl
  ·exact .inl rfl
  ·split at h
   ·rename_i ha
    left;unfold l5 at ha;split at ha<;>first|rfl|cases ha
   ·split at h
    ·simp at h
    ·cases h
  ·split at h
   ·rename_i ha
    left;rw[JB ha];simp only[AV.closed,fy]
   ·cases h
  ·exact .inl rfl
  ·simp at h
  ·exact .inl rfl
  ·exact .inr rfl
  ·exact .inl rfl
  ·simp at h
  ·simp at h
  ·simp at h
  ·simp at h
  ·split at h
   ·rename_i ha
    left;unfold l5 at ha;split at ha<;>first|rfl|cases ha
   ·split at h
    ·simp at h
    ·cases h
  ·simp at h
  ·exact .inl rfl
  ·rename_i f js f' vs
   split at h
   ·rename_i u
    left;cases js with
    | nil=>cases vs with
     |nil=>rfl
     |cons _ _=>simp[jN]at u
    | cons j js=>cases vs with
     |nil=>simp[jN]at u
     |cons v vs=>cases v<;>simp[jN]at u
   ·cases h
  ·exact .inl rfl
  ·cases h
 have U:∀{d:List eA} {as:List AV} {b:Bool} {g:List G},fe [] (bJ [] []) (fun _=>false) d as=some (b,g)→∀(cs:List Value),af E as cs →
   ∃ k,fe [] (bJ [] []) (fun _=>false) d k=some (b,g)∧AV.bq k=true∧af E k cs:=by
  intro d
  induction d with
  | nil =>
   intro as b g h cs q;cases as with
   |nil=>exact⟨[],h,rfl,q⟩
   |cons _ _=>simp[fe]at h
  | cons sh d M =>
   intro as b g h cs q;cases as with
   |nil=>simp[fe]at h
   | cons a as =>
    cases cs with
    |nil=>simp[af]at q
    | cons c cs =>
     simp only[af]at q;simp only[fe]at h;split at h
     ·rename_i b1 g1 b2 g2 h1 J
      cases h;obtain⟨k,y,B,I⟩:=M J cs q.2;rcases N h1 with u|rfl
      ·exact⟨a::k,by simp only[fe,h1,y],by simp only[AV.bq,u,B,sG],by simp only[af]; exact⟨q.1,I⟩⟩
      ·have e:fl [] (bJ [] []) (fun _=>false) .any .undef=some (b1,g1):=by
        have:fl [] (bJ [] []) (fun _=>false) .any a=some (true,[]):=by cases a<;>rfl
        rw[this]at h1;exact h1
       exact⟨.undef::k,by simp only[fe,e,y],by simp only[AV.bq,B]; rfl,by simp only[af,rel]; exact⟨trivial,I⟩⟩
     ·cases h
 have V:∀{d:List Sh} {as:List AV} {b:Bool} {g:List G},ed [] (bJ [] []) (fun _=>false) d as=some (b,g)→∀(cs:List Value),af E as cs →
   ∃ k,ed [] (bJ [] []) (fun _=>false) d k=some (b,g)∧AV.bq k=true∧af E k cs:=by
  intro d
  induction d with
  | nil =>
   intro as b g h cs q;cases as with
   |nil=>exact⟨[],h,rfl,q⟩
   |cons _ _=>simp[ed]at h
  | cons sh d M =>
   intro as b g h cs q;cases as with
   |nil=>simp[ed]at h
   | cons a as =>
    cases cs with
    |nil=>simp[af]at q
    | cons c cs =>
     simp only[af]at q;simp only[ed]at h;split at h
     ·rename_i b1 g1 b2 g2 h1 J
      cases h;obtain⟨k,y,B,I⟩:=M J cs q.2;cases sh with
      | s sh0 =>
       simp only[jO]at h1;rcases N h1 with u|rfl
       ·exact⟨a::k,by simp only[ed,jO,h1,y],by simp only[AV.bq,u,B,sG],by simp only[af]; exact⟨q.1,I⟩⟩
       ·have e:fl [] (bJ [] []) (fun _=>false) .any .undef=some (b1,g1):=by
         have:fl [] (bJ [] []) (fun _=>false) .any a=some (true,[]):=by cases a<;>rfl
         rw[this]at h1;exact h1
        exact⟨.undef::k,by simp only[ed,jO,e,y],by simp only[AV.bq,B]; rfl,by simp only[af,rel]; exact⟨trivial,I⟩⟩
      | clo f caps =>
       cases a<;>simp only[jO]at h1<;>try cases h1
       rename_i f' vs;split at h1
       ·rename_i hf
        subst hf;have O:=q.1;simp only[rel]at O;obtain⟨us,e1,e2⟩:=O;obtain⟨W,l1,l2,l3⟩:=U h1 _ e2;exact⟨.clo f W::k,by simp only[ed,jO,if_true,l1,y],by simp only[AV.bq,AV.closed,l2,B,sG],
         by simp only[af,rel]; exact⟨⟨us,e1,l3⟩,I⟩⟩
       ·cases h1
     ·cases h
 intro d as g hcl h rest cs q;obtain⟨k,h1,J,h3⟩:=V h cs q;have h4:=mJ J7 k J h3;have h5:=(ua (Vo HE) h1 rest).2.2.2 cs h4;exact mJ Vm _ (xK hcl) h5
def aj.bf(τ:aj)(sp:aD):aj where
 pf g:=match ad g sp.f with
  |true=>true
  |false=>τ.pf g
 T g as:=match ad g sp.f with
  | true=>match ed [] (bJ [] []) (fun _=>false) sp.args as with
   |some (b,d)=>some (qM b (sp.F d).isSome,c6 (fc [] sp.res ((sp.F d).getD [])))
   |none=>τ.T g as
  |false=>τ.T g as
 W:=τ.W
 C:=τ.C
 I:=τ.I
 N:=τ.N
 U:=τ.U
def Cl(sp:aD):Bool:=(sp.args.all xJ)&&((sp.res.all xJ)&&(sp.cG.isEmpty&&sp.fo.isEmpty))
theorem ak.bf{P:Program}{τ:aj}(h:ak P τ){sp:aD}(hb:eS P sp.f=true)(y:Cl sp=true)
  (hc:∀ d r,sp.F d=some r→dv P sp.f (sp.args0 d) (ao (sp.H0 d)) (sp.out r) (ao (sp.H1 r))):ak P (τ.bf sp):=by
 simp only[Cl,aB,List.isEmpty_iff]at y;obtain⟨u,O,U,V⟩:=y;refine⟨fun g as b v k q=>?_,h.W,h.C,h.I,h.F⟩;simp only[aj.bf]at k;split at k
 ·rename_i e
  have e:=bt e;subst e;split at k
  ·rename_i b' d hr
   simp only[aZ,be]at k;obtain⟨h1,rfl⟩:=k;subst h1;simp only[qN]at q;obtain⟨rfl,B⟩:=q;refine⟨hb,?_⟩;cases J:sp.F d with
   |none=>rw[J]at B; cases B
   | some r =>
    have M:=hc d r J;simp only[aD.args0,aD.H0,aD.out,aD.H1,U,V,cM,cF,k8,eb]at M;have:=TF M (xK u) (Vk (xK O));intro H E cargs hH HE N;exact this H E cargs hH HE (by
     have:=Vp HE u hr [] _ N
     rwa [cY]at this)
  ·exact h.T _ as b v k q
 ·exact h.T g as b v k q
end Go.AL

namespace Go.AL
open Go
variable [Dr]
def Kd.cy:List Kd→Bool
 | []=>true
 |.list _::_=>false
 |_::ks=>Kd.cy ks
def Ct.bH:Ct→Bool
 |.one k=>Kd.cy [k]
 |.agg ks=>Kd.cy ks
def qR:eA→Bool
 |.row ks=>Kd.cy ks
 |.list _ | .t_ _ | .cptr _=>false
 |_=>true
def J8:Sh→Bool
 |.s a=>qR a
 |.clo _ caps=>caps.all qR
def J9:cf→Bool
 |.vec ks _=>Kd.cy ks
 |.box cells=>cells.all qR
 |.map K V=>K.bH&&V.bH
 |.er _ _ _=>true
 |.aH _ K ks=>K.bH&&Kd.cy ks
 |.mm _ K KI VI=>K.bH&&(KI.bH&&VI.bH)
def jl(sp:aD):Bool:=(sp.res.all J8)&&(sp.fo.all J9)
theorem uh:∀{ks:List Kd} (r:List G),Kd.cy ks=true→AV.cy (aJ ks r)=true
 | [],_,_=>rfl
 |.list _::_,_,h=>by simp[Kd.cy]at h
 | .int _::ks,r,h | .str::ks,r,h | .bool::ks,r,h=>by
  simp only[Kd.cy]at h;simp only[aJ,AV.cy,uh r.tail h,fH];rfl
theorem Ct.qS{K:Ct}(r:List G)(h:K.bH=true):(K.av r).bH=true:=by
 cases K with
 | one k =>
  simp only[Ct.bH]at h;cases k<;>first
   |rfl
   |(simp[Kd.cy]at h; done)
 |agg ks=>simp only[Ct.av,AV.bH]; exact uh r h
theorem J_:∀ js:List Nat,AV.cy (oT js)=true
 | []=>rfl
 |j::js=>by simp only[oT,AV.cy,J_ js,fH]; rfl
theorem J'{lens:cX}{a:eA}{d:List G}(h:qR a=true):(eB lens a d).bH=true:=by
 cases a<;>simp only[qR]at h<;>first
  |(cases h; done)
  |(simp only[eB,AV.bH]; exact uh _ h)
  |rfl
  |(simp only[eB,AV.bH]; exact J_ _)
theorem Cm{lens:cX}:∀{as:List eA} {d:List G},(as.all qR)=true→AV.cy (iw lens as d)=true
 | [],_,_=>rfl
 | a::as,d,h=>by
  simp only[lF,aB]at h;simp only[iw,AV.cy,J' h.1,Cm h.2,sG]
theorem Ka{lens:cX}:∀{as:List Sh} {d:List G},(as.all J8)=true→AV.cy (fc lens as d)=true
 | [],_,_=>rfl
 | a::as,d,h=>by
  simp only[lF,aB]at h;simp only[fc,AV.cy,Ka h.2,fH];cases a with
  |s a=>exact J' h.1
  |clo f caps=>simp only[oU,AV.bH]; exact Cm h.1
theorem Vq{vs:List AV}(h:AV.cy vs=true):(c6 vs).bH=true:=by
 cases vs with
 |nil=>rfl
 | cons v vs =>
  cases vs with
  |nil=>simpa[c6,AV.cy]using h
  |cons v2 vs=>simpa only[c6,AV.bH]using h
theorem Kb{lens:cX}:∀{os:List cf} {d:List G},(os.all J9)=true→((ao (cM lens os d)).all ab.bH)=true
 | [],_,_=>rfl
 | o::os,d,h=>by
  simp only[lF,aB]at h;have k:=Kb (lens:=lens) (d:=eb o.sz d) h.2;simp only[cM,ao,dq,lF,aB];refine⟨?_,by simpa only[ao]using k⟩;cases o with
  | vec ks u =>
   simp only[eJ,ai.den,ab.bH,cO,dF];rintro r ⟨g,_,rfl⟩;exact uh g h.1
  |box cells=>simp only[eJ,ai.den,ab.bH]; exact Cm h.1
  | map K V =>
   have h1:(K.bH&&V.bH)=true:=h.1;simp only[aB]at h1;simp only[eJ,ai.den,ab.bH,c9,cO,dF];rintro x ⟨g,_,rfl⟩;simp only[Ct.qS _ h1.1,Ct.qS _ h1.2,sG]
  |er l T B=>rfl
  | aH l K ks =>
   have h1:(K.bH&&Kd.cy ks)=true:=h.1;simp only[aB]at h1;simp only[eJ,ai.den,ab.bH,fN,cO,dF];rintro x ⟨g,_,rfl⟩;simp only[jb,Ct.qS _ h1.1,Bool.true_and];cases (gi g 3).bool with
   |false=>rfl
   | true =>
    simp only[cond_true,cO,dF];rintro r ⟨g2,_,rfl⟩;exact uh g2 h1.2
  | mm l K KI VI =>
   have h1:(K.bH&&(KI.bH&&VI.bH))=true:=h.1;simp only[aB]at h1;simp only[eJ,ai.den,ab.bH,gS,mV,c9,aB,cO,dF];refine⟨?_,?_⟩
   ·rintro x ⟨g, _, rfl⟩
    exact Ct.qS _ h1.1
   ·rintro x ⟨g, _, rfl⟩ y v
    obtain⟨q,_,rfl⟩:=dF.1 v;simp only[Ct.qS _ h1.2.1,Ct.qS _ h1.2.2,and_self]
def ai.cd(e:bL)(j:Nat):ai→ai
 |.vec ks v rows=>.vec ks (v+e.up j) rows
 |.raw o=>.raw (o.cd e j)
 |.map K V rows c=>.map K V rows c
 |.aH l K ks rows c=>.aH l K ks rows c
 |.mm l K KI VI rows mem c=>.mm l K KI VI rows mem c
def ui(e:bL):Nat→List ai→List ai
 |_,[]=>[]
 |j,o::os=>o.cd e j::ui e (j+1) os
def iO(e:bL)(H H1:List ai):List ai:=dX H e.ids (ui e 0 H1)++(ui e 0 H1).drop e.ids.length
theorem Vr(e:bL)(j:Nat)(o:ai):(o.cd e j).den=o.den.cd e j:=by
 cases o<;>rfl
theorem Kc(e:bL):∀(j:Nat) (os:List ai),ao (ui e j os)=jL e j (ao os)
 |_,[]=>rfl
 | j,o::os=>by
  simp only[ui,ao,dq,jL,Vr];have:=Kc e (j+1) os;simp only[ao]at this;rw[this]
theorem Ke{α β:Type}(f:α→β):∀(is:List Nat) (l xs:List α),(dX l is xs).map f=dX (l.map f) is (xs.map f)
 | [],_,_=>by simp[dX]
 |_::_,_,[]=>by simp[dX]
 |i::is,l,x::xs=>by simp[dX,Ke f is,List.map_set]
theorem Vs(e:bL)(H H1:List ai):ao (iO e H H1)=np e (ao H) (ao H1):=by
 unfold iO np;rw[←Kc];simp only[ao,List.map_append,Ke,List.map_drop]
def la(e:bL):Nat→List cf→Bool
 |_,[]=>true
 |j,.vec _ _::os=>la e (j+1) os
 |j,_::os=>ad (e.up j) 0&&la e (j+1) os
theorem oY{e:bL}{lens:cX}:∀{j:Nat} {os:List cf} {d:List G},la e j os=true→jM e j (ao (cM lens os d))=true
 |_,[],_,_=>rfl
 | j,.vec ks u::os,d,h=>by
  simp only[la]at h;have:=oY (lens:=lens) (d:=eb (cf.vec ks u).sz d) h;simp only[cM,ao,dq,jM,aB];exact⟨rfl,by simpa only[ao]using this⟩
 | j,.box cells::os,d,h=>by
  simp only[la,aB]at h;have:=oY (lens:=lens) (d:=eb (cf.box cells).sz d) h.2;simp only[cM,ao,dq,jM,aB];exact⟨h.1,by simpa only[ao]using this⟩
 | j,.map K V::os,d,h=>by
  simp only[la,aB]at h;have:=oY (lens:=lens) (d:=eb (cf.map K V).sz d) h.2;simp only[cM,ao,dq,jM,aB];exact⟨h.1,by simpa only[ao]using this⟩
 | j,.er l T B::os,d,h=>by
  simp only[la,aB]at h;have:=oY (lens:=lens) (d:=eb (cf.er l T B).sz d) h.2;simp only[cM,ao,dq,jM,aB];exact⟨h.1,by simpa only[ao]using this⟩
 | j,.aH l K ks::os,d,h=>by
  simp only[la,aB]at h;have:=oY (lens:=lens) (d:=eb (cf.aH l K ks).sz d) h.2;simp only[cM,ao,dq,jM,aB];exact⟨h.1,by simpa only[ao]using this⟩
 | j,.mm l K KI VI::os,d,h=>by
  simp only[la,aB]at h;have:=oY (lens:=lens) (d:=eb (cf.mm l K KI VI).sz d) h.2;simp only[cM,ao,dq,jM,aB];exact⟨h.1,by simpa only[ao]using this⟩
def qT(S:Bool)(ids:List Nat)(i:Nat):Bool:=match S with
 |true=>gV ids i
 |false=>false
def nB(sp:aD)(as:List AV)(H:List ai):Option (Bool × AV × List ai) :=
 match iN H (fun i=>as.getD i .undef) sp.ps []with
 |none=>none
 | some ids=>match nodupB ids&&la (bJ H ids) 0 sp.fo with
  |false=>none
  | true=>match iM H (bJ H ids) (qT (jl sp) ids) sp.cG ids,ed H (bJ H ids) (qT (jl sp) ids) sp.args as with
   |some (b,g),some (h,d)=>some (qM (b&&h) (sp.F (g++d)).isSome,(sp.out ((sp.F (g++d)).getD [])).cd (bJ H ids),iO (bJ H ids) H (sp.H1 ((sp.F (g++d)).getD [])))
   |_,_=>none
def l9:List jk→Nat→Bool
 | [],_=>true
 |.cell j _::ps,n=>fj j n&&l9 ps (n+1)
 |.Cf j _ _::ps,n=>fj j n&&l9 ps (n+1)
 |_::ps,n=>l9 ps (n+1)
theorem Kf{H:List ai}{vals:Nat→AV}:∀{ps:List jk} {acc ids:List Nat},iN H vals ps acc=some ids→∀ x∈acc,x∈ids
 | [],acc,ids,h,x,d=>by cases h; exact d
 | p::ps,acc,ids,h,x,d=>by
  unfold iN at h;split at h
  ·exact Kf h x (pO _ d)
  ·cases h
theorem Kg{H:List ai}{vals:Nat→AV}{id:Nat}{o:ai}:∀{ps:List jk} {acc ids:List Nat},l9 ps acc.length=true→iN H vals ps acc=some ids→id∉ids→iN (H.set id o) vals ps acc=some ids
 | [],acc,ids,_,h,_=>h
 | p::ps,acc,ids,hw,h,hid=>by
  unfold iN at h⊢;split at h
  ·rename_i i hi
   have g:=Kf h;have get:∀ j,j<acc.length→(H.set id o)[acc.getD j 0]? = H[acc.getD j 0]? := fun j d=>by
    refine aT fun e=>hid ?_;rw[e,ch,bI d];exact g _ (pO _ (kN d))
   have e:xF (H.set id o) vals acc p=some i∧l9 ps (acc++[i]).length=true:=by
    rw[fi];cases p with
    |fix _=>exact⟨hi,hw⟩
    |slot _=>exact⟨hi,hw⟩
    |cap _ _=>exact⟨hi,hw⟩
    | cell j c =>
     simp only[l9,aB,j8]at hw;refine⟨?_,hw.2⟩;simp only[xF]at hi⊢;rw[get j hw.1];exact hi
    | Cf j c k =>
     simp only[l9,aB,j8]at hw;refine⟨?_,hw.2⟩;simp only[xF]at hi⊢;rw[get j hw.1];exact hi
   rw[e.1];exact Kg e.2 h hid
  ·cases h
section Vt
variable {H:List ai} {e:bL} {id:Nat} {o:ai} (he:∀ j,e.at j≠id)
include he
theorem Kh:∀(js:List Nat) (vs:List AV),jN (H.set id o) e js vs=jN H e js vs
 | [],[]=>rfl
 | [],_::_=>rfl
 |_::_,[]=>rfl
 | j::js,v::vs=>by
  have g:=Kh js vs;cases v<;>try rfl
  rename_i i ae k row c;simp only[jN,g];by_cases hi:i=id
  ·subst hi
   have d:ad i (e.at j)=false:=by
    cases hb:ad i (e.at j)with
    |false=>rfl
    |true=>exact absurd (bt hb).symm (he j)
   simp only[d,Bool.false_and];cases (H.set i o)[i]? <;> cases H[i]? <;> (repeat' split)<;>rfl
  ·rw[aT (Ne.symm hi)]
theorem Ki:∀(sh:eA) (a:AV),fl (H.set id o) e (fun _=>false) sh a=fl H e (fun _=>false) sh a:=by
 have d:∀{i:Nat},i≠id→(H.set id o)[i]? = H[i]? := fun h=>aT (Ne.symm h);have g:∀ j,¬ (id=e.at j):=fun j h=>he j h.symm;intro sh a;cases a with
 | vec w i ae off n =>
  by_cases hi:i=id
  ·subst hi
   cases sh<;>(try rfl)<;>simp only[fl,l5,kK,and_false,if_false,g,false_and]<;>(repeat' split)<;>(first|rfl|simp_all)
  ·cases sh<;>(try rfl)<;>simp only[fl,d hi]
 | ptr i ae k row col =>
  by_cases hi:i=id
  ·subst hi
   cases sh<;>(try rfl)<;>simp only[fl,l5,kK,and_false,if_false,g,false_and]<;>(repeat' split)<;>(first|rfl|simp_all)
  ·cases sh<;>(try rfl)<;>simp only[fl,d hi]
 | map i =>
  by_cases hi:i=id
  ·subst hi
   cases sh<;>(try rfl)<;>simp only[fl,l5,kK,and_false,if_false,g,false_and]<;>(repeat' split)<;>(first|rfl|simp_all)
  ·cases sh<;>(try rfl)<;>simp only[fl,d hi]
 | clo f vs =>
  cases sh<;>(try rfl)
  ·cases vs<;>rfl
  ·simp only[fl,Kh he]
 | lit v =>
  cases sh<;>(try rfl)<;>cases v<;>(try rfl)
  ·rename_i b n c
   cases b<;>cases n<;>cases c<;>rfl
  ·rename_i q
   cases q with
   |none=>rfl
   | some q =>
    obtain⟨b,o',w⟩:=q;cases o'<;>cases w<;>rfl
 |_=>cases sh<;>rfl
theorem Cn:∀(d:List eA) (as:List AV),fe (H.set id o) e (fun _=>false) d as=fe H e (fun _=>false) d as
 | [],[]=>rfl
 | [],_::_=>rfl
 |_::_,[]=>rfl
 |sh::d,a::as=>by simp only[fe,Ki he sh a,Cn d as]
theorem Vu(sh:Sh)(a:AV):jO (H.set id o) e (fun _=>false) sh a=jO H e (fun _=>false) sh a:=by
 cases sh with
 |s x=>simp only[jO,Ki he]
 | clo f caps =>
  cases a with
  |clo g vs=>simp only[jO,Cn he]
  |_=>rfl
theorem Kj:∀(d:List Sh) (as:List AV),ed (H.set id o) e (fun _=>false) d as=ed H e (fun _=>false) d as
 | [],[]=>rfl
 | [],_::_=>rfl
 |_::_,[]=>rfl
 |sh::d,a::as=>by simp only[ed,Vu he sh a,Kj d as]
theorem Vv(sh:cf)(t:ai):gh (H.set id o) e (fun _=>false) sh t=gh H e (fun _=>false) sh t:=by
 cases sh with
 | box d =>
  cases t with
  |raw x=>cases x<;>simp only[gh,Cn he]
  |_=>rfl
 | er l T B =>
  cases t with
  |raw x=>cases x<;>rfl
  |_=>rfl
 |_=>cases t<;>rfl
theorem Kk:∀(os:List cf) (is:List Nat),id∉is→iM (H.set id o) e (fun _=>false) os is=iM H e (fun _=>false) os is
 | [],[],_=>rfl
 | [],_::_,_=>rfl
 |_::_,[],_=>rfl
 | sh::os,i::is,h=>by
  have h1:id≠i:=fun e=>h (by rw[e]; exact db);simp only[iM,aT h1,Vv he,Kk os is fun hm=>h (df _ hm)]
end Vt
theorem Kl{α:Type}{i:Nat}{x:α}:∀(is:List Nat) (l xs:List α),i∉is→dX (l.set i x) is xs=(dX l is xs).set i x
 | [],_,_,_=>by simp[dX]
 |_::_,_,[],_=>by simp[dX]
 | j::is,l,y::xs,h=>by
  have h1:i≠j:=fun e=>h (by rw[e]; exact db);simp only[dX];rw[List.set_comm _ _ h1];exact Kl is _ _ fun hm=>h (df _ hm)
theorem Vw{H:List ai}{ids:List Nat}{id:Nat}{o:ai}(h:id∉ids):bJ (H.set id o) ids=bJ H ids:=by
 unfold bJ;rw[List.length_set];congr 1;refine List.map_congr_left fun i hi=>?_;unfold qL;rw[aT fun e=>h (by rw[e]; exact hi)]
theorem Vx{sp:aD}(B:jl sp=false)(hw:l9 sp.ps 0=true){as:List AV}{H H':List ai}{b:Bool}{v:AV}(h:nB sp as H=some (b,v,H')){id:Nat}{o:ai}(u:id<H.length)
  (hid:∀ ids,iN H (fun i=>as.getD i .undef) sp.ps []=some ids→id∉ids) :
  nB sp as (H.set id o)=some (b,v,H'.set id o)∧∃ ids,iN H (fun i=>as.getD i .undef) sp.ps []=some ids∧iN (H.set id o) (fun i=>as.getD i .undef) sp.ps []=some ids:=by
 unfold nB at h⊢;split at h
 ·cases h
 rename_i ids g;have d:=hid ids g;have q:=Kg (o:=o) (acc:=[]) hw g d;refine⟨?_,ids,g,q⟩;rw[q];simp only[Vw d];split at h
 ·cases h
 rename_i J;have y:qT (jl sp) ids=fun _=>false:=by
  rw[B];rfl
 rw[y]at h⊢;have he:∀ j,(bJ H ids).at j≠id:=by
  intro j e;rcases iV j (bJ H ids).ids.length with k|k
  ·have := gg k
   rw[e]at this;exact d (eM this)
  ·rw [qI k] at e
   have:(bJ H ids).base=H.length:=rfl;omega
 rw[Kk he _ _ d,Kj he];split at h
 case h_2=>cases h
 rename_i h1 M;cases h;have I:∀ X,iO (bJ H ids) (H.set id o) X=(iO (bJ H ids) H X).set id o:=fun X=>by
  unfold iO;rw[show (bJ H ids).ids=ids from rfl,Kl ids _ _ d,GW _ _ (by rw[nm]; exact u)]
 rw[I]
def aj.c8(τ:aj)(sp:aD):aj where
 pf g:=match ad g sp.f with
  |true=>false
  |false=>τ.pf g
 T:=τ.T
 W g as H:=match ad g sp.f with
  | true=>match nB sp as H with
   |some r=>some r
   |none=>τ.W g as H
  |false=>τ.W g as H
 C g as H:=match ad g sp.f with
  | true=>(match iN H (fun i=>as.getD i .undef) sp.ps [] with
   |some ids=>ids
   |none=>[])++τ.C g as H
  |false=>τ.C g as H
 I:=τ.I
 N g:=match ad g sp.f with
  | true=>match τ.U g,jl sp with
   |false,false=>l9 sp.ps 0
   |_,_=>false
  |false=>τ.N g
 U g:=match ad g sp.f with
  |true=>true
  |false=>τ.U g
def nC:List cf→List cf→Bool
 |_,[]=>true
 | [],o'::d=>o'.iL.isNone&&nC [] d
 | o::os,o'::d=>(match o'.iL with
  |none=>true
  | some l=>match o.iL with
   |some l'=>ad l l'
   |none=>false)&&nC os d
theorem Co:∀{os k:List cf},nC os k=true→∀(j:Nat) o' l,k[j]? = some o'→o'.iL=some l→∃ o,os[j]? = some o∧o.iL=some l
 |_,[],_,j,_,_,d,_=>by simp at d
 | [],x::k,h,0,o',l,d,g=>by
  simp only[nC,aB]at h;simp at d;subst d;rw[g]at h;cases h.1
 | [],x::k,h,j+1,o',l,d,g=>by
  simp only[nC,aB]at h;obtain⟨o,h1,_⟩:=Co h.2 j o' l (by simpa using d) g;simp at h1
 | o::os,x::k,h,0,o',l,d,g=>by
  simp only[nC,aB]at h;simp at d;subst d;have h1:=h.1;rw[g]at h1;simp only[]at h1;split at h1
  ·rename_i l' q
   have:=bt h1;subst this;exact⟨o,rfl,q⟩
  ·cases h1
 | o::os,x::k,h,j+1,o',l,d,g=>by
  simp only[nC,aB]at h;exact Co h.2 j o' l (by simpa using d) g
theorem Km(lens:cX):∀(os:List cf) (d:List G) (j:Nat) (o:ai),(cM lens os d)[j]? = some o→∃ sh d',os[j]? = some sh∧o=eJ lens sh d'
 | [],d,j,o,h=>by simp[cM]at h
 | s::os,d,0,o,h=>by
  simp[cM]at h;exact⟨s,d,rfl,h.symm⟩
 | s::os,d,j+1,o,h=>by
  simp only[cM,RI]at h;obtain⟨sh,d',h1,g⟩:=Km lens os _ j o h;exact⟨sh,d',by simpa using h1,g⟩
theorem Vy{lens:cX}{os:List cf}{d:List G}{j:Nat}{o:ab} (h:(ao (cM lens os d))[j]? = some o):∃ sh,os[j]? = some sh∧o.label=sh.iL:=by
 simp only[ao,bZ]at h;obtain⟨o',h1,rfl⟩:=dM.1 h;obtain⟨sh,d',g,rfl⟩:=Km lens os d j o' h1;exact⟨sh,g,qJ _ _ _⟩
theorem Kn(lens:cX):∀(os:List cf) (d:List G) (j:Nat) (sh:cf),os[j]? = some sh→∃ o,(ao (cM lens os d))[j]? = some o∧o.label=sh.iL
 | [],d,j,o,h=>by simp at h
 | s::os,d,0,sh,h=>by
  simp at h;subst h;exact⟨(eJ lens s d).den,by simp[cM,ao],qJ _ _ _⟩
 | s::os,d,j+1,sh,h=>by
  obtain⟨o,h1,g⟩:=Kn lens os (eb s.sz d) j sh (by simpa using h);exact⟨o,by simpa[cM,ao]using h1,g⟩
def xL(sp:aD):Bool:=oX sp.cG&&(dH sp.cG.length sp.fo.length&&nC sp.cG sp.fo)
theorem Vz{P:Program}{sp:aD}(hp:xL sp=true) (hc:∀ d r,sp.F d=some r→dv P sp.f (sp.args0 d) (ao (sp.H0 d)) (sp.out r) (ao (sp.H1 r)))
  {as:List AV} {H H':List ai} {v:AV} (h:nB sp as H=some (true,v,H')):dv P sp.f as (ao H) v (ao H'):=by
 simp only[xL,aB]at hp;obtain⟨hfr,hle,hlab⟩:=hp;have hle:=sH hle;unfold nB at h;split at h
 ·cases h
 rename_i ids hids;split at h
 ·cases h
 rename_i hck;simp only[aB]at hck;obtain⟨hnd,hup⟩:=hck;have hnd:=qO hnd;split at h
 case h_2=>cases h
 rename_i b g b' k h1 h2;simp only[aZ,be,qN,aB]at h;obtain⟨⟨⟨rfl,rfl⟩,h3⟩,rfl,rfl⟩:=h;cases hF:sp.F (g++k)with
 |none=>rw[hF]at h3; cases h3
 |some r =>
 simp only[lH];obtain⟨p0,p1,p2,p3⟩:=ub h1 k (cF sp.cG (g++k));have hd:eb (k8 sp.cG) (g++k)=k:=by rw[←p0]; exact nt g k
 have hlen:ids.length=(ao (sp.H0 (g++k))).length:=by rw[eg]; simp only[aD.H0,p1,p2]
 have hat:∀ j,j<ids.length→ids[j]? = some ((bJ H ids).at j):=fun j q=>gg (e:=bJ H ids) q;have hobjs:∀ j,j<ids.length→∃ sh o g1 M,sp.cG[j]? = some sh∧H[(bJ H ids).at j]? = some o∧gh H (bJ H ids) (qT (jl sp) ids) sh o=some (true,g1) ∧
   (sp.H0 (g++k))[j]? = some (eJ (cF sp.cG (g++k)) sh (g1++M)) ∧
   (cF sp.cG (g++k)).ae j=sh.up∧(∀ ks v rows,o=.vec ks v rows→(cF sp.cG (g++k)).len j=rows.length)∧sh.up=0∧(bJ H ids).up j=qK o:=by
  intro j q;have hj':j<sp.cG.length:=by omega
  obtain⟨i,o,g1,M,N,y,I,B,W,q6⟩:=p3 j sp.cG[j] (bI hj');have q1':=N;rw[hat j q]at N;cases N;refine⟨sp.cG[j],o,g1,M,bI hj',y,I,B,W,q6,?_,?_⟩
  ·have := cO.1 hfr sp.cG[j] (kN hj')
   exact bt this
  ·simp only [bL.up, bJ, ch, bZ]
   rw[q1'];simp only[eF,lH,qL];rw[y]
 have hK:∀ E E0,E.H=ao H→au E→xu (bJ H ids) (bif jl sp then (dG H.length).filter (gV ids) else []) E E0→E0.H=ao (sp.H0 (g++k)) →
   gT H (bJ H ids) (qT (jl sp) ids) (cF sp.cG (g++k)) E E0:=by
  intro E E0 V HE O U;refine { hH:=V,HE:=HE,free:=fun i hi b n hb=>?_,cQ:=O.toKeepIn,obj:=fun j o ho=>?_ }
  ·refine O.U3 i ?_ b n hb
   have hlt:=aK hb;rw[HE.len,V,eg]at hlt;unfold qT at hi;split at hi
   ·rename_i J
    rw[J];simp only[cond_true,z7,List.mem_range];exact⟨hlt,hi⟩
   ·cases hi
  ·have q:j<ids.length:=by
    rcases iV j ids.length with hlt|hge
    ·exact hlt
    ·have h1 := aK ho
     have h2:=qI (e:=bJ H ids) hge;have h3:(bJ H ids).base=H.length:=rfl;omega
   refine⟨q,?_⟩;obtain⟨sh,o',g1,M,N,y,I,B,W,q6,q7,q8⟩:=hobjs j q;rw[ho]at y;cases y;obtain⟨r1,r2,r3⟩:=Cb (lens:=cF sp.cG (g++k)) (d:=g1++M) I;exact⟨r1,⟨_,by rw[U]; exact bk B,by rw[W]; exact r2⟩,fun o0 h0=>by rw[U,bk B]at h0; cases h0; rw[B9,B_ I],q6,fun _=>by rw[W]; exact q7⟩
 have:=frame (P:=P) (f:=sp.f) (jl sp) (bif jl sp then (dG H.length).filter (gV ids) else []) (e:=bJ H ids) (H:=ao H) (args:=sp.args0 (g++k)) (H0:=ao (sp.H0 (g++k)))
  (H1:=ao (sp.H1 r)) (v:=sp.out r) (args0:=as) (hc _ _ hF) hlen (by rw[eg]; rfl) hnd ?_ ?_ (oY hup) ?_ (fun J=>by rw[J]; rfl) ?_ ?_ ?_ ?_ ?_ ?_ ?_
 ·rw [Vs]
  exact this
 ·intro j o ho
  have q:j<ids.length:=by rw[hlen]; exact aK ho
  obtain⟨sh,o',g1,M,N,y,I,B,W,q6,q7,q8⟩:=hobjs j q;obtain⟨r1,r2,r3⟩:=Cb (lens:=cF sp.cG (g++k)) (d:=g1++M) I;rw[bk B]at ho;cases ho;refine⟨o'.den,bk y,ab.Ah r2,fun v=>?_⟩;rw[r1,r2,q7,q8];simp only[aZ];constructor
  ·rintro rfl
   exact⟨0,rfl,by omega⟩
  ·rintro ⟨u, rfl, rfl⟩
   omega
 ·intro E E0 V HE O U j o ho
  have q:j<ids.length:=by rw[hlen]; exact aK ho
  obtain⟨sh,o',g1,M,N,y,I,B,W,q6,q7,q8⟩:=hobjs j q;rw[bk B]at ho;cases ho;exact JT (hK E E0 V HE O U) I M q (fun l hl=>O.iL j _ l (by rw[U]; exact bk B) (by rw[qJ,hl])) (HE.obj _ _ (by rw[V]; exact bk y))
 ·rw [eg, eg]
  simp only[aD.H0,aD.H1,Ck];exact hle
 ·intro J
  simp only[jl,aB]at J;exact Vq (Ka J.1)
 ·intro J
  simp only[jl,aB]at J;exact Kb J.2
 ·intro i hi
  cases J:jl sp with
  | true =>
   rw[J]at hi;simp only[cond_true,z7]at hi;exact JX hi.2
  | false =>
   rw[J]at hi;simp at hi
 ·intro j o o' ho ho'
  have q:j<ids.length:=by rw[hlen]; exact aK ho
  obtain⟨sh,o2,g1,M,N,y,I,B,_⟩:=hobjs j q;rw[bk B]at ho;rw[bk y]at ho';cases ho;cases ho';rw[JO I,qJ]
 ·intro j o l ho hl
  obtain⟨sh,h5,h6⟩:=Vy (show (ao (cM (cF sp.fo r) sp.fo r))[j]? = some o from ho);obtain⟨sh0,h7,h8⟩:=Co hlab j sh l h5 (by rw[←h6,hl]);obtain⟨o0,h9,h10⟩:=Kn (cF sp.cG (g++k)) sp.cG (g++k) j sh0 h7;exact⟨o0,h9,by rw[h10,h8]⟩
 ·intro j o o' ho ho'
  have q:j<ids.length:=by rw[hlen]; exact aK ho
  obtain⟨sh,o2,g1,M,N,y,I,B,_⟩:=hobjs j q;rw[bk B]at ho;rw[bk y]at ho';cases ho;cases ho';rw[B_ I,B9]
 ·intro E E0 cs V HE O U hr
  have hS:=(ua (hK E E0 V HE O U) h2 []).2.2.2 cs hr;rw[cY]at hS;simp only[aD.args0,hd];exact hS
theorem VA{sp:aD}{as:List AV}{H H':List ai}{v:AV}{b:Bool}{A:Nat}(h:nB sp as H=some (b,v,H'))(g:A<H.length)(k:∀ ids,iN H (fun i=>as.getD i .undef) sp.ps []=some ids→A∉ids):H'[A]? = H[A]? := by
 unfold nB at h;split at h
 ·cases h
 rename_i ids d;split at h
 ·cases h
 split at h
 case h_2=>cases h
 cases h;unfold iO;rw[cK (by rw[nm]; exact g)];exact xv _ _ _ _ (k ids d)
theorem ak.c8{P:Program}{τ:aj}(h:ak P τ){sp:aD}(hb:eS P sp.f=true)(V:xL sp=true)
  (hc:∀ d r,sp.F d=some r→dv P sp.f (sp.args0 d) (ao (sp.H0 d)) (sp.out r) (ao (sp.H1 r))):ak P (τ.c8 sp):=by
 refine⟨h.T,fun g as H b v H' k N=>?_,fun g as H b v H' k A q u=>?_,fun g as H t k Q hQ=>?_,fun g y as H=>?_,fun g B as H b v H' k id o u hid=>?_⟩
 rotate_left 2
 ·obtain ⟨g1, v, H', g2, g3, g4⟩ := h.I g as H t k Q hQ
  refine⟨g1,v,H',g2,fun A q u=>g3 A (fun hm=>q ?_) u,g4⟩;simp only[aj.c8];split
  ·exact vS _ hm
  ·exact hm
 ·simp only [aj.c8] at y ⊢
  cases e:ad g sp.f with
  |true=>rw[e]at y; cases y
  | false =>
   rw[e]at y;exact h.F.1 g y as H
 ·simp only [aj.c8] at B k hid ⊢
  cases e:ad g sp.f with
  | false =>
   rw[e]at B k hid;exact h.F.2 g B as H b v H' k id o u hid
  | true =>
   rw[e]at B k hid;simp only[]at B k hid⊢;split at B
   case h_2=>cases B
   rename_i y hs;have U:∀ H,τ.W g as H=none:=fun H=>(h.F.1 g y as H).1;have O:∀ H,τ.C g as H=[]:=fun H=>(h.F.1 g y as H).2;rw[U]at k;split at k
   case h_2=>cases k
   rename_i r J;cases k;obtain⟨q1,ids,q2,q3⟩:=Vx hs B J (o:=o) u fun ids M hm=>hid (pO _ (by rw[M]; exact hm));rw[q1];refine⟨rfl,?_⟩;rw[q2,q3,O,O]
 simp only[aj.c8]at k;split at k
 ·rename_i e
  have e:=bt e;subst e;split at k
  ·rename_i r J
   cases k;subst N;exact⟨hb,Vz V hc J⟩
  ·exact h.W _ as H b v H' k N
 ·exact h.W g as H b v H' k N
 simp only[aj.c8]at k q;split at k
 ·rename_i e
  rw[e]at q;simp only[]at q;split at k
  ·rename_i r J
   cases k;exact VA J u fun ids M hm=>q (pO _ (by rw[M]; exact hm))
  ·exact h.C g as H b v H' k A (fun hm=>q (vS _ hm)) u
 ·rename_i e
  rw[e]at q;exact h.C g as H b v H' k A q u
end Go.AL

namespace Go.AL
open Go
variable [Dr]
def aw{β:Type}(t:Option (List G))(k:List G→Option β):Option β:=bif t.isSome then k (t.getD []) else none
def ix{β:Type}(b:Bool)(t:Option (List G))(k:List G→Option β):Option β:=bif b then k (t.getD []) else none
def aO{β:Type}(b:Bool)(r:Option (Nat × List G))(k:Nat→List G→Option β):Option β:=bif (b&&r.isSome) then k (Cg r) (Ch r) else none
def VB:Kd→G→G
 |.int _,g=>.i g.int
 |.str,g=>.s g.str
 |.bool,g=>.t g.bool
 |.list _,g=>.l g.rows
def aI:List Kd→List G→List G
 | [],_=>[]
 |k::ks,r=>VB k (r.headD default)::aI ks r.tail
def aj.eh(τ:aj)(d:List FuncId):aj:={ τ with pf:=fun g=>match d.any (fun x=>ad x g)with
 |true=>false
 |false=>τ.pf g }
def aj.gY(τ:aj)(d:List FuncId):aj:={ τ with pf:=fun g=>match d.any (fun x=>ad x g)with
 |true=>true
 |false=>τ.pf g }
theorem ak.gY{P:Program}{τ:aj}(h:ak P τ)(d:List FuncId):ak P (τ.gY d):=⟨h.T,h.W,h.C,h.I,h.F⟩
theorem ak.eh{P:Program}{τ:aj}(h:ak P τ)(d:List FuncId):ak P (τ.eh d):=⟨h.T,h.W,h.C,h.I,h.F⟩
theorem VC{β:Type}{t:Option (List G)}{k:List G→Option β}{g:List G}(h:t=some g):aw t k=k g:=by subst h; rfl
inductive iy (st:List G→Option (Option Nat × List G)):Nat→List G→Nat→List G→Prop
 |stop {d d':List G} {x:Nat} (h:st d=some (some x,d')):iy st 1 d x d'
 |next {d d1 d':List G} {x n:Nat} (h:st d=some (none,d1)) (h':iy st n d1 x d'):iy st (n+1) d x d'
theorem iy.iter{st:List G→Option (Option Nat × List G)}{n:Nat}{d d':List G}{x:Nat}(h:iy st n d x d'):∀ m,n≤m→oV st m d=some (x,d'):=by
 induction h with
 | stop h =>
  intro m hm;cases m with
  |zero=>omega
  |succ m=>simp only[oV,h]
 | next h _ g =>
  intro m hm;cases m with
  |zero=>omega
  |succ m=>simp only[oV,h]; exact g m (by omega)
theorem iy.VD{st:List G→Option (Option Nat × List G)}{n:Nat}{d d':List G}{x:Nat}(h:iy st n d x d')(g:n≤1000000):bQ st d=some (x,d'):=h.iter _ g
end Go.AL

namespace Go.AL
open Go
variable [Dr]
inductive Hint where
 |freeze (slot:Nat)
 |Ko (slot:Nat) (ks:List Kd)
 |Kp (slot c:Nat) (ks:List Kd)
 |xM (slot:Nat)
 |Kq (slot c:Nat)
 |hole (ks:List Kd)
 |qU
 |aH (slot l:Nat)
 |xN (slot:Nat)
 |mm (slot l:Nat) (KI VI:Ct)
 |qV (slot c l:Nat) (KI VI:Ct)
 |forget (id:Nat)
 |Kr (slot c:Nat) (ks:List Kd)
def xO(slot:Nat)(s:ar):Bool × ar :=
 match s.fr.getD slot .undef with
 | .vec w id ae off n=>match s.H[id]? with
  |some (.vec ks v rows)=>if ae=v∧off=0∧w=ks.length then (ad n rows.length,⟨s.fr.set slot (.listF ks rows),s.H.set id (.raw .dead)⟩) else (true,s)
  |_=>(true,s)
 |_=>(true,s)
def Cp(slot c:Nat)(ks:List Kd)(s:ar):Bool × ar :=
 match s.fr.getD slot .undef with
 | .ptr id _ _ _ _=>match s.H[id]? with
  | some (.raw (.box cells))=>match cells[c]? with
   | some a=>match isNil a with
    |true=>(true,⟨s.fr,s.H.set id (.raw (.box (cells.set c (.vec ks.length s.H.length 0 0 0))))++[.vec ks 0 []]⟩)
    |false=>(true,s)
   |none=>(true,s)
  |_=>(true,s)
 |_=>(true,s)
def xP(slot c:Nat)(s:ar):Bool × ar :=
 match s.fr.getD slot .undef with
 | .ptr id _ _ _ _=>match s.H[id]? with
  | some (.raw (.box cells))=>match cells[c]? with
   | some (.vec w d ae off n)=>match s.H[d]? with
    |some (.vec ks v rows)=>if ae=v∧off=0∧w=ks.length then (ad n rows.length,⟨s.fr,(s.H.set d (.raw .dead)).set id (.raw (.box (cells.set c (.listF ks rows))))⟩) else (true,s)
    |_=>(true,s)
   |_=>(true,s)
  |_=>(true,s)
 |_=>(true,s)
def xQ(slot:Nat)(s:ar):Bool × ar :=
 match s.fr.getD slot .undef with
 | .vec w id ae off n=>match s.H[id]? with
  |some (.vec ks v rows)=>if ae=v∧off=0∧w=ks.length then (dH n rows.length,⟨s.fr.set slot (.vec w id (v+1) 0 n),s.H.set id (.vec ks (v+1) (rows.take n))⟩) else (true,s)
  |_=>(true,s)
 |_=>(true,s)
def xR(slot l:Nat)(s:ar):Bool × ar :=
 match s.fr.getD slot .undef with
 | .map id=>match s.H[id]? with
  |some (.map K (.one (.list ks)) [] cl)=>(lS (ao s.H) l,⟨s.fr,s.H.set id (.aH l K ks [] cl)⟩)
  |_=>(true,s)
 |_=>(true,s)
def xS(rows:List (List G)):Bool:=rows.all fun r=>(gi r 3).bool
def xT(slot:Nat)(s:ar):Bool × ar :=
 match s.fr.getD slot .undef with
 | .map id=>match s.H[id]? with
  |some (.aH _ K ks rows cl)=>(xS rows,⟨s.fr,s.H.set id (.map K (.one (.list ks)) rows cl)⟩)
  |_=>(true,s)
 |_=>(true,s)
def xU(slot l:Nat)(KI VI:Ct)(s:ar):Bool × ar :=
 match s.fr.getD slot .undef with
 | .map id=>match s.H[id]? with
  |some (.map K _ [] cl)=>(lS (ao s.H) l,⟨s.fr,s.H.set id (.mm l K KI VI [] [] cl)⟩)
  |_=>(true,s)
 |_=>(true,s)
def xV(slot c l:Nat)(KI VI:Ct)(s:ar):Bool × ar :=
 match s.fr.getD slot .undef with
 | .ptr a _ _ _ _=>match s.H[a]? with
  | some (.raw (.box cells))=>match cells[c]? with
   | some (.map id)=>match s.H[id]? with
    |some (.map K _ rows cl)=>(qM (lS (ao s.H) l) rows.isEmpty,⟨s.fr,s.H.set id (.mm l K KI VI [] [] cl)⟩)
    |_=>(true,s)
   |_=>(true,s)
  |_=>(true,s)
 |_=>(true,s)
def Cq(id:Nat)(s:ar):Bool × ar :=
 match s.H[id]? with
 |some (.raw (.box _))=>(true,⟨s.fr,s.H.set id (.vec [] 1 [])⟩)
 |some (.map ..)=>(true,⟨s.fr,s.H.set id (.vec [] 1 [])⟩)
 |some (.mm ..)=>(true,⟨s.fr,s.H.set id (.vec [] 1 [])⟩)
 |_=>(true,s)
def Cr(slot c:Nat)(ks:List Kd)(s:ar):Bool × ar :=
 match s.fr.getD slot .undef with
 | .ptr id _ _ _ _=>match s.H[id]? with
  | some (.raw (.box cells))=>match cells[c]? with
   | some (.list w rows)=>match bx ks rows with
    |some gs=>if w=ks.length then (true,⟨s.fr,s.H.set id (.raw (.box (cells.set c (.listF ks gs))))⟩) else (true,s)
    |none=>(true,s)
   |_=>(true,s)
  |_=>(true,s)
 |_=>(true,s)
def xW:Hint→ar→Bool × ar
 |.freeze i,s=>xO i s
 | .Ko i ks,s=>match isNil (s.fr.getD i .undef) with
  |true=>(true,tW i ks s)
  |false=>(true,s)
 |.Kp i c ks,s=>Cp i c ks s
 |.xM i,s=>xQ i s
 |.Kq i c,s=>xP i c s
 |.hole ks,s=>(true,⟨s.fr,s.H++[.vec ks 0 []]⟩)
 |.qU,s=>(true,⟨s.fr,s.H++[.raw .dI]⟩)
 |.aH i l,s=>xR i l s
 |.xN i,s=>xT i s
 |.mm i l KI VI,s=>xU i l KI VI s
 |.qV i c l KI VI,s=>xV i c l KI VI s
 |.forget i,s=>Cq i s
 |.Kr i c ks,s=>Cr i c ks s
def uj:List Hint→ar→Bool × ar
 | [],s=>(true,s)
 | h::d,s=>match xW h s with
  | (b,s1)=>match uj d s1 with
   |(g,s2)=>(b&&g,s2)
theorem VE{m:Nat}{slot:Nat}{s:ar}(h:(xO slot s).1=true):bu m s.den (xO slot s).2.den:=by
 unfold xO at h⊢;split
 case h_2=>exact bu.refl _
 rename_i w id ae off n M;split
 case h_2=>exact bu.refl _
 rename_i ks v rows hid;split
 case isFalse=>exact bu.refl _
 rename_i y;obtain⟨rfl,rfl,rfl⟩:=y;simp only[M,hid,and_self,if_true]at h;have hn:=bt h;subst hn;intro E a d;have hH:E.H=ao s.H:=d.H;have hle:=Env.pW d.heap id;have V:=au.drop d.heap id fun o ho=>by
  rw[show E.H[id]? = some (.vec ks.length ae (rows.map (aJ ks))) by rw[hH]; exact bk hid]at ho;cases ho;rfl
 have I:ao (s.H.set id (.raw .dead))=E.H.set id .dead:=by rw[c7,hH]; rfl
 refine⟨E.loc.set id none,E.X,?_,?_⟩
 ·simp only [ar.den]
  rw[I];refine⟨rfl,?_,d.defers,V⟩;refine xD (du hle _ d.fr) fun c y=>?_;have u:=Ce d.fr y;rw[show s.den.fr=s.fr from rfl,M]at u;have J:E.H[id]? = some (.vec ks.length ae (rows.map (aJ ks))):=by rw[hH]; exact bk hid
  have ho:=d.heap.obj id _ J;rw[iC];simp only[rel]at u⊢;obtain⟨⟨base,cap,rfl,U,_⟩,_,B⟩:=u;obtain⟨q1,q2⟩:=B ⟨_,J,rfl⟩;have N:eQ (rows.map (aJ ks)):=by
   intro r u;obtain⟨g,_,rfl⟩:=dF.1 u;exact fy ks g
  refine⟨N,base,cap,by simp,by simpa using U,?_⟩;simp only[aN]at ho;rcases ho with⟨h1,O⟩|⟨b,mm,h1,O,B,_,h4⟩
  ·exact .inl O
  ·obtain ⟨g1, o, g2, g3⟩ := q2 b mm h1
   by_cases hm:rows=[]
   ·subst hm; exact .inl rfl
   ·right
    have:0<rows.length:=by cases rows with|nil=>exact(hm rfl).elim|cons _ _=>simp
    simp at B;have ho:=g2 (by omega);simp at ho;subst ho;simp only[jv]at g3;refine⟨b,0,g3.1,⟨(d.heap.lt id b mm h1).1,?_,(d.heap.lt id b mm h1).2⟩,ka hle.toC _ N rfl h4⟩;rintro(⟨j,c',q⟩|⟨l,k,c',q⟩)
    case inr=>exact d.heap.cN _ _ _ _ _ _ h1 q
    simp only[dN]at q;split at q
    ·split at q<;>cases q
    ·rename_i W
     exact W (d.heap.inj _ _ _ _ _ h1 q)
 ·simp only [ar.den]
  rw[I];exact hle.toM
theorem VF{m:Nat}{slot c:Nat}{ks:List Kd}{s:ar}:bu m s.den (Cp slot c ks s).2.den:=by
 unfold Cp;split
 case h_2=>exact bu.refl _
 rename_i id ae k row col hsl;split
 case h_2=>exact bu.refl _
 rename_i cells hid;split
 case h_2=>exact bu.refl _
 rename_i a0 ha0;split
 case h_2=>exact bu.refl _
 rename_i hnil;intro E a g;have hH:E.H=ao s.H:=g.H;have hlen:E.H.length=s.H.length:=by rw[hH,eg]
 have hle:E.le (E.push E.w (.vec ks.length 0 []) none):=Env.iY g.heap.len (Ext.refl _) (fun b n h=>by cases h);have hobj:aN (E.push E.w (.vec ks.length 0 []) none) E.H.length (.vec ks.length 0 []):=by
  simp only[aN,Env.push];refine .inl ⟨?_,trivial⟩;rw[ia (by rw[g.heap.len]; exact aG _),g.heap.len,mD];rfl
 have u:au (E.push E.w (.vec ks.length 0 []) none):=au.push g.heap (Ext.refl _) (fun b n h=>by cases h) hobj;generalize y:E.push E.w (.vec ks.length 0 []) none=d at hle u;have J:d.w=E.w:=by rw[←y]; rfl
 have M:d.X=E.X:=by rw[←y]; rfl
 have N:d.H=ao (s.H++[.vec ks 0 []]):=by rw[←y,gB,←hH]; rfl
 have V:id<s.H.length:=aK hid;have B:d.H[id]? = some (.box cells):=by
  rw[N];exact bk (H:=s.H++[.vec ks 0 []]) (o:=.raw (.box cells)) (by rw[cK V]; exact hid)
 have ho:=u.obj id _ B;simp only[aN]at ho;obtain⟨b,n,h1,h2,O⟩:=ho;have W:∀ v,(ab.box (cells.set c (.vec ks.length s.H.length 0 0 0))).aF = some v→(ab.box cells).aF = some v:=fun v U=>by simpa[ab.aF]using U
 have I:=Env.lR (o':=.box (cells.set c (.vec ks.length s.H.length 0 0 0))) (w':=d.w) u B h1 W rfl (fun _ _=>rfl);have hnew:d.H[s.H.length]? = some (.vec ks.length 0 []):=by
  rw[N];have e:(s.H++[ai.vec ks 0 []])[s.H.length]? = some (ai.vec ks 0 []):=by rw[ia (aG _),mD]; rfl
  exact bk e
 have hloc:d.loc[s.H.length]? = some none:=by
  rw[←y];simp only[Env.push];rw[ia (by rw[g.heap.len]; omega),g.heap.len,hlen,mD];rfl
 have hrel:∀ v,rel d a0 v→rel { w:=d.w,H:=d.H.set id (.box (cells.set c (.vec ks.length s.H.length 0 0 0))),loc:=d.loc,X:=d.X } (.vec ks.length s.H.length 0 0 0) v:=by
  intro v U;obtain⟨base,rfl⟩:=Jy hnil U;simp only[rel];have hne:id≠s.H.length:=by omega
  refine⟨⟨base,0,rfl,aG _,fun h=>absurd h (pQ _)⟩,⟨.vec ks.length 0 [],by rw[aT hne]; exact hnew,rfl,fun v h=>ef _⟩,fun _=>⟨fun _=>⟨trivial,trivial,base,rfl⟩,fun b m hb=>?_⟩⟩;rw[hloc]at hb;cases hb
 have hHR2:=au.set (w':=d.w) u B h1 W rfl (fun _ _=>rfl) (by
  simp only[aN];refine⟨b,n,h1,by simpa using h2,?_⟩;rw[ij]at O⊢;intro i x q;rw[dN]at q;split at q
  ·rename_i e
   subst e;split at q
   ·cases q
    obtain⟨v,g1,g2,g3⟩:=O c a0 ha0;exact⟨v,g1,g2,hrel v g3⟩
   ·cases q
  ·obtain ⟨v, g1, g2, g3⟩ := O i x q
   exact⟨v,g1,g2,bP I x g3⟩)
 have hden:ao (s.H.set id (.raw (.box (cells.set c (.vec ks.length s.H.length 0 0 0))))++[.vec ks 0 []])=d.H.set id (.box (cells.set c (.vec ks.length s.H.length 0 0 0))):=by
  rw[N,gB,gB,c7,GW _ _ (by rw[eg]; exact V)];rfl
 refine⟨d.loc,E.X,?_,?_⟩
 ·simp only [ar.den]
  rw[hden];rw[J,M]at hHR2;refine⟨rfl,?_,g.defers,hHR2⟩;have:=du I _ (du hle _ g.fr);rw[J,M]at this;exact this
 ·simp only [ar.den]
  rw[hden];have:=(hle.trans I).toM (m:=m);rw[J,M]at this;exact this
theorem VG{m:Nat}{slot c:Nat}{s:ar}(h:(xP slot c s).1=true):bu m s.den (xP slot c s).2.den:=by
 unfold xP at h⊢;split
 case h_2=>exact bu.refl _
 rename_i id ver0 k row col hsl;split
 case h_2=>exact bu.refl _
 rename_i cells hid;split
 case h_2=>exact bu.refl _
 rename_i w g ae off n U;split
 case h_2=>exact bu.refl _
 rename_i ks v rows M;split
 case isFalse=>exact bu.refl _
 rename_i hc;obtain⟨rfl,rfl,rfl⟩:=hc;simp only[hsl,hid,U,M,and_self,if_true]at h;have hn:=bt h;subst hn;intro E a q;have hH:E.H=ao s.H:=q.H;have hne:id≠g:=fun e=>by
  rw[e,M]at hid;cases hid
 have W:E.H[id]? = some (.box cells):=by rw[hH]; exact bk hid
 have V:E.H[g]? = some (.vec ks.length ae (rows.map (aJ ks))):=by rw[hH]; exact bk M
 obtain⟨b0,n0,k1,k2,k3⟩:=q.heap.obj id _ W;rw[ij]at k3;obtain⟨cv,c1,c2,c3⟩:=k3 c _ U;have hfr:=Im q.heap V c3;have hle:=Env.pW q.heap g;have I:=au.drop q.heap g fun o ho=>by
  rw[V]at ho;cases ho;rfl
 generalize y:({ w:=E.w,H:=E.H.set g .dead,loc:=E.loc.set g none,X:=E.X }:Env)=d at hle I hfr;have J:d.w=E.w:=by rw[←y]
 have O:d.X=E.X:=by rw[←y]
 have N:d.H[id]? = some (.box cells):=by
  rw[←y];show (E.H.set g .dead)[id]? = _
  rw[aT (Ne.symm hne)];exact W
 have hl1:d.loc[id]? = some (some (b0,n0)):=by
  rw[←y];show (E.loc.set g none)[id]? = _
  rw[aT (Ne.symm hne)];exact k1
 obtain⟨b,n,h1,h2,h3⟩:=I.obj id _ N;have hbb:b=b0:=by
  rw[hl1]at h1;cases h1;rfl
 subst hbb;have hver:∀ v,(ab.box (cells.set c (.listF ks rows))).aF = some v→(ab.box cells).aF = some v:=fun v hv=>by simpa[ab.aF]using hv
 have B:=Env.lR (o':=.box (cells.set c (.listF ks rows))) (w':=d.w) I N h1 hver rfl (fun _ _=>rfl);have hHR2:=au.set (w':=d.w) I N h1 hver rfl (fun _ _=>rfl) (by
  simp only[aN];refine⟨b,n,h1,by simpa using h2,?_⟩;rw[ij]at h3⊢;intro i x u;rw[dN]at u;split at u
  ·rename_i e
   subst e;split at u
   ·cases u
    refine⟨cv,by rw[show ({ w:=d.w,H:=_,loc:=d.loc,X:=d.X }:Env).w=E.w from J]; exact c1,c2,bP B _ hfr⟩
   ·cases u
  ·obtain ⟨v, g1, g2, g3⟩ := h3 i x u
   exact⟨v,g1,g2,bP B x g3⟩)
 have hden:ao ((s.H.set g (.raw .dead)).set id (.raw (.box (cells.set c (.listF ks rows)))))=d.H.set id (.box (cells.set c (.listF ks rows))):=by
  rw[c7,c7,←hH,←y];rfl
 refine⟨d.loc,E.X,?_,?_⟩
 ·simp only [ar.den]
  rw[hden];rw[J,O]at hHR2;refine⟨rfl,?_,q.defers,hHR2⟩;have:=du B _ (du hle _ q.fr);rw[J,O]at this;exact this
 ·simp only [ar.den]
  rw[hden];have:=(hle.trans B).toM (m:=m);rw[J,O]at this;exact this
theorem VH{m:Nat}{slot c:Nat}{ks:List Kd}{s:ar}:bu m s.den (Cr slot c ks s).2.den:=by
 unfold Cr;split
 case h_2=>exact bu.refl _
 rename_i id W k row col hsl;split
 case h_2=>exact bu.refl _
 rename_i cells hid;split
 case h_2=>exact bu.refl _
 rename_i w rows I;split
 case h_2=>exact bu.refl _
 rename_i gs M;split
 case isFalse=>exact bu.refl _
 rename_i hw;subst hw;intro E a d;have hH:E.H=ao s.H:=d.H;have q:E.H[id]? = some (.box cells):=by rw[hH]; exact bk hid
 obtain⟨b,n,h1,N,u⟩:=d.heap.obj id _ q;have y:∀ v,(ab.box (cells.set c (.listF ks gs))).aF = some v→(ab.box cells).aF = some v:=fun v O=>by simpa[ab.aF]using O
 have h:=Env.lR (o':=.box (cells.set c (.listF ks gs))) (w':=E.w) d.heap q h1 y rfl (fun _ _=>rfl);have J:=au.set (w':=E.w) d.heap q h1 y rfl (fun _ _=>rfl) (by
  simp only[aN];refine⟨b,n,h1,by simpa using N,?_⟩;rw[ij]at u⊢;intro i x g;rw[dN]at g;split at g
  ·rename_i e
   subst e;split at g
   ·cases g
    obtain⟨U,c1,c2,V⟩:=u c _ I;refine⟨U,c1,c2,bP h _ ?_⟩;rw[iC,oK M];exact V
   ·cases g
  ·obtain ⟨v, g1, g2, g3⟩ := u i x g
   exact⟨v,g1,g2,bP h x g3⟩)
 have B:ao (s.H.set id (.raw (.box (cells.set c (.listF ks gs)))))=E.H.set id (.box (cells.set c (.listF ks gs))):=by rw[c7,←hH]; rfl
 refine⟨E.loc,E.X,?_,?_⟩
 ·simp only [ar.den]
  rw[B];exact⟨rfl,du h _ d.fr,d.defers,J⟩
 ·simp only [ar.den]
  rw[B];exact h.toM
theorem VJ{m:Nat}{slot:Nat}{s:ar}(h:(xQ slot s).1=true):bu m s.den (xQ slot s).2.den:=by
 unfold xQ at h⊢;split
 case h_2=>exact bu.refl _
 rename_i w id ae off n N;split
 case h_2=>exact bu.refl _
 rename_i ks v rows hid;split
 case isFalse=>exact bu.refl _
 rename_i B;obtain⟨rfl,rfl,rfl⟩:=B;simp only[N,hid,and_self,if_true]at h;have hn:=sH h;intro E a d;have hH:E.H=ao s.H:=d.H;have y:E.H[id]? = some (.vec ks.length ae (rows.map (aJ ks))):=by rw[hH]; exact bk hid
 have ho:=d.heap.obj id _ y;obtain⟨l,I⟩:∃ l,E.loc[id]? = some l:=by
  have:id<E.loc.length:=by rw[d.heap.len]; exact aK y
  exact⟨_,bI this⟩
 have O:E.loc.set id l=E.loc:=kU I;have M:ao (s.H.set id (.vec ks (ae+1) (rows.take n)))=E.H.set id (.vec ks.length (ae+1) ((rows.take n).map (aJ ks))):=by rw[c7,hH]; rfl
 have hlc:∀ b n,l=some (b,n)→E.w.heap.size≤b∨∃ m,E.loc[id]? = some (some (b,m)):=fun b n hb=>.inr ⟨n,by rw[I,hb]⟩;have U:∀ v u,(ab.vec ks.length (ae+1) ((rows.take n).map (aJ ks))).aF = some v→(ab.vec ks.length ae (rows.map (aJ ks))).aF = some u→u≤v:=by
  intro v u h1 k;simp[ab.aF]at h1 k;omega
 have V:∀ v,(ab.vec ks.length (ae+1) ((rows.take n).map (aJ ks))).aF = some v→∀ u,(ab.vec ks.length ae (rows.map (aJ ks))).aF = some u→u<v:=by
  intro v h1 u k;simp[ab.aF]at h1 k;omega
 have hle:=Env.iZ (o':=.vec ks.length (ae+1) ((rows.take n).map (aJ ks))) (l:=l) (w':=E.w) y d.heap.len (aG _) (fun _ _ _=>rfl) hlc (.inr V) U (fun _ h=>by simp[ab.aF]at h);have W:=au.kf (o':=.vec ks.length (ae+1) ((rows.take n).map (aJ ks))) (l:=l) (w':=E.w) d.heap y (aG _) (fun _ _ _=>rfl) (fun b n hb=>.inr ⟨n,by rw[I,hb]⟩) (.inr V) U (fun _ h=>by simp[ab.aF]at h) (by
  rw[O]at hle⊢;simp only[aN]at ho⊢;rcases ho with⟨h1,k⟩|⟨b,mm,h1,k,J,h4,h5⟩
  ·left
   refine⟨h1,?_⟩;have:rows=[]:=by simpa using k
   rw[this];simp
  ·right
   refine⟨b,mm,h1,k,by simp at J⊢; omega,?_,?_⟩
   ·intro r q
    obtain⟨g,_,rfl⟩:=dF.1 q;exact fy ks g
   ·rw [kO] at h5 ⊢
    intro i r hi;simp only[bZ,lA]at hi;split at hi
    ·obtain ⟨g1, g2⟩ := h5 i r (by simpa using hi)
     exact⟨g1,sO (fun a c q=>bP hle a q) rfl g2⟩
    ·simp at hi)
 rw[O]at hle W;refine⟨E.loc,E.X,?_,?_⟩
 ·simp only [ar.den]
  rw[M];refine⟨rfl,?_,d.defers,W⟩;refine xD (du hle _ d.fr) fun c B=>?_;have q:=Ce d.fr B;rw[show s.den.fr=s.fr from rfl,N]at q;simp only[rel]at q⊢;obtain⟨h1,k,J⟩:=q;exact⟨h1,⟨.vec ks.length (ae+1) ((rows.take n).map (aJ ks)),bB (aK y),rfl,fun v hv=>by simp[ab.aF]at hv; omega⟩,fun _=>J ⟨_,y,rfl⟩⟩
 ·simp only [ar.den]
  rw[M];exact hle.toM
theorem VK{m:Nat}{ks:List Kd}{s:ar}:bu m s.den (ar.den ⟨s.fr,s.H++[.vec ks 0 []]⟩):=fun E a d=>by
 have hH:E.H=ao s.H:=d.H;have hle:E.le (E.push E.w (.vec ks.length 0 []) none):=Env.iY d.heap.len (Ext.refl _) (fun b n h=>by cases h);have k:aN (E.push E.w (.vec ks.length 0 []) none) E.H.length (.vec ks.length 0 []):=by
  simp only[aN,Env.push];refine .inl ⟨?_,trivial⟩;rw[ia (by rw[d.heap.len]; exact aG _),d.heap.len,mD];rfl
 have q:au (E.push E.w (.vec ks.length 0 []) none):=au.push d.heap (Ext.refl _) (fun b n h=>by cases h) k;have g:(ar.den ⟨s.fr,s.H++[.vec ks 0 []]⟩).H=E.H++[.vec ks.length 0 []]:=by
  rw[hH];simp[ar.den,ao,ai.den]
 refine⟨E.loc++[none],E.X,?_,?_⟩
 ·rw [g]
  exact⟨g.symm,du hle _ d.fr,d.defers,q⟩
 ·rw [g]
  exact hle.toM
theorem VL{m:Nat}{s:ar}:bu m s.den (ar.den ⟨s.fr,s.H++[.raw .dI]⟩):=fun E a d=>by
 have hH:E.H=ao s.H:=d.H;have hle:E.le (E.push E.w (.dI) none):=Env.iY d.heap.len (Ext.refl _) (fun b n h=>by cases h);have k:aN (E.push E.w (.dI) none) E.H.length (.dI):=by
  simp only[aN,Env.push];rw[ia (by rw[d.heap.len]; exact aG _),d.heap.len,mD];rfl
 have q:au (E.push E.w (.dI) none):=au.push d.heap (Ext.refl _) (fun b n h=>by cases h) k;have g:(ar.den ⟨s.fr,s.H++[.raw .dI]⟩).H=E.H++[.dI]:=by
  rw[hH];simp[ar.den,ao,ai.den]
 refine⟨E.loc++[none],E.X,?_,?_⟩
 ·rw [g]
  exact⟨g.symm,du hle _ d.fr,d.defers,q⟩
 ·rw [g]
  exact hle.toM
theorem VM{m:Nat}{slot l:Nat}{s:ar}(h:(xR slot l s).1=true):bu m s.den (xR slot l s).2.den:=by
 unfold xR at h⊢;split
 case h_2=>exact bu.refl _
 rename_i id u;split
 case h_2=>exact bu.refl _
 rename_i K ks cl hid;simp only[u,hid]at h;intro E a d;have hH:E.H=ao s.H:=d.H;have q:E.H[id]? = some (.map [] cl):=by rw[hH]; exact bk hid
 obtain⟨h1,k⟩:=S0 (w:=ks.length) d.heap q (by rw[hH]; exact h);have g:ao (s.H.set id (.aH l K ks [] cl))=E.H.set id (.aH l ks.length [] cl):=by rw[c7,hH]; rfl
 refine⟨E.loc,E.X,?_,?_⟩
 ·simp only [ar.den]
  rw[g];exact⟨rfl,du k _ d.fr,d.defers,h1⟩
 ·simp only [ar.den]
  rw[g];exact k.toM
theorem VN{m:Nat}{slot l:Nat}{KI VI:Ct}{s:ar}(h:(xU slot l KI VI s).1=true):bu m s.den (xU slot l KI VI s).2.den:=by
 unfold xU at h⊢;split
 case h_2=>exact bu.refl _
 rename_i id u;split
 case h_2=>exact bu.refl _
 rename_i K V cl hid;simp only[u,hid]at h;intro E a d;have hH:E.H=ao s.H:=d.H;have q:E.H[id]? = some (.map [] cl):=by rw[hH]; exact bk hid
 obtain⟨h1,k⟩:=Ie d.heap q (by rw[hH]; exact h);have g:ao (s.H.set id (.mm l K KI VI [] [] cl))=E.H.set id (.mm l [] [] cl):=by rw[c7,hH]; rfl
 refine⟨E.loc,E.X,?_,?_⟩
 ·simp only [ar.den]
  rw[g];exact⟨rfl,du k _ d.fr,d.defers,h1⟩
 ·simp only [ar.den]
  rw[g];exact k.toM
theorem VO{m:Nat}{slot c l:Nat}{KI VI:Ct}{s:ar}(h:(xV slot c l KI VI s).1=true):bu m s.den (xV slot c l KI VI s).2.den:=by
 unfold xV at h⊢;split
 case h_2=>exact bu.refl _
 rename_i a _ _ _ _ u;split
 case h_2=>exact bu.refl _
 rename_i cells v;split
 case h_2=>exact bu.refl _
 rename_i id y;split
 case h_2=>exact bu.refl _
 rename_i K V rows cl hid;simp only[u,v,y,hid,qN]at h;obtain⟨h,he⟩:=h;have he:rows=[]:=by cases rows with|nil=>rfl|cons _ _=>cases he
 subst he;intro E act d;have hH:E.H=ao s.H:=d.H;have q:E.H[id]? = some (.map [] cl):=by rw[hH]; exact bk hid
 obtain⟨h1,k⟩:=Ie d.heap q (by rw[hH]; exact h);have g:ao (s.H.set id (.mm l K KI VI [] [] cl))=E.H.set id (.mm l [] [] cl):=by rw[c7,hH]; rfl
 refine⟨E.loc,E.X,?_,?_⟩
 ·simp only [ar.den]
  rw[g];exact⟨rfl,du k _ d.fr,d.defers,h1⟩
 ·simp only [ar.den]
  rw[g];exact k.toM
theorem au.forget{E:Env}(H:au E){id l0:Nat}{o:ab}(hid:E.H[id]? = some o)(hlab:o.label=some l0)(W:o.aF = some 0) :
  au { w:=E.w,H:=E.H.set id (.vec 0 1 []),loc:=E.loc.set id none,X:=E.X.re (gN E.X.r l0) }∧E.le { w:=E.w,H:=E.H.set id (.vec 0 1 []),loc:=E.loc.set id none,X:=E.X.re (gN E.X.r l0) }:=by
 have I:=aK hid;have hltl:id<E.loc.length:=by rw[H.len]; exact I
 have J:∀(i:Nat) x,(E.H.set id (.vec 0 1 []))[i]? = some x→(i=id∧x=.vec 0 1 [])∨(i≠id∧E.H[i]? = some x):=fun i x hi=>by
  by_cases d:i=id
  ·subst d
   rw[bB I]at hi;cases hi;exact .inl ⟨rfl,rfl⟩
  ·rw [aT (Ne.symm d)] at hi
   exact .inr ⟨d,hi⟩
 have B:∀(i b m:Nat),(E.loc.set id none)[i]? = some (some (b,m))→i≠id∧E.loc[i]? = some (some (b,m)):=fun i b m hi=>by
  by_cases d:i=id
  ·subst d
   rw[bB hltl]at hi;cases hi
  ·rw [aT (Ne.symm d)] at hi
   exact⟨d,hi⟩
 have hle:E.le { w:=E.w,H:=E.H.set id (.vec 0 1 []),loc:=E.loc.set id none,X:=E.X.re (gN E.X.r l0) }:=by
  refine⟨fun i ae M=>?_,aG _,fun _ _ _=>rfl,fun b hb hno=>?_,fun i ae M u=>?_,⟨rfl,rfl⟩,fun l h hh=>?_,.refl _,fun i l x h1 g N=>?_⟩
  rotate_right
  ·by_cases d : i = id
   ·subst d
    obtain⟨y,q,O⟩:=N;rw[show (E.H.set i (.vec 0 1 []))[i]? = some (.vec 0 1 []) from bB I]at q;cases q;cases O
   ·have U : l ≠ l0 := fun U => d (H.uniq i id x o l h1 hid (ab.j9 g) (by rw [U]; exact hlab))
    exact⟨⟨[],by rw[cY]; exact if_neg U⟩,x,by simp only[]; rw[aT (Ne.symm d)]; exact h1,g⟩
  ·obtain ⟨x, h1, g⟩ := M
   by_cases d:i=id
   ·subst d
    rw[hid]at h1;cases h1;have:=g.2 0 W;exact⟨.vec 0 1 [],by simp only[]; rw[bB I],rfl,fun v N=>by cases N; omega⟩
   ·exact⟨x,by simp only[]; rw[aT (Ne.symm d)]; exact h1,g⟩
  ·rintro (⟨i, c, hi⟩ | ⟨l, h, m, hm⟩)
   ·exact hno (.inl ⟨i,c,(B i b c hi).2⟩)
   ·exact hno (.inr ⟨l,h,m,(im hm).1⟩)
  ·obtain ⟨x, h1, g⟩ := u
   rcases J i x h1 with⟨rfl,rfl⟩|⟨d,q⟩
   ·cases g
    obtain⟨y,q,O⟩:=M;rw[hid]at q;cases q;have:=O.2 0 W;omega
   ·exact⟨⟨x,q,g⟩,aT (Ne.symm d)⟩
  ·refine ⟨?_, fun y V => (im V).1⟩
   show h<(gN E.X.r l0 l).length
   rw[Ia];exact hh
 refine⟨⟨by simp[H.len],fun i j b m n hi hj=>H.inj i j b m n (B _ _ _ hi).2 (B _ _ _ hj).2,fun i b m hi=>H.lt i b m (B _ _ _ hi).2,H.X,fun i x hi=>?_,H.eR.bF hle.toC,fun l h l' h' b m n h1 g=>H.eu _ _ _ _ _ _ _ (im h1).1 (im g).1,fun i b m l h n hi hk=>H.cN _ _ _ _ _ _ (B _ _ _ hi).2 (im hk).1,fun l h b m hk=>H.cu _ _ _ _ (im hk).1,fun i k x y l hi hk h1 g=>?_,fun l hn h y V=>?_⟩,hle⟩
 ·rcases J i x hi with ⟨rfl, rfl⟩ | ⟨d, q⟩
  ·simp only [aN]
   exact .inl ⟨bB hltl,trivial⟩
  ·refine jz (fun a _ hr => bP hle a hr) (aT (Ne.symm d)) (fun _ _ _ => rfl) (fun l u => ?_) (H.obj i x q)
   have hne2:l≠l0:=fun e=>d (H.uniq i id x o l q hid u (by rw[hlab,e]));exact⟨if_neg hne2,fun _ _ _ _=>rfl⟩
 ·have key:∀ (i:Nat) x,(E.H.set id (.vec 0 1 []))[i]? = some x→x.label=some l→E.H[i]? = some x:=by
   intro i x hi u;rcases J i x hi with⟨rfl,rfl⟩|⟨d,q⟩
   ·cases u
   ·exact q
  exact H.uniq i k x y l (key i x hi h1) (key k y hk g) h1 g
 ·obtain ⟨g1, g2⟩ := im V
  refine H.fJ l (fun i x hi u=>?_) h y g1;by_cases e:i=id
  ·subst e
   rw[hid]at hi;cases hi;exact g2 (by rw[hlab]at u; cases u; rfl)
  ·exact hn i x (by show (E.H.set id (.vec 0 1 []))[i]? = _; rw[aT (Ne.symm e)]; exact hi) u
theorem au.VP{E:Env}(H:au E){id:Nat}{o:ab}(hid:E.H[id]? = some o)(hlab:o.label=none)(k:o.aF = some 0) :
  au { w:=E.w,H:=E.H.set id (.vec 0 1 []),loc:=E.loc.set id none,X:=E.X }∧E.le { w:=E.w,H:=E.H.set id (.vec 0 1 []),loc:=E.loc.set id none,X:=E.X }:=by
 have I:=aK hid;have B:id<E.loc.length:=by rw[H.len]; exact I
 have d:∀ v,(ab.vec 0 1 []).aF = some v→∀ u,o.aF = some u→u<v:=fun v g u hu=>by
  rw[k]at hu;cases hu;cases g;exact Nat.zero_lt_one
 have q:∀ v u,(ab.vec 0 1 []).aF = some v→o.aF = some u→u≤v:=fun v u g hu=>Nat.le_of_lt (d v g u hu);have y:o.born=true→o.aF = none→(ab.vec 0 1 []).aF = none:=fun _ h=>by rw[k]at h; cases h
 refine⟨au.kf H hid (aG _) (fun _ _ _=>rfl) (fun _ _ h=>by cases h) (.inr d) q y ?_ (hlab:=hlab),Env.iZ hid H.len (aG _) (fun _ _ _=>rfl) (fun _ _ h=>by cases h) (.inr d) q y (hmm:=.inl (ab.v7 hlab))⟩;simp only[aN];exact .inl ⟨bB B,trivial⟩
theorem VQ{m:Nat}{id:Nat}{s:ar}:bu m s.den (Cq id s).2.den:=by
 have h:∀ o:ai,s.H[id]? = some o→o.den.label=none→o.den.aF = some 0→bu m s.den (ar.den ⟨s.fr,s.H.set id (.vec [] 1 [])⟩):=fun o hid h1 k=>by
  intro E a d;have hH:E.H=ao s.H:=d.H;obtain⟨g1,g2⟩:=au.VP d.heap (by rw[hH]; exact bk hid) h1 k;have g:ao (s.H.set id (.vec [] 1 []))=E.H.set id (.vec 0 1 []):=by rw[c7,hH]; rfl
  refine⟨E.loc.set id none,E.X,?_,?_⟩
  ·simp only [ar.den]
   rw[g];exact⟨rfl,du g2 _ d.fr,d.defers,g1⟩
  ·simp only [ar.den]
   rw[g];exact g2.toM
 unfold Cq;split
 ·rename_i hid
  exact h _ hid rfl rfl
 ·rename_i hid
  exact h _ hid rfl rfl
 ·rename_i l K KI VI rows mem cl hid
  intro E a d;have hH:E.H=ao s.H:=d.H;obtain⟨g1,g2⟩:=au.forget (l0:=l) d.heap (by rw[hH]; exact bk hid) rfl rfl;have g:ao (s.H.set id (.vec [] 1 []))=E.H.set id (.vec 0 1 []):=by rw[c7,hH]; rfl
  refine⟨E.loc.set id none,E.X.re (gN E.X.r l),?_,?_⟩
  ·simp only [ar.den]
   rw[g];exact⟨rfl,du g2 _ d.fr,d.defers,g1⟩
  ·simp only [ar.den]
   rw[g];exact g2.toM
 ·exact bu.refl _
theorem VR{m:Nat}{slot:Nat}{s:ar}(h:(xT slot s).1=true):bu m s.den (xT slot s).2.den:=by
 unfold xT at h⊢;split
 case h_2=>exact bu.refl _
 rename_i id J;split
 case h_2=>exact bu.refl _
 rename_i l K ks rows cl hid;simp only[J,hid]at h;intro E a d;have hH:E.H=ao s.H:=d.H;have v:E.H[id]? = some (.aH l ks.length (fN K ks rows) cl):=by rw[hH]; exact bk hid
 have ho:=d.heap.obj id _ v;simp only[aN]at ho;obtain⟨b,n,ms,g1,g2,g3,hh,k1,U⟩:=ho;obtain⟨h1,B⟩:=au.SV (o':=.map (c9 K (.one (.list ks)) rows) cl) d.heap v rfl rfl rfl fun hle=>by
  simp only[aN];refine⟨b,n,ms,g1,g2,?_⟩;rw[dT]at g3⊢;obtain⟨V,W⟩:=g3;refine⟨by simpa[c9,cC,fN]using V,fun i x e q he=>?_⟩;unfold c9 at q;rw[bZ]at q;obtain⟨r,k,rfl⟩:=dM.1 q;have I:=tD (K:=K) (ks:=ks) k;have M:(gi r 3).bool=true:=cO.1 h r (eM k);obtain⟨a1,a2,a3,a4,a5⟩:=W i _ e (wL I) he;refine⟨bP hle _ a1,?_,a3,a4,rfl⟩;have N:=U i _ ((jI r).map (aJ ks)) e I (by simp only[jb,M,cond_true]) he;show rel _ (.listF ks (jI r)) e.val
  rw[iC];simp only[rel];have O:eQ ((jI r).map (aJ ks)):=by
   intro r k;obtain⟨g,_,rfl⟩:=dF.1 k;exact fy ks g
  refine⟨O,?_⟩;rcases N with⟨s1,base,s2⟩|⟨bb,mm,s1,s2,s3,s4,s5,s6⟩
  ·rw [s1]
   exact⟨base,0,s2,aG _,.inl rfl⟩
  ·refine ⟨_, mm, s2, s4, .inr ⟨bb, 0, rfl, ⟨(d.heap.cu _ _ _ _ s1).1, ?_, (d.heap.cu _ _ _ _ s1).2⟩, ke (fun a _ k => bP hle a k) rfl s6⟩⟩
   rintro(⟨j,c',u⟩|⟨l',k',c',u⟩)
   ·exact d.heap.cN _ _ _ _ _ _ u s1
   ·obtain ⟨j1, j2⟩ := im u
    exact j2 (d.heap.eu _ _ _ _ _ _ _ j1 s1).1
 have y:ao (s.H.set id (.map K (.one (.list ks)) rows cl))=E.H.set id (.map (c9 K (.one (.list ks)) rows) cl):=by rw[c7,hH]; rfl
 refine⟨E.loc,E.X.re (gN E.X.r l),?_,?_⟩
 ·simp only [ar.den]
  rw[y];exact⟨rfl,du B _ d.fr,d.defers,h1⟩
 ·simp only [ar.den]
  rw[y];exact B.toM
theorem VS{m:Nat}(h:Hint)(s:ar)(hb:(xW h s).1=true):bu m s.den (xW h s).2.den:=by
 cases h with
 |freeze i=>exact VE hb
 | Ko i ks =>
  simp only[xW];split
  ·rename_i h; exact Jz h
  ·exact bu.refl _
 |Kp i c ks=>exact VF
 |xM i=>exact VJ hb
 |Kq i c=>exact VG hb
 |hole ks=>exact VK
 |qU=>exact VL
 |aH i l=>exact VM hb
 |xN i=>exact VR hb
 |mm i l KI VI=>exact VN hb
 |qV i c l KI VI=>exact VO hb
 |forget i=>exact VQ
 |Kr i c ks=>exact VH
theorem Ks{m:Nat}:∀(d:List Hint) (s:ar),(uj d s).1=true→bu m s.den (uj d s).2.den
 | [],s,_=>bu.refl _
 | h::d,s,hb=>by
  simp only[uj]at hb⊢;simp only[aB]at hb;exact(VS h s hb.1).trans (Ks d _ hb.2)
def Kt:List (Nat × List Hint)→Nat→List Hint
 | [],_=>[]
 | (i,d)::l,id=>match ad id i with
  |true=>d
  |false=>Kt l id
def LT.jm(L:LT)(d:List (Nat × List Hint)):LT:=⟨L.loops,fun id s=>uj (Kt d id) s,L.tT⟩
theorem oZ{P:Program}{m:Nat}{c:Code}(d:List (Nat × List Hint)):ax P m (ay.jm d) c:=⟨fun _ _ _ _ _ h=>(nomatch h),fun id s hb=>Ks _ s hb,fun _ _ _ _ _ h=>(nomatch h)⟩
end Go.AL

namespace Go.AL
open Go
variable [Dr]
end Go.AL

namespace Go.AL
open Go Go.ChangeMaps
variable [Dr]
theorem bN.iO{s:St}{E:Env}{a:Act}(d:bN s E a)(t:Tmp){v:AV}{u:Value}(g:rel E v u):bN (s.put (some t) v s.H) E (a.put (some t) u) :=
 ⟨d.H,Io d.fr (Env.le.refl E) (some t) g,by rw[put_defers]; exact d.defers,d.heap⟩
theorem o9{m:Nat}{E E':Env}(h:E.di m E'):E.bF E' :=
 ⟨fun b hb=>⟨⟨Nat.lt_of_lt_of_le hb.1 h.size,h.own b hb.1 hb.2.1,fun d=>hb.2.2 ((h.X b hb.1).1.1 d)⟩,h.same b hb.1 hb.2.1⟩⟩
theorem jP{P:Program}{ops:Array Oper}{Q:Exit→Act→World→Prop}{i:Nat}{o:Oper}{K:Act→World→Prop}{a:Act}{w w':World}{u:Value}
  (hi:ops[i]? = some o) (g:o.guard=none) (h:(execOp a.eval o).run P w=.ok (.value u) w') (d:∀ c,o.op≠.defer c) (ro:Option Nat) (k:K (a.put o.dst u) w'):wpOpIn (fz ro) 0 P ops Q i K a w:=by
 unfold wpOpIn;simp only[hi];rw[if_pos (by simp[Region.wanted,g])];unfold Oper.wpIn;rw[Oper.semAt_eq _ _ _ d,h];exact⟨fun _ _=>trivial,k⟩
theorem xX{P:Program}{pf:FuncId→Bool}{ops:Array Oper}{Q:Exit→Act→World→Prop}(ro:Option Nat):∀(l:List Oper) (k:Nat) (s s':St) (E:Env) (a:Act) (rest:List Nat),
  (∀(j:Nat) (o:Oper),l[j]? = some o→ops[k+j]? = some o)→fD P pf ops l s s'→bN s E a→(∀ d w',eI E s' d w'→wpOpsIn (fz ro) 0 P ops Q rest d w')→wpOpsIn (fz ro) 0 P ops Q (sC k l.length++rest) a E.w
 | [],k,s,s',E,a,rest,_,h,g,q=>by
  simp only[fD]at h;subst h;exact q _ _ (eI.refl g)
 | o::l,k,s,s',E,a,rest,u,h,g,q=>by
  obtain⟨v,H',J,y⟩:=h;simp only[cB,GO,lC];rw[wpOpsIn_cons];refine Bc g (by simpa using u 0 o rfl) J (fun d w' M=>?_) ro;obtain⟨B,r',h1,N⟩:=M;refine xX ro l (k+1) _ s' { w:=w',H:=H',loc:=B,X:=E.X.re r' } d rest (fun j x O=>?_) y h1 (fun a2 U I=>q a2 U (eI.after N I));have:=u (j+1) x (by simpa using O)
  rwa [show k+1+j=k+(j+1) from by omega]
theorem nD{a:Act}{t:Tmp}{u:Value}(h:t<a.tmps.size):(a.put (some t) u).eval (.tmp t)=u:=by
 simp[Act.eval,vN,h]
def Tree.jQ:Tree→Option (bS × ar)
 |.fail=>none
 |.done x s=>some (x,s)
 | .ask b t e=>match b with
  |true=>t.jQ
  |false=>e.jQ
 | .side b t=>match b with
  |true=>t.jQ
  |false=>none
theorem uk:∀{t:Tree} {x:bS} {s:ar},t.jQ=some (x,s)→t.holds fun d s'=>d=x∧s'=s
 |.fail,_,_,h=>by cases h
 | .done _ _,_,_,h=>by
  cases h;exact⟨rfl,rfl⟩
 | .ask b t e,_,_,h=>by
  cases b with
  |true=>exact⟨fun _=>uk (t:=t) h,fun h=>(nomatch h)⟩
  |false=>exact⟨fun h=>(nomatch h),fun _=>uk (t:=e) h⟩
 | .side b t,_,_,h=>by
  cases b with
  |true=>exact⟨rfl,uk (t:=t) h⟩
  |false=>cases h
def cJ(st:List G→List G→Option (List G))(ba:List G→Nat):List (List G)→List G→Option (List G)
 | [],d=>some d
 | r::rs,d=>match st r d with
  |some d'=>bif ad (ba d') (ba d) then cJ st ba rs d' else none
  |none=>none
theorem um{st:List G→List G→Option (List G)}{ba:List G→Nat}:∀(p q:List (List G)) (d:List G),cJ st ba (p++q) d=(cJ st ba p d).bind (cJ st ba q)
 | [],_,_=>rfl
 | r::p,q,d=>by
  simp only[lC,cJ];cases st r d with
  |none=>rfl
  | some d' =>
   simp only[];cases ad (ba d') (ba d)with
   |false=>rfl
   |true=>exact um p q d'
def cV(r:List G):Nat:=(gi r 2).int.toNat
theorem xY{f:List G→Nat}{r:List G}:∀{l:List (List G)} {seen:Array Nat},(l.map f).Nodup→r∈l→seen.contains (f r)=false →
  (l.filter fun x => !seen.contains (f x)).Perm (r::l.filter fun x => !(seen.push (f r)).contains (f x))
 | [],_,_,h,_=>by cases h
 | x::l,seen,d,hm,g=>by
  obtain⟨k,d⟩:=lI.1 d;rcases bV.1 hm with rfl|hm
  ·have e:(l.filter fun x => !(seen.push (f r)).contains (f x))=l.filter fun x => !seen.contains (f x):=by
    apply List.filter_congr;intro y v;have:(f y==f r)=false:=by
     rw[beq_eq_false_iff_ne];intro e;exact k (e▸dF.2 ⟨y,v,rfl⟩)
    rw[contains_push,this,G1]
   rw[List.filter_cons_of_pos (by rw[g]; rfl),List.filter_cons_of_neg (by rw[contains_push]; simp),e]
  ·have u:(f x==f r)=false:=by
    rw[beq_eq_false_iff_ne];intro e;exact k (e▸dF.2 ⟨r,hm,rfl⟩)
   have q:=xY d hm g;simp only[List.filter_cons,contains_push seen (f r) (f x),u,G1];cases seen.contains (f x)with
   |true=>simpa using q
   | false =>
    simp only[Bool.not_false,if_true];exact(List.Perm.cons x q).trans (List.Perm.swap r x _)
structure fp where
 inv:l8
 ps:List jk
 opens:List (Nat × List Kd)
 K:Ct
 V:Ct
 id:Nat
 x:Tmp
 y:Tmp
 it:Tmp
 t1:Tmp
 t2:Tmp
 t3:Tmp
 ba:List G→Nat
 init:List G→Nat→List G
 side:List G→Nat→Bool
 st:List G→List G→Option (List G)
def fp.rs(sp:fp)(r d:List G):ar:=⟨(aQ sp.inv d).fr.set sp.t3 (.tuple [sp.K.av (gi r 0).row,sp.V.av (gi r 1).row]),(aQ sp.inv d).H⟩
def fp.s2(sp:fp)(s:ar)(b:Nat):ar:=⟨s.fr.set sp.it (.lit (.pointer (some ⟨b,0,none⟩))),s.H.set sp.id (.raw .dead)⟩
def xZ(m:Nat)(inv:l8)(ps:List jk)(x:bS)(s:ar):Option (Bool × List G) :=
 match x with
 |.normal=>gW m inv ps s
 |_=>none
structure l_ (P:Program) (sp:fp) (bh bR bA:Array Oper):Prop where
 r0:∃ o2 ty,bh.toList=bh.toList.dropLast++[o2]∧o2.guard=none∧o2.op=.range ty (.tmp sp.y)∧o2.dst=some sp.it∧(cW P ty).isSome=true
 r1:∃ o1 o2,bR.toList=[o1,o2]∧o1.guard=none∧o1.op=.next (.tmp sp.it) false∧o1.dst=some sp.t1∧o2.guard=none∧o2.op=.extract (.tmp sp.t1) 0∧o2.dst=some sp.t2
 r2:∃ o1 l,bA.toList=o1::l∧o1.guard=none∧o1.op=.entry (.tmp sp.it)∧o1.dst=some sp.t3
def kD(r0 b0 r1 b1 r2:Nat)(bh bR bA:Array Oper)(t2:Tmp)(body:Code):Code :=
 .seq (.region r0 bh false) (.block b0 (.loop (.seq (.region r1 bR false) (.seq (.cond (.tmp t2) .skip (.exit b0)) (.block b1 (.seq (.region r2 bA false) body))))))
theorem Ku{ro:Option Nat}{r0 b0 r1 b1 r2:Nat}{bh bR bA:Array Oper}{t2:Tmp}{body:Code}(h:ew ro (kD r0 b0 r1 b1 r2 bh bR bA t2 body)):ew ro body:=h.imp id fun h=>by
 simpa[kD,fE]using h
section range
variable {P:Program} {τ:aj} {L:LT} {m:Nat} {sp:fp} {bh bR bA:Array Oper} {body:Code}
def jn(P:Program)(τ:aj)(L:LT)(m:Nat)(sp:fp)(bA:Array Oper)(body:Code):Prop :=
 ∀ r d,(k0 P τ bA (bA.toList.drop 1) (sp.rs r d) (fun s=>dW P τ L body s .done)).leaf (xZ m sp.inv sp.ps)=sp.st r d
theorem Kv(hm:P.follows .mixedOrders=true)(q:ak P τ)(u:ax P m L body)(v:jn P τ L m sp bA body){r d d':List G}(h:sp.st r d=some d') :
  ∃ k:ar,fD P τ.pf bA (bA.toList.drop 1) (sp.rs r d).den k.den∧cU P m body k.den .normal (aQ sp.inv d').den:=by
 rw[←v r d]at h;obtain⟨k,h1,y⟩:=xo q (Q:=fun x s=>xZ m sp.inv sp.ps x s=some (true,d')) (nu h);obtain⟨x,B,I,g⟩:=gC hm q body k .done u y;have g:xZ m sp.inv sp.ps x B=some (true,d'):=g;unfold xZ at g;split at g
 ·exact⟨k,h1,qo I (k9 g)⟩
 ·cases g
def Kw(m:Nat)(sp:fp)(E:Env)(rows:List (List G))(d0:List G)(itb mb clock:Nat)(ms:Array MapEntry)(a:Act)(w:World):Prop :=
 ∃(d:List G) (loc:List (Option (Nat × Nat))) (X:XS) (seen:Array Nat) (last:Nat) (p:List (List G)),
  cJ sp.st sp.ba p d0=some d∧sp.ba d=itb∧(p++rows.filter fun x => !seen.contains (cV x)).Perm rows ∧
  bN (aQ sp.inv d).den { w:=w,H:=(aQ sp.inv d).den.H,loc:=loc,X:=X } a∧E.di m { w:=w,H:=(aQ sp.inv d).den.H,loc:=loc,X:=X }∧X itb ∧
  w.heap[itb]? = some (.mapIter (some mb) clock seen last)∧clock≤last∧w.heap[mb]? = some (.map ms clock) ∧
  ¬ Env.own { w:=w,H:=(aQ sp.inv d).den.H,loc:=loc,X:=X } mb∧bC { w:=w,H:=(aQ sp.inv d).den.H,loc:=loc,X:=X } (c9 sp.K sp.V rows) ms.toList
theorem bN.nE{s:St}{E:Env}{a:Act}(d:bN s E a){t:Tmp}(hu:s.fr[t]? = some .undef)(u:Value):bN s E (a.put (some t) u):=by
 have h:=d.iO t (v:=.undef) (u:=u) (by simp[rel]);have e:s.put (some t) .undef s.H=s:=by
  simp only[St.put,iG,kU hu]
 rwa [e]at h
theorem x8{s:St}{E:Env}{a:Act}(g:bN s E a){t:Tmp}{v:AV}(hu:s.fr[t]? = some v):t<a.tmps.size:=by
 have h1:s.fr.length=a.tmps.size:=by simpa using(lL.1 g.fr).1
 have d:t<s.fr.length:=aK hu;rw[h1]at d;exact d
theorem x9{o:Oper}{t:Tmp}{a:Act}{w:World}{cs:Array Value}{u:Value}(d:o.op=.extract (.tmp t) 0)(g:a.eval (.tmp t)=.tuple cs)(h:cs[0]? = some u) :
  (execOp a.eval o).run P w=.ok (.value u) w:=by
 obtain⟨dst,op,type,pos,after,guard⟩:=o;subst d;exact jE (by simp[Instr.extract,g,h])
theorem x_{o:Oper}{t:Tmp}{a:Act}{w w':World}{x u:Value}(d:o.op=.next (.tmp t) false)(g:a.eval (.tmp t)=x)(h:(Instr.next x false o.type).run P w=.ok u w') :
  (execOp a.eval o).run P w=.ok (.value u) w':=by
 obtain⟨dst,op,type,pos,after,guard⟩:=o;subst d;subst g;exact jE h
theorem Kx{o:Oper}{t:Tmp}{a:Act}{w w':World}{x u:Value}(d:o.op=.entry (.tmp t))(g:a.eval (.tmp t)=x)(h:(Instr.entry x).run P w=.ok u w') :
  (execOp a.eval o).run P w=.ok (.value u) w':=by
 obtain⟨dst,op,type,pos,after,guard⟩:=o;subst d;subst g;exact jE h
theorem Ky{o:Oper}{t:Tmp}{ty:TypeId}{a:Act}{w w':World}{x u:Value}(d:o.op=.range ty (.tmp t))(g:a.eval (.tmp t)=x)(h:(Instr.range ty x).run P w=.ok u w') :
  (execOp a.eval o).run P w=.ok (.value u) w':=by
 obtain⟨dst,op,type,pos,after,guard⟩:=o;subst d;subst g;exact jE h
theorem qW{w:World}{b:Nat}{o:Obj}(h:w.heap[b]? = some o):b<w.heap.size:=(Array.getElem?_eq_some_iff.1 h).1
theorem ya{w:World}{r:Nat}{a:Option Nat}{b c:Nat}{s:Array Nat}(h:w.heap[r]? = some (.mapIter a b s c)):w.iterSeen r=s:=by
 unfold World.iterSeen;rw[h]
theorem VT(hm:P.follows .mixedOrders=true)(ht:ak P τ)(hL:ax P m L body)(hr:jn P τ L m sp bA body)(ho:l_ P sp bh bR bA)
  (hu1:∀ d,(aQ sp.inv d).fr[sp.t1]? = some .undef) (hu2:∀ d,(aQ sp.inv d).fr[sp.t2]? = some .undef) (hut:∀ d,(aQ sp.inv d).fr[sp.it]? = some (.lit (.pointer (some ⟨sp.ba d,0,none⟩))))
  {E:Env} {rows:List (List G)} {d0:List G} {itb mb clock:Nat} {ms:Array MapEntry} {r1 b0 b1 r2:Nat}
  (hsz:E.w.heap.size≤itb) (hn:(rows.map cV).Nodup) (hlt:∀ r∈rows,cV r<clock) (hne:mb≠itb)
  (hfold:∀ p,p.Perm rows→(cJ sp.st sp.ba p d0).isSome=true) {a:Act} {w:World} (hI:Kw m sp E rows d0 itb mb clock ms a w) (ro:Option Nat) (hro:ew ro body) :
  (Code.loop (.seq (.region r1 bR false) (.seq (.cond (.tmp sp.t2) .skip (.exit b0)) (.block b1 (.seq (.region r2 bA false) body))))).wpIn (fz ro) 0 P
   (fun e a1 J=>e=.exit b0∧∃ p d,p.Perm rows∧cJ sp.st sp.ba p d0=some d∧dw m E (aQ sp.inv d).den a1 J) a w:=by
 obtain⟨o1,o2,e1,g1,p1,q1,g2,W,q2⟩:=ho.r1;obtain⟨o3,l,e3,g3,p3,q3⟩:=ho.r2;refine wpIn_loop (Kw m sp E rows d0 itb mb clock ms) (fun _ w=>(leftOf ms (w.iterSeen itb)).size) hI fun a w hI=>?_;obtain⟨d,loc,X,seen,last,p,hf,had,hp,q,hle,hXi,hit,hcl,hmb,hown,hre⟩:=hI;have h10:bR[0]? = some o1:=by
  have:bR.toList[0]? = some o1:=by rw[e1]; rfl
  simpa using this
 have h11:bR[1]? = some o2:=by
  have:bR.toList[1]? = some o2:=by rw[e1]; rfl
  simpa using this
 have hsz1:bR.size=2:=by
  have:bR.toList.length=2:=by rw[e1]; rfl
  simpa using this
 have hiv:a.eval (.tmp sp.it)=.pointer (some ⟨itb,0,none⟩):=by
  have h:=q.eval (.tmp sp.it);have e:(aQ sp.inv d).den.eval (.tmp sp.it)=.lit (.pointer (some ⟨sp.ba d,0,none⟩)):=by
   show (aQ sp.inv d).fr.getD sp.it .undef=_
   rw[ch,hut d];rfl
  rw[e]at h;simp only[rel]at h;rw[h,had]
 obtain⟨hlen,hen⟩:=dT.1 hre;have hl1:(c9 sp.K sp.V rows).length=rows.length:=by simp[c9]
 have M:∀(i:Nat) (e:MapEntry),ms.toList[i]? = some e→∃ r,rows[i]? = some r∧e.born=cV r:=by
  intro i e hi;have h1:=aK hi;have k:i<rows.length:=by omega
  refine⟨rows[i],bI k,?_⟩;exact(hen i (sp.K.av (gi rows[i] 0).row,sp.V.av (gi rows[i] 1).row,(gi rows[i] 2).int.toNat) e (by simp[c9,k]) hi).2.2.1
 have hold:∀ x∈ms.toList,x.born<clock:=by
  intro x y;obtain⟨i,hi⟩:=mB y;obtain⟨r,h1,k⟩:=M i x hi;rw[k];exact hlt r (eM h1)
 have hbn:(ms.toList.map (·.born)).Nodup:=by
  have:ms.toList.map (·.born)=rows.map cV:=by
   apply List.ext_getElem?;intro i;simp only[bZ];cases hi:ms.toList[i]? with
   | none =>
    have h1:=List.getElem?_eq_none_iff.1 hi;rw[List.getElem?_eq_none (by omega)];rfl
   | some e =>
    obtain⟨r,h1,k⟩:=M i e hi;rw[h1];simp[k]
  rw[this];exact hn
 refine wpIn_seq (wpIn_region ?_);rw[hsz1];show wpOpsIn (fz ro) 0 P bR _ [0,1] a w
 rw[wpOpsIn_cons];have hlt1:=x8 q (hu1 d);have hlt2:=x8 q (hu2 d);rcases run_next_at (P:=P) w o1.type itb mb clock last seen ms clock hit hmb hold hcl with⟨h0,hrun⟩|⟨e,he,J,hw1,hrun⟩
 ·refine jP h10 g1 (x_ p1 hiv hrun) (fun c e => by rw [p1] at e; cases e) ro ?_
  rw[q1,wpOpsIn_cons];refine jP h11 g2 (x9 W (nD hlt1) rfl) (fun c e=>by rw[W]at e; cases e) ro ?_;rw[q2];show (Code.seq _ _).wpIn (fz ro) 0 P _ _ w
  refine wpIn_seq (wpIn_cond_false (nD (by simpa[vN]using hlt2)) (wpIn_exit ?_));refine⟨rfl,p,d,?_,hf,loc,X,?_,hle⟩
  ·have:(rows.filter fun x => !seen.contains (cV x))=[]:=by
    rw[List.filter_eq_nil_iff];intro x y hc;obtain⟨i,hi⟩:=mB y;have h1:=aK hi;have k:i<ms.toList.length:=by omega
    obtain⟨r,h3,h4⟩:=M i _ (bI k);rw[hi]at h3;cases h3;have:ms.toList[i]∈(leftOf ms seen).toList:=by
     unfold leftOf;rw[Array.toList_filter];refine z7.2 ⟨kN k,?_⟩;rw[h4];exact hc
    have h5:(leftOf ms seen).toList.length=0:=by simpa using h0
    rw[List.length_eq_zero_iff.1 h5]at this;cases this
   rwa [this,cY]at hp
  ·exact(q.nE (hu1 d) (.tuple #[.bool false])).nE (hu2 d) (.bool false)
 ·refine jP h10 g1 (x_ p1 hiv hrun) (fun c e => by rw [p1] at e; cases e) ro ?_
  rw[q1,wpOpsIn_cons];refine jP h11 g2 (x9 W (nD hlt1) rfl) (fun c e=>by rw[W]at e; cases e) ro ?_;rw[q2];show (Code.seq _ _).wpIn (fz ro) 0 P _ _ _
  refine wpIn_seq (wpIn_cond_true (nD (by simpa[vN]using hlt2)) (wpIn_skip ?_));show (Code.block _ _).wpIn (fz ro) 0 P _ _ _
  refine wpIn_block (wpIn_seq (wpIn_region ?_));generalize U:setBlock J itb (.mapIter (some mb) clock (seen.push e.born) clock)=g;have O:J.heap=w.heap:=by rcases hw1 with rfl|rfl<;>rfl
  have hos:dJ w g:=by rw[←U]; rcases hw1 with rfl|rfl<;>exact⟨rfl,rfl,rfl,by first|exact fun _=>aG _|exact fun _=>eL _ _⟩
  have hit2':g.heap[itb]? = some (.mapIter (some mb) clock (seen.push e.born) clock):=by
   rw[←U];exact(G3 (by rw[O]; exact hit)).1
  have N:∀ b,b≠itb→g.heap[b]? = w.heap[b]? := by
   intro b hb;rw[←U];show (J.heap.setIfInBounds itb _)[b]? = _
   rw[(G3 (by rw[O]; exact hit)).2 b hb,O]
  have hsize:g.heap.size=w.heap.size:=by
   rw[←U];show (J.heap.setIfInBounds itb _).size=_
   simp[O]
  have hmb2:g.heap[mb]? = some (.map ms clock):=by rw[N mb hne]; exact hmb
  have cD:fZ { w:=w,H:=(aQ sp.inv d).den.H,loc:=loc,X:=X } { w:=g,H:=(aQ sp.inv d).den.H,loc:=loc,X:=X } :=
   ⟨rfl,rfl,by show w.heap.size≤g.heap.size; omega,fun b hb y=>⟨y,N b (fun e=>y (by rw[e]; exact hXi))⟩,fun b hb=>by show b<g.heap.size; rw[hsize]; exact q.heap.X b hb,rfl⟩
  have hmk:iE g X a.defers:=⟨q.defers.1,fun dd hdd=>by
   obtain⟨D,e,h1,k,h3⟩:=q.defers.2 dd hdd;exact⟨D,e,by rw[N D (fun e=>by rw[e]at h1; rw[hit]at h1; cases h1)]; exact h1,k,h3⟩⟩
  have hs1:=((q.cD cD hmk).nE (hu1 d) (.tuple #[.bool true,e.key,e.val])).nE (hu2 d) (.bool true);obtain⟨hem,hes⟩:=mem_left he;obtain⟨i,hi⟩:=mB hem;obtain⟨r,hri,hrb⟩:=M i e hi;have hrm:=eM hri;have hre2:=iu cD.toC hre;obtain⟨k1,k2,_⟩:=(dT.1 hre2).2 i (sp.K.av (gi r 0).row,sp.V.av (gi r 1).row,(gi r 2).int.toNat) e (by simp[c9,hri]) hi;have hiv1:((a.put (some sp.t1) (.tuple #[.bool true,e.key,e.val])).put (some sp.t2) (.bool true)).eval (.tmp sp.it)=.pointer (some ⟨itb,0,none⟩):=by
   have h:=hs1.eval (.tmp sp.it);have e:(aQ sp.inv d).den.eval (.tmp sp.it)=.lit (.pointer (some ⟨sp.ba d,0,none⟩)):=by
    show (aQ sp.inv d).fr.getD sp.it .undef=_
    rw[ch,hut d];rfl
   rw[e]at h;simp only[rel]at h;rw[h,had]
  have h20:bA[0]? = some o3:=by
   have:bA.toList[0]? = some o3:=by rw[e3]; rfl
   simpa using this
  have hl2:bA.toList.drop 1=l:=by rw[e3]; rfl
  have hsz2:bA.size=l.length+1:=by
   have:bA.toList.length=l.length+1:=by rw[e3]; rfl
   simpa using this
  have hlp:(p++(r::rows.filter fun x => !(seen.push (cV r)).contains (cV x))).Perm rows :=
   (List.Perm.append_left p (xY hn hrm (by rw[←hrb]; exact hes)).symm).trans hp
  have B:∃ d',sp.st r d=some d'∧sp.ba d'=sp.ba d:=by
   have h:=hfold _ hlp;rw[um,hf]at h;simp only[z8,cJ]at h;cases B:sp.st r d with
   |none=>rw[B]at h; cases h
   | some d' =>
    rw[B]at h;simp only[]at h;cases hb:ad (sp.ba d') (sp.ba d)with
    |true=>exact⟨d',rfl,bt hb⟩
    |false=>rw[hb]at h; cases h
  obtain⟨d',B,had'⟩:=B;have hf':cJ sp.st sp.ba (p++[r]) d0=some d':=by
   rw[um,hf];simp only[z8,cJ,B,had'];simp
  obtain⟨s4,ha4,hsat⟩:=Kv hm ht hL hr B;rw[hsz2,zX,GO,wpOpsIn_cons];refine jP h20 g3 (Kx p3 hiv1 (run_entry_at (P:=P) g itb mb clock seen ms clock e hit2' hmb2 hem hbn)) (fun c e=>by rw[p3]at e; cases e) ro ?_;rw[q3];have hs3:=hs1.iO sp.t3 (v:=.tuple [sp.K.av (gi r 0).row,sp.V.av (gi r 1).row]) (u:=.tuple #[e.key,e.val]) (by simp only[rel]; exact⟨_,rfl,by simp only[af]; exact⟨k1,k2,trivial⟩⟩);refine wQ (pf:=τ.pf) (ops:=bA) l (0+1) (sp.rs r d).den s4.den { w:=g,H:=(aQ sp.inv d).den.H,loc:=loc,X:=X } _ (by rw[←hl2]) (by rw[hl2]at ha4; exact ha4) hs3 (fun a3 w3 hc3=>?_) ro;obtain⟨loc3,r3,hs4,hle3⟩:=hc3;show body.wpIn (fz ro) 0 P _ a3 w3
  refine wpIn_mono (hsat ro hro { w:=w3,H:=s4.den.H,loc:=loc3,X:=X.re r3 } a3 hs4) fun x a4 w4 y=>?_;obtain⟨rfl,loc4,X4,hs5,hle4⟩:=y;have I:({ w:=g,H:=(aQ sp.inv d).den.H,loc:=loc,X:=X }:Env).di m { w:=w4,H:=(aQ sp.inv d').den.H,loc:=loc4,X:=X4 }:=hle3.toM.trans hle4;have hXsz:itb<g.heap.size:=qW hit2';have hnown:¬ Env.own { w:=g,H:=(aQ sp.inv d).den.H,loc:=loc,X:=X } itb:=by
   exact(q.heap.cD cD).mL hXi
  have hmbsz:mb<g.heap.size:=qW hmb2;have hit4:w4.heap[itb]? = some (.mapIter (some mb) clock (seen.push e.born) clock):=by rw[I.same itb hXsz hnown]; exact hit2'
  refine⟨⟨d',loc4,X4,seen.push e.born,clock,p++[r],hf',by rw[had',had],?_,hs5,?_,(I.X itb hXsz).1.2 hXi,hit4,aG _,?_,?_,?_⟩,?_⟩
  ·rw [hrb, gu]
   exact hlp
  ·refine Env.di.trans (E' := { w := g, H := (aQ sp.inv d).den.H, loc := loc, X := X }) ⟨hle.past, ?_, ?_, hle.own, hle.live, hle.X, hle.rl, hle.env.trans hos, hle.grow⟩ I
   ·have := hle.size
    show E.w.heap.size≤g.heap.size
    rw[hsize];exact this
   ·intro b hb hbo
    show g.heap[b]? = _
    rw[N b (by omega)];exact hle.same b hb hbo
  ·rw [I.same mb hmbsz hown]
   exact hmb2
  ·exact I.own mb hmbsz hown
  ·exact iu (o9 I) hre2
  ·show (leftOf ms (w4.iterSeen itb)).size < (leftOf ms (w.iterSeen itb)).size
   rw[ya hit4,ya hit];exact left_shrinks ms seen e he
theorem VU(hm:P.follows .mixedOrders=true)(ht:ak P τ)(hL:ax P m L body)(hr:jn P τ L m sp bA body)(ho:l_ P sp bh bR bA)
  (hu1:∀ d,(aQ sp.inv d).fr[sp.t1]? = some .undef) (hu2:∀ d,(aQ sp.inv d).fr[sp.t2]? = some .undef) (hut:∀ d,(aQ sp.inv d).fr[sp.it]? = some (.lit (.pointer (some ⟨sp.ba d,0,none⟩))))
  {r1 b0 b1 r2:Nat}
  {s:ar} {d:List G} {rows:List (List G)} {clock:Nat} (W:s.eval (.tmp sp.y)=.map sp.id) (hid:s.H[sp.id]? = some (.map sp.K sp.V rows clock)) (hn:(rows.map cV).Nodup)
  (hlt:∀ r∈rows,cV r<clock) (hin:∀ b,gW m sp.inv sp.ps (gj sp.opens (sp.s2 s b))=some (true,sp.init d b)) (hadr:∀ b,sp.ba (sp.init d b)=b)
  (hfold:∀ b p,p.Perm rows→(cJ sp.st sp.ba p (sp.init d b)).isSome=true) (E:Env) (a:Act) (q:bN s.den E a) (ro:Option Nat) (hro:ew ro body) {Q:Exit→Act→World→Prop}
  (hQ:∀ a1 w1,(∃ b p d',p.Perm rows∧cJ sp.st sp.ba p (sp.init d b)=some d'∧dw m E (aQ sp.inv d').den a1 w1)→Q .normal a1 w1) :
  wpOpsIn (fz ro) 0 P bh (Exit.then ((Code.block b0 (.loop (.seq (.region r1 bR false) (.seq (.cond (.tmp sp.t2) .skip (.exit b0)) (.block b1 (.seq (.region r2 bA false) body)))))).wpIn (fz ro) 0 P Q) Q) [bh.toList.dropLast.length] a E.w:=by
 obtain⟨o2,ty,e1,g2,p2,q2,N⟩:=ho.r0;have h11:bh[bh.toList.dropLast.length]? = some o2:=by
  have:bh.toList[bh.toList.dropLast.length]? = some o2:=by
   rw[e1];simp
  simpa using this
 have hid':E.H[sp.id]? = some (.map (c9 sp.K sp.V rows) clock):=by
  rw[q.H];exact bk hid
 have hrx:rel E (.map sp.id) (a.eval (.tmp sp.y)):=by
  have:=q.eval (.tmp sp.y)
  rwa [ar.kr,W]at this
 obtain⟨mb,n,ms,hc,hloc,O,hre⟩:=oy q.heap hid' hrx;obtain⟨⟨kt,et⟩,N⟩:=Option.isSome_iff_exists.1 N;have hmbs:mb<E.w.heap.size:=qW O;rw[wpOpsIn_cons];refine jP h11 g2 (Ky p2 hc (run_range_map E.w ty kt et mb ms clock (e_ N) O)) (fun c e=>by rw[p2]at e; cases e) ro ?_;rw[q2];show (Code.block _ _).wpIn (fz ro) 0 P _ _ _
 generalize M:E.w.alloc (.mapIter (some mb) clock #[] clock)=g;have hsize:g.heap.size=E.w.heap.size+1:=by rw[←M]; show (E.w.heap.push _).size=_; simp
 have hold:∀ b,b<E.w.heap.size→g.heap[b]? = E.w.heap[b]? := fun b hb=>by rw[←M]; exact(show (E.w.heap.push _)[b]? = _ by rw[Array.getElem?_push,if_neg (by omega)])
 have hitn:g.heap[E.w.heap.size]? = some (.mapIter (some mb) clock #[] clock):=by rw[←M]; exact(show (E.w.heap.push _)[E.w.heap.size]? = _ by simp)
 have hos:dJ E.w g:=by rw[←M]; exact⟨rfl,rfl,rfl,by first|exact fun _=>aG _|exact fun _=>eL _ _⟩
 have hd:=Env.pW q.heap sp.id;have U:bN ⟨s.fr,ao (s.H.set sp.id (.raw .dead))⟩ { w:=E.w,H:=E.H.set sp.id .dead,loc:=E.loc.set sp.id none,X:=E.X } a:=by
  refine⟨?_,du hd _ q.fr,q.defers,au.drop q.heap sp.id fun o ho=>by rw[hid']at ho; cases ho; rfl⟩;rw[c7,show E.H=ao s.H from q.H];rfl
 have cD:fZ { w:=E.w,H:=E.H.set sp.id .dead,loc:=E.loc.set sp.id none,X:=E.X } { w:=g,H:=E.H.set sp.id .dead,loc:=E.loc.set sp.id none,X:=E.X.or fun b=>b=E.w.heap.size } :=
  ⟨rfl, rfl, by show E.w.heap.size ≤ g.heap.size; omega, fun b hb W => ⟨fun h => h.elim W (fun e => absurd hb (by rw [e]; exact pQ _)), hold b hb⟩, fun b hb => by
   show b<g.heap.size
   rcases hb with hb|hb
   ·have := q.heap.X b hb
    omega
   ·omega,rfl⟩
 have hs3:=(U.cD cD (wb (X':=E.X.or fun b=>b=E.w.heap.size) (w':=g) U.defers (fun _ h1 J=>⟨.inl h1,J⟩) fun b h1 _=>hold b (q.heap.X b h1))).iO sp.it (v:=.lit (.pointer (some ⟨E.w.heap.size,0,none⟩))) (u:=.pointer (some ⟨E.w.heap.size,0,none⟩)) (by simp only[rel]);have hs3':bN (sp.s2 s E.w.heap.size).den { w:=g,H:=E.H.set sp.id .dead,loc:=E.loc.set sp.id none,X:=E.X.or fun b=>b=E.w.heap.size } _:=hs3;obtain⟨loc,X4,hs4,I⟩:=((k_ sp.opens _).trans (k9 (hin E.w.heap.size))) _ _ hs3';have hmbn:¬ Env.own { w:=g,H:=E.H.set sp.id .dead,loc:=E.loc.set sp.id none,X:=E.X.or fun b=>b=E.w.heap.size } mb:=by
  rintro(⟨j,c,B⟩|⟨l,k,c,B⟩)
  case inr=>exact q.heap.cN _ _ _ _ _ _ hloc B
  simp only[dN]at B;split at B
  ·split at B
   ·cases B
   ·cases B
  ·rename_i hne
   exact hne (q.heap.inj _ _ _ _ _ hloc B)
 have hmb2:g.heap[mb]? = some (.map ms clock):=by rw[hold mb hmbs]; exact O
 refine wpIn_block (wpIn_mono (VT hm ht hL hr ho hu1 hu2 hut (E:=E) (rows:=rows) (d0:=sp.init d E.w.heap.size) (itb:=E.w.heap.size) (mb:=mb) (clock:=clock) (ms:=ms)
  (aG _) hn hlt (by omega) (hfold _) ?_ ro hro) fun e a1 w1 hq=>?_)
 ·refine ⟨sp.init d E.w.heap.size, loc, X4, #[], clock, [], rfl, hadr _, ?_, hs4, ?_, (I.X E.w.heap.size (by show _ < g.heap.size; omega)).1.2 (.inr rfl), ?_, aG _, ?_, ?_, ?_⟩
  ·have : (rows.filter fun x => !(#[] : Array Nat).contains (cV x)) = rows := List.filter_eq_self.2 (fun x _ => by simp)
   rw[List.nil_append,this]
  ·refine hd.toM.trans (Env.di.trans (E' := { w := g, H := E.H.set sp.id .dead, loc := E.loc.set sp.id none, X := E.X.or fun b => b = E.w.heap.size }) ⟨fun _ _ h => h, ?_, ?_, fun b _ h => h, fun _ _ _ h => ⟨h, rfl⟩, fun b hb => ⟨⟨fun h => h.elim id fun e => absurd hb (by rw [e]; exact pQ _), .inl⟩, Iff.rfl⟩, fun _ _ h => ⟨h, fun _ hq => hq⟩, hos, fun _ _ _ o h1 J _ => ⟨⟨[], (cY _).symm⟩, o, h1, J⟩⟩ I)
   ·show E.w.heap.size ≤ g.heap.size
    omega
   ·exact fun b hb _=>hold b hb
  ·rw [I.same E.w.heap.size (by show _ < g.heap.size; omega) ?_]
   ·exact hitn
   ·exact(U.heap.cD cD).mL (.inr rfl)
  ·rw [I.same mb (by show _ < g.heap.size; omega) hmbn]
   exact hmb2
  ·exact I.own mb (by show _<g.heap.size; omega) hmbn
  ·exact iu (o9 I) (iu cD.toC (iu hd.toC hre))
 ·obtain ⟨rfl, p, d', h1, J, h3⟩ := hq
  simp only[Exit.inBlock,if_true];exact hQ _ _ ⟨_,p,d',h1,J,h3⟩
theorem VV(hm:P.follows .mixedOrders=true)(ht:ak P τ)(hL:ax P m L body)(hr:jn P τ L m sp bA body)(ho:l_ P sp bh bR bA)
  (M:∀ d,(aQ sp.inv d).fr[sp.t1]? = some .undef) (N:∀ d,(aQ sp.inv d).fr[sp.t2]? = some .undef) (O:∀ d,(aQ sp.inv d).fr[sp.it]? = some (.lit (.pointer (some ⟨sp.ba d,0,none⟩))))
  {r0 r1 b0 b1 r2:Nat}
  {s s1:ar} {d:List G} {rows:List (List G)} {clock:Nat} (hp:fD P τ.pf bh bh.toList.dropLast s.den s1.den) (hx:s1.eval (.tmp sp.y)=.map sp.id) (hid:s1.H[sp.id]? = some (.map sp.K sp.V rows clock)) (hn:(rows.map cV).Nodup)
  (g:∀ r∈rows,cV r<clock) (U:∀ b,gW m sp.inv sp.ps (gj sp.opens (sp.s2 s1 b))=some (true,sp.init d b)) (I:∀ b,sp.ba (sp.init d b)=b)
  (B:∀ b p,p.Perm rows→(cJ sp.st sp.ba p (sp.init d b)).isSome=true) (E:Env) (a:Act) (hs:bN s.den E a) (ro:Option Nat) (W:ew ro body) :
  (kD r0 b0 r1 b1 r2 bh bR bA sp.t2 body).wpIn (fz ro) 0 P (fun e k q=>e=.normal∧∃ b p d',p.Perm rows∧cJ sp.st sp.ba p (sp.init d b)=some d'∧dw m E (aQ sp.inv d').den k q) a E.w:=by
 refine wpIn_seq (wpIn_region ?_);obtain⟨o2,ty,u,_⟩:=ho.r0;have hsz:bh.size=bh.toList.dropLast.length+1:=by
  have h:=congrArg List.length u;simpa using h
 have hl:dG bh.size=sC 0 bh.toList.dropLast.length++[bh.toList.dropLast.length]:=by
  rw[hsz,List.range_succ,zX]
 rw[hl];refine xX (pf:=τ.pf) ro bh.toList.dropLast 0 s.den s1.den E a _ (fun j o v=>?_) hp hs fun k q hc=>?_
 ·have g := aK v
  have:bh.toList[j]? = some o:=by
   rw[u,cK g];exact v
  simpa using this
 ·obtain ⟨J, r1, h1, h2⟩ := hc
  refine VU hm ht hL hr ho M N O hx hid hn g U I B { w:=q,H:=s1.den.H,loc:=J,X:=E.X.re r1 } k h1 ro W fun a2 w2 ⟨b,p,d',g1,g2,g3⟩=>?_;exact⟨rfl,b,p,d',g1,g2,dw.after h2.toM g3⟩
noncomputable def qX{β:Type}(rows:List (List G))(k:Nat→List (List G)→Option β):Option β :=
 open Classical in if h:∃ r,∀ b p,p.Perm rows→k b p=some r then some h.choose else none
theorem Cs{β:Type}{rows:List (List G)}{k:Nat→List (List G)→Option β}{r:β}(h:qX rows k=some r):∀ b p,p.Perm rows→k b p=some r:=by
 unfold qX at h;split at h
 ·rename_i d
  cases h;exact d.choose_spec
 ·cases h
theorem Kz{β:Type}{rows:List (List G)}{k:Nat→List (List G)→Option β}{r:β}(h:∀ b p,p.Perm rows→k b p=some r):qX rows k=some r:=by
 cases hb:qX rows k with
 | some r' =>
  have h1:=Cs hb 0 rows (oe _);rw[h 0 rows (oe _)]at h1;exact h1.symm
 | none =>
  unfold qX at hb;rw[dif_pos ⟨r,h⟩]at hb;cases hb
def lb(rows:List (List G))(clock:Nat):Bool:=nodupB (rows.map cV)&&rows.all fun r=>fj (cV r) clock
theorem KA{rows:List (List G)}{clock:Nat}(h:lb rows clock=true):(rows.map cV).Nodup∧∀ r∈rows,cV r<clock:=by
 simp only[lb,aB,cO,j8]at h;exact⟨qO h.1,h.2⟩
noncomputable def jo(sp:fp)(tl:List G→Option (Option Nat × List G))(rows:List (List G))(clock:Nat)(d:List G):Option (Option Nat × List G) :=
 bif lb rows clock then qX rows (fun b p=>bif sp.side d b then (cJ sp.st sp.ba p (sp.init d b)).bind tl else none) else none
def o_(P:Program)(m:Nat)(c:Code)(sp:bp):Prop:=∀ d i d',sp.st d=some (some i,d')→∃ o,sp.outs[i]? = some o∧cU P m c (aQ sp.inv d).den o.x (aQ o.S d').den
theorem fm.sat{c:Code}{q:bp}(hm:P.follows .mixedOrders=true)(k:ak P τ)(u:ax P m L c)(v:fm P τ L m c q):o_ P m c q:=by
 intro d i d' g;rw[←v d]at g;obtain⟨x,s1,g1,g2⟩:=gC hm k c (aQ q.inv d) .done u (Q:=fun x s=>oW m q.outs 0 x s=some (true,(some i,d'))) (nu g);obtain⟨j,o,y,h,B,I⟩:=xH g2;simp only[aZ,cP]at h;subst h;refine⟨o,y,?_⟩;rw[←B];exact qo g1 (k9 I)
theorem VW{c:Code}{q:bp}(y:o_ P m c q){s:ar}{t:Tree}(h:ue m q s=some t):xk P m c s t:=by
 unfold ue at h;split at h
 case h_2=>cases h
 rename_i b d B;cases h;intro Q u;simp only[Tree.holds,qN,aB]at u;obtain⟨⟨rfl,h1⟩,v⟩:=u;cases g:q.st d with
 |none=>rw[g]at h1; cases h1
 | some r =>
  obtain⟨k,d'⟩:=r;cases k with
  |none=>rw[g]at h1; cases h1
  | some i =>
   obtain⟨o,g1,g2⟩:=y d i d' g;rw[g]at v;exact⟨o.x,(aQ o.S d'),qn ((k_ q.opens s).trans (k9 B)) g2,xI g1 (cP i).symm v⟩
theorem ax.KB{fn:Func}{q:bp} (u:kC q.key (bG (aR fn))=true) (g:ax P m L (aR fn)) (h:ax P m L (cutAt fn q.key)→o_ P m (cutAt fn q.key) q) :
  ax P m (L.dY m q) (aR fn):=by
 refine⟨g.1,g.2.1,fun k v hk s t d=>?_⟩;simp only[LT.dY]at d;split at d
 ·rename_i e
  have e:=bt e;subst e;have y:=Cj u hk;rw[←y]at h;exact VW (h (g.sub (ny hk) (nz hk))) d
 ·exact g.2.2 k v hk s t d
def uo(o:Option Tmp)(t:Tmp):Bool :=
 match o with
 |some x=>ad x t
 |none=>false
theorem yb{o:Option Tmp}{t:Tmp}(h:uo o t=true):o=some t:=by
 cases o with
 |none=>cases h
 |some x=>exact congrArg some (bt h)
def yc(P:Program)(sp:fp)(ops:Array Oper):Bool :=
 match ops.toList.getLast? with
 |some ⟨d2,.range ty (.tmp b),_,_,_,none⟩=>ad b sp.y&&uo d2 sp.it&&(cW P ty).isSome
 |_=>false
def yd(sp:fp)(ops:Array Oper):Bool :=
 match ops.toList with
 | [⟨d1,.next (.tmp a) false,_,_,_,none⟩,⟨d2,.extract (.tmp b) 0,_,_,_,none⟩]=>ad a sp.it&&uo d1 sp.t1&&ad b sp.t1&&uo d2 sp.t2
 |_=>false
def ye(sp:fp)(ops:Array Oper):Bool :=
 match ops.toList with
 |⟨d1,.entry (.tmp a),_,_,_,none⟩::_=>ad a sp.it&&uo d1 sp.t3
 |_=>false
theorem KC(h0:yc P sp bh=true)(h1:yd sp bR=true)(d:ye sp bA=true):l_ P sp bh bR bA:=by
 refine⟨?_,?_,?_⟩
 ·unfold yc at h0
  split at h0
  ·rename_i d2 ty b t' k q e
   simp only[aB]at h0;obtain⟨⟨g3,g4⟩,g5⟩:=h0;have g3:=bt g3;subst g3;refine⟨⟨d2,.range ty (.tmp sp.y),t',k,q,none⟩,ty,?_,rfl,rfl,yb g4,g5⟩;have g:bh.toList≠[]:=by
    intro h;rw[h]at e;cases e
   have d:=List.dropLast_concat_getLast g;have u:bh.toList.getLast? = some (bh.toList.getLast g):=by
    rw[List.getLast?_eq_some_iff];exact⟨_,d.symm⟩
   rw[u]at e;rw[fW e]at d;exact d.symm
  ·cases h0
 ·unfold yd at h1
  split at h1
  ·rename_i d1 a _ _ _ d2 b _ _ _ e
   simp only[aB]at h1;obtain⟨⟨⟨g1,g2⟩,g3⟩,g4⟩:=h1;have g1:=bt g1;have g3:=bt g3;subst g1;subst g3;exact⟨_,_,e,rfl,rfl,yb g2,rfl,rfl,yb g4⟩
  ·cases h1
 ·unfold ye at d
  split at d
  ·rename_i d1 a _ _ _ l e
   simp only[aB]at d;have g1:=bt d.1;subst g1;exact⟨_,l,e,rfl,rfl,yb d.2⟩
  ·cases d
def qY:Code→Code
 |.seq _ b=>b
 |_=>.skip
def Cu:Code→Code
 |.seq (.seq _ (.block _ (.loop c))) _=>c
 |_=>.skip
def qZ(c:Code):Code:=match Cu c with
 |.seq _ (.seq _ (.block _ (.seq _ b)))=>b
 |_=>.skip
def Cv:Code→Array Oper
 |.region _ ops _=>ops
 |_=>#[]
def lf:Code→Array Oper
 |.seq (.seq r _) _=>Cv r
 |_=>#[]
def yf(c:Code):Array Oper:=match Cu c with
 |.seq r _=>Cv r
 |_=>#[]
def nF(c:Code):Array Oper:=match Cu c with
 |.seq _ (.seq _ (.block _ (.seq r _)))=>Cv r
 |_=>#[]
theorem KD{r0 r1 b0 b1 r2 t2:Nat}{rest:Code} (h:ax P m L (.seq (kD r0 b0 r1 b1 r2 bh bR bA t2 body) rest)):ax P m L body∧ax P m L rest:=by
 refine⟨h.sub (fun p d=>?_) (fun p d=>?_),h.sub (fun p d=>?_) (fun p d=>?_)⟩
 ·simp only [bK, kD, cS]
  left;right;split
  ·simp only [bV, bK, cS]
   exact .inr (.inr (.inr (.inr d)))
  ·simp only [bK, cS]
   exact .inr (.inr (.inr d))
 ·simp only [bG, kD, cS]
  exact .inl (.inr (.inr (.inr (.inr (.inr (.inr (.inr (.inr d))))))))
 ·simp only [bK, cS]
  exact .inr d
 ·simp only [bG, cS]
  exact .inr (.inr d)
def KE(P:Program)(τ:aj)(ops:Array Oper)(s:ar):ar:=match (k0 P τ ops ops.toList.dropLast s fun s=>.done .normal s).jQ with
 |some (_,s1)=>s1
 |none=>s
theorem KF(d:ak P τ){ops:Array Oper}{l:List Oper}{s s1:ar}(h:(k0 P τ ops l s fun s=>.done .normal s).jQ=some (.normal,s1)):fD P τ.pf ops l s.den s1.den:=by
 obtain⟨s',h1,g⟩:=xo d (uk h);obtain⟨_,rfl⟩:=g;exact h1
theorem VX(hm:P.follows .mixedOrders=true)(W:ak P τ){rest:Code}{q qr:bp}(hL:ax P m L body)(hr:jn P τ L m sp bA body)(ho:l_ P sp bh bR bA)
  (hu1:∀ d,(aQ sp.inv d).fr[sp.t1]? = some .undef) (hu2:∀ d,(aQ sp.inv d).fr[sp.t2]? = some .undef) (hut:∀ d,(aQ sp.inv d).fr[sp.it]? = some (.lit (.pointer (some ⟨sp.ba d,0,none⟩))))
  {r0 r1 b0 b1 r2:Nat}
  {rows:List G→List (List G)} {clock:List G→Nat} {pre:List G→ar} (hy:∀ d,(k0 P τ bh bh.toList.dropLast (aQ q.inv d) fun s=>.done .normal s).jQ=some (.normal,pre d)) (u:∀ d,(pre d).eval (.tmp sp.y)=.map sp.id) (hid:∀ d,(pre d).H[sp.id]? = some (.map sp.K sp.V (rows d) (clock d)))
  (hin:∀ d b,gW m sp.inv sp.ps (gj sp.opens (sp.s2 (pre d) b))=some (sp.side d b,sp.init d b)) (hadr:∀ d b,sp.ba (sp.init d b)=b)
  (hinv:qr.inv=sp.inv) (houts:qr.outs=q.outs) (I:o_ P m rest qr) (hst:∀ d,q.st d=jo sp qr.st (rows d) (clock d) d) :
  o_ P m (.seq (kD r0 b0 r1 b1 r2 bh bR bA sp.t2 body) rest) q:=by
 intro d i d' h;rw[hst]at h;unfold jo at h;cases B:lb (rows d) (clock d)with
 |false=>rw[B]at h; cases h
 | true =>
  rw[B]at h;simp only[cond_true]at h;have hall:=Cs h;obtain⟨hn,hlt⟩:=KA B;have k:∀ b p,p.Perm (rows d)→sp.side d b=true∧∃ d1,cJ sp.st sp.ba p (sp.init d b)=some d1∧qr.st d1=some (some i,d'):=by
   intro b p g;have:=hall b p g;cases M:sp.side d b with
   |false=>rw[M]at this; cases this
   | true =>
    rw[M]at this;simp only[cond_true]at this;cases v:cJ sp.st sp.ba p (sp.init d b)with
    |none=>rw[v]at this; cases this
    | some d1 =>
     rw[v]at this;exact⟨rfl,d1,rfl,this⟩
  obtain⟨_,d1,_,g1⟩:=k 0 (rows d) (oe _);obtain⟨o,N,_⟩:=I d1 i d' g1;refine⟨o,by rw[←houts]; exact N,fun ro O E a hs=>wpIn_seq (wpIn_mono (VV hm W hL hr ho hu1 hu2 hut (KF W (hy d)) (u d) (hid d) hn hlt (fun b=>by rw[hin d b,(k b (rows d) (oe _)).1]) (hadr d) (fun b p g=>?_) E a hs ro (Ku O.seq1)) fun e a1 w1 hq=>?_)⟩
  ·obtain ⟨_, d2, h2, _⟩ := k b p g
   rw[h2];rfl
  ·obtain ⟨rfl, b, p, d2, g, v, loc, X, hs2, hle⟩ := hq
   obtain⟨_,d3,h3,h4⟩:=k b p g;rw[v]at h3;cases h3;obtain⟨o',U,J⟩:=I d2 i d' h4;rw[N]at U;cases U;rw[hinv]at J;exact wpIn_mono (J ro O.Bg { w:=w1,H:=(aQ sp.inv d2).den.H,loc:=loc,X:=X } a1 hs2) fun x a2 w2 u=>⟨u.1,dw.after hle u.2⟩
theorem ax.VY(hm:P.follows .mixedOrders=true)(h:ak P τ){fn:Func}{q qr:bp}{r0 b0 r1 b1 r2:Nat}{rows:List G→List (List G)}{clock:List G→Nat}
  (hn:kC q.key (bG (aR fn))=true) (hL:ax P m L (aR fn))
  (k:cutAt fn q.key=.seq (kD r0 b0 r1 b1 r2 (lf (cutAt fn q.key)) (yf (cutAt fn q.key)) (nF (cutAt fn q.key)) sp.t2 (qZ (cutAt fn q.key))) (qY (cutAt fn q.key)))
  (ho:(yc P sp (lf (cutAt fn q.key))&&yd sp (yf (cutAt fn q.key))&&ye sp (nF (cutAt fn q.key)))=true)
  (hr:jn P τ L m sp (nF (cutAt fn q.key)) (qZ (cutAt fn q.key)))
  (I:∀ d,(aQ sp.inv d).fr[sp.t1]? = some .undef) (J:∀ d,(aQ sp.inv d).fr[sp.t2]? = some .undef) (M:∀ d,(aQ sp.inv d).fr[sp.it]? = some (.lit (.pointer (some ⟨sp.ba d,0,none⟩))))
  {pre:List G→ar} (hy:∀ d,(k0 P τ (lf (cutAt fn q.key)) (lf (cutAt fn q.key)).toList.dropLast (aQ q.inv d) fun s=>.done .normal s).jQ=some (.normal,pre d)) (hx:∀ d,(pre d).eval (.tmp sp.y)=.map sp.id) (hid:∀ d,(pre d).H[sp.id]? = some (.map sp.K sp.V (rows d) (clock d)))
  (N:∀ d b,gW m sp.inv sp.ps (gj sp.opens (sp.s2 (pre d) b))=some (sp.side d b,sp.init d b)) (B:∀ d b,sp.ba (sp.init d b)=b)
  (hinv:qr.inv=sp.inv) (u:qr.outs=q.outs) (v:fm P τ L m (qY (cutAt fn q.key)) qr) (O:∀ d,q.st d=jo sp qr.st (rows d) (clock d) d) :
  ax P m (L.dY m q) (aR fn):=by
 refine ax.KB hn hL fun g=>?_;rw[k]at g;obtain⟨U,W⟩:=KD g;simp only[aB]at ho;rw[k];exact VX hm h U hr (KC ho.1.1 ho.1.2 ho.2) I J M hy hx hid N B hinv u (v.sat hm h W) O
end range
end Go.AL
