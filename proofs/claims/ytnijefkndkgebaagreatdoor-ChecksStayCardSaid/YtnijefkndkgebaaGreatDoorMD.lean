/-
 What is proved here: shapes: states and arguments as data alone (integers,strings,rows),read off abstract states and built from data; what is built says no more than what was read. No program in sight; no condition.
-/
import Derived.Test.YtnijefkndkgebaaGreatDoorMC
import Derived.Maps.RangeRun
set_option linter.all false
open Bool renaming and_true→fC,and_eq_true→aA,false_eq_true→kS,not_eq_true'→mM,and_self→sX,eq_false_iff→ahT,or_false→SO
open Go.Act renaming put→wB
open Go.MapKept renaming heap_set→HD
open Go.Value.slice renaming injEq→jE
open Int renaming toNat_natCast→a8
open List renaming length_cons→cz,append_nil→c_,append_assoc→fY,getElem?_append_left→cK,length_map→dz,mem_map→dF,getElem?_map→cd,getElem?_eq_getElem→bO,mem_of_getElem?→eO,getElem?_append_right→gL,getElem?_set_self→bB,getElem?_set_ne→aU,getElem?_set→dR,all_eq_true→cR,getD_eq_getElem?_getD→cr,getElem?_take→lJ,mem_cons→bZ,map_cons→dw,cons_append→lL,length_append→e9,mem_append→cS,getElem?_of_mem→mI,all_cons→kU,mem_cons_self→cT,mem_cons_of_mem→cY,nodup_cons→lQ,getElem?_inj→AF,range'→sT,range'_succ→Hq,range→dG,mem_append_left→qc,any_eq_true→jH,range_eq_range'→AH,set_append_left→Hx,headD_cons→wF,getElem?_cons_succ→SN,getD_cons_succ→ahS,find?_cons_of_neg→ahU,getElem_mem→mP,mem_filter→AK,mem_append_right→wH
open List.Perm renaming refl→oG
open Nat renaming le_refl→aG,le_add_right→eM,zero_le→eh,lt_or_ge→jg,zero_add→cF,beq→ad,eq_of_beq_eq_true→bu,sub_self→mL,ble→dH,blt→fa,blt_eq→kh,le_of_ble_eq_true→sY,lt_irrefl→qe
open Option renaming map_eq_some_iff→dQ,map_some→eF,getD_some→lP,bind_some→AM
open Option.some renaming injEq→aY,inj→gd
open Prod.mk renaming injEq→bg
namespace Go.AL
open Go
variable [Dr]
inductive eC where
 |int (k:IntKind)|str|bool
 |list (ks:List Kd)|row (ks:List Kd)|cptr (ks:List Kd)
 |nil|any
 |Kl (isNil:Bool)
 |fn (f:FuncId)
 |ptr (j col:Nat)
 |vec (j w:Nat)
 |sub (j w:Nat)
 |pre (j w:Nat)
 |uw (ks:List Kd)
 |map (j:Nat)
 |addr
 |Km (f:FuncId) (js:List Nat)
 |CB
 deriving Inhabited
inductive Sh where
 |s (a:eC)
 |clo (f:FuncId) (caps:List eC)
 deriving Inhabited
inductive cn where
 |vec (ks:List Kd) (u:Nat)
 |box (cells:List eC)
 |map (K V:Ct)
 |ev (l T B:Nat)
 |aI (l:Nat) (K:Ct) (ks:List Kd)
 |mm (l:Nat) (K KI VI:Ct)
 deriving Inhabited
def cn.iR:cn→Option Nat
 |.ev l _ _=>some l
 |.aI l _ _=>some l
 |.mm l _ _ _=>some l
 |_=>none
def cn.da:cn→Option Nat
 |.mm l _ _ _=>some l
 |_=>none
def eC.sz:eC→Nat
 |.int _ | .str | .bool | .list _ | .row _ | .cptr _ | .uw _ | .pre _ _ | .addr=>1
 |.sub _ _=>2
 |_=>0
def nB:List eC→Nat
 | []=>0
 |a::as=>a.sz+nB as
def Sh.sz:Sh→Nat
 |.s a=>a.sz
 |.clo _ caps=>nB caps
def CD:List Sh→Nat
 | []=>0
 |a::as=>a.sz+CD as
def cn.sz:cn→Nat
 |.vec _ _=>1
 |.box cells=>nB cells
 |.map _ _=>2
 |.ev _ _ _=>1
 |.aI _ _ _=>2
 |.mm _ _ _ _=>3
def ef:Nat→List G→List G
 |0,d=>d
 |n+1,d=>ef n d.tail
abbrev c8:=List (Nat × Nat)
def c8.len(os:c8)(j:Nat):Nat:=(os.getD j (0,0)).1
def c8.af(os:c8)(j:Nat):Nat:=(os.getD j (0,0)).2
def pk:List Nat→List AV
 | []=>[]
 |j::js=>.ptr j 0 0 0 0::pk js
def eD(lens:c8):eC→List G→AV
 |.int k,d=>.lit (.int k (d.headD default).int)
 |.str,d=>.lit (.string (d.headD default).str)
 |.bool,d=>.lit (.bool (d.headD default).bool)
 |.list ks,d=>.listF ks (d.headD default).rows
 |.uw ks,d=>.listF ks (d.headD default).rows
 |.row ks,d=>.agg (aJ ks (d.headD default).row)
 |.cptr ks,d=>.cptr (aJ ks (d.headD default).row)
 |.nil,_=>.lit (.slice none 0 0)
 |.any,_=>.undef
 |.Kl b,_=>.emptyS b
 |.fn f,_=>.clo f []
 |.ptr j col,_=>.ptr j 0 0 0 col
 |.vec j w,_=>.vec w j (lens.af j) 0 (lens.len j)
 |.sub j w,d=>.vec w j (lens.af j) (d.headD default).int.toNat (d.tail.headD default).int.toNat
 |.pre j w,d=>.vec w j (lens.af j) 0 (d.headD default).int.toNat
 |.map j,_=>.map j
 |.addr,d=>.lit (.pointer (some ⟨(d.headD default).int.toNat,0,none⟩))
 |.Km f js,_=>.clo f (pk js)
 |.CB,_=>.lit .nilIface
def iz(lens:c8):List eC→List G→List AV
 | [],_=>[]
 |a::as,d=>eD lens a d::iz lens as (ef a.sz d)
def pn(lens:c8):Sh→List G→AV
 |.s a,d=>eD lens a d
 |.clo f caps,d=>.clo f (iz lens caps d)
def fh(lens:c8):List Sh→List G→List AV
 | [],_=>[]
 |a::as,d=>pn lens a d::fh lens as (ef a.sz d)
def eL(lens:c8):cn→List G→ai
 |.vec ks u,d=>.vec ks u (d.headD default).rows
 |.box g,d=>.raw (.box (iz lens g d))
 |.map K V,d=>.map K V (d.headD default).rows (d.tail.headD default).int.toNat
 |.ev l T B,d=>.raw (.ev l T B (d.headD default).str)
 |.aI l K ks,d=>.aI l K ks (d.headD default).rows (d.tail.headD default).int.toNat
 |.mm l K KI VI,d=>.mm l K KI VI (d.headD default).rows (d.tail.headD default).rows (d.tail.tail.headD default).int.toNat
theorem ra(lens:c8)(sh:cn)(d:List G):(eL lens sh d).den.label=sh.iR:=by cases sh<;>rfl
theorem CE(lens:c8)(sh:cn)(d:List G):(eL lens sh d).den.da=sh.da:=by cases sh<;>rfl
def cO(lens:c8):List cn→List G→List ai
 | [],_=>[]
 |o::os,d=>eL lens o d::cO lens os (ef o.sz d)
def ll:List cn→Nat
 | []=>0
 |o::os=>o.sz+ll os
def cI:List cn→List G→c8
 | [],_=>[]
 | o::os,d=>(match o with
  |.vec _ u=>((d.headD default).rows.length,u)
  |_=>(0,0))::cI os (ef o.sz d)
def jW(H:List ai)(e:bN):List Nat→List AV→Bool
 | [],[]=>true
 | j::js,.ptr id af k row c::vs=>(match H[id]? with
  |some (.raw _)=>ad id (e.at j)&&ad af 0&&ad k 0&&ad row 0&&ad c 0
  |_=>false)&&jW H e js vs
 |_,_=>false
def fq(H:List ai)(e:bN)(fz:Nat→Bool):eC→AV→Option (Bool × List G)
 |.int k,.lit (.int k' n)=>if k=k' then some (true,[.i n]) else none
 |.str,.lit (.string s)=>some (true,[.s s])
 |.bool,.lit (.bool b)=>some (true,[.t b])
 | .list ks,a=>match me ks a with
  |some rows=>some (true,[.l rows])
  | none=>match a with
   | .vec w id af off n=>match H[id]? with
    |some (.vec d v rows)=>if af=v∧off=0∧w=ks.length∧Kd.gj ks d=true∧fz id=true then some (ad n rows.length,[.l rows]) else none
    |_=>none
   |_=>none
 | .row ks,a=>match Cw ks a with
  |some r=>some (true,[.l [r]])
  |none=>none
 | .cptr ks,.cptr cells=>match fJ ks cells with
  |some r=>some (true,[.l [r]])
  |none=>none
 | .cptr ks,.ptr id af _ row col=>match H[id]? with
  | some (.raw (.box cells))=>match fJ ks cells with
   |some r=>if af=0∧row=0∧col=0∧fz id=true then some (true,[.l [r]]) else none
   |none=>none
  |some (.vec d v [r])=>if af=v∧row=0∧col=0∧Kd.gj ks d=true∧fz id=true then some (true,[.l [r]]) else none
  |_=>none
 |.nil,.lit (.slice none 0 0)=>some (true,[])
 |.any,_=>some (true,[])
 |.fn f,.clo g []=>if f=g then some (true,[]) else none
 | .ptr j col,.ptr id af k row c=>match H[id]? with
  |some (.raw _)=>if id=e.at j∧af=0∧k=0∧row=0∧c=col then some (true,[]) else none
  |_=>none
 | .vec j w,.vec w' id af off n=>match H[id]? with
  |some (.vec _ v rows)=>if w'=w∧id=e.at j∧af=v∧off=0 then some (ad n rows.length,[]) else none
  |_=>none
 | .sub j w,.vec w' id af off n=>match H[id]? with
  |some (.vec _ v _)=>if w'=w∧id=e.at j∧af=v then some (true,[.i off,.i n]) else none
  |_=>none
 | .pre j w,.vec w' id af off n=>match H[id]? with
  |some (.vec _ v _)=>if w'=w∧id=e.at j∧af=v∧off=0 then some (true,[.i n]) else none
  |_=>none
 | .uw ks,a=>match me ks a with
  |some rows=>some (true,[.l rows])
  | none=>match a with
   | .vec w id af off n=>match H[id]? with
    |some (.vec d v rows)=>if af=v∧off=0∧w=ks.length∧Kd.gj ks d=true∧fz id=true then some (dH n rows.length,[.l (rows.take n)]) else none
    |_=>none
   |_=>none
 | .map j,.map id=>match H[id]? with
  |some (.map _ _ _ _)=>if id=e.at j then some (true,[]) else none
  |some (.aI _ _ _ _ _)=>if id=e.at j then some (true,[]) else none
  |some (.mm _ _ _ _ _ _ _)=>if id=e.at j then some (true,[]) else none
  |_=>none
 |.addr,.lit (.pointer (some ⟨b,0,none⟩))=>some (true,[.i (b:Nat)])
 |.Km f js,.clo g vs=>if f=g∧jW H e js vs=true then some (true,[]) else none
 |.CB,.lit .nilIface=>some (true,[])
 |_,_=>none
def fi(H:List ai)(e:bN)(fz:Nat→Bool):List eC→List AV→Option (Bool × List G)
 | [],[]=>some (true,[])
 | sh::d,a::as=>match fq H e fz sh a,fi H e fz d as with
  |some (b,g),some (h,k)=>some (b&&h,g++k)
  |_,_=>none
 |_,_=>none
def jX(H:List ai)(e:bN)(fz:Nat→Bool):Sh→AV→Option (Bool × List G)
 |.s a,v=>fq H e fz a v
 |.clo f caps,.clo g vs=>if f=g then fi H e fz caps vs else none
 |_,_=>none
def eg(H:List ai)(e:bN)(fz:Nat→Bool):List Sh→List AV→Option (Bool × List G)
 | [],[]=>some (true,[])
 | sh::d,a::as=>match jX H e fz sh a,eg H e fz d as with
  |some (b,g),some (h,k)=>some (b&&h,g++k)
  |_,_=>none
 |_,_=>none
def gr(H:List ai)(e:bN)(fz:Nat→Bool):cn→ai→Option (Bool × List G)
 |.vec ks _,.vec g _ rows=>if Kd.gj ks g then some (true,[.l rows]) else none
 |.box h,.raw (.box cells)=>fi H e fz h cells
 |.map K V,.map d u rows clock=>if K.same d&&V.same u then some (true,[.l rows,.i clock]) else none
 |.ev l T B,.raw (.ev l' v y s)=>if (ad l l'&&(ad T v&&ad B y))=true then some (true,[.s s]) else none
 |.aI l K ks,.aI l' d g rows clock=>if (ad l l'&&(K.same d&&Kd.gj ks g))=true then some (true,[.l rows,.i clock]) else none
 |.mm l K KI VI,.mm l' d k q rows mem clock=>if (ad l l'&&(K.same d&&(KI.same k&&VI.same q)))=true then some (true,[.l rows,.l mem,.i clock]) else none
 |_,_=>none
theorem Kn{H:List ai}{e:bN}{fz:Nat→Bool}{sh:cn}{o:ai}{b:Bool}{g:List G}(h:gr H e fz sh o=some (b,g)):o.den.label=sh.iR:=by
 unfold gr at h;split at h
 ·rfl
 ·rfl
 ·rfl
 ·split at h
  ·rename_i d
   simp only[aA]at d;have:=bu d.1;subst this;rfl
  ·cases h
 ·split at h
  ·rename_i d
   simp only[aA]at d;have:=bu d.1;subst this;rfl
  ·cases h
 ·split at h
  ·rename_i d
   simp only[aA]at d;have:=bu d.1;subst this;rfl
  ·cases h
 ·cases h
theorem CF{H:List ai}{e:bN}{fz:Nat→Bool}{sh:cn}{o:ai}{b:Bool}{g:List G}(h:gr H e fz sh o=some (b,g)):o.den.da=sh.da:=by
 unfold gr at h;split at h
 ·rfl
 ·rfl
 ·rfl
 ·rfl
 ·rfl
 ·split at h
  ·rename_i d
   simp only[aA]at d;have:=bu d.1;subst this;rfl
  ·cases h
 ·cases h
def iS(H:List ai)(e:bN)(fz:Nat→Bool):List cn→List Nat→Option (Bool × List G)
 | [],[]=>some (true,[])
 | o::os,i::is=>match H[i]? with
  | some t=>match gr H e fz o t,iS H e fz os is with
   |some (b,g),some (d,h)=>some (b&&d,g++h)
   |_,_=>none
  |none=>none
 |_,_=>none
theorem nC:∀(g rest:List G),ef g.length (g++rest)=rest
 | [],_=>rfl
 |_::g,rest=>nC g rest
def rb:ai→Nat
 |.vec _ v _=>v
 |_=>0
def rf(H:List ai)(id:Nat):Nat:=match H[id]? with
 |some o=>rb o
 |none=>0
def bK(H:List ai)(ids:List Nat):bN:=⟨ids,ids.map (rf H),H.length⟩
structure yd (E0:Env) (lens:c8) (j:Nat) (o:ai):Prop where
 af:o.den.aF = some (rb o)
 obj:∃ o0,E0.H[j]? = some o0∧o0.aF = some (lens.af j)
 mm:∀ o0,E0.H[j]? = some o0→o0.da=o.den.da
 len:∀ ks v rows,o=.vec ks v rows→lens.len j=rows.length
 flat:(∀ ks v rows,o≠.vec ks v rows)→lens.af j=0
structure gY (H:List ai) (e:bN) (fz:Nat→Bool) (lens:c8) (E E0:Env):Prop where
 hH:E.H=ao H
 HE:au E
 free:∀ i,fz i=true→∀ b n,E.loc[i]? = some (some (b,n))→E0.im b
 cU:KeepIn e E E0
 obj:∀ j o,H[e.at j]? = some o→j<e.ids.length∧yd E0 lens j o
section cU
variable {H:List ai} {e:bN} {fz:Nat→Bool} {lens:c8} {E E0:Env}
theorem yd.past{j:Nat}{o:ai}(h:yd E0 lens j o):E0.past j (lens.af j):=by
 obtain⟨o0,h1,d⟩:=h.obj;exact⟨o0,h1,ab.AO d,fun v g=>by rw[d]at g; cases g; exact aG _⟩
theorem V_(K:gY H e fz lens E E0){id v n:Nat}{ks:List Kd}{rows:List (List G)}{c:Value}(hid:H[id]? = some (.vec ks v rows))(B:fz id=true)(I:n=rows.length)
  (d:rel E (.vec ks.length id v 0 n) c):rel E0 (.listF ks rows) c:=by
 subst I;have k:E.H[id]? = some (.vec ks.length v (rows.map (aJ ks))):=by rw[K.hH]; exact bq hid
 have ho:=K.HE.obj id _ k;rw[iI];simp only[rel]at d⊢;obtain⟨⟨base,cap,rfl,y,_⟩,_,h⟩:=d;obtain⟨N,J⟩:=h ⟨_,k,rfl⟩;have q:eQ (rows.map (aJ ks)):=by
  intro r d;obtain⟨g,_,rfl⟩:=dF.1 d;exact fD ks g
 refine⟨q,base,cap,by simp,by simpa using y,?_⟩;simp only[aO]at ho;rcases ho with⟨h1,u⟩|⟨b,m,h1,u,h,_,M⟩
 ·exact .inl u
 ·obtain ⟨g1, o, g2, g3⟩ := J b m h1
  by_cases hm:rows=[]
  ·subst hm; exact .inl rfl
  ·right
   have:0<rows.length:=by cases rows with|nil=>exact(hm rfl).elim|cons _ _=>simp
   simp at h;have ho:=g2 (by omega);simp at ho;subst ho;simp only[jE]at g3;exact⟨b,0,g3.1,K.free id B b m h1,km K.cU.bG _ q (by rw[K.cU.w]) M⟩
theorem Wa(K:gY H e fz lens E E0){id v n:Nat}{ks:List Kd}{rows:List (List G)}{c:Value}(hid:H[id]? = some (.vec ks v rows))(J:fz id=true)(M:n≤rows.length)
  (d:rel E (.vec ks.length id v 0 n) c):rel E0 (.listF ks (rows.take n)) c:=by
 have k:E.H[id]? = some (.vec ks.length v (rows.map (aJ ks))):=by rw[K.hH]; exact bq hid
 have ho:=K.HE.obj id _ k;rw[iI];simp only[rel]at d⊢;obtain⟨⟨base,cap,rfl,I,_⟩,_,h⟩:=d;obtain⟨O,N⟩:=h ⟨_,k,rfl⟩;have u:eQ ((rows.take n).map (aJ ks)):=by
  intro r d;obtain⟨g,_,rfl⟩:=dF.1 d;exact fD ks g
 have q:min n rows.length=n:=Nat.min_eq_left M;refine⟨u,base,cap,by simp[q],by simpa[q]using I,?_⟩;simp only[aO]at ho;rcases ho with⟨h1,y⟩|⟨b,m,h1,y,h,_,B⟩
 ·left
  have:rows=[]:=by simpa using y
  rw[this];simp
 ·obtain ⟨g1, o, g2, g3⟩ := N b m h1
  by_cases hm:n=0
  ·left; rw[hm]; simp
  ·right
   simp at h;have ho:=g2 (by omega);simp at ho;subst ho;simp only[jE]at g3;refine⟨b,0,g3.1,K.free id J b m h1,km K.cU.bG _ u (by rw[K.cU.w]) ?_⟩;rw[kX]at B⊢;intro i r hi;simp only[cd,lJ]at hi;split at hi
   ·exact B i r (by simpa using hi)
   ·simp at hi
theorem Wb(K:gY H e fz lens E E0){id k:Nat}{cells:List AV}{c:Value} (hid:H[id]? = some (.raw (.box cells))) (g:AV.br cells=true) (q:fz id=true)
  (h:rel E (.ptr id 0 k 0 0) c):rel E0 (.cptr cells) c:=by
 have d:E.H[id]? = some (.box cells):=by rw[K.hH]; exact bq hid
 have ho:=K.HE.obj id _ d;simp only[aO]at ho;obtain⟨b,n,h1,y,u⟩:=ho;simp only[rel]at h⊢;obtain⟨_,_,v⟩:=h;obtain⟨B,I,g1,g2⟩:=v ⟨_,d,rfl⟩;rw[h1]at g1;simp only[aY,bg]at g1;obtain⟨rfl,rfl⟩:=g1;exact⟨g,b,0,by rw[g2]; simp,K.free id q b n h1,qh K.cU.bG cells g (by rw[K.cU.w]) u⟩
theorem Wc(K:gY H e fz lens E E0){id k v:Nat}{ks:List Kd}{r:List G}{c:Value}(hid:H[id]? = some (.vec ks v [r]))(u:fz id=true)
  (g:rel E (.ptr id v k 0 0) c):rel E0 (.cptr (aJ ks r)) c:=by
 have d:E.H[id]? = some (.vec ks.length v [aJ ks r]):=by rw[K.hH]; exact bq hid
 have ho:=K.HE.obj id _ d;simp only[aO]at ho;simp only[rel]at g⊢;obtain⟨_,_,y⟩:=g;obtain⟨B,I,g1,g2⟩:=y ⟨_,d,rfl⟩;rcases ho with⟨_,h⟩|⟨b,m,h1,h,J,M,q⟩
 ·cases h
 ·rw [h1] at g1
  simp only[aY,bg]at g1;obtain⟨rfl,rfl⟩:=g1;simp only[cB]at q;exact⟨fD ks r,b,0,by rw[g2]; simp,K.free id u b m h1,qh K.cU.bG _ (fD ks r) (by rw[K.cU.w]) q.2.1⟩
theorem Ko(K:gY H e fz lens E E0):∀{js:List Nat} {vs:List AV},jW H e js vs=true→∀ cs,ah E vs cs→ah E0 (pk js) cs
 | [],[],_,cs,d=>by
  cases cs with
  |nil=>simp[pk,ah]
  |cons _ _=>simp[ah]at d
 | j::js,v::vs,h,cs,d=>by
  cases v<;>simp only[jW,kS]at h<;>try cases h
  rename_i id af k row c;simp only[aA]at h;obtain⟨h1,y⟩:=h;split at h1
  ·rename_i r hid
   simp only[aA]at h1;obtain⟨⟨⟨⟨g,a2⟩,a3⟩,a4⟩,a5⟩:=h1;have g:=bu g;have a2:=bu a2;have a3:=bu a3;have a4:=bu a4;have a5:=bu a5;subst g a2 a3 a4 a5;cases cs with
   |nil=>simp[ah]at d
   | cons c cs =>
    simp only[ah]at d;simp only[pk,ah];refine⟨?_,Ko K y cs d.2⟩;obtain⟨B,q⟩:=K.obj _ _ hid;have I:=q.flat (fun _ _ _ h=>by cases h);have u:=d.1;simp only[rel]at u⊢;obtain⟨h1,y,J⟩:=u;refine⟨h1,by have:=q.past; rwa [I]at this,fun _=>?_⟩;rw[K.cU.loc _ B];exact J ⟨_,by rw[K.hH]; exact bq hid,q.af⟩
  ·cases h1
 | [],_::_,h,_,_=>by simp[jW]at h
 |_::_,[],h,_,_=>by simp[jW]at h
theorem Kp(K:gY H e fz lens E E0){sh:eC}{a:AV}{g:List G}(h:fq H e fz sh a=some (true,g))(rest:List G) :
  g.length=sh.sz∧∀ c,rel E a c→rel E0 (eD lens sh (g++rest)) c:=by
 unfold fq at h;split at h
 ·split at h
  ·rename_i hk
   subst hk;cases h;exact⟨rfl,fun c d=>by simp only[rel]at d; subst d; simp[eD,rel,G.int]⟩
  ·cases h
 ·cases h; exact⟨rfl,fun c d=>by simp only[rel]at d; subst d; simp[eD,rel,G.str]⟩
 ·cases h; exact⟨rfl,fun c d=>by simp only[rel]at d; subst d; simp[eD,rel,G.bool]⟩
 ·split at h
  ·rename_i rows d
   cases h;exact⟨rfl,fun c k=>dJ K.cU.bG (.listF _ rows) rfl (J' d k)⟩
  ·split at h
   ·split at h
    ·rename_i hid
     split at h
     ·rename_i k
      obtain⟨rfl,rfl,rfl,B,I⟩:=k;simp only[aY,bg]at h;obtain⟨h1,rfl⟩:=h;have B:=Kd.ix B;subst B;exact⟨rfl,fun c d=>V_ K hid I (bu h1) d⟩
     ·cases h
    ·cases h
   ·cases h
 ·split at h
  ·rename_i ks a r d
   cases h;have N:=Ka d;subst N;exact⟨rfl,fun c k=>dJ K.cU.bG (.agg (aJ ks r)) (by simp only[AV.closed,fD]) k⟩
  ·cases h
 ·split at h
  ·rename_i r d
   cases h;have N:=jS d;subst N;exact⟨rfl,fun c k=>dJ K.cU.bG (.cptr _) rfl k⟩
  ·cases h
 ·split at h
  ·rename_i hid
   split at h
   ·rename_i r d
    split at h
    ·rename_i k
     obtain⟨rfl,rfl,rfl,I⟩:=k;cases h;have N:=jS d;subst N;exact⟨rfl,fun c d=>Wb K hid (fD _ _) I d⟩
    ·cases h
   ·cases h
  ·rename_i V v r hid
   split at h
   ·rename_i k
    obtain⟨rfl,rfl,rfl,B,I⟩:=k;cases h;have B:=Kd.ix B;subst B;exact⟨rfl,fun c d=>Wc K hid I d⟩
   ·cases h
  ·cases h
 ·cases h; exact⟨rfl,fun c d=>by simpa only[eD,rel]using d⟩
 ·cases h; exact⟨rfl,fun c d=>by simp[eD,rel]⟩
 ·split at h
  ·rename_i hk
   subst hk;cases h;exact⟨rfl,fun c d=>dJ K.cU.bG (.clo _ []) rfl d⟩
  ·cases h
 ·split at h
  ·rename_i r hid
   split at h
   ·rename_i k
    obtain⟨rfl,rfl,rfl,rfl,rfl⟩:=k;cases h;obtain⟨u,q⟩:=K.obj _ _ hid;have J:=q.flat (fun _ _ _ h=>by cases h);refine⟨rfl,fun c d=>?_⟩;simp only[rel]at d;simp only[eD,rel];obtain⟨h1,M,y⟩:=d;refine⟨h1,by have:=q.past; rwa [J]at this,fun _=>?_⟩;rw[K.cU.loc _ u];exact y ⟨_,by rw[K.hH]; exact bq hid,q.af⟩
   ·cases h
  ·cases h
 ·split at h
  ·rename_i ks v rows hid
   split at h
   ·rename_i k
    obtain⟨rfl,rfl,rfl,rfl⟩:=k;simp only[aY,bg]at h;obtain⟨h1,rfl⟩:=h;have h1:=bu h1;subst h1;obtain⟨u,q⟩:=K.obj _ _ hid;refine⟨rfl,fun c d=>?_⟩;simp only[rel]at d;simp only[eD,rel];rw[q.len _ _ _ rfl];obtain⟨h1,M,y⟩:=d;refine⟨h1,q.past,fun _=>?_⟩;rw[K.cU.loc _ u];exact y ⟨_,by rw[K.hH]; exact bq hid,q.af⟩
   ·cases h
  ·cases h
 ·split at h
  ·rename_i ks v rows hid
   split at h
   ·rename_i k
    obtain⟨rfl,rfl,rfl⟩:=k;cases h;obtain⟨u,q⟩:=K.obj _ _ hid;refine⟨rfl,fun c d=>?_⟩;simp only[rel]at d;simp only[eD,rel,lL,wF,List.tail_cons,G.int,a8];obtain⟨h1,M,y⟩:=d;refine⟨h1,q.past,fun _=>?_⟩;rw[K.cU.loc _ u];exact y ⟨_,by rw[K.hH]; exact bq hid,q.af⟩
   ·cases h
  ·cases h
 ·split at h
  ·rename_i ks v rows hid
   split at h
   ·rename_i k
    obtain⟨rfl,rfl,rfl,rfl⟩:=k;cases h;obtain⟨u,q⟩:=K.obj _ _ hid;refine⟨rfl,fun c d=>?_⟩;simp only[rel]at d;simp only[eD,rel,lL,wF,G.int,a8];obtain⟨h1,M,y⟩:=d;refine⟨h1,q.past,fun _=>?_⟩;rw[K.cU.loc _ u];exact y ⟨_,by rw[K.hH]; exact bq hid,q.af⟩
   ·cases h
  ·cases h
 ·split at h
  ·rename_i rows d
   cases h;exact⟨rfl,fun c k=>dJ K.cU.bG (.listF _ rows) rfl (J' d k)⟩
  ·split at h
   ·split at h
    ·rename_i hid
     split at h
     ·rename_i k
      obtain⟨rfl,rfl,rfl,B,I⟩:=k;simp only[aY,bg]at h;obtain⟨h1,rfl⟩:=h;have B:=Kd.ix B;subst B;exact⟨rfl,fun c d=>Wa K hid I (sY h1) d⟩
     ·cases h
    ·cases h
   ·cases h
 ·split at h
  ·rename_i O V1 rows cl hid
   split at h
   ·rename_i k
    subst k;cases h;obtain⟨u,q⟩:=K.obj _ _ hid;have J:=q.flat (fun _ _ _ h=>by cases h);refine⟨rfl,fun c d=>?_⟩;simp only[rel]at d;simp only[eD,rel];obtain⟨h1,M,y⟩:=d;refine⟨h1,by have:=q.past; rwa [J]at this,fun _=>?_⟩;rw[K.cU.loc _ u];exact y ⟨_,by rw[K.hH]; exact bq hid,q.af⟩
   ·cases h
  ·rename_i U O W rows cl hid
   split at h
   ·rename_i k
    subst k;cases h;obtain⟨u,q⟩:=K.obj _ _ hid;have J:=q.flat (fun _ _ _ h=>by cases h);refine⟨rfl,fun c d=>?_⟩;simp only[rel]at d;simp only[eD,rel];obtain⟨h1,M,y⟩:=d;refine⟨h1,by have:=q.past; rwa [J]at this,fun _=>?_⟩;rw[K.cU.loc _ u];exact y ⟨_,by rw[K.hH]; exact bq hid,q.af⟩
   ·cases h
  ·rename_i U O KI1 VI1 rows mem cl hid
   split at h
   ·rename_i k
    subst k;cases h;obtain⟨u,q⟩:=K.obj _ _ hid;have J:=q.flat (fun _ _ _ h=>by cases h);refine⟨rfl,fun c d=>?_⟩;simp only[rel]at d;simp only[eD,rel];obtain⟨h1,M,y⟩:=d;refine⟨h1,by have:=q.past; rwa [J]at this,fun _=>?_⟩;rw[K.cU.loc _ u];exact y ⟨_,by rw[K.hH]; exact bq hid,q.af⟩
   ·cases h
  ·cases h
 ·cases h; exact⟨rfl,fun c d=>by simp only[rel]at d; subst d; simp[eD,rel,G.int]⟩
 ·split at h
  ·rename_i k
   obtain⟨rfl,k⟩:=k;cases h;refine⟨rfl,fun c d=>?_⟩;simp only[rel]at d;simp only[eD,rel];obtain⟨cs,r1,r2⟩:=d;exact⟨cs,r1,Ko K k _ r2⟩
  ·cases h
 ·cases h; exact⟨rfl,fun c d=>by simpa only[eD,rel]using d⟩
 ·cases h
theorem CG(K:gY H e fz lens E E0):∀{k:List eC} {as:List AV} {g:List G},fi H e fz k as=some (true,g)→∀(rest:List G),
  g.length=nB k∧as.length=k.length∧(iz lens k (g++rest)).length=k.length ∧
   (∀ cs,ah E as cs→ah E0 (iz lens k (g++rest)) cs)∧∀ b o,E0.w.heap[b]? = E.w.heap[b]? → ct E as b o→ct E0 (iz lens k (g++rest)) b o
 | [],[],g,h,rest=>by
  simp only[fi,aY,bg]at h;obtain⟨_,rfl⟩:=h;refine⟨rfl,rfl,rfl,fun cs d=>?_,fun b o _ d=>by simp[iz,ct]⟩;cases cs with
  |nil=>simp[iz,ah]
  |cons _ _=>simp[ah]at d
 | sh::k,a::as,g,h,rest=>by
  simp only[fi]at h;split at h
  ·rename_i b g1 U g2 h1 y
   simp only[aY,bg,aA]at h;obtain⟨⟨rfl,rfl⟩,rfl⟩:=h;obtain⟨p1,u⟩:=Kp K h1 (g2++rest);obtain⟨B,I,J,M,N⟩:=CG K y rest;have q:ef sh.sz (g1++(g2++rest))=g2++rest:=by rw[←p1]; exact nC g1 _
   refine⟨by simp only[nB,e9,p1,B],by simp only[cz,I],?_,?_,?_⟩
   ·simp only[iz,fY,q,cz,J]
   ·intro cs d
    cases cs with
    |nil=>simp[ah]at d
    | cons c cs =>
     simp only[ah]at d;simp only[iz,fY,q,ah];exact⟨u c d.1,M cs d.2⟩
   ·intro b o hb d
    simp only[ct]at d;simp only[iz,fY,q,ct];obtain⟨⟨v,r1,r2,r3⟩,O⟩:=d;exact⟨⟨v,by rw[World.qg hb]; exact r1,r2,u v r3⟩,N b (o+1) hb O⟩
  ·cases h
 | [],_::_,_,h,_=>by simp[fi]at h
 |_::_,[],_,h,_=>by simp[fi]at h
theorem Kq(K:gY H e fz lens E E0){sh:Sh}{a:AV}{g:List G}(h:jX H e fz sh a=some (true,g))(rest:List G) :
  g.length=sh.sz∧∀ c,rel E a c→rel E0 (pn lens sh (g++rest)) c:=by
 cases sh with
 |s a0=>exact Kp K h rest
 | clo f caps =>
  cases a<;>simp only[jX]at h<;>try cases h
  rename_i g1 vs;split at h
  ·rename_i k
   subst k;obtain⟨q,v,y,u,B⟩:=CG K h rest;refine⟨q,fun c d=>?_⟩;simp only[rel]at d;simp only[pn,rel];obtain⟨cs,r1,r2⟩:=d;exact⟨cs,r1,u _ r2⟩
  ·cases h
theorem ux(K:gY H e fz lens E E0):∀{d:List Sh} {as:List AV} {g:List G},eg H e fz d as=some (true,g)→∀(rest:List G),
  g.length=CD d∧as.length=d.length∧(fh lens d (g++rest)).length=d.length∧(∀ cs,ah E as cs→ah E0 (fh lens d (g++rest)) cs)
 | [],[],g,h,rest=>by
  simp only[eg,aY,bg]at h;obtain⟨_,rfl⟩:=h;refine⟨rfl,rfl,rfl,fun cs k=>?_⟩;cases cs with
  |nil=>simp[fh,ah]
  |cons _ _=>simp[ah]at k
 | sh::d,a::as,g,h,rest=>by
  simp only[eg]at h;split at h
  ·rename_i b g1 M g2 h1 u
   simp only[aY,bg,aA]at h;obtain⟨⟨rfl,rfl⟩,rfl⟩:=h;obtain⟨p1,v⟩:=Kq K h1 (g2++rest);obtain⟨y,B,I,J⟩:=ux K u rest;have q:ef sh.sz (g1++(g2++rest))=g2++rest:=by rw[←p1]; exact nC g1 _
   refine⟨by simp only[CD,e9,p1,y],by simp only[cz,B],by simp only[fh,fY,q,cz,I],?_⟩;intro cs k;cases cs with
   |nil=>simp[ah]at k
   | cons c cs =>
    simp only[ah]at k;simp only[fh,fY,q,ah];exact⟨v c k.1,J cs k.2⟩
  ·cases h
 | [],_::_,_,h,_=>by simp[eg]at h
 |_::_,[],_,h,_=>by simp[eg]at h
theorem Kr(K:gY H e fz lens E E0):∀{u:List Sh} {as:List AV} {g:List G},eg H e fz u as=some (true,g)→∀{rest:List G} {k:Nat} {x v:AV} {c:Value},
  as[k]? = some x→(fh lens u (g++rest))[k]? = some v→rel E x c→rel E0 v c
 | [],[],_,_,_,_,_,_,_,d,_,_=>by simp at d
 | sh::u,a::as,g,h,rest,k,x,v,c,d,q,y=>by
  simp only[eg]at h;split at h
  ·rename_i b g1 M g2 h1 B
   simp only[aY,bg,aA]at h;obtain⟨⟨rfl,rfl⟩,rfl⟩:=h;obtain⟨p1,I⟩:=Kq K h1 (g2++rest);have J:ef sh.sz (g1++(g2++rest))=g2++rest:=by rw[←p1]; exact nC g1 _
   simp only[fh,fY,J]at q;cases k with
   | zero =>
    simp at d q;subst d;subst q;exact I c y
   |succ k=>exact Kr K B (by simpa using d) (by simpa using q) y
  ·cases h
 | [],_::_,_,h,_,_,_,_,_,_,_,_=>by simp[eg]at h
 |_::_,[],_,h,_,_,_,_,_,_,_,_=>by simp[eg]at h
theorem Ks(K:gY H e fz lens E E0){sh:cn}{o:ai}{g:List G}(h:gr H e fz sh o=some (true,g))(rest:List G)
  {j:Nat} (W:j<e.ids.length) (hlab:∀ l,sh.iR=some l→E0.X.r l=E.X.r l) (ho:aO E (e.at j) o.den):aO E0 j (eL lens sh (g++rest)).den:=by
 have I:∀ b:Nat,E0.w.heap[b]? = E.w.heap[b]? := fun b=>by rw[K.cU.w]
 have J:=K.cU.loc j W;unfold gr at h;split at h
 ·split at h
  ·rename_i y
   cases h;have y:=Kd.ix y;subst y;simp only[eL,ai.den,aO]at ho⊢;rcases ho with⟨h1,d⟩|⟨b,m,h1,d,u,M,h5⟩
   ·exact .inl ⟨by rw[J,h1],d⟩
   ·exact .inr ⟨b,m,by rw[J,h1],qi (I b) d,u,M,km K.cU.bG _ M (I b) h5⟩
  ·cases h
 ·rename_i shs cells
  obtain⟨q1,q2,q3,q5,q6⟩:=CG K h rest;simp only[eL,ai.den,aO]at ho⊢;obtain⟨b,n,h1,d,u⟩:=ho;exact⟨b,n,by rw[J,h1],by rw[q3,←q2]; exact qi (I b) d,q6 b 0 (I b) u⟩
 ·split at h
  ·rename_i y
   cases h;simp only[aA]at y;have h1:=Ct.jq y.1;have d:=Ct.jq y.2;subst h1;subst d;simp only[eL,ai.den,aO]at ho⊢;obtain⟨b,n,ms,h1,d,u⟩:=ho;refine⟨b,n,ms,by rw[J,h1],?_,iy K.cU.bG u⟩;rw[I b];simpa[G.int]using d
  ·cases h
 ·rename_i l T B l' T' B' s
  split at h
  ·rename_i y
   cases h;simp only[aA]at y;obtain⟨h1,d,u⟩:=y;have h1:=bu h1;have d:=bu d;have u:=bu u;subst h1 d u;simp only[eL,ai.den,aO]at ho⊢;obtain⟨b,n,p,v,k,q,g1,g2,g3,g4,g5,g6⟩:=ho;have N:=hlab l rfl;exact⟨b,n,p,v,k,q,by rw[J,g1],by rw[I b,g2],g3,by rw[N,g4],by rw[N]; exact g5,AS (fun g m _=>I g) (by simpa[G.str]using g6)⟩
  ·cases h
 ·rename_i l K0 ks l' K' ks' rows clock
  split at h
  ·rename_i y
   cases h;simp only[aA]at y;obtain⟨h1,d,u⟩:=y;have h1:=bu h1;have d:=Ct.jq d;have u:=Kd.ix u;subst h1 d u;simp only[eL,ai.den,aO]at ho⊢;obtain⟨b,n,ms,g1,g2,g3,g4⟩:=ho;have N:=hlab l rfl;refine⟨b,n,ms,by rw[J,g1],?_,iy K.cU.bG g3,tb (E:=E) (fun h g m hk=>⟨by rw[N]; exact hk,I g⟩) (fun _ _ _ _ _ O U hc V=>km K.cU.bG _ hc U V) g4⟩;rw[I b];simpa[G.int]using g2
  ·cases h
 ·rename_i l K0 KI VI l' K' KI' VI' rows mem clock
  split at h
  ·rename_i y
   cases h;simp only[aA]at y;obtain⟨h1,d,u,M⟩:=y;have h1:=bu h1;have d:=Ct.jq d;have u:=Ct.jq u;have M:=Ct.jq M;subst h1 d u M;simp only[eL,ai.den,aO]at ho⊢;obtain⟨b,n,ms,g1,g2,g3,g4⟩:=ho;have N:=hlab l rfl;refine⟨b,n,ms,by rw[J,g1],?_,iy K.cU.bG g3,AW N (fun _ O _ _=>I O) (fun _ _ _=>iy K.cU.bG) g4⟩;rw[I b];simpa[G.int]using g2
  ·cases h
 ·cases h
end cU
def cn.up:cn→Nat
 |.vec _ u=>u
 |_=>0
theorem CH{H:List ai}{e:bN}{fz:Nat→Bool}{lens:c8}{sh:cn}{o:ai}{b:Bool}{g d:List G}(h:gr H e fz sh o=some (b,g)) :
  o.den.aF = some (rb o)∧(eL lens sh d).den.aF = some sh.up∧((∀ ks v rows,o≠.vec ks v rows)→sh.up=0):=by
 unfold gr at h;split at h
 ·exact⟨rfl,rfl,fun k=>(k _ _ _ rfl).elim⟩
 ·exact⟨rfl,rfl,fun _=>rfl⟩
 ·exact⟨rfl,rfl,fun _=>rfl⟩
 ·exact⟨rfl,rfl,fun _=>rfl⟩
 ·exact⟨rfl,rfl,fun _=>rfl⟩
 ·exact⟨rfl,rfl,fun _=>rfl⟩
 ·cases h
theorem Wd{H:List ai}{e:bN}{fz:Nat→Bool}{sh:eC}{a:AV}{b:Bool}{g:List G}(h:fq H e fz sh a=some (b,g)):g.length=sh.sz:=by
 unfold fq at h;split at h<;>(try split at h)<;>(try split at h)<;>(try split at h)<;>(try split at h)<;>first
  |(cases h; rfl)
  |cases h
theorem Kt{H:List ai}{e:bN}{fz:Nat→Bool}:∀{d:List eC} {as:List AV} {b:Bool} {g:List G},fi H e fz d as=some (b,g)→g.length=nB d
 | [],[],_,g,h=>by simp[fi]at h; simp[←h.2,nB]
 | sh::d,a::as,b,g,h=>by
  simp only[fi]at h;split at h
  ·rename_i b g1 q g2 h1 k
   simp only[aY,bg]at h;obtain⟨_,rfl⟩:=h;simp only[nB,e9,Wd h1,Kt k]
  ·cases h
 | [],_::_,_,_,h|_::_,[],_,_,h=>by simp[fi]at h
theorem We{H:List ai}{e:bN}{fz:Nat→Bool}{sh:cn}{o:ai}{b:Bool}{g:List G}(h:gr H e fz sh o=some (b,g)):g.length=sh.sz:=by
 unfold gr at h;split at h
 ·split at h
  ·cases h; rfl
  ·cases h
 ·exact Kt h
 ·split at h
  ·cases h; rfl
  ·cases h
 ·split at h
  ·cases h; rfl
  ·cases h
 ·split at h
  ·cases h; rfl
  ·cases h
 ·split at h
  ·cases h; rfl
  ·cases h
 ·cases h
theorem uy{H:List ai}{e:bN}{fz:Nat→Bool}:∀{os:List cn} {ids:List Nat} {g:List G},iS H e fz os ids=some (true,g)→∀(rest:List G) (lens:c8),
  g.length=ll os∧ids.length=os.length∧(cO lens os (g++rest)).length=os.length ∧
  (∀ (j : Nat) (sh : cn), os[j]? = some sh → ∃ i o g1 q, ids[j]? = some i ∧ H[i]? = some o ∧ gr H e fz sh o = some (true, g1) ∧ (cO lens os (g ++ rest))[j]? = some (eL lens sh (g1 ++ q)) ∧
   (cI os (g++rest)).af j=sh.up∧∀ ks v rows,o=.vec ks v rows→(cI os (g++rest)).len j=rows.length)
 | [],[],g,h,rest,lens=>by
  simp only[iS,aY,bg]at h;obtain⟨_,rfl⟩:=h;exact⟨rfl,rfl,rfl,fun j sh d=>by simp at d⟩
 | sh::os,i::ids,g,h,rest,lens=>by
  simp only[iS]at h;split at h
  case h_2=>cases h
  rename_i o ho;split at h
  ·rename_i b g1 b' g2 h1 I
   simp only[aY,bg,aA]at h;obtain⟨⟨rfl,rfl⟩,rfl⟩:=h;obtain⟨J,M,N,O⟩:=uy I rest lens;have u:=We h1;have k:ef sh.sz (g1++(g2++rest))=g2++rest:=by rw[←u]; exact nC g1 _
   refine⟨by simp only[ll,e9,u,J],by simp only[cz,M],by simp only[cO,fY,k,cz,N],fun j y d=>?_⟩;cases j with
   | zero =>
    simp at d;subst d;refine⟨i,o,g1,g2++rest,rfl,ho,h1,by simp only[cO,fY,List.getElem?_cons_zero],?_,?_⟩
    ·unfold cI c8.af
     cases sh<;>rfl
    ·rintro ks v rows rfl
     unfold gr at h1;split at h1
     ·rename_i heq
      cases heq;split at h1
      ·cases h1
       simp[cI,c8.len,G.rows]
      ·cases h1
     ·rename_i heq; cases heq
     ·rename_i heq; cases heq
     ·rename_i heq; cases heq
     ·rename_i heq; cases heq
     ·rename_i heq; cases heq
     ·cases h1
   | succ j =>
    obtain⟨U,o',B,q,r1,r2,r3,V,W,r6⟩:=O j y (by simpa using d);refine⟨U,o',B,q,by simpa using r1,r2,r3,by simpa only[cO,fY,k,SN]using V,?_,?_⟩
    ·simpa only[cI,c8.af,fY,k,ahS]using W
    ·simpa only[cI,c8.len,fY,k,ahS]using r6
  ·cases h
 | [],_::_,_,h,_,_=>by simp[iS]at h
 |_::_,[],_,h,_,_=>by simp[iS]at h
end Go.AL

namespace Go.AL
open Go
variable [Dr]
abbrev rh(a b:Bool):Bool:=Bool.casesOn a false b
theorem rj{a b:Bool}:rh a b=true↔a=true∧b=true:=by cases a<;>simp
open Classical in
noncomputable def mf(E:Env)(H0:List ab)(l:Nat):List (Option (Option (Nat × Nat))):=if ∃(j:Nat) (o:ab),H0[j]? = some o∧o.label=some l then E.X.r l else (E.X.r l).map fun _=>none
theorem Wf{E:Env}{H0:List ab}{l j:Nat}{o:ab}(h:H0[j]? = some o)(d:o.label=some l):mf E H0 l=E.X.r l:=if_pos ⟨j,o,h,d⟩
theorem ye{E:Env}{H0:List ab}{l h:Nat}{q:Option (Nat × Nat)}(d:(mf E H0 l)[h]? = some (some q)):(E.X.r l)[h]? = some (some q)∧∃(j:Nat) (o:ab),H0[j]? = some o∧o.label=some l:=by
 unfold mf at d;split at d
 ·rename_i k
  exact⟨d,k⟩
 ·rw [cd] at d
  cases g:(E.X.r l)[h]? with
  |none=>rw[g]at d; cases d
  |some y=>rw[g]at d; cases d
theorem Wg(E:Env)(H0:List ab)(l:Nat):(mf E H0 l).length=(E.X.r l).length:=by
 unfold mf;split
 ·rfl
 ·simp
noncomputable def g_(E:Env)(H0:List ab)(ids:List Nat):Env:=⟨E.w,H0,ids.map fun i=>E.loc.getD i none,E.X.re (mf E H0)⟩
theorem Ku(E:Env)(H0:List ab)(ids:List Nat):∀ l h,h<(E.X.r l).length→h<((g_ E H0 ids).X.r l).length∧∀ q,((g_ E H0 ids).X.r l)[h]? = some (some q)→(E.X.r l)[h]? = some (some q) :=
 fun l h d=>⟨by show h<(mf E H0 l).length; rw[Wg]; exact d,fun q g=>(ye (E:=E) (H0:=H0) g).1⟩
theorem Kv{E:Env}{H0:List ab}{ids:List Nat}{b:Nat}(h:(g_ E H0 ids).own b):E.own b:=by
 rcases h with⟨j,c,g⟩|⟨l,k,c,g⟩
 ·simp only [g_, cd] at g
  obtain⟨i,_,d⟩:=dQ.1 g;rw[cr]at d;cases he:E.loc[i]? with
  |none=>rw[he]at d; cases d
  |some y=>rw[he]at d; simp at d; exact .inl ⟨i,c,by rw[he,d]⟩
 ·exact .inr ⟨l,k,c,(ye g).1⟩
def hG(ids:List Nat)(i:Nat):Bool := !ids.any (ad i)
theorem Kw{ids:List Nat}{i:Nat}(h:hG ids i=true):i∉ids:=by
 intro hm;have:ids.any (ad i)=true:=jH.2 ⟨i,hm,by simp⟩;simp[hG,this]at h
theorem Kx{E:Env}{H:List ai}(hH:E.H=ao H)(HE:au E){ids:List Nat}(hn:ids.Nodup){os:List cn}{g:List G}(h:iS H (bK H ids) (hG ids) os ids=some (true,g))(rest:List G) :
  gY H (bK H ids) (hG ids) (cI os (g++rest)) E (g_ E (ao (cO (cI os (g++rest)) os (g++rest))) ids) ∧
   au (g_ E (ao (cO (cI os (g++rest)) os (g++rest))) ids):=by
 obtain⟨p0,p1,p2,p3⟩:=uy h rest (cI os (g++rest));generalize J:g_ E (ao (cO (cI os (g++rest)) os (g++rest))) ids=E0;have hElen:E.loc.length=H.length:=by rw[HE.len,hH,en]
 have eids:(bK H ids).ids=ids:=rfl;have W:∀ j x,E0.loc[j]? = some x→j<ids.length∧∃ i,ids[j]? = some i∧E.loc.getD i none=x:=by
  intro j x I;rw[←J]at I;simp only[g_,cd]at I;obtain⟨i,h1,B⟩:=dQ.1 I;exact⟨aK h1,i,h1,B⟩
 have getD_some:∀{i:Nat} {x:Nat × Nat},E.loc.getD i none=some x→E.loc[i]? = some (some x):=by
  intro i x I;rw[cr]at I;cases he:E.loc[i]? with
  |none=>rw[he]at I; cases I
  |some y=>rw[he]at I; simp at I; rw[I]
 have hown:∀ b,E0.own b→E.own b:=by
  rintro b (⟨j,c,u⟩|⟨l,k,c,u⟩)
  ·obtain ⟨_, i, _, B⟩ := W j _ u
   exact .inl ⟨i,c,getD_some B⟩
  ·rw [← J] at u
   exact .inr ⟨l,k,c,(ye u).1⟩
 have hw:E0.w=E.w:=by rw[←J]; rfl
 have hX:E0.X.x=E.X.x:=by rw[←J]; rfl
 have V:∀(l k:Nat) q,(E0.X.r l)[k]? = some (some q)→(E.X.r l)[k]? = some (some q)∧∃(j:Nat) (o:ab),E0.H[j]? = some o∧o.label=some l:=fun l k q hq=>by
  rw[←J]at hq⊢;exact ye hq
 have hatl:∀ j,j<ids.length→ids[j]? = some ((bK H ids).at j):=fun j u=>gq (e:=bK H ids) u;have hobjs:∀ j,j<ids.length→∃ sh o g1 M,os[j]? = some sh∧H[(bK H ids).at j]? = some o∧gr H (bK H ids) (hG ids) sh o=some (true,g1) ∧
   (cO (cI os (g++rest)) os (g++rest))[j]? = some (eL (cI os (g++rest)) sh (g1++M)) ∧
   (cI os (g++rest)).af j=sh.up∧∀ ks v rows,o=.vec ks v rows→(cI os (g++rest)).len j=rows.length:=by
  intro j u;have hj':j<os.length:=by omega
  obtain⟨i,o,g1,M,q1,N,U,O,q5,q6⟩:=p3 j os[j] (bO hj');rw[hatl j u]at q1;cases q1;exact⟨os[j],o,g1,M,bO hj',N,U,O,q5,q6⟩
 have hK:gY H (bK H ids) (hG ids) (cI os (g++rest)) E E0:=by
  refine⟨hH,HE,fun i hi b n hb=>?_,⟨fun b hb=>⟨⟨by rw[hw]; exact hb.1,fun ho=>hb.2.1 (hown b ho),by rw[hX]; exact hb.2.2⟩,by rw[hw]⟩,hw,fun j u=>?_,fun j o l h1 B=>by rw[←J]at h1⊢; exact Wf h1 B⟩,fun j o ho=>?_⟩
  ·refine ⟨by rw [hw]; exact (HE.lt _ _ _ hb).1, ?_, by rw [hX]; exact (HE.lt _ _ _ hb).2⟩
   rintro(⟨j,c,u⟩|⟨l,k,c,u⟩)
   case inr=>exact HE.cQ _ _ _ _ _ _ hb (V l k _ u).1
   obtain⟨_,i',h1,B⟩:=W j _ u;have:=HE.inj _ _ _ _ _ hb (getD_some B);subst this;exact Kw hi (eO h1)
  ·rw [← J]
   simp only[g_,cd,hatl j u,eF];have hlt:(bK H ids).at j<E.loc.length:=by
    obtain⟨sh,o,g1,M,_,N,_⟩:=hobjs j u;rw[hElen];exact aK N
   rw[cr,bO hlt];rfl
  ·have u:j<ids.length:=by
    rcases jg j ids.length with hlt|hge
    ·exact hlt
    ·have h1 := aK ho
     have B:=q_ (e:=bK H ids) hge;have h3:(bK H ids).base=H.length:=rfl;omega
   refine⟨u,?_⟩;obtain⟨sh,o',g1,M,q1,N,U,O,q5,q6⟩:=hobjs j u;rw[ho]at N;cases N;obtain⟨r1,r2,r3⟩:=CH (lens:=cI os (g++rest)) (d:=g1++M) U;have hq4:E0.H[j]? = some (eL (cI os (g++rest)) sh (g1++M)).den:=by
    rw[←J];exact bq O
   exact⟨r1,⟨_,hq4,by rw[q5]; exact r2⟩,fun o0 h0=>by rw[hq4]at h0; cases h0; rw[CE,CF U],q6,fun hv=>by rw[q5]; exact r3 hv⟩
 have hlabs:∀(j:Nat) o,E0.H[j]? = some o→j<ids.length∧∃ o',E.H[(bK H ids).at j]? = some o'∧o'.label=o.label:=fun j o ho=>by
  rw[←J]at ho;simp only[g_,ao,cd]at ho;obtain⟨o',h1,rfl⟩:=dQ.1 ho;have u:j<ids.length:=by
   have:=aK h1;omega
  obtain⟨sh,oo,g1,M,q1,N,U,O,_⟩:=hobjs j u;rw[h1]at O;cases O;exact⟨u,oo.den,by rw[hH]; exact bq N,by rw[Kn U,ra]⟩
 refine⟨hK,?_,?_,?_,fun b I=>?_,fun j o ho=>?_,HE.eR.bG hK.cU.bG,fun l k l' k' b m n h1 B=>HE.ew l k l' k' b m n (V _ _ _ h1).1 (V _ _ _ B).1,fun i b m l k n hi B=>?_,fun l k b m h1=>by rw[hw,hX]; exact HE.cy l k b m (V _ _ _ h1).1,fun i j o o' l hi u h1 B=>?_,fun l hn k q hq=>?_⟩
 ·rw [← J]
  simp only[g_,dz,en,p2,p1]
 ·intro i j b m n hi u
  obtain⟨i1,i2,i3,i4⟩:=W i _ hi;obtain⟨j1,j2,j3,j4⟩:=W j _ u;have:=HE.inj _ _ _ _ _ (getD_some i4) (getD_some j4);subst this;exact(AF i1 hn).1 (by rw[i3,j3])
 ·intro i b m hi
  obtain⟨_,i2,_,i4⟩:=W i _ hi;rw[hw,hX];exact HE.lt _ _ _ (getD_some i4)
 ·rw [hw]
  rw[hX]at I;exact HE.X b I
 ·rw [← J] at ho
  simp only[g_,ao,cd]at ho;obtain⟨o',h1,rfl⟩:=dQ.1 ho;have u:j<ids.length:=by
   have:=aK h1;omega
  obtain⟨sh,oo,g1,M,q1,N,U,O,q5,q6⟩:=hobjs j u;rw[h1]at O;cases O;refine Ks hK U M (by exact u) (fun l hl=>?_) (HE.obj _ _ (by rw[hH]; exact bq N));refine hK.cU.iR j (eL (cI os (g++rest)) sh (g1++M)).den l ?_ (by rw[ra,hl]);rw[←J];exact bq h1
 ·obtain ⟨_, i', _, h3⟩ := W i _ hi
  exact HE.cQ _ _ _ _ _ _ (getD_some h3) (V _ _ _ B).1
 ·obtain ⟨i1, oi, a1, a2⟩ := hlabs i o hi
  obtain⟨j1,oj,b1,b2⟩:=hlabs j o' u;have:=HE.uniq _ _ _ _ l a1 b1 (by rw[a2,h1]) (by rw[b2,B]);exact(AF i1 hn).1 (by rw[hatl i i1,hatl j j1,this])
 ·obtain ⟨_, j, o, h1, B⟩ := V l k q hq
  exact hn j o h1 B
def nodupB:List Nat→Bool
 | []=>true
 |i::is => !is.any (ad i)&&nodupB is
theorem rk:∀{l:List Nat},nodupB l=true→l.Nodup
 | [],_=>List.nodup_nil
 | i::is,h=>by
  simp only[nodupB,aA,mM]at h;refine lQ.2 ⟨fun hm=>?_,rk h.2⟩;have:is.any (ad i)=true:=jH.2 ⟨i,hm,by simp⟩;rw[h.1]at this;cases this
def mg(H:List ai):Nat→Nat→List Nat→List cn→Bool
 |_,0,_,_=>true
 |i,m+1,id::ids,o::os=>ad id i&&((ad (rf H i) 0 || !ad o.up 0)&&mg H (i+1) m ids os)
 |_,_,_,_=>false
theorem yf{H:List ai}:∀{i m:Nat} {ids:List Nat} {os:List cn},mg H i m ids os=true→∀ j,j<m→ids[j]? = some (i+j)∧∃ o,os[j]? = some o∧(rf H (i+j)=0∨o.up≠0)
 |_,0,_,_,_,j,g=>by omega
 | i,m+1,id::ids,o::os,h,j,g=>by
  simp only[mg,aA,Bool.or_eq_true,mM]at h;obtain⟨h1,d,k⟩:=h;have h1:=bu h1;subst h1;cases j with
  | zero =>
   refine⟨rfl,o,rfl,?_⟩;rcases d with d|d
   ·exact .inl (bu d)
   ·right
    intro e;rw[e]at d;cases d
  | succ j =>
   have:=yf k j (by omega);rw[show id+1+j=id+(j+1) from by omega]at this;simpa using this
 |_,_+1,[],_,h,_,_=>by simp[mg]at h
 |_,_+1,_::_,[],h,_,_=>by simp[mg]at h
theorem Ky{E:Env}{H:List ai}(hH:E.H=ao H){ids:List Nat}{os:List cn}{m:Nat}{lens:c8}{E0:Env}(y:gY H (bK H ids) (hG ids) lens E E0)(hX:E0.X.x=E.X.x∧E0.X.z=E.X.z)
  (hrl:∀ l h,h<(E.X.r l).length→h<(E0.X.r l).length∧∀ q,(E0.X.r l)[h]? = some (some q)→(E.X.r l)[h]? = some (some q))
  (hok:mg H 0 m ids os=true) (V:∀ j,j<m→∃ o sh,H[(bK H ids).at j]? = some o∧os[j]? = some sh∧lens.af j=sh.up) (W:∀ b,E0.own b→E.own b):E.du m E0:=by
 have key:∀ id,id<m→(bK H ids).at id=id∧∃ o sh,H[id]? = some o∧os[id]? = some sh∧lens.af id=sh.up∧(rb o=0∨sh.up≠0)∧yd E0 lens id o∧id<ids.length:=by
  intro id hid;obtain⟨h1,o',M,B⟩:=yf hok id hid;rw[cF]at h1 B;have J:=aK h1;have g:=gq (e:=bK H ids) (j:=id) J;rw[show (bK H ids).ids=ids from rfl,h1]at g;have g:=(gd g).symm;obtain⟨o,sh,d,k,I⟩:=V id hid;obtain⟨r1,r2⟩:=y.obj id o d;rw[g]at d;rw[M]at k;have k:=gd k;rw[←k]at I;refine⟨g,o,o',d,M,I,?_,r2,J⟩;rcases B with B|B
  ·left
   simpa[rf,d]using B
  ·exact .inr B
 refine⟨fun id hid hp=>?_,by rw[y.cU.w]; exact aG _,fun b _ _=>by rw[y.cU.w],fun b _ hb ho=>hb (W b ho),fun id hid hp hl=>?_,fun b _=>by rw[hX.1,hX.2]; exact⟨Iff.rfl,Iff.rfl⟩,hrl,by rw[y.cU.w]; exact⟨rfl,rfl,rfl,by first|exact fun _=>aG _|exact fun _=>eM _ _⟩,fun id hid l o h1 M _=>?_⟩
 rotate_right
 ·obtain ⟨g, o1, sh, d, k, I, N, u, J⟩ := key id hid
  obtain⟨o0,r1,r2⟩:=u.obj;rw[hH,bq d]at h1;cases h1;have hm:=u.mm o0 r1;rw[M]at hm;exact⟨⟨[],by rw[c_]; exact y.cU.iR id o0 l r1 (ab.ki hm)⟩,o0,r1,hm⟩
 ·obtain ⟨_, o, sh, d, k, I, N, u, _⟩ := key id hid
  obtain⟨o0,r1,r2⟩:=u.obj;exact⟨o0,r1,ab.AO r2,fun v _=>eh v⟩
 ·obtain ⟨g, o, sh, d, k, I, N, u, J⟩ := key id hid
  obtain⟨o0,r1,r2⟩:=u.obj;obtain⟨o1,r3,O⟩:=hl;rw[r1]at r3;cases r3;rw[r2]at O;have U:lens.af id=0:=gd O;rw[I]at U;have hv:rb o=0:=N.resolve_right (fun h=>h U);refine⟨⟨o.den,by rw[hH]; exact bq d,by rw[u.af,hv]⟩,?_⟩;have:=y.cU.loc id J;rw[g]at this;exact this
structure mh where
 n:Nat
 uz:List (Nat × Sh)
 cJ:List cn
def rm:Nat→List (Nat × Sh)→List AV→AV
 | i,(j,_)::d,v::vs=>match ad i j with
  |true=>v
  |false=>rm i d vs
 |_,_,_=>.undef
def aR(S:mh)(d:List G):ar :=
 ⟨(dG S.n).map fun i=>rm i S.uz (fh (cI S.cJ d) (S.uz.map (·.2)) (ef (ll S.cJ) d)),cO (cI S.cJ d) S.cJ d⟩
def CI(m:Nat)(S:mh)(ids:List Nat)(s:ar):Option (Bool × List G) :=
 match ad s.fr.length S.n&&(nodupB ids&&mg s.H 0 m ids S.cJ)with
 |false=>none
 | true=>match iS s.H (bK s.H ids) (hG ids) S.cJ ids,eg s.H (bK s.H ids) (hG ids) (S.uz.map (·.2)) (S.uz.map fun p=>s.fr.getD p.1 .undef) with
  |some (b,g),some (d,h)=>some (b&&d,g++h)
  |_,_=>none
theorem Kz{E:Env}:∀{d:List (Nat × Sh)} {vs:List AV} {cs:List Value} {i:Nat} {c:Value},(∀(k:Nat) (p:Nat × Sh) (v:AV),d[k]? = some p→vs[k]? = some v→∀ c,cs[p.1]? = some c→rel E v c)→cs[i]? = some c →
  rel E (rm i d vs) c
 | [],_,_,_,_,_,_=>by simp[rm,rel]
 |_::_,[],_,_,_,_,_=>by simp[rm,rel]
 | (j,sh)::d,v::vs,cs,i,c,h,g=>by
  simp only[rm];split
  ·rename_i e
   have e:=bu e;subst e;exact h 0 (i,sh) v rfl rfl c g
  ·exact Kz (fun k p v hk q=>h (k+1) p v (by simpa using hk) (by simpa using q)) g
theorem Wh{m:Nat}{S:mh}{ids:List Nat}{s:ar}{d:List G}(h:CI m S ids s=some (true,d)):bx m s.den (aR S d).den:=fun E a y=>by
 unfold CI at h;split at h
 ·cases h
 rename_i q;simp only[aA]at q;obtain⟨hlen,B,M⟩:=q;have hlen:=bu hlen;have B:=rk B;split at h
 case h_2=>cases h
 rename_i b g b' u h1 U;simp only[aY,bg,aA]at h;obtain⟨⟨rfl,rfl⟩,rfl⟩:=h;have hH:E.H=ao s.H:=y.H;obtain⟨J,W⟩:=Kx hH y.heap B h1 u;obtain⟨p0,p1,p2,p3⟩:=uy h1 u (cI S.cJ (g++u));have hd:ef (ll S.cJ) (g++u)=u:=by rw[←p0]; exact nC g u
 have V:=ux J U [];rw[c_]at V;obtain⟨q1,q2,q3,q4⟩:=V;refine⟨ids.map fun i=>E.loc.getD i none,E.X.re (mf E (aR S (g++u)).den.H),⟨rfl,?_,y.defers,W⟩,?_⟩
 ·have hfr : ah E s.fr a.tmps.toList := y.fr
  obtain⟨f1,f2⟩:=lS.1 hfr;refine lS.2 ⟨?_,fun i x c hi q=>?_⟩
  ·simp only [ar.den, aR, dz, List.length_range]
   omega
  ·simp only [ar.den, aR, hd, cd] at hi
   obtain⟨i',I,rfl⟩:=dQ.1 hi;have hin:i<S.n:=by
    have:=aK I;simpa using this
   rw[List.getElem?_range hin]at I;cases I;refine Kz (cs:=a.tmps.toList) (fun k p v hk hv c q=>?_) q;have hk2:(S.uz.map fun p=>s.fr.getD p.1 .undef)[k]? = some (s.fr.getD p.1 .undef):=by simp[hk]
   have hx:rel E (s.fr.getD p.1 .undef) c:=by
    have N:=aK q;rw[←f1]at N;have e1:s.fr[p.1]? = some (s.fr.getD p.1 .undef):=by
     rw[cr,bO N];rfl
    exact f2 p.1 _ c e1 q
   exact Kr J U hk2 (by rw[c_]; exact hv) hx
 ·exact Ky hH J ⟨rfl,rfl⟩ (Ku E _ ids) M (fun j hj=>by
   obtain⟨r1,o',r2,_⟩:=yf M j hj;obtain⟨i,o,g1,rest1,t1,t2,t3,t4,t5,t6⟩:=p3 j o' r2;have O:=gq (e:=bK s.H ids) (j:=j) (aK t1);rw[show (bK s.H ids).ids=ids from rfl,t1]at O;cases O;exact⟨o,o',t2,r2,t5⟩) (fun b=>Kv)
/-! ### d array under a slice, cut to g slice -/
def CJ(slot:Nat)(s:ar):ar :=
 match s.fr.getD slot .undef with
 | .vec w id af off n=>match s.H[id]? with
  |some (.vec ks v rows)=>if af=v∧off=0∧w=ks.length then ⟨s.fr.set slot (.vec w id (v+1) 0 n),s.H.set id (.vec ks (v+1) (rows.take n))⟩ else s
  |_=>s
 |_=>s
theorem yg{E:Env}{a:AV}:∀{fr:List AV} {cs:List Value} {i:Nat},ah E fr cs→(∀ c,cs[i]? = some c→rel E a c)→ah E (fr.set i a) cs
 | [],cs,i,h,_=>by simpa using h
 |x::fr,[],i,h,_=>by simp[ah]at h
 | x::fr,c::cs,0,h,ha=>by
  simp only[ah]at h;simp only[List.set_cons_zero,ah];exact⟨ha c rfl,h.2⟩
 | x::fr,c::cs,i+1,h,ha=>by
  simp only[ah]at h;simp only[List.set_cons_succ,ah];exact⟨h.1,yg h.2 fun y d=>ha y (by simpa using d)⟩
theorem CK{E:Env}{fr:List AV}{cs:List Value}{i:Nat}{c:Value}(h:ah E fr cs)(g:cs[i]? = some c):rel E (fr.getD i .undef) c:=by
 obtain⟨h1,k⟩:=lS.1 h;have d:=aK g;rw[←h1]at d;have q:fr[i]? = some (fr.getD i .undef):=by
  rw[cr,bO d];rfl
 exact k i _ c q g
theorem Wi{m:Nat}{slot:Nat}{s:ar}:bx m s.den (CJ slot s).den:=by
 unfold CJ;split
 case h_2=>exact bx.refl _
 rename_i w id af off n hsl;split
 case h_2=>exact bx.refl _
 rename_i ks v rows hid;split
 case isFalse=>exact bx.refl _
 rename_i B;obtain⟨rfl,rfl,rfl⟩:=B;intro E a d;have hH:E.H=ao s.H:=d.H;have y:E.H[id]? = some (.vec ks.length af (rows.map (aJ ks))):=by rw[hH]; exact bq hid
 have ho:=d.heap.obj id _ y;obtain⟨l,I⟩:∃ l,E.loc[id]? = some l:=by
  have:id<E.loc.length:=by rw[d.heap.len]; exact aK y
  exact⟨_,bO this⟩
 have N:E.loc.set id l=E.loc:=la I;have M:ao (s.H.set id (.vec ks (af+1) (rows.take n)))=E.H.set id (.vec ks.length (af+1) ((rows.take n).map (aJ ks))):=by rw[df,hH]; rfl
 have hlc:∀ b n,l=some (b,n)→E.w.heap.size≤b∨∃ m,E.loc[id]? = some (some (b,m)):=fun b n hb=>.inr ⟨n,by rw[I,hb]⟩;have O:∀ v u,(ab.vec ks.length (af+1) ((rows.take n).map (aJ ks))).aF = some v→(ab.vec ks.length af (rows.map (aJ ks))).aF = some u→u≤v:=by
  intro v u h1 k;simp[ab.aF]at h1 k;omega
 have U:∀ v,(ab.vec ks.length (af+1) ((rows.take n).map (aJ ks))).aF = some v→∀ u,(ab.vec ks.length af (rows.map (aJ ks))).aF = some u→u<v:=by
  intro v h1 u k;simp[ab.aF]at h1 k;omega
 have hle:=Env.jl (o':=.vec ks.length (af+1) ((rows.take n).map (aJ ks))) (l:=l) (w':=E.w) y d.heap.len (aG _) (fun _ _ _=>rfl) hlc (.inr U) O (fun _ h=>by simp[ab.aF]at h);have V:=au.kp (o':=.vec ks.length (af+1) ((rows.take n).map (aJ ks))) (l:=l) (w':=E.w) d.heap y (aG _) (fun _ _ _=>rfl) (fun b n hb=>.inr ⟨n,by rw[I,hb]⟩) (.inr U) O (fun _ h=>by simp[ab.aF]at h) (by
  rw[N]at hle⊢;simp only[aO]at ho⊢;rcases ho with⟨h1,k⟩|⟨b,mm,h1,k,J,h4,W⟩
  ·left
   refine⟨h1,?_⟩;have:rows=[]:=by simpa using k
   rw[this];simp
  ·right
   refine⟨b,mm,h1,k,by simp at J⊢; omega,?_,?_⟩
   ·intro r q
    obtain⟨g,_,rfl⟩:=dF.1 q;exact fD ks g
   ·rw [kX] at W ⊢
    intro i r hi;simp only[cd,lJ]at hi;split at hi
    ·obtain ⟨g1, g2⟩ := W i r (by simpa using hi)
     exact⟨g1,tc (fun a c q=>bR hle a q) rfl g2⟩
    ·simp at hi)
 rw[N]at hle V;refine⟨E.loc,E.X,?_,?_⟩
 ·simp only [ar.den]
  rw[M];refine⟨rfl,?_,d.defers,V⟩;refine yg (dA hle _ d.fr) fun c B=>?_;have q:=CK d.fr B;rw[show s.den.fr=s.fr from rfl,hsl]at q;simp only[rel]at q⊢;obtain⟨h1,k,J⟩:=q;exact⟨h1,⟨.vec ks.length (af+1) ((rows.take n).map (aJ ks)),bB (aK y),rfl,fun v hv=>by simp[ab.aF]at hv; omega⟩,fun _=>J ⟨_,y,rfl⟩⟩
 ·simp only [ar.den]
  rw[M];exact hle.toM
end Go.AL

namespace Go.AL
open Go
variable [Dr]
def Tree.leaf{β:Type}(f:bU→ar→Option (Bool × β)):Tree→Option β
 |.fail=>none
 | .done x s=>match f x s with
  |some (b,r)=>bif b then some r else none
  |none=>none
 |.ask b t e=>bif b then t.leaf f else e.leaf f
 |.side b t=>bif b then t.leaf f else none
theorem nD{β:Type}{f:bU→ar→Option (Bool × β)}:∀{t:Tree} {r:β},t.leaf f=some r→t.holds fun x s=>f x s=some (true,r)
 |.fail,_,h=>by cases h
 | .done x s,r,h=>by
  simp only[Tree.leaf]at h;split at h
  ·rename_i b r' d
   cases b with
   |true=>cases h; exact d
   |false=>cases h
  ·cases h
 | .ask b t e,r,h=>by
  cases b with
  |true=>exact⟨fun _=>nD (t:=t) h,fun h=>by cases h⟩
  |false=>exact⟨fun h=>(nomatch h),fun _=>nD (t:=e) h⟩
 | .side b t,r,h=>by
  cases b with
  |true=>exact And.intro rfl (nD (t:=t) h)
  |false=>cases h
inductive jy where
 |fix (i:Nat)
 |slot (i:Nat)
 |cap (i c:Nat)
 |cell (j c:Nat)
 |CL (j c k:Nat)
def yh:AV→Option Nat
 |.ptr id _ _ _ _=>some id
 |.vec _ id _ _ _=>some id
 |.map id=>some id
 |_=>none
def yk(H:List ai)(vals:Nat→AV)(acc:List Nat):jy→Option Nat
 |.fix i=>some i
 |.slot i=>yh (vals i)
 | .cap i c=>match vals i with
  |.clo _ cs=>yh (cs.getD c .undef)
  |_=>none
 | .cell j c=>match H[acc.getD j 0]? with
  |some (.raw (.box cells))=>yh (cells.getD c .undef)
  |_=>none
 | .CL j c k=>match H[acc.getD j 0]? with
  | some (.raw (.box cells))=>match cells.getD c .undef with
   |.clo _ cs=>yh (cs.getD k .undef)
   |_=>none
  |_=>none
def iT(H:List ai)(vals:Nat→AV):List jy→List Nat→Option (List Nat)
 | [],acc=>some acc
 | p::ps,acc=>match yk H vals acc p with
  |some i=>iT H vals ps (acc++[i])
  |none=>none
/-! ### d -/
structure rq where
 x:bU
 S:mh
 ps:List jy
structure be where
 key:Nat
 opens:List (Nat × List Kd)
 inv:mh
 ps:List jy
 outs:List rq
 st:List G→Option (Option Nat × List G)
def po(st:List G→Option (Option Nat × List G)):Nat→List G→Option (Nat × List G)
 |0,_=>none
 | n+1,d=>match st d with
  |some (none,d')=>po st n d'
  |some (some x,d')=>some (x,d')
  |none=>none
def bD(st:List G→Option (Option Nat × List G))(d:List G):Option (Nat × List G):=po st 1000000 d
def CM(r:Option (Nat × List G)):Nat:=match r with
 |some (x,_)=>x
 |none=>0
def CN(r:Option (Nat × List G)):List G:=match r with
 |some (_,d)=>d
 |none=>[]
def hZ(m:Nat)(S:mh)(ps:List jy)(s:ar):Option (Bool × List G) :=
 match iT s.H (fun i=>s.fr.getD i .undef) ps []with
 |some ids=>CI m S ids s
 |none=>none
theorem ln{m:Nat}{S:mh}{ps:List jy}{s:ar}{d:List G}(h:hZ m S ps s=some (true,d)):bx m s.den (aR S d).den:=by
 unfold hZ at h;split at h
 ·exact Wh h
 ·cases h
def gu:List (Nat × List Kd)→ar→ar
 | [],s=>s
 | (i,ks)::r,s=>match dH 1000000 i with
  |true=>gu r (CJ (i-1000000) s)
  | false=>match isNil (s.fr.getD i .undef) with
   |true=>gu r (uq i ks s)
   |false=>gu r s
theorem lp{m:Nat}:∀(l:List (Nat × List Kd)) (s:ar),bx m s.den (gu l s).den
 | [],s=>bx.refl _
 | (i,ks)::r,s=>by
  simp only[gu];split
  ·exact Wi.trans (lp r _)
  ·split
   ·rename_i h
    exact(J_ h).trans (lp r _)
   ·exact lp r s
def pq(m:Nat):List rq→Nat→bU→ar→Option (Bool × (Option Nat × List G))
 | [],_,_,_=>none
 | o::os,i,x,s=>match decide (x=o.x) with
  | true=>match hZ m o.S o.ps s with
   |some (b,d)=>some (b,(some i,d))
   |none=>none
  |false=>pq m os (i+1) x s
def ym(m:Nat)(sp:be)(x:bU)(s:ar):Option (Bool × (Option Nat × List G)) :=
 match x with
 | .normal=>match hZ m sp.inv sp.ps s with
  |some (b,d)=>some (b,(none,d))
  |none=>none
 |x=>pq m sp.outs 0 x (gu sp.opens s)
theorem yn{m:Nat}:∀{os:List rq} {i:Nat} {x:bU} {s:ar} {b:Bool} {k:Option Nat} {d:List G},pq m os i x s=some (b,(k,d)) →
  ∃ j o,os[j]? = some o∧k=some (i+j)∧x=o.x∧hZ m o.S o.ps s=some (b,d)
 | [],_,_,_,_,_,_,h=>by cases h
 | o::os,i,x,s,b,k,d,h=>by
  simp only[pq]at h;split at h
  ·rename_i g
   split at h
   ·rename_i B d' q
    cases h;exact⟨0,o,rfl,rfl,of_decide_eq_true g,q⟩
   ·cases h
  ·obtain ⟨j, o', h1, u, v, y⟩ := yn h
   exact⟨j+1,o',by simpa using h1,by rw[u]; congr 1; omega,v,y⟩
section loops
variable {P:Program} {τ:ak} {L:LT} {m:Nat} {c:Code} {sp:be}
def bY(P:Program)(τ:ak)(L:LT)(m:Nat)(c:Code)(sp:be):Prop:=∀ d,(dZ P τ L c (aR sp.inv d) .done).leaf (ym m sp)=sp.st d
theorem KA(hm:P.follows .mixedOrders=true)(q:al P τ)(u:ax P m L c)(v:bY P τ L m c sp){d d':List G}{k:Option Nat}(h:sp.st d=some (k,d')) :
  (k = none ∧ c5 P m c (aR sp.inv d).den .normal (aR sp.inv d').den) ∨
   ∃ j o,k=some j∧sp.outs[j]? = some o∧o.x≠.normal∧c5 P m c (aR sp.inv d).den o.x (aR o.S d').den:=by
 rw[←v d]at h;obtain⟨x,s1,h1,g⟩:=gG hm q c (aR sp.inv d) .done u (Q:=fun x s=>ym m sp x s=some (true,(k,d'))) (nD h);have g:ym m sp x s1=some (true,(k,d')):=g;unfold ym at g;split at g
 ·split at g
  ·rename_i b d2 y
   cases g;exact .inl ⟨rfl,qI h1 (ln y)⟩
  ·cases g
 ·rename_i B
  obtain⟨j,o,g1,g2,rfl,g4⟩:=yn g;exact .inr ⟨j,o,by simpa using g2,g1,fun e=>B e,qI h1 ((lp sp.opens s1).trans (ln g4))⟩
theorem KB(hm:P.follows .mixedOrders=true)(g:al P τ)(k:ax P m L c)(q:bY P τ L m c sp):∀(n:Nat) {d d':List G} {x:Nat},po sp.st n d=some (x,d') →
  ∃ o,sp.outs[x]? = some o∧jO P m c (aR sp.inv d).den o.x (aR o.S d').den
 |0,_,_,_,h=>by cases h
 | n+1,d,d',x,h=>by
  simp only[po]at h;split at h
  ·rename_i d1 h1
   rcases KA hm g k q h1 with⟨_,u⟩|⟨_,_,hk,_⟩
   ·obtain ⟨o, g1, g2⟩ := KB hm g k q n h
    exact⟨o,g1,.next u g2⟩
   ·cases hk
  ·rename_i v d1 h1
   cases h;rcases KA hm g k q h1 with⟨hk,_⟩|⟨j,o,hk,g1,g2,g3⟩
   ·cases hk
   ·cases hk
    exact⟨o,g1,.stop g3 g2⟩
  ·cases h
def uA(r:Option (Nat × List G)):List rq→Nat→Tree
 | [],_=>.fail
 | [o],_=>.done o.x (aR o.S (CN r))
 |o::os,i=>.ask (ad (CM r) i) (.done o.x (aR o.S (CN r))) (uA r os (i+1))
theorem yo{x:Nat}{d:List G}{Q:bU→ar→Prop}:∀{os:List rq} {i j:Nat} {o:rq},os[j]? = some o→x=i+j→(uA (some (x,d)) os i).holds Q→Q o.x (aR o.S d)
 | [],_,_,_,h,_,_=>by simp at h
 | [o],i,j,o',h,k,g=>by
  cases j with
  | zero =>
   simp at h;subst h;exact g
  |succ j=>simp at h
 | o::o2::os,i,j,o',h,k,g=>by
  simp only[uA,Tree.holds]at g;cases j with
  | zero =>
   simp at h;subst h;exact g.1 (by simp only[CM]; rw[k]; simp)
  | succ j =>
   refine yo (os:=o2::os) (i:=i+1) (j:=j) (by simpa using h) (by omega) (g.2 ?_);have:x≠i:=by omega
   exact ahT.2 fun e=>this (bu e)
def CO(m:Nat)(sp:be)(s:ar):Option Tree :=
 match hZ m sp.inv sp.ps (gu sp.opens s)with
 |some (b,d)=>some (.side (rh b (bD sp.st d).isSome) (uA (bD sp.st d) sp.outs 0))
 |none=>none
theorem Wj(hm:P.follows .mixedOrders=true)(u:al P τ)(v:ax P m L c)(y:bY P τ L m c sp){s:ar}{t:Tree}(h:CO m sp s=some t):JO P m c s t:=by
 unfold CO at h;split at h
 case h_2=>cases h
 rename_i b d B;cases h;intro Q k;simp only[Tree.holds,rj,aA]at k;obtain⟨⟨rfl,h1⟩,q⟩:=k;cases g:bD sp.st d with
 |none=>rw[g]at h1; cases h1
 | some r =>
  obtain⟨x,d'⟩:=r;obtain⟨o,g1,g2⟩:=KB hm u v y 1000000 g;exact⟨o.x,_,g2.pre ((lp sp.opens s).trans (ln B)),yo g1 (cF x).symm (by rw[g]at q; exact q)⟩
def LT.add(L:LT)(m:Nat)(sp:be):LT:=⟨fun k s=>match ad k sp.key with
 |true=>CO m sp s
 |false=>L.loops k s,L.pre,L.uk⟩
theorem nE:∀{c:Code} {k:Nat} {g:Code},(k,g)∈bM c→∀ p,p∈bM g→p∈bM c
 | .seq a b,k,g,h,p,d=>by
  simp only[bM,cS]at h⊢;rcases h with h|h
  ·exact .inl (nE h p d)
  ·exact .inr (nE h p d)
 | .cond _ a b,k,g,h,p,d=>by
  simp only[bM,cS]at h⊢;rcases h with h|h
  ·exact .inl (nE h p d)
  ·exact .inr (nE h p d)
 | .block _ c,k,g,h,p,d=>by
  simp only[bM]at h⊢;exact nE h p d
 | .loop c,k,g,h,p,d=>by
  simp only[bM]at h⊢;split at h
  ·rename_i i hi
   rcases bZ.1 h with e|h
   ·cases e
    exact cY _ d
   ·exact cY _ (nE h p d)
  ·exact nE h p d
 |.skip,_,_,h,_,_=>by simp[bM]at h
 |.region ..,_,_,h,_,_=>by simp[bM]at h
 |.exit _,_,_,h,_,_=>by simp[bM]at h
 |.ret,_,_,h,_,_=>by simp[bM]at h
 |.rangeFunc ..,_,_,h,_,_=>by simp[bM]at h
 |.scope _,_,_,h,_,_=>by simp[bM]at h
 |.label _,_,_,h,_,_=>by simp[bM]at h
 |.goto _,_,_,h,_,_=>by simp[bM]at h
 |.refuse _,_,_,h,_,_=>by simp[bM]at h
theorem nF:∀{c:Code} {k:Nat} {g:Code},(k,g)∈bM c→∀ p,p∈bH g→p∈bH c
 | .seq a b,k,g,h,p,d=>by
  simp only[bM,bH,cS]at h⊢;rcases h with h|h
  ·exact .inl (nF h p d)
  ·exact .inr (.inr (nF h p d))
 | .cond _ a b,k,g,h,p,d=>by
  simp only[bM,bH,cS]at h⊢;rcases h with h|h
  ·exact .inl (nF h p d)
  ·exact .inr (nF h p d)
 | .block _ c,k,g,h,p,d=>by
  simp only[bM,bH]at h⊢;exact nF h p d
 | .loop c,k,g,h,p,d=>by
  simp only[bM,bH]at h⊢;split at h
  ·rename_i i hi
   rcases bZ.1 h with e|h
   ·cases e
    exact d
   ·exact nF h p d
  ·exact nF h p d
 |.skip,_,_,h,_,_=>by simp[bM]at h
 |.region ..,_,_,h,_,_=>by simp[bM]at h
 |.exit _,_,_,h,_,_=>by simp[bM]at h
 |.ret,_,_,h,_,_=>by simp[bM]at h
 |.rangeFunc ..,_,_,h,_,_=>by simp[bM]at h
 |.scope _,_,_,h,_,_=>by simp[bM]at h
 |.label _,_,_,h,_,_=>by simp[bM]at h
 |.goto _,_,_,h,_,_=>by simp[bM]at h
 |.refuse _,_,_,h,_,_=>by simp[bM]at h
theorem nG:∀{c:Code} {k:Nat} {g:Code},(k,g)∈bH c→∀ p,p∈bM g→p∈bM c
 | .seq a b,k,g,h,p,d=>by
  simp only[bM,bH,cS]at h⊢;rcases h with h|h|h
  ·exact .inl (nG h p d)
  ·right
   split at h
   ·rcases bZ.1 h with e | h
    ·cases e
     exact d
    ·cases h
   ·cases h
  ·exact .inr (nG h p d)
 | .cond _ a b,k,g,h,p,d=>by
  simp only[bM,bH,cS]at h⊢;rcases h with h|h
  ·exact .inl (nG h p d)
  ·exact .inr (nG h p d)
 | .block _ c,k,g,h,p,d=>by
  simp only[bM,bH]at h⊢;exact nG h p d
 | .loop c,k,g,h,p,d=>by
  simp only[bH]at h;have:=nG h p d;simp only[bM];split
  ·exact cY _ this
  ·exact this
 |.skip,_,_,h,_,_=>by simp[bH]at h
 |.region ..,_,_,h,_,_=>by simp[bH]at h
 |.exit _,_,_,h,_,_=>by simp[bH]at h
 |.ret,_,_,h,_,_=>by simp[bH]at h
 |.rangeFunc ..,_,_,h,_,_=>by simp[bH]at h
 |.scope _,_,_,h,_,_=>by simp[bH]at h
 |.label _,_,_,h,_,_=>by simp[bH]at h
 |.goto _,_,_,h,_,_=>by simp[bH]at h
 |.refuse _,_,_,h,_,_=>by simp[bH]at h
theorem nH:∀{c:Code} {k:Nat} {g:Code},(k,g)∈bH c→∀ p,p∈bH g→p∈bH c
 | .seq a b,k,g,h,p,d=>by
  simp only[bH,cS]at h⊢;rcases h with h|h|h
  ·exact .inl (nH h p d)
  ·right
   right;split at h
   ·rcases bZ.1 h with e | h
    ·cases e
     exact d
    ·cases h
   ·cases h
  ·exact .inr (.inr (nH h p d))
 | .cond _ a b,k,g,h,p,d=>by
  simp only[bH,cS]at h⊢;rcases h with h|h
  ·exact .inl (nH h p d)
  ·exact .inr (nH h p d)
 | .block _ c,k,g,h,p,d=>by
  simp only[bH]at h⊢;exact nH h p d
 | .loop c,k,g,h,p,d=>by
  simp only[bH]at h⊢;exact nH h p d
 |.skip,_,_,h,_,_=>by simp[bH]at h
 |.region ..,_,_,h,_,_=>by simp[bH]at h
 |.exit _,_,_,h,_,_=>by simp[bH]at h
 |.ret,_,_,h,_,_=>by simp[bH]at h
 |.rangeFunc ..,_,_,h,_,_=>by simp[bH]at h
 |.scope _,_,_,h,_,_=>by simp[bH]at h
 |.label _,_,_,h,_,_=>by simp[bH]at h
 |.goto _,_,_,h,_,_=>by simp[bH]at h
 |.refuse _,_,_,h,_,_=>by simp[bH]at h
def aQ(fn:Func):Code:=match fn.body with
 |some c=>c
 |none=>.skip
theorem Wk{fn:Func} (g:nodupB ((bM (aQ fn)).map (·.1))=true) {k:Nat} {d:Code} (h:(k,d)∈bM (aQ fn)):d=b_ fn k:=by
 have key:∀(l:List (Nat × Code)),(l.map (·.1)).Nodup→(k,d)∈l→l.find? (fun p=>ad p.1 k)=some (k,d):=by
  intro l
  induction l with
  |nil=>intro _ h; cases h
  | cons p l v =>
   intro q hm;simp only[dw,lQ]at q;rcases bZ.1 hm with rfl|hm
   ·simp
   ·have u:p.1≠k:=by
     intro e;exact q.1 (dF.2 ⟨(k,d),hm,e.symm⟩)
    have:ad p.1 k=false:=ahT.2 fun e=>u (bu e);rw[ahU (by simp[this])];exact v q.2 hm
 unfold b_;unfold aQ at g h;split
 ·rename_i c hb
  rw[hb]at g h;simp only[]at g h;rw[key _ (rk g) h]
 ·rename_i hb
  rw[hb]at h;simp[bM]at h
theorem ax.add(hm:P.follows .mixedOrders=true)(q:al P τ){fn:Func} (u:nodupB ((bM (aQ fn)).map (·.1))=true) (g:ax P m L (aQ fn)) (h:bY P τ L m (b_ fn sp.key) sp) :
  ax P m (L.add m sp) (aQ fn):=by
 refine⟨fun k v hk s t d=>?_,g.2⟩;simp only[LT.add]at d;split at d
 ·rename_i e
  have e:=bu e;subst e;have y:=Wk u hk;rw[←y]at h;exact Wj hm q (g.sub (nE hk) (nF hk)) h d
 ·exact g.1 k v hk s t d
/-! ### Code behind other code -/
def cutAt(fn:Func)(k:Nat):Code:=match fn.body with
 | some c=>match (bH c).find? fun p=>ad p.1 k with
  |some (_,b)=>b
  |none=>.skip
 |none=>.skip
def kJ(k:Nat):List (Nat × Code)→Bool
 | []=>true
 | p::l=>match ad p.1 k with
  |true => !l.any (fun q=>ad q.1 k)
  |false=>kJ k l
theorem KC{k:Nat}{g:Code}:∀{l:List (Nat × Code)},kJ k l=true→(k,g)∈l→l.find? (fun p=>ad p.1 k)=some (k,g)
 | [],_,h=>by cases h
 | p::l,ho,hm=>by
  simp only[kJ]at ho;cases d:ad p.1 k with
  | true =>
   rw[d]at ho;simp only[mM]at ho;rcases bZ.1 hm with rfl|hm
   ·rw[List.find?_cons_of_pos (by simp)]
   ·have : l.any (fun q => ad q.1 k) = true := jH.2 ⟨(k, g), hm, by simp⟩
    rw[this]at ho;cases ho
  | false =>
   rw[d]at ho;rcases bZ.1 hm with rfl|hm
   ·simp at d
   ·rw [ahU (by simp [d])]
    exact KC ho hm
theorem CP{fn:Func}{k:Nat}{g:Code} (d:kJ k (bH (aQ fn))=true) (h:(k,g)∈bH (aQ fn)):g=cutAt fn k:=by
 unfold cutAt;unfold aQ at d h;split
 ·rename_i c hb
  rw[hb]at d h;simp only[]at d h;rw[KC d h]
 ·rename_i hb
  rw[hb]at h;simp[bH]at h
def bV(r:Option (Option Nat × List G)):Option (Nat × List G):=match r with
 |some (some x,d)=>some (x,d)
 |_=>none
def uB(m:Nat)(sp:be)(s:ar):Option Tree :=
 match hZ m sp.inv sp.ps (gu sp.opens s)with
 |some (b,d)=>some (.side (rh b (bV (sp.st d)).isSome) (uA (bV (sp.st d)) sp.outs 0))
 |none=>none
def eU(P:Program)(τ:ak)(L:LT)(m:Nat)(c:Code)(sp:be):Prop:=∀ d,(dZ P τ L c (aR sp.inv d) .done).leaf (pq m sp.outs 0)=sp.st d
theorem Wl(hm:P.follows .mixedOrders=true)(B:al P τ)(I:ax P m L c)(q:eU P τ L m c sp){s:ar}{t:Tree}(h:uB m sp s=some t):xS P m c s t:=by
 unfold uB at h;split at h
 case h_2=>cases h
 rename_i b d J;cases h;intro Q u;simp only[Tree.holds,rj,aA]at u;obtain⟨⟨rfl,h1⟩,v⟩:=u;cases g:sp.st d with
 |none=>rw[g]at h1; cases h1
 | some r =>
  obtain⟨k,d'⟩:=r;cases k with
  |none=>rw[g]at h1; cases h1
  | some i =>
   rw[←q d]at g;obtain⟨x,s1,g1,g2⟩:=gG hm B c (aR sp.inv d) .done I (Q:=fun x s=>pq m sp.outs 0 x s=some (true,(some i,d'))) (nD g);obtain⟨j,o,M,y,N,O⟩:=yn g2;simp only[aY,cF]at y;subst y;rw[q d]at g;rw[g]at v;refine⟨o.x,(aR o.S d'),?_,yo M (cF i).symm v⟩;rw[←N];exact qH ((lp sp.opens s).trans (ln J)) (qI g1 (ln O))
def LT.dP(L:LT)(m:Nat)(sp:be):LT:=⟨L.loops,L.pre,fun k s=>match ad k sp.key with
 |true=>uB m sp s
 |false=>L.uk k s⟩
theorem ax.dP(hm:P.follows .mixedOrders=true)(q:al P τ){fn:Func} (u:kJ sp.key (bH (aQ fn))=true) (g:ax P m L (aQ fn)) (h:eU P τ L m (cutAt fn sp.key) sp) :
  ax P m (L.dP m sp) (aQ fn):=by
 refine⟨g.1,g.2.1,fun k v hk s t d=>?_⟩;simp only[LT.dP]at d;split at d
 ·rename_i e
  have e:=bu e;subst e;have y:=CP u hk;rw[←y]at h;exact Wl hm q (g.sub (nG hk) (nH hk)) h d
 ·exact g.2.2 k v hk s t d
end loops
/-! ### d -/
structure aH where
 f:FuncId
 args:List Sh
 cJ:List cn
 ps:List jy
 res:List Sh
 ft:List cn
 Wm:List jy
 opens:List (Nat × List Kd)
 F:List G→Option (List G)
def aH.args0(sp:aH)(d:List G):List AV:=fh (cI sp.cJ d) sp.args (ef (ll sp.cJ) d)
def aH.H0(sp:aH)(d:List G):List ai:=cO (cI sp.cJ d) sp.cJ d
def aH.out(sp:aH)(r:List G):AV:=dc (fh (cI sp.ft r) sp.res (ef (ll sp.ft) r))
def aH.H1(sp:aH)(r:List G):List ai:=cO (cI sp.ft r) sp.ft r
def uC(P:Program)(rs:List ResultVar)(sp:aH)(x:bU)(s:ar):Option (Bool × List G) :=
 match x with
 |.exit _=>none
 | _=>(fun s=>match gV P s.den rs with
  |none=>none
  | some vs=>match iT s.H (fun i=>vs.getD i .undef) sp.Wm [] with
   |none=>none
   | some ids=>match nodupB ids&&mg s.H 0 sp.cJ.length ids sp.ft with
    |false=>none
    | true=>match iS s.H (bK s.H ids) (hG ids) sp.ft ids,eg s.H (bK s.H ids) (hG ids) sp.res vs with
     |some (b,g),some (d,h)=>some (b&&d,g++h)
     |_,_=>none) (gu sp.opens s)
def aZ(P:Program)(τ:ak)(L:LT)(fn:Func)(sp:aH):Prop :=
 ∀ d,(dZ P τ L (aQ fn) ⟨iN (sp.args0 d) fn.ntmps,sp.H0 d⟩ .done).leaf (uC P fn.results.toList sp)=sp.F d
def pr(os:List cn):Bool:=os.all fun o=>ad o.up 0
theorem KD:∀{os:List cn} (lens:c8) (d:List G),pr os=true→xy (ao (cO lens os d))
 | [],_,_,_=>by intro o ho; simp[cO,ao]at ho
 | o::os,lens,d,h=>by
  simp only[pr,kU,aA]at h;intro x g;simp only[cO,ao,dw,bZ]at g;rcases g with rfl|g
  ·cases o with
   | vec ks u =>
    have:u=0:=bu h.1;subst this;rfl
   |box _=>rfl
   |map _ _=>rfl
   |ev _ _ _=>rfl
   |aI _ _ _=>rfl
   |mm _ _ _ _=>rfl
  ·exact KD lens _ h.2 x g
theorem CQ(lens:c8):∀(os:List cn) (d:List G),(cO lens os d).length=os.length
 | [],_=>rfl
 |_::os,d=>by simp[cO,CQ lens os]
theorem Wn{P:Program}{sp:aH}{fn:Func}(hf:P.funcs[sp.f]? = some fn)(hb:fn.body.isSome=true)
  (hfr:pr sp.cJ=true) {d r:List G} {x:bU} {B:ar} (h1:c5 P sp.cJ.length (aQ fn) (ar.den ⟨iN (sp.args0 d) fn.ntmps,sp.H0 d⟩) x B.den) (k:uC P fn.results.toList sp x B=some (true,r)) :
  dB P sp.f (sp.args0 d) (ao (sp.H0 d)) (sp.out r) (ao (sp.H1 r)):=by
 have hbody:fn.body=some (aQ fn):=by
  unfold aQ;cases I:fn.body with
  |none=>rw[I]at hb; cases hb
  |some c=>rfl
 have h1:=qI h1 (lp sp.opens B);generalize hs':gu sp.opens B=s' at h1;have hxx:(x=.normal∨x=.ret)∧∃ vs ids g q,gV P s'.den fn.results.toList=some vs∧(nodupB ids&&mg s'.H 0 sp.cJ.length ids sp.ft)=true ∧
   iS s'.H (bK s'.H ids) (hG ids) sp.ft ids=some (true,g)∧eg s'.H (bK s'.H ids) (hG ids) sp.res vs=some (true,q)∧g++q=r:=by
  have k:uC P fn.results.toList sp x B=some (true,r):=k;unfold uC at k;split at k
  ·cases k
  ·rename_i I
   simp only[hs']at k;refine⟨by cases x with|normal=>exact .inl rfl|ret=>exact .inr rfl|exit i=>exact(I i rfl).elim,?_⟩;split at k
   ·cases k
   ·rename_i vs U
    split at k
    ·cases k
    ·rename_i ids hids
     split at k
     ·cases k
     ·rename_i v
      split at k
      ·rename_i b g b' q M q2
       simp only[aY,bg,aA]at k;obtain⟨⟨rfl,rfl⟩,rfl⟩:=k;exact⟨vs,ids,g,q,U,v,M,q2,rfl⟩
      ·cases k
 obtain⟨I,vs,ids,g,q,U,v,M,q2,rfl⟩:=hxx;simp only[aA]at v;intro E cargs hH HE hargs;refine BO hf hbody ?_;have hfe:=qJ HE;have hargs0:=l8 hfe _ hargs;have hrel:bP ⟨iN (sp.args0 d) fn.ntmps,ao (sp.H0 d)⟩ { E with X:=⟨E.X.x,fun _=>False,E.X.r⟩ } { tmps:=cargs++Array.replicate (fn.ntmps-cargs.size) undef,defers:=[] }:=by
  refine⟨hH,?_,oK _ _,HE.cH hfe⟩;simp only[iN,Array.toList_append,Array.toList_replicate];refine jL hargs0 ?_;have:=fN hargs;have e:(sp.args0 d).length=cargs.size:=by simpa using this
  rw[e];have:=tH (E:={ E with X:=⟨E.X.x,fun _=>False,E.X.r⟩ }) (List.replicate (fn.ntmps-cargs.size) undef);simpa using this
 refine wpIn_mono (h1 none (BL _) { E with X:=⟨E.X.x,fun _=>False,E.X.r⟩ } _ hrel) fun e a1 w0 ⟨h3,loc',X',y,N⟩=>?_;refine⟨by subst h3; rcases I with rfl|rfl; exact .inl rfl; exact .inr rfl,X',y.defers,fun O k1 k2 k3=>?_⟩;obtain⟨y,N⟩:=BP HE y N k1 k2 k3;obtain⟨us,g1,g2⟩:=xB y fn.results.toList vs U;have hres:(results fn a1.tmps).run P O=.ok (if h:us.toArray.size=1 then us.toArray[0] else .tuple us.toArray) O:=by
  rw[xC];simp only[Sem.run_bind];rw[Array.mapM_eq_mapM_toList,Sem.run_map,g1];rfl
 generalize J:({ w:=O,H:=s'.den.H,loc:=loc',X:=E.X.re X'.r }:Env)=u at y N g1 g2;have hH1:u.H=ao s'.H:=by rw[←J]; rfl
 obtain⟨hK,hHR⟩:=Kx hH1 y.heap (rk v.1) M q;obtain⟨p0,p1,p2,p3⟩:=uy M q (cI sp.ft (g++q));have hd:ef (ll sp.ft) (g++q)=q:=by rw[←p0]; exact nC g q
 have hS:=ux hK q2 [];rw[c_]at hS;have hrl:=hS.2.2.2 us g2;have hleM:=Ky (m:=sp.cJ.length) hH1 hK ⟨rfl,rfl⟩ (Ku u _ ids) v.2 (fun j hj=>by
  obtain⟨r1,o',r2,_⟩:=yf v.2 j hj;obtain⟨i,o,g1,rest1,t1,t2,t3,t4,t5,t6⟩:=p3 j o' r2;have hat:=gq (e:=bK s'.H ids) (j:=j) (aK t1);rw[show (bK s'.H ids).ids=ids from rfl,t1]at hat;cases hat;exact⟨o,o',t2,r2,t5⟩) (fun b=>Kv)
 have hle:E.le (g_ u (ao (cO (cI sp.ft (g++q)) sp.ft (g++q))) ids) :=
  (N.trans hleM).full (by rw[←J]; exact⟨rfl,rfl⟩) (by rw[hH,en]; simp only[aH.H0,CQ]; exact aG _) (by rw[hH]; exact KD _ _ hfr)
 have V:u.w=O:=by rw[←J]
 have W:∀ r,u.X.re r=E.X.re r:=fun r=>by rw[←J]; rfl
 refine⟨_,hres,_,_,_,rfl,⟨rfl,rfl⟩,ids.map (fun i=>u.loc.getD i none),mf u (ao (cO (cI sp.ft (g++q)) sp.ft (g++q))),?_,?_,?_⟩
 ·have := J7 hrl
  simp only[aH.out,aH.H1,hd];simpa only[g_,V,W]using this
 ·simpa only[g_,V,W,aH.H1]using hHR
 ·simpa only[g_,V,W,aH.H1]using hle
theorem Wo{P:Program}{τ:ak}{L:LT}(hm:P.follows .mixedOrders=true)(k:al P τ){sp:aH}{fn:Func}(q:P.funcs[sp.f]? = some fn)(hb:fn.body.isSome=true)
  (u:ax P sp.cJ.length L (aQ fn)) (v:aZ P τ L fn sp) (g:pr sp.cJ=true) {d r:List G} (h:sp.F d=some r) :
  dB P sp.f (sp.args0 d) (ao (sp.H0 d)) (sp.out r) (ao (sp.H1 r)):=by
 rw[←v d]at h;obtain⟨x,B,h1,y⟩:=gG hm k (aQ fn) _ .done u (Q:=fun x s=>uC P fn.results.toList sp x s=some (true,r)) (nD h);exact Wn q hb g h1 y
abbrev aX(P:Program)(sp:aH):Prop:=∀ d r,sp.F d=some r→dB P sp.f (sp.args0 d) (ao (sp.H0 d)) (sp.out r) (ao (sp.H1 r))
theorem rr{P:Program}{τ:ak}{L:LT}(hm:P.follows .mixedOrders=true)(g:al P τ){sp:aH}{fn:Func}(k:P.funcs[sp.f]? = some fn)(hb:fn.body.isSome=true)
  (q:ax P sp.cJ.length L (aQ fn)) (u:aZ P τ L fn sp) (d:pr sp.cJ=true):aX P sp:=fun _ _ h=>Wo hm g k hb q u d h
/-! ### Tables -/
def uD:eC→Bool
 |.int _ | .str | .bool | .list _ | .uw _ | .row _ | .cptr _ | .nil | .any | .Kl _ | .fn _ | .addr | .CB=>true
 |_=>false
def yp:Sh→Bool
 |.s a=>uD a
 |.clo _ caps=>caps.all uD
theorem KE{lens:c8}{a:eC}{d:List G}(h:uD a=true):(eD lens a d).closed=true:=by
 cases a<;>simp only[uD]at h<;>first
  |(cases h; done)
  |rfl
  |(simp only[eD,AV.closed,fD]; done)
theorem KF{lens:c8}:∀{as:List eC} {d:List G},(as.all uD)=true→AV.br (iz lens as d)=true
 | [],_,_=>rfl
 | a::as,d,h=>by
  simp only[kU,aA]at h;simp only[iz,AV.br,KE h.1,KF h.2,sX]
theorem yq{lens:c8}:∀{as:List Sh} {d:List G},(as.all yp)=true→AV.br (fh lens as d)=true
 | [],_,_=>rfl
 | a::as,d,h=>by
  simp only[kU,aA]at h;simp only[fh,AV.br,yq h.2,fC];cases a with
  |s a=>exact KE h.1
  |clo f caps=>simp only[pn,AV.closed]; exact KF h.1
theorem Wp{vs:List AV}(h:AV.br vs=true):(dc vs).closed=true:=by
 cases vs with
 |nil=>rfl
 | cons v vs =>
  cases vs with
  |nil=>simpa[dc,AV.br]using h
  |cons v2 vs=>simpa only[dc,AV.closed]using h
def h_(E:Env):Env:={ w:=E.w,H:=[],loc:=[],X:=(E.X.or E.own).re dI }
theorem Wq{E:Env}(x:Nat):¬ (h_ E).own x:=by rintro(⟨id,c,hid⟩|⟨l,k,c,hk⟩); simp[h_]at hid; simp[h_,dI]at hk
theorem KG{E:Env}:E.bG (h_ E):=⟨fun b hb=>⟨⟨hb.1,Wq b,fun d=>d.elim hb.2.2 hb.2.1⟩,rfl⟩⟩
theorem Wr{E:Env}:(h_ E).bG E:=⟨fun b hb=>⟨⟨hb.1,fun ho=>hb.2.2 (Or.inr ho),fun d=>hb.2.2 (Or.inl d)⟩,rfl⟩⟩
theorem Ws{E:Env}(HE:au E):au (h_ E):=by
 refine⟨rfl,?_,?_,?_,?_,HE.eR.bG KG,fun l k l' k' b m n hk=>by simp[h_,dI]at hk,fun i b m l k n hi=>by simp[h_]at hi,fun l k b m hk=>by simp[h_,dI]at hk,fun i j o o' l hi=>by simp[h_]at hi,fun l _ k q hk=>by simp[h_,dI]at hk⟩
 ·intro i j b m n hi; simp[h_]at hi
 ·intro i b m hi; simp[h_]at hi
 ·rintro b (d | ho)
  ·exact HE.X b d
  ·exact(HE.wS ho).1
 ·intro i o hi; simp[h_]at hi
theorem Wt{E:Env}(HE:au E):gY [] (bK [] []) (fun _=>false) [] (h_ E) (h_ E):=by
 exact { hH:=rfl,HE:=Ws HE,free:=fun _ h=>(nomatch h),cU:=⟨fun b hb=>⟨hb,rfl⟩,rfl,fun j d=>absurd d (Nat.not_lt_zero _),fun _ _ _ _ _=>rfl⟩,obj:=fun j o ho=>by simp at ho }
theorem Wu{E:Env}(HE:au E):∀{d:List Sh} {as:List AV} {g:List G},(d.all yp)=true→eg [] (bK [] []) (fun _=>false) d as=some (true,g)→∀(rest:List G) (cs:List Value),ah E as cs →
  ah E (fh [] d (g++rest)) cs:=by
 have N:∀{sh:eC} {a:AV} {b:Bool} {g:List G},fq [] (bK [] []) (fun _=>false) sh a=some (b,g)→a.closed=true∨sh=.any:=by
  intro sh a b g h;unfold fq at h;split at h
  ·exact .inl rfl
  ·exact .inl rfl
  ·exact .inl rfl
  ·split at h
   ·rename_i ha
    left;unfold me at ha;split at ha<;>first|rfl|cases ha
   ·split at h
    ·simp at h
    ·cases h
  ·split at h
   ·rename_i ha
    left;rw[Ka ha];simp only[AV.closed,fD]
   ·cases h
  ·exact .inl rfl
  ·simp at h
  ·exact .inl rfl
  ·exact .inr rfl
  ·exact .inl rfl
  ·simp at h
  ·simp at h
  ·simp at h
  ·simp at h
  ·split at h
   ·rename_i ha
    left;unfold me at ha;split at ha<;>first|rfl|cases ha
   ·split at h
    ·simp at h
    ·cases h
  ·simp at h
  ·exact .inl rfl
  ·rename_i f js f' vs
   split at h
   ·rename_i u
    left;cases js with
    | nil=>cases vs with
     |nil=>rfl
     |cons _ _=>simp[jW]at u
    | cons j js=>cases vs with
     |nil=>simp[jW]at u
     |cons v vs=>cases v<;>simp[jW]at u
   ·cases h
  ·exact .inl rfl
  ·cases h
 have U:∀{d:List eC} {as:List AV} {b:Bool} {g:List G},fi [] (bK [] []) (fun _=>false) d as=some (b,g)→∀(cs:List Value),ah E as cs →
   ∃ k,fi [] (bK [] []) (fun _=>false) d k=some (b,g)∧AV.br k=true∧ah E k cs:=by
  intro d
  induction d with
  | nil =>
   intro as b g h cs q;cases as with
   |nil=>exact⟨[],h,rfl,q⟩
   |cons _ _=>simp[fi]at h
  | cons sh d M =>
   intro as b g h cs q;cases as with
   |nil=>simp[fi]at h
   | cons a as =>
    cases cs with
    |nil=>simp[ah]at q
    | cons c cs =>
     simp only[ah]at q;simp only[fi]at h;split at h
     ·rename_i b1 g1 b2 g2 h1 J
      cases h;obtain⟨k,y,B,I⟩:=M J cs q.2;rcases N h1 with u|rfl
      ·exact⟨a::k,by simp only[fi,h1,y],by simp only[AV.br,u,B,sX],by simp only[ah]; exact⟨q.1,I⟩⟩
      ·have e:fq [] (bK [] []) (fun _=>false) .any .undef=some (b1,g1):=by
        have:fq [] (bK [] []) (fun _=>false) .any a=some (true,[]):=by cases a<;>rfl
        rw[this]at h1;exact h1
       exact⟨.undef::k,by simp only[fi,e,y],by simp only[AV.br,B]; rfl,by simp only[ah,rel]; exact⟨trivial,I⟩⟩
     ·cases h
 have V:∀{d:List Sh} {as:List AV} {b:Bool} {g:List G},eg [] (bK [] []) (fun _=>false) d as=some (b,g)→∀(cs:List Value),ah E as cs →
   ∃ k,eg [] (bK [] []) (fun _=>false) d k=some (b,g)∧AV.br k=true∧ah E k cs:=by
  intro d
  induction d with
  | nil =>
   intro as b g h cs q;cases as with
   |nil=>exact⟨[],h,rfl,q⟩
   |cons _ _=>simp[eg]at h
  | cons sh d M =>
   intro as b g h cs q;cases as with
   |nil=>simp[eg]at h
   | cons a as =>
    cases cs with
    |nil=>simp[ah]at q
    | cons c cs =>
     simp only[ah]at q;simp only[eg]at h;split at h
     ·rename_i b1 g1 b2 g2 h1 J
      cases h;obtain⟨k,y,B,I⟩:=M J cs q.2;cases sh with
      | s sh0 =>
       simp only[jX]at h1;rcases N h1 with u|rfl
       ·exact⟨a::k,by simp only[eg,jX,h1,y],by simp only[AV.br,u,B,sX],by simp only[ah]; exact⟨q.1,I⟩⟩
       ·have e:fq [] (bK [] []) (fun _=>false) .any .undef=some (b1,g1):=by
         have:fq [] (bK [] []) (fun _=>false) .any a=some (true,[]):=by cases a<;>rfl
         rw[this]at h1;exact h1
        exact⟨.undef::k,by simp only[eg,jX,e,y],by simp only[AV.br,B]; rfl,by simp only[ah,rel]; exact⟨trivial,I⟩⟩
      | clo f caps =>
       cases a<;>simp only[jX]at h1<;>try cases h1
       rename_i f' vs;split at h1
       ·rename_i hf
        subst hf;have O:=q.1;simp only[rel]at O;obtain⟨us,e1,e2⟩:=O;obtain⟨W,l1,l2,l3⟩:=U h1 _ e2;exact⟨.clo f W::k,by simp only[eg,jX,if_true,l1,y],by simp only[AV.br,AV.closed,l2,B,sX],
         by simp only[ah,rel]; exact⟨⟨us,e1,l3⟩,I⟩⟩
       ·cases h1
     ·cases h
 intro d as g hcl h rest cs q;obtain⟨k,h1,J,h3⟩:=V h cs q;have h4:=mR KG k J h3;have h5:=(ux (Wt HE) h1 rest).2.2.2 cs h4;exact mR Wr _ (yq hcl) h5
def ak.bJ(τ:ak)(sp:aH):ak where
 pf g:=match ad g sp.f with
  |true=>true
  |false=>τ.pf g
 T g as:=match ad g sp.f with
  | true=>match eg [] (bK [] []) (fun _=>false) sp.args as with
   |some (b,d)=>some (rh b (sp.F d).isSome,dc (fh [] sp.res ((sp.F d).getD [])))
   |none=>τ.T g as
  |false=>τ.T g as
 W:=τ.W
 C:=τ.C
 I:=τ.I
 N:=τ.N
 U:=τ.U
def CR(sp:aH):Bool:=(sp.args.all yp)&&((sp.res.all yp)&&(sp.cJ.isEmpty&&sp.ft.isEmpty))
theorem al.bJ{P:Program}{τ:ak}(h:al P τ){sp:aH}(hb:eS P sp.f=true)(y:CR sp=true)
  (hc:∀ d r,sp.F d=some r→dB P sp.f (sp.args0 d) (ao (sp.H0 d)) (sp.out r) (ao (sp.H1 r))):al P (τ.bJ sp):=by
 simp only[CR,aA,List.isEmpty_iff]at y;obtain⟨u,O,U,V⟩:=y;refine⟨fun g as b v k q=>?_,h.W,h.C,h.I,h.F⟩;simp only[ak.bJ]at k;split at k
 ·rename_i e
  have e:=bu e;subst e;split at k
  ·rename_i b' d hr
   simp only[aY,bg]at k;obtain⟨h1,rfl⟩:=k;subst h1;simp only[rj]at q;obtain⟨rfl,B⟩:=q;refine⟨hb,?_⟩;cases J:sp.F d with
   |none=>rw[J]at B; cases B
   | some r =>
    have M:=hc d r J;simp only[aH.args0,aH.H0,aH.out,aH.H1,U,V,cO,cI,ll,ef]at M;have:=UI M (yq u) (Wp (yq O));intro H E cargs hH HE N;exact this H E cargs hH HE (by
     have:=Wu HE u hr [] _ N
     rwa [c_]at this)
  ·exact h.T _ as b v k q
 ·exact h.T g as b v k q
end Go.AL

namespace Go.AL
open Go
variable [Dr]
def Kd.cA:List Kd→Bool
 | []=>true
 |.list _::_=>false
 |_::ks=>Kd.cA ks
def Ct.bI:Ct→Bool
 |.one k=>Kd.cA [k]
 |.agg ks=>Kd.cA ks
def ru:eC→Bool
 |.row ks=>Kd.cA ks
 |.list _ | .uw _ | .cptr _=>false
 |_=>true
def KH:Sh→Bool
 |.s a=>ru a
 |.clo _ caps=>caps.all ru
def KJ:cn→Bool
 |.vec ks _=>Kd.cA ks
 |.box cells=>cells.all ru
 |.map K V=>K.bI&&V.bI
 |.ev _ _ _=>true
 |.aI _ K ks=>K.bI&&Kd.cA ks
 |.mm _ K KI VI=>K.bI&&(KI.bI&&VI.bI)
def jz(sp:aH):Bool:=(sp.res.all KH)&&(sp.ft.all KJ)
theorem uE:∀{ks:List Kd} (r:List G),Kd.cA ks=true→AV.cA (aJ ks r)=true
 | [],_,_=>rfl
 |.list _::_,_,h=>by simp[Kd.cA]at h
 | .int _::ks,r,h | .str::ks,r,h | .bool::ks,r,h=>by
  simp only[Kd.cA]at h;simp only[aJ,AV.cA,uE r.tail h,fC];rfl
theorem Ct.ry{K:Ct}(r:List G)(h:K.bI=true):(K.av r).bI=true:=by
 cases K with
 | one k =>
  simp only[Ct.bI]at h;cases k<;>first
   |rfl
   |(simp[Kd.cA]at h; done)
 |agg ks=>simp only[Ct.av,AV.bI]; exact uE r h
theorem KK:∀ js:List Nat,AV.cA (pk js)=true
 | []=>rfl
 |j::js=>by simp only[pk,AV.cA,KK js,fC]; rfl
theorem KL{lens:c8}{a:eC}{d:List G}(h:ru a=true):(eD lens a d).bI=true:=by
 cases a<;>simp only[ru]at h<;>first
  |(cases h; done)
  |(simp only[eD,AV.bI]; exact uE _ h)
  |rfl
  |(simp only[eD,AV.bI]; exact KK _)
theorem CS{lens:c8}:∀{as:List eC} {d:List G},(as.all ru)=true→AV.cA (iz lens as d)=true
 | [],_,_=>rfl
 | a::as,d,h=>by
  simp only[kU,aA]at h;simp only[iz,AV.cA,KL h.1,CS h.2,sX]
theorem KM{lens:c8}:∀{as:List Sh} {d:List G},(as.all KH)=true→AV.cA (fh lens as d)=true
 | [],_,_=>rfl
 | a::as,d,h=>by
  simp only[kU,aA]at h;simp only[fh,AV.cA,KM h.2,fC];cases a with
  |s a=>exact KL h.1
  |clo f caps=>simp only[pn,AV.bI]; exact CS h.1
theorem Wv{vs:List AV}(h:AV.cA vs=true):(dc vs).bI=true:=by
 cases vs with
 |nil=>rfl
 | cons v vs =>
  cases vs with
  |nil=>simpa[dc,AV.cA]using h
  |cons v2 vs=>simpa only[dc,AV.bI]using h
theorem KN{lens:c8}:∀{os:List cn} {d:List G},(os.all KJ)=true→((ao (cO lens os d)).all ab.bI)=true
 | [],_,_=>rfl
 | o::os,d,h=>by
  simp only[kU,aA]at h;have k:=KN (lens:=lens) (d:=ef o.sz d) h.2;simp only[cO,ao,dw,kU,aA];refine⟨?_,by simpa only[ao]using k⟩;cases o with
  | vec ks u =>
   simp only[eL,ai.den,ab.bI,cR,dF];rintro r ⟨g,_,rfl⟩;exact uE g h.1
  |box cells=>simp only[eL,ai.den,ab.bI]; exact CS h.1
  | map K V =>
   have h1:(K.bI&&V.bI)=true:=h.1;simp only[aA]at h1;simp only[eL,ai.den,ab.bI,dh,cR,dF];rintro x ⟨g,_,rfl⟩;simp only[Ct.ry _ h1.1,Ct.ry _ h1.2,sX]
  |ev l T B=>rfl
  | aI l K ks =>
   have h1:(K.bI&&Kd.cA ks)=true:=h.1;simp only[aA]at h1;simp only[eL,ai.den,ab.bI,fS,cR,dF];rintro x ⟨g,_,rfl⟩;simp only[jo,Ct.ry _ h1.1,Bool.true_and];cases (gi g 3).bool with
   |false=>rfl
   | true =>
    simp only[cond_true,cR,dF];rintro r ⟨g2,_,rfl⟩;exact uE g2 h1.2
  | mm l K KI VI =>
   have h1:(K.bI&&(KI.bI&&VI.bI))=true:=h.1;simp only[aA]at h1;simp only[eL,ai.den,ab.bI,gX,nh,dh,aA,cR,dF];refine⟨?_,?_⟩
   ·rintro x ⟨g, _, rfl⟩
    exact Ct.ry _ h1.1
   ·rintro x ⟨g, _, rfl⟩ y v
    obtain⟨q,_,rfl⟩:=dF.1 v;simp only[Ct.ry _ h1.2.1,Ct.ry _ h1.2.2,and_self]
def ai.ch(e:bN)(j:Nat):ai→ai
 |.vec ks v rows=>.vec ks (v+e.up j) rows
 |.raw o=>.raw (o.ch e j)
 |.map K V rows c=>.map K V rows c
 |.aI l K ks rows c=>.aI l K ks rows c
 |.mm l K KI VI rows mem c=>.mm l K KI VI rows mem c
def uF(e:bN):Nat→List ai→List ai
 |_,[]=>[]
 |j,o::os=>o.ch e j::uF e (j+1) os
def iU(e:bN)(H H1:List ai):List ai:=d_ H e.ids (uF e 0 H1)++(uF e 0 H1).drop e.ids.length
theorem Ww(e:bN)(j:Nat)(o:ai):(o.ch e j).den=o.den.ch e j:=by
 cases o<;>rfl
theorem KO(e:bN):∀(j:Nat) (os:List ai),ao (uF e j os)=jU e j (ao os)
 |_,[]=>rfl
 | j,o::os=>by
  simp only[uF,ao,dw,jU,Ww];have:=KO e (j+1) os;simp only[ao]at this;rw[this]
theorem KP{α β:Type}(f:α→β):∀(is:List Nat) (l xs:List α),(d_ l is xs).map f=d_ (l.map f) is (xs.map f)
 | [],_,_=>by simp[d_]
 |_::_,_,[]=>by simp[d_]
 |i::is,l,x::xs=>by simp[d_,KP f is,List.map_set]
theorem Wx(e:bN)(H H1:List ai):ao (iU e H H1)=nz e (ao H) (ao H1):=by
 unfold iU nz;rw[←KO];simp only[ao,List.map_append,KP,List.map_drop]
def lq(e:bN):Nat→List cn→Bool
 |_,[]=>true
 |j,.vec _ _::os=>lq e (j+1) os
 |j,_::os=>ad (e.up j) 0&&lq e (j+1) os
theorem pt{e:bN}{lens:c8}:∀{j:Nat} {os:List cn} {d:List G},lq e j os=true→jV e j (ao (cO lens os d))=true
 |_,[],_,_=>rfl
 | j,.vec ks u::os,d,h=>by
  simp only[lq]at h;have:=pt (lens:=lens) (d:=ef (cn.vec ks u).sz d) h;simp only[cO,ao,dw,jV,aA];exact⟨rfl,by simpa only[ao]using this⟩
 | j,.box cells::os,d,h=>by
  simp only[lq,aA]at h;have:=pt (lens:=lens) (d:=ef (cn.box cells).sz d) h.2;simp only[cO,ao,dw,jV,aA];exact⟨h.1,by simpa only[ao]using this⟩
 | j,.map K V::os,d,h=>by
  simp only[lq,aA]at h;have:=pt (lens:=lens) (d:=ef (cn.map K V).sz d) h.2;simp only[cO,ao,dw,jV,aA];exact⟨h.1,by simpa only[ao]using this⟩
 | j,.ev l T B::os,d,h=>by
  simp only[lq,aA]at h;have:=pt (lens:=lens) (d:=ef (cn.ev l T B).sz d) h.2;simp only[cO,ao,dw,jV,aA];exact⟨h.1,by simpa only[ao]using this⟩
 | j,.aI l K ks::os,d,h=>by
  simp only[lq,aA]at h;have:=pt (lens:=lens) (d:=ef (cn.aI l K ks).sz d) h.2;simp only[cO,ao,dw,jV,aA];exact⟨h.1,by simpa only[ao]using this⟩
 | j,.mm l K KI VI::os,d,h=>by
  simp only[lq,aA]at h;have:=pt (lens:=lens) (d:=ef (cn.mm l K KI VI).sz d) h.2;simp only[cO,ao,dw,jV,aA];exact⟨h.1,by simpa only[ao]using this⟩
def rz(S:Bool)(ids:List Nat)(i:Nat):Bool:=match S with
 |true=>hG ids i
 |false=>false
def nI(sp:aH)(as:List AV)(H:List ai):Option (Bool × AV × List ai) :=
 match iT H (fun i=>as.getD i .undef) sp.ps []with
 |none=>none
 | some ids=>match nodupB ids&&lq (bK H ids) 0 sp.ft with
  |false=>none
  | true=>match iS H (bK H ids) (rz (jz sp) ids) sp.cJ ids,eg H (bK H ids) (rz (jz sp) ids) sp.args as with
   |some (b,g),some (h,d)=>some (rh (b&&h) (sp.F (g++d)).isSome,(sp.out ((sp.F (g++d)).getD [])).ch (bK H ids),iU (bK H ids) H (sp.H1 ((sp.F (g++d)).getD [])))
   |_,_=>none
def ml:List jy→Nat→Bool
 | [],_=>true
 |.cell j _::ps,n=>fa j n&&ml ps (n+1)
 |.CL j _ _::ps,n=>fa j n&&ml ps (n+1)
 |_::ps,n=>ml ps (n+1)
theorem KQ{H:List ai}{vals:Nat→AV}:∀{ps:List jy} {acc ids:List Nat},iT H vals ps acc=some ids→∀ x∈acc,x∈ids
 | [],acc,ids,h,x,d=>by cases h; exact d
 | p::ps,acc,ids,h,x,d=>by
  unfold iT at h;split at h
  ·exact KQ h x (qc _ d)
  ·cases h
theorem KR{H:List ai}{vals:Nat→AV}{id:Nat}{o:ai}:∀{ps:List jy} {acc ids:List Nat},ml ps acc.length=true→iT H vals ps acc=some ids→id∉ids→iT (H.set id o) vals ps acc=some ids
 | [],acc,ids,_,h,_=>h
 | p::ps,acc,ids,hw,h,hid=>by
  unfold iT at h⊢;split at h
  ·rename_i i hi
   have g:=KQ h;have get:∀ j,j<acc.length→(H.set id o)[acc.getD j 0]? = H[acc.getD j 0]? := fun j d=>by
    refine aU fun e=>hid ?_;rw[e,cr,bO d];exact g _ (qc _ (mP d))
   have e:yk (H.set id o) vals acc p=some i∧ml ps (acc++[i]).length=true:=by
    rw[e9];cases p with
    |fix _=>exact⟨hi,hw⟩
    |slot _=>exact⟨hi,hw⟩
    |cap _ _=>exact⟨hi,hw⟩
    | cell j c =>
     simp only[ml,aA,kh]at hw;refine⟨?_,hw.2⟩;simp only[yk]at hi⊢;rw[get j hw.1];exact hi
    | CL j c k =>
     simp only[ml,aA,kh]at hw;refine⟨?_,hw.2⟩;simp only[yk]at hi⊢;rw[get j hw.1];exact hi
   rw[e.1];exact KR e.2 h hid
  ·cases h
section Wy
variable {H:List ai} {e:bN} {id:Nat} {o:ai} (he:∀ j,e.at j≠id)
include he
theorem KS:∀(js:List Nat) (vs:List AV),jW (H.set id o) e js vs=jW H e js vs
 | [],[]=>rfl
 | [],_::_=>rfl
 |_::_,[]=>rfl
 | j::js,v::vs=>by
  have g:=KS js vs;cases v<;>try rfl
  rename_i i af k row c;simp only[jW,g];by_cases hi:i=id
  ·subst hi
   have d:ad i (e.at j)=false:=by
    cases hb:ad i (e.at j)with
    |false=>rfl
    |true=>exact absurd (bu hb).symm (he j)
   simp only[d,Bool.false_and];cases (H.set i o)[i]? <;> cases H[i]? <;> (repeat' split)<;>rfl
  ·rw[aU (Ne.symm hi)]
theorem KT:∀(sh:eC) (a:AV),fq (H.set id o) e (fun _=>false) sh a=fq H e (fun _=>false) sh a:=by
 have d:∀{i:Nat},i≠id→(H.set id o)[i]? = H[i]? := fun h=>aU (Ne.symm h);have g:∀ j,¬ (id=e.at j):=fun j h=>he j h.symm;intro sh a;cases a with
 | vec w i af off n =>
  by_cases hi:i=id
  ·subst hi
   cases sh<;>(try rfl)<;>simp only[fq,me,kS,and_false,if_false,g,false_and]<;>(repeat' split)<;>(first|rfl|simp_all)
  ·cases sh<;>(try rfl)<;>simp only[fq,d hi]
 | ptr i af k row col =>
  by_cases hi:i=id
  ·subst hi
   cases sh<;>(try rfl)<;>simp only[fq,me,kS,and_false,if_false,g,false_and]<;>(repeat' split)<;>(first|rfl|simp_all)
  ·cases sh<;>(try rfl)<;>simp only[fq,d hi]
 | map i =>
  by_cases hi:i=id
  ·subst hi
   cases sh<;>(try rfl)<;>simp only[fq,me,kS,and_false,if_false,g,false_and]<;>(repeat' split)<;>(first|rfl|simp_all)
  ·cases sh<;>(try rfl)<;>simp only[fq,d hi]
 | clo f vs =>
  cases sh<;>(try rfl)
  ·cases vs<;>rfl
  ·simp only[fq,KS he]
 | lit v =>
  cases sh<;>(try rfl)<;>cases v<;>(try rfl)
  ·rename_i b n c
   cases b<;>cases n<;>cases c<;>rfl
  ·rename_i q
   cases q with
   |none=>rfl
   | some q =>
    obtain⟨b,o',w⟩:=q;cases o'<;>cases w<;>rfl
 |_=>cases sh<;>rfl
theorem CT:∀(d:List eC) (as:List AV),fi (H.set id o) e (fun _=>false) d as=fi H e (fun _=>false) d as
 | [],[]=>rfl
 | [],_::_=>rfl
 |_::_,[]=>rfl
 |sh::d,a::as=>by simp only[fi,KT he sh a,CT d as]
theorem Wz(sh:Sh)(a:AV):jX (H.set id o) e (fun _=>false) sh a=jX H e (fun _=>false) sh a:=by
 cases sh with
 |s x=>simp only[jX,KT he]
 | clo f caps =>
  cases a with
  |clo g vs=>simp only[jX,CT he]
  |_=>rfl
theorem KU:∀(d:List Sh) (as:List AV),eg (H.set id o) e (fun _=>false) d as=eg H e (fun _=>false) d as
 | [],[]=>rfl
 | [],_::_=>rfl
 |_::_,[]=>rfl
 |sh::d,a::as=>by simp only[eg,Wz he sh a,KU d as]
theorem WA(sh:cn)(t:ai):gr (H.set id o) e (fun _=>false) sh t=gr H e (fun _=>false) sh t:=by
 cases sh with
 | box d =>
  cases t with
  |raw x=>cases x<;>simp only[gr,CT he]
  |_=>rfl
 | ev l T B =>
  cases t with
  |raw x=>cases x<;>rfl
  |_=>rfl
 |_=>cases t<;>rfl
theorem KV:∀(os:List cn) (is:List Nat),id∉is→iS (H.set id o) e (fun _=>false) os is=iS H e (fun _=>false) os is
 | [],[],_=>rfl
 | [],_::_,_=>rfl
 |_::_,[],_=>rfl
 | sh::os,i::is,h=>by
  have h1:id≠i:=fun e=>h (by rw[e]; exact cT);simp only[iS,aU h1,WA he,KV os is fun hm=>h (cY _ hm)]
end Wy
theorem KW{α:Type}{i:Nat}{x:α}:∀(is:List Nat) (l xs:List α),i∉is→d_ (l.set i x) is xs=(d_ l is xs).set i x
 | [],_,_,_=>by simp[d_]
 |_::_,_,[],_=>by simp[d_]
 | j::is,l,y::xs,h=>by
  have h1:i≠j:=fun e=>h (by rw[e]; exact cT);simp only[d_];rw[List.set_comm _ _ h1];exact KW is _ _ fun hm=>h (cY _ hm)
theorem WB{H:List ai}{ids:List Nat}{id:Nat}{o:ai}(h:id∉ids):bK (H.set id o) ids=bK H ids:=by
 unfold bK;rw[List.length_set];congr 1;refine List.map_congr_left fun i hi=>?_;unfold rf;rw[aU fun e=>h (by rw[e]; exact hi)]
theorem WC{sp:aH}(B:jz sp=false)(hw:ml sp.ps 0=true){as:List AV}{H H':List ai}{b:Bool}{v:AV}(h:nI sp as H=some (b,v,H')){id:Nat}{o:ai}(u:id<H.length)
  (hid:∀ ids,iT H (fun i=>as.getD i .undef) sp.ps []=some ids→id∉ids) :
  nI sp as (H.set id o)=some (b,v,H'.set id o)∧∃ ids,iT H (fun i=>as.getD i .undef) sp.ps []=some ids∧iT (H.set id o) (fun i=>as.getD i .undef) sp.ps []=some ids:=by
 unfold nI at h⊢;split at h
 ·cases h
 rename_i ids g;have d:=hid ids g;have q:=KR (o:=o) (acc:=[]) hw g d;refine⟨?_,ids,g,q⟩;rw[q];simp only[WB d];split at h
 ·cases h
 rename_i J;have y:rz (jz sp) ids=fun _=>false:=by
  rw[B];rfl
 rw[y]at h⊢;have he:∀ j,(bK H ids).at j≠id:=by
  intro j e;rcases jg j (bK H ids).ids.length with k|k
  ·have := gq k
   rw[e]at this;exact d (eO this)
  ·rw [q_ k] at e
   have:(bK H ids).base=H.length:=rfl;omega
 rw[KV he _ _ d,KU he];split at h
 case h_2=>cases h
 rename_i h1 M;cases h;have I:∀ X,iU (bK H ids) (H.set id o) X=(iU (bK H ids) H X).set id o:=fun X=>by
  unfold iU;rw[show (bK H ids).ids=ids from rfl,KW ids _ _ d,Hx _ _ (by rw[ny]; exact u)]
 rw[I]
def ak.cq(τ:ak)(sp:aH):ak where
 pf g:=match ad g sp.f with
  |true=>false
  |false=>τ.pf g
 T:=τ.T
 W g as H:=match ad g sp.f with
  | true=>match nI sp as H with
   |some r=>some r
   |none=>τ.W g as H
  |false=>τ.W g as H
 C g as H:=match ad g sp.f with
  | true=>(match iT H (fun i=>as.getD i .undef) sp.ps [] with
   |some ids=>ids
   |none=>[])++τ.C g as H
  |false=>τ.C g as H
 I:=τ.I
 N g:=match ad g sp.f with
  | true=>match τ.U g,jz sp with
   |false,false=>ml sp.ps 0
   |_,_=>false
  |false=>τ.N g
 U g:=match ad g sp.f with
  |true=>true
  |false=>τ.U g
def nJ:List cn→List cn→Bool
 |_,[]=>true
 | [],o'::d=>o'.iR.isNone&&nJ [] d
 | o::os,o'::d=>(match o'.iR with
  |none=>true
  | some l=>match o.iR with
   |some l'=>ad l l'
   |none=>false)&&nJ os d
theorem CU:∀{os k:List cn},nJ os k=true→∀(j:Nat) o' l,k[j]? = some o'→o'.iR=some l→∃ o,os[j]? = some o∧o.iR=some l
 |_,[],_,j,_,_,d,_=>by simp at d
 | [],x::k,h,0,o',l,d,g=>by
  simp only[nJ,aA]at h;simp at d;subst d;rw[g]at h;cases h.1
 | [],x::k,h,j+1,o',l,d,g=>by
  simp only[nJ,aA]at h;obtain⟨o,h1,_⟩:=CU h.2 j o' l (by simpa using d) g;simp at h1
 | o::os,x::k,h,0,o',l,d,g=>by
  simp only[nJ,aA]at h;simp at d;subst d;have h1:=h.1;rw[g]at h1;simp only[]at h1;split at h1
  ·rename_i l' q
   have:=bu h1;subst this;exact⟨o,rfl,q⟩
  ·cases h1
 | o::os,x::k,h,j+1,o',l,d,g=>by
  simp only[nJ,aA]at h;exact CU h.2 j o' l (by simpa using d) g
theorem KX(lens:c8):∀(os:List cn) (d:List G) (j:Nat) (o:ai),(cO lens os d)[j]? = some o→∃ sh d',os[j]? = some sh∧o=eL lens sh d'
 | [],d,j,o,h=>by simp[cO]at h
 | s::os,d,0,o,h=>by
  simp[cO]at h;exact⟨s,d,rfl,h.symm⟩
 | s::os,d,j+1,o,h=>by
  simp only[cO,SN]at h;obtain⟨sh,d',h1,g⟩:=KX lens os _ j o h;exact⟨sh,d',by simpa using h1,g⟩
theorem WD{lens:c8}{os:List cn}{d:List G}{j:Nat}{o:ab} (h:(ao (cO lens os d))[j]? = some o):∃ sh,os[j]? = some sh∧o.label=sh.iR:=by
 simp only[ao,cd]at h;obtain⟨o',h1,rfl⟩:=dQ.1 h;obtain⟨sh,d',g,rfl⟩:=KX lens os d j o' h1;exact⟨sh,g,ra _ _ _⟩
theorem KY(lens:c8):∀(os:List cn) (d:List G) (j:Nat) (sh:cn),os[j]? = some sh→∃ o,(ao (cO lens os d))[j]? = some o∧o.label=sh.iR
 | [],d,j,o,h=>by simp at h
 | s::os,d,0,sh,h=>by
  simp at h;subst h;exact⟨(eL lens s d).den,by simp[cO,ao],ra _ _ _⟩
 | s::os,d,j+1,sh,h=>by
  obtain⟨o,h1,g⟩:=KY lens os (ef s.sz d) j sh (by simpa using h);exact⟨o,by simpa[cO,ao]using h1,g⟩
def yr(sp:aH):Bool:=pr sp.cJ&&(dH sp.cJ.length sp.ft.length&&nJ sp.cJ sp.ft)
theorem WE{P:Program}{sp:aH}(hp:yr sp=true) (hc:∀ d r,sp.F d=some r→dB P sp.f (sp.args0 d) (ao (sp.H0 d)) (sp.out r) (ao (sp.H1 r)))
  {as:List AV} {H H':List ai} {v:AV} (h:nI sp as H=some (true,v,H')):dB P sp.f as (ao H) v (ao H'):=by
 simp only[yr,aA]at hp;obtain⟨hfr,hle,hlab⟩:=hp;have hle:=sY hle;unfold nI at h;split at h
 ·cases h
 rename_i ids hids;split at h
 ·cases h
 rename_i hck;simp only[aA]at hck;obtain⟨hnd,hup⟩:=hck;have hnd:=rk hnd;split at h
 case h_2=>cases h
 rename_i b g b' k h1 h2;simp only[aY,bg,rj,aA]at h;obtain⟨⟨⟨rfl,rfl⟩,h3⟩,rfl,rfl⟩:=h;cases hF:sp.F (g++k)with
 |none=>rw[hF]at h3; cases h3
 |some r =>
 simp only[lP];obtain⟨p0,p1,p2,p3⟩:=uy h1 k (cI sp.cJ (g++k));have hd:ef (ll sp.cJ) (g++k)=k:=by rw[←p0]; exact nC g k
 have hlen:ids.length=(ao (sp.H0 (g++k))).length:=by rw[en]; simp only[aH.H0,p1,p2]
 have hat:∀ j,j<ids.length→ids[j]? = some ((bK H ids).at j):=fun j q=>gq (e:=bK H ids) q;have hobjs:∀ j,j<ids.length→∃ sh o g1 M,sp.cJ[j]? = some sh∧H[(bK H ids).at j]? = some o∧gr H (bK H ids) (rz (jz sp) ids) sh o=some (true,g1) ∧
   (sp.H0 (g++k))[j]? = some (eL (cI sp.cJ (g++k)) sh (g1++M)) ∧
   (cI sp.cJ (g++k)).af j=sh.up∧(∀ ks v rows,o=.vec ks v rows→(cI sp.cJ (g++k)).len j=rows.length)∧sh.up=0∧(bK H ids).up j=rb o:=by
  intro j q;have hj':j<sp.cJ.length:=by omega
  obtain⟨i,o,g1,M,N,y,I,B,W,q6⟩:=p3 j sp.cJ[j] (bO hj');have q1':=N;rw[hat j q]at N;cases N;refine⟨sp.cJ[j],o,g1,M,bO hj',y,I,B,W,q6,?_,?_⟩
  ·have := cR.1 hfr sp.cJ[j] (mP hj')
   exact bu this
  ·simp only [bN.up, bK, cr, cd]
   rw[q1'];simp only[eF,lP,rf];rw[y]
 have hK:∀ E E0,E.H=ao H→au E→x9 (bK H ids) (bif jz sp then (dG H.length).filter (hG ids) else []) E E0→E0.H=ao (sp.H0 (g++k)) →
   gY H (bK H ids) (rz (jz sp) ids) (cI sp.cJ (g++k)) E E0:=by
  intro E E0 V HE O U;refine { hH:=V,HE:=HE,free:=fun i hi b n hb=>?_,cU:=O.toKeepIn,obj:=fun j o ho=>?_ }
  ·refine O.V7 i ?_ b n hb
   have hlt:=aK hb;rw[HE.len,V,en]at hlt;unfold rz at hi;split at hi
   ·rename_i J
    rw[J];simp only[cond_true,AK,List.mem_range];exact⟨hlt,hi⟩
   ·cases hi
  ·have q:j<ids.length:=by
    rcases jg j ids.length with hlt|hge
    ·exact hlt
    ·have h1 := aK ho
     have h2:=q_ (e:=bK H ids) hge;have h3:(bK H ids).base=H.length:=rfl;omega
   refine⟨q,?_⟩;obtain⟨sh,o',g1,M,N,y,I,B,W,q6,q7,q8⟩:=hobjs j q;rw[ho]at y;cases y;obtain⟨r1,r2,r3⟩:=CH (lens:=cI sp.cJ (g++k)) (d:=g1++M) I;exact⟨r1,⟨_,by rw[U]; exact bq B,by rw[W]; exact r2⟩,fun o0 h0=>by rw[U,bq B]at h0; cases h0; rw[CE,CF I],q6,fun _=>by rw[W]; exact q7⟩
 have:=frame (P:=P) (f:=sp.f) (jz sp) (bif jz sp then (dG H.length).filter (hG ids) else []) (e:=bK H ids) (H:=ao H) (args:=sp.args0 (g++k)) (H0:=ao (sp.H0 (g++k)))
  (H1:=ao (sp.H1 r)) (v:=sp.out r) (args0:=as) (hc _ _ hF) hlen (by rw[en]; rfl) hnd ?_ ?_ (pt hup) ?_ (fun J=>by rw[J]; rfl) ?_ ?_ ?_ ?_ ?_ ?_ ?_
 ·rw [Wx]
  exact this
 ·intro j o ho
  have q:j<ids.length:=by rw[hlen]; exact aK ho
  obtain⟨sh,o',g1,M,N,y,I,B,W,q6,q7,q8⟩:=hobjs j q;obtain⟨r1,r2,r3⟩:=CH (lens:=cI sp.cJ (g++k)) (d:=g1++M) I;rw[bq B]at ho;cases ho;refine⟨o'.den,bq y,ab.AO r2,fun v=>?_⟩;rw[r1,r2,q7,q8];simp only[aY];constructor
  ·rintro rfl
   exact⟨0,rfl,by omega⟩
  ·rintro ⟨u, rfl, rfl⟩
   omega
 ·intro E E0 V HE O U j o ho
  have q:j<ids.length:=by rw[hlen]; exact aK ho
  obtain⟨sh,o',g1,M,N,y,I,B,W,q6,q7,q8⟩:=hobjs j q;rw[bq B]at ho;cases ho;exact Ks (hK E E0 V HE O U) I M q (fun l hl=>O.iR j _ l (by rw[U]; exact bq B) (by rw[ra,hl])) (HE.obj _ _ (by rw[V]; exact bq y))
 ·rw [en, en]
  simp only[aH.H0,aH.H1,CQ];exact hle
 ·intro J
  simp only[jz,aA]at J;exact Wv (KM J.1)
 ·intro J
  simp only[jz,aA]at J;exact KN J.2
 ·intro i hi
  cases J:jz sp with
  | true =>
   rw[J]at hi;simp only[cond_true,AK]at hi;exact Kw hi.2
  | false =>
   rw[J]at hi;simp at hi
 ·intro j o o' ho ho'
  have q:j<ids.length:=by rw[hlen]; exact aK ho
  obtain⟨sh,o2,g1,M,N,y,I,B,_⟩:=hobjs j q;rw[bq B]at ho;rw[bq y]at ho';cases ho;cases ho';rw[Kn I,ra]
 ·intro j o l ho hl
  obtain⟨sh,h5,h6⟩:=WD (show (ao (cO (cI sp.ft r) sp.ft r))[j]? = some o from ho);obtain⟨sh0,h7,h8⟩:=CU hlab j sh l h5 (by rw[←h6,hl]);obtain⟨o0,h9,h10⟩:=KY (cI sp.cJ (g++k)) sp.cJ (g++k) j sh0 h7;exact⟨o0,h9,by rw[h10,h8]⟩
 ·intro j o o' ho ho'
  have q:j<ids.length:=by rw[hlen]; exact aK ho
  obtain⟨sh,o2,g1,M,N,y,I,B,_⟩:=hobjs j q;rw[bq B]at ho;rw[bq y]at ho';cases ho;cases ho';rw[CF I,CE]
 ·intro E E0 cs V HE O U hr
  have hS:=(ux (hK E E0 V HE O U) h2 []).2.2.2 cs hr;rw[c_]at hS;simp only[aH.args0,hd];exact hS
theorem WG{sp:aH}{as:List AV}{H H':List ai}{v:AV}{b:Bool}{A:Nat}(h:nI sp as H=some (b,v,H'))(g:A<H.length)(k:∀ ids,iT H (fun i=>as.getD i .undef) sp.ps []=some ids→A∉ids):H'[A]? = H[A]? := by
 unfold nI at h;split at h
 ·cases h
 rename_i ids d;split at h
 ·cases h
 split at h
 case h_2=>cases h
 cases h;unfold iU;rw[cK (by rw[ny]; exact g)];exact x_ _ _ _ _ (k ids d)
theorem al.cq{P:Program}{τ:ak}(h:al P τ){sp:aH}(hb:eS P sp.f=true)(V:yr sp=true)
  (hc:∀ d r,sp.F d=some r→dB P sp.f (sp.args0 d) (ao (sp.H0 d)) (sp.out r) (ao (sp.H1 r))):al P (τ.cq sp):=by
 refine⟨h.T,fun g as H b v H' k N=>?_,fun g as H b v H' k A q u=>?_,fun g as H t k Q hQ=>?_,fun g y as H=>?_,fun g B as H b v H' k id o u hid=>?_⟩
 rotate_left 2
 ·obtain ⟨g1, v, H', g2, g3, g4⟩ := h.I g as H t k Q hQ
  refine⟨g1,v,H',g2,fun A q u=>g3 A (fun hm=>q ?_) u,g4⟩;simp only[ak.cq];split
  ·exact wH _ hm
  ·exact hm
 ·simp only [ak.cq] at y ⊢
  cases e:ad g sp.f with
  |true=>rw[e]at y; cases y
  | false =>
   rw[e]at y;exact h.F.1 g y as H
 ·simp only [ak.cq] at B k hid ⊢
  cases e:ad g sp.f with
  | false =>
   rw[e]at B k hid;exact h.F.2 g B as H b v H' k id o u hid
  | true =>
   rw[e]at B k hid;simp only[]at B k hid⊢;split at B
   case h_2=>cases B
   rename_i y hs;have U:∀ H,τ.W g as H=none:=fun H=>(h.F.1 g y as H).1;have O:∀ H,τ.C g as H=[]:=fun H=>(h.F.1 g y as H).2;rw[U]at k;split at k
   case h_2=>cases k
   rename_i r J;cases k;obtain⟨q1,ids,q2,q3⟩:=WC hs B J (o:=o) u fun ids M hm=>hid (qc _ (by rw[M]; exact hm));rw[q1];refine⟨rfl,?_⟩;rw[q2,q3,O,O]
 simp only[ak.cq]at k;split at k
 ·rename_i e
  have e:=bu e;subst e;split at k
  ·rename_i r J
   cases k;subst N;exact⟨hb,WE V hc J⟩
  ·exact h.W _ as H b v H' k N
 ·exact h.W g as H b v H' k N
 simp only[ak.cq]at k q;split at k
 ·rename_i e
  rw[e]at q;simp only[]at q;split at k
  ·rename_i r J
   cases k;exact WG J u fun ids M hm=>q (qc _ (by rw[M]; exact hm))
  ·exact h.C g as H b v H' k A (fun hm=>q (wH _ hm)) u
 ·rename_i e
  rw[e]at q;exact h.C g as H b v H' k A q u
end Go.AL

namespace Go.AL
open Go
variable [Dr]
def aB{β:Type}(t:Option (List G))(k:List G→Option β):Option β:=bif t.isSome then k (t.getD []) else none
def eE{β:Type}(b:Bool)(t:Option (List G))(k:List G→Option β):Option β:=bif b then k (t.getD []) else none
def aM{β:Type}(b:Bool)(r:Option (Nat × List G))(k:Nat→List G→Option β):Option β:=bif (b&&r.isSome) then k (CM r) (CN r) else none
def WH:Kd→G→G
 |.int _,g=>.i g.int
 |.str,g=>.s g.str
 |.bool,g=>.t g.bool
 |.list _,g=>.l g.rows
def aD:List Kd→List G→List G
 | [],_=>[]
 |k::ks,r=>WH k (r.headD default)::aD ks r.tail
def ak.gv(τ:ak)(d:List FuncId):ak:={ τ with pf:=fun g=>match d.any (fun x=>ad x g)with
 |true=>false
 |false=>τ.pf g }
def ak.ia(τ:ak)(d:List FuncId):ak:={ τ with pf:=fun g=>match d.any (fun x=>ad x g)with
 |true=>true
 |false=>τ.pf g }
theorem al.ia{P:Program}{τ:ak}(h:al P τ)(d:List FuncId):al P (τ.ia d):=⟨h.T,h.W,h.C,h.I,h.F⟩
theorem al.gv{P:Program}{τ:ak}(h:al P τ)(d:List FuncId):al P (τ.gv d):=⟨h.T,h.W,h.C,h.I,h.F⟩
inductive iA (st:List G→Option (Option Nat × List G)):Nat→List G→Nat→List G→Prop
 |stop {d d':List G} {x:Nat} (h:st d=some (some x,d')):iA st 1 d x d'
 |next {d d1 d':List G} {x n:Nat} (h:st d=some (none,d1)) (h':iA st n d1 x d'):iA st (n+1) d x d'
theorem iA.iter{st:List G→Option (Option Nat × List G)}{n:Nat}{d d':List G}{x:Nat}(h:iA st n d x d'):∀ m,n≤m→po st m d=some (x,d'):=by
 induction h with
 | stop h =>
  intro m hm;cases m with
  |zero=>omega
  |succ m=>simp only[po,h]
 | next h _ g =>
  intro m hm;cases m with
  |zero=>omega
  |succ m=>simp only[po,h]; exact g m (by omega)
theorem iA.WI{st:List G→Option (Option Nat × List G)}{n:Nat}{d d':List G}{x:Nat}(h:iA st n d x d')(g:n≤1000000):bD st d=some (x,d'):=h.iter _ g
end Go.AL

namespace Go.AL
open Go
variable [Dr]
inductive Hint where
 |freeze (slot:Nat)
 |KZ (slot:Nat) (ks:List Kd)
 |K3 (slot c:Nat) (ks:List Kd)
 |yt (slot:Nat)
 |K4 (slot c:Nat)
 |hole (ks:List Kd)
 |rA
 |aI (slot l:Nat)
 |yu (slot:Nat)
 |mm (slot l:Nat) (KI VI:Ct)
 |lr (slot c l:Nat) (KI VI:Ct)
 |forget (id:Nat)
 |K5 (slot c:Nat) (ks:List Kd)
def yv(slot:Nat)(s:ar):Bool × ar :=
 match s.fr.getD slot .undef with
 | .vec w id af off n=>match s.H[id]? with
  |some (.vec ks v rows)=>if af=v∧off=0∧w=ks.length then (ad n rows.length,⟨s.fr.set slot (.listF ks rows),s.H.set id (.raw .dead)⟩) else (true,s)
  |_=>(true,s)
 |_=>(true,s)
def CV(slot c:Nat)(ks:List Kd)(s:ar):Bool × ar :=
 match s.fr.getD slot .undef with
 | .ptr id _ _ _ _=>match s.H[id]? with
  | some (.raw (.box cells))=>match cells[c]? with
   | some a=>match isNil a with
    |true=>(true,⟨s.fr,s.H.set id (.raw (.box (cells.set c (.vec ks.length s.H.length 0 0 0))))++[.vec ks 0 []]⟩)
    |false=>(true,s)
   |none=>(true,s)
  |_=>(true,s)
 |_=>(true,s)
def yw(slot c:Nat)(s:ar):Bool × ar :=
 match s.fr.getD slot .undef with
 | .ptr id _ _ _ _=>match s.H[id]? with
  | some (.raw (.box cells))=>match cells[c]? with
   | some (.vec w d af off n)=>match s.H[d]? with
    |some (.vec ks v rows)=>if af=v∧off=0∧w=ks.length then (ad n rows.length,⟨s.fr,(s.H.set d (.raw .dead)).set id (.raw (.box (cells.set c (.listF ks rows))))⟩) else (true,s)
    |_=>(true,s)
   |_=>(true,s)
  |_=>(true,s)
 |_=>(true,s)
def yx(slot:Nat)(s:ar):Bool × ar :=
 match s.fr.getD slot .undef with
 | .vec w id af off n=>match s.H[id]? with
  |some (.vec ks v rows)=>if af=v∧off=0∧w=ks.length then (dH n rows.length,⟨s.fr.set slot (.vec w id (v+1) 0 n),s.H.set id (.vec ks (v+1) (rows.take n))⟩) else (true,s)
  |_=>(true,s)
 |_=>(true,s)
def yy(slot l:Nat)(s:ar):Bool × ar :=
 match s.fr.getD slot .undef with
 | .map id=>match s.H[id]? with
  |some (.map K (.one (.list ks)) [] cl)=>(lZ (ao s.H) l,⟨s.fr,s.H.set id (.aI l K ks [] cl)⟩)
  |_=>(true,s)
 |_=>(true,s)
def yz(rows:List (List G)):Bool:=rows.all fun r=>(gi r 3).bool
def yA(slot:Nat)(s:ar):Bool × ar :=
 match s.fr.getD slot .undef with
 | .map id=>match s.H[id]? with
  |some (.aI _ K ks rows cl)=>(yz rows,⟨s.fr,s.H.set id (.map K (.one (.list ks)) rows cl)⟩)
  |_=>(true,s)
 |_=>(true,s)
def yB(slot l:Nat)(KI VI:Ct)(s:ar):Bool × ar :=
 match s.fr.getD slot .undef with
 | .map id=>match s.H[id]? with
  |some (.map K _ [] cl)=>(lZ (ao s.H) l,⟨s.fr,s.H.set id (.mm l K KI VI [] [] cl)⟩)
  |_=>(true,s)
 |_=>(true,s)
def yC(slot c l:Nat)(KI VI:Ct)(s:ar):Bool × ar :=
 match s.fr.getD slot .undef with
 | .ptr a _ _ _ _=>match s.H[a]? with
  | some (.raw (.box cells))=>match cells[c]? with
   | some (.map id)=>match s.H[id]? with
    |some (.map K _ rows cl)=>(rh (lZ (ao s.H) l) rows.isEmpty,⟨s.fr,s.H.set id (.mm l K KI VI [] [] cl)⟩)
    |_=>(true,s)
   |_=>(true,s)
  |_=>(true,s)
 |_=>(true,s)
def CW(id:Nat)(s:ar):Bool × ar :=
 match s.H[id]? with
 |some (.raw (.box _))=>(true,⟨s.fr,s.H.set id (.vec [] 1 [])⟩)
 |some (.map ..)=>(true,⟨s.fr,s.H.set id (.vec [] 1 [])⟩)
 |some (.mm ..)=>(true,⟨s.fr,s.H.set id (.vec [] 1 [])⟩)
 |_=>(true,s)
def CX(slot c:Nat)(ks:List Kd)(s:ar):Bool × ar :=
 match s.fr.getD slot .undef with
 | .ptr id _ _ _ _=>match s.H[id]? with
  | some (.raw (.box cells))=>match cells[c]? with
   | some (.list w rows)=>match bh ks rows with
    |some gs=>if w=ks.length then (true,⟨s.fr,s.H.set id (.raw (.box (cells.set c (.listF ks gs))))⟩) else (true,s)
    |none=>(true,s)
   |_=>(true,s)
  |_=>(true,s)
 |_=>(true,s)
def yD:Hint→ar→Bool × ar
 |.freeze i,s=>yv i s
 | .KZ i ks,s=>match isNil (s.fr.getD i .undef) with
  |true=>(true,uq i ks s)
  |false=>(true,s)
 |.K3 i c ks,s=>CV i c ks s
 |.yt i,s=>yx i s
 |.K4 i c,s=>yw i c s
 |.hole ks,s=>(true,⟨s.fr,s.H++[.vec ks 0 []]⟩)
 |.rA,s=>(true,⟨s.fr,s.H++[.raw .dL]⟩)
 |.aI i l,s=>yy i l s
 |.yu i,s=>yA i s
 |.mm i l KI VI,s=>yB i l KI VI s
 |.lr i c l KI VI,s=>yC i c l KI VI s
 |.forget i,s=>CW i s
 |.K5 i c ks,s=>CX i c ks s
def uG:List Hint→ar→Bool × ar
 | [],s=>(true,s)
 | h::d,s=>match yD h s with
  | (b,s1)=>match uG d s1 with
   |(g,s2)=>(b&&g,s2)
theorem WJ{m:Nat}{slot:Nat}{s:ar}(h:(yv slot s).1=true):bx m s.den (yv slot s).2.den:=by
 unfold yv at h⊢;split
 case h_2=>exact bx.refl _
 rename_i w id af off n M;split
 case h_2=>exact bx.refl _
 rename_i ks v rows hid;split
 case isFalse=>exact bx.refl _
 rename_i y;obtain⟨rfl,rfl,rfl⟩:=y;simp only[M,hid,and_self,if_true]at h;have hn:=bu h;subst hn;intro E a d;have hH:E.H=ao s.H:=d.H;have hle:=Env.qj d.heap id;have V:=au.drop d.heap id fun o ho=>by
  rw[show E.H[id]? = some (.vec ks.length af (rows.map (aJ ks))) by rw[hH]; exact bq hid]at ho;cases ho;rfl
 have I:ao (s.H.set id (.raw .dead))=E.H.set id .dead:=by rw[df,hH]; rfl
 refine⟨E.loc.set id none,E.X,?_,?_⟩
 ·simp only [ar.den]
  rw[I];refine⟨rfl,?_,d.defers,V⟩;refine yg (dA hle _ d.fr) fun c y=>?_;have u:=CK d.fr y;rw[show s.den.fr=s.fr from rfl,M]at u;have J:E.H[id]? = some (.vec ks.length af (rows.map (aJ ks))):=by rw[hH]; exact bq hid
  have ho:=d.heap.obj id _ J;rw[iI];simp only[rel]at u⊢;obtain⟨⟨base,cap,rfl,U,_⟩,_,B⟩:=u;obtain⟨q1,q2⟩:=B ⟨_,J,rfl⟩;have N:eQ (rows.map (aJ ks)):=by
   intro r u;obtain⟨g,_,rfl⟩:=dF.1 u;exact fD ks g
  refine⟨N,base,cap,by simp,by simpa using U,?_⟩;simp only[aO]at ho;rcases ho with⟨h1,O⟩|⟨b,mm,h1,O,B,_,h4⟩
  ·exact .inl O
  ·obtain ⟨g1, o, g2, g3⟩ := q2 b mm h1
   by_cases hm:rows=[]
   ·subst hm; exact .inl rfl
   ·right
    have:0<rows.length:=by cases rows with|nil=>exact(hm rfl).elim|cons _ _=>simp
    simp at B;have ho:=g2 (by omega);simp at ho;subst ho;simp only[jE]at g3;refine⟨b,0,g3.1,⟨(d.heap.lt id b mm h1).1,?_,(d.heap.lt id b mm h1).2⟩,km hle.toC _ N rfl h4⟩;rintro(⟨j,c',q⟩|⟨l,k,c',q⟩)
    case inr=>exact d.heap.cQ _ _ _ _ _ _ h1 q
    simp only[dR]at q;split at q
    ·split at q<;>cases q
    ·rename_i W
     exact W (d.heap.inj _ _ _ _ _ h1 q)
 ·simp only [ar.den]
  rw[I];exact hle.toM
theorem WK{m:Nat}{slot c:Nat}{ks:List Kd}{s:ar}:bx m s.den (CV slot c ks s).2.den:=by
 unfold CV;split
 case h_2=>exact bx.refl _
 rename_i id af k row col hsl;split
 case h_2=>exact bx.refl _
 rename_i cells hid;split
 case h_2=>exact bx.refl _
 rename_i a0 ha0;split
 case h_2=>exact bx.refl _
 rename_i hnil;intro E a g;have hH:E.H=ao s.H:=g.H;have hlen:E.H.length=s.H.length:=by rw[hH,en]
 have hle:E.le (E.push E.w (.vec ks.length 0 []) none):=Env.jk g.heap.len (Ext.refl _) (fun b n h=>by cases h);have hobj:aO (E.push E.w (.vec ks.length 0 []) none) E.H.length (.vec ks.length 0 []):=by
  simp only[aO,Env.push];refine .inl ⟨?_,trivial⟩;rw[gL (by rw[g.heap.len]; exact aG _),g.heap.len,mL];rfl
 have u:au (E.push E.w (.vec ks.length 0 []) none):=au.push g.heap (Ext.refl _) (fun b n h=>by cases h) hobj;generalize y:E.push E.w (.vec ks.length 0 []) none=d at hle u;have J:d.w=E.w:=by rw[←y]; rfl
 have M:d.X=E.X:=by rw[←y]; rfl
 have N:d.H=ao (s.H++[.vec ks 0 []]):=by rw[←y,gF,←hH]; rfl
 have V:id<s.H.length:=aK hid;have B:d.H[id]? = some (.box cells):=by
  rw[N];exact bq (H:=s.H++[.vec ks 0 []]) (o:=.raw (.box cells)) (by rw[cK V]; exact hid)
 have ho:=u.obj id _ B;simp only[aO]at ho;obtain⟨b,n,h1,h2,O⟩:=ho;have W:∀ v,(ab.box (cells.set c (.vec ks.length s.H.length 0 0 0))).aF = some v→(ab.box cells).aF = some v:=fun v U=>by simpa[ab.aF]using U
 have I:=Env.lY (o':=.box (cells.set c (.vec ks.length s.H.length 0 0 0))) (w':=d.w) u B h1 W rfl (fun _ _=>rfl);have hnew:d.H[s.H.length]? = some (.vec ks.length 0 []):=by
  rw[N];have e:(s.H++[ai.vec ks 0 []])[s.H.length]? = some (ai.vec ks 0 []):=by rw[gL (aG _),mL]; rfl
  exact bq e
 have hloc:d.loc[s.H.length]? = some none:=by
  rw[←y];simp only[Env.push];rw[gL (by rw[g.heap.len]; omega),g.heap.len,hlen,mL];rfl
 have hrel:∀ v,rel d a0 v→rel { w:=d.w,H:=d.H.set id (.box (cells.set c (.vec ks.length s.H.length 0 0 0))),loc:=d.loc,X:=d.X } (.vec ks.length s.H.length 0 0 0) v:=by
  intro v U;obtain⟨base,rfl⟩:=J9 hnil U;simp only[rel];have hne:id≠s.H.length:=by omega
  refine⟨⟨base,0,rfl,aG _,fun h=>absurd h (qe _)⟩,⟨.vec ks.length 0 [],by rw[aU hne]; exact hnew,rfl,fun v h=>eh _⟩,fun _=>⟨fun _=>⟨trivial,trivial,base,rfl⟩,fun b m hb=>?_⟩⟩;rw[hloc]at hb;cases hb
 have hHR2:=au.set (w':=d.w) u B h1 W rfl (fun _ _=>rfl) (by
  simp only[aO];refine⟨b,n,h1,by simpa using h2,?_⟩;rw[iq]at O⊢;intro i x q;rw[dR]at q;split at q
  ·rename_i e
   subst e;split at q
   ·cases q
    obtain⟨v,g1,g2,g3⟩:=O c a0 ha0;exact⟨v,g1,g2,hrel v g3⟩
   ·cases q
  ·obtain ⟨v, g1, g2, g3⟩ := O i x q
   exact⟨v,g1,g2,bR I x g3⟩)
 have hden:ao (s.H.set id (.raw (.box (cells.set c (.vec ks.length s.H.length 0 0 0))))++[.vec ks 0 []])=d.H.set id (.box (cells.set c (.vec ks.length s.H.length 0 0 0))):=by
  rw[N,gF,gF,df,Hx _ _ (by rw[en]; exact V)];rfl
 refine⟨d.loc,E.X,?_,?_⟩
 ·simp only [ar.den]
  rw[hden];rw[J,M]at hHR2;refine⟨rfl,?_,g.defers,hHR2⟩;have:=dA I _ (dA hle _ g.fr);rw[J,M]at this;exact this
 ·simp only [ar.den]
  rw[hden];have:=(hle.trans I).toM (m:=m);rw[J,M]at this;exact this
theorem WL{m:Nat}{slot c:Nat}{s:ar}(h:(yw slot c s).1=true):bx m s.den (yw slot c s).2.den:=by
 unfold yw at h⊢;split
 case h_2=>exact bx.refl _
 rename_i id ver0 k row col hsl;split
 case h_2=>exact bx.refl _
 rename_i cells hid;split
 case h_2=>exact bx.refl _
 rename_i w g af off n U;split
 case h_2=>exact bx.refl _
 rename_i ks v rows M;split
 case isFalse=>exact bx.refl _
 rename_i hc;obtain⟨rfl,rfl,rfl⟩:=hc;simp only[hsl,hid,U,M,and_self,if_true]at h;have hn:=bu h;subst hn;intro E a q;have hH:E.H=ao s.H:=q.H;have hne:id≠g:=fun e=>by
  rw[e,M]at hid;cases hid
 have W:E.H[id]? = some (.box cells):=by rw[hH]; exact bq hid
 have V:E.H[g]? = some (.vec ks.length af (rows.map (aJ ks))):=by rw[hH]; exact bq M
 obtain⟨b0,n0,k1,k2,k3⟩:=q.heap.obj id _ W;rw[iq]at k3;obtain⟨cv,c1,c2,c3⟩:=k3 c _ U;have hfr:=IZ q.heap V c3;have hle:=Env.qj q.heap g;have I:=au.drop q.heap g fun o ho=>by
  rw[V]at ho;cases ho;rfl
 generalize y:({ w:=E.w,H:=E.H.set g .dead,loc:=E.loc.set g none,X:=E.X }:Env)=d at hle I hfr;have J:d.w=E.w:=by rw[←y]
 have O:d.X=E.X:=by rw[←y]
 have N:d.H[id]? = some (.box cells):=by
  rw[←y];show (E.H.set g .dead)[id]? = _
  rw[aU (Ne.symm hne)];exact W
 have hl1:d.loc[id]? = some (some (b0,n0)):=by
  rw[←y];show (E.loc.set g none)[id]? = _
  rw[aU (Ne.symm hne)];exact k1
 obtain⟨b,n,h1,h2,h3⟩:=I.obj id _ N;have hbb:b=b0:=by
  rw[hl1]at h1;cases h1;rfl
 subst hbb;have hver:∀ v,(ab.box (cells.set c (.listF ks rows))).aF = some v→(ab.box cells).aF = some v:=fun v hv=>by simpa[ab.aF]using hv
 have B:=Env.lY (o':=.box (cells.set c (.listF ks rows))) (w':=d.w) I N h1 hver rfl (fun _ _=>rfl);have hHR2:=au.set (w':=d.w) I N h1 hver rfl (fun _ _=>rfl) (by
  simp only[aO];refine⟨b,n,h1,by simpa using h2,?_⟩;rw[iq]at h3⊢;intro i x u;rw[dR]at u;split at u
  ·rename_i e
   subst e;split at u
   ·cases u
    refine⟨cv,by rw[show ({ w:=d.w,H:=_,loc:=d.loc,X:=d.X }:Env).w=E.w from J]; exact c1,c2,bR B _ hfr⟩
   ·cases u
  ·obtain ⟨v, g1, g2, g3⟩ := h3 i x u
   exact⟨v,g1,g2,bR B x g3⟩)
 have hden:ao ((s.H.set g (.raw .dead)).set id (.raw (.box (cells.set c (.listF ks rows)))))=d.H.set id (.box (cells.set c (.listF ks rows))):=by
  rw[df,df,←hH,←y];rfl
 refine⟨d.loc,E.X,?_,?_⟩
 ·simp only [ar.den]
  rw[hden];rw[J,O]at hHR2;refine⟨rfl,?_,q.defers,hHR2⟩;have:=dA B _ (dA hle _ q.fr);rw[J,O]at this;exact this
 ·simp only [ar.den]
  rw[hden];have:=(hle.trans B).toM (m:=m);rw[J,O]at this;exact this
theorem WM{m:Nat}{slot c:Nat}{ks:List Kd}{s:ar}:bx m s.den (CX slot c ks s).2.den:=by
 unfold CX;split
 case h_2=>exact bx.refl _
 rename_i id W k row col hsl;split
 case h_2=>exact bx.refl _
 rename_i cells hid;split
 case h_2=>exact bx.refl _
 rename_i w rows I;split
 case h_2=>exact bx.refl _
 rename_i gs M;split
 case isFalse=>exact bx.refl _
 rename_i hw;subst hw;intro E a d;have hH:E.H=ao s.H:=d.H;have q:E.H[id]? = some (.box cells):=by rw[hH]; exact bq hid
 obtain⟨b,n,h1,N,u⟩:=d.heap.obj id _ q;have y:∀ v,(ab.box (cells.set c (.listF ks gs))).aF = some v→(ab.box cells).aF = some v:=fun v O=>by simpa[ab.aF]using O
 have h:=Env.lY (o':=.box (cells.set c (.listF ks gs))) (w':=E.w) d.heap q h1 y rfl (fun _ _=>rfl);have J:=au.set (w':=E.w) d.heap q h1 y rfl (fun _ _=>rfl) (by
  simp only[aO];refine⟨b,n,h1,by simpa using N,?_⟩;rw[iq]at u⊢;intro i x g;rw[dR]at g;split at g
  ·rename_i e
   subst e;split at g
   ·cases g
    obtain⟨U,c1,c2,V⟩:=u c _ I;refine⟨U,c1,c2,bR h _ ?_⟩;rw[iI,o9 M];exact V
   ·cases g
  ·obtain ⟨v, g1, g2, g3⟩ := u i x g
   exact⟨v,g1,g2,bR h x g3⟩)
 have B:ao (s.H.set id (.raw (.box (cells.set c (.listF ks gs)))))=E.H.set id (.box (cells.set c (.listF ks gs))):=by rw[df,←hH]; rfl
 refine⟨E.loc,E.X,?_,?_⟩
 ·simp only [ar.den]
  rw[B];exact⟨rfl,dA h _ d.fr,d.defers,J⟩
 ·simp only [ar.den]
  rw[B];exact h.toM
theorem WN{m:Nat}{slot:Nat}{s:ar}(h:(yx slot s).1=true):bx m s.den (yx slot s).2.den:=by
 unfold yx at h⊢;split
 case h_2=>exact bx.refl _
 rename_i w id af off n N;split
 case h_2=>exact bx.refl _
 rename_i ks v rows hid;split
 case isFalse=>exact bx.refl _
 rename_i B;obtain⟨rfl,rfl,rfl⟩:=B;simp only[N,hid,and_self,if_true]at h;have hn:=sY h;intro E a d;have hH:E.H=ao s.H:=d.H;have y:E.H[id]? = some (.vec ks.length af (rows.map (aJ ks))):=by rw[hH]; exact bq hid
 have ho:=d.heap.obj id _ y;obtain⟨l,I⟩:∃ l,E.loc[id]? = some l:=by
  have:id<E.loc.length:=by rw[d.heap.len]; exact aK y
  exact⟨_,bO this⟩
 have O:E.loc.set id l=E.loc:=la I;have M:ao (s.H.set id (.vec ks (af+1) (rows.take n)))=E.H.set id (.vec ks.length (af+1) ((rows.take n).map (aJ ks))):=by rw[df,hH]; rfl
 have hlc:∀ b n,l=some (b,n)→E.w.heap.size≤b∨∃ m,E.loc[id]? = some (some (b,m)):=fun b n hb=>.inr ⟨n,by rw[I,hb]⟩;have U:∀ v u,(ab.vec ks.length (af+1) ((rows.take n).map (aJ ks))).aF = some v→(ab.vec ks.length af (rows.map (aJ ks))).aF = some u→u≤v:=by
  intro v u h1 k;simp[ab.aF]at h1 k;omega
 have V:∀ v,(ab.vec ks.length (af+1) ((rows.take n).map (aJ ks))).aF = some v→∀ u,(ab.vec ks.length af (rows.map (aJ ks))).aF = some u→u<v:=by
  intro v h1 u k;simp[ab.aF]at h1 k;omega
 have hle:=Env.jl (o':=.vec ks.length (af+1) ((rows.take n).map (aJ ks))) (l:=l) (w':=E.w) y d.heap.len (aG _) (fun _ _ _=>rfl) hlc (.inr V) U (fun _ h=>by simp[ab.aF]at h);have W:=au.kp (o':=.vec ks.length (af+1) ((rows.take n).map (aJ ks))) (l:=l) (w':=E.w) d.heap y (aG _) (fun _ _ _=>rfl) (fun b n hb=>.inr ⟨n,by rw[I,hb]⟩) (.inr V) U (fun _ h=>by simp[ab.aF]at h) (by
  rw[O]at hle⊢;simp only[aO]at ho⊢;rcases ho with⟨h1,k⟩|⟨b,mm,h1,k,J,h4,h5⟩
  ·left
   refine⟨h1,?_⟩;have:rows=[]:=by simpa using k
   rw[this];simp
  ·right
   refine⟨b,mm,h1,k,by simp at J⊢; omega,?_,?_⟩
   ·intro r q
    obtain⟨g,_,rfl⟩:=dF.1 q;exact fD ks g
   ·rw [kX] at h5 ⊢
    intro i r hi;simp only[cd,lJ]at hi;split at hi
    ·obtain ⟨g1, g2⟩ := h5 i r (by simpa using hi)
     exact⟨g1,tc (fun a c q=>bR hle a q) rfl g2⟩
    ·simp at hi)
 rw[O]at hle W;refine⟨E.loc,E.X,?_,?_⟩
 ·simp only [ar.den]
  rw[M];refine⟨rfl,?_,d.defers,W⟩;refine yg (dA hle _ d.fr) fun c B=>?_;have q:=CK d.fr B;rw[show s.den.fr=s.fr from rfl,N]at q;simp only[rel]at q⊢;obtain⟨h1,k,J⟩:=q;exact⟨h1,⟨.vec ks.length (af+1) ((rows.take n).map (aJ ks)),bB (aK y),rfl,fun v hv=>by simp[ab.aF]at hv; omega⟩,fun _=>J ⟨_,y,rfl⟩⟩
 ·simp only [ar.den]
  rw[M];exact hle.toM
theorem WO{m:Nat}{ks:List Kd}{s:ar}:bx m s.den (ar.den ⟨s.fr,s.H++[.vec ks 0 []]⟩):=fun E a d=>by
 have hH:E.H=ao s.H:=d.H;have hle:E.le (E.push E.w (.vec ks.length 0 []) none):=Env.jk d.heap.len (Ext.refl _) (fun b n h=>by cases h);have k:aO (E.push E.w (.vec ks.length 0 []) none) E.H.length (.vec ks.length 0 []):=by
  simp only[aO,Env.push];refine .inl ⟨?_,trivial⟩;rw[gL (by rw[d.heap.len]; exact aG _),d.heap.len,mL];rfl
 have q:au (E.push E.w (.vec ks.length 0 []) none):=au.push d.heap (Ext.refl _) (fun b n h=>by cases h) k;have g:(ar.den ⟨s.fr,s.H++[.vec ks 0 []]⟩).H=E.H++[.vec ks.length 0 []]:=by
  rw[hH];simp[ar.den,ao,ai.den]
 refine⟨E.loc++[none],E.X,?_,?_⟩
 ·rw [g]
  exact⟨g.symm,dA hle _ d.fr,d.defers,q⟩
 ·rw [g]
  exact hle.toM
theorem WQ{m:Nat}{s:ar}:bx m s.den (ar.den ⟨s.fr,s.H++[.raw .dL]⟩):=fun E a d=>by
 have hH:E.H=ao s.H:=d.H;have hle:E.le (E.push E.w (.dL) none):=Env.jk d.heap.len (Ext.refl _) (fun b n h=>by cases h);have k:aO (E.push E.w (.dL) none) E.H.length (.dL):=by
  simp only[aO,Env.push];rw[gL (by rw[d.heap.len]; exact aG _),d.heap.len,mL];rfl
 have q:au (E.push E.w (.dL) none):=au.push d.heap (Ext.refl _) (fun b n h=>by cases h) k;have g:(ar.den ⟨s.fr,s.H++[.raw .dL]⟩).H=E.H++[.dL]:=by
  rw[hH];simp[ar.den,ao,ai.den]
 refine⟨E.loc++[none],E.X,?_,?_⟩
 ·rw [g]
  exact⟨g.symm,dA hle _ d.fr,d.defers,q⟩
 ·rw [g]
  exact hle.toM
theorem WR{m:Nat}{slot l:Nat}{s:ar}(h:(yy slot l s).1=true):bx m s.den (yy slot l s).2.den:=by
 unfold yy at h⊢;split
 case h_2=>exact bx.refl _
 rename_i id u;split
 case h_2=>exact bx.refl _
 rename_i K ks cl hid;simp only[u,hid]at h;intro E a d;have hH:E.H=ao s.H:=d.H;have q:E.H[id]? = some (.map [] cl):=by rw[hH]; exact bq hid
 obtain⟨h1,k⟩:=T0 (w:=ks.length) d.heap q (by rw[hH]; exact h);have g:ao (s.H.set id (.aI l K ks [] cl))=E.H.set id (.aI l ks.length [] cl):=by rw[df,hH]; rfl
 refine⟨E.loc,E.X,?_,?_⟩
 ·simp only [ar.den]
  rw[g];exact⟨rfl,dA k _ d.fr,d.defers,h1⟩
 ·simp only [ar.den]
  rw[g];exact k.toM
theorem WS{m:Nat}{slot l:Nat}{KI VI:Ct}{s:ar}(h:(yB slot l KI VI s).1=true):bx m s.den (yB slot l KI VI s).2.den:=by
 unfold yB at h⊢;split
 case h_2=>exact bx.refl _
 rename_i id u;split
 case h_2=>exact bx.refl _
 rename_i K V cl hid;simp only[u,hid]at h;intro E a d;have hH:E.H=ao s.H:=d.H;have q:E.H[id]? = some (.map [] cl):=by rw[hH]; exact bq hid
 obtain⟨h1,k⟩:=IQ d.heap q (by rw[hH]; exact h);have g:ao (s.H.set id (.mm l K KI VI [] [] cl))=E.H.set id (.mm l [] [] cl):=by rw[df,hH]; rfl
 refine⟨E.loc,E.X,?_,?_⟩
 ·simp only [ar.den]
  rw[g];exact⟨rfl,dA k _ d.fr,d.defers,h1⟩
 ·simp only [ar.den]
  rw[g];exact k.toM
theorem WT{m:Nat}{slot c l:Nat}{KI VI:Ct}{s:ar}(h:(yC slot c l KI VI s).1=true):bx m s.den (yC slot c l KI VI s).2.den:=by
 unfold yC at h⊢;split
 case h_2=>exact bx.refl _
 rename_i a _ _ _ _ u;split
 case h_2=>exact bx.refl _
 rename_i cells v;split
 case h_2=>exact bx.refl _
 rename_i id y;split
 case h_2=>exact bx.refl _
 rename_i K V rows cl hid;simp only[u,v,y,hid,rj]at h;obtain⟨h,he⟩:=h;have he:rows=[]:=by cases rows with|nil=>rfl|cons _ _=>cases he
 subst he;intro E act d;have hH:E.H=ao s.H:=d.H;have q:E.H[id]? = some (.map [] cl):=by rw[hH]; exact bq hid
 obtain⟨h1,k⟩:=IQ d.heap q (by rw[hH]; exact h);have g:ao (s.H.set id (.mm l K KI VI [] [] cl))=E.H.set id (.mm l [] [] cl):=by rw[df,hH]; rfl
 refine⟨E.loc,E.X,?_,?_⟩
 ·simp only [ar.den]
  rw[g];exact⟨rfl,dA k _ d.fr,d.defers,h1⟩
 ·simp only [ar.den]
  rw[g];exact k.toM
theorem au.forget{E:Env}(H:au E){id l0:Nat}{o:ab}(hid:E.H[id]? = some o)(hlab:o.label=some l0)(W:o.aF = some 0) :
  au { w:=E.w,H:=E.H.set id (.vec 0 1 []),loc:=E.loc.set id none,X:=E.X.re (gS E.X.r l0) }∧E.le { w:=E.w,H:=E.H.set id (.vec 0 1 []),loc:=E.loc.set id none,X:=E.X.re (gS E.X.r l0) }:=by
 have I:=aK hid;have hltl:id<E.loc.length:=by rw[H.len]; exact I
 have J:∀(i:Nat) x,(E.H.set id (.vec 0 1 []))[i]? = some x→(i=id∧x=.vec 0 1 [])∨(i≠id∧E.H[i]? = some x):=fun i x hi=>by
  by_cases d:i=id
  ·subst d
   rw[bB I]at hi;cases hi;exact .inl ⟨rfl,rfl⟩
  ·rw [aU (Ne.symm d)] at hi
   exact .inr ⟨d,hi⟩
 have B:∀(i b m:Nat),(E.loc.set id none)[i]? = some (some (b,m))→i≠id∧E.loc[i]? = some (some (b,m)):=fun i b m hi=>by
  by_cases d:i=id
  ·subst d
   rw[bB hltl]at hi;cases hi
  ·rw [aU (Ne.symm d)] at hi
   exact⟨d,hi⟩
 have hle:E.le { w:=E.w,H:=E.H.set id (.vec 0 1 []),loc:=E.loc.set id none,X:=E.X.re (gS E.X.r l0) }:=by
  refine⟨fun i af M=>?_,aG _,fun _ _ _=>rfl,fun b hb hno=>?_,fun i af M u=>?_,⟨rfl,rfl⟩,fun l h hh=>?_,.refl _,fun i l x h1 g N=>?_⟩
  rotate_right
  ·by_cases d : i = id
   ·subst d
    obtain⟨y,q,O⟩:=N;rw[show (E.H.set i (.vec 0 1 []))[i]? = some (.vec 0 1 []) from bB I]at q;cases q;cases O
   ·have U : l ≠ l0 := fun U => d (H.uniq i id x o l h1 hid (ab.ki g) (by rw [U]; exact hlab))
    exact⟨⟨[],by rw[c_]; exact if_neg U⟩,x,by simp only[]; rw[aU (Ne.symm d)]; exact h1,g⟩
  ·obtain ⟨x, h1, g⟩ := M
   by_cases d:i=id
   ·subst d
    rw[hid]at h1;cases h1;have:=g.2 0 W;exact⟨.vec 0 1 [],by simp only[]; rw[bB I],rfl,fun v N=>by cases N; omega⟩
   ·exact⟨x,by simp only[]; rw[aU (Ne.symm d)]; exact h1,g⟩
  ·rintro (⟨i, c, hi⟩ | ⟨l, h, m, hm⟩)
   ·exact hno (.inl ⟨i,c,(B i b c hi).2⟩)
   ·exact hno (.inr ⟨l,h,m,(iu hm).1⟩)
  ·obtain ⟨x, h1, g⟩ := u
   rcases J i x h1 with⟨rfl,rfl⟩|⟨d,q⟩
   ·cases g
    obtain⟨y,q,O⟩:=M;rw[hid]at q;cases q;have:=O.2 0 W;omega
   ·exact⟨⟨x,q,g⟩,aU (Ne.symm d)⟩
  ·refine ⟨?_, fun y V => (iu V).1⟩
   show h<(gS E.X.r l0 l).length
   rw[IM];exact hh
 refine⟨⟨by simp[H.len],fun i j b m n hi hj=>H.inj i j b m n (B _ _ _ hi).2 (B _ _ _ hj).2,fun i b m hi=>H.lt i b m (B _ _ _ hi).2,H.X,fun i x hi=>?_,H.eR.bG hle.toC,fun l h l' h' b m n h1 g=>H.ew _ _ _ _ _ _ _ (iu h1).1 (iu g).1,fun i b m l h n hi hk=>H.cQ _ _ _ _ _ _ (B _ _ _ hi).2 (iu hk).1,fun l h b m hk=>H.cy _ _ _ _ (iu hk).1,fun i k x y l hi hk h1 g=>?_,fun l hn h y V=>?_⟩,hle⟩
 ·rcases J i x hi with ⟨rfl, rfl⟩ | ⟨d, q⟩
  ·simp only [aO]
   exact .inl ⟨bB hltl,trivial⟩
  ·refine jI (fun a _ hr => bR hle a hr) (aU (Ne.symm d)) (fun _ _ _ => rfl) (fun l u => ?_) (H.obj i x q)
   have hne2:l≠l0:=fun e=>d (H.uniq i id x o l q hid u (by rw[hlab,e]));exact⟨if_neg hne2,fun _ _ _ _=>rfl⟩
 ·have key:∀ (i:Nat) x,(E.H.set id (.vec 0 1 []))[i]? = some x→x.label=some l→E.H[i]? = some x:=by
   intro i x hi u;rcases J i x hi with⟨rfl,rfl⟩|⟨d,q⟩
   ·cases u
   ·exact q
  exact H.uniq i k x y l (key i x hi h1) (key k y hk g) h1 g
 ·obtain ⟨g1, g2⟩ := iu V
  refine H.fO l (fun i x hi u=>?_) h y g1;by_cases e:i=id
  ·subst e
   rw[hid]at hi;cases hi;exact g2 (by rw[hlab]at u; cases u; rfl)
  ·exact hn i x (by show (E.H.set id (.vec 0 1 []))[i]? = _; rw[aU (Ne.symm e)]; exact hi) u
theorem au.WU{E:Env}(H:au E){id:Nat}{o:ab}(hid:E.H[id]? = some o)(hlab:o.label=none)(k:o.aF = some 0) :
  au { w:=E.w,H:=E.H.set id (.vec 0 1 []),loc:=E.loc.set id none,X:=E.X }∧E.le { w:=E.w,H:=E.H.set id (.vec 0 1 []),loc:=E.loc.set id none,X:=E.X }:=by
 have I:=aK hid;have B:id<E.loc.length:=by rw[H.len]; exact I
 have d:∀ v,(ab.vec 0 1 []).aF = some v→∀ u,o.aF = some u→u<v:=fun v g u hu=>by
  rw[k]at hu;cases hu;cases g;exact Nat.zero_lt_one
 have q:∀ v u,(ab.vec 0 1 []).aF = some v→o.aF = some u→u≤v:=fun v u g hu=>Nat.le_of_lt (d v g u hu);have y:o.born=true→o.aF = none→(ab.vec 0 1 []).aF = none:=fun _ h=>by rw[k]at h; cases h
 refine⟨au.kp H hid (aG _) (fun _ _ _=>rfl) (fun _ _ h=>by cases h) (.inr d) q y ?_ (hlab:=hlab),Env.jl hid H.len (aG _) (fun _ _ _=>rfl) (fun _ _ h=>by cases h) (.inr d) q y (hmm:=.inl (ab.wP hlab))⟩;simp only[aO];exact .inl ⟨bB B,trivial⟩
theorem WV{m:Nat}{id:Nat}{s:ar}:bx m s.den (CW id s).2.den:=by
 have h:∀ o:ai,s.H[id]? = some o→o.den.label=none→o.den.aF = some 0→bx m s.den (ar.den ⟨s.fr,s.H.set id (.vec [] 1 [])⟩):=fun o hid h1 k=>by
  intro E a d;have hH:E.H=ao s.H:=d.H;obtain⟨g1,g2⟩:=au.WU d.heap (by rw[hH]; exact bq hid) h1 k;have g:ao (s.H.set id (.vec [] 1 []))=E.H.set id (.vec 0 1 []):=by rw[df,hH]; rfl
  refine⟨E.loc.set id none,E.X,?_,?_⟩
  ·simp only [ar.den]
   rw[g];exact⟨rfl,dA g2 _ d.fr,d.defers,g1⟩
  ·simp only [ar.den]
   rw[g];exact g2.toM
 unfold CW;split
 ·rename_i hid
  exact h _ hid rfl rfl
 ·rename_i hid
  exact h _ hid rfl rfl
 ·rename_i l K KI VI rows mem cl hid
  intro E a d;have hH:E.H=ao s.H:=d.H;obtain⟨g1,g2⟩:=au.forget (l0:=l) d.heap (by rw[hH]; exact bq hid) rfl rfl;have g:ao (s.H.set id (.vec [] 1 []))=E.H.set id (.vec 0 1 []):=by rw[df,hH]; rfl
  refine⟨E.loc.set id none,E.X.re (gS E.X.r l),?_,?_⟩
  ·simp only [ar.den]
   rw[g];exact⟨rfl,dA g2 _ d.fr,d.defers,g1⟩
  ·simp only [ar.den]
   rw[g];exact g2.toM
 ·exact bx.refl _
theorem WW{m:Nat}{slot:Nat}{s:ar}(h:(yA slot s).1=true):bx m s.den (yA slot s).2.den:=by
 unfold yA at h⊢;split
 case h_2=>exact bx.refl _
 rename_i id J;split
 case h_2=>exact bx.refl _
 rename_i l K ks rows cl hid;simp only[J,hid]at h;intro E a d;have hH:E.H=ao s.H:=d.H;have v:E.H[id]? = some (.aI l ks.length (fS K ks rows) cl):=by rw[hH]; exact bq hid
 have ho:=d.heap.obj id _ v;simp only[aO]at ho;obtain⟨b,n,ms,g1,g2,g3,hh,k1,U⟩:=ho;obtain⟨h1,B⟩:=au.TW (o':=.map (dh K (.one (.list ks)) rows) cl) d.heap v rfl rfl rfl fun hle=>by
  simp only[aO];refine⟨b,n,ms,g1,g2,?_⟩;rw[dW]at g3⊢;obtain⟨V,W⟩:=g3;refine⟨by simpa[dh,cG,fS]using V,fun i x e q he=>?_⟩;unfold dh at q;rw[cd]at q;obtain⟨r,k,rfl⟩:=dQ.1 q;have I:=tX (K:=K) (ks:=ks) k;have M:(gi r 3).bool=true:=cR.1 h r (eO k);obtain⟨a1,a2,a3,a4,a5⟩:=W i _ e (xm I) he;refine⟨bR hle _ a1,?_,a3,a4,rfl⟩;have N:=U i _ ((jR r).map (aJ ks)) e I (by simp only[jo,M,cond_true]) he;show rel _ (.listF ks (jR r)) e.val
  rw[iI];simp only[rel];have O:eQ ((jR r).map (aJ ks)):=by
   intro r k;obtain⟨g,_,rfl⟩:=dF.1 k;exact fD ks g
  refine⟨O,?_⟩;rcases N with⟨s1,base,s2⟩|⟨bb,mm,s1,s2,s3,s4,s5,s6⟩
  ·rw [s1]
   exact⟨base,0,s2,aG _,.inl rfl⟩
  ·refine ⟨_, mm, s2, s4, .inr ⟨bb, 0, rfl, ⟨(d.heap.cy _ _ _ _ s1).1, ?_, (d.heap.cy _ _ _ _ s1).2⟩, kn (fun a _ k => bR hle a k) rfl s6⟩⟩
   rintro(⟨j,c',u⟩|⟨l',k',c',u⟩)
   ·exact d.heap.cQ _ _ _ _ _ _ u s1
   ·obtain ⟨j1, j2⟩ := iu u
    exact j2 (d.heap.ew _ _ _ _ _ _ _ j1 s1).1
 have y:ao (s.H.set id (.map K (.one (.list ks)) rows cl))=E.H.set id (.map (dh K (.one (.list ks)) rows) cl):=by rw[df,hH]; rfl
 refine⟨E.loc,E.X.re (gS E.X.r l),?_,?_⟩
 ·simp only [ar.den]
  rw[y];exact⟨rfl,dA B _ d.fr,d.defers,h1⟩
 ·simp only [ar.den]
  rw[y];exact B.toM
theorem WX{m:Nat}(h:Hint)(s:ar)(hb:(yD h s).1=true):bx m s.den (yD h s).2.den:=by
 cases h with
 |freeze i=>exact WJ hb
 | KZ i ks =>
  simp only[yD];split
  ·rename_i h; exact J_ h
  ·exact bx.refl _
 |K3 i c ks=>exact WK
 |yt i=>exact WN hb
 |K4 i c=>exact WL hb
 |hole ks=>exact WO
 |rA=>exact WQ
 |aI i l=>exact WR hb
 |yu i=>exact WW hb
 |mm i l KI VI=>exact WS hb
 |lr i c l KI VI=>exact WT hb
 |forget i=>exact WV
 |K5 i c ks=>exact WM
theorem K6{m:Nat}:∀(d:List Hint) (s:ar),(uG d s).1=true→bx m s.den (uG d s).2.den
 | [],s,_=>bx.refl _
 | h::d,s,hb=>by
  simp only[uG]at hb⊢;simp only[aA]at hb;exact(WX h s hb.1).trans (K6 d _ hb.2)
def K7:List (Nat × List Hint)→Nat→List Hint
 | [],_=>[]
 | (i,d)::l,id=>match ad id i with
  |true=>d
  |false=>K7 l id
def LT.iB(L:LT)(d:List (Nat × List Hint)):LT:=⟨L.loops,fun id s=>uG (K7 d id) s,L.uk⟩
theorem nK{P:Program}{m:Nat}{c:Code}(d:List (Nat × List Hint)):ax P m (ay.iB d) c:=⟨fun _ _ _ _ _ h=>(nomatch h),fun id s hb=>K6 _ s hb,fun _ _ _ _ _ h=>(nomatch h)⟩
end Go.AL

namespace Go.AL
open Go
variable [Dr]
end Go.AL

namespace Go.AL
open Go Go.ChangeMaps
variable [Dr]
theorem bP.iU{s:St}{E:Env}{a:Act}(d:bP s E a)(t:Tmp){v:AV}{u:Value}(g:rel E v u):bP (s.put (some t) v s.H) E (a.put (some t) u) :=
 ⟨d.H,I0 d.fr (Env.le.refl E) (some t) g,by rw[put_defers]; exact d.defers,d.heap⟩
theorem pv{m:Nat}{E E':Env}(h:E.du m E'):E.bG E' :=
 ⟨fun b hb=>⟨⟨Nat.lt_of_lt_of_le hb.1 h.size,h.own b hb.1 hb.2.1,fun d=>hb.2.2 ((h.X b hb.1).1.1 d)⟩,h.same b hb.1 hb.2.1⟩⟩
theorem jY{P:Program}{ops:Array Oper}{Q:Exit→Act→World→Prop}{i:Nat}{o:Oper}{K:Act→World→Prop}{a:Act}{w w':World}{u:Value}
  (hi:ops[i]? = some o) (g:o.guard=none) (h:(execOp a.eval o).run P w=.ok (.value u) w') (d:∀ c,o.op≠.defer c) (ro:Option Nat) (k:K (a.put o.dst u) w'):wpOpIn (fz ro) 0 P ops Q i K a w:=by
 unfold wpOpIn;simp only[hi];rw[if_pos (by simp[Region.wanted,g])];unfold Oper.wpIn;rw[Oper.semAt_eq _ _ _ d,h];exact⟨fun _ _=>trivial,k⟩
theorem yE{P:Program}{pf:FuncId→Bool}{ops:Array Oper}{Q:Exit→Act→World→Prop}(ro:Option Nat):∀(l:List Oper) (k:Nat) (s s':St) (E:Env) (a:Act) (rest:List Nat),
  (∀(j:Nat) (o:Oper),l[j]? = some o→ops[k+j]? = some o)→fH P pf ops l s s'→bP s E a→(∀ d w',eI E s' d w'→wpOpsIn (fz ro) 0 P ops Q rest d w')→wpOpsIn (fz ro) 0 P ops Q (sT k l.length++rest) a E.w
 | [],k,s,s',E,a,rest,_,h,g,q=>by
  simp only[fH]at h;subst h;exact q _ _ (eI.refl g)
 | o::l,k,s,s',E,a,rest,u,h,g,q=>by
  obtain⟨v,H',J,y⟩:=h;simp only[cz,Hq,lL];rw[wpOpsIn_cons];refine BG g (by simpa using u 0 o rfl) J (fun d w' M=>?_) ro;obtain⟨B,r',h1,N⟩:=M;refine yE ro l (k+1) _ s' { w:=w',H:=H',loc:=B,X:=E.X.re r' } d rest (fun j x O=>?_) y h1 (fun a2 U I=>q a2 U (eI.after N I));have:=u (j+1) x (by simpa using O)
  rwa [show k+1+j=k+(j+1) from by omega]
theorem nL{a:Act}{t:Tmp}{u:Value}(h:t<a.tmps.size):(a.put (some t) u).eval (.tmp t)=u:=by
 simp[Act.eval,wB,h]
def Tree.jZ:Tree→Option (bU × ar)
 |.fail=>none
 |.done x s=>some (x,s)
 | .ask b t e=>match b with
  |true=>t.jZ
  |false=>e.jZ
 | .side b t=>match b with
  |true=>t.jZ
  |false=>none
theorem uH:∀{t:Tree} {x:bU} {s:ar},t.jZ=some (x,s)→t.holds fun d s'=>d=x∧s'=s
 |.fail,_,_,h=>by cases h
 | .done _ _,_,_,h=>by
  cases h;exact⟨rfl,rfl⟩
 | .ask b t e,_,_,h=>by
  cases b with
  |true=>exact⟨fun _=>uH (t:=t) h,fun h=>(nomatch h)⟩
  |false=>exact⟨fun h=>(nomatch h),fun _=>uH (t:=e) h⟩
 | .side b t,_,_,h=>by
  cases b with
  |true=>exact⟨rfl,uH (t:=t) h⟩
  |false=>cases h
def cD(st:List G→List G→Option (List G))(ba:List G→Nat):List (List G)→List G→Option (List G)
 | [],d=>some d
 | r::rs,d=>match st r d with
  |some d'=>bif ad (ba d') (ba d) then cD st ba rs d' else none
  |none=>none
theorem uI{st:List G→List G→Option (List G)}{ba:List G→Nat}:∀(p q:List (List G)) (d:List G),cD st ba (p++q) d=(cD st ba p d).bind (cD st ba q)
 | [],_,_=>rfl
 | r::p,q,d=>by
  simp only[lL,cD];cases st r d with
  |none=>rfl
  | some d' =>
   simp only[];cases ad (ba d') (ba d)with
   |false=>rfl
   |true=>exact uI p q d'
def c6(r:List G):Nat:=(gi r 2).int.toNat
theorem yF{f:List G→Nat}{r:List G}:∀{l:List (List G)} {seen:Array Nat},(l.map f).Nodup→r∈l→seen.contains (f r)=false →
  (l.filter fun x => !seen.contains (f x)).Perm (r::l.filter fun x => !(seen.push (f r)).contains (f x))
 | [],_,_,h,_=>by cases h
 | x::l,seen,d,hm,g=>by
  obtain⟨k,d⟩:=lQ.1 d;rcases bZ.1 hm with rfl|hm
  ·have e:(l.filter fun x => !(seen.push (f r)).contains (f x))=l.filter fun x => !seen.contains (f x):=by
    apply List.filter_congr;intro y v;have:(f y==f r)=false:=by
     rw[beq_eq_false_iff_ne];intro e;exact k (e▸dF.2 ⟨y,v,rfl⟩)
    rw[contains_push,this,SO]
   rw[List.filter_cons_of_pos (by rw[g]; rfl),List.filter_cons_of_neg (by rw[contains_push]; simp),e]
  ·have u:(f x==f r)=false:=by
    rw[beq_eq_false_iff_ne];intro e;exact k (e▸dF.2 ⟨r,hm,rfl⟩)
   have q:=yF d hm g;simp only[List.filter_cons,contains_push seen (f r) (f x),u,SO];cases seen.contains (f x)with
   |true=>simpa using q
   | false =>
    simp only[Bool.not_false,if_true];exact(List.Perm.cons x q).trans (List.Perm.swap r x _)
structure fj where
 inv:mh
 ps:List jy
 opens:List (Nat × List Kd)
 K:Ct
 V:Ct
 id:Nat
 x:Tmp
 y:Tmp
 it:Tmp
 t1:Tmp
 t2:Tmp
 t3:Tmp
 ba:List G→Nat
 init:List G→Nat→List G
 side:List G→Nat→Bool
 st:List G→List G→Option (List G)
def fj.rs(sp:fj)(r d:List G):ar:=⟨(aR sp.inv d).fr.set sp.t3 (.tuple [sp.K.av (gi r 0).row,sp.V.av (gi r 1).row]),(aR sp.inv d).H⟩
def fj.s2(sp:fj)(s:ar)(b:Nat):ar:=⟨s.fr.set sp.it (.lit (.pointer (some ⟨b,0,none⟩))),s.H.set sp.id (.raw .dead)⟩
def yG(m:Nat)(inv:mh)(ps:List jy)(x:bU)(s:ar):Option (Bool × List G) :=
 match x with
 |.normal=>hZ m inv ps s
 |_=>none
structure mn (P:Program) (sp:fj) (bp bS bA:Array Oper):Prop where
 r0:∃ o2 ty,bp.toList=bp.toList.dropLast++[o2]∧o2.guard=none∧o2.op=.range ty (.tmp sp.y)∧o2.dst=some sp.it∧(c7 P ty).isSome=true
 r1:∃ o1 o2,bS.toList=[o1,o2]∧o1.guard=none∧o1.op=.next (.tmp sp.it) false∧o1.dst=some sp.t1∧o2.guard=none∧o2.op=.extract (.tmp sp.t1) 0∧o2.dst=some sp.t2
 r2:∃ o1 l,bA.toList=o1::l∧o1.guard=none∧o1.op=.entry (.tmp sp.it)∧o1.dst=some sp.t3
def kK(r0 b0 r1 b1 r2:Nat)(bp bS bA:Array Oper)(t2:Tmp)(body:Code):Code :=
 .seq (.region r0 bp false) (.block b0 (.loop (.seq (.region r1 bS false) (.seq (.cond (.tmp t2) .skip (.exit b0)) (.block b1 (.seq (.region r2 bA false) body))))))
theorem K8{ro:Option Nat}{r0 b0 r1 b1 r2:Nat}{bp bS bA:Array Oper}{t2:Tmp}{body:Code}(h:eB ro (kK r0 b0 r1 b1 r2 bp bS bA t2 body)):eB ro body:=h.imp id fun h=>by
 simpa[kK,fI]using h
section range
variable {P:Program} {τ:ak} {L:LT} {m:Nat} {sp:fj} {bp bS bA:Array Oper} {body:Code}
def iV(P:Program)(τ:ak)(L:LT)(m:Nat)(sp:fj)(bA:Array Oper)(body:Code):Prop :=
 ∀ r d,(lk P τ bA (bA.toList.drop 1) (sp.rs r d) (fun s=>dZ P τ L body s .done)).leaf (yG m sp.inv sp.ps)=sp.st r d
theorem K9(hm:P.follows .mixedOrders=true)(q:al P τ)(u:ax P m L body)(v:iV P τ L m sp bA body){r d d':List G}(h:sp.st r d=some d') :
  ∃ k:ar,fH P τ.pf bA (bA.toList.drop 1) (sp.rs r d).den k.den∧c5 P m body k.den .normal (aR sp.inv d').den:=by
 rw[←v r d]at h;obtain⟨k,h1,y⟩:=xW q (Q:=fun x s=>yG m sp.inv sp.ps x s=some (true,d')) (nD h);obtain⟨x,B,I,g⟩:=gG hm q body k .done u y;have g:yG m sp.inv sp.ps x B=some (true,d'):=g;unfold yG at g;split at g
 ·exact⟨k,h1,qI I (ln g)⟩
 ·cases g
def K_(m:Nat)(sp:fj)(E:Env)(rows:List (List G))(d0:List G)(itb mb clock:Nat)(ms:Array MapEntry)(a:Act)(w:World):Prop :=
 ∃(d:List G) (loc:List (Option (Nat × Nat))) (X:XS) (seen:Array Nat) (last:Nat) (p:List (List G)),
  cD sp.st sp.ba p d0=some d∧sp.ba d=itb∧(p++rows.filter fun x => !seen.contains (c6 x)).Perm rows ∧
  bP (aR sp.inv d).den { w:=w,H:=(aR sp.inv d).den.H,loc:=loc,X:=X } a∧E.du m { w:=w,H:=(aR sp.inv d).den.H,loc:=loc,X:=X }∧X itb ∧
  w.heap[itb]? = some (.mapIter (some mb) clock seen last)∧clock≤last∧w.heap[mb]? = some (.map ms clock) ∧
  ¬ Env.own { w:=w,H:=(aR sp.inv d).den.H,loc:=loc,X:=X } mb∧bC { w:=w,H:=(aR sp.inv d).den.H,loc:=loc,X:=X } (dh sp.K sp.V rows) ms.toList
theorem bP.nM{s:St}{E:Env}{a:Act}(d:bP s E a){t:Tmp}(hu:s.fr[t]? = some .undef)(u:Value):bP s E (a.put (some t) u):=by
 have h:=d.iU t (v:=.undef) (u:=u) (by simp[rel]);have e:s.put (some t) .undef s.H=s:=by
  simp only[St.put,iM,la hu]
 rwa [e]at h
theorem yH{s:St}{E:Env}{a:Act}(g:bP s E a){t:Tmp}{v:AV}(hu:s.fr[t]? = some v):t<a.tmps.size:=by
 have h1:s.fr.length=a.tmps.size:=by simpa using(lS.1 g.fr).1
 have d:t<s.fr.length:=aK hu;rw[h1]at d;exact d
theorem yI{o:Oper}{t:Tmp}{a:Act}{w:World}{cs:Array Value}{u:Value}(d:o.op=.extract (.tmp t) 0)(g:a.eval (.tmp t)=.tuple cs)(h:cs[0]? = some u) :
  (execOp a.eval o).run P w=.ok (.value u) w:=by
 obtain⟨dst,op,type,pos,after,guard⟩:=o;subst d;exact jN (by simp[Instr.extract,g,h])
theorem yJ{o:Oper}{t:Tmp}{a:Act}{w w':World}{x u:Value}(d:o.op=.next (.tmp t) false)(g:a.eval (.tmp t)=x)(h:(Instr.next x false o.type).run P w=.ok u w') :
  (execOp a.eval o).run P w=.ok (.value u) w':=by
 obtain⟨dst,op,type,pos,after,guard⟩:=o;subst d;subst g;exact jN h
theorem La{o:Oper}{t:Tmp}{a:Act}{w w':World}{x u:Value}(d:o.op=.entry (.tmp t))(g:a.eval (.tmp t)=x)(h:(Instr.entry x).run P w=.ok u w') :
  (execOp a.eval o).run P w=.ok (.value u) w':=by
 obtain⟨dst,op,type,pos,after,guard⟩:=o;subst d;subst g;exact jN h
theorem Lb{o:Oper}{t:Tmp}{ty:TypeId}{a:Act}{w w':World}{x u:Value}(d:o.op=.range ty (.tmp t))(g:a.eval (.tmp t)=x)(h:(Instr.range ty x).run P w=.ok u w') :
  (execOp a.eval o).run P w=.ok (.value u) w':=by
 obtain⟨dst,op,type,pos,after,guard⟩:=o;subst d;subst g;exact jN h
theorem rB{w:World}{b:Nat}{o:Obj}(h:w.heap[b]? = some o):b<w.heap.size:=(Array.getElem?_eq_some_iff.1 h).1
theorem yK{w:World}{r:Nat}{a:Option Nat}{b c:Nat}{s:Array Nat}(h:w.heap[r]? = some (.mapIter a b s c)):w.iterSeen r=s:=by
 unfold World.iterSeen;rw[h]
theorem WY(hm:P.follows .mixedOrders=true)(ht:al P τ)(hL:ax P m L body)(hr:iV P τ L m sp bA body)(ho:mn P sp bp bS bA)
  (hu1:∀ d,(aR sp.inv d).fr[sp.t1]? = some .undef) (hu2:∀ d,(aR sp.inv d).fr[sp.t2]? = some .undef) (hut:∀ d,(aR sp.inv d).fr[sp.it]? = some (.lit (.pointer (some ⟨sp.ba d,0,none⟩))))
  {E:Env} {rows:List (List G)} {d0:List G} {itb mb clock:Nat} {ms:Array MapEntry} {r1 b0 b1 r2:Nat}
  (hsz:E.w.heap.size≤itb) (hn:(rows.map c6).Nodup) (hlt:∀ r∈rows,c6 r<clock) (hne:mb≠itb)
  (hfold:∀ p,p.Perm rows→(cD sp.st sp.ba p d0).isSome=true) {a:Act} {w:World} (hI:K_ m sp E rows d0 itb mb clock ms a w) (ro:Option Nat) (hro:eB ro body) :
  (Code.loop (.seq (.region r1 bS false) (.seq (.cond (.tmp sp.t2) .skip (.exit b0)) (.block b1 (.seq (.region r2 bA false) body))))).wpIn (fz ro) 0 P
   (fun e a1 J=>e=.exit b0∧∃ p d,p.Perm rows∧cD sp.st sp.ba p d0=some d∧dC m E (aR sp.inv d).den a1 J) a w:=by
 obtain⟨o1,o2,e1,g1,p1,q1,g2,W,q2⟩:=ho.r1;obtain⟨o3,l,e3,g3,p3,q3⟩:=ho.r2;refine wpIn_loop (K_ m sp E rows d0 itb mb clock ms) (fun _ w=>(leftOf ms (w.iterSeen itb)).size) hI fun a w hI=>?_;obtain⟨d,loc,X,seen,last,p,hf,had,hp,q,hle,hXi,hit,hcl,hmb,hown,hre⟩:=hI;have h10:bS[0]? = some o1:=by
  have:bS.toList[0]? = some o1:=by rw[e1]; rfl
  simpa using this
 have h11:bS[1]? = some o2:=by
  have:bS.toList[1]? = some o2:=by rw[e1]; rfl
  simpa using this
 have hsz1:bS.size=2:=by
  have:bS.toList.length=2:=by rw[e1]; rfl
  simpa using this
 have hiv:a.eval (.tmp sp.it)=.pointer (some ⟨itb,0,none⟩):=by
  have h:=q.eval (.tmp sp.it);have e:(aR sp.inv d).den.eval (.tmp sp.it)=.lit (.pointer (some ⟨sp.ba d,0,none⟩)):=by
   show (aR sp.inv d).fr.getD sp.it .undef=_
   rw[cr,hut d];rfl
  rw[e]at h;simp only[rel]at h;rw[h,had]
 obtain⟨hlen,hen⟩:=dW.1 hre;have hl1:(dh sp.K sp.V rows).length=rows.length:=by simp[dh]
 have M:∀(i:Nat) (e:MapEntry),ms.toList[i]? = some e→∃ r,rows[i]? = some r∧e.born=c6 r:=by
  intro i e hi;have h1:=aK hi;have k:i<rows.length:=by omega
  refine⟨rows[i],bO k,?_⟩;exact(hen i (sp.K.av (gi rows[i] 0).row,sp.V.av (gi rows[i] 1).row,(gi rows[i] 2).int.toNat) e (by simp[dh,k]) hi).2.2.1
 have hold:∀ x∈ms.toList,x.born<clock:=by
  intro x y;obtain⟨i,hi⟩:=mI y;obtain⟨r,h1,k⟩:=M i x hi;rw[k];exact hlt r (eO h1)
 have hbn:(ms.toList.map (·.born)).Nodup:=by
  have:ms.toList.map (·.born)=rows.map c6:=by
   apply List.ext_getElem?;intro i;simp only[cd];cases hi:ms.toList[i]? with
   | none =>
    have h1:=List.getElem?_eq_none_iff.1 hi;rw[List.getElem?_eq_none (by omega)];rfl
   | some e =>
    obtain⟨r,h1,k⟩:=M i e hi;rw[h1];simp[k]
  rw[this];exact hn
 refine wpIn_seq (wpIn_region ?_);rw[hsz1];show wpOpsIn (fz ro) 0 P bS _ [0,1] a w
 rw[wpOpsIn_cons];have hlt1:=yH q (hu1 d);have hlt2:=yH q (hu2 d);rcases run_next_at (P:=P) w o1.type itb mb clock last seen ms clock hit hmb hold hcl with⟨h0,hrun⟩|⟨e,he,J,hw1,hrun⟩
 ·refine jY h10 g1 (yJ p1 hiv hrun) (fun c e => by rw [p1] at e; cases e) ro ?_
  rw[q1,wpOpsIn_cons];refine jY h11 g2 (yI W (nL hlt1) rfl) (fun c e=>by rw[W]at e; cases e) ro ?_;rw[q2];show (Code.seq _ _).wpIn (fz ro) 0 P _ _ w
  refine wpIn_seq (wpIn_cond_false (nL (by simpa[wB]using hlt2)) (wpIn_exit ?_));refine⟨rfl,p,d,?_,hf,loc,X,?_,hle⟩
  ·have:(rows.filter fun x => !seen.contains (c6 x))=[]:=by
    rw[List.filter_eq_nil_iff];intro x y hc;obtain⟨i,hi⟩:=mI y;have h1:=aK hi;have k:i<ms.toList.length:=by omega
    obtain⟨r,h3,h4⟩:=M i _ (bO k);rw[hi]at h3;cases h3;have:ms.toList[i]∈(leftOf ms seen).toList:=by
     unfold leftOf;rw[Array.toList_filter];refine AK.2 ⟨mP k,?_⟩;rw[h4];exact hc
    have h5:(leftOf ms seen).toList.length=0:=by simpa using h0
    rw[List.length_eq_zero_iff.1 h5]at this;cases this
   rwa [this,c_]at hp
  ·exact(q.nM (hu1 d) (.tuple #[.bool false])).nM (hu2 d) (.bool false)
 ·refine jY h10 g1 (yJ p1 hiv hrun) (fun c e => by rw [p1] at e; cases e) ro ?_
  rw[q1,wpOpsIn_cons];refine jY h11 g2 (yI W (nL hlt1) rfl) (fun c e=>by rw[W]at e; cases e) ro ?_;rw[q2];show (Code.seq _ _).wpIn (fz ro) 0 P _ _ _
  refine wpIn_seq (wpIn_cond_true (nL (by simpa[wB]using hlt2)) (wpIn_skip ?_));show (Code.block _ _).wpIn (fz ro) 0 P _ _ _
  refine wpIn_block (wpIn_seq (wpIn_region ?_));generalize U:setBlock J itb (.mapIter (some mb) clock (seen.push e.born) clock)=g;have O:J.heap=w.heap:=by rcases hw1 with rfl|rfl<;>rfl
  have hos:dM w g:=by rw[←U]; rcases hw1 with rfl|rfl<;>exact⟨rfl,rfl,rfl,by first|exact fun _=>aG _|exact fun _=>eM _ _⟩
  have hit2':g.heap[itb]? = some (.mapIter (some mb) clock (seen.push e.born) clock):=by
   rw[←U];exact(HD (by rw[O]; exact hit)).1
  have N:∀ b,b≠itb→g.heap[b]? = w.heap[b]? := by
   intro b hb;rw[←U];show (J.heap.setIfInBounds itb _)[b]? = _
   rw[(HD (by rw[O]; exact hit)).2 b hb,O]
  have hsize:g.heap.size=w.heap.size:=by
   rw[←U];show (J.heap.setIfInBounds itb _).size=_
   simp[O]
  have hmb2:g.heap[mb]? = some (.map ms clock):=by rw[N mb hne]; exact hmb
  have cH:gh { w:=w,H:=(aR sp.inv d).den.H,loc:=loc,X:=X } { w:=g,H:=(aR sp.inv d).den.H,loc:=loc,X:=X } :=
   ⟨rfl,rfl,by show w.heap.size≤g.heap.size; omega,fun b hb y=>⟨y,N b (fun e=>y (by rw[e]; exact hXi))⟩,fun b hb=>by show b<g.heap.size; rw[hsize]; exact q.heap.X b hb,rfl⟩
  have hmk:iK g X a.defers:=⟨q.defers.1,fun dd hdd=>by
   obtain⟨D,e,h1,k,h3⟩:=q.defers.2 dd hdd;exact⟨D,e,by rw[N D (fun e=>by rw[e]at h1; rw[hit]at h1; cases h1)]; exact h1,k,h3⟩⟩
  have hs1:=((q.cH cH hmk).nM (hu1 d) (.tuple #[.bool true,e.key,e.val])).nM (hu2 d) (.bool true);obtain⟨hem,hes⟩:=mem_left he;obtain⟨i,hi⟩:=mI hem;obtain⟨r,hri,hrb⟩:=M i e hi;have hrm:=eO hri;have hre2:=iy cH.toC hre;obtain⟨k1,k2,_⟩:=(dW.1 hre2).2 i (sp.K.av (gi r 0).row,sp.V.av (gi r 1).row,(gi r 2).int.toNat) e (by simp[dh,hri]) hi;have hiv1:((a.put (some sp.t1) (.tuple #[.bool true,e.key,e.val])).put (some sp.t2) (.bool true)).eval (.tmp sp.it)=.pointer (some ⟨itb,0,none⟩):=by
   have h:=hs1.eval (.tmp sp.it);have e:(aR sp.inv d).den.eval (.tmp sp.it)=.lit (.pointer (some ⟨sp.ba d,0,none⟩)):=by
    show (aR sp.inv d).fr.getD sp.it .undef=_
    rw[cr,hut d];rfl
   rw[e]at h;simp only[rel]at h;rw[h,had]
  have h20:bA[0]? = some o3:=by
   have:bA.toList[0]? = some o3:=by rw[e3]; rfl
   simpa using this
  have hl2:bA.toList.drop 1=l:=by rw[e3]; rfl
  have hsz2:bA.size=l.length+1:=by
   have:bA.toList.length=l.length+1:=by rw[e3]; rfl
   simpa using this
  have hlp:(p++(r::rows.filter fun x => !(seen.push (c6 r)).contains (c6 x))).Perm rows :=
   (List.Perm.append_left p (yF hn hrm (by rw[←hrb]; exact hes)).symm).trans hp
  have B:∃ d',sp.st r d=some d'∧sp.ba d'=sp.ba d:=by
   have h:=hfold _ hlp;rw[uI,hf]at h;simp only[AM,cD]at h;cases B:sp.st r d with
   |none=>rw[B]at h; cases h
   | some d' =>
    rw[B]at h;simp only[]at h;cases hb:ad (sp.ba d') (sp.ba d)with
    |true=>exact⟨d',rfl,bu hb⟩
    |false=>rw[hb]at h; cases h
  obtain⟨d',B,had'⟩:=B;have hf':cD sp.st sp.ba (p++[r]) d0=some d':=by
   rw[uI,hf];simp only[AM,cD,B,had'];simp
  obtain⟨s4,ha4,hsat⟩:=K9 hm ht hL hr B;rw[hsz2,AH,Hq,wpOpsIn_cons];refine jY h20 g3 (La p3 hiv1 (run_entry_at (P:=P) g itb mb clock seen ms clock e hit2' hmb2 hem hbn)) (fun c e=>by rw[p3]at e; cases e) ro ?_;rw[q3];have hs3:=hs1.iU sp.t3 (v:=.tuple [sp.K.av (gi r 0).row,sp.V.av (gi r 1).row]) (u:=.tuple #[e.key,e.val]) (by simp only[rel]; exact⟨_,rfl,by simp only[ah]; exact⟨k1,k2,trivial⟩⟩);refine xr (pf:=τ.pf) (ops:=bA) l (0+1) (sp.rs r d).den s4.den { w:=g,H:=(aR sp.inv d).den.H,loc:=loc,X:=X } _ (by rw[←hl2]) (by rw[hl2]at ha4; exact ha4) hs3 (fun a3 w3 hc3=>?_) ro;obtain⟨loc3,r3,hs4,hle3⟩:=hc3;show body.wpIn (fz ro) 0 P _ a3 w3
  refine wpIn_mono (hsat ro hro { w:=w3,H:=s4.den.H,loc:=loc3,X:=X.re r3 } a3 hs4) fun x a4 w4 y=>?_;obtain⟨rfl,loc4,X4,hs5,hle4⟩:=y;have I:({ w:=g,H:=(aR sp.inv d).den.H,loc:=loc,X:=X }:Env).du m { w:=w4,H:=(aR sp.inv d').den.H,loc:=loc4,X:=X4 }:=hle3.toM.trans hle4;have hXsz:itb<g.heap.size:=rB hit2';have hnown:¬ Env.own { w:=g,H:=(aR sp.inv d).den.H,loc:=loc,X:=X } itb:=by
   exact(q.heap.cH cH).mS hXi
  have hmbsz:mb<g.heap.size:=rB hmb2;have hit4:w4.heap[itb]? = some (.mapIter (some mb) clock (seen.push e.born) clock):=by rw[I.same itb hXsz hnown]; exact hit2'
  refine⟨⟨d',loc4,X4,seen.push e.born,clock,p++[r],hf',by rw[had',had],?_,hs5,?_,(I.X itb hXsz).1.2 hXi,hit4,aG _,?_,?_,?_⟩,?_⟩
  ·rw [hrb, fY]
   exact hlp
  ·refine Env.du.trans (E' := { w := g, H := (aR sp.inv d).den.H, loc := loc, X := X }) ⟨hle.past, ?_, ?_, hle.own, hle.live, hle.X, hle.rl, hle.env.trans hos, hle.grow⟩ I
   ·have := hle.size
    show E.w.heap.size≤g.heap.size
    rw[hsize];exact this
   ·intro b hb hbo
    show g.heap[b]? = _
    rw[N b (by omega)];exact hle.same b hb hbo
  ·rw [I.same mb hmbsz hown]
   exact hmb2
  ·exact I.own mb hmbsz hown
  ·exact iy (pv I) hre2
  ·show (leftOf ms (w4.iterSeen itb)).size < (leftOf ms (w.iterSeen itb)).size
   rw[yK hit4,yK hit];exact left_shrinks ms seen e he
theorem WZ(hm:P.follows .mixedOrders=true)(ht:al P τ)(hL:ax P m L body)(hr:iV P τ L m sp bA body)(ho:mn P sp bp bS bA)
  (hu1:∀ d,(aR sp.inv d).fr[sp.t1]? = some .undef) (hu2:∀ d,(aR sp.inv d).fr[sp.t2]? = some .undef) (hut:∀ d,(aR sp.inv d).fr[sp.it]? = some (.lit (.pointer (some ⟨sp.ba d,0,none⟩))))
  {r1 b0 b1 r2:Nat}
  {s:ar} {d:List G} {rows:List (List G)} {clock:Nat} (W:s.eval (.tmp sp.y)=.map sp.id) (hid:s.H[sp.id]? = some (.map sp.K sp.V rows clock)) (hn:(rows.map c6).Nodup)
  (hlt:∀ r∈rows,c6 r<clock) (hin:∀ b,hZ m sp.inv sp.ps (gu sp.opens (sp.s2 s b))=some (true,sp.init d b)) (hadr:∀ b,sp.ba (sp.init d b)=b)
  (hfold:∀ b p,p.Perm rows→(cD sp.st sp.ba p (sp.init d b)).isSome=true) (E:Env) (a:Act) (q:bP s.den E a) (ro:Option Nat) (hro:eB ro body) {Q:Exit→Act→World→Prop}
  (hQ:∀ a1 w1,(∃ b p d',p.Perm rows∧cD sp.st sp.ba p (sp.init d b)=some d'∧dC m E (aR sp.inv d').den a1 w1)→Q .normal a1 w1) :
  wpOpsIn (fz ro) 0 P bp (Exit.then ((Code.block b0 (.loop (.seq (.region r1 bS false) (.seq (.cond (.tmp sp.t2) .skip (.exit b0)) (.block b1 (.seq (.region r2 bA false) body)))))).wpIn (fz ro) 0 P Q) Q) [bp.toList.dropLast.length] a E.w:=by
 obtain⟨o2,ty,e1,g2,p2,q2,N⟩:=ho.r0;have h11:bp[bp.toList.dropLast.length]? = some o2:=by
  have:bp.toList[bp.toList.dropLast.length]? = some o2:=by
   rw[e1];simp
  simpa using this
 have hid':E.H[sp.id]? = some (.map (dh sp.K sp.V rows) clock):=by
  rw[q.H];exact bq hid
 have hrx:rel E (.map sp.id) (a.eval (.tmp sp.y)):=by
  have:=q.eval (.tmp sp.y)
  rwa [ar.kE,W]at this
 obtain⟨mb,n,ms,hc,hloc,O,hre⟩:=oP q.heap hid' hrx;obtain⟨⟨kt,et⟩,N⟩:=Option.isSome_iff_exists.1 N;have hmbs:mb<E.w.heap.size:=rB O;rw[wpOpsIn_cons];refine jY h11 g2 (Lb p2 hc (run_range_map E.w ty kt et mb ms clock (fc N) O)) (fun c e=>by rw[p2]at e; cases e) ro ?_;rw[q2];show (Code.block _ _).wpIn (fz ro) 0 P _ _ _
 generalize M:E.w.alloc (.mapIter (some mb) clock #[] clock)=g;have hsize:g.heap.size=E.w.heap.size+1:=by rw[←M]; show (E.w.heap.push _).size=_; simp
 have hold:∀ b,b<E.w.heap.size→g.heap[b]? = E.w.heap[b]? := fun b hb=>by rw[←M]; exact(show (E.w.heap.push _)[b]? = _ by rw[Array.getElem?_push,if_neg (by omega)])
 have hitn:g.heap[E.w.heap.size]? = some (.mapIter (some mb) clock #[] clock):=by rw[←M]; exact(show (E.w.heap.push _)[E.w.heap.size]? = _ by simp)
 have hos:dM E.w g:=by rw[←M]; exact⟨rfl,rfl,rfl,by first|exact fun _=>aG _|exact fun _=>eM _ _⟩
 have hd:=Env.qj q.heap sp.id;have U:bP ⟨s.fr,ao (s.H.set sp.id (.raw .dead))⟩ { w:=E.w,H:=E.H.set sp.id .dead,loc:=E.loc.set sp.id none,X:=E.X } a:=by
  refine⟨?_,dA hd _ q.fr,q.defers,au.drop q.heap sp.id fun o ho=>by rw[hid']at ho; cases ho; rfl⟩;rw[df,show E.H=ao s.H from q.H];rfl
 have cH:gh { w:=E.w,H:=E.H.set sp.id .dead,loc:=E.loc.set sp.id none,X:=E.X } { w:=g,H:=E.H.set sp.id .dead,loc:=E.loc.set sp.id none,X:=E.X.or fun b=>b=E.w.heap.size } :=
  ⟨rfl, rfl, by show E.w.heap.size ≤ g.heap.size; omega, fun b hb W => ⟨fun h => h.elim W (fun e => absurd hb (by rw [e]; exact qe _)), hold b hb⟩, fun b hb => by
   show b<g.heap.size
   rcases hb with hb|hb
   ·have := q.heap.X b hb
    omega
   ·omega,rfl⟩
 have hs3:=(U.cH cH (wT (X':=E.X.or fun b=>b=E.w.heap.size) (w':=g) U.defers (fun _ h1 J=>⟨.inl h1,J⟩) fun b h1 _=>hold b (q.heap.X b h1))).iU sp.it (v:=.lit (.pointer (some ⟨E.w.heap.size,0,none⟩))) (u:=.pointer (some ⟨E.w.heap.size,0,none⟩)) (by simp only[rel]);have hs3':bP (sp.s2 s E.w.heap.size).den { w:=g,H:=E.H.set sp.id .dead,loc:=E.loc.set sp.id none,X:=E.X.or fun b=>b=E.w.heap.size } _:=hs3;obtain⟨loc,X4,hs4,I⟩:=((lp sp.opens _).trans (ln (hin E.w.heap.size))) _ _ hs3';have hmbn:¬ Env.own { w:=g,H:=E.H.set sp.id .dead,loc:=E.loc.set sp.id none,X:=E.X.or fun b=>b=E.w.heap.size } mb:=by
  rintro(⟨j,c,B⟩|⟨l,k,c,B⟩)
  case inr=>exact q.heap.cQ _ _ _ _ _ _ hloc B
  simp only[dR]at B;split at B
  ·split at B
   ·cases B
   ·cases B
  ·rename_i hne
   exact hne (q.heap.inj _ _ _ _ _ hloc B)
 have hmb2:g.heap[mb]? = some (.map ms clock):=by rw[hold mb hmbs]; exact O
 refine wpIn_block (wpIn_mono (WY hm ht hL hr ho hu1 hu2 hut (E:=E) (rows:=rows) (d0:=sp.init d E.w.heap.size) (itb:=E.w.heap.size) (mb:=mb) (clock:=clock) (ms:=ms)
  (aG _) hn hlt (by omega) (hfold _) ?_ ro hro) fun e a1 w1 hq=>?_)
 ·refine ⟨sp.init d E.w.heap.size, loc, X4, #[], clock, [], rfl, hadr _, ?_, hs4, ?_, (I.X E.w.heap.size (by show _ < g.heap.size; omega)).1.2 (.inr rfl), ?_, aG _, ?_, ?_, ?_⟩
  ·have : (rows.filter fun x => !(#[] : Array Nat).contains (c6 x)) = rows := List.filter_eq_self.2 (fun x _ => by simp)
   rw[List.nil_append,this]
  ·refine hd.toM.trans (Env.du.trans (E' := { w := g, H := E.H.set sp.id .dead, loc := E.loc.set sp.id none, X := E.X.or fun b => b = E.w.heap.size }) ⟨fun _ _ h => h, ?_, ?_, fun b _ h => h, fun _ _ _ h => ⟨h, rfl⟩, fun b hb => ⟨⟨fun h => h.elim id fun e => absurd hb (by rw [e]; exact qe _), .inl⟩, Iff.rfl⟩, fun _ _ h => ⟨h, fun _ hq => hq⟩, hos, fun _ _ _ o h1 J _ => ⟨⟨[], (c_ _).symm⟩, o, h1, J⟩⟩ I)
   ·show E.w.heap.size ≤ g.heap.size
    omega
   ·exact fun b hb _=>hold b hb
  ·rw [I.same E.w.heap.size (by show _ < g.heap.size; omega) ?_]
   ·exact hitn
   ·exact(U.heap.cH cH).mS (.inr rfl)
  ·rw [I.same mb (by show _ < g.heap.size; omega) hmbn]
   exact hmb2
  ·exact I.own mb (by show _<g.heap.size; omega) hmbn
  ·exact iy (pv I) (iy cH.toC (iy hd.toC hre))
 ·obtain ⟨rfl, p, d', h1, J, h3⟩ := hq
  simp only[Exit.inBlock,if_true];exact hQ _ _ ⟨_,p,d',h1,J,h3⟩
theorem W0(hm:P.follows .mixedOrders=true)(ht:al P τ)(hL:ax P m L body)(hr:iV P τ L m sp bA body)(ho:mn P sp bp bS bA)
  (M:∀ d,(aR sp.inv d).fr[sp.t1]? = some .undef) (N:∀ d,(aR sp.inv d).fr[sp.t2]? = some .undef) (O:∀ d,(aR sp.inv d).fr[sp.it]? = some (.lit (.pointer (some ⟨sp.ba d,0,none⟩))))
  {r0 r1 b0 b1 r2:Nat}
  {s s1:ar} {d:List G} {rows:List (List G)} {clock:Nat} (hp:fH P τ.pf bp bp.toList.dropLast s.den s1.den) (hx:s1.eval (.tmp sp.y)=.map sp.id) (hid:s1.H[sp.id]? = some (.map sp.K sp.V rows clock)) (hn:(rows.map c6).Nodup)
  (g:∀ r∈rows,c6 r<clock) (U:∀ b,hZ m sp.inv sp.ps (gu sp.opens (sp.s2 s1 b))=some (true,sp.init d b)) (I:∀ b,sp.ba (sp.init d b)=b)
  (B:∀ b p,p.Perm rows→(cD sp.st sp.ba p (sp.init d b)).isSome=true) (E:Env) (a:Act) (hs:bP s.den E a) (ro:Option Nat) (W:eB ro body) :
  (kK r0 b0 r1 b1 r2 bp bS bA sp.t2 body).wpIn (fz ro) 0 P (fun e k q=>e=.normal∧∃ b p d',p.Perm rows∧cD sp.st sp.ba p (sp.init d b)=some d'∧dC m E (aR sp.inv d').den k q) a E.w:=by
 refine wpIn_seq (wpIn_region ?_);obtain⟨o2,ty,u,_⟩:=ho.r0;have hsz:bp.size=bp.toList.dropLast.length+1:=by
  have h:=congrArg List.length u;simpa using h
 have hl:dG bp.size=sT 0 bp.toList.dropLast.length++[bp.toList.dropLast.length]:=by
  rw[hsz,List.range_succ,AH]
 rw[hl];refine yE (pf:=τ.pf) ro bp.toList.dropLast 0 s.den s1.den E a _ (fun j o v=>?_) hp hs fun k q hc=>?_
 ·have g := aK v
  have:bp.toList[j]? = some o:=by
   rw[u,cK g];exact v
  simpa using this
 ·obtain ⟨J, r1, h1, h2⟩ := hc
  refine WZ hm ht hL hr ho M N O hx hid hn g U I B { w:=q,H:=s1.den.H,loc:=J,X:=E.X.re r1 } k h1 ro W fun a2 w2 ⟨b,p,d',g1,g2,g3⟩=>?_;exact⟨rfl,b,p,d',g1,g2,dC.after h2.toM g3⟩
noncomputable def rC{β:Type}(rows:List (List G))(k:Nat→List (List G)→Option β):Option β :=
 open Classical in if h:∃ r,∀ b p,p.Perm rows→k b p=some r then some h.choose else none
theorem CY{β:Type}{rows:List (List G)}{k:Nat→List (List G)→Option β}{r:β}(h:rC rows k=some r):∀ b p,p.Perm rows→k b p=some r:=by
 unfold rC at h;split at h
 ·rename_i d
  cases h;exact d.choose_spec
 ·cases h
theorem Lc{β:Type}{rows:List (List G)}{k:Nat→List (List G)→Option β}{r:β}(h:∀ b p,p.Perm rows→k b p=some r):rC rows k=some r:=by
 cases hb:rC rows k with
 | some r' =>
  have h1:=CY hb 0 rows (oG _);rw[h 0 rows (oG _)]at h1;exact h1.symm
 | none =>
  unfold rC at hb;rw[dif_pos ⟨r,h⟩]at hb;cases hb
def ls(rows:List (List G))(clock:Nat):Bool:=nodupB (rows.map c6)&&rows.all fun r=>fa (c6 r) clock
theorem Ld{rows:List (List G)}{clock:Nat}(h:ls rows clock=true):(rows.map c6).Nodup∧∀ r∈rows,c6 r<clock:=by
 simp only[ls,aA,cR,kh]at h;exact⟨rk h.1,h.2⟩
noncomputable def iC(sp:fj)(tl:List G→Option (Option Nat × List G))(rows:List (List G))(clock:Nat)(d:List G):Option (Option Nat × List G) :=
 bif ls rows clock then rC rows (fun b p=>bif sp.side d b then (cD sp.st sp.ba p (sp.init d b)).bind tl else none) else none
def pz(P:Program)(m:Nat)(c:Code)(sp:be):Prop:=∀ d i d',sp.st d=some (some i,d')→∃ o,sp.outs[i]? = some o∧c5 P m c (aR sp.inv d).den o.x (aR o.S d').den
theorem eU.sat{c:Code}{q:be}(hm:P.follows .mixedOrders=true)(k:al P τ)(u:ax P m L c)(v:eU P τ L m c q):pz P m c q:=by
 intro d i d' g;rw[←v d]at g;obtain⟨x,s1,g1,g2⟩:=gG hm k c (aR q.inv d) .done u (Q:=fun x s=>pq m q.outs 0 x s=some (true,(some i,d'))) (nD g);obtain⟨j,o,y,h,B,I⟩:=yn g2;simp only[aY,cF]at h;subst h;refine⟨o,y,?_⟩;rw[←B];exact qI g1 (ln I)
theorem W1{c:Code}{q:be}(y:pz P m c q){s:ar}{t:Tree}(h:uB m q s=some t):xS P m c s t:=by
 unfold uB at h;split at h
 case h_2=>cases h
 rename_i b d B;cases h;intro Q u;simp only[Tree.holds,rj,aA]at u;obtain⟨⟨rfl,h1⟩,v⟩:=u;cases g:q.st d with
 |none=>rw[g]at h1; cases h1
 | some r =>
  obtain⟨k,d'⟩:=r;cases k with
  |none=>rw[g]at h1; cases h1
  | some i =>
   obtain⟨o,g1,g2⟩:=y d i d' g;rw[g]at v;exact⟨o.x,(aR o.S d'),qH ((lp q.opens s).trans (ln B)) g2,yo g1 (cF i).symm v⟩
theorem ax.Le{fn:Func}{q:be} (u:kJ q.key (bH (aQ fn))=true) (g:ax P m L (aQ fn)) (h:ax P m L (cutAt fn q.key)→pz P m (cutAt fn q.key) q) :
  ax P m (L.dP m q) (aQ fn):=by
 refine⟨g.1,g.2.1,fun k v hk s t d=>?_⟩;simp only[LT.dP]at d;split at d
 ·rename_i e
  have e:=bu e;subst e;have y:=CP u hk;rw[←y]at h;exact W1 (h (g.sub (nG hk) (nH hk))) d
 ·exact g.2.2 k v hk s t d
def uJ(o:Option Tmp)(t:Tmp):Bool :=
 match o with
 |some x=>ad x t
 |none=>false
theorem yL{o:Option Tmp}{t:Tmp}(h:uJ o t=true):o=some t:=by
 cases o with
 |none=>cases h
 |some x=>exact congrArg some (bu h)
def yM(P:Program)(sp:fj)(ops:Array Oper):Bool :=
 match ops.toList.getLast? with
 |some ⟨d2,.range ty (.tmp b),_,_,_,none⟩=>ad b sp.y&&uJ d2 sp.it&&(c7 P ty).isSome
 |_=>false
def yN(sp:fj)(ops:Array Oper):Bool :=
 match ops.toList with
 | [⟨d1,.next (.tmp a) false,_,_,_,none⟩,⟨d2,.extract (.tmp b) 0,_,_,_,none⟩]=>ad a sp.it&&uJ d1 sp.t1&&ad b sp.t1&&uJ d2 sp.t2
 |_=>false
def yO(sp:fj)(ops:Array Oper):Bool :=
 match ops.toList with
 |⟨d1,.entry (.tmp a),_,_,_,none⟩::_=>ad a sp.it&&uJ d1 sp.t3
 |_=>false
theorem Lf(h0:yM P sp bp=true)(h1:yN sp bS=true)(d:yO sp bA=true):mn P sp bp bS bA:=by
 refine⟨?_,?_,?_⟩
 ·unfold yM at h0
  split at h0
  ·rename_i d2 ty b t' k q e
   simp only[aA]at h0;obtain⟨⟨g3,g4⟩,g5⟩:=h0;have g3:=bu g3;subst g3;refine⟨⟨d2,.range ty (.tmp sp.y),t',k,q,none⟩,ty,?_,rfl,rfl,yL g4,g5⟩;have g:bp.toList≠[]:=by
    intro h;rw[h]at e;cases e
   have d:=List.dropLast_concat_getLast g;have u:bp.toList.getLast? = some (bp.toList.getLast g):=by
    rw[List.getLast?_eq_some_iff];exact⟨_,d.symm⟩
   rw[u]at e;rw[gd e]at d;exact d.symm
  ·cases h0
 ·unfold yN at h1
  split at h1
  ·rename_i d1 a _ _ _ d2 b _ _ _ e
   simp only[aA]at h1;obtain⟨⟨⟨g1,g2⟩,g3⟩,g4⟩:=h1;have g1:=bu g1;have g3:=bu g3;subst g1;subst g3;exact⟨_,_,e,rfl,rfl,yL g2,rfl,rfl,yL g4⟩
  ·cases h1
 ·unfold yO at d
  split at d
  ·rename_i d1 a _ _ _ l e
   simp only[aA]at d;have g1:=bu d.1;subst g1;exact⟨_,l,e,rfl,rfl,yL d.2⟩
  ·cases d
def pA:Code→Code
 |.seq _ b=>b
 |_=>.skip
def CZ:Code→Code
 |.seq (.seq _ (.block _ (.loop c))) _=>c
 |_=>.skip
def pB(c:Code):Code:=match CZ c with
 |.seq _ (.seq _ (.block _ (.seq _ b)))=>b
 |_=>.skip
def C0:Code→Array Oper
 |.region _ ops _=>ops
 |_=>#[]
def kL:Code→Array Oper
 |.seq (.seq r _) _=>C0 r
 |_=>#[]
def yP(c:Code):Array Oper:=match CZ c with
 |.seq r _=>C0 r
 |_=>#[]
def mo(c:Code):Array Oper:=match CZ c with
 |.seq _ (.seq _ (.block _ (.seq r _)))=>C0 r
 |_=>#[]
theorem Lg{r0 r1 b0 b1 r2 t2:Nat}{rest:Code} (h:ax P m L (.seq (kK r0 b0 r1 b1 r2 bp bS bA t2 body) rest)):ax P m L body∧ax P m L rest:=by
 refine⟨h.sub (fun p d=>?_) (fun p d=>?_),h.sub (fun p d=>?_) (fun p d=>?_)⟩
 ·simp only [bM, kK, cS]
  left;right;split
  ·simp only [bZ, bM, cS]
   exact .inr (.inr (.inr (.inr d)))
  ·simp only [bM, cS]
   exact .inr (.inr (.inr d))
 ·simp only [bH, kK, cS]
  exact .inl (.inr (.inr (.inr (.inr (.inr (.inr (.inr (.inr d))))))))
 ·simp only [bM, cS]
  exact .inr d
 ·simp only [bH, cS]
  exact .inr (.inr d)
def C1(P:Program)(τ:ak)(ops:Array Oper)(s:ar):ar:=match (lk P τ ops ops.toList.dropLast s fun s=>.done .normal s).jZ with
 |some (_,s1)=>s1
 |none=>s
theorem Lh(d:al P τ){ops:Array Oper}{l:List Oper}{s s1:ar}(h:(lk P τ ops l s fun s=>.done .normal s).jZ=some (.normal,s1)):fH P τ.pf ops l s.den s1.den:=by
 obtain⟨s',h1,g⟩:=xW d (uH h);obtain⟨_,rfl⟩:=g;exact h1
theorem W2(hm:P.follows .mixedOrders=true)(W:al P τ){rest:Code}{q qr:be}(hL:ax P m L body)(hr:iV P τ L m sp bA body)(ho:mn P sp bp bS bA)
  (hu1:∀ d,(aR sp.inv d).fr[sp.t1]? = some .undef) (hu2:∀ d,(aR sp.inv d).fr[sp.t2]? = some .undef) (hut:∀ d,(aR sp.inv d).fr[sp.it]? = some (.lit (.pointer (some ⟨sp.ba d,0,none⟩))))
  {r0 r1 b0 b1 r2:Nat}
  {rows:List G→List (List G)} {clock:List G→Nat} {pre:List G→ar} (hy:∀ d,(lk P τ bp bp.toList.dropLast (aR q.inv d) fun s=>.done .normal s).jZ=some (.normal,pre d)) (u:∀ d,(pre d).eval (.tmp sp.y)=.map sp.id) (hid:∀ d,(pre d).H[sp.id]? = some (.map sp.K sp.V (rows d) (clock d)))
  (hin:∀ d b,hZ m sp.inv sp.ps (gu sp.opens (sp.s2 (pre d) b))=some (sp.side d b,sp.init d b)) (hadr:∀ d b,sp.ba (sp.init d b)=b)
  (hinv:qr.inv=sp.inv) (houts:qr.outs=q.outs) (I:pz P m rest qr) (hst:∀ d,q.st d=iC sp qr.st (rows d) (clock d) d) :
  pz P m (.seq (kK r0 b0 r1 b1 r2 bp bS bA sp.t2 body) rest) q:=by
 intro d i d' h;rw[hst]at h;unfold iC at h;cases B:ls (rows d) (clock d)with
 |false=>rw[B]at h; cases h
 | true =>
  rw[B]at h;simp only[cond_true]at h;have hall:=CY h;obtain⟨hn,hlt⟩:=Ld B;have k:∀ b p,p.Perm (rows d)→sp.side d b=true∧∃ d1,cD sp.st sp.ba p (sp.init d b)=some d1∧qr.st d1=some (some i,d'):=by
   intro b p g;have:=hall b p g;cases M:sp.side d b with
   |false=>rw[M]at this; cases this
   | true =>
    rw[M]at this;simp only[cond_true]at this;cases v:cD sp.st sp.ba p (sp.init d b)with
    |none=>rw[v]at this; cases this
    | some d1 =>
     rw[v]at this;exact⟨rfl,d1,rfl,this⟩
  obtain⟨_,d1,_,g1⟩:=k 0 (rows d) (oG _);obtain⟨o,N,_⟩:=I d1 i d' g1;refine⟨o,by rw[←houts]; exact N,fun ro O E a hs=>wpIn_seq (wpIn_mono (W0 hm W hL hr ho hu1 hu2 hut (Lh W (hy d)) (u d) (hid d) hn hlt (fun b=>by rw[hin d b,(k b (rows d) (oG _)).1]) (hadr d) (fun b p g=>?_) E a hs ro (K8 O.seq1)) fun e a1 w1 hq=>?_)⟩
  ·obtain ⟨_, d2, h2, _⟩ := k b p g
   rw[h2];rfl
  ·obtain ⟨rfl, b, p, d2, g, v, loc, X, hs2, hle⟩ := hq
   obtain⟨_,d3,h3,h4⟩:=k b p g;rw[v]at h3;cases h3;obtain⟨o',U,J⟩:=I d2 i d' h4;rw[N]at U;cases U;rw[hinv]at J;exact wpIn_mono (J ro O.BK { w:=w1,H:=(aR sp.inv d2).den.H,loc:=loc,X:=X } a1 hs2) fun x a2 w2 u=>⟨u.1,dC.after hle u.2⟩
theorem ax.Li(hm:P.follows .mixedOrders=true)(h:al P τ){fn:Func}{q qr:be}{r0 b0 r1 b1 r2:Nat}{rows:List G→List (List G)}{clock:List G→Nat}
  (hn:kJ q.key (bH (aQ fn))=true) (hL:ax P m L (aQ fn))
  (k:cutAt fn q.key=.seq (kK r0 b0 r1 b1 r2 (kL (cutAt fn q.key)) (yP (cutAt fn q.key)) (mo (cutAt fn q.key)) sp.t2 (pB (cutAt fn q.key))) (pA (cutAt fn q.key)))
  (ho:(yM P sp (kL (cutAt fn q.key))&&yN sp (yP (cutAt fn q.key))&&yO sp (mo (cutAt fn q.key)))=true)
  (hr:iV P τ L m sp (mo (cutAt fn q.key)) (pB (cutAt fn q.key)))
  (I:∀ d,(aR sp.inv d).fr[sp.t1]? = some .undef) (J:∀ d,(aR sp.inv d).fr[sp.t2]? = some .undef) (M:∀ d,(aR sp.inv d).fr[sp.it]? = some (.lit (.pointer (some ⟨sp.ba d,0,none⟩))))
  {pre:List G→ar} (hy:∀ d,(lk P τ (kL (cutAt fn q.key)) (kL (cutAt fn q.key)).toList.dropLast (aR q.inv d) fun s=>.done .normal s).jZ=some (.normal,pre d)) (hx:∀ d,(pre d).eval (.tmp sp.y)=.map sp.id) (hid:∀ d,(pre d).H[sp.id]? = some (.map sp.K sp.V (rows d) (clock d)))
  (N:∀ d b,hZ m sp.inv sp.ps (gu sp.opens (sp.s2 (pre d) b))=some (sp.side d b,sp.init d b)) (B:∀ d b,sp.ba (sp.init d b)=b)
  (hinv:qr.inv=sp.inv) (u:qr.outs=q.outs) (v:eU P τ L m (pA (cutAt fn q.key)) qr) (O:∀ d,q.st d=iC sp qr.st (rows d) (clock d) d) :
  ax P m (L.dP m q) (aQ fn):=by
 refine ax.Le hn hL fun g=>?_;rw[k]at g;obtain⟨U,W⟩:=Lg g;simp only[aA]at ho;rw[k];exact W2 hm h U hr (Lf ho.1.1 ho.1.2 ho.2) I J M hy hx hid N B hinv u (v.sat hm h W) O
end range
end Go.AL
