/-
 What is proved here: shapes: states and arguments as data alone (integers,strings,rows),read off abstract states and built from data; what is built says no more than what was read. No program in sight; no condition.
-/
import Derived.Test.YtljobbkidfdbhaaGreatDoorMC
import Derived.Maps.RangeRun
set_option linter.all false
open Bool renaming and_true→fO,and_eq_true→ax,false_eq_true→k_,not_eq_true'→l_,and_self→tg,eq_false_iff→aeX,or_false→AT
open Go.Act renaming put→wI
open Go.MapKept renaming heap_set→Hq
open Go.Value.slice renaming injEq→jQ
open Int renaming toNat_natCast→a_
open List renaming length_cons→cw,append_nil→cO,append_assoc→gG,getElem?_append_left→cI,length_map→dJ,mem_map→dD,getElem?_map→bZ,getElem?_eq_getElem→bI,mem_of_getElem?→eT,getElem?_append_right→iz,getElem?_set_self→bB,getElem?_set_ne→aQ,getElem?_set→dR,all_eq_true→cM,getD_eq_getElem?_getD→cf,getElem?_take→lX,mem_cons→bW,map_cons→du,cons_append→lZ,length_append→fb,mem_append→cS,getElem?_of_mem→nc,all_cons→l5,mem_cons_self→cW,mem_cons_of_mem→c9,nodup_cons→l8,getElem?_inj→AO,range'→tc,range'_succ→Hc,range→dv,mem_append_left→ql,any_eq_true→iQ,range_eq_range'→AQ,set_append_left→Hl,headD_cons→wM,getElem?_cons_succ→QZ,getD_cons_succ→aeW,find?_cons_of_neg→aeY,getElem_mem→nm,mem_filter→AS,mem_append_right→wO
open List.Perm renaming refl→oO
open Nat renaming le_refl→aB,le_add_right→eS,zero_le→er,lt_or_ge→jq,zero_add→cP,beq→ad,eq_of_beq_eq_true→br,sub_self→ng,ble→c_,blt→fe,blt_eq→kC,le_of_ble_eq_true→th,lt_irrefl→qo
open Option renaming map_eq_some_iff→dQ,map_some→eJ,getD_some→l7,bind_some→AW
open Option.some renaming injEq→aV,inj→gg
open Prod.mk renaming injEq→ba
namespace Go.AL
open Go
variable [Dr]
inductive eH where
 |int (k:IntKind)|str|bool
 |list (ks:List Kd)|row (ks:List Kd)|cptr (ks:List Kd)
 |nil|any
 |J7 (isNil:Bool)
 |fn (f:FuncId)
 |ptr (j col:Nat)
 |vec (j w:Nat)
 |sub (j w:Nat)
 |pre (j w:Nat)
 |uJ (ks:List Kd)
 |map (j:Nat)
 |addr
 |J8 (f:FuncId) (js:List Nat)
 |CN
 deriving Inhabited
inductive Sh where
 |s (a:eH)
 |clo (f:FuncId) (caps:List eH)
 deriving Inhabited
inductive cd where
 |vec (ks:List Kd) (u:Nat)
 |box (cells:List eH)
 |map (K V:Ct)
 |eD (l T B:Nat)
 |aG (l:Nat) (K:Ct) (ks:List Kd)
 |mm (l:Nat) (K KI VI:Ct)
 deriving Inhabited
def cd.i_:cd→Option Nat
 |.eD l _ _=>some l
 |.aG l _ _=>some l
 |.mm l _ _ _=>some l
 |_=>none
def cd.cZ:cd→Option Nat
 |.mm l _ _ _=>some l
 |_=>none
def eH.sz:eH→Nat
 |.int _ | .str | .bool | .list _ | .row _ | .cptr _ | .uJ _ | .pre _ _ | .addr=>1
 |.sub _ _=>2
 |_=>0
def nS:List eH→Nat
 | []=>0
 |a::as=>a.sz+nS as
def Sh.sz:Sh→Nat
 |.s a=>a.sz
 |.clo _ caps=>nS caps
def CO:List Sh→Nat
 | []=>0
 |a::as=>a.sz+CO as
def cd.sz:cd→Nat
 |.vec _ _=>1
 |.box cells=>nS cells
 |.map _ _=>2
 |.eD _ _ _=>1
 |.aG _ _ _=>2
 |.mm _ _ _ _=>3
def en:Nat→List G→List G
 |0,d=>d
 |n+1,d=>en n d.tail
abbrev cY:=List (Nat × Nat)
def cY.len(os:cY)(j:Nat):Nat:=(os.getD j (0,0)).1
def cY.ae(os:cY)(j:Nat):Nat:=(os.getD j (0,0)).2
def pA:List Nat→List AV
 | []=>[]
 |j::js=>.ptr j 0 0 0 0::pA js
def eI(lens:cY):eH→List G→AV
 |.int k,d=>.lit (.int k (d.headD default).int)
 |.str,d=>.lit (.string (d.headD default).str)
 |.bool,d=>.lit (.bool (d.headD default).bool)
 |.list ks,d=>.listF ks (d.headD default).rows
 |.uJ ks,d=>.listF ks (d.headD default).rows
 |.row ks,d=>.agg (aK ks (d.headD default).row)
 |.cptr ks,d=>.cptr (aK ks (d.headD default).row)
 |.nil,_=>.lit (.slice none 0 0)
 |.any,_=>.undef
 |.J7 b,_=>.emptyS b
 |.fn f,_=>.clo f []
 |.ptr j col,_=>.ptr j 0 0 0 col
 |.vec j w,_=>.vec w j (lens.ae j) 0 (lens.len j)
 |.sub j w,d=>.vec w j (lens.ae j) (d.headD default).int.toNat (d.tail.headD default).int.toNat
 |.pre j w,d=>.vec w j (lens.ae j) 0 (d.headD default).int.toNat
 |.map j,_=>.map j
 |.addr,d=>.lit (.pointer (some ⟨(d.headD default).int.toNat,0,none⟩))
 |.J8 f js,_=>.clo f (pA js)
 |.CN,_=>.lit .nilIface
def iJ(lens:cY):List eH→List G→List AV
 | [],_=>[]
 |a::as,d=>eI lens a d::iJ lens as (en a.sz d)
def pB(lens:cY):Sh→List G→AV
 |.s a,d=>eI lens a d
 |.clo f caps,d=>.clo f (iJ lens caps d)
def fj(lens:cY):List Sh→List G→List AV
 | [],_=>[]
 |a::as,d=>pB lens a d::fj lens as (en a.sz d)
def eP(lens:cY):cd→List G→ah
 |.vec ks u,d=>.vec ks u (d.headD default).rows
 |.box g,d=>.raw (.box (iJ lens g d))
 |.map K V,d=>.map K V (d.headD default).rows (d.tail.headD default).int.toNat
 |.eD l T B,d=>.raw (.eD l T B (d.headD default).str)
 |.aG l K ks,d=>.aG l K ks (d.headD default).rows (d.tail.headD default).int.toNat
 |.mm l K KI VI,d=>.mm l K KI VI (d.headD default).rows (d.tail.headD default).rows (d.tail.tail.headD default).int.toNat
theorem ry(lens:cY)(sh:cd)(d:List G):(eP lens sh d).den.label=sh.i_:=by cases sh<;>rfl
theorem CP(lens:cY)(sh:cd)(d:List G):(eP lens sh d).den.cZ=sh.cZ:=by cases sh<;>rfl
def cK(lens:cY):List cd→List G→List ah
 | [],_=>[]
 |o::os,d=>eP lens o d::cK lens os (en o.sz d)
def lx:List cd→Nat
 | []=>0
 |o::os=>o.sz+lx os
def cD:List cd→List G→cY
 | [],_=>[]
 | o::os,d=>(match o with
  |.vec _ u=>((d.headD default).rows.length,u)
  |_=>(0,0))::cD os (en o.sz d)
def j9(H:List ah)(e:bL):List Nat→List AV→Bool
 | [],[]=>true
 | j::js,.ptr id ae k row c::vs=>(match H[id]? with
  |some (.raw _)=>ad id (e.at j)&&ad ae 0&&ad k 0&&ad row 0&&ad c 0
  |_=>false)&&j9 H e js vs
 |_,_=>false
def fq(H:List ah)(e:bL)(fz:Nat→Bool):eH→AV→Option (Bool × List G)
 |.int k,.lit (.int k' n)=>if k=k' then some (true,[.i n]) else none
 |.str,.lit (.string s)=>some (true,[.s s])
 |.bool,.lit (.bool b)=>some (true,[.t b])
 | .list ks,a=>match mC ks a with
  |some rows=>some (true,[.l rows])
  | none=>match a with
   | .vec w id ae off n=>match H[id]? with
    |some (.vec d v rows)=>if ae=v∧off=0∧w=ks.length∧Kd.gl ks d=true∧fz id=true then some (ad n rows.length,[.l rows]) else none
    |_=>none
   |_=>none
 | .row ks,a=>match CI ks a with
  |some r=>some (true,[.l [r]])
  |none=>none
 | .cptr ks,.cptr cells=>match fK ks cells with
  |some r=>some (true,[.l [r]])
  |none=>none
 | .cptr ks,.ptr id ae _ row col=>match H[id]? with
  | some (.raw (.box cells))=>match fK ks cells with
   |some r=>if ae=0∧row=0∧col=0∧fz id=true then some (true,[.l [r]]) else none
   |none=>none
  |some (.vec d v [r])=>if ae=v∧row=0∧col=0∧Kd.gl ks d=true∧fz id=true then some (true,[.l [r]]) else none
  |_=>none
 |.nil,.lit (.slice none 0 0)=>some (true,[])
 |.any,_=>some (true,[])
 |.fn f,.clo g []=>if f=g then some (true,[]) else none
 | .ptr j col,.ptr id ae k row c=>match H[id]? with
  |some (.raw _)=>if id=e.at j∧ae=0∧k=0∧row=0∧c=col then some (true,[]) else none
  |_=>none
 | .vec j w,.vec w' id ae off n=>match H[id]? with
  |some (.vec _ v rows)=>if w'=w∧id=e.at j∧ae=v∧off=0 then some (ad n rows.length,[]) else none
  |_=>none
 | .sub j w,.vec w' id ae off n=>match H[id]? with
  |some (.vec _ v _)=>if w'=w∧id=e.at j∧ae=v then some (true,[.i off,.i n]) else none
  |_=>none
 | .pre j w,.vec w' id ae off n=>match H[id]? with
  |some (.vec _ v _)=>if w'=w∧id=e.at j∧ae=v∧off=0 then some (true,[.i n]) else none
  |_=>none
 | .uJ ks,a=>match mC ks a with
  |some rows=>some (true,[.l rows])
  | none=>match a with
   | .vec w id ae off n=>match H[id]? with
    |some (.vec d v rows)=>if ae=v∧off=0∧w=ks.length∧Kd.gl ks d=true∧fz id=true then some (c_ n rows.length,[.l (rows.take n)]) else none
    |_=>none
   |_=>none
 | .map j,.map id=>match H[id]? with
  |some (.map _ _ _ _)=>if id=e.at j then some (true,[]) else none
  |some (.aG _ _ _ _ _)=>if id=e.at j then some (true,[]) else none
  |some (.mm _ _ _ _ _ _ _)=>if id=e.at j then some (true,[]) else none
  |_=>none
 |.addr,.lit (.pointer (some ⟨b,0,none⟩))=>some (true,[.i (b:Nat)])
 |.J8 f js,.clo g vs=>if f=g∧j9 H e js vs=true then some (true,[]) else none
 |.CN,.lit .nilIface=>some (true,[])
 |_,_=>none
def fk(H:List ah)(e:bL)(fz:Nat→Bool):List eH→List AV→Option (Bool × List G)
 | [],[]=>some (true,[])
 | sh::d,a::as=>match fq H e fz sh a,fk H e fz d as with
  |some (b,g),some (h,k)=>some (b&&h,g++k)
  |_,_=>none
 |_,_=>none
def j_(H:List ah)(e:bL)(fz:Nat→Bool):Sh→AV→Option (Bool × List G)
 |.s a,v=>fq H e fz a v
 |.clo f caps,.clo g vs=>if f=g then fk H e fz caps vs else none
 |_,_=>none
def eo(H:List ah)(e:bL)(fz:Nat→Bool):List Sh→List AV→Option (Bool × List G)
 | [],[]=>some (true,[])
 | sh::d,a::as=>match j_ H e fz sh a,eo H e fz d as with
  |some (b,g),some (h,k)=>some (b&&h,g++k)
  |_,_=>none
 |_,_=>none
def gy(H:List ah)(e:bL)(fz:Nat→Bool):cd→ah→Option (Bool × List G)
 |.vec ks _,.vec g _ rows=>if Kd.gl ks g then some (true,[.l rows]) else none
 |.box h,.raw (.box cells)=>fk H e fz h cells
 |.map K V,.map d u rows clock=>if K.same d&&V.same u then some (true,[.l rows,.i clock]) else none
 |.eD l T B,.raw (.eD l' v y s)=>if (ad l l'&&(ad T v&&ad B y))=true then some (true,[.s s]) else none
 |.aG l K ks,.aG l' d g rows clock=>if (ad l l'&&(K.same d&&Kd.gl ks g))=true then some (true,[.l rows,.i clock]) else none
 |.mm l K KI VI,.mm l' d k q rows mem clock=>if (ad l l'&&(K.same d&&(KI.same k&&VI.same q)))=true then some (true,[.l rows,.l mem,.i clock]) else none
 |_,_=>none
theorem J9{H:List ah}{e:bL}{fz:Nat→Bool}{sh:cd}{o:ah}{b:Bool}{g:List G}(h:gy H e fz sh o=some (b,g)):o.den.label=sh.i_:=by
 unfold gy at h;split at h
 ·rfl
 ·rfl
 ·rfl
 ·split at h
  ·rename_i d
   simp only[ax]at d;have:=br d.1;subst this;rfl
  ·cases h
 ·split at h
  ·rename_i d
   simp only[ax]at d;have:=br d.1;subst this;rfl
  ·cases h
 ·split at h
  ·rename_i d
   simp only[ax]at d;have:=br d.1;subst this;rfl
  ·cases h
 ·cases h
theorem CQ{H:List ah}{e:bL}{fz:Nat→Bool}{sh:cd}{o:ah}{b:Bool}{g:List G}(h:gy H e fz sh o=some (b,g)):o.den.cZ=sh.cZ:=by
 unfold gy at h;split at h
 ·rfl
 ·rfl
 ·rfl
 ·rfl
 ·rfl
 ·split at h
  ·rename_i d
   simp only[ax]at d;have:=br d.1;subst this;rfl
  ·cases h
 ·cases h
def ja(H:List ah)(e:bL)(fz:Nat→Bool):List cd→List Nat→Option (Bool × List G)
 | [],[]=>some (true,[])
 | o::os,i::is=>match H[i]? with
  | some t=>match gy H e fz o t,ja H e fz os is with
   |some (b,g),some (d,h)=>some (b&&d,g++h)
   |_,_=>none
  |none=>none
 |_,_=>none
theorem nT:∀(g rest:List G),en g.length (g++rest)=rest
 | [],_=>rfl
 |_::g,rest=>nT g rest
def rz:ah→Nat
 |.vec _ v _=>v
 |_=>0
def rA(H:List ah)(id:Nat):Nat:=match H[id]? with
 |some o=>rz o
 |none=>0
def bJ(H:List ah)(ids:List Nat):bL:=⟨ids,ids.map (rA H),H.length⟩
structure ym (E0:Env) (lens:cY) (j:Nat) (o:ah):Prop where
 ae:o.den.aD = some (rz o)
 obj:∃ o0,E0.H[j]? = some o0∧o0.aD = some (lens.ae j)
 mm:∀ o0,E0.H[j]? = some o0→o0.cZ=o.den.cZ
 len:∀ ks v rows,o=.vec ks v rows→lens.len j=rows.length
 flat:(∀ ks v rows,o≠.vec ks v rows)→lens.ae j=0
structure ia (H:List ah) (e:bL) (fz:Nat→Bool) (lens:cY) (E E0:Env):Prop where
 hH:E.H=ak H
 HE:aq E
 free:∀ i,fz i=true→∀ b n,E.loc[i]? = some (some (b,n))→E0.iC b
 cQ:KeepIn e E E0
 obj:∀ j o,H[e.at j]? = some o→j<e.ids.length∧ym E0 lens j o
section cQ
variable {H:List ah} {e:bL} {fz:Nat→Bool} {lens:cY} {E E0:Env}
theorem ym.past{j:Nat}{o:ah}(h:ym E0 lens j o):E0.past j (lens.ae j):=by
 obtain⟨o0,h1,d⟩:=h.obj;exact⟨o0,h1,ab.A1 d,fun v g=>by rw[d]at g; cases g; exact aB _⟩
theorem Up(K:ia H e fz lens E E0){id v n:Nat}{ks:List Kd}{rows:List (List G)}{c:Value}(hid:H[id]? = some (.vec ks v rows))(B:fz id=true)(I:n=rows.length)
  (d:rel E (.vec ks.length id v 0 n) c):rel E0 (.listF ks rows) c:=by
 subst I;have k:E.H[id]? = some (.vec ks.length v (rows.map (aK ks))):=by rw[K.hH]; exact bh hid
 have ho:=K.HE.obj id _ k;rw[iR];simp only[rel]at d⊢;obtain⟨⟨base,cap,rfl,y,_⟩,_,h⟩:=d;obtain⟨N,J⟩:=h ⟨_,k,rfl⟩;have q:eV (rows.map (aK ks)):=by
  intro r d;obtain⟨g,_,rfl⟩:=dD.1 d;exact fE ks g
 refine⟨q,base,cap,by simp,by simpa using y,?_⟩;simp only[aM]at ho;rcases ho with⟨h1,u⟩|⟨b,m,h1,u,h,_,M⟩
 ·exact .inl u
 ·obtain ⟨g1, o, g2, g3⟩ := J b m h1
  by_cases hm:rows=[]
  ·subst hm; exact .inl rfl
  ·right
   have:0<rows.length:=by cases rows with|nil=>exact(hm rfl).elim|cons _ _=>simp
   simp at h;have ho:=g2 (by omega);simp at ho;subst ho;simp only[jQ]at g3;exact⟨b,0,g3.1,K.free id B b m h1,kF K.cQ.bF _ q (by rw[K.cQ.w]) M⟩
theorem Uq(K:ia H e fz lens E E0){id v n:Nat}{ks:List Kd}{rows:List (List G)}{c:Value}(hid:H[id]? = some (.vec ks v rows))(J:fz id=true)(M:n≤rows.length)
  (d:rel E (.vec ks.length id v 0 n) c):rel E0 (.listF ks (rows.take n)) c:=by
 have k:E.H[id]? = some (.vec ks.length v (rows.map (aK ks))):=by rw[K.hH]; exact bh hid
 have ho:=K.HE.obj id _ k;rw[iR];simp only[rel]at d⊢;obtain⟨⟨base,cap,rfl,I,_⟩,_,h⟩:=d;obtain⟨O,N⟩:=h ⟨_,k,rfl⟩;have u:eV ((rows.take n).map (aK ks)):=by
  intro r d;obtain⟨g,_,rfl⟩:=dD.1 d;exact fE ks g
 have q:min n rows.length=n:=Nat.min_eq_left M;refine⟨u,base,cap,by simp[q],by simpa[q]using I,?_⟩;simp only[aM]at ho;rcases ho with⟨h1,y⟩|⟨b,m,h1,y,h,_,B⟩
 ·left
  have:rows=[]:=by simpa using y
  rw[this];simp
 ·obtain ⟨g1, o, g2, g3⟩ := N b m h1
  by_cases hm:n=0
  ·left; rw[hm]; simp
  ·right
   simp at h;have ho:=g2 (by omega);simp at ho;subst ho;simp only[jQ]at g3;refine⟨b,0,g3.1,K.free id J b m h1,kF K.cQ.bF _ u (by rw[K.cQ.w]) ?_⟩;rw[lf]at B⊢;intro i r hi;simp only[bZ,lX]at hi;split at hi
   ·exact B i r (by simpa using hi)
   ·simp at hi
theorem Ur(K:ia H e fz lens E E0){id k:Nat}{cells:List AV}{c:Value} (hid:H[id]? = some (.raw (.box cells))) (g:AV.bp cells=true) (q:fz id=true)
  (h:rel E (.ptr id 0 k 0 0) c):rel E0 (.cptr cells) c:=by
 have d:E.H[id]? = some (.box cells):=by rw[K.hH]; exact bh hid
 have ho:=K.HE.obj id _ d;simp only[aM]at ho;obtain⟨b,n,h1,y,u⟩:=ho;simp only[rel]at h⊢;obtain⟨_,_,v⟩:=h;obtain⟨B,I,g1,g2⟩:=v ⟨_,d,rfl⟩;rw[h1]at g1;simp only[aV,ba]at g1;obtain⟨rfl,rfl⟩:=g1;exact⟨g,b,0,by rw[g2]; simp,K.free id q b n h1,qt K.cQ.bF cells g (by rw[K.cQ.w]) u⟩
theorem Us(K:ia H e fz lens E E0){id k v:Nat}{ks:List Kd}{r:List G}{c:Value}(hid:H[id]? = some (.vec ks v [r]))(u:fz id=true)
  (g:rel E (.ptr id v k 0 0) c):rel E0 (.cptr (aK ks r)) c:=by
 have d:E.H[id]? = some (.vec ks.length v [aK ks r]):=by rw[K.hH]; exact bh hid
 have ho:=K.HE.obj id _ d;simp only[aM]at ho;simp only[rel]at g⊢;obtain⟨_,_,y⟩:=g;obtain⟨B,I,g1,g2⟩:=y ⟨_,d,rfl⟩;rcases ho with⟨_,h⟩|⟨b,m,h1,h,J,M,q⟩
 ·cases h
 ·rw [h1] at g1
  simp only[aV,ba]at g1;obtain⟨rfl,rfl⟩:=g1;simp only[cy]at q;exact⟨fE ks r,b,0,by rw[g2]; simp,K.free id u b m h1,qt K.cQ.bF _ (fE ks r) (by rw[K.cQ.w]) q.2.1⟩
theorem J_(K:ia H e fz lens E E0):∀{js:List Nat} {vs:List AV},j9 H e js vs=true→∀ cs,af E vs cs→af E0 (pA js) cs
 | [],[],_,cs,d=>by
  cases cs with
  |nil=>simp[pA,af]
  |cons _ _=>simp[af]at d
 | j::js,v::vs,h,cs,d=>by
  cases v<;>simp only[j9,k_]at h<;>try cases h
  rename_i id ae k row c;simp only[ax]at h;obtain⟨h1,y⟩:=h;split at h1
  ·rename_i r hid
   simp only[ax]at h1;obtain⟨⟨⟨⟨g,a2⟩,a3⟩,a4⟩,a5⟩:=h1;have g:=br g;have a2:=br a2;have a3:=br a3;have a4:=br a4;have a5:=br a5;subst g a2 a3 a4 a5;cases cs with
   |nil=>simp[af]at d
   | cons c cs =>
    simp only[af]at d;simp only[pA,af];refine⟨?_,J_ K y cs d.2⟩;obtain⟨B,q⟩:=K.obj _ _ hid;have I:=q.flat (fun _ _ _ h=>by cases h);have u:=d.1;simp only[rel]at u⊢;obtain⟨h1,y,J⟩:=u;refine⟨h1,by have:=q.past; rwa [I]at this,fun _=>?_⟩;rw[K.cQ.loc _ B];exact J ⟨_,by rw[K.hH]; exact bh hid,q.ae⟩
  ·cases h1
 | [],_::_,h,_,_=>by simp[j9]at h
 |_::_,[],h,_,_=>by simp[j9]at h
theorem J'(K:ia H e fz lens E E0){sh:eH}{a:AV}{g:List G}(h:fq H e fz sh a=some (true,g))(rest:List G) :
  g.length=sh.sz∧∀ c,rel E a c→rel E0 (eI lens sh (g++rest)) c:=by
 unfold fq at h;split at h
 ·split at h
  ·rename_i hk
   subst hk;cases h;exact⟨rfl,fun c d=>by simp only[rel]at d; subst d; simp[eI,rel,G.int]⟩
  ·cases h
 ·cases h; exact⟨rfl,fun c d=>by simp only[rel]at d; subst d; simp[eI,rel,G.str]⟩
 ·cases h; exact⟨rfl,fun c d=>by simp only[rel]at d; subst d; simp[eI,rel,G.bool]⟩
 ·split at h
  ·rename_i rows d
   cases h;exact⟨rfl,fun c k=>dF K.cQ.bF (.listF _ rows) rfl (JW d k)⟩
  ·split at h
   ·split at h
    ·rename_i hid
     split at h
     ·rename_i k
      obtain⟨rfl,rfl,rfl,B,I⟩:=k;simp only[aV,ba]at h;obtain⟨h1,rfl⟩:=h;have B:=Kd.iH B;subst B;exact⟨rfl,fun c d=>Up K hid I (br h1) d⟩
     ·cases h
    ·cases h
   ·cases h
 ·split at h
  ·rename_i ks a r d
   cases h;have N:=JX d;subst N;exact⟨rfl,fun c k=>dF K.cQ.bF (.agg (aK ks r)) (by simp only[AV.closed,fE]) k⟩
  ·cases h
 ·split at h
  ·rename_i r d
   cases h;have N:=j5 d;subst N;exact⟨rfl,fun c k=>dF K.cQ.bF (.cptr _) rfl k⟩
  ·cases h
 ·split at h
  ·rename_i hid
   split at h
   ·rename_i r d
    split at h
    ·rename_i k
     obtain⟨rfl,rfl,rfl,I⟩:=k;cases h;have N:=j5 d;subst N;exact⟨rfl,fun c d=>Ur K hid (fE _ _) I d⟩
    ·cases h
   ·cases h
  ·rename_i U v r hid
   split at h
   ·rename_i k
    obtain⟨rfl,rfl,rfl,B,I⟩:=k;cases h;have B:=Kd.iH B;subst B;exact⟨rfl,fun c d=>Us K hid I d⟩
   ·cases h
  ·cases h
 ·cases h; exact⟨rfl,fun c d=>by simpa only[eI,rel]using d⟩
 ·cases h; exact⟨rfl,fun c d=>by simp[eI,rel]⟩
 ·split at h
  ·rename_i hk
   subst hk;cases h;exact⟨rfl,fun c d=>dF K.cQ.bF (.clo _ []) rfl d⟩
  ·cases h
 ·split at h
  ·rename_i r hid
   split at h
   ·rename_i k
    obtain⟨rfl,rfl,rfl,rfl,rfl⟩:=k;cases h;obtain⟨u,q⟩:=K.obj _ _ hid;have J:=q.flat (fun _ _ _ h=>by cases h);refine⟨rfl,fun c d=>?_⟩;simp only[rel]at d;simp only[eI,rel];obtain⟨h1,M,y⟩:=d;refine⟨h1,by have:=q.past; rwa [J]at this,fun _=>?_⟩;rw[K.cQ.loc _ u];exact y ⟨_,by rw[K.hH]; exact bh hid,q.ae⟩
   ·cases h
  ·cases h
 ·split at h
  ·rename_i ks v rows hid
   split at h
   ·rename_i k
    obtain⟨rfl,rfl,rfl,rfl⟩:=k;simp only[aV,ba]at h;obtain⟨h1,rfl⟩:=h;have h1:=br h1;subst h1;obtain⟨u,q⟩:=K.obj _ _ hid;refine⟨rfl,fun c d=>?_⟩;simp only[rel]at d;simp only[eI,rel];rw[q.len _ _ _ rfl];obtain⟨h1,M,y⟩:=d;refine⟨h1,q.past,fun _=>?_⟩;rw[K.cQ.loc _ u];exact y ⟨_,by rw[K.hH]; exact bh hid,q.ae⟩
   ·cases h
  ·cases h
 ·split at h
  ·rename_i ks v rows hid
   split at h
   ·rename_i k
    obtain⟨rfl,rfl,rfl⟩:=k;cases h;obtain⟨u,q⟩:=K.obj _ _ hid;refine⟨rfl,fun c d=>?_⟩;simp only[rel]at d;simp only[eI,rel,lZ,wM,List.tail_cons,G.int,a_];obtain⟨h1,M,y⟩:=d;refine⟨h1,q.past,fun _=>?_⟩;rw[K.cQ.loc _ u];exact y ⟨_,by rw[K.hH]; exact bh hid,q.ae⟩
   ·cases h
  ·cases h
 ·split at h
  ·rename_i ks v rows hid
   split at h
   ·rename_i k
    obtain⟨rfl,rfl,rfl,rfl⟩:=k;cases h;obtain⟨u,q⟩:=K.obj _ _ hid;refine⟨rfl,fun c d=>?_⟩;simp only[rel]at d;simp only[eI,rel,lZ,wM,G.int,a_];obtain⟨h1,M,y⟩:=d;refine⟨h1,q.past,fun _=>?_⟩;rw[K.cQ.loc _ u];exact y ⟨_,by rw[K.hH]; exact bh hid,q.ae⟩
   ·cases h
  ·cases h
 ·split at h
  ·rename_i rows d
   cases h;exact⟨rfl,fun c k=>dF K.cQ.bF (.listF _ rows) rfl (JW d k)⟩
  ·split at h
   ·split at h
    ·rename_i hid
     split at h
     ·rename_i k
      obtain⟨rfl,rfl,rfl,B,I⟩:=k;simp only[aV,ba]at h;obtain⟨h1,rfl⟩:=h;have B:=Kd.iH B;subst B;exact⟨rfl,fun c d=>Uq K hid I (th h1) d⟩
     ·cases h
    ·cases h
   ·cases h
 ·split at h
  ·rename_i O V1 rows cl hid
   split at h
   ·rename_i k
    subst k;cases h;obtain⟨u,q⟩:=K.obj _ _ hid;have J:=q.flat (fun _ _ _ h=>by cases h);refine⟨rfl,fun c d=>?_⟩;simp only[rel]at d;simp only[eI,rel];obtain⟨h1,M,y⟩:=d;refine⟨h1,by have:=q.past; rwa [J]at this,fun _=>?_⟩;rw[K.cQ.loc _ u];exact y ⟨_,by rw[K.hH]; exact bh hid,q.ae⟩
   ·cases h
  ·rename_i l1 O V rows cl hid
   split at h
   ·rename_i k
    subst k;cases h;obtain⟨u,q⟩:=K.obj _ _ hid;have J:=q.flat (fun _ _ _ h=>by cases h);refine⟨rfl,fun c d=>?_⟩;simp only[rel]at d;simp only[eI,rel];obtain⟨h1,M,y⟩:=d;refine⟨h1,by have:=q.past; rwa [J]at this,fun _=>?_⟩;rw[K.cQ.loc _ u];exact y ⟨_,by rw[K.hH]; exact bh hid,q.ae⟩
   ·cases h
  ·rename_i l1 O W VI1 rows mem cl hid
   split at h
   ·rename_i k
    subst k;cases h;obtain⟨u,q⟩:=K.obj _ _ hid;have J:=q.flat (fun _ _ _ h=>by cases h);refine⟨rfl,fun c d=>?_⟩;simp only[rel]at d;simp only[eI,rel];obtain⟨h1,M,y⟩:=d;refine⟨h1,by have:=q.past; rwa [J]at this,fun _=>?_⟩;rw[K.cQ.loc _ u];exact y ⟨_,by rw[K.hH]; exact bh hid,q.ae⟩
   ·cases h
  ·cases h
 ·cases h; exact⟨rfl,fun c d=>by simp only[rel]at d; subst d; simp[eI,rel,G.int]⟩
 ·split at h
  ·rename_i k
   obtain⟨rfl,k⟩:=k;cases h;refine⟨rfl,fun c d=>?_⟩;simp only[rel]at d;simp only[eI,rel];obtain⟨cs,r1,r2⟩:=d;exact⟨cs,r1,J_ K k _ r2⟩
  ·cases h
 ·cases h; exact⟨rfl,fun c d=>by simpa only[eI,rel]using d⟩
 ·cases h
theorem CR(K:ia H e fz lens E E0):∀{k:List eH} {as:List AV} {g:List G},fk H e fz k as=some (true,g)→∀(rest:List G),
  g.length=nS k∧as.length=k.length∧(iJ lens k (g++rest)).length=k.length ∧
   (∀ cs,af E as cs→af E0 (iJ lens k (g++rest)) cs)∧∀ b o,E0.w.heap[b]? = E.w.heap[b]? → ch E as b o→ch E0 (iJ lens k (g++rest)) b o
 | [],[],g,h,rest=>by
  simp only[fk,aV,ba]at h;obtain⟨_,rfl⟩:=h;refine⟨rfl,rfl,rfl,fun cs d=>?_,fun b o _ d=>by simp[iJ,ch]⟩;cases cs with
  |nil=>simp[iJ,af]
  |cons _ _=>simp[af]at d
 | sh::k,a::as,g,h,rest=>by
  simp only[fk]at h;split at h
  ·rename_i b g1 U g2 h1 y
   simp only[aV,ba,ax]at h;obtain⟨⟨rfl,rfl⟩,rfl⟩:=h;obtain⟨p1,u⟩:=J' K h1 (g2++rest);obtain⟨B,I,J,M,N⟩:=CR K y rest;have q:en sh.sz (g1++(g2++rest))=g2++rest:=by rw[←p1]; exact nT g1 _
   refine⟨by simp only[nS,fb,p1,B],by simp only[cw,I],?_,?_,?_⟩
   ·simp only[iJ,gG,q,cw,J]
   ·intro cs d
    cases cs with
    |nil=>simp[af]at d
    | cons c cs =>
     simp only[af]at d;simp only[iJ,gG,q,af];exact⟨u c d.1,M cs d.2⟩
   ·intro b o hb d
    simp only[ch]at d;simp only[iJ,gG,q,ch];obtain⟨⟨v,r1,r2,r3⟩,O⟩:=d;exact⟨⟨v,by rw[World.qs hb]; exact r1,r2,u v r3⟩,N b (o+1) hb O⟩
  ·cases h
 | [],_::_,_,h,_=>by simp[fk]at h
 |_::_,[],_,h,_=>by simp[fk]at h
theorem Ka(K:ia H e fz lens E E0){sh:Sh}{a:AV}{g:List G}(h:j_ H e fz sh a=some (true,g))(rest:List G) :
  g.length=sh.sz∧∀ c,rel E a c→rel E0 (pB lens sh (g++rest)) c:=by
 cases sh with
 |s a0=>exact J' K h rest
 | clo f caps =>
  cases a<;>simp only[j_]at h<;>try cases h
  rename_i g1 vs;split at h
  ·rename_i k
   subst k;obtain⟨q,v,y,u,B⟩:=CR K h rest;refine⟨q,fun c d=>?_⟩;simp only[rel]at d;simp only[pB,rel];obtain⟨cs,r1,r2⟩:=d;exact⟨cs,r1,u _ r2⟩
  ·cases h
theorem uK(K:ia H e fz lens E E0):∀{d:List Sh} {as:List AV} {g:List G},eo H e fz d as=some (true,g)→∀(rest:List G),
  g.length=CO d∧as.length=d.length∧(fj lens d (g++rest)).length=d.length∧(∀ cs,af E as cs→af E0 (fj lens d (g++rest)) cs)
 | [],[],g,h,rest=>by
  simp only[eo,aV,ba]at h;obtain⟨_,rfl⟩:=h;refine⟨rfl,rfl,rfl,fun cs k=>?_⟩;cases cs with
  |nil=>simp[fj,af]
  |cons _ _=>simp[af]at k
 | sh::d,a::as,g,h,rest=>by
  simp only[eo]at h;split at h
  ·rename_i b g1 M g2 h1 u
   simp only[aV,ba,ax]at h;obtain⟨⟨rfl,rfl⟩,rfl⟩:=h;obtain⟨p1,v⟩:=Ka K h1 (g2++rest);obtain⟨y,B,I,J⟩:=uK K u rest;have q:en sh.sz (g1++(g2++rest))=g2++rest:=by rw[←p1]; exact nT g1 _
   refine⟨by simp only[CO,fb,p1,y],by simp only[cw,B],by simp only[fj,gG,q,cw,I],?_⟩;intro cs k;cases cs with
   |nil=>simp[af]at k
   | cons c cs =>
    simp only[af]at k;simp only[fj,gG,q,af];exact⟨v c k.1,J cs k.2⟩
  ·cases h
 | [],_::_,_,h,_=>by simp[eo]at h
 |_::_,[],_,h,_=>by simp[eo]at h
theorem Kb(K:ia H e fz lens E E0):∀{u:List Sh} {as:List AV} {g:List G},eo H e fz u as=some (true,g)→∀{rest:List G} {k:Nat} {x v:AV} {c:Value},
  as[k]? = some x→(fj lens u (g++rest))[k]? = some v→rel E x c→rel E0 v c
 | [],[],_,_,_,_,_,_,_,d,_,_=>by simp at d
 | sh::u,a::as,g,h,rest,k,x,v,c,d,q,y=>by
  simp only[eo]at h;split at h
  ·rename_i b g1 M g2 h1 B
   simp only[aV,ba,ax]at h;obtain⟨⟨rfl,rfl⟩,rfl⟩:=h;obtain⟨p1,I⟩:=Ka K h1 (g2++rest);have J:en sh.sz (g1++(g2++rest))=g2++rest:=by rw[←p1]; exact nT g1 _
   simp only[fj,gG,J]at q;cases k with
   | zero =>
    simp at d q;subst d;subst q;exact I c y
   |succ k=>exact Kb K B (by simpa using d) (by simpa using q) y
  ·cases h
 | [],_::_,_,h,_,_,_,_,_,_,_,_=>by simp[eo]at h
 |_::_,[],_,h,_,_,_,_,_,_,_,_=>by simp[eo]at h
theorem Kc(K:ia H e fz lens E E0){sh:cd}{o:ah}{g:List G}(h:gy H e fz sh o=some (true,g))(rest:List G)
  {j:Nat} (W:j<e.ids.length) (hlab:∀ l,sh.i_=some l→E0.X.r l=E.X.r l) (ho:aM E (e.at j) o.den):aM E0 j (eP lens sh (g++rest)).den:=by
 have I:∀ b:Nat,E0.w.heap[b]? = E.w.heap[b]? := fun b=>by rw[K.cQ.w]
 have J:=K.cQ.loc j W;unfold gy at h;split at h
 ·split at h
  ·rename_i y
   cases h;have y:=Kd.iH y;subst y;simp only[eP,ah.den,aM]at ho⊢;rcases ho with⟨h1,d⟩|⟨b,m,h1,d,u,M,h5⟩
   ·exact .inl ⟨by rw[J,h1],d⟩
   ·exact .inr ⟨b,m,by rw[J,h1],qu (I b) d,u,M,kF K.cQ.bF _ M (I b) h5⟩
  ·cases h
 ·rename_i shs cells
  obtain⟨q1,q2,q3,q5,q6⟩:=CR K h rest;simp only[eP,ah.den,aM]at ho⊢;obtain⟨b,n,h1,d,u⟩:=ho;exact⟨b,n,by rw[J,h1],by rw[q3,←q2]; exact qu (I b) d,q6 b 0 (I b) u⟩
 ·split at h
  ·rename_i y
   cases h;simp only[ax]at y;have h1:=Ct.jB y.1;have d:=Ct.jB y.2;subst h1;subst d;simp only[eP,ah.den,aM]at ho⊢;obtain⟨b,n,ms,h1,d,u⟩:=ho;refine⟨b,n,ms,by rw[J,h1],?_,iI K.cQ.bF u⟩;rw[I b];simpa[G.int]using d
  ·cases h
 ·rename_i l T B l' T' B' s
  split at h
  ·rename_i y
   cases h;simp only[ax]at y;obtain⟨h1,d,u⟩:=y;have h1:=br h1;have d:=br d;have u:=br u;subst h1 d u;simp only[eP,ah.den,aM]at ho⊢;obtain⟨b,n,p,v,k,q,g1,g2,g3,g4,g5,g6⟩:=ho;have N:=hlab l rfl;exact⟨b,n,p,v,k,q,by rw[J,g1],by rw[I b,g2],g3,by rw[N,g4],by rw[N]; exact g5,A5 (fun g m _=>I g) (by simpa[G.str]using g6)⟩
  ·cases h
 ·rename_i l K0 ks l' K' ks' rows clock
  split at h
  ·rename_i y
   cases h;simp only[ax]at y;obtain⟨h1,d,u⟩:=y;have h1:=br h1;have d:=Ct.jB d;have u:=Kd.iH u;subst h1 d u;simp only[eP,ah.den,aM]at ho⊢;obtain⟨b,n,ms,g1,g2,g3,g4⟩:=ho;have N:=hlab l rfl;refine⟨b,n,ms,by rw[J,g1],?_,iI K.cQ.bF g3,tx (E:=E) (fun h g m hk=>⟨by rw[N]; exact hk,I g⟩) (fun _ _ _ _ _ O U hc V=>kF K.cQ.bF _ hc U V) g4⟩;rw[I b];simpa[G.int]using g2
  ·cases h
 ·rename_i l K0 KI VI l' K' KI' VI' rows mem clock
  split at h
  ·rename_i y
   cases h;simp only[ax]at y;obtain⟨h1,d,u,M⟩:=y;have h1:=br h1;have d:=Ct.jB d;have u:=Ct.jB u;have M:=Ct.jB M;subst h1 d u M;simp only[eP,ah.den,aM]at ho⊢;obtain⟨b,n,ms,g1,g2,g3,g4⟩:=ho;have N:=hlab l rfl;refine⟨b,n,ms,by rw[J,g1],?_,iI K.cQ.bF g3,A8 N (fun _ O _ _=>I O) (fun _ _ _=>iI K.cQ.bF) g4⟩;rw[I b];simpa[G.int]using g2
  ·cases h
 ·cases h
end cQ
def cd.up:cd→Nat
 |.vec _ u=>u
 |_=>0
theorem CS{H:List ah}{e:bL}{fz:Nat→Bool}{lens:cY}{sh:cd}{o:ah}{b:Bool}{g d:List G}(h:gy H e fz sh o=some (b,g)) :
  o.den.aD = some (rz o)∧(eP lens sh d).den.aD = some sh.up∧((∀ ks v rows,o≠.vec ks v rows)→sh.up=0):=by
 unfold gy at h;split at h
 ·exact⟨rfl,rfl,fun k=>(k _ _ _ rfl).elim⟩
 ·exact⟨rfl,rfl,fun _=>rfl⟩
 ·exact⟨rfl,rfl,fun _=>rfl⟩
 ·exact⟨rfl,rfl,fun _=>rfl⟩
 ·exact⟨rfl,rfl,fun _=>rfl⟩
 ·exact⟨rfl,rfl,fun _=>rfl⟩
 ·cases h
theorem Ut{H:List ah}{e:bL}{fz:Nat→Bool}{sh:eH}{a:AV}{b:Bool}{g:List G}(h:fq H e fz sh a=some (b,g)):g.length=sh.sz:=by
 unfold fq at h;split at h<;>(try split at h)<;>(try split at h)<;>(try split at h)<;>(try split at h)<;>first
  |(cases h; rfl)
  |cases h
theorem Ke{H:List ah}{e:bL}{fz:Nat→Bool}:∀{d:List eH} {as:List AV} {b:Bool} {g:List G},fk H e fz d as=some (b,g)→g.length=nS d
 | [],[],_,g,h=>by simp[fk]at h; simp[←h.2,nS]
 | sh::d,a::as,b,g,h=>by
  simp only[fk]at h;split at h
  ·rename_i b g1 q g2 h1 k
   simp only[aV,ba]at h;obtain⟨_,rfl⟩:=h;simp only[nS,fb,Ut h1,Ke k]
  ·cases h
 | [],_::_,_,_,h|_::_,[],_,_,h=>by simp[fk]at h
theorem Uu{H:List ah}{e:bL}{fz:Nat→Bool}{sh:cd}{o:ah}{b:Bool}{g:List G}(h:gy H e fz sh o=some (b,g)):g.length=sh.sz:=by
 unfold gy at h;split at h
 ·split at h
  ·cases h; rfl
  ·cases h
 ·exact Ke h
 ·split at h
  ·cases h; rfl
  ·cases h
 ·split at h
  ·cases h; rfl
  ·cases h
 ·split at h
  ·cases h; rfl
  ·cases h
 ·split at h
  ·cases h; rfl
  ·cases h
 ·cases h
theorem uL{H:List ah}{e:bL}{fz:Nat→Bool}:∀{os:List cd} {ids:List Nat} {g:List G},ja H e fz os ids=some (true,g)→∀(rest:List G) (lens:cY),
  g.length=lx os∧ids.length=os.length∧(cK lens os (g++rest)).length=os.length ∧
  (∀ (j : Nat) (sh : cd), os[j]? = some sh → ∃ i o g1 q, ids[j]? = some i ∧ H[i]? = some o ∧ gy H e fz sh o = some (true, g1) ∧ (cK lens os (g ++ rest))[j]? = some (eP lens sh (g1 ++ q)) ∧
   (cD os (g++rest)).ae j=sh.up∧∀ ks v rows,o=.vec ks v rows→(cD os (g++rest)).len j=rows.length)
 | [],[],g,h,rest,lens=>by
  simp only[ja,aV,ba]at h;obtain⟨_,rfl⟩:=h;exact⟨rfl,rfl,rfl,fun j sh d=>by simp at d⟩
 | sh::os,i::ids,g,h,rest,lens=>by
  simp only[ja]at h;split at h
  case h_2=>cases h
  rename_i o ho;split at h
  ·rename_i b g1 b' g2 h1 I
   simp only[aV,ba,ax]at h;obtain⟨⟨rfl,rfl⟩,rfl⟩:=h;obtain⟨J,M,N,O⟩:=uL I rest lens;have u:=Uu h1;have k:en sh.sz (g1++(g2++rest))=g2++rest:=by rw[←u]; exact nT g1 _
   refine⟨by simp only[lx,fb,u,J],by simp only[cw,M],by simp only[cK,gG,k,cw,N],fun j y d=>?_⟩;cases j with
   | zero =>
    simp at d;subst d;refine⟨i,o,g1,g2++rest,rfl,ho,h1,by simp only[cK,gG,List.getElem?_cons_zero],?_,?_⟩
    ·unfold cD cY.ae
     cases sh<;>rfl
    ·rintro ks v rows rfl
     unfold gy at h1;split at h1
     ·rename_i heq
      cases heq;split at h1
      ·cases h1
       simp[cD,cY.len,G.rows]
      ·cases h1
     ·rename_i heq; cases heq
     ·rename_i heq; cases heq
     ·rename_i heq; cases heq
     ·rename_i heq; cases heq
     ·rename_i heq; cases heq
     ·cases h1
   | succ j =>
    obtain⟨U,o',B,q,r1,r2,r3,V,W,r6⟩:=O j y (by simpa using d);refine⟨U,o',B,q,by simpa using r1,r2,r3,by simpa only[cK,gG,k,QZ]using V,?_,?_⟩
    ·simpa only[cD,cY.ae,gG,k,aeW]using W
    ·simpa only[cD,cY.len,gG,k,aeW]using r6
  ·cases h
 | [],_::_,_,h,_,_=>by simp[ja]at h
 |_::_,[],_,h,_,_=>by simp[ja]at h
end Go.AL

namespace Go.AL
open Go
variable [Dr]
abbrev rB(a b:Bool):Bool:=Bool.casesOn a false b
theorem rC{a b:Bool}:rB a b=true↔a=true∧b=true:=by cases a<;>simp
open Classical in
noncomputable def mD(E:Env)(H0:List ab)(l:Nat):List (Option (Option (Nat × Nat))):=if ∃(j:Nat) (o:ab),H0[j]? = some o∧o.label=some l then E.X.r l else (E.X.r l).map fun _=>none
theorem Uv{E:Env}{H0:List ab}{l j:Nat}{o:ab}(h:H0[j]? = some o)(d:o.label=some l):mD E H0 l=E.X.r l:=if_pos ⟨j,o,h,d⟩
theorem yn{E:Env}{H0:List ab}{l h:Nat}{q:Option (Nat × Nat)}(d:(mD E H0 l)[h]? = some (some q)):(E.X.r l)[h]? = some (some q)∧∃(j:Nat) (o:ab),H0[j]? = some o∧o.label=some l:=by
 unfold mD at d;split at d
 ·rename_i k
  exact⟨d,k⟩
 ·rw [bZ] at d
  cases g:(E.X.r l)[h]? with
  |none=>rw[g]at d; cases d
  |some y=>rw[g]at d; cases d
theorem Uw(E:Env)(H0:List ab)(l:Nat):(mD E H0 l).length=(E.X.r l).length:=by
 unfold mD;split
 ·rfl
 ·simp
noncomputable def ib(E:Env)(H0:List ab)(ids:List Nat):Env:=⟨E.w,H0,ids.map fun i=>E.loc.getD i none,E.X.re (mD E H0)⟩
theorem Kf(E:Env)(H0:List ab)(ids:List Nat):∀ l h,h<(E.X.r l).length→h<((ib E H0 ids).X.r l).length∧∀ q,((ib E H0 ids).X.r l)[h]? = some (some q)→(E.X.r l)[h]? = some (some q) :=
 fun l h d=>⟨by show h<(mD E H0 l).length; rw[Uw]; exact d,fun q g=>(yn (E:=E) (H0:=H0) g).1⟩
theorem Kg{E:Env}{H0:List ab}{ids:List Nat}{b:Nat}(h:(ib E H0 ids).own b):E.own b:=by
 rcases h with⟨j,c,g⟩|⟨l,k,c,g⟩
 ·simp only [ib, bZ] at g
  obtain⟨i,_,d⟩:=dQ.1 g;rw[cf]at d;cases he:E.loc[i]? with
  |none=>rw[he]at d; cases d
  |some y=>rw[he]at d; simp at d; exact .inl ⟨i,c,by rw[he,d]⟩
 ·exact .inr ⟨l,k,c,(yn g).1⟩
def ic(ids:List Nat)(i:Nat):Bool := !ids.any (ad i)
theorem Kh{ids:List Nat}{i:Nat}(h:ic ids i=true):i∉ids:=by
 intro hm;have:ids.any (ad i)=true:=iQ.2 ⟨i,hm,by simp⟩;simp[ic,this]at h
theorem Ki{E:Env}{H:List ah}(hH:E.H=ak H)(HE:aq E){ids:List Nat}(hn:ids.Nodup){os:List cd}{g:List G}(h:ja H (bJ H ids) (ic ids) os ids=some (true,g))(rest:List G) :
  ia H (bJ H ids) (ic ids) (cD os (g++rest)) E (ib E (ak (cK (cD os (g++rest)) os (g++rest))) ids) ∧
   aq (ib E (ak (cK (cD os (g++rest)) os (g++rest))) ids):=by
 obtain⟨p0,p1,p2,p3⟩:=uL h rest (cD os (g++rest));generalize J:ib E (ak (cK (cD os (g++rest)) os (g++rest))) ids=E0;have hElen:E.loc.length=H.length:=by rw[HE.len,hH,ev]
 have eids:(bJ H ids).ids=ids:=rfl;have W:∀ j x,E0.loc[j]? = some x→j<ids.length∧∃ i,ids[j]? = some i∧E.loc.getD i none=x:=by
  intro j x I;rw[←J]at I;simp only[ib,bZ]at I;obtain⟨i,h1,B⟩:=dQ.1 I;exact⟨aL h1,i,h1,B⟩
 have getD_some:∀{i:Nat} {x:Nat × Nat},E.loc.getD i none=some x→E.loc[i]? = some (some x):=by
  intro i x I;rw[cf]at I;cases he:E.loc[i]? with
  |none=>rw[he]at I; cases I
  |some y=>rw[he]at I; simp at I; rw[I]
 have hown:∀ b,E0.own b→E.own b:=by
  rintro b (⟨j,c,u⟩|⟨l,k,c,u⟩)
  ·obtain ⟨_, i, _, B⟩ := W j _ u
   exact .inl ⟨i,c,getD_some B⟩
  ·rw [← J] at u
   exact .inr ⟨l,k,c,(yn u).1⟩
 have hw:E0.w=E.w:=by rw[←J]; rfl
 have hX:E0.X.x=E.X.x:=by rw[←J]; rfl
 have V:∀(l k:Nat) q,(E0.X.r l)[k]? = some (some q)→(E.X.r l)[k]? = some (some q)∧∃(j:Nat) (o:ab),E0.H[j]? = some o∧o.label=some l:=fun l k q hq=>by
  rw[←J]at hq⊢;exact yn hq
 have hatl:∀ j,j<ids.length→ids[j]? = some ((bJ H ids).at j):=fun j u=>gx (e:=bJ H ids) u;have hobjs:∀ j,j<ids.length→∃ sh o g1 M,os[j]? = some sh∧H[(bJ H ids).at j]? = some o∧gy H (bJ H ids) (ic ids) sh o=some (true,g1) ∧
   (cK (cD os (g++rest)) os (g++rest))[j]? = some (eP (cD os (g++rest)) sh (g1++M)) ∧
   (cD os (g++rest)).ae j=sh.up∧∀ ks v rows,o=.vec ks v rows→(cD os (g++rest)).len j=rows.length:=by
  intro j u;have hj':j<os.length:=by omega
  obtain⟨i,o,g1,M,q1,N,U,O,q5,q6⟩:=p3 j os[j] (bI hj');rw[hatl j u]at q1;cases q1;exact⟨os[j],o,g1,M,bI hj',N,U,O,q5,q6⟩
 have hK:ia H (bJ H ids) (ic ids) (cD os (g++rest)) E E0:=by
  refine⟨hH,HE,fun i hi b n hb=>?_,⟨fun b hb=>⟨⟨by rw[hw]; exact hb.1,fun ho=>hb.2.1 (hown b ho),by rw[hX]; exact hb.2.2⟩,by rw[hw]⟩,hw,fun j u=>?_,fun j o l h1 B=>by rw[←J]at h1⊢; exact Uv h1 B⟩,fun j o ho=>?_⟩
  ·refine ⟨by rw [hw]; exact (HE.lt _ _ _ hb).1, ?_, by rw [hX]; exact (HE.lt _ _ _ hb).2⟩
   rintro(⟨j,c,u⟩|⟨l,k,c,u⟩)
   case inr=>exact HE.cN _ _ _ _ _ _ hb (V l k _ u).1
   obtain⟨_,i',h1,B⟩:=W j _ u;have:=HE.inj _ _ _ _ _ hb (getD_some B);subst this;exact Kh hi (eT h1)
  ·rw [← J]
   simp only[ib,bZ,hatl j u,eJ];have hlt:(bJ H ids).at j<E.loc.length:=by
    obtain⟨sh,o,g1,M,_,N,_⟩:=hobjs j u;rw[hElen];exact aL N
   rw[cf,bI hlt];rfl
  ·have u:j<ids.length:=by
    rcases jq j ids.length with hlt|hge
    ·exact hlt
    ·have h1 := aL ho
     have B:=ru (e:=bJ H ids) hge;have h3:(bJ H ids).base=H.length:=rfl;omega
   refine⟨u,?_⟩;obtain⟨sh,o',g1,M,q1,N,U,O,q5,q6⟩:=hobjs j u;rw[ho]at N;cases N;obtain⟨r1,r2,r3⟩:=CS (lens:=cD os (g++rest)) (d:=g1++M) U;have hq4:E0.H[j]? = some (eP (cD os (g++rest)) sh (g1++M)).den:=by
    rw[←J];exact bh O
   exact⟨r1,⟨_,hq4,by rw[q5]; exact r2⟩,fun o0 h0=>by rw[hq4]at h0; cases h0; rw[CP,CQ U],q6,fun hv=>by rw[q5]; exact r3 hv⟩
 have hlabs:∀(j:Nat) o,E0.H[j]? = some o→j<ids.length∧∃ o',E.H[(bJ H ids).at j]? = some o'∧o'.label=o.label:=fun j o ho=>by
  rw[←J]at ho;simp only[ib,ak,bZ]at ho;obtain⟨o',h1,rfl⟩:=dQ.1 ho;have u:j<ids.length:=by
   have:=aL h1;omega
  obtain⟨sh,oo,g1,M,q1,N,U,O,_⟩:=hobjs j u;rw[h1]at O;cases O;exact⟨u,oo.den,by rw[hH]; exact bh N,by rw[J9 U,ry]⟩
 refine⟨hK,?_,?_,?_,fun b I=>?_,fun j o ho=>?_,HE.eW.bF hK.cQ.bF,fun l k l' k' b m n h1 B=>HE.eE l k l' k' b m n (V _ _ _ h1).1 (V _ _ _ B).1,fun i b m l k n hi B=>?_,fun l k b m h1=>by rw[hw,hX]; exact HE.cr l k b m (V _ _ _ h1).1,fun i j o o' l hi u h1 B=>?_,fun l hn k q hq=>?_⟩
 ·rw [← J]
  simp only[ib,dJ,ev,p2,p1]
 ·intro i j b m n hi u
  obtain⟨i1,i2,i3,i4⟩:=W i _ hi;obtain⟨j1,j2,j3,j4⟩:=W j _ u;have:=HE.inj _ _ _ _ _ (getD_some i4) (getD_some j4);subst this;exact(AO i1 hn).1 (by rw[i3,j3])
 ·intro i b m hi
  obtain⟨_,i2,_,i4⟩:=W i _ hi;rw[hw,hX];exact HE.lt _ _ _ (getD_some i4)
 ·rw [hw]
  rw[hX]at I;exact HE.X b I
 ·rw [← J] at ho
  simp only[ib,ak,bZ]at ho;obtain⟨o',h1,rfl⟩:=dQ.1 ho;have u:j<ids.length:=by
   have:=aL h1;omega
  obtain⟨sh,oo,g1,M,q1,N,U,O,q5,q6⟩:=hobjs j u;rw[h1]at O;cases O;refine Kc hK U M (by exact u) (fun l hl=>?_) (HE.obj _ _ (by rw[hH]; exact bh N));refine hK.cQ.i_ j (eP (cD os (g++rest)) sh (g1++M)).den l ?_ (by rw[ry,hl]);rw[←J];exact bh h1
 ·obtain ⟨_, i', _, h3⟩ := W i _ hi
  exact HE.cN _ _ _ _ _ _ (getD_some h3) (V _ _ _ B).1
 ·obtain ⟨i1, oi, a1, a2⟩ := hlabs i o hi
  obtain⟨j1,oj,b1,b2⟩:=hlabs j o' u;have:=HE.uniq _ _ _ _ l a1 b1 (by rw[a2,h1]) (by rw[b2,B]);exact(AO i1 hn).1 (by rw[hatl i i1,hatl j j1,this])
 ·obtain ⟨_, j, o, h1, B⟩ := V l k q hq
  exact hn j o h1 B
def nodupB:List Nat→Bool
 | []=>true
 |i::is => !is.any (ad i)&&nodupB is
theorem rD:∀{l:List Nat},nodupB l=true→l.Nodup
 | [],_=>List.nodup_nil
 | i::is,h=>by
  simp only[nodupB,ax,l_]at h;refine l8.2 ⟨fun hm=>?_,rD h.2⟩;have:is.any (ad i)=true:=iQ.2 ⟨i,hm,by simp⟩;rw[h.1]at this;cases this
def mE(H:List ah):Nat→Nat→List Nat→List cd→Bool
 |_,0,_,_=>true
 |i,m+1,id::ids,o::os=>ad id i&&((ad (rA H i) 0 || !ad o.up 0)&&mE H (i+1) m ids os)
 |_,_,_,_=>false
theorem yo{H:List ah}:∀{i m:Nat} {ids:List Nat} {os:List cd},mE H i m ids os=true→∀ j,j<m→ids[j]? = some (i+j)∧∃ o,os[j]? = some o∧(rA H (i+j)=0∨o.up≠0)
 |_,0,_,_,_,j,g=>by omega
 | i,m+1,id::ids,o::os,h,j,g=>by
  simp only[mE,ax,Bool.or_eq_true,l_]at h;obtain⟨h1,d,k⟩:=h;have h1:=br h1;subst h1;cases j with
  | zero =>
   refine⟨rfl,o,rfl,?_⟩;rcases d with d|d
   ·exact .inl (br d)
   ·right
    intro e;rw[e]at d;cases d
  | succ j =>
   have:=yo k j (by omega);rw[show id+1+j=id+(j+1) from by omega]at this;simpa using this
 |_,_+1,[],_,h,_,_=>by simp[mE]at h
 |_,_+1,_::_,[],h,_,_=>by simp[mE]at h
theorem Kj{E:Env}{H:List ah}(hH:E.H=ak H){ids:List Nat}{os:List cd}{m:Nat}{lens:cY}{E0:Env}(y:ia H (bJ H ids) (ic ids) lens E E0)(hX:E0.X.x=E.X.x∧E0.X.z=E.X.z)
  (hrl:∀ l h,h<(E.X.r l).length→h<(E0.X.r l).length∧∀ q,(E0.X.r l)[h]? = some (some q)→(E.X.r l)[h]? = some (some q))
  (hok:mE H 0 m ids os=true) (V:∀ j,j<m→∃ o sh,H[(bJ H ids).at j]? = some o∧os[j]? = some sh∧lens.ae j=sh.up) (W:∀ b,E0.own b→E.own b):E.dj m E0:=by
 have key:∀ id,id<m→(bJ H ids).at id=id∧∃ o sh,H[id]? = some o∧os[id]? = some sh∧lens.ae id=sh.up∧(rz o=0∨sh.up≠0)∧ym E0 lens id o∧id<ids.length:=by
  intro id hid;obtain⟨h1,o',M,B⟩:=yo hok id hid;rw[cP]at h1 B;have J:=aL h1;have g:=gx (e:=bJ H ids) (j:=id) J;rw[show (bJ H ids).ids=ids from rfl,h1]at g;have g:=(gg g).symm;obtain⟨o,sh,d,k,I⟩:=V id hid;obtain⟨r1,r2⟩:=y.obj id o d;rw[g]at d;rw[M]at k;have k:=gg k;rw[←k]at I;refine⟨g,o,o',d,M,I,?_,r2,J⟩;rcases B with B|B
  ·left
   simpa[rA,d]using B
  ·exact .inr B
 refine⟨fun id hid hp=>?_,by rw[y.cQ.w]; exact aB _,fun b _ _=>by rw[y.cQ.w],fun b _ hb ho=>hb (W b ho),fun id hid hp hl=>?_,fun b _=>by rw[hX.1,hX.2]; exact⟨Iff.rfl,Iff.rfl⟩,hrl,by rw[y.cQ.w]; exact⟨rfl,rfl,rfl,by first|exact fun _=>aB _|exact fun _=>eS _ _⟩,fun id hid l o h1 M _=>?_⟩
 rotate_right
 ·obtain ⟨g, o1, sh, d, k, I, N, u, J⟩ := key id hid
  obtain⟨o0,r1,r2⟩:=u.obj;rw[hH,bh d]at h1;cases h1;have hm:=u.mm o0 r1;rw[M]at hm;exact⟨⟨[],by rw[cO]; exact y.cQ.i_ id o0 l r1 (ab.kD hm)⟩,o0,r1,hm⟩
 ·obtain ⟨_, o, sh, d, k, I, N, u, _⟩ := key id hid
  obtain⟨o0,r1,r2⟩:=u.obj;exact⟨o0,r1,ab.A1 r2,fun v _=>er v⟩
 ·obtain ⟨g, o, sh, d, k, I, N, u, J⟩ := key id hid
  obtain⟨o0,r1,r2⟩:=u.obj;obtain⟨o1,r3,O⟩:=hl;rw[r1]at r3;cases r3;rw[r2]at O;have U:lens.ae id=0:=gg O;rw[I]at U;have hv:rz o=0:=N.resolve_right (fun h=>h U);refine⟨⟨o.den,by rw[hH]; exact bh d,by rw[u.ae,hv]⟩,?_⟩;have:=y.cQ.loc id J;rw[g]at this;exact this
structure mF where
 n:Nat
 uM:List (Nat × Sh)
 cF:List cd
def rE:Nat→List (Nat × Sh)→List AV→AV
 | i,(j,_)::d,v::vs=>match ad i j with
  |true=>v
  |false=>rE i d vs
 |_,_,_=>.undef
def aO(S:mF)(d:List G):al :=
 ⟨(dv S.n).map fun i=>rE i S.uM (fj (cD S.cF d) (S.uM.map (·.2)) (en (lx S.cF) d)),cK (cD S.cF d) S.cF d⟩
def CT(m:Nat)(S:mF)(ids:List Nat)(s:al):Option (Bool × List G) :=
 match ad s.fr.length S.n&&(nodupB ids&&mE s.H 0 m ids S.cF)with
 |false=>none
 | true=>match ja s.H (bJ s.H ids) (ic ids) S.cF ids,eo s.H (bJ s.H ids) (ic ids) (S.uM.map (·.2)) (S.uM.map fun p=>s.fr.getD p.1 .undef) with
  |some (b,g),some (d,h)=>some (b&&d,g++h)
  |_,_=>none
theorem Kk{E:Env}:∀{d:List (Nat × Sh)} {vs:List AV} {cs:List Value} {i:Nat} {c:Value},(∀(k:Nat) (p:Nat × Sh) (v:AV),d[k]? = some p→vs[k]? = some v→∀ c,cs[p.1]? = some c→rel E v c)→cs[i]? = some c →
  rel E (rE i d vs) c
 | [],_,_,_,_,_,_=>by simp[rE,rel]
 |_::_,[],_,_,_,_,_=>by simp[rE,rel]
 | (j,sh)::d,v::vs,cs,i,c,h,g=>by
  simp only[rE];split
  ·rename_i e
   have e:=br e;subst e;exact h 0 (i,sh) v rfl rfl c g
  ·exact Kk (fun k p v hk q=>h (k+1) p v (by simpa using hk) (by simpa using q)) g
theorem Ux{m:Nat}{S:mF}{ids:List Nat}{s:al}{d:List G}(h:CT m S ids s=some (true,d)):bt m s.den (aO S d).den:=fun E a y=>by
 unfold CT at h;split at h
 ·cases h
 rename_i q;simp only[ax]at q;obtain⟨hlen,B,M⟩:=q;have hlen:=br hlen;have B:=rD B;split at h
 case h_2=>cases h
 rename_i b g b' u h1 U;simp only[aV,ba,ax]at h;obtain⟨⟨rfl,rfl⟩,rfl⟩:=h;have hH:E.H=ak s.H:=y.H;obtain⟨J,W⟩:=Ki hH y.heap B h1 u;obtain⟨p0,p1,p2,p3⟩:=uL h1 u (cD S.cF (g++u));have hd:en (lx S.cF) (g++u)=u:=by rw[←p0]; exact nT g u
 have V:=uK J U [];rw[cO]at V;obtain⟨q1,q2,q3,q4⟩:=V;refine⟨ids.map fun i=>E.loc.getD i none,E.X.re (mD E (aO S (g++u)).den.H),⟨rfl,?_,y.defers,W⟩,?_⟩
 ·have hfr : af E s.fr a.tmps.toList := y.fr
  obtain⟨f1,f2⟩:=me.1 hfr;refine me.2 ⟨?_,fun i x c hi q=>?_⟩
  ·simp only [al.den, aO, dJ, List.length_range]
   omega
  ·simp only [al.den, aO, hd, bZ] at hi
   obtain⟨i',I,rfl⟩:=dQ.1 hi;have hin:i<S.n:=by
    have:=aL I;simpa using this
   rw[List.getElem?_range hin]at I;cases I;refine Kk (cs:=a.tmps.toList) (fun k p v hk hv c q=>?_) q;have hk2:(S.uM.map fun p=>s.fr.getD p.1 .undef)[k]? = some (s.fr.getD p.1 .undef):=by simp[hk]
   have hx:rel E (s.fr.getD p.1 .undef) c:=by
    have N:=aL q;rw[←f1]at N;have e1:s.fr[p.1]? = some (s.fr.getD p.1 .undef):=by
     rw[cf,bI N];rfl
    exact f2 p.1 _ c e1 q
   exact Kb J U hk2 (by rw[cO]; exact hv) hx
 ·exact Kj hH J ⟨rfl,rfl⟩ (Kf E _ ids) M (fun j hj=>by
   obtain⟨r1,o',r2,_⟩:=yo M j hj;obtain⟨i,o,g1,rest1,t1,t2,t3,t4,t5,t6⟩:=p3 j o' r2;have O:=gx (e:=bJ s.H ids) (j:=j) (aL t1);rw[show (bJ s.H ids).ids=ids from rfl,t1]at O;cases O;exact⟨o,o',t2,r2,t5⟩) (fun b=>Kg)
/-! ### d array under a slice, cut to g slice -/
def CU(slot:Nat)(s:al):al :=
 match s.fr.getD slot .undef with
 | .vec w id ae off n=>match s.H[id]? with
  |some (.vec ks v rows)=>if ae=v∧off=0∧w=ks.length then ⟨s.fr.set slot (.vec w id (v+1) 0 n),s.H.set id (.vec ks (v+1) (rows.take n))⟩ else s
  |_=>s
 |_=>s
theorem yp{E:Env}{a:AV}:∀{fr:List AV} {cs:List Value} {i:Nat},af E fr cs→(∀ c,cs[i]? = some c→rel E a c)→af E (fr.set i a) cs
 | [],cs,i,h,_=>by simpa using h
 |x::fr,[],i,h,_=>by simp[af]at h
 | x::fr,c::cs,0,h,ha=>by
  simp only[af]at h;simp only[List.set_cons_zero,af];exact⟨ha c rfl,h.2⟩
 | x::fr,c::cs,i+1,h,ha=>by
  simp only[af]at h;simp only[List.set_cons_succ,af];exact⟨h.1,yp h.2 fun y d=>ha y (by simpa using d)⟩
theorem CV{E:Env}{fr:List AV}{cs:List Value}{i:Nat}{c:Value}(h:af E fr cs)(g:cs[i]? = some c):rel E (fr.getD i .undef) c:=by
 obtain⟨h1,k⟩:=me.1 h;have d:=aL g;rw[←h1]at d;have q:fr[i]? = some (fr.getD i .undef):=by
  rw[cf,bI d];rfl
 exact k i _ c q g
theorem Uy{m:Nat}{slot:Nat}{s:al}:bt m s.den (CU slot s).den:=by
 unfold CU;split
 case h_2=>exact bt.refl _
 rename_i w id ae off n hsl;split
 case h_2=>exact bt.refl _
 rename_i ks v rows hid;split
 case isFalse=>exact bt.refl _
 rename_i B;obtain⟨rfl,rfl,rfl⟩:=B;intro E a d;have hH:E.H=ak s.H:=d.H;have y:E.H[id]? = some (.vec ks.length ae (rows.map (aK ks))):=by rw[hH]; exact bh hid
 have ho:=d.heap.obj id _ y;obtain⟨l,I⟩:∃ l,E.loc[id]? = some l:=by
  have:id<E.loc.length:=by rw[d.heap.len]; exact aL y
  exact⟨_,bI this⟩
 have N:E.loc.set id l=E.loc:=ln I;have M:ak (s.H.set id (.vec ks (ae+1) (rows.take n)))=E.H.set id (.vec ks.length (ae+1) ((rows.take n).map (aK ks))):=by rw[c7,hH]; rfl
 have hlc:∀ b n,l=some (b,n)→E.w.heap.size≤b∨∃ m,E.loc[id]? = some (some (b,m)):=fun b n hb=>.inr ⟨n,by rw[I,hb]⟩;have O:∀ v u,(ab.vec ks.length (ae+1) ((rows.take n).map (aK ks))).aD = some v→(ab.vec ks.length ae (rows.map (aK ks))).aD = some u→u≤v:=by
  intro v u h1 k;simp[ab.aD]at h1 k;omega
 have U:∀ v,(ab.vec ks.length (ae+1) ((rows.take n).map (aK ks))).aD = some v→∀ u,(ab.vec ks.length ae (rows.map (aK ks))).aD = some u→u<v:=by
  intro v h1 u k;simp[ab.aD]at h1 k;omega
 have hle:=Env.jv (o':=.vec ks.length (ae+1) ((rows.take n).map (aK ks))) (l:=l) (w':=E.w) y d.heap.len (aB _) (fun _ _ _=>rfl) hlc (.inr U) O (fun _ h=>by simp[ab.aD]at h);have V:=aq.kH (o':=.vec ks.length (ae+1) ((rows.take n).map (aK ks))) (l:=l) (w':=E.w) d.heap y (aB _) (fun _ _ _=>rfl) (fun b n hb=>.inr ⟨n,by rw[I,hb]⟩) (.inr U) O (fun _ h=>by simp[ab.aD]at h) (by
  rw[N]at hle⊢;simp only[aM]at ho⊢;rcases ho with⟨h1,k⟩|⟨b,mm,h1,k,J,h4,W⟩
  ·left
   refine⟨h1,?_⟩;have:rows=[]:=by simpa using k
   rw[this];simp
  ·right
   refine⟨b,mm,h1,k,by simp at J⊢; omega,?_,?_⟩
   ·intro r q
    obtain⟨g,_,rfl⟩:=dD.1 q;exact fE ks g
   ·rw [lf] at W ⊢
    intro i r hi;simp only[bZ,lX]at hi;split at hi
    ·obtain ⟨g1, g2⟩ := W i r (by simpa using hi)
     exact⟨g1,tz (fun a c q=>bP hle a q) rfl g2⟩
    ·simp at hi)
 rw[N]at hle V;refine⟨E.loc,E.X,?_,?_⟩
 ·simp only [al.den]
  rw[M];refine⟨rfl,?_,d.defers,V⟩;refine yp (dw hle _ d.fr) fun c B=>?_;have q:=CV d.fr B;rw[show s.den.fr=s.fr from rfl,hsl]at q;simp only[rel]at q⊢;obtain⟨h1,k,J⟩:=q;exact⟨h1,⟨.vec ks.length (ae+1) ((rows.take n).map (aK ks)),bB (aL y),rfl,fun v hv=>by simp[ab.aD]at hv; omega⟩,fun _=>J ⟨_,y,rfl⟩⟩
 ·simp only [al.den]
  rw[M];exact hle.toM
end Go.AL

namespace Go.AL
open Go
variable [Dr]
def Tree.leaf{β:Type}(f:bR→al→Option (Bool × β)):Tree→Option β
 |.fail=>none
 | .done x s=>match f x s with
  |some (b,r)=>bif b then some r else none
  |none=>none
 |.ask b t e=>bif b then t.leaf f else e.leaf f
 |.side b t=>bif b then t.leaf f else none
theorem nU{β:Type}{f:bR→al→Option (Bool × β)}:∀{t:Tree} {r:β},t.leaf f=some r→t.holds fun x s=>f x s=some (true,r)
 |.fail,_,h=>by cases h
 | .done x s,r,h=>by
  simp only[Tree.leaf]at h;split at h
  ·rename_i b r' d
   cases b with
   |true=>cases h; exact d
   |false=>cases h
  ·cases h
 | .ask b t e,r,h=>by
  cases b with
  |true=>exact⟨fun _=>nU (t:=t) h,fun h=>by cases h⟩
  |false=>exact⟨fun h=>(nomatch h),fun _=>nU (t:=e) h⟩
 | .side b t,r,h=>by
  cases b with
  |true=>exact And.intro rfl (nU (t:=t) h)
  |false=>cases h
inductive jH where
 |fix (i:Nat)
 |slot (i:Nat)
 |cap (i c:Nat)
 |cell (j c:Nat)
 |CW (j c k:Nat)
def yq:AV→Option Nat
 |.ptr id _ _ _ _=>some id
 |.vec _ id _ _ _=>some id
 |.map id=>some id
 |_=>none
def yr(H:List ah)(vals:Nat→AV)(acc:List Nat):jH→Option Nat
 |.fix i=>some i
 |.slot i=>yq (vals i)
 | .cap i c=>match vals i with
  |.clo _ cs=>yq (cs.getD c .undef)
  |_=>none
 | .cell j c=>match H[acc.getD j 0]? with
  |some (.raw (.box cells))=>yq (cells.getD c .undef)
  |_=>none
 | .CW j c k=>match H[acc.getD j 0]? with
  | some (.raw (.box cells))=>match cells.getD c .undef with
   |.clo _ cs=>yq (cs.getD k .undef)
   |_=>none
  |_=>none
def jb(H:List ah)(vals:Nat→AV):List jH→List Nat→Option (List Nat)
 | [],acc=>some acc
 | p::ps,acc=>match yr H vals acc p with
  |some i=>jb H vals ps (acc++[i])
  |none=>none
/-! ### d -/
structure rF where
 x:bR
 S:mF
 ps:List jH
structure bx where
 key:Nat
 opens:List (Nat × List Kd)
 inv:mF
 ps:List jH
 outs:List rF
 st:List G→Option (Option Nat × List G)
def pC(st:List G→Option (Option Nat × List G)):Nat→List G→Option (Nat × List G)
 |0,_=>none
 | n+1,d=>match st d with
  |some (none,d')=>pC st n d'
  |some (some x,d')=>some (x,d')
  |none=>none
def bT(st:List G→Option (Option Nat × List G))(d:List G):Option (Nat × List G):=pC st 1000000 d
def CX(r:Option (Nat × List G)):Nat:=match r with
 |some (x,_)=>x
 |none=>0
def CY(r:Option (Nat × List G)):List G:=match r with
 |some (_,d)=>d
 |none=>[]
def ig(m:Nat)(S:mF)(ps:List jH)(s:al):Option (Bool × List G) :=
 match jb s.H (fun i=>s.fr.getD i .undef) ps []with
 |some ids=>CT m S ids s
 |none=>none
theorem ly{m:Nat}{S:mF}{ps:List jH}{s:al}{d:List G}(h:ig m S ps s=some (true,d)):bt m s.den (aO S d).den:=by
 unfold ig at h;split at h
 ·exact Ux h
 ·cases h
def gz:List (Nat × List Kd)→al→al
 | [],s=>s
 | (i,ks)::r,s=>match c_ 1000000 i with
  |true=>gz r (CU (i-1000000) s)
  | false=>match isNil (s.fr.getD i .undef) with
   |true=>gz r (uF i ks s)
   |false=>gz r s
theorem lz{m:Nat}:∀(l:List (Nat × List Kd)) (s:al),bt m s.den (gz l s).den
 | [],s=>bt.refl _
 | (i,ks)::r,s=>by
  simp only[gz];split
  ·exact Uy.trans (lz r _)
  ·split
   ·rename_i h
    exact(JV h).trans (lz r _)
   ·exact lz r s
def pD(m:Nat):List rF→Nat→bR→al→Option (Bool × (Option Nat × List G))
 | [],_,_,_=>none
 | o::os,i,x,s=>match decide (x=o.x) with
  | true=>match ig m o.S o.ps s with
   |some (b,d)=>some (b,(some i,d))
   |none=>none
  |false=>pD m os (i+1) x s
def yt(m:Nat)(sp:bx)(x:bR)(s:al):Option (Bool × (Option Nat × List G)) :=
 match x with
 | .normal=>match ig m sp.inv sp.ps s with
  |some (b,d)=>some (b,(none,d))
  |none=>none
 |x=>pD m sp.outs 0 x (gz sp.opens s)
theorem yu{m:Nat}:∀{os:List rF} {i:Nat} {x:bR} {s:al} {b:Bool} {k:Option Nat} {d:List G},pD m os i x s=some (b,(k,d)) →
  ∃ j o,os[j]? = some o∧k=some (i+j)∧x=o.x∧ig m o.S o.ps s=some (b,d)
 | [],_,_,_,_,_,_,h=>by cases h
 | o::os,i,x,s,b,k,d,h=>by
  simp only[pD]at h;split at h
  ·rename_i g
   split at h
   ·rename_i B d' q
    cases h;exact⟨0,o,rfl,rfl,of_decide_eq_true g,q⟩
   ·cases h
  ·obtain ⟨j, o', h1, u, v, y⟩ := yu h
   exact⟨j+1,o',by simpa using h1,by rw[u]; congr 1; omega,v,y⟩
section loops
variable {P:Program} {τ:ar} {L:LT} {m:Nat} {c:Code} {sp:bx}
def cu(P:Program)(τ:ar)(L:LT)(m:Nat)(c:Code)(sp:bx):Prop:=∀ d,(dY P τ L c (aO sp.inv d) .done).leaf (yt m sp)=sp.st d
theorem Kl(hm:P.follows .mixedOrders=true)(q:au P τ)(u:ay P m L c)(v:cu P τ L m c sp){d d':List G}{k:Option Nat}(h:sp.st d=some (k,d')) :
  (k = none ∧ cU P m c (aO sp.inv d).den .normal (aO sp.inv d').den) ∨
   ∃ j o,k=some j∧sp.outs[j]? = some o∧o.x≠.normal∧cU P m c (aO sp.inv d).den o.x (aO o.S d').den:=by
 rw[←v d]at h;obtain⟨x,s1,h1,g⟩:=gN hm q c (aO sp.inv d) .done u (Q:=fun x s=>yt m sp x s=some (true,(k,d'))) (nU h);have g:yt m sp x s1=some (true,(k,d')):=g;unfold yt at g;split at g
 ·split at g
  ·rename_i b d2 y
   cases g;exact .inl ⟨rfl,qS h1 (ly y)⟩
  ·cases g
 ·rename_i B
  obtain⟨j,o,g1,g2,rfl,g4⟩:=yu g;exact .inr ⟨j,o,by simpa using g2,g1,fun e=>B e,qS h1 ((lz sp.opens s1).trans (ly g4))⟩
theorem Km(hm:P.follows .mixedOrders=true)(g:au P τ)(k:ay P m L c)(q:cu P τ L m c sp):∀(n:Nat) {d d':List G} {x:Nat},pC sp.st n d=some (x,d') →
  ∃ o,sp.outs[x]? = some o∧jY P m c (aO sp.inv d).den o.x (aO o.S d').den
 |0,_,_,_,h=>by cases h
 | n+1,d,d',x,h=>by
  simp only[pC]at h;split at h
  ·rename_i d1 h1
   rcases Kl hm g k q h1 with⟨_,u⟩|⟨_,_,hk,_⟩
   ·obtain ⟨o, g1, g2⟩ := Km hm g k q n h
    exact⟨o,g1,.next u g2⟩
   ·cases hk
  ·rename_i v d1 h1
   cases h;rcases Kl hm g k q h1 with⟨hk,_⟩|⟨j,o,hk,g1,g2,g3⟩
   ·cases hk
   ·cases hk
    exact⟨o,g1,.stop g3 g2⟩
  ·cases h
def uN(r:Option (Nat × List G)):List rF→Nat→Tree
 | [],_=>.fail
 | [o],_=>.done o.x (aO o.S (CY r))
 |o::os,i=>.ask (ad (CX r) i) (.done o.x (aO o.S (CY r))) (uN r os (i+1))
theorem yv{x:Nat}{d:List G}{Q:bR→al→Prop}:∀{os:List rF} {i j:Nat} {o:rF},os[j]? = some o→x=i+j→(uN (some (x,d)) os i).holds Q→Q o.x (aO o.S d)
 | [],_,_,_,h,_,_=>by simp at h
 | [o],i,j,o',h,k,g=>by
  cases j with
  | zero =>
   simp at h;subst h;exact g
  |succ j=>simp at h
 | o::o2::os,i,j,o',h,k,g=>by
  simp only[uN,Tree.holds]at g;cases j with
  | zero =>
   simp at h;subst h;exact g.1 (by simp only[CX]; rw[k]; simp)
  | succ j =>
   refine yv (os:=o2::os) (i:=i+1) (j:=j) (by simpa using h) (by omega) (g.2 ?_);have:x≠i:=by omega
   exact aeX.2 fun e=>this (br e)
def CZ(m:Nat)(sp:bx)(s:al):Option Tree :=
 match ig m sp.inv sp.ps (gz sp.opens s)with
 |some (b,d)=>some (.side (rB b (bT sp.st d).isSome) (uN (bT sp.st d) sp.outs 0))
 |none=>none
theorem Uz(hm:P.follows .mixedOrders=true)(u:au P τ)(v:ay P m L c)(y:cu P τ L m c sp){s:al}{t:Tree}(h:CZ m sp s=some t):Jy P m c s t:=by
 unfold CZ at h;split at h
 case h_2=>cases h
 rename_i b d B;cases h;intro Q k;simp only[Tree.holds,rC,ax]at k;obtain⟨⟨rfl,h1⟩,q⟩:=k;cases g:bT sp.st d with
 |none=>rw[g]at h1; cases h1
 | some r =>
  obtain⟨x,d'⟩:=r;obtain⟨o,g1,g2⟩:=Km hm u v y 1000000 g;exact⟨o.x,_,g2.pre ((lz sp.opens s).trans (ly B)),yv g1 (cP x).symm (by rw[g]at q; exact q)⟩
def LT.add(L:LT)(m:Nat)(sp:bx):LT:=⟨fun k s=>match ad k sp.key with
 |true=>CZ m sp s
 |false=>L.loops k s,L.pre,L.uC⟩
theorem nV:∀{c:Code} {k:Nat} {g:Code},(k,g)∈bK c→∀ p,p∈bK g→p∈bK c
 | .seq a b,k,g,h,p,d=>by
  simp only[bK,cS]at h⊢;rcases h with h|h
  ·exact .inl (nV h p d)
  ·exact .inr (nV h p d)
 | .cond _ a b,k,g,h,p,d=>by
  simp only[bK,cS]at h⊢;rcases h with h|h
  ·exact .inl (nV h p d)
  ·exact .inr (nV h p d)
 | .block _ c,k,g,h,p,d=>by
  simp only[bK]at h⊢;exact nV h p d
 | .loop c,k,g,h,p,d=>by
  simp only[bK]at h⊢;split at h
  ·rename_i i hi
   rcases bW.1 h with e|h
   ·cases e
    exact c9 _ d
   ·exact c9 _ (nV h p d)
  ·exact nV h p d
 |.skip,_,_,h,_,_=>by simp[bK]at h
 |.region ..,_,_,h,_,_=>by simp[bK]at h
 |.exit _,_,_,h,_,_=>by simp[bK]at h
 |.ret,_,_,h,_,_=>by simp[bK]at h
 |.rangeFunc ..,_,_,h,_,_=>by simp[bK]at h
 |.scope _,_,_,h,_,_=>by simp[bK]at h
 |.label _,_,_,h,_,_=>by simp[bK]at h
 |.goto _,_,_,h,_,_=>by simp[bK]at h
 |.refuse _,_,_,h,_,_=>by simp[bK]at h
theorem nW:∀{c:Code} {k:Nat} {g:Code},(k,g)∈bK c→∀ p,p∈bG g→p∈bG c
 | .seq a b,k,g,h,p,d=>by
  simp only[bK,bG,cS]at h⊢;rcases h with h|h
  ·exact .inl (nW h p d)
  ·exact .inr (.inr (nW h p d))
 | .cond _ a b,k,g,h,p,d=>by
  simp only[bK,bG,cS]at h⊢;rcases h with h|h
  ·exact .inl (nW h p d)
  ·exact .inr (nW h p d)
 | .block _ c,k,g,h,p,d=>by
  simp only[bK,bG]at h⊢;exact nW h p d
 | .loop c,k,g,h,p,d=>by
  simp only[bK,bG]at h⊢;split at h
  ·rename_i i hi
   rcases bW.1 h with e|h
   ·cases e
    exact d
   ·exact nW h p d
  ·exact nW h p d
 |.skip,_,_,h,_,_=>by simp[bK]at h
 |.region ..,_,_,h,_,_=>by simp[bK]at h
 |.exit _,_,_,h,_,_=>by simp[bK]at h
 |.ret,_,_,h,_,_=>by simp[bK]at h
 |.rangeFunc ..,_,_,h,_,_=>by simp[bK]at h
 |.scope _,_,_,h,_,_=>by simp[bK]at h
 |.label _,_,_,h,_,_=>by simp[bK]at h
 |.goto _,_,_,h,_,_=>by simp[bK]at h
 |.refuse _,_,_,h,_,_=>by simp[bK]at h
theorem nZ:∀{c:Code} {k:Nat} {g:Code},(k,g)∈bG c→∀ p,p∈bK g→p∈bK c
 | .seq a b,k,g,h,p,d=>by
  simp only[bK,bG,cS]at h⊢;rcases h with h|h|h
  ·exact .inl (nZ h p d)
  ·right
   split at h
   ·rcases bW.1 h with e | h
    ·cases e
     exact d
    ·cases h
   ·cases h
  ·exact .inr (nZ h p d)
 | .cond _ a b,k,g,h,p,d=>by
  simp only[bK,bG,cS]at h⊢;rcases h with h|h
  ·exact .inl (nZ h p d)
  ·exact .inr (nZ h p d)
 | .block _ c,k,g,h,p,d=>by
  simp only[bK,bG]at h⊢;exact nZ h p d
 | .loop c,k,g,h,p,d=>by
  simp only[bG]at h;have:=nZ h p d;simp only[bK];split
  ·exact c9 _ this
  ·exact this
 |.skip,_,_,h,_,_=>by simp[bG]at h
 |.region ..,_,_,h,_,_=>by simp[bG]at h
 |.exit _,_,_,h,_,_=>by simp[bG]at h
 |.ret,_,_,h,_,_=>by simp[bG]at h
 |.rangeFunc ..,_,_,h,_,_=>by simp[bG]at h
 |.scope _,_,_,h,_,_=>by simp[bG]at h
 |.label _,_,_,h,_,_=>by simp[bG]at h
 |.goto _,_,_,h,_,_=>by simp[bG]at h
 |.refuse _,_,_,h,_,_=>by simp[bG]at h
theorem n3:∀{c:Code} {k:Nat} {g:Code},(k,g)∈bG c→∀ p,p∈bG g→p∈bG c
 | .seq a b,k,g,h,p,d=>by
  simp only[bG,cS]at h⊢;rcases h with h|h|h
  ·exact .inl (n3 h p d)
  ·right
   right;split at h
   ·rcases bW.1 h with e | h
    ·cases e
     exact d
    ·cases h
   ·cases h
  ·exact .inr (.inr (n3 h p d))
 | .cond _ a b,k,g,h,p,d=>by
  simp only[bG,cS]at h⊢;rcases h with h|h
  ·exact .inl (n3 h p d)
  ·exact .inr (n3 h p d)
 | .block _ c,k,g,h,p,d=>by
  simp only[bG]at h⊢;exact n3 h p d
 | .loop c,k,g,h,p,d=>by
  simp only[bG]at h⊢;exact n3 h p d
 |.skip,_,_,h,_,_=>by simp[bG]at h
 |.region ..,_,_,h,_,_=>by simp[bG]at h
 |.exit _,_,_,h,_,_=>by simp[bG]at h
 |.ret,_,_,h,_,_=>by simp[bG]at h
 |.rangeFunc ..,_,_,h,_,_=>by simp[bG]at h
 |.scope _,_,_,h,_,_=>by simp[bG]at h
 |.label _,_,_,h,_,_=>by simp[bG]at h
 |.goto _,_,_,h,_,_=>by simp[bG]at h
 |.refuse _,_,_,h,_,_=>by simp[bG]at h
def aU(fn:Func):Code:=match fn.body with
 |some c=>c
 |none=>.skip
theorem UA{fn:Func} (g:nodupB ((bK (aU fn)).map (·.1))=true) {k:Nat} {d:Code} (h:(k,d)∈bK (aU fn)):d=cA fn k:=by
 have key:∀(l:List (Nat × Code)),(l.map (·.1)).Nodup→(k,d)∈l→l.find? (fun p=>ad p.1 k)=some (k,d):=by
  intro l
  induction l with
  |nil=>intro _ h; cases h
  | cons p l v =>
   intro q hm;simp only[du,l8]at q;rcases bW.1 hm with rfl|hm
   ·simp
   ·have u:p.1≠k:=by
     intro e;exact q.1 (dD.2 ⟨(k,d),hm,e.symm⟩)
    have:ad p.1 k=false:=aeX.2 fun e=>u (br e);rw[aeY (by simp[this])];exact v q.2 hm
 unfold cA;unfold aU at g h;split
 ·rename_i c hb
  rw[hb]at g h;simp only[]at g h;rw[key _ (rD g) h]
 ·rename_i hb
  rw[hb]at h;simp[bK]at h
theorem ay.add(hm:P.follows .mixedOrders=true)(q:au P τ){fn:Func} (u:nodupB ((bK (aU fn)).map (·.1))=true) (g:ay P m L (aU fn)) (h:cu P τ L m (cA fn sp.key) sp) :
  ay P m (L.add m sp) (aU fn):=by
 refine⟨fun k v hk s t d=>?_,g.2⟩;simp only[LT.add]at d;split at d
 ·rename_i e
  have e:=br e;subst e;have y:=UA u hk;rw[←y]at h;exact Uz hm q (g.sub (nV hk) (nW hk)) h d
 ·exact g.1 k v hk s t d
/-! ### Code behind other code -/
def cutAt(fn:Func)(k:Nat):Code:=match fn.body with
 | some c=>match (bG c).find? fun p=>ad p.1 k with
  |some (_,b)=>b
  |none=>.skip
 |none=>.skip
def kV(k:Nat):List (Nat × Code)→Bool
 | []=>true
 | p::l=>match ad p.1 k with
  |true => !l.any (fun q=>ad q.1 k)
  |false=>kV k l
theorem Kn{k:Nat}{g:Code}:∀{l:List (Nat × Code)},kV k l=true→(k,g)∈l→l.find? (fun p=>ad p.1 k)=some (k,g)
 | [],_,h=>by cases h
 | p::l,ho,hm=>by
  simp only[kV]at ho;cases d:ad p.1 k with
  | true =>
   rw[d]at ho;simp only[l_]at ho;rcases bW.1 hm with rfl|hm
   ·rw[List.find?_cons_of_pos (by simp)]
   ·have : l.any (fun q => ad q.1 k) = true := iQ.2 ⟨(k, g), hm, by simp⟩
    rw[this]at ho;cases ho
  | false =>
   rw[d]at ho;rcases bW.1 hm with rfl|hm
   ·simp at d
   ·rw [aeY (by simp [d])]
    exact Kn ho hm
theorem C0{fn:Func}{k:Nat}{g:Code} (d:kV k (bG (aU fn))=true) (h:(k,g)∈bG (aU fn)):g=cutAt fn k:=by
 unfold cutAt;unfold aU at d h;split
 ·rename_i c hb
  rw[hb]at d h;simp only[]at d h;rw[Kn d h]
 ·rename_i hb
  rw[hb]at h;simp[bG]at h
def bU(r:Option (Option Nat × List G)):Option (Nat × List G):=match r with
 |some (some x,d)=>some (x,d)
 |_=>none
def uO(m:Nat)(sp:bx)(s:al):Option Tree :=
 match ig m sp.inv sp.ps (gz sp.opens s)with
 |some (b,d)=>some (.side (rB b (bU (sp.st d)).isSome) (uN (bU (sp.st d)) sp.outs 0))
 |none=>none
def ft(P:Program)(τ:ar)(L:LT)(m:Nat)(c:Code)(sp:bx):Prop:=∀ d,(dY P τ L c (aO sp.inv d) .done).leaf (pD m sp.outs 0)=sp.st d
theorem UB(hm:P.follows .mixedOrders=true)(B:au P τ)(I:ay P m L c)(q:ft P τ L m c sp){s:al}{t:Tree}(h:uO m sp s=some t):xZ P m c s t:=by
 unfold uO at h;split at h
 case h_2=>cases h
 rename_i b d J;cases h;intro Q u;simp only[Tree.holds,rC,ax]at u;obtain⟨⟨rfl,h1⟩,v⟩:=u;cases g:sp.st d with
 |none=>rw[g]at h1; cases h1
 | some r =>
  obtain⟨k,d'⟩:=r;cases k with
  |none=>rw[g]at h1; cases h1
  | some i =>
   rw[←q d]at g;obtain⟨x,s1,g1,g2⟩:=gN hm B c (aO sp.inv d) .done I (Q:=fun x s=>pD m sp.outs 0 x s=some (true,(some i,d'))) (nU g);obtain⟨j,o,M,y,N,O⟩:=yu g2;simp only[aV,cP]at y;subst y;rw[q d]at g;rw[g]at v;refine⟨o.x,(aO o.S d'),?_,yv M (cP i).symm v⟩;rw[←N];exact qR ((lz sp.opens s).trans (ly J)) (qS g1 (ly O))
def LT.d_(L:LT)(m:Nat)(sp:bx):LT:=⟨L.loops,L.pre,fun k s=>match ad k sp.key with
 |true=>uO m sp s
 |false=>L.uC k s⟩
theorem ay.d_(hm:P.follows .mixedOrders=true)(q:au P τ){fn:Func} (u:kV sp.key (bG (aU fn))=true) (g:ay P m L (aU fn)) (h:ft P τ L m (cutAt fn sp.key) sp) :
  ay P m (L.d_ m sp) (aU fn):=by
 refine⟨g.1,g.2.1,fun k v hk s t d=>?_⟩;simp only[LT.d_]at d;split at d
 ·rename_i e
  have e:=br e;subst e;have y:=C0 u hk;rw[←y]at h;exact UB hm q (g.sub (nZ hk) (n3 hk)) h d
 ·exact g.2.2 k v hk s t d
end loops
/-! ### d -/
structure aJ where
 f:FuncId
 args:List Sh
 cF:List cd
 ps:List jH
 res:List Sh
 fu:List cd
 UC:List jH
 opens:List (Nat × List Kd)
 F:List G→Option (List G)
def aJ.args0(sp:aJ)(d:List G):List AV:=fj (cD sp.cF d) sp.args (en (lx sp.cF) d)
def aJ.H0(sp:aJ)(d:List G):List ah:=cK (cD sp.cF d) sp.cF d
def aJ.out(sp:aJ)(r:List G):AV:=c6 (fj (cD sp.fu r) sp.res (en (lx sp.fu) r))
def aJ.H1(sp:aJ)(r:List G):List ah:=cK (cD sp.fu r) sp.fu r
def uP(P:Program)(rs:List ResultVar)(sp:aJ)(x:bR)(s:al):Option (Bool × List G) :=
 match x with
 |.exit _=>none
 | _=>(fun s=>match hG P s.den rs with
  |none=>none
  | some vs=>match jb s.H (fun i=>vs.getD i .undef) sp.UC [] with
   |none=>none
   | some ids=>match nodupB ids&&mE s.H 0 sp.cF.length ids sp.fu with
    |false=>none
    | true=>match ja s.H (bJ s.H ids) (ic ids) sp.fu ids,eo s.H (bJ s.H ids) (ic ids) sp.res vs with
     |some (b,g),some (d,h)=>some (b&&d,g++h)
     |_,_=>none) (gz sp.opens s)
def aZ(P:Program)(τ:ar)(L:LT)(fn:Func)(sp:aJ):Prop :=
 ∀ d,(dY P τ L (aU fn) ⟨iW (sp.args0 d) fn.ntmps,sp.H0 d⟩ .done).leaf (uP P fn.results.toList sp)=sp.F d
def pE(os:List cd):Bool:=os.all fun o=>ad o.up 0
theorem Ko:∀{os:List cd} (lens:cY) (d:List G),pE os=true→xF (ak (cK lens os d))
 | [],_,_,_=>by intro o ho; simp[cK,ak]at ho
 | o::os,lens,d,h=>by
  simp only[pE,l5,ax]at h;intro x g;simp only[cK,ak,du,bW]at g;rcases g with rfl|g
  ·cases o with
   | vec ks u =>
    have:u=0:=br h.1;subst this;rfl
   |box _=>rfl
   |map _ _=>rfl
   |eD _ _ _=>rfl
   |aG _ _ _=>rfl
   |mm _ _ _ _=>rfl
  ·exact Ko lens _ h.2 x g
theorem C1(lens:cY):∀(os:List cd) (d:List G),(cK lens os d).length=os.length
 | [],_=>rfl
 |_::os,d=>by simp[cK,C1 lens os]
theorem UD{P:Program}{sp:aJ}{fn:Func}(hf:P.funcs[sp.f]? = some fn)(hb:fn.body.isSome=true)
  (hfr:pE sp.cF=true) {d r:List G} {x:bR} {B:al} (h1:cU P sp.cF.length (aU fn) (al.den ⟨iW (sp.args0 d) fn.ntmps,sp.H0 d⟩) x B.den) (k:uP P fn.results.toList sp x B=some (true,r)) :
  dG P sp.f (sp.args0 d) (ak (sp.H0 d)) (sp.out r) (ak (sp.H1 r)):=by
 have hbody:fn.body=some (aU fn):=by
  unfold aU;cases I:fn.body with
  |none=>rw[I]at hb; cases hb
  |some c=>rfl
 have h1:=qS h1 (lz sp.opens B);generalize hs':gz sp.opens B=s' at h1;have hxx:(x=.normal∨x=.ret)∧∃ vs ids g q,hG P s'.den fn.results.toList=some vs∧(nodupB ids&&mE s'.H 0 sp.cF.length ids sp.fu)=true ∧
   ja s'.H (bJ s'.H ids) (ic ids) sp.fu ids=some (true,g)∧eo s'.H (bJ s'.H ids) (ic ids) sp.res vs=some (true,q)∧g++q=r:=by
  have k:uP P fn.results.toList sp x B=some (true,r):=k;unfold uP at k;split at k
  ·cases k
  ·rename_i I
   simp only[hs']at k;refine⟨by cases x with|normal=>exact .inl rfl|ret=>exact .inr rfl|exit i=>exact(I i rfl).elim,?_⟩;split at k
   ·cases k
   ·rename_i vs U
    split at k
    ·cases k
    ·rename_i ids hids
     split at k
     ·cases k
     ·rename_i v
      split at k
      ·rename_i b g b' q M q2
       simp only[aV,ba,ax]at k;obtain⟨⟨rfl,rfl⟩,rfl⟩:=k;exact⟨vs,ids,g,q,U,v,M,q2,rfl⟩
      ·cases k
 obtain⟨I,vs,ids,g,q,U,v,M,q2,rfl⟩:=hxx;simp only[ax]at v;intro E cargs hH HE hargs;refine B0 hf hbody ?_;have hfe:=qT HE;have hargs0:=my hfe _ hargs;have hrel:bN ⟨iW (sp.args0 d) fn.ntmps,ak (sp.H0 d)⟩ { E with X:=⟨E.X.x,fun _=>False,E.X.r⟩ } { tmps:=cargs++Array.replicate (fn.ntmps-cargs.size) undef,defers:=[] }:=by
  refine⟨hH,?_,oR _ _,HE.cC hfe⟩;simp only[iW,Array.toList_append,Array.toList_replicate];refine jV hargs0 ?_;have:=fP hargs;have e:(sp.args0 d).length=cargs.size:=by simpa using this
  rw[e];have:=tV (E:={ E with X:=⟨E.X.x,fun _=>False,E.X.r⟩ }) (List.replicate (fn.ntmps-cargs.size) undef);simpa using this
 refine wpIn_mono (h1 none (BX _) { E with X:=⟨E.X.x,fun _=>False,E.X.r⟩ } _ hrel) fun e a1 w0 ⟨h3,loc',X',y,N⟩=>?_;refine⟨by subst h3; rcases I with rfl|rfl; exact .inl rfl; exact .inr rfl,X',y.defers,fun O k1 k2 k3=>?_⟩;obtain⟨y,N⟩:=B1 HE y N k1 k2 k3;obtain⟨us,g1,g2⟩:=xI y fn.results.toList vs U;have hres:(results fn a1.tmps).run P O=.ok (if h:us.toArray.size=1 then us.toArray[0] else .tuple us.toArray) O:=by
  rw[xJ];simp only[Sem.run_bind];rw[Array.mapM_eq_mapM_toList,Sem.run_map,g1];rfl
 generalize J:({ w:=O,H:=s'.den.H,loc:=loc',X:=E.X.re X'.r }:Env)=u at y N g1 g2;have hH1:u.H=ak s'.H:=by rw[←J]; rfl
 obtain⟨hK,hHR⟩:=Ki hH1 y.heap (rD v.1) M q;obtain⟨p0,p1,p2,p3⟩:=uL M q (cD sp.fu (g++q));have hd:en (lx sp.fu) (g++q)=q:=by rw[←p0]; exact nT g q
 have hS:=uK hK q2 [];rw[cO]at hS;have hrl:=hS.2.2.2 us g2;have hleM:=Kj (m:=sp.cF.length) hH1 hK ⟨rfl,rfl⟩ (Kf u _ ids) v.2 (fun j hj=>by
  obtain⟨r1,o',r2,_⟩:=yo v.2 j hj;obtain⟨i,o,g1,rest1,t1,t2,t3,t4,t5,t6⟩:=p3 j o' r2;have hat:=gx (e:=bJ s'.H ids) (j:=j) (aL t1);rw[show (bJ s'.H ids).ids=ids from rfl,t1]at hat;cases hat;exact⟨o,o',t2,r2,t5⟩) (fun b=>Kg)
 have hle:E.le (ib u (ak (cK (cD sp.fu (g++q)) sp.fu (g++q))) ids) :=
  (N.trans hleM).full (by rw[←J]; exact⟨rfl,rfl⟩) (by rw[hH,ev]; simp only[aJ.H0,C1]; exact aB _) (by rw[hH]; exact Ko _ _ hfr)
 have V:u.w=O:=by rw[←J]
 have W:∀ r,u.X.re r=E.X.re r:=fun r=>by rw[←J]; rfl
 refine⟨_,hres,_,_,_,rfl,⟨rfl,rfl⟩,ids.map (fun i=>u.loc.getD i none),mD u (ak (cK (cD sp.fu (g++q)) sp.fu (g++q))),?_,?_,?_⟩
 ·have := JS hrl
  simp only[aJ.out,aJ.H1,hd];simpa only[ib,V,W]using this
 ·simpa only[ib,V,W,aJ.H1]using hHR
 ·simpa only[ib,V,W,aJ.H1]using hle
theorem UE{P:Program}{τ:ar}{L:LT}(hm:P.follows .mixedOrders=true)(k:au P τ){sp:aJ}{fn:Func}(q:P.funcs[sp.f]? = some fn)(hb:fn.body.isSome=true)
  (u:ay P sp.cF.length L (aU fn)) (v:aZ P τ L fn sp) (g:pE sp.cF=true) {d r:List G} (h:sp.F d=some r) :
  dG P sp.f (sp.args0 d) (ak (sp.H0 d)) (sp.out r) (ak (sp.H1 r)):=by
 rw[←v d]at h;obtain⟨x,B,h1,y⟩:=gN hm k (aU fn) _ .done u (Q:=fun x s=>uP P fn.results.toList sp x s=some (true,r)) (nU h);exact UD q hb g h1 y
abbrev aY(P:Program)(sp:aJ):Prop:=∀ d r,sp.F d=some r→dG P sp.f (sp.args0 d) (ak (sp.H0 d)) (sp.out r) (ak (sp.H1 r))
theorem rG{P:Program}{τ:ar}{L:LT}(hm:P.follows .mixedOrders=true)(g:au P τ){sp:aJ}{fn:Func}(k:P.funcs[sp.f]? = some fn)(hb:fn.body.isSome=true)
  (q:ay P sp.cF.length L (aU fn)) (u:aZ P τ L fn sp) (d:pE sp.cF=true):aY P sp:=fun _ _ h=>UE hm g k hb q u d h
/-! ### Tables -/
def uQ:eH→Bool
 |.int _ | .str | .bool | .list _ | .uJ _ | .row _ | .cptr _ | .nil | .any | .J7 _ | .fn _ | .addr | .CN=>true
 |_=>false
def yw:Sh→Bool
 |.s a=>uQ a
 |.clo _ caps=>caps.all uQ
theorem Kp{lens:cY}{a:eH}{d:List G}(h:uQ a=true):(eI lens a d).closed=true:=by
 cases a<;>simp only[uQ]at h<;>first
  |(cases h; done)
  |rfl
  |(simp only[eI,AV.closed,fE]; done)
theorem Kq{lens:cY}:∀{as:List eH} {d:List G},(as.all uQ)=true→AV.bp (iJ lens as d)=true
 | [],_,_=>rfl
 | a::as,d,h=>by
  simp only[l5,ax]at h;simp only[iJ,AV.bp,Kp h.1,Kq h.2,tg]
theorem yx{lens:cY}:∀{as:List Sh} {d:List G},(as.all yw)=true→AV.bp (fj lens as d)=true
 | [],_,_=>rfl
 | a::as,d,h=>by
  simp only[l5,ax]at h;simp only[fj,AV.bp,yx h.2,fO];cases a with
  |s a=>exact Kp h.1
  |clo f caps=>simp only[pB,AV.closed]; exact Kq h.1
theorem UF{vs:List AV}(h:AV.bp vs=true):(c6 vs).closed=true:=by
 cases vs with
 |nil=>rfl
 | cons v vs =>
  cases vs with
  |nil=>simpa[c6,AV.bp]using h
  |cons v2 vs=>simpa only[c6,AV.closed]using h
def ij(E:Env):Env:={ w:=E.w,H:=[],loc:=[],X:=(E.X.or E.own).re dE }
theorem UG{E:Env}(x:Nat):¬ (ij E).own x:=by rintro(⟨id,c,hid⟩|⟨l,k,c,hk⟩); simp[ij]at hid; simp[ij,dE]at hk
theorem Kr{E:Env}:E.bF (ij E):=⟨fun b hb=>⟨⟨hb.1,UG b,fun d=>d.elim hb.2.2 hb.2.1⟩,rfl⟩⟩
theorem UH{E:Env}:(ij E).bF E:=⟨fun b hb=>⟨⟨hb.1,fun ho=>hb.2.2 (Or.inr ho),fun d=>hb.2.2 (Or.inl d)⟩,rfl⟩⟩
theorem UI{E:Env}(HE:aq E):aq (ij E):=by
 refine⟨rfl,?_,?_,?_,?_,HE.eW.bF Kr,fun l k l' k' b m n hk=>by simp[ij,dE]at hk,fun i b m l k n hi=>by simp[ij]at hi,fun l k b m hk=>by simp[ij,dE]at hk,fun i j o o' l hi=>by simp[ij]at hi,fun l _ k q hk=>by simp[ij,dE]at hk⟩
 ·intro i j b m n hi; simp[ij]at hi
 ·intro i b m hi; simp[ij]at hi
 ·rintro b (d | ho)
  ·exact HE.X b d
  ·exact(HE.wZ ho).1
 ·intro i o hi; simp[ij]at hi
theorem UJ{E:Env}(HE:aq E):ia [] (bJ [] []) (fun _=>false) [] (ij E) (ij E):=by
 exact { hH:=rfl,HE:=UI HE,free:=fun _ h=>(nomatch h),cQ:=⟨fun b hb=>⟨hb,rfl⟩,rfl,fun j d=>absurd d (Nat.not_lt_zero _),fun _ _ _ _ _=>rfl⟩,obj:=fun j o ho=>by simp at ho }
theorem UK{E:Env}(HE:aq E):∀{d:List Sh} {as:List AV} {g:List G},(d.all yw)=true→eo [] (bJ [] []) (fun _=>false) d as=some (true,g)→∀(rest:List G) (cs:List Value),af E as cs →
  af E (fj [] d (g++rest)) cs:=by
 have N:∀{sh:eH} {a:AV} {b:Bool} {g:List G},fq [] (bJ [] []) (fun _=>false) sh a=some (b,g)→a.closed=true∨sh=.any:=by
  intro sh a b g h;unfold fq at h;split at h
  ·exact .inl rfl
  ·exact .inl rfl
  ·exact .inl rfl
  ·split at h
   ·rename_i ha
    left;unfold mC at ha;split at ha<;>first|rfl|cases ha
   ·split at h
    ·simp at h
    ·cases h
  ·split at h
   ·rename_i ha
    left;rw[JX ha];simp only[AV.closed,fE]
   ·cases h
  ·exact .inl rfl
  ·simp at h
  ·exact .inl rfl
  ·exact .inr rfl
  ·exact .inl rfl
  ·simp at h
  ·simp at h
  ·simp at h
  ·simp at h
  ·split at h
   ·rename_i ha
    left;unfold mC at ha;split at ha<;>first|rfl|cases ha
   ·split at h
    ·simp at h
    ·cases h
  ·simp at h
  ·exact .inl rfl
  ·rename_i f js f' vs
   split at h
   ·rename_i u
    left;cases js with
    | nil=>cases vs with
     |nil=>rfl
     |cons _ _=>simp[j9]at u
    | cons j js=>cases vs with
     |nil=>simp[j9]at u
     |cons v vs=>cases v<;>simp[j9]at u
   ·cases h
  ·exact .inl rfl
  ·cases h
 have U:∀{d:List eH} {as:List AV} {b:Bool} {g:List G},fk [] (bJ [] []) (fun _=>false) d as=some (b,g)→∀(cs:List Value),af E as cs →
   ∃ k,fk [] (bJ [] []) (fun _=>false) d k=some (b,g)∧AV.bp k=true∧af E k cs:=by
  intro d
  induction d with
  | nil =>
   intro as b g h cs q;cases as with
   |nil=>exact⟨[],h,rfl,q⟩
   |cons _ _=>simp[fk]at h
  | cons sh d M =>
   intro as b g h cs q;cases as with
   |nil=>simp[fk]at h
   | cons a as =>
    cases cs with
    |nil=>simp[af]at q
    | cons c cs =>
     simp only[af]at q;simp only[fk]at h;split at h
     ·rename_i b1 g1 b2 g2 h1 J
      cases h;obtain⟨k,y,B,I⟩:=M J cs q.2;rcases N h1 with u|rfl
      ·exact⟨a::k,by simp only[fk,h1,y],by simp only[AV.bp,u,B,tg],by simp only[af]; exact⟨q.1,I⟩⟩
      ·have e:fq [] (bJ [] []) (fun _=>false) .any .undef=some (b1,g1):=by
        have:fq [] (bJ [] []) (fun _=>false) .any a=some (true,[]):=by cases a<;>rfl
        rw[this]at h1;exact h1
       exact⟨.undef::k,by simp only[fk,e,y],by simp only[AV.bp,B]; rfl,by simp only[af,rel]; exact⟨trivial,I⟩⟩
     ·cases h
 have V:∀{d:List Sh} {as:List AV} {b:Bool} {g:List G},eo [] (bJ [] []) (fun _=>false) d as=some (b,g)→∀(cs:List Value),af E as cs →
   ∃ k,eo [] (bJ [] []) (fun _=>false) d k=some (b,g)∧AV.bp k=true∧af E k cs:=by
  intro d
  induction d with
  | nil =>
   intro as b g h cs q;cases as with
   |nil=>exact⟨[],h,rfl,q⟩
   |cons _ _=>simp[eo]at h
  | cons sh d M =>
   intro as b g h cs q;cases as with
   |nil=>simp[eo]at h
   | cons a as =>
    cases cs with
    |nil=>simp[af]at q
    | cons c cs =>
     simp only[af]at q;simp only[eo]at h;split at h
     ·rename_i b1 g1 b2 g2 h1 J
      cases h;obtain⟨k,y,B,I⟩:=M J cs q.2;cases sh with
      | s sh0 =>
       simp only[j_]at h1;rcases N h1 with u|rfl
       ·exact⟨a::k,by simp only[eo,j_,h1,y],by simp only[AV.bp,u,B,tg],by simp only[af]; exact⟨q.1,I⟩⟩
       ·have e:fq [] (bJ [] []) (fun _=>false) .any .undef=some (b1,g1):=by
         have:fq [] (bJ [] []) (fun _=>false) .any a=some (true,[]):=by cases a<;>rfl
         rw[this]at h1;exact h1
        exact⟨.undef::k,by simp only[eo,j_,e,y],by simp only[AV.bp,B]; rfl,by simp only[af,rel]; exact⟨trivial,I⟩⟩
      | clo f caps =>
       cases a<;>simp only[j_]at h1<;>try cases h1
       rename_i f' vs;split at h1
       ·rename_i hf
        subst hf;have O:=q.1;simp only[rel]at O;obtain⟨us,e1,e2⟩:=O;obtain⟨W,l1,l2,l3⟩:=U h1 _ e2;exact⟨.clo f W::k,by simp only[eo,j_,if_true,l1,y],by simp only[AV.bp,AV.closed,l2,B,tg],
         by simp only[af,rel]; exact⟨⟨us,e1,l3⟩,I⟩⟩
       ·cases h1
     ·cases h
 intro d as g hcl h rest cs q;obtain⟨k,h1,J,h3⟩:=V h cs q;have h4:=nr Kr k J h3;have h5:=(uK (UJ HE) h1 rest).2.2.2 cs h4;exact nr UH _ (yx hcl) h5
def ar.bD(τ:ar)(sp:aJ):ar where
 pf g:=match ad g sp.f with
  |true=>true
  |false=>τ.pf g
 T g as:=match ad g sp.f with
  | true=>match eo [] (bJ [] []) (fun _=>false) sp.args as with
   |some (b,d)=>some (rB b (sp.F d).isSome,c6 (fj [] sp.res ((sp.F d).getD [])))
   |none=>τ.T g as
  |false=>τ.T g as
 W:=τ.W
 C:=τ.C
 I:=τ.I
 N:=τ.N
 U:=τ.U
def C2(sp:aJ):Bool:=(sp.args.all yw)&&((sp.res.all yw)&&(sp.cF.isEmpty&&sp.fu.isEmpty))
theorem au.bD{P:Program}{τ:ar}(h:au P τ){sp:aJ}(hb:eX P sp.f=true)(y:C2 sp=true)
  (hc:∀ d r,sp.F d=some r→dG P sp.f (sp.args0 d) (ak (sp.H0 d)) (sp.out r) (ak (sp.H1 r))):au P (τ.bD sp):=by
 simp only[C2,ax,List.isEmpty_iff]at y;obtain⟨u,O,U,V⟩:=y;refine⟨fun g as b v k q=>?_,h.W,h.C,h.I,h.F⟩;simp only[ar.bD]at k;split at k
 ·rename_i e
  have e:=br e;subst e;split at k
  ·rename_i b' d hr
   simp only[aV,ba]at k;obtain⟨h1,rfl⟩:=k;subst h1;simp only[rC]at q;obtain⟨rfl,B⟩:=q;refine⟨hb,?_⟩;cases J:sp.F d with
   |none=>rw[J]at B; cases B
   | some r =>
    have M:=hc d r J;simp only[aJ.args0,aJ.H0,aJ.out,aJ.H1,U,V,cK,cD,lx,en]at M;have:=S1 M (yx u) (UF (yx O));intro H E cargs hH HE N;exact this H E cargs hH HE (by
     have:=UK HE u hr [] _ N
     rwa [cO]at this)
  ·exact h.T _ as b v k q
 ·exact h.T g as b v k q
end Go.AL

namespace Go.AL
open Go
variable [Dr]
def Kd.ct:List Kd→Bool
 | []=>true
 |.list _::_=>false
 |_::ks=>Kd.ct ks
def Ct.bH:Ct→Bool
 |.one k=>Kd.ct [k]
 |.agg ks=>Kd.ct ks
def rH:eH→Bool
 |.row ks=>Kd.ct ks
 |.list _ | .uJ _ | .cptr _=>false
 |_=>true
def Ks:Sh→Bool
 |.s a=>rH a
 |.clo _ caps=>caps.all rH
def Kt:cd→Bool
 |.vec ks _=>Kd.ct ks
 |.box cells=>cells.all rH
 |.map K V=>K.bH&&V.bH
 |.eD _ _ _=>true
 |.aG _ K ks=>K.bH&&Kd.ct ks
 |.mm _ K KI VI=>K.bH&&(KI.bH&&VI.bH)
def jI(sp:aJ):Bool:=(sp.res.all Ks)&&(sp.fu.all Kt)
theorem uR:∀{ks:List Kd} (r:List G),Kd.ct ks=true→AV.ct (aK ks r)=true
 | [],_,_=>rfl
 |.list _::_,_,h=>by simp[Kd.ct]at h
 | .int _::ks,r,h | .str::ks,r,h | .bool::ks,r,h=>by
  simp only[Kd.ct]at h;simp only[aK,AV.ct,uR r.tail h,fO];rfl
theorem Ct.rI{K:Ct}(r:List G)(h:K.bH=true):(K.av r).bH=true:=by
 cases K with
 | one k =>
  simp only[Ct.bH]at h;cases k<;>first
   |rfl
   |(simp[Kd.ct]at h; done)
 |agg ks=>simp only[Ct.av,AV.bH]; exact uR r h
theorem Ku:∀ js:List Nat,AV.ct (pA js)=true
 | []=>rfl
 |j::js=>by simp only[pA,AV.ct,Ku js,fO]; rfl
theorem Kv{lens:cY}{a:eH}{d:List G}(h:rH a=true):(eI lens a d).bH=true:=by
 cases a<;>simp only[rH]at h<;>first
  |(cases h; done)
  |(simp only[eI,AV.bH]; exact uR _ h)
  |rfl
  |(simp only[eI,AV.bH]; exact Ku _)
theorem C3{lens:cY}:∀{as:List eH} {d:List G},(as.all rH)=true→AV.ct (iJ lens as d)=true
 | [],_,_=>rfl
 | a::as,d,h=>by
  simp only[l5,ax]at h;simp only[iJ,AV.ct,Kv h.1,C3 h.2,tg]
theorem Kw{lens:cY}:∀{as:List Sh} {d:List G},(as.all Ks)=true→AV.ct (fj lens as d)=true
 | [],_,_=>rfl
 | a::as,d,h=>by
  simp only[l5,ax]at h;simp only[fj,AV.ct,Kw h.2,fO];cases a with
  |s a=>exact Kv h.1
  |clo f caps=>simp only[pB,AV.bH]; exact C3 h.1
theorem UL{vs:List AV}(h:AV.ct vs=true):(c6 vs).bH=true:=by
 cases vs with
 |nil=>rfl
 | cons v vs =>
  cases vs with
  |nil=>simpa[c6,AV.ct]using h
  |cons v2 vs=>simpa only[c6,AV.bH]using h
theorem Kx{lens:cY}:∀{os:List cd} {d:List G},(os.all Kt)=true→((ak (cK lens os d)).all ab.bH)=true
 | [],_,_=>rfl
 | o::os,d,h=>by
  simp only[l5,ax]at h;have k:=Kx (lens:=lens) (d:=en o.sz d) h.2;simp only[cK,ak,du,l5,ax];refine⟨?_,by simpa only[ak]using k⟩;cases o with
  | vec ks u =>
   simp only[eP,ah.den,ab.bH,cM,dD];rintro r ⟨g,_,rfl⟩;exact uR g h.1
  |box cells=>simp only[eP,ah.den,ab.bH]; exact C3 h.1
  | map K V =>
   have h1:(K.bH&&V.bH)=true:=h.1;simp only[ax]at h1;simp only[eP,ah.den,ab.bH,da,cM,dD];rintro x ⟨g,_,rfl⟩;simp only[Ct.rI _ h1.1,Ct.rI _ h1.2,tg]
  |eD l T B=>rfl
  | aG l K ks =>
   have h1:(K.bH&&Kd.ct ks)=true:=h.1;simp only[ax]at h1;simp only[eP,ah.den,ab.bH,fU,cM,dD];rintro x ⟨g,_,rfl⟩;simp only[jA,Ct.rI _ h1.1,Bool.true_and];cases (gi g 3).bool with
   |false=>rfl
   | true =>
    simp only[cond_true,cM,dD];rintro r ⟨g2,_,rfl⟩;exact uR g2 h1.2
  | mm l K KI VI =>
   have h1:(K.bH&&(KI.bH&&VI.bH))=true:=h.1;simp only[ax]at h1;simp only[eP,ah.den,ab.bH,h_,nE,da,ax,cM,dD];refine⟨?_,?_⟩
   ·rintro x ⟨g, _, rfl⟩
    exact Ct.rI _ h1.1
   ·rintro x ⟨g, _, rfl⟩ y v
    obtain⟨q,_,rfl⟩:=dD.1 v;simp only[Ct.rI _ h1.2.1,Ct.rI _ h1.2.2,and_self]
def ah.b_(e:bL)(j:Nat):ah→ah
 |.vec ks v rows=>.vec ks (v+e.up j) rows
 |.raw o=>.raw (o.b_ e j)
 |.map K V rows c=>.map K V rows c
 |.aG l K ks rows c=>.aG l K ks rows c
 |.mm l K KI VI rows mem c=>.mm l K KI VI rows mem c
def uS(e:bL):Nat→List ah→List ah
 |_,[]=>[]
 |j,o::os=>o.b_ e j::uS e (j+1) os
def jd(e:bL)(H H1:List ah):List ah:=dZ H e.ids (uS e 0 H1)++(uS e 0 H1).drop e.ids.length
theorem UM(e:bL)(j:Nat)(o:ah):(o.b_ e j).den=o.den.b_ e j:=by
 cases o<;>rfl
theorem Ky(e:bL):∀(j:Nat) (os:List ah),ak (uS e j os)=j7 e j (ak os)
 |_,[]=>rfl
 | j,o::os=>by
  simp only[uS,ak,du,j7,UM];have:=Ky e (j+1) os;simp only[ak]at this;rw[this]
theorem Kz{α β:Type}(f:α→β):∀(is:List Nat) (l xs:List α),(dZ l is xs).map f=dZ (l.map f) is (xs.map f)
 | [],_,_=>by simp[dZ]
 |_::_,_,[]=>by simp[dZ]
 |i::is,l,x::xs=>by simp[dZ,Kz f is,List.map_set]
theorem UN(e:bL)(H H1:List ah):ak (jd e H H1)=nQ e (ak H) (ak H1):=by
 unfold jd nQ;rw[←Ky];simp only[ak,List.map_append,Kz,List.map_drop]
def lA(e:bL):Nat→List cd→Bool
 |_,[]=>true
 |j,.vec _ _::os=>lA e (j+1) os
 |j,_::os=>ad (e.up j) 0&&lA e (j+1) os
theorem pF{e:bL}{lens:cY}:∀{j:Nat} {os:List cd} {d:List G},lA e j os=true→j8 e j (ak (cK lens os d))=true
 |_,[],_,_=>rfl
 | j,.vec ks u::os,d,h=>by
  simp only[lA]at h;have:=pF (lens:=lens) (d:=en (cd.vec ks u).sz d) h;simp only[cK,ak,du,j8,ax];exact⟨rfl,by simpa only[ak]using this⟩
 | j,.box cells::os,d,h=>by
  simp only[lA,ax]at h;have:=pF (lens:=lens) (d:=en (cd.box cells).sz d) h.2;simp only[cK,ak,du,j8,ax];exact⟨h.1,by simpa only[ak]using this⟩
 | j,.map K V::os,d,h=>by
  simp only[lA,ax]at h;have:=pF (lens:=lens) (d:=en (cd.map K V).sz d) h.2;simp only[cK,ak,du,j8,ax];exact⟨h.1,by simpa only[ak]using this⟩
 | j,.eD l T B::os,d,h=>by
  simp only[lA,ax]at h;have:=pF (lens:=lens) (d:=en (cd.eD l T B).sz d) h.2;simp only[cK,ak,du,j8,ax];exact⟨h.1,by simpa only[ak]using this⟩
 | j,.aG l K ks::os,d,h=>by
  simp only[lA,ax]at h;have:=pF (lens:=lens) (d:=en (cd.aG l K ks).sz d) h.2;simp only[cK,ak,du,j8,ax];exact⟨h.1,by simpa only[ak]using this⟩
 | j,.mm l K KI VI::os,d,h=>by
  simp only[lA,ax]at h;have:=pF (lens:=lens) (d:=en (cd.mm l K KI VI).sz d) h.2;simp only[cK,ak,du,j8,ax];exact⟨h.1,by simpa only[ak]using this⟩
def rJ(S:Bool)(ids:List Nat)(i:Nat):Bool:=match S with
 |true=>ic ids i
 |false=>false
def n4(sp:aJ)(as:List AV)(H:List ah):Option (Bool × AV × List ah) :=
 match jb H (fun i=>as.getD i .undef) sp.ps []with
 |none=>none
 | some ids=>match nodupB ids&&lA (bJ H ids) 0 sp.fu with
  |false=>none
  | true=>match ja H (bJ H ids) (rJ (jI sp) ids) sp.cF ids,eo H (bJ H ids) (rJ (jI sp) ids) sp.args as with
   |some (b,g),some (h,d)=>some (rB (b&&h) (sp.F (g++d)).isSome,(sp.out ((sp.F (g++d)).getD [])).b_ (bJ H ids),jd (bJ H ids) H (sp.H1 ((sp.F (g++d)).getD [])))
   |_,_=>none
def mG:List jH→Nat→Bool
 | [],_=>true
 |.cell j _::ps,n=>fe j n&&mG ps (n+1)
 |.CW j _ _::ps,n=>fe j n&&mG ps (n+1)
 |_::ps,n=>mG ps (n+1)
theorem KA{H:List ah}{vals:Nat→AV}:∀{ps:List jH} {acc ids:List Nat},jb H vals ps acc=some ids→∀ x∈acc,x∈ids
 | [],acc,ids,h,x,d=>by cases h; exact d
 | p::ps,acc,ids,h,x,d=>by
  unfold jb at h;split at h
  ·exact KA h x (ql _ d)
  ·cases h
theorem KB{H:List ah}{vals:Nat→AV}{id:Nat}{o:ah}:∀{ps:List jH} {acc ids:List Nat},mG ps acc.length=true→jb H vals ps acc=some ids→id∉ids→jb (H.set id o) vals ps acc=some ids
 | [],acc,ids,_,h,_=>h
 | p::ps,acc,ids,hw,h,hid=>by
  unfold jb at h⊢;split at h
  ·rename_i i hi
   have g:=KA h;have get:∀ j,j<acc.length→(H.set id o)[acc.getD j 0]? = H[acc.getD j 0]? := fun j d=>by
    refine aQ fun e=>hid ?_;rw[e,cf,bI d];exact g _ (ql _ (nm d))
   have e:yr (H.set id o) vals acc p=some i∧mG ps (acc++[i]).length=true:=by
    rw[fb];cases p with
    |fix _=>exact⟨hi,hw⟩
    |slot _=>exact⟨hi,hw⟩
    |cap _ _=>exact⟨hi,hw⟩
    | cell j c =>
     simp only[mG,ax,kC]at hw;refine⟨?_,hw.2⟩;simp only[yr]at hi⊢;rw[get j hw.1];exact hi
    | CW j c k =>
     simp only[mG,ax,kC]at hw;refine⟨?_,hw.2⟩;simp only[yr]at hi⊢;rw[get j hw.1];exact hi
   rw[e.1];exact KB e.2 h hid
  ·cases h
section UO
variable {H:List ah} {e:bL} {id:Nat} {o:ah} (he:∀ j,e.at j≠id)
include he
theorem KC:∀(js:List Nat) (vs:List AV),j9 (H.set id o) e js vs=j9 H e js vs
 | [],[]=>rfl
 | [],_::_=>rfl
 |_::_,[]=>rfl
 | j::js,v::vs=>by
  have g:=KC js vs;cases v<;>try rfl
  rename_i i ae k row c;simp only[j9,g];by_cases hi:i=id
  ·subst hi
   have d:ad i (e.at j)=false:=by
    cases hb:ad i (e.at j)with
    |false=>rfl
    |true=>exact absurd (br hb).symm (he j)
   simp only[d,Bool.false_and];cases (H.set i o)[i]? <;> cases H[i]? <;> (repeat' split)<;>rfl
  ·rw[aQ (Ne.symm hi)]
theorem KD:∀(sh:eH) (a:AV),fq (H.set id o) e (fun _=>false) sh a=fq H e (fun _=>false) sh a:=by
 have d:∀{i:Nat},i≠id→(H.set id o)[i]? = H[i]? := fun h=>aQ (Ne.symm h);have g:∀ j,¬ (id=e.at j):=fun j h=>he j h.symm;intro sh a;cases a with
 | vec w i ae off n =>
  by_cases hi:i=id
  ·subst hi
   cases sh<;>(try rfl)<;>simp only[fq,mC,k_,and_false,if_false,g,false_and]<;>(repeat' split)<;>(first|rfl|simp_all)
  ·cases sh<;>(try rfl)<;>simp only[fq,d hi]
 | ptr i ae k row col =>
  by_cases hi:i=id
  ·subst hi
   cases sh<;>(try rfl)<;>simp only[fq,mC,k_,and_false,if_false,g,false_and]<;>(repeat' split)<;>(first|rfl|simp_all)
  ·cases sh<;>(try rfl)<;>simp only[fq,d hi]
 | map i =>
  by_cases hi:i=id
  ·subst hi
   cases sh<;>(try rfl)<;>simp only[fq,mC,k_,and_false,if_false,g,false_and]<;>(repeat' split)<;>(first|rfl|simp_all)
  ·cases sh<;>(try rfl)<;>simp only[fq,d hi]
 | clo f vs =>
  cases sh<;>(try rfl)
  ·cases vs<;>rfl
  ·simp only[fq,KC he]
 | lit v =>
  cases sh<;>(try rfl)<;>cases v<;>(try rfl)
  ·rename_i b n c
   cases b<;>cases n<;>cases c<;>rfl
  ·rename_i q
   cases q with
   |none=>rfl
   | some q =>
    obtain⟨b,o',w⟩:=q;cases o'<;>cases w<;>rfl
 |_=>cases sh<;>rfl
theorem C5:∀(d:List eH) (as:List AV),fk (H.set id o) e (fun _=>false) d as=fk H e (fun _=>false) d as
 | [],[]=>rfl
 | [],_::_=>rfl
 |_::_,[]=>rfl
 |sh::d,a::as=>by simp only[fk,KD he sh a,C5 d as]
theorem UP(sh:Sh)(a:AV):j_ (H.set id o) e (fun _=>false) sh a=j_ H e (fun _=>false) sh a:=by
 cases sh with
 |s x=>simp only[j_,KD he]
 | clo f caps =>
  cases a with
  |clo g vs=>simp only[j_,C5 he]
  |_=>rfl
theorem KE:∀(d:List Sh) (as:List AV),eo (H.set id o) e (fun _=>false) d as=eo H e (fun _=>false) d as
 | [],[]=>rfl
 | [],_::_=>rfl
 |_::_,[]=>rfl
 |sh::d,a::as=>by simp only[eo,UP he sh a,KE d as]
theorem UQ(sh:cd)(t:ah):gy (H.set id o) e (fun _=>false) sh t=gy H e (fun _=>false) sh t:=by
 cases sh with
 | box d =>
  cases t with
  |raw x=>cases x<;>simp only[gy,C5 he]
  |_=>rfl
 | eD l T B =>
  cases t with
  |raw x=>cases x<;>rfl
  |_=>rfl
 |_=>cases t<;>rfl
theorem KF:∀(os:List cd) (is:List Nat),id∉is→ja (H.set id o) e (fun _=>false) os is=ja H e (fun _=>false) os is
 | [],[],_=>rfl
 | [],_::_,_=>rfl
 |_::_,[],_=>rfl
 | sh::os,i::is,h=>by
  have h1:id≠i:=fun e=>h (by rw[e]; exact cW);simp only[ja,aQ h1,UQ he,KF os is fun hm=>h (c9 _ hm)]
end UO
theorem KG{α:Type}{i:Nat}{x:α}:∀(is:List Nat) (l xs:List α),i∉is→dZ (l.set i x) is xs=(dZ l is xs).set i x
 | [],_,_,_=>by simp[dZ]
 |_::_,_,[],_=>by simp[dZ]
 | j::is,l,y::xs,h=>by
  have h1:i≠j:=fun e=>h (by rw[e]; exact cW);simp only[dZ];rw[List.set_comm _ _ h1];exact KG is _ _ fun hm=>h (c9 _ hm)
theorem UR{H:List ah}{ids:List Nat}{id:Nat}{o:ah}(h:id∉ids):bJ (H.set id o) ids=bJ H ids:=by
 unfold bJ;rw[List.length_set];congr 1;refine List.map_congr_left fun i hi=>?_;unfold rA;rw[aQ fun e=>h (by rw[e]; exact hi)]
theorem US{sp:aJ}(B:jI sp=false)(hw:mG sp.ps 0=true){as:List AV}{H H':List ah}{b:Bool}{v:AV}(h:n4 sp as H=some (b,v,H')){id:Nat}{o:ah}(u:id<H.length)
  (hid:∀ ids,jb H (fun i=>as.getD i .undef) sp.ps []=some ids→id∉ids) :
  n4 sp as (H.set id o)=some (b,v,H'.set id o)∧∃ ids,jb H (fun i=>as.getD i .undef) sp.ps []=some ids∧jb (H.set id o) (fun i=>as.getD i .undef) sp.ps []=some ids:=by
 unfold n4 at h⊢;split at h
 ·cases h
 rename_i ids g;have d:=hid ids g;have q:=KB (o:=o) (acc:=[]) hw g d;refine⟨?_,ids,g,q⟩;rw[q];simp only[UR d];split at h
 ·cases h
 rename_i J;have y:rJ (jI sp) ids=fun _=>false:=by
  rw[B];rfl
 rw[y]at h⊢;have he:∀ j,(bJ H ids).at j≠id:=by
  intro j e;rcases jq j (bJ H ids).ids.length with k|k
  ·have := gx k
   rw[e]at this;exact d (eT this)
  ·rw [ru k] at e
   have:(bJ H ids).base=H.length:=rfl;omega
 rw[KF he _ _ d,KE he];split at h
 case h_2=>cases h
 rename_i h1 M;cases h;have I:∀ X,jd (bJ H ids) (H.set id o) X=(jd (bJ H ids) H X).set id o:=fun X=>by
  unfold jd;rw[show (bJ H ids).ids=ids from rfl,KG ids _ _ d,Hl _ _ (by rw[nP]; exact u)]
 rw[I]
def ar.c8(τ:ar)(sp:aJ):ar where
 pf g:=match ad g sp.f with
  |true=>false
  |false=>τ.pf g
 T:=τ.T
 W g as H:=match ad g sp.f with
  | true=>match n4 sp as H with
   |some r=>some r
   |none=>τ.W g as H
  |false=>τ.W g as H
 C g as H:=match ad g sp.f with
  | true=>(match jb H (fun i=>as.getD i .undef) sp.ps [] with
   |some ids=>ids
   |none=>[])++τ.C g as H
  |false=>τ.C g as H
 I:=τ.I
 N g:=match ad g sp.f with
  | true=>match τ.U g,jI sp with
   |false,false=>mG sp.ps 0
   |_,_=>false
  |false=>τ.N g
 U g:=match ad g sp.f with
  |true=>true
  |false=>τ.U g
def n5:List cd→List cd→Bool
 |_,[]=>true
 | [],o'::d=>o'.i_.isNone&&n5 [] d
 | o::os,o'::d=>(match o'.i_ with
  |none=>true
  | some l=>match o.i_ with
   |some l'=>ad l l'
   |none=>false)&&n5 os d
theorem C6:∀{os k:List cd},n5 os k=true→∀(j:Nat) o' l,k[j]? = some o'→o'.i_=some l→∃ o,os[j]? = some o∧o.i_=some l
 |_,[],_,j,_,_,d,_=>by simp at d
 | [],x::k,h,0,o',l,d,g=>by
  simp only[n5,ax]at h;simp at d;subst d;rw[g]at h;cases h.1
 | [],x::k,h,j+1,o',l,d,g=>by
  simp only[n5,ax]at h;obtain⟨o,h1,_⟩:=C6 h.2 j o' l (by simpa using d) g;simp at h1
 | o::os,x::k,h,0,o',l,d,g=>by
  simp only[n5,ax]at h;simp at d;subst d;have h1:=h.1;rw[g]at h1;simp only[]at h1;split at h1
  ·rename_i l' q
   have:=br h1;subst this;exact⟨o,rfl,q⟩
  ·cases h1
 | o::os,x::k,h,j+1,o',l,d,g=>by
  simp only[n5,ax]at h;exact C6 h.2 j o' l (by simpa using d) g
theorem KH(lens:cY):∀(os:List cd) (d:List G) (j:Nat) (o:ah),(cK lens os d)[j]? = some o→∃ sh d',os[j]? = some sh∧o=eP lens sh d'
 | [],d,j,o,h=>by simp[cK]at h
 | s::os,d,0,o,h=>by
  simp[cK]at h;exact⟨s,d,rfl,h.symm⟩
 | s::os,d,j+1,o,h=>by
  simp only[cK,QZ]at h;obtain⟨sh,d',h1,g⟩:=KH lens os _ j o h;exact⟨sh,d',by simpa using h1,g⟩
theorem UT{lens:cY}{os:List cd}{d:List G}{j:Nat}{o:ab} (h:(ak (cK lens os d))[j]? = some o):∃ sh,os[j]? = some sh∧o.label=sh.i_:=by
 simp only[ak,bZ]at h;obtain⟨o',h1,rfl⟩:=dQ.1 h;obtain⟨sh,d',g,rfl⟩:=KH lens os d j o' h1;exact⟨sh,g,ry _ _ _⟩
theorem KJ(lens:cY):∀(os:List cd) (d:List G) (j:Nat) (sh:cd),os[j]? = some sh→∃ o,(ak (cK lens os d))[j]? = some o∧o.label=sh.i_
 | [],d,j,o,h=>by simp at h
 | s::os,d,0,sh,h=>by
  simp at h;subst h;exact⟨(eP lens s d).den,by simp[cK,ak],ry _ _ _⟩
 | s::os,d,j+1,sh,h=>by
  obtain⟨o,h1,g⟩:=KJ lens os (en s.sz d) j sh (by simpa using h);exact⟨o,by simpa[cK,ak]using h1,g⟩
def yy(sp:aJ):Bool:=pE sp.cF&&(c_ sp.cF.length sp.fu.length&&n5 sp.cF sp.fu)
theorem UU{P:Program}{sp:aJ}(hp:yy sp=true) (hc:∀ d r,sp.F d=some r→dG P sp.f (sp.args0 d) (ak (sp.H0 d)) (sp.out r) (ak (sp.H1 r)))
  {as:List AV} {H H':List ah} {v:AV} (h:n4 sp as H=some (true,v,H')):dG P sp.f as (ak H) v (ak H'):=by
 simp only[yy,ax]at hp;obtain⟨hfr,hle,hlab⟩:=hp;have hle:=th hle;unfold n4 at h;split at h
 ·cases h
 rename_i ids hids;split at h
 ·cases h
 rename_i hck;simp only[ax]at hck;obtain⟨hnd,hup⟩:=hck;have hnd:=rD hnd;split at h
 case h_2=>cases h
 rename_i b g b' k h1 h2;simp only[aV,ba,rC,ax]at h;obtain⟨⟨⟨rfl,rfl⟩,h3⟩,rfl,rfl⟩:=h;cases hF:sp.F (g++k)with
 |none=>rw[hF]at h3; cases h3
 |some r =>
 simp only[l7];obtain⟨p0,p1,p2,p3⟩:=uL h1 k (cD sp.cF (g++k));have hd:en (lx sp.cF) (g++k)=k:=by rw[←p0]; exact nT g k
 have hlen:ids.length=(ak (sp.H0 (g++k))).length:=by rw[ev]; simp only[aJ.H0,p1,p2]
 have hat:∀ j,j<ids.length→ids[j]? = some ((bJ H ids).at j):=fun j q=>gx (e:=bJ H ids) q;have hobjs:∀ j,j<ids.length→∃ sh o g1 M,sp.cF[j]? = some sh∧H[(bJ H ids).at j]? = some o∧gy H (bJ H ids) (rJ (jI sp) ids) sh o=some (true,g1) ∧
   (sp.H0 (g++k))[j]? = some (eP (cD sp.cF (g++k)) sh (g1++M)) ∧
   (cD sp.cF (g++k)).ae j=sh.up∧(∀ ks v rows,o=.vec ks v rows→(cD sp.cF (g++k)).len j=rows.length)∧sh.up=0∧(bJ H ids).up j=rz o:=by
  intro j q;have hj':j<sp.cF.length:=by omega
  obtain⟨i,o,g1,M,N,y,I,B,W,q6⟩:=p3 j sp.cF[j] (bI hj');have q1':=N;rw[hat j q]at N;cases N;refine⟨sp.cF[j],o,g1,M,bI hj',y,I,B,W,q6,?_,?_⟩
  ·have := cM.1 hfr sp.cF[j] (nm hj')
   exact br this
  ·simp only [bL.up, bJ, cf, bZ]
   rw[q1'];simp only[eJ,l7,rA];rw[y]
 have hK:∀ E E0,E.H=ak H→aq E→ye (bJ H ids) (bif jI sp then (dv H.length).filter (ic ids) else []) E E0→E0.H=ak (sp.H0 (g++k)) →
   ia H (bJ H ids) (rJ (jI sp) ids) (cD sp.cF (g++k)) E E0:=by
  intro E E0 V HE O U;refine { hH:=V,HE:=HE,free:=fun i hi b n hb=>?_,cQ:=O.toKeepIn,obj:=fun j o ho=>?_ }
  ·refine O.Um i ?_ b n hb
   have hlt:=aL hb;rw[HE.len,V,ev]at hlt;unfold rJ at hi;split at hi
   ·rename_i J
    rw[J];simp only[cond_true,AS,List.mem_range];exact⟨hlt,hi⟩
   ·cases hi
  ·have q:j<ids.length:=by
    rcases jq j ids.length with hlt|hge
    ·exact hlt
    ·have h1 := aL ho
     have h2:=ru (e:=bJ H ids) hge;have h3:(bJ H ids).base=H.length:=rfl;omega
   refine⟨q,?_⟩;obtain⟨sh,o',g1,M,N,y,I,B,W,q6,q7,q8⟩:=hobjs j q;rw[ho]at y;cases y;obtain⟨r1,r2,r3⟩:=CS (lens:=cD sp.cF (g++k)) (d:=g1++M) I;exact⟨r1,⟨_,by rw[U]; exact bh B,by rw[W]; exact r2⟩,fun o0 h0=>by rw[U,bh B]at h0; cases h0; rw[CP,CQ I],q6,fun _=>by rw[W]; exact q7⟩
 have:=frame (P:=P) (f:=sp.f) (jI sp) (bif jI sp then (dv H.length).filter (ic ids) else []) (e:=bJ H ids) (H:=ak H) (args:=sp.args0 (g++k)) (H0:=ak (sp.H0 (g++k)))
  (H1:=ak (sp.H1 r)) (v:=sp.out r) (args0:=as) (hc _ _ hF) hlen (by rw[ev]; rfl) hnd ?_ ?_ (pF hup) ?_ (fun J=>by rw[J]; rfl) ?_ ?_ ?_ ?_ ?_ ?_ ?_
 ·rw [UN]
  exact this
 ·intro j o ho
  have q:j<ids.length:=by rw[hlen]; exact aL ho
  obtain⟨sh,o',g1,M,N,y,I,B,W,q6,q7,q8⟩:=hobjs j q;obtain⟨r1,r2,r3⟩:=CS (lens:=cD sp.cF (g++k)) (d:=g1++M) I;rw[bh B]at ho;cases ho;refine⟨o'.den,bh y,ab.A1 r2,fun v=>?_⟩;rw[r1,r2,q7,q8];simp only[aV];constructor
  ·rintro rfl
   exact⟨0,rfl,by omega⟩
  ·rintro ⟨u, rfl, rfl⟩
   omega
 ·intro E E0 V HE O U j o ho
  have q:j<ids.length:=by rw[hlen]; exact aL ho
  obtain⟨sh,o',g1,M,N,y,I,B,W,q6,q7,q8⟩:=hobjs j q;rw[bh B]at ho;cases ho;exact Kc (hK E E0 V HE O U) I M q (fun l hl=>O.i_ j _ l (by rw[U]; exact bh B) (by rw[ry,hl])) (HE.obj _ _ (by rw[V]; exact bh y))
 ·rw [ev, ev]
  simp only[aJ.H0,aJ.H1,C1];exact hle
 ·intro J
  simp only[jI,ax]at J;exact UL (Kw J.1)
 ·intro J
  simp only[jI,ax]at J;exact Kx J.2
 ·intro i hi
  cases J:jI sp with
  | true =>
   rw[J]at hi;simp only[cond_true,AS]at hi;exact Kh hi.2
  | false =>
   rw[J]at hi;simp at hi
 ·intro j o o' ho ho'
  have q:j<ids.length:=by rw[hlen]; exact aL ho
  obtain⟨sh,o2,g1,M,N,y,I,B,_⟩:=hobjs j q;rw[bh B]at ho;rw[bh y]at ho';cases ho;cases ho';rw[J9 I,ry]
 ·intro j o l ho hl
  obtain⟨sh,h5,h6⟩:=UT (show (ak (cK (cD sp.fu r) sp.fu r))[j]? = some o from ho);obtain⟨sh0,h7,h8⟩:=C6 hlab j sh l h5 (by rw[←h6,hl]);obtain⟨o0,h9,h10⟩:=KJ (cD sp.cF (g++k)) sp.cF (g++k) j sh0 h7;exact⟨o0,h9,by rw[h10,h8]⟩
 ·intro j o o' ho ho'
  have q:j<ids.length:=by rw[hlen]; exact aL ho
  obtain⟨sh,o2,g1,M,N,y,I,B,_⟩:=hobjs j q;rw[bh B]at ho;rw[bh y]at ho';cases ho;cases ho';rw[CQ I,CP]
 ·intro E E0 cs V HE O U hr
  have hS:=(uK (hK E E0 V HE O U) h2 []).2.2.2 cs hr;rw[cO]at hS;simp only[aJ.args0,hd];exact hS
theorem UW{sp:aJ}{as:List AV}{H H':List ah}{v:AV}{b:Bool}{A:Nat}(h:n4 sp as H=some (b,v,H'))(g:A<H.length)(k:∀ ids,jb H (fun i=>as.getD i .undef) sp.ps []=some ids→A∉ids):H'[A]? = H[A]? := by
 unfold n4 at h;split at h
 ·cases h
 rename_i ids d;split at h
 ·cases h
 split at h
 case h_2=>cases h
 cases h;unfold jd;rw[cI (by rw[nP]; exact g)];exact yf _ _ _ _ (k ids d)
theorem au.c8{P:Program}{τ:ar}(h:au P τ){sp:aJ}(hb:eX P sp.f=true)(V:yy sp=true)
  (hc:∀ d r,sp.F d=some r→dG P sp.f (sp.args0 d) (ak (sp.H0 d)) (sp.out r) (ak (sp.H1 r))):au P (τ.c8 sp):=by
 refine⟨h.T,fun g as H b v H' k N=>?_,fun g as H b v H' k A q u=>?_,fun g as H t k Q hQ=>?_,fun g y as H=>?_,fun g B as H b v H' k id o u hid=>?_⟩
 rotate_left 2
 ·obtain ⟨g1, v, H', g2, g3, g4⟩ := h.I g as H t k Q hQ
  refine⟨g1,v,H',g2,fun A q u=>g3 A (fun hm=>q ?_) u,g4⟩;simp only[ar.c8];split
  ·exact wO _ hm
  ·exact hm
 ·simp only [ar.c8] at y ⊢
  cases e:ad g sp.f with
  |true=>rw[e]at y; cases y
  | false =>
   rw[e]at y;exact h.F.1 g y as H
 ·simp only [ar.c8] at B k hid ⊢
  cases e:ad g sp.f with
  | false =>
   rw[e]at B k hid;exact h.F.2 g B as H b v H' k id o u hid
  | true =>
   rw[e]at B k hid;simp only[]at B k hid⊢;split at B
   case h_2=>cases B
   rename_i y hs;have U:∀ H,τ.W g as H=none:=fun H=>(h.F.1 g y as H).1;have O:∀ H,τ.C g as H=[]:=fun H=>(h.F.1 g y as H).2;rw[U]at k;split at k
   case h_2=>cases k
   rename_i r J;cases k;obtain⟨q1,ids,q2,q3⟩:=US hs B J (o:=o) u fun ids M hm=>hid (ql _ (by rw[M]; exact hm));rw[q1];refine⟨rfl,?_⟩;rw[q2,q3,O,O]
 simp only[ar.c8]at k;split at k
 ·rename_i e
  have e:=br e;subst e;split at k
  ·rename_i r J
   cases k;subst N;exact⟨hb,UU V hc J⟩
  ·exact h.W _ as H b v H' k N
 ·exact h.W g as H b v H' k N
 simp only[ar.c8]at k q;split at k
 ·rename_i e
  rw[e]at q;simp only[]at q;split at k
  ·rename_i r J
   cases k;exact UW J u fun ids M hm=>q (ql _ (by rw[M]; exact hm))
  ·exact h.C g as H b v H' k A (fun hm=>q (wO _ hm)) u
 ·rename_i e
  rw[e]at q;exact h.C g as H b v H' k A q u
end Go.AL

namespace Go.AL
open Go
variable [Dr]
def aA{β:Type}(t:Option (List G))(k:List G→Option β):Option β:=bif t.isSome then k (t.getD []) else none
def iK{β:Type}(b:Bool)(t:Option (List G))(k:List G→Option β):Option β:=bif b then k (t.getD []) else none
def aN{β:Type}(b:Bool)(r:Option (Nat × List G))(k:Nat→List G→Option β):Option β:=bif (b&&r.isSome) then k (CX r) (CY r) else none
def UX:Kd→G→G
 |.int _,g=>.i g.int
 |.str,g=>.s g.str
 |.bool,g=>.t g.bool
 |.list _,g=>.l g.rows
def aH:List Kd→List G→List G
 | [],_=>[]
 |k::ks,r=>UX k (r.headD default)::aH ks r.tail
def ar.fL(τ:ar)(d:List FuncId):ar:={ τ with pf:=fun g=>match d.any (fun x=>ad x g)with
 |true=>false
 |false=>τ.pf g }
def ar.il(τ:ar)(d:List FuncId):ar:={ τ with pf:=fun g=>match d.any (fun x=>ad x g)with
 |true=>true
 |false=>τ.pf g }
theorem au.il{P:Program}{τ:ar}(h:au P τ)(d:List FuncId):au P (τ.il d):=⟨h.T,h.W,h.C,h.I,h.F⟩
theorem au.fL{P:Program}{τ:ar}(h:au P τ)(d:List FuncId):au P (τ.fL d):=⟨h.T,h.W,h.C,h.I,h.F⟩
inductive iL (st:List G→Option (Option Nat × List G)):Nat→List G→Nat→List G→Prop
 |stop {d d':List G} {x:Nat} (h:st d=some (some x,d')):iL st 1 d x d'
 |next {d d1 d':List G} {x n:Nat} (h:st d=some (none,d1)) (h':iL st n d1 x d'):iL st (n+1) d x d'
theorem iL.iter{st:List G→Option (Option Nat × List G)}{n:Nat}{d d':List G}{x:Nat}(h:iL st n d x d'):∀ m,n≤m→pC st m d=some (x,d'):=by
 induction h with
 | stop h =>
  intro m hm;cases m with
  |zero=>omega
  |succ m=>simp only[pC,h]
 | next h _ g =>
  intro m hm;cases m with
  |zero=>omega
  |succ m=>simp only[pC,h]; exact g m (by omega)
theorem iL.UY{st:List G→Option (Option Nat × List G)}{n:Nat}{d d':List G}{x:Nat}(h:iL st n d x d')(g:n≤1000000):bT st d=some (x,d'):=h.iter _ g
end Go.AL

namespace Go.AL
open Go
variable [Dr]
inductive Hint where
 |freeze (slot:Nat)
 |KK (slot:Nat) (ks:List Kd)
 |KL (slot c:Nat) (ks:List Kd)
 |yz (slot:Nat)
 |KM (slot c:Nat)
 |hole (ks:List Kd)
 |rK
 |aG (slot l:Nat)
 |yA (slot:Nat)
 |mm (slot l:Nat) (KI VI:Ct)
 |rL (slot c l:Nat) (KI VI:Ct)
 |forget (id:Nat)
 |KN (slot c:Nat) (ks:List Kd)
def yB(slot:Nat)(s:al):Bool × al :=
 match s.fr.getD slot .undef with
 | .vec w id ae off n=>match s.H[id]? with
  |some (.vec ks v rows)=>if ae=v∧off=0∧w=ks.length then (ad n rows.length,⟨s.fr.set slot (.listF ks rows),s.H.set id (.raw .dead)⟩) else (true,s)
  |_=>(true,s)
 |_=>(true,s)
def C7(slot c:Nat)(ks:List Kd)(s:al):Bool × al :=
 match s.fr.getD slot .undef with
 | .ptr id _ _ _ _=>match s.H[id]? with
  | some (.raw (.box cells))=>match cells[c]? with
   | some a=>match isNil a with
    |true=>(true,⟨s.fr,s.H.set id (.raw (.box (cells.set c (.vec ks.length s.H.length 0 0 0))))++[.vec ks 0 []]⟩)
    |false=>(true,s)
   |none=>(true,s)
  |_=>(true,s)
 |_=>(true,s)
def yC(slot c:Nat)(s:al):Bool × al :=
 match s.fr.getD slot .undef with
 | .ptr id _ _ _ _=>match s.H[id]? with
  | some (.raw (.box cells))=>match cells[c]? with
   | some (.vec w d ae off n)=>match s.H[d]? with
    |some (.vec ks v rows)=>if ae=v∧off=0∧w=ks.length then (ad n rows.length,⟨s.fr,(s.H.set d (.raw .dead)).set id (.raw (.box (cells.set c (.listF ks rows))))⟩) else (true,s)
    |_=>(true,s)
   |_=>(true,s)
  |_=>(true,s)
 |_=>(true,s)
def yD(slot:Nat)(s:al):Bool × al :=
 match s.fr.getD slot .undef with
 | .vec w id ae off n=>match s.H[id]? with
  |some (.vec ks v rows)=>if ae=v∧off=0∧w=ks.length then (c_ n rows.length,⟨s.fr.set slot (.vec w id (v+1) 0 n),s.H.set id (.vec ks (v+1) (rows.take n))⟩) else (true,s)
  |_=>(true,s)
 |_=>(true,s)
def yE(slot l:Nat)(s:al):Bool × al :=
 match s.fr.getD slot .undef with
 | .map id=>match s.H[id]? with
  |some (.map K (.one (.list ks)) [] cl)=>(mq (ak s.H) l,⟨s.fr,s.H.set id (.aG l K ks [] cl)⟩)
  |_=>(true,s)
 |_=>(true,s)
def yF(rows:List (List G)):Bool:=rows.all fun r=>(gi r 3).bool
def yG(slot:Nat)(s:al):Bool × al :=
 match s.fr.getD slot .undef with
 | .map id=>match s.H[id]? with
  |some (.aG _ K ks rows cl)=>(yF rows,⟨s.fr,s.H.set id (.map K (.one (.list ks)) rows cl)⟩)
  |_=>(true,s)
 |_=>(true,s)
def yH(slot l:Nat)(KI VI:Ct)(s:al):Bool × al :=
 match s.fr.getD slot .undef with
 | .map id=>match s.H[id]? with
  |some (.map K _ [] cl)=>(mq (ak s.H) l,⟨s.fr,s.H.set id (.mm l K KI VI [] [] cl)⟩)
  |_=>(true,s)
 |_=>(true,s)
def yI(slot c l:Nat)(KI VI:Ct)(s:al):Bool × al :=
 match s.fr.getD slot .undef with
 | .ptr a _ _ _ _=>match s.H[a]? with
  | some (.raw (.box cells))=>match cells[c]? with
   | some (.map id)=>match s.H[id]? with
    |some (.map K _ rows cl)=>(rB (mq (ak s.H) l) rows.isEmpty,⟨s.fr,s.H.set id (.mm l K KI VI [] [] cl)⟩)
    |_=>(true,s)
   |_=>(true,s)
  |_=>(true,s)
 |_=>(true,s)
def C8(id:Nat)(s:al):Bool × al :=
 match s.H[id]? with
 |some (.raw (.box _))=>(true,⟨s.fr,s.H.set id (.vec [] 1 [])⟩)
 |some (.map ..)=>(true,⟨s.fr,s.H.set id (.vec [] 1 [])⟩)
 |some (.mm ..)=>(true,⟨s.fr,s.H.set id (.vec [] 1 [])⟩)
 |_=>(true,s)
def C9(slot c:Nat)(ks:List Kd)(s:al):Bool × al :=
 match s.fr.getD slot .undef with
 | .ptr id _ _ _ _=>match s.H[id]? with
  | some (.raw (.box cells))=>match cells[c]? with
   | some (.list w rows)=>match bu ks rows with
    |some gs=>if w=ks.length then (true,⟨s.fr,s.H.set id (.raw (.box (cells.set c (.listF ks gs))))⟩) else (true,s)
    |none=>(true,s)
   |_=>(true,s)
  |_=>(true,s)
 |_=>(true,s)
def yJ:Hint→al→Bool × al
 |.freeze i,s=>yB i s
 | .KK i ks,s=>match isNil (s.fr.getD i .undef) with
  |true=>(true,uF i ks s)
  |false=>(true,s)
 |.KL i c ks,s=>C7 i c ks s
 |.yz i,s=>yD i s
 |.KM i c,s=>yC i c s
 |.hole ks,s=>(true,⟨s.fr,s.H++[.vec ks 0 []]⟩)
 |.rK,s=>(true,⟨s.fr,s.H++[.raw .dK]⟩)
 |.aG i l,s=>yE i l s
 |.yA i,s=>yG i s
 |.mm i l KI VI,s=>yH i l KI VI s
 |.rL i c l KI VI,s=>yI i c l KI VI s
 |.forget i,s=>C8 i s
 |.KN i c ks,s=>C9 i c ks s
def uT:List Hint→al→Bool × al
 | [],s=>(true,s)
 | h::d,s=>match yJ h s with
  | (b,s1)=>match uT d s1 with
   |(g,s2)=>(b&&g,s2)
theorem UZ{m:Nat}{slot:Nat}{s:al}(h:(yB slot s).1=true):bt m s.den (yB slot s).2.den:=by
 unfold yB at h⊢;split
 case h_2=>exact bt.refl _
 rename_i w id ae off n M;split
 case h_2=>exact bt.refl _
 rename_i ks v rows hid;split
 case isFalse=>exact bt.refl _
 rename_i y;obtain⟨rfl,rfl,rfl⟩:=y;simp only[M,hid,and_self,if_true]at h;have hn:=br h;subst hn;intro E a d;have hH:E.H=ak s.H:=d.H;have hle:=Env.qv d.heap id;have V:=aq.drop d.heap id fun o ho=>by
  rw[show E.H[id]? = some (.vec ks.length ae (rows.map (aK ks))) by rw[hH]; exact bh hid]at ho;cases ho;rfl
 have I:ak (s.H.set id (.raw .dead))=E.H.set id .dead:=by rw[c7,hH]; rfl
 refine⟨E.loc.set id none,E.X,?_,?_⟩
 ·simp only [al.den]
  rw[I];refine⟨rfl,?_,d.defers,V⟩;refine yp (dw hle _ d.fr) fun c y=>?_;have u:=CV d.fr y;rw[show s.den.fr=s.fr from rfl,M]at u;have J:E.H[id]? = some (.vec ks.length ae (rows.map (aK ks))):=by rw[hH]; exact bh hid
  have ho:=d.heap.obj id _ J;rw[iR];simp only[rel]at u⊢;obtain⟨⟨base,cap,rfl,U,_⟩,_,B⟩:=u;obtain⟨q1,q2⟩:=B ⟨_,J,rfl⟩;have N:eV (rows.map (aK ks)):=by
   intro r u;obtain⟨g,_,rfl⟩:=dD.1 u;exact fE ks g
  refine⟨N,base,cap,by simp,by simpa using U,?_⟩;simp only[aM]at ho;rcases ho with⟨h1,O⟩|⟨b,mm,h1,O,B,_,h4⟩
  ·exact .inl O
  ·obtain ⟨g1, o, g2, g3⟩ := q2 b mm h1
   by_cases hm:rows=[]
   ·subst hm; exact .inl rfl
   ·right
    have:0<rows.length:=by cases rows with|nil=>exact(hm rfl).elim|cons _ _=>simp
    simp at B;have ho:=g2 (by omega);simp at ho;subst ho;simp only[jQ]at g3;refine⟨b,0,g3.1,⟨(d.heap.lt id b mm h1).1,?_,(d.heap.lt id b mm h1).2⟩,kF hle.toC _ N rfl h4⟩;rintro(⟨j,c',q⟩|⟨l,k,c',q⟩)
    case inr=>exact d.heap.cN _ _ _ _ _ _ h1 q
    simp only[dR]at q;split at q
    ·split at q<;>cases q
    ·rename_i W
     exact W (d.heap.inj _ _ _ _ _ h1 q)
 ·simp only [al.den]
  rw[I];exact hle.toM
theorem U0{m:Nat}{slot c:Nat}{ks:List Kd}{s:al}:bt m s.den (C7 slot c ks s).2.den:=by
 unfold C7;split
 case h_2=>exact bt.refl _
 rename_i id ae k row col hsl;split
 case h_2=>exact bt.refl _
 rename_i cells hid;split
 case h_2=>exact bt.refl _
 rename_i a0 ha0;split
 case h_2=>exact bt.refl _
 rename_i hnil;intro E a g;have hH:E.H=ak s.H:=g.H;have hlen:E.H.length=s.H.length:=by rw[hH,ev]
 have hle:E.le (E.push E.w (.vec ks.length 0 []) none):=Env.ju g.heap.len (Ext.refl _) (fun b n h=>by cases h);have hobj:aM (E.push E.w (.vec ks.length 0 []) none) E.H.length (.vec ks.length 0 []):=by
  simp only[aM,Env.push];refine .inl ⟨?_,trivial⟩;rw[iz (by rw[g.heap.len]; exact aB _),g.heap.len,ng];rfl
 have u:aq (E.push E.w (.vec ks.length 0 []) none):=aq.push g.heap (Ext.refl _) (fun b n h=>by cases h) hobj;generalize y:E.push E.w (.vec ks.length 0 []) none=d at hle u;have J:d.w=E.w:=by rw[←y]; rfl
 have M:d.X=E.X:=by rw[←y]; rfl
 have N:d.H=ak (s.H++[.vec ks 0 []]):=by rw[←y,gM,←hH]; rfl
 have V:id<s.H.length:=aL hid;have B:d.H[id]? = some (.box cells):=by
  rw[N];exact bh (H:=s.H++[.vec ks 0 []]) (o:=.raw (.box cells)) (by rw[cI V]; exact hid)
 have ho:=u.obj id _ B;simp only[aM]at ho;obtain⟨b,n,h1,h2,O⟩:=ho;have W:∀ v,(ab.box (cells.set c (.vec ks.length s.H.length 0 0 0))).aD = some v→(ab.box cells).aD = some v:=fun v U=>by simpa[ab.aD]using U
 have I:=Env.mo (o':=.box (cells.set c (.vec ks.length s.H.length 0 0 0))) (w':=d.w) u B h1 W rfl (fun _ _=>rfl);have hnew:d.H[s.H.length]? = some (.vec ks.length 0 []):=by
  rw[N];have e:(s.H++[ah.vec ks 0 []])[s.H.length]? = some (ah.vec ks 0 []):=by rw[iz (aB _),ng]; rfl
  exact bh e
 have hloc:d.loc[s.H.length]? = some none:=by
  rw[←y];simp only[Env.push];rw[iz (by rw[g.heap.len]; omega),g.heap.len,hlen,ng];rfl
 have hrel:∀ v,rel d a0 v→rel { w:=d.w,H:=d.H.set id (.box (cells.set c (.vec ks.length s.H.length 0 0 0))),loc:=d.loc,X:=d.X } (.vec ks.length s.H.length 0 0 0) v:=by
  intro v U;obtain⟨base,rfl⟩:=JU hnil U;simp only[rel];have hne:id≠s.H.length:=by omega
  refine⟨⟨base,0,rfl,aB _,fun h=>absurd h (qo _)⟩,⟨.vec ks.length 0 [],by rw[aQ hne]; exact hnew,rfl,fun v h=>er _⟩,fun _=>⟨fun _=>⟨trivial,trivial,base,rfl⟩,fun b m hb=>?_⟩⟩;rw[hloc]at hb;cases hb
 have hHR2:=aq.set (w':=d.w) u B h1 W rfl (fun _ _=>rfl) (by
  simp only[aM];refine⟨b,n,h1,by simpa using h2,?_⟩;rw[iD]at O⊢;intro i x q;rw[dR]at q;split at q
  ·rename_i e
   subst e;split at q
   ·cases q
    obtain⟨v,g1,g2,g3⟩:=O c a0 ha0;exact⟨v,g1,g2,hrel v g3⟩
   ·cases q
  ·obtain ⟨v, g1, g2, g3⟩ := O i x q
   exact⟨v,g1,g2,bP I x g3⟩)
 have hden:ak (s.H.set id (.raw (.box (cells.set c (.vec ks.length s.H.length 0 0 0))))++[.vec ks 0 []])=d.H.set id (.box (cells.set c (.vec ks.length s.H.length 0 0 0))):=by
  rw[N,gM,gM,c7,Hl _ _ (by rw[ev]; exact V)];rfl
 refine⟨d.loc,E.X,?_,?_⟩
 ·simp only [al.den]
  rw[hden];rw[J,M]at hHR2;refine⟨rfl,?_,g.defers,hHR2⟩;have:=dw I _ (dw hle _ g.fr);rw[J,M]at this;exact this
 ·simp only [al.den]
  rw[hden];have:=(hle.trans I).toM (m:=m);rw[J,M]at this;exact this
theorem U1{m:Nat}{slot c:Nat}{s:al}(h:(yC slot c s).1=true):bt m s.den (yC slot c s).2.den:=by
 unfold yC at h⊢;split
 case h_2=>exact bt.refl _
 rename_i id ver0 k row col hsl;split
 case h_2=>exact bt.refl _
 rename_i cells hid;split
 case h_2=>exact bt.refl _
 rename_i w g ae off n U;split
 case h_2=>exact bt.refl _
 rename_i ks v rows M;split
 case isFalse=>exact bt.refl _
 rename_i hc;obtain⟨rfl,rfl,rfl⟩:=hc;simp only[hsl,hid,U,M,and_self,if_true]at h;have hn:=br h;subst hn;intro E a q;have hH:E.H=ak s.H:=q.H;have hne:id≠g:=fun e=>by
  rw[e,M]at hid;cases hid
 have W:E.H[id]? = some (.box cells):=by rw[hH]; exact bh hid
 have V:E.H[g]? = some (.vec ks.length ae (rows.map (aK ks))):=by rw[hH]; exact bh M
 obtain⟨b0,n0,k1,k2,k3⟩:=q.heap.obj id _ W;rw[iD]at k3;obtain⟨cv,c1,c2,c3⟩:=k3 c _ U;have hfr:=II q.heap V c3;have hle:=Env.qv q.heap g;have I:=aq.drop q.heap g fun o ho=>by
  rw[V]at ho;cases ho;rfl
 generalize y:({ w:=E.w,H:=E.H.set g .dead,loc:=E.loc.set g none,X:=E.X }:Env)=d at hle I hfr;have J:d.w=E.w:=by rw[←y]
 have O:d.X=E.X:=by rw[←y]
 have N:d.H[id]? = some (.box cells):=by
  rw[←y];show (E.H.set g .dead)[id]? = _
  rw[aQ (Ne.symm hne)];exact W
 have hl1:d.loc[id]? = some (some (b0,n0)):=by
  rw[←y];show (E.loc.set g none)[id]? = _
  rw[aQ (Ne.symm hne)];exact k1
 obtain⟨b,n,h1,h2,h3⟩:=I.obj id _ N;have hbb:b=b0:=by
  rw[hl1]at h1;cases h1;rfl
 subst hbb;have hver:∀ v,(ab.box (cells.set c (.listF ks rows))).aD = some v→(ab.box cells).aD = some v:=fun v hv=>by simpa[ab.aD]using hv
 have B:=Env.mo (o':=.box (cells.set c (.listF ks rows))) (w':=d.w) I N h1 hver rfl (fun _ _=>rfl);have hHR2:=aq.set (w':=d.w) I N h1 hver rfl (fun _ _=>rfl) (by
  simp only[aM];refine⟨b,n,h1,by simpa using h2,?_⟩;rw[iD]at h3⊢;intro i x u;rw[dR]at u;split at u
  ·rename_i e
   subst e;split at u
   ·cases u
    refine⟨cv,by rw[show ({ w:=d.w,H:=_,loc:=d.loc,X:=d.X }:Env).w=E.w from J]; exact c1,c2,bP B _ hfr⟩
   ·cases u
  ·obtain ⟨v, g1, g2, g3⟩ := h3 i x u
   exact⟨v,g1,g2,bP B x g3⟩)
 have hden:ak ((s.H.set g (.raw .dead)).set id (.raw (.box (cells.set c (.listF ks rows)))))=d.H.set id (.box (cells.set c (.listF ks rows))):=by
  rw[c7,c7,←hH,←y];rfl
 refine⟨d.loc,E.X,?_,?_⟩
 ·simp only [al.den]
  rw[hden];rw[J,O]at hHR2;refine⟨rfl,?_,q.defers,hHR2⟩;have:=dw B _ (dw hle _ q.fr);rw[J,O]at this;exact this
 ·simp only [al.den]
  rw[hden];have:=(hle.trans B).toM (m:=m);rw[J,O]at this;exact this
theorem U2{m:Nat}{slot c:Nat}{ks:List Kd}{s:al}:bt m s.den (C9 slot c ks s).2.den:=by
 unfold C9;split
 case h_2=>exact bt.refl _
 rename_i id W k row col hsl;split
 case h_2=>exact bt.refl _
 rename_i cells hid;split
 case h_2=>exact bt.refl _
 rename_i w rows I;split
 case h_2=>exact bt.refl _
 rename_i gs M;split
 case isFalse=>exact bt.refl _
 rename_i hw;subst hw;intro E a d;have hH:E.H=ak s.H:=d.H;have q:E.H[id]? = some (.box cells):=by rw[hH]; exact bh hid
 obtain⟨b,n,h1,N,u⟩:=d.heap.obj id _ q;have y:∀ v,(ab.box (cells.set c (.listF ks gs))).aD = some v→(ab.box cells).aD = some v:=fun v O=>by simpa[ab.aD]using O
 have h:=Env.mo (o':=.box (cells.set c (.listF ks gs))) (w':=E.w) d.heap q h1 y rfl (fun _ _=>rfl);have J:=aq.set (w':=E.w) d.heap q h1 y rfl (fun _ _=>rfl) (by
  simp only[aM];refine⟨b,n,h1,by simpa using N,?_⟩;rw[iD]at u⊢;intro i x g;rw[dR]at g;split at g
  ·rename_i e
   subst e;split at g
   ·cases g
    obtain⟨U,c1,c2,V⟩:=u c _ I;refine⟨U,c1,c2,bP h _ ?_⟩;rw[iR,pj M];exact V
   ·cases g
  ·obtain ⟨v, g1, g2, g3⟩ := u i x g
   exact⟨v,g1,g2,bP h x g3⟩)
 have B:ak (s.H.set id (.raw (.box (cells.set c (.listF ks gs)))))=E.H.set id (.box (cells.set c (.listF ks gs))):=by rw[c7,←hH]; rfl
 refine⟨E.loc,E.X,?_,?_⟩
 ·simp only [al.den]
  rw[B];exact⟨rfl,dw h _ d.fr,d.defers,J⟩
 ·simp only [al.den]
  rw[B];exact h.toM
theorem U3{m:Nat}{slot:Nat}{s:al}(h:(yD slot s).1=true):bt m s.den (yD slot s).2.den:=by
 unfold yD at h⊢;split
 case h_2=>exact bt.refl _
 rename_i w id ae off n N;split
 case h_2=>exact bt.refl _
 rename_i ks v rows hid;split
 case isFalse=>exact bt.refl _
 rename_i B;obtain⟨rfl,rfl,rfl⟩:=B;simp only[N,hid,and_self,if_true]at h;have hn:=th h;intro E a d;have hH:E.H=ak s.H:=d.H;have y:E.H[id]? = some (.vec ks.length ae (rows.map (aK ks))):=by rw[hH]; exact bh hid
 have ho:=d.heap.obj id _ y;obtain⟨l,I⟩:∃ l,E.loc[id]? = some l:=by
  have:id<E.loc.length:=by rw[d.heap.len]; exact aL y
  exact⟨_,bI this⟩
 have O:E.loc.set id l=E.loc:=ln I;have M:ak (s.H.set id (.vec ks (ae+1) (rows.take n)))=E.H.set id (.vec ks.length (ae+1) ((rows.take n).map (aK ks))):=by rw[c7,hH]; rfl
 have hlc:∀ b n,l=some (b,n)→E.w.heap.size≤b∨∃ m,E.loc[id]? = some (some (b,m)):=fun b n hb=>.inr ⟨n,by rw[I,hb]⟩;have U:∀ v u,(ab.vec ks.length (ae+1) ((rows.take n).map (aK ks))).aD = some v→(ab.vec ks.length ae (rows.map (aK ks))).aD = some u→u≤v:=by
  intro v u h1 k;simp[ab.aD]at h1 k;omega
 have V:∀ v,(ab.vec ks.length (ae+1) ((rows.take n).map (aK ks))).aD = some v→∀ u,(ab.vec ks.length ae (rows.map (aK ks))).aD = some u→u<v:=by
  intro v h1 u k;simp[ab.aD]at h1 k;omega
 have hle:=Env.jv (o':=.vec ks.length (ae+1) ((rows.take n).map (aK ks))) (l:=l) (w':=E.w) y d.heap.len (aB _) (fun _ _ _=>rfl) hlc (.inr V) U (fun _ h=>by simp[ab.aD]at h);have W:=aq.kH (o':=.vec ks.length (ae+1) ((rows.take n).map (aK ks))) (l:=l) (w':=E.w) d.heap y (aB _) (fun _ _ _=>rfl) (fun b n hb=>.inr ⟨n,by rw[I,hb]⟩) (.inr V) U (fun _ h=>by simp[ab.aD]at h) (by
  rw[O]at hle⊢;simp only[aM]at ho⊢;rcases ho with⟨h1,k⟩|⟨b,mm,h1,k,J,h4,h5⟩
  ·left
   refine⟨h1,?_⟩;have:rows=[]:=by simpa using k
   rw[this];simp
  ·right
   refine⟨b,mm,h1,k,by simp at J⊢; omega,?_,?_⟩
   ·intro r q
    obtain⟨g,_,rfl⟩:=dD.1 q;exact fE ks g
   ·rw [lf] at h5 ⊢
    intro i r hi;simp only[bZ,lX]at hi;split at hi
    ·obtain ⟨g1, g2⟩ := h5 i r (by simpa using hi)
     exact⟨g1,tz (fun a c q=>bP hle a q) rfl g2⟩
    ·simp at hi)
 rw[O]at hle W;refine⟨E.loc,E.X,?_,?_⟩
 ·simp only [al.den]
  rw[M];refine⟨rfl,?_,d.defers,W⟩;refine yp (dw hle _ d.fr) fun c B=>?_;have q:=CV d.fr B;rw[show s.den.fr=s.fr from rfl,N]at q;simp only[rel]at q⊢;obtain⟨h1,k,J⟩:=q;exact⟨h1,⟨.vec ks.length (ae+1) ((rows.take n).map (aK ks)),bB (aL y),rfl,fun v hv=>by simp[ab.aD]at hv; omega⟩,fun _=>J ⟨_,y,rfl⟩⟩
 ·simp only [al.den]
  rw[M];exact hle.toM
theorem U4{m:Nat}{ks:List Kd}{s:al}:bt m s.den (al.den ⟨s.fr,s.H++[.vec ks 0 []]⟩):=fun E a d=>by
 have hH:E.H=ak s.H:=d.H;have hle:E.le (E.push E.w (.vec ks.length 0 []) none):=Env.ju d.heap.len (Ext.refl _) (fun b n h=>by cases h);have k:aM (E.push E.w (.vec ks.length 0 []) none) E.H.length (.vec ks.length 0 []):=by
  simp only[aM,Env.push];refine .inl ⟨?_,trivial⟩;rw[iz (by rw[d.heap.len]; exact aB _),d.heap.len,ng];rfl
 have q:aq (E.push E.w (.vec ks.length 0 []) none):=aq.push d.heap (Ext.refl _) (fun b n h=>by cases h) k;have g:(al.den ⟨s.fr,s.H++[.vec ks 0 []]⟩).H=E.H++[.vec ks.length 0 []]:=by
  rw[hH];simp[al.den,ak,ah.den]
 refine⟨E.loc++[none],E.X,?_,?_⟩
 ·rw [g]
  exact⟨g.symm,dw hle _ d.fr,d.defers,q⟩
 ·rw [g]
  exact hle.toM
theorem U5{m:Nat}{s:al}:bt m s.den (al.den ⟨s.fr,s.H++[.raw .dK]⟩):=fun E a d=>by
 have hH:E.H=ak s.H:=d.H;have hle:E.le (E.push E.w (.dK) none):=Env.ju d.heap.len (Ext.refl _) (fun b n h=>by cases h);have k:aM (E.push E.w (.dK) none) E.H.length (.dK):=by
  simp only[aM,Env.push];rw[iz (by rw[d.heap.len]; exact aB _),d.heap.len,ng];rfl
 have q:aq (E.push E.w (.dK) none):=aq.push d.heap (Ext.refl _) (fun b n h=>by cases h) k;have g:(al.den ⟨s.fr,s.H++[.raw .dK]⟩).H=E.H++[.dK]:=by
  rw[hH];simp[al.den,ak,ah.den]
 refine⟨E.loc++[none],E.X,?_,?_⟩
 ·rw [g]
  exact⟨g.symm,dw hle _ d.fr,d.defers,q⟩
 ·rw [g]
  exact hle.toM
theorem U6{m:Nat}{slot l:Nat}{s:al}(h:(yE slot l s).1=true):bt m s.den (yE slot l s).2.den:=by
 unfold yE at h⊢;split
 case h_2=>exact bt.refl _
 rename_i id u;split
 case h_2=>exact bt.refl _
 rename_i K ks cl hid;simp only[u,hid]at h;intro E a d;have hH:E.H=ak s.H:=d.H;have q:E.H[id]? = some (.map [] cl):=by rw[hH]; exact bh hid
 obtain⟨h1,k⟩:=Se (w:=ks.length) d.heap q (by rw[hH]; exact h);have g:ak (s.H.set id (.aG l K ks [] cl))=E.H.set id (.aG l ks.length [] cl):=by rw[c7,hH]; rfl
 refine⟨E.loc,E.X,?_,?_⟩
 ·simp only [al.den]
  rw[g];exact⟨rfl,dw k _ d.fr,d.defers,h1⟩
 ·simp only [al.den]
  rw[g];exact k.toM
theorem U7{m:Nat}{slot l:Nat}{KI VI:Ct}{s:al}(h:(yH slot l KI VI s).1=true):bt m s.den (yH slot l KI VI s).2.den:=by
 unfold yH at h⊢;split
 case h_2=>exact bt.refl _
 rename_i id u;split
 case h_2=>exact bt.refl _
 rename_i K V cl hid;simp only[u,hid]at h;intro E a d;have hH:E.H=ak s.H:=d.H;have q:E.H[id]? = some (.map [] cl):=by rw[hH]; exact bh hid
 obtain⟨h1,k⟩:=IA d.heap q (by rw[hH]; exact h);have g:ak (s.H.set id (.mm l K KI VI [] [] cl))=E.H.set id (.mm l [] [] cl):=by rw[c7,hH]; rfl
 refine⟨E.loc,E.X,?_,?_⟩
 ·simp only [al.den]
  rw[g];exact⟨rfl,dw k _ d.fr,d.defers,h1⟩
 ·simp only [al.den]
  rw[g];exact k.toM
theorem U8{m:Nat}{slot c l:Nat}{KI VI:Ct}{s:al}(h:(yI slot c l KI VI s).1=true):bt m s.den (yI slot c l KI VI s).2.den:=by
 unfold yI at h⊢;split
 case h_2=>exact bt.refl _
 rename_i a _ _ _ _ u;split
 case h_2=>exact bt.refl _
 rename_i cells v;split
 case h_2=>exact bt.refl _
 rename_i id y;split
 case h_2=>exact bt.refl _
 rename_i K V rows cl hid;simp only[u,v,y,hid,rC]at h;obtain⟨h,he⟩:=h;have he:rows=[]:=by cases rows with|nil=>rfl|cons _ _=>cases he
 subst he;intro E act d;have hH:E.H=ak s.H:=d.H;have q:E.H[id]? = some (.map [] cl):=by rw[hH]; exact bh hid
 obtain⟨h1,k⟩:=IA d.heap q (by rw[hH]; exact h);have g:ak (s.H.set id (.mm l K KI VI [] [] cl))=E.H.set id (.mm l [] [] cl):=by rw[c7,hH]; rfl
 refine⟨E.loc,E.X,?_,?_⟩
 ·simp only [al.den]
  rw[g];exact⟨rfl,dw k _ d.fr,d.defers,h1⟩
 ·simp only [al.den]
  rw[g];exact k.toM
theorem aq.forget{E:Env}(H:aq E){id l0:Nat}{o:ab}(hid:E.H[id]? = some o)(hlab:o.label=some l0)(W:o.aD = some 0) :
  aq { w:=E.w,H:=E.H.set id (.vec 0 1 []),loc:=E.loc.set id none,X:=E.X.re (gX E.X.r l0) }∧E.le { w:=E.w,H:=E.H.set id (.vec 0 1 []),loc:=E.loc.set id none,X:=E.X.re (gX E.X.r l0) }:=by
 have I:=aL hid;have hltl:id<E.loc.length:=by rw[H.len]; exact I
 have J:∀(i:Nat) x,(E.H.set id (.vec 0 1 []))[i]? = some x→(i=id∧x=.vec 0 1 [])∨(i≠id∧E.H[i]? = some x):=fun i x hi=>by
  by_cases d:i=id
  ·subst d
   rw[bB I]at hi;cases hi;exact .inl ⟨rfl,rfl⟩
  ·rw [aQ (Ne.symm d)] at hi
   exact .inr ⟨d,hi⟩
 have B:∀(i b m:Nat),(E.loc.set id none)[i]? = some (some (b,m))→i≠id∧E.loc[i]? = some (some (b,m)):=fun i b m hi=>by
  by_cases d:i=id
  ·subst d
   rw[bB hltl]at hi;cases hi
  ·rw [aQ (Ne.symm d)] at hi
   exact⟨d,hi⟩
 have hle:E.le { w:=E.w,H:=E.H.set id (.vec 0 1 []),loc:=E.loc.set id none,X:=E.X.re (gX E.X.r l0) }:=by
  refine⟨fun i ae M=>?_,aB _,fun _ _ _=>rfl,fun b hb hno=>?_,fun i ae M u=>?_,⟨rfl,rfl⟩,fun l h hh=>?_,.refl _,fun i l x h1 g N=>?_⟩
  rotate_right
  ·by_cases d : i = id
   ·subst d
    obtain⟨y,q,O⟩:=N;rw[show (E.H.set i (.vec 0 1 []))[i]? = some (.vec 0 1 []) from bB I]at q;cases q;cases O
   ·have U : l ≠ l0 := fun U => d (H.uniq i id x o l h1 hid (ab.kD g) (by rw [U]; exact hlab))
    exact⟨⟨[],by rw[cO]; exact if_neg U⟩,x,by simp only[]; rw[aQ (Ne.symm d)]; exact h1,g⟩
  ·obtain ⟨x, h1, g⟩ := M
   by_cases d:i=id
   ·subst d
    rw[hid]at h1;cases h1;have:=g.2 0 W;exact⟨.vec 0 1 [],by simp only[]; rw[bB I],rfl,fun v N=>by cases N; omega⟩
   ·exact⟨x,by simp only[]; rw[aQ (Ne.symm d)]; exact h1,g⟩
  ·rintro (⟨i, c, hi⟩ | ⟨l, h, m, hm⟩)
   ·exact hno (.inl ⟨i,c,(B i b c hi).2⟩)
   ·exact hno (.inr ⟨l,h,m,(iF hm).1⟩)
  ·obtain ⟨x, h1, g⟩ := u
   rcases J i x h1 with⟨rfl,rfl⟩|⟨d,q⟩
   ·cases g
    obtain⟨y,q,O⟩:=M;rw[hid]at q;cases q;have:=O.2 0 W;omega
   ·exact⟨⟨x,q,g⟩,aQ (Ne.symm d)⟩
  ·refine ⟨?_, fun y V => (iF V).1⟩
   show h<(gX E.X.r l0 l).length
   rw[Ix];exact hh
 refine⟨⟨by simp[H.len],fun i j b m n hi hj=>H.inj i j b m n (B _ _ _ hi).2 (B _ _ _ hj).2,fun i b m hi=>H.lt i b m (B _ _ _ hi).2,H.X,fun i x hi=>?_,H.eW.bF hle.toC,fun l h l' h' b m n h1 g=>H.eE _ _ _ _ _ _ _ (iF h1).1 (iF g).1,fun i b m l h n hi hk=>H.cN _ _ _ _ _ _ (B _ _ _ hi).2 (iF hk).1,fun l h b m hk=>H.cr _ _ _ _ (iF hk).1,fun i k x y l hi hk h1 g=>?_,fun l hn h y V=>?_⟩,hle⟩
 ·rcases J i x hi with ⟨rfl, rfl⟩ | ⟨d, q⟩
  ·simp only [aM]
   exact .inl ⟨bB hltl,trivial⟩
  ·refine jS (fun a _ hr => bP hle a hr) (aQ (Ne.symm d)) (fun _ _ _ => rfl) (fun l u => ?_) (H.obj i x q)
   have hne2:l≠l0:=fun e=>d (H.uniq i id x o l q hid u (by rw[hlab,e]));exact⟨if_neg hne2,fun _ _ _ _=>rfl⟩
 ·have key:∀ (i:Nat) x,(E.H.set id (.vec 0 1 []))[i]? = some x→x.label=some l→E.H[i]? = some x:=by
   intro i x hi u;rcases J i x hi with⟨rfl,rfl⟩|⟨d,q⟩
   ·cases u
   ·exact q
  exact H.uniq i k x y l (key i x hi h1) (key k y hk g) h1 g
 ·obtain ⟨g1, g2⟩ := iF V
  refine H.fQ l (fun i x hi u=>?_) h y g1;by_cases e:i=id
  ·subst e
   rw[hid]at hi;cases hi;exact g2 (by rw[hlab]at u; cases u; rfl)
  ·exact hn i x (by show (E.H.set id (.vec 0 1 []))[i]? = _; rw[aQ (Ne.symm e)]; exact hi) u
theorem aq.U9{E:Env}(H:aq E){id:Nat}{o:ab}(hid:E.H[id]? = some o)(hlab:o.label=none)(k:o.aD = some 0) :
  aq { w:=E.w,H:=E.H.set id (.vec 0 1 []),loc:=E.loc.set id none,X:=E.X }∧E.le { w:=E.w,H:=E.H.set id (.vec 0 1 []),loc:=E.loc.set id none,X:=E.X }:=by
 have I:=aL hid;have B:id<E.loc.length:=by rw[H.len]; exact I
 have d:∀ v,(ab.vec 0 1 []).aD = some v→∀ u,o.aD = some u→u<v:=fun v g u hu=>by
  rw[k]at hu;cases hu;cases g;exact Nat.zero_lt_one
 have q:∀ v u,(ab.vec 0 1 []).aD = some v→o.aD = some u→u≤v:=fun v u g hu=>Nat.le_of_lt (d v g u hu);have y:o.born=true→o.aD = none→(ab.vec 0 1 []).aD = none:=fun _ h=>by rw[k]at h; cases h
 refine⟨aq.kH H hid (aB _) (fun _ _ _=>rfl) (fun _ _ h=>by cases h) (.inr d) q y ?_ (hlab:=hlab),Env.jv hid H.len (aB _) (fun _ _ _=>rfl) (fun _ _ h=>by cases h) (.inr d) q y (hmm:=.inl (ab.wW hlab))⟩;simp only[aM];exact .inl ⟨bB B,trivial⟩
theorem U_{m:Nat}{id:Nat}{s:al}:bt m s.den (C8 id s).2.den:=by
 have h:∀ o:ah,s.H[id]? = some o→o.den.label=none→o.den.aD = some 0→bt m s.den (al.den ⟨s.fr,s.H.set id (.vec [] 1 [])⟩):=fun o hid h1 k=>by
  intro E a d;have hH:E.H=ak s.H:=d.H;obtain⟨g1,g2⟩:=aq.U9 d.heap (by rw[hH]; exact bh hid) h1 k;have g:ak (s.H.set id (.vec [] 1 []))=E.H.set id (.vec 0 1 []):=by rw[c7,hH]; rfl
  refine⟨E.loc.set id none,E.X,?_,?_⟩
  ·simp only [al.den]
   rw[g];exact⟨rfl,dw g2 _ d.fr,d.defers,g1⟩
  ·simp only [al.den]
   rw[g];exact g2.toM
 unfold C8;split
 ·rename_i hid
  exact h _ hid rfl rfl
 ·rename_i hid
  exact h _ hid rfl rfl
 ·rename_i l K KI VI rows mem cl hid
  intro E a d;have hH:E.H=ak s.H:=d.H;obtain⟨g1,g2⟩:=aq.forget (l0:=l) d.heap (by rw[hH]; exact bh hid) rfl rfl;have g:ak (s.H.set id (.vec [] 1 []))=E.H.set id (.vec 0 1 []):=by rw[c7,hH]; rfl
  refine⟨E.loc.set id none,E.X.re (gX E.X.r l),?_,?_⟩
  ·simp only [al.den]
   rw[g];exact⟨rfl,dw g2 _ d.fr,d.defers,g1⟩
  ·simp only [al.den]
   rw[g];exact g2.toM
 ·exact bt.refl _
theorem U'{m:Nat}{slot:Nat}{s:al}(h:(yG slot s).1=true):bt m s.den (yG slot s).2.den:=by
 unfold yG at h⊢;split
 case h_2=>exact bt.refl _
 rename_i id J;split
 case h_2=>exact bt.refl _
 rename_i l K ks rows cl hid;simp only[J,hid]at h;intro E a d;have hH:E.H=ak s.H:=d.H;have v:E.H[id]? = some (.aG l ks.length (fU K ks rows) cl):=by rw[hH]; exact bh hid
 have ho:=d.heap.obj id _ v;simp only[aM]at ho;obtain⟨b,n,ms,g1,g2,g3,hh,k1,U⟩:=ho;obtain⟨h1,B⟩:=aq.Sa (o':=.map (da K (.one (.list ks)) rows) cl) d.heap v rfl rfl rfl fun hle=>by
  simp only[aM];refine⟨b,n,ms,g1,g2,?_⟩;rw[dW]at g3⊢;obtain⟨V,W⟩:=g3;refine⟨by simpa[da,cB,fU]using V,fun i x e q he=>?_⟩;unfold da at q;rw[bZ]at q;obtain⟨r,k,rfl⟩:=dQ.1 q;have I:=uj (K:=K) (ks:=ks) k;have M:(gi r 3).bool=true:=cM.1 h r (eT k);obtain⟨a1,a2,a3,a4,a5⟩:=W i _ e (xv I) he;refine⟨bP hle _ a1,?_,a3,a4,rfl⟩;have N:=U i _ ((j0 r).map (aK ks)) e I (by simp only[jA,M,cond_true]) he;show rel _ (.listF ks (j0 r)) e.val
  rw[iR];simp only[rel];have O:eV ((j0 r).map (aK ks)):=by
   intro r k;obtain⟨g,_,rfl⟩:=dD.1 k;exact fE ks g
  refine⟨O,?_⟩;rcases N with⟨s1,base,s2⟩|⟨bb,mm,s1,s2,s3,s4,s5,s6⟩
  ·rw [s1]
   exact⟨base,0,s2,aB _,.inl rfl⟩
  ·refine ⟨_, mm, s2, s4, .inr ⟨bb, 0, rfl, ⟨(d.heap.cr _ _ _ _ s1).1, ?_, (d.heap.cr _ _ _ _ s1).2⟩, kG (fun a _ k => bP hle a k) rfl s6⟩⟩
   rintro(⟨j,c',u⟩|⟨l',k',c',u⟩)
   ·exact d.heap.cN _ _ _ _ _ _ u s1
   ·obtain ⟨j1, j2⟩ := iF u
    exact j2 (d.heap.eE _ _ _ _ _ _ _ j1 s1).1
 have y:ak (s.H.set id (.map K (.one (.list ks)) rows cl))=E.H.set id (.map (da K (.one (.list ks)) rows) cl):=by rw[c7,hH]; rfl
 refine⟨E.loc,E.X.re (gX E.X.r l),?_,?_⟩
 ·simp only [al.den]
  rw[y];exact⟨rfl,dw B _ d.fr,d.defers,h1⟩
 ·simp only [al.den]
  rw[y];exact B.toM
theorem Va{m:Nat}(h:Hint)(s:al)(hb:(yJ h s).1=true):bt m s.den (yJ h s).2.den:=by
 cases h with
 |freeze i=>exact UZ hb
 | KK i ks =>
  simp only[yJ];split
  ·rename_i h; exact JV h
  ·exact bt.refl _
 |KL i c ks=>exact U0
 |yz i=>exact U3 hb
 |KM i c=>exact U1 hb
 |hole ks=>exact U4
 |rK=>exact U5
 |aG i l=>exact U6 hb
 |yA i=>exact U' hb
 |mm i l KI VI=>exact U7 hb
 |rL i c l KI VI=>exact U8 hb
 |forget i=>exact U_
 |KN i c ks=>exact U2
theorem KO{m:Nat}:∀(d:List Hint) (s:al),(uT d s).1=true→bt m s.den (uT d s).2.den
 | [],s,_=>bt.refl _
 | h::d,s,hb=>by
  simp only[uT]at hb⊢;simp only[ax]at hb;exact(Va h s hb.1).trans (KO d _ hb.2)
def KP:List (Nat × List Hint)→Nat→List Hint
 | [],_=>[]
 | (i,d)::l,id=>match ad id i with
  |true=>d
  |false=>KP l id
def LT.iM(L:LT)(d:List (Nat × List Hint)):LT:=⟨L.loops,fun id s=>uT (KP d id) s,L.uC⟩
theorem n9{P:Program}{m:Nat}{c:Code}(d:List (Nat × List Hint)):ay P m (aF.iM d) c:=⟨fun _ _ _ _ _ h=>(nomatch h),fun id s hb=>KO _ s hb,fun _ _ _ _ _ h=>(nomatch h)⟩
end Go.AL

namespace Go.AL
open Go
variable [Dr]
end Go.AL

namespace Go.AL
open Go Go.ChangeMaps
variable [Dr]
theorem bN.jd{s:St}{E:Env}{a:Act}(d:bN s E a)(t:Tmp){v:AV}{u:Value}(g:rel E v u):bN (s.put (some t) v s.H) E (a.put (some t) u) :=
 ⟨d.H,IJ d.fr (Env.le.refl E) (some t) g,by rw[put_defers]; exact d.defers,d.heap⟩
theorem pG{m:Nat}{E E':Env}(h:E.dj m E'):E.bF E' :=
 ⟨fun b hb=>⟨⟨Nat.lt_of_lt_of_le hb.1 h.size,h.own b hb.1 hb.2.1,fun d=>hb.2.2 ((h.X b hb.1).1.1 d)⟩,h.same b hb.1 hb.2.1⟩⟩
theorem ka{P:Program}{ops:Array Oper}{Q:Exit→Act→World→Prop}{i:Nat}{o:Oper}{K:Act→World→Prop}{a:Act}{w w':World}{u:Value}
  (hi:ops[i]? = some o) (g:o.guard=none) (h:(execOp a.eval o).run P w=.ok (.value u) w') (d:∀ c,o.op≠.defer c) (ro:Option Nat) (k:K (a.put o.dst u) w'):wpOpIn (fz ro) 0 P ops Q i K a w:=by
 unfold wpOpIn;simp only[hi];rw[if_pos (by simp[Region.wanted,g])];unfold Oper.wpIn;rw[Oper.semAt_eq _ _ _ d,h];exact⟨fun _ _=>trivial,k⟩
theorem yK{P:Program}{pf:FuncId→Bool}{ops:Array Oper}{Q:Exit→Act→World→Prop}(ro:Option Nat):∀(l:List Oper) (k:Nat) (s s':St) (E:Env) (a:Act) (rest:List Nat),
  (∀(j:Nat) (o:Oper),l[j]? = some o→ops[k+j]? = some o)→fI P pf ops l s s'→bN s E a→(∀ d w',eO E s' d w'→wpOpsIn (fz ro) 0 P ops Q rest d w')→wpOpsIn (fz ro) 0 P ops Q (tc k l.length++rest) a E.w
 | [],k,s,s',E,a,rest,_,h,g,q=>by
  simp only[fI]at h;subst h;exact q _ _ (eO.refl g)
 | o::l,k,s,s',E,a,rest,u,h,g,q=>by
  obtain⟨v,H',J,y⟩:=h;simp only[cw,Hc,lZ];rw[wpOpsIn_cons];refine BS g (by simpa using u 0 o rfl) J (fun d w' M=>?_) ro;obtain⟨B,r',h1,N⟩:=M;refine yK ro l (k+1) _ s' { w:=w',H:=H',loc:=B,X:=E.X.re r' } d rest (fun j x O=>?_) y h1 (fun a2 U I=>q a2 U (eO.after N I));have:=u (j+1) x (by simpa using O)
  rwa [show k+1+j=k+(j+1) from by omega]
theorem n_{a:Act}{t:Tmp}{u:Value}(h:t<a.tmps.size):(a.put (some t) u).eval (.tmp t)=u:=by
 simp[Act.eval,wI,h]
def Tree.ke:Tree→Option (bR × al)
 |.fail=>none
 |.done x s=>some (x,s)
 | .ask b t e=>match b with
  |true=>t.ke
  |false=>e.ke
 | .side b t=>match b with
  |true=>t.ke
  |false=>none
theorem uU:∀{t:Tree} {x:bR} {s:al},t.ke=some (x,s)→t.holds fun d s'=>d=x∧s'=s
 |.fail,_,_,h=>by cases h
 | .done _ _,_,_,h=>by
  cases h;exact⟨rfl,rfl⟩
 | .ask b t e,_,_,h=>by
  cases b with
  |true=>exact⟨fun _=>uU (t:=t) h,fun h=>(nomatch h)⟩
  |false=>exact⟨fun h=>(nomatch h),fun _=>uU (t:=e) h⟩
 | .side b t,_,_,h=>by
  cases b with
  |true=>exact⟨rfl,uU (t:=t) h⟩
  |false=>cases h
def cH(st:List G→List G→Option (List G))(a7:List G→Nat):List (List G)→List G→Option (List G)
 | [],d=>some d
 | r::rs,d=>match st r d with
  |some d'=>bif ad (a7 d') (a7 d) then cH st a7 rs d' else none
  |none=>none
theorem uV{st:List G→List G→Option (List G)}{a7:List G→Nat}:∀(p q:List (List G)) (d:List G),cH st a7 (p++q) d=(cH st a7 p d).bind (cH st a7 q)
 | [],_,_=>rfl
 | r::p,q,d=>by
  simp only[lZ,cH];cases st r d with
  |none=>rfl
  | some d' =>
   simp only[];cases ad (a7 d') (a7 d)with
   |false=>rfl
   |true=>exact uV p q d'
def cV(r:List G):Nat:=(gi r 2).int.toNat
theorem yL{f:List G→Nat}{r:List G}:∀{l:List (List G)} {seen:Array Nat},(l.map f).Nodup→r∈l→seen.contains (f r)=false →
  (l.filter fun x => !seen.contains (f x)).Perm (r::l.filter fun x => !(seen.push (f r)).contains (f x))
 | [],_,_,h,_=>by cases h
 | x::l,seen,d,hm,g=>by
  obtain⟨k,d⟩:=l8.1 d;rcases bW.1 hm with rfl|hm
  ·have e:(l.filter fun x => !(seen.push (f r)).contains (f x))=l.filter fun x => !seen.contains (f x):=by
    apply List.filter_congr;intro y v;have:(f y==f r)=false:=by
     rw[beq_eq_false_iff_ne];intro e;exact k (e▸dD.2 ⟨y,v,rfl⟩)
    rw[contains_push,this,AT]
   rw[List.filter_cons_of_pos (by rw[g]; rfl),List.filter_cons_of_neg (by rw[contains_push]; simp),e]
  ·have u:(f x==f r)=false:=by
    rw[beq_eq_false_iff_ne];intro e;exact k (e▸dD.2 ⟨r,hm,rfl⟩)
   have q:=yL d hm g;simp only[List.filter_cons,contains_push seen (f r) (f x),u,AT];cases seen.contains (f x)with
   |true=>simpa using q
   | false =>
    simp only[Bool.not_false,if_true];exact(List.Perm.cons x q).trans (List.Perm.swap r x _)
structure fv where
 inv:mF
 ps:List jH
 opens:List (Nat × List Kd)
 K:Ct
 V:Ct
 id:Nat
 x:Tmp
 y:Tmp
 it:Tmp
 t1:Tmp
 t2:Tmp
 t3:Tmp
 a7:List G→Nat
 init:List G→Nat→List G
 side:List G→Nat→Bool
 st:List G→List G→Option (List G)
def fv.rs(sp:fv)(r d:List G):al:=⟨(aO sp.inv d).fr.set sp.t3 (.tuple [sp.K.av (gi r 0).row,sp.V.av (gi r 1).row]),(aO sp.inv d).H⟩
def fv.s2(sp:fv)(s:al)(b:Nat):al:=⟨s.fr.set sp.it (.lit (.pointer (some ⟨b,0,none⟩))),s.H.set sp.id (.raw .dead)⟩
def yM(m:Nat)(inv:mF)(ps:List jH)(x:bR)(s:al):Option (Bool × List G) :=
 match x with
 |.normal=>ig m inv ps s
 |_=>none
structure mH (P:Program) (sp:fv) (bg bQ bA:Array Oper):Prop where
 r0:∃ o2 ty,bg.toList=bg.toList.dropLast++[o2]∧o2.guard=none∧o2.op=.range ty (.tmp sp.y)∧o2.dst=some sp.it∧(cX P ty).isSome=true
 r1:∃ o1 o2,bQ.toList=[o1,o2]∧o1.guard=none∧o1.op=.next (.tmp sp.it) false∧o1.dst=some sp.t1∧o2.guard=none∧o2.op=.extract (.tmp sp.t1) 0∧o2.dst=some sp.t2
 r2:∃ o1 l,bA.toList=o1::l∧o1.guard=none∧o1.op=.entry (.tmp sp.it)∧o1.dst=some sp.t3
def kW(r0 b0 r1 b1 r2:Nat)(bg bQ bA:Array Oper)(t2:Tmp)(body:Code):Code :=
 .seq (.region r0 bg false) (.block b0 (.loop (.seq (.region r1 bQ false) (.seq (.cond (.tmp t2) .skip (.exit b0)) (.block b1 (.seq (.region r2 bA false) body))))))
theorem KQ{ro:Option Nat}{r0 b0 r1 b1 r2:Nat}{bg bQ bA:Array Oper}{t2:Tmp}{body:Code}(h:eG ro (kW r0 b0 r1 b1 r2 bg bQ bA t2 body)):eG ro body:=h.imp id fun h=>by
 simpa[kW,fJ]using h
section range
variable {P:Program} {τ:ar} {L:LT} {m:Nat} {sp:fv} {bg bQ bA:Array Oper} {body:Code}
def jJ(P:Program)(τ:ar)(L:LT)(m:Nat)(sp:fv)(bA:Array Oper)(body:Code):Prop :=
 ∀ r d,(lv P τ bA (bA.toList.drop 1) (sp.rs r d) (fun s=>dY P τ L body s .done)).leaf (yM m sp.inv sp.ps)=sp.st r d
theorem KR(hm:P.follows .mixedOrders=true)(q:au P τ)(u:ay P m L body)(v:jJ P τ L m sp bA body){r d d':List G}(h:sp.st r d=some d') :
  ∃ k:al,fI P τ.pf bA (bA.toList.drop 1) (sp.rs r d).den k.den∧cU P m body k.den .normal (aO sp.inv d').den:=by
 rw[←v r d]at h;obtain⟨k,h1,y⟩:=ya q (Q:=fun x s=>yM m sp.inv sp.ps x s=some (true,d')) (nU h);obtain⟨x,B,I,g⟩:=gN hm q body k .done u y;have g:yM m sp.inv sp.ps x B=some (true,d'):=g;unfold yM at g;split at g
 ·exact⟨k,h1,qS I (ly g)⟩
 ·cases g
def KS(m:Nat)(sp:fv)(E:Env)(rows:List (List G))(d0:List G)(itb mb clock:Nat)(ms:Array MapEntry)(a:Act)(w:World):Prop :=
 ∃(d:List G) (loc:List (Option (Nat × Nat))) (X:XS) (seen:Array Nat) (last:Nat) (p:List (List G)),
  cH sp.st sp.a7 p d0=some d∧sp.a7 d=itb∧(p++rows.filter fun x => !seen.contains (cV x)).Perm rows ∧
  bN (aO sp.inv d).den { w:=w,H:=(aO sp.inv d).den.H,loc:=loc,X:=X } a∧E.dj m { w:=w,H:=(aO sp.inv d).den.H,loc:=loc,X:=X }∧X itb ∧
  w.heap[itb]? = some (.mapIter (some mb) clock seen last)∧clock≤last∧w.heap[mb]? = some (.map ms clock) ∧
  ¬ Env.own { w:=w,H:=(aO sp.inv d).den.H,loc:=loc,X:=X } mb∧bC { w:=w,H:=(aO sp.inv d).den.H,loc:=loc,X:=X } (da sp.K sp.V rows) ms.toList
theorem bN.oa{s:St}{E:Env}{a:Act}(d:bN s E a){t:Tmp}(hu:s.fr[t]? = some .undef)(u:Value):bN s E (a.put (some t) u):=by
 have h:=d.jd t (v:=.undef) (u:=u) (by simp[rel]);have e:s.put (some t) .undef s.H=s:=by
  simp only[St.put,iV,ln hu]
 rwa [e]at h
theorem yN{s:St}{E:Env}{a:Act}(g:bN s E a){t:Tmp}{v:AV}(hu:s.fr[t]? = some v):t<a.tmps.size:=by
 have h1:s.fr.length=a.tmps.size:=by simpa using(me.1 g.fr).1
 have d:t<s.fr.length:=aL hu;rw[h1]at d;exact d
theorem yO{o:Oper}{t:Tmp}{a:Act}{w:World}{cs:Array Value}{u:Value}(d:o.op=.extract (.tmp t) 0)(g:a.eval (.tmp t)=.tuple cs)(h:cs[0]? = some u) :
  (execOp a.eval o).run P w=.ok (.value u) w:=by
 obtain⟨dst,op,type,pos,after,guard⟩:=o;subst d;exact jX (by simp[Instr.extract,g,h])
theorem yP{o:Oper}{t:Tmp}{a:Act}{w w':World}{x u:Value}(d:o.op=.next (.tmp t) false)(g:a.eval (.tmp t)=x)(h:(Instr.next x false o.type).run P w=.ok u w') :
  (execOp a.eval o).run P w=.ok (.value u) w':=by
 obtain⟨dst,op,type,pos,after,guard⟩:=o;subst d;subst g;exact jX h
theorem KT{o:Oper}{t:Tmp}{a:Act}{w w':World}{x u:Value}(d:o.op=.entry (.tmp t))(g:a.eval (.tmp t)=x)(h:(Instr.entry x).run P w=.ok u w') :
  (execOp a.eval o).run P w=.ok (.value u) w':=by
 obtain⟨dst,op,type,pos,after,guard⟩:=o;subst d;subst g;exact jX h
theorem KU{o:Oper}{t:Tmp}{ty:TypeId}{a:Act}{w w':World}{x u:Value}(d:o.op=.range ty (.tmp t))(g:a.eval (.tmp t)=x)(h:(Instr.range ty x).run P w=.ok u w') :
  (execOp a.eval o).run P w=.ok (.value u) w':=by
 obtain⟨dst,op,type,pos,after,guard⟩:=o;subst d;subst g;exact jX h
theorem rM{w:World}{b:Nat}{o:Obj}(h:w.heap[b]? = some o):b<w.heap.size:=(Array.getElem?_eq_some_iff.1 h).1
theorem yQ{w:World}{r:Nat}{a:Option Nat}{b c:Nat}{s:Array Nat}(h:w.heap[r]? = some (.mapIter a b s c)):w.iterSeen r=s:=by
 unfold World.iterSeen;rw[h]
theorem Vb(hm:P.follows .mixedOrders=true)(ht:au P τ)(hL:ay P m L body)(hr:jJ P τ L m sp bA body)(ho:mH P sp bg bQ bA)
  (hu1:∀ d,(aO sp.inv d).fr[sp.t1]? = some .undef) (hu2:∀ d,(aO sp.inv d).fr[sp.t2]? = some .undef) (hut:∀ d,(aO sp.inv d).fr[sp.it]? = some (.lit (.pointer (some ⟨sp.a7 d,0,none⟩))))
  {E:Env} {rows:List (List G)} {d0:List G} {itb mb clock:Nat} {ms:Array MapEntry} {r1 b0 b1 r2:Nat}
  (hsz:E.w.heap.size≤itb) (hn:(rows.map cV).Nodup) (hlt:∀ r∈rows,cV r<clock) (hne:mb≠itb)
  (hfold:∀ p,p.Perm rows→(cH sp.st sp.a7 p d0).isSome=true) {a:Act} {w:World} (hI:KS m sp E rows d0 itb mb clock ms a w) (ro:Option Nat) (hro:eG ro body) :
  (Code.loop (.seq (.region r1 bQ false) (.seq (.cond (.tmp sp.t2) .skip (.exit b0)) (.block b1 (.seq (.region r2 bA false) body))))).wpIn (fz ro) 0 P
   (fun e a1 J=>e=.exit b0∧∃ p d,p.Perm rows∧cH sp.st sp.a7 p d0=some d∧dx m E (aO sp.inv d).den a1 J) a w:=by
 obtain⟨o1,o2,e1,g1,p1,q1,g2,W,q2⟩:=ho.r1;obtain⟨o3,l,e3,g3,p3,q3⟩:=ho.r2;refine wpIn_loop (KS m sp E rows d0 itb mb clock ms) (fun _ w=>(leftOf ms (w.iterSeen itb)).size) hI fun a w hI=>?_;obtain⟨d,loc,X,seen,last,p,hf,had,hp,q,hle,hXi,hit,hcl,hmb,hown,hre⟩:=hI;have h10:bQ[0]? = some o1:=by
  have:bQ.toList[0]? = some o1:=by rw[e1]; rfl
  simpa using this
 have h11:bQ[1]? = some o2:=by
  have:bQ.toList[1]? = some o2:=by rw[e1]; rfl
  simpa using this
 have hsz1:bQ.size=2:=by
  have:bQ.toList.length=2:=by rw[e1]; rfl
  simpa using this
 have hiv:a.eval (.tmp sp.it)=.pointer (some ⟨itb,0,none⟩):=by
  have h:=q.eval (.tmp sp.it);have e:(aO sp.inv d).den.eval (.tmp sp.it)=.lit (.pointer (some ⟨sp.a7 d,0,none⟩)):=by
   show (aO sp.inv d).fr.getD sp.it .undef=_
   rw[cf,hut d];rfl
  rw[e]at h;simp only[rel]at h;rw[h,had]
 obtain⟨hlen,hen⟩:=dW.1 hre;have hl1:(da sp.K sp.V rows).length=rows.length:=by simp[da]
 have M:∀(i:Nat) (e:MapEntry),ms.toList[i]? = some e→∃ r,rows[i]? = some r∧e.born=cV r:=by
  intro i e hi;have h1:=aL hi;have k:i<rows.length:=by omega
  refine⟨rows[i],bI k,?_⟩;exact(hen i (sp.K.av (gi rows[i] 0).row,sp.V.av (gi rows[i] 1).row,(gi rows[i] 2).int.toNat) e (by simp[da,k]) hi).2.2.1
 have hold:∀ x∈ms.toList,x.born<clock:=by
  intro x y;obtain⟨i,hi⟩:=nc y;obtain⟨r,h1,k⟩:=M i x hi;rw[k];exact hlt r (eT h1)
 have hbn:(ms.toList.map (·.born)).Nodup:=by
  have:ms.toList.map (·.born)=rows.map cV:=by
   apply List.ext_getElem?;intro i;simp only[bZ];cases hi:ms.toList[i]? with
   | none =>
    have h1:=List.getElem?_eq_none_iff.1 hi;rw[List.getElem?_eq_none (by omega)];rfl
   | some e =>
    obtain⟨r,h1,k⟩:=M i e hi;rw[h1];simp[k]
  rw[this];exact hn
 refine wpIn_seq (wpIn_region ?_);rw[hsz1];show wpOpsIn (fz ro) 0 P bQ _ [0,1] a w
 rw[wpOpsIn_cons];have hlt1:=yN q (hu1 d);have hlt2:=yN q (hu2 d);rcases run_next_at (P:=P) w o1.type itb mb clock last seen ms clock hit hmb hold hcl with⟨h0,hrun⟩|⟨e,he,J,hw1,hrun⟩
 ·refine ka h10 g1 (yP p1 hiv hrun) (fun c e => by rw [p1] at e; cases e) ro ?_
  rw[q1,wpOpsIn_cons];refine ka h11 g2 (yO W (n_ hlt1) rfl) (fun c e=>by rw[W]at e; cases e) ro ?_;rw[q2];show (Code.seq _ _).wpIn (fz ro) 0 P _ _ w
  refine wpIn_seq (wpIn_cond_false (n_ (by simpa[wI]using hlt2)) (wpIn_exit ?_));refine⟨rfl,p,d,?_,hf,loc,X,?_,hle⟩
  ·have:(rows.filter fun x => !seen.contains (cV x))=[]:=by
    rw[List.filter_eq_nil_iff];intro x y hc;obtain⟨i,hi⟩:=nc y;have h1:=aL hi;have k:i<ms.toList.length:=by omega
    obtain⟨r,h3,h4⟩:=M i _ (bI k);rw[hi]at h3;cases h3;have:ms.toList[i]∈(leftOf ms seen).toList:=by
     unfold leftOf;rw[Array.toList_filter];refine AS.2 ⟨nm k,?_⟩;rw[h4];exact hc
    have h5:(leftOf ms seen).toList.length=0:=by simpa using h0
    rw[List.length_eq_zero_iff.1 h5]at this;cases this
   rwa [this,cO]at hp
  ·exact(q.oa (hu1 d) (.tuple #[.bool false])).oa (hu2 d) (.bool false)
 ·refine ka h10 g1 (yP p1 hiv hrun) (fun c e => by rw [p1] at e; cases e) ro ?_
  rw[q1,wpOpsIn_cons];refine ka h11 g2 (yO W (n_ hlt1) rfl) (fun c e=>by rw[W]at e; cases e) ro ?_;rw[q2];show (Code.seq _ _).wpIn (fz ro) 0 P _ _ _
  refine wpIn_seq (wpIn_cond_true (n_ (by simpa[wI]using hlt2)) (wpIn_skip ?_));show (Code.block _ _).wpIn (fz ro) 0 P _ _ _
  refine wpIn_block (wpIn_seq (wpIn_region ?_));generalize U:setBlock J itb (.mapIter (some mb) clock (seen.push e.born) clock)=g;have O:J.heap=w.heap:=by rcases hw1 with rfl|rfl<;>rfl
  have hos:dL w g:=by rw[←U]; rcases hw1 with rfl|rfl<;>exact⟨rfl,rfl,rfl,by first|exact fun _=>aB _|exact fun _=>eS _ _⟩
  have hit2':g.heap[itb]? = some (.mapIter (some mb) clock (seen.push e.born) clock):=by
   rw[←U];exact(Hq (by rw[O]; exact hit)).1
  have N:∀ b,b≠itb→g.heap[b]? = w.heap[b]? := by
   intro b hb;rw[←U];show (J.heap.setIfInBounds itb _)[b]? = _
   rw[(Hq (by rw[O]; exact hit)).2 b hb,O]
  have hsize:g.heap.size=w.heap.size:=by
   rw[←U];show (J.heap.setIfInBounds itb _).size=_
   simp[O]
  have hmb2:g.heap[mb]? = some (.map ms clock):=by rw[N mb hne]; exact hmb
  have cC:gk { w:=w,H:=(aO sp.inv d).den.H,loc:=loc,X:=X } { w:=g,H:=(aO sp.inv d).den.H,loc:=loc,X:=X } :=
   ⟨rfl,rfl,by show w.heap.size≤g.heap.size; omega,fun b hb y=>⟨y,N b (fun e=>y (by rw[e]; exact hXi))⟩,fun b hb=>by show b<g.heap.size; rw[hsize]; exact q.heap.X b hb,rfl⟩
  have hmk:iT g X a.defers:=⟨q.defers.1,fun dd hdd=>by
   obtain⟨D,e,h1,k,h3⟩:=q.defers.2 dd hdd;exact⟨D,e,by rw[N D (fun e=>by rw[e]at h1; rw[hit]at h1; cases h1)]; exact h1,k,h3⟩⟩
  have hs1:=((q.cC cC hmk).oa (hu1 d) (.tuple #[.bool true,e.key,e.val])).oa (hu2 d) (.bool true);obtain⟨hem,hes⟩:=mem_left he;obtain⟨i,hi⟩:=nc hem;obtain⟨r,hri,hrb⟩:=M i e hi;have hrm:=eT hri;have hre2:=iI cC.toC hre;obtain⟨k1,k2,_⟩:=(dW.1 hre2).2 i (sp.K.av (gi r 0).row,sp.V.av (gi r 1).row,(gi r 2).int.toNat) e (by simp[da,hri]) hi;have hiv1:((a.put (some sp.t1) (.tuple #[.bool true,e.key,e.val])).put (some sp.t2) (.bool true)).eval (.tmp sp.it)=.pointer (some ⟨itb,0,none⟩):=by
   have h:=hs1.eval (.tmp sp.it);have e:(aO sp.inv d).den.eval (.tmp sp.it)=.lit (.pointer (some ⟨sp.a7 d,0,none⟩)):=by
    show (aO sp.inv d).fr.getD sp.it .undef=_
    rw[cf,hut d];rfl
   rw[e]at h;simp only[rel]at h;rw[h,had]
  have h20:bA[0]? = some o3:=by
   have:bA.toList[0]? = some o3:=by rw[e3]; rfl
   simpa using this
  have hl2:bA.toList.drop 1=l:=by rw[e3]; rfl
  have hsz2:bA.size=l.length+1:=by
   have:bA.toList.length=l.length+1:=by rw[e3]; rfl
   simpa using this
  have hlp:(p++(r::rows.filter fun x => !(seen.push (cV r)).contains (cV x))).Perm rows :=
   (List.Perm.append_left p (yL hn hrm (by rw[←hrb]; exact hes)).symm).trans hp
  have B:∃ d',sp.st r d=some d'∧sp.a7 d'=sp.a7 d:=by
   have h:=hfold _ hlp;rw[uV,hf]at h;simp only[AW,cH]at h;cases B:sp.st r d with
   |none=>rw[B]at h; cases h
   | some d' =>
    rw[B]at h;simp only[]at h;cases hb:ad (sp.a7 d') (sp.a7 d)with
    |true=>exact⟨d',rfl,br hb⟩
    |false=>rw[hb]at h; cases h
  obtain⟨d',B,had'⟩:=B;have hf':cH sp.st sp.a7 (p++[r]) d0=some d':=by
   rw[uV,hf];simp only[AW,cH,B,had'];simp
  obtain⟨s4,ha4,hsat⟩:=KR hm ht hL hr B;rw[hsz2,AQ,Hc,wpOpsIn_cons];refine ka h20 g3 (KT p3 hiv1 (run_entry_at (P:=P) g itb mb clock seen ms clock e hit2' hmb2 hem hbn)) (fun c e=>by rw[p3]at e; cases e) ro ?_;rw[q3];have hs3:=hs1.jd sp.t3 (v:=.tuple [sp.K.av (gi r 0).row,sp.V.av (gi r 1).row]) (u:=.tuple #[e.key,e.val]) (by simp only[rel]; exact⟨_,rfl,by simp only[af]; exact⟨k1,k2,trivial⟩⟩);refine xB (pf:=τ.pf) (ops:=bA) l (0+1) (sp.rs r d).den s4.den { w:=g,H:=(aO sp.inv d).den.H,loc:=loc,X:=X } _ (by rw[←hl2]) (by rw[hl2]at ha4; exact ha4) hs3 (fun a3 w3 hc3=>?_) ro;obtain⟨loc3,r3,hs4,hle3⟩:=hc3;show body.wpIn (fz ro) 0 P _ a3 w3
  refine wpIn_mono (hsat ro hro { w:=w3,H:=s4.den.H,loc:=loc3,X:=X.re r3 } a3 hs4) fun x a4 w4 y=>?_;obtain⟨rfl,loc4,X4,hs5,hle4⟩:=y;have I:({ w:=g,H:=(aO sp.inv d).den.H,loc:=loc,X:=X }:Env).dj m { w:=w4,H:=(aO sp.inv d').den.H,loc:=loc4,X:=X4 }:=hle3.toM.trans hle4;have hXsz:itb<g.heap.size:=rM hit2';have hnown:¬ Env.own { w:=g,H:=(aO sp.inv d).den.H,loc:=loc,X:=X } itb:=by
   exact(q.heap.cC cC).nt hXi
  have hmbsz:mb<g.heap.size:=rM hmb2;have hit4:w4.heap[itb]? = some (.mapIter (some mb) clock (seen.push e.born) clock):=by rw[I.same itb hXsz hnown]; exact hit2'
  refine⟨⟨d',loc4,X4,seen.push e.born,clock,p++[r],hf',by rw[had',had],?_,hs5,?_,(I.X itb hXsz).1.2 hXi,hit4,aB _,?_,?_,?_⟩,?_⟩
  ·rw [hrb, gG]
   exact hlp
  ·refine Env.dj.trans (E' := { w := g, H := (aO sp.inv d).den.H, loc := loc, X := X }) ⟨hle.past, ?_, ?_, hle.own, hle.live, hle.X, hle.rl, hle.env.trans hos, hle.grow⟩ I
   ·have := hle.size
    show E.w.heap.size≤g.heap.size
    rw[hsize];exact this
   ·intro b hb hbo
    show g.heap[b]? = _
    rw[N b (by omega)];exact hle.same b hb hbo
  ·rw [I.same mb hmbsz hown]
   exact hmb2
  ·exact I.own mb hmbsz hown
  ·exact iI (pG I) hre2
  ·show (leftOf ms (w4.iterSeen itb)).size < (leftOf ms (w.iterSeen itb)).size
   rw[yQ hit4,yQ hit];exact left_shrinks ms seen e he
theorem Vc(hm:P.follows .mixedOrders=true)(ht:au P τ)(hL:ay P m L body)(hr:jJ P τ L m sp bA body)(ho:mH P sp bg bQ bA)
  (hu1:∀ d,(aO sp.inv d).fr[sp.t1]? = some .undef) (hu2:∀ d,(aO sp.inv d).fr[sp.t2]? = some .undef) (hut:∀ d,(aO sp.inv d).fr[sp.it]? = some (.lit (.pointer (some ⟨sp.a7 d,0,none⟩))))
  {r1 b0 b1 r2:Nat}
  {s:al} {d:List G} {rows:List (List G)} {clock:Nat} (W:s.eval (.tmp sp.y)=.map sp.id) (hid:s.H[sp.id]? = some (.map sp.K sp.V rows clock)) (hn:(rows.map cV).Nodup)
  (hlt:∀ r∈rows,cV r<clock) (hin:∀ b,ig m sp.inv sp.ps (gz sp.opens (sp.s2 s b))=some (true,sp.init d b)) (hadr:∀ b,sp.a7 (sp.init d b)=b)
  (hfold:∀ b p,p.Perm rows→(cH sp.st sp.a7 p (sp.init d b)).isSome=true) (E:Env) (a:Act) (q:bN s.den E a) (ro:Option Nat) (hro:eG ro body) {Q:Exit→Act→World→Prop}
  (hQ:∀ a1 w1,(∃ b p d',p.Perm rows∧cH sp.st sp.a7 p (sp.init d b)=some d'∧dx m E (aO sp.inv d').den a1 w1)→Q .normal a1 w1) :
  wpOpsIn (fz ro) 0 P bg (Exit.then ((Code.block b0 (.loop (.seq (.region r1 bQ false) (.seq (.cond (.tmp sp.t2) .skip (.exit b0)) (.block b1 (.seq (.region r2 bA false) body)))))).wpIn (fz ro) 0 P Q) Q) [bg.toList.dropLast.length] a E.w:=by
 obtain⟨o2,ty,e1,g2,p2,q2,N⟩:=ho.r0;have h11:bg[bg.toList.dropLast.length]? = some o2:=by
  have:bg.toList[bg.toList.dropLast.length]? = some o2:=by
   rw[e1];simp
  simpa using this
 have hid':E.H[sp.id]? = some (.map (da sp.K sp.V rows) clock):=by
  rw[q.H];exact bh hid
 have hrx:rel E (.map sp.id) (a.eval (.tmp sp.y)):=by
  have:=q.eval (.tmp sp.y)
  rwa [al.kQ,W]at this
 obtain⟨mb,n,ms,hc,hloc,O,hre⟩:=oW q.heap hid' hrx;obtain⟨⟨kt,et⟩,N⟩:=Option.isSome_iff_exists.1 N;have hmbs:mb<E.w.heap.size:=rM O;rw[wpOpsIn_cons];refine ka h11 g2 (KU p2 hc (run_range_map E.w ty kt et mb ms clock (fg N) O)) (fun c e=>by rw[p2]at e; cases e) ro ?_;rw[q2];show (Code.block _ _).wpIn (fz ro) 0 P _ _ _
 generalize M:E.w.alloc (.mapIter (some mb) clock #[] clock)=g;have hsize:g.heap.size=E.w.heap.size+1:=by rw[←M]; show (E.w.heap.push _).size=_; simp
 have hold:∀ b,b<E.w.heap.size→g.heap[b]? = E.w.heap[b]? := fun b hb=>by rw[←M]; exact(show (E.w.heap.push _)[b]? = _ by rw[Array.getElem?_push,if_neg (by omega)])
 have hitn:g.heap[E.w.heap.size]? = some (.mapIter (some mb) clock #[] clock):=by rw[←M]; exact(show (E.w.heap.push _)[E.w.heap.size]? = _ by simp)
 have hos:dL E.w g:=by rw[←M]; exact⟨rfl,rfl,rfl,by first|exact fun _=>aB _|exact fun _=>eS _ _⟩
 have hd:=Env.qv q.heap sp.id;have U:bN ⟨s.fr,ak (s.H.set sp.id (.raw .dead))⟩ { w:=E.w,H:=E.H.set sp.id .dead,loc:=E.loc.set sp.id none,X:=E.X } a:=by
  refine⟨?_,dw hd _ q.fr,q.defers,aq.drop q.heap sp.id fun o ho=>by rw[hid']at ho; cases ho; rfl⟩;rw[c7,show E.H=ak s.H from q.H];rfl
 have cC:gk { w:=E.w,H:=E.H.set sp.id .dead,loc:=E.loc.set sp.id none,X:=E.X } { w:=g,H:=E.H.set sp.id .dead,loc:=E.loc.set sp.id none,X:=E.X.or fun b=>b=E.w.heap.size } :=
  ⟨rfl, rfl, by show E.w.heap.size ≤ g.heap.size; omega, fun b hb W => ⟨fun h => h.elim W (fun e => absurd hb (by rw [e]; exact qo _)), hold b hb⟩, fun b hb => by
   show b<g.heap.size
   rcases hb with hb|hb
   ·have := q.heap.X b hb
    omega
   ·omega,rfl⟩
 have hs3:=(U.cC cC (w5 (X':=E.X.or fun b=>b=E.w.heap.size) (w':=g) U.defers (fun _ h1 J=>⟨.inl h1,J⟩) fun b h1 _=>hold b (q.heap.X b h1))).jd sp.it (v:=.lit (.pointer (some ⟨E.w.heap.size,0,none⟩))) (u:=.pointer (some ⟨E.w.heap.size,0,none⟩)) (by simp only[rel]);have hs3':bN (sp.s2 s E.w.heap.size).den { w:=g,H:=E.H.set sp.id .dead,loc:=E.loc.set sp.id none,X:=E.X.or fun b=>b=E.w.heap.size } _:=hs3;obtain⟨loc,X4,hs4,I⟩:=((lz sp.opens _).trans (ly (hin E.w.heap.size))) _ _ hs3';have hmbn:¬ Env.own { w:=g,H:=E.H.set sp.id .dead,loc:=E.loc.set sp.id none,X:=E.X.or fun b=>b=E.w.heap.size } mb:=by
  rintro(⟨j,c,B⟩|⟨l,k,c,B⟩)
  case inr=>exact q.heap.cN _ _ _ _ _ _ hloc B
  simp only[dR]at B;split at B
  ·split at B
   ·cases B
   ·cases B
  ·rename_i hne
   exact hne (q.heap.inj _ _ _ _ _ hloc B)
 have hmb2:g.heap[mb]? = some (.map ms clock):=by rw[hold mb hmbs]; exact O
 refine wpIn_block (wpIn_mono (Vb hm ht hL hr ho hu1 hu2 hut (E:=E) (rows:=rows) (d0:=sp.init d E.w.heap.size) (itb:=E.w.heap.size) (mb:=mb) (clock:=clock) (ms:=ms)
  (aB _) hn hlt (by omega) (hfold _) ?_ ro hro) fun e a1 w1 hq=>?_)
 ·refine ⟨sp.init d E.w.heap.size, loc, X4, #[], clock, [], rfl, hadr _, ?_, hs4, ?_, (I.X E.w.heap.size (by show _ < g.heap.size; omega)).1.2 (.inr rfl), ?_, aB _, ?_, ?_, ?_⟩
  ·have : (rows.filter fun x => !(#[] : Array Nat).contains (cV x)) = rows := List.filter_eq_self.2 (fun x _ => by simp)
   rw[List.nil_append,this]
  ·refine hd.toM.trans (Env.dj.trans (E' := { w := g, H := E.H.set sp.id .dead, loc := E.loc.set sp.id none, X := E.X.or fun b => b = E.w.heap.size }) ⟨fun _ _ h => h, ?_, ?_, fun b _ h => h, fun _ _ _ h => ⟨h, rfl⟩, fun b hb => ⟨⟨fun h => h.elim id fun e => absurd hb (by rw [e]; exact qo _), .inl⟩, Iff.rfl⟩, fun _ _ h => ⟨h, fun _ hq => hq⟩, hos, fun _ _ _ o h1 J _ => ⟨⟨[], (cO _).symm⟩, o, h1, J⟩⟩ I)
   ·show E.w.heap.size ≤ g.heap.size
    omega
   ·exact fun b hb _=>hold b hb
  ·rw [I.same E.w.heap.size (by show _ < g.heap.size; omega) ?_]
   ·exact hitn
   ·exact(U.heap.cC cC).nt (.inr rfl)
  ·rw [I.same mb (by show _ < g.heap.size; omega) hmbn]
   exact hmb2
  ·exact I.own mb (by show _<g.heap.size; omega) hmbn
  ·exact iI (pG I) (iI cC.toC (iI hd.toC hre))
 ·obtain ⟨rfl, p, d', h1, J, h3⟩ := hq
  simp only[Exit.inBlock,if_true];exact hQ _ _ ⟨_,p,d',h1,J,h3⟩
theorem Vd(hm:P.follows .mixedOrders=true)(ht:au P τ)(hL:ay P m L body)(hr:jJ P τ L m sp bA body)(ho:mH P sp bg bQ bA)
  (M:∀ d,(aO sp.inv d).fr[sp.t1]? = some .undef) (N:∀ d,(aO sp.inv d).fr[sp.t2]? = some .undef) (O:∀ d,(aO sp.inv d).fr[sp.it]? = some (.lit (.pointer (some ⟨sp.a7 d,0,none⟩))))
  {r0 r1 b0 b1 r2:Nat}
  {s s1:al} {d:List G} {rows:List (List G)} {clock:Nat} (hp:fI P τ.pf bg bg.toList.dropLast s.den s1.den) (hx:s1.eval (.tmp sp.y)=.map sp.id) (hid:s1.H[sp.id]? = some (.map sp.K sp.V rows clock)) (hn:(rows.map cV).Nodup)
  (g:∀ r∈rows,cV r<clock) (U:∀ b,ig m sp.inv sp.ps (gz sp.opens (sp.s2 s1 b))=some (true,sp.init d b)) (I:∀ b,sp.a7 (sp.init d b)=b)
  (B:∀ b p,p.Perm rows→(cH sp.st sp.a7 p (sp.init d b)).isSome=true) (E:Env) (a:Act) (hs:bN s.den E a) (ro:Option Nat) (W:eG ro body) :
  (kW r0 b0 r1 b1 r2 bg bQ bA sp.t2 body).wpIn (fz ro) 0 P (fun e k q=>e=.normal∧∃ b p d',p.Perm rows∧cH sp.st sp.a7 p (sp.init d b)=some d'∧dx m E (aO sp.inv d').den k q) a E.w:=by
 refine wpIn_seq (wpIn_region ?_);obtain⟨o2,ty,u,_⟩:=ho.r0;have hsz:bg.size=bg.toList.dropLast.length+1:=by
  have h:=congrArg List.length u;simpa using h
 have hl:dv bg.size=tc 0 bg.toList.dropLast.length++[bg.toList.dropLast.length]:=by
  rw[hsz,List.range_succ,AQ]
 rw[hl];refine yK (pf:=τ.pf) ro bg.toList.dropLast 0 s.den s1.den E a _ (fun j o v=>?_) hp hs fun k q hc=>?_
 ·have g := aL v
  have:bg.toList[j]? = some o:=by
   rw[u,cI g];exact v
  simpa using this
 ·obtain ⟨J, r1, h1, h2⟩ := hc
  refine Vc hm ht hL hr ho M N O hx hid hn g U I B { w:=q,H:=s1.den.H,loc:=J,X:=E.X.re r1 } k h1 ro W fun a2 w2 ⟨b,p,d',g1,g2,g3⟩=>?_;exact⟨rfl,b,p,d',g1,g2,dx.after h2.toM g3⟩
noncomputable def rN{β:Type}(rows:List (List G))(k:Nat→List (List G)→Option β):Option β :=
 open Classical in if h:∃ r,∀ b p,p.Perm rows→k b p=some r then some h.choose else none
theorem C_{β:Type}{rows:List (List G)}{k:Nat→List (List G)→Option β}{r:β}(h:rN rows k=some r):∀ b p,p.Perm rows→k b p=some r:=by
 unfold rN at h;split at h
 ·rename_i d
  cases h;exact d.choose_spec
 ·cases h
theorem KV{β:Type}{rows:List (List G)}{k:Nat→List (List G)→Option β}{r:β}(h:∀ b p,p.Perm rows→k b p=some r):rN rows k=some r:=by
 cases hb:rN rows k with
 | some r' =>
  have h1:=C_ hb 0 rows (oO _);rw[h 0 rows (oO _)]at h1;exact h1.symm
 | none =>
  unfold rN at hb;rw[dif_pos ⟨r,h⟩]at hb;cases hb
def lB(rows:List (List G))(clock:Nat):Bool:=nodupB (rows.map cV)&&rows.all fun r=>fe (cV r) clock
theorem KW{rows:List (List G)}{clock:Nat}(h:lB rows clock=true):(rows.map cV).Nodup∧∀ r∈rows,cV r<clock:=by
 simp only[lB,ax,cM,kC]at h;exact⟨rD h.1,h.2⟩
noncomputable def jK(sp:fv)(tl:List G→Option (Option Nat × List G))(rows:List (List G))(clock:Nat)(d:List G):Option (Option Nat × List G) :=
 bif lB rows clock then rN rows (fun b p=>bif sp.side d b then (cH sp.st sp.a7 p (sp.init d b)).bind tl else none) else none
def pH(P:Program)(m:Nat)(c:Code)(sp:bx):Prop:=∀ d i d',sp.st d=some (some i,d')→∃ o,sp.outs[i]? = some o∧cU P m c (aO sp.inv d).den o.x (aO o.S d').den
theorem ft.sat{c:Code}{q:bx}(hm:P.follows .mixedOrders=true)(k:au P τ)(u:ay P m L c)(v:ft P τ L m c q):pH P m c q:=by
 intro d i d' g;rw[←v d]at g;obtain⟨x,s1,g1,g2⟩:=gN hm k c (aO q.inv d) .done u (Q:=fun x s=>pD m q.outs 0 x s=some (true,(some i,d'))) (nU g);obtain⟨j,o,y,h,B,I⟩:=yu g2;simp only[aV,cP]at h;subst h;refine⟨o,y,?_⟩;rw[←B];exact qS g1 (ly I)
theorem Ve{c:Code}{q:bx}(y:pH P m c q){s:al}{t:Tree}(h:uO m q s=some t):xZ P m c s t:=by
 unfold uO at h;split at h
 case h_2=>cases h
 rename_i b d B;cases h;intro Q u;simp only[Tree.holds,rC,ax]at u;obtain⟨⟨rfl,h1⟩,v⟩:=u;cases g:q.st d with
 |none=>rw[g]at h1; cases h1
 | some r =>
  obtain⟨k,d'⟩:=r;cases k with
  |none=>rw[g]at h1; cases h1
  | some i =>
   obtain⟨o,g1,g2⟩:=y d i d' g;rw[g]at v;exact⟨o.x,(aO o.S d'),qR ((lz q.opens s).trans (ly B)) g2,yv g1 (cP i).symm v⟩
theorem ay.KX{fn:Func}{q:bx} (u:kV q.key (bG (aU fn))=true) (g:ay P m L (aU fn)) (h:ay P m L (cutAt fn q.key)→pH P m (cutAt fn q.key) q) :
  ay P m (L.d_ m q) (aU fn):=by
 refine⟨g.1,g.2.1,fun k v hk s t d=>?_⟩;simp only[LT.d_]at d;split at d
 ·rename_i e
  have e:=br e;subst e;have y:=C0 u hk;rw[←y]at h;exact Ve (h (g.sub (nZ hk) (n3 hk))) d
 ·exact g.2.2 k v hk s t d
def uW(o:Option Tmp)(t:Tmp):Bool :=
 match o with
 |some x=>ad x t
 |none=>false
theorem yR{o:Option Tmp}{t:Tmp}(h:uW o t=true):o=some t:=by
 cases o with
 |none=>cases h
 |some x=>exact congrArg some (br h)
def yS(P:Program)(sp:fv)(ops:Array Oper):Bool :=
 match ops.toList.getLast? with
 |some ⟨d2,.range ty (.tmp b),_,_,_,none⟩=>ad b sp.y&&uW d2 sp.it&&(cX P ty).isSome
 |_=>false
def yT(sp:fv)(ops:Array Oper):Bool :=
 match ops.toList with
 | [⟨d1,.next (.tmp a) false,_,_,_,none⟩,⟨d2,.extract (.tmp b) 0,_,_,_,none⟩]=>ad a sp.it&&uW d1 sp.t1&&ad b sp.t1&&uW d2 sp.t2
 |_=>false
def yU(sp:fv)(ops:Array Oper):Bool :=
 match ops.toList with
 |⟨d1,.entry (.tmp a),_,_,_,none⟩::_=>ad a sp.it&&uW d1 sp.t3
 |_=>false
theorem KY(h0:yS P sp bg=true)(h1:yT sp bQ=true)(d:yU sp bA=true):mH P sp bg bQ bA:=by
 refine⟨?_,?_,?_⟩
 ·unfold yS at h0
  split at h0
  ·rename_i d2 ty b t' k q e
   simp only[ax]at h0;obtain⟨⟨g3,g4⟩,g5⟩:=h0;have g3:=br g3;subst g3;refine⟨⟨d2,.range ty (.tmp sp.y),t',k,q,none⟩,ty,?_,rfl,rfl,yR g4,g5⟩;have g:bg.toList≠[]:=by
    intro h;rw[h]at e;cases e
   have d:=List.dropLast_concat_getLast g;have u:bg.toList.getLast? = some (bg.toList.getLast g):=by
    rw[List.getLast?_eq_some_iff];exact⟨_,d.symm⟩
   rw[u]at e;rw[gg e]at d;exact d.symm
  ·cases h0
 ·unfold yT at h1
  split at h1
  ·rename_i d1 a _ _ _ d2 b _ _ _ e
   simp only[ax]at h1;obtain⟨⟨⟨g1,g2⟩,g3⟩,g4⟩:=h1;have g1:=br g1;have g3:=br g3;subst g1;subst g3;exact⟨_,_,e,rfl,rfl,yR g2,rfl,rfl,yR g4⟩
  ·cases h1
 ·unfold yU at d
  split at d
  ·rename_i d1 a _ _ _ l e
   simp only[ax]at d;have g1:=br d.1;subst g1;exact⟨_,l,e,rfl,rfl,yR d.2⟩
  ·cases d
def rO:Code→Code
 |.seq _ b=>b
 |_=>.skip
def C':Code→Code
 |.seq (.seq _ (.block _ (.loop c))) _=>c
 |_=>.skip
def rP(c:Code):Code:=match C' c with
 |.seq _ (.seq _ (.block _ (.seq _ b)))=>b
 |_=>.skip
def Da:Code→Array Oper
 |.region _ ops _=>ops
 |_=>#[]
def lC:Code→Array Oper
 |.seq (.seq r _) _=>Da r
 |_=>#[]
def yV(c:Code):Array Oper:=match C' c with
 |.seq r _=>Da r
 |_=>#[]
def ob(c:Code):Array Oper:=match C' c with
 |.seq _ (.seq _ (.block _ (.seq r _)))=>Da r
 |_=>#[]
theorem KZ{r0 r1 b0 b1 r2 t2:Nat}{rest:Code} (h:ay P m L (.seq (kW r0 b0 r1 b1 r2 bg bQ bA t2 body) rest)):ay P m L body∧ay P m L rest:=by
 refine⟨h.sub (fun p d=>?_) (fun p d=>?_),h.sub (fun p d=>?_) (fun p d=>?_)⟩
 ·simp only [bK, kW, cS]
  left;right;split
  ·simp only [bW, bK, cS]
   exact .inr (.inr (.inr (.inr d)))
  ·simp only [bK, cS]
   exact .inr (.inr (.inr d))
 ·simp only [bG, kW, cS]
  exact .inl (.inr (.inr (.inr (.inr (.inr (.inr (.inr (.inr d))))))))
 ·simp only [bK, cS]
  exact .inr d
 ·simp only [bG, cS]
  exact .inr (.inr d)
def K4(P:Program)(τ:ar)(ops:Array Oper)(s:al):al:=match (lv P τ ops ops.toList.dropLast s fun s=>.done .normal s).ke with
 |some (_,s1)=>s1
 |none=>s
theorem K5(d:au P τ){ops:Array Oper}{l:List Oper}{s s1:al}(h:(lv P τ ops l s fun s=>.done .normal s).ke=some (.normal,s1)):fI P τ.pf ops l s.den s1.den:=by
 obtain⟨s',h1,g⟩:=ya d (uU h);obtain⟨_,rfl⟩:=g;exact h1
theorem Vf(hm:P.follows .mixedOrders=true)(W:au P τ){rest:Code}{q qr:bx}(hL:ay P m L body)(hr:jJ P τ L m sp bA body)(ho:mH P sp bg bQ bA)
  (hu1:∀ d,(aO sp.inv d).fr[sp.t1]? = some .undef) (hu2:∀ d,(aO sp.inv d).fr[sp.t2]? = some .undef) (hut:∀ d,(aO sp.inv d).fr[sp.it]? = some (.lit (.pointer (some ⟨sp.a7 d,0,none⟩))))
  {r0 r1 b0 b1 r2:Nat}
  {rows:List G→List (List G)} {clock:List G→Nat} {pre:List G→al} (hy:∀ d,(lv P τ bg bg.toList.dropLast (aO q.inv d) fun s=>.done .normal s).ke=some (.normal,pre d)) (u:∀ d,(pre d).eval (.tmp sp.y)=.map sp.id) (hid:∀ d,(pre d).H[sp.id]? = some (.map sp.K sp.V (rows d) (clock d)))
  (hin:∀ d b,ig m sp.inv sp.ps (gz sp.opens (sp.s2 (pre d) b))=some (sp.side d b,sp.init d b)) (hadr:∀ d b,sp.a7 (sp.init d b)=b)
  (hinv:qr.inv=sp.inv) (houts:qr.outs=q.outs) (I:pH P m rest qr) (hst:∀ d,q.st d=jK sp qr.st (rows d) (clock d) d) :
  pH P m (.seq (kW r0 b0 r1 b1 r2 bg bQ bA sp.t2 body) rest) q:=by
 intro d i d' h;rw[hst]at h;unfold jK at h;cases B:lB (rows d) (clock d)with
 |false=>rw[B]at h; cases h
 | true =>
  rw[B]at h;simp only[cond_true]at h;have hall:=C_ h;obtain⟨hn,hlt⟩:=KW B;have k:∀ b p,p.Perm (rows d)→sp.side d b=true∧∃ d1,cH sp.st sp.a7 p (sp.init d b)=some d1∧qr.st d1=some (some i,d'):=by
   intro b p g;have:=hall b p g;cases M:sp.side d b with
   |false=>rw[M]at this; cases this
   | true =>
    rw[M]at this;simp only[cond_true]at this;cases v:cH sp.st sp.a7 p (sp.init d b)with
    |none=>rw[v]at this; cases this
    | some d1 =>
     rw[v]at this;exact⟨rfl,d1,rfl,this⟩
  obtain⟨_,d1,_,g1⟩:=k 0 (rows d) (oO _);obtain⟨o,N,_⟩:=I d1 i d' g1;refine⟨o,by rw[←houts]; exact N,fun ro O E a hs=>wpIn_seq (wpIn_mono (Vd hm W hL hr ho hu1 hu2 hut (K5 W (hy d)) (u d) (hid d) hn hlt (fun b=>by rw[hin d b,(k b (rows d) (oO _)).1]) (hadr d) (fun b p g=>?_) E a hs ro (KQ O.seq1)) fun e a1 w1 hq=>?_)⟩
  ·obtain ⟨_, d2, h2, _⟩ := k b p g
   rw[h2];rfl
  ·obtain ⟨rfl, b, p, d2, g, v, loc, X, hs2, hle⟩ := hq
   obtain⟨_,d3,h3,h4⟩:=k b p g;rw[v]at h3;cases h3;obtain⟨o',U,J⟩:=I d2 i d' h4;rw[N]at U;cases U;rw[hinv]at J;exact wpIn_mono (J ro O.BW { w:=w1,H:=(aO sp.inv d2).den.H,loc:=loc,X:=X } a1 hs2) fun x a2 w2 u=>⟨u.1,dx.after hle u.2⟩
theorem ay.Vg(hm:P.follows .mixedOrders=true)(h:au P τ){fn:Func}{q qr:bx}{r0 b0 r1 b1 r2:Nat}{rows:List G→List (List G)}{clock:List G→Nat}
  (hn:kV q.key (bG (aU fn))=true) (hL:ay P m L (aU fn))
  (k:cutAt fn q.key=.seq (kW r0 b0 r1 b1 r2 (lC (cutAt fn q.key)) (yV (cutAt fn q.key)) (ob (cutAt fn q.key)) sp.t2 (rP (cutAt fn q.key))) (rO (cutAt fn q.key)))
  (ho:(yS P sp (lC (cutAt fn q.key))&&yT sp (yV (cutAt fn q.key))&&yU sp (ob (cutAt fn q.key)))=true)
  (hr:jJ P τ L m sp (ob (cutAt fn q.key)) (rP (cutAt fn q.key)))
  (I:∀ d,(aO sp.inv d).fr[sp.t1]? = some .undef) (J:∀ d,(aO sp.inv d).fr[sp.t2]? = some .undef) (M:∀ d,(aO sp.inv d).fr[sp.it]? = some (.lit (.pointer (some ⟨sp.a7 d,0,none⟩))))
  {pre:List G→al} (hy:∀ d,(lv P τ (lC (cutAt fn q.key)) (lC (cutAt fn q.key)).toList.dropLast (aO q.inv d) fun s=>.done .normal s).ke=some (.normal,pre d)) (hx:∀ d,(pre d).eval (.tmp sp.y)=.map sp.id) (hid:∀ d,(pre d).H[sp.id]? = some (.map sp.K sp.V (rows d) (clock d)))
  (N:∀ d b,ig m sp.inv sp.ps (gz sp.opens (sp.s2 (pre d) b))=some (sp.side d b,sp.init d b)) (B:∀ d b,sp.a7 (sp.init d b)=b)
  (hinv:qr.inv=sp.inv) (u:qr.outs=q.outs) (v:ft P τ L m (rO (cutAt fn q.key)) qr) (O:∀ d,q.st d=jK sp qr.st (rows d) (clock d) d) :
  ay P m (L.d_ m q) (aU fn):=by
 refine ay.KX hn hL fun g=>?_;rw[k]at g;obtain⟨U,W⟩:=KZ g;simp only[ax]at ho;rw[k];exact Vf hm h U hr (KY ho.1.1 ho.1.2 ho.2) I J M hy hx hid N B hinv u (v.sat hm h W) O
end range
end Go.AL
