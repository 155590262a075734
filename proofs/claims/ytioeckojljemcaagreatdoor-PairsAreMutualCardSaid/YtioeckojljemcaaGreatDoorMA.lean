/-
 What is proved here: basic facts of an abstract logic for the model's programs: abstract values,what they say of the model's values in a world,and that this survives what a call may do. No program in sight; no condition.
-/
import Derived.Calls
import Derived.Orders
import Derived.OrdersIn
import Derived.RangeFuncNested
import Derived.RangeFuncLeaves
import Derived.Laws.Sem
import Derived.Laws.Cells
import Derived.Laws.StructEq
import Derived.Laws.AppendOwn
import Derived.Laws.CopyRow
set_option linter.all false
namespace Go.AL
inductive Kd where
 | int (k:IntKind)
 | str
 | bool
 /-- a slice that nobody writes any more -/
 | list (ks:List Kd)
 deriving Inhabited
inductive G where
 | i (n:Int)
 | s (b:ByteArray)
 | t (x:Bool)
 | l (rows:List (List G))
instance:Inhabited G:=⟨.i 0⟩
def G.int:G→Int
 | .i n=>n
 | _=>0
def G.str:G→ByteArray
 | .s b=>b
 | _=>ByteArray.empty
def G.bool:G→Bool
 | .t x=>x
 | _=>false
def G.rows:G→List (List G)
 | .l rows=>rows
 | _=>[]
inductive AV where
 /-- anything -/
 | undef
 /-- this very value -/
 | lit (v:Value)
 /-- a slice of length 0 and capacity 0 -/
 | nils
 /-- a slice whose elements nobody writes any more: its rows,each of k cells -/
 | list (k:Nat) (rows:List (List AV))
 /-- the same,of data: the kinds of the cells of a row,the rows -/
 | listF (ks:List Kd) (rows:List (List G))
 /-- a struct or an array,cell by cell -/
 | agg (cells:List AV)
 | tuple (vs:List AV)
 /-- a pointer to cells that nobody writes any more -/
 | cptr (cells:List AV)
 /-- a pointer into an owned object: the object,its version,the cells of a row,the row,the cell in the row -/
 | ptr (id ver k row col:Nat)
 /-- a slice of an owned object: the cells of a row,the object,its version,from a row on,so many rows -/
 | vec (k id ver off n:Nat)
 /-- a map that is owned -/
 | map (id:Nat)
 /-- a function with what it captured -/
 | clo (f:FuncId) (caps:List AV)
 /-- some interface value that is not nil -/
 | ifc
 /-- an empty slice: is it nil? -/
 | emptyS (isNil:Bool)
 deriving Inhabited
def gCell:Kd→G→AV
 | .int k,g=>.lit (.int k g.int)
 | .str,g=>.lit (.string g.str)
 | .bool,g=>.lit (.bool g.bool)
 | .list ks,g=>.listF ks g.rows
def gCells:List Kd→List G→List AV
 | [],_=>[]
 | k::ks,g=>gCell k (g.headD default)::gCells ks g.tail
theorem gCells_length:∀ (ks:List Kd) (g:List G),(gCells ks g).length=ks.length
 | [],_=>rfl
 | _::ks,g=>by simp [gCells,gCells_length ks]
inductive AObj where
 | dead
 /-- a variable,a struct,an array: its cells -/
 | box (cells:List AV)
 /-- the array under a slice: at least these rows of k cells -/
 | vec (k ver:Nat) (rows:List (List AV))
 /-- a map: its entries (key,value,birth),and the clock -/
 | map (es:List (AV × AV × Nat)) (clock:Nat)
 /-- a walk along a string: the string,how far it has come -/
 | iter (s:ByteArray) (pos:Nat)
 /-- a strings.Builder: the label of its buffer,the types of the two,what was written -/
 | bld (l:Nat) (T B:TypeId) (s:ByteArray)
 /-- a map whose elements are slices that are owned with it: the label of their arrays,the cells of a row,the entries (key,rows or,if it was taken out,none; birth),and the clock -/
 | pool (l k:Nat) (es:List (AV × Option (List (List AV)) × Nat)) (clock:Nat)
 deriving Inhabited
def AObj.label:AObj→Option Nat
 | .bld l _ _ _=>some l
 | .pool l _ _ _=>some l
 | _=>none
def AObj.ver? : AObj→Option Nat
 | .dead=>none
 | .box _=>some 0
 | .vec _ v _=>some v
 | .map _ _=>some 0
 | .iter _ _=>some 0
 | .bld ..=>some 0
 | .pool ..=>some 0
structure XS where
 x:Nat→Prop
 z:Nat→Prop
 /-- by label: further blocks of objects,with capacities; none: what is not there any more -/
 r:Nat→List (Option (Option (Nat × Nat)))
instance:CoeFun XS fun _=>Nat→Prop:=⟨XS.x⟩
def XS.or (X:XS) (p:Nat→Prop):XS:=⟨fun b=>X b∨p b,X.z,X.r⟩
def XS.re (X:XS) (r:Nat→List (Option (Option (Nat × Nat)))):XS:=⟨X.x,X.z,r⟩
@[simp] theorem XS.re_self (X:XS):X.re X.r=X:=rfl
@[simp] theorem XS.re_x (X:XS) (r):(X.re r).x=X.x:=rfl
@[simp] theorem XS.re_z (X:XS) (r):(X.re r).z=X.z:=rfl
@[simp] theorem XS.re_r (X:XS) (r):(X.re r).r=r:=rfl
@[simp] theorem XS.re_re (X:XS) (r r'):(X.re r).re r'=X.re r':=rfl
theorem XS.re_eq {X X':XS} (h:X'.x=X.x∧X'.z=X.z) (r):X'.re r=X.re r:=by
 unfold XS.re
 rw [h.1,h.2]
def noR:Nat→List (Option (Option (Nat × Nat))):=fun _=>[]
def tabZ:List (Nat × Array Value):=[]
class Dr where
 d:Bool
abbrev drT:Dr:=⟨true⟩
variable [Dr]
def tabD:Bool:=Dr.d
structure Env where
 w:World
 H:List AObj
 loc:List (Option (Nat × Nat))
 X:XS
def Env.sat (E:Env) (b:Nat):Prop:=∃ (l h m:Nat),(E.X.r l)[h]? = some (some (some (b,m)))
def Env.own (E:Env) (b:Nat):Prop:=(∃ (id:Nat) (c:Nat),E.loc[id]? = some (some (b,c)))∨E.sat b
def Env.okb (E:Env) (b:Nat):Prop:=b<E.w.heap.size∧¬ E.own b∧¬ E.X b
def Env.live (E:Env) (id ver:Nat):Prop:=∃ o,E.H[id]? = some o∧o.ver? = some ver
def Env.past (E:Env) (id ver:Nat):Prop:=∃ o,E.H[id]? = some o∧∀ v,o.ver? = some v→ver≤v
def one1:Value→Bool
 | .agg _ | .tuple _=>false
 | _=>true
mutual
def AV.closed:AV→Bool
 | .undef | .lit _ | .nils | .list _ _ | .listF _ _ | .cptr _ | .ifc | .emptyS _=>true
 | .agg cs | .tuple cs | .clo _ cs=>AV.closedL cs
 | .ptr .. | .vec .. | .map _=>false
def AV.closedL:List AV→Bool
 | []=>true
 | a::as=>a.closed&&AV.closedL as
end
theorem gCells_closed:∀ (ks:List Kd) (g:List G),AV.closedL (gCells ks g)=true
 | [],_=>rfl
 | k::ks,g=>by
  simp only [gCells,AV.closedL,gCells_closed ks,Bool.and_true]
  cases k<;>rfl
mutual
def relKd (E:Env):Kd→G→Value→Prop
 | .int k,g,c=>c=.int k g.int
 | .str,g,c=>c=.string g.str
 | .bool,g,c=>c=.bool g.bool
 | .list ks,g,c=>∃ base cap,c=.slice base g.rows.length cap∧g.rows.length≤cap ∧
   (g.rows=[]∨∃ b o,base=some ⟨b,o,none⟩∧E.okb b∧∀ (i:Nat) (r:List G),g.rows[i]? = some r→relKs E ks r b (o+i*ks.length))
def relKs (E:Env):List Kd→List G→Nat→Nat→Prop
 | [],_,_,_=>True
 | k::ks,g,b,o=>(∃ v,E.w.cell? ⟨b,o,none⟩=some v∧one1 v=true∧relKd E k (g.headD default) v)∧relKs E ks g.tail b (o+1)
end
def closedRows (rows:List (List AV)):Prop:=∀ r∈rows,AV.closedL r=true
mutual
def rel (E:Env):AV→Value→Prop
 | .undef,_=>True
 | .lit v,c=>c=v
 | .nils,c=>∃ base,c=.slice base 0 0
 | .list k rows,c=>closedRows rows∧∃ base cap,c=.slice base rows.length cap∧rows.length≤cap ∧
   (rows=[]∨∃ b o,base=some ⟨b,o,none⟩∧E.okb b∧relRows E k rows b o)
 | .listF ks rows,c=>relKd E (.list ks) (.l rows) c
 | .agg cells,c=>∃ cs:Array Value,c=.agg cs∧(∀ x∈cs.toList,one1 x=true)∧rLs E cells cs.toList
 | .tuple vs,c=>∃ cs:Array Value,c=.tuple cs∧rLs E vs cs.toList
 | .cptr cells,c=>AV.closedL cells=true∧∃ b o,c=.pointer (some ⟨b,o,none⟩)∧E.okb b∧relCells E cells b o
 | .ptr id ver k row col,c=>(∃ b o,c=.pointer (some ⟨b,o,none⟩))∧E.past id ver∧(E.live id ver→∃ b n,E.loc[id]? = some (some (b,n)) ∧
   c=.pointer (some ⟨b,row*k+col,none⟩))
 | .vec k id ver off n,c=>(∃ base cap,c=.slice base n cap∧n≤cap∧(0<n→∃ b o,base=some ⟨b,o,none⟩))∧E.past id ver∧(E.live id ver →
   (E.loc[id]? = some none→n=0∧off=0∧∃ base,c=.slice base 0 0) ∧
   (∀ b m,E.loc[id]? = some (some (b,m))→off+n≤m∧∃ o,(off<m→o=off*k)∧c=.slice (some ⟨b,o,none⟩) n (m-off)))
 | .map id,c=>(∃ b,c=.map (some b))∧E.past id 0∧(E.live id 0→∃ b n,E.loc[id]? = some (some (b,n))∧c=.map (some b))
 | .clo f caps,c=>∃ cs:Array Value,c=.func (.func f) #[] cs∧rLs E caps cs.toList
 | .ifc,c=>∃ t v,c=.iface t v
 | .emptyS n,c=>∃ base cap,c=.slice base 0 cap∧base.isNone=n
def rLs (E:Env):List AV→List Value→Prop
 | [],[]=>True
 | a::as,v::vs=>rel E a v∧rLs E as vs
 | _,_=>False
def relCells (E:Env):List AV→Nat→Nat→Prop
 | [],_,_=>True
 | a::as,b,o=>(∃ v,E.w.cell? ⟨b,o,none⟩=some v∧one1 v=true∧rel E a v)∧relCells E as b (o+1)
def relRows (E:Env) (k:Nat):List (List AV)→Nat→Nat→Prop
 | [],_,_=>True
 | r::rs,b,o=>r.length=k∧relCells E r b o∧relRows E k rs b (o+k)
end
theorem relList_length {E:Env}:∀ {as:List AV} {vs:List Value},rLs E as vs→as.length=vs.length
 | [],[],_=>rfl
 | _::_,_::_,h=>by simp only [rLs] at h; simp [relList_length h.2]
 | [],_::_,h=>by simp [rLs] at h
 | _::_,[],h=>by simp [rLs] at h
theorem relList_iff {E:Env}:∀ {as:List AV} {vs:List Value},
  rLs E as vs↔as.length=vs.length∧∀ (i:Nat) a v,as[i]? = some a→vs[i]? = some v→rel E a v
 | [],[]=>by simp [rLs]
 | [],_::_=>by simp [rLs]
 | _::_,[]=>by simp [rLs]
 | a::as,v::vs=>by
  simp only [rLs,relList_iff (as:=as),List.length_cons]
  constructor
  ·rintro ⟨h1, h2, h3⟩
   refine ⟨by omega,fun i x y hx hy=>?_⟩
   cases i with
   | zero=>simp at hx hy; subst hx; subst hy; exact h1
   | succ i=>exact h3 i x y (by simpa using hx) (by simpa using hy)
  ·rintro ⟨h1, h2⟩
   exact ⟨h2 0 a v rfl rfl,by omega,fun i x y hx hy=>h2 (i+1) x y (by simpa using hx) (by simpa using hy)⟩
theorem relCells_iff {E:Env}:∀ {as:List AV} {b o:Nat},
  relCells E as b o↔∀ (i:Nat) a,as[i]? = some a→∃ v,E.w.cell? ⟨b,o+i,none⟩=some v∧one1 v=true∧rel E a v
 | [],b,o=>by simp [relCells]
 | a::as,b,o=>by
  simp only [relCells,relCells_iff (as:=as)]
  constructor
  ·rintro ⟨h1, h2⟩ i x hx
   cases i with
   | zero=>simp at hx; subst hx; exact h1
   | succ i=>have:=h2 i x (by simpa using hx); rwa [Nat.add_assoc,Nat.add_comm 1 i] at this
  ·intro h
   refine ⟨h 0 a rfl,fun i x hx=>?_⟩
   have:=h (i+1) x (by simpa using hx)
   rwa [Nat.add_assoc,Nat.add_comm 1 i]
theorem relRows_iff {E:Env} {k:Nat}:∀ {rs:List (List AV)} {b o:Nat},
  relRows E k rs b o↔∀ (i:Nat) r,rs[i]? = some r→r.length=k∧relCells E r b (o+i*k)
 | [],b,o=>by simp [relRows]
 | r::rs,b,o=>by
  simp only [relRows,relRows_iff (rs:=rs)]
  constructor
  ·rintro ⟨h0, h1, h2⟩ i x hx
   cases i with
   | zero=>simp at hx; subst hx; simpa using ⟨h0,h1⟩
   | succ i =>
    have:=h2 i x (by simpa using hx)
    rwa [Nat.add_assoc,show k+i*k=(i+1)*k from by rw [Nat.add_mul]; omega] at this
  ·intro h
   have h0:=h 0 r rfl
   refine ⟨h0.1,by simpa using h0.2,fun i x hx=>?_⟩
   have:=h (i+1) x (by simpa using hx)
   rwa [Nat.add_assoc,show k+i*k=(i+1)*k from by rw [Nat.add_mul]; omega]
def SameOs (w w':World):Prop:=w'.os=w.os∧w'.output=w.output∧w'.tape=w.tape∧(tabD=true→w.drawn≤w'.drawn)
theorem SameOs.refl (w:World):SameOs w w:=⟨rfl,rfl,rfl,by first | exact fun _=>Nat.le_refl _ | exact fun _=>Nat.le_add_right _ _⟩
theorem SameOs.trans {w w' w'':World} (h:SameOs w w') (h':SameOs w' w''):SameOs w w'':=⟨h'.1.trans h.1,h'.2.1.trans h.2.1,h'.2.2.1.trans h.2.2.1,fun t=>Nat.le_trans (h.2.2.2 t) (h'.2.2.2 t)⟩
structure Env.le (E E':Env):Prop where
 past:∀ id ver,E.past id ver→E'.past id ver
 size:E.w.heap.size≤E'.w.heap.size
 same:∀ b,b<E.w.heap.size→¬ E.own b→E'.w.heap[b]? = E.w.heap[b]?
 own:∀ b,b<E.w.heap.size→¬ E.own b→¬ E'.own b
 live:∀ id ver,E.past id ver→E'.live id ver→E.live id ver∧E'.loc[id]? = E.loc[id]?
 X:E'.X.x=E.X.x∧E'.X.z=E.X.z
 rl:∀ l h,h<(E.X.r l).length→h<(E'.X.r l).length∧∀ q,(E'.X.r l)[h]? = some (some q)→(E.X.r l)[h]? = some (some q)
 env:SameOs E.w E'.w
theorem Env.le.refl (E:Env):E.le E:=⟨fun _ _ h=>h,Nat.le_refl _,fun _ _ _=>rfl,fun _ _ h=>h,fun _ _ _ h=>⟨h,rfl⟩,⟨rfl,rfl⟩,fun _ _ h=>⟨h,fun _ hq=>hq⟩,⟨rfl,rfl,rfl,by first | exact fun _=>Nat.le_refl _ | exact fun _=>Nat.le_add_right _ _⟩⟩
theorem Env.le.ok {E E':Env} (h:E.le E') (b:Nat) (hb:E.okb b):E'.okb b :=
 ⟨Nat.lt_of_lt_of_le hb.1 h.size,h.own b hb.1 hb.2.1,by rw [show E'.X.x=E.X.x from h.X.1]; exact hb.2.2⟩
theorem Env.le.trans {E E' E'':Env} (h:E.le E') (h':E'.le E''):E.le E'' where
 past:=fun id ver hp=>h'.past id ver (h.past id ver hp)
 size:=Nat.le_trans h.size h'.size
 same:=fun b hb ho=>by rw [h'.same b (Nat.lt_of_lt_of_le hb h.size) (h.own b hb ho),h.same b hb ho]
 own:=fun b hb ho=>h'.own b (Nat.lt_of_lt_of_le hb h.size) (h.own b hb ho)
 live:=fun id ver hid hl=>by
  obtain ⟨a1,a2⟩:=h'.live id ver (h.past id ver hid) hl
  obtain ⟨b1,b2⟩:=h.live id ver hid a1
  exact ⟨b1,by rw [a2,b2]⟩
 X:=⟨by rw [h'.X.1,h.X.1],by rw [h'.X.2,h.X.2]⟩
 rl:=fun l i hi=>by
  obtain ⟨a1,a2⟩:=h.rl l i hi
  obtain ⟨b1,b2⟩:=h'.rl l i a1
  exact ⟨b1,fun q hq=>a2 q (b2 q hq)⟩
 env:=h.env.trans h'.env
theorem World.cell?_of_heap {w w':World} {b o:Nat} (h:w'.heap[b]? = w.heap[b]?):w'.cell? ⟨b,o,none⟩=w.cell? ⟨b,o,none⟩:=by
 simp [World.cell?,h]
structure Env.leC (E E':Env):Prop where
 ok:∀ b,E.okb b→E'.okb b∧E'.w.heap[b]? = E.w.heap[b]?
theorem Env.le.toC {E E':Env} (h:E.le E'):E.leC E':=⟨fun b hb=>⟨h.ok b hb,h.same b hb.1 hb.2.1⟩⟩
mutual
theorem relKd_closed {E E':Env} (h:E.leC E'):∀ (k:Kd) {g:G} {c:Value},relKd E k g c→relKd E' k g c
 | .int k,g,c,hr=>by simpa only [relKd] using hr
 | .str,g,c,hr=>by simpa only [relKd] using hr
 | .bool,g,c,hr=>by simpa only [relKd] using hr
 | .list ks,g,c,hr=>by
  simp only [relKd] at hr ⊢
  obtain ⟨base,cap,hc,hle,hrow⟩:=hr
  refine ⟨base,cap,hc,hle,?_⟩
  rcases hrow with hn | ⟨b,o,hb,hok,hrows⟩
  ·exact .inl hn
  ·exact .inr ⟨b,o,hb,(h.ok b hok).1,fun i r hi=>relKs_closed h ks (h.ok b hok).2 (hrows i r hi)⟩
theorem relKs_closed {E E':Env} (h:E.leC E'):∀ (ks:List Kd) {g:List G} {b o:Nat},E'.w.heap[b]? = E.w.heap[b]? → relKs E ks g b o→relKs E' ks g b o
 | [],_,_,_,_,_=>by simp [relKs]
 | k::ks,g,b,o,hb,hr=>by
  simp only [relKs] at hr ⊢
  obtain ⟨⟨v,h1,h2,h3⟩,h4⟩:=hr
  exact ⟨⟨v,by rw [World.cell?_of_heap hb]; exact h1,h2,relKd_closed h k h3⟩,relKs_closed h ks hb h4⟩
end
mutual
theorem rel_closed {E E':Env} (h:E.leC E'):∀ (a:AV) {c:Value},a.closed=true→rel E a c→rel E' a c
 | .undef,_,_,_=>by simp [rel]
 | .lit v,c,_,hr=>by simpa only [rel] using hr
 | .nils,c,_,hr=>by simpa only [rel] using hr
 | .list k rows,c,_,hr=>by
  simp only [rel] at hr ⊢
  obtain ⟨hcl,base,cap,hc,hle,hrow⟩:=hr
  refine ⟨hcl,base,cap,hc,hle,?_⟩
  rcases hrow with rfl | ⟨b,o,hb,hok,hrows⟩
  ·exact .inl rfl
  ·exact .inr ⟨b,o,hb,(h.ok b hok).1,relRows_closed h rows hcl (h.ok b hok).2 hrows⟩
 | .listF ks rows,c,_,hr=>by
  simp only [rel] at hr ⊢
  exact relKd_closed h _ hr
 | .agg cells,c,hc,hr=>by
  simp only [rel] at hr ⊢
  obtain ⟨cs,e,h1,h2⟩:=hr
  exact ⟨cs,e,h1,relList_closed h cells (by simpa only [AV.closed] using hc) h2⟩
 | .tuple cells,c,hc,hr=>by
  simp only [rel] at hr ⊢
  obtain ⟨cs,e,h2⟩:=hr
  exact ⟨cs,e,relList_closed h cells (by simpa only [AV.closed] using hc) h2⟩
 | .cptr cells,c,hc,hr=>by
  simp only [rel] at hr ⊢
  obtain ⟨hcl,b,o,e,hok,h2⟩:=hr
  exact ⟨hcl,b,o,e,(h.ok b hok).1,relCells_closed h cells hcl (h.ok b hok).2 h2⟩
 | .ptr ..,_,hc,_=>by simp [AV.closed] at hc
 | .vec ..,_,hc,_=>by simp [AV.closed] at hc
 | .map _,_,hc,_=>by simp [AV.closed] at hc
 | .clo f caps,c,hc,hr=>by
  simp only [rel] at hr ⊢
  obtain ⟨cs,e,h2⟩:=hr
  exact ⟨cs,e,relList_closed h caps (by simpa only [AV.closed] using hc) h2⟩
 | .ifc,c,_,hr=>by simpa only [rel] using hr
 | .emptyS n,c,_,hr=>by simpa only [rel] using hr
theorem relList_closed {E E':Env} (h:E.leC E'):∀ (as:List AV) {vs:List Value},AV.closedL as=true→rLs E as vs→rLs E' as vs
 | [],[],_,_=>by simp [rLs]
 | [],_::_,_,hr=>by simp [rLs] at hr
 | _::_,[],_,hr=>by simp [rLs] at hr
 | a::as,v::vs,hc,hr=>by
  simp only [AV.closedL,Bool.and_eq_true] at hc
  simp only [rLs] at hr ⊢
  exact ⟨rel_closed h a hc.1 hr.1,relList_closed h as hc.2 hr.2⟩
theorem relCells_closed {E E':Env} (h:E.leC E'):∀ (as:List AV) {b o:Nat},AV.closedL as=true→E'.w.heap[b]? = E.w.heap[b]? → relCells E as b o→relCells E' as b o
 | [],_,_,_,_,_=>by simp [relCells]
 | a::as,b,o,hc,hb,hr=>by
  simp only [AV.closedL,Bool.and_eq_true] at hc
  simp only [relCells] at hr ⊢
  obtain ⟨⟨v,h1,h2,h3⟩,h4⟩:=hr
  exact ⟨⟨v,by rw [World.cell?_of_heap hb]; exact h1,h2,rel_closed h a hc.1 h3⟩,relCells_closed h as hc.2 hb h4⟩
theorem relRows_closed {E E':Env} (h:E.leC E') {k:Nat}:∀ (rs:List (List AV)) {b o:Nat},closedRows rs→E'.w.heap[b]? = E.w.heap[b]? → relRows E k rs b o→relRows E' k rs b o
 | [],_,_,_,_,_=>by simp [relRows]
 | r::rs,b,o,hc,hb,hr=>by
  simp only [relRows] at hr ⊢
  exact ⟨hr.1,relCells_closed h r (hc r (by simp)) hb hr.2.1,relRows_closed h rs (fun x hx=>hc x (by simp [hx])) hb hr.2.2⟩
end
mutual
theorem rel_le {E E':Env} (h:E.le E'):∀ (a:AV) {c:Value},rel E a c→rel E' a c
 | .undef,_,_=>by simp [rel]
 | .lit v,c,hr=>by simpa only [rel] using hr
 | .nils,c,hr=>by simpa only [rel] using hr
 | .list k rows,c,hr=>rel_closed h.toC _ (by simp [AV.closed]) hr
 | .listF ks rows,c,hr=>rel_closed h.toC _ (by simp [AV.closed]) hr
 | .agg cells,c,hr=>by
  simp only [rel] at hr ⊢
  obtain ⟨cs,e,h1,h2⟩:=hr
  exact ⟨cs,e,h1,relList_le h cells h2⟩
 | .tuple cells,c,hr=>by
  simp only [rel] at hr ⊢
  obtain ⟨cs,e,h2⟩:=hr
  exact ⟨cs,e,relList_le h cells h2⟩
 | .cptr cells,c,hr=>rel_closed h.toC _ (by simp [AV.closed]) hr
 | .ptr id ver k row col,c,hr=>by
  simp only [rel] at hr ⊢
  refine ⟨hr.1,h.past _ _ hr.2.1,fun hl=>?_⟩
  obtain ⟨h1,h2⟩:=h.live id ver hr.2.1 hl
  rw [h2]
  exact hr.2.2 h1
 | .vec k id ver off n,c,hr=>by
  simp only [rel] at hr ⊢
  refine ⟨hr.1,h.past _ _ hr.2.1,fun hl=>?_⟩
  obtain ⟨h1,h2⟩:=h.live id ver hr.2.1 hl
  rw [h2]
  exact hr.2.2 h1
 | .map id,c,hr=>by
  simp only [rel] at hr ⊢
  refine ⟨hr.1,h.past _ _ hr.2.1,fun hl=>?_⟩
  obtain ⟨h1,h2⟩:=h.live id 0 hr.2.1 hl
  rw [h2]
  exact hr.2.2 h1
 | .clo f caps,c,hr=>by
  simp only [rel] at hr ⊢
  obtain ⟨cs,e,h2⟩:=hr
  exact ⟨cs,e,relList_le h caps h2⟩
 | .ifc,c,hr=>by simpa only [rel] using hr
 | .emptyS n,c,hr=>by simpa only [rel] using hr
theorem relList_le {E E':Env} (h:E.le E'):∀ (as:List AV) {vs:List Value},rLs E as vs→rLs E' as vs
 | [],[],_=>by simp [rLs]
 | [],_::_,hr=>by simp [rLs] at hr
 | _::_,[],hr=>by simp [rLs] at hr
 | a::as,v::vs,hr=>by
  simp only [rLs] at hr ⊢
  exact ⟨rel_le h a hr.1,relList_le h as hr.2⟩
end
theorem rel_gCell {E:Env} (k:Kd) (g:G) (c:Value):rel E (gCell k g) c↔relKd E k g c:=by
 cases k with
 | int k=>simp only [gCell,rel,relKd]
 | str=>simp only [gCell,rel,relKd]
 | bool=>simp only [gCell,rel,relKd]
 | list ks=>simp only [gCell,rel,relKd,G.rows]
theorem rel_gCells {E:Env}:∀ (ks:List Kd) (g:List G) (b o:Nat),relCells E (gCells ks g) b o↔relKs E ks g b o
 | [],_,_,_=>by simp [gCells,relCells,relKs]
 | k::ks,g,b,o=>by simp only [gCells,relCells,relKs,rel_gCells ks,rel_gCell]
theorem rel_listF {E:Env} {ks:List Kd} {rows:List (List G)} {c:Value}:rel E (.listF ks rows) c↔rel E (.list ks.length (rows.map (gCells ks))) c:=by
 simp only [rel,relKd,G.rows,List.length_map,List.map_eq_nil_iff]
 have hc:closedRows (rows.map (gCells ks)):=by
  intro r hr
  obtain ⟨g,_,rfl⟩:=List.mem_map.1 hr
  exact gCells_closed ks g
 have hr:∀ b o,(∀ (i:Nat) (r:List G),rows[i]? = some r→relKs E ks r b (o+i*ks.length))↔relRows E ks.length (rows.map (gCells ks)) b o:=by
  intro b o
  rw [relRows_iff]
  constructor
  ·intro h i r hi
   simp only [List.getElem?_map,Option.map_eq_some_iff] at hi
   obtain ⟨g,hg,rfl⟩:=hi
   exact ⟨gCells_length ks g,(rel_gCells ks g _ _).2 (h i g hg)⟩
  ·intro h i g hg
   exact (rel_gCells ks g _ _).1 (h i (gCells ks g) (by simp [hg])).2
 simp only [hr,hc,true_and]
end Go.AL

namespace Go.AL
variable [Dr]
def isRow (w:World) (b n:Nat):Prop:=∃ cs el,w.heap[b]? = some (.cells cs el (0,0))∧cs.size=n
def relEntries (E:Env):List (AV × AV × Nat)→List MapEntry→Prop
 | [],[]=>True
 | (k,v,n)::es,e::ms=>rel E k e.key∧rel E v e.val∧e.born=n∧k.closed=true∧v.closed=true∧relEntries E es ms
 | _,_=>False
def bufRel (w:World) (B:TypeId) (s:ByteArray) (v:Value):Option (Nat × Nat)→Prop
 | none=>v=.slice none 0 0∧s.data.toList=[]
 | some (g,m)=>v=.slice (some ⟨g,0,none⟩) s.data.toList.length m∧∃ cs fz,w.heap[g]? = some (.cells cs B fz)∧fz.2≤s.data.toList.length∧cs.size=m∧s.data.toList.length≤m∧m≤9223372036854775807 ∧
   cs.toList.take s.data.toList.length=s.data.toList.map fun b=>Value.int .u8 (b.toNat:Int)
theorem bufRel_same {w w':World} {B:TypeId} {s:ByteArray} {v:Value} {q:Option (Nat × Nat)} (h:∀ g m,q=some (g,m)→w'.heap[g]? = w.heap[g]?) (hr:bufRel w B s v q):bufRel w' B s v q:=by
 cases q with
 | none=>exact hr
 | some gm =>
  obtain ⟨g,m⟩:=gm
  obtain ⟨h1,cs,fz,h2,h3⟩:=hr
  exact ⟨h1,cs,fz,by rw [h g m rfl]; exact h2,h3⟩
def poolEs (es:List (AV × Option (List (List AV)) × Nat)):List (AV × AV × Nat):=es.map fun x=>(x.1,.undef,x.2.2)
theorem poolEs_length (es:List (AV × Option (List (List AV)) × Nat)):(poolEs es).length=es.length:=by simp [poolEs]
def slotRel (E:Env) (l k:Nat) (rows:List (List AV)) (h:Nat) (v:Value):Prop :=
 (rows = [] ∧ ∃ base, v = .slice base 0 0) ∨
  ∃ b m,(E.X.r l)[h]? = some (some (some (b,m)))∧v=.slice (some ⟨b,0,none⟩) rows.length m∧isRow E.w b (m*k)∧rows.length≤m∧closedRows rows∧relRows E k rows b 0
def slotsRel (E:Env) (l k:Nat) (es:List (AV × Option (List (List AV)) × Nat)) (ms:List MapEntry):Prop :=
 ∃ hs:Nat→Nat,(∀ (i j:Nat) x y,es[i]? = some x→es[j]? = some y→x.2.1.isSome=true→y.2.1.isSome=true→hs i=hs j→i=j) ∧
  ∀ (i:Nat) x rows e,es[i]? = some x→x.2.1=some rows→ms[i]? = some e→slotRel E l k rows (hs i) e.val
theorem slotRel_of {E E':Env} {l k h:Nat} {rows:List (List AV)} {v:Value} (hg:∀ b m,(E.X.r l)[h]? = some (some (some (b,m)))→(E'.X.r l)[h]? = some (some (some (b,m)))∧E'.w.heap[b]? = E.w.heap[b]?)
  (hv:∀ b,E'.w.heap[b]? = E.w.heap[b]? → closedRows rows→relRows E k rows b 0→relRows E' k rows b 0) (hr:slotRel E l k rows h v):slotRel E' l k rows h v:=by
 rcases hr with hr | ⟨b,m,h1,h2,⟨cs,el,h3,h4⟩,h5,h6,h7⟩
 ·exact .inl hr
 ·obtain ⟨g1, g2⟩ := hg b m h1
  exact .inr ⟨b,m,g1,h2,⟨cs,el,by rw [g2]; exact h3,h4⟩,h5,h6,hv b g2 h6 h7⟩
theorem slotsRel_of {E E':Env} {l k:Nat} {es:List (AV × Option (List (List AV)) × Nat)} {ms:List MapEntry} (hg:∀ (h b m:Nat),(E.X.r l)[h]? = some (some (some (b,m)))→(E'.X.r l)[h]? = some (some (some (b,m)))∧E'.w.heap[b]? = E.w.heap[b]?)
  (hv:∀ (i:Nat) x rows,es[i]? = some x→x.2.1=some rows→∀ b,E'.w.heap[b]? = E.w.heap[b]? → closedRows rows→relRows E k rows b 0→relRows E' k rows b 0) (hr:slotsRel E l k es ms):slotsRel E' l k es ms:=by
 obtain ⟨hs,h1,h2⟩:=hr
 exact ⟨hs,h1,fun i x rows e hx hrow he=>slotRel_of (hg (hs i)) (hv i x rows hx hrow) (h2 i x rows e hx hrow he)⟩
def objRel (E:Env) (id:Nat):AObj→Prop
 | .dead=>E.loc[id]? = some none
 | .box cells=>∃ b n,E.loc[id]? = some (some (b,n))∧isRow E.w b cells.length∧relCells E cells b 0
 | .vec k _ rows=>(E.loc[id]? = some none∧rows=[]) ∨
   ∃ b m,E.loc[id]? = some (some (b,m))∧isRow E.w b (m*k)∧rows.length≤m∧closedRows rows∧relRows E k rows b 0
 | .map es clock=>∃ b n ms,E.loc[id]? = some (some (b,n))∧E.w.heap[b]? = some (.map ms clock)∧relEntries E es ms.toList
 | .iter s pos=>∃ b n,E.loc[id]? = some (some (b,n))∧E.w.heap[b]? = some (.stringIter s pos)
 | .bld l T B s=>∃ (b n:Nat) (p v:Value) (h:Nat) (q:Option (Nat × Nat)),E.loc[id]? = some (some (b,n))∧E.w.heap[b]? = some (.cells #[p,v] T (0,0))∧(p=.pointer none∨p=.pointer (some ⟨b,0,none⟩))∧(E.X.r l)[h]? = some (some q) ∧
   (∀ (h':Nat) q',(E.X.r l)[h']? = some (some q')→h'=h)∧bufRel E.w B s v q
 | .pool l k es clock=>∃ b n ms,E.loc[id]? = some (some (b,n))∧E.w.heap[b]? = some (.map ms clock)∧relEntries E (poolEs es) ms.toList∧slotsRel E l k es ms.toList
def HTab (E:Env):Prop:=∀ p∈tabZ,E.okb p.1∧∃ t f,E.w.heap[p.1]? = some (.cells p.2 t f)
theorem HTab.leC {E E':Env} (H:HTab E) (h:E.leC E'):HTab E':=fun p hp=>by
 obtain ⟨h1,t,f,h2⟩:=H p hp
 exact ⟨(h.ok _ h1).1,t,f,by rw [(h.ok _ h1).2]; exact h2⟩
structure HRel (E:Env):Prop where
 len:E.loc.length=E.H.length
 inj:∀ (i j b m n:Nat),E.loc[i]? = some (some (b,m))→E.loc[j]? = some (some (b,n))→i=j
 lt:∀ (i b m:Nat),E.loc[i]? = some (some (b,m))→b<E.w.heap.size∧¬ E.X b
 X:∀ b,E.X b→b<E.w.heap.size
 obj:∀ (i:Nat) o,E.H[i]? = some o→objRel E i o
 tab:HTab E
 rinj:∀ (l h l' h' b m n:Nat),(E.X.r l)[h]? = some (some (some (b,m)))→(E.X.r l')[h']? = some (some (some (b,n)))→l=l'∧h=h'
 rloc:∀ (i b m l h n:Nat),E.loc[i]? = some (some (b,m))→(E.X.r l)[h]? ≠ some (some (some (b,n)))
 rlt:∀ (l h b m:Nat),(E.X.r l)[h]? = some (some (some (b,m)))→b<E.w.heap.size∧¬ E.X b
 uniq:∀ (i j:Nat) o o' (l:Nat),E.H[i]? = some o→E.H[j]? = some o'→o.label=some l→o'.label=some l→i=j
 rdead:∀ (l:Nat),(∀ (i:Nat) o,E.H[i]? = some o→o.label≠some l)→∀ (h:Nat) q,(E.X.r l)[h]? ≠ some (some q)
theorem HRel.ownX {E:Env} (H:HRel E) {b:Nat} (hx:E.X b):¬ E.own b:=by
 rintro (⟨i,c,hi⟩ | ⟨l,h,m,hi⟩)
 ·exact (H.lt i b c hi).2 hx
 ·exact (H.rlt l h b m hi).2 hx
theorem HRel.ownlt {E:Env} (H:HRel E) {b:Nat} (ho:E.own b):b<E.w.heap.size∧¬ E.X b:=by
 rcases ho with ⟨i,c,hi⟩ | ⟨l,h,m,hi⟩
 ·exact H.lt i b c hi
 ·exact H.rlt l h b m hi
structure Ext (w w':World):Prop where
 size:w.heap.size≤w'.heap.size
 same:∀ b,b<w.heap.size→w'.heap[b]? = w.heap[b]?
 env:SameOs w w'
theorem Ext.refl (w:World):Ext w w:=⟨Nat.le_refl _,fun _ _=>rfl,⟨rfl,rfl,rfl,by first | exact fun _=>Nat.le_refl _ | exact fun _=>Nat.le_add_right _ _⟩⟩
theorem Ext.trans {w w' w'':World} (h:Ext w w') (h':Ext w' w''):Ext w w'' :=
 ⟨Nat.le_trans h.size h'.size,fun b hb=>by rw [h'.same b (Nat.lt_of_lt_of_le hb h.size),h.same b hb],h.env.trans h'.env⟩
theorem Ext.push (w:World) (o:Obj):Ext w { w with heap:=w.heap.push o } :=
 ⟨by simp,fun b hb=>by simp [Array.getElem?_push,Nat.ne_of_lt hb],⟨rfl,rfl,rfl,by first | exact fun _=>Nat.le_refl _ | exact fun _=>Nat.le_add_right _ _⟩⟩
theorem Ext.drawn (w:World) (n:Nat) (h:w.drawn≤n:=by exact Nat.le_succ _):Ext w { w with drawn:=n }:=⟨Nat.le_refl _,fun _ _=>rfl,⟨rfl,rfl,rfl,fun _=>h⟩⟩
theorem Env.le_ext {E:Env} {w':World} (h:Ext E.w w'):E.le { E with w:=w' } where
 past:=fun _ _ h=>h
 size:=h.size
 same:=fun b hb _=>h.same b hb
 own:=fun _ _ ho=>ho
 live:=fun _ _ _ hl=>⟨hl,rfl⟩
 X:=⟨rfl,rfl⟩
 rl:=fun _ _ h=>⟨h,fun _ hq=>hq⟩
 env:=h.env
theorem isRow_same {w w':World} {b n:Nat} (h:w'.heap[b]? = w.heap[b]?) (hr:isRow w b n):isRow w' b n:=by
 unfold isRow at *; rw [h]; exact hr
theorem relCells_same {E E':Env} {b:Nat} (hv:∀ a c,rel E a c→rel E' a c) (hb:E'.w.heap[b]? = E.w.heap[b]?) {as:List AV} {o:Nat}
  (h:relCells E as b o):relCells E' as b o:=by
 rw [relCells_iff] at *
 intro i a hi
 obtain ⟨v,h1,h2,h3⟩:=h i a hi
 exact ⟨v,by rw [World.cell?_of_heap hb]; exact h1,h2,hv _ _ h3⟩
theorem relRows_same {E E':Env} {b k:Nat} (hv:∀ a c,rel E a c→rel E' a c) (hb:E'.w.heap[b]? = E.w.heap[b]?) {rs:List (List AV)} {o:Nat}
  (h:relRows E k rs b o):relRows E' k rs b o:=by
 rw [relRows_iff] at *
 intro i r hi
 exact ⟨(h i r hi).1,relCells_same hv hb (h i r hi).2⟩
theorem relEntries_same {E E':Env} (hv:∀ a c,rel E a c→rel E' a c):∀ {es:List (AV × AV × Nat)} {ms:List MapEntry},relEntries E es ms→relEntries E' es ms
 | [],[],_=>by simp [relEntries]
 | [],_::_,h=>by simp [relEntries] at h
 | (_,_,_)::_,[],h=>by simp [relEntries] at h
 | (k,v,n)::es,e::ms,h=>by
  simp only [relEntries] at h ⊢
  exact ⟨hv _ _ h.1,hv _ _ h.2.1,h.2.2.1,h.2.2.2.1,h.2.2.2.2.1,relEntries_same hv h.2.2.2.2.2⟩
theorem objRel_same {E E':Env} {i:Nat} {o:AObj} (hv:∀ a c,rel E a c→rel E' a c) (hl:E'.loc[i]? = E.loc[i]?)
  (hb:∀ b n,E.loc[i]? = some (some (b,n))→E'.w.heap[b]? = E.w.heap[b]?)
  (hg:∀ l,o.label=some l→E'.X.r l=E.X.r l∧∀ (h g m:Nat),(E.X.r l)[h]? = some (some (some (g,m)))→E'.w.heap[g]? = E.w.heap[g]?) (h:objRel E i o):objRel E' i o:=by
 cases o with
 | dead=>simp only [objRel] at *; rw [hl]; exact h
 | box cells =>
  simp only [objRel] at *
  obtain ⟨b,n,h1,h2,h3⟩:=h
  exact ⟨b,n,by rw [hl,h1],isRow_same (hb b n h1) h2,relCells_same hv (hb b n h1) h3⟩
 | vec k ver rows =>
  simp only [objRel] at *
  rcases h with ⟨h1,h2⟩ | ⟨b,m,h1,h2,h3,h4,h5⟩
  ·exact .inl ⟨by rw [hl,h1],h2⟩
  ·exact .inr ⟨b,m,by rw [hl,h1],isRow_same (hb b m h1) h2,h3,h4,relRows_same hv (hb b m h1) h5⟩
 | map es clock =>
  simp only [objRel] at *
  obtain ⟨b,n,ms,h1,h2,h3⟩:=h
  exact ⟨b,n,ms,by rw [hl,h1],by rw [hb b n h1,h2],relEntries_same hv h3⟩
 | iter s pos =>
  simp only [objRel] at *
  obtain ⟨b,n,h1,h2⟩:=h
  exact ⟨b,n,by rw [hl,h1],by rw [hb b n h1,h2]⟩
 | bld l T B s =>
  simp only [objRel] at *
  obtain ⟨b,n,p,v,k,q,h1,h2,h3,h4,h5,h6⟩:=h
  obtain ⟨g1,g2⟩:=hg l rfl
  exact ⟨b,n,p,v,k,q,by rw [hl,h1],by rw [hb b n h1,h2],h3,by rw [g1,h4],by rw [g1]; exact h5,bufRel_same (fun g m e=>g2 k g m (by rw [h4,e])) h6⟩
 | pool l k es clock =>
  simp only [objRel] at *
  obtain ⟨b,n,ms,h1,h2,h3,h4⟩:=h
  obtain ⟨g1,g2⟩:=hg l rfl
  exact ⟨b,n,ms,by rw [hl,h1],by rw [hb b n h1,h2],relEntries_same hv h3,slotsRel_of (fun h g m hk=>⟨by rw [g1]; exact hk,g2 h g m hk⟩) (fun _ _ _ _ _ b hb2 _ hr=>relRows_same hv hb2 hr) h4⟩
theorem HRel.ext {E:Env} {w':World} (H:HRel E) (h:Ext E.w w'):HRel { E with w:=w' } where
 len:=H.len
 inj:=H.inj
 lt:=fun i b m hi=>⟨Nat.lt_of_lt_of_le (H.lt i b m hi).1 h.size,(H.lt i b m hi).2⟩
 X:=fun b hb=>Nat.lt_of_lt_of_le (H.X b hb) h.size
 obj:=fun i o hi=>objRel_same (fun a _ hr=>rel_le (Env.le_ext h) a hr) rfl (fun b n hb=>h.same b (H.lt i b n hb).1) (fun l _=>⟨rfl,fun k g m hk=>h.same g (H.rlt l k g m hk).1⟩) (H.obj i o hi)
 tab:=H.tab.leC (Env.le_ext h).toC
 rinj:=H.rinj
 rloc:=H.rloc
 rlt:=fun l k b m hk=>⟨Nat.lt_of_lt_of_le (H.rlt l k b m hk).1 h.size,(H.rlt l k b m hk).2⟩
 uniq:=H.uniq
 rdead:=H.rdead
def Env.push (E:Env) (w':World) (o:AObj) (l:Option (Nat × Nat)):Env:={ w:=w',H:=E.H++[o],loc:=E.loc++[l],X:=E.X }
theorem lt_of_getElem? {α:Type} {l:List α} {i:Nat} {x:α} (h:l[i]? = some x):i<l.length:=by
 rcases Nat.lt_or_ge i l.length with h' | h'
 ·exact h'
 ·rw [List.getElem?_eq_none h'] at h; cases h
theorem getElem?_append_one {α:Type} (l:List α) (x:α) (i:Nat) (h:i<l.length):(l++[x])[i]? = l[i]? := by
 rw [List.getElem?_append_left h]
theorem Env.le_push {E:Env} {w':World} {o:AObj} {l:Option (Nat × Nat)} (hl:E.loc.length=E.H.length) (h:Ext E.w w')
  (hb:∀ b n,l=some (b,n)→E.w.heap.size≤b):E.le (E.push w' o l) where
 past:=fun id ver hp=>by
  obtain ⟨x,h1,h2⟩:=hp
  exact ⟨x,by simp only [Env.push]; rw [List.getElem?_append_left (lt_of_getElem? h1)]; exact h1,h2⟩
 size:=h.size
 same:=fun b hb _=>h.same b hb
 own:=fun b hlt ho=>by
  rintro (⟨id,c,hid⟩ | hs)
  case inr=>exact ho (.inr hs)
  simp only [Env.push] at hid
  by_cases hi:id<E.loc.length
  ·rw [List.getElem?_append_left hi] at hid
   exact ho (.inl ⟨id,c,hid⟩)
  ·rw [List.getElem?_append_right (by omega)] at hid
   cases hk:id-E.loc.length with
   | zero =>
    rw [hk] at hid
    simp at hid
    have:=hb b c hid
    omega
   | succ n=>rw [hk] at hid; simp at hid
 live:=fun id ver hp=>by
  obtain ⟨x,h1,h2⟩:=hp
  have hid:=lt_of_getElem? h1
  simp only [Env.live,Env.push]
  rw [List.getElem?_append_left hid,List.getElem?_append_left (by omega)]
  exact fun h=>⟨h,rfl⟩
 X:=⟨rfl,rfl⟩
 rl:=fun _ _ h=>⟨h,fun _ hq=>hq⟩
 env:=h.env
theorem HRel.push {E:Env} {w':World} {o:AObj} {l:Option (Nat × Nat)} (H:HRel E) (h:Ext E.w w')
  (hb:∀ b n,l=some (b,n)→E.w.heap.size≤b∧b<w'.heap.size) (ho:objRel (E.push w' o l) E.H.length o) (hlab:o.label=none:=by first | rfl | assumption):HRel (E.push w' o l) where
 rinj:=H.rinj
 rlt:=fun l k b m hk=>⟨Nat.lt_of_lt_of_le (H.rlt l k b m hk).1 h.size,(H.rlt l k b m hk).2⟩
 rloc:=by
  intro i b m l' k n hi hk
  simp only [Env.push,List.getElem?_append] at hi
  split at hi
  ·exact H.rloc i b m l' k n hi hk
  ·rename_i h1
   cases hz:i-E.loc.length with
   | zero =>
    rw [hz] at hi
    simp at hi
    have h3:=hb b m hi
    have h4:=(H.rlt l' k b n hk).1
    omega
   | succ n=>rw [hz] at hi; simp at hi
 uniq:=by
  have key:∀ (i:Nat) o1 l1,(E.push w' o l).H[i]? = some o1→o1.label=some l1→E.H[i]? = some o1:=by
   intro i o1 l1 hi hl1
   simp only [Env.push,List.getElem?_append] at hi
   split at hi
   ·exact hi
   ·cases hz : i - E.H.length with
    | zero =>
     rw [hz] at hi
     simp at hi
     subst hi
     rw [hlab] at hl1
     cases hl1
    | succ n=>rw [hz] at hi; simp at hi
  exact fun i j o1 o2 l1 hi hj h1 h2=>H.uniq i j o1 o2 l1 (key i o1 l1 hi h1) (key j o2 l1 hj h2) h1 h2
 rdead:=fun l1 hn=>H.rdead l1 fun i o1 hi=>hn i o1 (by
  simp only [Env.push]
  rw [List.getElem?_append_left (lt_of_getElem? hi)]
  exact hi)
 tab:=H.tab.leC (Env.le_push H.len h (fun b n e=>(hb b n e).1)).toC
 len:=by simp [Env.push,H.len]
 inj:=by
  intro i j b m n hi hj
  simp only [Env.push,List.getElem?_append] at hi hj
  split at hi<;>split at hj
  ·exact H.inj i j b m n hi hj
  ·rename_i h1 h2
   cases hk:j-E.loc.length with
   | zero =>
    rw [hk] at hj
    simp at hj
    have h3:=hb b n hj
    have h4:=(H.lt i b m hi).1
    omega
   | succ n=>rw [hk] at hj; simp at hj
  ·rename_i h1 h2
   cases hk:i-E.loc.length with
   | zero =>
    rw [hk] at hi
    simp at hi
    have h3:=hb b m hi
    have h4:=(H.lt j b n hj).1
    omega
   | succ n=>rw [hk] at hi; simp at hi
  ·rename_i h1 h2
   have e1:i-E.loc.length=0:=by
    cases hk:i-E.loc.length with
    | zero=>rfl
    | succ n=>rw [hk] at hi; simp at hi
   have e2:j-E.loc.length=0:=by
    cases hk:j-E.loc.length with
    | zero=>rfl
    | succ n=>rw [hk] at hj; simp at hj
   omega
 lt:=by
  intro i b m hi
  simp only [Env.push,List.getElem?_append] at hi ⊢
  split at hi
  ·exact ⟨Nat.lt_of_lt_of_le (H.lt i b m hi).1 h.size,(H.lt i b m hi).2⟩
  ·cases hk : i - E.loc.length with
   | zero =>
    rw [hk] at hi
    simp at hi
    have h3:=hb b m hi
    exact ⟨h3.2,fun hx=>by have:=H.X b hx; omega⟩
   | succ n=>rw [hk] at hi; simp at hi
 X:=fun b hb'=>Nat.lt_of_lt_of_le (H.X b hb') h.size
 obj:=by
  intro i o' hi
  have hle:E.le (E.push w' o l):=Env.le_push H.len h (fun b n hb'=>(hb b n hb').1)
  by_cases hlt:i<E.H.length
  ·simp only [Env.push] at hi
   rw [List.getElem?_append_left hlt] at hi
   refine objRel_same (fun a _ hr=>rel_le hle a hr) ?_ ?_ ?_ (H.obj i o' hi)
   ·simp only [Env.push]
    rw [List.getElem?_append_left (by rw [H.len]; exact hlt)]
   ·intro b n hb'
    exact h.same b (H.lt i b n hb').1
   ·exact fun l1 _=>⟨rfl,fun k g m hk=>h.same g (H.rlt l1 k g m hk).1⟩
  ·have hi' := hi
   simp only [Env.push] at hi'
   rw [List.getElem?_append_right (by omega)] at hi'
   cases hk:i-E.H.length with
   | zero =>
    rw [hk] at hi'
    simp at hi'
    have:i=E.H.length:=by omega
    rw [this,←hi']
    exact ho
   | succ n=>rw [hk] at hi'; simp at hi'
theorem Env.le_turn {E:Env} {w':World} {id:Nat} {o o':AObj} {l:Option (Nat × Nat)} (hid:E.H[id]? = some o)
  (hlen:E.loc.length=E.H.length) (hsize:E.w.heap.size≤w'.heap.size)
  (hsame:∀ x,x<E.w.heap.size→(∀ n,E.loc[id]? ≠ some (some (x,n)))→w'.heap[x]? = E.w.heap[x]?)
  (hl:∀ b n,l=some (b,n)→E.w.heap.size≤b∨∃ m,E.loc[id]? = some (some (b,m)))
  (hver:(∀ v,o'.ver? = some v→o.ver? = some v∧E.loc[id]? = some l)∨(∀ v,o'.ver? = some v→∀ u,o.ver? = some u→u<v))
  (hup:∀ v u,o'.ver? = some v→o.ver? = some u→u≤v) (hdead:o.ver? = none→o'.ver? = none) (henv:SameOs E.w w':=by first | exact ⟨rfl,rfl,rfl,by first | exact fun _=>Nat.le_refl _ | exact fun _=>Nat.le_add_right _ _⟩ | assumption | exact Ext.env (by assumption)) :
  E.le { w:=w',H:=E.H.set id o',loc:=E.loc.set id l,X:=E.X } where
 past:=fun i ver hp=>by
  obtain ⟨x,h1,h2⟩:=hp
  by_cases e:i=id
  ·subst e
   refine ⟨o',by simp only []; rw [List.getElem?_set_self (lt_of_getElem? hid)],fun v hv=>?_⟩
   rw [hid] at h1
   cases h1
   cases hu:o.ver? with
   | none=>rw [hdead hu] at hv; cases hv
   | some u=>exact Nat.le_trans (h2 u hu) (hup v u hv hu)
  ·exact ⟨x,by simp only []; rw [List.getElem?_set_ne (Ne.symm e)]; exact h1,h2⟩
 size:=hsize
 same:=fun x hx ho=>hsame x hx (fun n hn=>ho (.inl ⟨id,n,hn⟩))
 own:=fun b hlt ho=>by
  rintro (⟨i,c,hi⟩ | hs)
  case inr=>exact ho (.inr hs)
  simp only [List.getElem?_set] at hi
  split at hi
  ·split at hi
   ·simp at hi
    rcases hl b c hi with h | ⟨m,hm⟩
    ·omega
    ·exact ho (.inl ⟨id,m,hm⟩)
   ·cases hi
  ·exact ho (.inl ⟨i,c,hi⟩)
 live:=fun i ver hp hl'=>by
  obtain ⟨x,h1,h2⟩:=hl'
  by_cases e:i=id
  ·subst e
   simp only [] at h1
   rw [List.getElem?_set_self (lt_of_getElem? hid)] at h1
   cases h1
   rcases hver with hv | hv
   ·obtain ⟨a1, a2⟩ := hv ver h2
    refine ⟨⟨o,hid,a1⟩,?_⟩
    simp only []
    rw [List.getElem?_set_self (by rw [hlen]; exact lt_of_getElem? hid),a2]
   ·obtain ⟨y, h3, h4⟩ := hp
    rw [hid] at h3
    cases h3
    cases hu:o.ver? with
    | none=>rw [hdead hu] at h2; cases h2
    | some u=>have:=hv ver h2 u hu; have:=h4 u hu; omega
  ·simp only [] at h1 ⊢
   rw [List.getElem?_set_ne (Ne.symm e)] at h1
   rw [List.getElem?_set_ne (Ne.symm e)]
   exact ⟨⟨x,h1,h2⟩,rfl⟩
 X:=⟨rfl,rfl⟩
 rl:=fun _ _ h=>⟨h,fun _ hq=>hq⟩
 env:=henv
theorem HRel.turn {E:Env} {w':World} {id:Nat} {o o':AObj} {l:Option (Nat × Nat)} (H:HRel E) (hid:E.H[id]? = some o)
  (hsize:E.w.heap.size≤w'.heap.size)
  (hsame:∀ x,x<E.w.heap.size→(∀ n,E.loc[id]? ≠ some (some (x,n)))→w'.heap[x]? = E.w.heap[x]?)
  (hl:∀ b n,l=some (b,n)→(E.w.heap.size≤b∧b<w'.heap.size)∨∃ m,E.loc[id]? = some (some (b,m)))
  (hver:(∀ v,o'.ver? = some v→o.ver? = some v∧E.loc[id]? = some l)∨(∀ v,o'.ver? = some v→∀ u,o.ver? = some u→u<v))
  (hup:∀ v u,o'.ver? = some v→o.ver? = some u→u≤v) (hdead:o.ver? = none→o'.ver? = none)
  (ho:objRel { w:=w',H:=E.H.set id o',loc:=E.loc.set id l,X:=E.X } id o') (henv:SameOs E.w w':=by first | exact ⟨rfl,rfl,rfl,by first | exact fun _=>Nat.le_refl _ | exact fun _=>Nat.le_add_right _ _⟩ | assumption | exact Ext.env (by assumption))
  (hlab:o.label=none:=by first | rfl | assumption) (hlab':o'.label=none:=by first | rfl | assumption) :
  HRel { w:=w',H:=E.H.set id o',loc:=E.loc.set id l,X:=E.X } where
 rinj:=H.rinj
 rlt:=fun l k b m hk=>⟨Nat.lt_of_lt_of_le (H.rlt l k b m hk).1 hsize,(H.rlt l k b m hk).2⟩
 rloc:=by
  intro i b m l' k n hi hk
  simp only [List.getElem?_set] at hi
  split at hi
  ·split at hi
   ·simp at hi
    rcases hl b m hi with h | ⟨m',hm'⟩
    ·have:=(H.rlt l' k b n hk).1; omega
    ·exact H.rloc _ _ _ _ _ _ hm' hk
   ·cases hi
  ·exact H.rloc _ _ _ _ _ _ hi hk
 uniq:=by
  have key:∀ (i:Nat) o1 l1,(E.H.set id o')[i]? = some o1→o1.label=some l1→E.H[i]? = some o1:=by
   intro i o1 l1 hi hl1
   rw [List.getElem?_set] at hi
   split at hi
   ·split at hi
    ·cases hi
     rw [hlab'] at hl1
     cases hl1
    ·cases hi
   ·exact hi
  exact fun i j o1 o2 l1 hi hj h1 h2=>H.uniq i j o1 o2 l1 (key i o1 l1 hi h1) (key j o2 l1 hj h2) h1 h2
 rdead:=fun l1 hn=>H.rdead l1 fun i o1 hi=>by
  by_cases e:i=id
  ·subst e
   rw [hid] at hi
   cases hi
   rw [hlab]
   exact fun h=>by cases h
  ·exact hn i o1 (by show (E.H.set id o')[i]? = _; rw [List.getElem?_set_ne (Ne.symm e)]; exact hi)
 tab:=H.tab.leC (Env.le_turn hid H.len hsize hsame (fun b n hb=>(hl b n hb).imp (fun h=>h.1) (fun h=>h)) hver hup hdead henv).toC
 len:=by simp [H.len]
 inj:=by
  intro i j b m n hi hj
  simp only [List.getElem?_set] at hi hj
  split at hi
  ·rename_i e1
   split at hj
   ·rename_i e2; omega
   ·split at hi
    ·simp at hi
     rcases hl b m hi with h | ⟨m',hm'⟩
     ·have:=(H.lt j b n hj).1; omega
     ·rw [←e1]; exact H.inj _ _ _ _ _ hm' hj
    ·cases hi
  ·split at hj
   ·rename_i e2
    split at hj
    ·simp at hj
     rcases hl b n hj with h | ⟨m',hm'⟩
     ·have:=(H.lt i b m hi).1; omega
     ·rw [←e2]; exact H.inj _ _ _ _ _ hi hm'
    ·cases hj
   ·exact H.inj i j b m n hi hj
 lt:=by
  intro i b m hi
  simp only [List.getElem?_set] at hi
  split at hi
  ·split at hi
   ·simp at hi
    rcases hl b m hi with h | ⟨m',hm'⟩
    ·exact ⟨h.2,fun hx=>by have:=H.X b hx; omega⟩
    ·exact ⟨Nat.lt_of_lt_of_le (H.lt _ _ _ hm').1 hsize,(H.lt _ _ _ hm').2⟩
   ·cases hi
  ·exact ⟨Nat.lt_of_lt_of_le (H.lt i b m hi).1 hsize,(H.lt i b m hi).2⟩
 X:=fun b hb=>Nat.lt_of_lt_of_le (H.X b hb) hsize
 obj:=by
  intro i x hi
  by_cases e:i=id
  ·subst e
   simp only [] at hi
   rw [List.getElem?_set_self (lt_of_getElem? hid)] at hi
   cases hi
   exact ho
  ·have hi' := hi
   simp only [] at hi'
   rw [List.getElem?_set_ne (Ne.symm e)] at hi'
   have hle:E.le { w:=w',H:=E.H.set id o',loc:=E.loc.set id l,X:=E.X } :=
    Env.le_turn hid H.len hsize hsame (fun b n hb=>(hl b n hb).imp (fun h=>h.1) (fun h=>h)) hver hup hdead henv
   refine objRel_same (fun a _ hr=>rel_le hle a hr) ?_ ?_ ?_ (H.obj i x hi')
   ·simp only []
    rw [List.getElem?_set_ne (Ne.symm e)]
   ·intro b n hb
    exact hsame b (H.lt i b n hb).1 (fun m hm=>e (H.inj i id b n m hb hm))
   ·exact fun l1 _=>⟨rfl,fun k g m hk=>hsame g (H.rlt l1 k g m hk).1 (fun n hn=>H.rloc id g n l1 k m hn hk)⟩
theorem HRel.turnR {E:Env} {w':World} {id l0:Nat} {o o':AObj} {r':Nat→List (Option (Option (Nat × Nat)))} (H:HRel E) (hid:E.H[id]? = some o) (hlab:o.label=some l0) (hlab':o'.label=some l0) (hver:o'.ver? = o.ver?)
  (hsize:E.w.heap.size≤w'.heap.size)
  (hsame:∀ x,x<E.w.heap.size→(∀ n,E.loc[id]? ≠ some (some (x,n)))→(∀ (h m:Nat),(E.X.r l0)[h]? ≠ some (some (some (x,m))))→w'.heap[x]? = E.w.heap[x]?)
  (hr:∀ l,l≠l0→r' l=E.X.r l)
  (hnew:∀ (h b m:Nat),(r' l0)[h]? = some (some (some (b,m)))→(E.X.r l0)[h]? = some (some (some (b,m)))∨(E.w.heap.size≤b∧b<w'.heap.size∧∀ (h' m':Nat),(r' l0)[h']? = some (some (some (b,m')))→h'=h))
  (hrl:∀ (h:Nat),h<(E.X.r l0).length→h<(r' l0).length∧∀ q,(r' l0)[h]? = some (some q)→(E.X.r l0)[h]? = some (some q))
  (ho:E.le { w:=w',H:=E.H.set id o',loc:=E.loc,X:=E.X.re r' }→objRel { w:=w',H:=E.H.set id o',loc:=E.loc,X:=E.X.re r' } id o') (henv:SameOs E.w w') :
  HRel { w:=w',H:=E.H.set id o',loc:=E.loc,X:=E.X.re r' }∧E.le { w:=w',H:=E.H.set id o',loc:=E.loc,X:=E.X.re r' }:=by
 have hlt:=lt_of_getElem? hid
 have rcase:∀ (l h b m:Nat),(r' l)[h]? = some (some (some (b,m)))→(E.X.r l)[h]? = some (some (some (b,m)))∨(l=l0∧E.w.heap.size≤b∧b<w'.heap.size∧∀ (h' m':Nat),(r' l0)[h']? = some (some (some (b,m')))→h'=h):=fun l h b m hk=>by
  by_cases e:l=l0
  ·subst e
   rcases hnew h b m hk with h1 | ⟨h1,h2,h3⟩
   ·exact .inl h1
   ·exact .inr ⟨rfl,h1,h2,h3⟩
  ·rw [hr l e] at hk
   exact .inl hk
 have hle:E.le { w:=w',H:=E.H.set id o',loc:=E.loc,X:=E.X.re r' }:=by
  refine ⟨fun i ver hp=>?_,hsize,fun x hx hx'=>hsame x hx (fun n hn=>hx' (.inl ⟨id,n,hn⟩)) fun h m hm=>hx' (.inr ⟨l0,h,m,hm⟩),fun b hb hno=>?_,fun i ver hp hl=>?_,⟨rfl,rfl⟩,fun l h hh=>?_,henv⟩
  ·obtain ⟨x, h1, h2⟩ := hp
   by_cases e:i=id
   ·subst e
    rw [hid] at h1
    cases h1
    exact ⟨o',by simp only []; rw [List.getElem?_set_self hlt],fun v hv=>h2 v (by rw [←hver]; exact hv)⟩
   ·exact ⟨x,by simp only []; rw [List.getElem?_set_ne (Ne.symm e)]; exact h1,h2⟩
  ·rintro (⟨i, c, hi⟩ | ⟨l, h, m, hm⟩)
   ·exact hno (.inl ⟨i,c,hi⟩)
   ·rcases rcase l h b m hm with h1 | ⟨_, h1, _⟩
    ·exact hno (.inr ⟨l,h,m,h1⟩)
    ·omega
  ·obtain ⟨x, h1, h2⟩ := hl
   refine ⟨?_,rfl⟩
   simp only [] at h1
   by_cases e:i=id
   ·subst e
    rw [List.getElem?_set_self hlt] at h1
    cases h1
    exact ⟨o,hid,by rw [←hver]; exact h2⟩
   ·rw [List.getElem?_set_ne (Ne.symm e)] at h1
    exact ⟨x,h1,h2⟩
  ·by_cases e : l = l0
   ·subst e
    exact hrl h hh
   ·show h < (r' l).length ∧ _
    rw [hr l e]
    exact ⟨hh,fun _ hq=>(by rw [show ({ w:=w',H:=E.H.set id o',loc:=E.loc,X:=E.X.re r' }:Env).X.r l=E.X.r l from hr l e] at hq; exact hq)⟩
 refine ⟨⟨by simp [H.len],H.inj,fun i b m hi=>⟨Nat.lt_of_lt_of_le (H.lt i b m hi).1 hsize,(H.lt i b m hi).2⟩,fun b hb=>Nat.lt_of_lt_of_le (H.X b hb) hsize,fun i x hi=>?_,H.tab.leC hle.toC,fun l h l' h' b m n h1 h2=>?_,fun i b m l h n hi hk=>?_,fun l h b m hk=>?_,fun i j x y l hi hj h1 h2=>?_,fun l hn h q hq=>?_⟩,hle⟩
 ·by_cases e : i = id
  ·subst e
   simp only [] at hi
   rw [List.getElem?_set_self hlt] at hi
   cases hi
   exact ho hle
  ·simp only [] at hi
   rw [List.getElem?_set_ne (Ne.symm e)] at hi
   refine objRel_same (fun a _ hr=>rel_le hle a hr) rfl (fun b n hb=>hsame b (H.lt i b n hb).1 (fun m hm=>e (H.inj i id b n m hb hm)) fun h m hm=>H.rloc i b n l0 h m hb hm) (fun l hl=>?_) (H.obj i x hi)
   have hne:l≠l0:=fun e2=>e (H.uniq i id x o l hi hid hl (by rw [hlab,e2]))
   exact ⟨hr l hne,fun h g m hk=>hsame g (H.rlt l h g m hk).1 (fun n hn=>H.rloc id g n l h m hn hk) fun h' m' hk'=>hne (H.rinj l h l0 h' g m m' hk hk').1⟩
 ·rcases rcase l h b m h1 with g1 | ⟨rfl, g1, g2, g3⟩ <;> rcases rcase l' h' b n h2 with k1 | ⟨rfl, k1, k2, k3⟩
  ·exact H.rinj _ _ _ _ _ _ _ g1 k1
  ·have:=(H.rlt _ _ _ _ g1).1; omega
  ·have:=(H.rlt _ _ _ _ k1).1; omega
  ·exact ⟨rfl,(g3 h' n h2).symm⟩
 ·rcases rcase l h b n hk with g1 | ⟨rfl, g1, g2, g3⟩
  ·exact H.rloc _ _ _ _ _ _ hi g1
  ·have:=(H.lt i b m hi).1; omega
 ·rcases rcase l h b m hk with g1 | ⟨rfl, g1, g2, g3⟩
  ·exact ⟨Nat.lt_of_lt_of_le (H.rlt _ _ _ _ g1).1 hsize,(H.rlt _ _ _ _ g1).2⟩
  ·exact ⟨g2,fun hx=>by have:=H.X b hx; omega⟩
 ·have key:∀ (i:Nat) x,(E.H.set id o')[i]? = some x→x.label=some l→∃ y,E.H[i]? = some y∧y.label=some l:=by
   intro i x hi hl
   by_cases e:i=id
   ·subst e
    rw [List.getElem?_set_self hlt] at hi
    cases hi
    exact ⟨o,hid,by rw [hlab,←hlab',hl]⟩
   ·rw [List.getElem?_set_ne (Ne.symm e)] at hi
    exact ⟨x,hi,hl⟩
  obtain ⟨x',a1,a2⟩:=key i x hi h1
  obtain ⟨y',b1,b2⟩:=key j y hj h2
  exact H.uniq i j x' y' l a1 b1 a2 b2
 ·have hne : l ≠ l0 := fun e => hn id o' (by show (E.H.set id o')[id]? = _; rw [List.getElem?_set_self hlt]) (by rw [hlab', e])
  have hq:(r' l)[h]? = some (some q):=hq
  rw [hr l hne] at hq
  refine H.rdead l (fun i x hi hl=>?_) h q hq
  by_cases e:i=id
  ·subst e
   rw [hid] at hi
   cases hi
   exact hne (by rw [hlab] at hl; cases hl; rfl)
  ·exact hn i x (by show (E.H.set id o')[i]? = _; rw [List.getElem?_set_ne (Ne.symm e)]; exact hi) hl
def addR (r:Nat→List (Option (Option (Nat × Nat)))) (l0:Nat):Nat→List (Option (Option (Nat × Nat))):=fun l=>if l=l0 then r l++[some none] else r l
theorem addR_get {r:Nat→List (Option (Option (Nat × Nat)))} {l0 l h:Nat} {q:Option (Option (Nat × Nat))} (hq:(addR r l0 l)[h]? = some q):(r l)[h]? = some q∨(l=l0∧h=(r l).length∧q=some none):=by
 unfold addR at hq
 split at hq
 ·rename_i e
  rw [List.getElem?_append] at hq
  split at hq
  ·exact .inl hq
  ·rename_i hge
   right
   cases hk:h-(r l).length with
   | zero =>
    rw [hk] at hq
    simp at hq
    exact ⟨e,by omega,hq.symm⟩
   | succ n=>rw [hk] at hq; simp at hq
 ·exact .inl hq
theorem addR_old {r:Nat→List (Option (Option (Nat × Nat)))} {l0 l h:Nat} (hh:h<(r l).length):(addR r l0 l)[h]? = (r l)[h]? := by
 unfold addR
 split
 ·exact List.getElem?_append_left hh
 ·rfl
theorem HRel.pushR {E:Env} {w':World} {o:AObj} {l:Option (Nat × Nat)} {l0:Nat} (H:HRel E) (h:Ext E.w w') (hb:∀ b n,l=some (b,n)→E.w.heap.size≤b∧b<w'.heap.size) (hlab:o.label=some l0) (hno:∀ (i:Nat) x,E.H[i]? = some x→x.label≠some l0)
  (ho:objRel { w:=w',H:=E.H++[o],loc:=E.loc++[l],X:=E.X.re (addR E.X.r l0) } E.H.length o) :
  HRel { w:=w',H:=E.H++[o],loc:=E.loc++[l],X:=E.X.re (addR E.X.r l0) }∧E.le { w:=w',H:=E.H++[o],loc:=E.loc++[l],X:=E.X.re (addR E.X.r l0) }:=by
 have old:∀ (i:Nat) x,(E.H++[o])[i]? = some x→E.H[i]? = some x∨(i=E.H.length∧x=o):=fun i x hi=>by
  rw [List.getElem?_append] at hi
  split at hi
  ·exact .inl hi
  ·right
   cases hk:i-E.H.length with
   | zero=>rw [hk] at hi; simp at hi; exact ⟨by omega,hi.symm⟩
   | succ n=>rw [hk] at hi; simp at hi
 have oldL:∀ (i:Nat) x,(E.loc++[l])[i]? = some x→E.loc[i]? = some x∨(i=E.loc.length∧x=l):=fun i x hi=>by
  rw [List.getElem?_append] at hi
  split at hi
  ·exact .inl hi
  ·right
   cases hk:i-E.loc.length with
   | zero=>rw [hk] at hi; simp at hi; exact ⟨by omega,hi.symm⟩
   | succ n=>rw [hk] at hi; simp at hi
 have rold:∀ (x k b m:Nat),(addR E.X.r l0 x)[k]? = some (some (some (b,m)))→(E.X.r x)[k]? = some (some (some (b,m))):=fun x k b m hk=>by
  rcases addR_get hk with h1 | ⟨_,_,h1⟩
  ·exact h1
  ·cases h1
 have hle:E.le { w:=w',H:=E.H++[o],loc:=E.loc++[l],X:=E.X.re (addR E.X.r l0) }:=by
  refine ⟨fun i ver hp=>?_,h.size,fun b hb' _=>h.same b hb',fun b hlt hno'=>?_,fun i ver hp hl=>?_,⟨rfl,rfl⟩,fun x k hk=>?_,h.env⟩
  ·obtain ⟨x, h1, h2⟩ := hp
   exact ⟨x,by simp only []; rw [List.getElem?_append_left (lt_of_getElem? h1)]; exact h1,h2⟩
  ·rintro (⟨i, c, hi⟩ | ⟨x, k, m, hk⟩)
   ·rcases oldL i _ hi with h1 | ⟨_, h1⟩
    ·exact hno' (.inl ⟨i,c,h1⟩)
    ·have := hb b c h1.symm
     omega
   ·exact hno' (.inr ⟨x,k,m,rold x k b m hk⟩)
  ·obtain ⟨x, h1, h2⟩ := hp
   have hid:=lt_of_getElem? h1
   obtain ⟨y,h3,h4⟩:=hl
   simp only [] at h3
   rw [List.getElem?_append_left hid] at h3
   exact ⟨⟨y,h3,h4⟩,by simp only []; rw [List.getElem?_append_left (by rw [H.len]; exact hid)]⟩
  ·have hk':k<(addR E.X.r l0 x).length:=by
    unfold addR
    split
    ·simp; omega
    ·exact hk
   refine ⟨hk',fun q hq=>?_⟩
   have hq:(addR E.X.r l0 x)[k]? = some (some q):=hq
   rwa [addR_old hk] at hq
 refine ⟨⟨by simp [H.len],fun i j b m n hi hj=>?_,fun i b m hi=>?_,fun b hb'=>Nat.lt_of_lt_of_le (H.X b hb') h.size,fun i x hi=>?_,H.tab.leC hle.toC,fun x k x' k' b m n h1 h2=>H.rinj _ _ _ _ _ _ _ (rold _ _ _ _ h1) (rold _ _ _ _ h2),fun i b m x k n hi hk=>?_,fun x k b m hk=>?_,fun i j x y l1 hi hj h1 h2=>?_,fun l1 hn k q hq=>?_⟩,hle⟩
 ·rcases oldL i _ hi with h1 | ⟨h1, h2⟩ <;> rcases oldL j _ hj with h3 | ⟨h3, h4⟩
  ·exact H.inj _ _ _ _ _ h1 h3
  ·have:=hb b n h4.symm; have:=(H.lt _ _ _ h1).1; omega
  ·have:=hb b m h2.symm; have:=(H.lt _ _ _ h3).1; omega
  ·omega
 ·rcases oldL i _ hi with h1 | ⟨h1, h2⟩
  ·exact ⟨Nat.lt_of_lt_of_le (H.lt _ _ _ h1).1 h.size,(H.lt _ _ _ h1).2⟩
  ·have h3 := hb b m h2.symm
   exact ⟨h3.2,fun hx=>by have:=H.X b hx; omega⟩
 ·rcases old i x hi with h1 | ⟨h1, h2⟩
  ·refine objRel_same (fun a _ hr => rel_le hle a hr) (by simp only []; rw [List.getElem?_append_left (by rw [H.len]; exact lt_of_getElem? h1)]) (fun b n hb' => h.same b (H.lt i b n hb').1) (fun l1 hl1 => ?_) (H.obj i x h1)
   have hne:l1≠l0:=fun e=>hno i x h1 (by rw [hl1,e])
   exact ⟨if_neg hne,fun k g m hk=>h.same g (H.rlt _ _ _ _ hk).1⟩
  ·subst h1 h2
   exact ho
 ·rcases oldL i _ hi with h1 | ⟨h1, h2⟩
  ·exact H.rloc _ _ _ _ _ _ h1 (rold _ _ _ _ hk)
  ·have:=hb b m h2.symm; have:=(H.rlt _ _ _ _ (rold _ _ _ _ hk)).1; omega
 ·have h1 := rold _ _ _ _ hk
  exact ⟨Nat.lt_of_lt_of_le (H.rlt _ _ _ _ h1).1 h.size,(H.rlt _ _ _ _ h1).2⟩
 ·rcases old i x hi with g1 | ⟨g1, rfl⟩ <;> rcases old j y hj with g3 | ⟨g3, rfl⟩
  ·exact H.uniq i j x y l1 g1 g3 h1 h2
  ·rw [hlab] at h2
   cases h2
   exact (hno i x g1 h1).elim
  ·rw [hlab] at h1
   cases h1
   exact (hno j y g3 h2).elim
  ·omega
 ·rcases addR_get (show (addR E.X.r l0 l1)[k]? = some (some q) from hq) with g1 | ⟨g1, _⟩
  ·exact H.rdead l1 (fun i x hi hl=>hn i x (by simp only []; rw [List.getElem?_append_left (lt_of_getElem? hi)]; exact hi) hl) k q g1
  ·exact hn E.H.length o (by simp) (by rw [hlab,g1])
theorem Env.le_drop {E:Env} (H:HRel E) (id:Nat):E.le { w:=E.w,H:=E.H.set id .dead,loc:=E.loc.set id none,X:=E.X }:=by
 rcases Nat.lt_or_ge id E.H.length with h | h
 ·exact Env.le_turn (o:=E.H[id]) (by simp [h]) H.len (Nat.le_refl _) (fun _ _ _=>rfl) (fun _ _ h=>by cases h) (.inl (fun v h=>by simp [AObj.ver?] at h))
   (fun v u h=>by simp [AObj.ver?] at h) (fun _=>rfl)
 ·rw [List.set_eq_of_length_le h, List.set_eq_of_length_le (by rw [H.len]; exact h)]
  exact Env.le.refl E
theorem HRel.drop {E:Env} (H:HRel E) (id:Nat) (hlab:∀ o,E.H[id]? = some o→o.label=none):HRel { w:=E.w,H:=E.H.set id .dead,loc:=E.loc.set id none,X:=E.X }:=by
 rcases Nat.lt_or_ge id E.H.length with h | h
 ·refine HRel.turn (o:=E.H[id]) H (by simp [h]) (Nat.le_refl _) (fun _ _ _=>rfl) (fun _ _ h=>by cases h) (.inl (fun v h=>by simp [AObj.ver?] at h))
   (fun v u h=>by simp [AObj.ver?] at h) (fun _=>rfl) ?_ (hlab:=hlab _ (by simp [h]))
  simp only [objRel]
  rw [List.getElem?_set_self (by rw [H.len]; exact h)]
 ·rw [List.set_eq_of_length_le h, List.set_eq_of_length_le (by rw [H.len]; exact h)]
  exact H
end Go.AL

namespace Go.AL
variable [Dr]
structure FK where
 off:Nat
 size:Nat
 agg:Bool
def isAggD:TypeDesc→Bool
 | .struct _ | .array _ _=>true
 | _=>false
def varK (P:Program) (t:TypeId):Option (Nat × Bool) :=
 match P.info? t,P.underlying t with
 | some i,some d=>some (i.size,isAggD d)
 | _,_=>none
def fieldK (P:Program) (t:TypeId) (f:Nat):Option FK :=
 match P.underlying t with
 | some (.struct fs)=>match fs[f]? with
  | some fd=>match varK P fd.type with
   | some (n,a)=>some ⟨fd.offset,n,a⟩
   | none=>none
  | none=>none
 | _=>none
def zeroK (P:Program) (t:TypeId):Option (List Value) :=
 match P.info? t with
 | some i=>match i.zero with
  | some z=>if z.cells.toList.all one1 then some z.cells.toList else none
  | none=>none
 | none=>none
inductive SK where
 | slice (elem size bytes:Nat)
 | array (n elem size:Nat) (agg:Bool)
 | str
 | int (k:IntKind)
 | bool
 | other
def kindK (P:Program) (t:TypeId):SK :=
 match P.underlying t with
 | some (.slice e)=>match P.info? e with
  | some i=>.slice e i.size i.bytes
  | none=>.other
 | some (.array n e)=>match varK P e with
  | some (m,a)=>.array n e m a
  | none=>.other
 | some .string=>.str
 | some (.int k)=>.int k
 | some .bool=>.bool
 | _=>.other
def AV.ofV:Value→AV
 | .agg cs=>if cs.toList.all one1 then .agg (cs.toList.map .lit) else .lit (.agg cs)
 | .tuple cs=>.tuple (cs.toList.map .lit)
 | v=>.lit v
abbrev AV.int (n:Int):AV:=.lit (.int .i64 n)
abbrev AV.bool (b:Bool):AV:=.lit (.bool b)
abbrev AV.str (s:ByteArray):AV:=.lit (.string s)
theorem relList_lits {E:Env}:∀ (l:List Value),rLs E (l.map .lit) l
 | []=>by simp [rLs]
 | v::l=>by simp [rLs,rel,relList_lits l]
theorem rel_ofV (E:Env) (v:Value):rel E (AV.ofV v) v:=by
 unfold AV.ofV
 split
 ·split
  ·rename_i cs h
   simp only [rel]
   exact ⟨cs,rfl,List.all_eq_true.1 h,relList_lits _⟩
  ·simp [rel]
 ·simp only [rel]
  exact ⟨_,rfl,relList_lits _⟩
 ·simp [rel]
structure St where
 fr:List AV
 H:List AObj
def St.eval (s:St):Operand→AV
 | .tmp t=>s.fr.getD t .undef
 | .const v=>AV.ofV v
 | .global g=>.lit (.pointer (some ⟨g,0,none⟩))
 | .func f=>.clo f []
def marksOk (w:World) (X:XS) (l:List Deferred):Prop:=l.Nodup∧∀ d∈l,∃ D,d={ target:=.collected D,args:=#[] }∧w.heap[D]? = some (.deferred (some []))∧X D∧X.z D
theorem marksOk_nil (w:World) (X:XS):marksOk w X []:=⟨List.nodup_nil,fun _ h=>by cases h⟩
theorem marksOk_same {w w':World} {X X':XS} {l:List Deferred} (h:marksOk w X l) (hX:∀ b,X b→X.z b→X' b∧X'.z b) (hs:∀ b,X b→X.z b→w'.heap[b]? = w.heap[b]?):marksOk w' X' l :=
 ⟨h.1,fun d hd=>let ⟨D,e,h1,h2,h3⟩:=h.2 d hd; ⟨D,e,by rw [hs D h2 h3]; exact h1,hX D h2 h3⟩⟩
theorem marksOk_le {E E':Env} (HE:HRel E) (h:E.le E') {l:List Deferred} (hm:marksOk E.w E.X l):marksOk E'.w E'.X l :=
 marksOk_same hm (fun b h1 h2=>⟨by rw [show E'.X.x=E.X.x from h.X.1]; exact h1,by rw [show E'.X.z=E.X.z from h.X.2]; exact h2⟩) fun b hb _=>h.same b (HE.X b hb) (HE.ownX hb)
structure SRel (s:St) (E:Env) (a:Act):Prop where
 H:E.H=s.H
 fr:rLs E s.fr a.tmps.toList
 defers:marksOk E.w E.X a.defers
 heap:HRel E
theorem SRel.eval {s:St} {E:Env} {a:Act} (h:SRel s E a) (x:Operand):rel E (s.eval x) (a.eval x):=by
 cases x with
 | tmp t =>
  simp only [St.eval,Act.eval]
  obtain ⟨h1,h2⟩:=relList_iff.1 h.fr
  rcases Nat.lt_or_ge t s.fr.length with hlt | hge
  ·have hlt' : t < a.tmps.toList.length := h1 ▸ hlt
   have e1:s.fr[t]? = some s.fr[t]:=by simp [hlt]
   have e2:a.tmps.toList[t]? = some a.tmps.toList[t]:=List.getElem?_eq_getElem hlt'
   have:=h2 t _ _ e1 e2
   simpa [List.getD_eq_getElem?_getD,Array.getD_eq_getD_getElem?,hlt,show t<a.tmps.size by simpa using hlt'] using this
  ·have : s.fr.getD t .undef = .undef := by simp [List.getD_eq_getElem?_getD, List.getElem?_eq_none hge]
   rw [this]
   simp [rel]
 | const v=>exact rel_ofV E v
 | global g=>simp [St.eval,Act.eval,rel]
 | func f=>simp only [St.eval,Act.eval,rel]; exact ⟨#[],rfl,by simp [rLs]⟩
def partA (agg:Bool) (n:Nat) (cells:List AV):Option AV :=
 if agg then (if n≤cells.length then some (.agg (cells.take n)) else none) else cells[0]?
def idxAddrA (k:SK) (x i:AV):Option AV :=
 match i with
 | .lit (.int _ n) =>
  match k,x with
  | .slice _ sz _,.list w rows=>if w=sz∧0≤n∧n<rows.length then (rows[n.toNat]?).map .cptr else none
  | .slice _ sz _,.listF ks rows=>if ks.length=sz∧0≤n∧n<rows.length then some (.cptr (gCells ks (rows.getD n.toNat []))) else none
  | .slice _ sz _,.vec w id ver off m=>if w=sz∧0≤n∧n<m then some (.ptr id ver w (off+n.toNat) 0) else none
  | .array m _ sz _,.ptr id ver w row col=>if 0≤n∧n<m then some (.ptr id ver w row (col+n.toNat*sz)) else none
  | .array m _ sz _,.cptr cells=>if 0≤n∧n<m then some (.cptr ((cells.drop (n.toNat*sz)).take sz)) else none
  | _,_=>none
 | _=>none
def fieldAddrA (k:FK) (x:AV):Option AV :=
 if k.size=0 then none else
 match x with
 | .cptr cells=>some (.cptr (cells.drop k.off))
 | .ptr id ver w row col=>some (.ptr id ver w row (col+k.off))
 | _=>none
def andI (k:IntKind) (a b:Int):Int:=k.wrap (BitVec.ofInt k.bits a &&& BitVec.ofInt k.bits b).toNat
def orI (k:IntKind) (a b:Int):Int:=k.wrap (BitVec.ofInt k.bits a ||| BitVec.ofInt k.bits b).toNat
def xorI (k:IntKind) (a b:Int):Int:=k.wrap (BitVec.ofInt k.bits a ^^^ BitVec.ofInt k.bits b).toNat
def shlI (k:IntKind) (a b:Int):Int:=k.wrap (a*2 ^ min b.toNat k.bits)
def shrI (k:IntKind) (a b:Int):Int:=a.fdiv (2 ^ min b.toNat k.bits)
def intBin (op:BinOp) (k:IntKind) (a b:Int):Option Value :=
 match op with
 | .and=>some (.int k (andI k a b))
 | .or=>some (.int k (orI k a b))
 | .xor=>some (.int k (xorI k a b))
 | .add=>some (.int k (k.wrap (a+b)))
 | .sub=>some (.int k (k.wrap (a-b)))
 | .mul=>some (.int k (k.wrap (a*b)))
 | .quo=>if b=0 then none else some (.int k (k.wrap (a.tdiv b)))
 | .rem=>if b=0 then none else some (.int k (a.tmod b))
 | .eql=>some (.bool (a==b))
 | .neq=>some (.bool (a != b))
 | .lss=>some (.bool (a<b))
 | .leq=>some (.bool (a≤b))
 | .gtr=>some (.bool (a>b))
 | .geq=>some (.bool (a ≥ b))
 | _=>none
def strBin (op:BinOp) (x y:ByteArray):Option Value :=
 match op with
 | .add=>if ((x.size+y.size:Nat):Int)>IntKind.i64.max then none else some (.string (x++y))
 | .eql=>some (.bool (x.toList==y.toList))
 | .neq=>some (.bool !(x.toList==y.toList))
 | .lss=>some (.bool (Op.bytesLess x.toList y.toList))
 | .leq=>some (.bool (Op.bytesLess x.toList y.toList||x.toList==y.toList))
 | .gtr=>some (.bool !(Op.bytesLess x.toList y.toList||x.toList==y.toList))
 | .geq=>some (.bool !(Op.bytesLess x.toList y.toList))
 | _=>none
def litBin (op:BinOp):Value→Value→Option Value
 | .int k a,.int k' b=>match op with
  | .shl=>if b<0 then none else some (.int k (shlI k a b))
  | .shr=>if b<0 then none else some (.int k (shrI k a b))
  | op=>if k=k' then intBin op k a b else none
 | .string a,.string b=>strBin op a b
 | _,_=>none
def lenA:AV→Option Nat
 | .lit (.string s)=>some s.size
 | .lit (.slice none 0 0)=>some 0
 | .nils=>some 0
 | .emptyS _=>some 0
 | .list _ rows=>some rows.length
 | .listF _ rows=>some rows.length
 | .vec _ _ _ _ n=>some n
 | _=>none
theorem Sem.run_underlying_some {P:Program} {t:TypeId} {d:TypeDesc} (h:P.underlying t=some d) (w:World) :
  (underlying t).run P w=.ok d w:=by simp [underlying,h]
theorem Sem.run_sizeOf {P:Program} {t:TypeId} {i:TypeInfo} (h:P.info? t=some i) (w:World):(sizeOf t).run P w=.ok i.size w:=by
 simp [sizeOf,typeInfo,h]
theorem Sem.run_isAgg {P:Program} {t:TypeId} {d:TypeDesc} (h:P.underlying t=some d) (w:World):(isAgg t).run P w=.ok (isAggD d) w:=by
 simp [isAgg,Sem.run_underlying_some h]
 cases d<;>rfl
theorem varK_some {P:Program} {t:TypeId} {n:Nat} {a:Bool} (h:varK P t=some (n,a)):∃ i d,P.info? t=some i∧P.underlying t=some d∧i.size=n∧isAggD d=a:=by
 unfold varK at h
 split at h
 ·rename_i i d h1 h2
  simp at h
  exact ⟨i,d,h1,h2,h.1,h.2⟩
 ·cases h
theorem fieldK_some {P:Program} {t:TypeId} {f:Nat} {k:FK} (h:fieldK P t f=some k) :
  ∃ fs fd,P.underlying t=some (.struct fs)∧fs[f]? = some fd∧fd.offset=k.off∧varK P fd.type=some (k.size,k.agg):=by
 unfold fieldK at h
 split at h
 ·rename_i fs h1
  split at h
  ·rename_i fd h2
   split at h
   ·rename_i n a h3
    simp at h
    subst h
    exact ⟨fs,fd,h1,h2,rfl,h3⟩
   ·cases h
  ·cases h
 ·cases h
theorem run_litBin {P:Program} (op:BinOp) (t:TypeId) (x y:Value) (v:Value) (h:litBin op x y=some v) (w:World):(binOp op t x y).run P w=.ok v w:=by
 unfold litBin at h
 split at h
 ·rename_i k a k' b
  split at h
  ·split at h
   ·cases h
   ·rename_i hb
    cases h
    simp only [binOp,Op.shift,if_neg hb,shlI]
    rfl
  ·split at h
   ·cases h
   ·rename_i hb
    cases h
    simp only [binOp,Op.shift,if_neg hb,shrI]
    rfl
  ·rename_i hshl hshr
   split at h
   ·rename_i hk
    subst hk
    cases op<;>first | exact absurd rfl hshl | exact absurd rfl hshr | skip
    all_goals simp [intBin] at h
    all_goals simp [binOp,Op.intArith,Op.intDiv,Op.intCmp,Op.intBits]
    all_goals first
     | exact h
     | (obtain ⟨h1,h2⟩:=h; simp [h1,h2])
   ·cases h
 ·rename_i a b
  cases op<;>simp only [strBin] at h<;>(try split at h)<;>simp at h<;>simp only [binOp,Op.stringOp]<;>first
   | (subst h; simp; done)
   | (rename_i hh; subst h; rw [if_neg hh]; rfl)
 ·cases h
theorem run_eqGuard_lit {P:Program} (op:BinOp) (t:TypeId) (x y:Operand) (a b:Value) (h:∀ v,litBin op a b≠some v→True) (hl:(litBin op a b).isSome=true) (w:World) :
  (eqGuard op t x y a b).run P w=.ok () w:=by
 unfold litBin at hl
 split at hl
 ·cases op<;>simp [eqGuard]<;>rfl
 ·cases op<;>simp [eqGuard]<;>rfl
 ·cases hl
theorem rel_len {E:Env} {x:AV} {c:Value} {n:Nat} (h:lenA x=some n) (hr:rel E x c) :
  (∃ s,c=.string s∧s.size=n)∨∃ base cap,c=.slice base n cap:=by
 unfold lenA at h
 split at h
 ·simp only [rel] at hr; subst hr; simp at h; exact .inl ⟨_,rfl,h⟩
 ·simp only [rel] at hr; subst hr; simp at h; subst h; exact .inr ⟨_,_,rfl⟩
 ·simp only [rel] at hr; obtain ⟨b,rfl⟩:=hr; simp at h; subst h; exact .inr ⟨_,_,rfl⟩
 ·simp only [rel] at hr; obtain ⟨b,cap,rfl,_⟩:=hr; simp at h; subst h; exact .inr ⟨_,_,rfl⟩
 ·simp only [rel] at hr; obtain ⟨_,b,cap,rfl,_⟩:=hr; simp at h; subst h; exact .inr ⟨_,_,rfl⟩
 ·simp only [rel,relKd] at hr; obtain ⟨b,cap,rfl,_⟩:=hr; simp at h; subst h; exact .inr ⟨_,_,rfl⟩
 ·simp only [rel] at hr; obtain ⟨⟨b,cap,rfl,_⟩,_⟩:=hr; simp at h; subst h; exact .inr ⟨_,_,rfl⟩
 ·cases h
end Go.AL

namespace Go.AL
open Go
variable [Dr]
theorem addr_add (b o n:Nat):(Addr.mk b o none).add n=⟨b,o+n,none⟩:=by
 unfold Addr.add
 split
 ·rename_i h; simp [h]
 ·rfl
theorem relCells_get {E:Env} {as:List AV} {b o:Nat} (h:relCells E as b o) {i:Nat} {a:AV} (hi:as[i]? = some a) :
  ∃ v,E.w.cell? ⟨b,o+i,none⟩=some v∧one1 v=true∧rel E a v:=relCells_iff.1 h i a hi
theorem relCells_drop {E:Env} {as:List AV} {b o:Nat} (h:relCells E as b o) (n:Nat):relCells E (as.drop n) b (o+n):=by
 rw [relCells_iff] at *
 intro i a hi
 rw [List.getElem?_drop] at hi
 obtain ⟨v,h1,h2,h3⟩:=h (n+i) a hi
 exact ⟨v,by rw [Nat.add_assoc]; exact h1,h2,h3⟩
theorem relCells_take {E:Env} {as:List AV} {b o:Nat} (h:relCells E as b o) (n:Nat):relCells E (as.take n) b o:=by
 rw [relCells_iff] at *
 intro i a hi
 rw [List.getElem?_take] at hi
 split at hi
 ·exact h i a hi
 ·cases hi
theorem closedL_drop:∀ (as:List AV) (n:Nat),AV.closedL as=true→AV.closedL (as.drop n)=true
 | [],n,_=>by simp [AV.closedL]
 | a::as,0,h=>by simpa using h
 | a::as,n+1,h=>by
  simp only [AV.closedL,Bool.and_eq_true] at h
  simpa using closedL_drop as n h.2
theorem closedL_take:∀ (as:List AV) (n:Nat),AV.closedL as=true→AV.closedL (as.take n)=true
 | [],n,_=>by simp [AV.closedL]
 | a::as,0,_=>by simp [AV.closedL]
 | a::as,n+1,h=>by
  simp only [AV.closedL,Bool.and_eq_true] at h
  simp only [List.take_succ_cons,AV.closedL,Bool.and_eq_true]
  exact ⟨h.1,closedL_take as n h.2⟩
theorem relCells_values {E:Env}:∀ {as:List AV} {b o:Nat},relCells E as b o →
  ∃ vs:List Value,rLs E as vs∧(∀ x∈vs,one1 x=true)∧∀ j v,vs[j]? = some v→E.w.cell? ⟨b,o+j,none⟩=some v
 | [],b,o,_=>⟨[],by simp [rLs]⟩
 | a::as,b,o,h=>by
  simp only [relCells] at h
  obtain ⟨⟨v,h1,h2,h3⟩,h4⟩:=h
  obtain ⟨vs,g1,g2,g3⟩:=relCells_values h4
  refine ⟨v::vs,by simp only [rLs]; exact ⟨h3,g1⟩,?_,?_⟩
  ·intro x hx
   rcases List.mem_cons.1 hx with rfl | hx
   ·exact h2
   ·exact g2 x hx
  ·intro j x hj
   cases j with
   | zero=>simp at hj; subst hj; exact h1
   | succ j=>have:=g3 j x (by simpa using hj); rwa [Nat.add_assoc,Nat.add_comm 1 j] at this
theorem run_loadVar_cells {P:Program} {E:Env} {cells:List AV} {b o n:Nat} {agg:Bool} {t:TypeId} {v:AV} (ht:varK P t=some (n,agg))
  (hv:partA agg n cells=some v) (hr:relCells E cells b o):∃ c,(loadVar t ⟨b,o,none⟩).run P E.w=.ok c E.w∧rel E v c:=by
 obtain ⟨i,d,hi,hd,hs,ha⟩:=varK_some ht
 unfold partA at hv
 cases agg with
 | true =>
  simp only [if_true] at hv
  split at hv
  ·rename_i hle
   cases hv
   obtain ⟨vs,g1,g2,g3⟩:=relCells_values (relCells_take hr n)
   have hl:vs.length=n:=by rw [←relList_length g1]; simp [hle]
   refine ⟨.agg vs.toArray,?_,?_⟩
   ·simp only [loadVar, Sem.run_bind, Sem.run_isAgg hd, Result.andThen_ok, ha, if_true, Sem.run_sizeOf hi, hs]
    rw [←hl,run_loadCells_list (w:=E.w) ⟨b,o,none⟩ vs (fun j v hj=>by rw [addr_add]; exact g3 j v hj)]
    rfl
   ·simp only [rel]
    exact ⟨vs.toArray,rfl,by simpa using g2,by simpa using g1⟩
  ·cases hv
 | false =>
  simp only [Bool.false_eq_true,if_false] at hv
  obtain ⟨x,h1,_,h3⟩:=relCells_get hr hv
  refine ⟨x,?_,h3⟩
  simp only [loadVar,Sem.run_bind,Sem.run_isAgg hd,Result.andThen_ok,ha,Bool.false_eq_true,if_false,run_load]
  rw [show (⟨b,o,none⟩:Addr)=⟨b,o+0,none⟩ from rfl,h1]
def loadA (P:Program) (t:TypeId) (x:AV) (H:List AObj):Option AV :=
 match varK P t with
 | some (n,agg) =>
  match x with
  | .cptr cells=>partA agg n cells
  | .ptr id ver w row col=>match H[id]? with
   | some (.box cells)=>if ver=0∧row=0 then partA agg n (cells.drop col) else none
   | some (.vec k v rows)=>if ver=v∧k=w then (match rows[row]? with | some r=>partA agg n (r.drop col) | none=>none) else none
   | _=>none
  | _=>none
 | none=>none
theorem relRows_get {E:Env} {k:Nat} {rs:List (List AV)} {b o:Nat} (h:relRows E k rs b o) {i:Nat} {r:List AV} (hi:rs[i]? = some r) :
  r.length=k∧relCells E r b (o+i*k):=relRows_iff.1 h i r hi
theorem run_load_sound {P:Program} {E:Env} (HE:HRel E) {t:TypeId} {x v:AV} {c:Value} (hv:loadA P t x E.H=some v) (hr:rel E x c) :
  ∃ u,(Instr.loadAt t c).run P E.w=.ok u E.w∧rel E v u:=by
 unfold loadA at hv
 split at hv
 case h_2=>cases hv
 rename_i n agg ht
 split at hv
 ·simp only [rel] at hr
  obtain ⟨_,b,o,rfl,_,h2⟩:=hr
  obtain ⟨u,h3,h4⟩:=run_loadVar_cells ht hv h2
  exact ⟨u,by simpa [Instr.loadAt,Instr.sureAddr] using h3,h4⟩
 ·rename_i id ver w row col
  simp only [rel] at hr
  split at hv
  ·rename_i cells hid
   split at hv
   ·rename_i hvr
    obtain ⟨rfl,rfl⟩:=hvr
    obtain ⟨b,m,e1,rfl⟩:=hr.2.2 ⟨_,hid,rfl⟩
    obtain ⟨b',m',e2,_,e3⟩:=HE.obj id _ hid
    rw [e1] at e2
    cases e2
    have:=relCells_drop e3 col
    simp only [Nat.zero_add] at this
    obtain ⟨u,h3,h4⟩:=run_loadVar_cells ht hv this
    exact ⟨u,by simpa [Instr.loadAt,Instr.sureAddr] using h3,h4⟩
   ·cases hv
  ·rename_i k v' rows hid
   split at hv
   ·rename_i hvr
    obtain ⟨rfl,rfl⟩:=hvr
    split at hv
    ·rename_i r hrow
     obtain ⟨b,m,e1,rfl⟩:=hr.2.2 ⟨_,hid,rfl⟩
     rcases HE.obj id _ hid with ⟨e2,e3⟩ | ⟨b',m',e2,_,_,_,e3⟩
     ·subst e3; simp at hrow
     ·rw [e1] at e2
      cases e2
      have:=relCells_drop (relRows_get e3 hrow).2 col
      simp only [Nat.zero_add] at this
      obtain ⟨u,h3,h4⟩:=run_loadVar_cells ht hv this
      exact ⟨u,by simpa [Instr.loadAt,Instr.sureAddr] using h3,h4⟩
    ·cases hv
   ·cases hv
  ·cases hv
 ·cases hv
theorem run_fieldAddr_sound {P:Program} {E:Env} {t:TypeId} {f:Nat} {k:FK} {x v:AV} {c:Value} (hk:fieldK P t f=some k)
  (hv:fieldAddrA k x=some v) (hr:rel E x c):∃ u,(Instr.fieldAt t c f).run P E.w=.ok u E.w∧rel E v u:=by
 obtain ⟨fs,fd,h1,h2,h3,h4⟩:=fieldK_some hk
 obtain ⟨i,d,hi,hd,hs,ha⟩:=varK_some h4
 unfold fieldAddrA at hv
 split at hv
 ·cases hv
 rename_i hsz
 have hplace:∀ b o w,(fieldPlace ⟨b,o,none⟩ fd).run P w=.ok ⟨b,o+k.off,none⟩ w:=by
  intro b o w
  simp only [fieldPlace,Sem.run_bind,Sem.run_sizeOf hi,Result.andThen_ok,hs,if_neg hsz,Sem.run_pure,addr_add,h3]
 split at hv
 ·cases hv
  simp only [rel] at hr
  obtain ⟨hc,b,o,rfl,hok,hcl⟩:=hr
  refine ⟨.pointer (some ⟨b,o+k.off,none⟩),?_,?_⟩
  ·simp [Instr.fieldAt,Sem.run_underlying_some h1,h2,Instr.sureAddr,hplace]
  ·simp only [rel]
   exact ⟨closedL_drop _ _ hc,b,o+k.off,rfl,hok,relCells_drop hcl _⟩
 ·cases hv
  simp only [rel] at hr
  rename_i id ver w row col
  obtain ⟨⟨b,o,rfl⟩,h5,h6⟩:=hr
  refine ⟨.pointer (some ⟨b,o+k.off,none⟩),?_,?_⟩
  ·simp [Instr.fieldAt,Sem.run_underlying_some h1,h2,Instr.sureAddr,hplace]
  ·simp only [rel]
   refine ⟨⟨_,_,rfl⟩,h5,fun hl=>?_⟩
   obtain ⟨b',n',e1,e2⟩:=h6 hl
   simp only [Value.pointer.injEq,Option.some.injEq,Addr.mk.injEq] at e2
   exact ⟨b',n',e1,by simp [e2.1,e2.2.1,Nat.add_assoc]⟩
 ·cases hv
theorem kind_slice {P:Program} {t e sz by_:Nat} (h:kindK P t=.slice e sz by_):P.underlying t=some (.slice e)∧∃ i,P.info? e=some i∧i.size=sz∧i.bytes=by_:=by
 unfold kindK at h
 split at h
 ·rename_i e' h1
  split at h
  ·rename_i i h2
   cases h
   exact ⟨h1,i,h2,rfl,rfl⟩
  ·cases h
 ·split at h<;>cases h
 all_goals cases h
theorem kind_array {P:Program} {t n e sz:Nat} {a:Bool} (h:kindK P t=.array n e sz a):P.underlying t=some (.array n e)∧varK P e=some (sz,a):=by
 unfold kindK at h
 split at h
 ·split at h<;>cases h
 ·rename_i n' e' h1
  split at h
  ·rename_i m a' h2
   cases h
   exact ⟨h1,h2⟩
  ·cases h
 all_goals cases h
theorem kind_str {P:Program} {t:Nat} (h:kindK P t=.str):P.underlying t=some .string:=by
 unfold kindK at h
 split at h
 ·split at h<;>cases h
 ·split at h<;>cases h
 ·rename_i h1; exact h1
 all_goals cases h
theorem run_indexAddr_sound {P:Program} {E:Env} (HE:HRel E) {t:TypeId} {x i v:AV} {c d:Value}
  (hv:idxAddrA (kindK P t) x i=some v) (hx:rel E x c) (hi:rel E i d):∃ u,(Instr.indexAt t c d).run P E.w=.ok u E.w∧rel E v u:=by
 unfold idxAddrA at hv
 split at hv
 case h_2=>cases hv
 rename_i k n
 simp only [rel] at hi
 subst hi
 split at hv
 ·rename_i e sz by_ w rows hk
  split at hv
  ·rename_i hc
   obtain ⟨rfl,h0,h1⟩:=hc
   obtain ⟨hu,ii,h2,h3,_⟩:=kind_slice hk
   cases hrow:rows[n.toNat]? with
   | none=>rw [hrow] at hv; cases hv
   | some r =>
    rw [hrow] at hv
    simp at hv
    subst hv
    simp only [rel] at hx
    obtain ⟨hcl,base,cap,rfl,hle,hh⟩:=hx
    rcases hh with rfl | ⟨b,o,rfl,hok,hr⟩
    ·simp at hrow
    ·obtain ⟨g1, g2⟩ := relRows_get hr hrow
     refine ⟨.pointer (some ⟨b,o+n.toNat*w,none⟩),?_,?_⟩
     ·simp [Instr.indexAt,asIntOf,Sem.run_underlying_some hu,h0,h1,Sem.run_sizeOf h2,h3,addr_add]
     ·simp only [rel]
      exact ⟨hcl r (List.mem_of_getElem? hrow),b,_,rfl,hok,g2⟩
  ·cases hv
 ·rename_i e sz by_ ks rows hk
  split at hv
  ·rename_i hc
   obtain ⟨rfl,h0,h1⟩:=hc
   cases hv
   obtain ⟨hu,ii,h2,h3,_⟩:=kind_slice hk
   have hx:=rel_listF.1 hx
   simp only [rel,List.length_map] at hx
   obtain ⟨hcl,base,cap,rfl,hle,hh⟩:=hx
   have hlt:n.toNat<rows.length:=by omega
   have hrow:(rows.map (gCells ks))[n.toNat]? = some (gCells ks (rows.getD n.toNat [])):=by
    rw [List.getElem?_map,List.getD_eq_getElem?_getD,List.getElem?_eq_getElem hlt]
    rfl
   rcases hh with hn | ⟨b,o,rfl,hok,hr⟩
   ·rw [hn] at hrow; simp at hrow
   ·obtain ⟨g1, g2⟩ := relRows_get hr hrow
    refine ⟨.pointer (some ⟨b,o+n.toNat*ks.length,none⟩),?_,?_⟩
    ·simp [Instr.indexAt,asIntOf,Sem.run_underlying_some hu,h0,h1,Sem.run_sizeOf h2,h3,addr_add]
    ·simp only [rel]
     exact ⟨gCells_closed _ _,b,_,rfl,hok,g2⟩
  ·cases hv
 ·rename_i e sz by_ w id ver off m hk
  split at hv
  ·rename_i hc
   obtain ⟨rfl,h0,h1⟩:=hc
   cases hv
   obtain ⟨hu,ii,h2,h3,_⟩:=kind_slice hk
   simp only [rel] at hx
   obtain ⟨⟨base,cap,rfl,hle,hb⟩,h5,h6⟩:=hx
   obtain ⟨b,o,rfl⟩:=hb (by omega)
   refine ⟨.pointer (some ⟨b,o+n.toNat*w,none⟩),?_,?_⟩
   ·simp [Instr.indexAt,asIntOf,Sem.run_underlying_some hu,h0,h1,Sem.run_sizeOf h2,h3,addr_add]
   ·simp only [rel]
    refine ⟨⟨_,_,rfl⟩,h5,fun hl=>?_⟩
    obtain ⟨g1,g2⟩:=h6 hl
    obtain ⟨a,ha,hav⟩:=h5
    cases hloc:E.loc[id]? with
    | none =>
     have:=lt_of_getElem? ha
     rw [←HE.len] at this
     rw [List.getElem?_eq_getElem this] at hloc
     cases hloc
    | some l =>
     cases l with
     | none=>have:=(g1 hloc).1; omega
     | some bm =>
      obtain ⟨b',m'⟩:=bm
      obtain ⟨q1,o',q2,q3⟩:=g2 b' m' hloc
      simp only [Value.slice.injEq,Option.some.injEq,Addr.mk.injEq] at q3
      refine ⟨b',m',rfl,?_⟩
      rw [q3.1.1,q3.1.2.1,q2 (by omega),Nat.add_mul]
      rfl
  ·cases hv
 ·rename_i m e sz a id ver w row col hk
  split at hv
  ·rename_i hc
   cases hv
   obtain ⟨hu,hvk⟩:=kind_array hk
   obtain ⟨ii,dd,h2,h3,h4,_⟩:=varK_some hvk
   simp only [rel] at hx
   obtain ⟨⟨b,o,rfl⟩,h5,h6⟩:=hx
   refine ⟨.pointer (some ⟨b,o+n.toNat*sz,none⟩),?_,?_⟩
   ·simp [Instr.indexAt,asIntOf,Sem.run_underlying_some hu,hc.1,hc.2,Sem.run_sizeOf h2,h4,addr_add,Instr.sureAddr]
   ·simp only [rel]
    refine ⟨⟨_,_,rfl⟩,h5,fun hl=>?_⟩
    obtain ⟨b',n',e1,e2⟩:=h6 hl
    simp only [Value.pointer.injEq,Option.some.injEq,Addr.mk.injEq] at e2
    exact ⟨b',n',e1,by simp [e2.1,e2.2.1,Nat.add_assoc]⟩
  ·cases hv
 ·rename_i m e sz a cells hk
  split at hv
  ·rename_i hc
   cases hv
   obtain ⟨hu,hvk⟩:=kind_array hk
   obtain ⟨ii,dd,h2,h3,h4,_⟩:=varK_some hvk
   simp only [rel] at hx
   obtain ⟨hcl,b,o,rfl,hok,h6⟩:=hx
   refine ⟨.pointer (some ⟨b,o+n.toNat*sz,none⟩),?_,?_⟩
   ·simp [Instr.indexAt,asIntOf,Sem.run_underlying_some hu,hc.1,hc.2,Sem.run_sizeOf h2,h4,addr_add,Instr.sureAddr]
   ·simp only [rel]
    exact ⟨closedL_take _ _ (closedL_drop _ _ hcl),b,_,rfl,hok,relCells_take (relCells_drop h6 _) _⟩
  ·cases hv
 ·cases hv
def boundA:AV→Option Int
 | .lit (.int _ n)=>some n
 | _=>none
def boundsA (len:Nat) (lo hi:Option AV):Option (Nat × Nat) :=
 match (match lo with | none=>some 0 | some x=>boundA x),(match hi with | none=>some (len:Int) | some x=>boundA x) with
 | some l,some h=>if 0≤l∧l≤h∧h≤len then some (l.toNat,h.toNat) else none
 | _,_=>none
theorem boundA_some {E:Env} {x:AV} {c:Value} {n:Int} (h:boundA x=some n) (hr:rel E x c):∃ k,c=.int k n:=by
 unfold boundA at h
 split at h
 ·cases h
  simp only [rel] at hr
  exact ⟨_,hr⟩
 ·cases h
def strRow:List AV→Option (List G)
 | [.lit (.string s)]=>some [.s s]
 | _=>none
def strRows:List (List AV)→Option (List (List G))
 | []=>some []
 | r::rs=>match strRow r,strRows rs with
  | some g,some gs=>some (g::gs)
  | _,_=>none
theorem strRows_eq:∀ {rows:List (List AV)} {gs:List (List G)},strRows rows=some gs→gs.map (gCells [.str])=rows
 | [],gs,h=>by
  simp only [strRows,Option.some.injEq] at h
  subst h
  rfl
 | r::rs,gs,h=>by
  simp only [strRows] at h
  split at h
  ·rename_i g gs' h1 h2
   cases h
   rw [List.map_cons,strRows_eq h2]
   unfold strRow at h1
   split at h1
   ·cases h1; rfl
   ·cases h1
  ·cases h
def partW (w:Nat) (rows:List (List AV)) (l n:Nat):AV:=match w,strRows rows with
 | 1,some gs=>.listF [.str] ((gs.drop l).take n)
 | _,_=>.list w ((rows.drop l).take n)
theorem partW_rel {E:Env} {w l n:Nat} {rows:List (List AV)} {c:Value} (h:rel E (.list w ((rows.drop l).take n)) c):rel E (partW w rows l n) c:=by
 unfold partW
 split
 ·rename_i gs hg
  rw [rel_listF,List.map_take,List.map_drop,strRows_eq hg]
  exact h
 ·exact h
def sliceA (P:Program) (t:TypeId) (x:AV) (lo hi mx:Option AV):Option AV :=
 match kindK P t,x with
 | .str,.lit (.string s)=>match mx,boundsA s.size lo hi with
  | none,some (l,h)=>some (.lit (.string (s.extract l h)))
  | _,_=>none
 | .slice _ sz _,.list w rows=>match mx with
  | none=>match boundsA rows.length lo hi with
   | some (l,h)=>if w=sz then some (partW w rows l (h-l)) else none
   | none=>none
  | some m=>if hi.isSome∧boundsA rows.length lo hi=some (0,0)∧boundA m=some 0 then some .nils else none
 | .slice _ sz _,.listF ks rows=>match mx with
  | none=>match boundsA rows.length lo hi with
   | some (l,h)=>if ks.length=sz then some (.listF ks ((rows.drop l).take (h-l))) else none
   | none=>none
  | some m=>if hi.isSome∧boundsA rows.length lo hi=some (0,0)∧boundA m=some 0 then some .nils else none
 | .slice _ sz _,.vec w id ver off n=>match mx with
  | none=>match boundsA n lo hi with
   | some (l,h)=>if w=sz then some (.vec w id ver (off+l) (h-l)) else none
   | none=>none
  | some m=>if hi.isSome∧boundsA n lo hi=some (0,0)∧boundA m=some 0 then some .nils else none
 | .slice _ _ _,.nils=>match mx with
  | none=>if (boundsA 0 lo hi).isSome then some .nils else none
  | some _=>none
 | .slice _ _ _,.lit (.slice none 0 0)=>match mx with
  | none=>if (boundsA 0 lo hi).isSome then some (.lit (.slice none 0 0)) else none
  | some m=>if hi.isSome∧boundsA 0 lo hi=some (0,0)∧boundA m=some 0 then some (.lit (.slice none 0 0)) else none
 | _,_=>none
theorem relOpt_bounds {P:Program} {E:Env} {len cap:Nat} {lo hi:Option AV} {clo chi:Option Value} {l h:Nat} (isSlice:Bool) (hb:boundsA len lo hi=some (l,h)) (hle:len≤cap)
  (h1:∀ x,lo=some x→∃ c,clo=some c∧rel E x c) (h1':lo=none→clo=none)
  (h2:∀ x,hi=some x→∃ c,chi=some c∧rel E x c) (h2':hi=none→chi=none) (w:World) :
  (Instr.sliceBounds isSlice len cap clo chi none).run P w=.ok (l,h,cap) w∧l≤h∧h≤len:=by
 unfold boundsA at hb
 split at hb
 case h_2=>cases hb
 rename_i a b e1 e2
 split at hb
 case isFalse=>cases hb
 rename_i hc
 simp only [Option.some.injEq,Prod.mk.injEq] at hb
 obtain ⟨rfl,rfl⟩:=hb
 obtain ⟨c0,c1,c2⟩:=hc
 refine ⟨?_,by omega,by omega⟩
 cases hi with
 | none =>
  rw [h2' rfl]
  simp at e2
  subst e2
  cases lo with
  | none =>
   rw [h1' rfl]
   simp at e1
   subst e1
   simp [Instr.sliceBounds]
  | some x =>
   obtain ⟨c,rfl,hc⟩:=h1 x rfl
   obtain ⟨k,rfl⟩:=boundA_some e1 hc
   simp [Instr.sliceBounds,Instr.sliceBound,asIntOf,c0,c1]
 | some z =>
  obtain ⟨c,rfl,hc⟩:=h2 z rfl
  obtain ⟨k,rfl⟩:=boundA_some e2 hc
  have g1:b≤(cap:Int):=by omega
  have g2:0≤b:=by omega
  cases lo with
  | none =>
   rw [h1' rfl]
   simp at e1
   subst e1
   simp [Instr.sliceBounds,Instr.sliceBound,asIntOf,g1,g2]
  | some x =>
   obtain ⟨c,rfl,hc⟩:=h1 x rfl
   obtain ⟨k',rfl⟩:=boundA_some e1 hc
   have g4:¬ (max b 0<a):=by omega
   simp [Instr.sliceBounds,Instr.sliceBound,asIntOf,g1,g2,c0,g4]
theorem relRows_slice {E:Env} {k:Nat} {rows:List (List AV)} {b o:Nat} (h:relRows E k rows b o) (l n:Nat) :
  relRows E k ((rows.drop l).take n) b (o+l*k):=by
 rw [relRows_iff] at *
 intro i r hi
 rw [List.getElem?_take] at hi
 split at hi
 ·rw [List.getElem?_drop] at hi
  have:=h (l+i) r hi
  rwa [Nat.add_mul,←Nat.add_assoc] at this
 ·cases hi
def relOpt (E:Env):Option AV→Option Value→Prop
 | none,none=>True
 | some x,some c=>rel E x c
 | _,_=>False
theorem relOpt_some {E:Env} {lo:Option AV} {clo:Option Value} (h:relOpt E lo clo):(∀ x,lo=some x→∃ c,clo=some c∧rel E x c)∧(lo=none→clo=none):=by
 cases lo<;>cases clo<;>simp_all [relOpt]
theorem slice_list_rel {E:Env} {w l h cap:Nat} {rows:List (List AV)} {base:Option Addr} (hcl:closedRows rows) (hle:rows.length≤cap) (h1:l≤h) (h2:h≤rows.length)
  (hh:rows=[]∨∃ b o,base=some ⟨b,o,none⟩∧E.okb b∧relRows E w rows b o) :
  rel E (.list w ((rows.drop l).take (h-l))) (.slice (if cap=l then base else base.map (·.add (l*w))) (h-l) (cap-l)):=by
 simp only [rel]
 have hlen:((rows.drop l).take (h-l)).length=h-l:=by simp; omega
 refine ⟨fun r hr=>hcl r (List.mem_of_mem_drop (List.mem_of_mem_take hr)),_,cap-l,by rw [hlen],by rw [hlen]; omega,?_⟩
 rcases Nat.eq_or_lt_of_le h1 with rfl | hlt
 ·left; simp
 ·right
  rcases hh with rfl | ⟨b,o,rfl,hok,hr⟩
  ·simp at h2; omega
  ·refine ⟨b, o + l * w, ?_, hok, relRows_slice hr l (h - l)⟩
   rw [if_neg (by omega)]
   simp [addr_add]
theorem slice_vec_rel {E:Env} {w id ver off n l h:Nat} {base:Option Addr} {cap:Nat} (hr:rel E (.vec w id ver off n) (.slice base n cap)) (h1:l≤h) (h2:h≤n) :
  rel E (.vec w id ver (off+l) (h-l)) (.slice (if cap=l then base else base.map (·.add (l*w))) (h-l) (cap-l)):=by
 simp only [rel] at hr ⊢
 obtain ⟨⟨base',cap',e,hle,hb⟩,h5,h6⟩:=hr
 simp only [Value.slice.injEq] at e
 obtain ⟨rfl,_,rfl⟩:=e
 refine ⟨⟨_,_,rfl,by omega,fun hp=>?_⟩,h5,fun hl=>?_⟩
 ·obtain ⟨b, o, rfl⟩ := hb (by omega)
  rw [if_neg (by omega)]
  exact ⟨b,o+l*w,by simp [addr_add]⟩
 ·obtain ⟨g1, g2⟩ := h6 hl
  refine ⟨fun hloc=>?_,fun b m hloc=>?_⟩
  ·obtain ⟨rfl, rfl, base', e⟩ := g1 hloc
   simp only [Value.slice.injEq] at e
   refine ⟨by omega,by omega,?_⟩
   have e1:h-l=0:=by omega
   have e2:cap-l=0:=by omega
   rw [e1,e2]
   exact ⟨_,rfl⟩
  ·obtain ⟨q1, o, q2, q3⟩ := g2 b m hloc
   simp only [Value.slice.injEq] at q3
   obtain ⟨rfl,_,rfl⟩:=q3
   refine ⟨by omega,?_⟩
   by_cases hc:m-off=l
   ·rw [if_pos hc]
    exact ⟨o,fun hlt=>by omega,by rw [Nat.sub_sub]⟩
   ·rw [if_neg hc]
    refine ⟨o+l*w,fun hlt=>?_,by simp [addr_add,Nat.sub_sub]⟩
    rw [q2 (by omega),Nat.add_mul]
theorem bounds3_zero {P:Program} {E:Env} {len:Nat} {lo hi:Option AV} {m:AV} {clo chi:Option Value} {cm:Value}
  (hb:boundsA len lo hi=some (0,0)) (hs:hi.isSome=true) (hm:boundA m=some 0)
  (h1:∀ x,lo=some x→∃ c,clo=some c∧rel E x c) (h1':lo=none→clo=none)
  (h2:∀ x,hi=some x→∃ c,chi=some c∧rel E x c) (hcm:rel E m cm) (cap:Nat) (w:World) :
  (Instr.sliceBounds true len cap clo chi (some cm)).run P w=.ok (0,0,0) w:=by
 obtain ⟨k,rfl⟩:=boundA_some hm hcm
 obtain ⟨z,rfl⟩:=Option.isSome_iff_exists.1 hs
 obtain ⟨c,rfl,hc⟩:=h2 z rfl
 unfold boundsA at hb
 split at hb
 case h_2=>cases hb
 rename_i a b e1 e2
 split at hb
 case isFalse=>cases hb
 rename_i hcc
 simp only [Option.some.injEq,Prod.mk.injEq] at hb
 obtain ⟨k',rfl⟩:=boundA_some e2 hc
 have ha:a=0:=by omega
 have hb':b=0:=by omega
 subst ha; subst hb'
 cases lo with
 | none =>
  rw [h1' rfl]
  simp [Instr.sliceBounds,Instr.sliceBound,asIntOf]
 | some x =>
  obtain ⟨c,rfl,hc⟩:=h1 x rfl
  obtain ⟨k'',rfl⟩:=boundA_some e1 hc
  simp [Instr.sliceBounds,Instr.sliceBound,asIntOf]
theorem run_slice_sound {P:Program} {E:Env} {t:TypeId} {x v:AV} {lo hi mx:Option AV} {c:Value} {clo chi cmx:Option Value}
  (hv:sliceA P t x lo hi mx=some v) (hx:rel E x c) (hlo:relOpt E lo clo) (hhi:relOpt E hi chi) (hmx:relOpt E mx cmx) :
  ∃ u,(Instr.sliceAt t c clo chi cmx).run P E.w=.ok u E.w∧rel E v u:=by
 obtain ⟨l1,l1'⟩:=relOpt_some hlo
 obtain ⟨l2,l2'⟩:=relOpt_some hhi
 obtain ⟨l3,l3'⟩:=relOpt_some hmx
 unfold sliceA at hv
 split at hv
 ·rename_i s hk
  have hu:=kind_str hk
  simp only [rel] at hx
  subst hx
  split at hv
  ·rename_i l h hb
   cases hv
   rw [l3' rfl]
   obtain ⟨g1,g2,g3⟩:=relOpt_bounds (P:=P) (E:=E) (cap:=s.size) false hb (Nat.le_refl _) l1 l1' l2 l2' E.w
   refine ⟨.string (s.extract l h),?_,by simp [rel]⟩
   simp [Instr.sliceAt,Instr.slice,Sem.run_underlying_some hu,g1]
  ·cases hv
 ·rename_i e sz by_ w rows hk
  obtain ⟨hu,ii,i1,i2,_⟩:=kind_slice hk
  have hx':=hx
  simp only [rel] at hx
  obtain ⟨hcl,base,cap,rfl,hle,hh⟩:=hx
  split at hv
  ·split at hv
   ·rename_i l h hb
    split at hv
    ·rename_i hw
     subst hw
     cases hv
     rw [l3' rfl]
     obtain ⟨g1,g2,g3⟩:=relOpt_bounds (P:=P) (E:=E) (cap:=cap) true hb hle l1 l1' l2 l2' E.w
     refine ⟨_,?_,partW_rel (slice_list_rel (cap:=cap) hcl hle g2 g3 hh)⟩
     simp [Instr.sliceAt,Instr.slice,Sem.run_underlying_some hu,g1,Sem.run_sizeOf i1,i2]
    ·cases hv
   ·cases hv
  ·rename_i m
   split at hv
   ·rename_i hc
    cases hv
    obtain ⟨cm,rfl,hm⟩:=l3 m rfl
    have g:=bounds3_zero (P:=P) hc.2.1 hc.1 hc.2.2 l1 l1' l2 hm cap E.w
    refine ⟨.slice base 0 0,?_,by simp only [rel]; exact ⟨base,rfl⟩⟩
    simp [Instr.sliceAt,Instr.slice,Sem.run_underlying_some hu,g,Sem.run_sizeOf i1,i2]
   ·cases hv
 ·rename_i e sz by_ ks rows hk
  obtain ⟨hu,ii,i1,i2,_⟩:=kind_slice hk
  have hx':=rel_listF.1 hx
  simp only [rel] at hx'
  obtain ⟨hcl,base,cap,rfl,hle,hh⟩:=hx'
  simp only [List.length_map] at hle hx ⊢
  split at hv
  ·split at hv
   ·rename_i l h hb
    split at hv
    ·rename_i hw
     subst hw
     cases hv
     rw [l3' rfl]
     obtain ⟨g1,g2,g3⟩:=relOpt_bounds (P:=P) (E:=E) (cap:=cap) true hb hle l1 l1' l2 l2' E.w
     have:=slice_list_rel (cap:=cap) hcl (by simpa using hle) g2 (by simpa using g3) hh
     have e:((rows.map (gCells ks)).drop l).take (h-l)=((rows.drop l).take (h-l)).map (gCells ks):=by rw [List.map_take,List.map_drop]
     rw [e] at this
     refine ⟨_,?_,rel_listF.2 this⟩
     simp [Instr.sliceAt,Instr.slice,Sem.run_underlying_some hu,g1,Sem.run_sizeOf i1,i2]
    ·cases hv
   ·cases hv
  ·rename_i m
   split at hv
   ·rename_i hc
    cases hv
    obtain ⟨cm,rfl,hm⟩:=l3 m rfl
    have g:=bounds3_zero (P:=P) hc.2.1 hc.1 hc.2.2 l1 l1' l2 hm cap E.w
    refine ⟨.slice base 0 0,?_,by simp only [rel]; exact ⟨base,rfl⟩⟩
    simp [Instr.sliceAt,Instr.slice,Sem.run_underlying_some hu,g,Sem.run_sizeOf i1,i2]
   ·cases hv
 ·rename_i e sz by_ w id ver off n hk
  obtain ⟨hu,ii,i1,i2,_⟩:=kind_slice hk
  have hx':=hx
  simp only [rel] at hx
  obtain ⟨⟨base,cap,rfl,hle,_⟩,_,_⟩:=hx
  split at hv
  ·split at hv
   ·rename_i l h hb
    split at hv
    ·rename_i hw
     subst hw
     cases hv
     rw [l3' rfl]
     obtain ⟨g1,g2,g3⟩:=relOpt_bounds (P:=P) (E:=E) (cap:=cap) true hb hle l1 l1' l2 l2' E.w
     refine ⟨_,?_,slice_vec_rel hx' g2 g3⟩
     simp [Instr.sliceAt,Instr.slice,Sem.run_underlying_some hu,g1,Sem.run_sizeOf i1,i2]
    ·cases hv
   ·cases hv
  ·rename_i m
   split at hv
   ·rename_i hc
    cases hv
    obtain ⟨cm,rfl,hm⟩:=l3 m rfl
    have g:=bounds3_zero (P:=P) hc.2.1 hc.1 hc.2.2 l1 l1' l2 hm cap E.w
    refine ⟨.slice base 0 0,?_,by simp only [rel]; exact ⟨base,rfl⟩⟩
    simp [Instr.sliceAt,Instr.slice,Sem.run_underlying_some hu,g,Sem.run_sizeOf i1,i2]
   ·cases hv
 ·rename_i e sz by_ hk
  obtain ⟨hu,ii,i1,i2,_⟩:=kind_slice hk
  simp only [rel] at hx
  obtain ⟨base,rfl⟩:=hx
  split at hv
  ·split at hv
   ·rename_i hb
    cases hv
    obtain ⟨⟨l,h⟩,hb⟩:=Option.isSome_iff_exists.1 hb
    rw [l3' rfl]
    obtain ⟨g1,g2,g3⟩:=relOpt_bounds (P:=P) (E:=E) (cap:=0) true hb (Nat.le_refl _) l1 l1' l2 l2' E.w
    have:h=0:=by omega
    subst this
    have:l=0:=by omega
    subst this
    refine ⟨.slice base 0 0,?_,by simp only [rel]; exact ⟨base,rfl⟩⟩
    simp [Instr.sliceAt,Instr.slice,Sem.run_underlying_some hu,g1,Sem.run_sizeOf i1,i2]
   ·cases hv
  ·cases hv
 ·rename_i e sz by_ hk
  obtain ⟨hu,ii,i1,i2,_⟩:=kind_slice hk
  simp only [rel] at hx
  subst hx
  split at hv
  ·split at hv
   ·rename_i hb
    cases hv
    obtain ⟨⟨l,h⟩,hb⟩:=Option.isSome_iff_exists.1 hb
    rw [l3' rfl]
    obtain ⟨g1,g2,g3⟩:=relOpt_bounds (P:=P) (E:=E) (cap:=0) true hb (Nat.le_refl _) l1 l1' l2 l2' E.w
    have:h=0:=by omega
    subst this
    have:l=0:=by omega
    subst this
    refine ⟨.slice none 0 0,?_,by simp only [rel]⟩
    simp [Instr.sliceAt,Instr.slice,Sem.run_underlying_some hu,g1,Sem.run_sizeOf i1,i2]
   ·cases hv
  ·rename_i m
   split at hv
   ·rename_i hc
    cases hv
    obtain ⟨cm,rfl,hm⟩:=l3 m rfl
    have g:=bounds3_zero (P:=P) hc.2.1 hc.1 hc.2.2 l1 l1' l2 hm 0 E.w
    refine ⟨.slice none 0 0,?_,by simp only [rel]⟩
    simp [Instr.sliceAt,Instr.slice,Sem.run_underlying_some hu,g,Sem.run_sizeOf i1,i2]
   ·cases hv
 ·cases hv
end Go.AL

namespace Go.AL
open Go
variable [Dr]
def kindOk:SK→Value→Bool
 | .int k,.int k' _=>k=k'
 | .str,.string _=>true
 | .bool,.bool _=>true
 | _,_=>false
def veq:Value→Value→Bool
 | .int _ a,.int _ b=>a==b
 | .string a,.string b=>a.toList==b.toList
 | .bool a,.bool b=>a==b
 | _,_=>false
def veqs:List Value→List Value→Bool
 | [],[]=>true
 | a::as,b::bs=>veq a b&&veqs as bs
 | _,_=>false
def kindsOk:List SK→List Value→Bool
 | [],[]=>true
 | k::ks,v::vs=>kindOk k v&&kindsOk ks vs
 | _,_=>false
def flatFs (P:Program) (f:TypeId→Option (List SK)):List Field→Nat→Option (List SK)
 | [],_=>some []
 | x::fs,off=>if x.name = "_" ∨ x.offset≠off then none else
  match f x.type,varK P x.type with
  | some ks,some (n,_)=>if n=ks.length then (match flatFs P f fs (off+n) with | some l=>some (ks++l) | none=>none) else none
  | _,_=>none
def flatK (P:Program):Nat→TypeId→Option (List SK)
 | 0,_=>none
 | d+1,t=>match P.underlying t with
  | some (.int k)=>some [.int k]
  | some .string=>some [.str]
  | some .bool=>some [.bool]
  | some (.struct fs)=>if P.stoodInHeld t then none else flatFs P (fun t=>flatK P d t) fs.toList 0
  | _=>none
abbrev flatF (P:Program) (d:Nat) (fs:List Field) (off:Nat):Option (List SK):=flatFs P (fun t=>flatK P d t) fs off
theorem veqs_append:∀ (a b c d:List Value),a.length=c.length→veqs (a++b) (c++d)=(veqs a c&&veqs b d)
 | [],b,[],d,_=>by simp [veqs]
 | x::a,b,y::c,d,h=>by
  simp only [List.cons_append,veqs,veqs_append a b c d (by simpa using h),Bool.and_assoc]
 | [],_,_::_,_,h=>by simp at h
 | _::_,_,[],_,h=>by simp at h
theorem kindsOk_length:∀ {ks:List SK} {vs:List Value},kindsOk ks vs=true→ks.length=vs.length
 | [],[],_=>rfl
 | _::ks,_::vs,h=>by simp only [kindsOk,Bool.and_eq_true] at h; simp [kindsOk_length h.2]
 | [],_::_,h=>by simp [kindsOk] at h
 | _::_,[],h=>by simp [kindsOk] at h
theorem kindsOk_append:∀ {a b:List SK} {vs:List Value},kindsOk (a++b) vs=true→kindsOk a (vs.take a.length)=true∧kindsOk b (vs.drop a.length)=true
 | [],b,vs,h=>by simpa [kindsOk] using h
 | k::a,b,[],h=>by simp [kindsOk] at h
 | k::a,b,v::vs,h=>by
  simp only [List.cons_append,kindsOk,Bool.and_eq_true] at h
  have:=kindsOk_append h.2
  simp only [List.length_cons,List.take_succ_cons,kindsOk,Bool.and_eq_true,List.drop_succ_cons]
  exact ⟨⟨h.1,this.1⟩,this.2⟩
def isVal (P:Program) (t:TypeId) (x:Value) (vs:List Value):Prop :=
 match P.underlying t with
 | some (.struct _)=>∃ a:Array Value,x=.agg a∧a.toList=vs
 | _=>vs=[x]
theorem run_part_flat {P:Program} {t:TypeId} {n:Nat} {agg:Bool} {ks:List SK} {d:Nat} (hv:varK P t=some (n,agg)) (hk:flatK P d t=some ks) (hn:n=ks.length)
  (cs:Array Value) (off:Nat) (hok:kindsOk ks ((cs.toList.drop off).take n)=true) (w:World) :
  ∃ x,(part t cs off).run P w=.ok x w∧isVal P t x ((cs.toList.drop off).take n):=by
 obtain ⟨i,d',h1,h2,h3,h4⟩:=varK_some hv
 cases d with
 | zero=>simp [flatK] at hk
 | succ d =>
  unfold flatK at hk
  rw [h2] at hk
  have hlen:=kindsOk_length hok
  cases d' with
  | struct fs =>
   refine ⟨.agg (cs.extract off (off+n)),?_,?_⟩
   ·simp [part,Sem.run_isAgg h2,isAggD,Sem.run_sizeOf h1,h3]
   ·simp only [isVal, h2]
    refine ⟨_,rfl,?_⟩
    simp
  | int k =>
   simp at hk
   subst hk
   simp at hn
   subst hn
   have:off<cs.size:=by simp at hlen; omega
   refine ⟨cs[off],?_,?_⟩
   ·simp [part,Sem.run_isAgg h2,isAggD,this]
   ·simp [isVal,h2,List.take_one,this]
  | string =>
   simp at hk
   subst hk
   simp at hn
   subst hn
   have:off<cs.size:=by simp at hlen; omega
   refine ⟨cs[off],?_,?_⟩
   ·simp [part,Sem.run_isAgg h2,isAggD,this]
   ·simp [isVal,h2,List.take_one,this]
  | bool =>
   simp at hk
   subst hk
   simp at hn
   subst hn
   have:off<cs.size:=by simp at hlen; omega
   refine ⟨cs[off],?_,?_⟩
   ·simp [part,Sem.run_isAgg h2,isAggD,this]
   ·simp [isVal,h2,List.take_one,this]
  | _=>simp at hk
theorem underlying_fieldsOf {P:Program} {t:TypeId} {fs:Array Field} (h:P.underlying t=some (.struct fs)):P.underlying t=some (.struct (P.fieldsOf t)):=by
 simp [Program.fieldsOf,h]
mutual
theorem run_equalIn_flat {P:Program}:∀ (d:Nat) (t:TypeId) (ks:List SK),flatK P d t=some ks→∀ (D:Nat),d≤D→∀ (x y:Value) (vs us:List Value),
  isVal P t x vs→isVal P t y us→kindsOk ks vs=true→kindsOk ks us=true→∀ w,(Op.equalIn D t x y).run P w=.ok (veqs vs us) w
 | 0,_,_,hk=>by simp [flatK] at hk
 | d+1,t,ks,hk=>by
  intro D hD x y vs us hx hy kx ky w
  obtain ⟨D,rfl⟩:∃ D',D=D'+1:=⟨D-1,by omega⟩
  unfold flatK at hk
  cases hu:P.underlying t with
  | none=>rw [hu] at hk; cases hk
  | some de =>
   rw [hu] at hk
   cases de with
   | struct fs =>
    simp only [] at hk
    split at hk
    ·cases hk
    rename_i hs
    simp only [isVal,hu] at hx hy
    obtain ⟨a,rfl,rfl⟩:=hx
    obtain ⟨b,rfl,rfl⟩:=hy
    have hf:P.fieldsOf t=fs:=by simp [Program.fieldsOf,hu]
    rw [run_equalIn_struct w D t a b (underlying_fieldsOf hu) (by simpa using hs),hf]
    have:=run_eqFields_flat d fs.toList 0 ks hk D (by omega) a b (by simpa using kx) (by simpa using ky) w
    simpa using this
   | int k =>
    simp at hk
    subst hk
    simp only [isVal,hu] at hx hy
    subst hx; subst hy
    simp only [kindsOk,Bool.and_true] at kx ky
    unfold kindOk at kx ky
    split at kx<;>split at ky<;>simp_all [Op.equalIn,veqs,veq,Sem.run_underlying_some hu]
   | string =>
    simp at hk
    subst hk
    simp only [isVal,hu] at hx hy
    subst hx; subst hy
    simp only [kindsOk,Bool.and_true] at kx ky
    unfold kindOk at kx ky
    split at kx<;>split at ky<;>simp_all [Op.equalIn,veqs,veq,Sem.run_underlying_some hu,beq_toListBytes]
   | bool =>
    simp at hk
    subst hk
    simp only [isVal,hu] at hx hy
    subst hx; subst hy
    simp only [kindsOk,Bool.and_true] at kx ky
    unfold kindOk at kx ky
    split at kx<;>split at ky<;>simp_all [Op.equalIn,veqs,veq,Sem.run_underlying_some hu]
   | _=>simp at hk
theorem run_eqFields_flat {P:Program}:∀ (d:Nat) (fs:List Field) (off:Nat) (ks:List SK),flatF P d fs off=some ks→∀ (D:Nat),d≤D→∀ (xs ys:Array Value),
  kindsOk ks (xs.toList.drop off)=true→kindsOk ks (ys.toList.drop off)=true→∀ w,(Op.eqFields D xs ys fs).run P w=.ok (veqs (xs.toList.drop off) (ys.toList.drop off)) w
 | d,[],off,ks,hk=>by
  intro D hD xs ys kx ky w
  simp [flatF,flatFs] at hk
  subst hk
  have h1:=kindsOk_length kx
  have h2:=kindsOk_length ky
  have e1:xs.toList.drop off=[]:=List.eq_nil_of_length_eq_zero (by rw [←h1]; rfl)
  have e2:ys.toList.drop off=[]:=List.eq_nil_of_length_eq_zero (by rw [←h2]; rfl)
  rw [e1,e2]
  simp [Op.eqFields,veqs]
 | d,f::fs,off,ks,hk=>by
  intro D hD xs ys kx ky w
  unfold flatF flatFs at hk
  split at hk
  ·cases hk
  rename_i hc
  split at hk
  case h_2=>cases hk
  rename_i k1 n ag e1 e2
  split at hk
  case isFalse=>cases hk
  rename_i hn
  split at hk
  case h_2=>cases hk
  rename_i l e3
  cases hk
  have hname:f.name ≠ "_" := fun e=>hc (.inl e)
  have hoff:f.offset=off:=by
   by_cases e:f.offset=off
   ·exact e
   ·exact (hc (.inr e)).elim
  obtain ⟨kx1,kx2⟩:=kindsOk_append kx
  obtain ⟨ky1,ky2⟩:=kindsOk_append ky
  rw [←hn] at kx1 kx2 ky1 ky2
  obtain ⟨x,px,vx⟩:=run_part_flat e2 e1 hn xs off kx1 w
  obtain ⟨y,py,vy⟩:=run_part_flat e2 e1 hn ys off ky1 w
  have he:=run_equalIn_flat d f.type k1 e1 D hD x y _ _ vx vy kx1 ky1 w
  have hrest:=run_eqFields_flat d fs (off+n) l e3 D hD xs ys (by rw [List.drop_drop] at kx2; exact kx2) (by rw [List.drop_drop] at ky2; exact ky2) w
  have hsplit:veqs (xs.toList.drop off) (ys.toList.drop off) =
    (veqs ((xs.toList.drop off).take n) ((ys.toList.drop off).take n)&&veqs (xs.toList.drop (off+n)) (ys.toList.drop (off+n))):=by
   rw [←veqs_append _ _ _ _ (by rw [←kindsOk_length kx1,←kindsOk_length ky1]),←List.drop_drop,←List.drop_drop,List.take_append_drop,List.take_append_drop]
  simp only [Op.eqFields,hname,ne_eq,not_false_eq_true,if_true,Sem.run_bind,hoff,px,py,Result.andThen_ok,he,hsplit]
  cases veqs ((xs.toList.drop off).take n) ((ys.toList.drop off).take n)<;>simp [hrest]
end
def litsA:List AV→Option (List Value)
 | []=>some []
 | .lit v::as=>match litsA as with
  | some l=>some (v::l)
  | none=>none
 | _=>none
theorem litsA_rel {E:Env}:∀ {as:List AV} {l vs:List Value},litsA as=some l→rLs E as vs→vs=l
 | [],l,[],h,_=>by simp [litsA] at h; exact h.symm
 | [],_,_::_,_,hr=>by simp [rLs] at hr
 | _::_,_,[],_,hr=>by simp [rLs] at hr
 | a::as,l,v::vs,h,hr=>by
  simp only [rLs] at hr
  cases a<;>simp only [litsA] at h<;>try cases h
  split at h
  ·rename_i u l' hl
   cases h
   have:=litsA_rel hl hr.2
   have h1:=hr.1
   simp only [rel] at h1
   rw [h1,this]
  ·cases h
def isStructD:Option TypeDesc→Bool
 | some (.struct _)=>true
 | _=>false
def boolBin (op:BinOp) (b:Bool):Option AV :=
 match op with
 | .eql=>some (.bool b)
 | .neq=>some (.bool !b)
 | _=>none
def flatDepth:Nat:=6
def litCmp (P:Program) (op:BinOp) (t:TypeId) (konst:Bool) (a b:Value):Option AV :=
 match a,b with
 | .bool a,.bool b=>match P.underlying t with
  | some .bool=>boolBin op (a==b)
  | _=>none
 | .slice none 0 0,.slice none 0 0=>match P.underlying t with
  | some (.slice _)=>boolBin op true
  | _=>none
 | .nilIface,.nilIface=>if konst then (match P.underlying t with | some (.interface _)=>boolBin op true | _=>none) else none
 | _,_=>none
def binA (P:Program) (op:BinOp) (t:TypeId) (konst:Bool) (x y:AV):Option AV :=
 match x,y with
 | .lit a,.lit b=>match litBin op a b with
  | some v=>some (.lit v)
  | none=>litCmp P op t konst a b
 | .agg as,.agg bs=>match flatK P flatDepth t,litsA as,litsA bs with
  | some ks,some l,some m=>if P.eqGuardType P.depth t=false∧kindsOk ks l=true∧kindsOk ks m=true∧isStructD (P.underlying t)=true then boolBin op (veqs l m) else none
  | _,_,_=>none
 | .emptyS n,.lit (.slice none 0 0)=>match P.underlying t with
  | some (.slice _)=>boolBin op n
  | _=>none
 | .listF _ rows,.lit (.slice none 0 0)=>match P.underlying t with
  | some (.slice _)=>if 0<rows.length then boolBin op false else none
  | _=>none
 | .vec _ _ _ _ m,.lit (.slice none 0 0)=>match P.underlying t with
  | some (.slice _)=>if 0<m then boolBin op false else none
  | _=>none
 | .ifc,.lit .nilIface | .lit .nilIface,.ifc=>match P.underlying t with
  | some (.interface _)=>boolBin op false
  | _=>none
 | _,_=>none
theorem kind_int {P:Program} {t:Nat} {k:IntKind} (h:kindK P t=.int k):P.underlying t=some (.int k):=by
 unfold kindK at h
 split at h
 ·split at h<;>cases h
 ·split at h<;>cases h
 ·cases h
 ·rename_i h1; cases h; exact h1
 ·cases h
 ·cases h
theorem boolBin_run {P:Program} {op:BinOp} {b:Bool} {v:AV} {t:TypeId} {x y:Operand} {c d:Value} {w:World} (h:boolBin op b=some v)
  (hg:(eqGuard op t x y c d).run P w=.ok () w) (he:(Op.equal t c d).run P w=.ok b w)
  (hb:∀ op,op=.eql∨op=.neq→(binOp op t c d)=(match op with | .eql=>(do pure (.bool (← Op.equal t c d))) | _=>(do pure (.bool (!(← Op.equal t c d)))))) :
  ∃ u,(do eqGuard op t x y c d; binOp op t c d:Sem Value).run P w=.ok u w∧∀ E,rel E v u:=by
 unfold boolBin at h
 split at h
 ·cases h
  refine ⟨.bool b,?_,fun E=>by simp [rel]⟩
  simp only [Sem.run_bind,hg,Result.andThen_ok,hb .eql (.inl rfl)]
  simp [he]
 ·cases h
  refine ⟨.bool !b,?_,fun E=>by simp [rel]⟩
  simp only [Sem.run_bind,hg,Result.andThen_ok,hb .neq (.inr rfl)]
  simp [he]
 ·cases h
end Go.AL

namespace Go.AL
open Go
variable [Dr]
theorem equal_of_in {P:Program} {t:TypeId} {c d:Value} {b:Bool} {w:World} (h:∀ n,(Op.equalIn (n+1) t c d).run P w=.ok b w) :
  (Op.equal t c d).run P w=.ok b w:=h 9999
theorem run_eqGuard_nil {P:Program} {op:BinOp} {t:TypeId} {x y:Operand} (h:((x matches .const _)||(y matches .const _))=true) (w:World) :
  (eqGuard op t x y .nilIface .nilIface).run P w=.ok () w:=by
 cases x<;>cases y<;>first
  | (cases op<;>rfl)
  | (simp at h; done)
theorem run_litCmp {P:Program} {E:Env} {op:BinOp} {t:TypeId} {x y:Operand} {p q:Value} {v:AV} {kk:Bool}
  (hkk:kk=true→((x matches .const _)||(y matches .const _))=true) (h:litCmp P op t kk p q=some v) :
  ∃ u,(do eqGuard op t x y p q; binOp op t p q:Sem Value).run P E.w=.ok u E.w∧rel E v u:=by
 unfold litCmp at h
 split at h
 ·rename_i a b
  split at h
  ·rename_i hu
   obtain ⟨u,h1,h2⟩:=boolBin_run (P:=P) (t:=t) (x:=x) (y:=y) (c:=.bool a) (d:=.bool b) (w:=E.w) h (by cases op<;>simp [eqGuard]<;>rfl)
    (equal_of_in fun n=>by simp [Op.equalIn,Sem.run_underlying_some hu]) (by rintro op (rfl | rfl)<;>rfl)
   exact ⟨u,h1,h2 E⟩
  ·cases h
 ·split at h
  ·rename_i hu
   obtain ⟨u,h1,h2⟩:=boolBin_run (P:=P) (t:=t) (x:=x) (y:=y) (c:=.slice none 0 0) (d:=.slice none 0 0) (w:=E.w) h (by cases op<;>simp [eqGuard]<;>rfl)
    (equal_of_in fun n=>by simp [Op.equalIn,Sem.run_underlying_some hu]) (by rintro op (rfl | rfl)<;>rfl)
   exact ⟨u,h1,h2 E⟩
  ·cases h
 ·split at h
  ·rename_i hc
   split at h
   ·rename_i ms hu
    obtain ⟨u,h1,h2⟩:=boolBin_run (P:=P) (t:=t) (x:=x) (y:=y) (c:=.nilIface) (d:=.nilIface) (w:=E.w) h
     (run_eqGuard_nil (hkk hc) _)
     (equal_of_in fun n=>by simp [Op.equalIn,Sem.run_underlying_some hu]) (by rintro op (rfl | rfl)<;>rfl)
    exact ⟨u,h1,h2 E⟩
   ·cases h
  ·cases h
 ·cases h
theorem run_binA {P:Program} {E:Env} {op:BinOp} {t:TypeId} {x y:Operand} {a b v:AV} {c d:Value}
  {kk:Bool} (hkk:kk=true→((x matches .const _)||(y matches .const _))=true) (h:binA P op t kk a b=some v) (hx:rel E a c) (hy:rel E b d) :
  ∃ u,(do eqGuard op t x y c d; binOp op t c d:Sem Value).run P E.w=.ok u E.w∧rel E v u:=by
 unfold binA at h
 split at h
 ·rename_i p q
  simp only [rel] at hx hy
  rw [hx,hy]
  clear hx hy c d
  split at h
  ·rename_i u hu
   cases h
   refine ⟨u,?_,by simp [rel]⟩
   simp only [Sem.run_bind]
   rw [run_eqGuard_lit op t x y p q (fun _ _=>trivial) (by simp [hu])]
   simp only [Result.andThen_ok]
   exact run_litBin op t p q u hu E.w
  ·exact run_litCmp hkk h
 ·rename_i as bs
  split at h
  case h_2=>cases h
  rename_i ks l m h1 h2 h3
  by_cases hc:P.eqGuardType P.depth t=false∧kindsOk ks l=true∧kindsOk ks m=true∧isStructD (P.underlying t)=true
  case neg=>rw [if_neg hc] at h; cases h
  rw [if_pos hc] at h
  obtain ⟨g1,g2,g3,g4⟩:=hc
  simp only [rel] at hx hy
  obtain ⟨xs,rfl,_,hx⟩:=hx
  obtain ⟨ys,rfl,_,hy⟩:=hy
  have ex:=litsA_rel h2 hx
  have ey:=litsA_rel h3 hy
  unfold isStructD at g4
  split at g4
  case h_2=>cases g4
  rename_i fs hu
  have:=run_equalIn_flat flatDepth t ks h1 10000 (by decide) (.agg xs) (.agg ys) l m (by simp only [isVal,hu]; exact ⟨xs,rfl,ex⟩)
   (by simp only [isVal,hu]; exact ⟨ys,rfl,ey⟩) g2 g3 E.w
  obtain ⟨u,q1,q2⟩:=boolBin_run (P:=P) (t:=t) (x:=x) (y:=y) (c:=.agg xs) (d:=.agg ys) (w:=E.w) h (run_eqGuard_agg E.w op t x y xs ys g1)
   (by simpa [Op.equal,Op.maxDepth] using this) (by rintro op (rfl | rfl)<;>rfl)
  exact ⟨u,q1,q2 E⟩
 ·simp only [rel] at hx hy
  subst hy
  obtain ⟨b,cap,rfl,hb⟩:=hx
  split at h
  ·rename_i el hu
   obtain ⟨u,h1,h2⟩:=boolBin_run (P:=P) (t:=t) (x:=x) (y:=y) (c:=.slice b 0 cap) (d:=.slice none 0 0) (w:=E.w) h (by cases op<;>simp [eqGuard]<;>rfl)
    (equal_of_in fun n=>by cases b<;>simp [Op.equalIn,Sem.run_underlying_some hu]<;>simpa using hb.symm) (by rintro op (rfl | rfl)<;>rfl)
   exact ⟨u,h1,h2 E⟩
  ·cases h
 ·rename_i ks rows
  simp only [rel,relKd,G.rows] at hx hy
  subst hy
  obtain ⟨b,cap,rfl,_,hb⟩:=hx
  split at h
  ·rename_i el hu
   split at h
   ·rename_i hlt
    rcases hb with rfl | ⟨b',o',rfl,_⟩
    ·simp at hlt
    obtain ⟨u,h1,h2⟩:=boolBin_run (P:=P) (t:=t) (x:=x) (y:=y) (c:=.slice (some ⟨b',o',none⟩) rows.length cap) (d:=.slice none 0 0) (w:=E.w) h (by cases op<;>simp [eqGuard]<;>rfl)
     (equal_of_in fun n=>by simp [Op.equalIn,Sem.run_underlying_some hu]) (by rintro op (rfl | rfl)<;>rfl)
    exact ⟨u,h1,h2 E⟩
   ·cases h
  ·cases h
 ·rename_i m
  simp only [rel] at hx hy
  subst hy
  obtain ⟨⟨b,cap,rfl,_,hb⟩,_⟩:=hx
  split at h
  ·rename_i el hu
   split at h
   ·rename_i hlt
    obtain ⟨b',o',rfl⟩:=hb hlt
    obtain ⟨u,h1,h2⟩:=boolBin_run (P:=P) (t:=t) (x:=x) (y:=y) (c:=.slice (some ⟨b',o',none⟩) m cap) (d:=.slice none 0 0) (w:=E.w) h (by cases op<;>simp [eqGuard]<;>rfl)
     (equal_of_in fun n=>by simp [Op.equalIn,Sem.run_underlying_some hu]) (by rintro op (rfl | rfl)<;>rfl)
    exact ⟨u,h1,h2 E⟩
   ·cases h
  ·cases h
 ·simp only [rel] at hx hy
  subst hy
  obtain ⟨ti,vi,rfl⟩:=hx
  split at h
  ·rename_i ms hu
   obtain ⟨u,h1,h2⟩:=boolBin_run (P:=P) (t:=t) (x:=x) (y:=y) (c:=.iface ti vi) (d:=.nilIface) (w:=E.w) h (by cases op<;>simp [eqGuard]<;>rfl)
    (equal_of_in fun n=>by simp [Op.equalIn,Sem.run_underlying_some hu]) (by rintro op (rfl | rfl)<;>rfl)
   exact ⟨u,h1,h2 E⟩
  ·cases h
 ·simp only [rel] at hx hy
  subst hx
  obtain ⟨ti,vi,rfl⟩:=hy
  split at h
  ·rename_i ms hu
   obtain ⟨u,h1,h2⟩:=boolBin_run (P:=P) (t:=t) (x:=x) (y:=y) (c:=.nilIface) (d:=.iface ti vi) (w:=E.w) h (by cases op<;>simp [eqGuard]<;>rfl)
    (equal_of_in fun n=>by simp [Op.equalIn,Sem.run_underlying_some hu]) (by rintro op (rfl | rfl)<;>rfl)
   exact ⟨u,h1,h2 E⟩
  ·cases h
 ·cases h
def unA (op:UnOp) (x:AV):Option AV :=
 match op,x with
 | .not,.lit (.bool b)=>some (.bool !b)
 | .neg,.lit (.int k n)=>some (.lit (.int k (k.wrap (0-n))))
 | _,_=>none
theorem run_unA {P:Program} {E:Env} {op:UnOp} {x v:AV} {c:Value} (h:unA op x=some v) (hx:rel E x c) :
  ∃ u,(Op.unary op c).run P E.w=.ok u E.w∧rel E v u:=by
 unfold unA at h
 split at h
 ·cases h
  simp only [rel] at hx
  subst hx
  exact ⟨_,rfl,by simp [rel]⟩
 ·cases h
  simp only [rel] at hx
  subst hx
  exact ⟨_,rfl,by simp [rel]⟩
 ·cases h
def convA (P:Program) (s d:TypeId) (x:AV):Option AV :=
 match P.underlying s,kindK P d,x with
 | some _,.int k,.lit (.int _ n)=>some (.lit (.int k (k.wrap n)))
 | some _,.str,.lit (.string b)=>some (.str b)
 | some _,.str,.lit (.int _ n)=>some (.str (Utf8.encode n))
 | _,_,_=>none
theorem run_convA {P:Program} {E:Env} {s d:TypeId} {x v:AV} {c:Value} (h:convA P s d x=some v) (hx:rel E x c) :
  ∃ u,(convert s d c).run P E.w=.ok u E.w∧rel E v u:=by
 unfold convA at h
 split at h
 ·rename_i k n hs hd
  cases h
  simp only [rel] at hx
  subst hx
  refine ⟨_,?_,by simp only [rel]; rfl⟩
  simp [convert,Sem.run_underlying_some hs,Sem.run_underlying_some (kind_int hd),Conv.intToInt]
 ·rename_i b hs hd
  cases h
  simp only [rel] at hx
  subst hx
  refine ⟨_,?_,by simp only [rel]; rfl⟩
  simp only [convert,Sem.run_bind,Sem.run_underlying_some hs,Sem.run_underlying_some (kind_str hd),Result.andThen_ok]
  rfl
 ·rename_i k n hs hd
  cases h
  simp only [rel] at hx
  subst hx
  refine ⟨_,?_,by simp only [rel]; rfl⟩
  simp only [convert,Sem.run_bind,Sem.run_underlying_some hs,Sem.run_underlying_some (kind_str hd),Result.andThen_ok]
  rfl
 ·cases h
def indexA (k:SK) (x i:AV):Option AV :=
 match i with
 | .lit (.int _ n) =>
  match k,x with
  | .str,.lit (.string s)=>if 0≤n∧n<s.size then (match s[n.toNat]? with | some b=>some (.lit (.int .u8 b.toNat)) | none=>none) else none
  | .array m _ sz agg,.agg cells=>if 0≤n∧n<m then partA agg sz (cells.drop (n.toNat*sz)) else none
  | _,_=>none
 | _=>none
theorem relList_drop {E:Env}:∀ {as:List AV} {vs:List Value} (n:Nat),rLs E as vs→rLs E (as.drop n) (vs.drop n)
 | _,_,0,h=>by simpa using h
 | [],[],n+1,_=>by simp [rLs]
 | [],_::_,_,h=>by simp [rLs] at h
 | _::_,[],_,h=>by simp [rLs] at h
 | a::as,v::vs,n+1,h=>by simp only [rLs] at h; simpa using relList_drop n h.2
theorem relList_take {E:Env}:∀ {as:List AV} {vs:List Value} (n:Nat),rLs E as vs→rLs E (as.take n) (vs.take n)
 | _,_,0,_=>by simp [rLs]
 | [],[],n+1,_=>by simp [rLs]
 | [],_::_,_,h=>by simp [rLs] at h
 | _::_,[],_,h=>by simp [rLs] at h
 | a::as,v::vs,n+1,h=>by simp only [rLs] at h; simp only [List.take_succ_cons,rLs]; exact ⟨h.1,relList_take n h.2⟩
theorem relList_append {E:Env}:∀ {as bs:List AV} {vs us:List Value},rLs E as vs→rLs E bs us→rLs E (as++bs) (vs++us)
 | [],_,[],_,_,h=>by simpa using h
 | [],_,_::_,_,h,_=>by simp [rLs] at h
 | _::_,_,[],_,h,_=>by simp [rLs] at h
 | a::as,bs,v::vs,us,h,h'=>by simp only [rLs] at h; simp only [List.cons_append,rLs]; exact ⟨h.1,relList_append h.2 h'⟩
theorem relList_get {E:Env} {as:List AV} {vs:List Value} (h:rLs E as vs) {i:Nat} {a:AV} (hi:as[i]? = some a):∃ v,vs[i]? = some v∧rel E a v:=by
 obtain ⟨h1,h2⟩:=relList_iff.1 h
 have hlt:=lt_of_getElem? hi
 have hlt':i<vs.length:=h1▸hlt
 exact ⟨vs[i],List.getElem?_eq_getElem hlt',h2 i a _ hi (List.getElem?_eq_getElem hlt')⟩
theorem run_partA {P:Program} {E:Env} {t:TypeId} {n:Nat} {agg:Bool} {cells:List AV} {cs:Array Value} {off:Nat} {v:AV} (hv:varK P t=some (n,agg))
  (h:partA agg n (cells.drop off)=some v) (hr:rLs E cells cs.toList) (h1:∀ x∈cs.toList,one1 x=true) :
  ∃ u,(part t cs off).run P E.w=.ok u E.w∧rel E v u:=by
 obtain ⟨i,d,hi,hd,hs,ha⟩:=varK_some hv
 unfold partA at h
 cases agg with
 | true =>
  simp only [if_true] at h
  split at h
  ·cases h
   refine ⟨.agg (cs.extract off (off+n)),?_,?_⟩
   ·simp [part,Sem.run_isAgg hd,ha,Sem.run_sizeOf hi,hs]
   ·simp only [rel]
    have e:(cs.extract off (off+n)).toList=(cs.toList.drop off).take n:=by simp
    refine ⟨_,rfl,?_,?_⟩
    ·rw [e]; exact fun x hx=>h1 x (List.mem_of_mem_drop (List.mem_of_mem_take hx))
    ·rw [e]; exact relList_take n (relList_drop off hr)
  ·cases h
 | false =>
  simp only [Bool.false_eq_true,if_false] at h
  rw [List.getElem?_drop] at h
  obtain ⟨u,g1,g2⟩:=relList_get hr h
  refine ⟨u,?_,g2⟩
  have g1':cs[off]? = some u:=by simpa using g1
  simp [part,Sem.run_isAgg hd,ha,g1']
theorem run_indexA {P:Program} {E:Env} {t:TypeId} {x i v:AV} {c d:Value} (h:indexA (kindK P t) x i=some v) (hx:rel E x c) (hi:rel E i d) :
  ∃ u,(Instr.index t c d).run P E.w=.ok u E.w∧rel E v u:=by
 unfold indexA at h
 split at h
 case h_2=>cases h
 rename_i k n
 simp only [rel] at hi
 subst hi
 split at h
 ·rename_i s hk
  have hu:=kind_str hk
  simp only [rel] at hx
  subst hx
  split at h
  case isFalse=>cases h
  rename_i hc
  split at h
  case h_2=>cases h
  rename_i b hb
  cases h
  refine ⟨.int .u8 b.toNat,?_,by simp [rel]⟩
  simp [Instr.index,asIntOf,Sem.run_underlying_some hu,hc.1,hb]
 ·rename_i m e sz agg cells hk
  obtain ⟨hu,hv⟩:=kind_array hk
  obtain ⟨ii,dd,g1,g2,g3,g4⟩:=varK_some hv
  split at h
  case isFalse=>cases h
  rename_i hc
  simp only [rel] at hx
  obtain ⟨cs,rfl,h1,h2⟩:=hx
  obtain ⟨u,q1,q2⟩:=run_partA hv h h2 h1
  refine ⟨u,?_,q2⟩
  simp [Instr.index,asIntOf,Sem.run_underlying_some hu,hc.1,hc.2,Sem.run_sizeOf g1,g3,q1]
 ·cases h
def fieldA (k:FK) (x:AV):Option AV :=
 match x with
 | .agg cells=>partA k.agg k.size (cells.drop k.off)
 | _=>none
theorem run_fieldA {P:Program} {E:Env} {t:TypeId} {f:Nat} {k:FK} {x v:AV} {c:Value} (hk:fieldK P t f=some k) (h:fieldA k x=some v) (hx:rel E x c) :
  ∃ u,(Instr.field t c f).run P E.w=.ok u E.w∧rel E v u:=by
 obtain ⟨fs,fd,h1,h2,h3,h4⟩:=fieldK_some hk
 unfold fieldA at h
 split at h
 ·simp only [rel] at hx
  obtain ⟨cs,rfl,g1,g2⟩:=hx
  obtain ⟨u,q1,q2⟩:=run_partA h4 h g2 g1
  refine ⟨u,?_,q2⟩
  simp [Instr.field,Sem.run_underlying_some h1,h2,asAgg,h3,q1]
 ·cases h
end Go.AL

namespace Go.AL
open Go
variable [Dr]
def cellsA:AV→Option (List AV)
 | .undef | .tuple _=>none
 | .agg cs=>some cs
 | .lit v=>if one1 v then some [.lit v] else none
 | x=>some [x]
theorem cells_rel {E:Env} {x:AV} {cs:List AV} {c:Value} (h:cellsA x=some cs) (hr:rel E x c) :
  rLs E cs c.cells.toList∧∀ y∈c.cells.toList,one1 y=true:=by
 unfold cellsA at h
 split at h
 ·cases h
 ·cases h
 ·cases h
  simp only [rel] at hr
  obtain ⟨a,rfl,h1,h2⟩:=hr
  exact ⟨h2,h1⟩
 ·rename_i v
  split at h
  ·rename_i h1
   cases h
   have hr':=hr
   simp only [rel] at hr
   subst hr
   cases c<;>simp [one1] at h1<;>exact ⟨by simp [Value.cells,rLs,rel],by simp [Value.cells,one1]⟩
  ·cases h
 ·rename_i h1 h2 h3 h4
  cases h
  have hone:one1 c=true∧c.cells=#[c]:=by
   cases x<;>simp only [rel] at hr
   case undef=>exact (h1 rfl).elim
   case lit v=>exact (h4 v rfl).elim
   case nils=>obtain ⟨b,rfl⟩:=hr; exact ⟨rfl,rfl⟩
   case list=>obtain ⟨_,b,cap,rfl,_⟩:=hr; exact ⟨rfl,rfl⟩
   case listF=>simp only [relKd] at hr; obtain ⟨b,cap,rfl,_⟩:=hr; exact ⟨rfl,rfl⟩
   case agg as=>exact (h3 as rfl).elim
   case tuple as=>exact (h2 as rfl).elim
   case cptr=>obtain ⟨_,b,o,rfl,_⟩:=hr; exact ⟨rfl,rfl⟩
   case ptr=>obtain ⟨⟨b,o,rfl⟩,_⟩:=hr; exact ⟨rfl,rfl⟩
   case vec=>obtain ⟨⟨b,o,rfl,_⟩,_⟩:=hr; exact ⟨rfl,rfl⟩
   case map=>obtain ⟨⟨b,rfl⟩,_⟩:=hr; exact ⟨rfl,rfl⟩
   case clo=>obtain ⟨cs,rfl,_⟩:=hr; exact ⟨rfl,rfl⟩
   case ifc=>obtain ⟨t,v,rfl⟩:=hr; exact ⟨rfl,rfl⟩
   case emptyS=>obtain ⟨b,cap,rfl,_⟩:=hr; exact ⟨rfl,rfl⟩
  rw [hone.2]
  exact ⟨by simp only [rLs]; exact ⟨hr,trivial⟩,by simpa using hone.1⟩
def fillA (place:Nat→Option (Nat × Nat)) (cells:List AV):List (Nat × AV)→Option (List AV)
 | []=>some cells
 | (i,v)::rest=>match place i,cellsA v with
  | some (off,size),some cs=>if cs.length=size∧off+cs.length≤cells.length then fillA place (cells.take off++cs++cells.drop (off+cs.length)) rest else none
  | _,_=>none
theorem foldl_set (cs:Array Value):∀ (l:List Value) (off k:Nat) (cells:Array Value),off+k+l.length≤cells.size →
  (l.zipIdx k).foldl (fun cs (p : Value × Nat) => cs.setIfInBounds (off + p.2) p.1) cells =
   (cells.toList.take (off+k)++l++cells.toList.drop (off+k+l.length)).toArray
 | [],off,k,cells,_=>by simp
 | v::l,off,k,cells,h=>by
  simp only [List.zipIdx_cons,List.foldl_cons]
  have h':off+(k+1)+l.length≤(cells.setIfInBounds (off+k) v).size:=by simp at h ⊢; omega
  rw [foldl_set cs l off (k+1) _ h']
  congr 1
  apply List.ext_getElem?
  intro i
  simp only [Array.toList_setIfInBounds,List.getElem?_append,List.length_take,List.length_set,List.getElem?_take,List.getElem?_drop,List.getElem?_set,List.length_append,List.length_cons,Array.length_toList]
  simp at h
  by_cases c1:i<off+k
  ·have e1 : i < min (off + k) cells.size := by omega
   have e2:i<min (off+(k+1)) cells.size:=by omega
   have e3:¬ off+k=i:=by omega
   have e4:i<off+(k+1):=by omega
   have e5:i<min (off+k) cells.size+(l.length+1):=by omega
   have e6:i<min (off+(k+1)) cells.size+l.length:=by omega
   simp [e1,e2,e3,e4,e5,e6,c1]
  ·by_cases c2 : i = off + k
   ·subst c2
    have e1:¬ off+k<min (off+k) cells.size:=by omega
    have e2:off+k<min (off+(k+1)) cells.size:=by omega
    have e4:off+k<off+(k+1):=by omega
    have e5:off+k<min (off+k) cells.size+(l.length+1):=by omega
    have e6:off+k<min (off+(k+1)) cells.size+l.length:=by omega
    have e7:off+k-min (off+k) cells.size=0:=by omega
    have e8:off+k<cells.size:=by omega
    simp [e1,e2,e4,e5,e6,e7,e8]
   ·by_cases c3 : i < off + k + 1 + l.length
    ·have e1 : ¬ i < min (off + k) cells.size := by omega
     have e2:¬ i<min (off+(k+1)) cells.size:=by omega
     have e5:i<min (off+k) cells.size+(l.length+1):=by omega
     have e6:i<min (off+(k+1)) cells.size+l.length:=by omega
     have e7:i-min (off+k) cells.size=(i-min (off+(k+1)) cells.size)+1:=by omega
     simp [e1,e2,e5,e6,e7]
    ·have e1 : ¬ i < min (off + k) cells.size + (l.length + 1) := by omega
     have e2:¬ i<min (off+(k+1)) cells.size+l.length:=by omega
     have e3:off+k+(l.length+1)+(i-(min (off+k) cells.size+(l.length+1)))=i:=by omega
     have e4:off+(k+1)+l.length+(i-(min (off+(k+1)) cells.size+l.length))=i:=by omega
     have e5:¬ off+k=i:=by omega
     simp [e1,e2,e3,e4,e5]
theorem fillA_rel {E:Env} {place:Nat→Option (Nat × Nat)}:∀ {parts:List (Nat × AV)} {cparts:List (Nat × Value)} {cells:List AV} {cs:Array Value} {out:List AV},
  fillA place cells parts=some out→rLs E cells cs.toList→(∀ x∈cs.toList,one1 x=true) →
  parts.map (·.1)=cparts.map (·.1)→rLs E (parts.map (·.2)) (cparts.map (·.2)) →
  ∃ o,Instr.fill place cs cparts=some o∧rLs E out o.toList∧∀ x∈o.toList,one1 x=true
 | [],[],cells,cs,out,h,hr,h1,_,_=>by
  simp only [fillA,Option.some.injEq] at h
  subst h
  exact ⟨cs,rfl,hr,h1⟩
 | [],_::_,_,_,_,_,_,_,hm,_=>by simp at hm
 | _::_,[],_,_,_,_,_,_,hm,_=>by simp at hm
 | (i,v)::ps,(j,c)::cps,cells,cs,out,h,hr,h1,hm,hv=>by
  simp only [List.map_cons,List.cons.injEq] at hm
  obtain ⟨rfl,hm⟩:=hm
  simp only [List.map_cons,rLs] at hv
  simp only [fillA] at h
  split at h
  case h_2=>cases h
  rename_i off size us hp hc
  split at h
  case isFalse=>cases h
  rename_i hcond
  obtain ⟨g1,g2⟩:=cells_rel hc hv.1
  have hl:=relList_length g1
  have hl2:=relList_length hr
  have hsz:us.length=c.cells.size:=by simpa using hl
  have hsz2:cells.length=cs.size:=by simpa using hl2
  have hfold:(c.cells.zipIdx.foldl (fun cs (x:Value × Nat)=>cs.setIfInBounds (off+x.2) x.1) cs) =
    (cs.toList.take off++c.cells.toList++cs.toList.drop (off+c.cells.toList.length)).toArray:=by
   rw [←Array.foldl_toList,Array.toList_zipIdx]
   have:=foldl_set cs c.cells.toList off 0 cs (by simp; omega)
   simpa using this
  simp only [Instr.fill,hp]
  rw [if_neg (by simp; omega)]
  refine fillA_rel (cells:=cells.take off++us++cells.drop (off+us.length)) h ?_ ?_ hm hv.2
  ·rw [hfold]
   simp only []
   refine relList_append (relList_append (relList_take off hr) g1) ?_
   rw [hl]
   exact relList_drop _ hr
  ·rw [hfold]
   intro x hx
   simp only [List.mem_append] at hx
   rcases hx with (hx | hx) | hx
   ·exact h1 x (List.mem_of_mem_take hx)
   ·exact g2 x hx
   ·exact h1 x (List.mem_of_mem_drop hx)
def placesK (P:Program) (t:TypeId):Option (List (Nat × Nat)) :=
 match P.underlying t with
 | some (.struct fs)=>fs.toList.mapM fun fd=>(varK P fd.type).map fun p=>(fd.offset,p.1)
 | _=>none
theorem zeroK_some {P:Program} {t:TypeId} {z:List Value} (h:zeroK P t=some z) :
  ∃ i v,P.info? t=some i∧i.zero=some v∧v.cells.toList=z∧∀ x∈z,one1 x=true:=by
 unfold zeroK at h
 split at h
 ·rename_i i hi
  split at h
  ·rename_i v hv
   split at h
   ·rename_i hz
    cases h
    exact ⟨i,v,hi,hv,rfl,List.all_eq_true.1 hz⟩
   ·cases h
  ·cases h
 ·cases h
theorem run_zeroValue {P:Program} {t:TypeId} {i:TypeInfo} {v:Value} (hi:P.info? t=some i) (hz:i.zero=some v) (w:World):(zeroValue t).run P w=.ok v w:=by
 simp [zeroValue,typeInfo,hi,hz]
theorem mapM_places {P:Program} {w:World}:∀ (fs:List Field) (pl:List (Nat × Nat)),(fs.mapM fun fd=>(varK P fd.type).map fun p=>(fd.offset,p.1))=some pl →
  (fs.mapM fun (f:Field)=>(do pure (f.offset,←sizeOf f.type):Sem (Nat × Nat))).run P w=.ok pl w
 | [],pl,h=>by simp at h; subst h; simp
 | f::fs,pl,h=>by
  simp only [List.mapM_cons,Option.bind_eq_bind,Option.pure_def,Option.bind_eq_some_iff,Option.map_eq_some_iff] at h
  obtain ⟨x,⟨⟨n,a⟩,h1,rfl⟩,l,h2,h3⟩:=h
  cases h3
  obtain ⟨i,d,g1,g2,g3,g4⟩:=varK_some h1
  have:=mapM_places (w:=w) fs l h2
  simp only [List.mapM_cons,Sem.run_bind,Sem.run_sizeOf g1,Result.andThen_ok,Sem.run_pure,g3]
  rw [this]
  rfl
def buildA (P:Program) (t:TypeId) (parts:List (Nat × AV)):Option AV :=
 match zeroK P t with
 | some z=>match placesK P t with
  | some pl=>(fillA (fun i=>pl[i]?) (z.map .lit) parts).map .agg
  | none=>match kindK P t with
   | .array _ _ sz _=>(fillA (fun i=>some (i*sz,sz)) (z.map .lit) parts).map .agg
   | _=>none
 | none=>none
theorem run_buildA {P:Program} {E:Env} {t:TypeId} {parts:List (Nat × AV)} {cparts:List (Nat × Value)} {v:AV} (h:buildA P t parts=some v)
  (hm:parts.map (·.1)=cparts.map (·.1)) (hv:rLs E (parts.map (·.2)) (cparts.map (·.2))) :
  ∃ u,(Instr.build t cparts.toArray).run P E.w=.ok u E.w∧rel E v u:=by
 unfold buildA at h
 split at h
 case h_2=>cases h
 rename_i z hz
 obtain ⟨i,zv,z1,z2,z3,z4⟩:=zeroK_some hz
 split at h
 ·rename_i pl hpl
  unfold placesK at hpl
  split at hpl
  case h_2=>cases hpl
  rename_i fs hu
  simp only [Option.map_eq_some_iff] at h
  obtain ⟨out,ho,rfl⟩:=h
  obtain ⟨o,g1,g2,g3⟩:=fillA_rel (cs:=zv.cells) ho (by rw [z3]; exact relList_lits z) (by rw [z3]; exact z4) hm hv
  refine ⟨.agg o,?_,by simp only [rel]; exact ⟨o,rfl,g3,g2⟩⟩
  have hmp:(fs.mapM fun (f:Field)=>(do pure (f.offset,←sizeOf f.type):Sem (Nat × Nat))).run P E.w=.ok pl.toArray E.w:=by
   have:=mapM_places (w:=E.w) fs.toList pl hpl
   rw [Array.mapM_eq_mapM_toList,Sem.run_map,this]
   rfl
  simp only [Instr.build,Sem.run_bind,run_zeroValue z1 z2,Result.andThen_ok,Sem.run_underlying_some hu]
  rw [hmp]
  simp only [Result.andThen_ok]
  have e:(fun (x:Nat)=>(pl.toArray)[x]?)=fun (i:Nat)=>pl[i]? := by funext i; simp
  rw [e,g1]
  rfl
 ·split at h
  case h_2=>cases h
  rename_i n e sz ag hk
  obtain ⟨hu,hvk⟩:=kind_array hk
  obtain ⟨ie,de,q1,q2,q3,q4⟩:=varK_some hvk
  simp only [Option.map_eq_some_iff] at h
  obtain ⟨out,ho,rfl⟩:=h
  obtain ⟨o,g1,g2,g3⟩:=fillA_rel (cs:=zv.cells) ho (by rw [z3]; exact relList_lits z) (by rw [z3]; exact z4) hm hv
  refine ⟨.agg o,?_,by simp only [rel]; exact ⟨o,rfl,g3,g2⟩⟩
  simp only [Instr.build,Sem.run_bind,run_zeroValue z1 z2,Result.andThen_ok,Sem.run_underlying_some hu,Sem.run_sizeOf q1,q3,g1]
  rfl
def chunk (sz:Nat):Nat→List AV→List (List AV)
 | 0,_=>[]
 | n+1,l=>l.take sz::chunk sz n (l.drop sz)
theorem chunk_length (sz:Nat):∀ (n:Nat) (l:List AV),(chunk sz n l).length=n
 | 0,_=>rfl
 | n+1,l=>by simp [chunk,chunk_length sz n]
theorem closed_chunk (sz:Nat):∀ (n:Nat) (l:List AV),AV.closedL l=true→closedRows (chunk sz n l)
 | 0,_,_=>by intro r hr; simp [chunk] at hr
 | n+1,l,h=>by
  intro r hr
  simp only [chunk,List.mem_cons] at hr
  rcases hr with rfl | hr
  ·exact closedL_take _ _ h
  ·exact closed_chunk sz n _ (closedL_drop _ _ h) r hr
theorem relRows_chunk {E:Env} (sz:Nat):∀ (n:Nat) (l:List AV) (b o:Nat),l.length=n*sz→relCells E l b o→relRows E sz (chunk sz n l) b o
 | 0,_,_,_,_,_=>by simp [chunk,relRows]
 | n+1,l,b,o,hl,h=>by
  simp only [chunk,relRows]
  have:sz≤l.length:=by rw [hl,Nat.add_mul]; omega
  refine ⟨by simp; omega,relCells_take h sz,relRows_chunk sz n _ b (o+sz) (by simp [hl,Nat.add_mul]) (relCells_drop h sz)⟩
theorem relCells_block {E:Env} {as:List AV} {cs:Array Value} {b:Nat} {el:TypeId} {fr:Nat × Nat} (hb:E.w.heap[b]? = some (.cells cs el fr)) (hr:rLs E as cs.toList)
  (h1:∀ x∈cs.toList,one1 x=true):relCells E as b 0:=by
 rw [relCells_iff]
 intro i a hi
 obtain ⟨v,g1,g2⟩:=relList_get hr hi
 refine ⟨v,?_,h1 v (List.mem_of_getElem? g1),g2⟩
 simp only [Nat.zero_add,World.cell?,hb]
 simpa using g1
end Go.AL

namespace Go.AL
open Go
variable [Dr]
theorem one1_eq (v:Value):v.oneCell'=one1 v:=by cases v<;>rfl
theorem setRow_size (w:World) (g:Nat) (cs:Array Value):(w.setRow g cs).heap.size=w.heap.size:=by simp [World.setRow]
theorem setRow_other (w:World) (g:Nat) (cs:Array Value) (x:Nat) (h:x≠g):(w.setRow g cs).heap[x]? = w.heap[x]? := by
 simp only [World.setRow]
 rw [Array.getElem?_modify]
 split
 ·rename_i e; exact (h e.symm).elim
 ·rfl
structure Src (P:Program) (E:Env) (sz:Nat) (rows:List (List AV)) (xt:TypeId) (x:Value) (news:List Value):Prop where
 len:∀ w,(Builtin.lenOf x).run P w=.ok rows.length w
 cells:∀ w,(∀ b o,b<E.w.heap.size→w.cell? ⟨b,o,none⟩=E.w.cell? ⟨b,o,none⟩)→(Builtin.firstCells sz rows.length x).run P w=.ok news.toArray w
 rel:rLs E rows.flatten news
 one:∀ v∈news,one1 v=true
 wide:∀ r∈rows,r.length=sz
 closed:closedRows rows
 kind:∃ d,P.underlying xt=some d∧∀ k,d≠.int k
theorem Src.length {P:Program} {E:Env} {sz:Nat} {rows:List (List AV)} {xt:TypeId} {x:Value} {news:List Value} (h:Src P E sz rows xt x news):news.length=rows.length*sz:=by
 rw [←relList_length h.rel]
 have:∀ (l:List (List AV)),(∀ r∈l,r.length=sz)→l.flatten.length=l.length*sz:=by
  intro l hl
  induction l with
  | nil=>simp
  | cons a l ih=>simp [ih (fun r hr=>hl r (by simp [hr])),hl a (by simp),Nat.add_mul,Nat.add_comm]
 exact this rows h.wide
theorem relRows_flat {E:Env} {k:Nat}:∀ {rows:List (List AV)} {b o:Nat},relRows E k rows b o→relCells E rows.flatten b o
 | [],_,_,_=>by simp [relCells]
 | r::rows,b,o,h=>by
  simp only [relRows] at h
  obtain ⟨h1,h2,h3⟩:=h
  have ih:=relRows_flat h3
  rw [relCells_iff] at *
  intro i a hi
  simp only [List.flatten_cons,List.getElem?_append] at hi
  split at hi
  ·exact h2 i a hi
  ·rename_i hlt
   obtain ⟨v,g1,g2,g3⟩:=ih (i-r.length) a hi
   refine ⟨v,?_,g2,g3⟩
   rw [←g1]
   congr 2
   omega
theorem flat_relRows {E:Env} {k:Nat}:∀ {rows:List (List AV)} {b o:Nat},(∀ r∈rows,r.length=k)→relCells E rows.flatten b o→relRows E k rows b o
 | [],_,_,_,_=>by simp [relRows]
 | r::rows,b,o,hk,h=>by
  simp only [relRows]
  have hr:=hk r (by simp)
  refine ⟨hr,?_,?_⟩
  ·have := relCells_take h r.length
   simpa using this
  ·have := relCells_drop h r.length
   simp at this
   rw [hr] at this
   exact flat_relRows (fun x hx=>hk x (by simp [hx])) this
def rowsA (sz:Nat) (x:AV) (H:List AObj):Option (List (List AV)) :=
 match x with
 | .nils | .lit (.slice none 0 0)=>some []
 | .emptyS _=>some []
 | .list w rows=>if w=sz then some rows else none
 | .listF ks rows=>if ks.length=sz then some (rows.map (gCells ks)) else none
 | .vec w id ver off n=>match H[id]? with
  | some (.vec k v rows)=>if w=sz∧k=w∧v=ver∧off+n≤rows.length then some ((rows.drop off).take n) else none
  | _=>none
 | .lit (.string s)=>if sz=1 then some (s.data.toList.map fun b=>[.lit (.int .u8 b.toNat)]) else none
 | _=>none
theorem flatten_one {α β:Type} (f:α→β):∀ (l:List α),(l.map fun b=>[f b]).flatten=l.map f
 | []=>rfl
 | a::l=>by simp [flatten_one f l]
theorem cells_src {P:Program} {E:Env} {sz:Nat} {rows:List (List AV)} {b o cap:Nat} (hr:relRows E sz rows b o) (hb:b<E.w.heap.size) :
  ∃ news,rLs E rows.flatten news∧(∀ v∈news,one1 v=true) ∧
   ∀ w,(∀ b o,b<E.w.heap.size→w.cell? ⟨b,o,none⟩=E.w.cell? ⟨b,o,none⟩)→(Builtin.firstCells sz rows.length (.slice (some ⟨b,o,none⟩) rows.length cap)).run P w=.ok news.toArray w:=by
 obtain ⟨vs,g1,g2,g3⟩:=relCells_values (relRows_flat hr)
 refine ⟨vs,g1,g2,fun w hw=>?_⟩
 refine run_firstCells_some (P:=P) w sz rows.length ⟨b,o,none⟩ rows.length cap vs ?_ ?_
 ·rw [← relList_length g1]
  have:∀ (l:List (List AV)) (o:Nat),relRows E sz l b o→l.flatten.length=l.length*sz:=by
   intro l
   induction l with
   | nil=>intros; simp
   | cons a l ih =>
    intro o h
    simp only [relRows] at h
    simp [ih _ h.2.2,h.1,Nat.add_mul,Nat.add_comm]
  exact this rows o hr
 ·intro j v hj
  rw [addr_add,hw b _ hb]
  exact g3 j v hj
theorem rowsA_src {P:Program} {E:Env} (HE:HRel E) {sz:Nat} {x:AV} {c:Value} {rows:List (List AV)} {xt:TypeId} (h:rowsA sz x E.H=some rows) (hr:rel E x c)
  (hk:∃ d,P.underlying xt=some d∧∀ k,d≠.int k):∃ news,Src P E sz rows xt c news:=by
 unfold rowsA at h
 split at h
 ·cases h
  simp only [rel] at hr
  obtain ⟨base,rfl⟩:=hr
  refine ⟨[],⟨fun w=>rfl,fun w _=>?_,by simp [rLs],by simp,by simp,(by intro r hr; cases hr),hk⟩⟩
  cases base<;>simp [Builtin.firstCells,loadCells,loadCellsFrom]
 ·cases h
  simp only [rel] at hr
  subst hr
  exact ⟨[],⟨fun w=>rfl,fun w _=>by simp [Builtin.firstCells],by simp [rLs],by simp,by simp,(by intro r hr; cases hr),hk⟩⟩
 ·cases h
  simp only [rel] at hr
  obtain ⟨base,cap,rfl,_⟩:=hr
  refine ⟨[],⟨fun w=>rfl,fun w _=>?_,by simp [rLs],by simp,by simp,(by intro r hr; cases hr),hk⟩⟩
  cases base<;>simp [Builtin.firstCells,loadCells,loadCellsFrom]
 ·rename_i w rows'
  split at h
  case isFalse=>cases h
  rename_i hw
  subst hw
  cases h
  simp only [rel] at hr
  obtain ⟨hcl,base,cap,rfl,hle,hh⟩:=hr
  rcases hh with rfl | ⟨b,o,rfl,hok,hrows⟩
  ·refine ⟨[], ⟨fun w => rfl, fun w _ => ?_, by simp [rLs], by simp, by simp, (by intro r hr; cases hr), hk⟩⟩
   cases base<;>simp [Builtin.firstCells,loadCells,loadCellsFrom]
  ·obtain ⟨news, g1, g2, g3⟩ := cells_src (P := P) (cap := cap) hrows hok.1
   exact ⟨news,⟨fun w=>rfl,g3,g1,g2,fun r hr=>by
    obtain ⟨i,hi⟩:=List.getElem?_of_mem hr
    exact (relRows_get hrows hi).1,hcl,hk⟩⟩
 ·rename_i ks rows0
  split at h
  case isFalse=>cases h
  rename_i hw
  subst hw
  cases h
  have hr:=rel_listF.1 hr
  generalize rows0.map (gCells ks)=rows at hr
  simp only [rel] at hr
  obtain ⟨hcl,base,cap,rfl,hle,hh⟩:=hr
  rcases hh with rfl | ⟨b,o,rfl,hok,hrows⟩
  ·refine ⟨[], ⟨fun w => rfl, fun w _ => ?_, by simp [rLs], by simp, by simp, (by intro r hr; cases hr), hk⟩⟩
   cases base<;>simp [Builtin.firstCells,loadCells,loadCellsFrom]
  ·obtain ⟨news, g1, g2, g3⟩ := cells_src (P := P) (cap := cap) hrows hok.1
   exact ⟨news,⟨fun w=>rfl,g3,g1,g2,fun r hr=>by
    obtain ⟨i,hi⟩:=List.getElem?_of_mem hr
    exact (relRows_get hrows hi).1,hcl,hk⟩⟩
 ·rename_i w id ver off n
  split at h
  case h_2=>cases h
  rename_i k v rows' hid
  split at h
  case isFalse=>cases h
  rename_i hc
  obtain ⟨rfl,rfl,rfl,hle⟩:=hc
  cases h
  simp only [rel] at hr
  obtain ⟨⟨base,cap,rfl,hcap,_⟩,_,h6⟩:=hr
  obtain ⟨q1,q2⟩:=h6 ⟨_,hid,rfl⟩
  have hn:((rows'.drop off).take n).length=n:=by simp; omega
  rcases HE.obj id _ hid with ⟨e1,e2⟩ | ⟨b,m,e1,e2,e3,e4,e5⟩
  ·obtain ⟨rfl, rfl, base', e⟩ := q1 e1
   subst e2
   refine ⟨[],⟨fun w=>by rw [hn]; rfl,fun w _=>?_,by simp [rLs],by simp,by simp,(by intro r hr; simp at hr),hk⟩⟩
   cases base<;>simp [Builtin.firstCells,loadCells,loadCellsFrom]
  ·obtain ⟨p1, o, p2, p3⟩ := q2 b m e1
   simp only [Value.slice.injEq] at p3
   obtain ⟨rfl,_,rfl⟩:=p3
   by_cases hm:off<m
   ·rw [p2 hm]
    have hsl:=relRows_slice e5 off n
    simp only [Nat.zero_add] at hsl
    obtain ⟨news,g1,g2,g3⟩:=cells_src (P:=P) (cap:=m-off) hsl (HE.lt id b m e1).1
    rw [hn] at g3
    refine ⟨news,⟨fun w=>by rw [hn]; rfl,by rw [hn]; exact g3,g1,g2,fun r hr=>?_,fun r hr=>e4 r (List.mem_of_mem_drop (List.mem_of_mem_take hr)),hk⟩⟩
    obtain ⟨i,hi⟩:=List.getElem?_of_mem hr
    exact (relRows_get hsl hi).1
   ·have hz : n = 0 := by omega
    subst hz
    refine ⟨[],⟨fun w=>by rw [hn]; rfl,fun w _=>?_,by simp [rLs],by simp,by simp,(by intro r hr; simp at hr),hk⟩⟩
    simp [Builtin.firstCells,loadCells,loadCellsFrom]
 ·rename_i s
  split at h
  case isFalse=>cases h
  rename_i hs
  subst hs
  cases h
  simp only [rel] at hr
  subst hr
  refine ⟨s.data.toList.map fun b=>.int .u8 b.toNat,⟨fun w=>by simp [Builtin.lenOf],fun w _=>?_,?_,?_,?_,?_,hk⟩⟩
  ·simp only [List.length_map, Array.length_toList, Builtin.firstCells]
   have:s.extract 0 s.data.size=s:=by
    have:=ByteArray.extract_zero_size (b:=s)
    exact this
   rw [this,←Array.toList_map]
   rfl
  ·rw [flatten_one]
   have:=relList_lits (E:=E) (s.data.toList.map fun b=>.int .u8 b.toNat)
   rw [List.map_map] at this
   exact this
  ·intro v hv; simp at hv; obtain ⟨b,_,rfl⟩:=hv; rfl
  ·intro r hr; simp at hr; obtain ⟨b,_,rfl⟩:=hr; rfl
  ·intro r hr; simp at hr; obtain ⟨b,_,rfl⟩:=hr; simp [AV.closedL,AV.closed]
 ·cases h
def appendA (P:Program) (t xt:TypeId) (s x:AV) (H:List AObj):Option (AV × List AObj) :=
 match kindK P t with
 | .slice e sz by_ =>
  match zeroK P e,(match kindK P xt with | .slice _ _ _ | .str=>true | _=>false),rowsA sz x H with
  | some z,true,some new =>
   if z.length=sz∧new.length≤1048576∧by_≤1048576 then
    match s with
    | .nils | .lit (.slice none 0 0)=>some (.vec sz H.length 0 0 new.length,H++[.vec sz 0 new])
    | .vec w id ver off n=>match H[id]? with
     | some (.vec k v rows) =>
      if k=w∧w=sz∧v=ver∧off=0∧n=rows.length∧rows.length+new.length≤1048576 then
       some (.vec w id (ver+1) 0 (n+new.length),H.set id (.vec k (ver+1) (rows++new)))
      else none
     | _=>none
    | _=>none
   else none
  | _,_,_=>none
 | _=>none
theorem run_append_base {P:Program} {w w':World} {t xt ty e:TypeId} {i:TypeInfo} {sz:Nat} {base:Option Addr} {n cap m:Nat} {x:Value} {d:TypeDesc}
  (ht:P.underlying t=some (.slice e)) (hx:P.underlying xt=some d) (_hd:∀ k,d≠.int k) (hi:P.info? e=some i) (hs:i.size=sz)
  (hl:(Builtin.lenOf x).run P w=.ok m w) (hfit:n+m≤cap) {news:List Value} (hn:(Builtin.firstCells sz m x).run P w=.ok news.toArray w)
  (hst:(match base with | some a=>storeCells (a.add (n*sz)) news | none=>(pure ():Sem Unit)).run P w=.ok () w') :
  (Builtin.append_ #[t,xt] ty #[.slice base n cap,x]).run P w=.ok (.slice base (n+m) cap) w':=by
 cases base with
 | none =>
  simp at hst
  subst hst
  simp [Builtin.append_,run_underlying ht,run_underlying hx,sizeOf,typeInfo,hi,hs,hl,hfit,hn]
 | some a =>
  simp only [] at hst
  simp [Builtin.append_,run_underlying ht,run_underlying hx,sizeOf,typeInfo,hi,hs,hl,hfit,hn,hst]
theorem run_append_more {P:Program} {w:World} {t xt ty e:TypeId} {i:TypeInfo} {z:Value} {sz:Nat} {base:Option Addr} {n cap m:Nat} {x:Value} {d:TypeDesc}
  (ht:P.underlying t=some (.slice e)) (hx:P.underlying xt=some d) (hd:∀ k,d≠.int k) (hi:P.info? e=some i) (hs:i.size=sz) (hz:i.zero=some z)
  (hl:(Builtin.lenOf x).run P w=.ok m w) (hfit:cap<n+m) {olds news:List Value}
  (ho:(Builtin.firstCells sz n (.slice base n cap)).run P w.drew=.ok olds.toArray w.drew)
  (hn:(Builtin.firstCells sz m x).run P w.drew=.ok news.toArray w.drew)
  (h63:n+m≤1048576) (hb:i.bytes≤1048576) :
  ∃ C,n+m≤C∧(Builtin.append_ #[t,xt] ty #[.slice base n cap,x]).run P w =
   .ok (.slice (some ⟨w.heap.size,0,none⟩) (n+m) C) (w.drew.alloc (.cells (olds++news++(Builtin.zeroCells z.cells (C-(n+m))).toList).toArray e)):=by
 have h1:¬ (n+m≤cap):=by omega
 have h2:¬ (9223372036854775807<((n:Int)+(m:Int))):=by omega
 have h3:Builtin.nextslicecap (n+m) cap*i.bytes≤281474976710656:=growslice_fits hfit (by
  have:=Nat.mul_le_mul h63 hb
  omega)
 have h4:¬ (281474976710656<Builtin.nextslicecap (n+m) cap*i.bytes):=by omega
 refine ⟨grownCap w (n+m) cap e,?_,?_⟩
 ·simp [grownCap,Question.cut]
 ·simp [Builtin.append_, run_underlying ht, run_underlying hx, sizeOf, typeInfo, zeroValue, hi, hz, hs, hl, h1, h2, h4, Question.forced, hn, ho, newRow, grownCap]
  congr 2
  apply Array.ext'
  simp
def OpPost (E:Env) (v:AV) (H':List AObj) (u:Value) (w':World):Prop :=
 ∃ loc' r',rel { w:=w',H:=H',loc:=loc',X:=E.X.re r' } v u∧HRel { w:=w',H:=H',loc:=loc',X:=E.X.re r' }∧E.le { w:=w',H:=H',loc:=loc',X:=E.X.re r' }
theorem relCells_prefix {E:Env} {as:List AV} {cs:Array Value} {vs tl:List Value} {b:Nat} {el:TypeId} {fr:Nat × Nat} (hb:E.w.heap[b]? = some (.cells cs el fr)) (hr:rLs E as vs)
  (hc:cs.toList=vs++tl) (h1:∀ x∈vs,one1 x=true):relCells E as b 0:=by
 rw [relCells_iff]
 intro i a hi
 obtain ⟨v,g1,g2⟩:=relList_get hr hi
 refine ⟨v,?_,h1 v (List.mem_of_getElem? g1),g2⟩
 simp only [Nat.zero_add,World.cell?,hb]
 have:cs.toList[i]? = some v:=by rw [hc,List.getElem?_append_left (lt_of_getElem? g1)]; exact g1
 simpa using this
theorem relCells_cur {E:Env} {as:List AV} {cs:Array Value} {b:Nat} {el:TypeId} {fr:Nat × Nat} (hb:E.w.heap[b]? = some (.cells cs el fr)) (hr:relCells E as b 0) :
  rLs E as (cs.toList.take as.length)∧(∀ x∈cs.toList.take as.length,one1 x=true)∧as.length≤cs.size:=by
 obtain ⟨vs,g1,g2,g3⟩:=relCells_values hr
 have hl:=relList_length g1
 have hget:∀ (j:Nat) v,vs[j]? = some v→cs.toList[j]? = some v:=by
  intro j v hj
  have:=g3 j v hj
  simpa [World.cell?,hb] using this
 have hsz:vs.length≤cs.size:=by
  rcases Nat.eq_zero_or_pos vs.length with h | h
  ·omega
  ·have := hget (vs.length - 1) vs[vs.length - 1] (List.getElem?_eq_getElem (by omega))
   have:=lt_of_getElem? this
   simp at this
   omega
 have:cs.toList.take as.length=vs:=by
  rw [hl]
  apply List.ext_getElem?
  intro j
  rw [List.getElem?_take]
  split
  ·rename_i hj
   rw [hget j vs[j] (List.getElem?_eq_getElem hj),List.getElem?_eq_getElem hj]
  ·rename_i hj
   rw [List.getElem?_eq_none (by omega)]
 rw [this]
 exact ⟨g1,g2,by omega⟩
theorem flatten_length {sz:Nat}:∀ {l:List (List AV)},(∀ r∈l,r.length=sz)→l.flatten.length=l.length*sz
 | [],_=>by simp
 | a::l,h=>by simp [flatten_length (l:=l) (fun r hr=>h r (by simp [hr])),h a (by simp),Nat.add_mul,Nat.add_comm]
theorem rows_wide {E:Env} {k:Nat} {rows:List (List AV)} {b o:Nat} (h:relRows E k rows b o):∀ r∈rows,r.length=k:=by
 intro r hr
 obtain ⟨i,hi⟩:=List.getElem?_of_mem hr
 exact (relRows_get h hi).1
theorem ext_drew_alloc (w:World) (o:Obj):Ext w (w.drew.alloc o) :=
 ⟨by show w.heap.size ≤ (w.heap.push o).size; simp, fun b hb => by
  show (w.heap.push o)[b]? = _
  simp [Array.getElem?_push,Nat.ne_of_lt hb],⟨rfl,rfl,rfl,by first | exact fun _=>Nat.le_refl _ | exact fun _=>Nat.le_add_right _ _⟩⟩
theorem heap_drew_alloc (w:World) (o:Obj):(w.drew.alloc o).heap[w.heap.size]? = some o:=by
 show (w.heap.push o)[w.heap.size]? = _
 simp
theorem row_made {E E':Env} {sz m C:Nat} {rows:List (List AV)} {vals:List Value} {rest:List Value} {b:Nat} {e:TypeId} (hv:∀ a c,rel E a c→rel E' a c)
  (hb:E'.w.heap[b]? = some (.cells (vals++rest).toArray e (0,0))) (hr:rLs E rows.flatten vals) (h1:∀ x∈vals,one1 x=true)
  (hw:∀ r∈rows,r.length=sz) (hlen:rows.length=m) (hC:m≤C) (hrest:rest.length=(C-m)*sz) :
  isRow E'.w b (C*sz)∧relRows E' sz rows b 0:=by
 have hr':rLs E' rows.flatten vals:=by
  rw [relList_iff] at *
  exact ⟨hr.1,fun i a v ha hv'=>hv a v (hr.2 i a v ha hv')⟩
 refine ⟨⟨_,e,hb,?_⟩,flat_relRows hw (relCells_prefix hb hr' (by simp; rfl) h1)⟩
 have:=relList_length hr
 rw [flatten_length hw,hlen] at this
 simp only [List.size_toArray,List.length_append,←this,hrest,←Nat.add_mul]
 congr 1
 omega
theorem zero_cells {P:Program} {e:TypeId} {z:List Value} (h:zeroK P e=some z):∃ i v,P.info? e=some i∧i.zero=some v∧v.cells.toList=z :=
 let ⟨i,v,h1,h2,h3,_⟩:=zeroK_some h
 ⟨i,v,h1,h2,h3⟩
theorem append_new {E:Env} (HE:HRel E) {sz C m:Nat} {new:List (List AV)} {vals rest:List Value} {e:TypeId} (hr:rLs E new.flatten vals) (h1:∀ x∈vals,one1 x=true)
  (hw:∀ r∈new,r.length=sz) (hcl:closedRows new) (hm:new.length=m) (hC:m≤C) (hrest:rest.length=(C-m)*sz) :
  OpPost E (.vec sz E.H.length 0 0 m) (E.H++[.vec sz 0 new]) (.slice (some ⟨E.w.heap.size,0,none⟩) m C) (E.w.drew.alloc (.cells (vals++rest).toArray e)):=by
 have hext:=ext_drew_alloc E.w (.cells (vals++rest).toArray e)
 have hle:=Env.le_push (o:=.vec sz 0 new) (l:=some (E.w.heap.size,C)) HE.len hext (fun b n hb=>by cases hb; exact Nat.le_refl _)
 have hblk:=heap_drew_alloc E.w (.cells (vals++rest).toArray e)
 have hrow:=row_made (E':=E.push (E.w.drew.alloc (.cells (vals++rest).toArray e)) (.vec sz 0 new) (some (E.w.heap.size,C))) (fun a c hr=>rel_le hle a hr) hblk hr h1 hw hm hC hrest
 refine ⟨E.loc++[some (E.w.heap.size,C)],E.X.r,?_,HRel.push HE hext (fun b n hb=>?_) ?_,hle⟩
 ·simp only [rel]
  refine ⟨⟨_,_,rfl,hC,fun _=>⟨_,_,rfl⟩⟩,⟨.vec sz 0 new,by simp,fun v hv=>by simp [AObj.ver?] at hv; omega⟩,fun _=>⟨fun hn=>?_,fun b M hn=>?_⟩⟩
  ·rw [←HE.len] at hn; simp at hn
  ·rw [← HE.len] at hn
   simp at hn
   obtain ⟨rfl,rfl⟩:=hn
   exact ⟨by omega,0,fun _=>by simp,by simp⟩
 ·cases hb
  exact ⟨Nat.le_refl _,by show _<(E.w.heap.push _).size; simp⟩
 ·simp only [objRel]
  right
  refine ⟨E.w.heap.size,C,?_,hrow.1,by omega,hcl,hrow.2⟩
  simp only [Env.push]
  rw [←HE.len]
  simp
theorem append_none {E:Env} (HE:HRel E) {sz:Nat} (base:Option Addr) :
  OpPost E (.vec sz E.H.length 0 0 0) (E.H++[.vec sz 0 []]) (.slice base 0 0) E.w:=by
 have hle:=Env.le_push (o:=.vec sz 0 []) (l:=none) HE.len (Ext.refl E.w) (fun b n hb=>by cases hb)
 refine ⟨E.loc++[none],E.X.r,?_,HRel.push HE (Ext.refl _) (fun b n hb=>by cases hb) ?_,hle⟩
 ·simp only [rel]
  refine ⟨⟨_,_,rfl,Nat.le_refl _,fun h=>by omega⟩,⟨.vec sz 0 [],by simp,fun v hv=>by simp [AObj.ver?] at hv; omega⟩,fun _=>⟨fun _=>⟨trivial,trivial,base,rfl⟩,fun b M hn=>?_⟩⟩
  rw [←HE.len] at hn
  simp at hn
 ·simp only [objRel]
  left
  refine ⟨?_,trivial⟩
  simp only [Env.push]
  rw [←HE.len]
  simp
theorem storeCells_nil (P:Program) (a:Addr) (w:World):(storeCells a []).run P w=.ok () w:=rfl
theorem src_nil {P:Program} {E:Env} {sz:Nat} {rows:List (List AV)} {xt:TypeId} {x:Value} {news:List Value} (h:Src P E sz rows xt x news) (hr:rows=[]):news=[]:=by
 have:=h.length
 rw [hr] at this
 simp at this
 exact this
theorem appendA_nil_sound {P:Program} {E:Env} (HE:HRel E) {t xt ty e:TypeId} {sz by_:Nat} {z:List Value} {new:List (List AV)} {base:Option Addr} {cx:Value} {news:List Value}
  (hk:kindK P t=.slice e sz by_) (hz:zeroK P e=some z) (hsrc:Src P E sz new xt cx news) (hb1:new.length≤1048576) (hb2:by_≤1048576) (hzl:z.length=sz) :
  ∃ u w',(Builtin.append_ #[t,xt] ty #[.slice base 0 0,cx]).run P E.w=.ok u w'∧OpPost E (.vec sz E.H.length 0 0 new.length) (E.H++[.vec sz 0 new]) u w':=by
 obtain ⟨hu,i,hi,hs,hby⟩:=kind_slice hk
 obtain ⟨i',zv,hi',hz1,hz2⟩:=zero_cells hz
 rw [hi] at hi'
 cases hi'
 obtain ⟨d,hd1,hd2⟩:=hsrc.kind
 cases hnew:new with
 | nil =>
  have hn:=src_nil hsrc hnew
  subst hn
  subst hnew
  refine ⟨.slice base (0+0) 0,E.w,run_append_base (m:=0) hu hd1 hd2 hi hs (hsrc.len E.w) (Nat.le_refl _) (hsrc.cells E.w (fun _ _ _=>rfl)) ?_,append_none HE base⟩
  cases base with
  | none=>rfl
  | some a=>exact storeCells_nil P _ _
 | cons r rs =>
  rw [←hnew]
  have hpos:0<new.length:=by rw [hnew]; simp
  have hcells:∀ b o,b<E.w.heap.size→E.w.drew.cell? ⟨b,o,none⟩=E.w.cell? ⟨b,o,none⟩:=fun _ _ _=>rfl
  obtain ⟨C,hC,hrun⟩:=run_append_more (P:=P) (w:=E.w) (ty:=ty) (base:=base) (n:=0) (cap:=0) (m:=new.length) (x:=cx) (olds:=[]) hu hd1 hd2 hi hs hz1 (hsrc.len E.w) (by omega)
   (by cases base<;>simp [Builtin.firstCells,loadCells,loadCellsFrom]) (hsrc.cells _ hcells) (by omega) (by omega)
  simp only [Nat.zero_add,List.nil_append] at hrun
  refine ⟨_,_,hrun,append_new HE hsrc.rel hsrc.one hsrc.wide hsrc.closed rfl (by omega) ?_⟩
  simp only [Array.length_toList,size_zeroCells]
  rw [←hzl,←hz2]
  simp
theorem kindSeq {P:Program} {xt:TypeId} (h:(match kindK P xt with | .slice _ _ _ | .str=>true | _=>false)=true):∃ d,P.underlying xt=some d∧∀ k,d≠.int k:=by
 split at h
 ·rename_i hk
  exact ⟨_,(kind_slice hk).1,by simp⟩
 ·rename_i hk
  exact ⟨_,kind_str hk,by simp⟩
 ·cases h
theorem set_same {α:Type} {l:List α} {i:Nat} {x:α} (h:l[i]? = some x):l.set i x=l:=by
 apply List.ext_getElem?
 intro j
 rw [List.getElem?_set]
 split
 ·rename_i e
  subst e
  rw [h]
  split
  ·rfl
  ·rename_i hh; exact (hh (lt_of_getElem? h)).elim
 ·rfl
theorem appendA_vec_sound {P:Program} {E:Env} (HE:HRel E) {t xt ty e id ver:TypeId} {sz by_:Nat} {z:List Value} {rows new:List (List AV)} {c cx:Value} {news:List Value}
  (hk:kindK P t=.slice e sz by_) (hz:zeroK P e=some z) (hsrc:Src P E sz new xt cx news) (hb1:rows.length+new.length≤1048576) (hb2:by_≤1048576) (hzl:z.length=sz)
  (hid:E.H[id]? = some (.vec sz ver rows)) (hr:rel E (.vec sz id ver 0 rows.length) c) :
  ∃ u w',(Builtin.append_ #[t,xt] ty #[c,cx]).run P E.w=.ok u w' ∧
   OpPost E (.vec sz id (ver+1) 0 (rows.length+new.length)) (E.H.set id (.vec sz (ver+1) (rows++new))) u w':=by
 obtain ⟨hu,i,hi,hs,hby⟩:=kind_slice hk
 obtain ⟨i',zv,hi',hz1,hz2⟩:=zero_cells hz
 rw [hi] at hi'
 cases hi'
 obtain ⟨d,hd1,hd2⟩:=hsrc.kind
 simp only [rel] at hr
 obtain ⟨⟨base,cap,rfl,hcap,hbase⟩,hpast,hlive⟩:=hr
 obtain ⟨q1,q2⟩:=hlive ⟨_,hid,rfl⟩
 have hlt:=lt_of_getElem? hid
 have hverlt:(∀ v,(AObj.vec sz (ver+1) (rows++new)).ver? = some v→∀ u,(AObj.vec sz ver rows).ver? = some u→u<v):=by
  intro v hv u hu; simp [AObj.ver?] at hv hu; omega
 have hup:∀ v u,(AObj.vec sz (ver+1) (rows++new)).ver? = some v→(AObj.vec sz ver rows).ver? = some u→u≤v:=by
  intro v u hv hu; simp [AObj.ver?] at hv hu; omega
 have hdead:(AObj.vec sz ver rows).ver? = none→(AObj.vec sz (ver+1) (rows++new)).ver? = none:=by simp [AObj.ver?]
 have hpast':∀ (w':World) loc',Env.past { w:=w',H:=E.H.set id (.vec sz (ver+1) (rows++new)),loc:=loc',X:=E.X } id (ver+1):=fun w' loc' =>
  ⟨_,List.getElem?_set_self hlt,fun v hv=>by simp [AObj.ver?] at hv; omega⟩
 have hcells:∀ b o,b<E.w.heap.size→E.w.drew.cell? ⟨b,o,none⟩=E.w.cell? ⟨b,o,none⟩:=fun _ _ _=>rfl
 by_cases hfit:rows.length+new.length≤cap
 ·-- in place
  rcases HE.obj id _ hid with ⟨e1,e2⟩ | ⟨b,M,e1,e2,e3,e4,e5⟩
  ·obtain ⟨hn0, _, base', ee⟩ := q1 e1
   simp only [Value.slice.injEq] at ee
   obtain ⟨rfl,_,rfl⟩:=ee
   have hnil:new=[]:=by
    cases new with
    | nil=>rfl
    | cons a l=>simp at hfit
   have hnews:=src_nil hsrc hnil
   subst hnews
   subst hnil
   subst e2
   refine ⟨_,E.w,run_append_base (m:=0) hu hd1 hd2 hi hs (hsrc.len E.w) (Nat.le_refl _) (hsrc.cells E.w (fun _ _ _=>rfl)) ?_,E.loc.set id none,E.X.r,?_,?_,?_⟩
   ·cases base with
    | none=>rfl
    | some a=>exact storeCells_nil P _ _
   ·simp only [rel]
    refine ⟨⟨_,_,rfl,Nat.le_refl _,fun h=>by simp at h⟩,hpast' _ _,fun _=>⟨fun _=>⟨by simp,trivial,base,by simp⟩,fun b M hn=>?_⟩⟩
    rw [List.getElem?_set_self (by rw [HE.len]; exact hlt)] at hn
    cases hn
   ·refine HRel.turn HE hid (Nat.le_refl _) (fun _ _ _ => rfl) (fun _ _ h => by cases h) (.inr hverlt) hup hdead ?_
    simp only [objRel]
    left
    exact ⟨by rw [List.getElem?_set_self (by rw [HE.len]; exact hlt)],by simp⟩
   ·exact Env.le_turn hid HE.len (Nat.le_refl _) (fun _ _ _=>rfl) (fun _ _ h=>by cases h) (.inr hverlt) hup hdead
  ·obtain ⟨_, o, p2, p3⟩ := q2 b M e1
   simp only [Value.slice.injEq,Nat.sub_zero] at p3
   obtain ⟨rfl,_,rfl⟩:=p3
   obtain ⟨cur,el,hblk,hsize⟩:=e2
   have hcurl:=relCells_cur hblk (relRows_flat e5)
   have hwide:=rows_wide e5
   have hflat:=flatten_length hwide
   have hnl:=hsrc.length
   -- the store
   have hstore:∃ w',(storeCells ((Addr.mk b o none).add (rows.length*sz)) news).run P E.w=.ok () w'∧w'.heap.size=E.w.heap.size∧SameOs E.w w'∧(∀ x,x≠b→w'.heap[x]? = E.w.heap[x]?) ∧
     w'.heap[b]? = some (.cells (cur.toList.take (rows.length*sz)++news++cur.toList.drop (rows.length*sz+news.length)).toArray el (0,0)):=by
    by_cases hM:0<cap
    ·rw [p2 hM, addr_add, Nat.zero_mul, Nat.zero_add]
     have hfit2:rows.length*sz+0+news.length≤cur.size:=by
      rw [hnl,hsize,Nat.add_zero,←Nat.add_mul]
      exact Nat.mul_le_mul_right _ hfit
     have hst:=run_storeCells_at P b (rows.length*sz) el news 0 cur E.w hblk hfit2 (fun v hv=>by rw [one1_eq]; exact hsrc.one v hv)
     refine ⟨_,hst,setRow_size _ _ _,⟨rfl,rfl,rfl,by first | exact fun _=>Nat.le_refl _ | exact fun _=>Nat.le_add_right _ _⟩,fun x hx=>setRow_other _ _ _ _ hx,?_⟩
     rw [setRow_heap _ _ _ _ _ _ hblk]
     simp
    ·have h0 : cap = 0 := by omega
     have hn0:new=[]:=by
      cases new with
      | nil=>rfl
      | cons a l=>simp at hfit; omega
     have:=src_nil hsrc hn0
     subst this
     refine ⟨E.w,storeCells_nil P _ _,rfl,⟨rfl,rfl,rfl,by first | exact fun _=>Nat.le_refl _ | exact fun _=>Nat.le_add_right _ _⟩,fun _ _=>rfl,?_⟩
     rw [hblk]
     simp
   obtain ⟨w',hst,hsz,henv,hother,hb'⟩:=hstore
   have hloc:E.loc.set id (some (b,cap))=E.loc:=set_same e1
   have hle:E.le { w:=w',H:=E.H.set id (.vec sz (ver+1) (rows++new)),loc:=E.loc.set id (some (b,cap)),X:=E.X } :=
    Env.le_turn hid HE.len (by omega) (fun x hx hne=>hother x (fun ex=>hne cap (by rw [ex]; exact e1))) (fun b' n' h=>by cases h; exact .inr ⟨cap,e1⟩) (.inr hverlt) hup hdead
   refine ⟨_,w',run_append_base (m:=new.length) hu hd1 hd2 hi hs (hsrc.len E.w) hfit (hsrc.cells E.w (fun _ _ _=>rfl)) hst,E.loc.set id (some (b,cap)),E.X.r,?_,?_,hle⟩
   ·simp only [rel]
    refine ⟨⟨_,_,rfl,hfit,fun _=>⟨b,o,rfl⟩⟩,hpast' _ _,fun _=>⟨fun hn=>?_,fun b' M hn=>?_⟩⟩
    ·rw [hloc,e1] at hn; cases hn
    ·rw [hloc, e1] at hn
     simp only [Option.some.injEq,Prod.mk.injEq] at hn
     obtain ⟨rfl,rfl⟩:=hn
     exact ⟨by omega,o,fun h=>by simpa using p2 (by simpa using h),by simp⟩
   ·refine HRel.turn HE hid (by omega) (fun x hx hne => hother x (fun ex => hne cap (by rw [ex]; exact e1))) (fun b' n' h => by cases h; exact .inr ⟨cap, e1⟩) (.inr hverlt) hup hdead ?_
    simp only [objRel]
    right
    refine ⟨b,cap,by rw [hloc]; exact e1,?_,by simpa using hfit,?_,?_⟩
    ·refine ⟨_, el, hb', ?_⟩
     have hfit2:rows.length*sz+news.length≤cap*sz:=by rw [hnl,←Nat.add_mul]; exact Nat.mul_le_mul_right _ hfit
     simp only [List.size_toArray,List.length_append,List.length_take,List.length_drop,Array.length_toList,hsize]
     omega
    ·intro r hr
     rcases List.mem_append.1 hr with h | h
     ·exact e4 r h
     ·exact hsrc.closed r h
    ·have hall:∀ r∈rows++new,r.length=sz:=by
      intro r hr
      rcases List.mem_append.1 hr with h | h
      ·exact hwide r h
      ·exact hsrc.wide r h
     refine flat_relRows hall (relCells_prefix hb' (vs:=cur.toList.take (rows.length*sz)++news) (tl:=cur.toList.drop (rows.length*sz+news.length)) ?_ (by simp) ?_)
     ·rw [List.flatten_append]
      refine relList_append ?_ (relList_le hle _ hsrc.rel)
      have:=relList_le hle _ hcurl.1
      rw [hflat] at this
      exact this
     ·intro x hx
      rcases List.mem_append.1 hx with h | h
      ·exact hcurl.2.1 x (by rw [hflat]; exact h)
      ·exact hsrc.one x h
 ·-- it moves
  have holds:∃ olds:List Value,rLs E rows.flatten olds∧(∀ x∈olds,one1 x=true)∧(∀ r∈rows,r.length=sz)∧closedRows rows ∧
    (Builtin.firstCells sz rows.length (.slice base rows.length cap)).run P E.w.drew=.ok olds.toArray E.w.drew:=by
   rcases HE.obj id _ hid with ⟨e1,e2⟩ | ⟨b,M,e1,e2,e3,e4,e5⟩
   ·subst e2
    refine ⟨[],by simp [rLs],by simp,by simp,(fun r hr=>by cases hr),?_⟩
    cases base<;>simp [Builtin.firstCells,loadCells,loadCellsFrom]
   ·obtain ⟨_, o, p2, p3⟩ := q2 b M e1
    simp only [Value.slice.injEq,Nat.sub_zero] at p3
    obtain ⟨rfl,_,rfl⟩:=p3
    by_cases hM:0<cap
    ·have ho := p2 hM
     rw [Nat.zero_mul] at ho
     subst ho
     obtain ⟨vs,g1,g2,g3⟩:=cells_src (P:=P) (cap:=cap) e5 (HE.lt id b cap e1).1
     exact ⟨vs,g1,g2,rows_wide e5,e4,g3 _ hcells⟩
    ·have:rows=[]:=by
      cases rows with
      | nil=>rfl
      | cons a l=>simp at hcap; omega
     subst this
     exact ⟨[],by simp [rLs],by simp,by simp,fun r hr=>by (cases hr),by simp [Builtin.firstCells,loadCells,loadCellsFrom]⟩
  obtain ⟨olds,g1,g2,g3,g4,g5⟩:=holds
  obtain ⟨C,hC,hrun⟩:=run_append_more (P:=P) (w:=E.w) (ty:=ty) (base:=base) (n:=rows.length) (cap:=cap) (m:=new.length) (x:=cx) (olds:=olds) hu hd1 hd2 hi hs hz1 (hsrc.len E.w) (by omega)
   g5 (hsrc.cells _ hcells) (by omega) (by omega)
  generalize hrest:(Builtin.zeroCells zv.cells (C-(rows.length+new.length))).toList=rest at hrun
  have hrl:rest.length=(C-(rows.length+new.length))*sz:=by
   rw [←hrest]
   simp only [Array.length_toList,size_zeroCells]
   rw [←hzl,←hz2]
   simp
  generalize hw':E.w.drew.alloc (.cells (olds++news++rest).toArray e)=w' at hrun
  have hext:Ext E.w w':=by rw [←hw']; exact ext_drew_alloc _ _
  have hblk:w'.heap[E.w.heap.size]? = some (.cells (olds++news++rest).toArray e (0,0)):=by rw [←hw']; exact heap_drew_alloc _ _
  have hltw:E.w.heap.size<w'.heap.size:=(Array.getElem?_eq_some_iff.1 hblk).1
  have hle:E.le { w:=w',H:=E.H.set id (.vec sz (ver+1) (rows++new)),loc:=E.loc.set id (some (E.w.heap.size,C)),X:=E.X } :=
   Env.le_turn hid HE.len hext.size (fun x hx _=>hext.same x hx) (fun b n h=>by cases h; exact .inl (Nat.le_refl _)) (.inr hverlt) hup hdead
  have hall:∀ r∈rows++new,r.length=sz:=by
   intro r hr
   rcases List.mem_append.1 hr with h | h
   ·exact g3 r h
   ·exact hsrc.wide r h
  have hlocs:(E.loc.set id (some (E.w.heap.size,C)))[id]? = some (some (E.w.heap.size,C)):=List.getElem?_set_self (by rw [HE.len]; exact hlt)
  have hrow:=row_made (E:=E) (E':={ w:=w',H:=E.H.set id (.vec sz (ver+1) (rows++new)),loc:=E.loc.set id (some (E.w.heap.size,C)),X:=E.X })
   (rows:=rows++new) (vals:=olds++news) (m:=rows.length+new.length) (fun a c hr=>rel_le hle a hr) hblk
   (by rw [List.flatten_append]; exact relList_append g1 hsrc.rel)
   (by intro x hx; rcases List.mem_append.1 hx with h | h; exact g2 x h; exact hsrc.one x h) hall (by simp) hC hrl
  refine ⟨_,w',hrun,E.loc.set id (some (E.w.heap.size,C)),E.X.r,?_,?_,hle⟩
  ·simp only [rel]
   refine ⟨⟨_,_,rfl,hC,fun _=>⟨_,_,rfl⟩⟩,hpast' _ _,fun _=>⟨fun hn=>?_,fun b' M hn=>?_⟩⟩
   ·rw [hlocs] at hn; cases hn
   ·rw [hlocs] at hn
    simp only [Option.some.injEq,Prod.mk.injEq] at hn
    obtain ⟨rfl,rfl⟩:=hn
    exact ⟨by omega,0,fun _=>by simp,by simp⟩
  ·refine HRel.turn HE hid hext.size (fun x hx _ => hext.same x hx) (fun b n h => by cases h; exact .inl ⟨Nat.le_refl _, hltw⟩) (.inr hverlt) hup hdead ?_
   simp only [objRel]
   right
   refine ⟨E.w.heap.size,C,hlocs,hrow.1,by simpa using hC,?_,hrow.2⟩
   intro r hr
   rcases List.mem_append.1 hr with h | h
   ·exact g4 r h
   ·exact hsrc.closed r h
theorem appendA_sound {P:Program} {E:Env} (HE:HRel E) {t xt ty:TypeId} {s x v:AV} {H':List AObj} {c cx:Value} (h:appendA P t xt s x E.H=some (v,H'))
  (hs:rel E s c) (hx:rel E x cx):∃ u w',(Builtin.append_ #[t,xt] ty #[c,cx]).run P E.w=.ok u w'∧OpPost E v H' u w':=by
 unfold appendA at h
 split at h
 case h_2=>cases h
 rename_i e sz by_ hk
 split at h
 case h_2=>cases h
 rename_i z new hz hseq hrows
 split at h
 case isFalse=>cases h
 rename_i hc
 obtain ⟨h1,h2,h3⟩:=hc
 obtain ⟨news,hsrc⟩:=rowsA_src (P:=P) HE hrows hx (kindSeq hseq)
 split at h
 ·cases h
  simp only [rel] at hs
  obtain ⟨base,rfl⟩:=hs
  exact appendA_nil_sound HE hk hz hsrc h2 h3 h1
 ·cases h
  simp only [rel] at hs
  subst hs
  exact appendA_nil_sound HE hk hz hsrc h2 h3 h1
 ·split at h
  case h_2=>cases h
  rename_i k v rows hid
  split at h
  case isFalse=>cases h
  rename_i hcc
  obtain ⟨rfl,rfl,rfl,rfl,rfl,hb⟩:=hcc
  cases h
  exact appendA_vec_sound HE hk hz hsrc hb h3 h1 hid hs
 ·cases h
end Go.AL

namespace Go.AL
open Go
variable [Dr]
theorem cell_after {w w':World} {b off:Nat} {cur:Array Value} {vals:List Value} {el:TypeId} {fr:Nat × Nat} (hblk:w.heap[b]? = some (.cells cur el fr))
  (hb':w'.heap[b]? = some (.cells (cur.toList.take off++vals++cur.toList.drop (off+vals.length)).toArray el fr)) (hfit:off+vals.length≤cur.size) (i:Nat) :
  w'.cell? ⟨b,i,none⟩=if off≤i∧i<off+vals.length then vals[i-off]? else w.cell? ⟨b,i,none⟩:=by
 simp only [World.cell?,hblk,hb',Option.isSome_none,Bool.false_eq_true,if_false,List.getElem?_toArray,List.getElem?_append,List.length_append,List.length_take,Array.length_toList,
  List.getElem?_take,List.getElem?_drop]
 have h1:min off cur.size=off:=by omega
 rw [h1]
 by_cases c1:i<off
 ·have c2 : ¬ (off ≤ i ∧ i < off + vals.length) := by omega
  have c3:i<off+vals.length:=by omega
  rw [if_neg c2]
  simp [c1,c3]
 ·by_cases c2 : i < off + vals.length
  ·have c3 : off ≤ i ∧ i < off + vals.length := by omega
   simp [c1,c2,c3]
  ·have c3 : ¬ (off ≤ i ∧ i < off + vals.length) := by omega
   have c4:off+vals.length+(i-(off+vals.length))=i:=by omega
   rw [if_neg c2,if_neg c3,c4]
   simp
theorem relCells_put {E E':Env} {b o col:Nat} {cur:Array Value} {as cs:List AV} {vals:List Value} {el:TypeId} {fr:Nat × Nat} (hv:∀ a c,rel E a c→rel E' a c)
  (hblk:E.w.heap[b]? = some (.cells cur el fr))
  (hb':E'.w.heap[b]? = some (.cells (cur.toList.take (o+col)++vals++cur.toList.drop (o+col+vals.length)).toArray el fr)) (hfit:o+col+vals.length≤cur.size)
  (hr:relCells E as b o) (hcs:rLs E cs vals) (h1:∀ x∈vals,one1 x=true) (hcol:col+cs.length≤as.length) :
  relCells E' (as.take col++cs++as.drop (col+cs.length)) b o:=by
 have hlen:=relList_length hcs
 rw [relCells_iff] at hr ⊢
 intro i a hi
 rw [cell_after hblk hb' hfit]
 simp only [List.getElem?_append,List.length_append,List.length_take,List.getElem?_take,List.getElem?_drop] at hi
 have hm:min col as.length=col:=by omega
 rw [hm] at hi
 by_cases c1:i<col
 ·have c2 : i < col + cs.length := by omega
  rw [if_pos c2,if_pos c1,if_pos c1] at hi
  obtain ⟨v,g1,g2,g3⟩:=hr i a hi
  exact ⟨v,by rw [if_neg (by omega)]; exact g1,g2,hv _ _ g3⟩
 ·by_cases c2 : i < col + cs.length
  ·rw [if_pos c2, if_neg c1] at hi
   obtain ⟨v,g1,g2⟩:=relList_get hcs hi
   refine ⟨v,?_,h1 v (List.mem_of_getElem? g1),hv _ _ g2⟩
   rw [if_pos (by omega),←g1]
   congr 1
   omega
  ·rw [if_neg c2] at hi
   have:col+cs.length+(i-(col+cs.length))=i:=by omega
   rw [this] at hi
   obtain ⟨v,g1,g2,g3⟩:=hr i a hi
   exact ⟨v,by rw [if_neg (by omega)]; exact g1,g2,hv _ _ g3⟩
theorem Env.le_set {E:Env} {w':World} {id b n:Nat} {o o':AObj} (HE:HRel E) (hid:E.H[id]? = some o) (hloc:E.loc[id]? = some (some (b,n)))
  (hver:∀ v,o'.ver? = some v→o.ver? = some v) (hsize:w'.heap.size=E.w.heap.size) (hsame:∀ x,x≠b→w'.heap[x]? = E.w.heap[x]?) (henv:SameOs E.w w':=by first | exact ⟨rfl,rfl,rfl,by first | exact fun _=>Nat.le_refl _ | exact fun _=>Nat.le_add_right _ _⟩ | assumption | exact Ext.env (by assumption)) :
  E.le { w:=w',H:=E.H.set id o',loc:=E.loc,X:=E.X }:=by
 have h:=Env.le_turn (w':=w') (o':=o') (l:=some (b,n)) hid HE.len (by omega) (fun x _ hne=>hsame x (fun e=>hne n (by rw [e]; exact hloc))) (fun b' n' h=>by cases h; exact .inr ⟨n,hloc⟩)
  (.inl fun v hv => ⟨hver v hv, hloc⟩) (fun v u hv hu => by rw [hver v hv] at hu; cases hu; exact Nat.le_refl _) (fun hn => by
   cases hv:o'.ver? with
   | none=>rfl
   | some v=>rw [hver v hv] at hn; cases hn) henv
 rwa [set_same hloc] at h
theorem HRel.set {E:Env} {w':World} {id b n:Nat} {o o':AObj} (HE:HRel E) (hid:E.H[id]? = some o) (hloc:E.loc[id]? = some (some (b,n)))
  (hver:∀ v,o'.ver? = some v→o.ver? = some v) (hsize:w'.heap.size=E.w.heap.size) (hsame:∀ x,x≠b→w'.heap[x]? = E.w.heap[x]?)
  (ho:objRel { w:=w',H:=E.H.set id o',loc:=E.loc,X:=E.X } id o') (henv:SameOs E.w w':=by first | exact ⟨rfl,rfl,rfl,by first | exact fun _=>Nat.le_refl _ | exact fun _=>Nat.le_add_right _ _⟩ | assumption | exact Ext.env (by assumption)) (hlab:o.label=none:=by first | rfl | assumption) (hlab':o'.label=none:=by first | rfl | assumption):HRel { w:=w',H:=E.H.set id o',loc:=E.loc,X:=E.X }:=by
 have h:=HRel.turn (w':=w') (o':=o') (l:=some (b,n)) HE hid (by omega) (fun x _ hne=>hsame x (fun e=>hne n (by rw [e]; exact hloc))) (fun b' n' h=>by cases h; exact .inr ⟨n,hloc⟩)
  (.inl fun v hv => ⟨hver v hv, hloc⟩) (fun v u hv hu => by rw [hver v hv] at hu; cases hu; exact Nat.le_refl _) (fun hn => by
   cases hv:o'.ver? with
   | none=>rfl
   | some v=>rw [hver v hv] at hn; cases hn) (by rw [set_same hloc]; exact ho) henv
 rwa [set_same hloc] at h
def putCells (as cs:List AV) (col:Nat):List AV:=as.take col++cs++as.drop (col+cs.length)
def storeA (P:Program) (t:TypeId) (x v:AV) (H:List AObj):Option (List AObj) :=
 match varK P t,cellsA v,x with
 | some (n,_),some cs,.ptr id ver w row col =>
  if cs.length=n then
   match H[id]? with
   | some (.box cells)=>if ver=0∧row=0∧col+n≤cells.length then some (H.set id (.box (putCells cells cs col))) else none
   | some (.vec k u rows) =>
    if ver=u∧k=w∧AV.closedL cs=true then
     match rows[row]? with
     | some r=>if col+n≤r.length then some (H.set id (.vec k u (rows.set row (putCells r cs col)))) else none
     | none=>none
    else none
   | _=>none
  else none
 | _,_,_=>none
theorem putCells_length {as cs:List AV} {col:Nat} (h:col+cs.length≤as.length):(putCells as cs col).length=as.length:=by
 simp [putCells]; omega
theorem closedL_append:∀ (a b:List AV),AV.closedL (a++b)=(AV.closedL a&&AV.closedL b)
 | [],b=>by simp [AV.closedL]
 | x::a,b=>by simp [AV.closedL,closedL_append a b,Bool.and_assoc]
theorem storeA_sound {P:Program} {E:Env} (HE:HRel E) {t:TypeId} {x v:AV} {c d:Value} {H':List AObj} (h:storeA P t x v E.H=some H') (hx:rel E x c) (hv:rel E v d) :
  ∃ w',(Instr.storeAt t c d).run P E.w=.ok () w'∧HRel { w:=w',H:=H',loc:=E.loc,X:=E.X }∧E.le { w:=w',H:=H',loc:=E.loc,X:=E.X }:=by
 unfold storeA at h
 split at h
 case h_2=>cases h
 rename_i n ag cs id ver w row col ht hcs
 obtain ⟨i,dd,hi,hd,hs,ha⟩:=varK_some ht
 obtain ⟨hrel,h1⟩:=cells_rel hcs hv
 split at h
 case isFalse=>cases h
 rename_i hn
 have hlen:=relList_length hrel
 have hsz:d.cells.size=n:=by rw [←hn,hlen]; simp
 simp only [rel] at hx
 obtain ⟨_,hpast,hlive⟩:=hx
 split at h
 ·rename_i cells hid
  split at h
  case isFalse=>cases h
  rename_i hc
  obtain ⟨rfl,rfl,hcol⟩:=hc
  cases h
  obtain ⟨b,m,e1,rfl⟩:=hlive ⟨_,hid,rfl⟩
  obtain ⟨b',m',e2,⟨cur,el,hblk,hsize⟩,e3⟩:=HE.obj id _ hid
  rw [e1] at e2
  cases e2
  have hfit:col+0+d.cells.toList.length≤cur.size:=by rw [hsize]; simp; omega
  have hst:=run_storeCells_at P b col el d.cells.toList 0 cur E.w hblk hfit (fun v hv=>by rw [one1_eq]; exact h1 v hv)
  simp only [Nat.add_zero] at hst hfit
  generalize hw':E.w.setRow b (cur.toList.take col++d.cells.toList++cur.toList.drop (col+d.cells.toList.length)).toArray=w' at hst
  have hsize':w'.heap.size=E.w.heap.size:=by rw [←hw']; exact setRow_size _ _ _
  have henv:SameOs E.w w':=by rw [←hw']; exact ⟨rfl,rfl,rfl,by first | exact fun _=>Nat.le_refl _ | exact fun _=>Nat.le_add_right _ _⟩
  have hother:∀ x,x≠b→w'.heap[x]? = E.w.heap[x]? := by intro x hx; rw [←hw']; exact setRow_other _ _ _ _ hx
  have hb':w'.heap[b]? = some (.cells (cur.toList.take col++d.cells.toList++cur.toList.drop (col+d.cells.toList.length)).toArray el (0,0)):=by
   rw [←hw']; exact setRow_heap E.w b cur _ el (0,0) hblk
  have hver:∀ v,(AObj.box (putCells cells cs col)).ver? = some v→(AObj.box cells).ver? = some v:=fun v hv=>by simpa [AObj.ver?] using hv
  have hle:=Env.le_set (o':=.box (putCells cells cs col)) HE hid e1 hver hsize' hother
  refine ⟨w',?_,HRel.set HE hid e1 hver hsize' hother ?_,hle⟩
  ·simp only [Instr.storeAt, Instr.sureAddr, Sem.run_bind, Sem.run_pure, Result.andThen_ok, storeVar, Sem.run_sizeOf hi, hs, Nat.zero_mul, Nat.zero_add]
   rw [if_neg (by omega)]
   exact hst
  ·simp only [objRel]
   refine ⟨b,m,e1,⟨_,el,hb',?_⟩,?_⟩
   ·rw [putCells_length (by omega)]
    simp only [List.size_toArray,List.length_append,List.length_take,List.length_drop,Array.length_toList] at hfit ⊢
    omega
   ·exact relCells_put (o:=0) (col:=col) (fun a c hr=>rel_le hle a hr) hblk (by simpa using hb') (by simpa using hfit) e3 hrel h1 (by omega)
 ·rename_i k u rows hid
  split at h
  case isFalse=>cases h
  rename_i hc
  obtain ⟨rfl,rfl,hclosed⟩:=hc
  split at h
  case h_2=>cases h
  rename_i r hrow
  split at h
  case isFalse=>cases h
  rename_i hcol
  cases h
  obtain ⟨b,m,e1,rfl⟩:=hlive ⟨_,hid,rfl⟩
  rcases HE.obj id _ hid with ⟨_,e2⟩ | ⟨b',m',e2,⟨cur,el,hblk,hsize⟩,e3,e4,e5⟩
  ·subst e2; simp at hrow
  rw [e1] at e2
  cases e2
  have hrlt:=lt_of_getElem? hrow
  obtain ⟨hrk,hrc⟩:=relRows_get e5 hrow
  rw [Nat.zero_add] at hrc
  have hrow1:(row+1)*k≤m*k:=Nat.mul_le_mul_right _ (by omega)
  rw [Nat.add_mul,Nat.one_mul] at hrow1
  have hfit:row*k+col+0+d.cells.toList.length≤cur.size:=by rw [hsize]; simp; omega
  have hst:=run_storeCells_at P b (row*k+col) el d.cells.toList 0 cur E.w hblk hfit (fun v hv=>by rw [one1_eq]; exact h1 v hv)
  simp only [Nat.add_zero] at hst hfit
  generalize hw':E.w.setRow b (cur.toList.take (row*k+col)++d.cells.toList++cur.toList.drop (row*k+col+d.cells.toList.length)).toArray=w' at hst
  have hsize':w'.heap.size=E.w.heap.size:=by rw [←hw']; exact setRow_size _ _ _
  have henv:SameOs E.w w':=by rw [←hw']; exact ⟨rfl,rfl,rfl,by first | exact fun _=>Nat.le_refl _ | exact fun _=>Nat.le_add_right _ _⟩
  have hother:∀ x,x≠b→w'.heap[x]? = E.w.heap[x]? := by intro x hx; rw [←hw']; exact setRow_other _ _ _ _ hx
  have hb':w'.heap[b]? = some (.cells (cur.toList.take (row*k+col)++d.cells.toList++cur.toList.drop (row*k+col+d.cells.toList.length)).toArray el (0,0)):=by
   rw [←hw']; exact setRow_heap E.w b cur _ el (0,0) hblk
  have hver:∀ v,(AObj.vec k ver (rows.set row (putCells r cs col))).ver? = some v→(AObj.vec k ver rows).ver? = some v:=fun v hv=>by simpa [AObj.ver?] using hv
  have hle:=Env.le_set (o':=.vec k ver (rows.set row (putCells r cs col))) HE hid e1 hver hsize' hother
  refine ⟨w',?_,HRel.set HE hid e1 hver hsize' hother ?_,hle⟩
  ·simp only [Instr.storeAt, Instr.sureAddr, Sem.run_bind, Sem.run_pure, Result.andThen_ok, storeVar, Sem.run_sizeOf hi, hs]
   rw [if_neg (by omega)]
   exact hst
  ·simp only [objRel]
   right
   refine ⟨b,m,e1,⟨_,el,hb',?_⟩,by simpa using e3,?_,?_⟩
   ·simp only [List.size_toArray, List.length_append, List.length_take, List.length_drop, Array.length_toList, hsize] at hfit ⊢
    omega
   ·intro r' hr'
    rcases List.mem_or_eq_of_mem_set hr' with h' | h'
    ·exact e4 r' h'
    ·rw [h', putCells, closedL_append, closedL_append]
     have:=e4 r (List.mem_of_getElem? hrow)
     simp [closedL_take _ _ this,closedL_drop _ _ this,hclosed]
   ·rw [relRows_iff] at e5 ⊢
    intro j r' hj
    rw [List.getElem?_set] at hj
    split at hj
    ·rename_i ej
     subst ej
     cases hj
     refine ⟨by rw [putCells_length (by omega)]; exact hrk,?_⟩
     rw [Nat.zero_add]
     exact relCells_put (fun a c hr=>rel_le hle a hr) hblk hb' hfit hrc hrel h1 (by omega)
    ·rename_i ej
     obtain ⟨g1,g2⟩:=e5 j r' hj
     refine ⟨g1,?_⟩
     rw [relCells_iff] at g2 ⊢
     intro q a hq
     obtain ⟨vv,p1,p2,p3⟩:=g2 q a hq
     refine ⟨vv,?_,p2,rel_le hle a p3⟩
     have hql:=lt_of_getElem? hq
     rw [cell_after hblk hb' hfit,if_neg]
     ·exact p1
     ·rcases Nat.lt_or_gt_of_ne ej with hlt | hgt
      ·have : (row + 1) * k ≤ j * k := Nat.mul_le_mul_right _ (by omega)
       rw [Nat.add_mul,Nat.one_mul] at this
       simp only [Array.length_toList]
       omega
      ·have : (j + 1) * k ≤ row * k := Nat.mul_le_mul_right _ (by omega)
       rw [Nat.add_mul,Nat.one_mul] at this
       omega
 ·cases h
theorem new_box {E:Env} (HE:HRel E) {cells:List AV} {vals:Array Value} {el:TypeId} (hr:rLs E cells vals.toList) (h1:∀ x∈vals.toList,one1 x=true) :
  OpPost E (.ptr E.H.length 0 0 0 0) (E.H++[.box cells]) (.pointer (some ⟨E.w.heap.size,0,none⟩)) { E.w with heap:=E.w.heap.push (.cells vals el) }:=by
 have hext:=Ext.push E.w (.cells vals el)
 have hle:=Env.le_push (o:=.box cells) (l:=some (E.w.heap.size,0)) HE.len hext (fun b n hb=>by cases hb; exact Nat.le_refl _)
 have hblk:(E.w.heap.push (.cells vals el))[E.w.heap.size]? = some (.cells vals el (0,0)):=by simp
 have hr':rLs (E.push { E.w with heap:=E.w.heap.push (.cells vals el) } (.box cells) (some (E.w.heap.size,0))) cells vals.toList:=relList_le hle _ hr
 refine ⟨E.loc++[some (E.w.heap.size,0)],E.X.r,?_,HRel.push HE hext (fun b n hb=>?_) ?_,hle⟩
 ·simp only [rel]
  refine ⟨⟨_,_,rfl⟩,⟨.box cells,by simp,fun v hv=>by simp⟩,fun _=>⟨E.w.heap.size,0,?_,by simp⟩⟩
  rw [←HE.len]; simp
 ·cases hb
  exact ⟨Nat.le_refl _,by simp⟩
 ·simp only [objRel]
  refine ⟨E.w.heap.size,0,?_,⟨vals,el,hblk,?_⟩,relCells_block (cs:=vals) (el:=el) (fr:=(0,0)) hblk hr' h1⟩
  ·simp only [Env.push]; rw [←HE.len]; simp
  ·have := relList_length hr
   simpa using this.symm
def bldK (P:Program) (t:TypeId):Option TypeId:=match zeroK P t with
 | some [.pointer none,.slice none 0 0]=>match P.underlying t with
  | some (.struct fs)=>match fs[1]? with
   | some fd=>match P.underlying fd.type with
    | some (.slice e)=>match P.underlying e with
     | some (.int .u8)=>some e
     | _=>none
    | _=>none
   | none=>none
  | _=>none
 | _=>none
theorem bldK_zero {P:Program} {t e:TypeId} (h:bldK P t=some e):zeroK P t=some [.pointer none,.slice none 0 0]:=by
 unfold bldK at h
 split at h
 ·assumption
 ·cases h
def noLab (H:List AObj) (l:Nat):Bool:=H.all fun o=>match o.label with
 | some k => !Nat.beq k l
 | none=>true
theorem noLab_iff {H:List AObj} {l:Nat} (h:noLab H l=true) (i:Nat) (o:AObj) (hi:H[i]? = some o):o.label≠some l:=fun e=>by
 have:=List.all_eq_true.1 h o (List.mem_of_getElem? hi)
 rw [e] at this
 simp at this
theorem new_bld {E:Env} (HE:HRel E) {t e:TypeId} (hno:noLab E.H 0=true) :
  OpPost E (.ptr E.H.length 0 0 0 0) (E.H++[.bld 0 t e ByteArray.empty]) (.pointer (some ⟨E.w.heap.size,0,none⟩)) { E.w with heap:=E.w.heap.push (.cells #[.pointer none,.slice none 0 0] t) }:=by
 have hext:=Ext.push E.w (.cells #[.pointer none,.slice none 0 0] t)
 obtain ⟨h1,h2⟩:=HRel.pushR (o:=.bld 0 t e ByteArray.empty) (l:=some (E.w.heap.size,0)) (l0:=0) HE hext (fun b n hb=>by cases hb; exact ⟨Nat.le_refl _,by simp⟩) rfl (noLab_iff hno) (by
  simp only [objRel]
  refine ⟨E.w.heap.size,0,.pointer none,.slice none 0 0,(E.X.r 0).length,none,?_,?_,.inl rfl,?_,?_,⟨rfl,rfl⟩⟩
  ·rw [←HE.len]; simp
  ·simp
  ·simp [addR,XS.re]
  ·intro h' q' hq
   rcases addR_get (show (addR E.X.r 0 0)[h']? = some (some q') from hq) with g | ⟨_,g,_⟩
   ·exact (HE.rdead 0 (noLab_iff hno) h' q' g).elim
   ·exact g)
 refine ⟨E.loc++[some (E.w.heap.size,0)],addR E.X.r 0,?_,h1,h2⟩
 simp only [rel]
 refine ⟨⟨_,_,rfl⟩,⟨.bld 0 t e ByteArray.empty,by simp,fun v hv=>by simp⟩,fun _=>⟨E.w.heap.size,0,?_,by simp⟩⟩
 rw [←HE.len]; simp
def allocA (P:Program) (t:TypeId) (H:List AObj):Option (AV × List AObj) :=
 match bldK P t with
 | some e=>if noLab H 0=true then some (.ptr H.length 0 0 0 0,H++[.bld 0 t e ByteArray.empty]) else none
 | none=>match zeroK P t with
  | some z=>some (.ptr H.length 0 0 0 0,H++[.box (z.map .lit)])
  | none=>none
theorem allocA_sound {P:Program} {E:Env} (HE:HRel E) {t:TypeId} {v:AV} {H':List AObj} (h:allocA P t E.H=some (v,H')) :
  ∃ u w',(Instr.alloc t true (.tuple #[])).run P E.w=.ok u w'∧OpPost E v H' u w':=by
 unfold allocA at h
 split at h
 ·rename_i e he
  split at h
  case isFalse=>cases h
  rename_i hno
  cases h
  obtain ⟨i,zv,h1,h2,h3,h4⟩:=zeroK_some (bldK_zero he)
  have hz:zv.cells=#[.pointer none,.slice none 0 0]:=Array.ext' (by simpa using h3)
  refine ⟨_,_,?_,new_bld HE (t:=t) (e:=e) hno⟩
  simp [Instr.alloc,run_zeroValue h1 h2,newVar,newRow,hz]
 split at h
 ·rename_i z hz
  cases h
  obtain ⟨i,zv,h1,h2,h3,h4⟩:=zeroK_some hz
  refine ⟨_,_,?_,new_box HE (vals:=zv.cells) (el:=t) (by rw [h3]; exact relList_lits z) (by rw [h3]; exact h4)⟩
  simp [Instr.alloc,run_zeroValue h1 h2,newVar,newRow]
 ·cases h
def zc:Option (List Kd)→Value→AV
 | some ks,.slice none 0 0=>.listF ks []
 | _,v=>.lit v
def zcs:List (Option (List Kd))→List Value→List AV
 | _,[]=>[]
 | [],v::z=>.lit v::zcs [] z
 | a::m,v::z=>zc a v::zcs m z
theorem zcs_length:∀ (m:List (Option (List Kd))) (z:List Value),(zcs m z).length=z.length
 | [],[]=>rfl
 | _::_,[]=>rfl
 | [],v::z=>by simp [zcs,zcs_length [] z]
 | a::m,v::z=>by simp [zcs,zcs_length m z]
theorem zc_rel {E:Env} (a:Option (List Kd)) (v:Value):rel E (zc a v) v:=by
 unfold zc
 split
 ·simp only [rel, relKd]
  exact ⟨none,0,rfl,Nat.le_refl _,.inl rfl⟩
 ·simp [rel]
theorem zcs_rel {E:Env}:∀ (m:List (Option (List Kd))) (z:List Value),rLs E (zcs m z) z
 | [],[]=>by simp [zcs,rLs]
 | _::_,[]=>by simp [zcs,rLs]
 | [],v::z=>by simp only [zcs,rLs]; exact ⟨by simp [rel],zcs_rel [] z⟩
 | a::m,v::z=>by simp only [zcs,rLs]; exact ⟨zc_rel a v,zcs_rel m z⟩
theorem zc_closed (a:Option (List Kd)) (v:Value):(zc a v).closed=true:=by
 unfold zc
 split<;>rfl
theorem zcs_closed:∀ (m:List (Option (List Kd))) (z:List Value),AV.closedL (zcs m z)=true
 | [],[]=>rfl
 | _::_,[]=>rfl
 | [],v::z=>by simp [zcs,AV.closedL,AV.closed,zcs_closed [] z]
 | a::m,v::z=>by simp [zcs,AV.closedL,zc_closed,zcs_closed m z]
def allocVA (P:Program) (t:TypeId) (id:Nat) (m:List (Option (List Kd))) (H:List AObj):Option (AV × List AObj) :=
 match zeroK P t,H[id]? with
 | some z,some (.vec k 0 [])=>if k=z.length then some (.ptr id 1 k 0 0,H.set id (.vec k 1 [zcs m z])) else none
 | _,_=>none
theorem new_vec1 {E:Env} (HE:HRel E) {id k:Nat} {cells:List AV} {vals:Array Value} {el:TypeId} (hid:E.H[id]? = some (.vec k 0 [])) (hr:rLs E cells vals.toList) (h1:∀ x∈vals.toList,one1 x=true) (hk:cells.length=k)
  (hcl:AV.closedL cells=true) :
  OpPost E (.ptr id 1 k 0 0) (E.H.set id (.vec k 1 [cells])) (.pointer (some ⟨E.w.heap.size,0,none⟩)) { E.w with heap:=E.w.heap.push (.cells vals el) }:=by
 have hext:=Ext.push E.w (.cells vals el)
 have hlt:=lt_of_getElem? hid
 have hverlt:∀ v,(AObj.vec k 1 [cells]).ver? = some v→∀ u,(AObj.vec k 0 []).ver? = some u→u<v:=by
  intro v hv u hu
  simp [AObj.ver?] at hv hu
  omega
 have hup:∀ v u,(AObj.vec k 1 [cells]).ver? = some v→(AObj.vec k 0 []).ver? = some u→u≤v:=by
  intro v u hv hu
  simp [AObj.ver?] at hv hu
  omega
 have hdead:(AObj.vec k 0 []).ver? = none→(AObj.vec k 1 [cells]).ver? = none:=by simp [AObj.ver?]
 have hle:E.le { w:={ E.w with heap:=E.w.heap.push (.cells vals el) },H:=E.H.set id (.vec k 1 [cells]),loc:=E.loc.set id (some (E.w.heap.size,1)),X:=E.X } :=
  Env.le_turn hid HE.len hext.size (fun x hx _=>hext.same x hx) (fun b n h=>by cases h; exact .inl (Nat.le_refl _)) (.inr hverlt) hup hdead
 have hblk:(E.w.heap.push (.cells vals el))[E.w.heap.size]? = some (.cells vals el (0,0)):=by simp
 have hlocs:(E.loc.set id (some (E.w.heap.size,1)))[id]? = some (some (E.w.heap.size,1)):=List.getElem?_set_self (by rw [HE.len]; exact hlt)
 have hr':=relList_le hle _ hr
 refine ⟨E.loc.set id (some (E.w.heap.size,1)),E.X.r,?_,?_,hle⟩
 ·simp only [rel]
  refine ⟨⟨_,_,rfl⟩,⟨.vec k 1 [cells],by simp [hlt],fun v hv=>by simp [AObj.ver?] at hv; omega⟩,fun _=>⟨E.w.heap.size,1,hlocs,by simp⟩⟩
 ·refine HRel.turn HE hid hext.size (fun x hx _ => hext.same x hx) (fun b n h => by cases h; exact .inl ⟨Nat.le_refl _, by simp⟩) (.inr hverlt) hup hdead ?_
  simp only [objRel]
  right
  refine ⟨E.w.heap.size,1,hlocs,⟨vals,el,hblk,?_⟩,by simp,?_,?_⟩
  ·have := relList_length hr
   rw [Nat.one_mul,←hk]
   simpa using this.symm
  ·intro r hr
   simp at hr
   rw [hr]
   exact hcl
  ·simp only [relRows, and_true]
   exact ⟨hk,relCells_block (cs:=vals) (el:=el) (fr:=(0,0)) hblk hr' h1⟩
theorem allocVA_sound {P:Program} {E:Env} (HE:HRel E) {t:TypeId} {id:Nat} {m:List (Option (List Kd))} {v:AV} {H':List AObj} (h:allocVA P t id m E.H=some (v,H')) :
  ∃ u w',(Instr.alloc t true (.tuple #[])).run P E.w=.ok u w'∧OpPost E v H' u w':=by
 unfold allocVA at h
 split at h
 ·rename_i z k hz hid
  split at h
  ·rename_i hk
   cases h
   obtain ⟨i,zv,h1,h2,h3,h4⟩:=zeroK_some hz
   refine ⟨_,_,?_,new_vec1 HE (vals:=zv.cells) (el:=t) hid (by rw [h3]; exact zcs_rel m z) (by rw [h3]; exact h4) (by rw [zcs_length,hk]) (zcs_closed m z)⟩
   simp [Instr.alloc,run_zeroValue h1 h2,newVar,newRow]
  ·cases h
 ·cases h
def boxA (v:AV) (H:List AObj):Option (AV × List AObj) :=
 match cellsA v with
 | some cs=>some (.ptr H.length 0 0 0 0,H++[.box cs])
 | none=>none
theorem boxA_sound {P:Program} {E:Env} (HE:HRel E) {t:TypeId} {x v:AV} {c:Value} {H':List AObj} (h:boxA x E.H=some (v,H')) (hx:rel E x c) :
  ∃ u w',(Instr.box t c).run P E.w=.ok u w'∧OpPost E v H' u w':=by
 unfold boxA at h
 split at h
 ·rename_i cs hcs
  cases h
  obtain ⟨h1,h2⟩:=cells_rel hcs hx
  refine ⟨_,_,?_,new_box HE (vals:=c.cells) (el:=t) h1 h2⟩
  simp [Instr.box,newVar,newRow]
 ·cases h
theorem new_vec {E:Env} (HE:HRel E) {sz n C:Nat} {rows:List (List AV)} {vals rest:List Value} {el:TypeId} (hr:rLs E rows.flatten vals) (h1:∀ x∈vals,one1 x=true)
  (hw:∀ r∈rows,r.length=sz) (hcl:closedRows rows) (hn:rows.length=n) (hC:n≤C) (hrest:rest.length=(C-n)*sz) :
  OpPost E (.vec sz E.H.length 0 0 n) (E.H++[.vec sz 0 rows]) (.slice (some ⟨E.w.heap.size,0,none⟩) n C) { E.w with heap:=E.w.heap.push (.cells (vals++rest).toArray el) }:=by
 have hext:=Ext.push E.w (.cells (vals++rest).toArray el)
 have hle:=Env.le_push (o:=.vec sz 0 rows) (l:=some (E.w.heap.size,C)) HE.len hext (fun b n hb=>by cases hb; exact Nat.le_refl _)
 have hblk:(E.w.heap.push (.cells (vals++rest).toArray el))[E.w.heap.size]? = some (.cells (vals++rest).toArray el (0,0)):=by simp
 have hrow:=row_made (E':=E.push { E.w with heap:=E.w.heap.push (.cells (vals++rest).toArray el) } (.vec sz 0 rows) (some (E.w.heap.size,C))) (fun a c hr=>rel_le hle a hr) hblk hr h1 hw hn hC hrest
 refine ⟨E.loc++[some (E.w.heap.size,C)],E.X.r,?_,HRel.push HE hext (fun b n hb=>?_) ?_,hle⟩
 ·simp only [rel]
  refine ⟨⟨_,_,rfl,hC,fun _=>⟨_,_,rfl⟩⟩,⟨.vec sz 0 rows,by simp,fun v hv=>by simp [AObj.ver?] at hv; omega⟩,fun _=>⟨fun hn=>?_,fun b M hn=>?_⟩⟩
  ·rw [←HE.len] at hn; simp at hn
  ·rw [← HE.len] at hn
   simp at hn
   obtain ⟨rfl,rfl⟩:=hn
   exact ⟨by omega,0,fun _=>by simp,by simp⟩
 ·cases hb
  exact ⟨Nat.le_refl _,by simp⟩
 ·simp only [objRel]
  right
  refine ⟨E.w.heap.size,C,?_,hrow.1,by omega,hcl,hrow.2⟩
  simp only [Env.push]
  rw [←HE.len]
  simp
theorem range_zero (z:Array Value) (n:Nat) (hz:0<z.size):((Array.range (n*z.size)).map (fun i=>z[i%z.size]!)).toList=(List.replicate n z.toList).flatten:=by
 induction n with
 | zero=>simp
 | succ n ih =>
  rw [List.replicate_succ',List.flatten_append,←ih]
  simp only [List.flatten_cons,List.flatten_nil,List.append_nil]
  apply List.ext_getElem?
  intro i
  simp only [Array.toList_map,Array.toList_range,List.getElem?_map,List.getElem?_append,List.length_map,List.length_range]
  by_cases c1:i<n*z.size
  ·have c2 : i < (n + 1) * z.size := by rw [Nat.add_mul]; omega
   simp [c1,c2]
  ·by_cases c2 : i < (n + 1) * z.size
   ·have c3 : i - n * z.size < z.size := by rw [Nat.add_mul] at c2; omega
    have c4:i%z.size=i-n*z.size:=by
     have:i=i-n*z.size+n*z.size:=by omega
     rw [this,Nat.add_mul_mod_self_right,Nat.mod_eq_of_lt c3]
     omega
    simp [c1,c2,c4,c3]
   ·have c3 : ¬ (i - n * z.size < z.size) := by rw [Nat.add_mul] at c2; omega
    simp [c1,c2,c3]
theorem range_none (f:Nat→Value):Array.map f (Array.range 0)=#[]:=by apply Array.ext'; simp
def kdV:Value→Option Kd
 | .int k _=>some (.int k)
 | .string _=>some .str
 | .bool _=>some .bool
 | _=>none
def kdVs:List Value→Option (List Kd)
 | []=>some []
 | v::vs=>match kdV v,kdVs vs with
  | some k,some ks=>some (k::ks)
  | _,_=>none
def elemKs (P:Program) (t:TypeId):Option (List Kd):=match P.underlying t with
 | some (.slice e)=>match P.info? e with
  | some i=>match i.zero with
   | some (.agg cs)=>kdVs cs.toList
   | some v=>kdVs [v]
   | none=>none
  | none=>none
 | _=>none
def leafT (P:Program):Nat→TypeId→List TypeId
 | 0,t=>[t]
 | d+1,t=>match P.underlying t with
  | some (.struct fs)=>(fs.toList.map fun f=>leafT P d f.type).flatten
  | some (.array n e)=>(List.replicate n (leafT P d e)).flatten
  | _=>[t]
def zipZ:List Value→List (Option (List Kd))→List AV
 | [],_=>[]
 | v::vs,ks=>(match v,ks.headD none with
  | .slice none 0 0,some k=>.listF k []
  | v,_=>.lit v)::zipZ vs ks.tail
def zcells (P:Program) (e:TypeId) (z:List Value):List AV:=zipZ z ((leafT P 4 e).map (elemKs P))
theorem zipZ_length:∀ (z:List Value) (ks:List (Option (List Kd))),(zipZ z ks).length=z.length
 | [],_=>rfl
 | _::z,ks=>by simp [zipZ,zipZ_length z]
theorem zipZ_rel {E:Env}:∀ (z:List Value) (ks:List (Option (List Kd))),rLs E (zipZ z ks) z
 | [],_=>by simp [zipZ,rLs]
 | v::z,ks=>by
  simp only [zipZ,rLs]
  refine ⟨?_,zipZ_rel z _⟩
  split
  ·simp only [rel, relKd, G.rows]
   exact ⟨none,0,rfl,Nat.le_refl _,.inl (by first | rfl | trivial)⟩
  ·simp [rel]
theorem zipZ_closed:∀ (z:List Value) (ks:List (Option (List Kd))),AV.closedL (zipZ z ks)=true
 | [],_=>rfl
 | v::z,ks=>by
  simp only [zipZ,AV.closedL,zipZ_closed z,Bool.and_true]
  split<;>rfl
theorem replicate_cells {E:Env} {as:List AV} {z:List Value} (h:rLs E as z):∀ n:Nat,rLs E (List.replicate n as).flatten (List.replicate n z).flatten
 | 0=>by simp [rLs]
 | n+1=>by
  simp only [List.replicate_succ,List.flatten_cons]
  exact relList_append h (replicate_cells h n)
def makeSliceA (P:Program) (t:TypeId) (l c:AV) (H:List AObj):Option (AV × List AObj) :=
 match kindK P t,l,c with
 | .slice e sz by_,.lit (.int _ l),.lit (.int _ c) =>
  match zeroK P e with
  | some z=>if z.length=sz∧0<sz∧0≤l∧l≤c∧c≤1048576∧by_≤1048576 then
    some (.vec sz H.length 0 0 l.toNat,H++[.vec sz 0 (List.replicate l.toNat (zcells P e z))]) else none
  | none=>none
 | _,_,_=>none
theorem wrap_small {n:Int} (h0:0≤n) (h1:n≤1048576):IntKind.i64.wrap n=n:=by
 simp [IntKind.wrap,IntKind.bits,IntKind.signed]
 omega
theorem replicate_lits {E:Env} (z:List Value):∀ n:Nat,rLs E (List.replicate n (z.map AV.lit)).flatten (List.replicate n z).flatten
 | 0=>by simp [rLs]
 | n+1=>by
  simp only [List.replicate_succ,List.flatten_cons]
  exact relList_append (relList_lits z) (replicate_lits z n)
theorem mem_replicate_flatten {α:Type} {z:List α} {n:Nat} {x:α} (h:x∈(List.replicate n z).flatten):x∈z:=by
 obtain ⟨l,h1,h2⟩:=List.mem_flatten.1 h
 rw [List.eq_of_mem_replicate h1] at h2
 exact h2
theorem closed_lits:∀ (z:List Value),AV.closedL (z.map .lit)=true
 | []=>rfl
 | v::z=>by simp [AV.closedL,AV.closed,closed_lits z]
theorem makeSliceA_sound {P:Program} {E:Env} (HE:HRel E) {t:TypeId} {l c v:AV} {cl cc:Value} {H':List AObj} (h:makeSliceA P t l c E.H=some (v,H'))
  (hl:rel E l cl) (hc:rel E c cc):∃ u w',(Instr.makeSlice t cl cc).run P E.w=.ok u w'∧OpPost E v H' u w':=by
 unfold makeSliceA at h
 split at h
 case h_2=>cases h
 rename_i e sz by_ k1 l k2 c hk
 simp only [rel] at hl hc
 subst hl; subst hc
 obtain ⟨hu,i,hi,hs,hby⟩:=kind_slice hk
 split at h
 case h_2=>cases h
 rename_i z hz
 split at h
 case isFalse=>cases h
 rename_i hcond
 obtain ⟨g1,g2,g3,g4,g5,g6⟩:=hcond
 cases h
 obtain ⟨i',zv,hi',hz1,hz2,hz3⟩:=zeroK_some hz
 rw [hi] at hi'
 cases hi'
 have wl:IntKind.i64.wrap l=l:=wrap_small g3 (by omega)
 have wc:IntKind.i64.wrap c=c:=wrap_small (by omega) g5
 have hbc:(i.bytes:Int)*c≤1048576*1048576:=by
  have h1:(i.bytes:Int)≤1048576:=by omega
  have h2:(0:Int)≤c:=by omega
  exact Int.mul_le_mul h1 g5 h2 (by omega)
 have hne:¬ (281474976710656<(i.bytes:Int)*c):=by omega
 have hzs:zv.cells.size=sz:=by rw [←g1,←hz2]; simp
 have hsplit:(List.replicate l.toNat z).flatten++(List.replicate (c.toNat-l.toNat) z).flatten=(List.replicate c.toNat z).flatten:=by
  rw [←List.flatten_append,List.replicate_append_replicate]
  congr 2
  omega
 obtain ⟨vals,hv⟩:∃ vals,vals=(List.replicate l.toNat z).flatten:=⟨_,rfl⟩
 obtain ⟨rest,hre⟩:∃ rest,rest=(List.replicate (c.toNat-l.toNat) z).flatten:=⟨_,rfl⟩
 have hrest:rest.length=(c.toNat-l.toNat)*sz:=by rw [hre]; simp [g1]
 rw [←hv,←hre] at hsplit
 refine ⟨.slice (some ⟨E.w.heap.size,0,none⟩) l.toNat c.toNat,{ E.w with heap:=E.w.heap.push (.cells (vals++rest).toArray e) },?_,?_⟩
 ·have h1 : ¬ c < 0 := by omega
  have h2:¬ l<0:=by omega
  have h3:¬ c<l:=by omega
  simp only [Instr.makeSlice,Sem.run_bind,Sem.run_underlying_some hu,Result.andThen_ok,asInt,asIntOf,Sem.run_pure,typeInfo,run_program,hi,wl,wc]
  rw [if_neg (by simp [h1,h2,h3,hne])]
  simp only [Sem.run_bind,run_askRoom,Result.andThen_ok,Sem.run_sizeOf hi]
  rw [hsplit]
  by_cases h0:c.toNat*i.size=0
  ·have:c.toNat=0:=by
    rcases Nat.mul_eq_zero.1 h0 with h | h
    ·exact h
    ·omega
   rw [if_pos h0]
   simp only [Sem.run_bind,Sem.run_pure,Result.andThen_ok,newRow,this,Nat.zero_mul,range_none]
   simp
  ·rw [if_neg h0]
   simp only [Sem.run_bind,run_zeroValue hi hz1,Result.andThen_ok,Sem.run_pure,newRow]
   have:(Array.map (fun x=>zv.cells[x%zv.cells.size]!) (Array.range (c.toNat*i.size)))=(List.replicate c.toNat z).flatten.toArray:=by
    apply Array.ext'
    rw [hs,←hzs,range_zero zv.cells c.toNat (by omega),hz2]
   rw [this]
   simp
 ·refine new_vec HE (C := c.toNat) (by rw [hv]; exact replicate_cells (zipZ_rel z _) _) (by intro x hx; rw [hv] at hx; exact hz3 x (mem_replicate_flatten hx)) ?_ ?_ (by simp) (by omega) hrest
  ·intro r hr
   have:=List.eq_of_mem_replicate hr
   rw [this]
   rw [zcells,zipZ_length]; exact g1
  ·intro r hr
   have:=List.eq_of_mem_replicate hr
   rw [this]
   exact zipZ_closed z _
def buildSliceA (P:Program) (t:TypeId) (n:Nat) (parts:List (Nat × AV)):Option AV :=
 match kindK P t with
 | .slice e sz _=>match zeroK P e with
  | some z=>if z.length=sz∧0<sz∧n*sz≤1048576 then
    match fillA (fun i=>some (i*sz,sz)) (List.replicate n (z.map AV.lit)).flatten parts with
    | some out=>if AV.closedL out=true∧out.length=n*sz then some (match n with | 0=>.nils | _=>.list sz (chunk sz n out)) else none
    | none=>none
   else none
  | none=>none
 | _=>none
theorem run_buildSliceA {P:Program} {E:Env} (HE:HRel E) {t:TypeId} {n:Nat} {parts:List (Nat × AV)} {cparts:List (Nat × Value)} {v:AV} (h:buildSliceA P t n parts=some v)
  (hm:parts.map (·.1)=cparts.map (·.1)) (hv:rLs E (parts.map (·.2)) (cparts.map (·.2))) :
  ∃ u w',(Instr.buildSlice t n cparts.toArray).run P E.w=.ok u w'∧Ext E.w w'∧rel { E with w:=w' } v u:=by
 unfold buildSliceA at h
 split at h
 case h_2=>cases h
 rename_i e sz by_ hk
 obtain ⟨hu,i,hi,hs,_⟩:=kind_slice hk
 split at h
 case h_2=>cases h
 rename_i z hz
 obtain ⟨i',zv,hi',hz1,hz2,hz3⟩:=zeroK_some hz
 rw [hi] at hi'
 cases hi'
 split at h
 case isFalse=>cases h
 rename_i hc
 obtain ⟨g1,g2,g3⟩:=hc
 split at h
 case h_2=>cases h
 rename_i out hout
 split at h
 case isFalse=>cases h
 rename_i hcl
 cases h
 have hzs:zv.cells.size=sz:=by rw [←g1,←hz2]; simp
 obtain ⟨cells0,hc0⟩:∃ cells0:Array Value,cells0.toList=(List.replicate n z).flatten:=⟨((List.replicate n z).flatten).toArray,by simp⟩
 obtain ⟨o,f1,f2,f3⟩:=fillA_rel (E:=E) (cs:=cells0) hout (by rw [hc0]; exact replicate_lits z n) (by rw [hc0]; intro x hx; exact hz3 x (mem_replicate_flatten hx)) hm hv
 have hext:=Ext.push E.w (.cells o e)
 have hblk:(E.w.heap.push (.cells o e))[E.w.heap.size]? = some (.cells o e (0,0)):=by simp
 refine ⟨.slice (some ⟨E.w.heap.size,0,none⟩) n n,{ E.w with heap:=E.w.heap.push (.cells o e) },?_,hext,?_⟩
 ·have hno : ¬ (n * i.size > 2 ^ 24) := by rw [hs]; omega
  simp only [Instr.buildSlice,Sem.run_bind,Sem.run_underlying_some hu,Result.andThen_ok,Sem.run_sizeOf hi]
  rw [if_neg hno]
  by_cases h0:n*i.size=0
  ·have hn0:n=0:=by
    rcases Nat.mul_eq_zero.1 h0 with h | h
    ·exact h
    ·omega
   have:cells0=#[]:=by apply Array.ext'; rw [hc0,hn0]; rfl
   rw [if_pos h0]
   rw [this] at f1
   simp only [Sem.run_bind,Sem.run_pure,Result.andThen_ok,hn0,Nat.zero_mul,range_none,hs,f1]
   simp [newRow]
  ·rw [if_neg h0]
   simp only [Sem.run_bind,run_zeroValue hi hz1,Result.andThen_ok,Sem.run_pure]
   have:(Array.map (fun x=>zv.cells[x%zv.cells.size]!) (Array.range (n*i.size)))=cells0:=by
    apply Array.ext'
    rw [hs,←hzs,range_zero zv.cells n (by omega),hz2,hc0]
   rw [this,hs,f1]
   simp [newRow]
 ·have hle : E.le { E with w := { E.w with heap := E.w.heap.push (.cells o e) } } := Env.le_ext hext
  cases n with
  | zero=>simp only [rel]; exact ⟨_,rfl⟩
  | succ n =>
  simp only [rel]
  refine ⟨closed_chunk sz _ out hcl.1,some ⟨E.w.heap.size,0,none⟩,n+1,by rw [chunk_length],by rw [chunk_length]; exact Nat.le_refl _,.inr ⟨E.w.heap.size,0,rfl,?_,?_⟩⟩
  ·refine ⟨by simp, ?_, fun hx => by have := HE.X _ hx; omega⟩
   rintro ho
   have:=(HE.ownlt ho).1
   omega
  ·exact relRows_chunk sz _ out _ 0 hcl.2 (relCells_block (cs:=o) (el:=e) (fr:=(0,0)) hblk (relList_le hle _ f2) f3)
end Go.AL

namespace Go.AL
open Go
variable [Dr]
def rangeA (P:Program) (t:TypeId) (x:AV) (H:List AObj):Option (AV × List AObj) :=
 match kindK P t,x with
 | .str,.lit (.string s)=>some (.ptr H.length 0 0 0 0,H++[.iter s 0])
 | _,_=>none
theorem new_iter {E:Env} (HE:HRel E) (s:ByteArray) :
  OpPost E (.ptr E.H.length 0 0 0 0) (E.H++[.iter s 0]) (.pointer (some ⟨E.w.heap.size,0,none⟩)) { E.w with heap:=E.w.heap.push (.stringIter s 0) }:=by
 have hext:=Ext.push E.w (.stringIter s 0)
 have hle:=Env.le_push (o:=.iter s 0) (l:=some (E.w.heap.size,0)) HE.len hext (fun b n hb=>by cases hb; exact Nat.le_refl _)
 have hblk:(E.w.heap.push (.stringIter s 0))[E.w.heap.size]? = some (.stringIter s 0):=by simp
 refine ⟨E.loc++[some (E.w.heap.size,0)],E.X.r,?_,HRel.push HE hext (fun b n hb=>?_) ?_,hle⟩
 ·simp only [rel]
  refine ⟨⟨_,_,rfl⟩,⟨.iter s 0,by simp,fun v hv=>by simp⟩,fun _=>⟨E.w.heap.size,0,?_,by simp⟩⟩
  rw [←HE.len]; simp
 ·cases hb
  exact ⟨Nat.le_refl _,by simp⟩
 ·simp only [objRel]
  refine ⟨E.w.heap.size,0,?_,hblk⟩
  simp only [Env.push]; rw [←HE.len]; simp
theorem rangeA_sound {P:Program} {E:Env} (HE:HRel E) {t:TypeId} {x v:AV} {c:Value} {H':List AObj} (h:rangeA P t x E.H=some (v,H')) (hx:rel E x c) :
  ∃ u w',(Instr.range t c).run P E.w=.ok u w'∧OpPost E v H' u w':=by
 unfold rangeA at h
 split at h
 ·rename_i s hk
  cases h
  simp only [rel] at hx
  subst hx
  refine ⟨_,_,?_,new_iter HE s⟩
  simp [Instr.range,Sem.run_underlying_some (kind_str hk),newObj]
  rfl
 ·cases h
def nextA (x:AV) (isString:Bool) (H:List AObj):Option (AV × List AObj) :=
 match x,isString with
 | .ptr id 0 _ 0 0,true=>match H[id]? with
  | some (.iter s pos)=>if pos<s.size then some (.tuple [.lit (.bool true),.lit (goInt pos),.lit (.int .i32 (Utf8.decode s pos).1)],H.set id (.iter s (pos+(Utf8.decode s pos).2)))
    else some (.tuple [.lit (.bool false)],H)
  | _=>none
 | _,_=>none
theorem nextA_sound {P:Program} {E:Env} (HE:HRel E) {x v:AV} {c:Value} {isString:Bool} {ty:TypeId} {H':List AObj} (h:nextA x isString E.H=some (v,H')) (hx:rel E x c) :
  ∃ u w',(Instr.next c isString ty).run P E.w=.ok u w'∧OpPost E v H' u w':=by
 unfold nextA at h
 split at h
 case h_2=>cases h
 rename_i id k
 split at h
 case h_2=>cases h
 rename_i s pos hid
 have ho:=HE.obj id _ hid
 simp only [objRel] at ho
 obtain ⟨b,n,h1,h2⟩:=ho
 simp only [rel] at hx
 obtain ⟨_,_,h6⟩:=hx
 obtain ⟨b',n',g1,g2⟩:=h6 ⟨_,hid,rfl⟩
 rw [h1] at g1
 simp only [Option.some.injEq,Prod.mk.injEq] at g1
 obtain ⟨rfl,rfl⟩:=g1
 have hb:=(HE.lt id b n h1).1
 split at h
 ·rename_i hlt
  cases h
  subst g2
  have hsz:({ E.w with heap:=E.w.heap.setIfInBounds b (.stringIter s (pos+(Utf8.decode s pos).2)) }:World).heap.size=E.w.heap.size:=by simp
  have hsame:∀ y,y≠b→({ E.w with heap:=E.w.heap.setIfInBounds b (.stringIter s (pos+(Utf8.decode s pos).2)) }:World).heap[y]? = E.w.heap[y]? := by
   intro y hy
   simp only [Array.getElem?_setIfInBounds]
   rw [if_neg (fun e=>hy e.symm)]
  refine ⟨.tuple #[.bool true,goInt pos,.int .i32 (Utf8.decode s pos).1],{ E.w with heap:=E.w.heap.setIfInBounds b (.stringIter s (pos+(Utf8.decode s pos).2)) },?_,E.loc,E.X.r,?_,?_,?_⟩
  ·have e1 : (getObj b).run P E.w = .ok (.stringIter s pos) E.w := by simp [getObj, Sem.run, h2]
   have e2:(setObj b (.stringIter s (pos+(Utf8.decode s pos).2))).run P E.w=.ok () { E.w with heap:=E.w.heap.setIfInBounds b (.stringIter s (pos+(Utf8.decode s pos).2)) }:=by
    simp [setObj,Sem.run,h2]
   simp only [Instr.next,Nat.zero_mul,Nat.add_zero,Sem.run_bind,e1,Result.andThen_ok,hlt,if_true]
   rw [e2]
   rfl
  ·simp [rel,rLs]
  ·exact HE.set hid h1 (fun v hv=>hv) hsz hsame (by
    simp only [objRel]
    exact ⟨b,n,h1,by simp [hb]⟩)
  ·exact Env.le_set HE hid h1 (fun v hv=>hv) hsz hsame
 ·rename_i hlt
  cases h
  subst g2
  refine ⟨.tuple #[.bool false],E.w,?_,E.loc,E.X.r,by simp [rel,rLs],by simpa using HE,Env.le.refl E⟩
  have e1:(getObj b).run P E.w=.ok (.stringIter s pos) E.w:=by simp [getObj,Sem.run,h2]
  simp only [Instr.next,Nat.zero_mul,Nat.add_zero,Sem.run_bind,e1,Result.andThen_ok,hlt,if_false]
  rfl
end Go.AL

namespace Go.AL
open Go
variable [Dr]
def keyOkA (P:Program) (kt:TypeId) (a:AV):Option (List Value) :=
 match flatK P flatDepth kt with
 | none=>none
 | some ks=>match a with
  | .lit v=>if kindsOk ks [v]=true∧isStructD (P.underlying kt)=false then some [v] else none
  | .agg as=>match litsA as with
   | some l=>if kindsOk ks l=true∧isStructD (P.underlying kt)=true then some l else none
   | none=>none
  | _=>none
def keyVal (P:Program) (kt:TypeId) (l:List Value) (c:Value):Prop:=isVal P kt c l∧∃ ks,flatK P flatDepth kt=some ks∧kindsOk ks l=true
theorem keyOkA_rel {P:Program} {E:Env} {kt:TypeId} {a:AV} {l:List Value} {c:Value} (h:keyOkA P kt a=some l) (hr:rel E a c):keyVal P kt l c:=by
 unfold keyOkA at h
 split at h
 ·cases h
 rename_i ks hk
 split at h
 ·split at h
  ·rename_i v hc
   cases h
   simp only [rel] at hr
   subst hr
   refine ⟨?_,ks,hk,hc.1⟩
   unfold isVal
   split
   ·rename_i fs hu
    rw [hu] at hc
    exact absurd hc.2 (by simp [isStructD])
   ·rfl
  ·cases h
 ·split at h
  ·rename_i as l' hl
   split at h
   ·rename_i hc
    cases h
    simp only [rel] at hr
    obtain ⟨cs,rfl,_,h2⟩:=hr
    refine ⟨?_,ks,hk,hc.1⟩
    have e:=litsA_rel hl h2
    unfold isVal
    split
    ·exact ⟨cs,rfl,e⟩
    ·rename_i hno
     exfalso
     have:=hc.2
     unfold isStructD at this
     split at this
     ·rename_i fs hu
      exact hno fs hu
     ·cases this
   ·cases h
  ·cases h
 ·cases h
theorem flatF_each {P:Program}:∀ (d:Nat) (fs:List Field) (off:Nat) (ks:List SK),flatF P d fs off=some ks→∀ (xs:Array Value),kindsOk ks (xs.toList.drop off)=true→∀ w:World,∀ f∈fs,f.name ≠ "_" ∧
  ∃ k1 x vs,flatK P d f.type=some k1∧(part f.type xs f.offset).run P w=.ok x w∧isVal P f.type x vs∧kindsOk k1 vs=true
 | d,[],off,ks,hk,xs,kx,w,f,hf=>by cases hf
 | d,g::fs,off,ks,hk,xs,kx,w,f,hf=>by
  unfold flatF flatFs at hk
  split at hk
  ·cases hk
  rename_i hc
  split at hk
  case h_2=>cases hk
  rename_i k1 n ag e1 e2
  split at hk
  case isFalse=>cases hk
  rename_i hn
  split at hk
  case h_2=>cases hk
  rename_i l e3
  cases hk
  have hoff:g.offset=off:=by
   by_cases e:g.offset=off
   ·exact e
   ·exact (hc (.inr e)).elim
  obtain ⟨kx1,kx2⟩:=kindsOk_append kx
  rw [←hn] at kx1 kx2
  rcases List.mem_cons.1 hf with rfl | hf
  ·obtain ⟨x, px, vx⟩ := run_part_flat e2 e1 hn xs off kx1 w
   exact ⟨fun e=>hc (.inl e),k1,x,_,e1,by rw [hoff]; exact px,vx,kx1⟩
  ·exact flatF_each d fs (off+n) l e3 xs (by rw [List.drop_drop] at kx2; exact kx2) w f hf
theorem run_checkKey_flat {P:Program} (em:Bool):∀ (d:Nat) (t:TypeId) (ks:List SK),flatK P d t=some ks→∀ (D:Nat),d≤D→∀ (x:Value) (vs:List Value),isVal P t x vs→kindsOk ks vs=true →
  ∀ w,(Instr.checkKey em D t x).run P w=.ok () w
 | 0,_,_,hk=>by simp [flatK] at hk
 | d+1,t,ks,hk=>by
  intro D hD x vs hx kx w
  obtain ⟨D,rfl⟩:∃ D',D=D'+1:=⟨D-1,by omega⟩
  unfold flatK at hk
  cases hu:P.underlying t with
  | none=>rw [hu] at hk; cases hk
  | some de =>
   rw [hu] at hk
   cases de with
   | struct fs =>
    simp only [] at hk
    split at hk
    ·cases hk
    simp only [isVal,hu] at hx
    obtain ⟨a,rfl,rfl⟩:=hx
    have each:=flatF_each d fs.toList 0 ks hk a (by simpa using kx) w
    have deep:∀ f∈fs.toList,f.name ≠ "_" ∧ ∃ x,(part f.type a f.offset).run P w=.ok x w∧(Instr.checkKey em D f.type x).run P w=.ok () w:=fun f hf=>by
     obtain ⟨h1,k1,x,vs,h2,h3,h4,h5⟩:=each f hf
     exact ⟨h1,x,h3,run_checkKey_flat em d f.type k1 h2 D (by omega) x vs h4 h5 w⟩
    rw [Instr.checkKey]
    simp only [Sem.run_bind,Sem.run_underlying_some hu,Result.andThen_ok]
    rw [←Array.forIn_toList]
    clear each hk
    generalize fs.toList=L at deep
    induction L with
    | nil=>simp
    | cons f L ih =>
     obtain ⟨hn,x,p1,p2⟩:=deep f (by simp)
     simp only [List.forIn_cons,Sem.run_bind,hn,ne_eq,not_false_eq_true,if_true,Result.andThen_ok,p1,p2,Sem.run_pure]
     exact ih (fun y hy=>deep y (by simp [hy]))
   | int k =>
    simp at hk
    subst hk
    simp only [isVal,hu] at hx
    subst hx
    simp only [kindsOk,Bool.and_true] at kx
    unfold kindOk at kx
    split at kx<;>simp_all [Instr.checkKey,Sem.run_underlying_some hu]
   | string =>
    simp at hk
    subst hk
    simp only [isVal,hu] at hx
    subst hx
    simp only [kindsOk,Bool.and_true] at kx
    unfold kindOk at kx
    split at kx<;>simp_all [Instr.checkKey,Sem.run_underlying_some hu]
   | bool =>
    simp at hk
    subst hk
    simp only [isVal,hu] at hx
    subst hx
    simp only [kindsOk,Bool.and_true] at kx
    unfold kindOk at kx
    split at kx<;>simp_all [Instr.checkKey,Sem.run_underlying_some hu]
   | _=>simp at hk
theorem keyVal_check {P:Program} {kt:TypeId} {l:List Value} {c:Value} (h:keyVal P kt l c) (em:Bool) (w:World):(Instr.checkKey em 10000 kt c).run P w=.ok () w:=by
 obtain ⟨h1,ks,h2,h3⟩:=h
 exact run_checkKey_flat em flatDepth kt ks h2 10000 (by decide) c l h1 h3 w
theorem keyVal_equal {P:Program} {kt:TypeId} {l m:List Value} {c d:Value} (h:keyVal P kt l c) (h':keyVal P kt m d) (w:World):(Op.equal kt c d).run P w=.ok (veqs l m) w:=by
 obtain ⟨h1,ks,h2,h3⟩:=h
 obtain ⟨h4,ks',h5,h6⟩:=h'
 rw [h2] at h5
 cases h5
 exact run_equalIn_flat flatDepth kt ks h2 10000 (by decide) c d l m h1 h4 h3 h6 w
def findA (P:Program) (kt:TypeId) (k:List Value):List (AV × AV × Nat)→Nat→Option (Option (Nat × AV))
 | [],_=>some none
 | (k',v,_)::es,i=>match keyOkA P kt k' with
  | some l=>bif veqs k l then some (some (i,v)) else findA P kt k es (i+1)
  | none=>none
def FoundAs (E:Env) (ms:List MapEntry) (i0:Nat):Option (Nat × AV)→Option (Nat × Value)→Prop
 | none,none=>True
 | some (i,v),some (j,c)=>i=j∧rel E v c∧i0≤i∧∃ e,ms[i-i0]? = some e∧e.val=c
 | _,_=>False
theorem run_findAsking_flat {P:Program} {E:Env} {kt:TypeId} {k:List Value} {c:Value} (hk:keyVal P kt k c) (w:World):∀ (es:List (AV × AV × Nat)) (ms:List MapEntry) (i:Nat) (r:Option (Nat × AV)),
  relEntries E es ms→findA P kt k es i=some r→∃ r',(Instr.findAsking kt c ms i).run P w=.ok r' w∧FoundAs E ms i r r'
 | [],[],i,r,_,h=>by
  simp only [findA,Option.some.injEq] at h
  subst h
  exact ⟨none,rfl,trivial⟩
 | [],_::_,_,_,hr,_=>by simp [relEntries] at hr
 | (_,_,_)::_,[],_,_,hr,_=>by simp [relEntries] at hr
 | (k',v,n)::es,e::ms,i,r,hr,h=>by
  simp only [relEntries] at hr
  obtain ⟨h1,h2,h3,h4,h5,h6⟩:=hr
  simp only [findA] at h
  split at h
  case h_2=>cases h
  rename_i l hl
  have he:=keyVal_equal hk (keyOkA_rel hl h1) w
  cases hv:veqs k l with
  | true =>
   rw [hv] at h he
   cases h
   refine ⟨some (i,e.val),by simp [Instr.findAsking,he],rfl,h2,Nat.le_refl _,e,by simp,rfl⟩
  | false =>
   rw [hv] at h he
   obtain ⟨r',g1,g2⟩:=run_findAsking_flat hk w es ms (i+1) r h6 h
   refine ⟨r',by simp [Instr.findAsking,he,g1],?_⟩
   cases r with
   | none=>cases r' with
    | none=>trivial
    | some _=>simp [FoundAs] at g2
   | some p=>cases r' with
    | none=>simp [FoundAs] at g2
    | some q =>
     simp only [FoundAs] at g2 ⊢
     obtain ⟨q1,q2,q3,e',q4,q5⟩:=g2
     refine ⟨q1,q2,by omega,e',?_,q5⟩
     rw [show p.1-i=(p.1-(i+1))+1 from by omega]
     simpa using q4
theorem findNow_flat {P:Program} {E:Env} {kt:TypeId} {k:List Value} {c:Value} {d:TypeDesc} (hu:P.underlying kt=some d) (hk:keyVal P kt k c):∀ (es:List (AV × AV × Nat)) (ms:List MapEntry) (i:Nat) (r:Option (Nat × AV)),
  relEntries E es ms→findA P kt k es i=some r→(∃ r',Instr.findNow d c ms i=some r'∧FoundAs E ms i r r')∨Instr.findNow d c ms i=none
 | [],[],i,r,_,h=>by
  simp only [findA,Option.some.injEq] at h
  subst h
  exact .inl ⟨none,rfl,trivial⟩
 | [],_::_,_,_,hr,_=>by simp [relEntries] at hr
 | (_,_,_)::_,[],_,_,hr,_=>by simp [relEntries] at hr
 | (k',v,n)::es,e::ms,i,r,hr,h=>by
  simp only [relEntries] at hr
  obtain ⟨h1,h2,h3,h4,h5,h6⟩:=hr
  simp only [findA] at h
  split at h
  case h_2=>cases h
  rename_i l hl
  have hkv:=keyOkA_rel hl h1
  have same:Instr.sameNow d c e.key=some (veqs k l)∨Instr.sameNow d c e.key=none:=by
   obtain ⟨p1,ks,p2,p3⟩:=hk
   obtain ⟨q1,ks',q2,q3⟩:=hkv
   rw [p2] at q2
   cases q2
   unfold flatDepth at p2
   unfold flatK at p2
   rw [hu] at p2
   cases d with
   | struct fs=>right; simp [Instr.sameNow]
   | int kk =>
    simp at p2
    subst p2
    simp only [isVal,hu] at p1 q1
    subst p1; subst q1
    simp only [kindsOk,Bool.and_true] at p3 q3
    unfold kindOk at p3 q3
    left
    split at p3<;>split at q3<;>simp_all [Instr.sameNow,veqs,veq]
   | string =>
    simp at p2
    subst p2
    simp only [isVal,hu] at p1 q1
    subst p1; subst q1
    simp only [kindsOk,Bool.and_true] at p3 q3
    unfold kindOk at p3 q3
    left
    split at p3<;>split at q3<;>simp_all [Instr.sameNow,veqs,veq,beq_toListBytes]
   | bool =>
    simp at p2
    subst p2
    simp only [isVal,hu] at p1 q1
    subst p1; subst q1
    simp only [kindsOk,Bool.and_true] at p3 q3
    unfold kindOk at p3 q3
    left
    split at p3<;>split at q3<;>simp_all [Instr.sameNow,veqs,veq]
   | _=>simp at p2
  rcases same with hs | hs
  ·cases hv : veqs k l with
   | true =>
    rw [hv] at h hs
    cases h
    exact .inl ⟨some (i,e.val),by simp [Instr.findNow,hs],rfl,h2,Nat.le_refl _,e,by simp,rfl⟩
   | false =>
    rw [hv] at h hs
    rcases findNow_flat hu hk es ms (i+1) r h6 h with ⟨r',g1,g2⟩ | g
    ·refine .inl ⟨r', by simp [Instr.findNow, hs, g1], ?_⟩
     cases r with
     | none=>cases r' with
      | none=>trivial
      | some _=>simp [FoundAs] at g2
     | some p=>cases r' with
      | none=>simp [FoundAs] at g2
      | some q =>
       simp only [FoundAs] at g2 ⊢
       obtain ⟨q1,q2,q3,e',q4,q5⟩:=g2
       refine ⟨q1,q2,by omega,e',?_,q5⟩
       rw [show p.1-i=(p.1-(i+1))+1 from by omega]
       simpa using q4
    ·exact .inr (by simp [Instr.findNow,hs,g])
  ·exact .inr (by simp [Instr.findNow,hs])
theorem run_findKey_flat {P:Program} {E:Env} {kt:TypeId} {k:List Value} {c:Value} (hk:keyVal P kt k c) (w:World) {es:List (AV × AV × Nat)} {ms:List MapEntry} {r:Option (Nat × AV)}
  (hr:relEntries E es ms) (h:findA P kt k es 0=some r):∃ r',(Instr.findKey kt c ms).run P w=.ok r' w∧FoundAs E ms 0 r r':=by
 have hu:∃ d,P.underlying kt=some d:=by
  obtain ⟨_,ks,p2,_⟩:=hk
  unfold flatDepth at p2
  unfold flatK at p2
  split at p2<;>first | exact ⟨_,by assumption⟩ | cases p2
 obtain ⟨d,hu⟩:=hu
 rcases findNow_flat hu hk es ms 0 r hr h with ⟨r',g1,g2⟩ | g
 ·exact ⟨r',by simp [Instr.findKey,Sem.run_underlying_some hu,g1],g2⟩
 ·obtain ⟨r', g1, g2⟩ := run_findAsking_flat hk w es ms 0 r hr h
  exact ⟨r',by simp [Instr.findKey,Sem.run_underlying_some hu,g,g1],g2⟩
def mapTy (P:Program) (t:TypeId):Option (TypeId × TypeId):=match P.underlying t with
 | some (.map k e)=>some (k,e)
 | _=>none
theorem mapTy_some {P:Program} {t k e:TypeId} (h:mapTy P t=some (k,e)):P.underlying t=some (.map k e):=by
 unfold mapTy at h
 split at h
 ·rename_i h1; cases h; exact h1
 ·cases h
def zeroA (P:Program) (t:TypeId):Option AV:=match P.info? t with
 | some i=>match i.zero with
  | some z=>some (AV.ofV z)
  | none=>none
 | none=>none
theorem zeroA_run {P:Program} {t:TypeId} {a:AV} (h:zeroA P t=some a) (w:World):∃ z,(zeroValue t).run P w=.ok z w∧∀ E,rel E a z:=by
 unfold zeroA at h
 split at h
 ·rename_i i hi
  split at h
  ·rename_i z hz
   cases h
   exact ⟨z,run_zeroValue hi hz w,fun E=>rel_ofV E z⟩
  ·cases h
 ·cases h
def zeroM (P:Program) (t:TypeId):Option AV:=match zeroA P t,elemKs P t with
 | some (.lit (.slice none 0 0)),some ks=>some (.listF ks [])
 | some z,_=>some z
 | none,_=>none
theorem zeroM_run {P:Program} {t:TypeId} {a:AV} (h:zeroM P t=some a) (w:World):∃ z,(zeroValue t).run P w=.ok z w∧∀ E,rel E a z:=by
 unfold zeroM at h
 split at h
 ·rename_i ks h1 h2
  cases h
  obtain ⟨z,g1,g2⟩:=zeroA_run h1 w
  refine ⟨z,g1,fun E=>?_⟩
  have:=g2 E
  simp only [rel] at this
  subst this
  simp only [rel,relKd,G.rows]
  exact ⟨none,0,rfl,Nat.le_refl _,.inl (by first | rfl | trivial)⟩
 ·rename_i z h1 _
  cases h
  exact zeroA_run ‹zeroA P t=some a› w
 ·cases h
def lookupA (P:Program) (t:TypeId) (m k:AV) (ok:Bool) (H:List AObj):Option AV :=
 match mapTy P t,m with
 | some (kt,et),.map id=>match H[id]? with
  | some (.map es _)=>match keyOkA P kt k,zeroM P et with
   | some kv,some z=>match findA P kt kv es 0 with
    | some r=>let v:=match r with
      | some (_,v)=>v
      | none=>z
     some (match ok with
      | true=>.tuple [v,.lit (.bool r.isSome)]
      | false=>v)
    | none=>none
   | _,_=>none
  | _=>none
 | _,_=>none
theorem rel_map {E:Env} (HE:HRel E) {id cl:Nat} {es:List (AV × AV × Nat)} {c:Value} (hid:E.H[id]? = some (.map es cl)) (hr:rel E (.map id) c) :
  ∃ b n ms,c=.map (some b)∧E.loc[id]? = some (some (b,n))∧E.w.heap[b]? = some (.map ms cl)∧relEntries E es ms.toList:=by
 have ho:=HE.obj id _ hid
 simp only [objRel] at ho
 obtain ⟨b,n,ms,h1,h2,h3⟩:=ho
 simp only [rel] at hr
 obtain ⟨_,_,h6⟩:=hr
 obtain ⟨b',n',g1,g2⟩:=h6 ⟨_,hid,rfl⟩
 rw [h1] at g1
 simp only [Option.some.injEq,Prod.mk.injEq] at g1
 obtain ⟨rfl,rfl⟩:=g1
 exact ⟨b,n,ms,g2,h1,h2,h3⟩
theorem run_lookup_sound {P:Program} {E:Env} (HE:HRel E) {t:TypeId} {m k v:AV} {ok:Bool} {c d:Value} (h:lookupA P t m k ok E.H=some v) (hm:rel E m c) (hk:rel E k d) :
  ∃ u,(Instr.lookup t c d ok).run P E.w=.ok u E.w∧rel E v u:=by
 unfold lookupA at h
 split at h
 case h_2=>cases h
 rename_i kt et id ht
 split at h
 case h_2=>cases h
 rename_i es cl hid
 split at h
 case h_2=>cases h
 rename_i kv z hkv hz
 split at h
 case h_2=>cases h
 rename_i r hr
 obtain ⟨b,n,ms,rfl,h1,h2,h3⟩:=rel_map HE hid hm
 have hkv':=keyOkA_rel hkv hk
 obtain ⟨r',g1,g2⟩:=run_findKey_flat hkv' E.w h3 hr
 obtain ⟨zv,z1,z2⟩:=zeroM_run hz E.w
 have e1:(getObj b).run P E.w=.ok (.map ms cl) E.w:=by simp [getObj,Sem.run,h2]
 cases h
 cases r with
 | none =>
  cases r' with
  | some _=>simp [FoundAs] at g2
  | none =>
   refine ⟨if ok then .tuple #[zv,.bool false] else zv,?_,?_⟩
   ·simp only [Instr.lookup,Sem.run_bind,Sem.run_underlying_some (mapTy_some ht),Result.andThen_ok,e1,Sem.run_pure,keyVal_check hkv',g1,z1]
   ·cases ok with
    | true=>simp [rel,rLs,z2 E]
    | false=>simpa using z2 E
 | some p =>
  cases r' with
  | none=>simp [FoundAs] at g2
  | some q =>
   simp only [FoundAs] at g2
   obtain ⟨q1,q2,_,_,_,_⟩:=g2
   refine ⟨if ok then .tuple #[q.2,.bool true] else q.2,?_,?_⟩
   ·simp only [Instr.lookup,Sem.run_bind,Sem.run_underlying_some (mapTy_some ht),Result.andThen_ok,e1,Sem.run_pure,keyVal_check hkv',g1]
   ·cases ok with
    | true=>simp [rel,rLs,q2]
    | false=>simpa using q2
theorem new_map {E:Env} (HE:HRel E):OpPost E (.map E.H.length) (E.H++[.map [] 0]) (.map (some E.w.heap.size)) { E.w with heap:=E.w.heap.push (.map #[] 0) }:=by
 have hext:=Ext.push E.w (.map #[] 0)
 have hle:=Env.le_push (o:=.map [] 0) (l:=some (E.w.heap.size,0)) HE.len hext (fun b n hb=>by cases hb; exact Nat.le_refl _)
 have hblk:(E.w.heap.push (.map #[] 0))[E.w.heap.size]? = some (.map #[] 0):=by simp
 refine ⟨E.loc++[some (E.w.heap.size,0)],E.X.r,?_,HRel.push HE hext (fun b n hb=>?_) ?_,hle⟩
 ·simp only [rel]
  refine ⟨⟨_,rfl⟩,⟨.map [] 0,by simp,fun v hv=>Nat.zero_le _⟩,fun _=>⟨E.w.heap.size,0,?_,rfl⟩⟩
  rw [←HE.len]; simp
 ·cases hb
  exact ⟨Nat.le_refl _,by simp⟩
 ·simp only [objRel]
  refine ⟨E.w.heap.size,0,#[],?_,hblk,by simp [relEntries]⟩
  simp only [Env.push]; rw [←HE.len]; simp
theorem bytesEq {a b:ByteArray} (h:a.toList=b.toList):a=b:=by
 have h1:(a==b)=true:=by rw [beq_toListBytes,h]; simp
 obtain ⟨x⟩:=a
 obtain ⟨y⟩:=b
 have e:x=y:=by simpa using (show (x==y)=true from h1)
 rw [e]
theorem veqs_eq:∀ {l m:List Value} {ks:List SK},kindsOk ks l=true→kindsOk ks m=true→veqs l m=true→l=m
 | [],[],_,_,_,_=>rfl
 | a::l,b::m,ks,h1,h2,h=>by
  cases ks with
  | nil=>simp [kindsOk] at h1
  | cons k ks =>
   simp only [kindsOk,Bool.and_eq_true] at h1 h2
   simp only [veqs,Bool.and_eq_true] at h
   have e:a=b:=by
    have hk1:=h1.1
    have hk2:=h2.1
    have hv:=h.1
    unfold kindOk at hk1 hk2
    split at hk1<;>split at hk2<;>simp_all [veq]
    exact bytesEq h.1
   rw [e,veqs_eq h1.2 h2.2 h.2]
 | [],_::_,_,_,_,h | _::_,[],_,_,_,h=>by simp [veqs] at h
theorem sameBits_flat {ks:List SK}:∀ {l:List Value},kindsOk ks l=true→∀ (n:Nat),(l.zip l).all (fun (x,y)=>Instr.sameBits n x y)=true:=by
 intro l
 induction l generalizing ks with
 | nil=>intro _ _; rfl
 | cons a l ih =>
  intro h n
  cases ks with
  | nil=>simp [kindsOk] at h
  | cons k ks =>
   simp only [kindsOk,Bool.and_eq_true] at h
   simp only [List.zip_cons_cons,List.all_cons,Bool.and_eq_true]
   refine ⟨?_,ih h.2 n⟩
   have hk:=h.1
   unfold kindOk at hk
   split at hk<;>cases n<;>simp_all [Instr.sameBits,beq_toListBytes]
theorem keyVal_same {P:Program} {kt:TypeId} {l m:List Value} {c d:Value} (h:keyVal P kt l c) (h':keyVal P kt m d) (he:veqs l m=true):c=d∧Instr.sameBits 10000 d c=true:=by
 obtain ⟨h1,ks,h2,h3⟩:=h
 obtain ⟨h4,ks',h5,h6⟩:=h'
 rw [h2] at h5
 cases h5
 have e:=veqs_eq h3 h6 he
 subst e
 unfold isVal at h1 h4
 split at h1
 ·rename_i fs hu
  rw [hu] at h4
  simp only [] at h4
  obtain ⟨a,rfl,ha⟩:=h1
  obtain ⟨b,rfl,hb⟩:=h4
  have:a=b:=by apply Array.ext'; rw [ha,hb]
  subst this
  refine ⟨rfl,?_⟩
  simp only [Instr.sameBits,beq_self_eq_true,Bool.true_and]
  rw [ha]
  exact sameBits_flat h3 9999
 ·rename_i hno
  split at h4
  ·rename_i fs hu
   exact (hno fs hu).elim
  ·have : c = d := by rw [h1] at h4; simpa using h4
   subst this
   refine ⟨rfl,?_⟩
   have:=sameBits_flat h3 10000
   rw [h1] at this
   simpa using this
def mapUpdateA (P:Program) (t:TypeId) (m k v:AV) (H:List AObj):Option (List AObj) :=
 match mapTy P t,m with
 | some (kt,_),.map id=>match H[id]? with
  | some (.map es cl)=>match keyOkA P kt k with
   | some kv=>if v.closed=true∧k.closed=true then
     match findA P kt kv es 0 with
     | some (some (i,_))=>some (H.set id (.map (es.modify i fun e=>(k,v,e.2.2)) cl))
     | some none=>some (H.set id (.map (es++[(k,v,cl)]) (cl+1)))
     | none=>none
    else none
   | none=>none
  | _=>none
 | _,_=>none
theorem relEntries_iff {E:Env}:∀ {es:List (AV × AV × Nat)} {ms:List MapEntry},relEntries E es ms↔es.length=ms.length∧∀ (i:Nat) x e,es[i]? = some x→ms[i]? = some e →
  rel E x.1 e.key∧rel E x.2.1 e.val∧e.born=x.2.2∧x.1.closed=true∧x.2.1.closed=true
 | [],[]=>by simp [relEntries]
 | [],_::_=>by simp [relEntries]
 | (_,_,_)::_,[]=>by simp [relEntries]
 | (k,v,n)::es,e::ms=>by
  simp only [relEntries,relEntries_iff (es:=es),List.length_cons]
  constructor
  ·rintro ⟨h1, h2, h3, h4, h5, h6, h7⟩
   refine ⟨by omega,fun i x y hx hy=>?_⟩
   cases i with
   | zero=>simp at hx hy; subst hx; subst hy; exact ⟨h1,h2,h3,h4,h5⟩
   | succ i=>exact h7 i x y (by simpa using hx) (by simpa using hy)
  ·rintro ⟨h1, h2⟩
   obtain ⟨a1,a2,a3,a4,a5⟩:=h2 0 (k,v,n) e rfl rfl
   exact ⟨a1,a2,a3,a4,a5,by omega,fun i x y hx hy=>h2 (i+1) x y (by simpa using hx) (by simpa using hy)⟩
theorem set_map {P:Program} {E:Env} (HE:HRel E) {id b n cl cl':Nat} {es es':List (AV × AV × Nat)} {ms ms':Array MapEntry} (hid:E.H[id]? = some (.map es cl)) (hloc:E.loc[id]? = some (some (b,n)))
  (hb:E.w.heap[b]? = some (.map ms cl)) (hr:relEntries E es' ms'.toList) :
  ∃ w',(setObj b (.map ms' cl')).run P E.w=.ok () w'∧HRel { w:=w',H:=E.H.set id (.map es' cl'),loc:=E.loc,X:=E.X }∧E.le { w:=w',H:=E.H.set id (.map es' cl'),loc:=E.loc,X:=E.X }:=by
 have hlt:=(HE.lt id b n hloc).1
 have hsz:({ E.w with heap:=E.w.heap.setIfInBounds b (.map ms' cl') }:World).heap.size=E.w.heap.size:=by simp
 have hsame:∀ y,y≠b→({ E.w with heap:=E.w.heap.setIfInBounds b (.map ms' cl') }:World).heap[y]? = E.w.heap[y]? := by
  intro y hy
  simp only [Array.getElem?_setIfInBounds]
  rw [if_neg (fun e=>hy e.symm)]
 refine ⟨{ E.w with heap:=E.w.heap.setIfInBounds b (.map ms' cl') },by simp [setObj,Sem.run,hb],?_,?_⟩
 ·have hle : E.le { w := { E.w with heap := E.w.heap.setIfInBounds b (.map ms' cl') }, H := E.H.set id (.map es' cl'), loc := E.loc, X := E.X } := Env.le_set HE hid hloc (fun v hv => hv) hsz hsame
  refine HE.set hid hloc (fun v hv=>hv) hsz hsame ?_
  simp only [objRel]
  refine ⟨b,n,ms',hloc,by simp [hlt],?_⟩
  rw [relEntries_iff] at hr ⊢
  refine ⟨hr.1,fun i x e hx he=>?_⟩
  obtain ⟨a1,a2,a3,a4,a5⟩:=hr.2 i x e hx he
  exact ⟨rel_le hle _ a1,rel_le hle _ a2,a3,a4,a5⟩
 ·exact Env.le_set HE hid hloc (fun v hv=>hv) hsz hsame
theorem findA_pos {P:Program} {kt:TypeId} {k:List Value}:∀ {es:List (AV × AV × Nat)} {i j:Nat} {v:AV},findA P kt k es i=some (some (j,v))→i≤j∧∃ x l,es[j-i]? = some x∧keyOkA P kt x.1=some l∧veqs k l=true
 | [],_,_,_,h=>by simp [findA] at h
 | (k',v',n)::es,i,j,v,h=>by
  simp only [findA] at h
  split at h
  case h_2=>cases h
  rename_i l hl
  cases hv:veqs k l with
  | true =>
   rw [hv] at h
   cases h
   exact ⟨Nat.le_refl _,(k',v',n),l,by simp,hl,hv⟩
  | false =>
   rw [hv] at h
   obtain ⟨h1,x,l',h2,h3,h4⟩:=findA_pos h
   refine ⟨by omega,x,l',?_,h3,h4⟩
   rw [show j-i=(j-(i+1))+1 from by omega]
   simpa using h2
theorem mapUpdateA_sound {P:Program} {E:Env} (HE:HRel E) {t:TypeId} {m k v:AV} {c d u:Value} {H':List AObj} (h:mapUpdateA P t m k v E.H=some H') (hm:rel E m c) (hk:rel E k d) (hv:rel E v u) :
  ∃ w',(Instr.mapUpdate t c d u).run P E.w=.ok () w'∧HRel { w:=w',H:=H',loc:=E.loc,X:=E.X }∧E.le { w:=w',H:=H',loc:=E.loc,X:=E.X }:=by
 unfold mapUpdateA at h
 split at h
 case h_2=>cases h
 rename_i kt et id ht
 split at h
 case h_2=>cases h
 rename_i es cl hid
 split at h
 case h_2=>cases h
 rename_i kv hkv
 split at h
 case isFalse=>cases h
 rename_i hcl
 obtain ⟨b,n,ms,rfl,h1,h2,h3⟩:=rel_map HE hid hm
 have hkv':=keyOkA_rel hkv hk
 have e1:(getObj b).run P E.w=.ok (.map ms cl) E.w:=by simp [getObj,Sem.run,h2]
 obtain ⟨hlen,hall⟩:=relEntries_iff.1 h3
 split at h
 ·rename_i i v0 hf
  cases h
  obtain ⟨r',g1,g2⟩:=run_findKey_flat hkv' E.w h3 hf
  cases r' with
  | none=>simp [FoundAs] at g2
  | some q =>
   simp only [FoundAs] at g2
   obtain ⟨q1,q2,_,e',q4,q5⟩:=g2
   obtain ⟨_,x,l,f1,f2,f3⟩:=findA_pos hf
   simp only [Nat.sub_zero] at q4 f1
   obtain ⟨a1,a2,a3,a4,a5⟩:=hall i x e' f1 q4
   obtain ⟨s1,s2⟩:=keyVal_same hkv' (keyOkA_rel f2 a1) f3
   have q4':ms[i]? = some e':=by simpa using q4
   obtain ⟨w',r1,r2,r3⟩:=set_map (P:=P) HE (es':=es.modify i fun e=>(k,v,e.2.2)) (ms':=ms.modify i fun e=>{ e with key:=d,val:=u }) (cl':=cl) hid h1 h2 (by
    rw [relEntries_iff]
    refine ⟨by simp [hlen],fun j y z hy hz=>?_⟩
    simp only [List.getElem?_modify] at hy
    simp only [Array.toList_modify,List.getElem?_modify] at hz
    obtain ⟨y0,hy0,rfl⟩:=Option.map_eq_some_iff.1 hy
    obtain ⟨z0,hz0,rfl⟩:=Option.map_eq_some_iff.1 hz
    obtain ⟨b1,b2,b3,b4,b5⟩:=hall j y0 z0 hy0 hz0
    by_cases e:i=j
    ·subst e
     simp only [if_true]
     exact ⟨hk,hv,b3,hcl.2,hcl.1⟩
    ·simp only [if_neg e]
     exact ⟨b1,b2,b3,b4,b5⟩)
   refine ⟨w',?_,r2,r3⟩
   subst q1
   have hst:(Instr.keyThatStays e'.key d).run P E.w=.ok d E.w:=by simp [Instr.keyThatStays,s2]
   simp only [Instr.mapUpdate,Sem.run_bind,Sem.run_underlying_some (mapTy_some ht),Result.andThen_ok,e1,keyVal_check hkv',g1,q4',Option.map_some,Option.getD_some,hst]
   exact r1
 ·rename_i hf
  cases h
  obtain ⟨r',g1,g2⟩:=run_findKey_flat hkv' E.w h3 hf
  cases r' with
  | some _=>simp [FoundAs] at g2
  | none =>
   obtain ⟨w',r1,r2,r3⟩:=set_map (P:=P) HE (es':=es++[(k,v,cl)]) (ms':=ms.push { key:=d,val:=u,born:=cl }) (cl':=cl+1) hid h1 h2 (by
    rw [relEntries_iff]
    refine ⟨by simp [hlen],fun j y z hy hz=>?_⟩
    simp only [Array.toList_push,List.getElem?_append,hlen] at hy hz
    by_cases e:j<ms.toList.length
    ·simp only [if_pos e] at hy hz
     exact hall j y z hy hz
    ·simp only [if_neg e] at hy hz
     cases hj:j-ms.toList.length with
     | zero =>
      rw [hj] at hy hz
      simp at hy hz
      subst hy; subst hz
      exact ⟨hk,hv,rfl,hcl.2,hcl.1⟩
     | succ _=>rw [hj] at hy; simp at hy)
   refine ⟨w',?_,r2,r3⟩
   simp only [Instr.mapUpdate,Sem.run_bind,Sem.run_underlying_some (mapTy_some ht),Result.andThen_ok,e1,keyVal_check hkv',g1]
   exact r1
 ·cases h
def mapDeleteA (P:Program) (t:TypeId) (m k:AV) (H:List AObj):Option (List AObj) :=
 match mapTy P t,m with
 | some (kt,_),.map id=>match H[id]? with
  | some (.map es cl)=>match keyOkA P kt k with
   | some kv=>match findA P kt kv es 0 with
    | some (some (i,_))=>some (H.set id (.map (es.eraseIdx i) cl))
    | some none=>some (H.set id (.map es cl))
    | none=>none
   | none=>none
  | _=>none
 | _,_=>none
theorem mapDeleteA_sound {P:Program} {E:Env} (HE:HRel E) {t ty:TypeId} {tys:Array TypeId} {m k:AV} {c d:Value} {cs:Array Value} {H':List AObj} (h:mapDeleteA P t m k E.H=some H') (h0:tys[0]? = some t)
  (h1':cs[0]? = some c) (h2':cs[1]? = some d) (hm:rel E m c) (hk:rel E k d) :
  ∃ w',(Builtin.delete_ tys ty cs).run P E.w=.ok (.tuple #[]) w'∧HRel { w:=w',H:=H',loc:=E.loc,X:=E.X }∧E.le { w:=w',H:=H',loc:=E.loc,X:=E.X }:=by
 unfold mapDeleteA at h
 split at h
 case h_2=>cases h
 rename_i kt et id ht
 split at h
 case h_2=>cases h
 rename_i es cl hid
 split at h
 case h_2=>cases h
 rename_i kv hkv
 obtain ⟨b,n,ms,rfl,h1,h2,h3⟩:=rel_map HE hid hm
 have hkv':=keyOkA_rel hkv hk
 have e1:(getObj b).run P E.w=.ok (.map ms cl) E.w:=by simp [getObj,Sem.run,h2]
 obtain ⟨hlen,hall⟩:=relEntries_iff.1 h3
 split at h
 ·rename_i i v0 hf
  cases h
  obtain ⟨r',g1,g2⟩:=run_findKey_flat hkv' E.w h3 hf
  cases r' with
  | none=>simp [FoundAs] at g2
  | some q =>
   simp only [FoundAs] at g2
   obtain ⟨q1,q2,_,e',q4,q5⟩:=g2
   obtain ⟨w',r1,r2,r3⟩:=set_map (P:=P) HE (es':=es.eraseIdx i) (ms':=ms.eraseIdxIfInBounds i) (cl':=cl) hid h1 h2 (by
    rw [relEntries_iff]
    have e:(ms.eraseIdxIfInBounds i).toList=ms.toList.eraseIdx i:=by simp
    rw [e]
    refine ⟨by simp [List.length_eraseIdx,hlen],fun j y z hy hz=>?_⟩
    rw [List.getElem?_eraseIdx] at hy hz
    by_cases hj:j<i
    ·simp only [if_pos hj] at hy hz
     exact hall j y z hy hz
    ·simp only [if_neg hj] at hy hz
     exact hall (j+1) y z hy hz)
   refine ⟨w',?_,r2,r3⟩
   subst q1
   simp only [Builtin.delete_,h0,h1',h2',Sem.run_bind,Sem.run_underlying_some (mapTy_some ht),Result.andThen_ok,e1,keyVal_check hkv',g1]
   rw [r1]
   rfl
 ·rename_i hf
  cases h
  obtain ⟨r',g1,g2⟩:=run_findKey_flat hkv' E.w h3 hf
  cases r' with
  | some _=>simp [FoundAs] at g2
  | none =>
   obtain ⟨w',r1,r2,r3⟩:=set_map (P:=P) HE (es':=es) (ms':=ms) (cl':=cl) hid h1 h2 h3
   refine ⟨w',?_,r2,r3⟩
   simp only [Builtin.delete_,h0,h1',h2',Sem.run_bind,Sem.run_underlying_some (mapTy_some ht),Result.andThen_ok,e1,keyVal_check hkv',g1]
   rw [r1]
   rfl
 ·cases h
end Go.AL

namespace Go.AL
open Go
variable [Dr]
theorem flatten_take {α:Type} {k:Nat}:∀ {l:List (List α)} (n:Nat),(∀ r∈l,r.length=k)→(l.take n).flatten=l.flatten.take (n*k)
 | [],n,_=>by simp
 | r::l,0,_=>by simp
 | r::l,n+1,h=>by
  have hr:r.length=k:=h r List.mem_cons_self
  have ih:=flatten_take (l:=l) n (fun x hx=>h x (List.mem_cons_of_mem _ hx))
  have e:(n+1)*k=k+n*k:=by rw [Nat.add_mul]; omega
  simp only [List.take_succ_cons,List.flatten_cons,ih,e]
  rw [List.take_append,hr]
  have e1:r.take (k+n*k)=r:=List.take_of_length_le (by omega)
  have e2:k+n*k-k=n*k:=by omega
  rw [e1,e2]
theorem flatten_drop {α:Type} {k:Nat}:∀ {l:List (List α)} (n:Nat),(∀ r∈l,r.length=k)→(l.drop n).flatten=l.flatten.drop (n*k)
 | [],n,_=>by simp
 | r::l,0,_=>by simp
 | r::l,n+1,h=>by
  have hr:r.length=k:=h r List.mem_cons_self
  have ih:=flatten_drop (l:=l) n (fun x hx=>h x (List.mem_cons_of_mem _ hx))
  have e:(n+1)*k=k+n*k:=by rw [Nat.add_mul]; omega
  simp only [List.drop_succ_cons,List.flatten_cons,ih,e]
  rw [List.drop_append,hr]
  have e1:r.drop (k+n*k)=[]:=List.drop_eq_nil_of_le (by omega)
  have e2:k+n*k-k=n*k:=by omega
  rw [e1,e2,List.nil_append]
theorem putRows_sound {P:Program} {E:Env} (HE:HRel E) {id k ver b m off:Nat} {rows news:List (List AV)} {vals:List Value} (hid:E.H[id]? = some (.vec k ver rows)) (hloc:E.loc[id]? = some (some (b,m)))
  (hv:rLs E news.flatten vals) (h1:∀ x∈vals,one1 x=true) (hw:∀ r∈news,r.length=k) (hcl:closedRows news) (hle:off+news.length≤rows.length) :
  ∃ w',(storeCells ⟨b,off*k,none⟩ vals).run P E.w=.ok () w'∧HRel { w:=w',H:=E.H.set id (.vec k ver (rows.take off++news++rows.drop (off+news.length))),loc:=E.loc,X:=E.X } ∧
   E.le { w:=w',H:=E.H.set id (.vec k ver (rows.take off++news++rows.drop (off+news.length))),loc:=E.loc,X:=E.X }:=by
 rcases HE.obj id _ hid with ⟨e2,_⟩ | ⟨b',m',e2,⟨cur,el,hblk,hsize⟩,e3,e4,e5⟩
 ·rw [hloc] at e2; cases e2
 rw [hloc] at e2
 cases e2
 have hwide:∀ r∈rows,r.length=k:=rows_wide e5
 have hlen:vals.length=news.length*k:=by rw [←relList_length hv,flatten_length hw]
 have hmul:(off+news.length)*k≤rows.length*k:=Nat.mul_le_mul_right _ hle
 rw [Nat.add_mul] at hmul
 have hmul2:rows.length*k≤m*k:=Nat.mul_le_mul_right _ e3
 have hfit:off*k+0+vals.length≤cur.size:=by rw [hsize]; omega
 have hst:=run_storeCells_at P b (off*k) el vals 0 cur E.w hblk hfit (fun v hv=>by rw [one1_eq]; exact h1 v hv)
 simp only [Nat.add_zero] at hst hfit
 generalize hw':E.w.setRow b (cur.toList.take (off*k)++vals++cur.toList.drop (off*k+vals.length)).toArray=w' at hst
 have hsize':w'.heap.size=E.w.heap.size:=by rw [←hw']; exact setRow_size _ _ _
 have henv:SameOs E.w w':=by rw [←hw']; exact ⟨rfl,rfl,rfl,by first | exact fun _=>Nat.le_refl _ | exact fun _=>Nat.le_add_right _ _⟩
 have hother:∀ x,x≠b→w'.heap[x]? = E.w.heap[x]? := by intro x hx; rw [←hw']; exact setRow_other _ _ _ _ hx
 have hb':w'.heap[b]? = some (.cells (cur.toList.take (off*k)++vals++cur.toList.drop (off*k+vals.length)).toArray el (0,0)):=by
  rw [←hw']; exact setRow_heap E.w b cur _ el (0,0) hblk
 have hver:∀ v,(AObj.vec k ver (rows.take off++news++rows.drop (off+news.length))).ver? = some v→(AObj.vec k ver rows).ver? = some v:=fun v hv=>by simpa [AObj.ver?] using hv
 have hle':=Env.le_set (o':=.vec k ver (rows.take off++news++rows.drop (off+news.length))) HE hid hloc hver hsize' hother
 have hl2:(rows.take off++news++rows.drop (off+news.length)).length=rows.length:=by
  simp only [List.length_append,List.length_take,List.length_drop]
  omega
 refine ⟨w',hst,HRel.set HE hid hloc hver hsize' hother ?_,hle'⟩
 simp only [objRel]
 right
 refine ⟨b,m,hloc,⟨_,el,hb',?_⟩,by rw [hl2]; exact e3,?_,?_⟩
 ·simp only [List.size_toArray, List.length_append, List.length_take, List.length_drop, Array.length_toList, hsize] at hfit ⊢
  omega
 ·intro r hr
  simp only [List.mem_append] at hr
  rcases hr with (h | h) | h
  ·exact e4 r (List.mem_of_mem_take h)
  ·exact hcl r h
  ·exact e4 r (List.mem_of_mem_drop h)
 ·refine flat_relRows ?_ ?_
  ·intro r hr
   simp only [List.mem_append] at hr
   rcases hr with (h | h) | h
   ·exact hwide r (List.mem_of_mem_take h)
   ·exact hw r h
   ·exact hwide r (List.mem_of_mem_drop h)
  ·rw [List.flatten_append, List.flatten_append, flatten_take off hwide, flatten_drop _ hwide]
   have hflat:=relRows_flat e5
   have hcs:news.flatten.length=news.length*k:=flatten_length hw
   have:=relCells_put (E:=E) (E':={ w:=w',H:=E.H.set id (.vec k ver (rows.take off++news++rows.drop (off+news.length))),loc:=E.loc,X:=E.X }) (o:=0) (col:=off*k) (as:=rows.flatten) (cs:=news.flatten)
    (fun a c hr=>rel_le hle' a hr) hblk (by simpa using hb') (by simpa using hfit) hflat hv h1 (by rw [flatten_length hwide,hcs]; omega)
   rw [hcs] at this
   rw [show (off+news.length)*k=off*k+news.length*k from Nat.add_mul _ _ _]
   exact this
def clearA (P:Program) (t:TypeId) (x:AV) (H:List AObj):Option (List AObj) :=
 match kindK P t,x with
 | .slice e sz _,.vec w id ver off n=>match zeroK P e,H[id]? with
  | some z,some (.vec k v rows)=>if k=w∧w=sz∧v=ver∧z.length=sz∧0<sz∧off+n≤rows.length then
    some (H.set id (.vec k v (rows.take off++List.replicate n (z.map AV.lit)++rows.drop (off+n)))) else none
  | _,_=>none
 | _,_=>none
theorem clearA_sound {P:Program} {E:Env} (HE:HRel E) {t ty:TypeId} {tys:Array TypeId} {x:AV} {c:Value} {cs:Array Value} {H':List AObj} (h:clearA P t x E.H=some H') (h0:tys[0]? = some t)
  (h1':cs[0]? = some c) (hx:rel E x c) :
  ∃ w',(Builtin.clear_ tys ty cs).run P E.w=.ok (.tuple #[]) w'∧HRel { w:=w',H:=H',loc:=E.loc,X:=E.X }∧E.le { w:=w',H:=H',loc:=E.loc,X:=E.X }:=by
 unfold clearA at h
 split at h
 case h_2=>cases h
 rename_i e sz by_ w id ver off n hk
 obtain ⟨hu,i,hi,hs,_⟩:=kind_slice hk
 split at h
 case h_2=>cases h
 rename_i z k v rows hz hid
 split at h
 case isFalse=>cases h
 rename_i hc
 obtain ⟨rfl,rfl,rfl,hzl,hpos,hle⟩:=hc
 cases h
 obtain ⟨i',zv,hi',hz1,hz2,hz3⟩:=zeroK_some hz
 rw [hi] at hi'
 cases hi'
 simp only [rel] at hx
 obtain ⟨⟨base,cap,rfl,hcap,hb⟩,_,hlive⟩:=hx
 obtain ⟨q1,q2⟩:=hlive ⟨_,hid,rfl⟩
 cases n with
 | zero =>
  refine ⟨E.w,?_,?_,?_⟩
  ·simp only [Builtin.clear_, h0, h1', Sem.run_bind, Sem.run_underlying_some hu, Result.andThen_ok]
   cases base<;>rfl
  ·simp only [List.replicate_zero, List.append_nil, Nat.add_zero, List.take_append_drop]
   rw [set_same hid]
   exact HE
  ·simp only [List.replicate_zero, List.append_nil, Nat.add_zero, List.take_append_drop]
   rw [set_same hid]
   exact Env.le.refl E
 | succ n =>
  obtain ⟨b,o,rfl⟩:=hb (by omega)
  have hloc:∃ b m,E.loc[id]? = some (some (b,m)):=by
   rcases HE.obj id _ hid with ⟨_,e2⟩ | ⟨b',m',e2,_⟩
   ·subst e2
    simp at hle
   ·exact ⟨b',m',e2⟩
  obtain ⟨b',m,hloc⟩:=hloc
  obtain ⟨g1,o',g2,g3⟩:=q2 b' m hloc
  have ho:=g2 (by omega)
  subst ho
  simp only [Value.slice.injEq,Option.some.injEq,Addr.mk.injEq] at g3
  obtain ⟨⟨rfl,rfl,_⟩,_,_⟩:=g3
  have hvals:(Builtin.zeroCells zv.cells (n+1)).toList=(List.replicate (n+1) z).flatten:=by
   rw [←hz2]
   have hzs:0<zv.cells.size:=by
    have:zv.cells.size=z.length:=by rw [←hz2]; simp
    omega
   exact range_zero zv.cells (n+1) hzs
  have hmem:∀ r∈List.replicate (n+1) (z.map AV.lit),r=z.map AV.lit:=fun r hr=>(List.mem_replicate.1 hr).2
  obtain ⟨w',r1,r2,r3⟩:=putRows_sound (P:=P) HE (off:=off) (news:=List.replicate (n+1) (z.map AV.lit)) (vals:=(List.replicate (n+1) z).flatten) hid hloc (replicate_lits z (n+1))
   (fun x hx=>hz3 x (mem_replicate_flatten hx)) (fun r hr=>by rw [hmem r hr]; simp [hzl]) (fun r hr=>by rw [hmem r hr]; exact closed_lits z) (by simpa using hle)
  simp only [List.length_replicate] at r2 r3
  refine ⟨w',?_,r2,r3⟩
  simp only [Builtin.clear_,h0,h1',Sem.run_bind,Sem.run_underlying_some hu,Result.andThen_ok,run_zeroValue hi hz1,hvals]
  rw [r1]
  rfl
theorem run_append_zeros {P:Program} {w:World} {t xt ty e:TypeId} {i:TypeInfo} {z:Value} {sz:Nat} {base:Option Addr} {m:Nat} {k k':IntKind}
  (ht:P.underlying t=some (.slice e)) (hx:P.underlying xt=some (.int k)) (hi:P.info? e=some i) (hs:i.size=sz) (hz:i.zero=some z) (hsz:0<sz) (h0:0<m) (hm:m≤1048576) (hb:i.bytes≤1048576) :
  ∃ C,m≤C∧(Builtin.append_ #[t,xt] ty #[.slice base 0 0,.int k' (m:Int)]).run P w =
   .ok (.slice (some ⟨w.heap.size,0,none⟩) m C) (w.drew.alloc (.cells ((Builtin.zeroCells z.cells m).toList++(Builtin.zeroCells z.cells (C-m)).toList).toArray e)):=by
 have hwr:IntKind.i64.wrap (m:Int)=m:=wrap_small (by omega) (by omega)
 have h1:¬ (m≤0):=by omega
 have h2:¬ ((m:Int)<0):=by omega
 have hmb:m*i.bytes≤1048576*1048576:=Nat.mul_le_mul hm hb
 have h3:¬ ((281474976710656:Int)<(m:Int)*(i.bytes:Int)):=by
  have:((m*i.bytes:Nat):Int)≤1099511627776:=Int.ofNat_le.2 (Nat.le_trans hmb (by decide))
  rw [Int.natCast_mul] at this
  omega
 have h4:¬ (IntKind.i64.max<(m:Int)):=by
  show ¬ ((9223372036854775807:Int)<(m:Int))
  omega
 have h5:Builtin.nextslicecap m 0*i.bytes≤281474976710656:=growslice_fits (by omega) (by omega)
 have h6:¬ (281474976710656<Builtin.nextslicecap m 0*i.bytes):=by omega
 have h7:¬ (m*sz=0):=by
  have:=Nat.mul_pos h0 hsz
  omega
 refine ⟨grownCap w m 0 e,?_,?_⟩
 ·simp [grownCap,Question.cut]
 ·simp [Builtin.append_, run_underlying ht, run_underlying hx, sizeOf, typeInfo, zeroValue, hi, hz, hs, asInt, asIntOf, hwr, h1, h2, h3, h4, h6, h7, Question.forced, newRow, grownCap, Builtin.firstCells]
  rw [if_neg (by omega:¬ m=0),if_neg (by omega:¬ (9223372036854775807:Int)<(m:Int))]
  cases base<;>simp [loadCells,loadCellsFrom]<;>(congr 2; apply Array.ext'; simp)
def appendZA (P:Program) (t xt:TypeId) (s x:AV) (H:List AObj):Option (AV × List AObj) :=
 match kindK P t,kindK P xt,s,x with
 | .slice e sz by_,.int _,.lit (.slice none 0 0),.lit (.int _ n)=>match zeroK P e with
  | some z=>if z.length=sz∧0<sz∧by_≤1048576∧0<n∧n≤1048576 then some (.vec sz H.length 0 0 n.toNat,H++[.vec sz 0 (List.replicate n.toNat (z.map AV.lit))]) else none
  | none=>none
 | _,_,_,_=>none
theorem appendZA_sound {P:Program} {E:Env} (HE:HRel E) {t xt ty:TypeId} {s x v:AV} {H':List AObj} {c cx:Value} (h:appendZA P t xt s x E.H=some (v,H')) (hs:rel E s c) (hx:rel E x cx) :
  ∃ u w',(Builtin.append_ #[t,xt] ty #[c,cx]).run P E.w=.ok u w'∧OpPost E v H' u w':=by
 unfold appendZA at h
 split at h
 case h_2=>cases h
 rename_i e sz by_ k k' n hk hkx
 split at h
 case h_2=>cases h
 rename_i z hz
 split at h
 case isFalse=>cases h
 rename_i hc
 obtain ⟨h1,h2,h3,h4,h5⟩:=hc
 cases h
 obtain ⟨hu,i,hi,hsz,hby⟩:=kind_slice hk
 obtain ⟨i',zv,hi',hz1,hz2,hz3⟩:=zeroK_some hz
 rw [hi] at hi'
 cases hi'
 simp only [rel] at hs hx
 subst hs
 subst hx
 obtain ⟨m,rfl⟩:∃ m:Nat,n=(m:Int):=⟨n.toNat,by omega⟩
 obtain ⟨C,g1,g2⟩:=run_append_zeros (P:=P) (w:=E.w) (ty:=ty) (base:=none) (k':=k') (m:=m) hu (kind_int hkx) hi hsz hz1 h2 (by omega) (by omega) (by omega)
 have hzs:0<zv.cells.size:=by
  have:zv.cells.size=z.length:=by rw [←hz2]; simp
  omega
 have hvals:(Builtin.zeroCells zv.cells m).toList=(List.replicate m z).flatten:=by rw [←hz2]; exact range_zero zv.cells m hzs
 rw [hvals] at g2
 have hmem:∀ r∈List.replicate m (z.map AV.lit),r=z.map AV.lit:=fun r hr=>(List.mem_replicate.1 hr).2
 refine ⟨_,_,g2,?_⟩
 simp only [Int.toNat_natCast]
 refine append_new HE (replicate_lits z m) (fun x hx=>hz3 x (mem_replicate_flatten hx)) (fun r hr=>by rw [hmem r hr]; simp [h1]) (fun r hr=>by rw [hmem r hr]; exact closed_lits z) (by simp) g1 ?_
 simp only [Array.length_toList,size_zeroCells]
 rw [←h1,←hz2]
 simp
end Go.AL

namespace Go.AL
open Go
variable [Dr]
def buildVA (P:Program) (t:TypeId) (n:Nat) (parts:List (Nat × AV)) (H:List AObj):Option (AV × List AObj) :=
 match buildSliceA P t n parts with
 | some (.list sz rows)=>some (.vec sz H.length 0 0 rows.length,H++[.vec sz 0 rows])
 | _=>none
theorem flatten_chunk (k:Nat):∀ (n:Nat) (out:List AV),out.length=n*k→(chunk k n out).flatten=out
 | 0,out,h=>by
  have:out=[]:=List.eq_nil_of_length_eq_zero (by simpa using h)
  subst this
  rfl
 | n+1,out,h=>by
  simp only [chunk,List.flatten_cons]
  rw [flatten_chunk k n (out.drop k) (by rw [List.length_drop,h,Nat.succ_mul]; omega)]
  exact List.take_append_drop k out
theorem chunk_width (k:Nat):∀ (n:Nat) (out:List AV),out.length=n*k→∀ r∈chunk k n out,r.length=k
 | 0,_,_,r,hr=>by simp [chunk] at hr
 | n+1,out,h,r,hr=>by
  simp only [chunk] at hr
  rw [Nat.succ_mul] at h
  rcases List.mem_cons.1 hr with rfl | hr
  ·rw [List.length_take]
   omega
  ·exact chunk_width k n (out.drop k) (by rw [List.length_drop]; omega) r hr
theorem buildVA_sound {P:Program} {E:Env} (HE:HRel E) {t:TypeId} {n:Nat} {parts:List (Nat × AV)} {cparts:List (Nat × Value)} {v:AV} {H':List AObj} (h:buildVA P t n parts E.H=some (v,H'))
  (hm:parts.map (·.1)=cparts.map (·.1)) (hv:rLs E (parts.map (·.2)) (cparts.map (·.2))) :
  ∃ u w',(Instr.buildSlice t n cparts.toArray).run P E.w=.ok u w'∧OpPost E v H' u w':=by
 unfold buildVA at h
 split at h
 case h_2=>cases h
 rename_i sz0 rows0 h0
 cases h
 unfold buildSliceA at h0
 split at h0
 case h_2=>cases h0
 rename_i e sz by_ hk
 obtain ⟨hu,i,hi,hs,_⟩:=kind_slice hk
 split at h0
 case h_2=>cases h0
 rename_i z hz
 obtain ⟨i',zv,hi',hz1,hz2,hz3⟩:=zeroK_some hz
 rw [hi] at hi'
 cases hi'
 split at h0
 case isFalse=>cases h0
 rename_i hc
 obtain ⟨g1,g2,g3⟩:=hc
 split at h0
 case h_2=>cases h0
 rename_i out hout
 split at h0
 case isFalse=>cases h0
 rename_i hcl
 have hzs:zv.cells.size=sz:=by rw [←g1,←hz2]; simp
 obtain ⟨cells0,hc0⟩:∃ cells0:Array Value,cells0.toList=(List.replicate n z).flatten:=⟨((List.replicate n z).flatten).toArray,by simp⟩
 obtain ⟨o,f1,f2,f3⟩:=fillA_rel (E:=E) (cs:=cells0) hout (by rw [hc0]; exact replicate_lits z n) (by rw [hc0]; intro x hx; exact hz3 x (mem_replicate_flatten hx)) hm hv
 cases n with
 | zero=>cases h0
 | succ n =>
 cases h0
 refine ⟨.slice (some ⟨E.w.heap.size,0,none⟩) (n+1) (n+1),{ E.w with heap:=E.w.heap.push (.cells (o.toList++[]).toArray e) },?_,?_⟩
 ·have hno : ¬ ((n + 1) * i.size > 2 ^ 24) := by rw [hs]; omega
  simp only [Instr.buildSlice,Sem.run_bind,Sem.run_underlying_some hu,Result.andThen_ok,Sem.run_sizeOf hi]
  rw [if_neg hno]
  have h0:¬ ((n+1)*i.size=0):=by
   intro h
   rcases Nat.mul_eq_zero.1 h with h | h
   ·omega
   ·omega
  rw [if_neg h0]
  simp only [Sem.run_bind,run_zeroValue hi hz1,Result.andThen_ok,Sem.run_pure]
  have:(Array.map (fun x=>zv.cells[x%zv.cells.size]!) (Array.range ((n+1)*i.size)))=cells0:=by
   apply Array.ext'
   rw [hs,←hzs,range_zero zv.cells (n+1) (by omega),hz2,hc0]
  rw [this,hs,f1]
  simp [newRow]
 ·rw [chunk_length]
  exact new_vec HE (C:=n+1) (by rw [flatten_chunk sz0 (n+1) out hcl.2]; exact f2) f3 (chunk_width sz0 (n+1) out hcl.2) (closed_chunk sz0 _ out hcl.1) (chunk_length ..) (Nat.le_refl _) (by simp)
end Go.AL

namespace Go.AL
open Go
variable [Dr]
def attR (r:Nat→List (Option (Option (Nat × Nat)))) (l0:Nat) (q:Option (Nat × Nat)):Nat→List (Option (Option (Nat × Nat))):=fun l=>if l=l0 then r l++[some q] else r l
def detR (r:Nat→List (Option (Option (Nat × Nat)))) (l0 h:Nat):Nat→List (Option (Option (Nat × Nat))):=fun l=>if l=l0 then (r l).set h none else r l
def offR (r:Nat→List (Option (Option (Nat × Nat)))) (l0:Nat):Nat→List (Option (Option (Nat × Nat))):=fun l=>if l=l0 then (r l).map fun _=>none else r l
theorem attR_get {r:Nat→List (Option (Option (Nat × Nat)))} {l0 l h:Nat} {q:Option (Nat × Nat)} {x:Option (Option (Nat × Nat))} (hq:(attR r l0 q l)[h]? = some x):(r l)[h]? = some x∨(l=l0∧h=(r l).length∧x=some q):=by
 unfold attR at hq
 split at hq
 ·rename_i e
  rw [List.getElem?_append] at hq
  split at hq
  ·exact .inl hq
  ·right
   cases hk:h-(r l).length with
   | zero =>
    rw [hk] at hq
    simp at hq
    exact ⟨e,by omega,hq.symm⟩
   | succ n=>rw [hk] at hq; simp at hq
 ·exact .inl hq
theorem attR_old {r:Nat→List (Option (Option (Nat × Nat)))} {l0 l h:Nat} {q:Option (Nat × Nat)} (hh:h<(r l).length):h<(attR r l0 q l).length∧(attR r l0 q l)[h]? = (r l)[h]? := by
 unfold attR
 split
 ·exact ⟨by simp; omega,List.getElem?_append_left hh⟩
 ·exact ⟨hh,rfl⟩
theorem detR_get {r:Nat→List (Option (Option (Nat × Nat)))} {l0 h0 l h:Nat} {q:Option (Nat × Nat)} (hq:(detR r l0 h0 l)[h]? = some (some q)):(r l)[h]? = some (some q)∧¬ (l=l0∧h=h0):=by
 unfold detR at hq
 split at hq
 ·rw [List.getElem?_set] at hq
  split at hq
  ·split at hq<;>cases hq
  ·rename_i h1
   exact ⟨hq,fun e=>h1 e.2.symm⟩
 ·rename_i h1
  exact ⟨hq,fun e=>h1 e.1⟩
theorem detR_keep {r:Nat→List (Option (Option (Nat × Nat)))} {l0 h0 l h:Nat} (hne:¬ (l=l0∧h=h0)):(detR r l0 h0 l)[h]? = (r l)[h]? := by
 unfold detR
 split
 ·rename_i e
  exact List.getElem?_set_ne (fun e2=>hne ⟨e,e2.symm⟩)
 ·rfl
theorem detR_length {r:Nat→List (Option (Option (Nat × Nat)))} {l0 h0 l:Nat}:(detR r l0 h0 l).length=(r l).length:=by
 unfold detR
 split<;>simp
theorem offR_get {r:Nat→List (Option (Option (Nat × Nat)))} {l0 l h:Nat} {q:Option (Nat × Nat)} (hq:(offR r l0 l)[h]? = some (some q)):(r l)[h]? = some (some q)∧l≠l0:=by
 unfold offR at hq
 split at hq
 ·rw [List.getElem?_map] at hq
  cases hz:(r l)[h]? with
  | none=>rw [hz] at hq; cases hq
  | some y=>rw [hz] at hq; cases hq
 ·rename_i e
  exact ⟨hq,e⟩
theorem offR_length {r:Nat→List (Option (Option (Nat × Nat)))} {l0 l:Nat}:(offR r l0 l).length=(r l).length:=by
 unfold offR
 split<;>simp
theorem HRel.attach {E:Env} (H:HRel E) {id j l0:Nat} {o o' oj:AObj} {q:Option (Nat × Nat)} (hid:E.H[id]? = some o) (hlab:o.label=some l0) (hlab':o'.label=some l0) (hver:o'.ver? = o.ver?) (hj:E.H[j]? = some oj) (hlj:oj.label=none) (hq:E.loc[j]? = some q)
  (ho:E.le { w:=E.w,H:=(E.H.set id o').set j .dead,loc:=E.loc.set j none,X:=E.X.re (attR E.X.r l0 q) }→objRel { w:=E.w,H:=(E.H.set id o').set j .dead,loc:=E.loc.set j none,X:=E.X.re (attR E.X.r l0 q) } id o') :
  HRel { w:=E.w,H:=(E.H.set id o').set j .dead,loc:=E.loc.set j none,X:=E.X.re (attR E.X.r l0 q) }∧E.le { w:=E.w,H:=(E.H.set id o').set j .dead,loc:=E.loc.set j none,X:=E.X.re (attR E.X.r l0 q) }:=by
 have hne:j≠id:=fun e=>by rw [e,hid] at hj; cases hj; rw [hlab] at hlj; cases hlj
 have hlt:=lt_of_getElem? hid
 have hltj:=lt_of_getElem? hj
 have loc_old:∀ (i:Nat) x,(E.loc.set j none)[i]? = some (some x)→i≠j∧E.loc[i]? = some (some x):=fun i x hi=>by
  rw [List.getElem?_set] at hi
  split at hi
  ·split at hi<;>cases hi
  ·rename_i e
   exact ⟨Ne.symm e,hi⟩
 have H_old:∀ (i:Nat) x,((E.H.set id o').set j .dead)[i]? = some x→(i=j∧x=.dead)∨(i=id∧x=o')∨(i≠j∧i≠id∧E.H[i]? = some x):=fun i x hi=>by
  by_cases e:i=j
  ·subst e
   rw [List.getElem?_set_self (by simp; exact hltj)] at hi
   cases hi
   exact .inl ⟨rfl,rfl⟩
  ·rw [List.getElem?_set_ne (Ne.symm e)] at hi
   by_cases e2:i=id
   ·subst e2
    rw [List.getElem?_set_self hlt] at hi
    cases hi
    exact .inr (.inl ⟨rfl,rfl⟩)
   ·rw [List.getElem?_set_ne (Ne.symm e2)] at hi
    exact .inr (.inr ⟨e,e2,hi⟩)
 have hid':((E.H.set id o').set j .dead)[id]? = some o':=by
  rw [List.getElem?_set_ne hne,List.getElem?_set_self hlt]
 have rcase:∀ (l h b m:Nat),(attR E.X.r l0 q l)[h]? = some (some (some (b,m)))→(E.X.r l)[h]? = some (some (some (b,m)))∨(l=l0∧h=(E.X.r l).length∧E.loc[j]? = some (some (b,m))):=fun l h b m hk=>by
  rcases attR_get hk with g | ⟨g1,g2,g3⟩
  ·exact .inl g
  ·cases g3
   exact .inr ⟨g1,g2,hq⟩
 have hle:E.le { w:=E.w,H:=(E.H.set id o').set j .dead,loc:=E.loc.set j none,X:=E.X.re (attR E.X.r l0 q) }:=by
  refine ⟨fun i ver hp=>?_,Nat.le_refl _,fun _ _ _=>rfl,fun b hb hno=>?_,fun i ver hp hl=>?_,⟨rfl,rfl⟩,fun l h hh=>?_,.refl _⟩
  ·obtain ⟨x, h1, h2⟩ := hp
   by_cases e:i=j
   ·subst e
    exact ⟨.dead,by simp only []; rw [List.getElem?_set_self (by simp; exact hltj)],fun v hv=>by cases hv⟩
   ·by_cases e2 : i = id
    ·subst e2
     rw [hid] at h1
     cases h1
     exact ⟨o',hid',fun v hv=>h2 v (by rw [←hver]; exact hv)⟩
    ·exact ⟨x,by simp only []; rw [List.getElem?_set_ne (Ne.symm e),List.getElem?_set_ne (Ne.symm e2)]; exact h1,h2⟩
  ·rintro (⟨i, c, hi⟩ | ⟨l, h, m, hm⟩)
   ·exact hno (.inl ⟨i,c,(loc_old i _ hi).2⟩)
   ·rcases rcase l h b m hm with h1 | ⟨_, _, h1⟩
    ·exact hno (.inr ⟨l,h,m,h1⟩)
    ·exact hno (.inl ⟨j,m,h1⟩)
  ·obtain ⟨x, h1, h2⟩ := hl
   rcases H_old i x h1 with ⟨_,rfl⟩ | ⟨rfl,rfl⟩ | ⟨e1,e2,h3⟩
   ·cases h2
   ·exact ⟨⟨o,hid,by rw [←hver]; exact h2⟩,by simp only []; rw [List.getElem?_set_ne hne]⟩
   ·exact ⟨⟨x,h3,h2⟩,by simp only []; rw [List.getElem?_set_ne (Ne.symm e1)]⟩
  ·obtain ⟨g1, g2⟩ := attR_old (r := E.X.r) (l0 := l0) (q := q) hh
   exact ⟨g1,fun y hy=>by
    have hy:(attR E.X.r l0 q l)[h]? = some (some y):=hy
    rwa [g2] at hy⟩
 refine ⟨⟨by simp [H.len],fun i k b m n hi hk=>H.inj i k b m n (loc_old i _ hi).2 (loc_old k _ hk).2,fun i b m hi=>H.lt i b m (loc_old i _ hi).2,fun b hb=>H.X b hb,fun i x hi=>?_,H.tab.leC hle.toC,fun l h l' h' b m n h1 h2=>?_,fun i b m l h n hi hk=>?_,fun l h b m hk=>?_,fun i k x y l hi hk h1 h2=>?_,fun l hn h y hy=>?_⟩,hle⟩
 ·rcases H_old i x hi with ⟨rfl, rfl⟩ | ⟨rfl, rfl⟩ | ⟨e1, e2, h3⟩
  ·simp only [objRel]
   rw [List.getElem?_set_self (by rw [H.len]; exact hltj)]
  ·exact ho hle
  ·refine objRel_same (fun a _ hr => rel_le hle a hr) (by simp only []; rw [List.getElem?_set_ne (Ne.symm e1)]) (fun _ _ _ => rfl) (fun l hl => ?_) (H.obj i x h3)
   have hne2:l≠l0:=fun e=>e2 (H.uniq i id x o l h3 hid hl (by rw [hlab,e]))
   exact ⟨if_neg hne2,fun _ _ _ _=>rfl⟩
 ·rcases rcase l h b m h1 with g1 | ⟨g1, g2, g3⟩ <;> rcases rcase l' h' b n h2 with k1 | ⟨k1, k2, k3⟩
  ·exact H.rinj _ _ _ _ _ _ _ g1 k1
  ·exact (H.rloc _ _ _ _ _ _ k3 g1).elim
  ·exact (H.rloc _ _ _ _ _ _ g3 k1).elim
  ·exact ⟨by rw [g1,k1],by rw [g2,k2,g1,k1]⟩
 ·obtain ⟨g0, g1⟩ := loc_old i _ hi
  rcases rcase l h b n hk with k1 | ⟨k1,k2,k3⟩
  ·exact H.rloc _ _ _ _ _ _ g1 k1
  ·exact g0 (H.inj _ _ _ _ _ g1 k3)
 ·rcases rcase l h b m hk with k1 | ⟨k1, k2, k3⟩
  ·exact H.rlt _ _ _ _ k1
  ·exact H.lt _ _ _ k3
 ·have key:∀ (i:Nat) x,((E.H.set id o').set j .dead)[i]? = some x→x.label=some l→∃ y,E.H[i]? = some y∧y.label=some l:=by
   intro i x hi hl
   rcases H_old i x hi with ⟨_,rfl⟩ | ⟨rfl,rfl⟩ | ⟨e1,e2,h3⟩
   ·cases hl
   ·exact ⟨o,hid,by rw [hlab,←hlab',hl]⟩
   ·exact ⟨x,h3,hl⟩
  obtain ⟨x',a1,a2⟩:=key i x hi h1
  obtain ⟨y',b1,b2⟩:=key k y hk h2
  exact H.uniq i k x' y' l a1 b1 a2 b2
 ·have hne2 : l ≠ l0 := fun e => hn id o' hid' (by rw [hlab', e])
  have hy:(attR E.X.r l0 q l)[h]? = some (some y):=hy
  unfold attR at hy
  rw [if_neg hne2] at hy
  refine H.rdead l (fun i x hi hl=>?_) h y hy
  by_cases e:i=id
  ·subst e
   rw [hid] at hi
   cases hi
   exact hne2 (by rw [hlab] at hl; cases hl; rfl)
  ·by_cases e1 : i = j
   ·subst e1
    rw [hj] at hi
    cases hi
    rw [hlj] at hl
    cases hl
   ·exact hn i x (by show ((E.H.set id o').set j .dead)[i]? = _; rw [List.getElem?_set_ne (Ne.symm e1),List.getElem?_set_ne (Ne.symm e)]; exact hi) hl
theorem HRel.detach {E:Env} (H:HRel E) {id l0 h0:Nat} {o o' ov:AObj} {q:Option (Nat × Nat)} (hid:E.H[id]? = some o) (hlab:o.label=some l0) (hlab':o'.label=some l0) (hver:o'.ver? = o.ver?) (hlv:ov.label=none) (hq:∀ b m,q=some (b,m)→(E.X.r l0)[h0]? = some (some (some (b,m))))
  (ho:E.le { w:=E.w,H:=E.H.set id o'++[ov],loc:=E.loc++[q],X:=E.X.re (detR E.X.r l0 h0) }→objRel { w:=E.w,H:=E.H.set id o'++[ov],loc:=E.loc++[q],X:=E.X.re (detR E.X.r l0 h0) } id o'∧objRel { w:=E.w,H:=E.H.set id o'++[ov],loc:=E.loc++[q],X:=E.X.re (detR E.X.r l0 h0) } E.H.length ov) :
  HRel { w:=E.w,H:=E.H.set id o'++[ov],loc:=E.loc++[q],X:=E.X.re (detR E.X.r l0 h0) }∧E.le { w:=E.w,H:=E.H.set id o'++[ov],loc:=E.loc++[q],X:=E.X.re (detR E.X.r l0 h0) }:=by
 have hlt:=lt_of_getElem? hid
 have loc_old:∀ (i:Nat) x,(E.loc++[q])[i]? = some x→E.loc[i]? = some x∨(i=E.loc.length∧x=q):=fun i x hi=>by
  rw [List.getElem?_append] at hi
  split at hi
  ·exact .inl hi
  ·right
   cases hk:i-E.loc.length with
   | zero=>rw [hk] at hi; simp at hi; exact ⟨by omega,hi.symm⟩
   | succ n=>rw [hk] at hi; simp at hi
 have H_old:∀ (i:Nat) x,(E.H.set id o'++[ov])[i]? = some x→(i=E.H.length∧x=ov)∨(i=id∧x=o')∨(i≠id∧E.H[i]? = some x):=fun i x hi=>by
  rw [List.getElem?_append] at hi
  split at hi
  ·by_cases e2 : i = id
   ·subst e2
    rw [List.getElem?_set_self hlt] at hi
    cases hi
    exact .inr (.inl ⟨rfl,rfl⟩)
   ·rw [List.getElem?_set_ne (Ne.symm e2)] at hi
    exact .inr (.inr ⟨e2,hi⟩)
  ·left
   cases hk:i-(E.H.set id o').length with
   | zero=>rw [hk] at hi; simp at hi; simp at hk; rename_i h1; simp at h1; exact ⟨by omega,hi.symm⟩
   | succ n=>rw [hk] at hi; simp at hi
 have hid':(E.H.set id o'++[ov])[id]? = some o':=by
  rw [List.getElem?_append_left (by simp; exact hlt),List.getElem?_set_self hlt]
 have rcase:∀ (l h:Nat) y,(detR E.X.r l0 h0 l)[h]? = some (some y)→(E.X.r l)[h]? = some (some y)∧¬ (l=l0∧h=h0):=fun l h y hk=>detR_get hk
 have hle:E.le { w:=E.w,H:=E.H.set id o'++[ov],loc:=E.loc++[q],X:=E.X.re (detR E.X.r l0 h0) }:=by
  refine ⟨fun i ver hp=>?_,Nat.le_refl _,fun _ _ _=>rfl,fun b hb hno=>?_,fun i ver hp hl=>?_,⟨rfl,rfl⟩,fun l h hh=>?_,.refl _⟩
  ·obtain ⟨x, h1, h2⟩ := hp
   by_cases e2:i=id
   ·subst e2
    rw [hid] at h1
    cases h1
    exact ⟨o',hid',fun v hv=>h2 v (by rw [←hver]; exact hv)⟩
   ·exact ⟨x,by simp only []; rw [List.getElem?_append_left (by simp; exact lt_of_getElem? h1),List.getElem?_set_ne (Ne.symm e2)]; exact h1,h2⟩
  ·rintro (⟨i, c, hi⟩ | ⟨l, h, m, hm⟩)
   ·rcases loc_old i _ hi with h1 | ⟨_, h1⟩
    ·exact hno (.inl ⟨i,c,h1⟩)
    ·exact hno (.inr ⟨l0,h0,c,hq b c h1.symm⟩)
   ·exact hno (.inr ⟨l,h,m,(rcase l h _ hm).1⟩)
  ·obtain ⟨x0, g1, _⟩ := hp
   have hii:=lt_of_getElem? g1
   obtain ⟨x,h1,h2⟩:=hl
   have hloc:(E.loc++[q])[i]? = E.loc[i]? := List.getElem?_append_left (by rw [H.len]; exact hii)
   rcases H_old i x h1 with ⟨e,rfl⟩ | ⟨rfl,rfl⟩ | ⟨e2,h3⟩
   ·omega
   ·exact ⟨⟨o,hid,by rw [←hver]; exact h2⟩,hloc⟩
   ·exact ⟨⟨x,h3,h2⟩,hloc⟩
  ·refine ⟨?_, fun y hy => (rcase l h y hy).1⟩
   show h<(detR E.X.r l0 h0 l).length
   rw [detR_length]
   exact hh
 refine ⟨⟨by simp [H.len],fun i k b m n hi hk=>?_,fun i b m hi=>?_,fun b hb=>H.X b hb,fun i x hi=>?_,H.tab.leC hle.toC,fun l h l' h' b m n h1 h2=>H.rinj _ _ _ _ _ _ _ (rcase l h _ h1).1 (rcase l' h' _ h2).1,fun i b m l h n hi hk=>?_,fun l h b m hk=>H.rlt _ _ _ _ (rcase l h _ hk).1,fun i k x y l hi hk h1 h2=>?_,fun l hn h y hy=>?_⟩,hle⟩
 ·rcases loc_old i _ hi with g1 | ⟨g1, g2⟩ <;> rcases loc_old k _ hk with k1 | ⟨k1, k2⟩
  ·exact H.inj _ _ _ _ _ g1 k1
  ·exact (H.rloc _ _ _ _ _ _ g1 (hq b n k2.symm)).elim
  ·exact (H.rloc _ _ _ _ _ _ k1 (hq b m g2.symm)).elim
  ·omega
 ·rcases loc_old i _ hi with g1 | ⟨g1, g2⟩
  ·exact H.lt _ _ _ g1
  ·exact H.rlt _ _ _ _ (hq b m g2.symm)
 ·rcases H_old i x hi with ⟨rfl, rfl⟩ | ⟨rfl, rfl⟩ | ⟨e2, h3⟩
  ·exact (ho hle).2
  ·exact (ho hle).1
  ·refine objRel_same (fun a _ hr => rel_le hle a hr) (by simp only []; rw [List.getElem?_append_left (by rw [H.len]; exact lt_of_getElem? h3)]) (fun _ _ _ => rfl) (fun l hl => ?_) (H.obj i x h3)
   have hne2:l≠l0:=fun e=>e2 (H.uniq i id x o l h3 hid hl (by rw [hlab,e]))
   exact ⟨if_neg hne2,fun _ _ _ _=>rfl⟩
 ·obtain ⟨r1, r2⟩ := rcase l h _ hk
  rcases loc_old i _ hi with g1 | ⟨g1,g2⟩
  ·exact H.rloc _ _ _ _ _ _ g1 r1
  ·exact r2 (H.rinj _ _ _ _ _ _ _ r1 (hq b m g2.symm))
 ·have key:∀ (i:Nat) x,(E.H.set id o'++[ov])[i]? = some x→x.label=some l→∃ y,E.H[i]? = some y∧y.label=some l:=by
   intro i x hi hl
   rcases H_old i x hi with ⟨_,rfl⟩ | ⟨rfl,rfl⟩ | ⟨e2,h3⟩
   ·rw [hlv] at hl; cases hl
   ·exact ⟨o,hid,by rw [hlab,←hlab',hl]⟩
   ·exact ⟨x,h3,hl⟩
  obtain ⟨x',a1,a2⟩:=key i x hi h1
  obtain ⟨y',b1,b2⟩:=key k y hk h2
  exact H.uniq i k x' y' l a1 b1 a2 b2
 ·refine H.rdead l (fun i x hi hl => ?_) h y (rcase l h y hy).1
  by_cases e:i=id
  ·subst e
   rw [hid] at hi
   cases hi
   exact hn i o' hid' (by rw [hlab',←hlab,hl])
  ·exact hn i x (by show (E.H.set id o'++[ov])[i]? = _; rw [List.getElem?_append_left (by simp; exact lt_of_getElem? hi),List.getElem?_set_ne (Ne.symm e)]; exact hi) hl
theorem HRel.dissolve {E:Env} (H:HRel E) {id l0:Nat} {o o':AObj} (hid:E.H[id]? = some o) (hlab:o.label=some l0) (hlab':o'.label=none) (hver:o'.ver? = o.ver?)
  (ho:E.le { w:=E.w,H:=E.H.set id o',loc:=E.loc,X:=E.X.re (offR E.X.r l0) }→objRel { w:=E.w,H:=E.H.set id o',loc:=E.loc,X:=E.X.re (offR E.X.r l0) } id o') :
  HRel { w:=E.w,H:=E.H.set id o',loc:=E.loc,X:=E.X.re (offR E.X.r l0) }∧E.le { w:=E.w,H:=E.H.set id o',loc:=E.loc,X:=E.X.re (offR E.X.r l0) }:=by
 have hlt:=lt_of_getElem? hid
 have H_old:∀ (i:Nat) x,(E.H.set id o')[i]? = some x→(i=id∧x=o')∨(i≠id∧E.H[i]? = some x):=fun i x hi=>by
  by_cases e2:i=id
  ·subst e2
   rw [List.getElem?_set_self hlt] at hi
   cases hi
   exact .inl ⟨rfl,rfl⟩
  ·rw [List.getElem?_set_ne (Ne.symm e2)] at hi
   exact .inr ⟨e2,hi⟩
 have hle:E.le { w:=E.w,H:=E.H.set id o',loc:=E.loc,X:=E.X.re (offR E.X.r l0) }:=by
  refine ⟨fun i ver hp=>?_,Nat.le_refl _,fun _ _ _=>rfl,fun b hb hno=>?_,fun i ver hp hl=>?_,⟨rfl,rfl⟩,fun l h hh=>?_,.refl _⟩
  ·obtain ⟨x, h1, h2⟩ := hp
   by_cases e2:i=id
   ·subst e2
    rw [hid] at h1
    cases h1
    exact ⟨o',by simp only []; rw [List.getElem?_set_self hlt],fun v hv=>h2 v (by rw [←hver]; exact hv)⟩
   ·exact ⟨x,by simp only []; rw [List.getElem?_set_ne (Ne.symm e2)]; exact h1,h2⟩
  ·rintro (⟨i, c, hi⟩ | ⟨l, h, m, hm⟩)
   ·exact hno (.inl ⟨i,c,hi⟩)
   ·exact hno (.inr ⟨l,h,m,(offR_get hm).1⟩)
  ·obtain ⟨x, h1, h2⟩ := hl
   rcases H_old i x h1 with ⟨rfl,rfl⟩ | ⟨e2,h3⟩
   ·exact ⟨⟨o,hid,by rw [←hver]; exact h2⟩,rfl⟩
   ·exact ⟨⟨x,h3,h2⟩,rfl⟩
  ·refine ⟨?_, fun y hy => (offR_get hy).1⟩
   show h<(offR E.X.r l0 l).length
   rw [offR_length]
   exact hh
 refine ⟨⟨by simp [H.len],H.inj,H.lt,H.X,fun i x hi=>?_,H.tab.leC hle.toC,fun l h l' h' b m n h1 h2=>H.rinj _ _ _ _ _ _ _ (offR_get h1).1 (offR_get h2).1,fun i b m l h n hi hk=>H.rloc _ _ _ _ _ _ hi (offR_get hk).1,fun l h b m hk=>H.rlt _ _ _ _ (offR_get hk).1,fun i k x y l hi hk h1 h2=>?_,fun l hn h y hy=>?_⟩,hle⟩
 ·rcases H_old i x hi with ⟨rfl, rfl⟩ | ⟨e2, h3⟩
  ·exact ho hle
  ·refine objRel_same (fun a _ hr => rel_le hle a hr) rfl (fun _ _ _ => rfl) (fun l hl => ?_) (H.obj i x h3)
   have hne2:l≠l0:=fun e=>e2 (H.uniq i id x o l h3 hid hl (by rw [hlab,e]))
   exact ⟨if_neg hne2,fun _ _ _ _=>rfl⟩
 ·have key:∀ (i:Nat) x,(E.H.set id o')[i]? = some x→x.label=some l→E.H[i]? = some x:=by
   intro i x hi hl
   rcases H_old i x hi with ⟨rfl,rfl⟩ | ⟨e2,h3⟩
   ·rw [hlab'] at hl; cases hl
   ·exact h3
  exact H.uniq i k x y l (key i x hi h1) (key k y hk h2) h1 h2
 ·obtain ⟨g1, g2⟩ := offR_get hy
  refine H.rdead l (fun i x hi hl=>?_) h y g1
  by_cases e:i=id
  ·subst e
   rw [hid] at hi
   cases hi
   exact g2 (by rw [hlab] at hl; cases hl; rfl)
  ·exact hn i x (by show (E.H.set id o')[i]? = _; rw [List.getElem?_set_ne (Ne.symm e)]; exact hi) hl
theorem rel_pool {E:Env} (HE:HRel E) {id l w cl:Nat} {es:List (AV × Option (List (List AV)) × Nat)} {c:Value} (hid:E.H[id]? = some (.pool l w es cl)) (hr:rel E (.map id) c) :
  ∃ b n ms,c=.map (some b)∧E.loc[id]? = some (some (b,n))∧E.w.heap[b]? = some (.map ms cl)∧relEntries E (poolEs es) ms.toList∧slotsRel E l w es ms.toList:=by
 have ho:=HE.obj id _ hid
 simp only [objRel] at ho
 obtain ⟨b,n,ms,h1,h2,h3,h4⟩:=ho
 simp only [rel] at hr
 obtain ⟨_,_,h6⟩:=hr
 obtain ⟨b',n',g1,g2⟩:=h6 ⟨_,hid,rfl⟩
 rw [h1] at g1
 simp only [Option.some.injEq,Prod.mk.injEq] at g1
 obtain ⟨rfl,rfl⟩:=g1
 exact ⟨b,n,ms,g2,h1,h2,h3,h4⟩
theorem poolEs_get {es:List (AV × Option (List (List AV)) × Nat)} {i:Nat} {x:AV × Option (List (List AV)) × Nat} (h:es[i]? = some x):(poolEs es)[i]? = some (x.1,.undef,x.2.2):=by
 unfold poolEs
 rw [List.getElem?_map,h]
 rfl
def sliceW (P:Program) (t:TypeId):Option Nat:=match kindK P t with
 | .slice _ w _=>some w
 | _=>none
def poolAt (es:List (AV × Option (List (List AV)) × Nat)) (i:Nat):Option (AV × List (List AV) × Nat):=match es[i]? with
 | some (key,some rows,n)=>some (key,rows,n)
 | _=>none
def takeA (P:Program) (t:TypeId) (m k:AV) (H:List AObj):Option (AV × List AObj) :=
 match mapTy P t,m with
 | some (kt,et),.map id=>match H[id]? with
  | some (.pool l w es cl)=>match keyOkA P kt k,sliceW P et,zeroA P et with
   | some kv,some w',some (.lit (.slice none 0 0))=>match Nat.beq w' w with
    | true=>match findA P kt kv (poolEs es) 0 with
     | some (some (i,_))=>match poolAt es i with
      | some (key,rows,n)=>some (.vec w H.length 0 0 rows.length,H.set id (.pool l w (es.set i (key,none,n)) cl)++[.vec w 0 rows])
      | none=>none
     | some none=>some (.vec w H.length 0 0 0,H.set id (.pool l w es cl)++[.vec w 0 []])
     | none=>none
    | false=>none
   | _,_,_=>none
  | _=>none
 | _,_=>none
theorem slotsRel_set {E:Env} {l w i:Nat} {es:List (AV × Option (List (List AV)) × Nat)} {ms:List MapEntry} {x:AV × Option (List (List AV)) × Nat} (hx:x.2.1=none) (h:slotsRel E l w es ms):slotsRel E l w (es.set i x) ms:=by
 obtain ⟨hs,h1,h2⟩:=h
 have old:∀ (j:Nat) y,(es.set i x)[j]? = some y→y.2.1.isSome=true→es[j]? = some y∧j≠i:=fun j y hy hsm=>by
  rw [List.getElem?_set] at hy
  split at hy
  ·split at hy
   ·cases hy
    rw [hx] at hsm
    cases hsm
   ·cases hy
  ·rename_i hne
   exact ⟨hy,Ne.symm hne⟩
 refine ⟨hs,fun a b y z hy hz sy sz he=>h1 a b y z (old a y hy sy).1 (old b z hz sz).1 sy sz he,fun a y rows e hy hr he=>h2 a y rows e (old a y hy (by rw [hr]; rfl)).1 hr he⟩
theorem relEntries_pool_set {E:Env} {i:Nat} {es:List (AV × Option (List (List AV)) × Nat)} {ms:List MapEntry} {x y:AV × Option (List (List AV)) × Nat} (hi:es[i]? = some x) (h1:y.1=x.1) (h2:y.2.2=x.2.2) (h:relEntries E (poolEs es) ms):relEntries E (poolEs (es.set i y)) ms:=by
 have e:poolEs (es.set i y)=poolEs es:=by
  apply List.ext_getElem?
  intro j
  unfold poolEs
  rw [List.getElem?_map,List.getElem?_map,List.getElem?_set]
  split
  ·rename_i e
   subst e
   rw [if_pos (lt_of_getElem? hi),hi]
   simp [h1,h2]
  ·rfl
 rw [e]
 exact h
theorem takeA_sound {P:Program} {E:Env} (HE:HRel E) {t:TypeId} {m k v:AV} {c d:Value} {H':List AObj} (h:takeA P t m k E.H=some (v,H')) (hm:rel E m c) (hk:rel E k d) :
  ∃ u w',(Instr.lookup t c d false).run P E.w=.ok u w'∧OpPost E v H' u w':=by
 unfold takeA at h
 split at h
 case h_2=>cases h
 rename_i kt et id ht
 split at h
 case h_2=>cases h
 rename_i l w es cl hid
 split at h
 case h_2=>cases h
 rename_i kv w' hkv hw' hz
 split at h
 case h_2=>cases h
 rename_i hww
 have hww:=Nat.eq_of_beq_eq_true hww
 clear hw' hww
 obtain ⟨b,n,ms,rfl,h1,h2,h3,h4⟩:=rel_pool HE hid hm
 have hkv':=keyOkA_rel hkv hk
 have e1:(getObj b).run P E.w=.ok (.map ms cl) E.w:=by simp [getObj,Sem.run,h2]
 have hlenH:E.H.length=E.loc.length:=HE.len.symm
 split at h
 ·rename_i i v0 hf
  split at h
  case h_2=>cases h
  rename_i key rows bn hat
  cases h
  have hes:es[i]? = some (key,some rows,bn):=by
   unfold poolAt at hat
   split at hat
   ·rename_i a1 a2 a3 he
    cases hat
    exact he
   ·cases hat
  obtain ⟨r',g1,g2⟩:=run_findKey_flat hkv' E.w h3 hf
  cases r' with
  | none=>simp [FoundAs] at g2
  | some q =>
   simp only [FoundAs] at g2
   obtain ⟨q1,q2,_,e',q4,q5⟩:=g2
   simp only [Nat.sub_zero] at q4
   have hval:q.2=e'.val:=q5.symm
   obtain ⟨hs,k1,k2⟩:=h4
   have hsl:=k2 i _ rows e' hes rfl q4
   -- the block and the handle
   obtain ⟨qq,h0,z1,z2,z3⟩:∃ (qq:Option (Nat × Nat)) (h0:Nat),(∀ b m,qq=some (b,m)→(E.X.r l)[h0]? = some (some (some (b,m)))) ∧
     (∀ j y,es[j]? = some y→y.2.1.isSome=true→j≠i→∀ b m,(E.X.r l)[hs j]? = some (some (some (b,m)))→hs j≠h0) ∧
     ((qq=none∧rows=[]∧∃ base,e'.val=.slice base 0 0)∨∃ b m,qq=some (b,m)∧e'.val=.slice (some ⟨b,0,none⟩) rows.length m∧isRow E.w b (m*w)∧rows.length≤m∧closedRows rows∧relRows E w rows b 0):=by
    rcases hsl with ⟨s1,s2⟩ | ⟨bb,mm,s1,s2,s3,s4,s5,s6⟩
    ·exact ⟨none,(E.X.r l).length,fun _ _ e=>(by cases e),fun j y _ _ _ b m hb e=>(by rw [e] at hb; have:=lt_of_getElem? hb; omega),.inl ⟨rfl,s1,s2⟩⟩
    ·exact ⟨some (bb,mm),hs i,fun _ _ e=>(by cases e; exact s1),fun j y hy hsy hne _ _ _ e=>hne (k1 j i _ _ hy hes hsy rfl e),.inr ⟨bb,mm,rfl,s2,s3,s4,s5,s6⟩⟩
   obtain ⟨r1,r2⟩:=HRel.detach HE (id:=id) (l0:=l) (h0:=h0) (o':=.pool l w (es.set i (key,none,bn)) cl) (ov:=.vec w 0 rows) (q:=qq) hid rfl rfl rfl rfl z1 fun hle=>by
    refine ⟨?_,?_⟩
    ·simp only [objRel]
     refine ⟨b,n,ms,?_,h2,?_,?_⟩
     ·rw [List.getElem?_append_left (lt_of_getElem? h1)]
      exact h1
     ·exact relEntries_same (fun a _ hr=>rel_le hle a hr) (relEntries_pool_set hes rfl rfl h3)
     ·obtain ⟨_, k3, k4⟩ := slotsRel_set (i := i) (x := (key, none, bn)) rfl (show slotsRel E l w es ms.toList from ⟨hs, k1, k2⟩)
      refine ⟨hs,fun a b' y z hy hz sy sz he=>?_,fun a y rws e hy hr he=>?_⟩
      all_goals
       have old:∀ (j:Nat) y,(es.set i (key,none,bn))[j]? = some y→y.2.1.isSome=true→es[j]? = some y∧j≠i:=fun j y hy hsm=>by
        rw [List.getElem?_set] at hy
        split at hy
        ·split at hy
         ·cases hy
          cases hsm
         ·cases hy
        ·rename_i hne
         exact ⟨hy,Ne.symm hne⟩
      ·exact k1 a b' y z (old a y hy sy).1 (old b' z hz sz).1 sy sz he
      ·obtain ⟨o1, o2⟩ := old a y hy (by rw [hr]; rfl)
       rcases k2 a y rws e o1 hr he with hl | ⟨bb,mm,s1,s2,s3,s4,s5,s6⟩
       ·exact .inl hl
       ·refine .inr ⟨bb, mm, ?_, s2, s3, s4, s5, relRows_same (fun a _ hr => rel_le hle a hr) rfl s6⟩
        have hne:=z2 a y o1 (by rw [hr]; rfl) o2 bb mm s1
        show (detR E.X.r l h0 l)[hs a]? = _
        rw [detR_keep fun e=>hne e.2]
        exact s1
    ·simp only [objRel]
     have hl:(E.loc++[qq])[E.H.length]? = some qq:=by rw [hlenH]; simp
     rcases z3 with ⟨rfl,s1,_⟩ | ⟨bb,mm,rfl,_,s3,s4,s5,s6⟩
     ·exact .inl ⟨hl,s1⟩
     ·exact .inr ⟨bb,mm,hl,s3,s4,s5,relRows_same (fun a _ hr=>rel_le hle a hr) rfl s6⟩
   refine ⟨q.2,E.w,?_,E.loc++[qq],detR E.X.r l h0,?_,r1,r2⟩
   ·simp only [Instr.lookup, Sem.run_bind, Sem.run_underlying_some (mapTy_some ht), Result.andThen_ok, e1, Sem.run_pure, keyVal_check hkv', g1]
    rfl
   ·have hnew:(E.H.set id (.pool l w (es.set i (key,none,bn)) cl)++[.vec w 0 rows])[E.H.length]? = some (.vec w 0 rows):=by
     rw [List.getElem?_append_right (by simp)]
     simp
    have hl:(E.loc++[qq])[E.H.length]? = some qq:=by rw [hlenH]; simp
    rw [hval]
    simp only [rel]
    rcases z3 with ⟨rfl,s1,base,s2⟩ | ⟨bb,mm,rfl,s2,s3,s4,s5,s6⟩
    ·subst s1
     refine ⟨⟨base,0,by rw [s2]; rfl,Nat.le_refl _,fun h=>by simp at h⟩,⟨_,hnew,fun v hv=>by cases hv; exact Nat.le_refl _⟩,fun _=>⟨fun _=>⟨by first | rfl | trivial,by first | rfl | trivial,base,s2⟩,fun b' m' hb'=>?_⟩⟩
     rw [hl] at hb'
     cases hb'
    ·refine ⟨⟨_, mm, s2, s4, fun _ => ⟨bb, 0, rfl⟩⟩, ⟨_, hnew, fun v hv => by cases hv; exact Nat.le_refl _⟩, fun _ => ⟨fun hb' => ?_, fun b' m' hb' => ?_⟩⟩
     ·rw [hl] at hb'
      cases hb'
     ·rw [hl] at hb'
      cases hb'
      exact ⟨by omega,0,fun _=>by simp,by rw [s2,Nat.sub_zero]⟩
 ·rename_i hf
  cases h
  obtain ⟨r',g1,g2⟩:=run_findKey_flat hkv' E.w h3 hf
  cases r' with
  | some _=>simp [FoundAs] at g2
  | none =>
   obtain ⟨zv,z1,z2⟩:=zeroA_run hz E.w
   have hzv:zv=.slice none 0 0:=by have:=z2 E; simpa [rel] using this
   obtain ⟨r1,r2⟩:=HRel.detach HE (id:=id) (l0:=l) (h0:=(E.X.r l).length) (o':=.pool l w es cl) (ov:=.vec w 0 []) (q:=none) hid rfl rfl rfl rfl (fun _ _ e=>by cases e) fun hle=>by
    refine ⟨?_,?_⟩
    ·simp only [objRel]
     refine ⟨b,n,ms,?_,h2,relEntries_same (fun a _ hr=>rel_le hle a hr) h3,slotsRel_of (E:=E) (fun h g m hk=>⟨?_,rfl⟩) (fun _ _ _ _ _ b' hb' _ hr=>relRows_same (fun a _ hr=>rel_le hle a hr) hb' hr) h4⟩
     ·rw [List.getElem?_append_left (lt_of_getElem? h1)]
      exact h1
     ·show (detR E.X.r l (E.X.r l).length l)[h]? = _
      rw [detR_keep fun e=>by rw [e.2] at hk; have:=lt_of_getElem? hk; omega]
      exact hk
    ·simp only [objRel]
     exact .inl ⟨by rw [hlenH]; simp,by first | rfl | trivial⟩
   refine ⟨zv,E.w,?_,E.loc++[none],detR E.X.r l (E.X.r l).length,?_,r1,r2⟩
   ·simp only [Instr.lookup, Sem.run_bind, Sem.run_underlying_some (mapTy_some ht), Result.andThen_ok, e1, Sem.run_pure, keyVal_check hkv', g1, z1]
    rfl
   ·have hnew:(E.H.set id (.pool l w es cl)++[.vec w 0 []])[E.H.length]? = some (.vec w 0 []):=by
     rw [List.getElem?_append_right (by simp)]
     simp
    have hl:(E.loc++[(none:Option (Nat × Nat))])[E.H.length]? = some none:=by rw [hlenH]; simp
    rw [hzv]
    simp only [rel]
    refine ⟨⟨none,0,rfl,Nat.le_refl _,fun h=>by simp at h⟩,⟨_,hnew,fun v hv=>by cases hv; exact Nat.le_refl _⟩,fun _=>⟨fun _=>⟨by first | rfl | trivial,by first | rfl | trivial,none,rfl⟩,fun b' m' hb'=>?_⟩⟩
    rw [hl] at hb'
    cases hb'
 ·cases h
theorem modify_set2 {es:List (AV × Option (List (List AV)) × Nat)} {i:Nat} {x:AV × Option (List (List AV)) × Nat} {f:AV × Option (List (List AV)) × Nat→AV × Option (List (List AV)) × Nat} (h:es[i]? = some x):es.modify i f=es.set i (f x):=by
 apply List.ext_getElem?
 intro j
 rw [List.getElem?_modify,List.getElem?_set]
 by_cases e:i=j
 ·subst e
  rw [if_pos rfl,if_pos (lt_of_getElem? h),h]
  simp
 ·rw [if_neg e]
  simp [e]
def putA (P:Program) (t:TypeId) (m k v:AV) (H:List AObj):Option (List AObj) :=
 match mapTy P t,m,v with
 | some (kt,_),.map id,.vec w j ver off n=>match H[id]?,H[j]? with
  | some (.pool l w' es cl),some (.vec w2 ver' rows)=>match keyOkA P kt k with
   | some kv=>if (w=w'∧w=w2)∧(ver=ver'∧off=0)∧n=rows.length∧k.closed=true then
     match findA P kt kv (poolEs es) 0 with
     | some (some (i,_))=>some ((H.set id (.pool l w' (es.modify i fun e=>(k,some rows,e.2.2)) cl)).set j .dead)
     | some none=>some ((H.set id (.pool l w' (es++[(k,some rows,cl)]) (cl+1))).set j .dead)
     | none=>none
    else none
   | none=>none
  | _,_=>none
 | _,_,_=>none
theorem set_pool {P:Program} {E:Env} (HE:HRel E) {id l w b n cl cl':Nat} {es es':List (AV × Option (List (List AV)) × Nat)} {ms ms':Array MapEntry} (hid:E.H[id]? = some (.pool l w es cl)) (hloc:E.loc[id]? = some (some (b,n)))
  (hb:E.w.heap[b]? = some (.map ms cl)) (hr:relEntries E (poolEs es') ms'.toList) (hsl:slotsRel E l w es' ms'.toList) :
  ∃ w',(setObj b (.map ms' cl')).run P E.w=.ok () w'∧HRel { w:=w',H:=E.H.set id (.pool l w es' cl'),loc:=E.loc,X:=E.X }∧E.le { w:=w',H:=E.H.set id (.pool l w es' cl'),loc:=E.loc,X:=E.X } ∧
   w'.heap[b]? = some (.map ms' cl')∧∀ y,y≠b→w'.heap[y]? = E.w.heap[y]? := by
 have hlt:=(HE.lt id b n hloc).1
 have hsz:({ E.w with heap:=E.w.heap.setIfInBounds b (.map ms' cl') }:World).heap.size=E.w.heap.size:=by simp
 have hsame:∀ y,y≠b→({ E.w with heap:=E.w.heap.setIfInBounds b (.map ms' cl') }:World).heap[y]? = E.w.heap[y]? := by
  intro y hy
  simp only [Array.getElem?_setIfInBounds]
  rw [if_neg (fun e=>hy e.symm)]
 have key:=HRel.turnR (E:=E) (w':={ E.w with heap:=E.w.heap.setIfInBounds b (.map ms' cl') }) (o':=.pool l w es' cl') (r':=E.X.r) HE hid rfl rfl rfl (by rw [hsz]; exact Nat.le_refl _) (fun x _ hne _=>hsame x fun e=>hne n (by rw [e]; exact hloc)) (fun _ _=>rfl) (fun _ _ _ h=>.inl h) (fun h hh=>⟨hh,fun _ hq=>hq⟩) (fun hle=>by
  simp only [objRel]
  refine ⟨b,n,ms',hloc,by simp [hlt],relEntries_same (fun a _ hr=>rel_le hle a hr) hr,slotsRel_of (E:=E) (fun h g m hk=>⟨hk,hsame g fun e=>HE.rloc _ _ _ _ _ _ hloc (by rw [←e]; exact hk)⟩) (fun _ _ _ _ _ b' hb' _ hr=>relRows_same (fun a _ hr=>rel_le hle a hr) hb' hr) hsl⟩) ⟨rfl,rfl,rfl,by first | exact fun _=>Nat.le_refl _ | exact fun _=>Nat.le_add_right _ _⟩
 rw [XS.re_self] at key
 exact ⟨_,by simp [setObj,Sem.run,hb],key.1,key.2,by simp [hlt],hsame⟩
theorem join_pool {E:Env} (HE:HRel E) {id j l w cl i ver:Nat} {es:List (AV × Option (List (List AV)) × Nat)} {rows:List (List AV)} {key:AV} {bn b n:Nat} {ms:Array MapEntry} {e:MapEntry} (hid:E.H[id]? = some (.pool l w es cl)) (hj:E.H[j]? = some (.vec w ver rows))
  (hi:es[i]? = some (key,none,bn)) (hloc:E.loc[id]? = some (some (b,n))) (hb:E.w.heap[b]? = some (.map ms cl)) (he:ms.toList[i]? = some e) (hr:relEntries E (poolEs es) ms.toList) (hsl:slotsRel E l w es ms.toList) (hv:rel E (.vec w j ver 0 rows.length) e.val) :
  ∃ loc' r',HRel { w:=E.w,H:=(E.H.set id (.pool l w (es.set i (key,some rows,bn)) cl)).set j .dead,loc:=loc',X:=E.X.re r' }∧E.le { w:=E.w,H:=(E.H.set id (.pool l w (es.set i (key,some rows,bn)) cl)).set j .dead,loc:=loc',X:=E.X.re r' }:=by
 have hne:j≠id:=fun e=>by rw [e,hid] at hj; cases hj
 have hoj:=HE.obj j _ hj
 simp only [rel] at hv
 obtain ⟨_,_,v3⟩:=hv
 obtain ⟨v4,v5⟩:=v3 ⟨_,hj,rfl⟩
 simp only [objRel] at hoj
 obtain ⟨q,hq⟩:∃ q,E.loc[j]? = some q:=by
  rcases hoj with ⟨h1,_⟩ | ⟨b',m',h1,_⟩
  ·exact ⟨_,h1⟩
  ·exact ⟨_,h1⟩
 obtain ⟨hs,k1,k2⟩:=hsl
 have htl:∀ h,h<(E.X.r l).length→(attR E.X.r l q l)[h]? = (E.X.r l)[h]? := fun h hh=>(attR_old hh).2
 have hnew:(attR E.X.r l q l)[(E.X.r l).length]? = some (some q):=by
  unfold attR
  rw [if_pos rfl]
  simp
 obtain ⟨r1,r2⟩:=HRel.attach HE (id:=id) (j:=j) (o':=.pool l w (es.set i (key,some rows,bn)) cl) (q:=q) hid rfl rfl rfl hj rfl hq fun hle=>by
  simp only [objRel]
  refine ⟨b,n,ms,?_,hb,relEntries_same (fun a _ hr=>rel_le hle a hr) (relEntries_pool_set hi rfl rfl hr),?_⟩
  ·rw [List.getElem?_set_ne hne]
   exact hloc
  ·-- handles: the old ones, but at i the new one; empty ones take none
   have old:∀ (a:Nat) y,(es.set i (key,some rows,bn))[a]? = some y→a≠i→es[a]? = some y:=fun a y hy hne=>by
    rwa [List.getElem?_set_ne (Ne.symm hne)] at hy
   have at_i:∀ y,(es.set i (key,some rows,bn))[i]? = some y→y=(key,some rows,bn):=fun y hy=>by
    rw [List.getElem?_set_self (lt_of_getElem? hi)] at hy
    cases hy
    rfl
   -- where an element lies: its own handle,or,if it is empty,a number of its own behind all
   refine ⟨fun a=>if a=i then (E.X.r l).length else if hs a<(E.X.r l).length then hs a else (E.X.r l).length+1+hs a,fun a c y z hy hz sy sz hh=>?_,fun a y rws e' hy hr' he'=>?_⟩
   ·by_cases ea : a = i
    ·by_cases ec : c = i
     ·rw [ea,ec]
     ·simp only [if_pos ea, if_neg ec] at hh
      split at hh<;>omega
    ·by_cases ec : c = i
     ·simp only [if_neg ea, if_pos ec] at hh
      split at hh<;>omega
     ·simp only [if_neg ea, if_neg ec] at hh
      refine k1 a c y z (old a y hy ea) (old c z hz ec) sy sz ?_
      split at hh<;>split at hh<;>omega
   ·by_cases ea : a = i
    ·subst ea
     have:=at_i y hy
     subst this
     cases hr'
     rw [he] at he'
     cases he'
     rcases hoj with ⟨h1,h2⟩ | ⟨b',m',h1,h2,h3,h4,h5⟩
     ·obtain ⟨_, _, base, h3⟩ := v4 h1
      subst h2
      exact .inl ⟨rfl,base,h3⟩
     ·obtain ⟨h6, o, h7, h8⟩ := v5 b' m' h1
      rw [hq] at h1
      cases h1
      simp only [Nat.zero_add,Nat.zero_mul,Nat.sub_zero] at h6 h7 h8
      by_cases hm:0<m'
      ·have := h7 hm
       subst this
       refine .inr ⟨b',m',?_,h8,h2,h3,h4,relRows_same (fun a _ hr=>rel_le hle a hr) rfl h5⟩
       simp only [if_true]
       exact hnew
      ·have hr0 : rows = [] := List.eq_nil_of_length_eq_zero (by omega)
       have hm0:m'=0:=by omega
       subst hr0
       subst hm0
       exact .inl ⟨rfl,_,h8⟩
    ·rcases k2 a y rws e' (old a y hy ea) hr' he' with hl | ⟨bb, mm, s1, s2, s3, s4, s5, s6⟩
     ·exact .inl hl
     ·refine .inr ⟨bb, mm, ?_, s2, s3, s4, s5, relRows_same (fun a _ hr => rel_le hle a hr) rfl s6⟩
      have hh:=lt_of_getElem? s1
      simp only [if_neg ea,if_pos hh]
      show (attR E.X.r l q l)[hs a]? = _
      rw [htl _ hh]
      exact s1
 exact ⟨_,_,r1,r2⟩
theorem putA_sound {P:Program} {E:Env} (HE:HRel E) {t:TypeId} {m k v:AV} {c d u:Value} {H':List AObj} (h:putA P t m k v E.H=some H') (hm:rel E m c) (hk:rel E k d) (hv:rel E v u) :
  ∃ w',(Instr.mapUpdate t c d u).run P E.w=.ok () w'∧∀ x,OpPost E .undef H' x w':=by
 unfold putA at h
 split at h
 case h_2=>cases h
 rename_i kt et id w j ver off n ht
 split at h
 case h_2=>cases h
 rename_i l w' es cl w2 ver' rows hid hj
 split at h
 case h_2=>cases h
 rename_i kv hkv
 split at h
 case isFalse=>cases h
 rename_i hc
 obtain ⟨⟨rfl,rfl⟩,⟨rfl,rfl⟩,rfl,hcl⟩:=hc
 obtain ⟨b,n,ms,rfl,h1,h2,h3,h4⟩:=rel_pool HE hid hm
 have hne:j≠id:=fun e=>by rw [e,hid] at hj; cases hj
 have hkv':=keyOkA_rel hkv hk
 have e1:(getObj b).run P E.w=.ok (.map ms cl) E.w:=by simp [getObj,Sem.run,h2]
 obtain ⟨hlen,hall⟩:=relEntries_iff.1 h3
 rw [poolEs_length] at hlen
 split at h
 ·rename_i i v0 hf
  cases h
  obtain ⟨r',g1,g2⟩:=run_findKey_flat hkv' E.w h3 hf
  cases r' with
  | none=>simp [FoundAs] at g2
  | some q =>
   simp only [FoundAs] at g2
   obtain ⟨q1,q2,_,e',q4,q5⟩:=g2
   obtain ⟨_,x,y,f1,f2,f3⟩:=findA_pos hf
   simp only [Nat.sub_zero] at q4 f1
   obtain ⟨a1,a2,a3,a4,a5⟩:=hall i x e' f1 q4
   obtain ⟨s1,s2⟩:=keyVal_same hkv' (keyOkA_rel f2 a1) f3
   have q4':ms[i]? = some e':=by simpa using q4
   have hlt:i<es.length:=by have:=lt_of_getElem? q4; omega
   obtain ⟨x0,hx0⟩:∃ x0,es[i]? = some x0:=⟨es[i],List.getElem?_eq_getElem hlt⟩
   have hx:x=(x0.1,.undef,x0.2.2):=by rw [poolEs_get hx0] at f1; cases f1; rfl
   have hkk:(k,(none:Option (List (List AV))),x0.2.2)=(k,none,x0.2.2):=rfl
   -- the map turned,the element not known
   have hre:relEntries E (poolEs (es.set i (k,none,x0.2.2))) (ms.modify i fun e=>{ e with key:=d,val:=u }).toList:=by
    rw [relEntries_iff]
    refine ⟨by simp [poolEs,hlen],fun a y z hy hz=>?_⟩
    simp only [Array.toList_modify,List.getElem?_modify] at hz
    obtain ⟨z0,hz0,rfl⟩:=Option.map_eq_some_iff.1 hz
    unfold poolEs at hy
    rw [List.getElem?_map,List.getElem?_set] at hy
    by_cases e:i=a
    ·subst e
     rw [if_pos rfl,if_pos hlt] at hy
     cases hy
     rw [q4] at hz0
     cases hz0
     simp only [if_true]
     refine ⟨hk,by simp [rel],?_,hcl,rfl⟩
     rw [a3,hx]
    ·rw [if_neg e] at hy
     obtain ⟨b1,b2,b3,b4,b5⟩:=hall a y z0 (by unfold poolEs; rw [List.getElem?_map]; exact hy) hz0
     simp only [if_neg e]
     exact ⟨b1,b2,b3,b4,b5⟩
   have hsl2:slotsRel E l w (es.set i (k,none,x0.2.2)) (ms.modify i fun e=>{ e with key:=d,val:=u }).toList:=by
    obtain ⟨hs,k1,k2⟩:=h4
    have old:∀ (a:Nat) y,(es.set i (k,none,x0.2.2))[a]? = some y→y.2.1.isSome=true→es[a]? = some y∧a≠i:=fun a y hy hsm=>by
     by_cases ei:i=a
     ·subst ei
      rw [List.getElem?_set_self hlt] at hy
      cases hy
      cases hsm
     ·rw [List.getElem?_set_ne ei] at hy
      exact ⟨hy,Ne.symm ei⟩
    refine ⟨hs,fun a c y z hy hz sy sz he=>k1 a c y z (old a y hy sy).1 (old c z hz sz).1 sy sz he,fun a y rws e hy hr he=>?_⟩
    obtain ⟨o1,o2⟩:=old a y hy (by rw [hr]; rfl)
    simp only [Array.toList_modify,List.getElem?_modify] at he
    obtain ⟨z0,hz0,rfl⟩:=Option.map_eq_some_iff.1 he
    rw [if_neg (Ne.symm o2)]
    exact k2 a y rws z0 o1 hr hz0
   obtain ⟨w',p1,p2,p3,p4,p5⟩:=set_pool (P:=P) HE (cl':=cl) hid h1 h2 hre hsl2
   have hst:(Instr.keyThatStays e'.key d).run P E.w=.ok d E.w:=by simp [Instr.keyThatStays,s2]
   have hrun:(Instr.mapUpdate t (.map (some b)) d u).run P E.w=.ok () w':=by
    subst q1
    simp only [Instr.mapUpdate,Sem.run_bind,Sem.run_underlying_some (mapTy_some ht),Result.andThen_ok,e1,keyVal_check hkv',g1,q4',Option.map_some,Option.getD_some,hst]
    exact p1
   have hidE:({ w:=w',H:=E.H.set id (.pool l w (es.set i (k,none,x0.2.2)) cl),loc:=E.loc,X:=E.X }:Env).H[id]? = some (.pool l w (es.set i (k,none,x0.2.2)) cl):=by
    simp only []
    rw [List.getElem?_set_self (lt_of_getElem? hid)]
   have hjE:({ w:=w',H:=E.H.set id (.pool l w (es.set i (k,none,x0.2.2)) cl),loc:=E.loc,X:=E.X }:Env).H[j]? = some (.vec w ver rows):=by
    simp only []
    rw [List.getElem?_set_ne (Ne.symm hne)]
    exact hj
   have hobj:=p2.obj id _ hidE
   simp only [objRel] at hobj
   obtain ⟨b2,n2,ms2,o1,o2,o3,o4⟩:=hobj
   rw [h1] at o1
   simp only [Option.some.injEq,Prod.mk.injEq] at o1
   obtain ⟨rfl,rfl⟩:=o1
   rw [p4] at o2
   cases o2
   obtain ⟨loc',r',r1,r2⟩:=join_pool p2 (i:=i) (key:=k) (bn:=x0.2.2) (e:={ e' with key:=d,val:=u }) hidE hjE (by rw [List.getElem?_set_self hlt]) h1 p4 (by
    simp only [Array.toList_modify,List.getElem?_modify,q4]
    simp) o3 o4 (rel_le p3 _ hv)
   refine ⟨w',hrun,fun xx=>⟨loc',r',by simp [rel],?_,p3.trans ?_⟩⟩
   ·simpa [List.set_set,modify_set2 hx0] using r1
   ·simpa [List.set_set,modify_set2 hx0] using r2
 ·rename_i hf
  cases h
  obtain ⟨r',g1,g2⟩:=run_findKey_flat hkv' E.w h3 hf
  cases r' with
  | some _=>simp [FoundAs] at g2
  | none =>
   have hml:ms.toList.length=es.length:=by omega
   have hre:relEntries E (poolEs (es++[(k,none,cl)])) (ms.push { key:=d,val:=u,born:=cl }).toList:=by
    rw [relEntries_iff]
    refine ⟨by simp [poolEs,hlen],fun a y z hy hz=>?_⟩
    unfold poolEs at hy
    rw [List.map_append] at hy
    simp only [Array.toList_push,List.getElem?_append,List.length_map] at hy hz
    rw [hml] at hz
    by_cases e:a<es.length
    ·simp only [if_pos e] at hy hz
     exact hall a y z (by unfold poolEs; exact hy) hz
    ·simp only [if_neg e] at hy hz
     cases hj2:a-es.length with
     | zero =>
      rw [hj2] at hy hz
      simp at hy hz
      subst hy; subst hz
      exact ⟨hk,by simp [rel],rfl,hcl,rfl⟩
     | succ _=>rw [hj2] at hy; simp at hy
   have hsl2:slotsRel E l w (es++[(k,none,cl)]) (ms.push { key:=d,val:=u,born:=cl }).toList:=by
    obtain ⟨hs,k1,k2⟩:=h4
    have old:∀ (a:Nat) y,(es++[(k,(none:Option (List (List AV))),cl)])[a]? = some y→y.2.1.isSome=true→es[a]? = some y∧a<es.length:=fun a y hy hsm=>by
     rw [List.getElem?_append] at hy
     split at hy
     ·rename_i hh
      exact ⟨hy,hh⟩
     ·cases hk2 : a - es.length with
      | zero =>
       rw [hk2] at hy
       simp at hy
       subst hy
       cases hsm
      | succ _=>rw [hk2] at hy; simp at hy
    refine ⟨hs,fun a c y z hy hz sy sz he=>k1 a c y z (old a y hy sy).1 (old c z hz sz).1 sy sz he,fun a y rws e hy hr he=>?_⟩
    obtain ⟨o1,o2⟩:=old a y hy (by rw [hr]; rfl)
    simp only [Array.toList_push] at he
    rw [List.getElem?_append_left (by omega)] at he
    exact k2 a y rws e o1 hr he
   obtain ⟨w',p1,p2,p3,p4,p5⟩:=set_pool (P:=P) HE (cl':=cl+1) hid h1 h2 hre hsl2
   have hrun:(Instr.mapUpdate t (.map (some b)) d u).run P E.w=.ok () w':=by
    simp only [Instr.mapUpdate,Sem.run_bind,Sem.run_underlying_some (mapTy_some ht),Result.andThen_ok,e1,keyVal_check hkv',g1]
    exact p1
   have hidE:({ w:=w',H:=E.H.set id (.pool l w (es++[(k,none,cl)]) (cl+1)),loc:=E.loc,X:=E.X }:Env).H[id]? = some (.pool l w (es++[(k,none,cl)]) (cl+1)):=by
    simp only []
    rw [List.getElem?_set_self (lt_of_getElem? hid)]
   have hjE:({ w:=w',H:=E.H.set id (.pool l w (es++[(k,none,cl)]) (cl+1)),loc:=E.loc,X:=E.X }:Env).H[j]? = some (.vec w ver rows):=by
    simp only []
    rw [List.getElem?_set_ne (Ne.symm hne)]
    exact hj
   have hobj:=p2.obj id _ hidE
   simp only [objRel] at hobj
   obtain ⟨b2,n2,ms2,o1,o2,o3,o4⟩:=hobj
   rw [h1] at o1
   simp only [Option.some.injEq,Prod.mk.injEq] at o1
   obtain ⟨rfl,rfl⟩:=o1
   rw [p4] at o2
   cases o2
   obtain ⟨loc',r',r1,r2⟩:=join_pool p2 (i:=es.length) (key:=k) (bn:=cl) (e:={ key:=d,val:=u,born:=cl }) hidE hjE (by simp) h1 p4 (by
    simp only [Array.toList_push]
    rw [List.getElem?_append_right (by omega)]
    simp [hml]) o3 o4 (rel_le p3 _ hv)
   have e2:(es++[(k,(none:Option (List (List AV))),cl)]).set es.length (k,some rows,cl)=es++[(k,some rows,cl)]:=by
    rw [List.set_append_right _ _ (Nat.le_refl _),Nat.sub_self]
    rfl
   refine ⟨w',hrun,fun xx=>⟨loc',r',by simp [rel],?_,p3.trans ?_⟩⟩
   ·simpa [List.set_set,e2] using r1
   ·simpa [List.set_set,e2] using r2
 ·cases h
theorem HRel.enlabel {E:Env} (H:HRel E) {id l0:Nat} {o o':AObj} (hid:E.H[id]? = some o) (hlab:o.label=none) (hlab':o'.label=some l0) (hver:o'.ver? = o.ver?) (hno:∀ (i:Nat) x,E.H[i]? = some x→x.label≠some l0)
  (ho:E.le { w:=E.w,H:=E.H.set id o',loc:=E.loc,X:=E.X }→objRel { w:=E.w,H:=E.H.set id o',loc:=E.loc,X:=E.X } id o') :
  HRel { w:=E.w,H:=E.H.set id o',loc:=E.loc,X:=E.X }∧E.le { w:=E.w,H:=E.H.set id o',loc:=E.loc,X:=E.X }:=by
 have hlt:=lt_of_getElem? hid
 have H_old:∀ (i:Nat) x,(E.H.set id o')[i]? = some x→(i=id∧x=o')∨(i≠id∧E.H[i]? = some x):=fun i x hi=>by
  by_cases e2:i=id
  ·subst e2
   rw [List.getElem?_set_self hlt] at hi
   cases hi
   exact .inl ⟨rfl,rfl⟩
  ·rw [List.getElem?_set_ne (Ne.symm e2)] at hi
   exact .inr ⟨e2,hi⟩
 have hle:E.le { w:=E.w,H:=E.H.set id o',loc:=E.loc,X:=E.X }:=by
  refine ⟨fun i ver hp=>?_,Nat.le_refl _,fun _ _ _=>rfl,fun b hb hno=>hno,fun i ver hp hl=>?_,⟨rfl,rfl⟩,fun l h hh=>⟨hh,fun _ hq=>hq⟩,.refl _⟩
  ·obtain ⟨x, h1, h2⟩ := hp
   by_cases e2:i=id
   ·subst e2
    rw [hid] at h1
    cases h1
    exact ⟨o',by simp only []; rw [List.getElem?_set_self hlt],fun v hv=>h2 v (by rw [←hver]; exact hv)⟩
   ·exact ⟨x,by simp only []; rw [List.getElem?_set_ne (Ne.symm e2)]; exact h1,h2⟩
  ·obtain ⟨x, h1, h2⟩ := hl
   rcases H_old i x h1 with ⟨rfl,rfl⟩ | ⟨e2,h3⟩
   ·exact ⟨⟨o,hid,by rw [←hver]; exact h2⟩,rfl⟩
   ·exact ⟨⟨x,h3,h2⟩,rfl⟩
 refine ⟨⟨by simp [H.len],H.inj,H.lt,H.X,fun i x hi=>?_,H.tab.leC hle.toC,H.rinj,H.rloc,H.rlt,fun i k x y l hi hk h1 h2=>?_,fun l hn h y hy=>?_⟩,hle⟩
 ·rcases H_old i x hi with ⟨rfl, rfl⟩ | ⟨e2, h3⟩
  ·exact ho hle
  ·exact objRel_same (fun a _ hr=>rel_le hle a hr) rfl (fun _ _ _=>rfl) (fun l hl=>⟨rfl,fun _ _ _ _=>rfl⟩) (H.obj i x h3)
 ·rcases H_old i x hi with ⟨rfl, rfl⟩ | ⟨e2, h3⟩ <;> rcases H_old k y hk with ⟨rfl, rfl⟩ | ⟨e4, h5⟩
  ·rfl
  ·rw [hlab'] at h1
   cases h1
   exact (hno k y h5 h2).elim
  ·rw [hlab'] at h2
   cases h2
   exact (hno i x h3 h1).elim
  ·exact H.uniq i k x y l h3 h5 h1 h2
 ·refine H.rdead l (fun i x hi hl => ?_) h y hy
  by_cases e:i=id
  ·subst e
   rw [hid] at hi
   cases hi
   rw [hlab] at hl
   cases hl
  ·exact hn i x (by show (E.H.set id o')[i]? = _; rw [List.getElem?_set_ne (Ne.symm e)]; exact hi) hl
theorem pool_new {E:Env} (HE:HRel E) {id l w cl:Nat} (hid:E.H[id]? = some (.map [] cl)) (hno:noLab E.H l=true) :
  HRel { w:=E.w,H:=E.H.set id (.pool l w [] cl),loc:=E.loc,X:=E.X }∧E.le { w:=E.w,H:=E.H.set id (.pool l w [] cl),loc:=E.loc,X:=E.X } :=
 HRel.enlabel HE hid rfl rfl rfl (noLab_iff hno) fun hle=>by
  have ho:=HE.obj id _ hid
  simp only [objRel] at ho ⊢
  obtain ⟨b,n,ms,h1,h2,h3⟩:=ho
  refine ⟨b,n,ms,h1,h2,relEntries_same (fun a _ hr=>rel_le hle a hr) h3,fun _=>0,fun i j x y hi=>by simp at hi,fun i x rows e hi=>by simp at hi⟩
theorem out_pool {E:Env} (HE:HRel E) {id l w cl i:Nat} {es:List (AV × Option (List (List AV)) × Nat)} {key:AV} {rows:List (List AV)} {bn b n:Nat} {ms:Array MapEntry} {e':MapEntry} (hid:E.H[id]? = some (.pool l w es cl)) (hes:es[i]? = some (key,some rows,bn))
  (h1:E.loc[id]? = some (some (b,n))) (h2:E.w.heap[b]? = some (.map ms cl)) (h3:relEntries E (poolEs es) ms.toList) (h4:slotsRel E l w es ms.toList) (q4:ms.toList[i]? = some e') :
  ∃ loc' r',HRel { w:=E.w,H:=E.H.set id (.pool l w (es.set i (key,none,bn)) cl)++[.vec w 0 rows],loc:=loc',X:=E.X.re r' }∧E.le { w:=E.w,H:=E.H.set id (.pool l w (es.set i (key,none,bn)) cl)++[.vec w 0 rows],loc:=loc',X:=E.X.re r' } ∧
   rel { w:=E.w,H:=E.H.set id (.pool l w (es.set i (key,none,bn)) cl)++[.vec w 0 rows],loc:=loc',X:=E.X.re r' } (.vec w E.H.length 0 0 rows.length) e'.val:=by
 have hlenH:E.H.length=E.loc.length:=HE.len.symm
 obtain ⟨hs,k1,k2⟩:=h4
 have hsl:=k2 i _ rows e' hes rfl q4
 obtain ⟨qq,h0,z1,z2,z3⟩:∃ (qq:Option (Nat × Nat)) (h0:Nat),(∀ b m,qq=some (b,m)→(E.X.r l)[h0]? = some (some (some (b,m)))) ∧
   (∀ j y,es[j]? = some y→y.2.1.isSome=true→j≠i→∀ b m,(E.X.r l)[hs j]? = some (some (some (b,m)))→hs j≠h0) ∧
   ((qq=none∧rows=[]∧∃ base,e'.val=.slice base 0 0)∨∃ b m,qq=some (b,m)∧e'.val=.slice (some ⟨b,0,none⟩) rows.length m∧isRow E.w b (m*w)∧rows.length≤m∧closedRows rows∧relRows E w rows b 0):=by
  rcases hsl with ⟨s1,s2⟩ | ⟨bb,mm,s1,s2,s3,s4,s5,s6⟩
  ·exact ⟨none,(E.X.r l).length,fun _ _ e=>(by cases e),fun j y _ _ _ b m hb e=>(by rw [e] at hb; have:=lt_of_getElem? hb; omega),.inl ⟨rfl,s1,s2⟩⟩
  ·exact ⟨some (bb,mm),hs i,fun _ _ e=>(by cases e; exact s1),fun j y hy hsy hne _ _ _ e=>hne (k1 j i _ _ hy hes hsy rfl e),.inr ⟨bb,mm,rfl,s2,s3,s4,s5,s6⟩⟩
 obtain ⟨r1,r2⟩:=HRel.detach HE (id:=id) (l0:=l) (h0:=h0) (o':=.pool l w (es.set i (key,none,bn)) cl) (ov:=.vec w 0 rows) (q:=qq) hid rfl rfl rfl rfl z1 fun hle=>by
  refine ⟨?_,?_⟩
  ·simp only [objRel]
   refine ⟨b,n,ms,?_,h2,?_,?_⟩
   ·rw [List.getElem?_append_left (lt_of_getElem? h1)]
    exact h1
   ·exact relEntries_same (fun a _ hr=>rel_le hle a hr) (relEntries_pool_set hes rfl rfl h3)
   ·refine ⟨hs, fun a b' y z hy hz sy sz he => ?_, fun a y rws e hy hr he => ?_⟩
    all_goals
     have old:∀ (j:Nat) y,(es.set i (key,none,bn))[j]? = some y→y.2.1.isSome=true→es[j]? = some y∧j≠i:=fun j y hy hsm=>by
      rw [List.getElem?_set] at hy
      split at hy
      ·split at hy
       ·cases hy
        cases hsm
       ·cases hy
      ·rename_i hne
       exact ⟨hy,Ne.symm hne⟩
    ·exact k1 a b' y z (old a y hy sy).1 (old b' z hz sz).1 sy sz he
    ·obtain ⟨o1, o2⟩ := old a y hy (by rw [hr]; rfl)
     rcases k2 a y rws e o1 hr he with hl | ⟨bb,mm,s1,s2,s3,s4,s5,s6⟩
     ·exact .inl hl
     ·refine .inr ⟨bb, mm, ?_, s2, s3, s4, s5, relRows_same (fun a _ hr => rel_le hle a hr) rfl s6⟩
      have hne:=z2 a y o1 (by rw [hr]; rfl) o2 bb mm s1
      show (detR E.X.r l h0 l)[hs a]? = _
      rw [detR_keep fun e=>hne e.2]
      exact s1
  ·simp only [objRel]
   have hl:(E.loc++[qq])[E.H.length]? = some qq:=by rw [hlenH]; simp
   rcases z3 with ⟨rfl,s1,_⟩ | ⟨bb,mm,rfl,_,s3,s4,s5,s6⟩
   ·exact .inl ⟨hl,s1⟩
   ·exact .inr ⟨bb,mm,hl,s3,s4,s5,relRows_same (fun a _ hr=>rel_le hle a hr) rfl s6⟩
 refine ⟨E.loc++[qq],detR E.X.r l h0,r1,r2,?_⟩
 have hnew:(E.H.set id (.pool l w (es.set i (key,none,bn)) cl)++[.vec w 0 rows])[E.H.length]? = some (.vec w 0 rows):=by
  rw [List.getElem?_append_right (by simp)]
  simp
 have hl:(E.loc++[qq])[E.H.length]? = some qq:=by rw [hlenH]; simp
 simp only [rel]
 rcases z3 with ⟨rfl,s1,base,s2⟩ | ⟨bb,mm,rfl,s2,s3,s4,s5,s6⟩
 ·subst s1
  refine ⟨⟨base,0,by rw [s2]; rfl,Nat.le_refl _,fun h=>by simp at h⟩,⟨_,hnew,fun v hv=>by cases hv; exact Nat.le_refl _⟩,fun _=>⟨fun _=>⟨by first | rfl | trivial,by first | rfl | trivial,base,s2⟩,fun b' m' hb'=>?_⟩⟩
  rw [hl] at hb'
  cases hb'
 ·refine ⟨⟨_, mm, s2, s4, fun _ => ⟨bb, 0, rfl⟩⟩, ⟨_, hnew, fun v hv => by cases hv; exact Nat.le_refl _⟩, fun _ => ⟨fun hb' => ?_, fun b' m' hb' => ?_⟩⟩
  ·rw [hl] at hb'
   cases hb'
  ·rw [hl] at hb'
   cases hb'
   exact ⟨by omega,0,fun _=>by simp,by rw [s2,Nat.sub_zero]⟩
theorem nil_vec {E:Env} (HE:HRel E) (w:Nat) :
  HRel { w:=E.w,H:=E.H++[.vec w 0 []],loc:=E.loc++[none],X:=E.X }∧E.le { w:=E.w,H:=E.H++[.vec w 0 []],loc:=E.loc++[none],X:=E.X } ∧
   rel { w:=E.w,H:=E.H++[.vec w 0 []],loc:=E.loc++[none],X:=E.X } (.vec w E.H.length 0 0 0) (.slice none 0 0):=by
 have hle:E.le (E.push E.w (.vec w 0 []) none):=Env.le_push HE.len (Ext.refl _) (fun b n h=>by cases h)
 have hloc:(E.loc++[(none:Option (Nat × Nat))])[E.H.length]? = some none:=by rw [←HE.len]; simp
 have hobj:objRel (E.push E.w (.vec w 0 []) none) E.H.length (.vec w 0 []):=by
  simp only [objRel,Env.push]
  exact .inl ⟨hloc,trivial⟩
 refine ⟨HRel.push HE (Ext.refl _) (fun b n h=>by cases h) hobj,hle,?_⟩
 simp only [rel]
 refine ⟨⟨none,0,rfl,Nat.le_refl _,fun h=>by simp at h⟩,⟨.vec w 0 [],by simp,fun v hv=>by cases hv; exact Nat.le_refl _⟩,fun _=>⟨fun _=>⟨by first | rfl | trivial,by first | rfl | trivial,none,rfl⟩,fun b' m' hb'=>?_⟩⟩
 rw [hloc] at hb'
 cases hb'
def entryA (P:Program) (t:TypeId) (m k:AV) (H:List AObj):Option (AV × List AObj) :=
 match mapTy P t,m with
 | some (kt,et),.map id=>match H[id]? with
  | some (.pool l w es cl)=>match keyOkA P kt k,sliceW P et,zeroA P et with
   | some kv,some w',some (.lit (.slice none 0 0))=>match Nat.beq w' w&&k.closed with
    | true=>match findA P kt kv (poolEs es) 0 with
     | some (some (i,_))=>match poolAt es i with
      | some (_,rows,n)=>some (.tuple [.vec w H.length 0 0 rows.length,.lit (goInt n)],H.set id (.pool l w (es.set i (k,none,n)) cl)++[.vec w 0 rows])
      | none=>none
     | some none=>some (.tuple [.vec w H.length 0 0 0,.lit (goInt cl)],H.set id (.pool l w (es++[(k,none,cl)]) (cl+1))++[.vec w 0 []])
     | none=>none
    | false=>none
   | _,_,_=>none
  | _=>none
 | _,_=>none
theorem entryA_sound {P:Program} {E:Env} (HE:HRel E) {t:TypeId} {m k v:AV} {c d:Value} {H':List AObj} (h:entryA P t m k E.H=some (v,H')) (hm:rel E m c) (hk:rel E k d) :
  ∃ u w',(Instr.mapEntry t c d).run P E.w=.ok u w'∧OpPost E v H' u w':=by
 unfold entryA at h
 split at h
 case h_2=>cases h
 rename_i kt et id ht
 split at h
 case h_2=>cases h
 rename_i l w es cl hid
 split at h
 case h_2=>cases h
 rename_i kv w' hkv hw' hz
 split at h
 case h_2=>cases h
 rename_i hww
 simp only [Bool.and_eq_true] at hww
 have hcl:=hww.2
 clear hw' hww
 obtain ⟨b,n,ms,rfl,h1,h2,h3,h4⟩:=rel_pool HE hid hm
 have hkv':=keyOkA_rel hkv hk
 have e1:(getObj b).run P E.w=.ok (.map ms cl) E.w:=by simp [getObj,Sem.run,h2]
 obtain ⟨hlen,hall⟩:=relEntries_iff.1 h3
 rw [poolEs_length] at hlen
 have hidE:∀ (w':World) es' cl',({ w:=w',H:=E.H.set id (.pool l w es' cl'),loc:=E.loc,X:=E.X }:Env).H[id]? = some (.pool l w es' cl'):=fun w' es' cl'=>by
  simp only []
  rw [List.getElem?_set_self (lt_of_getElem? hid)]
 split at h
 ·rename_i i v0 hf
  split at h
  case h_2=>cases h
  rename_i key rows bn hat
  cases h
  have hes:es[i]? = some (key,some rows,bn):=by
   unfold poolAt at hat
   split at hat
   ·rename_i a1 a2 a3 he
    cases hat
    exact he
   ·cases hat
  have hlt:=lt_of_getElem? hes
  obtain ⟨r',g1,g2⟩:=run_findKey_flat hkv' E.w h3 hf
  cases r' with
  | none=>simp [FoundAs] at g2
  | some q =>
   simp only [FoundAs] at g2
   obtain ⟨q1,q2,_,e',q4,q5⟩:=g2
   obtain ⟨_,x,y,f1,f2,f3⟩:=findA_pos hf
   simp only [Nat.sub_zero] at q4 f1
   obtain ⟨a1,a2,a3,a4,a5⟩:=hall i x e' f1 q4
   obtain ⟨s1,s2⟩:=keyVal_same hkv' (keyOkA_rel f2 a1) f3
   have q4':ms[i]? = some e':=by simpa using q4
   have hx:x=(key,.undef,bn):=by rw [poolEs_get hes] at f1; cases f1; rfl
   have hre:relEntries E (poolEs (es.set i (k,some rows,bn))) (ms.modify i fun e=>{ e with key:=d }).toList:=by
    rw [relEntries_iff]
    refine ⟨by simp [poolEs,hlen],fun a y z hy hz=>?_⟩
    simp only [Array.toList_modify,List.getElem?_modify] at hz
    obtain ⟨z0,hz0,rfl⟩:=Option.map_eq_some_iff.1 hz
    unfold poolEs at hy
    rw [List.getElem?_map,List.getElem?_set] at hy
    by_cases e:i=a
    ·subst e
     rw [if_pos rfl,if_pos hlt] at hy
     cases hy
     rw [q4] at hz0
     cases hz0
     simp only [if_true]
     refine ⟨hk,by simp [rel],?_,hcl,rfl⟩
     rw [a3,hx]
    ·rw [if_neg e] at hy
     obtain ⟨b1,b2,b3,b4,b5⟩:=hall a y z0 (by unfold poolEs; rw [List.getElem?_map]; exact hy) hz0
     simp only [if_neg e]
     exact ⟨b1,b2,b3,b4,b5⟩
   have hsl2:slotsRel E l w (es.set i (k,some rows,bn)) (ms.modify i fun e=>{ e with key:=d }).toList:=by
    obtain ⟨hs,k1,k2⟩:=h4
    have old:∀ (a:Nat) y,(es.set i (k,some rows,bn))[a]? = some y→∃ z,es[a]? = some z∧z.2.1=y.2.1:=fun a y hy=>by
     by_cases ei:i=a
     ·subst ei
      rw [List.getElem?_set_self hlt] at hy
      cases hy
      exact ⟨_,hes,rfl⟩
     ·rw [List.getElem?_set_ne ei] at hy
      exact ⟨y,hy,rfl⟩
    refine ⟨hs,fun a c y z hy hz sy sz he=>?_,fun a y rws e hy hr he=>?_⟩
    ·obtain ⟨y', hy', ey⟩ := old a y hy
     obtain ⟨z',hz',ez⟩:=old c z hz
     exact k1 a c y' z' hy' hz' (by rw [ey]; exact sy) (by rw [ez]; exact sz) he
    ·obtain ⟨y', hy', ey⟩ := old a y hy
     simp only [Array.toList_modify,List.getElem?_modify] at he
     obtain ⟨z0,hz0,rfl⟩:=Option.map_eq_some_iff.1 he
     have:=k2 a y' rws z0 hy' (by rw [ey]; exact hr) hz0
     split<;>exact this
   obtain ⟨w1,p1,p2,p3,p4,p5⟩:=set_pool (P:=P) HE (cl':=cl) hid h1 h2 hre hsl2
   have hobj:=p2.obj id _ (hidE w1 _ _)
   simp only [objRel] at hobj
   obtain ⟨b2,n2,ms2,o1,o2,o3,o4⟩:=hobj
   rw [h1] at o1
   simp only [Option.some.injEq,Prod.mk.injEq] at o1
   obtain ⟨rfl,rfl⟩:=o1
   rw [p4] at o2
   cases o2
   obtain ⟨loc',r',r1,r2,r3⟩:=out_pool p2 (i:=i) (key:=k) (rows:=rows) (bn:=bn) (e':={ e' with key:=d }) (hidE w1 _ _) (by rw [List.getElem?_set_self hlt]) h1 p4 o3 o4 (by
    simp only [Array.toList_modify,List.getElem?_modify,q4]
    simp)
   simp only [List.set_set,List.length_set] at r1 r2 r3
   refine ⟨.tuple #[e'.val,goInt bn],w1,?_,loc',r',?_,r1,p3.trans r2⟩
   ·have hst : (Instr.keyThatStays e'.key d).run P E.w = .ok d E.w := by simp [Instr.keyThatStays, s2]
    subst q1
    simp only [Instr.mapEntry,Sem.run_bind,Sem.run_underlying_some (mapTy_some ht),Result.andThen_ok,e1,keyVal_check hkv',g1,q4',Option.map_some,Option.getD_some,hst]
    rw [p1]
    simp only [Result.andThen_ok,Sem.run_pure]
    rw [a3,hx,←q5]
   ·simp only [rel]
    refine ⟨_,rfl,?_⟩
    simp only [rLs,and_true]
    exact ⟨r3,by simp [rel]⟩
 ·rename_i hf
  cases h
  obtain ⟨r',g1,g2⟩:=run_findKey_flat hkv' E.w h3 hf
  cases r' with
  | some _=>simp [FoundAs] at g2
  | none =>
   obtain ⟨zv,z1,z2⟩:=zeroA_run hz E.w
   have hzv:zv=.slice none 0 0:=by have:=z2 E; simpa [rel] using this
   have hml:ms.toList.length=es.length:=by omega
   have hre:relEntries E (poolEs (es++[(k,none,cl)])) (ms.push { key:=d,val:=zv,born:=cl }).toList:=by
    rw [relEntries_iff]
    refine ⟨by simp [poolEs,hlen],fun a y z hy hz=>?_⟩
    unfold poolEs at hy
    rw [List.map_append] at hy
    simp only [Array.toList_push,List.getElem?_append,List.length_map] at hy hz
    rw [hml] at hz
    by_cases e:a<es.length
    ·simp only [if_pos e] at hy hz
     exact hall a y z (by unfold poolEs; exact hy) hz
    ·simp only [if_neg e] at hy hz
     cases hj2:a-es.length with
     | zero =>
      rw [hj2] at hy hz
      simp at hy hz
      subst hy; subst hz
      exact ⟨hk,by simp [rel],rfl,hcl,rfl⟩
     | succ _=>rw [hj2] at hy; simp at hy
   have hsl2:slotsRel E l w (es++[(k,none,cl)]) (ms.push { key:=d,val:=zv,born:=cl }).toList:=by
    obtain ⟨hs,k1,k2⟩:=h4
    have old:∀ (a:Nat) y,(es++[(k,(none:Option (List (List AV))),cl)])[a]? = some y→y.2.1.isSome=true→es[a]? = some y∧a<es.length:=fun a y hy hsm=>by
     rw [List.getElem?_append] at hy
     split at hy
     ·rename_i hh
      exact ⟨hy,hh⟩
     ·cases hk2 : a - es.length with
      | zero =>
       rw [hk2] at hy
       simp at hy
       subst hy
       cases hsm
      | succ _=>rw [hk2] at hy; simp at hy
    refine ⟨hs,fun a c y z hy hz sy sz he=>k1 a c y z (old a y hy sy).1 (old c z hz sz).1 sy sz he,fun a y rws e hy hr he=>?_⟩
    obtain ⟨o1,o2⟩:=old a y hy (by rw [hr]; rfl)
    simp only [Array.toList_push] at he
    rw [List.getElem?_append_left (by omega)] at he
    exact k2 a y rws e o1 hr he
   obtain ⟨w1,p1,p2,p3,p4,p5⟩:=set_pool (P:=P) HE (cl':=cl+1) hid h1 h2 hre hsl2
   obtain ⟨r1,r2,r3⟩:=nil_vec p2 w
   simp only [List.length_set] at r3
   refine ⟨.tuple #[zv,goInt cl],w1,?_,E.loc++[none],E.X.r,?_,r1,p3.trans r2⟩
   ·simp only [Instr.mapEntry, Sem.run_bind, Sem.run_underlying_some (mapTy_some ht), Result.andThen_ok, e1, keyVal_check hkv', g1, z1]
    rw [p1]
    rfl
   ·simp only [rel]
    refine ⟨_,rfl,?_⟩
    simp only [rLs,and_true]
    rw [hzv]
    exact ⟨r3,by simp [rel]⟩
 ·cases h
def bornIdx (es:List (AV × Option (List (List AV)) × Nat)) (st:Int):Option Nat:=es.findIdx? fun x=>(x.2.2:Int)==st
def estoreA (m s v:AV) (H:List AObj):Option (List AObj) :=
 match m,s,v with
 | .map id,.lit (.int .i64 st),.vec w j ver off n=>match H[id]?,H[j]? with
  | some (.pool l w' es cl),some (.vec w2 ver' rows)=>if (w=w'∧w=w2)∧(ver=ver'∧off=0)∧n=rows.length then
    match bornIdx es st with
    | some i=>match es[i]? with
     | some (key,_,bn)=>some ((H.set id (.pool l w' (es.set i (key,some rows,bn)) cl)).set j .dead)
     | none=>none
    | none=>none
   else none
  | _,_=>none
 | _,_,_=>none
theorem born_find {E:Env} {st:Int}:∀ {es:List (AV × Option (List (List AV)) × Nat)} {ms:List MapEntry},relEntries E (poolEs es) ms→ms.findIdx? (fun e=>(e.born:Int)==st)=bornIdx es st
 | [],[],_=>rfl
 | [],_::_,h=>by simp [poolEs,relEntries] at h
 | _::_,[],h=>by simp [poolEs,relEntries] at h
 | x::es,e::ms,h=>by
  have h':relEntries E ((x.1,.undef,x.2.2)::poolEs es) (e::ms):=h
  simp only [relEntries] at h'
  obtain ⟨_,_,h3,_,_,h6⟩:=h'
  have ih:=born_find (st:=st) h6
  unfold bornIdx at ih ⊢
  simp only [List.findIdx?_cons,h3,ih]
theorem estoreA_sound {P:Program} {E:Env} (HE:HRel E) {t:TypeId} {m s v:AV} {c d u:Value} {H':List AObj} (h:estoreA m s v E.H=some H') (hm:rel E m c) (hs:rel E s d) (hv:rel E v u) :
  ∃ w',(Instr.entryStore t c d u).run P E.w=.ok () w'∧∀ x,OpPost E .undef H' x w':=by
 unfold estoreA at h
 split at h
 case h_2=>cases h
 rename_i id st w j ver off n
 split at h
 case h_2=>cases h
 rename_i l w' es cl w2 ver' rows hid hj
 split at h
 case isFalse=>cases h
 rename_i hc
 obtain ⟨⟨rfl,rfl⟩,⟨rfl,rfl⟩,rfl⟩:=hc
 split at h
 case h_2=>cases h
 rename_i i hi
 split at h
 case h_2=>cases h
 rename_i key old bn hes
 cases h
 obtain ⟨b,n,ms,rfl,h1,h2,h3,h4⟩:=rel_pool HE hid hm
 have hne:j≠id:=fun e=>by rw [e,hid] at hj; cases hj
 have e1:(getObj b).run P E.w=.ok (.map ms cl) E.w:=by simp [getObj,Sem.run,h2]
 obtain ⟨hlen,hall⟩:=relEntries_iff.1 h3
 rw [poolEs_length] at hlen
 have hlt:=lt_of_getElem? hes
 obtain ⟨e',q4⟩:∃ e',ms.toList[i]? = some e':=⟨ms.toList[i]'(by omega),List.getElem?_eq_getElem _⟩
 have hfind:ms.findIdx? (fun e=>(e.born:Int)==st)=some i:=by
  have e0:ms=ms.toList.toArray:=by simp
  rw [e0,List.findIdx?_toArray,born_find h3,hi]
 have hre:relEntries E (poolEs (es.set i (key,none,bn))) (ms.modify i fun e=>{ e with val:=u }).toList:=by
  rw [relEntries_iff]
  refine ⟨by simp [poolEs,hlen],fun a y z hy hz=>?_⟩
  simp only [Array.toList_modify,List.getElem?_modify] at hz
  obtain ⟨z0,hz0,rfl⟩:=Option.map_eq_some_iff.1 hz
  unfold poolEs at hy
  rw [List.getElem?_map,List.getElem?_set] at hy
  by_cases e:i=a
  ·subst e
   rw [if_pos rfl,if_pos hlt] at hy
   cases hy
   obtain ⟨b1,b2,b3,b4,b5⟩:=hall i _ z0 (poolEs_get hes) hz0
   simp only [if_true]
   exact ⟨b1,by simp [rel],b3,b4,rfl⟩
  ·rw [if_neg e] at hy
   obtain ⟨b1,b2,b3,b4,b5⟩:=hall a y z0 (by unfold poolEs; rw [List.getElem?_map]; exact hy) hz0
   simp only [if_neg e]
   exact ⟨b1,b2,b3,b4,b5⟩
 have hsl2:slotsRel E l w (es.set i (key,none,bn)) (ms.modify i fun e=>{ e with val:=u }).toList:=by
  obtain ⟨hs,k1,k2⟩:=h4
  have old:∀ (a:Nat) y,(es.set i (key,none,bn))[a]? = some y→y.2.1.isSome=true→es[a]? = some y∧a≠i:=fun a y hy hsm=>by
   by_cases ei:i=a
   ·subst ei
    rw [List.getElem?_set_self hlt] at hy
    cases hy
    cases hsm
   ·rw [List.getElem?_set_ne ei] at hy
    exact ⟨hy,Ne.symm ei⟩
  refine ⟨hs,fun a c y z hy hz sy sz he=>k1 a c y z (old a y hy sy).1 (old c z hz sz).1 sy sz he,fun a y rws e hy hr he=>?_⟩
  obtain ⟨o1,o2⟩:=old a y hy (by rw [hr]; rfl)
  simp only [Array.toList_modify,List.getElem?_modify] at he
  obtain ⟨z0,hz0,rfl⟩:=Option.map_eq_some_iff.1 he
  rw [if_neg (Ne.symm o2)]
  exact k2 a y rws z0 o1 hr hz0
 obtain ⟨w',p1,p2,p3,p4,p5⟩:=set_pool (P:=P) HE (cl':=cl) hid h1 h2 hre hsl2
 have hd:d=.int .i64 st:=by simpa [rel] using hs
 have hrun:(Instr.entryStore t (.map (some b)) d u).run P E.w=.ok () w':=by
  subst hd
  simp only [Instr.entryStore,asInt,asIntOf,Sem.run_bind,Result.andThen_ok,e1,Sem.run_pure,hfind]
  exact p1
 have hidE:({ w:=w',H:=E.H.set id (.pool l w (es.set i (key,none,bn)) cl),loc:=E.loc,X:=E.X }:Env).H[id]? = some (.pool l w (es.set i (key,none,bn)) cl):=by
  simp only []
  rw [List.getElem?_set_self (lt_of_getElem? hid)]
 have hjE:({ w:=w',H:=E.H.set id (.pool l w (es.set i (key,none,bn)) cl),loc:=E.loc,X:=E.X }:Env).H[j]? = some (.vec w ver rows):=by
  simp only []
  rw [List.getElem?_set_ne (Ne.symm hne)]
  exact hj
 have hobj:=p2.obj id _ hidE
 simp only [objRel] at hobj
 obtain ⟨b2,n2,ms2,o1,o2,o3,o4⟩:=hobj
 rw [h1] at o1
 simp only [Option.some.injEq,Prod.mk.injEq] at o1
 obtain ⟨rfl,rfl⟩:=o1
 rw [p4] at o2
 cases o2
 obtain ⟨loc',r',r1,r2⟩:=join_pool p2 (i:=i) (key:=key) (bn:=bn) (e:={ e' with val:=u }) hidE hjE (by rw [List.getElem?_set_self hlt]) h1 p4 (by
  simp only [Array.toList_modify,List.getElem?_modify,q4]
  simp) o3 o4 (rel_le p3 _ hv)
 refine ⟨w',hrun,fun xx=>⟨loc',r',by simp [rel],?_,p3.trans ?_⟩⟩
 ·simpa [List.set_set] using r1
 ·simpa [List.set_set] using r2
end Go.AL
