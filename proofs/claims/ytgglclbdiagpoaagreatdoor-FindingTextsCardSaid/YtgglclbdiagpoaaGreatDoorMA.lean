/-
 What is proved here: basic facts of an abstract logic for the model's programs: abstract values,what they say of the model's values in a world,and that this survives what a call may do. No program in sight; no condition.
-/
import Derived.Calls
import Derived.Orders
import Derived.OrdersIn
import Derived.RangeFuncNested
import Derived.RangeFuncLeaves
import Derived.Laws.Sem
import Derived.Laws.Cells
import Derived.Laws.StructEq
import Derived.Laws.AppendOwn
import Derived.Laws.CopyRow
set_option linter.all false
open Array renaming getElem?_push→Sb,length_toList→lE,toList_map→IH,ext'→gg,range→gD,map→IM,getElem?_setIfInBounds→BO,toList_modify→kT,toList_push→po
open BitVec renaming ofInt→xq
open Bool renaming and_true→fG,and_eq_true→ar,false_eq_true→lD,and_assoc→ahA
open ByteArray renaming empty→tS
open Go.Act renaming eval→BH
open Go.Addr.mk renaming injEq→IC
open Go.Builtin renaming lenOf→IG,firstCells→ia,append_→kR,zeroCells→xw,nextslicecap→II,delete_→Sv,clear_→Sx
open Go.Instr renaming loadAt→BJ,sureAddr→nB,fieldAt→Sd,indexAt→xu,sliceBounds→qL,sliceBound→BK,sliceAt→mo,slice→nD,index→Sj,field→ahC,fill→ahD,build→Sl,storeAt→IK,alloc→BM,box→ahI,makeSlice→ahJ,buildSlice→IN,range→Sq,checkKey→tX,findAsking→Sr,findNow→xz,sameNow→xA,findKey→Ss,lookup→kS,makeMap→Su,sameBits→IP,mapUpdate→mr,keyThatStays→qQ,mapEntry→BQ,entryStore→xB
open Go.Op renaming bytesLess→xr,equalIn→jx,eqFields→Si,equal→xv
open Go.Program renaming fieldsOf→ahB
open Go.Question renaming cut→ahG,forced→ahH
open Go.Result renaming andThen_ok→bP
open Go.Sem renaming run_bind→bT,run_pure→fc,run→gE
open Go.Utf8 renaming decode→nH
open Go.Value renaming cells→IE
open Go.Value.pointer renaming injEq→ahy
open Go.Value.slice renaming injEq→j0
open Go.World renaming cell?→pg,setRow→ahE
open List renaming length_cons→cw,append_nil→dx,getElem?_append_left→cQ,length_map→dv,getElem?_map→bR,getElem_of_mem→ny,getElem?_eq_getElem→bd,mem_of_getElem?→fa,getElem?_eq_none→nz,getElem?_append_right→jv,getElem?_append→fb,getElem?_set_self→bk,getElem?_set_ne→aV,getElem?_set→dS,set_eq_of_length_le→IB,all_eq_true→bO,nodup_nil→Sc,getD_eq_getElem?_getD→b_,getElem?_drop→qK,getElem?_take→nA,take_succ_cons→BI,mem_cons→bS,map_cons→cY,map_take→Se,map_drop→ID,mem_of_mem_drop→qM,mem_of_mem_take→nC,cons_append→kO,drop_succ_cons→Sf,take_one→Sg,eq_nil_of_length_eq_zero→nE,drop_drop→ph,take_append_drop→qN,ext_getElem?→kP,length_take→jy,length_set→kQ,length_append→dV,mem_append→cG,mapM_cons→Sk,flatten_cons→qO,getElem?_of_mem→tV,size_toArray→BL,nil_append→mq,length_drop→pn,flatten_append→xy,replicate→bU,replicate_succ→Sm,eq_of_mem_replicate→Sn,getElem?_modify→iH,mem_cons_self→cH,mem_cons_of_mem→cI,replicate_zero→ahK,mem_replicate→ahL,set_set→nJ,map_append→iI,findIdx?_cons→IQ,findIdx?_toArray→ahN
open List.cons renaming injEq→IF
open Nat renaming add_assoc→pe,add_comm→xp,add_mul→fH,le_refl→aH,le_add_right→fT,le_trans→jZ,lt_of_lt_of_le→dy,zero_le→dB,ne_of_lt→ahx,lt_or_ge→h_,zero_add→cR,sub_sub→ahz,mul_le_mul→ahF,sub_zero→gC,zero_mul→pj,add_zero→pk,mul_le_mul_right→tW,one_mul→IL,beq→af,mul_eq_zero→Sp,succ_mul→ahM,eq_of_beq_eq_true→br,le_of_eq→ahO
open Option renaming map_eq_some_iff→dR,isSome_iff_exists→tT,map_some→dL,getD_some→nI
open Option.some renaming injEq→aX
open Prod.mk renaming injEq→a8
namespace Go.AL
inductive Kd where
 |int (k:IntKind)
 |str
 |bool
 |list (ks:List Kd)
 deriving Inhabited
inductive G where
 |i (n:Int)
 |s (b:ByteArray)
 |t (x:Bool)
 |l (rows:List (List G))
instance:Inhabited G:=⟨.i 0⟩
def G.int:G→Int
 |.i n=>n
 |_=>0
def G.str:G→ByteArray
 |.s b=>b
 |_=>tS
def G.bool:G→Bool
 |.t x=>x
 |_=>false
def G.rows:G→List (List G)
 |.l rows=>rows
 |_=>[]
inductive AV where
 |undef
 |lit (v:Value)
 |nils
 |list (k:Nat) (rows:List (List AV))
 |listF (ks:List Kd) (rows:List (List G))
 |agg (cells:List AV)
 |tuple (vs:List AV)
 |cptr (cells:List AV)
 |ptr (id ad k row col:Nat)
 |vec (k id ad off n:Nat)
 |map (id:Nat)
 |clo (f:FuncId) (caps:List AV)
 |ifc
 |emptyS (isNil:Bool)
 |sub (id l:Nat) (j:Option Nat)
 deriving Inhabited
def ic:Kd→G→AV
 |.int k,g=>.lit (.int k g.int)
 |.str,g=>.lit (.string g.str)
 |.bool,g=>.lit (.bool g.bool)
 |.list ks,g=>.listF ks g.rows
def aK:List Kd→List G→List AV
 | [],_=>[]
 |k::ks,g=>ic k (g.headD default)::aK ks g.tail
theorem qX:∀(ks:List Kd) (g:List G),(aK ks g).length=ks.length
 | [],_=>rfl
 |_::ks,g=>by simp[aK,qX ks]
inductive ab where
 |dead
 |box (cells:List AV)
 |vec (k ad:Nat) (rows:List (List AV))
 |map (es:List (AV × AV × Nat)) (clock:Nat)
 |iter (s:ByteArray) (pos:Nat)
 |bJ (l:Nat) (T B:TypeId) (s:ByteArray)
 |aY (l k:Nat) (es:List (AV × Option (List (List AV)) × Nat)) (clock:Nat)
 |mm (l:Nat) (es:List (AV × Option Nat × Nat)) (ms:List (List (AV × AV × Nat) × Nat)) (clock:Nat)
 |dX
 deriving Inhabited
def ab.born:ab→Bool
 |.dX=>false
 |_=>true
def ab.label:ab→Option Nat
 |.bJ l _ _ _=>some l
 |.aY l _ _ _=>some l
 |.mm l _ _ _=>some l
 |_=>none
def ab.db:ab→Option Nat
 |.mm l _ _ _=>some l
 |_=>none
theorem ab.kX{o:ab}{l:Nat}(h:o.db=some l):o.label=some l:=by
 cases o<;>first|exact h|cases h
theorem ab.BZ{o:ab}{l:Nat}(h:o.db=some l):o.born=true:=by
 cases o<;>first|rfl|cases h
theorem ab.xR{o:ab}{l:Nat}(h:o.label=some l):o.born=true:=by
 cases o<;>first|rfl|cases h
theorem ab.xS{o:ab}(h:o.label=none):o.db=none:=by
 cases o<;>first|rfl|cases h
def ab.aF : ab→Option Nat
 |.dead=>none
 |.box _=>some 0
 |.vec _ v _=>some v
 |.map _ _=>some 0
 |.iter _ _=>some 0
 |.bJ ..=>some 0
 |.aY ..=>some 0
 |.mm ..=>some 0
 |.dX=>none
theorem ab.B0{o:ab}{v:Nat}(h:o.aF = some v):o.born=true:=by
 cases o<;>first|rfl|cases h
structure XS where
 x:Nat→Prop
 z:Nat→Prop
 r:Nat→List (Option (Option (Nat × Nat)))
instance:CoeFun XS fun _=>Nat→Prop:=⟨XS.x⟩
def XS.or(X:XS)(p:Nat→Prop):XS:=⟨fun b=>X b∨p b,X.z,X.r⟩
def XS.re(X:XS) (r:Nat→List (Option (Option (Nat × Nat)))):XS:=⟨X.x,X.z,r⟩
@[simp] theorem XS.S8 (X:XS):X.re X.r=X:=rfl
@[simp] theorem XS.aiu (X:XS) (r):(X.re r).x=X.x:=rfl
@[simp] theorem XS.aiv (X:XS) (r):(X.re r).z=X.z:=rfl
@[simp] theorem XS.aiw (X:XS) (r):(X.re r).r=r:=rfl
@[simp] theorem XS.aix (X:XS) (r r'):(X.re r).re r'=X.re r':=rfl
theorem XS.I_{X X':XS}(h:X'.x=X.x∧X'.z=X.z)(r):X'.re r=X.re r:=by
 unfold XS.re;rw[h.1,h.2]
def eD:Nat→List (Option (Option (Nat × Nat))):=fun _=>[]
def qY:List (Nat × Array Value):=[(0,((List.range 20).map fun i=>Value.int .u64 ((10 ^ i:Nat):Int)).toArray)]
class Dr where
 d:Bool
abbrev mB:Dr:=⟨true⟩
abbrev S9:Dr:=⟨false⟩
variable [Dr]
def pD:Bool:=Dr.d
structure Env where
 w:World
 H:List ab
 loc:List (Option (Nat × Nat))
 X:XS
def Env.sat(E:Env)(b:Nat):Prop:=∃(l h m:Nat),(E.X.r l)[h]? = some (some (some (b,m)))
def Env.own(E:Env)(b:Nat):Prop:=(∃(id:Nat) (c:Nat),E.loc[id]? = some (some (b,c)))∨E.sat b
def Env.ig(E:Env)(b:Nat):Prop:=b<E.w.heap.size∧¬ E.own b∧¬ E.X b
def Env.live(E:Env)(id ad:Nat):Prop:=∃ o,E.H[id]? = some o∧o.aF = some ad
def Env.past(E:Env)(id ad:Nat):Prop:=∃ o,E.H[id]? = some o∧o.born=true∧∀ v,o.aF = some v→ad≤v
def dY (r:List (Option (Option (Nat × Nat)))):List Nat:=r.filterMap fun x=>match x with
 |some (some (b,_))=>some b
 |_=>none
theorem B1 (r t:List (Option (Option (Nat × Nat)))):dY (r++t)=dY r++dY t:=List.filterMap_append
def Env.I'(E:Env)(id l i:Nat)(c:Value):Prop:=(∃ o,E.H[id]? = some o∧o.db=some l)∧∃ b,(dY (E.X.r l))[i]? = some b∧c=.map (some b)
def dw:Value→Bool
 |.agg _ | .tuple _=>false
 |_=>true
mutual
def AV.closed:AV→Bool
 |.undef | .lit _ | .nils | .list _ _ | .listF _ _ | .cptr _ | .ifc | .emptyS _=>true
 |.agg cs | .tuple cs | .clo _ cs=>AV.bu cs
 |.ptr .. | .vec .. | .map _ | .sub ..=>false
def AV.bu:List AV→Bool
 | []=>true
 |a::as=>a.closed&&AV.bu as
end
theorem fW:∀(ks:List Kd) (g:List G),AV.bu (aK ks g)=true
 | [],_=>rfl
 | k::ks,g=>by
  simp only[aK,AV.bu,fW ks,fG];cases k<;>rfl
mutual
def dG(E:Env):Kd→G→Value→Prop
 |.int k,g,c=>c=.int k g.int
 |.str,g,c=>c=.string g.str
 |.bool,g,c=>c=.bool g.bool
 | .list ks,g,c=>∃ base cap,c=.slice base g.rows.length cap∧g.rows.length≤cap ∧
   (g.rows=[]∨∃ b o,base=some ⟨b,o,none⟩∧E.ig b∧∀(i:Nat) (r:List G),g.rows[i]? = some r→jB E ks r b (o+i*ks.length))
def jB(E:Env):List Kd→List G→Nat→Nat→Prop
 | [],_,_,_=>True
 |k::ks,g,b,o=>(∃ v,E.w.cell? ⟨b,o,none⟩=some v∧dw v=true∧dG E k (g.headD default) v)∧jB E ks g.tail b (o+1)
end
def ff(rows:List (List AV)):Prop:=∀ r∈rows,AV.bu r=true
mutual
def rel(E:Env):AV→Value→Prop
 |.undef,_=>True
 |.lit v,c=>c=v
 |.nils,c=>∃ base,c=.slice base 0 0
 | .list k rows,c=>ff rows∧∃ base cap,c=.slice base rows.length cap∧rows.length≤cap ∧
   (rows=[]∨∃ b o,base=some ⟨b,o,none⟩∧E.ig b∧cz E k rows b o)
 |.listF ks rows,c=>dG E (.list ks) (.l rows) c
 |.agg cells,c=>∃ cs:Array Value,c=.agg cs∧(∀ x∈cs.toList,dw x=true)∧ae E cells cs.toList
 |.tuple vs,c=>∃ cs:Array Value,c=.tuple cs∧ae E vs cs.toList
 |.cptr cells,c=>AV.bu cells=true∧∃ b o,c=.pointer (some ⟨b,o,none⟩)∧E.ig b∧cf E cells b o
 | .ptr id ad k row col,c=>(∃ b o,c=.pointer (some ⟨b,o,none⟩))∧E.past id ad∧(E.live id ad→∃ b n,E.loc[id]? = some (some (b,n)) ∧
   c=.pointer (some ⟨b,row*k+col,none⟩))
 | .vec k id ad off n,c=>(∃ base cap,c=.slice base n cap∧n≤cap∧(0<n→∃ b o,base=some ⟨b,o,none⟩))∧E.past id ad∧(E.live id ad →
   (E.loc[id]? = some none→n=0∧off=0∧∃ base,c=.slice base 0 0) ∧
   (∀ b m,E.loc[id]? = some (some (b,m))→off+n≤m∧∃ o,(off<m→o=off*k)∧c=.slice (some ⟨b,o,none⟩) n (m-off)))
 |.map id,c=>(∃ b,c=.map (some b))∧E.past id 0∧(E.live id 0→∃ b n,E.loc[id]? = some (some (b,n))∧c=.map (some b))
 |.clo f caps,c=>∃ cs:Array Value,c=.func (.func f) #[] cs∧ae E caps cs.toList
 |.ifc,c=>∃ t v,c=.iface t v
 |.emptyS n,c=>∃ base cap,c=.slice base 0 cap∧base.isNone=n
 |.sub id l j,c=>(j=none∧c=.map none)∨∃ i,j=some i∧(∃ b,c=.map (some b))∧E.past id 0∧(E.live id 0→E.I' id l i c)
def ae(E:Env):List AV→List Value→Prop
 | [],[]=>True
 |a::as,v::vs=>rel E a v∧ae E as vs
 |_,_=>False
def cf(E:Env):List AV→Nat→Nat→Prop
 | [],_,_=>True
 |a::as,b,o=>(∃ v,E.w.cell? ⟨b,o,none⟩=some v∧dw v=true∧rel E a v)∧cf E as b (o+1)
def cz(E:Env)(k:Nat):List (List AV)→Nat→Nat→Prop
 | [],_,_=>True
 |r::rs,b,o=>r.length=k∧cf E r b o∧cz E k rs b (o+k)
end
theorem jd{E:Env}:∀{as:List AV} {vs:List Value},ae E as vs→as.length=vs.length
 | [],[],_=>rfl
 |_::_,_::_,h=>by simp only[ae]at h; simp[jd h.2]
 | [],_::_,h=>by simp[ae]at h
 |_::_,[],h=>by simp[ae]at h
theorem mC{E:Env}:∀{as:List AV} {vs:List Value},
  ae E as vs↔as.length=vs.length∧∀(i:Nat) a v,as[i]? = some a→vs[i]? = some v→rel E a v
 | [],[]=>by simp[ae]
 | [],_::_=>by simp[ae]
 |_::_,[]=>by simp[ae]
 | a::as,v::vs=>by
  simp only[ae,mC (as:=as),cw];constructor
  ·rintro ⟨h1, h, k⟩
   refine⟨by omega,fun i x y d g=>?_⟩;cases i with
   |zero=>simp at d g; subst d; subst g; exact h1
   |succ i=>exact k i x y (by simpa using d) (by simpa using g)
  ·rintro ⟨h1, h⟩
   exact⟨h 0 a v rfl rfl,by omega,fun i x y d g=>h (i+1) x y (by simpa using d) (by simpa using g)⟩
theorem iL{E:Env}:∀{as:List AV} {b o:Nat},
  cf E as b o↔∀(i:Nat) a,as[i]? = some a→∃ v,E.w.cell? ⟨b,o+i,none⟩=some v∧dw v=true∧rel E a v
 | [],b,o=>by simp[cf]
 | a::as,b,o=>by
  simp only[cf,iL (as:=as)];constructor
  ·rintro ⟨h1, g⟩ i x d
   cases i with
   |zero=>simp at d; subst d; exact h1
   |succ i=>have:=g i x (by simpa using d); rwa [pe,xp 1 i]at this
  ·intro h
   refine⟨h 0 a rfl,fun i x d=>?_⟩;have:=h (i+1) x (by simpa using d)
   rwa [pe,xp 1 i]
theorem lH{E:Env}{k:Nat}:∀{rs:List (List AV)} {b o:Nat},
  cz E k rs b o↔∀(i:Nat) r,rs[i]? = some r→r.length=k∧cf E r b (o+i*k)
 | [],b,o=>by simp[cz]
 | r::rs,b,o=>by
  simp only[cz,lH (rs:=rs)];constructor
  ·rintro ⟨h0, h1, g⟩ i x d
   cases i with
   |zero=>simp at d; subst d; simpa using⟨h0,h1⟩
   | succ i =>
    have:=g i x (by simpa using d)
    rwa [pe,show k+i*k=(i+1)*k from by rw[fH]; omega]at this
  ·intro h
   have h0:=h 0 r rfl;refine⟨h0.1,by simpa using h0.2,fun i x d=>?_⟩;have:=h (i+1) x (by simpa using d)
   rwa [pe,show k+i*k=(i+1)*k from by rw[fH]; omega]
def dC(w w':World):Prop:=w'.os=w.os∧w'.output=w.output∧w'.tape=w.tape∧(pD=true→w.drawn≤w'.drawn)
theorem dC.refl(w:World):dC w w:=⟨rfl,rfl,rfl,by first|exact fun _=>aH _|exact fun _=>fT _ _⟩
theorem dC.trans{w w' d:World}(h:dC w w')(h':dC w' d):dC w d:=⟨h'.1.trans h.1,h'.2.1.trans h.2.1,h'.2.2.1.trans h.2.2.1,fun t=>jZ (h.2.2.2 t) (h'.2.2.2 t)⟩
structure Env.le (E E':Env):Prop where
 past:∀ id ad,E.past id ad→E'.past id ad
 size:E.w.heap.size≤E'.w.heap.size
 same:∀ b,b<E.w.heap.size→¬ E.own b→E'.w.heap[b]? = E.w.heap[b]?
 own:∀ b,b<E.w.heap.size→¬ E.own b→¬ E'.own b
 live:∀ id ad,E.past id ad→E'.live id ad→E.live id ad∧E'.loc[id]? = E.loc[id]?
 X:E'.X.x=E.X.x∧E'.X.z=E.X.z
 rl:∀ l h,h<(E.X.r l).length→h<(E'.X.r l).length∧∀ q,(E'.X.r l)[h]? = some (some q)→(E.X.r l)[h]? = some (some q)
 env:dC E.w E'.w
 grow:∀ id l o,E.H[id]? = some o→o.db=some l→E'.live id 0→(∃ t,E'.X.r l=E.X.r l++t)∧∃ o',E'.H[id]? = some o'∧o'.db=some l
theorem Env.le.refl(E:Env):E.le E:=⟨fun _ _ h=>h,aH _,fun _ _ _=>rfl,fun _ _ h=>h,fun _ _ _ h=>⟨h,rfl⟩,⟨rfl,rfl⟩,fun _ _ h=>⟨h,fun _ d=>d⟩,⟨rfl,rfl,rfl,by first|exact fun _=>aH _|exact fun _=>fT _ _⟩,fun _ _ o h1 g _=>⟨⟨[],(dx _).symm⟩,o,h1,g⟩⟩
theorem Env.le.ok{E E':Env}(h:E.le E')(b:Nat)(hb:E.ig b):E'.ig b :=
 ⟨dy hb.1 h.size,h.own b hb.1 hb.2.1,by rw[show E'.X.x=E.X.x from h.X.1]; exact hb.2.2⟩
theorem Env.le.trans{E E' y:Env}(h:E.le E')(h':E'.le y):E.le y where
 past:=fun id ad d=>h'.past id ad (h.past id ad d)
 size:=jZ h.size h'.size
 same:=fun b hb ho=>by rw[h'.same b (dy hb h.size) (h.own b hb ho),h.same b hb ho]
 own:=fun b hb ho=>h'.own b (dy hb h.size) (h.own b hb ho)
 live:=fun id ad hid M=>by
  obtain⟨g,a2⟩:=h'.live id ad (h.past id ad hid) M;obtain⟨b1,k⟩:=h.live id ad hid g;exact⟨b1,by rw[a2,k]⟩
 X:=⟨by rw[h'.X.1,h.X.1],by rw[h'.X.2,h.X.2]⟩
 rl:=fun l i hi=>by
  obtain⟨g,a2⟩:=h.rl l i hi;obtain⟨b1,k⟩:=h'.rl l i g;exact⟨b1,fun q N=>a2 q (k q N)⟩
 env:=h.env.trans h'.env
 grow:=fun id l o h1 z u=>by
  have d:E.past id 0:=⟨o,h1,ab.BZ z,fun v u=>dB _⟩
  obtain⟨B,_⟩:=h'.live id 0 (h.past id 0 d) u;obtain⟨⟨t,O⟩,o',g1,g2⟩:=h.grow id l o h1 z B;obtain⟨⟨t',I⟩,J,g3,g4⟩:=h'.grow id l o' g1 g2 u;exact⟨⟨t++t',by rw[I,O,List.append_assoc]⟩,J,g3,g4⟩
theorem World.qZ{w w':World}{b o:Nat}(h:w'.heap[b]? = w.heap[b]?):w'.cell? ⟨b,o,none⟩=w.cell? ⟨b,o,none⟩:=by
 simp[pg,h]
structure Env.bD (E E':Env):Prop where
 ok:∀ b,E.ig b→E'.ig b∧E'.w.heap[b]? = E.w.heap[b]?
theorem Env.le.toC{E E':Env}(h:E.le E'):E.bD E':=⟨fun b hb=>⟨h.ok b hb,h.same b hb.1 hb.2.1⟩⟩
mutual
theorem Ja{E E':Env}(h:E.bD E'):∀(k:Kd) {g:G} {c:Value},dG E k g c→dG E' k g c
 |.int k,g,c,d=>by simpa only[dG]using d
 |.str,g,c,d=>by simpa only[dG]using d
 |.bool,g,c,d=>by simpa only[dG]using d
 | .list ks,g,c,d=>by
  simp only[dG]at d⊢;obtain⟨base,cap,v,hle,u⟩:=d;refine⟨base,cap,v,hle,?_⟩;rcases u with y|⟨b,o,hb,q,t⟩
  ·exact .inl y
  ·exact .inr ⟨b,o,hb,(h.ok b q).1,fun i r hi=>Jb h ks (h.ok b q).2 (t i r hi)⟩
theorem Jb{E E':Env}(h:E.bD E'):∀(ks:List Kd) {g:List G} {b o:Nat},E'.w.heap[b]? = E.w.heap[b]? → jB E ks g b o→jB E' ks g b o
 | [],_,_,_,_,_=>by simp[jB]
 | k::ks,g,b,o,hb,d=>by
  simp only[jB]at d⊢;obtain⟨⟨v,h1,q,t⟩,u⟩:=d;exact⟨⟨v,by rw[World.qZ hb]; exact h1,q,Ja h k t⟩,Jb h ks hb u⟩
end
mutual
theorem fg{E E':Env}(h:E.bD E'):∀(a:AV) {c:Value},a.closed=true→rel E a c→rel E' a c
 |.undef,_,_,_=>by simp[rel]
 |.lit v,c,_,d=>by simpa only[rel]using d
 |.nils,c,_,d=>by simpa only[rel]using d
 | .list k rows,c,_,d=>by
  simp only[rel]at d⊢;obtain⟨t,base,cap,g,hle,z⟩:=d;refine⟨t,base,cap,g,hle,?_⟩;rcases z with rfl|⟨b,o,hb,u,y⟩
  ·exact .inl rfl
  ·exact .inr ⟨b,o,hb,(h.ok b u).1,kY h rows t (h.ok b u).2 y⟩
 | .listF ks rows,c,_,d=>by
  simp only[rel]at d⊢;exact Ja h _ d
 | .agg cells,c,g,d=>by
  simp only[rel]at d⊢;obtain⟨cs,e,h1,q⟩:=d;exact⟨cs,e,h1,pE h cells (by simpa only[AV.closed]using g) q⟩
 | .tuple cells,c,g,d=>by
  simp only[rel]at d⊢;obtain⟨cs,e,q⟩:=d;exact⟨cs,e,pE h cells (by simpa only[AV.closed]using g) q⟩
 | .cptr cells,c,g,d=>by
  simp only[rel]at d⊢;obtain⟨t,b,o,e,u,q⟩:=d;exact⟨t,b,o,e,(h.ok b u).1,q9 h cells t (h.ok b u).2 q⟩
 |.ptr ..,_,g,_=>by simp[AV.closed]at g
 |.vec ..,_,g,_=>by simp[AV.closed]at g
 |.map _,_,g,_=>by simp[AV.closed]at g
 |.sub ..,_,g,_=>by simp[AV.closed]at g
 | .clo f caps,c,g,d=>by
  simp only[rel]at d⊢;obtain⟨cs,e,q⟩:=d;exact⟨cs,e,pE h caps (by simpa only[AV.closed]using g) q⟩
 |.ifc,c,_,d=>by simpa only[rel]using d
 |.emptyS n,c,_,d=>by simpa only[rel]using d
theorem pE{E E':Env}(h:E.bD E'):∀(as:List AV) {vs:List Value},AV.bu as=true→ae E as vs→ae E' as vs
 | [],[],_,_=>by simp[ae]
 | [],_::_,_,d=>by simp[ae]at d
 |_::_,[],_,d=>by simp[ae]at d
 | a::as,v::vs,g,d=>by
  simp only[AV.bu,ar]at g;simp only[ae]at d⊢;exact⟨fg h a g.1 d.1,pE h as g.2 d.2⟩
theorem q9{E E':Env}(h:E.bD E'):∀(as:List AV) {b o:Nat},AV.bu as=true→E'.w.heap[b]? = E.w.heap[b]? → cf E as b o→cf E' as b o
 | [],_,_,_,_,_=>by simp[cf]
 | a::as,b,o,d,hb,g=>by
  simp only[AV.bu,ar]at d;simp only[cf]at g⊢;obtain⟨⟨v,h1,k,q⟩,t⟩:=g;exact⟨⟨v,by rw[World.qZ hb]; exact h1,k,fg h a d.1 q⟩,q9 h as d.2 hb t⟩
theorem kY{E E':Env}(h:E.bD E'){k:Nat}:∀(rs:List (List AV)) {b o:Nat},ff rs→E'.w.heap[b]? = E.w.heap[b]? → cz E k rs b o→cz E' k rs b o
 | [],_,_,_,_,_=>by simp[cz]
 | r::rs,b,o,g,hb,d=>by
  simp only[cz]at d⊢;exact⟨d.1,q9 h r (g r (by simp)) hb d.2.1,kY h rs (fun x q=>g x (by simp[q])) hb d.2.2⟩
end
mutual
theorem bK{E E':Env}(h:E.le E'):∀(a:AV) {c:Value},rel E a c→rel E' a c
 |.undef,_,_=>by simp[rel]
 |.lit v,c,d=>by simpa only[rel]using d
 |.nils,c,d=>by simpa only[rel]using d
 |.list k rows,c,d=>fg h.toC _ (by simp[AV.closed]) d
 |.listF ks rows,c,d=>fg h.toC _ (by simp[AV.closed]) d
 | .agg cells,c,d=>by
  simp only[rel]at d⊢;obtain⟨cs,e,h1,g⟩:=d;exact⟨cs,e,h1,dN h cells g⟩
 | .tuple cells,c,d=>by
  simp only[rel]at d⊢;obtain⟨cs,e,g⟩:=d;exact⟨cs,e,dN h cells g⟩
 |.cptr cells,c,d=>fg h.toC _ (by simp[AV.closed]) d
 | .ptr id ad k row col,c,d=>by
  simp only[rel]at d⊢;refine⟨d.1,h.past _ _ d.2.1,fun q=>?_⟩;obtain⟨h1,g⟩:=h.live id ad d.2.1 q;rw[g];exact d.2.2 h1
 | .vec k id ad off n,c,d=>by
  simp only[rel]at d⊢;refine⟨d.1,h.past _ _ d.2.1,fun q=>?_⟩;obtain⟨h1,g⟩:=h.live id ad d.2.1 q;rw[g];exact d.2.2 h1
 | .map id,c,d=>by
  simp only[rel]at d⊢;refine⟨d.1,h.past _ _ d.2.1,fun q=>?_⟩;obtain⟨h1,g⟩:=h.live id 0 d.2.1 q;rw[g];exact d.2.2 h1
 | .clo f caps,c,d=>by
  simp only[rel]at d⊢;obtain⟨cs,e,g⟩:=d;exact⟨cs,e,dN h caps g⟩
 |.ifc,c,d=>by simpa only[rel]using d
 |.emptyS n,c,d=>by simpa only[rel]using d
 | .sub id l j,c,d=>by
  simp only[rel]at d⊢;rcases d with d|⟨i,h1,g,u,z⟩
  ·exact .inl d
  ·refine .inr ⟨i, h1, g, h.past _ _ u, fun q => ?_⟩
   obtain⟨g1,_⟩:=h.live id 0 u q;obtain⟨⟨o,B,I⟩,b,y,J⟩:=z g1;obtain⟨⟨t,M⟩,ho⟩:=h.grow id l o B I q;refine⟨ho,b,?_,J⟩;rw[M,B1,cQ (List.getElem?_eq_some_iff.1 y).1];exact y
theorem dN{E E':Env}(h:E.le E'):∀(as:List AV) {vs:List Value},ae E as vs→ae E' as vs
 | [],[],_=>by simp[ae]
 | [],_::_,d=>by simp[ae]at d
 |_::_,[],d=>by simp[ae]at d
 | a::as,v::vs,d=>by
  simp only[ae]at d⊢;exact⟨bK h a d.1,dN h as d.2⟩
end
theorem S_{E:Env}(k:Kd)(g:G)(c:Value):rel E (ic k g) c↔dG E k g c:=by
 cases k with
 |int k=>simp only[ic,rel,dG]
 |str=>simp only[ic,rel,dG]
 |bool=>simp only[ic,rel,dG]
 |list ks=>simp only[ic,rel,dG,G.rows]
theorem B2{E:Env}:∀(ks:List Kd) (g:List G) (b o:Nat),cf E (aK ks g) b o↔jB E ks g b o
 | [],_,_,_=>by simp[aK,cf,jB]
 |k::ks,g,b,o=>by simp only[aK,cf,jB,B2 ks,S_]
theorem jC{E:Env}{ks:List Kd}{rows:List (List G)}{c:Value}:rel E (.listF ks rows) c↔rel E (.list ks.length (rows.map (aK ks))) c:=by
 simp only[rel,dG,G.rows,dv,List.map_eq_nil_iff];have q:ff (rows.map (aK ks)):=by
  intro r d;obtain⟨g,_,rfl⟩:=List.mem_map.1 d;exact fW ks g
 have d:∀ b o,(∀(i:Nat) (r:List G),rows[i]? = some r→jB E ks r b (o+i*ks.length))↔cz E ks.length (rows.map (aK ks)) b o:=by
  intro b o;rw[lH];constructor
  ·intro h i r hi
   simp only[bR,dR]at hi;obtain⟨g,k,rfl⟩:=hi;exact⟨qX ks g,(B2 ks g _ _).2 (h i g k)⟩
  ·intro h i g k
   exact(B2 ks g _ _).1 (h i (aK ks g) (by simp[k])).2
 simp only[d,q,true_and]
end Go.AL

namespace Go.AL
variable [Dr]
def isRow(w:World)(b n:Nat):Prop:=∃ cs el,w.heap[b]? = some (.cells cs el (0,0))∧cs.size=n
def bo(E:Env):List (AV × AV × Nat)→List MapEntry→Prop
 | [],[]=>True
 |(k,v,n)::es,e::ms=>rel E k e.key∧rel E v e.val∧e.born=n∧k.closed=true∧v.closed=true∧bo E es ms
 |_,_=>False
def xT(w:World)(B:TypeId)(s:ByteArray)(v:Value):Option (Nat × Nat)→Prop
 |none=>v=.slice none 0 0∧s.data.toList=[]
 | some (g,m)=>v=.slice (some ⟨g,0,none⟩) s.data.toList.length m∧∃ cs fz,w.heap[g]? = some (.cells cs B fz)∧fz.2≤s.data.toList.length∧cs.size=m∧s.data.toList.length≤m∧m≤9223372036854775807 ∧
   cs.toList.take s.data.toList.length=s.data.toList.map fun b=>Value.int .u8 (b.toNat:Int)
theorem B3{w w':World}{B:TypeId}{s:ByteArray}{v:Value}{q:Option (Nat × Nat)}(h:∀ g m,q=some (g,m)→w'.heap[g]? = w.heap[g]?)(d:xT w B s v q):xT w' B s v q:=by
 cases q with
 |none=>exact d
 | some k =>
  obtain⟨g,m⟩:=k;obtain⟨h1,cs,fz,t,u⟩:=d;exact⟨h1,cs,fz,by rw[h g m rfl]; exact t,u⟩
def cC (es:List (AV × Option (List (List AV)) × Nat)):List (AV × AV × Nat):=es.map fun x=>(x.1,.undef,x.2.2)
theorem B4 (es:List (AV × Option (List (List AV)) × Nat)):(cC es).length=es.length:=by simp[cC]
def B5(E:Env)(l k:Nat)(rows:List (List AV))(h:Nat)(v:Value):Prop :=
 (rows = [] ∧ ∃ base, v = .slice base 0 0) ∨
  ∃ b m,(E.X.r l)[h]? = some (some (some (b,m)))∧v=.slice (some ⟨b,0,none⟩) rows.length m∧isRow E.w b (m*k)∧rows.length≤m∧ff rows∧cz E k rows b 0
def iM(E:Env)(l k:Nat) (es:List (AV × Option (List (List AV)) × Nat)) (ms:List MapEntry):Prop :=
 ∃ d:Nat→Nat,(∀(i j:Nat) x y,es[i]? = some x→es[j]? = some y→x.2.1.isSome=true→y.2.1.isSome=true→d i=d j→i=j) ∧
  ∀(i:Nat) x rows e,es[i]? = some x→x.2.1=some rows→ms[i]? = some e→B5 E l k rows (d i) e.val
theorem S'{E E':Env}{l k h:Nat}{rows:List (List AV)}{v:Value} (q:∀ b m,(E.X.r l)[h]? = some (some (some (b,m)))→(E'.X.r l)[h]? = some (some (some (b,m)))∧E'.w.heap[b]? = E.w.heap[b]?)
  (t:∀ b,E'.w.heap[b]? = E.w.heap[b]? → ff rows→cz E k rows b 0→cz E' k rows b 0) (d:B5 E l k rows h v):B5 E' l k rows h v:=by
 rcases d with d|⟨b,m,h1,u,⟨cs,el,y,z⟩,B,g,I⟩
 ·exact .inl d
 ·obtain ⟨g1, g2⟩ := q b m h1
  exact .inr ⟨b,m,g1,u,⟨cs,el,by rw[g2]; exact y,z⟩,B,g,t b g2 g I⟩
theorem uh{E E':Env}{l k:Nat}{es:List (AV × Option (List (List AV)) × Nat)}{ms:List MapEntry} (t:∀(h b m:Nat),(E.X.r l)[h]? = some (some (some (b,m)))→(E'.X.r l)[h]? = some (some (some (b,m)))∧E'.w.heap[b]? = E.w.heap[b]?)
  (u:∀(i:Nat) x rows,es[i]? = some x→x.2.1=some rows→∀ b,E'.w.heap[b]? = E.w.heap[b]? → ff rows→cz E k rows b 0→cz E' k rows b 0) (v:iM E l k es ms):iM E' l k es ms:=by
 obtain⟨g,h1,y⟩:=v;exact⟨g,h1,fun i x rows e q d he=>S' (t (g i)) (u i x rows q d) (y i x rows e q d he)⟩
theorem xU{r:List (Option (Option (Nat × Nat)))}{b:Nat}(h:b∈dY r):∃(i m:Nat),r[i]? = some (some (some (b,m))):=by
 unfold dY at h;obtain⟨x,d,hb⟩:=List.mem_filterMap.1 h;obtain⟨i,hi,e⟩:=ny d;split at hb
 ·rename_i g m
  cases hb;exact⟨i,m,by rw[bd hi,e]⟩
 ·cases hb
def fq(es:List (AV × Option Nat × Nat)):List (AV × AV × Nat):=es.map fun x=>(x.1,.undef,x.2.2)
theorem Jc(es:List (AV × Option Nat × Nat)):(fq es).length=es.length:=by simp[fq]
def xV(E:Env)(l:Nat)(es:List (AV × Option Nat × Nat)) (ms:List (List (AV × AV × Nat) × Nat)) (d:List MapEntry):Prop :=
 (dY (E.X.r l)).length = ms.length ∧
  (∀(i:Nat) x e,es[i]? = some x→d[i]? = some e→(x.2.1=none∧e.val=.map none)∨∃ j b,x.2.1=some j∧(dY (E.X.r l))[j]? = some b∧e.val=.map (some b)) ∧
  ∀(j:Nat) m b,ms[j]? = some m→(dY (E.X.r l))[j]? = some b→∃ mm,E.w.heap[b]? = some (.map mm m.2)∧bo E m.1 mm.toList
theorem B6{E E':Env}{l:Nat}{es:List (AV × Option Nat × Nat)}{ms:List (List (AV × AV × Nat) × Nat)}{g:List MapEntry}(d:E'.X.r l=E.X.r l) (k:∀(h b m:Nat),(E.X.r l)[h]? = some (some (some (b,m)))→E'.w.heap[b]? = E.w.heap[b]?)
  (t:∀ m∈ms,∀ q,bo E m.1 q→bo E' m.1 q) (h:xV E l es ms g):xV E' l es ms g:=by
 obtain⟨h1,u,v⟩:=h;refine⟨by rw[d]; exact h1,fun i x e y he=>by rw[d]; exact u i x e y he,fun j m b hm hb=>?_⟩;rw[d]at hb;obtain⟨mm,z,B⟩:=v j m b hm hb;obtain⟨i,n,hi⟩:=xU (fa hb);exact⟨mm,by rw[k i b n hi]; exact z,t m (fa hm) _ B⟩
def aR(E:Env)(id:Nat):ab→Prop
 |.dead=>E.loc[id]? = some none
 |.dX=>E.loc[id]? = some none
 |.box cells=>∃ b n,E.loc[id]? = some (some (b,n))∧isRow E.w b cells.length∧cf E cells b 0
 | .vec k _ rows=>(E.loc[id]? = some none∧rows=[]) ∨
   ∃ b m,E.loc[id]? = some (some (b,m))∧isRow E.w b (m*k)∧rows.length≤m∧ff rows∧cz E k rows b 0
 |.map es clock=>∃ b n ms,E.loc[id]? = some (some (b,n))∧E.w.heap[b]? = some (.map ms clock)∧bo E es ms.toList
 |.iter s pos=>∃ b n,E.loc[id]? = some (some (b,n))∧E.w.heap[b]? = some (.stringIter s pos)
 | .bJ l T B s=>∃ (b n:Nat) (p v:Value) (h:Nat) (q:Option (Nat × Nat)),E.loc[id]? = some (some (b,n))∧E.w.heap[b]? = some (.cells #[p,v] T (0,0))∧(p=.pointer none∨p=.pointer (some ⟨b,0,none⟩))∧(E.X.r l)[h]? = some (some q) ∧
   (∀(h':Nat) q',(E.X.r l)[h']? = some (some q')→h'=h)∧xT E.w B s v q
 |.aY l k es clock=>∃ b n ms,E.loc[id]? = some (some (b,n))∧E.w.heap[b]? = some (.map ms clock)∧bo E (cC es) ms.toList∧iM E l k es ms.toList
 |.mm l es ms clock=>∃ b n d,E.loc[id]? = some (some (b,n))∧E.w.heap[b]? = some (.map d clock)∧bo E (fq es) d.toList∧xV E l es ms d.toList
def mD(E:Env):Prop:=∀ p∈qY,E.ig p.1∧∃ t f,E.w.heap[p.1]? = some (.cells p.2 t f)
theorem mD.bD{E E':Env}(H:mD E)(h:E.bD E'):mD E':=fun p d=>by
 obtain⟨h1,t,f,g⟩:=H p d;exact⟨(h.ok _ h1).1,t,f,by rw[(h.ok _ h1).2]; exact g⟩
structure aq (E:Env):Prop where
 len:E.loc.length=E.H.length
 inj:∀(i j b m n:Nat),E.loc[i]? = some (some (b,m))→E.loc[j]? = some (some (b,n))→i=j
 lt:∀(i b m:Nat),E.loc[i]? = some (some (b,m))→b<E.w.heap.size∧¬ E.X b
 X:∀ b,E.X b→b<E.w.heap.size
 obj:∀(i:Nat) o,E.H[i]? = some o→aR E i o
 fh:mD E
 eS:∀(l h l' h' b m n:Nat),(E.X.r l)[h]? = some (some (some (b,m)))→(E.X.r l')[h']? = some (some (some (b,n)))→l=l'∧h=h'
 cN:∀(i b m l h n:Nat),E.loc[i]? = some (some (b,m))→(E.X.r l)[h]? ≠ some (some (some (b,n)))
 cn:∀(l h b m:Nat),(E.X.r l)[h]? = some (some (some (b,m)))→b<E.w.heap.size∧¬ E.X b
 uniq:∀(i j:Nat) o o' (l:Nat),E.H[i]? = some o→E.H[j]? = some o'→o.label=some l→o'.label=some l→i=j
 gk:∀(l:Nat),(∀(i:Nat) o,E.H[i]? = some o→o.label≠some l)→∀(h:Nat) q,(E.X.r l)[h]? ≠ some (some q)
theorem aq.B7{E:Env}(H:aq E){b:Nat}(d:E.X b):¬ E.own b:=by
 rintro(⟨i,c,hi⟩|⟨l,h,m,hi⟩)
 ·exact(H.lt i b c hi).2 d
 ·exact(H.cn l h b m hi).2 d
theorem aq.xW{E:Env}(H:aq E){b:Nat}(ho:E.own b):b<E.w.heap.size∧¬ E.X b:=by
 rcases ho with⟨i,c,hi⟩|⟨l,h,m,hi⟩
 ·exact H.lt i b c hi
 ·exact H.cn l h b m hi
structure Ext (w w':World):Prop where
 size:w.heap.size≤w'.heap.size
 same:∀ b,b<w.heap.size→w'.heap[b]? = w.heap[b]?
 env:dC w w'
theorem Ext.refl(w:World):Ext w w:=⟨aH _,fun _ _=>rfl,⟨rfl,rfl,rfl,by first|exact fun _=>aH _|exact fun _=>fT _ _⟩⟩
theorem Ext.trans{w w' d:World}(h:Ext w w')(h':Ext w' d):Ext w d :=
 ⟨jZ h.size h'.size,fun b hb=>by rw[h'.same b (dy hb h.size),h.same b hb],h.env.trans h'.env⟩
theorem Ext.push(w:World)(o:Obj):Ext w { w with heap:=w.heap.push o } :=
 ⟨by simp,fun b hb=>by simp[Sb,ahx hb],⟨rfl,rfl,rfl,by first|exact fun _=>aH _|exact fun _=>fT _ _⟩⟩
theorem Ext.drawn(w:World)(n:Nat)(h:w.drawn≤n:=by exact Nat.le_succ _):Ext w { w with drawn:=n }:=⟨aH _,fun _ _=>rfl,⟨rfl,rfl,rfl,fun _=>h⟩⟩
theorem Env.gl{E:Env}{w':World}(h:Ext E.w w'):E.le { E with w:=w' } where
 past:=fun _ _ h=>h
 size:=h.size
 same:=fun b hb _=>h.same b hb
 own:=fun _ _ ho=>ho
 live:=fun _ _ _ d=>⟨d,rfl⟩
 X:=⟨rfl,rfl⟩
 rl:=fun _ _ h=>⟨h,fun _ g=>g⟩
 env:=h.env
 grow:=fun _ _ o h1 k _=>⟨⟨[],(dx _).symm⟩,o,h1,k⟩
theorem q_{w w':World}{b n:Nat}(h:w'.heap[b]? = w.heap[b]?)(d:isRow w b n):isRow w' b n:=by
 unfold isRow at *; rw[h]; exact d
theorem xX{E E':Env}{b:Nat}(d:∀ a c,rel E a c→rel E' a c)(hb:E'.w.heap[b]? = E.w.heap[b]?){as:List AV}{o:Nat}
  (h:cf E as b o):cf E' as b o:=by
 rw[iL]at *;intro i a hi;obtain⟨v,h1,g,k⟩:=h i a hi;exact⟨v,by rw[World.qZ hb]; exact h1,g,d _ _ k⟩
theorem kZ{E E':Env}{b k:Nat}(d:∀ a c,rel E a c→rel E' a c)(hb:E'.w.heap[b]? = E.w.heap[b]?){rs:List (List AV)}{o:Nat}
  (h:cz E k rs b o):cz E' k rs b o:=by
 rw[lH]at *;intro i r hi;exact⟨(h i r hi).1,xX d hb (h i r hi).2⟩
theorem fX{E E':Env}(d:∀ a c,rel E a c→rel E' a c):∀{es:List (AV × AV × Nat)} {ms:List MapEntry},bo E es ms→bo E' es ms
 | [],[],_=>by simp[bo]
 | [],_::_,h=>by simp[bo]at h
 |(_,_,_)::_,[],h=>by simp[bo]at h
 | (k,v,n)::es,e::ms,h=>by
  simp only[bo]at h⊢;exact⟨d _ _ h.1,d _ _ h.2.1,h.2.2.1,h.2.2.2.1,h.2.2.2.2.1,fX d h.2.2.2.2.2⟩
theorem j6{E E':Env}{i:Nat}{o:ab}(z:∀ a c,rel E a c→rel E' a c)(u:E'.loc[i]? = E.loc[i]?)
  (hb:∀ b n,E.loc[i]? = some (some (b,n))→E'.w.heap[b]? = E.w.heap[b]?)
  (I:∀ l,o.label=some l→E'.X.r l=E.X.r l∧∀(h g m:Nat),(E.X.r l)[h]? = some (some (some (g,m)))→E'.w.heap[g]? = E.w.heap[g]?) (h:aR E i o):aR E' i o:=by
 cases o with
 |dead=>simp only[aR]at *; rw[u]; exact h
 |dX=>simp only[aR]at *; rw[u]; exact h
 | box cells =>
  simp only[aR]at *;obtain⟨b,n,h1,d,t⟩:=h;exact⟨b,n,by rw[u,h1],q_ (hb b n h1) d,xX z (hb b n h1) t⟩
 | vec k ad rows =>
  simp only[aR]at *;rcases h with⟨h1,d⟩|⟨b,m,h1,d,t,y,J⟩
  ·exact .inl ⟨by rw[u,h1],d⟩
  ·exact .inr ⟨b,m,by rw[u,h1],q_ (hb b m h1) d,t,y,kZ z (hb b m h1) J⟩
 | map es clock =>
  simp only[aR]at *;obtain⟨b,n,ms,h1,d,t⟩:=h;exact⟨b,n,ms,by rw[u,h1],by rw[hb b n h1,d],fX z t⟩
 | iter s pos =>
  simp only[aR]at *;obtain⟨b,n,h1,d⟩:=h;exact⟨b,n,by rw[u,h1],by rw[hb b n h1,d]⟩
 | bJ l T B s =>
  simp only[aR]at *;obtain⟨b,n,p,v,k,q,h1,d,t,y,J,O⟩:=h;obtain⟨g1,g2⟩:=I l rfl;exact⟨b,n,p,v,k,q,by rw[u,h1],by rw[hb b n h1,d],t,by rw[g1,y],by rw[g1]; exact J,B3 (fun g m e=>g2 k g m (by rw[y,e])) O⟩
 | aY l k es clock =>
  simp only[aR]at *;obtain⟨b,n,ms,h1,d,t,y⟩:=h;obtain⟨g1,g2⟩:=I l rfl;exact⟨b,n,ms,by rw[u,h1],by rw[hb b n h1,d],fX z t,uh (fun h g m hk=>⟨by rw[g1]; exact hk,g2 h g m hk⟩) (fun _ _ _ _ _ b M _ R=>kZ z M R) y⟩
 | mm l es ms clock =>
  simp only[aR]at *;obtain⟨b,n,N,h1,d,t,y⟩:=h;obtain⟨g1,g2⟩:=I l rfl;exact⟨b,n,N,by rw[u,h1],by rw[hb b n h1,d],fX z t,B6 g1 g2 (fun _ _ _=>fX z) y⟩
theorem aq.ext{E:Env}{w':World}(H:aq E)(h:Ext E.w w'):aq { E with w:=w' } where
 len:=H.len
 inj:=H.inj
 lt:=fun i b m hi=>⟨dy (H.lt i b m hi).1 h.size,(H.lt i b m hi).2⟩
 X:=fun b hb=>dy (H.X b hb) h.size
 obj:=fun i o hi=>j6 (fun a _ d=>bK (Env.gl h) a d) rfl (fun b n hb=>h.same b (H.lt i b n hb).1) (fun l _=>⟨rfl,fun k g m hk=>h.same g (H.cn l k g m hk).1⟩) (H.obj i o hi)
 fh:=H.fh.bD (Env.gl h).toC
 eS:=H.eS
 cN:=H.cN
 cn:=fun l k b m hk=>⟨dy (H.cn l k b m hk).1 h.size,(H.cn l k b m hk).2⟩
 uniq:=H.uniq
 gk:=H.gk
def Env.push(E:Env)(w':World)(o:ab)(l:Option (Nat × Nat)):Env:={ w:=w',H:=E.H++[o],loc:=E.loc++[l],X:=E.X }
theorem aL{α:Type}{l:List α}{i:Nat}{x:α}(h:l[i]? = some x):i<l.length:=by
 rcases h_ i l.length with h'|h'
 ·exact h'
 ·rw[nz h']at h; cases h
theorem aiy{α:Type}(l:List α)(x:α)(i:Nat)(h:i<l.length):(l++[x])[i]? = l[i]? := by
 rw[cQ h]
theorem Env.jD{E:Env}{w':World}{o:ab}{l:Option (Nat × Nat)}(u:E.loc.length=E.H.length)(h:Ext E.w w')
  (hb:∀ b n,l=some (b,n)→E.w.heap.size≤b):E.le (E.push w' o l) where
 past:=fun id ad g=>by
  obtain⟨x,h1,d⟩:=g;exact⟨x,by simp only[Env.push]; rw[cQ (aL h1)]; exact h1,d⟩
 size:=h.size
 same:=fun b hb _=>h.same b hb
 own:=fun b t ho=>by
  rintro(⟨id,c,hid⟩|k)
  case inr=>exact ho (.inr k)
  simp only[Env.push]at hid;by_cases hi:id<E.loc.length
  ·rw [cQ hi] at hid
   exact ho (.inl ⟨id,c,hid⟩)
  ·rw [jv (by omega)] at hid
   cases hk:id-E.loc.length with
   | zero =>
    rw[hk]at hid;simp at hid;have:=hb b c hid;omega
   |succ n=>rw[hk]at hid; simp at hid
 live:=fun id ad g=>by
  obtain⟨x,h1,d⟩:=g;have hid:=aL h1;simp only[Env.live,Env.push];rw[cQ hid,cQ (by omega)];exact fun h=>⟨h,rfl⟩
 X:=⟨rfl,rfl⟩
 grow:=fun id l o h1 d _=>⟨⟨[],(dx _).symm⟩,o,by simp only[Env.push]; rw[cQ (aL h1)]; exact h1,d⟩
 rl:=fun _ _ h=>⟨h,fun _ q=>q⟩
 env:=h.env
theorem aq.push{E:Env}{w':World}{o:ab}{l:Option (Nat × Nat)}(H:aq E)(h:Ext E.w w')
  (hb:∀ b n,l=some (b,n)→E.w.heap.size≤b∧b<w'.heap.size) (ho:aR (E.push w' o l) E.H.length o) (hlab:o.label=none:=by first|rfl|assumption):aq (E.push w' o l) where
 eS:=H.eS
 cn:=fun l k b m hk=>⟨dy (H.cn l k b m hk).1 h.size,(H.cn l k b m hk).2⟩
 cN:=by
  intro i b m l' k n hi hk;simp only[Env.push,fb]at hi;split at hi
  ·exact H.cN i b m l' k n hi hk
  ·rename_i h1
   cases v:i-E.loc.length with
   | zero =>
    rw[v]at hi;simp at hi;have z:=hb b m hi;have J:=(H.cn l' k b n hk).1;omega
   |succ n=>rw[v]at hi; simp at hi
 uniq:=by
  have key:∀(i:Nat) o1 q,(E.push w' o l).H[i]? = some o1→o1.label=some q→E.H[i]? = some o1:=by
   intro i o1 q hi B;simp only[Env.push,fb]at hi;split at hi
   ·exact hi
   ·cases v : i - E.H.length with
    | zero =>
     rw[v]at hi;simp at hi;subst hi;rw[hlab]at B;cases B
    |succ n=>rw[v]at hi; simp at hi
  exact fun i j o1 o2 q hi d h1 y=>H.uniq i j o1 o2 q (key i o1 q hi h1) (key j o2 q d y) h1 y
 gk:=fun q M=>H.gk q fun i o1 hi=>M i o1 (by
  simp only[Env.push];rw[cQ (aL hi)];exact hi)
 fh:=H.fh.bD (Env.jD H.len h (fun b n e=>(hb b n e).1)).toC
 len:=by simp[Env.push,H.len]
 inj:=by
  intro i j b m n hi d;simp only[Env.push,fb]at hi d;split at hi<;>split at d
  ·exact H.inj i j b m n hi d
  ·rename_i h1 y
   cases hk:j-E.loc.length with
   | zero =>
    rw[hk]at d;simp at d;have z:=hb b n d;have J:=(H.lt i b m hi).1;omega
   |succ n=>rw[hk]at d; simp at d
  ·rename_i h1 y
   cases hk:i-E.loc.length with
   | zero =>
    rw[hk]at hi;simp at hi;have z:=hb b m hi;have J:=(H.lt j b n d).1;omega
   |succ n=>rw[hk]at hi; simp at hi
  ·rename_i h1 y
   have R:i-E.loc.length=0:=by
    cases hk:i-E.loc.length with
    |zero=>rfl
    |succ n=>rw[hk]at hi; simp at hi
   have U:j-E.loc.length=0:=by
    cases hk:j-E.loc.length with
    |zero=>rfl
    |succ n=>rw[hk]at d; simp at d
   omega
 lt:=by
  intro i b m hi;simp only[Env.push,fb]at hi⊢;split at hi
  ·exact⟨dy (H.lt i b m hi).1 h.size,(H.lt i b m hi).2⟩
  ·cases hk : i - E.loc.length with
   | zero =>
    rw[hk]at hi;simp at hi;have z:=hb b m hi;exact⟨z.2,fun N=>by have:=H.X b N; omega⟩
   |succ n=>rw[hk]at hi; simp at hi
 X:=fun b u=>dy (H.X b u) h.size
 obj:=by
  intro i o' hi;have hle:E.le (E.push w' o l):=Env.jD H.len h (fun b n u=>(hb b n u).1);by_cases I:i<E.H.length
  ·simp only [Env.push] at hi
   rw[cQ I]at hi;refine j6 (fun a _ O=>bK hle a O) ?_ ?_ ?_ (H.obj i o' hi)
   ·simp only [Env.push]
    rw[cQ (by rw[H.len]; exact I)]
   ·intro b n u
    exact h.same b (H.lt i b n u).1
   ·exact fun q _=>⟨rfl,fun k g m hk=>h.same g (H.cn q k g m hk).1⟩
  ·have t := hi
   simp only[Env.push]at t;rw[jv (by omega)]at t;cases hk:i-E.H.length with
   | zero =>
    rw[hk]at t;simp at t;have:i=E.H.length:=by omega
    rw[this,←t];exact ho
   |succ n=>rw[hk]at t; simp at t
theorem Env.jE{E:Env}{w':World}{id:Nat}{o o':ab}{l:Option (Nat × Nat)}(hid:E.H[id]? = some o)
  (hlen:E.loc.length=E.H.length) (B:E.w.heap.size≤w'.heap.size)
  (I:∀ x,x<E.w.heap.size→(∀ n,E.loc[id]? ≠ some (some (x,n)))→w'.heap[x]? = E.w.heap[x]?)
  (U:∀ b n,l=some (b,n)→E.w.heap.size≤b∨∃ m,E.loc[id]? = some (some (b,m)))
  (M:(∀ v,o'.aF = some v→o.aF = some v∧E.loc[id]? = some l)∨(∀ v,o'.aF = some v→∀ u,o.aF = some u→u<v))
  (O:∀ v u,o'.aF = some v→o.aF = some u→u≤v) (z:o.born=true→o.aF = none→o'.aF = none) (N:dC E.w w':=by first|exact⟨rfl,rfl,rfl,by first|exact fun _=>aH _|exact fun _=>fT _ _⟩|assumption|exact Ext.env (by assumption))
  (hmm:o.db=none∨o'.db=o.db∨o'.aF = none:=by first|exact .inl rfl|exact .inr (.inl rfl)|exact .inr (.inr rfl)|exact .inl (ab.xS (by assumption))|assumption)
  (J:o.born=true→o'.born=true:=by first|exact fun _=>rfl|exact fun h=>h|assumption) :
  E.le { w:=w',H:=E.H.set id o',loc:=E.loc.set id l,X:=E.X } where
 grow:=fun i l1 x h1 d g=>by
  by_cases e:i=id
  ·subst e
   rw[hid]at h1;cases h1;rcases hmm with h|h|h
   ·rw[h]at d; cases d
   ·exact⟨⟨[],(dx _).symm⟩,o',by simp only[]; rw[bk (aL hid)],by rw[h]; exact d⟩
   ·obtain ⟨y, k, q⟩ := g
    simp only[]at k;rw[bk (aL hid)]at k;cases k;rw[h]at q;cases q
  ·exact⟨⟨[],(dx _).symm⟩,x,by simp only[]; rw[aV (Ne.symm e)]; exact h1,d⟩
 past:=fun i ad t=>by
  obtain⟨x,h1,d⟩:=t;by_cases e:i=id
  ·subst e
   rw[hid]at h1;cases h1;refine⟨o',by simp only[]; rw[bk (aL hid)],J d.1,fun v g=>?_⟩;cases hu:o.aF with
   |none=>rw[z d.1 hu]at g; cases g
   |some u=>exact jZ (d.2 u hu) (O v u g hu)
  ·exact⟨x,by simp only[]; rw[aV (Ne.symm e)]; exact h1,d⟩
 size:=B
 same:=fun x V ho=>I x V (fun n W=>ho (.inl ⟨id,n,W⟩))
 own:=fun b hlt ho=>by
  rintro(⟨i,c,hi⟩|hs)
  case inr=>exact ho (.inr hs)
  simp only[dS]at hi;split at hi
  ·split at hi
   ·simp at hi
    rcases U b c hi with h|⟨m,hm⟩
    ·omega
    ·exact ho (.inl ⟨id,m,hm⟩)
   ·cases hi
  ·exact ho (.inl ⟨i,c,hi⟩)
 live:=fun i ad t R=>by
  obtain⟨x,h1,d⟩:=R;by_cases e:i=id
  ·subst e
   simp only[]at h1;rw[bk (aL hid)]at h1;cases h1;rcases M with g|g
   ·obtain ⟨a1, a2⟩ := g ad d
    refine⟨⟨o,hid,a1⟩,?_⟩;simp only[];rw[bk (by rw[hlen]; exact aL hid),a2]
   ·obtain ⟨y, k, q⟩ := t
    rw[hid]at k;cases k;cases hu:o.aF with
    |none=>rw[z q.1 hu]at d; cases d
    |some u=>have:=g ad d u hu; have:=q.2 u hu; omega
  ·simp only [] at h1 ⊢
   rw[aV (Ne.symm e)]at h1;rw[aV (Ne.symm e)];exact⟨⟨x,h1,d⟩,rfl⟩
 X:=⟨rfl,rfl⟩
 rl:=fun _ _ h=>⟨h,fun _ hq=>hq⟩
 env:=N
theorem aq.k0{E:Env}{w':World}{id:Nat}{o o':ab}{l:Option (Nat × Nat)}(H:aq E)(hid:E.H[id]? = some o)
  (y:E.w.heap.size≤w'.heap.size)
  (B:∀ x,x<E.w.heap.size→(∀ n,E.loc[id]? ≠ some (some (x,n)))→w'.heap[x]? = E.w.heap[x]?)
  (z:∀ b n,l=some (b,n)→(E.w.heap.size≤b∧b<w'.heap.size)∨∃ m,E.loc[id]? = some (some (b,m)))
  (N:(∀ v,o'.aF = some v→o.aF = some v∧E.loc[id]? = some l)∨(∀ v,o'.aF = some v→∀ u,o.aF = some u→u<v))
  (R:∀ v u,o'.aF = some v→o.aF = some u→u≤v) (M:o.born=true→o.aF = none→o'.aF = none)
  (ho:aR { w:=w',H:=E.H.set id o',loc:=E.loc.set id l,X:=E.X } id o') (O:dC E.w w':=by first|exact⟨rfl,rfl,rfl,by first|exact fun _=>aH _|exact fun _=>fT _ _⟩|assumption|exact Ext.env (by assumption))
  (hlab:o.label=none:=by first|rfl|assumption) (hlab':o'.label=none:=by first|rfl|assumption)
  (hborn:o.born=true→o'.born=true:=by first|exact fun _=>rfl|exact fun h=>h|assumption) :
  aq { w:=w',H:=E.H.set id o',loc:=E.loc.set id l,X:=E.X } where
 eS:=H.eS
 cn:=fun l k b m hk=>⟨dy (H.cn l k b m hk).1 y,(H.cn l k b m hk).2⟩
 cN:=by
  intro i b m l' k n hi hk;simp only[dS]at hi;split at hi
  ·split at hi
   ·simp at hi
    rcases z b m hi with h|⟨m',t⟩
    ·have:=(H.cn l' k b n hk).1; omega
    ·exact H.cN _ _ _ _ _ _ t hk
   ·cases hi
  ·exact H.cN _ _ _ _ _ _ hi hk
 uniq:=by
  have key:∀(i:Nat) o1 q,(E.H.set id o')[i]? = some o1→o1.label=some q→E.H[i]? = some o1:=by
   intro i o1 q hi U;rw[dS]at hi;split at hi
   ·split at hi
    ·cases hi
     rw[hlab']at U;cases U
    ·cases hi
   ·exact hi
  exact fun i j o1 o2 q hi d h1 V=>H.uniq i j o1 o2 q (key i o1 q hi h1) (key j o2 q d V) h1 V
 gk:=fun q J=>H.gk q fun i o1 hi=>by
  by_cases e:i=id
  ·subst e
   rw[hid]at hi;cases hi;rw[hlab];exact fun h=>by cases h
  ·exact J i o1 (by show (E.H.set id o')[i]? = _; rw[aV (Ne.symm e)]; exact hi)
 fh:=H.fh.bD (Env.jE hid H.len y B (fun b n hb=>(z b n hb).imp (fun h=>h.1) (fun h=>h)) N R M O).toC
 len:=by simp[H.len]
 inj:=by
  intro i j b m n hi d;simp only[dS]at hi d;split at hi
  ·rename_i e1
   split at d
   ·rename_i W; omega
   ·split at hi
    ·simp at hi
     rcases z b m hi with h|⟨m',t⟩
     ·have:=(H.lt j b n d).1; omega
     ·rw[←e1]; exact H.inj _ _ _ _ _ t d
    ·cases hi
  ·split at d
   ·rename_i W
    split at d
    ·simp at d
     rcases z b n d with h|⟨m',t⟩
     ·have:=(H.lt i b m hi).1; omega
     ·rw[←W]; exact H.inj _ _ _ _ _ hi t
    ·cases d
   ·exact H.inj i j b m n hi d
 lt:=by
  intro i b m hi;simp only[dS]at hi;split at hi
  ·split at hi
   ·simp at hi
    rcases z b m hi with h|⟨m',t⟩
    ·exact⟨h.2,fun hx=>by have:=H.X b hx; omega⟩
    ·exact⟨dy (H.lt _ _ _ t).1 y,(H.lt _ _ _ t).2⟩
   ·cases hi
  ·exact⟨dy (H.lt i b m hi).1 y,(H.lt i b m hi).2⟩
 X:=fun b hb=>dy (H.X b hb) y
 obj:=by
  intro i x hi;by_cases e:i=id
  ·subst e
   simp only[]at hi;rw[bk (aL hid)]at hi;cases hi;exact ho
  ·have I := hi
   simp only[]at I;rw[aV (Ne.symm e)]at I;have hle:E.le { w:=w',H:=E.H.set id o',loc:=E.loc.set id l,X:=E.X } :=
    Env.jE hid H.len y B (fun b n hb=>(z b n hb).imp (fun h=>h.1) (fun h=>h)) N R M O
   refine j6 (fun a _ hr=>bK hle a hr) ?_ ?_ ?_ (H.obj i x I)
   ·simp only []
    rw[aV (Ne.symm e)]
   ·intro b n hb
    exact B b (H.lt i b n hb).1 (fun m hm=>e (H.inj i id b n m hb hm))
   ·exact fun q _=>⟨rfl,fun k g m hk=>B g (H.cn q k g m hk).1 (fun n J=>H.cN id g n q k m J hk)⟩
theorem aq.ui{E:Env}{w':World}{id l0:Nat}{o o':ab}{r':Nat→List (Option (Option (Nat × Nat)))}(H:aq E)(hid:E.H[id]? = some o)(hlab:o.label=some l0)(R:o'.label=some l0)(hver:o'.aF = o.aF)
  (O:E.w.heap.size≤w'.heap.size)
  (U:∀ x,x<E.w.heap.size→(∀ n,E.loc[id]? ≠ some (some (x,n)))→(∀(h m:Nat),(E.X.r l0)[h]? ≠ some (some (some (x,m))))→w'.heap[x]? = E.w.heap[x]?)
  (u:∀ l,l≠l0→r' l=E.X.r l)
  (hnew:∀(h b m:Nat),(r' l0)[h]? = some (some (some (b,m)))→(E.X.r l0)[h]? = some (some (some (b,m)))∨(E.w.heap.size≤b∧b<w'.heap.size∧∀(h' m':Nat),(r' l0)[h']? = some (some (some (b,m')))→h'=h))
  (hrl:∀(h:Nat),h<(E.X.r l0).length→h<(r' l0).length∧∀ q,(r' l0)[h]? = some (some q)→(E.X.r l0)[h]? = some (some q))
  (ho:E.le { w:=w',H:=E.H.set id o',loc:=E.loc,X:=E.X.re r' }→aR { w:=w',H:=E.H.set id o',loc:=E.loc,X:=E.X.re r' } id o') (henv:dC E.w w') (hmm:o.db=none∨(o'.db=o.db∧∃ t,r' l0=E.X.r l0++t):=by first|exact .inl rfl|assumption) :
  aq { w:=w',H:=E.H.set id o',loc:=E.loc,X:=E.X.re r' }∧E.le { w:=w',H:=E.H.set id o',loc:=E.loc,X:=E.X.re r' }:=by
 have I:=aL hid;have M:∀(l h b m:Nat),(r' l)[h]? = some (some (some (b,m)))→(E.X.r l)[h]? = some (some (some (b,m)))∨(l=l0∧E.w.heap.size≤b∧b<w'.heap.size∧∀(h' m':Nat),(r' l0)[h']? = some (some (some (b,m')))→h'=h):=fun l h b m hk=>by
  by_cases e:l=l0
  ·subst e
   rcases hnew h b m hk with h1|⟨h1,d,h3⟩
   ·exact .inl h1
   ·exact .inr ⟨rfl,h1,d,h3⟩
  ·rw [u l e] at hk
   exact .inl hk
 have hle:E.le { w:=w',H:=E.H.set id o',loc:=E.loc,X:=E.X.re r' }:=by
  refine⟨fun i ad hp=>?_,O,fun x V hx'=>U x V (fun n J=>hx' (.inl ⟨id,n,J⟩)) fun h m hm=>hx' (.inr ⟨l0,h,m,hm⟩),fun b hb hno=>?_,fun i ad hp k=>?_,⟨rfl,rfl⟩,fun l h hh=>?_,henv,fun i l x h1 d hv=>?_⟩
  rotate_right
  ·by_cases e : i = id
   ·subst e
    rw[hid]at h1;cases h1;have z:l0=l:=by
     have:=ab.kX d;rw[hlab]at this;cases this;rfl
    subst z;rcases hmm with h|⟨h,ht⟩
    ·rw[h]at d; cases d
    ·exact⟨ht,o',by simp only[]; rw[bk I],by rw[h]; exact d⟩
   ·have z : l ≠ l0 := fun z => e (H.uniq i id x o l h1 hid (ab.kX d) (by rw [z]; exact hlab))
    exact⟨⟨[],by rw[dx]; exact u l z⟩,x,by simp only[]; rw[aV (Ne.symm e)]; exact h1,d⟩
  ·obtain ⟨x, h1, d⟩ := hp
   by_cases e:i=id
   ·subst e
    rw[hid]at h1;cases h1;exact⟨o',by simp only[]; rw[bk I],ab.xR R,fun v hv=>d.2 v (by rw[←hver]; exact hv)⟩
   ·exact⟨x,by simp only[]; rw[aV (Ne.symm e)]; exact h1,d⟩
  ·rintro (⟨i, c, hi⟩ | ⟨l, h, m, hm⟩)
   ·exact hno (.inl ⟨i,c,hi⟩)
   ·rcases M l h b m hm with h1 | ⟨_, h1, _⟩
    ·exact hno (.inr ⟨l,h,m,h1⟩)
    ·omega
  ·obtain ⟨x, h1, d⟩ := k
   refine⟨?_,rfl⟩;simp only[]at h1;by_cases e:i=id
   ·subst e
    rw[bk I]at h1;cases h1;exact⟨o,hid,by rw[←hver]; exact d⟩
   ·rw [aV (Ne.symm e)] at h1
    exact⟨x,h1,d⟩
  ·by_cases e : l = l0
   ·subst e
    exact hrl h hh
   ·show h < (r' l).length ∧ _
    rw[u l e];exact⟨hh,fun _ B=>(by rw[show ({ w:=w',H:=E.H.set id o',loc:=E.loc,X:=E.X.re r' }:Env).X.r l=E.X.r l from u l e]at B; exact B)⟩
 refine⟨⟨by simp[H.len],H.inj,fun i b m hi=>⟨dy (H.lt i b m hi).1 O,(H.lt i b m hi).2⟩,fun b hb=>dy (H.X b hb) O,fun i x hi=>?_,H.fh.bD hle.toC,fun l h l' h' b m n h1 d=>?_,fun i b m l h n hi hk=>?_,fun l h b m hk=>?_,fun i j x y l hi hj h1 d=>?_,fun l J h q B=>?_⟩,hle⟩
 ·by_cases e : i = id
  ·subst e
   simp only[]at hi;rw[bk I]at hi;cases hi;exact ho hle
  ·simp only [] at hi
   rw[aV (Ne.symm e)]at hi;refine j6 (fun a _ u=>bK hle a u) rfl (fun b n hb=>U b (H.lt i b n hb).1 (fun m hm=>e (H.inj i id b n m hb hm)) fun h m hm=>H.cN i b n l0 h m hb hm) (fun l k=>?_) (H.obj i x hi);have N:l≠l0:=fun z=>e (H.uniq i id x o l hi hid k (by rw[hlab,z]));exact⟨u l N,fun h g m hk=>U g (H.cn l h g m hk).1 (fun n J=>H.cN id g n l h m J hk) fun h' m' hk'=>N (H.eS l h l0 h' g m m' hk hk').1⟩
 ·rcases M l h b m h1 with g1 | ⟨rfl, g1, g2, g3⟩ <;> rcases M l' h' b n d with W | ⟨rfl, W, k2, k3⟩
  ·exact H.eS _ _ _ _ _ _ _ g1 W
  ·have:=(H.cn _ _ _ _ g1).1; omega
  ·have:=(H.cn _ _ _ _ W).1; omega
  ·exact⟨rfl,(g3 h' n d).symm⟩
 ·rcases M l h b n hk with g1 | ⟨rfl, g1, g2, g3⟩
  ·exact H.cN _ _ _ _ _ _ hi g1
  ·have:=(H.lt i b m hi).1; omega
 ·rcases M l h b m hk with g1 | ⟨rfl, g1, g2, g3⟩
  ·exact⟨dy (H.cn _ _ _ _ g1).1 O,(H.cn _ _ _ _ g1).2⟩
  ·exact⟨g2,fun V=>by have:=H.X b V; omega⟩
 ·have key:∀ (i:Nat) x,(E.H.set id o')[i]? = some x→x.label=some l→∃ y,E.H[i]? = some y∧y.label=some l:=by
   intro i x hi k;by_cases e:i=id
   ·subst e
    rw[bk I]at hi;cases hi;exact⟨o,hid,by rw[hlab,←R,k]⟩
   ·rw [aV (Ne.symm e)] at hi
    exact⟨x,hi,k⟩
  obtain⟨x',a1,a2⟩:=key i x hi h1;obtain⟨y',b1,b2⟩:=key j y hj d;exact H.uniq i j x' y' l a1 b1 a2 b2
 ·have N : l ≠ l0 := fun e => J id o' (by show (E.H.set id o')[id]? = _; rw [bk I]) (by rw [R, e])
  have B:(r' l)[h]? = some (some q):=B;rw[u l N]at B;refine H.gk l (fun i x hi k=>?_) h q B;by_cases e:i=id
  ·subst e
   rw[hid]at hi;cases hi;exact N (by rw[hlab]at k; cases k; rfl)
  ·exact J i x (by show (E.H.set id o')[i]? = _; rw[aV (Ne.symm e)]; exact hi) k
def ij (r:Nat→List (Option (Option (Nat × Nat)))) (l0:Nat):Nat→List (Option (Option (Nat × Nat))):=fun l=>if l=l0 then r l++[some none] else r l
theorem B8{r:Nat→List (Option (Option (Nat × Nat)))}{l0 l h:Nat}{q:Option (Option (Nat × Nat))}(d:(ij r l0 l)[h]? = some q):(r l)[h]? = some q∨(l=l0∧h=(r l).length∧q=some none):=by
 unfold ij at d;split at d
 ·rename_i e
  rw[fb]at d;split at d
  ·exact .inl d
  ·rename_i g
   right;cases hk:h-(r l).length with
   | zero =>
    rw[hk]at d;simp at d;exact⟨e,by omega,d.symm⟩
   |succ n=>rw[hk]at d; simp at d
 ·exact .inl d
theorem Ta{r:Nat→List (Option (Option (Nat × Nat)))}{l0 l h:Nat}(d:h<(r l).length):(ij r l0 l)[h]? = (r l)[h]? := by
 unfold ij;split
 ·exact cQ d
 ·rfl
theorem aq.Tb{E:Env}{w':World}{o:ab}{l:Option (Nat × Nat)}{l0:Nat}(H:aq E)(h:Ext E.w w')(hb:∀ b n,l=some (b,n)→E.w.heap.size≤b∧b<w'.heap.size)(hlab:o.label=some l0)(J:∀(i:Nat) x,E.H[i]? = some x→x.label≠some l0)
  (ho:aR { w:=w',H:=E.H++[o],loc:=E.loc++[l],X:=E.X.re (ij E.X.r l0) } E.H.length o) :
  aq { w:=w',H:=E.H++[o],loc:=E.loc++[l],X:=E.X.re (ij E.X.r l0) }∧E.le { w:=w',H:=E.H++[o],loc:=E.loc++[l],X:=E.X.re (ij E.X.r l0) }:=by
 have M:∀(i:Nat) x,(E.H++[o])[i]? = some x→E.H[i]? = some x∨(i=E.H.length∧x=o):=fun i x hi=>by
  rw[fb]at hi;split at hi
  ·exact .inl hi
  ·right
   cases hk:i-E.H.length with
   |zero=>rw[hk]at hi; simp at hi; exact⟨by omega,hi.symm⟩
   |succ n=>rw[hk]at hi; simp at hi
 have z:∀(i:Nat) x,(E.loc++[l])[i]? = some x→E.loc[i]? = some x∨(i=E.loc.length∧x=l):=fun i x hi=>by
  rw[fb]at hi;split at hi
  ·exact .inl hi
  ·right
   cases hk:i-E.loc.length with
   |zero=>rw[hk]at hi; simp at hi; exact⟨by omega,hi.symm⟩
   |succ n=>rw[hk]at hi; simp at hi
 have u:∀(x k b m:Nat),(ij E.X.r l0 x)[k]? = some (some (some (b,m)))→(E.X.r x)[k]? = some (some (some (b,m))):=fun x k b m hk=>by
  rcases B8 hk with h1|⟨_,_,h1⟩
  ·exact h1
  ·cases h1
 have hle:E.le { w:=w',H:=E.H++[o],loc:=E.loc++[l],X:=E.X.re (ij E.X.r l0) }:=by
  refine⟨fun i ad N=>?_,h.size,fun b B _=>h.same b B,fun b hlt V=>?_,fun i ad N O=>?_,⟨rfl,rfl⟩,fun x k hk=>?_,h.env,fun i l x h1 d hv=>⟨⟨[],?_⟩,x,by simp only[]; rw[cQ (aL h1)]; exact h1,d⟩⟩
  rotate_right
  ·have e : l ≠ l0 := fun e => J i x h1 (by rw [← e]; exact ab.kX d)
   rw[dx];exact if_neg e
  ·obtain ⟨x, h1, d⟩ := N
   exact⟨x,by simp only[]; rw[cQ (aL h1)]; exact h1,d⟩
  ·rintro (⟨i, c, hi⟩ | ⟨x, k, m, hk⟩)
   ·rcases z i _ hi with h1 | ⟨_, h1⟩
    ·exact V (.inl ⟨i,c,h1⟩)
    ·have := hb b c h1.symm
     omega
   ·exact V (.inr ⟨x,k,m,u x k b m hk⟩)
  ·obtain ⟨x, h1, d⟩ := N
   have hid:=aL h1;obtain⟨y,t,R⟩:=O;simp only[]at t;rw[cQ hid]at t;exact⟨⟨y,t,R⟩,by simp only[]; rw[cQ (by rw[H.len]; exact hid)]⟩
  ·have hk':k<(ij E.X.r l0 x).length:=by
    unfold ij;split
    ·simp; omega
    ·exact hk
   refine⟨hk',fun q I=>?_⟩;have I:(ij E.X.r l0 x)[k]? = some (some q):=I
   rwa [Ta hk]at I
 refine⟨⟨by simp[H.len],fun i j b m n hi U=>?_,fun i b m hi=>?_,fun b B=>dy (H.X b B) h.size,fun i x hi=>?_,H.fh.bD hle.toC,fun x k x' k' b m n h1 d=>H.eS _ _ _ _ _ _ _ (u _ _ _ _ h1) (u _ _ _ _ d),fun i b m x k n hi hk=>?_,fun x k b m hk=>?_,fun i j x y v hi U h1 d=>?_,fun v W k q I=>?_⟩,hle⟩
 ·rcases z i _ hi with h1 | ⟨h1, d⟩ <;> rcases z j _ U with t | ⟨t, R⟩
  ·exact H.inj _ _ _ _ _ h1 t
  ·have:=hb b n R.symm; have:=(H.lt _ _ _ h1).1; omega
  ·have:=hb b m d.symm; have:=(H.lt _ _ _ t).1; omega
  ·omega
 ·rcases z i _ hi with h1 | ⟨h1, d⟩
  ·exact⟨dy (H.lt _ _ _ h1).1 h.size,(H.lt _ _ _ h1).2⟩
  ·have t := hb b m d.symm
   exact⟨t.2,fun hx=>by have:=H.X b hx; omega⟩
 ·rcases M i x hi with h1 | ⟨h1, d⟩
  ·refine j6 (fun a _ hr => bK hle a hr) (by simp only []; rw [cQ (by rw [H.len]; exact aL h1)]) (fun b n B => h.same b (H.lt i b n B).1) (fun v hl1 => ?_) (H.obj i x h1)
   have hne:v≠l0:=fun e=>J i x h1 (by rw[hl1,e]);exact⟨if_neg hne,fun k g m hk=>h.same g (H.cn _ _ _ _ hk).1⟩
  ·subst h1 d
   exact ho
 ·rcases z i _ hi with h1 | ⟨h1, d⟩
  ·exact H.cN _ _ _ _ _ _ h1 (u _ _ _ _ hk)
  ·have:=hb b m d.symm; have:=(H.cn _ _ _ _ (u _ _ _ _ hk)).1; omega
 ·have h1 := u _ _ _ _ hk
  exact⟨dy (H.cn _ _ _ _ h1).1 h.size,(H.cn _ _ _ _ h1).2⟩
 ·rcases M i x hi with g1 | ⟨g1, rfl⟩ <;> rcases M j y U with g3 | ⟨g3, rfl⟩
  ·exact H.uniq i j x y v g1 g3 h1 d
  ·rw [hlab] at d
   cases d;exact(J i x g1 h1).elim
  ·rw [hlab] at h1
   cases h1;exact(J j y g3 d).elim
  ·omega
 ·rcases B8 (show (ij E.X.r l0 v)[k]? = some (some q) from I) with g1 | ⟨g1, _⟩
  ·exact H.gk v (fun i x hi O=>W i x (by simp only[]; rw[cQ (aL hi)]; exact hi) O) k q g1
  ·exact W E.H.length o (by simp) (by rw[hlab,g1])
theorem Env.uj{E:Env}(H:aq E)(id:Nat):E.le { w:=E.w,H:=E.H.set id .dead,loc:=E.loc.set id none,X:=E.X }:=by
 rcases h_ id E.H.length with h|h
 ·exact Env.jE (o:=E.H[id]) (by simp[h]) H.len (aH _) (fun _ _ _=>rfl) (fun _ _ h=>by cases h) (.inl (fun v h=>by simp[ab.aF]at h))
   (fun v u h=>by simp[ab.aF]at h) (fun _ _=>rfl)
 ·rw [IB h, IB (by rw [H.len]; exact h)]
  exact Env.le.refl E
theorem aq.drop{E:Env}(H:aq E)(id:Nat)(hlab:∀ o,E.H[id]? = some o→o.label=none):aq { w:=E.w,H:=E.H.set id .dead,loc:=E.loc.set id none,X:=E.X }:=by
 rcases h_ id E.H.length with h|h
 ·refine aq.k0 (o:=E.H[id]) H (by simp [h]) (aH _) (fun _ _ _=>rfl) (fun _ _ h=>by cases h) (.inl (fun v h=>by simp [ab.aF] at h))
   (fun v u h=>by simp[ab.aF]at h) (fun _ _=>rfl) ?_ (hlab:=hlab _ (by simp[h]))
  simp only[aR];rw[bk (by rw[H.len]; exact h)]
 ·rw [IB h, IB (by rw [H.len]; exact h)]
  exact H
end Go.AL

namespace Go.AL
variable [Dr]
structure FK where
 off:Nat
 size:Nat
 agg:Bool
def pF:TypeDesc→Bool
 |.struct _ | .array _ _=>true
 |_=>false
def gG(P:Program)(t:TypeId):Option (Nat × Bool) :=
 match P.info? t,P.underlying t with
 |some i,some d=>some (i.size,pF d)
 |_,_=>none
def ra(P:Program)(t:TypeId)(f:Nat):Option FK :=
 match P.underlying t with
 | some (.struct d)=>match d[f]? with
  | some fd=>match gG P fd.type with
   |some (n,a)=>some ⟨fd.offset,n,a⟩
   |none=>none
  |none=>none
 |_=>none
def dZ(P:Program)(t:TypeId):Option (List Value) :=
 match P.info? t with
 | some i=>match i.zero with
  |some z=>if z.cells.toList.all dw then some z.cells.toList else none
  |none=>none
 |none=>none
inductive SK where
 |slice (elem size bytes:Nat)
 |array (n elem size:Nat) (agg:Bool)
 |str
 |int (k:IntKind)
 |bool
 |other
def cr(P:Program)(t:TypeId):SK :=
 match P.underlying t with
 | some (.slice e)=>match P.info? e with
  |some i=>.slice e i.size i.bytes
  |none=>.other
 | some (.array n e)=>match gG P e with
  |some (m,a)=>.array n e m a
  |none=>.other
 |some .string=>.str
 |some (.int k)=>.int k
 |some .bool=>.bool
 |_=>.other
def AV.rb:Value→AV
 |.agg cs=>if cs.toList.all dw then .agg (cs.toList.map .lit) else .lit (.agg cs)
 |.tuple cs=>.tuple (cs.toList.map .lit)
 |v=>.lit v
abbrev AV.int(n:Int):AV:=.lit (.int .i64 n)
abbrev AV.bool(b:Bool):AV:=.lit (.bool b)
abbrev AV.str(s:ByteArray):AV:=.lit (.string s)
theorem mE{E:Env}:∀(l:List Value),ae E (l.map .lit) l
 | []=>by simp[ae]
 |v::l=>by simp[ae,rel,mE l]
theorem Jd(E:Env)(v:Value):rel E (AV.rb v) v:=by
 unfold AV.rb;split
 ·split
  ·rename_i cs h
   simp only[rel];exact⟨cs,rfl,bO.1 h,mE _⟩
  ·simp[rel]
 ·simp only [rel]
  exact⟨_,rfl,mE _⟩
 ·simp[rel]
structure St where
 fr:List AV
 H:List ab
def St.eval(s:St):Operand→AV
 |.tmp t=>s.fr.getD t .undef
 |.const v=>AV.rb v
 |.global g=>.lit (.pointer (some ⟨g,0,none⟩))
 |.func f=>.clo f []
def lI(w:World)(X:XS)(l:List Deferred):Prop:=l.Nodup∧∀ d∈l,∃ D,d={ target:=.collected D,args:=#[] }∧w.heap[D]? = some (.deferred (some []))∧X D∧X.z D
theorem Je(w:World)(X:XS):lI w X []:=⟨Sc,fun _ h=>by cases h⟩
theorem Jf{w w':World}{X X':XS}{l:List Deferred}(h:lI w X l)(hX:∀ b,X b→X.z b→X' b∧X'.z b)(q:∀ b,X b→X.z b→w'.heap[b]? = w.heap[b]?):lI w' X' l :=
 ⟨h.1,fun d t=>let ⟨D,e,h1,g,k⟩:=h.2 d t; ⟨D,e,by rw[q D g k]; exact h1,hX D g k⟩⟩
theorem B9{E E':Env}(HE:aq E)(h:E.le E'){l:List Deferred}(hm:lI E.w E.X l):lI E'.w E'.X l :=
 Jf hm (fun b h1 d=>⟨by rw[show E'.X.x=E.X.x from h.X.1]; exact h1,by rw[show E'.X.z=E.X.z from h.X.2]; exact d⟩) fun b hb _=>h.same b (HE.X b hb) (HE.B7 hb)
structure cV (s:St) (E:Env) (a:Act):Prop where
 H:E.H=s.H
 fr:ae E s.fr a.tmps.toList
 defers:lI E.w E.X a.defers
 heap:aq E
theorem cV.eval{s:St}{E:Env}{a:Act}(h:cV s E a)(x:Operand):rel E (s.eval x) (a.eval x):=by
 cases x with
 | tmp t =>
  simp only[St.eval,BH];obtain⟨h1,u⟩:=mC.1 h.fr;rcases h_ t s.fr.length with d|q
  ·have k : t < a.tmps.toList.length := h1 ▸ d
   have y:s.fr[t]? = some s.fr[t]:=by simp[d]
   have z:a.tmps.toList[t]? = some a.tmps.toList[t]:=bd k;have:=u t _ _ y z;simpa[b_,Array.getD_eq_getD_getElem?,d,show t<a.tmps.size by simpa using k]using this
  ·have : s.fr.getD t .undef = .undef := by simp [b_, nz q]
   rw[this];simp[rel]
 |const v=>exact Jd E v
 |global g=>simp[St.eval,BH,rel]
 |func f=>simp only[St.eval,BH,rel]; exact⟨#[],rfl,by simp[ae]⟩
def jF(agg:Bool)(n:Nat)(cells:List AV):Option AV :=
 if agg then (if n≤cells.length then some (.agg (cells.take n)) else none) else cells[0]?
def lJ(k:SK)(x i:AV):Option AV :=
 match i with
 | .lit (.int _ n) =>
  match k,x with
  |.slice _ sz _,.list w rows=>if w=sz∧0≤n∧n<rows.length then (rows[n.toNat]?).map .cptr else none
  |.slice _ sz _,.listF ks rows=>if ks.length=sz∧0≤n∧n<rows.length then some (.cptr (aK ks (rows.getD n.toNat []))) else none
  |.slice _ sz _,.vec w id ad off m=>if w=sz∧0≤n∧n<m then some (.ptr id ad w (off+n.toNat) 0) else none
  |.array m _ sz _,.ptr id ad w row col=>if 0≤n∧n<m then some (.ptr id ad w row (col+n.toNat*sz)) else none
  |.array m _ sz _,.cptr cells=>if 0≤n∧n<m then some (.cptr ((cells.drop (n.toNat*sz)).take sz)) else none
  |_,_=>none
 |_=>none
def B_(k:FK)(x:AV):Option AV :=
 if k.size=0 then none else
 match x with
 |.cptr cells=>some (.cptr (cells.drop k.off))
 |.ptr id ad w row col=>some (.ptr id ad w row (col+k.off))
 |_=>none
def Ca(k:IntKind)(a b:Int):Int:=k.wrap (xq k.bits a &&& xq k.bits b).toNat
def Jg(k:IntKind)(a b:Int):Int:=k.wrap (xq k.bits a ||| xq k.bits b).toNat
def Jh(k:IntKind)(a b:Int):Int:=k.wrap (xq k.bits a ^^^ xq k.bits b).toNat
def Cb(k:IntKind)(a b:Int):Int:=k.wrap (a*2 ^ min b.toNat k.bits)
def j7(k:IntKind)(a b:Int):Int:=a.fdiv (2 ^ min b.toNat k.bits)
def nP(op:BinOp)(k:IntKind)(a b:Int):Option Value :=
 match op with
 |.and=>some (.int k (Ca k a b))
 |.or=>some (.int k (Jg k a b))
 |.xor=>some (.int k (Jh k a b))
 |.add=>some (.int k (k.wrap (a+b)))
 |.sub=>some (.int k (k.wrap (a-b)))
 |.mul=>some (.int k (k.wrap (a*b)))
 |.quo=>if b=0 then none else some (.int k (k.wrap (a.tdiv b)))
 |.rem=>if b=0 then none else some (.int k (a.tmod b))
 |.eql=>some (.bool (a==b))
 |.neq=>some (.bool (a != b))
 |.lss=>some (.bool (a<b))
 |.leq=>some (.bool (a≤b))
 |.gtr=>some (.bool (a>b))
 |.geq=>some (.bool (a ≥ b))
 |_=>none
def Cc(op:BinOp)(x y:ByteArray):Option Value :=
 match op with
 |.add=>if ((x.size+y.size:Nat):Int)>IntKind.i64.max then none else some (.string (x++y))
 |.eql=>some (.bool (x.toList==y.toList))
 |.neq=>some (.bool !(x.toList==y.toList))
 |.lss=>some (.bool (xr x.toList y.toList))
 |.leq=>some (.bool (xr x.toList y.toList||x.toList==y.toList))
 |.gtr=>some (.bool !(xr x.toList y.toList||x.toList==y.toList))
 |.geq=>some (.bool !(xr x.toList y.toList))
 |_=>none
def je(op:BinOp):Value→Value→Option Value
 | .int k a,.int k' b=>match op with
  |.shl=>if b<0 then none else some (.int k (Cb k a b))
  |.shr=>if b<0 then none else some (.int k (j7 k a b))
  |op=>if k=k' then nP op k a b else none
 |.string a,.string b=>Cc op a b
 |_,_=>none
def xY:AV→Option Nat
 |.lit (.string s)=>some s.size
 |.lit (.slice none 0 0)=>some 0
 |.nils=>some 0
 |.emptyS _=>some 0
 |.list _ rows=>some rows.length
 |.listF _ rows=>some rows.length
 |.vec _ _ _ _ n=>some n
 |_=>none
theorem Sem.a_{P:Program}{t:TypeId}{d:TypeDesc}(h:P.underlying t=some d)(w:World) :
  (underlying t).run P w=.ok d w:=by simp[underlying,h]
theorem Sem.run_sizeOf{P:Program}{t:TypeId}{i:TypeInfo}(h:P.info? t=some i)(w:World):(sizeOf t).run P w=.ok i.size w:=by
 simp[sizeOf,typeInfo,h]
theorem Sem.nQ{P:Program}{t:TypeId}{d:TypeDesc}(h:P.underlying t=some d)(w:World):(isAgg t).run P w=.ok (pF d) w:=by
 simp[isAgg,Sem.a_ h];cases d<;>rfl
theorem lK{P:Program}{t:TypeId}{n:Nat}{a:Bool}(h:gG P t=some (n,a)):∃ i d,P.info? t=some i∧P.underlying t=some d∧i.size=n∧pF d=a:=by
 unfold gG at h;split at h
 ·rename_i i d h1 g
  simp at h;exact⟨i,d,h1,g,h.1,h.2⟩
 ·cases h
theorem Ji{P:Program}{t:TypeId}{f:Nat}{k:FK}(h:ra P t f=some k) :
  ∃ d fd,P.underlying t=some (.struct d)∧d[f]? = some fd∧fd.offset=k.off∧gG P fd.type=some (k.size,k.agg):=by
 unfold ra at h;split at h
 ·rename_i d h1
  split at h
  ·rename_i fd g
   split at h
   ·rename_i n a q
    simp at h;subst h;exact⟨d,fd,h1,g,rfl,q⟩
   ·cases h
  ·cases h
 ·cases h
theorem Tc{P:Program}(op:BinOp)(t:TypeId)(x y:Value)(v:Value)(h:je op x y=some v)(w:World):(binOp op t x y).run P w=.ok v w:=by
 unfold je at h;split at h
 ·rename_i k a k' b
  split at h
  ·split at h
   ·cases h
   ·rename_i hb
    cases h;simp only[binOp,Op.shift,if_neg hb,Cb];rfl
  ·split at h
   ·cases h
   ·rename_i hb
    cases h;simp only[binOp,Op.shift,if_neg hb,j7];rfl
  ·rename_i d g
   split at h
   ·rename_i hk
    subst hk;cases op<;>first|exact absurd rfl d|exact absurd rfl g|skip
    all_goals simp[nP]at h
    all_goals simp[binOp,Op.intArith,Op.intDiv,Op.intCmp,Op.intBits]
    all_goals first
     |exact h
     |(obtain⟨h1,q⟩:=h; simp[h1,q])
   ·cases h
 ·rename_i a b
  cases op<;>simp only[Cc]at h<;>(try split at h)<;>simp at h<;>simp only[binOp,Op.stringOp]<;>first
   |(subst h; simp; done)
   |(rename_i u; subst h; rw[if_neg u]; rfl)
 ·cases h
theorem Td{P:Program}(op:BinOp)(t:TypeId)(x y:Operand)(a b:Value)(h:∀ v,je op a b≠some v→True)(d:(je op a b).isSome=true)(w:World) :
  (eqGuard op t x y a b).run P w=.ok () w:=by
 unfold je at d;split at d
 ·cases op<;>simp[eqGuard]<;>rfl
 ·cases op<;>simp[eqGuard]<;>rfl
 ·cases d
theorem Te{E:Env}{x:AV}{c:Value}{n:Nat}(h:xY x=some n)(d:rel E x c) :
  (∃ s,c=.string s∧s.size=n)∨∃ base cap,c=.slice base n cap:=by
 unfold xY at h;split at h
 ·simp only[rel]at d; subst d; simp at h; exact .inl ⟨_,rfl,h⟩
 ·simp only[rel]at d; subst d; simp at h; subst h; exact .inr ⟨_,_,rfl⟩
 ·simp only[rel]at d; obtain⟨b,rfl⟩:=d; simp at h; subst h; exact .inr ⟨_,_,rfl⟩
 ·simp only[rel]at d; obtain⟨b,cap,rfl,_⟩:=d; simp at h; subst h; exact .inr ⟨_,_,rfl⟩
 ·simp only[rel]at d; obtain⟨_,b,cap,rfl,_⟩:=d; simp at h; subst h; exact .inr ⟨_,_,rfl⟩
 ·simp only[rel,dG]at d; obtain⟨b,cap,rfl,_⟩:=d; simp at h; subst h; exact .inr ⟨_,_,rfl⟩
 ·simp only[rel]at d; obtain⟨⟨b,cap,rfl,_⟩,_⟩:=d; simp at h; subst h; exact .inr ⟨_,_,rfl⟩
 ·cases h
end Go.AL

namespace Go.AL
open Go
variable [Dr]
theorem j8(b o n:Nat):(Addr.mk b o none).add n=⟨b,o+n,none⟩:=by
 unfold Addr.add;split
 ·rename_i h; simp[h]
 ·rfl
theorem Tf{E:Env}{as:List AV}{b o:Nat}(h:cf E as b o){i:Nat}{a:AV}(hi:as[i]? = some a) :
  ∃ v,E.w.cell? ⟨b,o+i,none⟩=some v∧dw v=true∧rel E a v:=iL.1 h i a hi
theorem rf{E:Env}{as:List AV}{b o:Nat}(h:cf E as b o)(n:Nat):cf E (as.drop n) b (o+n):=by
 rw[iL]at *;intro i a hi;rw[qK]at hi;obtain⟨v,h1,d,g⟩:=h (n+i) a hi;exact⟨v,by rw[pe]; exact h1,d,g⟩
theorem xZ{E:Env}{as:List AV}{b o:Nat}(h:cf E as b o)(n:Nat):cf E (as.take n) b o:=by
 rw[iL]at *;intro i a hi;rw[nA]at hi;split at hi
 ·exact h i a hi
 ·cases hi
theorem uk:∀(as:List AV) (n:Nat),AV.bu as=true→AV.bu (as.drop n)=true
 | [],n,_=>by simp[AV.bu]
 |a::as,0,h=>by simpa using h
 | a::as,n+1,h=>by
  simp only[AV.bu,ar]at h;simpa using uk as n h.2
theorem x3:∀(as:List AV) (n:Nat),AV.bu as=true→AV.bu (as.take n)=true
 | [],n,_=>by simp[AV.bu]
 |a::as,0,_=>by simp[AV.bu]
 | a::as,n+1,h=>by
  simp only[AV.bu,ar]at h;simp only[BI,AV.bu,ar];exact⟨h.1,x3 as n h.2⟩
theorem um{E:Env}:∀{as:List AV} {b o:Nat},cf E as b o →
  ∃ vs:List Value,ae E as vs∧(∀ x∈vs,dw x=true)∧∀ j v,vs[j]? = some v→E.w.cell? ⟨b,o+j,none⟩=some v
 | [],b,o,_=>⟨[],by simp[ae]⟩
 | a::as,b,o,h=>by
  simp only[cf]at h;obtain⟨⟨v,h1,k,q⟩,t⟩:=h;obtain⟨vs,g1,g2,g3⟩:=um t;refine⟨v::vs,by simp only[ae]; exact⟨q,g1⟩,?_,?_⟩
  ·intro x d
   rcases bS.1 d with rfl|d
   ·exact k
   ·exact g2 x d
  ·intro j x g
   cases j with
   |zero=>simp at g; subst g; exact h1
   |succ j=>have:=g3 j x (by simpa using g); rwa [pe,xp 1 j]at this
theorem Cd{P:Program}{E:Env}{cells:List AV}{b o n:Nat}{agg:Bool}{t:TypeId}{v:AV}(q:gG P t=some (n,agg))
  (g:jF agg n cells=some v) (h:cf E cells b o):∃ c,(loadVar t ⟨b,o,none⟩).run P E.w=.ok c E.w∧rel E v c:=by
 obtain⟨i,d,hi,k,u,ha⟩:=lK q;unfold jF at g;cases agg with
 | true =>
  simp only[if_true]at g;split at g
  ·rename_i hle
   cases g;obtain⟨vs,g1,g2,g3⟩:=um (xZ h n);have y:vs.length=n:=by rw[←jd g1]; simp[hle]
   refine⟨.agg vs.toArray,?_,?_⟩
   ·simp only [loadVar, bT, Sem.nQ k, bP, ha, if_true, Sem.run_sizeOf hi, u]
    rw[←y,run_loadCells_list (w:=E.w) ⟨b,o,none⟩ vs (fun j v z=>by rw[j8]; exact g3 j v z)];rfl
   ·simp only [rel]
    exact⟨vs.toArray,rfl,by simpa using g2,by simpa using g1⟩
  ·cases g
 | false =>
  simp only[lD,if_false]at g;obtain⟨x,h1,_,B⟩:=Tf h g;refine⟨x,?_,B⟩;simp only[loadVar,bT,Sem.nQ k,bP,ha,lD,if_false,run_load];rw[show (⟨b,o,none⟩:Addr)=⟨b,o+0,none⟩ from rfl,h1]
def j9(P:Program)(t:TypeId)(x:AV)(H:List ab):Option AV :=
 match gG P t with
 | some (n,agg) =>
  match x with
  |.cptr cells=>jF agg n cells
  | .ptr id ad w row col=>match H[id]? with
   |some (.box cells)=>if ad=0∧row=0 then jF agg n (cells.drop col) else none
   |some (.vec k v rows)=>if ad=v∧k=w then (match rows[row]? with|some r=>jF agg n (r.drop col)|none=>none) else none
   |_=>none
  |_=>none
 |none=>none
theorem mF{E:Env}{k:Nat}{rs:List (List AV)}{b o:Nat}(h:cz E k rs b o){i:Nat}{r:List AV}(hi:rs[i]? = some r) :
  r.length=k∧cf E r b (o+i*k):=lH.1 h i r hi
theorem Jj{P:Program}{E:Env}(HE:aq E){t:TypeId}{x v:AV}{c:Value}(d:j9 P t x E.H=some v)(h:rel E x c) :
  ∃ u,(BJ t c).run P E.w=.ok u E.w∧rel E v u:=by
 unfold j9 at d;split at d
 case h_2=>cases d
 rename_i n agg I;split at d
 ·simp only [rel] at h
  obtain⟨_,b,o,rfl,_,N⟩:=h;obtain⟨u,q,y⟩:=Cd I d N;exact⟨u,by simpa[BJ,nB]using q,y⟩
 ·rename_i id ad w row col
  simp only[rel]at h;split at d
  ·rename_i cells hid
   split at d
   ·rename_i B
    obtain⟨rfl,rfl⟩:=B;obtain⟨b,m,J,rfl⟩:=h.2.2 ⟨_,hid,rfl⟩;obtain⟨O,m',g,_,z⟩:=HE.obj id _ hid;rw[J]at g;cases g;have:=rf z col;simp only[cR]at this;obtain⟨u,q,y⟩:=Cd I d this;exact⟨u,by simpa[BJ,nB]using q,y⟩
   ·cases d
  ·rename_i k R rows hid
   split at d
   ·rename_i B
    obtain⟨rfl,rfl⟩:=B;split at d
    ·rename_i r M
     obtain⟨b,m,J,rfl⟩:=h.2.2 ⟨_,hid,rfl⟩;rcases HE.obj id _ hid with⟨g,z⟩|⟨O,m',g,_,_,_,z⟩
     ·subst z; simp at M
     ·rw [J] at g
      cases g;have:=rf (mF z M).2 col;simp only[cR]at this;obtain⟨u,q,y⟩:=Cd I d this;exact⟨u,by simpa[BJ,nB]using q,y⟩
    ·cases d
   ·cases d
  ·cases d
 ·cases d
theorem Tg{P:Program}{E:Env}{t:TypeId}{f:Nat}{k:FK}{x v:AV}{c:Value}(hk:ra P t f=some k)
  (g:B_ k x=some v) (h:rel E x c):∃ u,(Sd t c f).run P E.w=.ok u E.w∧rel E v u:=by
 obtain⟨fs,fd,h1,z,M,N⟩:=Ji hk;obtain⟨i,d,hi,hd,O,ha⟩:=lK N;unfold B_ at g;split at g
 ·cases g
 rename_i B;have y:∀ b o w,(fieldPlace ⟨b,o,none⟩ fd).run P w=.ok ⟨b,o+k.off,none⟩ w:=by
  intro b o w;simp only[fieldPlace,bT,Sem.run_sizeOf hi,bP,O,if_neg B,fc,j8,M]
 split at g
 ·cases g
  simp only[rel]at h;obtain⟨R,b,o,rfl,I,J⟩:=h;refine⟨.pointer (some ⟨b,o+k.off,none⟩),?_,?_⟩
  ·simp[Sd,Sem.a_ h1,z,nB,y]
  ·simp only [rel]
   exact⟨uk _ _ R,b,o+k.off,rfl,I,rf J _⟩
 ·cases g
  simp only[rel]at h;rename_i id ad w row col;obtain⟨⟨b,o,rfl⟩,U,V⟩:=h;refine⟨.pointer (some ⟨b,o+k.off,none⟩),?_,?_⟩
  ·simp[Sd,Sem.a_ h1,z,nB,y]
  ·simp only [rel]
   refine⟨⟨_,_,rfl⟩,U,fun W=>?_⟩;obtain⟨b',n',e1,q⟩:=V W;simp only[ahy,aX,IC]at q;exact⟨b',n',e1,by simp[q.1,q.2.1,pe]⟩
 ·cases g
theorem gH{P:Program}{t e sz d:Nat}(h:cr P t=.slice e sz d):P.underlying t=some (.slice e)∧∃ i,P.info? e=some i∧i.size=sz∧i.bytes=d:=by
 unfold cr at h;split at h
 ·rename_i e' h1
  split at h
  ·rename_i i g
   cases h;exact⟨h1,i,g,rfl,rfl⟩
  ·cases h
 ·split at h<;>cases h
 all_goals cases h
theorem x4{P:Program}{t n e sz:Nat}{a:Bool}(h:cr P t=.array n e sz a):P.underlying t=some (.array n e)∧gG P e=some (sz,a):=by
 unfold cr at h;split at h
 ·split at h<;>cases h
 ·rename_i g e' h1
  split at h
  ·rename_i m k d
   cases h;exact⟨h1,d⟩
  ·cases h
 all_goals cases h
theorem pG{P:Program}{t:Nat}(h:cr P t=.str):P.underlying t=some .string:=by
 unfold cr at h;split at h
 ·split at h<;>cases h
 ·split at h<;>cases h
 ·rename_i h1; exact h1
 all_goals cases h
theorem Th{P:Program}{E:Env}(HE:aq E){t:TypeId}{x i v:AV}{c d:Value}
  (g:lJ (cr P t) x i=some v) (h:rel E x c) (hi:rel E i d):∃ u,(xu t c d).run P E.w=.ok u E.w∧rel E v u:=by
 unfold lJ at g;split at g
 case h_2=>cases g
 rename_i k n;simp only[rel]at hi;subst hi;split at g
 ·rename_i e sz by_ w rows hk
  split at g
  ·rename_i q
   obtain⟨rfl,h0,h1⟩:=q;obtain⟨hu,ii,z,B,_⟩:=gH hk;cases y:rows[n.toNat]? with
   |none=>rw[y]at g; cases g
   | some r =>
    rw[y]at g;simp at g;subst g;simp only[rel]at h;obtain⟨N,base,cap,rfl,hle,V⟩:=h;rcases V with rfl|⟨b,o,rfl,I,W⟩
    ·simp at y
    ·obtain ⟨g1, g2⟩ := mF W y
     refine⟨.pointer (some ⟨b,o+n.toNat*w,none⟩),?_,?_⟩
     ·simp[xu,asIntOf,Sem.a_ hu,h0,h1,Sem.run_sizeOf z,B,j8]
     ·simp only [rel]
      exact⟨N r (fa y),b,_,rfl,I,g2⟩
  ·cases g
 ·rename_i e sz by_ ks rows hk
  split at g
  ·rename_i q
   obtain⟨rfl,h0,h1⟩:=q;cases g;obtain⟨hu,ii,z,B,_⟩:=gH hk;have h:=jC.1 h;simp only[rel,dv]at h;obtain⟨N,base,cap,rfl,hle,V⟩:=h;have hlt:n.toNat<rows.length:=by omega
   have y:(rows.map (aK ks))[n.toNat]? = some (aK ks (rows.getD n.toNat [])):=by
    rw[bR,b_,bd hlt];rfl
   rcases V with hn|⟨b,o,rfl,I,W⟩
   ·rw[hn]at y; simp at y
   ·obtain ⟨g1, g2⟩ := mF W y
    refine⟨.pointer (some ⟨b,o+n.toNat*ks.length,none⟩),?_,?_⟩
    ·simp[xu,asIntOf,Sem.a_ hu,h0,h1,Sem.run_sizeOf z,B,j8]
    ·simp only [rel]
     exact⟨fW _ _,b,_,rfl,I,g2⟩
  ·cases g
 ·rename_i e sz by_ w id ad off m hk
  split at g
  ·rename_i q
   obtain⟨rfl,h0,h1⟩:=q;cases g;obtain⟨hu,ii,z,B,_⟩:=gH hk;simp only[rel]at h;obtain⟨⟨base,cap,rfl,hle,hb⟩,O,J⟩:=h;obtain⟨b,o,rfl⟩:=hb (by omega);refine⟨.pointer (some ⟨b,o+n.toNat*w,none⟩),?_,?_⟩
   ·simp[xu,asIntOf,Sem.a_ hu,h0,h1,Sem.run_sizeOf z,B,j8]
   ·simp only [rel]
    refine⟨⟨_,_,rfl⟩,O,fun hl=>?_⟩;obtain⟨g1,g2⟩:=J hl;obtain⟨a,ha,hav⟩:=O;cases M:E.loc[id]? with
    | none =>
     have:=aL ha;rw[←HE.len]at this;rw[bd this]at M;cases M
    | some l =>
     cases l with
     |none=>have:=(g1 M).1; omega
     | some bm =>
      obtain⟨R,m'⟩:=bm;obtain⟨q1,o',q2,q3⟩:=g2 R m' M;simp only[j0,aX,IC]at q3;refine⟨R,m',rfl,?_⟩;rw[q3.1.1,q3.1.2.1,q2 (by omega),fH];rfl
  ·cases g
 ·rename_i m e sz a id ad w row col hk
  split at g
  ·rename_i q
   cases g;obtain⟨hu,U⟩:=x4 hk;obtain⟨ii,dd,z,B,h4,_⟩:=lK U;simp only[rel]at h;obtain⟨⟨b,o,rfl⟩,O,J⟩:=h;refine⟨.pointer (some ⟨b,o+n.toNat*sz,none⟩),?_,?_⟩
   ·simp[xu,asIntOf,Sem.a_ hu,q.1,q.2,Sem.run_sizeOf z,h4,j8,nB]
   ·simp only [rel]
    refine⟨⟨_,_,rfl⟩,O,fun hl=>?_⟩;obtain⟨R,n',e1,e2⟩:=J hl;simp only[ahy,aX,IC]at e2;exact⟨R,n',e1,by simp[e2.1,e2.2.1,pe]⟩
  ·cases g
 ·rename_i m e sz a cells hk
  split at g
  ·rename_i q
   cases g;obtain⟨hu,U⟩:=x4 hk;obtain⟨ii,dd,z,B,h4,_⟩:=lK U;simp only[rel]at h;obtain⟨N,b,o,rfl,I,J⟩:=h;refine⟨.pointer (some ⟨b,o+n.toNat*sz,none⟩),?_,?_⟩
   ·simp[xu,asIntOf,Sem.a_ hu,q.1,q.2,Sem.run_sizeOf z,h4,j8,nB]
   ·simp only [rel]
    exact⟨x3 _ _ (uk _ _ N),b,_,rfl,I,xZ (rf J _) _⟩
  ·cases g
 ·cases g
def j_:AV→Option Int
 |.lit (.int _ n)=>some n
 |_=>none
def gp(len:Nat)(lo hi:Option AV):Option (Nat × Nat) :=
 match (match lo with|none=>some 0|some x=>j_ x),(match hi with|none=>some (len:Int)|some x=>j_ x)with
 |some l,some h=>if 0≤l∧l≤h∧h≤len then some (l.toNat,h.toNat) else none
 |_,_=>none
theorem rh{E:Env}{x:AV}{c:Value}{n:Int}(h:j_ x=some n)(d:rel E x c):∃ k,c=.int k n:=by
 unfold j_ at h;split at h
 ·cases h
  simp only[rel]at d;exact⟨_,d⟩
 ·cases h
def Jk:List AV→Option (List G)
 | [.lit (.string s)]=>some [.s s]
 |_=>none
def rj:List (List AV)→Option (List (List G))
 | []=>some []
 | r::rs=>match Jk r,rj rs with
  |some g,some gs=>some (g::gs)
  |_,_=>none
theorem Ce:∀{rows:List (List AV)} {gs:List (List G)},rj rows=some gs→gs.map (aK [.str])=rows
 | [],gs,h=>by
  simp only[rj,aX]at h;subst h;rfl
 | r::rs,gs,h=>by
  simp only[rj]at h;split at h
  ·rename_i g k h1 d
   cases h;rw[cY,Ce d];unfold Jk at h1;split at h1
   ·cases h1; rfl
   ·cases h1
  ·cases h
def x5(w:Nat)(rows:List (List AV))(l n:Nat):AV:=match w,rj rows with
 |1,some gs=>.listF [.str] ((gs.drop l).take n)
 |_,_=>.list w ((rows.drop l).take n)
theorem Ti{E:Env}{w l n:Nat}{rows:List (List AV)}{c:Value} (h:rel E (.list w ((rows.drop l).take n)) c):rel E (x5 w rows l n) c:=by
 unfold x5;split
 ·rename_i gs d
  rw[jC,Se,ID,Ce d];exact h
 ·exact h
def k8(P:Program)(t:TypeId)(x:AV)(lo hi mx:Option AV):Option AV :=
 match cr P t,x with
 | .str,.lit (.string s)=>match mx,gp s.size lo hi with
  |none,some (l,h)=>some (.lit (.string (s.extract l h)))
  |_,_=>none
 | .slice _ sz _,.list w rows=>match mx with
  | none=>match gp rows.length lo hi with
   |some (l,h)=>if w=sz then some (x5 w rows l (h-l)) else none
   |none=>none
  |some m=>if hi.isSome∧gp rows.length lo hi=some (0,0)∧j_ m=some 0 then some .nils else none
 | .slice _ sz _,.listF ks rows=>match mx with
  | none=>match gp rows.length lo hi with
   |some (l,h)=>if ks.length=sz then some (.listF ks ((rows.drop l).take (h-l))) else none
   |none=>none
  |some m=>if hi.isSome∧gp rows.length lo hi=some (0,0)∧j_ m=some 0 then some .nils else none
 | .slice _ sz _,.vec w id ad off n=>match mx with
  | none=>match gp n lo hi with
   |some (l,h)=>if w=sz then some (.vec w id ad (off+l) (h-l)) else none
   |none=>none
  |some m=>if hi.isSome∧gp n lo hi=some (0,0)∧j_ m=some 0 then some .nils else none
 | .slice _ _ _,.nils=>match mx with
  |none=>if (gp 0 lo hi).isSome then some .nils else none
  |some _=>none
 | .slice _ _ _,.lit (.slice none 0 0)=>match mx with
  |none=>if (gp 0 lo hi).isSome then some (.lit (.slice none 0 0)) else none
  |some m=>if hi.isSome∧gp 0 lo hi=some (0,0)∧j_ m=some 0 then some (.lit (.slice none 0 0)) else none
 |_,_=>none
theorem rk{P:Program}{E:Env}{len cap:Nat}{lo hi:Option AV}{clo q:Option Value}{l h:Nat}(isSlice:Bool)(hb:gp len lo hi=some (l,h))(hle:len≤cap)
  (h1:∀ x,lo=some x→∃ c,clo=some c∧rel E x c) (u:lo=none→clo=none)
  (B:∀ x,hi=some x→∃ c,q=some c∧rel E x c) (y:hi=none→q=none) (w:World) :
  (qL isSlice len cap clo q none).run P w=.ok (l,h,cap) w∧l≤h∧h≤len:=by
 unfold gp at hb;split at hb
 case h_2=>cases hb
 rename_i a b g t;split at hb
 case isFalse=>cases hb
 rename_i d;simp only[aX,a8]at hb;obtain⟨rfl,rfl⟩:=hb;obtain⟨v,c1,c2⟩:=d;refine⟨?_,by omega,by omega⟩;cases hi with
 | none =>
  rw[y rfl];simp at t;subst t;cases lo with
  | none =>
   rw[u rfl];simp at g;subst g;simp[qL]
  | some x =>
   obtain⟨c,rfl,d⟩:=h1 x rfl;obtain⟨k,rfl⟩:=rh g d;simp[qL,BK,asIntOf,v,c1]
 | some z =>
  obtain⟨c,rfl,d⟩:=B z rfl;obtain⟨k,rfl⟩:=rh t d;have g1:b≤(cap:Int):=by omega
  have g2:0≤b:=by omega
  cases lo with
  | none =>
   rw[u rfl];simp at g;subst g;simp[qL,BK,asIntOf,g1,g2]
  | some x =>
   obtain⟨c,rfl,d⟩:=h1 x rfl;obtain⟨k',rfl⟩:=rh g d;have g4:¬ (max b 0<a):=by omega
   simp[qL,BK,asIntOf,g1,g2,v,g4]
theorem Jl{E:Env}{k:Nat}{rows:List (List AV)}{b o:Nat}(h:cz E k rows b o)(l n:Nat) :
  cz E k ((rows.drop l).take n) b (o+l*k):=by
 rw[lH]at *;intro i r hi;rw[nA]at hi;split at hi
 ·rw [qK] at hi
  have:=h (l+i) r hi
  rwa [fH,←pe]at this
 ·cases hi
def nR(E:Env):Option AV→Option Value→Prop
 |none,none=>True
 |some x,some c=>rel E x c
 |_,_=>False
theorem Cf{E:Env}{lo:Option AV}{clo:Option Value}(h:nR E lo clo):(∀ x,lo=some x→∃ c,clo=some c∧rel E x c)∧(lo=none→clo=none):=by
 cases lo<;>cases clo<;>simp_all[nR]
theorem Jm{E:Env}{w l h cap:Nat}{rows:List (List AV)}{base:Option Addr}(g:ff rows)(hle:rows.length≤cap)(h1:l≤h)(q:h≤rows.length)
  (t:rows=[]∨∃ b o,base=some ⟨b,o,none⟩∧E.ig b∧cz E w rows b o) :
  rel E (.list w ((rows.drop l).take (h-l))) (.slice (if cap=l then base else base.map (·.add (l*w))) (h-l) (cap-l)):=by
 simp only[rel];have hlen:((rows.drop l).take (h-l)).length=h-l:=by simp; omega
 refine⟨fun r d=>g r (qM (nC d)),_,cap-l,by rw[hlen],by rw[hlen]; omega,?_⟩;rcases Nat.eq_or_lt_of_le h1 with rfl|u
 ·left; simp
 ·right
  rcases t with rfl|⟨b,o,rfl,k,d⟩
  ·simp at q; omega
  ·refine ⟨b, o + l * w, ?_, k, Jl d l (h - l)⟩
   rw[if_neg (by omega)];simp[j8]
theorem Tj{E:Env}{w id ad off n l h:Nat}{base:Option Addr}{cap:Nat}(g:rel E (.vec w id ad off n) (.slice base n cap))(h1:l≤h)(N:h≤n) :
  rel E (.vec w id ad (off+l) (h-l)) (.slice (if cap=l then base else base.map (·.add (l*w))) (h-l) (cap-l)):=by
 simp only[rel]at g⊢;obtain⟨⟨t,M,e,hle,hb⟩,v,y⟩:=g;simp only[j0]at e;obtain⟨rfl,_,rfl⟩:=e;refine⟨⟨_,_,rfl,by omega,fun O=>?_⟩,v,fun z=>?_⟩
 ·obtain ⟨b, o, rfl⟩ := hb (by omega)
  rw[if_neg (by omega)];exact⟨b,o+l*w,by simp[j8]⟩
 ·obtain ⟨g1, g2⟩ := y z
  refine⟨fun d=>?_,fun b m d=>?_⟩
  ·obtain ⟨rfl, rfl, t, e⟩ := g1 d
   simp only[j0]at e;refine⟨by omega,by omega,?_⟩;have B:h-l=0:=by omega
   have I:cap-l=0:=by omega
   rw[B,I];exact⟨_,rfl⟩
  ·obtain ⟨R, o, J, k⟩ := g2 b m d
   simp only[j0]at k;obtain⟨rfl,_,rfl⟩:=k;refine⟨by omega,?_⟩;by_cases q:m-off=l
   ·rw [if_pos q]
    exact⟨o,fun u=>by omega,by rw[ahz]⟩
   ·rw [if_neg q]
    refine⟨o+l*w,fun u=>?_,by simp[j8,ahz]⟩;rw[J (by omega),fH]
theorem x6{P:Program}{E:Env}{len:Nat}{lo hi:Option AV}{m:AV}{clo g:Option Value}{h:Value}
  (hb:gp len lo hi=some (0,0)) (v:hi.isSome=true) (hm:j_ m=some 0)
  (h1:∀ x,lo=some x→∃ c,clo=some c∧rel E x c) (q:lo=none→clo=none)
  (y:∀ x,hi=some x→∃ c,g=some c∧rel E x c) (t:rel E m h) (cap:Nat) (w:World) :
  (qL true len cap clo g (some h)).run P w=.ok (0,0,0) w:=by
 obtain⟨k,rfl⟩:=rh hm t;obtain⟨z,rfl⟩:=tT.1 v;obtain⟨c,rfl,d⟩:=y z rfl;unfold gp at hb;split at hb
 case h_2=>cases hb
 rename_i a b B I;split at hb
 case isFalse=>cases hb
 rename_i J;simp only[aX,a8]at hb;obtain⟨k',rfl⟩:=rh I d;have ha:a=0:=by omega
 have u:b=0:=by omega
 subst ha; subst u;cases lo with
 | none =>
  rw[q rfl];simp[qL,BK,asIntOf]
 | some x =>
  obtain⟨c,rfl,d⟩:=h1 x rfl;obtain⟨M,rfl⟩:=rh B d;simp[qL,BK,asIntOf]
theorem Tk{P:Program}{E:Env}{t:TypeId}{x v:AV}{lo hi mx:Option AV}{c:Value}{clo W cmx:Option Value}
  (d:k8 P t x lo hi mx=some v) (q:rel E x c) (hlo:nR E lo clo) (hhi:nR E hi W) (hmx:nR E mx cmx) :
  ∃ u,(mo t c clo W cmx).run P E.w=.ok u E.w∧rel E v u:=by
 obtain⟨z,y⟩:=Cf hlo;obtain⟨B,I⟩:=Cf hhi;obtain⟨O,J⟩:=Cf hmx;unfold k8 at d;split at d
 ·rename_i s hk
  have hu:=pG hk;simp only[rel]at q;subst q;split at d
  ·rename_i l h hb
   cases d;rw[J rfl];obtain⟨g1,g2,g3⟩:=rk (P:=P) (E:=E) (cap:=s.size) false hb (aH _) z y B I E.w;refine⟨.string (s.extract l h),?_,by simp[rel]⟩;simp[mo,nD,Sem.a_ hu,g1]
  ·cases d
 ·rename_i e sz N w rows hk
  obtain⟨hu,ii,i1,i2,_⟩:=gH hk;have M:=q;simp only[rel]at q;obtain⟨R,base,cap,rfl,hle,U⟩:=q;split at d
  ·split at d
   ·rename_i l h hb
    split at d
    ·rename_i hw
     subst hw;cases d;rw[J rfl];obtain⟨g1,g2,g3⟩:=rk (P:=P) (E:=E) (cap:=cap) true hb hle z y B I E.w;refine⟨_,?_,Ti (Jm (cap:=cap) R hle g2 g3 U)⟩;simp[mo,nD,Sem.a_ hu,g1,Sem.run_sizeOf i1,i2]
    ·cases d
   ·cases d
  ·rename_i m
   split at d
   ·rename_i k
    cases d;obtain⟨V,rfl,hm⟩:=O m rfl;have g:=x6 (P:=P) k.2.1 k.1 k.2.2 z y B hm cap E.w;refine⟨.slice base 0 0,?_,by simp only[rel]; exact⟨base,rfl⟩⟩;simp[mo,nD,Sem.a_ hu,g,Sem.run_sizeOf i1,i2]
   ·cases d
 ·rename_i e sz N ks rows hk
  obtain⟨hu,ii,i1,i2,_⟩:=gH hk;have M:=jC.1 q;simp only[rel]at M;obtain⟨R,base,cap,rfl,hle,U⟩:=M;simp only[dv]at hle q⊢;split at d
  ·split at d
   ·rename_i l h hb
    split at d
    ·rename_i hw
     subst hw;cases d;rw[J rfl];obtain⟨g1,g2,g3⟩:=rk (P:=P) (E:=E) (cap:=cap) true hb hle z y B I E.w;have:=Jm (cap:=cap) R (by simpa using hle) g2 (by simpa using g3) U;have e:((rows.map (aK ks)).drop l).take (h-l)=((rows.drop l).take (h-l)).map (aK ks):=by rw[Se,ID]
     rw[e]at this;refine⟨_,?_,jC.2 this⟩;simp[mo,nD,Sem.a_ hu,g1,Sem.run_sizeOf i1,i2]
    ·cases d
   ·cases d
  ·rename_i m
   split at d
   ·rename_i k
    cases d;obtain⟨V,rfl,hm⟩:=O m rfl;have g:=x6 (P:=P) k.2.1 k.1 k.2.2 z y B hm cap E.w;refine⟨.slice base 0 0,?_,by simp only[rel]; exact⟨base,rfl⟩⟩;simp[mo,nD,Sem.a_ hu,g,Sem.run_sizeOf i1,i2]
   ·cases d
 ·rename_i e sz N w id ad off n hk
  obtain⟨hu,ii,i1,i2,_⟩:=gH hk;have M:=q;simp only[rel]at q;obtain⟨⟨base,cap,rfl,hle,_⟩,_,_⟩:=q;split at d
  ·split at d
   ·rename_i l h hb
    split at d
    ·rename_i hw
     subst hw;cases d;rw[J rfl];obtain⟨g1,g2,g3⟩:=rk (P:=P) (E:=E) (cap:=cap) true hb hle z y B I E.w;refine⟨_,?_,Tj M g2 g3⟩;simp[mo,nD,Sem.a_ hu,g1,Sem.run_sizeOf i1,i2]
    ·cases d
   ·cases d
  ·rename_i m
   split at d
   ·rename_i k
    cases d;obtain⟨V,rfl,hm⟩:=O m rfl;have g:=x6 (P:=P) k.2.1 k.1 k.2.2 z y B hm cap E.w;refine⟨.slice base 0 0,?_,by simp only[rel]; exact⟨base,rfl⟩⟩;simp[mo,nD,Sem.a_ hu,g,Sem.run_sizeOf i1,i2]
   ·cases d
 ·rename_i e sz N hk
  obtain⟨hu,ii,i1,i2,_⟩:=gH hk;simp only[rel]at q;obtain⟨base,rfl⟩:=q;split at d
  ·split at d
   ·rename_i hb
    cases d;obtain⟨⟨l,h⟩,hb⟩:=tT.1 hb;rw[J rfl];obtain⟨g1,g2,g3⟩:=rk (P:=P) (E:=E) (cap:=0) true hb (aH _) z y B I E.w;have:h=0:=by omega
    subst this;have:l=0:=by omega
    subst this;refine⟨.slice base 0 0,?_,by simp only[rel]; exact⟨base,rfl⟩⟩;simp[mo,nD,Sem.a_ hu,g1,Sem.run_sizeOf i1,i2]
   ·cases d
  ·cases d
 ·rename_i e sz N hk
  obtain⟨hu,ii,i1,i2,_⟩:=gH hk;simp only[rel]at q;subst q;split at d
  ·split at d
   ·rename_i hb
    cases d;obtain⟨⟨l,h⟩,hb⟩:=tT.1 hb;rw[J rfl];obtain⟨g1,g2,g3⟩:=rk (P:=P) (E:=E) (cap:=0) true hb (aH _) z y B I E.w;have:h=0:=by omega
    subst this;have:l=0:=by omega
    subst this;refine⟨.slice none 0 0,?_,by simp only[rel]⟩;simp[mo,nD,Sem.a_ hu,g1,Sem.run_sizeOf i1,i2]
   ·cases d
  ·rename_i m
   split at d
   ·rename_i k
    cases d;obtain⟨V,rfl,hm⟩:=O m rfl;have g:=x6 (P:=P) k.2.1 k.1 k.2.2 z y B hm 0 E.w;refine⟨.slice none 0 0,?_,by simp only[rel]⟩;simp[mo,nD,Sem.a_ hu,g,Sem.run_sizeOf i1,i2]
   ·cases d
 ·cases d
end Go.AL

namespace Go.AL
open Go
variable [Dr]
def kindOk:SK→Value→Bool
 |.int k,.int k' _=>k=k'
 |.str,.string _=>true
 |.bool,.bool _=>true
 |_,_=>false
def nS:Value→Value→Bool
 |.int _ a,.int _ b=>a==b
 |.string a,.string b=>a.toList==b.toList
 |.bool a,.bool b=>a==b
 |_,_=>false
def dz:List Value→List Value→Bool
 | [],[]=>true
 |a::as,b::d=>nS a b&&dz as d
 |_,_=>false
def cA:List SK→List Value→Bool
 | [],[]=>true
 |k::ks,v::vs=>kindOk k v&&cA ks vs
 |_,_=>false
def rm(P:Program)(f:TypeId→Option (List SK)):List Field→Nat→Option (List SK)
 | [],_=>some []
 | x::d,off=>if x.name = "_" ∨ x.offset≠off then none else
  match f x.type,gG P x.type with
  |some ks,some (n,_)=>if n=ks.length then (match rm P f d (off+n)with|some l=>some (ks++l)|none=>none) else none
  |_,_=>none
def flatK(P:Program):Nat→TypeId→Option (List SK)
 |0,_=>none
 | d+1,t=>match P.underlying t with
  |some (.int k)=>some [.int k]
  |some .string=>some [.str]
  |some .bool=>some [.bool]
  |some (.struct g)=>if P.stoodInHeld t then none else rm P (fun t=>flatK P d t) g.toList 0
  |_=>none
abbrev uo(P:Program)(d:Nat)(g:List Field)(off:Nat):Option (List SK):=rm P (fun t=>flatK P d t) g off
theorem Jn:∀(a b c d:List Value),a.length=c.length→dz (a++b) (c++d)=(dz a c&&dz b d)
 | [],b,[],d,_=>by simp[dz]
 | x::a,b,y::c,d,h=>by
  simp only[kO,dz,Jn a b c d (by simpa using h),ahA]
 | [],_,_::_,_,h=>by simp at h
 |_::_,_,[],_,h=>by simp at h
theorem rq:∀{ks:List SK} {vs:List Value},cA ks vs=true→ks.length=vs.length
 | [],[],_=>rfl
 |_::ks,_::vs,h=>by simp only[cA,ar]at h; simp[rq h.2]
 | [],_::_,h=>by simp[cA]at h
 |_::_,[],h=>by simp[cA]at h
theorem x7:∀{a b:List SK} {vs:List Value},cA (a++b) vs=true→cA a (vs.take a.length)=true∧cA b (vs.drop a.length)=true
 | [],b,vs,h=>by simpa[cA]using h
 |k::a,b,[],h=>by simp[cA]at h
 | k::a,b,v::vs,h=>by
  simp only[kO,cA,ar]at h;have:=x7 h.2;simp only[cw,BI,cA,ar,Sf];exact⟨⟨h.1,this.1⟩,this.2⟩
def isVal(P:Program)(t:TypeId)(x:Value)(vs:List Value):Prop :=
 match P.underlying t with
 |some (.struct _)=>∃ a:Array Value,x=.agg a∧a.toList=vs
 |_=>vs=[x]
theorem Cg{P:Program}{t:TypeId}{n:Nat}{agg:Bool}{ks:List SK}{d:Nat}(u:gG P t=some (n,agg))(hk:flatK P d t=some ks)(h:n=ks.length)
  (cs:Array Value) (off:Nat) (q:cA ks ((cs.toList.drop off).take n)=true) (w:World) :
  ∃ x,(part t cs off).run P w=.ok x w∧isVal P t x ((cs.toList.drop off).take n):=by
 obtain⟨i,d',h1,g,v,y⟩:=lK u;cases d with
 |zero=>simp[flatK]at hk
 | succ d =>
  unfold flatK at hk;rw[g]at hk;have hlen:=rq q;cases d' with
  | struct z =>
   refine⟨.agg (cs.extract off (off+n)),?_,?_⟩
   ·simp[part,Sem.nQ g,pF,Sem.run_sizeOf h1,v]
   ·simp only [isVal, g]
    refine⟨_,rfl,?_⟩;simp
  | int k =>
   simp at hk;subst hk;simp at h;subst h;have:off<cs.size:=by simp at hlen; omega
   refine⟨cs[off],?_,?_⟩
   ·simp[part,Sem.nQ g,pF,this]
   ·simp[isVal,g,Sg,this]
  | string =>
   simp at hk;subst hk;simp at h;subst h;have:off<cs.size:=by simp at hlen; omega
   refine⟨cs[off],?_,?_⟩
   ·simp[part,Sem.nQ g,pF,this]
   ·simp[isVal,g,Sg,this]
  | bool =>
   simp at hk;subst hk;simp at h;subst h;have:off<cs.size:=by simp at hlen; omega
   refine⟨cs[off],?_,?_⟩
   ·simp[part,Sem.nQ g,pF,this]
   ·simp[isVal,g,Sg,this]
  |_=>simp at hk
theorem Tl{P:Program}{t:TypeId}{d:Array Field}(h:P.underlying t=some (.struct d)):P.underlying t=some (.struct (P.fieldsOf t)):=by
 simp[ahB,h]
mutual
theorem Ch{P:Program}:∀(d:Nat) (t:TypeId) (ks:List SK),flatK P d t=some ks→∀(D:Nat),d≤D→∀(x y:Value) (vs us:List Value),
  isVal P t x vs→isVal P t y us→cA ks vs=true→cA ks us=true→∀ w,(jx D t x y).run P w=.ok (dz vs us) w
 |0,_,_,hk=>by simp[flatK]at hk
 | d+1,t,ks,hk=>by
  intro D hD x y vs us q u g h w;obtain⟨D,rfl⟩:∃ z,D=z+1:=⟨D-1,by omega⟩
  unfold flatK at hk;cases hu:P.underlying t with
  |none=>rw[hu]at hk; cases hk
  | some B =>
   rw[hu]at hk;cases B with
   | struct v =>
    simp only[]at hk;split at hk
    ·cases hk
    rename_i I;simp only[isVal,hu]at q u;obtain⟨a,rfl,rfl⟩:=q;obtain⟨b,rfl,rfl⟩:=u;have J:P.fieldsOf t=v:=by simp[ahB,hu]
    rw[run_equalIn_struct w D t a b (Tl hu) (by simpa using I),J];have:=Jo d v.toList 0 ks hk D (by omega) a b (by simpa using g) (by simpa using h) w;simpa using this
   | int k =>
    simp at hk;subst hk;simp only[isVal,hu]at q u;subst q; subst u;simp only[cA,fG]at g h;unfold kindOk at g h;split at g<;>split at h<;>simp_all[jx,dz,nS,Sem.a_ hu]
   | string =>
    simp at hk;subst hk;simp only[isVal,hu]at q u;subst q; subst u;simp only[cA,fG]at g h;unfold kindOk at g h;split at g<;>split at h<;>simp_all[jx,dz,nS,Sem.a_ hu,beq_toListBytes]
   | bool =>
    simp at hk;subst hk;simp only[isVal,hu]at q u;subst q; subst u;simp only[cA,fG]at g h;unfold kindOk at g h;split at g<;>split at h<;>simp_all[jx,dz,nS,Sem.a_ hu]
   |_=>simp at hk
theorem Jo{P:Program}:∀(d:Nat) (t:List Field) (off:Nat) (ks:List SK),uo P d t off=some ks→∀(D:Nat),d≤D→∀(xs g:Array Value),
  cA ks (xs.toList.drop off)=true→cA ks (g.toList.drop off)=true→∀ w,(Si D xs g t).run P w=.ok (dz (xs.toList.drop off) (g.toList.drop off)) w
 | d,[],off,ks,hk=>by
  intro D hD xs g B I w;simp[uo,rm]at hk;subst hk;have h1:=rq B;have V:=rq I;have h:xs.toList.drop off=[]:=nE (by rw[←h1]; rfl);have u:g.toList.drop off=[]:=nE (by rw[←V]; rfl);rw[h,u];simp[Si,dz]
 | d,f::t,off,ks,hk=>by
  intro D hD xs g B I w;unfold uo rm at hk;split at hk
  ·cases hk
  rename_i M;split at hk
  case h_2=>cases hk
  rename_i W n ag h u;split at hk
  case isFalse=>cases hk
  rename_i J;split at hk
  case h_2=>cases hk
  rename_i l e3;cases hk;have O:f.name ≠ "_" := fun e=>M (.inl e);have U:f.offset=off:=by
   by_cases e:f.offset=off
   ·exact e
   ·exact(M (.inr e)).elim
  obtain⟨k,v⟩:=x7 B;obtain⟨q,z⟩:=x7 I;rw[←J]at k v q z;obtain⟨x,px,vx⟩:=Cg u h J xs off k w;obtain⟨y,py,vy⟩:=Cg u h J g off q w;have he:=Ch d f.type W h D hD x y _ _ vx vy k q w;have R:=Jo d t (off+n) l e3 D hD xs g (by rw[ph]at v; exact v) (by rw[ph]at z; exact z) w;have N:dz (xs.toList.drop off) (g.toList.drop off) =
    (dz ((xs.toList.drop off).take n) ((g.toList.drop off).take n)&&dz (xs.toList.drop (off+n)) (g.toList.drop (off+n))):=by
   rw[←Jn _ _ _ _ (by rw[←rq k,←rq q]),←ph,←ph,qN,qN]
  simp only[Si,O,ne_eq,not_false_eq_true,if_true,bT,U,px,py,bP,he,N];cases dz ((xs.toList.drop off).take n) ((g.toList.drop off).take n)<;>simp[R]
end
def mG:List AV→Option (List Value)
 | []=>some []
 | .lit v::as=>match mG as with
  |some l=>some (v::l)
  |none=>none
 |_=>none
theorem x8{E:Env}:∀{as:List AV} {l vs:List Value},mG as=some l→ae E as vs→vs=l
 | [],l,[],h,_=>by simp[mG]at h; exact h.symm
 | [],_,_::_,_,d=>by simp[ae]at d
 |_::_,_,[],_,d=>by simp[ae]at d
 | a::as,l,v::vs,h,d=>by
  simp only[ae]at d;cases a<;>simp only[mG]at h<;>try cases h
  split at h
  ·rename_i u l' g
   cases h;have:=x8 g d.2;have h1:=d.1;simp only[rel]at h1;rw[h1,this]
  ·cases h
def mH:Option TypeDesc→Bool
 |some (.struct _)=>true
 |_=>false
def jG(op:BinOp)(b:Bool):Option AV :=
 match op with
 |.eql=>some (.bool b)
 |.neq=>some (.bool !b)
 |_=>none
def mI:Nat:=6
def Ci(P:Program)(op:BinOp)(t:TypeId)(d:Bool)(a b:Value):Option AV :=
 match a,b with
 | .bool a,.bool b=>match P.underlying t with
  |some .bool=>jG op (a==b)
  |_=>none
 | .slice none 0 0,.slice none 0 0=>match P.underlying t with
  |some (.slice _)=>jG op true
  |_=>none
 |.nilIface,.nilIface=>if d then (match P.underlying t with|some (.interface _)=>jG op true|_=>none) else none
 |_,_=>none
def jf(P:Program)(op:BinOp)(t:TypeId)(d:Bool)(x y:AV):Option AV :=
 match x,y with
 | .lit a,.lit b=>match je op a b with
  |some v=>some (.lit v)
  |none=>Ci P op t d a b
 | .agg as,.agg g=>match flatK P mI t,mG as,mG g with
  |some ks,some l,some m=>if P.eqGuardType P.depth t=false∧cA ks l=true∧cA ks m=true∧mH (P.underlying t)=true then jG op (dz l m) else none
  |_,_,_=>none
 | .emptyS n,.lit (.slice none 0 0)=>match P.underlying t with
  |some (.slice _)=>jG op n
  |_=>none
 | .listF _ rows,.lit (.slice none 0 0)=>match P.underlying t with
  |some (.slice _)=>if 0<rows.length then jG op false else none
  |_=>none
 | .vec _ _ _ _ m,.lit (.slice none 0 0)=>match P.underlying t with
  |some (.slice _)=>if 0<m then jG op false else none
  |_=>none
 | .ifc,.lit .nilIface | .lit .nilIface,.ifc=>match P.underlying t with
  |some (.interface _)=>jG op false
  |_=>none
 | .sub _ _ j,.lit (.map none)=>match P.underlying t with
  |some (.map _ _)=>jG op j.isNone
  |_=>none
 |_,_=>none
theorem Jp{P:Program}{t:Nat}{k:IntKind}(h:cr P t=.int k):P.underlying t=some (.int k):=by
 unfold cr at h;split at h
 ·split at h<;>cases h
 ·split at h<;>cases h
 ·cases h
 ·rename_i h1; cases h; exact h1
 ·cases h
 ·cases h
theorem k9{P:Program}{op:BinOp}{b:Bool}{v:AV}{t:TypeId}{x y:Operand}{c d:Value}{w:World}(h:jG op b=some v)
  (g:(eqGuard op t x y c d).run P w=.ok () w) (he:(xv t c d).run P w=.ok b w)
  (hb:∀ op,op=.eql∨op=.neq→(binOp op t c d)=(match op with | .eql=>(do pure (.bool (← xv t c d)))|_=>(do pure (.bool (!(← xv t c d)))))) :
  ∃ u,(do eqGuard op t x y c d; binOp op t c d:Sem Value).run P w=.ok u w∧∀ E,rel E v u:=by
 unfold jG at h;split at h
 ·cases h
  refine⟨.bool b,?_,fun E=>by simp[rel]⟩;simp only[bT,g,bP,hb .eql (.inl rfl)];simp[he]
 ·cases h
  refine⟨.bool !b,?_,fun E=>by simp[rel]⟩;simp only[bT,g,bP,hb .neq (.inr rfl)];simp[he]
 ·cases h
end Go.AL

namespace Go.AL
open Go
variable [Dr]
theorem lL{P:Program}{t:TypeId}{c d:Value}{b:Bool}{w:World} (h:∀ n,(jx (n+1) t c d).run P w=.ok b w) :
  (xv t c d).run P w=.ok b w:=h 9999
theorem Tm{P:Program}{op:BinOp}{t:TypeId}{x y:Operand} (h:((x matches .const _)||(y matches .const _))=true) (w:World) :
  (eqGuard op t x y .nilIface .nilIface).run P w=.ok () w:=by
 cases x<;>cases y<;>first
  |(cases op<;>rfl)
  |(simp at h; done)
theorem Tn{P:Program}{E:Env}{op:BinOp}{t:TypeId}{x y:Operand}{p q:Value}{v:AV}{k:Bool}
  (z:k=true→((x matches .const _)||(y matches .const _))=true) (h:Ci P op t k p q=some v) :
  ∃ u,(do eqGuard op t x y p q; binOp op t p q:Sem Value).run P E.w=.ok u E.w∧rel E v u:=by
 unfold Ci at h;split at h
 ·rename_i a b
  split at h
  ·rename_i hu
   obtain⟨u,h1,g⟩:=k9 (P:=P) (t:=t) (x:=x) (y:=y) (c:=.bool a) (d:=.bool b) (w:=E.w) h (by cases op<;>simp[eqGuard]<;>rfl)
    (lL fun n=>by simp[jx,Sem.a_ hu]) (by rintro op (rfl|rfl)<;>rfl)
   exact⟨u,h1,g E⟩
  ·cases h
 ·split at h
  ·rename_i hu
   obtain⟨u,h1,g⟩:=k9 (P:=P) (t:=t) (x:=x) (y:=y) (c:=.slice none 0 0) (d:=.slice none 0 0) (w:=E.w) h (by cases op<;>simp[eqGuard]<;>rfl)
    (lL fun n=>by simp[jx,Sem.a_ hu]) (by rintro op (rfl|rfl)<;>rfl)
   exact⟨u,h1,g E⟩
  ·cases h
 ·split at h
  ·rename_i B
   split at h
   ·rename_i ms hu
    obtain⟨u,h1,g⟩:=k9 (P:=P) (t:=t) (x:=x) (y:=y) (c:=.nilIface) (d:=.nilIface) (w:=E.w) h
     (Tm (z B) _)
     (lL fun n=>by simp[jx,Sem.a_ hu]) (by rintro op (rfl|rfl)<;>rfl)
    exact⟨u,h1,g E⟩
   ·cases h
  ·cases h
 ·cases h
theorem To{P:Program}{E:Env}{op:BinOp}{t:TypeId}{x y:Operand}{a b v:AV}{c d:Value}
  {R:Bool} (U:R=true→((x matches .const _)||(y matches .const _))=true) (h:jf P op t R a b=some v) (g:rel E a c) (k:rel E b d) :
  ∃ u,(do eqGuard op t x y c d; binOp op t c d:Sem Value).run P E.w=.ok u E.w∧rel E v u:=by
 unfold jf at h;split at h
 ·rename_i p q
  simp only[rel]at g k;rw[g,k];clear g k c d;split at h
  ·rename_i u hu
   cases h;refine⟨u,?_,by simp[rel]⟩;simp only[bT];rw[Td op t x y p q (fun _ _=>trivial) (by simp[hu])];simp only[bP];exact Tc op t p q u hu E.w
  ·exact Tn U h
 ·rename_i as bs
  split at h
  case h_2=>cases h
  rename_i ks l m h1 z V;by_cases J:P.eqGuardType P.depth t=false∧cA ks l=true∧cA ks m=true∧mH (P.underlying t)=true
  case neg=>rw[if_neg J]at h; cases h
  rw[if_pos J]at h;obtain⟨g1,g2,g3,g4⟩:=J;simp only[rel]at g k;obtain⟨xs,rfl,_,g⟩:=g;obtain⟨B,rfl,_,k⟩:=k;have ex:=x8 z g;have W:=x8 V k;unfold mH at g4;split at g4
  case h_2=>cases g4
  rename_i fs hu;have:=Ch mI t ks h1 10000 (by decide) (.agg xs) (.agg B) l m (by simp only[isVal,hu]; exact⟨xs,rfl,ex⟩)
   (by simp only[isVal,hu]; exact⟨B,rfl,W⟩) g2 g3 E.w
  obtain⟨u,q1,q2⟩:=k9 (P:=P) (t:=t) (x:=x) (y:=y) (c:=.agg xs) (d:=.agg B) (w:=E.w) h (run_eqGuard_agg E.w op t x y xs B g1)
   (by simpa[xv,Op.maxDepth]using this) (by rintro op (rfl|rfl)<;>rfl)
  exact⟨u,q1,q2 E⟩
 ·simp only [rel] at g k
  subst k;obtain⟨b,cap,rfl,hb⟩:=g;split at h
  ·rename_i el hu
   obtain⟨u,h1,z⟩:=k9 (P:=P) (t:=t) (x:=x) (y:=y) (c:=.slice b 0 cap) (d:=.slice none 0 0) (w:=E.w) h (by cases op<;>simp[eqGuard]<;>rfl)
    (lL fun n=>by cases b<;>simp[jx,Sem.a_ hu]<;>simpa using hb.symm) (by rintro op (rfl|rfl)<;>rfl)
   exact⟨u,h1,z E⟩
  ·cases h
 ·rename_i ks rows
  simp only[rel,dG,G.rows]at g k;subst k;obtain⟨b,cap,rfl,_,hb⟩:=g;split at h
  ·rename_i el hu
   split at h
   ·rename_i I
    rcases hb with rfl|⟨M,o',rfl,_⟩
    ·simp at I
    obtain⟨u,h1,z⟩:=k9 (P:=P) (t:=t) (x:=x) (y:=y) (c:=.slice (some ⟨M,o',none⟩) rows.length cap) (d:=.slice none 0 0) (w:=E.w) h (by cases op<;>simp[eqGuard]<;>rfl)
     (lL fun n=>by simp[jx,Sem.a_ hu]) (by rintro op (rfl|rfl)<;>rfl)
    exact⟨u,h1,z E⟩
   ·cases h
  ·cases h
 ·rename_i m
  simp only[rel]at g k;subst k;obtain⟨⟨b,cap,rfl,_,hb⟩,_⟩:=g;split at h
  ·rename_i el hu
   split at h
   ·rename_i I
    obtain⟨M,o',rfl⟩:=hb I;obtain⟨u,h1,z⟩:=k9 (P:=P) (t:=t) (x:=x) (y:=y) (c:=.slice (some ⟨M,o',none⟩) m cap) (d:=.slice none 0 0) (w:=E.w) h (by cases op<;>simp[eqGuard]<;>rfl)
     (lL fun n=>by simp[jx,Sem.a_ hu]) (by rintro op (rfl|rfl)<;>rfl)
    exact⟨u,h1,z E⟩
   ·cases h
  ·cases h
 ·simp only [rel] at g k
  subst k;obtain⟨N,O,rfl⟩:=g;split at h
  ·rename_i ms hu
   obtain⟨u,h1,z⟩:=k9 (P:=P) (t:=t) (x:=x) (y:=y) (c:=.iface N O) (d:=.nilIface) (w:=E.w) h (by cases op<;>simp[eqGuard]<;>rfl)
    (lL fun n=>by simp[jx,Sem.a_ hu]) (by rintro op (rfl|rfl)<;>rfl)
   exact⟨u,h1,z E⟩
  ·cases h
 ·simp only [rel] at g k
  subst g;obtain⟨N,O,rfl⟩:=k;split at h
  ·rename_i ms hu
   obtain⟨u,h1,z⟩:=k9 (P:=P) (t:=t) (x:=x) (y:=y) (c:=.nilIface) (d:=.iface N O) (w:=E.w) h (by cases op<;>simp[eqGuard]<;>rfl)
    (lL fun n=>by simp[jx,Sem.a_ hu]) (by rintro op (rfl|rfl)<;>rfl)
   exact⟨u,h1,z E⟩
  ·cases h
 ·rename_i id l jj
  simp only[rel]at g k;subst k;split at h
  ·rename_i kt el hu
   rcases g with⟨rfl,rfl⟩|⟨i,rfl,⟨b,rfl⟩,_⟩
   ·obtain ⟨u,h1,z⟩:=k9 (P:=P) (t:=t) (x:=x) (y:=y) (c:=.map none) (d:=.map none) (w:=E.w) h (by cases op<;>simp [eqGuard]<;>rfl)
     (lL fun n=>by simp[jx,Sem.a_ hu]) (by rintro op (rfl|rfl)<;>rfl)
    exact⟨u,h1,z E⟩
   ·obtain ⟨u,h1,z⟩:=k9 (P:=P) (t:=t) (x:=x) (y:=y) (c:=.map (some b)) (d:=.map none) (w:=E.w) h (by cases op<;>simp [eqGuard]<;>rfl)
     (lL fun n=>by simp[jx,Sem.a_ hu]) (by rintro op (rfl|rfl)<;>rfl)
    exact⟨u,h1,z E⟩
  ·cases h
 ·cases h
def rr(op:UnOp)(x:AV):Option AV :=
 match op,x with
 |.not,.lit (.bool b)=>some (.bool !b)
 |.neg,.lit (.int k n)=>some (.lit (.int k (k.wrap (0-n))))
 |_,_=>none
theorem Tp{P:Program}{E:Env}{op:UnOp}{x v:AV}{c:Value}(h:rr op x=some v)(d:rel E x c) :
  ∃ u,(Op.unary op c).run P E.w=.ok u E.w∧rel E v u:=by
 unfold rr at h;split at h
 ·cases h
  simp only[rel]at d;subst d;exact⟨_,rfl,by simp[rel]⟩
 ·cases h
  simp only[rel]at d;subst d;exact⟨_,rfl,by simp[rel]⟩
 ·cases h
def ru(P:Program)(s d:TypeId)(x:AV):Option AV :=
 match P.underlying s,cr P d,x with
 |some _,.int k,.lit (.int _ n)=>some (.lit (.int k (k.wrap n)))
 |some _,.str,.lit (.string b)=>some (.str b)
 |some _,.str,.lit (.int _ n)=>some (.str (Utf8.encode n))
 |_,_,_=>none
theorem Tq{P:Program}{E:Env}{s d:TypeId}{x v:AV}{c:Value}(h:ru P s d x=some v)(g:rel E x c) :
  ∃ u,(convert s d c).run P E.w=.ok u E.w∧rel E v u:=by
 unfold ru at h;split at h
 ·rename_i k n q t
  cases h;simp only[rel]at g;subst g;refine⟨_,?_,by simp only[rel]; rfl⟩;simp[convert,Sem.a_ q,Sem.a_ (Jp t),Conv.intToInt]
 ·rename_i b q t
  cases h;simp only[rel]at g;subst g;refine⟨_,?_,by simp only[rel]; rfl⟩;simp only[convert,bT,Sem.a_ q,Sem.a_ (pG t),bP];rfl
 ·rename_i k n q t
  cases h;simp only[rel]at g;subst g;refine⟨_,?_,by simp only[rel]; rfl⟩;simp only[convert,bT,Sem.a_ q,Sem.a_ (pG t),bP];rfl
 ·cases h
def nT(k:SK)(x i:AV):Option AV :=
 match i with
 | .lit (.int _ n) =>
  match k,x with
  |.str,.lit (.string s)=>if 0≤n∧n<s.size then (match s[n.toNat]? with|some b=>some (.lit (.int .u8 b.toNat))|none=>none) else none
  |.array m _ sz agg,.agg cells=>if 0≤n∧n<m then jF agg sz (cells.drop (n.toNat*sz)) else none
  |_,_=>none
 |_=>none
theorem Cj{E:Env}:∀{as:List AV} {vs:List Value} (n:Nat),ae E as vs→ae E (as.drop n) (vs.drop n)
 |_,_,0,h=>by simpa using h
 | [],[],n+1,_=>by simp[ae]
 | [],_::_,_,h=>by simp[ae]at h
 |_::_,[],_,h=>by simp[ae]at h
 |a::as,v::vs,n+1,h=>by simp only[ae]at h; simpa using Cj n h.2
theorem Ck{E:Env}:∀{as:List AV} {vs:List Value} (n:Nat),ae E as vs→ae E (as.take n) (vs.take n)
 |_,_,0,_=>by simp[ae]
 | [],[],n+1,_=>by simp[ae]
 | [],_::_,_,h=>by simp[ae]at h
 |_::_,[],_,h=>by simp[ae]at h
 |a::as,v::vs,n+1,h=>by simp only[ae]at h; simp only[BI,ae]; exact⟨h.1,Ck n h.2⟩
theorem mJ{E:Env}:∀{as d:List AV} {vs us:List Value},ae E as vs→ae E d us→ae E (as++d) (vs++us)
 | [],_,[],_,_,h=>by simpa using h
 | [],_,_::_,_,h,_=>by simp[ae]at h
 |_::_,_,[],_,h,_=>by simp[ae]at h
 |a::as,d,v::vs,us,h,h'=>by simp only[ae]at h; simp only[kO,ae]; exact⟨h.1,mJ h.2 h'⟩
theorem mL{E:Env}{as:List AV}{vs:List Value}(h:ae E as vs){i:Nat}{a:AV}(hi:as[i]? = some a):∃ v,vs[i]? = some v∧rel E a v:=by
 obtain⟨h1,k⟩:=mC.1 h;have g:=aL hi;have d:i<vs.length:=h1▸g;exact⟨vs[i],bd d,k i a _ hi (bd d)⟩
theorem Jq{P:Program}{E:Env}{t:TypeId}{n:Nat}{agg:Bool}{cells:List AV}{cs:Array Value}{off:Nat}{v:AV}(y:gG P t=some (n,agg))
  (h:jF agg n (cells.drop off)=some v) (g:ae E cells cs.toList) (h1:∀ x∈cs.toList,dw x=true) :
  ∃ u,(part t cs off).run P E.w=.ok u E.w∧rel E v u:=by
 obtain⟨i,d,hi,k,z,ha⟩:=lK y;unfold jF at h;cases agg with
 | true =>
  simp only[if_true]at h;split at h
  ·cases h
   refine⟨.agg (cs.extract off (off+n)),?_,?_⟩
   ·simp[part,Sem.nQ k,ha,Sem.run_sizeOf hi,z]
   ·simp only [rel]
    have e:(cs.extract off (off+n)).toList=(cs.toList.drop off).take n:=by simp
    refine⟨_,rfl,?_,?_⟩
    ·rw[e]; exact fun x B=>h1 x (qM (nC B))
    ·rw[e]; exact Ck n (Cj off g)
  ·cases h
 | false =>
  simp only[lD,if_false]at h;rw[qK]at h;obtain⟨u,g1,g2⟩:=mL g h;refine⟨u,?_,g2⟩;have q:cs[off]? = some u:=by simpa using g1
  simp[part,Sem.nQ k,ha,q]
theorem Tr{P:Program}{E:Env}{t:TypeId}{x i v:AV}{c d:Value}(h:nT (cr P t) x i=some v)(g:rel E x c)(hi:rel E i d) :
  ∃ u,(Sj t c d).run P E.w=.ok u E.w∧rel E v u:=by
 unfold nT at h;split at h
 case h_2=>cases h
 rename_i k n;simp only[rel]at hi;subst hi;split at h
 ·rename_i s hk
  have hu:=pG hk;simp only[rel]at g;subst g;split at h
  case isFalse=>cases h
  rename_i q;split at h
  case h_2=>cases h
  rename_i b hb;cases h;refine⟨.int .u8 b.toNat,?_,by simp[rel]⟩;simp[Sj,asIntOf,Sem.a_ hu,q.1,hb]
 ·rename_i m e sz agg cells hk
  obtain⟨hu,y⟩:=x4 hk;obtain⟨ii,J,g1,g2,g3,g4⟩:=lK y;split at h
  case isFalse=>cases h
  rename_i q;simp only[rel]at g;obtain⟨cs,rfl,h1,z⟩:=g;obtain⟨u,B,I⟩:=Jq y h z h1;refine⟨u,?_,I⟩;simp[Sj,asIntOf,Sem.a_ hu,q.1,q.2,Sem.run_sizeOf g1,g3,B]
 ·cases h
def Cl(k:FK)(x:AV):Option AV :=
 match x with
 |.agg cells=>jF k.agg k.size (cells.drop k.off)
 |_=>none
theorem Ts{P:Program}{E:Env}{t:TypeId}{f:Nat}{k:FK}{x v:AV}{c:Value}(hk:ra P t f=some k)(h:Cl k x=some v)(d:rel E x c) :
  ∃ u,(ahC t c f).run P E.w=.ok u E.w∧rel E v u:=by
 obtain⟨I,fd,h1,g,q,y⟩:=Ji hk;unfold Cl at h;split at h
 ·simp only [rel] at d
  obtain⟨cs,rfl,g1,g2⟩:=d;obtain⟨u,z,B⟩:=Jq y h g2 g1;refine⟨u,?_,B⟩;simp[ahC,Sem.a_ h1,g,asAgg,q,z]
 ·cases h
end Go.AL

namespace Go.AL
open Go
variable [Dr]
def pH:AV→Option (List AV)
 |.undef | .tuple _=>none
 |.agg cs=>some cs
 |.lit v=>if dw v then some [.lit v] else none
 |x=>some [x]
theorem Cm{E:Env}{x:AV}{cs:List AV}{c:Value}(h:pH x=some cs)(d:rel E x c) :
  ae E cs c.cells.toList∧∀ y∈c.cells.toList,dw y=true:=by
 unfold pH at h;split at h
 ·cases h
 ·cases h
 ·cases h
  simp only[rel]at d;obtain⟨a,rfl,h1,g⟩:=d;exact⟨g,h1⟩
 ·rename_i v
  split at h
  ·rename_i h1
   cases h;have z:=d;simp only[rel]at d;subst d;cases c<;>simp[dw]at h1<;>exact⟨by simp[IE,ae,rel],by simp[IE,dw]⟩
  ·cases h
 ·rename_i h1 g q u
  cases h;have k:dw c=true∧c.cells=#[c]:=by
   cases x<;>simp only[rel]at d
   case sub=>rcases d with⟨_,rfl⟩|⟨_,_,⟨b,rfl⟩,_⟩<;>exact⟨rfl,rfl⟩
   case undef=>exact(h1 rfl).elim
   case lit v=>exact(u v rfl).elim
   case nils=>obtain⟨b,rfl⟩:=d; exact⟨rfl,rfl⟩
   case list=>obtain⟨_,b,cap,rfl,_⟩:=d; exact⟨rfl,rfl⟩
   case listF=>simp only[dG]at d; obtain⟨b,cap,rfl,_⟩:=d; exact⟨rfl,rfl⟩
   case agg as=>exact(q as rfl).elim
   case tuple as=>exact(g as rfl).elim
   case cptr=>obtain⟨_,b,o,rfl,_⟩:=d; exact⟨rfl,rfl⟩
   case ptr=>obtain⟨⟨b,o,rfl⟩,_⟩:=d; exact⟨rfl,rfl⟩
   case vec=>obtain⟨⟨b,o,rfl,_⟩,_⟩:=d; exact⟨rfl,rfl⟩
   case map=>obtain⟨⟨b,rfl⟩,_⟩:=d; exact⟨rfl,rfl⟩
   case clo=>obtain⟨cs,rfl,_⟩:=d; exact⟨rfl,rfl⟩
   case ifc=>obtain⟨t,v,rfl⟩:=d; exact⟨rfl,rfl⟩
   case emptyS=>obtain⟨b,cap,rfl,_⟩:=d; exact⟨rfl,rfl⟩
  rw[k.2];exact⟨by simp only[ae]; exact⟨d,trivial⟩,by simpa using k.1⟩
def pI(place:Nat→Option (Nat × Nat))(cells:List AV):List (Nat × AV)→Option (List AV)
 | []=>some cells
 | (i,v)::rest=>match place i,pH v with
  |some (off,size),some cs=>if cs.length=size∧off+cs.length≤cells.length then pI place (cells.take off++cs++cells.drop (off+cs.length)) rest else none
  |_,_=>none
theorem Jr(cs:Array Value):∀(l:List Value) (off k:Nat) (cells:Array Value),off+k+l.length≤cells.size →
  (l.zipIdx k).foldl (fun cs (p : Value × Nat) => cs.setIfInBounds (off + p.2) p.1) cells =
   (cells.toList.take (off+k)++l++cells.toList.drop (off+k+l.length)).toArray
 | [],off,k,cells,_=>by simp
 | v::l,off,k,cells,h=>by
  simp only[List.zipIdx_cons,List.foldl_cons];have h':off+(k+1)+l.length≤(cells.setIfInBounds (off+k) v).size:=by simp at h⊢; omega
  rw[Jr cs l off (k+1) _ h'];congr 1;apply kP;intro i;simp only[Array.toList_setIfInBounds,fb,jy,kQ,nA,qK,dS,dV,cw,lE];simp at h;by_cases c1:i<off+k
  ·have d : i < min (off + k) cells.size := by omega
   have g:i<min (off+(k+1)) cells.size:=by omega
   have y:¬ off+k=i:=by omega
   have t:i<off+(k+1):=by omega
   have q:i<min (off+k) cells.size+(l.length+1):=by omega
   have u:i<min (off+(k+1)) cells.size+l.length:=by omega
   simp[d,g,y,t,q,u,c1]
  ·by_cases c2 : i = off + k
   ·subst c2
    have d:¬ off+k<min (off+k) cells.size:=by omega
    have g:off+k<min (off+(k+1)) cells.size:=by omega
    have t:off+k<off+(k+1):=by omega
    have q:off+k<min (off+k) cells.size+(l.length+1):=by omega
    have u:off+k<min (off+(k+1)) cells.size+l.length:=by omega
    have z:off+k-min (off+k) cells.size=0:=by omega
    have B:off+k<cells.size:=by omega
    simp[d,g,t,q,u,z,B]
   ·by_cases c3 : i < off + k + 1 + l.length
    ·have d : ¬ i < min (off + k) cells.size := by omega
     have g:¬ i<min (off+(k+1)) cells.size:=by omega
     have q:i<min (off+k) cells.size+(l.length+1):=by omega
     have u:i<min (off+(k+1)) cells.size+l.length:=by omega
     have z:i-min (off+k) cells.size=(i-min (off+(k+1)) cells.size)+1:=by omega
     simp[d,g,q,u,z]
    ·have d : ¬ i < min (off + k) cells.size + (l.length + 1) := by omega
     have g:¬ i<min (off+(k+1)) cells.size+l.length:=by omega
     have y:off+k+(l.length+1)+(i-(min (off+k) cells.size+(l.length+1)))=i:=by omega
     have t:off+(k+1)+l.length+(i-(min (off+(k+1)) cells.size+l.length))=i:=by omega
     have q:¬ off+k=i:=by omega
     simp[d,g,y,t,q]
theorem uq{E:Env}{place:Nat→Option (Nat × Nat)}:∀{parts:List (Nat × AV)} {cparts:List (Nat × Value)} {cells:List AV} {cs:Array Value} {out:List AV},
  pI place cells parts=some out→ae E cells cs.toList→(∀ x∈cs.toList,dw x=true) →
  parts.map (·.1)=cparts.map (·.1)→ae E (parts.map (·.2)) (cparts.map (·.2)) →
  ∃ o,ahD place cs cparts=some o∧ae E out o.toList∧∀ x∈o.toList,dw x=true
 | [],[],cells,cs,out,h,g,h1,_,_=>by
  simp only[pI,aX]at h;subst h;exact⟨cs,rfl,g,h1⟩
 | [],_::_,_,_,_,_,_,_,hm,_=>by simp at hm
 |_::_,[],_,_,_,_,_,_,hm,_=>by simp at hm
 | (i,v)::ps,(j,c)::J,cells,cs,out,h,g,h1,hm,k=>by
  simp only[cY,IF]at hm;obtain⟨rfl,hm⟩:=hm;simp only[cY,ae]at k;simp only[pI]at h;split at h
  case h_2=>cases h
  rename_i off size us y z;split at h
  case isFalse=>cases h
  rename_i B;obtain⟨g1,g2⟩:=Cm z k.1;have t:=jd g1;have u:=jd g;have M:us.length=c.cells.size:=by simpa using t
  have I:cells.length=cs.size:=by simpa using u
  have q:(c.cells.zipIdx.foldl (fun cs (x:Value × Nat)=>cs.setIfInBounds (off+x.2) x.1) cs) =
    (cs.toList.take off++c.cells.toList++cs.toList.drop (off+c.cells.toList.length)).toArray:=by
   rw[←Array.foldl_toList,Array.toList_zipIdx];have:=Jr cs c.cells.toList off 0 cs (by simp; omega);simpa using this
  simp only[ahD,y];rw[if_neg (by simp; omega)];refine uq (cells:=cells.take off++us++cells.drop (off+us.length)) h ?_ ?_ hm k.2
  ·rw [q]
   simp only[];refine mJ (mJ (Ck off g) g1) ?_;rw[t];exact Cj _ g
  ·rw [q]
   intro x d;simp only[cG]at d;rcases d with(d|d)|d
   ·exact h1 x (nC d)
   ·exact g2 x d
   ·exact h1 x (qM d)
def Js(P:Program)(t:TypeId):Option (List (Nat × Nat)) :=
 match P.underlying t with
 |some (.struct d)=>d.toList.mapM fun fd=>(gG P fd.type).map fun p=>(fd.offset,p.1)
 |_=>none
theorem lM{P:Program}{t:TypeId}{z:List Value}(h:dZ P t=some z) :
  ∃ i v,P.info? t=some i∧i.zero=some v∧v.cells.toList=z∧∀ x∈z,dw x=true:=by
 unfold dZ at h;split at h
 ·rename_i i hi
  split at h
  ·rename_i v d
   split at h
   ·rename_i g
    cases h;exact⟨i,v,hi,d,rfl,bO.1 g⟩
   ·cases h
  ·cases h
 ·cases h
theorem lN{P:Program}{t:TypeId}{i:TypeInfo}{v:Value}(hi:P.info? t=some i)(d:i.zero=some v)(w:World):(zeroValue t).run P w=.ok v w:=by
 simp[zeroValue,typeInfo,hi,d]
theorem Jt{P:Program}{w:World}:∀(g:List Field) (pl:List (Nat × Nat)),(g.mapM fun fd=>(gG P fd.type).map fun p=>(fd.offset,p.1))=some pl →
  (g.mapM fun(f:Field)=>(do pure (f.offset,←sizeOf f.type):Sem (Nat × Nat))).run P w=.ok pl w
 | [],pl,h=>by simp at h; subst h; simp
 | f::g,pl,h=>by
  simp only[Sk,Option.bind_eq_bind,Option.pure_def,Option.bind_eq_some_iff,dR]at h;obtain⟨x,⟨⟨n,a⟩,h1,rfl⟩,l,k,q⟩:=h;cases q;obtain⟨i,d,g1,g2,g3,g4⟩:=lK h1;have:=Jt (w:=w) g l k;simp only[Sk,bT,Sem.run_sizeOf g1,bP,fc,g3];rw[this];rfl
def Cn(P:Program)(t:TypeId)(parts:List (Nat × AV)):Option AV :=
 match dZ P t with
 | some z=>match Js P t with
  |some pl=>(pI (fun i=>pl[i]?) (z.map .lit) parts).map .agg
  | none=>match cr P t with
   |.array _ _ sz _=>(pI (fun i=>some (i*sz,sz)) (z.map .lit) parts).map .agg
   |_=>none
 |none=>none
theorem Tt{P:Program}{E:Env}{t:TypeId}{parts:List (Nat × AV)}{cparts:List (Nat × Value)}{v:AV}(h:Cn P t parts=some v)
  (hm:parts.map (·.1)=cparts.map (·.1)) (g:ae E (parts.map (·.2)) (cparts.map (·.2))) :
  ∃ u,(Sl t cparts.toArray).run P E.w=.ok u E.w∧rel E v u:=by
 unfold Cn at h;split at h
 case h_2=>cases h
 rename_i z J;obtain⟨i,k,q,z2,z3,z4⟩:=lM J;split at h
 ·rename_i pl d
  unfold Js at d;split at d
  case h_2=>cases d
  rename_i y hu;simp only[dR]at h;obtain⟨out,ho,rfl⟩:=h;obtain⟨o,g1,g2,g3⟩:=uq (cs:=k.cells) ho (by rw[z3]; exact mE z) (by rw[z3]; exact z4) hm g;refine⟨.agg o,?_,by simp only[rel]; exact⟨o,rfl,g3,g2⟩⟩;have B:(y.mapM fun(f:Field)=>(do pure (f.offset,←sizeOf f.type):Sem (Nat × Nat))).run P E.w=.ok pl.toArray E.w:=by
   have:=Jt (w:=E.w) y.toList pl d;rw[Array.mapM_eq_mapM_toList,Sem.run_map,this];rfl
  simp only[Sl,bT,lN q z2,bP,Sem.a_ hu];rw[B];simp only[bP];have e:(fun(x:Nat)=>(pl.toArray)[x]?)=fun(i:Nat)=>pl[i]? := by funext i; simp
  rw[e,g1];rfl
 ·split at h
  case h_2=>cases h
  rename_i n e sz O hk;obtain⟨hu,I⟩:=x4 hk;obtain⟨R,U,M,V,N,W⟩:=lK I;simp only[dR]at h;obtain⟨out,ho,rfl⟩:=h;obtain⟨o,g1,g2,g3⟩:=uq (cs:=k.cells) ho (by rw[z3]; exact mE z) (by rw[z3]; exact z4) hm g;refine⟨.agg o,?_,by simp only[rel]; exact⟨o,rfl,g3,g2⟩⟩;simp only[Sl,bT,lN q z2,bP,Sem.a_ hu,Sem.run_sizeOf M,N,g1];rfl
def chunk(sz:Nat):Nat→List AV→List (List AV)
 |0,_=>[]
 |n+1,l=>l.take sz::chunk sz n (l.drop sz)
theorem ur(sz:Nat):∀(n:Nat) (l:List AV),(chunk sz n l).length=n
 |0,_=>rfl
 |n+1,l=>by simp[chunk,ur sz n]
theorem Co(sz:Nat):∀(n:Nat) (l:List AV),AV.bu l=true→ff (chunk sz n l)
 |0,_,_=>by intro r d; simp[chunk]at d
 | n+1,l,h=>by
  intro r d;simp only[chunk,bS]at d;rcases d with rfl|d
  ·exact x3 _ _ h
  ·exact Co sz n _ (uk _ _ h) r d
theorem Ju{E:Env}(sz:Nat):∀(n:Nat) (l:List AV) (b o:Nat),l.length=n*sz→cf E l b o→cz E sz (chunk sz n l) b o
 |0,_,_,_,_,_=>by simp[chunk,cz]
 | n+1,l,b,o,d,h=>by
  simp only[chunk,cz];have:sz≤l.length:=by rw[d,fH]; omega
  refine⟨by simp; omega,xZ h sz,Ju sz n _ b (o+sz) (by simp[d,fH]) (rf h sz)⟩
theorem Cp{E:Env}{as:List AV}{cs:Array Value}{b:Nat}{el:TypeId}{fr:Nat × Nat}(hb:E.w.heap[b]? = some (.cells cs el fr))(d:ae E as cs.toList)
  (h1:∀ x∈cs.toList,dw x=true):cf E as b 0:=by
 rw[iL];intro i a hi;obtain⟨v,g1,g2⟩:=mL d hi;refine⟨v,?_,h1 v (fa g1),g2⟩;simp only[cR,pg,hb];simpa using g1
end Go.AL

namespace Go.AL
open Go
variable [Dr]
theorem x9(v:Value):v.oneCell'=dw v:=by cases v<;>rfl
theorem setRow_size(w:World)(g:Nat)(cs:Array Value):(w.setRow g cs).heap.size=w.heap.size:=by simp[ahE]
theorem setRow_other(w:World)(g:Nat)(cs:Array Value)(x:Nat)(h:x≠g):(w.setRow g cs).heap[x]? = w.heap[x]? := by
 simp only[ahE];rw[Array.getElem?_modify];split
 ·rename_i e; exact(h e.symm).elim
 ·rfl
structure Src (P:Program) (E:Env) (sz:Nat) (rows:List (List AV)) (xt:TypeId) (x:Value) (news:List Value):Prop where
 len:∀ w,(IG x).run P w=.ok rows.length w
 cells:∀ w,(∀ b o,b<E.w.heap.size→w.cell? ⟨b,o,none⟩=E.w.cell? ⟨b,o,none⟩)→(ia sz rows.length x).run P w=.ok news.toArray w
 rel:ae E rows.flatten news
 one:∀ v∈news,dw v=true
 wide:∀ r∈rows,r.length=sz
 closed:ff rows
 kind:∃ d,P.underlying xt=some d∧∀ k,d≠.int k
theorem Src.length{P:Program}{E:Env}{sz:Nat}{rows:List (List AV)}{xt:TypeId}{x:Value}{news:List Value}(h:Src P E sz rows xt x news):news.length=rows.length*sz:=by
 rw[←jd h.rel];have:∀(l:List (List AV)),(∀ r∈l,r.length=sz)→l.flatten.length=l.length*sz:=by
  intro l d
  induction l with
  |nil=>simp
  |cons a l g=>simp[g (fun r k=>d r (by simp[k])),d a (by simp),fH,xp]
 exact this rows h.wide
theorem x_{E:Env}{k:Nat}:∀{rows:List (List AV)} {b o:Nat},cz E k rows b o→cf E rows.flatten b o
 | [],_,_,_=>by simp[cf]
 | r::rows,b,o,h=>by
  simp only[cz]at h;obtain⟨h1,d,g⟩:=h;have q:=x_ g;rw[iL]at *;intro i a hi;simp only[qO,fb]at hi;split at hi
  ·exact d i a hi
  ·rename_i t
   obtain⟨v,g1,g2,g3⟩:=q (i-r.length) a hi;refine⟨v,?_,g2,g3⟩;rw[←g1];congr 2;omega
theorem ya{E:Env}{k:Nat}:∀{rows:List (List AV)} {b o:Nat},(∀ r∈rows,r.length=k)→cf E rows.flatten b o→cz E k rows b o
 | [],_,_,_,_=>by simp[cz]
 | r::rows,b,o,hk,h=>by
  simp only[cz];have d:=hk r (by simp);refine⟨d,?_,?_⟩
  ·have := xZ h r.length
   simpa using this
  ·have := rf h r.length
   simp at this;rw[d]at this;exact ya (fun x g=>hk x (by simp[g])) this
def k_(sz:Nat)(x:AV)(H:List ab):Option (List (List AV)) :=
 match x with
 |.nils | .lit (.slice none 0 0)=>some []
 |.emptyS _=>some []
 |.list w rows=>if w=sz then some rows else none
 |.listF ks rows=>if ks.length=sz then some (rows.map (aK ks)) else none
 | .vec w id ad off n=>match H[id]? with
  |some (.vec k v rows)=>if w=sz∧k=w∧v=ad∧off+n≤rows.length then some ((rows.drop off).take n) else none
  |_=>none
 |.lit (.string s)=>if sz=1 then some (s.data.toList.map fun b=>[.lit (.int .u8 b.toNat)]) else none
 |_=>none
theorem Jv{α β:Type}(f:α→β):∀(l:List α),(l.map fun b=>[f b]).flatten=l.map f
 | []=>rfl
 |a::l=>by simp[Jv f l]
theorem yb{P:Program}{E:Env}{sz:Nat}{rows:List (List AV)}{b o cap:Nat}(d:cz E sz rows b o)(hb:b<E.w.heap.size) :
  ∃ news,ae E rows.flatten news∧(∀ v∈news,dw v=true) ∧
   ∀ w,(∀ b o,b<E.w.heap.size→w.cell? ⟨b,o,none⟩=E.w.cell? ⟨b,o,none⟩)→(ia sz rows.length (.slice (some ⟨b,o,none⟩) rows.length cap)).run P w=.ok news.toArray w:=by
 obtain⟨vs,g1,g2,g3⟩:=um (x_ d);refine⟨vs,g1,g2,fun w hw=>?_⟩;refine run_firstCells_some (P:=P) w sz rows.length ⟨b,o,none⟩ rows.length cap vs ?_ ?_
 ·rw [← jd g1]
  have:∀(l:List (List AV)) (o:Nat),cz E sz l b o→l.flatten.length=l.length*sz:=by
   intro l
   induction l with
   |nil=>intros; simp
   | cons a l g =>
    intro o h;simp only[cz]at h;simp[g _ h.2.2,h.1,fH,xp]
  exact this rows o d
 ·intro j v k
  rw[j8,hw b _ hb];exact g3 j v k
theorem Tu{P:Program}{E:Env}(HE:aq E){sz:Nat}{x:AV}{c:Value}{rows:List (List AV)}{xt:TypeId}(h:k_ sz x E.H=some rows)(g:rel E x c)
  (hk:∃ d,P.underlying xt=some d∧∀ k,d≠.int k):∃ news,Src P E sz rows xt c news:=by
 unfold k_ at h;split at h
 ·cases h
  simp only[rel]at g;obtain⟨base,rfl⟩:=g;refine⟨[],⟨fun w=>rfl,fun w _=>?_,by simp[ae],by simp,by simp,(by intro r g; cases g),hk⟩⟩;cases base<;>simp[ia,loadCells,loadCellsFrom]
 ·cases h
  simp only[rel]at g;subst g;exact⟨[],⟨fun w=>rfl,fun w _=>by simp[ia],by simp[ae],by simp,by simp,(by intro r g; cases g),hk⟩⟩
 ·cases h
  simp only[rel]at g;obtain⟨base,cap,rfl,_⟩:=g;refine⟨[],⟨fun w=>rfl,fun w _=>?_,by simp[ae],by simp,by simp,(by intro r g; cases g),hk⟩⟩;cases base<;>simp[ia,loadCells,loadCellsFrom]
 ·rename_i w rows'
  split at h
  case isFalse=>cases h
  rename_i hw;subst hw;cases h;simp only[rel]at g;obtain⟨y,base,cap,rfl,hle,I⟩:=g;rcases I with rfl|⟨b,o,rfl,z,q⟩
  ·refine ⟨[], ⟨fun w => rfl, fun w _ => ?_, by simp [ae], by simp, by simp, (by intro r g; cases g), hk⟩⟩
   cases base<;>simp[ia,loadCells,loadCellsFrom]
  ·obtain ⟨news, g1, g2, g3⟩ := yb (P := P) (cap := cap) q z.1
   exact⟨news,⟨fun w=>rfl,g3,g1,g2,fun r g=>by
    obtain⟨i,hi⟩:=tV g;exact(mF q hi).1,y,hk⟩⟩
 ·rename_i ks O
  split at h
  case isFalse=>cases h
  rename_i hw;subst hw;cases h;have g:=jC.1 g;generalize O.map (aK ks)=rows at g;simp only[rel]at g;obtain⟨y,base,cap,rfl,hle,I⟩:=g;rcases I with rfl|⟨b,o,rfl,z,q⟩
  ·refine ⟨[], ⟨fun w => rfl, fun w _ => ?_, by simp [ae], by simp, by simp, (by intro r g; cases g), hk⟩⟩
   cases base<;>simp[ia,loadCells,loadCellsFrom]
  ·obtain ⟨news, g1, g2, g3⟩ := yb (P := P) (cap := cap) q z.1
   exact⟨news,⟨fun w=>rfl,g3,g1,g2,fun r g=>by
    obtain⟨i,hi⟩:=tV g;exact(mF q hi).1,y,hk⟩⟩
 ·rename_i w id ad off n
  split at h
  case h_2=>cases h
  rename_i k v rows' hid;split at h
  case isFalse=>cases h
  rename_i R;obtain⟨rfl,rfl,rfl,hle⟩:=R;cases h;simp only[rel]at g;obtain⟨⟨base,cap,rfl,hcap,_⟩,_,U⟩:=g;obtain⟨V,W⟩:=U ⟨_,hid,rfl⟩;have t:((rows'.drop off).take n).length=n:=by simp; omega
  rcases HE.obj id _ hid with⟨u,J⟩|⟨b,m,u,J,e3,e4,e5⟩
  ·obtain ⟨rfl, rfl, base', e⟩ := V u
   subst J;refine⟨[],⟨fun w=>by rw[t]; rfl,fun w _=>?_,by simp[ae],by simp,by simp,(by intro r g; simp at g),hk⟩⟩;cases base<;>simp[ia,loadCells,loadCellsFrom]
  ·obtain ⟨p1, o, p2, M⟩ := W b m u
   simp only[j0]at M;obtain⟨rfl,_,rfl⟩:=M;by_cases hm:off<m
   ·rw [p2 hm]
    have B:=Jl e5 off n;simp only[cR]at B;obtain⟨news,g1,g2,g3⟩:=yb (P:=P) (cap:=m-off) B (HE.lt id b m u).1;rw[t]at g3;refine⟨news,⟨fun w=>by rw[t]; rfl,by rw[t]; exact g3,g1,g2,fun r g=>?_,fun r g=>e4 r (qM (nC g)),hk⟩⟩;obtain⟨i,hi⟩:=tV g;exact(mF B hi).1
   ·have hz : n = 0 := by omega
    subst hz;refine⟨[],⟨fun w=>by rw[t]; rfl,fun w _=>?_,by simp[ae],by simp,by simp,(by intro r g; simp at g),hk⟩⟩;simp[ia,loadCells,loadCellsFrom]
 ·rename_i s
  split at h
  case isFalse=>cases h
  rename_i hs;subst hs;cases h;simp only[rel]at g;subst g;refine⟨s.data.toList.map fun b=>.int .u8 b.toNat,⟨fun w=>by simp[IG],fun w _=>?_,?_,?_,?_,?_,hk⟩⟩
  ·simp only [dv, lE, ia]
   have:s.extract 0 s.data.size=s:=by
    have:=ByteArray.extract_zero_size (b:=s);exact this
   rw[this,←IH];rfl
  ·rw [Jv]
   have:=mE (E:=E) (s.data.toList.map fun b=>.int .u8 b.toNat);rw[List.map_map]at this;exact this
  ·intro v N; simp at N; obtain⟨b,_,rfl⟩:=N; rfl
  ·intro r g; simp at g; obtain⟨b,_,rfl⟩:=g; rfl
  ·intro r g; simp at g; obtain⟨b,_,rfl⟩:=g; simp[AV.bu,AV.closed]
 ·cases h
def ry(P:Program)(t xt:TypeId)(s x:AV)(H:List ab):Option (AV × List ab) :=
 match cr P t with
 | .slice e sz d =>
  match dZ P e,(match cr P xt with | .slice _ _ _ | .str=>true|_=>false),k_ sz x H with
  | some z,true,some new =>
   if z.length=sz∧new.length≤1048576∧d≤1048576 then
    match s with
    |.nils | .lit (.slice none 0 0)=>some (.vec sz H.length 0 0 new.length,H++[.vec sz 0 new])
    | .vec w id ad off n=>match H[id]? with
     | some (.vec k v rows) =>
      if k=w∧w=sz∧v=ad∧off=0∧n=rows.length∧rows.length+new.length≤1048576 then
       some (.vec w id (ad+1) 0 (n+new.length),H.set id (.vec k (ad+1) (rows++new)))
      else none
     |_=>none
    |_=>none
   else none
  |_,_,_=>none
 |_=>none
theorem Cq{P:Program}{w w':World}{t xt ty e:TypeId}{i:TypeInfo}{sz:Nat}{base:Option Addr}{n cap m:Nat}{x:Value}{d:TypeDesc}
  (q:P.underlying t=some (.slice e)) (u:P.underlying xt=some d) (_hd:∀ k,d≠.int k) (hi:P.info? e=some i) (v:i.size=sz)
  (y:(IG x).run P w=.ok m w) (h:n+m≤cap) {news:List Value} (z:(ia sz m x).run P w=.ok news.toArray w)
  (g:(match base with|some a=>storeCells (a.add (n*sz)) news|none=>(pure ():Sem Unit)).run P w=.ok () w') :
  (kR #[t,xt] ty #[.slice base n cap,x]).run P w=.ok (.slice base (n+m) cap) w':=by
 cases base with
 | none =>
  simp at g;subst g;simp[kR,run_underlying q,run_underlying u,sizeOf,typeInfo,hi,v,y,h,z]
 | some a =>
  simp only[]at g;simp[kR,run_underlying q,run_underlying u,sizeOf,typeInfo,hi,v,y,h,z,g]
theorem Jw{P:Program}{w:World}{t xt ty e:TypeId}{i:TypeInfo}{z:Value}{sz:Nat}{base:Option Addr}{n cap m:Nat}{x:Value}{d:TypeDesc}
  (q:P.underlying t=some (.slice e)) (u:P.underlying xt=some d) (N:∀ k,d≠.int k) (hi:P.info? e=some i) (v:i.size=sz) (y:i.zero=some z)
  (B:(IG x).run P w=.ok m w) (g:cap<n+m) {olds news:List Value}
  (ho:(ia sz n (.slice base n cap)).run P w.drew=.ok olds.toArray w.drew)
  (I:(ia sz m x).run P w.drew=.ok news.toArray w.drew)
  (h:n+m≤1048576) (hb:i.bytes≤1048576) :
  ∃ C,n+m≤C∧(kR #[t,xt] ty #[.slice base n cap,x]).run P w =
   .ok (.slice (some ⟨w.heap.size,0,none⟩) (n+m) C) (w.drew.alloc (.cells (olds++news++(xw z.cells (C-(n+m))).toList).toArray e)):=by
 have h1:¬ (n+m≤cap):=by omega
 have J:¬ (9223372036854775807<((n:Int)+(m:Int))):=by omega
 have O:II (n+m) cap*i.bytes≤281474976710656:=growslice_fits g (by
  have:=ahF h hb;omega)
 have M:¬ (281474976710656<II (n+m) cap*i.bytes):=by omega
 refine⟨grownCap w (n+m) cap e,?_,?_⟩
 ·simp[grownCap,ahG]
 ·simp [kR, run_underlying q, run_underlying u, sizeOf, typeInfo, zeroValue, hi, y, v, B, h1, J, M, ahH, I, ho, newRow, grownCap]
  congr 2;apply gg;simp
def cL(E:Env)(v:AV)(H':List ab)(u:Value)(w':World):Prop :=
 ∃ d r',rel { w:=w',H:=H',loc:=d,X:=E.X.re r' } v u∧aq { w:=w',H:=H',loc:=d,X:=E.X.re r' }∧E.le { w:=w',H:=H',loc:=d,X:=E.X.re r' }
theorem Jx{E:Env}{as:List AV}{cs:Array Value}{vs tl:List Value}{b:Nat}{el:TypeId}{fr:Nat × Nat}(hb:E.w.heap[b]? = some (.cells cs el fr))(d:ae E as vs)
  (g:cs.toList=vs++tl) (h1:∀ x∈vs,dw x=true):cf E as b 0:=by
 rw[iL];intro i a hi;obtain⟨v,g1,g2⟩:=mL d hi;refine⟨v,?_,h1 v (fa g1),g2⟩;simp only[cR,pg,hb];have:cs.toList[i]? = some v:=by rw[g,cQ (aL g1)]; exact g1
 simpa using this
theorem Tv{E:Env}{as:List AV}{cs:Array Value}{b:Nat}{el:TypeId}{fr:Nat × Nat}(hb:E.w.heap[b]? = some (.cells cs el fr))(k:cf E as b 0) :
  ae E as (cs.toList.take as.length)∧(∀ x∈cs.toList.take as.length,dw x=true)∧as.length≤cs.size:=by
 obtain⟨vs,g1,g2,g3⟩:=um k;have q:=jd g1;have g:∀(j:Nat) v,vs[j]? = some v→cs.toList[j]? = some v:=by
  intro j v d;have:=g3 j v d;simpa[pg,hb]using this
 have t:vs.length≤cs.size:=by
  rcases Nat.eq_zero_or_pos vs.length with h|h
  ·omega
  ·have := g (vs.length - 1) vs[vs.length - 1] (bd (by omega))
   have:=aL this;simp at this;omega
 have:cs.toList.take as.length=vs:=by
  rw[q];apply kP;intro j;rw[nA];split
  ·rename_i d
   rw[g j vs[j] (bd d),bd d]
  ·rename_i d
   rw[nz (by omega)]
 rw[this];exact⟨g1,g2,by omega⟩
theorem rz{sz:Nat}:∀{l:List (List AV)},(∀ r∈l,r.length=sz)→l.flatten.length=l.length*sz
 | [],_=>by simp
 |a::l,h=>by simp[rz (l:=l) (fun r d=>h r (by simp[d])),h a (by simp),fH,xp]
theorem Cr{E:Env}{k:Nat}{rows:List (List AV)}{b o:Nat}(h:cz E k rows b o):∀ r∈rows,r.length=k:=by
 intro r d;obtain⟨i,hi⟩:=tV d;exact(mF h hi).1
theorem Jy(w:World)(o:Obj):Ext w (w.drew.alloc o) :=
 ⟨by show w.heap.size ≤ (w.heap.push o).size; simp, fun b hb => by
  show (w.heap.push o)[b]? = _
  simp[Sb,ahx hb],⟨rfl,rfl,rfl,by first|exact fun _=>aH _|exact fun _=>fT _ _⟩⟩
theorem Jz(w:World)(o:Obj):(w.drew.alloc o).heap[w.heap.size]? = some o:=by
 show (w.heap.push o)[w.heap.size]? = _
 simp
theorem Cs{E E':Env}{sz m C:Nat}{rows:List (List AV)}{vals:List Value}{rest:List Value}{b:Nat}{e:TypeId}(q:∀ a c,rel E a c→rel E' a c)
  (hb:E'.w.heap[b]? = some (.cells (vals++rest).toArray e (0,0))) (d:ae E rows.flatten vals) (h1:∀ x∈vals,dw x=true)
  (hw:∀ r∈rows,r.length=sz) (hlen:rows.length=m) (hC:m≤C) (g:rest.length=(C-m)*sz) :
  isRow E'.w b (C*sz)∧cz E' sz rows b 0:=by
 have h:ae E' rows.flatten vals:=by
  rw[mC]at *;exact⟨d.1,fun i a v ha k=>q a v (d.2 i a v ha k)⟩
 refine⟨⟨_,e,hb,?_⟩,ya hw (Jx hb h (by simp; rfl) h1)⟩;have:=jd d;rw[rz hw,hlen]at this;simp only[BL,dV,←this,g,←fH];congr 1;omega
theorem JA{P:Program}{e:TypeId}{z:List Value}(h:dZ P e=some z):∃ i v,P.info? e=some i∧i.zero=some v∧v.cells.toList=z :=
 let ⟨i,v,h1,d,g,_⟩:=lM h
 ⟨i,v,h1,d,g⟩
theorem JB{E:Env}(HE:aq E){sz C m:Nat}{new:List (List AV)}{vals rest:List Value}{e:TypeId}(g:ae E new.flatten vals)(h1:∀ x∈vals,dw x=true)
  (hw:∀ r∈new,r.length=sz) (t:ff new) (hm:new.length=m) (hC:m≤C) (q:rest.length=(C-m)*sz) :
  cL E (.vec sz E.H.length 0 0 m) (E.H++[.vec sz 0 new]) (.slice (some ⟨E.w.heap.size,0,none⟩) m C) (E.w.drew.alloc (.cells (vals++rest).toArray e)):=by
 have h:=Jy E.w (.cells (vals++rest).toArray e);have hle:=Env.jD (o:=.vec sz 0 new) (l:=some (E.w.heap.size,C)) HE.len h (fun b n hb=>by cases hb; exact aH _);have hblk:=Jz E.w (.cells (vals++rest).toArray e);have k:=Cs (E':=E.push (E.w.drew.alloc (.cells (vals++rest).toArray e)) (.vec sz 0 new) (some (E.w.heap.size,C))) (fun a c g=>bK hle a g) hblk g h1 hw hm hC q;refine⟨E.loc++[some (E.w.heap.size,C)],E.X.r,?_,aq.push HE h (fun b n hb=>?_) ?_,hle⟩
 ·simp only [rel]
  refine⟨⟨_,_,rfl,hC,fun _=>⟨_,_,rfl⟩⟩,⟨.vec sz 0 new,by simp,rfl,fun v u=>by simp[ab.aF]at u; omega⟩,fun _=>⟨fun d=>?_,fun b M d=>?_⟩⟩
  ·rw[←HE.len]at d; simp at d
  ·rw [← HE.len] at d
   simp at d;obtain⟨rfl,rfl⟩:=d;exact⟨by omega,0,fun _=>by simp,by simp⟩
 ·cases hb
  exact⟨aH _,by show _<(E.w.heap.push _).size; simp⟩
 ·simp only [aR]
  right;refine⟨E.w.heap.size,C,?_,k.1,by omega,t,k.2⟩;simp only[Env.push];rw[←HE.len];simp
theorem Tw{E:Env}(HE:aq E){sz:Nat}(base:Option Addr) :
  cL E (.vec sz E.H.length 0 0 0) (E.H++[.vec sz 0 []]) (.slice base 0 0) E.w:=by
 have hle:=Env.jD (o:=.vec sz 0 []) (l:=none) HE.len (Ext.refl E.w) (fun b n hb=>by cases hb);refine⟨E.loc++[none],E.X.r,?_,aq.push HE (Ext.refl _) (fun b n hb=>by cases hb) ?_,hle⟩
 ·simp only [rel]
  refine⟨⟨_,_,rfl,aH _,fun h=>by omega⟩,⟨.vec sz 0 [],by simp,rfl,fun v g=>by simp[ab.aF]at g; omega⟩,fun _=>⟨fun _=>⟨trivial,trivial,base,rfl⟩,fun b M d=>?_⟩⟩;rw[←HE.len]at d;simp at d
 ·simp only [aR]
  left;refine⟨?_,trivial⟩;simp only[Env.push];rw[←HE.len];simp
theorem Cu(P:Program)(a:Addr)(w:World):(storeCells a []).run P w=.ok () w:=rfl
theorem Cv{P:Program}{E:Env}{sz:Nat}{rows:List (List AV)}{xt:TypeId}{x:Value}{news:List Value}(h:Src P E sz rows xt x news)(d:rows=[]):news=[]:=by
 have:=h.length;rw[d]at this;simp at this;exact this
theorem JD{P:Program}{E:Env}(HE:aq E){t xt ty e:TypeId}{sz v:Nat}{z:List Value}{new:List (List AV)}{base:Option Addr}{k:Value}{news:List Value}
  (hk:cr P t=.slice e sz v) (U:dZ P e=some z) (g:Src P E sz new xt k news) (hb1:new.length≤1048576) (hb2:v≤1048576) (N:z.length=sz) :
  ∃ u w',(kR #[t,xt] ty #[.slice base 0 0,k]).run P E.w=.ok u w'∧cL E (.vec sz E.H.length 0 0 new.length) (E.H++[.vec sz 0 new]) u w':=by
 obtain⟨hu,i,hi,J,hby⟩:=gH hk;obtain⟨i',zv,y,O,R⟩:=JA U;rw[hi]at y;cases y;obtain⟨d,B,I⟩:=g.kind;cases h:new with
 | nil =>
  have V:=Cv g h;subst V;subst h;refine⟨.slice base (0+0) 0,E.w,Cq (m:=0) hu B I hi J (g.len E.w) (aH _) (g.cells E.w (fun _ _ _=>rfl)) ?_,Tw HE base⟩;cases base with
  |none=>rfl
  |some a=>exact Cu P _ _
 | cons r rs =>
  rw[←h];have W:0<new.length:=by rw[h]; simp
  have M:∀ b o,b<E.w.heap.size→E.w.drew.cell? ⟨b,o,none⟩=E.w.cell? ⟨b,o,none⟩:=fun _ _ _=>rfl;obtain⟨C,hC,q⟩:=Jw (P:=P) (w:=E.w) (ty:=ty) (base:=base) (n:=0) (cap:=0) (m:=new.length) (x:=k) (olds:=[]) hu B I hi J O (g.len E.w) (by omega)
   (by cases base<;>simp[ia,loadCells,loadCellsFrom]) (g.cells _ M) (by omega) (by omega)
  simp only[cR,mq]at q;refine⟨_,_,q,JB HE g.rel g.one g.wide g.closed rfl (by omega) ?_⟩;simp only[lE,size_zeroCells];rw[←N,←R];simp
theorem Tx{P:Program}{xt:TypeId}(h:(match cr P xt with | .slice _ _ _ | .str=>true|_=>false)=true):∃ d,P.underlying xt=some d∧∀ k,d≠.int k:=by
 split at h
 ·rename_i hk
  exact⟨_,(gH hk).1,by simp⟩
 ·rename_i hk
  exact⟨_,pG hk,by simp⟩
 ·cases h
theorem lO{α:Type}{l:List α}{i:Nat}{x:α}(h:l[i]? = some x):l.set i x=l:=by
 apply kP;intro j;rw[dS];split
 ·rename_i e
  subst e;rw[h];split
  ·rfl
  ·rename_i d; exact(d (aL h)).elim
 ·rfl
theorem Ty{P:Program}{E:Env}(HE:aq E){t xt ty e id ad:TypeId}{sz by_:Nat}{z:List Value}{rows new:List (List AV)}{c cx:Value}{news:List Value}
  (hk:cr P t=.slice e sz by_) (hz:dZ P e=some z) (g:Src P E sz new xt cx news) (hb1:rows.length+new.length≤1048576) (hb2:by_≤1048576) (hzl:z.length=sz)
  (hid:E.H[id]? = some (.vec sz ad rows)) (k:rel E (.vec sz id ad 0 rows.length) c) :
  ∃ u w',(kR #[t,xt] ty #[c,cx]).run P E.w=.ok u w' ∧
   cL E (.vec sz id (ad+1) 0 (rows.length+new.length)) (E.H.set id (.vec sz (ad+1) (rows++new))) u w':=by
 obtain⟨hu,i,hi,hs,hby⟩:=gH hk;obtain⟨i',zv,hi',hz1,hz2⟩:=JA hz;rw[hi]at hi';cases hi';obtain⟨d,hd1,hd2⟩:=g.kind;simp only[rel]at k;obtain⟨⟨base,cap,rfl,hcap,hbase⟩,hpast,hlive⟩:=k;obtain⟨q1,q2⟩:=hlive ⟨_,hid,rfl⟩;have hlt:=aL hid;have N:(∀ v,(ab.vec sz (ad+1) (rows++new)).aF = some v→∀ u,(ab.vec sz ad rows).aF = some u→u<v):=by
  intro v J u hu; simp[ab.aF]at J hu; omega
 have R:∀ v u,(ab.vec sz (ad+1) (rows++new)).aF = some v→(ab.vec sz ad rows).aF = some u→u≤v:=by
  intro v u J hu; simp[ab.aF]at J hu; omega
 have O:(ab.vec sz ad rows).aF = none→(ab.vec sz (ad+1) (rows++new)).aF = none:=by simp[ab.aF]
 have hpast':∀(w':World) loc',Env.past { w:=w',H:=E.H.set id (.vec sz (ad+1) (rows++new)),loc:=loc',X:=E.X } id (ad+1):=fun w' loc' =>
  ⟨_,bk hlt,rfl,fun v J=>by simp[ab.aF]at J; omega⟩
 have hcells:∀ b o,b<E.w.heap.size→E.w.drew.cell? ⟨b,o,none⟩=E.w.cell? ⟨b,o,none⟩:=fun _ _ _=>rfl;by_cases I:rows.length+new.length≤cap
 ·-- in place
  rcases HE.obj id _ hid with⟨y,U⟩|⟨b,M,y,U,e3,e4,V⟩
  ·obtain ⟨hn0, _, base', ee⟩ := q1 y
   simp only[j0]at ee;obtain⟨rfl,_,rfl⟩:=ee;have hnil:new=[]:=by
    cases new with
    |nil=>rfl
    |cons a l=>simp at I
   have hnews:=Cv g hnil;subst hnews;subst hnil;subst U;refine⟨_,E.w,Cq (m:=0) hu hd1 hd2 hi hs (g.len E.w) (aH _) (g.cells E.w (fun _ _ _=>rfl)) ?_,E.loc.set id none,E.X.r,?_,?_,?_⟩
   ·cases base with
    |none=>rfl
    |some a=>exact Cu P _ _
   ·simp only [rel]
    refine⟨⟨_,_,rfl,aH _,fun h=>by simp at h⟩,hpast' _ _,fun _=>⟨fun _=>⟨by simp,trivial,base,by simp⟩,fun b M q=>?_⟩⟩;rw[bk (by rw[HE.len]; exact hlt)]at q;cases q
   ·refine aq.k0 HE hid (aH _) (fun _ _ _ => rfl) (fun _ _ h => by cases h) (.inr N) R (fun _ => O) ?_
    simp only[aR];left;exact⟨by rw[bk (by rw[HE.len]; exact hlt)],by simp⟩
   ·exact Env.jE hid HE.len (aH _) (fun _ _ _=>rfl) (fun _ _ h=>by cases h) (.inr N) R (fun _=>O)
  ·obtain ⟨_, o, p2, W⟩ := q2 b M y
   simp only[j0,gC]at W;obtain⟨rfl,_,rfl⟩:=W;obtain⟨cur,el,hblk,hsize⟩:=U;have hcurl:=Tv hblk (x_ V);have hwide:=Cr V;have hflat:=rz hwide;have hnl:=g.length;have hstore:∃ w',(storeCells ((Addr.mk b o none).add (rows.length*sz)) news).run P E.w=.ok () w'∧w'.heap.size=E.w.heap.size∧dC E.w w'∧(∀ x,x≠b→w'.heap[x]? = E.w.heap[x]?) ∧
     w'.heap[b]? = some (.cells (cur.toList.take (rows.length*sz)++news++cur.toList.drop (rows.length*sz+news.length)).toArray el (0,0)):=by
    by_cases hM:0<cap
    ·rw [p2 hM, j8, pj, cR]
     have hfit2:rows.length*sz+0+news.length≤cur.size:=by
      rw[hnl,hsize,pk,←fH];exact tW _ I
     have hst:=run_storeCells_at P b (rows.length*sz) el news 0 cur E.w hblk hfit2 (fun v J=>by rw[x9]; exact g.one v J);refine⟨_,hst,setRow_size _ _ _,⟨rfl,rfl,rfl,by first|exact fun _=>aH _|exact fun _=>fT _ _⟩,fun x B=>setRow_other _ _ _ _ B,?_⟩;rw[setRow_heap _ _ _ _ _ _ hblk];simp
    ·have h0 : cap = 0 := by omega
     have hn0:new=[]:=by
      cases new with
      |nil=>rfl
      |cons a l=>simp at I; omega
     have:=Cv g hn0;subst this;refine⟨E.w,Cu P _ _,rfl,⟨rfl,rfl,rfl,by first|exact fun _=>aH _|exact fun _=>fT _ _⟩,fun _ _=>rfl,?_⟩;rw[hblk];simp
   obtain⟨w',hst,hsz,henv,hother,hb'⟩:=hstore;have hloc:E.loc.set id (some (b,cap))=E.loc:=lO y;have hle:E.le { w:=w',H:=E.H.set id (.vec sz (ad+1) (rows++new)),loc:=E.loc.set id (some (b,cap)),X:=E.X } :=
    Env.jE hid HE.len (by omega) (fun x B hne=>hother x (fun ex=>hne cap (by rw[ex]; exact y))) (fun b' n' h=>by cases h; exact .inr ⟨cap,y⟩) (.inr N) R (fun _=>O)
   refine⟨_,w',Cq (m:=new.length) hu hd1 hd2 hi hs (g.len E.w) I (g.cells E.w (fun _ _ _=>rfl)) hst,E.loc.set id (some (b,cap)),E.X.r,?_,?_,hle⟩
   ·simp only [rel]
    refine⟨⟨_,_,rfl,I,fun _=>⟨b,o,rfl⟩⟩,hpast' _ _,fun _=>⟨fun q=>?_,fun b' M q=>?_⟩⟩
    ·rw[hloc,y]at q; cases q
    ·rw [hloc, y] at q
     simp only[aX,a8]at q;obtain⟨rfl,rfl⟩:=q;exact⟨by omega,o,fun h=>by simpa using p2 (by simpa using h),by simp⟩
   ·refine aq.k0 HE hid (by omega) (fun x B hne => hother x (fun ex => hne cap (by rw [ex]; exact y))) (fun b' n' h => by cases h; exact .inr ⟨cap, y⟩) (.inr N) R (fun _ => O) ?_
    simp only[aR];right;refine⟨b,cap,by rw[hloc]; exact y,?_,by simpa using I,?_,?_⟩
    ·refine ⟨_, el, hb', ?_⟩
     have hfit2:rows.length*sz+news.length≤cap*sz:=by rw[hnl,←fH]; exact tW _ I
     simp only[BL,dV,jy,pn,lE,hsize];omega
    ·intro r k
     rcases cG.1 k with h|h
     ·exact e4 r h
     ·exact g.closed r h
    ·have hall:∀ r∈rows++new,r.length=sz:=by
      intro r k;rcases cG.1 k with h|h
      ·exact hwide r h
      ·exact g.wide r h
     refine ya hall (Jx hb' (vs:=cur.toList.take (rows.length*sz)++news) (tl:=cur.toList.drop (rows.length*sz+news.length)) ?_ (by simp) ?_)
     ·rw [xy]
      refine mJ ?_ (dN hle _ g.rel);have:=dN hle _ hcurl.1;rw[hflat]at this;exact this
     ·intro x B
      rcases cG.1 B with h|h
      ·exact hcurl.2.1 x (by rw[hflat]; exact h)
      ·exact g.one x h
 ·-- it moves
  have holds:∃ olds:List Value,ae E rows.flatten olds∧(∀ x∈olds,dw x=true)∧(∀ r∈rows,r.length=sz)∧ff rows ∧
    (ia sz rows.length (.slice base rows.length cap)).run P E.w.drew=.ok olds.toArray E.w.drew:=by
   rcases HE.obj id _ hid with⟨y,U⟩|⟨b,M,y,U,e3,e4,V⟩
   ·subst U
    refine⟨[],by simp[ae],by simp,by simp,(fun r k=>by cases k),?_⟩;cases base<;>simp[ia,loadCells,loadCellsFrom]
   ·obtain ⟨_, o, p2, W⟩ := q2 b M y
    simp only[j0,gC]at W;obtain⟨rfl,_,rfl⟩:=W;by_cases hM:0<cap
    ·have ho := p2 hM
     rw[pj]at ho;subst ho;obtain⟨vs,g1,g2,g3⟩:=yb (P:=P) (cap:=cap) V (HE.lt id b cap y).1;exact⟨vs,g1,g2,Cr V,e4,g3 _ hcells⟩
    ·have:rows=[]:=by
      cases rows with
      |nil=>rfl
      |cons a l=>simp at hcap; omega
     subst this;exact⟨[],by simp[ae],by simp,by simp,fun r k=>by(cases k),by simp[ia,loadCells,loadCellsFrom]⟩
  obtain⟨olds,g1,g2,g3,g4,g5⟩:=holds;obtain⟨C,hC,hrun⟩:=Jw (P:=P) (w:=E.w) (ty:=ty) (base:=base) (n:=rows.length) (cap:=cap) (m:=new.length) (x:=cx) (olds:=olds) hu hd1 hd2 hi hs hz1 (g.len E.w) (by omega)
   g5 (g.cells _ hcells) (by omega) (by omega)
  generalize hrest:(xw zv.cells (C-(rows.length+new.length))).toList=rest at hrun;have hrl:rest.length=(C-(rows.length+new.length))*sz:=by
   rw[←hrest];simp only[lE,size_zeroCells];rw[←hzl,←hz2];simp
  generalize hw':E.w.drew.alloc (.cells (olds++news++rest).toArray e)=w' at hrun;have hext:Ext E.w w':=by rw[←hw']; exact Jy _ _
  have hblk:w'.heap[E.w.heap.size]? = some (.cells (olds++news++rest).toArray e (0,0)):=by rw[←hw']; exact Jz _ _
  have hltw:E.w.heap.size<w'.heap.size:=(Array.getElem?_eq_some_iff.1 hblk).1;have hle:E.le { w:=w',H:=E.H.set id (.vec sz (ad+1) (rows++new)),loc:=E.loc.set id (some (E.w.heap.size,C)),X:=E.X } :=
   Env.jE hid HE.len hext.size (fun x B _=>hext.same x B) (fun b n h=>by cases h; exact .inl (aH _)) (.inr N) R (fun _=>O)
  have hall:∀ r∈rows++new,r.length=sz:=by
   intro r k;rcases cG.1 k with h|h
   ·exact g3 r h
   ·exact g.wide r h
  have hlocs:(E.loc.set id (some (E.w.heap.size,C)))[id]? = some (some (E.w.heap.size,C)):=bk (by rw[HE.len]; exact hlt);have hrow:=Cs (E:=E) (E':={ w:=w',H:=E.H.set id (.vec sz (ad+1) (rows++new)),loc:=E.loc.set id (some (E.w.heap.size,C)),X:=E.X })
   (rows:=rows++new) (vals:=olds++news) (m:=rows.length+new.length) (fun a c k=>bK hle a k) hblk
   (by rw[xy]; exact mJ g1 g.rel)
   (by intro x B; rcases cG.1 B with h|h; exact g2 x h; exact g.one x h) hall (by simp) hC hrl
  refine⟨_,w',hrun,E.loc.set id (some (E.w.heap.size,C)),E.X.r,?_,?_,hle⟩
  ·simp only [rel]
   refine⟨⟨_,_,rfl,hC,fun _=>⟨_,_,rfl⟩⟩,hpast' _ _,fun _=>⟨fun q=>?_,fun b' M q=>?_⟩⟩
   ·rw[hlocs]at q; cases q
   ·rw [hlocs] at q
    simp only[aX,a8]at q;obtain⟨rfl,rfl⟩:=q;exact⟨by omega,0,fun _=>by simp,by simp⟩
  ·refine aq.k0 HE hid hext.size (fun x B _ => hext.same x B) (fun b n h => by cases h; exact .inl ⟨aH _, hltw⟩) (.inr N) R (fun _ => O) ?_
   simp only[aR];right;refine⟨E.w.heap.size,C,hlocs,hrow.1,by simpa using hC,?_,hrow.2⟩;intro r k;rcases cG.1 k with h|h
   ·exact g4 r h
   ·exact g.closed r h
theorem Tz{P:Program}{E:Env}(HE:aq E){t xt ty:TypeId}{s x v:AV}{H':List ab}{c B:Value}(h:ry P t xt s x E.H=some (v,H'))
  (d:rel E s c) (O:rel E x B):∃ u w',(kR #[t,xt] ty #[c,B]).run P E.w=.ok u w'∧cL E v H' u w':=by
 unfold ry at h;split at h
 case h_2=>cases h
 rename_i e sz U hk;split at h
 case h_2=>cases h
 rename_i z new q M J;split at h
 case isFalse=>cases h
 rename_i R;obtain⟨h1,I,y⟩:=R;obtain⟨news,g⟩:=Tu (P:=P) HE J O (Tx M);split at h
 ·cases h
  simp only[rel]at d;obtain⟨base,rfl⟩:=d;exact JD HE hk q g I y h1
 ·cases h
  simp only[rel]at d;subst d;exact JD HE hk q g I y h1
 ·split at h
  case h_2=>cases h
  rename_i k v rows hid;split at h
  case isFalse=>cases h
  rename_i N;obtain⟨rfl,rfl,rfl,rfl,rfl,hb⟩:=N;cases h;exact Ty HE hk q g hb y h1 hid d
 ·cases h
end Go.AL

namespace Go.AL
open Go
variable [Dr]
theorem JE{w w':World}{b off:Nat}{cur:Array Value}{vals:List Value}{el:TypeId}{fr:Nat × Nat}(hblk:w.heap[b]? = some (.cells cur el fr))
  (d:w'.heap[b]? = some (.cells (cur.toList.take off++vals++cur.toList.drop (off+vals.length)).toArray el fr)) (h:off+vals.length≤cur.size) (i:Nat) :
  w'.cell? ⟨b,i,none⟩=if off≤i∧i<off+vals.length then vals[i-off]? else w.cell? ⟨b,i,none⟩:=by
 simp only[pg,hblk,d,Option.isSome_none,lD,if_false,List.getElem?_toArray,fb,dV,jy,lE,
  nA,qK]
 have h1:min off cur.size=off:=by omega
 rw[h1];by_cases c1:i<off
 ·have c2 : ¬ (off ≤ i ∧ i < off + vals.length) := by omega
  have c3:i<off+vals.length:=by omega
  rw[if_neg c2];simp[c1,c3]
 ·by_cases c2 : i < off + vals.length
  ·have c3 : off ≤ i ∧ i < off + vals.length := by omega
   simp[c1,c2,c3]
  ·have c3 : ¬ (off ≤ i ∧ i < off + vals.length) := by omega
   have g:off+vals.length+(i-(off+vals.length))=i:=by omega
   rw[if_neg c2,if_neg c3,g];simp
theorem Cw{E E':Env}{b o col:Nat}{cur:Array Value}{as cs:List AV}{vals:List Value}{el:TypeId}{fr:Nat × Nat}(d:∀ a c,rel E a c→rel E' a c)
  (hblk:E.w.heap[b]? = some (.cells cur el fr))
  (q:E'.w.heap[b]? = some (.cells (cur.toList.take (o+col)++vals++cur.toList.drop (o+col+vals.length)).toArray el fr)) (k:o+col+vals.length≤cur.size)
  (g:cf E as b o) (h:ae E cs vals) (h1:∀ x∈vals,dw x=true) (t:col+cs.length≤as.length) :
  cf E' (as.take col++cs++as.drop (col+cs.length)) b o:=by
 have hlen:=jd h;rw[iL]at g⊢;intro i a hi;rw[JE hblk q k];simp only[fb,dV,jy,nA,qK]at hi;have hm:min col as.length=col:=by omega
 rw[hm]at hi;by_cases c1:i<col
 ·have c2 : i < col + cs.length := by omega
  rw[if_pos c2,if_pos c1,if_pos c1]at hi;obtain⟨v,g1,g2,g3⟩:=g i a hi;exact⟨v,by rw[if_neg (by omega)]; exact g1,g2,d _ _ g3⟩
 ·by_cases c2 : i < col + cs.length
  ·rw [if_pos c2, if_neg c1] at hi
   obtain⟨v,g1,g2⟩:=mL h hi;refine⟨v,?_,h1 v (fa g1),d _ _ g2⟩;rw[if_pos (by omega),←g1];congr 1;omega
  ·rw [if_neg c2] at hi
   have:col+cs.length+(i-(col+cs.length))=i:=by omega
   rw[this]at hi;obtain⟨v,g1,g2,g3⟩:=g i a hi;exact⟨v,by rw[if_neg (by omega)]; exact g1,g2,d _ _ g3⟩
theorem Env.mM{E:Env}{w':World}{id b n:Nat}{o o':ab}(HE:aq E)(hid:E.H[id]? = some o) (g:E.loc[id]? = some (some (b,n)))
  (k:∀ v,o'.aF = some v→o.aF = some v) (B:w'.heap.size=E.w.heap.size) (t:∀ x,x≠b→w'.heap[x]? = E.w.heap[x]?) (y:dC E.w w':=by first|exact⟨rfl,rfl,rfl,by first|exact fun _=>aH _|exact fun _=>fT _ _⟩|assumption|exact Ext.env (by assumption)) (hmm:o.db=none∨o'.db=o.db∨o'.aF = none:=by first|exact .inl rfl|exact .inr (.inl rfl)|exact .inr (.inr rfl)|exact .inl (ab.xS (by assumption))|assumption) (I:o.born=true→o'.born=true:=by first|exact fun _=>rfl|exact fun h=>h|assumption) :
  E.le { w:=w',H:=E.H.set id o',loc:=E.loc,X:=E.X }:=by
 have h:=Env.jE (w':=w') (o':=o') (l:=some (b,n)) hid HE.len (by omega) (fun x _ z=>t x (fun e=>z n (by rw[e]; exact g))) (fun J M h=>by cases h; exact .inr ⟨n,g⟩)
  (.inl fun v d => ⟨k v d, g⟩) (fun v u d hu => by rw [k v d] at hu; cases hu; exact aH _) (fun _ q => by
   cases d:o'.aF with
   |none=>rfl
   |some v=>rw[k v d]at q; cases q) y hmm
 rwa [lO g]at h
theorem aq.set{E:Env}{w':World}{id b n:Nat}{o o':ab}(HE:aq E)(hid:E.H[id]? = some o) (d:E.loc[id]? = some (some (b,n)))
  (k:∀ v,o'.aF = some v→o.aF = some v) (B:w'.heap.size=E.w.heap.size) (t:∀ x,x≠b→w'.heap[x]? = E.w.heap[x]?)
  (ho:aR { w:=w',H:=E.H.set id o',loc:=E.loc,X:=E.X } id o') (y:dC E.w w':=by first|exact⟨rfl,rfl,rfl,by first|exact fun _=>aH _|exact fun _=>fT _ _⟩|assumption|exact Ext.env (by assumption)) (hlab:o.label=none:=by first|rfl|assumption) (I:o'.label=none:=by first|rfl|assumption) (J:o.born=true→o'.born=true:=by first|exact fun _=>rfl|exact fun h=>h|assumption):aq { w:=w',H:=E.H.set id o',loc:=E.loc,X:=E.X }:=by
 have h:=aq.k0 (w':=w') (o':=o') (l:=some (b,n)) HE hid (by omega) (fun x _ z=>t x (fun e=>z n (by rw[e]; exact d))) (fun M N h=>by cases h; exact .inr ⟨n,d⟩)
  (.inl fun v g => ⟨k v g, d⟩) (fun v u g hu => by rw [k v g] at hu; cases hu; exact aH _) (fun _ q => by
   cases g:o'.aF with
   |none=>rfl
   |some v=>rw[k v g]at q; cases q) (by rw[lO d]; exact ho) y
 rwa [lO d]at h
def putCells(as cs:List AV)(col:Nat):List AV:=as.take col++cs++as.drop (col+cs.length)
def rA(P:Program)(t:TypeId)(x v:AV)(H:List ab):Option (List ab) :=
 match gG P t,pH v,x with
 | some (n,_),some cs,.ptr id ad w row col =>
  if cs.length=n then
   match H[id]? with
   |some (.box cells)=>if ad=0∧row=0∧col+n≤cells.length then some (H.set id (.box (putCells cells cs col))) else none
   | some (.vec k u rows) =>
    if ad=u∧k=w∧AV.bu cs=true then
     match rows[row]? with
     |some r=>if col+n≤r.length then some (H.set id (.vec k u (rows.set row (putCells r cs col)))) else none
     |none=>none
    else none
   |_=>none
  else none
 |_,_,_=>none
theorem JF{as cs:List AV}{col:Nat}(h:col+cs.length≤as.length):(putCells as cs col).length=as.length:=by
 simp[putCells]; omega
theorem Cx:∀(a b:List AV),AV.bu (a++b)=(AV.bu a&&AV.bu b)
 | [],b=>by simp[AV.bu]
 |x::a,b=>by simp[AV.bu,Cx a b,ahA]
theorem JG{P:Program}{E:Env}(HE:aq E){t:TypeId}{x v:AV}{c d:Value}{H':List ab}(h:rA P t x v E.H=some H')(N:rel E x c)(z:rel E v d) :
  ∃ w',(IK t c d).run P E.w=.ok () w'∧aq { w:=w',H:=H',loc:=E.loc,X:=E.X }∧E.le { w:=w',H:=H',loc:=E.loc,X:=E.X }:=by
 unfold rA at h;split at h
 case h_2=>cases h
 rename_i n ag cs id ad w row col ht hcs;obtain⟨i,dd,hi,hd,hs,ha⟩:=lK ht;obtain⟨hrel,h1⟩:=Cm hcs z;split at h
 case isFalse=>cases h
 rename_i hn;have hlen:=jd hrel;have hsz:d.cells.size=n:=by rw[←hn,hlen]; simp
 simp only[rel]at N;obtain⟨_,hpast,hlive⟩:=N;split at h
 ·rename_i cells hid
  split at h
  case isFalse=>cases h
  rename_i hc;obtain⟨rfl,rfl,hcol⟩:=hc;cases h;obtain⟨b,m,B,rfl⟩:=hlive ⟨_,hid,rfl⟩;obtain⟨b',m',J,⟨cur,el,hblk,V⟩,e3⟩:=HE.obj id _ hid;rw[B]at J;cases J;have g:col+0+d.cells.toList.length≤cur.size:=by rw[V]; simp; omega
  have I:=run_storeCells_at P b col el d.cells.toList 0 cur E.w hblk g (fun v z=>by rw[x9]; exact h1 v z);simp only[pk]at I g;generalize y:E.w.setRow b (cur.toList.take col++d.cells.toList++cur.toList.drop (col+d.cells.toList.length)).toArray=w' at I;have O:w'.heap.size=E.w.heap.size:=by rw[←y]; exact setRow_size _ _ _
  have henv:dC E.w w':=by rw[←y]; exact⟨rfl,rfl,rfl,by first|exact fun _=>aH _|exact fun _=>fT _ _⟩
  have R:∀ x,x≠b→w'.heap[x]? = E.w.heap[x]? := by intro x N; rw[←y]; exact setRow_other _ _ _ _ N
  have M:w'.heap[b]? = some (.cells (cur.toList.take col++d.cells.toList++cur.toList.drop (col+d.cells.toList.length)).toArray el (0,0)):=by
   rw[←y]; exact setRow_heap E.w b cur _ el (0,0) hblk
  have U:∀ v,(ab.box (putCells cells cs col)).aF = some v→(ab.box cells).aF = some v:=fun v z=>by simpa[ab.aF]using z
  have hle:=Env.mM (o':=.box (putCells cells cs col)) HE hid B U O R;refine⟨w',?_,aq.set HE hid B U O R ?_,hle⟩
  ·simp only [IK, nB, bT, fc, bP, storeVar, Sem.run_sizeOf hi, hs, pj, cR]
   rw[if_neg (by omega)];exact I
  ·simp only [aR]
   refine⟨b,m,B,⟨_,el,M,?_⟩,?_⟩
   ·rw [JF (by omega)]
    simp only[BL,dV,jy,pn,lE]at g⊢;omega
   ·exact Cw (o:=0) (col:=col) (fun a c hr=>bK hle a hr) hblk (by simpa using M) (by simpa using g) e3 hrel h1 (by omega)
 ·rename_i k u rows hid
  split at h
  case isFalse=>cases h
  rename_i hc;obtain⟨rfl,rfl,hclosed⟩:=hc;split at h
  case h_2=>cases h
  rename_i r W;split at h
  case isFalse=>cases h
  rename_i hcol;cases h;obtain⟨b,m,B,rfl⟩:=hlive ⟨_,hid,rfl⟩;rcases HE.obj id _ hid with⟨_,J⟩|⟨b',m',J,⟨cur,el,hblk,V⟩,e3,e4,e5⟩
  ·subst J; simp at W
  rw[B]at J;cases J;have hrlt:=aL W;obtain⟨hrk,hrc⟩:=mF e5 W;rw[cR]at hrc;have hrow1:(row+1)*k≤m*k:=tW _ (by omega);rw[fH,IL]at hrow1;have g:row*k+col+0+d.cells.toList.length≤cur.size:=by rw[V]; simp; omega
  have I:=run_storeCells_at P b (row*k+col) el d.cells.toList 0 cur E.w hblk g (fun v z=>by rw[x9]; exact h1 v z);simp only[pk]at I g;generalize y:E.w.setRow b (cur.toList.take (row*k+col)++d.cells.toList++cur.toList.drop (row*k+col+d.cells.toList.length)).toArray=w' at I;have O:w'.heap.size=E.w.heap.size:=by rw[←y]; exact setRow_size _ _ _
  have henv:dC E.w w':=by rw[←y]; exact⟨rfl,rfl,rfl,by first|exact fun _=>aH _|exact fun _=>fT _ _⟩
  have R:∀ x,x≠b→w'.heap[x]? = E.w.heap[x]? := by intro x N; rw[←y]; exact setRow_other _ _ _ _ N
  have M:w'.heap[b]? = some (.cells (cur.toList.take (row*k+col)++d.cells.toList++cur.toList.drop (row*k+col+d.cells.toList.length)).toArray el (0,0)):=by
   rw[←y]; exact setRow_heap E.w b cur _ el (0,0) hblk
  have U:∀ v,(ab.vec k ad (rows.set row (putCells r cs col))).aF = some v→(ab.vec k ad rows).aF = some v:=fun v z=>by simpa[ab.aF]using z
  have hle:=Env.mM (o':=.vec k ad (rows.set row (putCells r cs col))) HE hid B U O R;refine⟨w',?_,aq.set HE hid B U O R ?_,hle⟩
  ·simp only [IK, nB, bT, fc, bP, storeVar, Sem.run_sizeOf hi, hs]
   rw[if_neg (by omega)];exact I
  ·simp only [aR]
   right;refine⟨b,m,B,⟨_,el,M,?_⟩,by simpa using e3,?_,?_⟩
   ·simp only [BL, dV, jy, pn, lE, V] at g ⊢
    omega
   ·intro r' hr'
    rcases List.mem_or_eq_of_mem_set hr' with h'|h'
    ·exact e4 r' h'
    ·rw [h', putCells, Cx, Cx]
     have:=e4 r (fa W);simp[x3 _ _ this,uk _ _ this,hclosed]
   ·rw [lH] at e5 ⊢
    intro j r' hj;rw[dS]at hj;split at hj
    ·rename_i ej
     subst ej;cases hj;refine⟨by rw[JF (by omega)]; exact hrk,?_⟩;rw[cR];exact Cw (fun a c hr=>bK hle a hr) hblk M g hrc hrel h1 (by omega)
    ·rename_i ej
     obtain⟨g1,g2⟩:=e5 j r' hj;refine⟨g1,?_⟩;rw[iL]at g2⊢;intro q a hq;obtain⟨vv,p1,p2,p3⟩:=g2 q a hq;refine⟨vv,?_,p2,bK hle a p3⟩;have hql:=aL hq;rw[JE hblk M g,if_neg]
     ·exact p1
     ·rcases Nat.lt_or_gt_of_ne ej with hlt | hgt
      ·have : (row + 1) * k ≤ j * k := tW _ (by omega)
       rw[fH,IL]at this;simp only[lE];omega
      ·have : (j + 1) * k ≤ row * k := tW _ (by omega)
       rw[fH,IL]at this;omega
 ·cases h
theorem JH{E:Env}(HE:aq E){cells:List AV}{vals:Array Value}{el:TypeId}(g:ae E cells vals.toList)(h1:∀ x∈vals.toList,dw x=true) :
  cL E (.ptr E.H.length 0 0 0 0) (E.H++[.box cells]) (.pointer (some ⟨E.w.heap.size,0,none⟩)) { E.w with heap:=E.w.heap.push (.cells vals el) }:=by
 have d:=Ext.push E.w (.cells vals el);have hle:=Env.jD (o:=.box cells) (l:=some (E.w.heap.size,0)) HE.len d (fun b n hb=>by cases hb; exact aH _);have hblk:(E.w.heap.push (.cells vals el))[E.w.heap.size]? = some (.cells vals el (0,0)):=by simp
 have h:ae (E.push { E.w with heap:=E.w.heap.push (.cells vals el) } (.box cells) (some (E.w.heap.size,0))) cells vals.toList:=dN hle _ g;refine⟨E.loc++[some (E.w.heap.size,0)],E.X.r,?_,aq.push HE d (fun b n hb=>?_) ?_,hle⟩
 ·simp only [rel]
  refine⟨⟨_,_,rfl⟩,⟨.box cells,by simp,rfl,fun v k=>by simp⟩,fun _=>⟨E.w.heap.size,0,?_,by simp⟩⟩;rw[←HE.len]; simp
 ·cases hb
  exact⟨aH _,by simp⟩
 ·simp only [aR]
  refine⟨E.w.heap.size,0,?_,⟨vals,el,hblk,?_⟩,Cp (cs:=vals) (el:=el) (fr:=(0,0)) hblk h h1⟩
  ·simp only[Env.push]; rw[←HE.len]; simp
  ·have := jd g
   simpa using this.symm
def yc(P:Program)(t:TypeId):Option TypeId:=match dZ P t with
 | some [.pointer none,.slice none 0 0]=>match P.underlying t with
  | some (.struct d)=>match d[1]? with
   | some fd=>match P.underlying fd.type with
    | some (.slice e)=>match P.underlying e with
     |some (.int .u8)=>some e
     |_=>none
    |_=>none
   |none=>none
  |_=>none
 |_=>none
theorem TA{P:Program}{t e:TypeId}(h:yc P t=some e):dZ P t=some [.pointer none,.slice none 0 0]:=by
 unfold yc at h;split at h
 ·assumption
 ·cases h
def mN(H:List ab)(l:Nat):Bool:=H.all fun o=>match o.label with
 |some k => !af k l
 |none=>true
theorem uu{H:List ab}{l:Nat}(h:mN H l=true)(i:Nat)(o:ab)(hi:H[i]? = some o):o.label≠some l:=fun e=>by
 have:=bO.1 h o (fa hi);rw[e]at this;simp at this
theorem TB{E:Env}(HE:aq E){t e:TypeId}(d:mN E.H 0=true) :
  cL E (.ptr E.H.length 0 0 0 0) (E.H++[.bJ 0 t e tS]) (.pointer (some ⟨E.w.heap.size,0,none⟩)) { E.w with heap:=E.w.heap.push (.cells #[.pointer none,.slice none 0 0] t) }:=by
 have h:=Ext.push E.w (.cells #[.pointer none,.slice none 0 0] t);obtain⟨h1,k⟩:=aq.Tb (o:=.bJ 0 t e tS) (l:=some (E.w.heap.size,0)) (l0:=0) HE h (fun b n hb=>by cases hb; exact⟨aH _,by simp⟩) rfl (uu d) (by
  simp only[aR];refine⟨E.w.heap.size,0,.pointer none,.slice none 0 0,(E.X.r 0).length,none,?_,?_,.inl rfl,?_,?_,⟨rfl,rfl⟩⟩
  ·rw[←HE.len]; simp
  ·simp
  ·simp[ij,XS.re]
  ·intro h' q' q
   rcases B8 (show (ij E.X.r 0 0)[h']? = some (some q') from q)with g|⟨_,g,_⟩
   ·exact(HE.gk 0 (uu d) h' q' g).elim
   ·exact g)
 refine⟨E.loc++[some (E.w.heap.size,0)],ij E.X.r 0,?_,h1,k⟩;simp only[rel];refine⟨⟨_,_,rfl⟩,⟨.bJ 0 t e tS,by simp,rfl,fun v u=>by simp⟩,fun _=>⟨E.w.heap.size,0,?_,by simp⟩⟩;rw[←HE.len]; simp
def pJ(P:Program)(t:TypeId)(H:List ab):Option (AV × List ab) :=
 match yc P t with
 |some e=>if mN H 0=true then some (.ptr H.length 0 0 0 0,H++[.bJ 0 t e tS]) else none
 | none=>match dZ P t with
  |some z=>some (.ptr H.length 0 0 0 0,H++[.box (z.map .lit)])
  |none=>none
theorem TC{P:Program}{E:Env}(HE:aq E){t:TypeId}{v:AV}{H':List ab}(h:pJ P t E.H=some (v,H')) :
  ∃ u w',(BM t true (.tuple #[])).run P E.w=.ok u w'∧cL E v H' u w':=by
 unfold pJ at h;split at h
 ·rename_i e he
  split at h
  case isFalse=>cases h
  rename_i B;cases h;obtain⟨i,g,h1,k,d,y⟩:=lM (TA he);have q:g.cells=#[.pointer none,.slice none 0 0]:=gg (by simpa using d);refine⟨_,_,?_,TB HE (t:=t) (e:=e) B⟩;simp[BM,lN h1 k,newVar,newRow,q]
 split at h
 ·rename_i z q
  cases h;obtain⟨i,g,h1,k,d,y⟩:=lM q;refine⟨_,_,?_,JH HE (vals:=g.cells) (el:=t) (by rw[d]; exact mE z) (by rw[d]; exact y)⟩;simp[BM,lN h1 k,newVar,newRow]
 ·cases h
def zc:Option (List Kd)→Value→AV
 |some ks,.slice none 0 0=>.listF ks []
 |_,v=>.lit v
def dO:List (Option (List Kd))→List Value→List AV
 |_,[]=>[]
 | [],v::z=>.lit v::dO [] z
 |a::m,v::z=>zc a v::dO m z
theorem yd:∀(m:List (Option (List Kd))) (z:List Value),(dO m z).length=z.length
 | [],[]=>rfl
 |_::_,[]=>rfl
 | [],v::z=>by simp[dO,yd [] z]
 |a::m,v::z=>by simp[dO,yd m z]
theorem TD{E:Env}(a:Option (List Kd))(v:Value):rel E (zc a v) v:=by
 unfold zc;split
 ·simp only [rel, dG]
  exact⟨none,0,rfl,aH _,.inl rfl⟩
 ·simp[rel]
theorem Cy{E:Env}:∀(m:List (Option (List Kd))) (z:List Value),ae E (dO m z) z
 | [],[]=>by simp[dO,ae]
 |_::_,[]=>by simp[dO,ae]
 | [],v::z=>by simp only[dO,ae]; exact⟨by simp[rel],Cy [] z⟩
 |a::m,v::z=>by simp only[dO,ae]; exact⟨TD a v,Cy m z⟩
theorem TE(a:Option (List Kd))(v:Value):(zc a v).closed=true:=by
 unfold zc;split<;>rfl
theorem Cz:∀(m:List (Option (List Kd))) (z:List Value),AV.bu (dO m z)=true
 | [],[]=>rfl
 |_::_,[]=>rfl
 | [],v::z=>by simp[dO,AV.bu,AV.closed,Cz [] z]
 |a::m,v::z=>by simp[dO,AV.bu,TE,Cz m z]
def nU(P:Program)(t:TypeId)(id:Nat) (m:List (Option (List Kd))) (H:List ab):Option (AV × List ab) :=
 match dZ P t,H[id]? with
 |some z,some (.vec k 0 [])=>if k=z.length then some (.ptr id 1 k 0 0,H.set id (.vec k 1 [dO m z])) else none
 |_,_=>none
theorem TF{E:Env}(HE:aq E){id k:Nat}{cells:List AV}{vals:Array Value}{el:TypeId}(hid:E.H[id]? = some (.vec k 0 []))(d:ae E cells vals.toList)(h1:∀ x∈vals.toList,dw x=true)(hk:cells.length=k)
  (M:AV.bu cells=true) :
  cL E (.ptr id 1 k 0 0) (E.H.set id (.vec k 1 [cells])) (.pointer (some ⟨E.w.heap.size,0,none⟩)) { E.w with heap:=E.w.heap.push (.cells vals el) }:=by
 have q:=Ext.push E.w (.cells vals el);have I:=aL hid;have y:∀ v,(ab.vec k 1 [cells]).aF = some v→∀ u,(ab.vec k 0 []).aF = some u→u<v:=by
  intro v g u hu;simp[ab.aF]at g hu;omega
 have J:∀ v u,(ab.vec k 1 [cells]).aF = some v→(ab.vec k 0 []).aF = some u→u≤v:=by
  intro v u g hu;simp[ab.aF]at g hu;omega
 have z:(ab.vec k 0 []).aF = none→(ab.vec k 1 [cells]).aF = none:=by simp[ab.aF]
 have hle:E.le { w:={ E.w with heap:=E.w.heap.push (.cells vals el) },H:=E.H.set id (.vec k 1 [cells]),loc:=E.loc.set id (some (E.w.heap.size,1)),X:=E.X } :=
  Env.jE hid HE.len q.size (fun x t _=>q.same x t) (fun b n h=>by cases h; exact .inl (aH _)) (.inr y) J (fun _=>z)
 have hblk:(E.w.heap.push (.cells vals el))[E.w.heap.size]? = some (.cells vals el (0,0)):=by simp
 have B:(E.loc.set id (some (E.w.heap.size,1)))[id]? = some (some (E.w.heap.size,1)):=bk (by rw[HE.len]; exact I);have N:=dN hle _ d;refine⟨E.loc.set id (some (E.w.heap.size,1)),E.X.r,?_,?_,hle⟩
 ·simp only [rel]
  refine⟨⟨_,_,rfl⟩,⟨.vec k 1 [cells],by simp[I],rfl,fun v g=>by simp[ab.aF]at g; omega⟩,fun _=>⟨E.w.heap.size,1,B,by simp⟩⟩
 ·refine aq.k0 HE hid q.size (fun x t _ => q.same x t) (fun b n h => by cases h; exact .inl ⟨aH _, by simp⟩) (.inr y) J (fun _ => z) ?_
  simp only[aR];right;refine⟨E.w.heap.size,1,B,⟨vals,el,hblk,?_⟩,by simp,?_,?_⟩
  ·have := jd d
   rw[IL,←hk];simpa using this.symm
  ·intro r d
   simp at d;rw[d];exact M
  ·simp only [cz, and_true]
   exact⟨hk,Cp (cs:=vals) (el:=el) (fr:=(0,0)) hblk N h1⟩
theorem TG{P:Program}{E:Env}(HE:aq E){t:TypeId}{id:Nat}{m:List (Option (List Kd))}{v:AV}{H':List ab}(h:nU P t id m E.H=some (v,H')) :
  ∃ u w',(BM t true (.tuple #[])).run P E.w=.ok u w'∧cL E v H' u w':=by
 unfold nU at h;split at h
 ·rename_i z k g hid
  split at h
  ·rename_i hk
   cases h;obtain⟨i,q,h1,y,d,B⟩:=lM g;refine⟨_,_,?_,TF HE (vals:=q.cells) (el:=t) hid (by rw[d]; exact Cy m z) (by rw[d]; exact B) (by rw[yd,hk]) (Cz m z)⟩;simp[BM,lN h1 y,newVar,newRow]
  ·cases h
 ·cases h
def ye(v:AV)(H:List ab):Option (AV × List ab) :=
 match pH v with
 |some cs=>some (.ptr H.length 0 0 0 0,H++[.box cs])
 |none=>none
theorem TH{P:Program}{E:Env}(HE:aq E){t:TypeId}{x v:AV}{c:Value}{H':List ab}(h:ye x E.H=some (v,H'))(g:rel E x c) :
  ∃ u w',(ahI t c).run P E.w=.ok u w'∧cL E v H' u w':=by
 unfold ye at h;split at h
 ·rename_i cs d
  cases h;obtain⟨h1,k⟩:=Cm d g;refine⟨_,_,?_,JH HE (vals:=c.cells) (el:=t) h1 k⟩;simp[ahI,newVar,newRow]
 ·cases h
theorem JI{E:Env}(HE:aq E){sz n C:Nat}{rows:List (List AV)}{vals rest:List Value}{el:TypeId}(g:ae E rows.flatten vals)(h1:∀ x∈vals,dw x=true)
  (hw:∀ r∈rows,r.length=sz) (t:ff rows) (d:rows.length=n) (hC:n≤C) (q:rest.length=(C-n)*sz) :
  cL E (.vec sz E.H.length 0 0 n) (E.H++[.vec sz 0 rows]) (.slice (some ⟨E.w.heap.size,0,none⟩) n C) { E.w with heap:=E.w.heap.push (.cells (vals++rest).toArray el) }:=by
 have h:=Ext.push E.w (.cells (vals++rest).toArray el);have hle:=Env.jD (o:=.vec sz 0 rows) (l:=some (E.w.heap.size,C)) HE.len h (fun b n hb=>by cases hb; exact aH _);have hblk:(E.w.heap.push (.cells (vals++rest).toArray el))[E.w.heap.size]? = some (.cells (vals++rest).toArray el (0,0)):=by simp
 have k:=Cs (E':=E.push { E.w with heap:=E.w.heap.push (.cells (vals++rest).toArray el) } (.vec sz 0 rows) (some (E.w.heap.size,C))) (fun a c g=>bK hle a g) hblk g h1 hw d hC q;refine⟨E.loc++[some (E.w.heap.size,C)],E.X.r,?_,aq.push HE h (fun b n hb=>?_) ?_,hle⟩
 ·simp only [rel]
  refine⟨⟨_,_,rfl,hC,fun _=>⟨_,_,rfl⟩⟩,⟨.vec sz 0 rows,by simp,rfl,fun v u=>by simp[ab.aF]at u; omega⟩,fun _=>⟨fun d=>?_,fun b M d=>?_⟩⟩
  ·rw[←HE.len]at d; simp at d
  ·rw [← HE.len] at d
   simp at d;obtain⟨rfl,rfl⟩:=d;exact⟨by omega,0,fun _=>by simp,by simp⟩
 ·cases hb
  exact⟨aH _,by simp⟩
 ·simp only [aR]
  right;refine⟨E.w.heap.size,C,?_,k.1,by omega,t,k.2⟩;simp only[Env.push];rw[←HE.len];simp
theorem range_zero(z:Array Value)(n:Nat)(h:0<z.size):((gD (n*z.size)).map (fun i=>z[i%z.size]!)).toList=(bU n z.toList).flatten:=by
 induction n with
 |zero=>simp
 | succ n d =>
  rw[List.replicate_succ',xy,←d];simp only[qO,List.flatten_nil,dx];apply kP;intro i;simp only[IH,Array.toList_range,bR,fb,dv,List.length_range];by_cases c1:i<n*z.size
  ·have c2 : i < (n + 1) * z.size := by rw [fH]; omega
   simp[c1,c2]
  ·by_cases c2 : i < (n + 1) * z.size
   ·have c3 : i - n * z.size < z.size := by rw [fH] at c2; omega
    have g:i%z.size=i-n*z.size:=by
     have:i=i-n*z.size+n*z.size:=by omega
     rw[this,Nat.add_mul_mod_self_right,Nat.mod_eq_of_lt c3];omega
    simp[c1,c2,g,c3]
   ·have c3 : ¬ (i - n * z.size < z.size) := by rw [fH] at c2; omega
    simp[c1,c2,c3]
theorem JJ(f:Nat→Value):IM f (gD 0)=#[]:=by apply gg; simp
def TI:Value→Option Kd
 |.int k _=>some (.int k)
 |.string _=>some .str
 |.bool _=>some .bool
 |_=>none
def CA:List Value→Option (List Kd)
 | []=>some []
 | v::vs=>match TI v,CA vs with
  |some k,some ks=>some (k::ks)
  |_,_=>none
def CB(P:Program)(t:TypeId):Option (List Kd):=match P.underlying t with
 | some (.slice e)=>match P.info? e with
  | some i=>match i.zero with
   |some (.agg cs)=>CA cs.toList
   |some v=>CA [v]
   |none=>none
  |none=>none
 |_=>none
def CC(P:Program):Nat→TypeId→List TypeId
 |0,t=>[t]
 | d+1,t=>match P.underlying t with
  |some (.struct g)=>(g.toList.map fun f=>CC P d f.type).flatten
  |some (.array n e)=>(bU n (CC P d e)).flatten
  |_=>[t]
def mO:List Value→List (Option (List Kd))→List AV
 | [],_=>[]
 | v::vs,ks=>(match v,ks.headD none with
  |.slice none 0 0,some k=>.listF k []
  |v,_=>.lit v)::mO vs ks.tail
def yf(P:Program)(e:TypeId)(z:List Value):List AV:=mO z ((CC P 4 e).map (CB P))
theorem JK:∀(z:List Value) (ks:List (Option (List Kd))),(mO z ks).length=z.length
 | [],_=>rfl
 |_::z,ks=>by simp[mO,JK z]
theorem JL{E:Env}:∀(z:List Value) (ks:List (Option (List Kd))),ae E (mO z ks) z
 | [],_=>by simp[mO,ae]
 | v::z,ks=>by
  simp only[mO,ae];refine⟨?_,JL z _⟩;split
  ·simp only [rel, dG, G.rows]
   exact⟨none,0,rfl,aH _,.inl (by first|rfl|trivial)⟩
  ·simp[rel]
theorem JM:∀(z:List Value) (ks:List (Option (List Kd))),AV.bu (mO z ks)=true
 | [],_=>rfl
 | v::z,ks=>by
  simp only[mO,AV.bu,JM z,fG];split<;>rfl
theorem JN{E:Env}{as:List AV}{z:List Value}(h:ae E as z):∀ n:Nat,ae E (bU n as).flatten (bU n z).flatten
 |0=>by simp[ae]
 | n+1=>by
  simp only[Sm,qO];exact mJ h (JN h n)
def uv(P:Program)(t:TypeId)(l c:AV)(H:List ab):Option (AV × List ab) :=
 match cr P t,l,c with
 | .slice e sz d,.lit (.int _ l),.lit (.int _ c) =>
  match dZ P e with
  | some z=>if z.length=sz∧0<sz∧0≤l∧l≤c∧c≤1048576∧d≤1048576 then
    some (.vec sz H.length 0 0 l.toNat,H++[.vec sz 0 (bU l.toNat (yf P e z))]) else none
  |none=>none
 |_,_,_=>none
theorem wrap_small{n:Int}(h0:0≤n)(h1:n≤1048576):IntKind.i64.wrap n=n:=by
 simp[IntKind.wrap,IntKind.bits,IntKind.signed];omega
theorem uw{E:Env}(z:List Value):∀ n:Nat,ae E (bU n (z.map AV.lit)).flatten (bU n z).flatten
 |0=>by simp[ae]
 | n+1=>by
  simp only[Sm,qO];exact mJ (mE z) (uw z n)
theorem ux{α:Type}{z:List α}{n:Nat}{x:α}(h:x∈(bU n z).flatten):x∈z:=by
 obtain⟨l,h1,d⟩:=List.mem_flatten.1 h;rw[Sn h1]at d;exact d
theorem CD:∀(z:List Value),AV.bu (z.map .lit)=true
 | []=>rfl
 |v::z=>by simp[AV.bu,AV.closed,CD z]
theorem TJ{P:Program}{E:Env}(HE:aq E){t:TypeId}{l c v:AV}{cl M:Value}{H':List ab}(h:uv P t l c E.H=some (v,H'))
  (N:rel E l cl) (O:rel E c M):∃ u w',(ahJ t cl M).run P E.w=.ok u w'∧cL E v H' u w':=by
 unfold uv at h;split at h
 case h_2=>cases h
 rename_i e sz by_ k1 l k2 c hk;simp only[rel]at N O;subst N; subst O;obtain⟨hu,i,hi,hs,hby⟩:=gH hk;split at h
 case h_2=>cases h
 rename_i z hz;split at h
 case isFalse=>cases h
 rename_i U;obtain⟨g1,g2,g3,g4,g5,g6⟩:=U;cases h;obtain⟨i',d,B,W,I,hz3⟩:=lM hz;rw[hi]at B;cases B;have wl:IntKind.i64.wrap l=l:=wrap_small g3 (by omega);have wc:IntKind.i64.wrap c=c:=wrap_small (by omega) g5;have hbc:(i.bytes:Int)*c≤1048576*1048576:=by
  have h1:(i.bytes:Int)≤1048576:=by omega
  have g:(0:Int)≤c:=by omega
  exact Int.mul_le_mul h1 g5 g (by omega)
 have hne:¬ (281474976710656<(i.bytes:Int)*c):=by omega
 have hzs:d.cells.size=sz:=by rw[←g1,←I]; simp
 have y:(bU l.toNat z).flatten++(bU (c.toNat-l.toNat) z).flatten=(bU c.toNat z).flatten:=by
  rw[←xy,List.replicate_append_replicate];congr 2;omega
 obtain⟨vals,k⟩:∃ vals,vals=(bU l.toNat z).flatten:=⟨_,rfl⟩
 obtain⟨rest,J⟩:∃ rest,rest=(bU (c.toNat-l.toNat) z).flatten:=⟨_,rfl⟩
 have V:rest.length=(c.toNat-l.toNat)*sz:=by rw[J]; simp[g1]
 rw[←k,←J]at y;refine⟨.slice (some ⟨E.w.heap.size,0,none⟩) l.toNat c.toNat,{ E.w with heap:=E.w.heap.push (.cells (vals++rest).toArray e) },?_,?_⟩
 ·have h1 : ¬ c < 0 := by omega
  have g:¬ l<0:=by omega
  have h3:¬ c<l:=by omega
  simp only[ahJ,bT,Sem.a_ hu,bP,asInt,asIntOf,fc,typeInfo,run_program,hi,wl,wc];rw[if_neg (by simp[h1,g,h3,hne])];simp only[bT,run_askRoom,bP,Sem.run_sizeOf hi];rw[y];by_cases h0:c.toNat*i.size=0
  ·have:c.toNat=0:=by
    rcases Sp.1 h0 with h|h
    ·exact h
    ·omega
   rw[if_pos h0];simp only[bT,fc,bP,newRow,this,pj,JJ];simp
  ·rw [if_neg h0]
   simp only[bT,lN hi W,bP,fc,newRow];have:(IM (fun x=>d.cells[x%d.cells.size]!) (gD (c.toNat*i.size)))=(bU c.toNat z).flatten.toArray:=by
    apply gg;rw[hs,←hzs,range_zero d.cells c.toNat (by omega),I]
   rw[this];simp
 ·refine JI HE (C := c.toNat) (by rw [k]; exact JN (JL z _) _) (by intro x R; rw [k] at R; exact hz3 x (ux R)) ?_ ?_ (by simp) (by omega) V
  ·intro r q
   have:=Sn q;rw[this];rw[yf,JK]; exact g1
  ·intro r q
   have:=Sn q;rw[this];exact JM z _
def rB(P:Program)(t:TypeId)(n:Nat)(parts:List (Nat × AV)):Option AV :=
 match cr P t with
 | .slice e sz _=>match dZ P e with
  | some z=>if z.length=sz∧0<sz∧n*sz≤1048576 then
    match pI (fun i=>some (i*sz,sz)) (bU n (z.map AV.lit)).flatten parts with
    |some out=>if AV.bu out=true∧out.length=n*sz then some (match n with|0=>.nils|_=>.list sz (chunk sz n out)) else none
    |none=>none
   else none
  |none=>none
 |_=>none
theorem TK{P:Program}{E:Env}(HE:aq E){t:TypeId}{n:Nat}{parts:List (Nat × AV)}{cparts:List (Nat × Value)}{v:AV}(h:rB P t n parts=some v)
  (hm:parts.map (·.1)=cparts.map (·.1)) (hv:ae E (parts.map (·.2)) (cparts.map (·.2))) :
  ∃ u w',(IN t n cparts.toArray).run P E.w=.ok u w'∧Ext E.w w'∧rel { E with w:=w' } v u:=by
 unfold rB at h;split at h
 case h_2=>cases h
 rename_i e sz by_ hk;obtain⟨hu,i,hi,k,_⟩:=gH hk;split at h
 case h_2=>cases h
 rename_i z hz;obtain⟨i',q,I,R,J,U⟩:=lM hz;rw[hi]at I;cases I;split at h
 case isFalse=>cases h
 rename_i hc;obtain⟨g1,g2,g3⟩:=hc;split at h
 case h_2=>cases h
 rename_i out O;split at h
 case isFalse=>cases h
 rename_i M;cases h;have V:q.cells.size=sz:=by rw[←g1,←J]; simp
 obtain⟨d,g⟩:∃ d:Array Value,d.toList=(bU n z).flatten:=⟨((bU n z).flatten).toArray,by simp⟩
 obtain⟨o,f1,f2,f3⟩:=uq (E:=E) (cs:=d) O (by rw[g]; exact uw z n) (by rw[g]; intro x y; exact U x (ux y)) hm hv;have B:=Ext.push E.w (.cells o e);have hblk:(E.w.heap.push (.cells o e))[E.w.heap.size]? = some (.cells o e (0,0)):=by simp
 refine⟨.slice (some ⟨E.w.heap.size,0,none⟩) n n,{ E.w with heap:=E.w.heap.push (.cells o e) },?_,B,?_⟩
 ·have W : ¬ (n * i.size > 2 ^ 24) := by rw [k]; omega
  simp only[IN,bT,Sem.a_ hu,bP,Sem.run_sizeOf hi];rw[if_neg W];by_cases h0:n*i.size=0
  ·have N:n=0:=by
    rcases Sp.1 h0 with h|h
    ·exact h
    ·omega
   have:d=#[]:=by apply gg; rw[g,N]; rfl
   rw[if_pos h0];rw[this]at f1;simp only[bT,fc,bP,N,pj,JJ,k,f1];simp[newRow]
  ·rw [if_neg h0]
   simp only[bT,lN hi R,bP,fc];have:(IM (fun x=>q.cells[x%q.cells.size]!) (gD (n*i.size)))=d:=by
    apply gg;rw[k,←V,range_zero q.cells n (by omega),J,g]
   rw[this,k,f1];simp[newRow]
 ·have hle : E.le { E with w := { E.w with heap := E.w.heap.push (.cells o e) } } := Env.gl B
  cases n with
  |zero=>simp only[rel]; exact⟨_,rfl⟩
  |succ n =>
  simp only[rel];refine⟨Co sz _ out M.1,some ⟨E.w.heap.size,0,none⟩,n+1,by rw[ur],by rw[ur]; exact aH _,.inr ⟨E.w.heap.size,0,rfl,?_,?_⟩⟩
  ·refine ⟨by simp, ?_, fun y => by have := HE.X _ y; omega⟩
   rintro ho;have:=(HE.xW ho).1;omega
  ·exact Ju sz _ out _ 0 M.2 (Cp (cs:=o) (el:=e) (fr:=(0,0)) hblk (dN hle _ f2) f3)
end Go.AL

namespace Go.AL
open Go
variable [Dr]
def yg(P:Program)(t:TypeId)(x:AV)(H:List ab):Option (AV × List ab) :=
 match cr P t,x with
 |.str,.lit (.string s)=>some (.ptr H.length 0 0 0 0,H++[.iter s 0])
 |_,_=>none
theorem TL{E:Env}(HE:aq E)(s:ByteArray) :
  cL E (.ptr E.H.length 0 0 0 0) (E.H++[.iter s 0]) (.pointer (some ⟨E.w.heap.size,0,none⟩)) { E.w with heap:=E.w.heap.push (.stringIter s 0) }:=by
 have d:=Ext.push E.w (.stringIter s 0);have hle:=Env.jD (o:=.iter s 0) (l:=some (E.w.heap.size,0)) HE.len d (fun b n hb=>by cases hb; exact aH _);have hblk:(E.w.heap.push (.stringIter s 0))[E.w.heap.size]? = some (.stringIter s 0):=by simp
 refine⟨E.loc++[some (E.w.heap.size,0)],E.X.r,?_,aq.push HE d (fun b n hb=>?_) ?_,hle⟩
 ·simp only [rel]
  refine⟨⟨_,_,rfl⟩,⟨.iter s 0,by simp,rfl,fun v g=>by simp⟩,fun _=>⟨E.w.heap.size,0,?_,by simp⟩⟩;rw[←HE.len]; simp
 ·cases hb
  exact⟨aH _,by simp⟩
 ·simp only [aR]
  refine⟨E.w.heap.size,0,?_,hblk⟩;simp only[Env.push]; rw[←HE.len]; simp
theorem TM{P:Program}{E:Env}(HE:aq E){t:TypeId}{x v:AV}{c:Value}{H':List ab}(h:yg P t x E.H=some (v,H'))(d:rel E x c) :
  ∃ u w',(Sq t c).run P E.w=.ok u w'∧cL E v H' u w':=by
 unfold yg at h;split at h
 ·rename_i s hk
  cases h;simp only[rel]at d;subst d;refine⟨_,_,?_,TL HE s⟩;simp[Sq,Sem.a_ (pG hk),newObj];rfl
 ·cases h
def yh(x:AV)(isString:Bool)(H:List ab):Option (AV × List ab) :=
 match x,isString with
 | .ptr id 0 _ 0 0,true=>match H[id]? with
  | some (.iter s pos)=>if pos<s.size then some (.tuple [.lit (.bool true),.lit (goInt pos),.lit (.int .i32 (nH s pos).1)],H.set id (.iter s (pos+(nH s pos).2)))
    else some (.tuple [.lit (.bool false)],H)
  |_=>none
 |_,_=>none
theorem TN{P:Program}{E:Env}(HE:aq E){x v:AV}{c:Value}{isString:Bool}{ty:TypeId}{H':List ab}(h:yh x isString E.H=some (v,H'))(I:rel E x c) :
  ∃ u w',(Instr.next c isString ty).run P E.w=.ok u w'∧cL E v H' u w':=by
 unfold yh at h;split at h
 case h_2=>cases h
 rename_i id k;split at h
 case h_2=>cases h
 rename_i s pos hid;have ho:=HE.obj id _ hid;simp only[aR]at ho;obtain⟨b,n,h1,g⟩:=ho;simp only[rel]at I;obtain⟨_,_,J⟩:=I;obtain⟨O,R,g1,g2⟩:=J ⟨_,hid,rfl⟩;rw[h1]at g1;simp only[aX,a8]at g1;obtain⟨rfl,rfl⟩:=g1;have hb:=(HE.lt id b n h1).1;split at h
 ·rename_i d
  cases h;subst g2;have B:({ E.w with heap:=E.w.heap.setIfInBounds b (.stringIter s (pos+(nH s pos).2)) }:World).heap.size=E.w.heap.size:=by simp
  have z:∀ y,y≠b→({ E.w with heap:=E.w.heap.setIfInBounds b (.stringIter s (pos+(nH s pos).2)) }:World).heap[y]? = E.w.heap[y]? := by
   intro y M;simp only[BO];rw[if_neg (fun e=>M e.symm)]
  refine⟨.tuple #[.bool true,goInt pos,.int .i32 (nH s pos).1],{ E.w with heap:=E.w.heap.setIfInBounds b (.stringIter s (pos+(nH s pos).2)) },?_,E.loc,E.X.r,?_,?_,?_⟩
  ·have q : (getObj b).run P E.w = .ok (.stringIter s pos) E.w := by simp [getObj, gE, g]
   have N:(setObj b (.stringIter s (pos+(nH s pos).2))).run P E.w=.ok () { E.w with heap:=E.w.heap.setIfInBounds b (.stringIter s (pos+(nH s pos).2)) }:=by
    simp[setObj,gE,g]
   simp only[Instr.next,pj,pk,bT,q,bP,d,if_true];rw[N];rfl
  ·simp[rel,ae]
  ·exact HE.set hid h1 (fun v t=>t) B z (by
    simp only[aR];exact⟨b,n,h1,by simp[hb]⟩)
  ·exact Env.mM HE hid h1 (fun v t=>t) B z
 ·rename_i d
  cases h;subst g2;refine⟨.tuple #[.bool false],E.w,?_,E.loc,E.X.r,by simp[rel,ae],by simpa using HE,Env.le.refl E⟩;have q:(getObj b).run P E.w=.ok (.stringIter s pos) E.w:=by simp[getObj,gE,g]
  simp only[Instr.next,pj,pk,bT,q,bP,d,if_false];rfl
end Go.AL

namespace Go.AL
open Go
variable [Dr]
def il(P:Program)(d:TypeId)(a:AV):Option (List Value) :=
 match flatK P mI d with
 |none=>none
 | some ks=>match a with
  |.lit v=>if cA ks [v]=true∧mH (P.underlying d)=false then some [v] else none
  | .agg as=>match mG as with
   |some l=>if cA ks l=true∧mH (P.underlying d)=true then some l else none
   |none=>none
  |_=>none
def mP(P:Program)(d:TypeId)(l:List Value)(c:Value):Prop:=isVal P d c l∧∃ ks,flatK P mI d=some ks∧cA ks l=true
theorem im{P:Program}{E:Env}{k:TypeId}{a:AV}{l:List Value}{c:Value}(h:il P k a=some l)(g:rel E a c):mP P k l c:=by
 unfold il at h;split at h
 ·cases h
 rename_i ks hk;split at h
 ·split at h
  ·rename_i v d
   cases h;simp only[rel]at g;subst g;refine⟨?_,ks,hk,d.1⟩;unfold isVal;split
   ·rename_i q hu
    rw[hu]at d;exact absurd d.2 (by simp[mH])
   ·rfl
  ·cases h
 ·split at h
  ·rename_i as l' u
   split at h
   ·rename_i d
    cases h;simp only[rel]at g;obtain⟨cs,rfl,_,y⟩:=g;refine⟨?_,ks,hk,d.1⟩;have e:=x8 u y;unfold isVal;split
    ·exact⟨cs,rfl,e⟩
    ·rename_i t
     exfalso;have:=d.2;unfold mH at this;split at this
     ·rename_i q hu
      exact t q hu
     ·cases this
   ·cases h
  ·cases h
 ·cases h
theorem JO{P:Program}:∀(d:Nat) (k:List Field) (off:Nat) (ks:List SK),uo P d k off=some ks→∀(xs:Array Value),cA ks (xs.toList.drop off)=true→∀ w:World,∀ f∈k,f.name ≠ "_" ∧
  ∃ q x vs,flatK P d f.type=some q∧(part f.type xs f.offset).run P w=.ok x w∧isVal P f.type x vs∧cA q vs=true
 |d,[],off,ks,hk,xs,v,w,f,h=>by cases h
 | d,g::k,off,ks,hk,xs,v,w,f,h=>by
  unfold uo rm at hk;split at hk
  ·cases hk
  rename_i y;split at hk
  case h_2=>cases hk
  rename_i q n R z J;split at hk
  case isFalse=>cases hk
  rename_i B;split at hk
  case h_2=>cases hk
  rename_i l M;cases hk;have I:g.offset=off:=by
   by_cases e:g.offset=off
   ·exact e
   ·exact(y (.inr e)).elim
  obtain⟨t,u⟩:=x7 v;rw[←B]at t u;rcases bS.1 h with rfl|h
  ·obtain ⟨x, N, O⟩ := Cg J z B xs off t w
   exact⟨fun e=>y (.inl e),q,x,_,z,by rw[I]; exact N,O,t⟩
  ·exact JO d k (off+n) l M xs (by rw[ph]at u; exact u) w f h
theorem JP{P:Program}(em:Bool):∀(d:Nat) (t:TypeId) (ks:List SK),flatK P d t=some ks→∀(D:Nat),d≤D→∀(x:Value) (vs:List Value),isVal P t x vs→cA ks vs=true →
  ∀ w,(tX em D t x).run P w=.ok () w
 |0,_,_,hk=>by simp[flatK]at hk
 | d+1,t,ks,hk=>by
  intro D hD x vs h g w;obtain⟨D,rfl⟩:∃ u,D=u+1:=⟨D-1,by omega⟩
  unfold flatK at hk;cases hu:P.underlying t with
  |none=>rw[hu]at hk; cases hk
  | some v =>
   rw[hu]at hk;cases v with
   | struct q =>
    simp only[]at hk;split at hk
    ·cases hk
    simp only[isVal,hu]at h;obtain⟨a,rfl,rfl⟩:=h;have each:=JO d q.toList 0 ks hk a (by simpa using g) w;have deep:∀ f∈q.toList,f.name ≠ "_" ∧ ∃ x,(part f.type a f.offset).run P w=.ok x w∧(tX em D f.type x).run P w=.ok () w:=fun f z=>by
     obtain⟨h1,B,x,vs,I,J,M,N⟩:=each f z;exact⟨h1,x,J,JP em d f.type B I D (by omega) x vs M N w⟩
    rw[tX];simp only[bT,Sem.a_ hu,bP];rw[←Array.forIn_toList];clear each hk;generalize q.toList=L at deep
    induction L with
    |nil=>simp
    | cons f L O =>
     obtain⟨R,x,p1,U⟩:=deep f (by simp);simp only[List.forIn_cons,bT,R,ne_eq,not_false_eq_true,if_true,bP,p1,U,fc];exact O (fun y V=>deep y (by simp[V]))
   | int k =>
    simp at hk;subst hk;simp only[isVal,hu]at h;subst h;simp only[cA,fG]at g;unfold kindOk at g;split at g<;>simp_all[tX,Sem.a_ hu]
   | string =>
    simp at hk;subst hk;simp only[isVal,hu]at h;subst h;simp only[cA,fG]at g;unfold kindOk at g;split at g<;>simp_all[tX,Sem.a_ hu]
   | bool =>
    simp at hk;subst hk;simp only[isVal,hu]at h;subst h;simp only[cA,fG]at g;unfold kindOk at g;split at g<;>simp_all[tX,Sem.a_ hu]
   |_=>simp at hk
theorem gq{P:Program}{d:TypeId}{l:List Value}{c:Value}(h:mP P d l c)(em:Bool)(w:World):(tX em 10000 d c).run P w=.ok () w:=by
 obtain⟨h1,ks,g,k⟩:=h;exact JP em mI d ks g 10000 (by decide) c l h1 k w
theorem TO{P:Program}{g:TypeId}{l m:List Value}{c d:Value}(h:mP P g l c)(h':mP P g m d)(w:World):(xv g c d).run P w=.ok (dz l m) w:=by
 obtain⟨h1,ks,k,t⟩:=h;obtain⟨u,y,q,v⟩:=h';rw[k]at q;cases q;exact Ch mI g ks k 10000 (by decide) c d l m h1 u t v w
def ew(P:Program)(d:TypeId)(k:List Value):List (AV × AV × Nat)→Nat→Option (Option (Nat × AV))
 | [],_=>some none
 | (k',v,_)::es,i=>match il P d k' with
  |some l=>bif dz k l then some (some (i,v)) else ew P d k es (i+1)
  |none=>none
def dc(E:Env)(ms:List MapEntry)(i0:Nat):Option (Nat × AV)→Option (Nat × Value)→Prop
 |none,none=>True
 |some (i,v),some (j,c)=>i=j∧rel E v c∧i0≤i∧∃ e,ms[i-i0]? = some e∧e.val=c
 |_,_=>False
theorem JQ{P:Program}{E:Env}{g:TypeId}{k:List Value}{c:Value}(hk:mP P g k c)(w:World):∀(es:List (AV × AV × Nat)) (ms:List MapEntry) (i:Nat) (r:Option (Nat × AV)),
  bo E es ms→ew P g k es i=some r→∃ r',(Sr g c ms i).run P w=.ok r' w∧dc E ms i r r'
 | [],[],i,r,_,h=>by
  simp only[ew,aX]at h;subst h;exact⟨none,rfl,trivial⟩
 | [],_::_,_,_,d,_=>by simp[bo]at d
 |(_,_,_)::_,[],_,_,d,_=>by simp[bo]at d
 | (k',v,n)::es,e::ms,i,r,d,h=>by
  simp only[bo]at d;obtain⟨h1,u,N,O,R,y⟩:=d;simp only[ew]at h;split at h
  case h_2=>cases h
  rename_i l z;have he:=TO hk (im z h1) w;cases t:dz k l with
  | true =>
   rw[t]at h he;cases h;refine⟨some (i,e.val),by simp[Sr,he],rfl,u,aH _,e,by simp,rfl⟩
  | false =>
   rw[t]at h he;obtain⟨r',g1,g2⟩:=JQ hk w es ms (i+1) r y h;refine⟨r',by simp[Sr,he,g1],?_⟩;cases r with
   | none=>cases r' with
    |none=>trivial
    |some _=>simp[dc]at g2
   | some p=>cases r' with
    |none=>simp[dc]at g2
    | some q =>
     simp only[dc]at g2⊢;obtain⟨B,I,U,e',J,M⟩:=g2;refine⟨B,I,by omega,e',?_,M⟩;rw[show p.1-i=(p.1-(i+1))+1 from by omega];simpa using J
theorem JR{P:Program}{E:Env}{M:TypeId}{k:List Value}{c:Value}{d:TypeDesc}(hu:P.underlying M=some d)(hk:mP P M k c):∀(es:List (AV × AV × Nat)) (ms:List MapEntry) (i:Nat) (r:Option (Nat × AV)),
  bo E es ms→ew P M k es i=some r→(∃ r',xz d c ms i=some r'∧dc E ms i r r')∨xz d c ms i=none
 | [],[],i,r,_,h=>by
  simp only[ew,aX]at h;subst h;exact .inl ⟨none,rfl,trivial⟩
 | [],_::_,_,_,I,_=>by simp[bo]at I
 |(_,_,_)::_,[],_,_,I,_=>by simp[bo]at I
 | (k',v,n)::es,e::ms,i,r,I,h=>by
  simp only[bo]at I;obtain⟨h1,R,h3,h4,h5,U⟩:=I;simp only[ew]at h;split at h
  case h_2=>cases h
  rename_i l V;have O:=im V h1;have same:xA d c e.key=some (dz k l)∨xA d c e.key=none:=by
   obtain⟨p1,ks,t,y⟩:=hk;obtain⟨z,ks',J,u⟩:=O;rw[t]at J;cases J;unfold mI at t;unfold flatK at t;rw[hu]at t;cases d with
   |struct fs=>right; simp[xA]
   | int kk =>
    simp at t;subst t;simp only[isVal,hu]at p1 z;subst p1; subst z;simp only[cA,fG]at y u;unfold kindOk at y u;left;split at y<;>split at u<;>simp_all[xA,dz,nS]
   | string =>
    simp at t;subst t;simp only[isVal,hu]at p1 z;subst p1; subst z;simp only[cA,fG]at y u;unfold kindOk at y u;left;split at y<;>split at u<;>simp_all[xA,dz,nS,beq_toListBytes]
   | bool =>
    simp at t;subst t;simp only[isVal,hu]at p1 z;subst p1; subst z;simp only[cA,fG]at y u;unfold kindOk at y u;left;split at y<;>split at u<;>simp_all[xA,dz,nS]
   |_=>simp at t
  rcases same with B|B
  ·cases N : dz k l with
   | true =>
    rw[N]at h B;cases h;exact .inl ⟨some (i,e.val),by simp[xz,B],rfl,R,aH _,e,by simp,rfl⟩
   | false =>
    rw[N]at h B;rcases JR hu hk es ms (i+1) r U h with⟨r',g1,g2⟩|g
    ·refine .inl ⟨r', by simp [xz, B, g1], ?_⟩
     cases r with
     | none=>cases r' with
      |none=>trivial
      |some _=>simp[dc]at g2
     | some p=>cases r' with
      |none=>simp[dc]at g2
      | some q =>
       simp only[dc]at g2⊢;obtain⟨z,J,u,e',W,q5⟩:=g2;refine⟨z,J,by omega,e',?_,q5⟩;rw[show p.1-i=(p.1-(i+1))+1 from by omega];simpa using W
    ·exact .inr (by simp[xz,B,g])
  ·exact .inr (by simp[xz,B])
theorem gX{P:Program}{E:Env}{q:TypeId}{k:List Value}{c:Value}(hk:mP P q k c)(w:World){es:List (AV × AV × Nat)}{ms:List MapEntry}{r:Option (Nat × AV)}
  (u:bo E es ms) (h:ew P q k es 0=some r):∃ r',(Ss q c ms).run P w=.ok r' w∧dc E ms 0 r r':=by
 have hu:∃ d,P.underlying q=some d:=by
  obtain⟨_,ks,t,_⟩:=hk;unfold mI at t;unfold flatK at t;split at t<;>first|exact⟨_,by assumption⟩|cases t
 obtain⟨d,hu⟩:=hu;rcases JR hu hk es ms 0 r u h with⟨r',g1,g2⟩|g
 ·exact⟨r',by simp[Ss,Sem.a_ hu,g1],g2⟩
 ·obtain ⟨r', g1, g2⟩ := JQ hk w es ms 0 r u h
  exact⟨r',by simp[Ss,Sem.a_ hu,g,g1],g2⟩
def cZ(P:Program)(t:TypeId):Option (TypeId × TypeId):=match P.underlying t with
 |some (.map k e)=>some (k,e)
 |_=>none
theorem fJ{P:Program}{t k e:TypeId}(h:cZ P t=some (k,e)):P.underlying t=some (.map k e):=by
 unfold cZ at h;split at h
 ·rename_i h1; cases h; exact h1
 ·cases h
def gY(P:Program)(t:TypeId):Option AV:=match P.info? t with
 | some i=>match i.zero with
  |some z=>some (AV.rb z)
  |none=>none
 |none=>none
theorem rC{P:Program}{t:TypeId}{a:AV}(h:gY P t=some a)(w:World):∃ z,(zeroValue t).run P w=.ok z w∧∀ E,rel E a z:=by
 unfold gY at h;split at h
 ·rename_i i hi
  split at h
  ·rename_i z d
   cases h;exact⟨z,lN hi d w,fun E=>Jd E z⟩
  ·cases h
 ·cases h
def mQ(P:Program)(t:TypeId):Option AV:=match gY P t,CB P t with
 |some (.lit (.slice none 0 0)),some ks=>some (.listF ks [])
 |some z,_=>some z
 |none,_=>none
theorem JS{P:Program}{t:TypeId}{a:AV}(h:mQ P t=some a)(w:World):∃ z,(zeroValue t).run P w=.ok z w∧∀ E,rel E a z:=by
 unfold mQ at h;split at h
 ·rename_i ks h1 d
  cases h;obtain⟨z,g1,g2⟩:=rC h1 w;refine⟨z,g1,fun E=>?_⟩;have:=g2 E;simp only[rel]at this;subst this;simp only[rel,dG,G.rows];exact⟨none,0,rfl,aH _,.inl (by first|rfl|trivial)⟩
 ·rename_i z h1 _
  cases h;exact rC ‹gY P t=some a› w
 ·cases h
def fY(P:Program)(t:TypeId)(m k:AV)(ok:Bool)(H:List ab):Option AV :=
 match cZ P t,m with
 | some (d,g),.map id=>match H[id]? with
  | some (.map es _)=>match il P d k,mQ P g with
   | some h,some z=>match ew P d h es 0 with
    | some r=>let v:=match r with
      |some (_,v)=>v
      |none=>z
     some (match ok with
      |true=>.tuple [v,.lit (.bool r.isSome)]
      |false=>v)
    |none=>none
   |_,_=>none
  |_=>none
 |_,_=>none
theorem rD{E:Env}(HE:aq E){id cl:Nat}{es:List (AV × AV × Nat)}{c:Value}(hid:E.H[id]? = some (.map es cl))(d:rel E (.map id) c) :
  ∃ b n ms,c=.map (some b)∧E.loc[id]? = some (some (b,n))∧E.w.heap[b]? = some (.map ms cl)∧bo E es ms.toList:=by
 have ho:=HE.obj id _ hid;simp only[aR]at ho;obtain⟨b,n,ms,h1,g,h⟩:=ho;simp only[rel]at d;obtain⟨_,_,k⟩:=d;obtain⟨q,t,g1,g2⟩:=k ⟨_,hid,rfl⟩;rw[h1]at g1;simp only[aX,a8]at g1;obtain⟨rfl,rfl⟩:=g1;exact⟨b,n,ms,g2,h1,g,h⟩
theorem JT{P:Program}{E:Env}(HE:aq E){t:TypeId}{m k v:AV}{ok:Bool}{c d:Value}(h:fY P t m k ok E.H=some v)(hm:rel E m c)(hk:rel E k d) :
  ∃ u,(kS t c d ok).run P E.w=.ok u E.w∧rel E v u:=by
 unfold fY at h;split at h
 case h_2=>cases h
 rename_i W et id y;split at h
 case h_2=>cases h
 rename_i es cl hid;split at h
 case h_2=>cases h
 rename_i kv z M N;split at h
 case h_2=>cases h
 rename_i r O;obtain⟨b,n,ms,rfl,h1,R,U⟩:=rD HE hid hm;have g:=im M hk;obtain⟨r',g1,g2⟩:=gX g E.w U O;obtain⟨B,V,z2⟩:=JS N E.w;have I:(getObj b).run P E.w=.ok (.map ms cl) E.w:=by simp[getObj,gE,R]
 cases h;cases r with
 | none =>
  cases r' with
  |some _=>simp[dc]at g2
  | none =>
   refine⟨if ok then .tuple #[B,.bool false] else B,?_,?_⟩
   ·simp only[kS,bT,Sem.a_ (fJ y),bP,I,fc,gq g,g1,V]
   ·cases ok with
    |true=>simp[rel,ae,z2 E]
    |false=>simpa using z2 E
 | some p =>
  cases r' with
  |none=>simp[dc]at g2
  | some q =>
   simp only[dc]at g2;obtain⟨q1,J,_,_,_,_⟩:=g2;refine⟨if ok then .tuple #[q.2,.bool true] else q.2,?_,?_⟩
   ·simp only[kS,bT,Sem.a_ (fJ y),bP,I,fc,gq g,g1]
   ·cases ok with
    |true=>simp[rel,ae,J]
    |false=>simpa using J
theorem TP{E:Env}(HE:aq E):cL E (.map E.H.length) (E.H++[.map [] 0]) (.map (some E.w.heap.size)) { E.w with heap:=E.w.heap.push (.map #[] 0) }:=by
 have d:=Ext.push E.w (.map #[] 0);have hle:=Env.jD (o:=.map [] 0) (l:=some (E.w.heap.size,0)) HE.len d (fun b n hb=>by cases hb; exact aH _);have hblk:(E.w.heap.push (.map #[] 0))[E.w.heap.size]? = some (.map #[] 0):=by simp
 refine⟨E.loc++[some (E.w.heap.size,0)],E.X.r,?_,aq.push HE d (fun b n hb=>?_) ?_,hle⟩
 ·simp only [rel]
  refine⟨⟨_,rfl⟩,⟨.map [] 0,by simp,rfl,fun v g=>dB _⟩,fun _=>⟨E.w.heap.size,0,?_,rfl⟩⟩;rw[←HE.len]; simp
 ·cases hb
  exact⟨aH _,by simp⟩
 ·simp only [aR]
  refine⟨E.w.heap.size,0,#[],?_,hblk,by simp[bo]⟩;simp only[Env.push]; rw[←HE.len]; simp
def pK(id:Nat)(H:List ab):Option (AV × List ab) :=
 match H[id]? with
 |some .dX=>some (.map id,H.set id (.map [] 0))
 |_=>none
theorem CE{id:Nat}{H H':List ab}{v:AV}(h:pK id H=some (v,H')):H[id]? = some .dX∧v=.map id∧H'=H.set id (.map [] 0):=by
 unfold pK at h;split at h
 ·rename_i hid
  cases h;exact⟨hid,rfl,rfl⟩
 ·cases h
theorem JU{id:Nat}{H:List ab}(h:H[id]? = some .dX):pK id H=some (.map id,H.set id (.map [] 0)):=by
 unfold pK;rw[h]
theorem TQ{E:Env}(HE:aq E){id:Nat}(hid:E.H[id]? = some .dX):cL E (.map id) (E.H.set id (.map [] 0)) (.map (some E.w.heap.size)) { E.w with heap:=E.w.heap.push (.map #[] 0) }:=by
 have d:=Ext.push E.w (.map #[] 0);have y:=aL hid;have k:(ab.dX).born=true→(ab.dX).aF = none→(ab.map [] 0).aF = none:=fun h=>by cases h
 have t:∀ v,(ab.map [] 0).aF = some v→∀ u,(ab.dX).aF = some u→u<v:=fun v _ u hu=>by cases hu
 have z:∀ v u,(ab.map [] 0).aF = some v→(ab.dX).aF = some u→u≤v:=fun v u _ hu=>by cases hu
 have hblk:(E.w.heap.push (.map #[] 0))[E.w.heap.size]? = some (.map #[] 0):=by simp
 have q:(E.loc.set id (some (E.w.heap.size,0)))[id]? = some (some (E.w.heap.size,0)):=bk (by rw[HE.len]; exact y);have hle:E.le { w:={ E.w with heap:=E.w.heap.push (.map #[] 0) },H:=E.H.set id (.map [] 0),loc:=E.loc.set id (some (E.w.heap.size,0)),X:=E.X } :=
  Env.jE hid HE.len d.size (fun x g _=>d.same x g) (fun b n h=>by cases h; exact .inl (aH _)) (.inr t) z k
 refine⟨E.loc.set id (some (E.w.heap.size,0)),E.X.r,?_,?_,hle⟩
 ·simp only [rel]
  exact⟨⟨_,rfl⟩,⟨.map [] 0,by simp[y],rfl,fun v B=>dB _⟩,fun _=>⟨E.w.heap.size,0,q,rfl⟩⟩
 ·refine aq.k0 HE hid d.size (fun x g _ => d.same x g) (fun b n h => by cases h; exact .inl ⟨aH _, by simp⟩) (.inr t) z k ?_
  simp only[aR];exact⟨E.w.heap.size,0,#[],q,hblk,by simp[bo]⟩
theorem TR{P:Program}{E:Env}(HE:aq E){t:TypeId}{id:Nat}{v:AV}{H':List ab}(h:pK id E.H=some (v,H')) :
  ∃ u w',(Su t none).run P E.w=.ok u w'∧cL E v H' u w':=by
 obtain⟨h1,rfl,rfl⟩:=CE h;exact⟨_,_,by simp[Su,newObj]; rfl,TQ HE h1⟩
theorem JV{a b:ByteArray}(h:a.toList=b.toList):a=b:=by
 have h1:(a==b)=true:=by rw[beq_toListBytes,h]; simp
 obtain⟨x⟩:=a;obtain⟨y⟩:=b;have e:x=y:=by simpa using(show (x==y)=true from h1)
 rw[e]
theorem JW:∀{l m:List Value} {ks:List SK},cA ks l=true→cA ks m=true→dz l m=true→l=m
 | [],[],_,_,_,_=>rfl
 | a::l,b::m,ks,h1,d,h=>by
  cases ks with
  |nil=>simp[cA]at h1
  | cons k ks =>
   simp only[cA,ar]at h1 d;simp only[dz,ar]at h;have e:a=b:=by
    have g:=h1.1;have q:=d.1;have t:=h.1;unfold kindOk at g q;split at g<;>split at q<;>simp_all[nS]
    exact JV h.1
   rw[e,JW h1.2 d.2 h.2]
 | [],_::_,_,_,_,h|_::_,[],_,_,_,h=>by simp[dz]at h
theorem JX{ks:List SK}:∀{l:List Value},cA ks l=true→∀(n:Nat),(l.zip l).all (fun(x,y)=>IP n x y)=true:=by
 intro l
 induction l generalizing ks with
 |nil=>intro _ _; rfl
 | cons a l d =>
  intro h n;cases ks with
  |nil=>simp[cA]at h
  | cons k ks =>
   simp only[cA,ar]at h;simp only[List.zip_cons_cons,List.all_cons,ar];refine⟨?_,d h.2 n⟩;have hk:=h.1;unfold kindOk at hk;split at hk<;>cases n<;>simp_all[IP,beq_toListBytes]
theorem yk{P:Program}{q:TypeId}{l m:List Value}{c d:Value}(h:mP P q l c)(h':mP P q m d)(he:dz l m=true):c=d∧IP 10000 d c=true:=by
 obtain⟨h1,ks,y,k⟩:=h;obtain⟨g,B,t,z⟩:=h';rw[y]at t;cases t;have e:=JW k z he;subst e;unfold isVal at h1 g;split at h1
 ·rename_i u hu
  rw[hu]at g;simp only[]at g;obtain⟨a,rfl,ha⟩:=h1;obtain⟨b,rfl,hb⟩:=g;have:a=b:=by apply gg; rw[ha,hb]
  subst this;refine⟨rfl,?_⟩;simp only[IP,beq_self_eq_true,Bool.true_and];rw[ha];exact JX k 9999
 ·rename_i v
  split at g
  ·rename_i u hu
   exact(v u hu).elim
  ·have : c = d := by rw [h1] at g; simpa using g
   subst this;refine⟨rfl,?_⟩;have:=JX k 10000;rw[h1]at this;simpa using this
def lP(P:Program)(t:TypeId)(m k v:AV)(H:List ab):Option (List ab) :=
 match cZ P t,m with
 | some (d,_),.map id=>match H[id]? with
  | some (.map es cl)=>match il P d k with
   | some g=>if v.closed=true∧k.closed=true then
     match ew P d g es 0 with
     |some (some (i,_))=>some (H.set id (.map (es.modify i fun e=>(k,v,e.2.2)) cl))
     |some none=>some (H.set id (.map (es++[(k,v,cl)]) (cl+1)))
     |none=>none
    else none
   |none=>none
  |_=>none
 |_,_=>none
theorem eE{E:Env}:∀{es:List (AV × AV × Nat)} {ms:List MapEntry},bo E es ms↔es.length=ms.length∧∀(i:Nat) x e,es[i]? = some x→ms[i]? = some e →
  rel E x.1 e.key∧rel E x.2.1 e.val∧e.born=x.2.2∧x.1.closed=true∧x.2.1.closed=true
 | [],[]=>by simp[bo]
 | [],_::_=>by simp[bo]
 |(_,_,_)::_,[]=>by simp[bo]
 | (k,v,n)::es,e::ms=>by
  simp only[bo,eE (es:=es),cw];constructor
  ·rintro ⟨h1, h, q, t, u, I, z⟩
   refine⟨by omega,fun i x y d g=>?_⟩;cases i with
   |zero=>simp at d g; subst d; subst g; exact⟨h1,h,q,t,u⟩
   |succ i=>exact z i x y (by simpa using d) (by simpa using g)
  ·rintro ⟨h1, h⟩
   obtain⟨B,a2,a3,a4,a5⟩:=h 0 (k,v,n) e rfl rfl;exact⟨B,a2,a3,a4,a5,by omega,fun i x y d g=>h (i+1) x y (by simpa using d) (by simpa using g)⟩
theorem ym{P:Program}{E:Env}(HE:aq E){id b n cl cl':Nat}{es es':List (AV × AV × Nat)}{ms ms':Array MapEntry}(hid:E.H[id]? = some (.map es cl)) (d:E.loc[id]? = some (some (b,n)))
  (hb:E.w.heap[b]? = some (.map ms cl)) (q:bo E es' ms'.toList) :
  ∃ w',(setObj b (.map ms' cl')).run P E.w=.ok () w'∧aq { w:=w',H:=E.H.set id (.map es' cl'),loc:=E.loc,X:=E.X }∧E.le { w:=w',H:=E.H.set id (.map es' cl'),loc:=E.loc,X:=E.X }:=by
 have t:=(HE.lt id b n d).1;have k:({ E.w with heap:=E.w.heap.setIfInBounds b (.map ms' cl') }:World).heap.size=E.w.heap.size:=by simp
 have h:∀ y,y≠b→({ E.w with heap:=E.w.heap.setIfInBounds b (.map ms' cl') }:World).heap[y]? = E.w.heap[y]? := by
  intro y u;simp only[BO];rw[if_neg (fun e=>u e.symm)]
 refine⟨{ E.w with heap:=E.w.heap.setIfInBounds b (.map ms' cl') },by simp[setObj,gE,hb],?_,?_⟩
 ·have hle : E.le { w := { E.w with heap := E.w.heap.setIfInBounds b (.map ms' cl') }, H := E.H.set id (.map es' cl'), loc := E.loc, X := E.X } := Env.mM HE hid d (fun v g => g) k h
  refine HE.set hid d (fun v g=>g) k h ?_;simp only[aR];refine⟨b,n,ms',d,by simp[t],?_⟩;rw[eE]at q⊢;refine⟨q.1,fun i x e z he=>?_⟩;obtain⟨B,a2,a3,a4,a5⟩:=q.2 i x e z he;exact⟨bK hle _ B,bK hle _ a2,a3,a4,a5⟩
 ·exact Env.mM HE hid d (fun v g=>g) k h
theorem uy{P:Program}{g:TypeId}{k:List Value}:∀{es:List (AV × AV × Nat)} {i j:Nat} {v:AV},ew P g k es i=some (some (j,v))→i≤j∧∃ x l,es[j-i]? = some x∧il P g x.1=some l∧dz k l=true
 | [],_,_,_,h=>by simp[ew]at h
 | (k',q,n)::es,i,j,v,h=>by
  simp only[ew]at h;split at h
  case h_2=>cases h
  rename_i l t;cases d:dz k l with
  | true =>
   rw[d]at h;cases h;exact⟨aH _,(k',q,n),l,by simp,t,d⟩
  | false =>
   rw[d]at h;obtain⟨h1,x,l',u,y,z⟩:=uy h;refine⟨by omega,x,l',?_,y,z⟩;rw[show j-i=(j-(i+1))+1 from by omega];simpa using u
theorem JY{P:Program}{E:Env}(HE:aq E){t:TypeId}{m k v:AV}{c d u:Value}{H':List ab}(h:lP P t m k v E.H=some H')(hm:rel E m c)(hk:rel E k d)(V:rel E v u) :
  ∃ w',(mr t c d u).run P E.w=.ok () w'∧aq { w:=w',H:=H',loc:=E.loc,X:=E.X }∧E.le { w:=w',H:=H',loc:=E.loc,X:=E.X }:=by
 unfold lP at h;split at h
 case h_2=>cases h
 rename_i kt et id W;split at h
 case h_2=>cases h
 rename_i es cl hid;split at h
 case h_2=>cases h
 rename_i kv hkv;split at h
 case isFalse=>cases h
 rename_i J;obtain⟨b,n,ms,rfl,h1,O,R⟩:=rD HE hid hm;have I:=im hkv hk;have e1:(getObj b).run P E.w=.ok (.map ms cl) E.w:=by simp[getObj,gE,O]
 obtain⟨hlen,N⟩:=eE.1 R;split at h
 ·rename_i i v0 M
  cases h;obtain⟨r',g1,g2⟩:=gX I E.w R M;cases r' with
  |none=>simp[dc]at g2
  | some q =>
   simp only[dc]at g2;obtain⟨q1,q2,_,e',U,q5⟩:=g2;obtain⟨_,x,l,f1,f2,f3⟩:=uy M;simp only[gC]at U f1;obtain⟨a1,a2,a3,a4,a5⟩:=N i x e' f1 U;obtain⟨s1,s2⟩:=yk I (im f2 a1) f3;have q4':ms[i]? = some e':=by simpa using U
   obtain⟨w',r1,r2,r3⟩:=ym (P:=P) HE (es':=es.modify i fun e=>(k,v,e.2.2)) (ms':=ms.modify i fun e=>{ e with key:=d,val:=u }) (cl':=cl) hid h1 O (by
    rw[eE];refine⟨by simp[hlen],fun j y z g B=>?_⟩;simp only[iH]at g;simp only[kT,iH]at B;obtain⟨y0,hy0,rfl⟩:=dR.1 g;obtain⟨z0,hz0,rfl⟩:=dR.1 B;obtain⟨b1,b2,b3,b4,b5⟩:=N j y0 z0 hy0 hz0;by_cases e:i=j
    ·subst e
     simp only[if_true];exact⟨hk,V,b3,J.2,J.1⟩
    ·simp only [if_neg e]
     exact⟨b1,b2,b3,b4,b5⟩)
   refine⟨w',?_,r2,r3⟩;subst q1;have hst:(qQ e'.key d).run P E.w=.ok d E.w:=by simp[qQ,s2]
   simp only[mr,bT,Sem.a_ (fJ W),bP,e1,gq I,g1,q4',dL,nI,hst];exact r1
 ·rename_i M
  cases h;obtain⟨r',g1,g2⟩:=gX I E.w R M;cases r' with
  |some _=>simp[dc]at g2
  | none =>
   obtain⟨w',r1,r2,r3⟩:=ym (P:=P) HE (es':=es++[(k,v,cl)]) (ms':=ms.push { key:=d,val:=u,born:=cl }) (cl':=cl+1) hid h1 O (by
    rw[eE];refine⟨by simp[hlen],fun j y z g B=>?_⟩;simp only[po,fb,hlen]at g B;by_cases e:j<ms.toList.length
    ·simp only [if_pos e] at g B
     exact N j y z g B
    ·simp only [if_neg e] at g B
     cases hj:j-ms.toList.length with
     | zero =>
      rw[hj]at g B;simp at g B;subst g; subst B;exact⟨hk,V,rfl,J.2,J.1⟩
     |succ _=>rw[hj]at g; simp at g)
   refine⟨w',?_,r2,r3⟩;simp only[mr,bT,Sem.a_ (fJ W),bP,e1,gq I,g1];exact r1
 ·cases h
def uz(P:Program)(t:TypeId)(m k:AV)(H:List ab):Option (List ab) :=
 match cZ P t,m with
 | some (d,_),.map id=>match H[id]? with
  | some (.map es cl)=>match il P d k with
   | some g=>match ew P d g es 0 with
    |some (some (i,_))=>some (H.set id (.map (es.eraseIdx i) cl))
    |some none=>some (H.set id (.map es cl))
    |none=>none
   |none=>none
  |_=>none
 |_,_=>none
theorem TS{P:Program}{E:Env}(HE:aq E){t ty:TypeId}{tys:Array TypeId}{m k:AV}{c d:Value}{cs:Array Value}{H':List ab}(h:uz P t m k E.H=some H')(h0:tys[0]? = some t)
  (N:cs[0]? = some c) (O:cs[1]? = some d) (hm:rel E m c) (hk:rel E k d) :
  ∃ w',(Sv tys ty cs).run P E.w=.ok (.tuple #[]) w'∧aq { w:=w',H:=H',loc:=E.loc,X:=E.X }∧E.le { w:=w',H:=H',loc:=E.loc,X:=E.X }:=by
 unfold uz at h;split at h
 case h_2=>cases h
 rename_i kt et id R;split at h
 case h_2=>cases h
 rename_i es cl hid;split at h
 case h_2=>cases h
 rename_i kv W;obtain⟨b,n,ms,rfl,h1,I,B⟩:=rD HE hid hm;have v:=im W hk;have U:(getObj b).run P E.w=.ok (.map ms cl) E.w:=by simp[getObj,gE,I]
 obtain⟨hlen,M⟩:=eE.1 B;split at h
 ·rename_i i v0 J
  cases h;obtain⟨r',g1,g2⟩:=gX v E.w B J;cases r' with
  |none=>simp[dc]at g2
  | some q =>
   simp only[dc]at g2;obtain⟨q1,q2,_,e',q4,q5⟩:=g2;obtain⟨w',r1,r2,r3⟩:=ym (P:=P) HE (es':=es.eraseIdx i) (ms':=ms.eraseIdxIfInBounds i) (cl':=cl) hid h1 I (by
    rw[eE];have e:(ms.eraseIdxIfInBounds i).toList=ms.toList.eraseIdx i:=by simp
    rw[e];refine⟨by simp[List.length_eraseIdx,hlen],fun j y z g u=>?_⟩;rw[List.getElem?_eraseIdx]at g u;by_cases V:j<i
    ·simp only [if_pos V] at g u
     exact M j y z g u
    ·simp only [if_neg V] at g u
     exact M (j+1) y z g u)
   refine⟨w',?_,r2,r3⟩;subst q1;simp only[Sv,h0,N,O,bT,Sem.a_ (fJ R),bP,U,gq v,g1];rw[r1];rfl
 ·rename_i J
  cases h;obtain⟨r',g1,g2⟩:=gX v E.w B J;cases r' with
  |some _=>simp[dc]at g2
  | none =>
   obtain⟨w',r1,r2,r3⟩:=ym (P:=P) HE (es':=es) (ms':=ms) (cl':=cl) hid h1 I B;refine⟨w',?_,r2,r3⟩;simp only[Sv,h0,N,O,bT,Sem.a_ (fJ R),bP,U,gq v,g1];rw[r1];rfl
 ·cases h
end Go.AL

namespace Go.AL
open Go
variable [Dr]
theorem JZ{α:Type}{k:Nat}:∀{l:List (List α)} (n:Nat),(∀ r∈l,r.length=k)→(l.take n).flatten=l.flatten.take (n*k)
 | [],n,_=>by simp
 |r::l,0,_=>by simp
 | r::l,n+1,h=>by
  have d:r.length=k:=h r cH;have g:=JZ (l:=l) n (fun x q=>h x (cI _ q));have e:(n+1)*k=k+n*k:=by rw[fH]; omega
  simp only[BI,qO,g,e];rw[List.take_append,d];have t:r.take (k+n*k)=r:=List.take_of_length_le (by omega);have u:k+n*k-k=n*k:=by omega
  rw[t,u]
theorem J0{α:Type}{k:Nat}:∀{l:List (List α)} (n:Nat),(∀ r∈l,r.length=k)→(l.drop n).flatten=l.flatten.drop (n*k)
 | [],n,_=>by simp
 |r::l,0,_=>by simp
 | r::l,n+1,h=>by
  have d:r.length=k:=h r cH;have g:=J0 (l:=l) n (fun x q=>h x (cI _ q));have e:(n+1)*k=k+n*k:=by rw[fH]; omega
  simp only[Sf,qO,g,e];rw[List.drop_append,d];have t:r.drop (k+n*k)=[]:=List.drop_eq_nil_of_le (by omega);have u:k+n*k-k=n*k:=by omega
  rw[t,u,mq]
theorem TT{P:Program}{E:Env}(HE:aq E){id k ad b m off:Nat}{rows news:List (List AV)}{vals:List Value}(hid:E.H[id]? = some (.vec k ad rows)) (t:E.loc[id]? = some (some (b,m)))
  (g:ae E news.flatten vals) (h1:∀ x∈vals,dw x=true) (hw:∀ r∈news,r.length=k) (hcl:ff news) (hle:off+news.length≤rows.length) :
  ∃ w',(storeCells ⟨b,off*k,none⟩ vals).run P E.w=.ok () w'∧aq { w:=w',H:=E.H.set id (.vec k ad (rows.take off++news++rows.drop (off+news.length))),loc:=E.loc,X:=E.X } ∧
   E.le { w:=w',H:=E.H.set id (.vec k ad (rows.take off++news++rows.drop (off+news.length))),loc:=E.loc,X:=E.X }:=by
 rcases HE.obj id _ hid with⟨u,_⟩|⟨b',m',u,⟨cur,el,hblk,M⟩,V,W,e5⟩
 ·rw[t]at u; cases u
 rw[t]at u;cases u;have q:∀ r∈rows,r.length=k:=Cr e5;have hlen:vals.length=news.length*k:=by rw[←jd g,rz hw]
 have hmul:(off+news.length)*k≤rows.length*k:=tW _ hle;rw[fH]at hmul;have hmul2:rows.length*k≤m*k:=tW _ V;have y:off*k+0+vals.length≤cur.size:=by rw[M]; omega
 have B:=run_storeCells_at P b (off*k) el vals 0 cur E.w hblk y (fun v g=>by rw[x9]; exact h1 v g);simp only[pk]at B y;generalize z:E.w.setRow b (cur.toList.take (off*k)++vals++cur.toList.drop (off*k+vals.length)).toArray=w' at B;have I:w'.heap.size=E.w.heap.size:=by rw[←z]; exact setRow_size _ _ _
 have henv:dC E.w w':=by rw[←z]; exact⟨rfl,rfl,rfl,by first|exact fun _=>aH _|exact fun _=>fT _ _⟩
 have J:∀ x,x≠b→w'.heap[x]? = E.w.heap[x]? := by intro x hx; rw[←z]; exact setRow_other _ _ _ _ hx
 have R:w'.heap[b]? = some (.cells (cur.toList.take (off*k)++vals++cur.toList.drop (off*k+vals.length)).toArray el (0,0)):=by
  rw[←z]; exact setRow_heap E.w b cur _ el (0,0) hblk
 have N:∀ v,(ab.vec k ad (rows.take off++news++rows.drop (off+news.length))).aF = some v→(ab.vec k ad rows).aF = some v:=fun v g=>by simpa[ab.aF]using g
 have O:=Env.mM (o':=.vec k ad (rows.take off++news++rows.drop (off+news.length))) HE hid t N I J;have hl2:(rows.take off++news++rows.drop (off+news.length)).length=rows.length:=by
  simp only[dV,jy,pn];omega
 refine⟨w',B,aq.set HE hid t N I J ?_,O⟩;simp only[aR];right;refine⟨b,m,t,⟨_,el,R,?_⟩,by rw[hl2]; exact V,?_,?_⟩
 ·simp only [BL, dV, jy, pn, lE, M] at y ⊢
  omega
 ·intro r d
  simp only[cG]at d;rcases d with(h|h)|h
  ·exact W r (nC h)
  ·exact hcl r h
  ·exact W r (qM h)
 ·refine ya ?_ ?_
  ·intro r d
   simp only[cG]at d;rcases d with(h|h)|h
   ·exact q r (nC h)
   ·exact hw r h
   ·exact q r (qM h)
  ·rw [xy, xy, JZ off q, J0 _ q]
   have hflat:=x_ e5;have U:news.flatten.length=news.length*k:=rz hw;have:=Cw (E:=E) (E':={ w:=w',H:=E.H.set id (.vec k ad (rows.take off++news++rows.drop (off+news.length))),loc:=E.loc,X:=E.X }) (o:=0) (col:=off*k) (as:=rows.flatten) (cs:=news.flatten)
    (fun a c d=>bK O a d) hblk (by simpa using R) (by simpa using y) hflat g h1 (by rw[rz q,U]; omega)
   rw[U]at this;rw[show (off+news.length)*k=off*k+news.length*k from fH _ _ _];exact this
def uA(P:Program)(t:TypeId)(x:AV)(H:List ab):Option (List ab) :=
 match cr P t,x with
 | .slice e sz _,.vec w id ad off n=>match dZ P e,H[id]? with
  | some z,some (.vec k v rows)=>if k=w∧w=sz∧v=ad∧z.length=sz∧0<sz∧off+n≤rows.length then
    some (H.set id (.vec k v (rows.take off++bU n (z.map AV.lit)++rows.drop (off+n)))) else none
  |_,_=>none
 |_,_=>none
theorem TU{P:Program}{E:Env}(HE:aq E){t ty:TypeId}{tys:Array TypeId}{x:AV}{c:Value}{cs:Array Value}{H':List ab}(h:uA P t x E.H=some H')(h0:tys[0]? = some t)
  (J:cs[0]? = some c) (q:rel E x c) :
  ∃ w',(Sx tys ty cs).run P E.w=.ok (.tuple #[]) w'∧aq { w:=w',H:=H',loc:=E.loc,X:=E.X }∧E.le { w:=w',H:=H',loc:=E.loc,X:=E.X }:=by
 unfold uA at h;split at h
 case h_2=>cases h
 rename_i e sz by_ w id ad off n hk;obtain⟨hu,i,hi,hs,_⟩:=gH hk;split at h
 case h_2=>cases h
 rename_i z k v rows hz hid;split at h
 case isFalse=>cases h
 rename_i hc;obtain⟨rfl,rfl,rfl,U,hpos,hle⟩:=hc;cases h;obtain⟨i',u,M,V,N,W⟩:=lM hz;rw[hi]at M;cases M;simp only[rel]at q;obtain⟨⟨base,cap,rfl,hcap,hb⟩,_,O⟩:=q;obtain⟨q1,q2⟩:=O ⟨_,hid,rfl⟩;cases n with
 | zero =>
  refine⟨E.w,?_,?_,?_⟩
  ·simp only [Sx, h0, J, bT, Sem.a_ hu, bP]
   cases base<;>rfl
  ·simp only [ahK, dx, pk, qN]
   rw[lO hid];exact HE
  ·simp only [ahK, dx, pk, qN]
   rw[lO hid];exact Env.le.refl E
 | succ n =>
  obtain⟨b,o,rfl⟩:=hb (by omega);have g:∃ b m,E.loc[id]? = some (some (b,m)):=by
   rcases HE.obj id _ hid with⟨_,y⟩|⟨B,m',y,_⟩
   ·subst y
    simp at hle
   ·exact⟨B,m',y⟩
  obtain⟨B,m,g⟩:=g;obtain⟨g1,o',g2,g3⟩:=q2 B m g;have ho:=g2 (by omega);subst ho;simp only[j0,aX,IC]at g3;obtain⟨⟨rfl,rfl,_⟩,_,_⟩:=g3;have R:(xw u.cells (n+1)).toList=(bU (n+1) z).flatten:=by
   rw[←N];have hzs:0<u.cells.size:=by
    have:u.cells.size=z.length:=by rw[←N]; simp
    omega
   exact range_zero u.cells (n+1) hzs
  have I:∀ r∈bU (n+1) (z.map AV.lit),r=z.map AV.lit:=fun r d=>(ahL.1 d).2;obtain⟨w',r1,r2,r3⟩:=TT (P:=P) HE (off:=off) (news:=bU (n+1) (z.map AV.lit)) (vals:=(bU (n+1) z).flatten) hid g (uw z (n+1))
   (fun x q=>W x (ux q)) (fun r d=>by rw[I r d]; simp[U]) (fun r d=>by rw[I r d]; exact CD z) (by simpa using hle)
  simp only[List.length_replicate]at r2 r3;refine⟨w',?_,r2,r3⟩;simp only[Sx,h0,J,bT,Sem.a_ hu,bP,lN hi V,R];rw[r1];rfl
theorem TV{P:Program}{w:World}{t xt ty e:TypeId}{i:TypeInfo}{z:Value}{sz:Nat}{base:Option Addr}{m:Nat}{k k':IntKind}
  (q:P.underlying t=some (.slice e)) (u:P.underlying xt=some (.int k)) (hi:P.info? e=some i) (v:i.size=sz) (y:i.zero=some z) (d:0<sz) (h0:0<m) (hm:m≤1048576) (hb:i.bytes≤1048576) :
  ∃ C,m≤C∧(kR #[t,xt] ty #[.slice base 0 0,.int k' (m:Int)]).run P w =
   .ok (.slice (some ⟨w.heap.size,0,none⟩) m C) (w.drew.alloc (.cells ((xw z.cells m).toList++(xw z.cells (C-m)).toList).toArray e)):=by
 have g:IntKind.i64.wrap (m:Int)=m:=wrap_small (by omega) (by omega);have h1:¬ (m≤0):=by omega
 have B:¬ ((m:Int)<0):=by omega
 have h:m*i.bytes≤1048576*1048576:=ahF hm hb;have I:¬ ((281474976710656:Int)<(m:Int)*(i.bytes:Int)):=by
  have:((m*i.bytes:Nat):Int)≤1099511627776:=Int.ofNat_le.2 (jZ h (by decide));rw[Int.natCast_mul]at this;omega
 have J:¬ (IntKind.i64.max<(m:Int)):=by
  show ¬ ((9223372036854775807:Int)<(m:Int))
  omega
 have O:II m 0*i.bytes≤281474976710656:=growslice_fits (by omega) (by omega);have M:¬ (281474976710656<II m 0*i.bytes):=by omega
 have N:¬ (m*sz=0):=by
  have:=Nat.mul_pos h0 d;omega
 refine⟨grownCap w m 0 e,?_,?_⟩
 ·simp[grownCap,ahG]
 ·simp [kR, run_underlying q, run_underlying u, sizeOf, typeInfo, zeroValue, hi, y, v, asInt, asIntOf, g, h1, B, I, J, M, N, ahH, newRow, grownCap, ia]
  rw[if_neg (by omega:¬ m=0),if_neg (by omega:¬ (9223372036854775807:Int)<(m:Int))];cases base<;>simp[loadCells,loadCellsFrom]<;>(congr 2; apply gg; simp)
def pL(P:Program)(t xt:TypeId)(s x:AV)(H:List ab):Option (AV × List ab) :=
 match cr P t,cr P xt,s,x with
 | .slice e sz d,.int _,.lit (.slice none 0 0),.lit (.int _ n)=>match dZ P e with
  |some z=>if z.length=sz∧0<sz∧d≤1048576∧0<n∧n≤1048576 then some (.vec sz H.length 0 0 n.toNat,H++[.vec sz 0 (bU n.toNat (z.map AV.lit))]) else none
  |none=>none
 |_,_,_,_=>none
theorem TW{P:Program}{E:Env}(HE:aq E){t xt ty:TypeId}{s x v:AV}{H':List ab}{c J:Value}(h:pL P t xt s x E.H=some (v,H'))(M:rel E s c)(g:rel E x J) :
  ∃ u w',(kR #[t,xt] ty #[c,J]).run P E.w=.ok u w'∧cL E v H' u w':=by
 unfold pL at h;split at h
 case h_2=>cases h
 rename_i e sz by_ k k' n hk O;split at h
 case h_2=>cases h
 rename_i z hz;split at h
 case isFalse=>cases h
 rename_i hc;obtain⟨h1,h2,h3,h4,h5⟩:=hc;cases h;obtain⟨hu,i,hi,R,hby⟩:=gH hk;obtain⟨i',q,I,U,y,V⟩:=lM hz;rw[hi]at I;cases I;simp only[rel]at M g;subst M;subst g;obtain⟨m,rfl⟩:∃ m:Nat,n=(m:Int):=⟨n.toNat,by omega⟩
 obtain⟨C,g1,g2⟩:=TV (P:=P) (w:=E.w) (ty:=ty) (base:=none) (k':=k') (m:=m) hu (Jp O) hi R U h2 (by omega) (by omega) (by omega);have W:0<q.cells.size:=by
  have:q.cells.size=z.length:=by rw[←y]; simp
  omega
 have N:(xw q.cells m).toList=(bU m z).flatten:=by rw[←y]; exact range_zero q.cells m W
 rw[N]at g2;have B:∀ r∈bU m (z.map AV.lit),r=z.map AV.lit:=fun r d=>(ahL.1 d).2;refine⟨_,_,g2,?_⟩;simp only[Int.toNat_natCast];refine JB HE (uw z m) (fun x g=>V x (ux g)) (fun r d=>by rw[B r d]; simp[h1]) (fun r d=>by rw[B r d]; exact CD z) (by simp) g1 ?_;simp only[lE,size_zeroCells];rw[←h1,←y];simp
end Go.AL

namespace Go.AL
open Go
variable [Dr]
def uB(P:Program)(t:TypeId)(n:Nat)(parts:List (Nat × AV))(H:List ab):Option (AV × List ab) :=
 match rB P t n parts with
 |some (.list sz rows)=>some (.vec sz H.length 0 0 rows.length,H++[.vec sz 0 rows])
 |_=>none
theorem J1(k:Nat):∀(n:Nat) (out:List AV),out.length=n*k→(chunk k n out).flatten=out
 | 0,out,h=>by
  have:out=[]:=nE (by simpa using h);subst this;rfl
 | n+1,out,h=>by
  simp only[chunk,qO];rw[J1 k n (out.drop k) (by rw[pn,h,ahM]; omega)];exact qN k out
theorem J2(k:Nat):∀(n:Nat) (out:List AV),out.length=n*k→∀ r∈chunk k n out,r.length=k
 |0,_,_,r,d=>by simp[chunk]at d
 | n+1,out,h,r,d=>by
  simp only[chunk]at d;rw[ahM]at h;rcases bS.1 d with rfl|d
  ·rw [jy]
   omega
  ·exact J2 k n (out.drop k) (by rw[pn]; omega) r d
theorem TX{P:Program}{E:Env}(HE:aq E){t:TypeId}{n:Nat}{parts:List (Nat × AV)}{cparts:List (Nat × Value)}{v:AV}{H':List ab}(h:uB P t n parts E.H=some (v,H'))
  (hm:parts.map (·.1)=cparts.map (·.1)) (V:ae E (parts.map (·.2)) (cparts.map (·.2))) :
  ∃ u w',(IN t n cparts.toArray).run P E.w=.ok u w'∧cL E v H' u w':=by
 unfold uB at h;split at h
 case h_2=>cases h
 rename_i k rows0 h0;cases h;unfold rB at h0;split at h0
 case h_2=>cases h0
 rename_i e sz by_ hk;obtain⟨hu,i,hi,B,_⟩:=gH hk;split at h0
 case h_2=>cases h0
 rename_i z W;obtain⟨i',g,I,N,J,O⟩:=lM W;rw[hi]at I;cases I;split at h0
 case isFalse=>cases h0
 rename_i hc;obtain⟨g1,g2,g3⟩:=hc;split at h0
 case h_2=>cases h0
 rename_i out M;split at h0
 case isFalse=>cases h0
 rename_i q;have R:g.cells.size=sz:=by rw[←g1,←J]; simp
 obtain⟨d,y⟩:∃ d:Array Value,d.toList=(bU n z).flatten:=⟨((bU n z).flatten).toArray,by simp⟩
 obtain⟨o,f1,f2,f3⟩:=uq (E:=E) (cs:=d) M (by rw[y]; exact uw z n) (by rw[y]; intro x hx; exact O x (ux hx)) hm V;cases n with
 |zero=>cases h0
 |succ n =>
 cases h0;refine⟨.slice (some ⟨E.w.heap.size,0,none⟩) (n+1) (n+1),{ E.w with heap:=E.w.heap.push (.cells (o.toList++[]).toArray e) },?_,?_⟩
 ·have U : ¬ ((n + 1) * i.size > 2 ^ 24) := by rw [B]; omega
  simp only[IN,bT,Sem.a_ hu,bP,Sem.run_sizeOf hi];rw[if_neg U];have h0:¬ ((n+1)*i.size=0):=by
   intro h;rcases Sp.1 h with h|h
   ·omega
   ·omega
  rw[if_neg h0];simp only[bT,lN hi N,bP,fc];have:(IM (fun x=>g.cells[x%g.cells.size]!) (gD ((n+1)*i.size)))=d:=by
   apply gg;rw[B,←R,range_zero g.cells (n+1) (by omega),J,y]
  rw[this,B,f1];simp[newRow]
 ·rw [ur]
  exact JI HE (C:=n+1) (by rw[J1 k (n+1) out q.2]; exact f2) f3 (J2 k (n+1) out q.2) (Co k _ out q.1) (ur ..) (aH _) (by simp)
end Go.AL

namespace Go.AL
open Go
variable [Dr]
def eU (r:Nat→List (Option (Option (Nat × Nat)))) (l0:Nat) (q:Option (Nat × Nat)):Nat→List (Option (Option (Nat × Nat))):=fun l=>if l=l0 then r l++[some q] else r l
def fZ (r:Nat→List (Option (Option (Nat × Nat)))) (l0 h:Nat):Nat→List (Option (Option (Nat × Nat))):=fun l=>if l=l0 then (r l).set h none else r l
def iq (r:Nat→List (Option (Option (Nat × Nat)))) (l0:Nat):Nat→List (Option (Option (Nat × Nat))):=fun l=>if l=l0 then (r l).map fun _=>none else r l
theorem TY{r:Nat→List (Option (Option (Nat × Nat)))}{l0 l h:Nat}{q:Option (Nat × Nat)}{x:Option (Option (Nat × Nat))}(d:(eU r l0 q l)[h]? = some x):(r l)[h]? = some x∨(l=l0∧h=(r l).length∧x=some q):=by
 unfold eU at d;split at d
 ·rename_i e
  rw[fb]at d;split at d
  ·exact .inl d
  ·right
   cases hk:h-(r l).length with
   | zero =>
    rw[hk]at d;simp at d;exact⟨e,by omega,d.symm⟩
   |succ n=>rw[hk]at d; simp at d
 ·exact .inl d
theorem J3{r:Nat→List (Option (Option (Nat × Nat)))}{l0 l h:Nat}{q:Option (Nat × Nat)}(d:h<(r l).length):h<(eU r l0 q l).length∧(eU r l0 q l)[h]? = (r l)[h]? := by
 unfold eU;split
 ·exact⟨by simp; omega,cQ d⟩
 ·exact⟨d,rfl⟩
theorem TZ{r:Nat→List (Option (Option (Nat × Nat)))}{l0 h0 l h:Nat}{q:Option (Nat × Nat)}(d:(fZ r l0 h0 l)[h]? = some (some q)):(r l)[h]? = some (some q)∧¬ (l=l0∧h=h0):=by
 unfold fZ at d;split at d
 ·rw [dS] at d
  split at d
  ·split at d<;>cases d
  ·rename_i h1
   exact⟨d,fun e=>h1 e.2.symm⟩
 ·rename_i h1
  exact⟨d,fun e=>h1 e.1⟩
theorem CF{r:Nat→List (Option (Option (Nat × Nat)))}{l0 h0 l h:Nat}(d:¬ (l=l0∧h=h0)):(fZ r l0 h0 l)[h]? = (r l)[h]? := by
 unfold fZ;split
 ·rename_i e
  exact aV (fun g=>d ⟨e,g.symm⟩)
 ·rfl
theorem T0{r:Nat→List (Option (Option (Nat × Nat)))}{l0 h0 l:Nat}:(fZ r l0 h0 l).length=(r l).length:=by
 unfold fZ;split<;>simp
theorem iN{r:Nat→List (Option (Option (Nat × Nat)))}{l0 l h:Nat}{q:Option (Nat × Nat)}(d:(iq r l0 l)[h]? = some (some q)):(r l)[h]? = some (some q)∧l≠l0:=by
 unfold iq at d;split at d
 ·rw [bR] at d
  cases g:(r l)[h]? with
  |none=>rw[g]at d; cases d
  |some y=>rw[g]at d; cases d
 ·rename_i e
  exact⟨d,e⟩
theorem J4{r:Nat→List (Option (Option (Nat × Nat)))}{l0 l:Nat}:(iq r l0 l).length=(r l).length:=by
 unfold iq;split<;>simp
theorem aq.attach{E:Env}(H:aq E){id j l0:Nat}{o o' oj:ab}{q:Option (Nat × Nat)}(hid:E.H[id]? = some o)(hlab:o.label=some l0)(hlab':o'.label=some l0)(hver:o'.aF = o.aF)(hj:E.H[j]? = some oj)(hlj:oj.label=none)(hq:E.loc[j]? = some q)
  (ho:E.le { w:=E.w,H:=(E.H.set id o').set j .dead,loc:=E.loc.set j none,X:=E.X.re (eU E.X.r l0 q) }→aR { w:=E.w,H:=(E.H.set id o').set j .dead,loc:=E.loc.set j none,X:=E.X.re (eU E.X.r l0 q) } id o')
  (hmm:o.db=none∨o'.db=o.db:=by first|exact .inl rfl|exact .inr rfl|assumption) :
  aq { w:=E.w,H:=(E.H.set id o').set j .dead,loc:=E.loc.set j none,X:=E.X.re (eU E.X.r l0 q) }∧E.le { w:=E.w,H:=(E.H.set id o').set j .dead,loc:=E.loc.set j none,X:=E.X.re (eU E.X.r l0 q) }:=by
 have hne:j≠id:=fun e=>by rw[e,hid]at hj; cases hj; rw[hlab]at hlj; cases hlj
 have hlt:=aL hid;have V:=aL hj;have M:∀(i:Nat) x,(E.loc.set j none)[i]? = some (some x)→i≠j∧E.loc[i]? = some (some x):=fun i x hi=>by
  rw[dS]at hi;split at hi
  ·split at hi<;>cases hi
  ·rename_i e
   exact⟨Ne.symm e,hi⟩
 have H_old:∀(i:Nat) x,((E.H.set id o').set j .dead)[i]? = some x→(i=j∧x=.dead)∨(i=id∧x=o')∨(i≠j∧i≠id∧E.H[i]? = some x):=fun i x hi=>by
  by_cases e:i=j
  ·subst e
   rw[bk (by simp; exact V)]at hi;cases hi;exact .inl ⟨rfl,rfl⟩
  ·rw [aV (Ne.symm e)] at hi
   by_cases t:i=id
   ·subst t
    rw[bk hlt]at hi;cases hi;exact .inr (.inl ⟨rfl,rfl⟩)
   ·rw [aV (Ne.symm t)] at hi
    exact .inr (.inr ⟨e,t,hi⟩)
 have hid':((E.H.set id o').set j .dead)[id]? = some o':=by
  rw[aV hne,bk hlt]
 have N:∀(l h b m:Nat),(eU E.X.r l0 q l)[h]? = some (some (some (b,m)))→(E.X.r l)[h]? = some (some (some (b,m)))∨(l=l0∧h=(E.X.r l).length∧E.loc[j]? = some (some (b,m))):=fun l h b m hk=>by
  rcases TY hk with g|⟨g1,g2,g3⟩
  ·exact .inl g
  ·cases g3
   exact .inr ⟨g1,g2,hq⟩
 have hle:E.le { w:=E.w,H:=(E.H.set id o').set j .dead,loc:=E.loc.set j none,X:=E.X.re (eU E.X.r l0 q) }:=by
  refine⟨fun i ad hp=>?_,aH _,fun _ _ _=>rfl,fun b hb hno=>?_,fun i ad hp u=>?_,⟨rfl,rfl⟩,fun l h hh=>?_,.refl _,fun i l x h1 d O=>?_⟩
  rotate_right
  ·by_cases e : i = j
   ·subst e
    obtain⟨y,B,h4⟩:=O;simp only[]at B;rw[bk (by simp; exact V)]at B;cases B;cases h4
   ·by_cases t : i = id
    ·subst t
     rw[hid]at h1;cases h1;have R:l0=l:=by
      have:=ab.kX d;rw[hlab]at this;cases this;rfl
     subst R;rcases hmm with h|h
     ·rw[h]at d; cases d
     ·exact⟨⟨[some q],if_pos rfl⟩,o',hid',by rw[h]; exact d⟩
    ·have R : l ≠ l0 := fun R => t (H.uniq i id x o l h1 hid (ab.kX d) (by rw [R]; exact hlab))
     exact⟨⟨[],by rw[dx]; exact if_neg R⟩,x,by simp only[]; rw[aV (Ne.symm e),aV (Ne.symm t)]; exact h1,d⟩
  ·obtain ⟨x, h1, d⟩ := hp
   by_cases e:i=j
   ·subst e
    exact⟨.dead,by simp only[]; rw[bk (by simp; exact V)],rfl,fun v O=>by cases O⟩
   ·by_cases t : i = id
    ·subst t
     rw[hid]at h1;cases h1;exact⟨o',hid',ab.xR hlab',fun v O=>d.2 v (by rw[←hver]; exact O)⟩
    ·exact⟨x,by simp only[]; rw[aV (Ne.symm e),aV (Ne.symm t)]; exact h1,d⟩
  ·rintro (⟨i, c, hi⟩ | ⟨l, h, m, hm⟩)
   ·exact hno (.inl ⟨i,c,(M i _ hi).2⟩)
   ·rcases N l h b m hm with h1 | ⟨_, _, h1⟩
    ·exact hno (.inr ⟨l,h,m,h1⟩)
    ·exact hno (.inl ⟨j,m,h1⟩)
  ·obtain ⟨x, h1, d⟩ := u
   rcases H_old i x h1 with⟨_,rfl⟩|⟨rfl,rfl⟩|⟨J,t,B⟩
   ·cases d
   ·exact⟨⟨o,hid,by rw[←hver]; exact d⟩,by simp only[]; rw[aV hne]⟩
   ·exact⟨⟨x,B,d⟩,by simp only[]; rw[aV (Ne.symm J)]⟩
  ·obtain ⟨g1, g2⟩ := J3 (r := E.X.r) (l0 := l0) (q := q) hh
   exact⟨g1,fun y I=>by
    have I:(eU E.X.r l0 q l)[h]? = some (some y):=I
    rwa [g2]at I⟩
 refine⟨⟨by simp[H.len],fun i k b m n hi hk=>H.inj i k b m n (M i _ hi).2 (M k _ hk).2,fun i b m hi=>H.lt i b m (M i _ hi).2,fun b hb=>H.X b hb,fun i x hi=>?_,H.fh.bD hle.toC,fun l h l' h' b m n h1 d=>?_,fun i b m l h n hi hk=>?_,fun l h b m hk=>?_,fun i k x y l hi hk h1 d=>?_,fun l hn h y I=>?_⟩,hle⟩
 ·rcases H_old i x hi with ⟨rfl, rfl⟩ | ⟨rfl, rfl⟩ | ⟨J, t, B⟩
  ·simp only [aR]
   rw[bk (by rw[H.len]; exact V)]
  ·exact ho hle
  ·refine j6 (fun a _ hr => bK hle a hr) (by simp only []; rw [aV (Ne.symm J)]) (fun _ _ _ => rfl) (fun l u => ?_) (H.obj i x B)
   have W:l≠l0:=fun e=>t (H.uniq i id x o l B hid u (by rw[hlab,e]));exact⟨if_neg W,fun _ _ _ _=>rfl⟩
 ·rcases N l h b m h1 with g1 | ⟨g1, g2, g3⟩ <;> rcases N l' h' b n d with z | ⟨z, k2, U⟩
  ·exact H.eS _ _ _ _ _ _ _ g1 z
  ·exact(H.cN _ _ _ _ _ _ U g1).elim
  ·exact(H.cN _ _ _ _ _ _ g3 z).elim
  ·exact⟨by rw[g1,z],by rw[g2,k2,g1,z]⟩
 ·obtain ⟨g0, g1⟩ := M i _ hi
  rcases N l h b n hk with z|⟨z,k2,U⟩
  ·exact H.cN _ _ _ _ _ _ g1 z
  ·exact g0 (H.inj _ _ _ _ _ g1 U)
 ·rcases N l h b m hk with z | ⟨z, k2, U⟩
  ·exact H.cn _ _ _ _ z
  ·exact H.lt _ _ _ U
 ·have key:∀ (i:Nat) x,((E.H.set id o').set j .dead)[i]? = some x→x.label=some l→∃ y,E.H[i]? = some y∧y.label=some l:=by
   intro i x hi u;rcases H_old i x hi with⟨_,rfl⟩|⟨rfl,rfl⟩|⟨J,t,B⟩
   ·cases u
   ·exact⟨o,hid,by rw[hlab,←hlab',u]⟩
   ·exact⟨x,B,u⟩
  obtain⟨x',a1,a2⟩:=key i x hi h1;obtain⟨y',b1,b2⟩:=key k y hk d;exact H.uniq i k x' y' l a1 b1 a2 b2
 ·have W : l ≠ l0 := fun e => hn id o' hid' (by rw [hlab', e])
  have I:(eU E.X.r l0 q l)[h]? = some (some y):=I;unfold eU at I;rw[if_neg W]at I;refine H.gk l (fun i x hi u=>?_) h y I;by_cases e:i=id
  ·subst e
   rw[hid]at hi;cases hi;exact W (by rw[hlab]at u; cases u; rfl)
  ·by_cases J : i = j
   ·subst J
    rw[hj]at hi;cases hi;rw[hlj]at u;cases u
   ·exact hn i x (by show ((E.H.set id o').set j .dead)[i]? = _; rw[aV (Ne.symm J),aV (Ne.symm e)]; exact hi) u
theorem aq.CG{E:Env}(H:aq E){id l0 h0:Nat}{o o' ov:ab}{q:Option (Nat × Nat)}(hid:E.H[id]? = some o)(hlab:o.label=some l0)(J:o'.label=some l0)(hver:o'.aF = o.aF)(hlv:ov.label=none) (I:∀ b m,q=some (b,m)→(E.X.r l0)[h0]? = some (some (some (b,m))))
  (ho:E.le { w:=E.w,H:=E.H.set id o'++[ov],loc:=E.loc++[q],X:=E.X.re (fZ E.X.r l0 h0) }→aR { w:=E.w,H:=E.H.set id o'++[ov],loc:=E.loc++[q],X:=E.X.re (fZ E.X.r l0 h0) } id o'∧aR { w:=E.w,H:=E.H.set id o'++[ov],loc:=E.loc++[q],X:=E.X.re (fZ E.X.r l0 h0) } E.H.length ov)
  (hmm:o.db=none:=by first|rfl|assumption) :
  aq { w:=E.w,H:=E.H.set id o'++[ov],loc:=E.loc++[q],X:=E.X.re (fZ E.X.r l0 h0) }∧E.le { w:=E.w,H:=E.H.set id o'++[ov],loc:=E.loc++[q],X:=E.X.re (fZ E.X.r l0 h0) }:=by
 have N:=aL hid;have B:∀(i:Nat) x,(E.loc++[q])[i]? = some x→E.loc[i]? = some x∨(i=E.loc.length∧x=q):=fun i x hi=>by
  rw[fb]at hi;split at hi
  ·exact .inl hi
  ·right
   cases hk:i-E.loc.length with
   |zero=>rw[hk]at hi; simp at hi; exact⟨by omega,hi.symm⟩
   |succ n=>rw[hk]at hi; simp at hi
 have M:∀(i:Nat) x,(E.H.set id o'++[ov])[i]? = some x→(i=E.H.length∧x=ov)∨(i=id∧x=o')∨(i≠id∧E.H[i]? = some x):=fun i x hi=>by
  rw[fb]at hi;split at hi
  ·by_cases d : i = id
   ·subst d
    rw[bk N]at hi;cases hi;exact .inr (.inl ⟨rfl,rfl⟩)
   ·rw [aV (Ne.symm d)] at hi
    exact .inr (.inr ⟨d,hi⟩)
  ·left
   cases hk:i-(E.H.set id o').length with
   |zero=>rw[hk]at hi; simp at hi; simp at hk; rename_i h1; simp at h1; exact⟨by omega,hi.symm⟩
   |succ n=>rw[hk]at hi; simp at hi
 have hid':(E.H.set id o'++[ov])[id]? = some o':=by
  rw[cQ (by simp; exact N),bk N]
 have u:∀(l h:Nat) y,(fZ E.X.r l0 h0 l)[h]? = some (some y)→(E.X.r l)[h]? = some (some y)∧¬ (l=l0∧h=h0):=fun l h y hk=>TZ hk;have hle:E.le { w:=E.w,H:=E.H.set id o'++[ov],loc:=E.loc++[q],X:=E.X.re (fZ E.X.r l0 h0) }:=by
  refine⟨fun i ad R=>?_,aH _,fun _ _ _=>rfl,fun b hb O=>?_,fun i ad R t=>?_,⟨rfl,rfl⟩,fun l h hh=>?_,.refl _,fun i l x h1 g hv=>?_⟩
  rotate_right
  ·by_cases d : i = id
   ·subst d
    rw[hid]at h1;cases h1;rw[hmm]at g;cases g
   ·have U : l ≠ l0 := fun U => d (H.uniq i id x o l h1 hid (ab.kX g) (by rw [U]; exact hlab))
    exact⟨⟨[],by rw[dx]; exact if_neg U⟩,x,by simp only[]; rw[cQ (by rw[kQ]; exact aL h1),aV (Ne.symm d)]; exact h1,g⟩
  ·obtain ⟨x, h1, g⟩ := R
   by_cases d:i=id
   ·subst d
    rw[hid]at h1;cases h1;exact⟨o',hid',ab.xR J,fun v hv=>g.2 v (by rw[←hver]; exact hv)⟩
   ·exact⟨x,by simp only[]; rw[cQ (by simp; exact aL h1),aV (Ne.symm d)]; exact h1,g⟩
  ·rintro (⟨i, c, hi⟩ | ⟨l, h, m, hm⟩)
   ·rcases B i _ hi with h1 | ⟨_, h1⟩
    ·exact O (.inl ⟨i,c,h1⟩)
    ·exact O (.inr ⟨l0,h0,c,I b c h1.symm⟩)
   ·exact O (.inr ⟨l,h,m,(u l h _ hm).1⟩)
  ·obtain ⟨x0, g1, _⟩ := R
   have hii:=aL g1;obtain⟨x,h1,g⟩:=t;have hloc:(E.loc++[q])[i]? = E.loc[i]? := cQ (by rw[H.len]; exact hii);rcases M i x h1 with⟨e,rfl⟩|⟨rfl,rfl⟩|⟨d,z⟩
   ·omega
   ·exact⟨⟨o,hid,by rw[←hver]; exact g⟩,hloc⟩
   ·exact⟨⟨x,z,g⟩,hloc⟩
  ·refine ⟨?_, fun y V => (u l h y V).1⟩
   show h<(fZ E.X.r l0 h0 l).length
   rw[T0];exact hh
 refine⟨⟨by simp[H.len],fun i k b m n hi hk=>?_,fun i b m hi=>?_,fun b hb=>H.X b hb,fun i x hi=>?_,H.fh.bD hle.toC,fun l h l' h' b m n h1 g=>H.eS _ _ _ _ _ _ _ (u l h _ h1).1 (u l' h' _ g).1,fun i b m l h n hi hk=>?_,fun l h b m hk=>H.cn _ _ _ _ (u l h _ hk).1,fun i k x y l hi hk h1 g=>?_,fun l hn h y V=>?_⟩,hle⟩
 ·rcases B i _ hi with g1 | ⟨g1, g2⟩ <;> rcases B k _ hk with W | ⟨W, k2⟩
  ·exact H.inj _ _ _ _ _ g1 W
  ·exact(H.cN _ _ _ _ _ _ g1 (I b n k2.symm)).elim
  ·exact(H.cN _ _ _ _ _ _ W (I b m g2.symm)).elim
  ·omega
 ·rcases B i _ hi with g1 | ⟨g1, g2⟩
  ·exact H.lt _ _ _ g1
  ·exact H.cn _ _ _ _ (I b m g2.symm)
 ·rcases M i x hi with ⟨rfl, rfl⟩ | ⟨rfl, rfl⟩ | ⟨d, z⟩
  ·exact(ho hle).2
  ·exact(ho hle).1
  ·refine j6 (fun a _ hr => bK hle a hr) (by simp only []; rw [cQ (by rw [H.len]; exact aL z)]) (fun _ _ _ => rfl) (fun l t => ?_) (H.obj i x z)
   have hne2:l≠l0:=fun e=>d (H.uniq i id x o l z hid t (by rw[hlab,e]));exact⟨if_neg hne2,fun _ _ _ _=>rfl⟩
 ·obtain ⟨r1, r2⟩ := u l h _ hk
  rcases B i _ hi with g1|⟨g1,g2⟩
  ·exact H.cN _ _ _ _ _ _ g1 r1
  ·exact r2 (H.eS _ _ _ _ _ _ _ r1 (I b m g2.symm))
 ·have key:∀ (i:Nat) x,(E.H.set id o'++[ov])[i]? = some x→x.label=some l→∃ y,E.H[i]? = some y∧y.label=some l:=by
   intro i x hi t;rcases M i x hi with⟨_,rfl⟩|⟨rfl,rfl⟩|⟨d,z⟩
   ·rw[hlv]at t; cases t
   ·exact⟨o,hid,by rw[hlab,←J,t]⟩
   ·exact⟨x,z,t⟩
  obtain⟨x',a1,a2⟩:=key i x hi h1;obtain⟨y',b1,b2⟩:=key k y hk g;exact H.uniq i k x' y' l a1 b1 a2 b2
 ·refine H.gk l (fun i x hi t => ?_) h y (u l h y V).1
  by_cases e:i=id
  ·subst e
   rw[hid]at hi;cases hi;exact hn i o' hid' (by rw[J,←hlab,t])
  ·exact hn i x (by show (E.H.set id o'++[ov])[i]? = _; rw[cQ (by simp; exact aL hi),aV (Ne.symm e)]; exact hi) t
theorem aq.T3{E:Env}(H:aq E){id l0:Nat}{o o':ab}(hid:E.H[id]? = some o)(hlab:o.label=some l0)(R:o'.label=none)(I:o'.aF = o.aF)
  (ho:E.le { w:=E.w,H:=E.H.set id o',loc:=E.loc,X:=E.X.re (iq E.X.r l0) }→aR { w:=E.w,H:=E.H.set id o',loc:=E.loc,X:=E.X.re (iq E.X.r l0) } id o')
  (hmm:o.db=none:=by first|rfl|assumption) (U:o'.born=true:=by first|rfl|assumption) :
  aq { w:=E.w,H:=E.H.set id o',loc:=E.loc,X:=E.X.re (iq E.X.r l0) }∧E.le { w:=E.w,H:=E.H.set id o',loc:=E.loc,X:=E.X.re (iq E.X.r l0) }:=by
 have J:=aL hid;have u:∀(i:Nat) x,(E.H.set id o')[i]? = some x→(i=id∧x=o')∨(i≠id∧E.H[i]? = some x):=fun i x hi=>by
  by_cases g:i=id
  ·subst g
   rw[bk J]at hi;cases hi;exact .inl ⟨rfl,rfl⟩
  ·rw [aV (Ne.symm g)] at hi
   exact .inr ⟨g,hi⟩
 have hle:E.le { w:=E.w,H:=E.H.set id o',loc:=E.loc,X:=E.X.re (iq E.X.r l0) }:=by
  refine⟨fun i ad N=>?_,aH _,fun _ _ _=>rfl,fun b hb M=>?_,fun i ad N q=>?_,⟨rfl,rfl⟩,fun l h W=>?_,.refl _,fun i l x h1 d O=>?_⟩
  rotate_right
  ·by_cases g : i = id
   ·subst g
    rw[hid]at h1;cases h1;rw[hmm]at d;cases d
   ·have z : l ≠ l0 := fun z => g (H.uniq i id x o l h1 hid (ab.kX d) (by rw [z]; exact hlab))
    exact⟨⟨[],by rw[dx]; exact if_neg z⟩,x,by simp only[]; rw[aV (Ne.symm g)]; exact h1,d⟩
  ·obtain ⟨x, h1, d⟩ := N
   by_cases g:i=id
   ·subst g
    rw[hid]at h1;cases h1;exact⟨o',by simp only[]; rw[bk J],U,fun v O=>d.2 v (by rw[←I]; exact O)⟩
   ·exact⟨x,by simp only[]; rw[aV (Ne.symm g)]; exact h1,d⟩
  ·rintro (⟨i, c, hi⟩ | ⟨l, h, m, hm⟩)
   ·exact M (.inl ⟨i,c,hi⟩)
   ·exact M (.inr ⟨l,h,m,(iN hm).1⟩)
  ·obtain ⟨x, h1, d⟩ := q
   rcases u i x h1 with⟨rfl,rfl⟩|⟨g,t⟩
   ·exact⟨⟨o,hid,by rw[←I]; exact d⟩,rfl⟩
   ·exact⟨⟨x,t,d⟩,rfl⟩
  ·refine ⟨?_, fun y B => (iN B).1⟩
   show h<(iq E.X.r l0 l).length
   rw[J4];exact W
 refine⟨⟨by simp[H.len],H.inj,H.lt,H.X,fun i x hi=>?_,H.fh.bD hle.toC,fun l h l' h' b m n h1 d=>H.eS _ _ _ _ _ _ _ (iN h1).1 (iN d).1,fun i b m l h n hi hk=>H.cN _ _ _ _ _ _ hi (iN hk).1,fun l h b m hk=>H.cn _ _ _ _ (iN hk).1,fun i k x y l hi hk h1 d=>?_,fun l hn h y B=>?_⟩,hle⟩
 ·rcases u i x hi with ⟨rfl, rfl⟩ | ⟨g, t⟩
  ·exact ho hle
  ·refine j6 (fun a _ hr => bK hle a hr) rfl (fun _ _ _ => rfl) (fun l q => ?_) (H.obj i x t)
   have V:l≠l0:=fun e=>g (H.uniq i id x o l t hid q (by rw[hlab,e]));exact⟨if_neg V,fun _ _ _ _=>rfl⟩
 ·have key:∀ (i:Nat) x,(E.H.set id o')[i]? = some x→x.label=some l→E.H[i]? = some x:=by
   intro i x hi q;rcases u i x hi with⟨rfl,rfl⟩|⟨g,t⟩
   ·rw[R]at q; cases q
   ·exact t
  exact H.uniq i k x y l (key i x hi h1) (key k y hk d) h1 d
 ·obtain ⟨g1, g2⟩ := iN B
  refine H.gk l (fun i x hi q=>?_) h y g1;by_cases e:i=id
  ·subst e
   rw[hid]at hi;cases hi;exact g2 (by rw[hlab]at q; cases q; rfl)
  ·exact hn i x (by show (E.H.set id o')[i]? = _; rw[aV (Ne.symm e)]; exact hi) q
theorem yn{E:Env}(HE:aq E){id l w cl:Nat}{es:List (AV × Option (List (List AV)) × Nat)}{c:Value}(hid:E.H[id]? = some (.aY l w es cl))(d:rel E (.map id) c) :
  ∃ b n ms,c=.map (some b)∧E.loc[id]? = some (some (b,n))∧E.w.heap[b]? = some (.map ms cl)∧bo E (cC es) ms.toList∧iM E l w es ms.toList:=by
 have ho:=HE.obj id _ hid;simp only[aR]at ho;obtain⟨b,n,ms,h1,g,h,k⟩:=ho;simp only[rel]at d;obtain⟨_,_,q⟩:=d;obtain⟨t,u,g1,g2⟩:=q ⟨_,hid,rfl⟩;rw[h1]at g1;simp only[aX,a8]at g1;obtain⟨rfl,rfl⟩:=g1;exact⟨b,n,ms,g2,h1,g,h,k⟩
theorem yo{es:List (AV × Option (List (List AV)) × Nat)}{i:Nat}{x:AV × Option (List (List AV)) × Nat}(h:es[i]? = some x):(cC es)[i]? = some (x.1,.undef,x.2.2):=by
 unfold cC;rw[bR,h];rfl
def yp(P:Program)(t:TypeId):Option Nat:=match cr P t with
 |.slice _ w _=>some w
 |_=>none
def nV (es:List (AV × Option (List (List AV)) × Nat)) (i:Nat):Option (AV × List (List AV) × Nat):=match es[i]? with
 |some (key,some rows,n)=>some (key,rows,n)
 |_=>none
def uC(P:Program)(t:TypeId)(m k:AV)(H:List ab):Option (AV × List ab) :=
 match cZ P t,m with
 | some (d,g),.map id=>match H[id]? with
  | some (.aY l w es cl)=>match il P d k,yp P g,gY P g with
   | some h,some w',some (.lit (.slice none 0 0))=>match af w' w with
    | true=>match ew P d h (cC es) 0 with
     | some (some (i,_))=>match nV es i with
      |some (key,rows,n)=>some (.vec w H.length 0 0 rows.length,H.set id (.aY l w (es.set i (key,none,n)) cl)++[.vec w 0 rows])
      |none=>none
     |some none=>some (.vec w H.length 0 0 0,H.set id (.aY l w es cl)++[.vec w 0 []])
     |none=>none
    |false=>none
   |_,_,_=>none
  |_=>none
 |_,_=>none
theorem T4{E:Env}{l w i:Nat}{es:List (AV × Option (List (List AV)) × Nat)}{ms:List MapEntry}{x:AV × Option (List (List AV)) × Nat}(v:x.2.1=none)(h:iM E l w es ms):iM E l w (es.set i x) ms:=by
 obtain⟨B,h1,I⟩:=h;have g:∀(j:Nat) y,(es.set i x)[j]? = some y→y.2.1.isSome=true→es[j]? = some y∧j≠i:=fun j y d k=>by
  rw[dS]at d;split at d
  ·split at d
   ·cases d
    rw[v]at k;cases k
   ·cases d
  ·rename_i u
   exact⟨d,Ne.symm u⟩
 refine⟨B,fun a b y z d J q sz he=>h1 a b y z (g a y d q).1 (g b z J sz).1 q sz he,fun a y rows e d t he=>I a y rows e (g a y d (by rw[t]; rfl)).1 t he⟩
theorem CH{E:Env}{i:Nat}{es:List (AV × Option (List (List AV)) × Nat)}{ms:List MapEntry}{x y:AV × Option (List (List AV)) × Nat}(hi:es[i]? = some x)(h1:y.1=x.1)(d:y.2.2=x.2.2)(h:bo E (cC es) ms):bo E (cC (es.set i y)) ms:=by
 have e:cC (es.set i y)=cC es:=by
  apply kP;intro j;unfold cC;rw[bR,bR,dS];split
  ·rename_i e
   subst e;rw[if_pos (aL hi),hi];simp[h1,d]
  ·rfl
 rw[e];exact h
theorem T5{P:Program}{E:Env}(HE:aq E){t:TypeId}{m k v:AV}{c d:Value}{H':List ab}(h:uC P t m k E.H=some (v,H'))(hm:rel E m c)(hk:rel E k d) :
  ∃ u w',(kS t c d false).run P E.w=.ok u w'∧cL E v H' u w':=by
 unfold uC at h;split at h
 case h_2=>cases h
 rename_i kt et id ht;split at h
 case h_2=>cases h
 rename_i l w es cl hid;split at h
 case h_2=>cases h
 rename_i kv w' hkv hw' hz;split at h
 case h_2=>cases h
 rename_i hww;have hww:=br hww;clear hw' hww;obtain⟨b,n,ms,rfl,h1,h2,h3,h4⟩:=yn HE hid hm;have hkv':=im hkv hk;have e1:(getObj b).run P E.w=.ok (.map ms cl) E.w:=by simp[getObj,gE,h2]
 have hlenH:E.H.length=E.loc.length:=HE.len.symm;split at h
 ·rename_i i v0 hf
  split at h
  case h_2=>cases h
  rename_i key rows bn hat;cases h;have hes:es[i]? = some (key,some rows,bn):=by
   unfold nV at hat;split at hat
   ·rename_i a1 a2 a3 he
    cases hat;exact he
   ·cases hat
  obtain⟨r',g1,g2⟩:=gX hkv' E.w h3 hf;cases r' with
  |none=>simp[dc]at g2
  | some q =>
   simp only[dc]at g2;obtain⟨q1,q2,_,e',q4,q5⟩:=g2;simp only[gC]at q4;have hval:q.2=e'.val:=q5.symm;obtain⟨U,k1,k2⟩:=h4;have hsl:=k2 i _ rows e' hes rfl q4;obtain⟨M,h0,z1,z2,z3⟩:∃(M:Option (Nat × Nat)) (h0:Nat),(∀ b m,M=some (b,m)→(E.X.r l)[h0]? = some (some (some (b,m)))) ∧
     (∀ j y,es[j]? = some y→y.2.1.isSome=true→j≠i→∀ b m,(E.X.r l)[U j]? = some (some (some (b,m)))→U j≠h0) ∧
     ((M=none∧rows=[]∧∃ base,e'.val=.slice base 0 0)∨∃ b m,M=some (b,m)∧e'.val=.slice (some ⟨b,0,none⟩) rows.length m∧isRow E.w b (m*w)∧rows.length≤m∧ff rows∧cz E w rows b 0):=by
    rcases hsl with⟨s1,s2⟩|⟨O,mm,s1,s2,V,R,W,s6⟩
    ·exact⟨none,(E.X.r l).length,fun _ _ e=>(by cases e),fun j y _ _ _ b m hb e=>(by rw[e]at hb; have:=aL hb; omega),.inl ⟨rfl,s1,s2⟩⟩
    ·exact⟨some (O,mm),U i,fun _ _ e=>(by cases e; exact s1),fun j y J hsy hne _ _ _ e=>hne (k1 j i _ _ J hes hsy rfl e),.inr ⟨O,mm,rfl,s2,V,R,W,s6⟩⟩
   obtain⟨r1,r2⟩:=aq.CG HE (id:=id) (l0:=l) (h0:=h0) (o':=.aY l w (es.set i (key,none,bn)) cl) (ov:=.vec w 0 rows) (q:=M) hid rfl rfl rfl rfl z1 fun hle=>by
    refine⟨?_,?_⟩
    ·simp only [aR]
     refine⟨b,n,ms,?_,h2,?_,?_⟩
     ·rw [cQ (aL h1)]
      exact h1
     ·exact fX (fun a _ B=>bK hle a B) (CH hes rfl rfl h3)
     ·obtain ⟨_, k3, k4⟩ := T4 (i := i) (x := (key, none, bn)) rfl (show iM E l w es ms.toList from ⟨U, k1, k2⟩)
      refine⟨U,fun a b' y z J hz sy sz he=>?_,fun a y rws e J B he=>?_⟩
      all_goals
       have old:∀(j:Nat) y,(es.set i (key,none,bn))[j]? = some y→y.2.1.isSome=true→es[j]? = some y∧j≠i:=fun j y J hsm=>by
        rw[dS]at J;split at J
        ·split at J
         ·cases J
          cases hsm
         ·cases J
        ·rename_i hne
         exact⟨J,Ne.symm hne⟩
      ·exact k1 a b' y z (old a y J sy).1 (old b' z hz sz).1 sy sz he
      ·obtain ⟨o1, o2⟩ := old a y J (by rw [B]; rfl)
       rcases k2 a y rws e o1 B he with N|⟨O,mm,s1,s2,V,R,W,s6⟩
       ·exact .inl N
       ·refine .inr ⟨O, mm, ?_, s2, V, R, W, kZ (fun a _ B => bK hle a B) rfl s6⟩
        have hne:=z2 a y o1 (by rw[B]; rfl) o2 O mm s1;show (fZ E.X.r l h0 l)[U a]? = _
        rw[CF fun e=>hne e.2];exact s1
    ·simp only [aR]
     have N:(E.loc++[M])[E.H.length]? = some M:=by rw[hlenH]; simp
     rcases z3 with⟨rfl,s1,_⟩|⟨O,mm,rfl,_,V,R,W,s6⟩
     ·exact .inl ⟨N,s1⟩
     ·exact .inr ⟨O,mm,N,V,R,W,kZ (fun a _ B=>bK hle a B) rfl s6⟩
   refine⟨q.2,E.w,?_,E.loc++[M],fZ E.X.r l h0,?_,r1,r2⟩
   ·simp only [kS, bT, Sem.a_ (fJ ht), bP, e1, fc, gq hkv', g1]
    rfl
   ·have hnew:(E.H.set id (.aY l w (es.set i (key,none,bn)) cl)++[.vec w 0 rows])[E.H.length]? = some (.vec w 0 rows):=by
     rw[jv (by simp)];simp
    have N:(E.loc++[M])[E.H.length]? = some M:=by rw[hlenH]; simp
    rw[hval];simp only[rel];rcases z3 with⟨rfl,s1,base,s2⟩|⟨O,mm,rfl,s2,V,R,W,s6⟩
    ·subst s1
     refine⟨⟨base,0,by rw[s2]; rfl,aH _,fun h=>by simp at h⟩,⟨_,hnew,rfl,fun v hv=>by cases hv; exact aH _⟩,fun _=>⟨fun _=>⟨by first|rfl|trivial,by first|rfl|trivial,base,s2⟩,fun b' m' I=>?_⟩⟩;rw[N]at I;cases I
    ·refine ⟨⟨_, mm, s2, R, fun _ => ⟨O, 0, rfl⟩⟩, ⟨_, hnew, rfl, fun v hv => by cases hv; exact aH _⟩, fun _ => ⟨fun I => ?_, fun b' m' I => ?_⟩⟩
     ·rw [N] at I
      cases I
     ·rw [N] at I
      cases I;exact⟨by omega,0,fun _=>by simp,by rw[s2,gC]⟩
 ·rename_i hf
  cases h;obtain⟨r',g1,g2⟩:=gX hkv' E.w h3 hf;cases r' with
  |some _=>simp[dc]at g2
  | none =>
   obtain⟨zv,z1,z2⟩:=rC hz E.w;have hzv:zv=.slice none 0 0:=by have:=z2 E; simpa[rel]using this
   obtain⟨r1,r2⟩:=aq.CG HE (id:=id) (l0:=l) (h0:=(E.X.r l).length) (o':=.aY l w es cl) (ov:=.vec w 0 []) (q:=none) hid rfl rfl rfl rfl (fun _ _ e=>by cases e) fun hle=>by
    refine⟨?_,?_⟩
    ·simp only [aR]
     refine⟨b,n,ms,?_,h2,fX (fun a _ B=>bK hle a B) h3,uh (E:=E) (fun h g m hk=>⟨?_,rfl⟩) (fun _ _ _ _ _ b' I _ B=>kZ (fun a _ B=>bK hle a B) I B) h4⟩
     ·rw [cQ (aL h1)]
      exact h1
     ·show (fZ E.X.r l (E.X.r l).length l)[h]? = _
      rw[CF fun e=>by rw[e.2]at hk; have:=aL hk; omega];exact hk
    ·simp only [aR]
     exact .inl ⟨by rw[hlenH]; simp,by first|rfl|trivial⟩
   refine⟨zv,E.w,?_,E.loc++[none],fZ E.X.r l (E.X.r l).length,?_,r1,r2⟩
   ·simp only [kS, bT, Sem.a_ (fJ ht), bP, e1, fc, gq hkv', g1, z1]
    rfl
   ·have hnew:(E.H.set id (.aY l w es cl)++[.vec w 0 []])[E.H.length]? = some (.vec w 0 []):=by
     rw[jv (by simp)];simp
    have N:(E.loc++[(none:Option (Nat × Nat))])[E.H.length]? = some none:=by rw[hlenH]; simp
    rw[hzv];simp only[rel];refine⟨⟨none,0,rfl,aH _,fun h=>by simp at h⟩,⟨_,hnew,rfl,fun v hv=>by cases hv; exact aH _⟩,fun _=>⟨fun _=>⟨by first|rfl|trivial,by first|rfl|trivial,none,rfl⟩,fun b' m' I=>?_⟩⟩;rw[N]at I;cases I
 ·cases h
theorem CI{es:List (AV × Option (List (List AV)) × Nat)}{i:Nat}{x:AV × Option (List (List AV)) × Nat}{f:AV × Option (List (List AV)) × Nat→AV × Option (List (List AV)) × Nat}(h:es[i]? = some x):es.modify i f=es.set i (f x):=by
 apply kP;intro j;rw[iH,dS];by_cases e:i=j
 ·subst e
  rw[if_pos rfl,if_pos (aL h),h];simp
 ·rw [if_neg e]
  simp[e]
def pM(P:Program)(t:TypeId)(m k v:AV)(H:List ab):Option (List ab) :=
 match cZ P t,m,v with
 | some (d,_),.map id,.vec w j ad off n=>match H[id]?,H[j]? with
  | some (.aY l w' es cl),some (.vec h g rows)=>match il P d k with
   | some q=>if (w=w'∧w=h)∧(ad=g∧off=0)∧n=rows.length∧k.closed=true then
     match ew P d q (cC es) 0 with
     |some (some (i,_))=>some ((H.set id (.aY l w' (es.modify i fun e=>(k,some rows,e.2.2)) cl)).set j .dead)
     |some none=>some ((H.set id (.aY l w' (es++[(k,some rows,cl)]) (cl+1))).set j .dead)
     |none=>none
    else none
   |none=>none
  |_,_=>none
 |_,_,_=>none
theorem uD{P:Program}{E:Env}(HE:aq E){id l w b n cl cl':Nat}{es es':List (AV × Option (List (List AV)) × Nat)}{ms ms':Array MapEntry}(hid:E.H[id]? = some (.aY l w es cl)) (k:E.loc[id]? = some (some (b,n)))
  (hb:E.w.heap[b]? = some (.map ms cl)) (d:bo E (cC es') ms'.toList) (u:iM E l w es' ms'.toList) :
  ∃ w',(setObj b (.map ms' cl')).run P E.w=.ok () w'∧aq { w:=w',H:=E.H.set id (.aY l w es' cl'),loc:=E.loc,X:=E.X }∧E.le { w:=w',H:=E.H.set id (.aY l w es' cl'),loc:=E.loc,X:=E.X } ∧
   w'.heap[b]? = some (.map ms' cl')∧∀ y,y≠b→w'.heap[y]? = E.w.heap[y]? := by
 have t:=(HE.lt id b n k).1;have v:({ E.w with heap:=E.w.heap.setIfInBounds b (.map ms' cl') }:World).heap.size=E.w.heap.size:=by simp
 have q:∀ y,y≠b→({ E.w with heap:=E.w.heap.setIfInBounds b (.map ms' cl') }:World).heap[y]? = E.w.heap[y]? := by
  intro y I;simp only[BO];rw[if_neg (fun e=>I e.symm)]
 have key:=aq.ui (E:=E) (w':={ E.w with heap:=E.w.heap.setIfInBounds b (.map ms' cl') }) (o':=.aY l w es' cl') (r':=E.X.r) HE hid rfl rfl rfl (by rw[v]; exact aH _) (fun x _ z _=>q x fun e=>z n (by rw[e]; exact k)) (fun _ _=>rfl) (fun _ _ _ h=>.inl h) (fun h J=>⟨J,fun _ M=>M⟩) (fun hle=>by
  simp only[aR];refine⟨b,n,ms',k,by simp[t],fX (fun a _ d=>bK hle a d) d,uh (E:=E) (fun h g m hk=>⟨hk,q g fun e=>HE.cN _ _ _ _ _ _ k (by rw[←e]; exact hk)⟩) (fun _ _ _ _ _ N B _ d=>kZ (fun a _ d=>bK hle a d) B d) u⟩) ⟨rfl,rfl,rfl,by first|exact fun _=>aH _|exact fun _=>fT _ _⟩
 rw[XS.S8]at key;exact⟨_,by simp[setObj,gE,hb],key.1,key.2,by simp[t],q⟩
theorem CJ{E:Env}(HE:aq E){id j l w cl i ad:Nat}{es:List (AV × Option (List (List AV)) × Nat)}{rows:List (List AV)}{key:AV}{bn b n:Nat}{ms:Array MapEntry}{e:MapEntry}(hid:E.H[id]? = some (.aY l w es cl))(v:E.H[j]? = some (.vec w ad rows))
  (hi:es[i]? = some (key,none,bn)) (hloc:E.loc[id]? = some (some (b,n))) (hb:E.w.heap[b]? = some (.map ms cl)) (he:ms.toList[i]? = some e) (t:bo E (cC es) ms.toList) (hsl:iM E l w es ms.toList) (hv:rel E (.vec w j ad 0 rows.length) e.val) :
  ∃ W r',aq { w:=E.w,H:=(E.H.set id (.aY l w (es.set i (key,some rows,bn)) cl)).set j .dead,loc:=W,X:=E.X.re r' }∧E.le { w:=E.w,H:=(E.H.set id (.aY l w (es.set i (key,some rows,bn)) cl)).set j .dead,loc:=W,X:=E.X.re r' }:=by
 have J:j≠id:=fun e=>by rw[e,hid]at v; cases v
 have M:=HE.obj j _ v;simp only[rel]at hv;obtain⟨_,_,v3⟩:=hv;obtain⟨v4,v5⟩:=v3 ⟨_,v,rfl⟩;simp only[aR]at M;obtain⟨q,hq⟩:∃ q,E.loc[j]? = some q:=by
  rcases M with⟨h1,_⟩|⟨O,m',h1,_⟩
  ·exact⟨_,h1⟩
  ·exact⟨_,h1⟩
 obtain⟨I,k1,k2⟩:=hsl;have htl:∀ h,h<(E.X.r l).length→(eU E.X.r l q l)[h]? = (E.X.r l)[h]? := fun h d=>(J3 d).2;have hnew:(eU E.X.r l q l)[(E.X.r l).length]? = some (some q):=by
  unfold eU;rw[if_pos rfl];simp
 obtain⟨r1,r2⟩:=aq.attach HE (id:=id) (j:=j) (o':=.aY l w (es.set i (key,some rows,bn)) cl) (q:=q) hid rfl rfl rfl v rfl hq fun hle=>by
  simp only[aR];refine⟨b,n,ms,?_,hb,fX (fun a _ t=>bK hle a t) (CH hi rfl rfl t),?_⟩
  ·rw [aV J]
   exact hloc
  ·-- handles: the B ones, but at i the new one; empty ones take none
   have B:∀(a:Nat) y,(es.set i (key,some rows,bn))[a]? = some y→a≠i→es[a]? = some y:=fun a y g J=>by
    rwa [aV (Ne.symm J)]at g
   have at_i:∀ y,(es.set i (key,some rows,bn))[i]? = some y→y=(key,some rows,bn):=fun y g=>by
    rw[bk (aL hi)]at g;cases g;rfl
   refine⟨fun a=>if a=i then (E.X.r l).length else if I a<(E.X.r l).length then I a else (E.X.r l).length+1+I a,fun a c y z g hz sy sz d=>?_,fun a y rws e' g hr' N=>?_⟩
   ·by_cases k : a = i
    ·by_cases u : c = i
     ·rw[k,u]
     ·simp only [if_pos k, if_neg u] at d
      split at d<;>omega
    ·by_cases u : c = i
     ·simp only [if_neg k, if_pos u] at d
      split at d<;>omega
     ·simp only [if_neg k, if_neg u] at d
      refine k1 a c y z (B a y g k) (B c z hz u) sy sz ?_;split at d<;>split at d<;>omega
   ·by_cases k : a = i
    ·subst k
     have:=at_i y g;subst this;cases hr';rw[he]at N;cases N;rcases M with⟨h1,R⟩|⟨O,m',h1,R,U,h4,h5⟩
     ·obtain ⟨_, _, base, U⟩ := v4 h1
      subst R;exact .inl ⟨rfl,base,U⟩
     ·obtain ⟨h6, o, h7, V⟩ := v5 O m' h1
      rw[hq]at h1;cases h1;simp only[cR,pj,gC]at h6 h7 V;by_cases hm:0<m'
      ·have := h7 hm
       subst this;refine .inr ⟨O,m',?_,V,R,U,h4,kZ (fun a _ t=>bK hle a t) rfl h5⟩;simp only[if_true];exact hnew
      ·have hr0 : rows = [] := nE (by omega)
       have hm0:m'=0:=by omega
       subst hr0;subst hm0;exact .inl ⟨rfl,_,V⟩
    ·rcases k2 a y rws e' (B a y g k) hr' N with hl | ⟨bb, mm, s1, s2, s3, s4, s5, s6⟩
     ·exact .inl hl
     ·refine .inr ⟨bb, mm, ?_, s2, s3, s4, s5, kZ (fun a _ t => bK hle a t) rfl s6⟩
      have d:=aL s1;simp only[if_neg k,if_pos d];show (eU E.X.r l q l)[I a]? = _
      rw[htl _ d];exact s1
 exact⟨_,_,r1,r2⟩
theorem T6{P:Program}{E:Env}(HE:aq E){t:TypeId}{m k v:AV}{c d u:Value}{H':List ab}(h:pM P t m k v E.H=some H')(hm:rel E m c)(hk:rel E k d)(hv:rel E v u) :
  ∃ w',(mr t c d u).run P E.w=.ok () w'∧∀ x,cL E .undef H' x w':=by
 unfold pM at h;split at h
 case h_2=>cases h
 rename_i kt et id w j ad off n ht;split at h
 case h_2=>cases h
 rename_i l w' es cl w2 ver' rows hid hj;split at h
 case h_2=>cases h
 rename_i kv hkv;split at h
 case isFalse=>cases h
 rename_i hc;obtain⟨⟨rfl,rfl⟩,⟨rfl,rfl⟩,rfl,hcl⟩:=hc;obtain⟨b,n,ms,rfl,h1,h2,h3,h4⟩:=yn HE hid hm;have hne:j≠id:=fun e=>by rw[e,hid]at hj; cases hj
 have N:=im hkv hk;have e1:(getObj b).run P E.w=.ok (.map ms cl) E.w:=by simp[getObj,gE,h2]
 obtain⟨hlen,hall⟩:=eE.1 h3;rw[B4]at hlen;split at h
 ·rename_i i v0 hf
  cases h;obtain⟨r',g1,g2⟩:=gX N E.w h3 hf;cases r' with
  |none=>simp[dc]at g2
  | some q =>
   simp only[dc]at g2;obtain⟨q1,q2,_,e',M,q5⟩:=g2;obtain⟨_,x,y,f1,f2,f3⟩:=uy hf;simp only[gC]at M f1;obtain⟨a1,a2,a3,a4,a5⟩:=hall i x e' f1 M;obtain⟨s1,s2⟩:=yk N (im f2 a1) f3;have q4':ms[i]? = some e':=by simpa using M
   have hlt:i<es.length:=by have:=aL M; omega
   obtain⟨I,hx0⟩:∃ I,es[i]? = some I:=⟨es[i],bd hlt⟩
   have hx:x=(I.1,.undef,I.2.2):=by rw[yo hx0]at f1; cases f1; rfl
   have hkk:(k,(none:Option (List (List AV))),I.2.2)=(k,none,I.2.2):=rfl;have hre:bo E (cC (es.set i (k,none,I.2.2))) (ms.modify i fun e=>{ e with key:=d,val:=u }).toList:=by
    rw[eE];refine⟨by simp[cC,hlen],fun a y z g B=>?_⟩;simp only[kT,iH]at B;obtain⟨z0,U,rfl⟩:=dR.1 B;unfold cC at g;rw[bR,dS]at g;by_cases e:i=a
    ·subst e
     rw[if_pos rfl,if_pos hlt]at g;cases g;rw[M]at U;cases U;simp only[if_true];refine⟨hk,by simp[rel],?_,hcl,rfl⟩;rw[a3,hx]
    ·rw [if_neg e] at g
     obtain⟨b1,b2,b3,b4,b5⟩:=hall a y z0 (by unfold cC; rw[bR]; exact g) U;simp only[if_neg e];exact⟨b1,b2,b3,b4,b5⟩
   have hsl2:iM E l w (es.set i (k,none,I.2.2)) (ms.modify i fun e=>{ e with key:=d,val:=u }).toList:=by
    obtain⟨hs,k1,k2⟩:=h4;have J:∀(a:Nat) y,(es.set i (k,none,I.2.2))[a]? = some y→y.2.1.isSome=true→es[a]? = some y∧a≠i:=fun a y g hsm=>by
     by_cases ei:i=a
     ·subst ei
      rw[bk hlt]at g;cases g;cases hsm
     ·rw [aV ei] at g
      exact⟨g,Ne.symm ei⟩
    refine⟨hs,fun a c y z g B V sz he=>k1 a c y z (J a y g V).1 (J c z B sz).1 V sz he,fun a y rws e g W he=>?_⟩;obtain⟨o1,o2⟩:=J a y g (by rw[W]; rfl);simp only[kT,iH]at he;obtain⟨z0,U,rfl⟩:=dR.1 he;rw[if_neg (Ne.symm o2)];exact k2 a y rws z0 o1 W U
   obtain⟨w',p1,p2,p3,p4,p5⟩:=uD (P:=P) HE (cl':=cl) hid h1 h2 hre hsl2;have hst:(qQ e'.key d).run P E.w=.ok d E.w:=by simp[qQ,s2]
   have hrun:(mr t (.map (some b)) d u).run P E.w=.ok () w':=by
    subst q1;simp only[mr,bT,Sem.a_ (fJ ht),bP,e1,gq N,g1,q4',dL,nI,hst];exact p1
   have O:({ w:=w',H:=E.H.set id (.aY l w (es.set i (k,none,I.2.2)) cl),loc:=E.loc,X:=E.X }:Env).H[id]? = some (.aY l w (es.set i (k,none,I.2.2)) cl):=by
    simp only[];rw[bk (aL hid)]
   have hjE:({ w:=w',H:=E.H.set id (.aY l w (es.set i (k,none,I.2.2)) cl),loc:=E.loc,X:=E.X }:Env).H[j]? = some (.vec w ad rows):=by
    simp only[];rw[aV (Ne.symm hne)];exact hj
   have R:=p2.obj id _ O;simp only[aR]at R;obtain⟨b2,n2,ms2,o1,o2,o3,o4⟩:=R;rw[h1]at o1;simp only[aX,a8]at o1;obtain⟨rfl,rfl⟩:=o1;rw[p4]at o2;cases o2;obtain⟨loc',r',r1,r2⟩:=CJ p2 (i:=i) (key:=k) (bn:=I.2.2) (e:={ e' with key:=d,val:=u }) O hjE (by rw[bk hlt]) h1 p4 (by
    simp only[kT,iH,M];simp) o3 o4 (bK p3 _ hv)
   refine⟨w',hrun,fun xx=>⟨loc',r',by simp[rel],?_,p3.trans ?_⟩⟩
   ·simpa[nJ,CI hx0]using r1
   ·simpa[nJ,CI hx0]using r2
 ·rename_i hf
  cases h;obtain⟨r',g1,g2⟩:=gX N E.w h3 hf;cases r' with
  |some _=>simp[dc]at g2
  | none =>
   have hml:ms.toList.length=es.length:=by omega
   have hre:bo E (cC (es++[(k,none,cl)])) (ms.push { key:=d,val:=u,born:=cl }).toList:=by
    rw[eE];refine⟨by simp[cC,hlen],fun a y z g B=>?_⟩;unfold cC at g;rw[iI]at g;simp only[po,fb,dv]at g B;rw[hml]at B;by_cases e:a<es.length
    ·simp only [if_pos e] at g B
     exact hall a y z (by unfold cC; exact g) B
    ·simp only [if_neg e] at g B
     cases hj2:a-es.length with
     | zero =>
      rw[hj2]at g B;simp at g B;subst g; subst B;exact⟨hk,by simp[rel],rfl,hcl,rfl⟩
     |succ _=>rw[hj2]at g; simp at g
   have hsl2:iM E l w (es++[(k,none,cl)]) (ms.push { key:=d,val:=u,born:=cl }).toList:=by
    obtain⟨hs,k1,k2⟩:=h4;have J:∀(a:Nat) y,(es++[(k,(none:Option (List (List AV))),cl)])[a]? = some y→y.2.1.isSome=true→es[a]? = some y∧a<es.length:=fun a y g hsm=>by
     rw[fb]at g;split at g
     ·rename_i hh
      exact⟨g,hh⟩
     ·cases hk2 : a - es.length with
      | zero =>
       rw[hk2]at g;simp at g;subst g;cases hsm
      |succ _=>rw[hk2]at g; simp at g
    refine⟨hs,fun a c y z g B V sz he=>k1 a c y z (J a y g V).1 (J c z B sz).1 V sz he,fun a y rws e g W he=>?_⟩;obtain⟨o1,o2⟩:=J a y g (by rw[W]; rfl);simp only[po]at he;rw[cQ (by omega)]at he;exact k2 a y rws e o1 W he
   obtain⟨w',p1,p2,p3,p4,p5⟩:=uD (P:=P) HE (cl':=cl+1) hid h1 h2 hre hsl2;have hrun:(mr t (.map (some b)) d u).run P E.w=.ok () w':=by
    simp only[mr,bT,Sem.a_ (fJ ht),bP,e1,gq N,g1];exact p1
   have O:({ w:=w',H:=E.H.set id (.aY l w (es++[(k,none,cl)]) (cl+1)),loc:=E.loc,X:=E.X }:Env).H[id]? = some (.aY l w (es++[(k,none,cl)]) (cl+1)):=by
    simp only[];rw[bk (aL hid)]
   have hjE:({ w:=w',H:=E.H.set id (.aY l w (es++[(k,none,cl)]) (cl+1)),loc:=E.loc,X:=E.X }:Env).H[j]? = some (.vec w ad rows):=by
    simp only[];rw[aV (Ne.symm hne)];exact hj
   have R:=p2.obj id _ O;simp only[aR]at R;obtain⟨b2,n2,ms2,o1,o2,o3,o4⟩:=R;rw[h1]at o1;simp only[aX,a8]at o1;obtain⟨rfl,rfl⟩:=o1;rw[p4]at o2;cases o2;obtain⟨loc',r',r1,r2⟩:=CJ p2 (i:=es.length) (key:=k) (bn:=cl) (e:={ key:=d,val:=u,born:=cl }) O hjE (by simp) h1 p4 (by
    simp only[po];rw[jv (by omega)];simp[hml]) o3 o4 (bK p3 _ hv)
   have e2:(es++[(k,(none:Option (List (List AV))),cl)]).set es.length (k,some rows,cl)=es++[(k,some rows,cl)]:=by
    rw[List.set_append_right _ _ (aH _),Nat.sub_self];rfl
   refine⟨w',hrun,fun xx=>⟨loc',r',by simp[rel],?_,p3.trans ?_⟩⟩
   ·simpa[nJ,e2]using r1
   ·simpa[nJ,e2]using r2
 ·cases h
theorem aq.J5{E:Env}(H:aq E){id l0:Nat}{o o':ab}(hid:E.H[id]? = some o)(hlab:o.label=none)(B:o'.label=some l0)(I:o'.aF = o.aF)(z:∀(i:Nat) x,E.H[i]? = some x→x.label≠some l0)
  (ho:E.le { w:=E.w,H:=E.H.set id o',loc:=E.loc,X:=E.X }→aR { w:=E.w,H:=E.H.set id o',loc:=E.loc,X:=E.X } id o') :
  aq { w:=E.w,H:=E.H.set id o',loc:=E.loc,X:=E.X }∧E.le { w:=E.w,H:=E.H.set id o',loc:=E.loc,X:=E.X }:=by
 have J:=aL hid;have u:∀(i:Nat) x,(E.H.set id o')[i]? = some x→(i=id∧x=o')∨(i≠id∧E.H[i]? = some x):=fun i x hi=>by
  by_cases g:i=id
  ·subst g
   rw[bk J]at hi;cases hi;exact .inl ⟨rfl,rfl⟩
  ·rw [aV (Ne.symm g)] at hi
   exact .inr ⟨g,hi⟩
 have hle:E.le { w:=E.w,H:=E.H.set id o',loc:=E.loc,X:=E.X }:=by
  refine⟨fun i ad M=>?_,aH _,fun _ _ _=>rfl,fun b hb z=>z,fun i ad M q=>?_,⟨rfl,rfl⟩,fun l h R=>⟨R,fun _ U=>U⟩,.refl _,fun i l x h1 d N=>⟨⟨[],(dx _).symm⟩,?_⟩⟩
  rotate_right
  ·by_cases g : i = id
   ·subst g
    rw[hid]at h1;cases h1;rw[ab.xS hlab]at d;cases d
   ·exact⟨x,by simp only[]; rw[aV (Ne.symm g)]; exact h1,d⟩
  ·obtain ⟨x, h1, d⟩ := M
   by_cases g:i=id
   ·subst g
    rw[hid]at h1;cases h1;exact⟨o',by simp only[]; rw[bk J],ab.xR B,fun v N=>d.2 v (by rw[←I]; exact N)⟩
   ·exact⟨x,by simp only[]; rw[aV (Ne.symm g)]; exact h1,d⟩
  ·obtain ⟨x, h1, d⟩ := q
   rcases u i x h1 with⟨rfl,rfl⟩|⟨g,t⟩
   ·exact⟨⟨o,hid,by rw[←I]; exact d⟩,rfl⟩
   ·exact⟨⟨x,t,d⟩,rfl⟩
 refine⟨⟨by simp[H.len],H.inj,H.lt,H.X,fun i x hi=>?_,H.fh.bD hle.toC,H.eS,H.cN,H.cn,fun i k x y l hi hk h1 d=>?_,fun l V h y W=>?_⟩,hle⟩
 ·rcases u i x hi with ⟨rfl, rfl⟩ | ⟨g, t⟩
  ·exact ho hle
  ·exact j6 (fun a _ hr=>bK hle a hr) rfl (fun _ _ _=>rfl) (fun l q=>⟨rfl,fun _ _ _ _=>rfl⟩) (H.obj i x t)
 ·rcases u i x hi with ⟨rfl, rfl⟩ | ⟨g, t⟩ <;> rcases u k y hk with ⟨rfl, rfl⟩ | ⟨e4, O⟩
  ·rfl
  ·rw [B] at h1
   cases h1;exact(z k y O d).elim
  ·rw [B] at d
   cases d;exact(z i x t h1).elim
  ·exact H.uniq i k x y l t O h1 d
 ·refine H.gk l (fun i x hi q => ?_) h y W
  by_cases e:i=id
  ·subst e
   rw[hid]at hi;cases hi;rw[hlab]at q;cases q
  ·exact V i x (by show (E.H.set id o')[i]? = _; rw[aV (Ne.symm e)]; exact hi) q
theorem T7{E:Env}(HE:aq E){id l w cl:Nat}(hid:E.H[id]? = some (.map [] cl))(d:mN E.H l=true) :
  aq { w:=E.w,H:=E.H.set id (.aY l w [] cl),loc:=E.loc,X:=E.X }∧E.le { w:=E.w,H:=E.H.set id (.aY l w [] cl),loc:=E.loc,X:=E.X } :=
 aq.J5 HE hid rfl rfl rfl (uu d) fun hle=>by
  have ho:=HE.obj id _ hid;simp only[aR]at ho⊢;obtain⟨b,n,ms,h1,g,h⟩:=ho;refine⟨b,n,ms,h1,g,fX (fun a _ k=>bK hle a k) h,fun _=>0,fun i j x y hi=>by simp at hi,fun i x rows e hi=>by simp at hi⟩
theorem T8{E:Env}(HE:aq E){id l w cl i:Nat}{es:List (AV × Option (List (List AV)) × Nat)}{key:AV}{rows:List (List AV)}{bn b n:Nat}{ms:Array MapEntry}{e':MapEntry}(hid:E.H[id]? = some (.aY l w es cl))(W:es[i]? = some (key,some rows,bn))
  (h1:E.loc[id]? = some (some (b,n))) (h2:E.w.heap[b]? = some (.map ms cl)) (h3:bo E (cC es) ms.toList) (h4:iM E l w es ms.toList) (q4:ms.toList[i]? = some e') :
  ∃ V r',aq { w:=E.w,H:=E.H.set id (.aY l w (es.set i (key,none,bn)) cl)++[.vec w 0 rows],loc:=V,X:=E.X.re r' }∧E.le { w:=E.w,H:=E.H.set id (.aY l w (es.set i (key,none,bn)) cl)++[.vec w 0 rows],loc:=V,X:=E.X.re r' } ∧
   rel { w:=E.w,H:=E.H.set id (.aY l w (es.set i (key,none,bn)) cl)++[.vec w 0 rows],loc:=V,X:=E.X.re r' } (.vec w E.H.length 0 0 rows.length) e'.val:=by
 have hlenH:E.H.length=E.loc.length:=HE.len.symm;obtain⟨R,k1,k2⟩:=h4;have hsl:=k2 i _ rows e' W rfl q4;obtain⟨g,h0,z1,z2,z3⟩:∃(g:Option (Nat × Nat)) (h0:Nat),(∀ b m,g=some (b,m)→(E.X.r l)[h0]? = some (some (some (b,m)))) ∧
   (∀ j y,es[j]? = some y→y.2.1.isSome=true→j≠i→∀ b m,(E.X.r l)[R j]? = some (some (some (b,m)))→R j≠h0) ∧
   ((g=none∧rows=[]∧∃ base,e'.val=.slice base 0 0)∨∃ b m,g=some (b,m)∧e'.val=.slice (some ⟨b,0,none⟩) rows.length m∧isRow E.w b (m*w)∧rows.length≤m∧ff rows∧cz E w rows b 0):=by
  rcases hsl with⟨s1,s2⟩|⟨k,mm,s1,s2,J,I,M,N⟩
  ·exact⟨none,(E.X.r l).length,fun _ _ e=>(by cases e),fun j y _ _ _ b m hb e=>(by rw[e]at hb; have:=aL hb; omega),.inl ⟨rfl,s1,s2⟩⟩
  ·exact⟨some (k,mm),R i,fun _ _ e=>(by cases e; exact s1),fun j y d hsy O _ _ _ e=>O (k1 j i _ _ d W hsy rfl e),.inr ⟨k,mm,rfl,s2,J,I,M,N⟩⟩
 obtain⟨r1,r2⟩:=aq.CG HE (id:=id) (l0:=l) (h0:=h0) (o':=.aY l w (es.set i (key,none,bn)) cl) (ov:=.vec w 0 rows) (q:=g) hid rfl rfl rfl rfl z1 fun hle=>by
  refine⟨?_,?_⟩
  ·simp only [aR]
   refine⟨b,n,ms,?_,h2,?_,?_⟩
   ·rw [cQ (aL h1)]
    exact h1
   ·exact fX (fun a _ t=>bK hle a t) (CH W rfl rfl h3)
   ·refine ⟨R, fun a U y z d hz sy sz he => ?_, fun a y rws e d t he => ?_⟩
    all_goals
     have old:∀(j:Nat) y,(es.set i (key,none,bn))[j]? = some y→y.2.1.isSome=true→es[j]? = some y∧j≠i:=fun j y d hsm=>by
      rw[dS]at d;split at d
      ·split at d
       ·cases d
        cases hsm
       ·cases d
      ·rename_i O
       exact⟨d,Ne.symm O⟩
    ·exact k1 a U y z (old a y d sy).1 (old U z hz sz).1 sy sz he
    ·obtain ⟨o1, o2⟩ := old a y d (by rw [t]; rfl)
     rcases k2 a y rws e o1 t he with B|⟨k,mm,s1,s2,J,I,M,N⟩
     ·exact .inl B
     ·refine .inr ⟨k, mm, ?_, s2, J, I, M, kZ (fun a _ t => bK hle a t) rfl N⟩
      have O:=z2 a y o1 (by rw[t]; rfl) o2 k mm s1;show (fZ E.X.r l h0 l)[R a]? = _
      rw[CF fun e=>O e.2];exact s1
  ·simp only [aR]
   have B:(E.loc++[g])[E.H.length]? = some g:=by rw[hlenH]; simp
   rcases z3 with⟨rfl,s1,_⟩|⟨k,mm,rfl,_,J,I,M,N⟩
   ·exact .inl ⟨B,s1⟩
   ·exact .inr ⟨k,mm,B,J,I,M,kZ (fun a _ t=>bK hle a t) rfl N⟩
 refine⟨E.loc++[g],fZ E.X.r l h0,r1,r2,?_⟩;have hnew:(E.H.set id (.aY l w (es.set i (key,none,bn)) cl)++[.vec w 0 rows])[E.H.length]? = some (.vec w 0 rows):=by
  rw[jv (by simp)];simp
 have B:(E.loc++[g])[E.H.length]? = some g:=by rw[hlenH]; simp
 simp only[rel];rcases z3 with⟨rfl,s1,base,s2⟩|⟨k,mm,rfl,s2,J,I,M,N⟩
 ·subst s1
  refine⟨⟨base,0,by rw[s2]; rfl,aH _,fun h=>by simp at h⟩,⟨_,hnew,rfl,fun v hv=>by cases hv; exact aH _⟩,fun _=>⟨fun _=>⟨by first|rfl|trivial,by first|rfl|trivial,base,s2⟩,fun U m' u=>?_⟩⟩;rw[B]at u;cases u
 ·refine ⟨⟨_, mm, s2, I, fun _ => ⟨k, 0, rfl⟩⟩, ⟨_, hnew, rfl, fun v hv => by cases hv; exact aH _⟩, fun _ => ⟨fun u => ?_, fun U m' u => ?_⟩⟩
  ·rw [B] at u
   cases u
  ·rw [B] at u
   cases u;exact⟨by omega,0,fun _=>by simp,by rw[s2,gC]⟩
theorem T9{E:Env}(HE:aq E)(w:Nat) :
  aq { w:=E.w,H:=E.H++[.vec w 0 []],loc:=E.loc++[none],X:=E.X }∧E.le { w:=E.w,H:=E.H++[.vec w 0 []],loc:=E.loc++[none],X:=E.X } ∧
   rel { w:=E.w,H:=E.H++[.vec w 0 []],loc:=E.loc++[none],X:=E.X } (.vec w E.H.length 0 0 0) (.slice none 0 0):=by
 have hle:E.le (E.push E.w (.vec w 0 []) none):=Env.jD HE.len (Ext.refl _) (fun b n h=>by cases h);have d:(E.loc++[(none:Option (Nat × Nat))])[E.H.length]? = some none:=by rw[←HE.len]; simp
 have k:aR (E.push E.w (.vec w 0 []) none) E.H.length (.vec w 0 []):=by
  simp only[aR,Env.push];exact .inl ⟨d,trivial⟩
 refine⟨aq.push HE (Ext.refl _) (fun b n h=>by cases h) k,hle,?_⟩;simp only[rel];refine⟨⟨none,0,rfl,aH _,fun h=>by simp at h⟩,⟨.vec w 0 [],by simp,rfl,fun v q=>by cases q; exact aH _⟩,fun _=>⟨fun _=>⟨by first|rfl|trivial,by first|rfl|trivial,none,rfl⟩,fun t m' g=>?_⟩⟩;rw[d]at g;cases g
def ir(P:Program)(t:TypeId)(m k:AV)(H:List ab):Option (AV × List ab) :=
 match cZ P t,m with
 | some (d,g),.map id=>match H[id]? with
  | some (.aY l w es cl)=>match il P d k,yp P g,gY P g with
   | some h,some w',some (.lit (.slice none 0 0))=>match af w' w&&k.closed with
    | true=>match ew P d h (cC es) 0 with
     | some (some (i,_))=>match nV es i with
      |some (_,rows,n)=>some (.tuple [.vec w H.length 0 0 rows.length,.lit (goInt n)],H.set id (.aY l w (es.set i (k,none,n)) cl)++[.vec w 0 rows])
      |none=>none
     |some none=>some (.tuple [.vec w H.length 0 0 0,.lit (goInt cl)],H.set id (.aY l w (es++[(k,none,cl)]) (cl+1))++[.vec w 0 []])
     |none=>none
    |false=>none
   |_,_,_=>none
  |_=>none
 |_,_=>none
theorem T_{P:Program}{E:Env}(HE:aq E){t:TypeId}{m k v:AV}{c d:Value}{H':List ab}(h:ir P t m k E.H=some (v,H'))(hm:rel E m c)(hk:rel E k d) :
  ∃ u w',(BQ t c d).run P E.w=.ok u w'∧cL E v H' u w':=by
 unfold ir at h;split at h
 case h_2=>cases h
 rename_i kt et id ht;split at h
 case h_2=>cases h
 rename_i l w es cl hid;split at h
 case h_2=>cases h
 rename_i kv w' hkv hw' B;split at h
 case h_2=>cases h
 rename_i hww;simp only[ar]at hww;have hcl:=hww.2;clear hw' hww;obtain⟨b,n,ms,rfl,h1,h2,h3,h4⟩:=yn HE hid hm;have J:=im hkv hk;have e1:(getObj b).run P E.w=.ok (.map ms cl) E.w:=by simp[getObj,gE,h2]
 obtain⟨hlen,hall⟩:=eE.1 h3;rw[B4]at hlen;have hidE:∀(w':World) es' cl',({ w:=w',H:=E.H.set id (.aY l w es' cl'),loc:=E.loc,X:=E.X }:Env).H[id]? = some (.aY l w es' cl'):=fun w' es' cl'=>by
  simp only[];rw[bk (aL hid)]
 split at h
 ·rename_i i v0 U
  split at h
  case h_2=>cases h
  rename_i key rows bn R;cases h;have hes:es[i]? = some (key,some rows,bn):=by
   unfold nV at R;split at R
   ·rename_i a1 a2 a3 he
    cases R;exact he
   ·cases R
  have hlt:=aL hes;obtain⟨r',g1,g2⟩:=gX J E.w h3 U;cases r' with
  |none=>simp[dc]at g2
  | some q =>
   simp only[dc]at g2;obtain⟨q1,q2,_,e',N,q5⟩:=g2;obtain⟨_,x,y,f1,f2,f3⟩:=uy U;simp only[gC]at N f1;obtain⟨a1,a2,a3,a4,a5⟩:=hall i x e' f1 N;obtain⟨s1,s2⟩:=yk J (im f2 a1) f3;have q4':ms[i]? = some e':=by simpa using N
   have hx:x=(key,.undef,bn):=by rw[yo hes]at f1; cases f1; rfl
   have hre:bo E (cC (es.set i (k,some rows,bn))) (ms.modify i fun e=>{ e with key:=d }).toList:=by
    rw[eE];refine⟨by simp[cC,hlen],fun a y z g B=>?_⟩;simp only[kT,iH]at B;obtain⟨z0,M,rfl⟩:=dR.1 B;unfold cC at g;rw[bR,dS]at g;by_cases e:i=a
    ·subst e
     rw[if_pos rfl,if_pos hlt]at g;cases g;rw[N]at M;cases M;simp only[if_true];refine⟨hk,by simp[rel],?_,hcl,rfl⟩;rw[a3,hx]
    ·rw [if_neg e] at g
     obtain⟨b1,b2,b3,b4,b5⟩:=hall a y z0 (by unfold cC; rw[bR]; exact g) M;simp only[if_neg e];exact⟨b1,b2,b3,b4,b5⟩
   have hsl2:iM E l w (es.set i (k,some rows,bn)) (ms.modify i fun e=>{ e with key:=d }).toList:=by
    obtain⟨hs,k1,k2⟩:=h4;have I:∀(a:Nat) y,(es.set i (k,some rows,bn))[a]? = some y→∃ z,es[a]? = some z∧z.2.1=y.2.1:=fun a y g=>by
     by_cases ei:i=a
     ·subst ei
      rw[bk hlt]at g;cases g;exact⟨_,hes,rfl⟩
     ·rw [aV ei] at g
      exact⟨y,g,rfl⟩
    refine⟨hs,fun a c y z g B V sz he=>?_,fun a y rws e g W he=>?_⟩
    ·obtain ⟨y', hy', ey⟩ := I a y g
     obtain⟨z',hz',ez⟩:=I c z B;exact k1 a c y' z' hy' hz' (by rw[ey]; exact V) (by rw[ez]; exact sz) he
    ·obtain ⟨y', hy', ey⟩ := I a y g
     simp only[kT,iH]at he;obtain⟨z0,M,rfl⟩:=dR.1 he;have:=k2 a y' rws z0 hy' (by rw[ey]; exact W) M;split<;>exact this
   obtain⟨O,p1,p2,p3,p4,p5⟩:=uD (P:=P) HE (cl':=cl) hid h1 h2 hre hsl2;have hobj:=p2.obj id _ (hidE O _ _);simp only[aR]at hobj;obtain⟨b2,n2,ms2,o1,o2,o3,o4⟩:=hobj;rw[h1]at o1;simp only[aX,a8]at o1;obtain⟨rfl,rfl⟩:=o1;rw[p4]at o2;cases o2;obtain⟨loc',r',r1,r2,r3⟩:=T8 p2 (i:=i) (key:=k) (rows:=rows) (bn:=bn) (e':={ e' with key:=d }) (hidE O _ _) (by rw[bk hlt]) h1 p4 o3 o4 (by
    simp only[kT,iH,N];simp)
   simp only[nJ,kQ]at r1 r2 r3;refine⟨.tuple #[e'.val,goInt bn],O,?_,loc',r',?_,r1,p3.trans r2⟩
   ·have hst : (qQ e'.key d).run P E.w = .ok d E.w := by simp [qQ, s2]
    subst q1;simp only[BQ,bT,Sem.a_ (fJ ht),bP,e1,gq J,g1,q4',dL,nI,hst];rw[p1];simp only[bP,fc];rw[a3,hx,←q5]
   ·simp only [rel]
    refine⟨_,rfl,?_⟩;simp only[ae,and_true];exact⟨r3,by simp[rel]⟩
 ·rename_i U
  cases h;obtain⟨r',g1,g2⟩:=gX J E.w h3 U;cases r' with
  |some _=>simp[dc]at g2
  | none =>
   obtain⟨zv,z1,z2⟩:=rC B E.w;have hzv:zv=.slice none 0 0:=by have:=z2 E; simpa[rel]using this
   have hml:ms.toList.length=es.length:=by omega
   have hre:bo E (cC (es++[(k,none,cl)])) (ms.push { key:=d,val:=zv,born:=cl }).toList:=by
    rw[eE];refine⟨by simp[cC,hlen],fun a y z g B=>?_⟩;unfold cC at g;rw[iI]at g;simp only[po,fb,dv]at g B;rw[hml]at B;by_cases e:a<es.length
    ·simp only [if_pos e] at g B
     exact hall a y z (by unfold cC; exact g) B
    ·simp only [if_neg e] at g B
     cases hj2:a-es.length with
     | zero =>
      rw[hj2]at g B;simp at g B;subst g; subst B;exact⟨hk,by simp[rel],rfl,hcl,rfl⟩
     |succ _=>rw[hj2]at g; simp at g
   have hsl2:iM E l w (es++[(k,none,cl)]) (ms.push { key:=d,val:=zv,born:=cl }).toList:=by
    obtain⟨hs,k1,k2⟩:=h4;have I:∀(a:Nat) y,(es++[(k,(none:Option (List (List AV))),cl)])[a]? = some y→y.2.1.isSome=true→es[a]? = some y∧a<es.length:=fun a y g hsm=>by
     rw[fb]at g;split at g
     ·rename_i hh
      exact⟨g,hh⟩
     ·cases hk2 : a - es.length with
      | zero =>
       rw[hk2]at g;simp at g;subst g;cases hsm
      |succ _=>rw[hk2]at g; simp at g
    refine⟨hs,fun a c y z g B V sz he=>k1 a c y z (I a y g V).1 (I c z B sz).1 V sz he,fun a y rws e g W he=>?_⟩;obtain⟨o1,o2⟩:=I a y g (by rw[W]; rfl);simp only[po]at he;rw[cQ (by omega)]at he;exact k2 a y rws e o1 W he
   obtain⟨O,p1,p2,p3,p4,p5⟩:=uD (P:=P) HE (cl':=cl+1) hid h1 h2 hre hsl2;obtain⟨r1,r2,r3⟩:=T9 p2 w;simp only[kQ]at r3;refine⟨.tuple #[zv,goInt cl],O,?_,E.loc++[none],E.X.r,?_,r1,p3.trans r2⟩
   ·simp only [BQ, bT, Sem.a_ (fJ ht), bP, e1, gq J, g1, z1]
    rw[p1];rfl
   ·simp only [rel]
    refine⟨_,rfl,?_⟩;simp only[ae,and_true];rw[hzv];exact⟨r3,by simp[rel]⟩
 ·cases h
def pN (es:List (AV × Option (List (List AV)) × Nat)) (st:Int):Option Nat:=es.findIdx? fun x=>(x.2.2:Int)==st
def ka(m s v:AV)(H:List ab):Option (List ab) :=
 match m,s,v with
 | .map id,.lit (.int .i64 st),.vec w j ad off n=>match H[id]?,H[j]? with
  | some (.aY l w' es cl),some (.vec g d rows)=>if (w=w'∧w=g)∧(ad=d∧off=0)∧n=rows.length then
    match pN es st with
    | some i=>match es[i]? with
     |some (key,_,bn)=>some ((H.set id (.aY l w' (es.set i (key,some rows,bn)) cl)).set j .dead)
     |none=>none
    |none=>none
   else none
  |_,_=>none
 |_,_,_=>none
theorem J6{E:Env}{st:Int}:∀{es:List (AV × Option (List (List AV)) × Nat)} {ms:List MapEntry},bo E (cC es) ms→ms.findIdx? (fun e=>(e.born:Int)==st)=pN es st
 | [],[],_=>rfl
 | [],_::_,h=>by simp[cC,bo]at h
 |_::_,[],h=>by simp[cC,bo]at h
 | x::es,e::ms,h=>by
  have h':bo E ((x.1,.undef,x.2.2)::cC es) (e::ms):=h;simp only[bo]at h';obtain⟨_,_,g,_,_,k⟩:=h';have d:=J6 (st:=st) k;unfold pN at d⊢;simp only[IQ,g,d]
theorem Ua{P:Program}{E:Env}(HE:aq E){t:TypeId}{m s v:AV}{c d u:Value}{H':List ab}(h:ka m s v E.H=some H')(hm:rel E m c)(J:rel E s d)(hv:rel E v u) :
  ∃ w',(xB t c d u).run P E.w=.ok () w'∧∀ x,cL E .undef H' x w':=by
 unfold ka at h;split at h
 case h_2=>cases h
 rename_i id st w j ad off n;split at h
 case h_2=>cases h
 rename_i l w' es cl w2 ver' rows hid M;split at h
 case isFalse=>cases h
 rename_i hc;obtain⟨⟨rfl,rfl⟩,⟨rfl,rfl⟩,rfl⟩:=hc;split at h
 case h_2=>cases h
 rename_i i hi;split at h
 case h_2=>cases h
 rename_i key k bn hes;cases h;obtain⟨b,n,ms,rfl,h1,h2,h3,h4⟩:=yn HE hid hm;have hne:j≠id:=fun e=>by rw[e,hid]at M; cases M
 have e1:(getObj b).run P E.w=.ok (.map ms cl) E.w:=by simp[getObj,gE,h2]
 obtain⟨hlen,V⟩:=eE.1 h3;rw[B4]at hlen;have I:=aL hes;obtain⟨e',q4⟩:∃ e',ms.toList[i]? = some e':=⟨ms.toList[i]'(by omega),bd _⟩
 have hfind:ms.findIdx? (fun e=>(e.born:Int)==st)=some i:=by
  have e0:ms=ms.toList.toArray:=by simp
  rw[e0,ahN,J6 h3,hi]
 have hre:bo E (cC (es.set i (key,none,bn))) (ms.modify i fun e=>{ e with val:=u }).toList:=by
  rw[eE];refine⟨by simp[cC,hlen],fun a y z g B=>?_⟩;simp only[kT,iH]at B;obtain⟨z0,q,rfl⟩:=dR.1 B;unfold cC at g;rw[bR,dS]at g;by_cases e:i=a
  ·subst e
   rw[if_pos rfl,if_pos I]at g;cases g;obtain⟨b1,N,O,R,b5⟩:=V i _ z0 (yo hes) q;simp only[if_true];exact⟨b1,by simp[rel],O,R,rfl⟩
  ·rw [if_neg e] at g
   obtain⟨b1,N,O,R,b5⟩:=V a y z0 (by unfold cC; rw[bR]; exact g) q;simp only[if_neg e];exact⟨b1,N,O,R,b5⟩
 have hsl2:iM E l w (es.set i (key,none,bn)) (ms.modify i fun e=>{ e with val:=u }).toList:=by
  obtain⟨J,k1,k2⟩:=h4;have k:∀(a:Nat) y,(es.set i (key,none,bn))[a]? = some y→y.2.1.isSome=true→es[a]? = some y∧a≠i:=fun a y g hsm=>by
   by_cases U:i=a
   ·subst U
    rw[bk I]at g;cases g;cases hsm
   ·rw [aV U] at g
    exact⟨g,Ne.symm U⟩
  refine⟨J,fun a c y z g B sy sz he=>k1 a c y z (k a y g sy).1 (k c z B sz).1 sy sz he,fun a y rws e g hr he=>?_⟩;obtain⟨o1,o2⟩:=k a y g (by rw[hr]; rfl);simp only[kT,iH]at he;obtain⟨z0,q,rfl⟩:=dR.1 he;rw[if_neg (Ne.symm o2)];exact k2 a y rws z0 o1 hr q
 obtain⟨w',p1,p2,p3,p4,p5⟩:=uD (P:=P) HE (cl':=cl) hid h1 h2 hre hsl2;have hd:d=.int .i64 st:=by simpa[rel]using J
 have hrun:(xB t (.map (some b)) d u).run P E.w=.ok () w':=by
  subst hd;simp only[xB,asInt,asIntOf,bT,bP,e1,fc,hfind];exact p1
 have W:({ w:=w',H:=E.H.set id (.aY l w (es.set i (key,none,bn)) cl),loc:=E.loc,X:=E.X }:Env).H[id]? = some (.aY l w (es.set i (key,none,bn)) cl):=by
  simp only[];rw[bk (aL hid)]
 have hjE:({ w:=w',H:=E.H.set id (.aY l w (es.set i (key,none,bn)) cl),loc:=E.loc,X:=E.X }:Env).H[j]? = some (.vec w ad rows):=by
  simp only[];rw[aV (Ne.symm hne)];exact M
 have hobj:=p2.obj id _ W;simp only[aR]at hobj;obtain⟨N,n2,ms2,o1,o2,o3,o4⟩:=hobj;rw[h1]at o1;simp only[aX,a8]at o1;obtain⟨rfl,rfl⟩:=o1;rw[p4]at o2;cases o2;obtain⟨loc',r',r1,r2⟩:=CJ p2 (i:=i) (key:=key) (bn:=bn) (e:={ e' with val:=u }) W hjE (by rw[bk I]) h1 p4 (by
  simp only[kT,iH,q4];simp) o3 o4 (bK p3 _ hv)
 refine⟨w',hrun,fun xx=>⟨loc',r',by simp[rel],?_,p3.trans ?_⟩⟩
 ·simpa[nJ]using r1
 ·simpa[nJ]using r2
end Go.AL

namespace Go.AL
open Go
variable [Dr]
theorem Ub{r:List (Option (Option (Nat × Nat)))}(h:∀(i:Nat) q,r[i]? ≠ some (some q)):dY r=[]:=by
 unfold dY;rw[List.filterMap_eq_nil_iff];intro x d;obtain⟨i,hi,e⟩:=ny d;cases x with
 |none=>rfl
 |some q=>exact absurd (by rw[bd hi,e]) (h i q)
theorem J7{E:Env}(HE:aq E){id l cl:Nat}(hid:E.H[id]? = some (.map [] cl))(d:mN E.H l=true) :
  aq { w:=E.w,H:=E.H.set id (.mm l [] [] cl),loc:=E.loc,X:=E.X }∧E.le { w:=E.w,H:=E.H.set id (.mm l [] [] cl),loc:=E.loc,X:=E.X } :=
 aq.J5 HE hid rfl rfl rfl (uu d) fun hle=>by
  have ho:=HE.obj id _ hid;simp only[aR]at ho⊢;obtain⟨b,n,ms,h1,g,h⟩:=ho;have k:=Ub (HE.gk l (uu d));refine⟨b,n,ms,h1,g,fX (fun a _ q=>bK hle a q) h,?_,fun i x e t=>by simp at t,fun j m b hm=>by simp at hm⟩;show (dY (E.X.r l)).length=0
  rw[k];rfl
theorem CK{E:Env}(HE:aq E){id l cl:Nat}{es:List (AV × Option Nat × Nat)}{ms:List (List (AV × AV × Nat) × Nat)}{c:Value}(hid:E.H[id]? = some (.mm l es ms cl))(g:rel E (.map id) c) :
  ∃ b n d,c=.map (some b)∧E.loc[id]? = some (some (b,n))∧E.w.heap[b]? = some (.map d cl)∧bo E (fq es) d.toList∧xV E l es ms d.toList:=by
 have ho:=HE.obj id _ hid;simp only[aR]at ho;obtain⟨b,n,d,h1,h,k,q⟩:=ho;simp only[rel]at g;obtain⟨_,_,t⟩:=g;obtain⟨u,v,g1,g2⟩:=t ⟨_,hid,rfl⟩;rw[h1]at g1;simp only[aX,a8]at g1;obtain⟨rfl,rfl⟩:=g1;exact⟨b,n,d,g2,h1,h,k,q⟩
theorem J8{E:Env}(HE:aq E){id l cl i:Nat}{es:List (AV × Option Nat × Nat)}{ms:List (List (AV × AV × Nat) × Nat)}{m:List (AV × AV × Nat) × Nat}{c:Value}(hid:E.H[id]? = some (.mm l es ms cl))(hm:ms[i]? = some m) (g:rel E (.sub id l (some i)) c) :
  ∃ b d,c=.map (some b)∧(dY (E.X.r l))[i]? = some b∧E.w.heap[b]? = some (.map d m.2)∧bo E m.1 d.toList:=by
 have ho:=HE.obj id _ hid;simp only[aR]at ho;obtain⟨_,_,d,_,_,_,_,_,k⟩:=ho;simp only[rel]at g;rcases g with⟨h,_⟩|⟨t,h1,_,_,q⟩
 ·cases h
 cases h1;obtain⟨_,b,g1,g2⟩:=q ⟨_,hid,rfl⟩;obtain⟨mm,g3,g4⟩:=k i m b hm g1;exact⟨b,mm,g2,g1,g3,g4⟩
def pO(P:Program)(t:TypeId)(m k:AV)(H:List ab):Option AV :=
 match cZ P t,m with
 | some (d,g),.map id=>match H[id]? with
  | some (.mm l es _ _)=>match il P d k,gY P g with
   | some h,some (.lit (.map none))=>match ew P d h (fq es) 0 with
    |some (some (i,_))=>(es[i]?).map fun x=>.sub id l x.2.1
    |some none=>some (.sub id l none)
    |none=>none
   |_,_=>none
  |_=>none
 |_,_=>none
theorem Uc{P:Program}{E:Env}(HE:aq E){t:TypeId}{m k v:AV}{c d:Value}(h:pO P t m k E.H=some v)(hm:rel E m c)(hk:rel E k d) :
  ∃ u,(kS t c d false).run P E.w=.ok u E.w∧rel E v u:=by
 unfold pO at h;split at h
 case h_2=>cases h
 rename_i kt et id B;split at h
 case h_2=>cases h
 rename_i l es ms cl hid;split at h
 case h_2=>cases h
 rename_i kv N U;obtain⟨b,n,O,rfl,h1,V,I,_,hmm,_⟩:=CK HE hid hm;have g:=im N hk;obtain⟨W,z1,z2⟩:=rC U E.w;have R:W=.map none:=by simpa[rel]using z2 E
 subst R;have J:(getObj b).run P E.w=.ok (.map O cl) E.w:=by simp[getObj,gE,V]
 split at h
 ·rename_i i v0 y
  obtain⟨r',g1,g2⟩:=gX g E.w I y;cases r' with
  |none=>simp[dc]at g2
  | some q =>
   simp only[dc]at g2;obtain⟨q1,_,_,e,q4,q5⟩:=g2;obtain⟨x,hx,rfl⟩:=dR.1 h;refine⟨q.2,?_,?_⟩
   ·simp only [kS, bT, Sem.a_ (fJ B), bP, J, fc, gq g, g1]
    rfl
   ·rw [← q5]
    simp only[rel];rcases hmm i x e hx (by simpa using q4)with⟨z,a2⟩|⟨j,M,z,a2,a3⟩
    ·exact .inl ⟨z,a2⟩
    ·exact .inr ⟨j,z,⟨M,a3⟩,⟨_,hid,rfl,fun v _=>dB v⟩,fun _=>⟨⟨_,hid,rfl⟩,M,a2,a3⟩⟩
 ·rename_i y
  obtain⟨r',g1,g2⟩:=gX g E.w I y;cases h;cases r' with
  |some _=>simp[dc]at g2
  | none =>
   refine⟨.map none,?_,by simp[rel]⟩;simp only[kS,bT,Sem.a_ (fJ B),bP,J,fc,gq g,g1,z1];rfl
 ·cases h
def rE(P:Program)(t:TypeId)(m k:AV)(ok:Bool)(H:List ab):Option AV :=
 match cZ P t,m with
 | some (d,g),.sub id l (some i)=>match H[id]? with
  | some (.mm l' _ ms _)=>match af l l',ms[i]?,il P d k,mQ P g with
   | true,some mm,some h,some z=>match ew P d h mm.1 0 with
    | some r=>let v:=match r with
      |some (_,v)=>v
      |none=>z
     some (match ok with
      |true=>.tuple [v,.lit (.bool r.isSome)]
      |false=>v)
    |none=>none
   |_,_,_,_=>none
  |_=>none
 |_,_=>none
theorem Ud{P:Program}{E:Env}(HE:aq E){t:TypeId}{m k v:AV}{ok:Bool}{c d:Value}(h:rE P t m k ok E.H=some v)(hm:rel E m c)(hk:rel E k d) :
  ∃ u,(kS t c d ok).run P E.w=.ok u E.w∧rel E v u:=by
 unfold rE at h;split at h
 case h_2=>cases h
 rename_i kt et id l i B;split at h
 case h_2=>cases h
 rename_i l' es ms cl hid;split at h
 case h_2=>cases h
 rename_i mm kv z y hmm N R;have y:=br y;subst y;split at h
 case h_2=>cases h
 rename_i r U;obtain⟨b,O,rfl,_,V,W⟩:=J8 HE hid hmm hm;have g:=im N hk;obtain⟨r',g1,g2⟩:=gX g E.w W U;obtain⟨I,z1,z2⟩:=JS R E.w;have J:(getObj b).run P E.w=.ok (.map O mm.2) E.w:=by simp[getObj,gE,V]
 cases h;cases r with
 | none =>
  cases r' with
  |some _=>simp[dc]at g2
  | none =>
   refine⟨if ok then .tuple #[I,.bool false] else I,?_,?_⟩
   ·simp only[kS,bT,Sem.a_ (fJ B),bP,J,fc,gq g,g1,z1]
   ·cases ok with
    |true=>simp[rel,ae,z2 E]
    |false=>simpa using z2 E
 | some p =>
  cases r' with
  |none=>simp[dc]at g2
  | some q =>
   simp only[dc]at g2;obtain⟨q1,M,_,_,_,_⟩:=g2;refine⟨if ok then .tuple #[q.2,.bool true] else q.2,?_,?_⟩
   ·simp only[kS,bT,Sem.a_ (fJ B),bP,J,fc,gq g,g1]
   ·cases ok with
    |true=>simp[rel,ae,M]
    |false=>simpa using M
theorem J9:∀{r:List (Option (Option (Nat × Nat)))},(∀(h h' b m n:Nat),r[h]? = some (some (some (b,m)))→r[h']? = some (some (some (b,n)))→h=h')→(dY r).Nodup
 | [],_=>Sc
 | x::r,H=>by
  have d:=J9 (r:=r) fun h h' b m n h1 g=>by
   have:=H (h+1) (h'+1) b m n (by simpa using h1) (by simpa using g);omega
  match x,H with
  |none,_=>exact d
  |some none,_=>exact d
  | some (some (b,m)),H =>
   show (b::dY r).Nodup
   refine List.nodup_cons.2 ⟨fun hm=>?_,d⟩;obtain⟨i,n,hi⟩:=xU hm;have:=H 0 (i+1) b m n rfl (by simpa using hi);omega
theorem Ue{E:Env}(HE:aq E){l i j b:Nat} (h1:(dY (E.X.r l))[i]? = some b) (d:(dY (E.X.r l))[j]? = some b):i=j :=
 (List.getElem?_inj (aL h1) (J9 fun h h' b m n g k=>(HE.eS l h l h' b m n g k).2)).1 (by rw[h1,d])
def jH(P:Program)(t:TypeId)(m k:AV)(ok:Bool)(H:List ab):Option AV :=
 match m with
 |.sub id l j=>rE P t (.sub id l j) k ok H
 | .map id=>match ok with
  |false=>pO P t (.map id) k H
  |true=>none
 |_=>none
theorem Uf{P:Program}{E:Env}(HE:aq E){t:TypeId}{m k v:AV}{ok:Bool}{c d:Value}(h:jH P t m k ok E.H=some v)(hm:rel E m c)(hk:rel E k d) :
  ∃ u,(kS t c d ok).run P E.w=.ok u E.w∧rel E v u:=by
 unfold jH at h;split at h
 ·exact Ud HE h hm hk
 ·split at h
  ·exact Uc HE h hm hk
  ·cases h
 ·cases h
theorem J_{P:Program}{t:TypeId}{m k v:AV}{ok:Bool}{H H2:List ab}(g:∀(i l:Nat) es ms (cl:Nat),H[i]? = some (ab.mm l es ms cl)→H2[i]? = some (ab.mm l es ms cl))(h:jH P t m k ok H=some v):jH P t m k ok H2=some v∧fY P t m k ok H2=none:=by
 unfold jH at h⊢;unfold fY;split at h
 ·rename_i id l j
  refine⟨?_,by split<;>first|rfl|(rename_i e; cases e)⟩;unfold rE at h⊢;split at h
  case h_2=>cases h
  rename_i q u i y;split at h
  case h_2=>cases h
  rename_i l' es ms cl hid;simp only[g _ _ _ _ _ hid];exact h
 ·rename_i id
  split at h
  case h_2=>cases h
  cases d:cZ P t with
  | none =>
   simp only[pO,d]at h;cases h
  | some p =>
   simp only[pO,d]at h⊢;split at h
   case h_2=>cases h
   rename_i hid;simp only[g _ _ _ _ _ hid];exact⟨h,trivial⟩
 ·cases h
theorem Ug{P:Program}{t:TypeId}{m k:AV}{ok:Bool}{H H2:List ab}(h1:∀ id,m=.map id→H2[id]? = H[id]?)(d:∀ id l j,m=.sub id l j→H2[id]? = H[id]?):jH P t m k ok H2=jH P t m k ok H:=by
 unfold jH;cases m<;>try rfl
 ·rename_i id
  cases ok with
  |true=>rfl
  | false =>
   unfold pO;cases cZ P t with
   |none=>rfl
   |some p=>simp only[h1 id rfl]
 ·rename_i id l j
  unfold rE;cases cZ P t with
  |none=>rfl
  | some p =>
   cases j with
   |none=>rfl
   |some j=>simp only[d id l (some j) rfl]
theorem J'{P:Program}{E:Env}(HE:aq E){id l cl i b:Nat}{es:List (AV × Option Nat × Nat)}{ms:List (List (AV × AV × Nat) × Nat)}{m m':List (AV × AV × Nat) × Nat}{B mes':Array MapEntry}(hid:E.H[id]? = some (.mm l es ms cl))(hm:ms[i]? = some m)
  (hb:(dY (E.X.r l))[i]? = some b) (N:E.w.heap[b]? = some (.map B m.2)) (d:bo E m'.1 mes'.toList) :
  ∃ w',(setObj b (.map mes' m'.2)).run P E.w=.ok () w'∧aq { w:=w',H:=E.H.set id (.mm l es (ms.set i m') cl),loc:=E.loc,X:=E.X }∧E.le { w:=w',H:=E.H.set id (.mm l es (ms.set i m') cl),loc:=E.loc,X:=E.X }:=by
 obtain⟨h,t,u⟩:=xU (fa hb);have I:=(HE.cn l h b t u).1;have J:({ E.w with heap:=E.w.heap.setIfInBounds b (.map mes' m'.2) }:World).heap.size=E.w.heap.size:=by simp
 have q:∀ y,y≠b→({ E.w with heap:=E.w.heap.setIfInBounds b (.map mes' m'.2) }:World).heap[y]? = E.w.heap[y]? := by
  intro y O;simp only[BO];rw[if_neg (fun e=>O e.symm)]
 have key:=aq.ui (w':={ E.w with heap:=E.w.heap.setIfInBounds b (.map mes' m'.2) }) (r':=E.X.r) (o':=.mm l es (ms.set i m') cl) HE hid rfl rfl rfl (ahO J.symm) (fun x _ _ R=>q x fun e=>by
   subst e;exact R h t u) (fun _ _=>rfl) (fun _ _ _ hk=>.inl hk) (fun _ hk=>⟨hk,fun _ U=>U⟩) (fun hle=>?_) ⟨rfl,rfl,rfl,fun _=>aH _⟩ (.inr ⟨rfl,[],(dx _).symm⟩)
 ·exact⟨_,by simp[setObj,gE,N],key.1,key.2⟩
 ·have ho := HE.obj id _ hid
  simp only[aR]at ho⊢;obtain⟨b0,n,z,g1,g2,g3,g4,g5,g6⟩:=ho;have M:b0≠b:=fun e=>HE.cN id b0 n l h t g1 (by rw[e]; exact u);refine⟨b0,n,z,g1,?_,fX (fun a _ d=>bK hle a d) g3,?_,g5,fun j V v k g=>?_⟩
  ·rw [← g2]
   exact q b0 M
  ·show (dY (E.X.r l)).length = _
   rw[kQ];exact g4
  ·have g : (dY (E.X.r l))[j]? = some v := g
   by_cases e:i=j
   ·subst e
    rw[bk (aL hm)]at k;cases k;rw[hb]at g;cases g;exact⟨mes',by simp[I],fX (fun a _ d=>bK hle a d) d⟩
   ·rw [aV e] at k
    obtain⟨mm,W,k2⟩:=g6 j V v k g;refine⟨mm,?_,fX (fun a _ d=>bK hle a d) k2⟩;rw[←W];exact q v fun e2=>e (Ue HE hb (by rw[←e2]; exact g))
def uE(P:Program)(t:TypeId)(m k v:AV)(H:List ab):Option (List ab) :=
 match cZ P t,m with
 | some (q,_),.sub id l (some i0)=>match H[id]? with
  | some (.mm l' g d h)=>match af l l',d[i0]?,il P q k with
   | true,some mm,some u=>if v.closed=true∧k.closed=true then
     match ew P q u mm.1 0 with
     |some (some (i,_))=>some (H.set id (.mm l g (d.set i0 (mm.1.modify i fun e=>(k,v,e.2.2),mm.2)) h))
     |some none=>some (H.set id (.mm l g (d.set i0 (mm.1++[(k,v,mm.2)],mm.2+1)) h))
     |none=>none
    else none
   |_,_,_=>none
  |_=>none
 |_,_=>none
theorem Uh{P:Program}{E:Env}(HE:aq E){t:TypeId}{m k v:AV}{c d u:Value}{H':List ab}(h:uE P t m k v E.H=some H')(hm:rel E m c)(hk:rel E k d)(W:rel E v u) :
  ∃ w',(mr t c d u).run P E.w=.ok () w'∧aq { w:=w',H:=H',loc:=E.loc,X:=E.X }∧E.le { w:=w',H:=H',loc:=E.loc,X:=E.X }:=by
 unfold uE at h;split at h
 case h_2=>cases h
 rename_i kt et id l i0 ht;split at h
 case h_2=>cases h
 rename_i l' oes oms ocl hid;split at h
 case h_2=>cases h
 rename_i mm kv O hmm hkv;have O:=br O;subst O;obtain⟨es,cl⟩:=mm;split at h
 case isFalse=>cases h
 rename_i J;obtain⟨b,ms,rfl,h1,R,U⟩:=J8 HE hid hmm hm;have I:=im hkv hk;have e1:(getObj b).run P E.w=.ok (.map ms cl) E.w:=by simp[getObj,gE,R]
 obtain⟨hlen,N⟩:=eE.1 U;split at h
 ·rename_i i v0 M
  cases h;obtain⟨r',g1,g2⟩:=gX I E.w U M;cases r' with
  |none=>simp[dc]at g2
  | some q =>
   simp only[dc]at g2;obtain⟨q1,q2,_,e',V,q5⟩:=g2;obtain⟨_,x,l,f1,f2,f3⟩:=uy M;simp only[gC]at V f1;obtain⟨a1,a2,a3,a4,a5⟩:=N i x e' f1 V;obtain⟨s1,s2⟩:=yk I (im f2 a1) f3;have q4':ms[i]? = some e':=by simpa using V
   obtain⟨w',r1,r2,r3⟩:=J' (P:=P) HE (m':=(es.modify i fun e=>(k,v,e.2.2),cl)) (mes':=ms.modify i fun e=>{ e with key:=d,val:=u }) hid hmm h1 R (by
    rw[eE];refine⟨by simp[hlen],fun j y z g B=>?_⟩;simp only[iH]at g;simp only[kT,iH]at B;obtain⟨y0,hy0,rfl⟩:=dR.1 g;obtain⟨z0,hz0,rfl⟩:=dR.1 B;obtain⟨b1,b2,b3,b4,b5⟩:=N j y0 z0 hy0 hz0;by_cases e:i=j
    ·subst e
     simp only[if_true];exact⟨hk,W,b3,J.2,J.1⟩
    ·simp only [if_neg e]
     exact⟨b1,b2,b3,b4,b5⟩)
   refine⟨w',?_,r2,r3⟩;subst q1;have hst:(qQ e'.key d).run P E.w=.ok d E.w:=by simp[qQ,s2]
   simp only[mr,bT,Sem.a_ (fJ ht),bP,e1,gq I,g1,q4',dL,nI,hst];exact r1
 ·rename_i M
  cases h;obtain⟨r',g1,g2⟩:=gX I E.w U M;cases r' with
  |some _=>simp[dc]at g2
  | none =>
   obtain⟨w',r1,r2,r3⟩:=J' (P:=P) HE (m':=(es++[(k,v,cl)],cl+1)) (mes':=ms.push { key:=d,val:=u,born:=cl }) hid hmm h1 R (by
    rw[eE];refine⟨by simp[hlen],fun j y z g B=>?_⟩;simp only[po,fb,hlen]at g B;by_cases e:j<ms.toList.length
    ·simp only [if_pos e] at g B
     exact N j y z g B
    ·simp only [if_neg e] at g B
     cases hj:j-ms.toList.length with
     | zero =>
      rw[hj]at g B;simp at g B;subst g; subst B;exact⟨hk,W,rfl,J.2,J.1⟩
     |succ _=>rw[hj]at g; simp at g)
   refine⟨w',?_,r2,r3⟩;simp only[mr,bT,Sem.a_ (fJ ht),bP,e1,gq I,g1];exact r1
 ·cases h
theorem Ka{P:Program}{E:Env}(HE:aq E){id l b n cl cl':Nat}{es es':List (AV × Option Nat × Nat)}{ms:List (List (AV × AV × Nat) × Nat)}{u mes':Array MapEntry}(hid:E.H[id]? = some (.mm l es ms cl)) (g:E.loc[id]? = some (some (b,n)))
  (hb:E.w.heap[b]? = some (.map u cl)) (d:bo E (fq es') mes'.toList)
  (hmm:∀(i:Nat) x e,es'[i]? = some x→mes'.toList[i]? = some e→(x.2.1=none∧e.val=.map none)∨∃ j b,x.2.1=some j∧(dY (E.X.r l))[j]? = some b∧e.val=.map (some b)) :
  ∃ w',(setObj b (.map mes' cl')).run P E.w=.ok () w'∧aq { w:=w',H:=E.H.set id (.mm l es' ms cl'),loc:=E.loc,X:=E.X }∧E.le { w:=w',H:=E.H.set id (.mm l es' ms cl'),loc:=E.loc,X:=E.X }:=by
 have v:=(HE.lt id b n g).1;have z:({ E.w with heap:=E.w.heap.setIfInBounds b (.map mes' cl') }:World).heap.size=E.w.heap.size:=by simp
 have k:∀ y,y≠b→({ E.w with heap:=E.w.heap.setIfInBounds b (.map mes' cl') }:World).heap[y]? = E.w.heap[y]? := by
  intro y B;simp only[BO];rw[if_neg (fun e=>B e.symm)]
 have key:=aq.ui (w':={ E.w with heap:=E.w.heap.setIfInBounds b (.map mes' cl') }) (r':=E.X.r) (o':=.mm l es' ms cl') HE hid rfl rfl rfl (ahO z.symm) (fun x _ I _=>k x fun e=>by
   subst e;exact I n g) (fun _ _=>rfl) (fun _ _ _ hk=>.inl hk) (fun _ hk=>⟨hk,fun _ J=>J⟩) (fun hle=>?_) ⟨rfl,rfl,rfl,fun _=>aH _⟩ (.inr ⟨rfl,[],(dx _).symm⟩)
 ·exact⟨_,by simp[setObj,gE,hb],key.1,key.2⟩
 ·have ho := HE.obj id _ hid
  simp only[aR]at ho⊢;obtain⟨b0,n0,mes0,g1,g2,g3,g4,g5,g6⟩:=ho;refine⟨b,n,mes',g,by simp[v],fX (fun a _ d=>bK hle a d) d,g4,hmm,fun j M t N q=>?_⟩;obtain⟨mm,O,R⟩:=g6 j M t N q;obtain⟨h,U,V⟩:=xU (fa q);refine⟨mm,?_,fX (fun a _ d=>bK hle a d) R⟩;rw[←O];exact k t fun W=>HE.cN id b n l h U g (by rw[←W]; exact V)
def jg(P:Program)(t:TypeId)(m k:AV)(H:List ab):Option (AV × List ab) :=
 match cZ P t,m with
 | some (d,g),.map id=>match H[id]? with
  | some (.mm l es ms cl)=>match il P d k,gY P g,k.closed with
   | some h,some (.lit (.map none)),true=>match ew P d h (fq es) 0 with
    |some none=>some (.tuple [.sub id l none,.lit (goInt cl)],H.set id (.mm l (es++[(k,none,cl)]) ms (cl+1)))
    |_=>none
   |_,_,_=>none
  |_=>none
 |_,_=>none
theorem Ui{P:Program}{E:Env}(HE:aq E){t:TypeId}{m k v:AV}{c d:Value}{H':List ab}(h:jg P t m k E.H=some (v,H'))(hm:rel E m c)(hk:rel E k d) :
  ∃ u w',(BQ t c d).run P E.w=.ok u w'∧cL E v H' u w':=by
 unfold jg at h;split at h
 case h_2=>cases h
 rename_i kt et id ht;split at h
 case h_2=>cases h
 rename_i l es ms cl hid;split at h
 case h_2=>cases h
 rename_i kv V q W;obtain⟨b,n,N,rfl,h1,O,R,h4,h5,h6⟩:=CK HE hid hm;have M:=im V hk;have J:(getObj b).run P E.w=.ok (.map N cl) E.w:=by simp[getObj,gE,O]
 obtain⟨hlen,U⟩:=eE.1 R;rw[Jc]at hlen;split at h
 case h_2=>cases h
 rename_i hf;cases h;obtain⟨r',g1,g2⟩:=gX M E.w R hf;cases r' with
 |some _=>simp[dc]at g2
 | none =>
  obtain⟨zv,z1,z2⟩:=rC q E.w;have hzv:zv=.map none:=by have:=z2 E; simpa[rel]using this
  subst hzv;have hre:bo E (fq (es++[(k,none,cl)])) (N.push { key:=d,val:=.map none,born:=cl }).toList:=by
   rw[eE];refine⟨by simp[fq,hlen],fun a y z g q=>?_⟩;unfold fq at g;rw[iI]at g;simp only[po,fb,dv]at g q;rw[←hlen]at q;by_cases e:a<es.length
   ·simp only [if_pos e] at g q
    exact U a y z (by unfold fq; exact g) q
   ·simp only [if_neg e] at g q
    cases I:a-es.length with
    | zero =>
     rw[I]at g q;simp at g q;subst g; subst q;exact⟨hk,by simp[rel],rfl,W,rfl⟩
    |succ _=>rw[I]at g; simp at g
  obtain⟨w1,p1,p2,p3⟩:=Ka (P:=P) HE (cl':=cl+1) hid h1 O hre (fun i x e B he=>by
   simp only[po,fb]at B he;rw[←hlen]at he;by_cases J:i<es.length
   ·simp only [if_pos J] at B he
    exact h5 i x e B he
   ·simp only [if_neg J] at B he
    cases I:i-es.length with
    | zero =>
     rw[I]at B he;simp at B he;subst B; subst he;exact .inl ⟨rfl,rfl⟩
    |succ _=>rw[I]at B; simp at B)
  refine⟨.tuple #[.map none,goInt cl],w1,?_,E.loc,E.X.r,?_,p2,p3⟩
  ·simp only [BQ, bT, Sem.a_ (fJ ht), bP, J, gq M, g1, z1]
   rw[p1];rfl
  ·simp only [rel]
   refine⟨_,rfl,?_⟩;simp[ae,rel]
def pP(es:List (AV × Option Nat × Nat))(st:Int):Option Nat:=es.findIdx? fun x=>(x.2.2:Int)==st
theorem Kb{E:Env}{st:Int}:∀{es:List (AV × Option Nat × Nat)} {ms:List MapEntry},bo E (fq es) ms→ms.findIdx? (fun e=>(e.born:Int)==st)=pP es st
 | [],[],_=>rfl
 | [],_::_,h=>by simp[fq,bo]at h
 |_::_,[],h=>by simp[fq,bo]at h
 | x::es,e::ms,h=>by
  have h':bo E ((x.1,.undef,x.2.2)::fq es) (e::ms):=h;simp only[bo]at h';obtain⟨_,_,g,_,_,k⟩:=h';have d:=Kb (st:=st) k;unfold pP at d⊢;simp only[IQ,g,d]
theorem Uj{E:Env}(HE:aq E){id j l cl v:Nat}{es:List (AV × Option Nat × Nat)}{ms:List (List (AV × AV × Nat) × Nat)}{y:List (AV × AV × Nat)}{u:Value}(hid:E.H[id]? = some (.mm l es ms cl))(B:E.H[j]? = some (.map y v))(hu:rel E (.map j) u) :
  ∃ d I r',u=.map (some d)∧(∃ t,r' l=E.X.r l++t)∧(dY (r' l))[ms.length]? = some d∧(∀ i,i≠j→I[i]? = E.loc[i]?) ∧
   aq { w:=E.w,H:=(E.H.set id (.mm l es (ms++[(y,v)]) cl)).set j .dead,loc:=I,X:=E.X.re r' }∧E.le { w:=E.w,H:=(E.H.set id (.mm l es (ms++[(y,v)]) cl)).set j .dead,loc:=I,X:=E.X.re r' }:=by
 obtain⟨d,n,O,rfl,h1,U,V⟩:=rD HE B hu;have ho:=HE.obj id _ hid;simp only[aR]at ho;obtain⟨b0,W,N,g1,g2,g3,g4,g5,g6⟩:=ho;have R:j≠id:=fun e=>by rw[e,hid]at B; cases B
 have J:eU E.X.r l (some (d,n)) l=E.X.r l++[some (some (d,n))]:=if_pos rfl;have z:dY (eU E.X.r l (some (d,n)) l)=dY (E.X.r l)++[d]:=by
  rw[J,B1];rfl
 have key:=aq.attach HE (o':=.mm l es (ms++[(y,v)]) cl) hid rfl rfl rfl B rfl h1 (fun hle=>?_) (.inr rfl)
 ·refine ⟨d, E.loc.set j none, eU E.X.r l (some (d, n)), rfl, ⟨_, J⟩, ?_, fun i hi => aV (Ne.symm hi), key.1, key.2⟩
  rw[z,←g4];simp
 ·simp only [aR]
  refine⟨b0,W,N,by rw[aV R]; exact g1,g2,fX (fun a _ q=>bK hle a q) g3,?_,fun i x e hx he=>?_,fun i mi bi k g=>?_⟩
  ·show (dY (eU E.X.r l (some (d, n)) l)).length = _
   rw[z];simp[g4]
  ·rcases g5 i x e hx he with h | ⟨M, b', a1, a2, a3⟩
   ·exact .inl h
   ·refine .inr ⟨M, b', a1, ?_, a3⟩
    show (dY (eU E.X.r l (some (d,n)) l))[M]? = _
    rw[z,cQ (aL a2)];exact a2
  ·have g : (dY (eU E.X.r l (some (d, n)) l))[i]? = some bi := g
   rw[z]at g;rw[fb]at k g;by_cases e:i<ms.length
   ·rw [if_pos e] at k
    rw[if_pos (by omega)]at g;obtain⟨mm,k1,k2⟩:=g6 i mi bi k g;exact⟨mm,k1,fX (fun a _ q=>bK hle a q) k2⟩
   ·rw [if_neg e] at k
    rw[if_neg (by omega),g4]at g;cases hk:i-ms.length with
    | zero =>
     rw[hk]at k g;simp at k g;subst k g;exact⟨O,U,fX (fun a _ q=>bK hle a q) V⟩
    |succ _=>rw[hk]at k; simp at k
def la(m s v:AV)(H:List ab):Option (List ab) :=
 match m,s,v with
 | .map id,.lit (.int .i64 st),.map j=>match H[id]?,H[j]? with
  | some (.mm l es ms cl),some (.map d g)=>match pP es st with
   | some i=>match es[i]? with
    |some (key,none,bn)=>some ((H.set id (.mm l (es.set i (key,some ms.length,bn)) (ms++[(d,g)]) cl)).set j .dead)
    |_=>none
   |none=>none
  |_,_=>none
 |_,_,_=>none
theorem Uk{P:Program}{E:Env}(HE:aq E){t:TypeId}{m s v:AV}{c d u:Value}{H':List ab}(h:la m s v E.H=some H')(hm:rel E m c)(hs:rel E s d)(hv:rel E v u) :
  ∃ w',(xB t c d u).run P E.w=.ok () w'∧∀ x,cL E .undef H' x w':=by
 unfold la at h;split at h
 case h_2=>cases h
 rename_i id st j;split at h
 case h_2=>cases h
 rename_i l es ms cl k q hid U;split at h
 case h_2=>cases h
 rename_i i hi;split at h
 case h_2=>cases h
 rename_i key bn hes;cases h;obtain⟨b,n,g,rfl,h1,h2,h3,h4,h5,h6⟩:=CK HE hid hm;have R:j≠id:=fun e=>by rw[e,hid]at U; cases U
 have e1:(getObj b).run P E.w=.ok (.map g cl) E.w:=by simp[getObj,gE,h2]
 obtain⟨hlen,hall⟩:=eE.1 h3;rw[Jc]at hlen;have hlt:=aL hes;obtain⟨e',q4⟩:∃ e',g.toList[i]? = some e':=⟨g.toList[i]'(by omega),bd _⟩
 have hfind:g.findIdx? (fun e=>(e.born:Int)==st)=some i:=by
  have e0:g=g.toList.toArray:=by simp
  rw[e0,ahN,Kb h3,hi]
 obtain⟨N,I,r',rfl,⟨tt,ht⟩,hlv,hloc,HE1,J⟩:=Uj HE hid U hv;have hd:d=.int .i64 st:=by simpa[rel]using hs
 have hidE:({ w:=E.w,H:=(E.H.set id (.mm l es (ms++[(k,q)]) cl)).set j .dead,loc:=I,X:=E.X.re r' }:Env).H[id]? = some (.mm l es (ms++[(k,q)]) cl):=by
  simp only[];rw[aV R,bk (aL hid)]
 have hre:bo { w:=E.w,H:=(E.H.set id (.mm l es (ms++[(k,q)]) cl)).set j .dead,loc:=I,X:=E.X.re r' } (fq (es.set i (key,some ms.length,bn))) (g.modify i fun e=>{ e with val:=.map (some N) }).toList:=by
  rw[eE];refine⟨by simp[fq,hlen],fun a y z B hz=>?_⟩;simp only[kT,iH]at hz;obtain⟨z0,M,rfl⟩:=dR.1 hz;unfold fq at B;rw[bR,dS]at B;by_cases e:i=a
  ·subst e
   rw[if_pos rfl,if_pos hlt]at B;cases B;obtain⟨b1,b2,V,W,b5⟩:=hall i (key,.undef,bn) z0 (by unfold fq; rw[bR,hes]; rfl) M;simp only[if_true];exact⟨bK J _ b1,by simp[rel],V,W,rfl⟩
  ·rw [if_neg e] at B
   obtain⟨b1,b2,V,W,b5⟩:=hall a y z0 (by unfold fq; rw[bR]; exact B) M;simp only[if_neg e];exact⟨bK J _ b1,bK J _ b2,V,W,b5⟩
 obtain⟨w',p1,p2,p3⟩:=Ka (P:=P) HE1 (cl':=cl) (es':=es.set i (key,some ms.length,bn)) (mes':=g.modify i fun e=>{ e with val:=.map (some N) }) hidE (by
  show I[id]? = _
  rw[hloc id (Ne.symm R)];exact h1) h2 hre (fun a x e O he=>by
  simp only[kT,iH]at he;obtain⟨z0,M,rfl⟩:=dR.1 he;by_cases e:i=a
  ·subst e
   rw[bk hlt]at O;cases O;exact .inr ⟨ms.length,N,rfl,hlv,by simp⟩
  ·rw [aV e] at O
   simp only[if_neg e];rcases h5 a x z0 O M with h|⟨i',b',a1,a2,a3⟩
   ·exact .inl h
   ·refine .inr ⟨i', b', a1, ?_, a3⟩
    show (dY (r' l))[i']? = _
    rw[ht,B1,cQ (aL a2)];exact a2)
 have hH:((E.H.set id (.mm l es (ms++[(k,q)]) cl)).set j .dead).set id (.mm l (es.set i (key,some ms.length,bn)) (ms++[(k,q)]) cl)=(E.H.set id (.mm l (es.set i (key,some ms.length,bn)) (ms++[(k,q)]) cl)).set j .dead:=by
  rw[List.set_comm _ _ R,nJ]
 rw[hH]at p2 p3;have hrun:(xB t (.map (some b)) d (.map (some N))).run P E.w=.ok () w':=by
  subst hd;simp only[xB,asInt,asIntOf,bT,bP,e1,fc,hfind];exact p1
 exact⟨w',hrun,fun xx=>⟨I,r',by simp[rel],p2,J.trans p3⟩⟩
end Go.AL
