/-
 What is proved here: basic facts of an abstract logic for the model's programs: abstract values,what they say of the model's values in a world,and that this survives what a call may do. No program in sight; no condition.
-/
import Derived.Calls
import Derived.Orders
import Derived.OrdersIn
import Derived.RangeFuncNested
import Derived.RangeFuncLeaves
import Derived.Laws.Sem
import Derived.Laws.Cells
import Derived.Laws.StructEq
import Derived.Laws.AppendOwn
import Derived.Laws.CopyRow
set_option linter.all false
open Array renaming getElem?_push→pY,length_toList→kT,toList_map→S2,ext'→eT,range→gz,map→IM,getElem?_setIfInBounds→S8,toList_modify→oh,toList_push→yf
open BitVec renaming ofInt→x5
open Bool renaming and_true→dZ,and_eq_true→aw,false_eq_true→mU,and_assoc→aii
open ByteArray renaming empty→x4
open Go.Act renaming eval→Ci
open Go.Addr.mk renaming injEq→IE
open Go.Builtin renaming lenOf→IJ,firstCells→ia,append_→mX,zeroCells→x9,nextslicecap→IK,delete_→Ta,clear_→Tc
open Go.Instr renaming loadAt→Ck,sureAddr→nZ,fieldAt→SS,indexAt→x6,sliceBounds→rZ,sliceBound→Cl,sliceAt→mV,slice→oa,index→SY,field→ail,fill→aim,build→S0,storeAt→IL,alloc→Cp,box→air,makeSlice→ais,buildSlice→IN,range→S7,checkKey→uN,findAsking→S9,findNow→yb,sameNow→yc,findKey→S_,lookup→yd,sameBits→IP,mapUpdate→r8,keyThatStays→ye,mapEntry→Td,entryStore→Te
open Go.Op renaming bytesLess→ID,equalIn→kS,eqFields→SX,equal→x8
open Go.Program renaming fieldsOf→aik
open Go.Question renaming cut→aip,forced→aiq
open Go.Result renaming andThen_ok→cB
open Go.Sem renaming run_bind→cf,run_pure→gR,run→kU
open Go.Utf8 renaming decode→og
open Go.Value renaming cells→IG
open Go.Value.pointer renaming injEq→aif
open Go.Value.slice renaming injEq→j0
open Go.World renaming cell?→rW,setRow→ain
open List renaming length_cons→di,length_map→bF,getElem?_map→cq,getElem?_eq_none→rX,getElem?_append_left→dz,getElem?_append_right→gx,getElem?_append→gy,getElem?_set_self→cr,getElem?_set_ne→bH,getElem?_set→e_,set_eq_of_length_le→IC,all_eq_true→dX,getElem?_eq_getElem→bE,getD_eq_getElem?_getD→cH,getElem?_drop→rY,getElem?_take→mT,take_succ_cons→Cj,mem_cons→bI,mem_of_getElem?→fK,map_cons→dA,map_take→SU,map_drop→IF,mem_of_mem_drop→x7,mem_of_mem_take→uI,cons_append→ob,drop_succ_cons→aij,take_one→SV,eq_nil_of_length_eq_zero→uJ,drop_drop→pZ,take_append_drop→uK,ext_getElem?→mW,length_take→iX,length_set→Cm,length_append→fD,mem_append→bV,mapM_cons→SZ,flatten_cons→uL,getElem?_of_mem→od,size_toArray→x_,nil_append→Cn,length_drop→oe,flatten_append→ya,replicate→cI,append_nil→gS,replicate_succ→S4,eq_of_mem_replicate→S5,getElem?_modify→kV,mem_cons_self→cZ,mem_cons_of_mem→cU,replicate_zero→ait,mem_replicate→IQ,set_set→uO,map_append→j6
open List.cons renaming injEq→IH
open Nat renaming add_assoc→pX,add_comm→uH,add_mul→fq,le_refl→aI,le_add_right→eL,le_trans→mS,lt_of_lt_of_le→dN,ne_of_lt→aie,lt_or_ge→jZ,zero_add→dO,sub_sub→aih,mul_le_mul→aio,sub_zero→jC,zero_mul→r7,add_zero→mY,mul_le_mul_right→uM,one_mul→Co,beq→ab,mul_eq_zero→S6,succ_mul→aiu
open Option renaming map_eq_some_iff→ft,isSome_iff_exists→n_,map_some→iZ,getD_some→kW
open Option.some renaming injEq→aT
open Prod.mk renaming injEq→aZ
namespace Go.AL
inductive Kd where
 |int (k:IntKind)
 |str
 |bool
 |list (ks:List Kd)
 deriving Inhabited
inductive G where
 |i (n:Int)
 |s (b:ByteArray)
 |t (x:Bool)
 |l (rows:List (List G))
instance:Inhabited G:=⟨.i 0⟩
def G.int:G→Int
 |.i n=>n
 |_=>0
def G.str:G→ByteArray
 |.s b=>b
 |_=>x4
def G.bool:G→Bool
 |.t x=>x
 |_=>false
def G.rows:G→List (List G)
 |.l rows=>rows
 |_=>[]
inductive AV where
 |undef
 |lit (v:Value)
 |nils
 |list (k:Nat) (rows:List (List AV))
 |listF (ks:List Kd) (rows:List (List G))
 |agg (cells:List AV)
 |tuple (vs:List AV)
 |cptr (cells:List AV)
 |ptr (id ae k row col:Nat)
 |vec (k id ae off n:Nat)
 |map (id:Nat)
 |clo (f:FuncId) (caps:List AV)
 |ifc
 |emptyS (isNil:Bool)
 deriving Inhabited
def ib:Kd→G→AV
 |.int k,g=>.lit (.int k g.int)
 |.str,g=>.lit (.string g.str)
 |.bool,g=>.lit (.bool g.bool)
 |.list ks,g=>.listF ks g.rows
def aD:List Kd→List G→List AV
 | [],_=>[]
 |k::ks,g=>ib k (g.headD default)::aD ks g.tail
theorem qf:∀(ks:List Kd) (g:List G),(aD ks g).length=ks.length
 | [],_=>rfl
 |_::ks,g=>by simp[aD,qf ks]
inductive af where
 |dead
 |box (cells:List AV)
 |vec (k ae:Nat) (rows:List (List AV))
 |map (es:List (AV × AV × Nat)) (clock:Nat)
 |iter (s:ByteArray) (pos:Nat)
 |eQ (l:Nat) (T B:TypeId) (s:ByteArray)
 |a7 (l k:Nat) (es:List (AV × Option (List (List AV)) × Nat)) (clock:Nat)
 deriving Inhabited
def af.label:af→Option Nat
 |.eQ l _ _ _=>some l
 |.a7 l _ _ _=>some l
 |_=>none
def af.aH : af→Option Nat
 |.dead=>none
 |.box _=>some 0
 |.vec _ v _=>some v
 |.map _ _=>some 0
 |.iter _ _=>some 0
 |.eQ ..=>some 0
 |.a7 ..=>some 0
structure XS where
 x:Nat→Prop
 z:Nat→Prop
 r:Nat→List (Option (Option (Nat × Nat)))
instance:CoeFun XS fun _=>Nat→Prop:=⟨XS.x⟩
def XS.or(X:XS)(p:Nat→Prop):XS:=⟨fun b=>X b∨p b,X.z,X.r⟩
def XS.re(X:XS) (r:Nat→List (Option (Option (Nat × Nat)))):XS:=⟨X.x,X.z,r⟩
@[simp] theorem XS.TB (X:XS):X.re X.r=X:=rfl
@[simp] theorem XS.ai2 (X:XS) (r):(X.re r).x=X.x:=rfl
@[simp] theorem XS.ai3 (X:XS) (r):(X.re r).z=X.z:=rfl
@[simp] theorem XS.ai4 (X:XS) (r):(X.re r).r=r:=rfl
@[simp] theorem XS.ai5 (X:XS) (r r'):(X.re r).re r'=X.re r':=rfl
theorem XS.Jd{X X':XS}(h:X'.x=X.x∧X'.z=X.z)(r):X'.re r=X.re r:=by
 unfold XS.re;rw[h.1,h.2]
def dP:Nat→List (Option (Option (Nat × Nat))):=fun _=>[]
def se:List (Nat × Array Value):=[(1,((List.range 20).map fun i=>Value.int .u64 ((10 ^ i:Nat):Int)).toArray)]
class Dr where
 d:Bool
abbrev nf:Dr:=⟨true⟩
abbrev TC:Dr:=⟨false⟩
variable [Dr]
def CE:Bool:=Dr.d
structure Env where
 w:World
 H:List af
 loc:List (Option (Nat × Nat))
 X:XS
def Env.sat(E:Env)(b:Nat):Prop:=∃(l h m:Nat),(E.X.r l)[h]? = some (some (some (b,m)))
def Env.own(E:Env)(b:Nat):Prop:=(∃(id:Nat) (c:Nat),E.loc[id]? = some (some (b,c)))∨E.sat b
def Env.ic(E:Env)(b:Nat):Prop:=b<E.w.heap.size∧¬ E.own b∧¬ E.X b
def Env.live(E:Env)(id ae:Nat):Prop:=∃ o,E.H[id]? = some o∧o.aH = some ae
def Env.past(E:Env)(id ae:Nat):Prop:=∃ o,E.H[id]? = some o∧∀ v,o.aH = some v→ae≤v
def dB:Value→Bool
 |.agg _ | .tuple _=>false
 |_=>true
mutual
def AV.closed:AV→Bool
 |.undef | .lit _ | .nils | .list _ _ | .listF _ _ | .cptr _ | .ifc | .emptyS _=>true
 |.agg cs | .tuple cs | .clo _ cs=>AV.bf cs
 |.ptr .. | .vec .. | .map _=>false
def AV.bf:List AV→Bool
 | []=>true
 |a::as=>a.closed&&AV.bf as
end
theorem fL:∀(ks:List Kd) (g:List G),AV.bf (aD ks g)=true
 | [],_=>rfl
 | k::ks,g=>by
  simp only[aD,AV.bf,fL ks,dZ];cases k<;>rfl
mutual
def dC(E:Env):Kd→G→Value→Prop
 |.int k,g,c=>c=.int k g.int
 |.str,g,c=>c=.string g.str
 |.bool,g,c=>c=.bool g.bool
 | .list ks,g,c=>∃ base cap,c=.slice base g.rows.length cap∧g.rows.length≤cap ∧
   (g.rows=[]∨∃ b o,base=some ⟨b,o,none⟩∧E.ic b∧∀(i:Nat) (r:List G),g.rows[i]? = some r→jH E ks r b (o+i*ks.length))
def jH(E:Env):List Kd→List G→Nat→Nat→Prop
 | [],_,_,_=>True
 |k::ks,g,b,o=>(∃ v,E.w.cell? ⟨b,o,none⟩=some v∧dB v=true∧dC E k (g.headD default) v)∧jH E ks g.tail b (o+1)
end
def fa(rows:List (List AV)):Prop:=∀ r∈rows,AV.bf r=true
mutual
def rel(E:Env):AV→Value→Prop
 |.undef,_=>True
 |.lit v,c=>c=v
 |.nils,c=>∃ base,c=.slice base 0 0
 | .list k rows,c=>fa rows∧∃ base cap,c=.slice base rows.length cap∧rows.length≤cap ∧
   (rows=[]∨∃ b o,base=some ⟨b,o,none⟩∧E.ic b∧cL E k rows b o)
 |.listF ks rows,c=>dC E (.list ks) (.l rows) c
 |.agg cells,c=>∃ cs:Array Value,c=.agg cs∧(∀ x∈cs.toList,dB x=true)∧ad E cells cs.toList
 |.tuple vs,c=>∃ cs:Array Value,c=.tuple cs∧ad E vs cs.toList
 |.cptr cells,c=>AV.bf cells=true∧∃ b o,c=.pointer (some ⟨b,o,none⟩)∧E.ic b∧ca E cells b o
 | .ptr id ae k row col,c=>(∃ b o,c=.pointer (some ⟨b,o,none⟩))∧E.past id ae∧(E.live id ae→∃ b n,E.loc[id]? = some (some (b,n)) ∧
   c=.pointer (some ⟨b,row*k+col,none⟩))
 | .vec k id ae off n,c=>(∃ base cap,c=.slice base n cap∧n≤cap∧(0<n→∃ b o,base=some ⟨b,o,none⟩))∧E.past id ae∧(E.live id ae →
   (E.loc[id]? = some none→n=0∧off=0∧∃ base,c=.slice base 0 0) ∧
   (∀ b m,E.loc[id]? = some (some (b,m))→off+n≤m∧∃ o,(off<m→o=off*k)∧c=.slice (some ⟨b,o,none⟩) n (m-off)))
 |.map id,c=>(∃ b,c=.map (some b))∧E.past id 0∧(E.live id 0→∃ b n,E.loc[id]? = some (some (b,n))∧c=.map (some b))
 |.clo f caps,c=>∃ cs:Array Value,c=.func (.func f) #[] cs∧ad E caps cs.toList
 |.ifc,c=>∃ t v,c=.iface t v
 |.emptyS n,c=>∃ base cap,c=.slice base 0 cap∧base.isNone=n
def ad(E:Env):List AV→List Value→Prop
 | [],[]=>True
 |a::as,v::vs=>rel E a v∧ad E as vs
 |_,_=>False
def ca(E:Env):List AV→Nat→Nat→Prop
 | [],_,_=>True
 |a::as,b,o=>(∃ v,E.w.cell? ⟨b,o,none⟩=some v∧dB v=true∧rel E a v)∧ca E as b (o+1)
def cL(E:Env)(k:Nat):List (List AV)→Nat→Nat→Prop
 | [],_,_=>True
 |r::rs,b,o=>r.length=k∧ca E r b o∧cL E k rs b (o+k)
end
theorem fv{E:Env}:∀{as:List AV} {vs:List Value},ad E as vs→as.length=vs.length
 | [],[],_=>rfl
 |_::_,_::_,h=>by simp only[ad]at h; simp[fv h.2]
 | [],_::_,h=>by simp[ad]at h
 |_::_,[],h=>by simp[ad]at h
theorem ng{E:Env}:∀{as:List AV} {vs:List Value},
  ad E as vs↔as.length=vs.length∧∀(i:Nat) a v,as[i]? = some a→vs[i]? = some v→rel E a v
 | [],[]=>by simp[ad]
 | [],_::_=>by simp[ad]
 |_::_,[]=>by simp[ad]
 | a::as,v::vs=>by
  simp only[ad,ng (as:=as),di];constructor
  ·rintro ⟨h1, k, q⟩
   refine⟨by omega,fun i x y d g=>?_⟩;cases i with
   |zero=>simp at d g; subst d; subst g; exact h1
   |succ i=>exact q i x y (by simpa using d) (by simpa using g)
  ·rintro ⟨h1, k⟩
   exact⟨k 0 a v rfl rfl,by omega,fun i x y d g=>k (i+1) x y (by simpa using d) (by simpa using g)⟩
theorem jb{E:Env}:∀{as:List AV} {b o:Nat},
  ca E as b o↔∀(i:Nat) a,as[i]? = some a→∃ v,E.w.cell? ⟨b,o+i,none⟩=some v∧dB v=true∧rel E a v
 | [],b,o=>by simp[ca]
 | a::as,b,o=>by
  simp only[ca,jb (as:=as)];constructor
  ·rintro ⟨h1, g⟩ i x d
   cases i with
   |zero=>simp at d; subst d; exact h1
   |succ i=>have:=g i x (by simpa using d); rwa [pX,uH 1 i]at this
  ·intro h
   refine⟨h 0 a rfl,fun i x d=>?_⟩;have:=h (i+1) x (by simpa using d)
   rwa [pX,uH 1 i]
theorem l6{E:Env}{k:Nat}:∀{rs:List (List AV)} {b o:Nat},
  cL E k rs b o↔∀(i:Nat) r,rs[i]? = some r→r.length=k∧ca E r b (o+i*k)
 | [],b,o=>by simp[cL]
 | r::rs,b,o=>by
  simp only[cL,l6 (rs:=rs)];constructor
  ·rintro ⟨h0, h1, g⟩ i x d
   cases i with
   |zero=>simp at d; subst d; simpa using⟨h0,h1⟩
   | succ i =>
    have:=g i x (by simpa using d)
    rwa [pX,show k+i*k=(i+1)*k from by rw[fq]; omega]at this
  ·intro h
   have h0:=h 0 r rfl;refine⟨h0.1,by simpa using h0.2,fun i x d=>?_⟩;have:=h (i+1) x (by simpa using d)
   rwa [pX,show k+i*k=(i+1)*k from by rw[fq]; omega]
def dq(w w':World):Prop:=w'.os=w.os∧w'.output=w.output∧w'.tape=w.tape∧(CE=true→w.drawn≤w'.drawn)
theorem dq.refl(w:World):dq w w:=⟨rfl,rfl,rfl,by first|exact fun _=>aI _|exact fun _=>eL _ _⟩
theorem dq.trans{w w' d:World}(h:dq w w')(h':dq w' d):dq w d:=⟨h'.1.trans h.1,h'.2.1.trans h.2.1,h'.2.2.1.trans h.2.2.1,fun t=>mS (h.2.2.2 t) (h'.2.2.2 t)⟩
structure Env.le (E E':Env):Prop where
 past:∀ id ae,E.past id ae→E'.past id ae
 size:E.w.heap.size≤E'.w.heap.size
 same:∀ b,b<E.w.heap.size→¬ E.own b→E'.w.heap[b]? = E.w.heap[b]?
 own:∀ b,b<E.w.heap.size→¬ E.own b→¬ E'.own b
 live:∀ id ae,E.past id ae→E'.live id ae→E.live id ae∧E'.loc[id]? = E.loc[id]?
 X:E'.X.x=E.X.x∧E'.X.z=E.X.z
 rl:∀ l h,h<(E.X.r l).length→h<(E'.X.r l).length∧∀ q,(E'.X.r l)[h]? = some (some q)→(E.X.r l)[h]? = some (some q)
 env:dq E.w E'.w
theorem Env.le.refl(E:Env):E.le E:=⟨fun _ _ h=>h,aI _,fun _ _ _=>rfl,fun _ _ h=>h,fun _ _ _ h=>⟨h,rfl⟩,⟨rfl,rfl⟩,fun _ _ h=>⟨h,fun _ d=>d⟩,⟨rfl,rfl,rfl,by first|exact fun _=>aI _|exact fun _=>eL _ _⟩⟩
theorem Env.le.ok{E E':Env}(h:E.le E')(b:Nat)(d:E.ic b):E'.ic b :=
 ⟨dN d.1 h.size,h.own b d.1 d.2.1,by rw[show E'.X.x=E.X.x from h.X.1]; exact d.2.2⟩
theorem Env.le.trans{E E' B:Env}(h:E.le E')(h':E'.le B):E.le B where
 past:=fun id ae F=>h'.past id ae (h.past id ae F)
 size:=mS h.size h'.size
 same:=fun b d g=>by rw[h'.same b (dN d h.size) (h.own b d g),h.same b d g]
 own:=fun b d g=>h'.own b (dN d h.size) (h.own b d g)
 live:=fun id ae hid I=>by
  obtain⟨k,a2⟩:=h'.live id ae (h.past id ae hid) I;obtain⟨b1,A⟩:=h.live id ae hid k;exact⟨b1,by rw[a2,A]⟩
 X:=⟨by rw[h'.X.1,h.X.1],by rw[h'.X.2,h.X.2]⟩
 rl:=fun l i hi=>by
  obtain⟨k,a2⟩:=h.rl l i hi;obtain⟨b1,A⟩:=h'.rl l i k;exact⟨b1,fun q J=>a2 q (A q J)⟩
 env:=h.env.trans h'.env
theorem World.sf{w w':World}{b o:Nat}(h:w'.heap[b]? = w.heap[b]?):w'.cell? ⟨b,o,none⟩=w.cell? ⟨b,o,none⟩:=by
 simp[rW,h]
structure Env.bG (E E':Env):Prop where
 ok:∀ b,E.ic b→E'.ic b∧E'.w.heap[b]? = E.w.heap[b]?
theorem Env.le.toC{E E':Env}(h:E.le E'):E.bG E':=⟨fun b d=>⟨h.ok b d,h.same b d.1 d.2.1⟩⟩
mutual
theorem Je{E E':Env}(h:E.bG E'):∀(k:Kd) {g:G} {c:Value},dC E k g c→dC E' k g c
 |.int k,g,c,hr=>by simpa only[dC]using hr
 |.str,g,c,hr=>by simpa only[dC]using hr
 |.bool,g,c,hr=>by simpa only[dC]using hr
 | .list ks,g,c,hr=>by
  simp only[dC]at hr⊢;obtain⟨base,cap,hc,hle,q⟩:=hr;refine⟨base,cap,hc,hle,?_⟩;rcases q with hn|⟨b,o,A,aL,d⟩
  ·exact .inl hn
  ·exact .inr ⟨b,o,A,(h.ok b aL).1,fun i r hi=>Jf h ks (h.ok b aL).2 (d i r hi)⟩
theorem Jf{E E':Env}(h:E.bG E'):∀(ks:List Kd) {g:List G} {b o:Nat},E'.w.heap[b]? = E.w.heap[b]? → jH E ks g b o→jH E' ks g b o
 | [],_,_,_,_,_=>by simp[jH]
 | k::ks,g,b,o,d,hr=>by
  simp only[jH]at hr⊢;obtain⟨⟨v,h1,q,A⟩,B⟩:=hr;exact⟨⟨v,by rw[World.sf d]; exact h1,q,Je h k A⟩,Jf h ks d B⟩
end
mutual
theorem dI{E E':Env}(h:E.bG E'):∀(a:AV) {c:Value},a.closed=true→rel E a c→rel E' a c
 |.undef,_,_,_=>by simp[rel]
 |.lit v,c,_,hr=>by simpa only[rel]using hr
 |.nils,c,_,hr=>by simpa only[rel]using hr
 | .list k rows,c,_,hr=>by
  simp only[rel]at hr⊢;obtain⟨g,base,cap,hc,hle,A⟩:=hr;refine⟨g,base,cap,hc,hle,?_⟩;rcases A with rfl|⟨b,o,B,aL,q⟩
  ·exact .inl rfl
  ·exact .inr ⟨b,o,B,(h.ok b aL).1,k8 h rows g (h.ok b aL).2 q⟩
 | .listF ks rows,c,_,hr=>by
  simp only[rel]at hr⊢;exact Je h _ hr
 | .agg cells,c,hc,hr=>by
  simp only[rel]at hr⊢;obtain⟨cs,e,h1,d⟩:=hr;exact⟨cs,e,h1,oB h cells (by simpa only[AV.closed]using hc) d⟩
 | .tuple cells,c,hc,hr=>by
  simp only[rel]at hr⊢;obtain⟨cs,e,d⟩:=hr;exact⟨cs,e,oB h cells (by simpa only[AV.closed]using hc) d⟩
 | .cptr cells,c,hc,hr=>by
  simp only[rel]at hr⊢;obtain⟨g,b,o,e,aL,d⟩:=hr;exact⟨g,b,o,e,(h.ok b aL).1,sg h cells g (h.ok b aL).2 d⟩
 |.ptr ..,_,hc,_=>by simp[AV.closed]at hc
 |.vec ..,_,hc,_=>by simp[AV.closed]at hc
 |.map _,_,hc,_=>by simp[AV.closed]at hc
 | .clo f caps,c,hc,hr=>by
  simp only[rel]at hr⊢;obtain⟨cs,e,d⟩:=hr;exact⟨cs,e,oB h caps (by simpa only[AV.closed]using hc) d⟩
 |.ifc,c,_,hr=>by simpa only[rel]using hr
 |.emptyS n,c,_,hr=>by simpa only[rel]using hr
theorem oB{E E':Env}(h:E.bG E'):∀(as:List AV) {vs:List Value},AV.bf as=true→ad E as vs→ad E' as vs
 | [],[],_,_=>by simp[ad]
 | [],_::_,_,hr=>by simp[ad]at hr
 |_::_,[],_,hr=>by simp[ad]at hr
 | a::as,v::vs,hc,hr=>by
  simp only[AV.bf,aw]at hc;simp only[ad]at hr⊢;exact⟨dI h a hc.1 hr.1,oB h as hc.2 hr.2⟩
theorem sg{E E':Env}(h:E.bG E'):∀(as:List AV) {b o:Nat},AV.bf as=true→E'.w.heap[b]? = E.w.heap[b]? → ca E as b o→ca E' as b o
 | [],_,_,_,_,_=>by simp[ca]
 | a::as,b,o,hc,d,hr=>by
  simp only[AV.bf,aw]at hc;simp only[ca]at hr⊢;obtain⟨⟨v,h1,g,k⟩,q⟩:=hr;exact⟨⟨v,by rw[World.sf d]; exact h1,g,dI h a hc.1 k⟩,sg h as hc.2 d q⟩
theorem k8{E E':Env}(h:E.bG E'){k:Nat}:∀(rs:List (List AV)) {b o:Nat},fa rs→E'.w.heap[b]? = E.w.heap[b]? → cL E k rs b o→cL E' k rs b o
 | [],_,_,_,_,_=>by simp[cL]
 | r::rs,b,o,hc,d,hr=>by
  simp only[cL]at hr⊢;exact⟨hr.1,sg h r (hc r (by simp)) d hr.2.1,k8 h rs (fun x g=>hc x (by simp[g])) d hr.2.2⟩
end
mutual
theorem cC{E E':Env}(h:E.le E'):∀(a:AV) {c:Value},rel E a c→rel E' a c
 |.undef,_,_=>by simp[rel]
 |.lit v,c,hr=>by simpa only[rel]using hr
 |.nils,c,hr=>by simpa only[rel]using hr
 |.list k rows,c,hr=>dI h.toC _ (by simp[AV.closed]) hr
 |.listF ks rows,c,hr=>dI h.toC _ (by simp[AV.closed]) hr
 | .agg cells,c,hr=>by
  simp only[rel]at hr⊢;obtain⟨cs,e,h1,d⟩:=hr;exact⟨cs,e,h1,eM h cells d⟩
 | .tuple cells,c,hr=>by
  simp only[rel]at hr⊢;obtain⟨cs,e,d⟩:=hr;exact⟨cs,e,eM h cells d⟩
 |.cptr cells,c,hr=>dI h.toC _ (by simp[AV.closed]) hr
 | .ptr id ae k row col,c,hr=>by
  simp only[rel]at hr⊢;refine⟨hr.1,h.past _ _ hr.2.1,fun g=>?_⟩;obtain⟨h1,d⟩:=h.live id ae hr.2.1 g;rw[d];exact hr.2.2 h1
 | .vec k id ae off n,c,hr=>by
  simp only[rel]at hr⊢;refine⟨hr.1,h.past _ _ hr.2.1,fun g=>?_⟩;obtain⟨h1,d⟩:=h.live id ae hr.2.1 g;rw[d];exact hr.2.2 h1
 | .map id,c,hr=>by
  simp only[rel]at hr⊢;refine⟨hr.1,h.past _ _ hr.2.1,fun g=>?_⟩;obtain⟨h1,d⟩:=h.live id 0 hr.2.1 g;rw[d];exact hr.2.2 h1
 | .clo f caps,c,hr=>by
  simp only[rel]at hr⊢;obtain⟨cs,e,d⟩:=hr;exact⟨cs,e,eM h caps d⟩
 |.ifc,c,hr=>by simpa only[rel]using hr
 |.emptyS n,c,hr=>by simpa only[rel]using hr
theorem eM{E E':Env}(h:E.le E'):∀(as:List AV) {vs:List Value},ad E as vs→ad E' as vs
 | [],[],_=>by simp[ad]
 | [],_::_,hr=>by simp[ad]at hr
 |_::_,[],hr=>by simp[ad]at hr
 | a::as,v::vs,hr=>by
  simp only[ad]at hr⊢;exact⟨cC h a hr.1,eM h as hr.2⟩
end
theorem TD{E:Env}(k:Kd)(g:G)(c:Value):rel E (ib k g) c↔dC E k g c:=by
 cases k with
 |int k=>simp only[ib,rel,dC]
 |str=>simp only[ib,rel,dC]
 |bool=>simp only[ib,rel,dC]
 |list ks=>simp only[ib,rel,dC,G.rows]
theorem CF{E:Env}:∀(ks:List Kd) (g:List G) (b o:Nat),ca E (aD ks g) b o↔jH E ks g b o
 | [],_,_,_=>by simp[aD,ca,jH]
 |k::ks,g,b,o=>by simp only[aD,ca,jH,CF ks,TD]
theorem jI{E:Env}{ks:List Kd}{rows:List (List G)}{c:Value}:rel E (.listF ks rows) c↔rel E (.list ks.length (rows.map (aD ks))) c:=by
 simp only[rel,dC,G.rows,bF,List.map_eq_nil_iff];have hc:fa (rows.map (aD ks)):=by
  intro r hr;obtain⟨g,_,rfl⟩:=List.mem_map.1 hr;exact fL ks g
 have hr:∀ b o,(∀(i:Nat) (r:List G),rows[i]? = some r→jH E ks r b (o+i*ks.length))↔cL E ks.length (rows.map (aD ks)) b o:=by
  intro b o;rw[l6];constructor
  ·intro h i r hi
   simp only[cq,ft]at hi;obtain⟨g,d,rfl⟩:=hi;exact⟨qf ks g,(CF ks g _ _).2 (h i g d)⟩
  ·intro h i g d
   exact(CF ks g _ _).1 (h i (aD ks g) (by simp[d])).2
 simp only[hr,hc,true_and]
end Go.AL

namespace Go.AL
variable [Dr]
def isRow(w:World)(b n:Nat):Prop:=∃ cs el,w.heap[b]? = some (.cells cs el (0,0))∧cs.size=n
def bP(E:Env):List (AV × AV × Nat)→List MapEntry→Prop
 | [],[]=>True
 |(k,v,n)::es,e::ms=>rel E k e.key∧rel E v e.val∧e.born=n∧k.closed=true∧v.closed=true∧bP E es ms
 |_,_=>False
def yx(w:World)(B:TypeId)(s:ByteArray)(v:Value):Option (Nat × Nat)→Prop
 |none=>v=.slice none 0 0∧s.data.toList=[]
 | some (g,m)=>v=.slice (some ⟨g,0,none⟩) s.data.toList.length m∧∃ cs fz,w.heap[g]? = some (.cells cs B fz)∧fz.2≤s.data.toList.length∧cs.size=m∧s.data.toList.length≤m∧m≤9223372036854775807 ∧
   cs.toList.take s.data.toList.length=s.data.toList.map fun b=>Value.int .u8 (b.toNat:Int)
theorem CG{w w':World}{B:TypeId}{s:ByteArray}{v:Value}{q:Option (Nat × Nat)}(h:∀ g m,q=some (g,m)→w'.heap[g]? = w.heap[g]?)(hr:yx w B s v q):yx w' B s v q:=by
 cases q with
 |none=>exact hr
 | some d =>
  obtain⟨g,m⟩:=d;obtain⟨h1,cs,fz,k,A⟩:=hr;exact⟨h1,cs,fz,by rw[h g m rfl]; exact k,A⟩
def cO (es:List (AV × Option (List (List AV)) × Nat)):List (AV × AV × Nat):=es.map fun x=>(x.1,.undef,x.2.2)
theorem CH (es:List (AV × Option (List (List AV)) × Nat)):(cO es).length=es.length:=by simp[cO]
def CI(E:Env)(l k:Nat)(rows:List (List AV))(h:Nat)(v:Value):Prop :=
 (rows = [] ∧ ∃ base, v = .slice base 0 0) ∨
  ∃ b m,(E.X.r l)[h]? = some (some (some (b,m)))∧v=.slice (some ⟨b,0,none⟩) rows.length m∧isRow E.w b (m*k)∧rows.length≤m∧fa rows∧cL E k rows b 0
def iM(E:Env)(l k:Nat) (es:List (AV × Option (List (List AV)) × Nat)) (ms:List MapEntry):Prop :=
 ∃ d:Nat→Nat,(∀(i j:Nat) x y,es[i]? = some x→es[j]? = some y→x.2.1.isSome=true→y.2.1.isSome=true→d i=d j→i=j) ∧
  ∀(i:Nat) x rows e,es[i]? = some x→x.2.1=some rows→ms[i]? = some e→CI E l k rows (d i) e.val
theorem TE{E E':Env}{l k h:Nat}{rows:List (List AV)}{v:Value} (g:∀ b m,(E.X.r l)[h]? = some (some (some (b,m)))→(E'.X.r l)[h]? = some (some (some (b,m)))∧E'.w.heap[b]? = E.w.heap[b]?)
  (q:∀ b,E'.w.heap[b]? = E.w.heap[b]? → fa rows→cL E k rows b 0→cL E' k rows b 0) (hr:CI E l k rows h v):CI E' l k rows h v:=by
 rcases hr with hr|⟨b,m,h1,A,⟨cs,el,B,F⟩,I,d,J⟩
 ·exact .inl hr
 ·obtain ⟨g1, g2⟩ := g b m h1
  exact .inr ⟨b,m,g1,A,⟨cs,el,by rw[g2]; exact B,F⟩,I,d,q b g2 d J⟩
theorem uT{E E':Env}{l k:Nat}{es:List (AV × Option (List (List AV)) × Nat)}{ms:List MapEntry} (A:∀(h b m:Nat),(E.X.r l)[h]? = some (some (some (b,m)))→(E'.X.r l)[h]? = some (some (some (b,m)))∧E'.w.heap[b]? = E.w.heap[b]?)
  (B:∀(i:Nat) x rows,es[i]? = some x→x.2.1=some rows→∀ b,E'.w.heap[b]? = E.w.heap[b]? → fa rows→cL E k rows b 0→cL E' k rows b 0) (hr:iM E l k es ms):iM E' l k es ms:=by
 obtain⟨g,h1,F⟩:=hr;exact⟨g,h1,fun i x rows e q d he=>TE (A (g i)) (B i x rows q d) (F i x rows e q d he)⟩
def aO(E:Env)(id:Nat):af→Prop
 |.dead=>E.loc[id]? = some none
 |.box cells=>∃ b n,E.loc[id]? = some (some (b,n))∧isRow E.w b cells.length∧ca E cells b 0
 | .vec k _ rows=>(E.loc[id]? = some none∧rows=[]) ∨
   ∃ b m,E.loc[id]? = some (some (b,m))∧isRow E.w b (m*k)∧rows.length≤m∧fa rows∧cL E k rows b 0
 |.map es clock=>∃ b n ms,E.loc[id]? = some (some (b,n))∧E.w.heap[b]? = some (.map ms clock)∧bP E es ms.toList
 |.iter s pos=>∃ b n,E.loc[id]? = some (some (b,n))∧E.w.heap[b]? = some (.stringIter s pos)
 | .eQ l T B s=>∃ (b n:Nat) (p v:Value) (h:Nat) (q:Option (Nat × Nat)),E.loc[id]? = some (some (b,n))∧E.w.heap[b]? = some (.cells #[p,v] T (0,0))∧(p=.pointer none∨p=.pointer (some ⟨b,0,none⟩))∧(E.X.r l)[h]? = some (some q) ∧
   (∀(h':Nat) q',(E.X.r l)[h']? = some (some q')→h'=h)∧yx E.w B s v q
 |.a7 l k es clock=>∃ b n ms,E.loc[id]? = some (some (b,n))∧E.w.heap[b]? = some (.map ms clock)∧bP E (cO es) ms.toList∧iM E l k es ms.toList
def nh(E:Env):Prop:=∀ p∈se,E.ic p.1∧∃ t f,E.w.heap[p.1]? = some (.cells p.2 t f)
theorem nh.bG{E E':Env}(H:nh E)(h:E.bG E'):nh E':=fun p d=>by
 obtain⟨h1,t,f,g⟩:=H p d;exact⟨(h.ok _ h1).1,t,f,by rw[(h.ok _ h1).2]; exact g⟩
structure ar (E:Env):Prop where
 len:E.loc.length=E.H.length
 inj:∀(i j b m n:Nat),E.loc[i]? = some (some (b,m))→E.loc[j]? = some (some (b,n))→i=j
 lt:∀(i b m:Nat),E.loc[i]? = some (some (b,m))→b<E.w.heap.size∧¬ E.X b
 X:∀ b,E.X b→b<E.w.heap.size
 obj:∀(i:Nat) o,E.H[i]? = some o→aO E i o
 fb:nh E
 fc:∀(l h l' h' b m n:Nat),(E.X.r l)[h]? = some (some (some (b,m)))→(E.X.r l')[h']? = some (some (some (b,n)))→l=l'∧h=h'
 dj:∀(i b m l h n:Nat),E.loc[i]? = some (some (b,m))→(E.X.r l)[h]? ≠ some (some (some (b,n)))
 cD:∀(l h b m:Nat),(E.X.r l)[h]? = some (some (some (b,m)))→b<E.w.heap.size∧¬ E.X b
 uniq:∀(i j:Nat) o o' (l:Nat),E.H[i]? = some o→E.H[j]? = some o'→o.label=some l→o'.label=some l→i=j
 gT:∀(l:Nat),(∀(i:Nat) o,E.H[i]? = some o→o.label≠some l)→∀(h:Nat) q,(E.X.r l)[h]? ≠ some (some q)
theorem ar.j_{E:Env}(H:ar E){b:Nat}(d:E.X b):¬ E.own b:=by
 rintro(⟨i,c,hi⟩|⟨l,h,m,hi⟩)
 ·exact(H.lt i b c hi).2 d
 ·exact(H.cD l h b m hi).2 d
theorem ar.uU{E:Env}(H:ar E){b:Nat}(d:E.own b):b<E.w.heap.size∧¬ E.X b:=by
 rcases d with⟨i,c,hi⟩|⟨l,h,m,hi⟩
 ·exact H.lt i b c hi
 ·exact H.cD l h b m hi
structure Ext (w w':World):Prop where
 size:w.heap.size≤w'.heap.size
 same:∀ b,b<w.heap.size→w'.heap[b]? = w.heap[b]?
 env:dq w w'
theorem Ext.refl(w:World):Ext w w:=⟨aI _,fun _ _=>rfl,⟨rfl,rfl,rfl,by first|exact fun _=>aI _|exact fun _=>eL _ _⟩⟩
theorem Ext.trans{w w' d:World}(h:Ext w w')(h':Ext w' d):Ext w d :=
 ⟨mS h.size h'.size,fun b g=>by rw[h'.same b (dN g h.size),h.same b g],h.env.trans h'.env⟩
theorem Ext.push(w:World)(o:Obj):Ext w { w with heap:=w.heap.push o } :=
 ⟨by simp,fun b d=>by simp[pY,aie d],⟨rfl,rfl,rfl,by first|exact fun _=>aI _|exact fun _=>eL _ _⟩⟩
theorem Ext.drawn(w:World)(n:Nat)(h:w.drawn≤n:=by exact Nat.le_succ _):Ext w { w with drawn:=n }:=⟨aI _,fun _ _=>rfl,⟨rfl,rfl,rfl,fun _=>h⟩⟩
theorem Env.gd{E:Env}{w':World}(h:Ext E.w w'):E.le { E with w:=w' } where
 past:=fun _ _ h=>h
 size:=h.size
 same:=fun b d _=>h.same b d
 own:=fun _ _ g=>g
 live:=fun _ _ _ k=>⟨k,rfl⟩
 X:=⟨rfl,rfl⟩
 rl:=fun _ _ h=>⟨h,fun _ q=>q⟩
 env:=h.env
theorem sk{w w':World}{b n:Nat}(h:w'.heap[b]? = w.heap[b]?)(hr:isRow w b n):isRow w' b n:=by
 unfold isRow at *; rw[h]; exact hr
theorem uV{E E':Env}{b:Nat}(d:∀ a c,rel E a c→rel E' a c)(g:E'.w.heap[b]? = E.w.heap[b]?){as:List AV}{o:Nat}
  (h:ca E as b o):ca E' as b o:=by
 rw[jb]at *;intro i a hi;obtain⟨v,h1,k,q⟩:=h i a hi;exact⟨v,by rw[World.sf g]; exact h1,k,d _ _ q⟩
theorem k9{E E':Env}{b k:Nat}(d:∀ a c,rel E a c→rel E' a c)(g:E'.w.heap[b]? = E.w.heap[b]?){rs:List (List AV)}{o:Nat}
  (h:cL E k rs b o):cL E' k rs b o:=by
 rw[l6]at *;intro i r hi;exact⟨(h i r hi).1,uV d g (h i r hi).2⟩
theorem l7{E E':Env}(d:∀ a c,rel E a c→rel E' a c):∀{es:List (AV × AV × Nat)} {ms:List MapEntry},bP E es ms→bP E' es ms
 | [],[],_=>by simp[bP]
 | [],_::_,h=>by simp[bP]at h
 |(_,_,_)::_,[],h=>by simp[bP]at h
 | (k,v,n)::es,e::ms,h=>by
  simp only[bP]at h⊢;exact⟨d _ _ h.1,d _ _ h.2.1,h.2.2.1,h.2.2.2.1,h.2.2.2.2.1,l7 d h.2.2.2.2.2⟩
theorem k_{E E':Env}{i:Nat}{o:af}(M:∀ a c,rel E a c→rel E' a c)(F:E'.loc[i]? = E.loc[i]?)
  (I:∀ b n,E.loc[i]? = some (some (b,n))→E'.w.heap[b]? = E.w.heap[b]?)
  (O:∀ l,o.label=some l→E'.X.r l=E.X.r l∧∀(h g m:Nat),(E.X.r l)[h]? = some (some (some (g,m)))→E'.w.heap[g]? = E.w.heap[g]?) (h:aO E i o):aO E' i o:=by
 cases o with
 |dead=>simp only[aO]at *; rw[F]; exact h
 | box cells =>
  simp only[aO]at *;obtain⟨b,n,h1,d,A⟩:=h;exact⟨b,n,by rw[F,h1],sk (I b n h1) d,uV M (I b n h1) A⟩
 | vec k ae rows =>
  simp only[aO]at *;rcases h with⟨h1,d⟩|⟨b,m,h1,d,A,J,N⟩
  ·exact .inl ⟨by rw[F,h1],d⟩
  ·exact .inr ⟨b,m,by rw[F,h1],sk (I b m h1) d,A,J,k9 M (I b m h1) N⟩
 | map es clock =>
  simp only[aO]at *;obtain⟨b,n,ms,h1,d,A⟩:=h;exact⟨b,n,ms,by rw[F,h1],by rw[I b n h1,d],l7 M A⟩
 | iter s pos =>
  simp only[aO]at *;obtain⟨b,n,h1,d⟩:=h;exact⟨b,n,by rw[F,h1],by rw[I b n h1,d]⟩
 | eQ l T B s =>
  simp only[aO]at *;obtain⟨b,n,p,v,k,q,h1,d,A,J,N,U⟩:=h;obtain⟨g1,g2⟩:=O l rfl;exact⟨b,n,p,v,k,q,by rw[F,h1],by rw[I b n h1,d],A,by rw[g1,J],by rw[g1]; exact N,CG (fun g m e=>g2 k g m (by rw[J,e])) U⟩
 | a7 l k es clock =>
  simp only[aO]at *;obtain⟨b,n,ms,h1,d,A,J⟩:=h;obtain⟨g1,g2⟩:=O l rfl;exact⟨b,n,ms,by rw[F,h1],by rw[I b n h1,d],l7 M A,uT (fun h g m hk=>⟨by rw[g1]; exact hk,g2 h g m hk⟩) (fun _ _ _ _ _ b R _ hr=>k9 M R hr) J⟩
theorem ar.ext{E:Env}{w':World}(H:ar E)(h:Ext E.w w'):ar { E with w:=w' } where
 len:=H.len
 inj:=H.inj
 lt:=fun i b m hi=>⟨dN (H.lt i b m hi).1 h.size,(H.lt i b m hi).2⟩
 X:=fun b d=>dN (H.X b d) h.size
 obj:=fun i o hi=>k_ (fun a _ hr=>cC (Env.gd h) a hr) rfl (fun b n d=>h.same b (H.lt i b n d).1) (fun l _=>⟨rfl,fun k g m hk=>h.same g (H.cD l k g m hk).1⟩) (H.obj i o hi)
 fb:=H.fb.bG (Env.gd h).toC
 fc:=H.fc
 dj:=H.dj
 cD:=fun l k b m hk=>⟨dN (H.cD l k b m hk).1 h.size,(H.cD l k b m hk).2⟩
 uniq:=H.uniq
 gT:=H.gT
def Env.push(E:Env)(w':World)(o:af)(l:Option (Nat × Nat)):Env:={ w:=w',H:=E.H++[o],loc:=E.loc++[l],X:=E.X }
theorem aJ{α:Type}{l:List α}{i:Nat}{x:α}(h:l[i]? = some x):i<l.length:=by
 rcases jZ i l.length with h'|h'
 ·exact h'
 ·rw[rX h']at h; cases h
theorem ai6{α:Type}(l:List α)(x:α)(i:Nat)(h:i<l.length):(l++[x])[i]? = l[i]? := by
 rw[dz h]
theorem Env.jJ{E:Env}{w':World}{o:af}{l:Option (Nat × Nat)}(I:E.loc.length=E.H.length)(h:Ext E.w w')
  (d:∀ b n,l=some (b,n)→E.w.heap.size≤b):E.le (E.push w' o l) where
 past:=fun id ae g=>by
  obtain⟨x,h1,k⟩:=g;exact⟨x,by simp only[Env.push]; rw[dz (aJ h1)]; exact h1,k⟩
 size:=h.size
 same:=fun b d _=>h.same b d
 own:=fun b F q=>by
  rintro(⟨id,c,hid⟩|A)
  case inr=>exact q (.inr A)
  simp only[Env.push]at hid;by_cases hi:id<E.loc.length
  ·rw [dz hi] at hid
   exact q (.inl ⟨id,c,hid⟩)
  ·rw [gx (by omega)] at hid
   cases hk:id-E.loc.length with
   | zero =>
    rw[hk]at hid;simp at hid;have:=d b c hid;omega
   |succ n=>rw[hk]at hid; simp at hid
 live:=fun id ae g=>by
  obtain⟨x,h1,k⟩:=g;have hid:=aJ h1;simp only[Env.live,Env.push];rw[dz hid,dz (by omega)];exact fun h=>⟨h,rfl⟩
 X:=⟨rfl,rfl⟩
 rl:=fun _ _ h=>⟨h,fun _ B=>B⟩
 env:=h.env
theorem ar.push{E:Env}{w':World}{o:af}{l:Option (Nat × Nat)}(H:ar E)(h:Ext E.w w')
  (A:∀ b n,l=some (b,n)→E.w.heap.size≤b∧b<w'.heap.size) (R:aO (E.push w' o l) E.H.length o) (hlab:o.label=none:=by first|rfl|assumption):ar (E.push w' o l) where
 fc:=H.fc
 cD:=fun l k b m hk=>⟨dN (H.cD l k b m hk).1 h.size,(H.cD l k b m hk).2⟩
 dj:=by
  intro i b m l' k n hi hk;simp only[Env.push,gy]at hi;split at hi
  ·exact H.dj i b m l' k n hi hk
  ·rename_i h1
   cases F:i-E.loc.length with
   | zero =>
    rw[F]at hi;simp at hi;have J:=A b m hi;have O:=(H.cD l' k b n hk).1;omega
   |succ n=>rw[F]at hi; simp at hi
 uniq:=by
  have key:∀(i:Nat) o1 l1,(E.push w' o l).H[i]? = some o1→o1.label=some l1→E.H[i]? = some o1:=by
   intro i o1 l1 hi M;simp only[Env.push,gy]at hi;split at hi
   ·exact hi
   ·cases F : i - E.H.length with
    | zero =>
     rw[F]at hi;simp at hi;subst hi;rw[hlab]at M;cases M
    |succ n=>rw[F]at hi; simp at hi
  exact fun i j o1 o2 l1 hi d h1 I=>H.uniq i j o1 o2 l1 (key i o1 l1 hi h1) (key j o2 l1 d I) h1 I
 gT:=fun l1 hn=>H.gT l1 fun i o1 hi=>hn i o1 (by
  simp only[Env.push];rw[dz (aJ hi)];exact hi)
 fb:=H.fb.bG (Env.jJ H.len h (fun b n e=>(A b n e).1)).toC
 len:=by simp[Env.push,H.len]
 inj:=by
  intro i j b m n hi d;simp only[Env.push,gy]at hi d;split at hi<;>split at d
  ·exact H.inj i j b m n hi d
  ·rename_i h1 I
   cases hk:j-E.loc.length with
   | zero =>
    rw[hk]at d;simp at d;have J:=A b n d;have O:=(H.lt i b m hi).1;omega
   |succ n=>rw[hk]at d; simp at d
  ·rename_i h1 I
   cases hk:i-E.loc.length with
   | zero =>
    rw[hk]at hi;simp at hi;have J:=A b m hi;have O:=(H.lt j b n d).1;omega
   |succ n=>rw[hk]at hi; simp at hi
  ·rename_i h1 I
   have W:i-E.loc.length=0:=by
    cases hk:i-E.loc.length with
    |zero=>rfl
    |succ n=>rw[hk]at hi; simp at hi
   have Y:j-E.loc.length=0:=by
    cases hk:j-E.loc.length with
    |zero=>rfl
    |succ n=>rw[hk]at d; simp at d
   omega
 lt:=by
  intro i b m hi;simp only[Env.push,gy]at hi⊢;split at hi
  ·exact⟨dN (H.lt i b m hi).1 h.size,(H.lt i b m hi).2⟩
  ·cases hk : i - E.loc.length with
   | zero =>
    rw[hk]at hi;simp at hi;have J:=A b m hi;exact⟨J.2,fun U=>by have:=H.X b U; omega⟩
   |succ n=>rw[hk]at hi; simp at hi
 X:=fun b B=>dN (H.X b B) h.size
 obj:=by
  intro i o' hi;have hle:E.le (E.push w' o l):=Env.jJ H.len h (fun b n B=>(A b n B).1);by_cases N:i<E.H.length
  ·simp only [Env.push] at hi
   rw[dz N]at hi;refine k_ (fun a _ hr=>cC hle a hr) ?_ ?_ ?_ (H.obj i o' hi)
   ·simp only [Env.push]
    rw[dz (by rw[H.len]; exact N)]
   ·intro b n B
    exact h.same b (H.lt i b n B).1
   ·exact fun l1 _=>⟨rfl,fun k g m hk=>h.same g (H.cD l1 k g m hk).1⟩
  ·have q := hi
   simp only[Env.push]at q;rw[gx (by omega)]at q;cases hk:i-E.H.length with
   | zero =>
    rw[hk]at q;simp at q;have:i=E.H.length:=by omega
    rw[this,←q];exact R
   |succ n=>rw[hk]at q; simp at q
theorem Env.la{E:Env}{w':World}{id:Nat}{o o':af}{l:Option (Nat × Nat)}(hid:E.H[id]? = some o)
  (hlen:E.loc.length=E.H.length) (F:E.w.heap.size≤w'.heap.size)
  (I:∀ x,x<E.w.heap.size→(∀ n,E.loc[id]? ≠ some (some (x,n)))→w'.heap[x]? = E.w.heap[x]?)
  (R:∀ b n,l=some (b,n)→E.w.heap.size≤b∨∃ m,E.loc[id]? = some (some (b,m)))
  (J:(∀ v,o'.aH = some v→o.aH = some v∧E.loc[id]? = some l)∨(∀ v,o'.aH = some v→∀ u,o.aH = some u→u<v))
  (N:∀ v u,o'.aH = some v→o.aH = some u→u≤v) (A:o.aH = none→o'.aH = none) (M:dq E.w w':=by first|exact⟨rfl,rfl,rfl,by first|exact fun _=>aI _|exact fun _=>eL _ _⟩|assumption|exact Ext.env (by assumption)) :
  E.le { w:=w',H:=E.H.set id o',loc:=E.loc.set id l,X:=E.X } where
 past:=fun i ae q=>by
  obtain⟨x,h1,d⟩:=q;by_cases e:i=id
  ·subst e
   refine⟨o',by simp only[]; rw[cr (aJ hid)],fun v g=>?_⟩;rw[hid]at h1;cases h1;cases hu:o.aH with
   |none=>rw[A hu]at g; cases g
   |some u=>exact mS (d u hu) (N v u g hu)
  ·exact⟨x,by simp only[]; rw[bH (Ne.symm e)]; exact h1,d⟩
 size:=F
 same:=fun x U k=>I x U (fun n hn=>k (.inl ⟨id,n,hn⟩))
 own:=fun b hlt k=>by
  rintro(⟨i,c,hi⟩|W)
  case inr=>exact k (.inr W)
  simp only[e_]at hi;split at hi
  ·split at hi
   ·simp at hi
    rcases R b c hi with h|⟨m,hm⟩
    ·omega
    ·exact k (.inl ⟨id,m,hm⟩)
   ·cases hi
  ·exact k (.inl ⟨i,c,hi⟩)
 live:=fun i ae q O=>by
  obtain⟨x,h1,d⟩:=O;by_cases e:i=id
  ·subst e
   simp only[]at h1;rw[cr (aJ hid)]at h1;cases h1;rcases J with g|g
   ·obtain ⟨Y, a2⟩ := g ae d
    refine⟨⟨o,hid,Y⟩,?_⟩;simp only[];rw[cr (by rw[hlen]; exact aJ hid),a2]
   ·obtain ⟨y, B, h4⟩ := q
    rw[hid]at B;cases B;cases hu:o.aH with
    |none=>rw[A hu]at d; cases d
    |some u=>have:=g ae d u hu; have:=h4 u hu; omega
  ·simp only [] at h1 ⊢
   rw[bH (Ne.symm e)]at h1;rw[bH (Ne.symm e)];exact⟨⟨x,h1,d⟩,rfl⟩
 X:=⟨rfl,rfl⟩
 rl:=fun _ _ h=>⟨h,fun _ hq=>hq⟩
 env:=M
theorem ar.ni{E:Env}{w':World}{id:Nat}{o o':af}{l:Option (Nat × Nat)}(H:ar E)(hid:E.H[id]? = some o)
  (B:E.w.heap.size≤w'.heap.size)
  (I:∀ x,x<E.w.heap.size→(∀ n,E.loc[id]? ≠ some (some (x,n)))→w'.heap[x]? = E.w.heap[x]?)
  (F:∀ b n,l=some (b,n)→(E.w.heap.size≤b∧b<w'.heap.size)∨∃ m,E.loc[id]? = some (some (b,m)))
  (N:(∀ v,o'.aH = some v→o.aH = some v∧E.loc[id]? = some l)∨(∀ v,o'.aH = some v→∀ u,o.aH = some u→u<v))
  (R:∀ v u,o'.aH = some v→o.aH = some u→u≤v) (M:o.aH = none→o'.aH = none)
  (ho:aO { w:=w',H:=E.H.set id o',loc:=E.loc.set id l,X:=E.X } id o') (O:dq E.w w':=by first|exact⟨rfl,rfl,rfl,by first|exact fun _=>aI _|exact fun _=>eL _ _⟩|assumption|exact Ext.env (by assumption))
  (hlab:o.label=none:=by first|rfl|assumption) (hlab':o'.label=none:=by first|rfl|assumption) :
  ar { w:=w',H:=E.H.set id o',loc:=E.loc.set id l,X:=E.X } where
 fc:=H.fc
 cD:=fun l k b m hk=>⟨dN (H.cD l k b m hk).1 B,(H.cD l k b m hk).2⟩
 dj:=by
  intro i b m l' k n hi hk;simp only[e_]at hi;split at hi
  ·split at hi
   ·simp at hi
    rcases F b m hi with h|⟨m',q⟩
    ·have:=(H.cD l' k b n hk).1; omega
    ·exact H.dj _ _ _ _ _ _ q hk
   ·cases hi
  ·exact H.dj _ _ _ _ _ _ hi hk
 uniq:=by
  have key:∀(i:Nat) o1 l1,(E.H.set id o')[i]? = some o1→o1.label=some l1→E.H[i]? = some o1:=by
   intro i o1 l1 hi U;rw[e_]at hi;split at hi
   ·split at hi
    ·cases hi
     rw[hlab']at U;cases U
    ·cases hi
   ·exact hi
  exact fun i j o1 o2 l1 hi d h1 W=>H.uniq i j o1 o2 l1 (key i o1 l1 hi h1) (key j o2 l1 d W) h1 W
 gT:=fun l1 hn=>H.gT l1 fun i o1 hi=>by
  by_cases e:i=id
  ·subst e
   rw[hid]at hi;cases hi;rw[hlab];exact fun h=>by cases h
  ·exact hn i o1 (by show (E.H.set id o')[i]? = _; rw[bH (Ne.symm e)]; exact hi)
 fb:=H.fb.bG (Env.la hid H.len B I (fun b n A=>(F b n A).imp (fun h=>h.1) (fun h=>h)) N R M O).toC
 len:=by simp[H.len]
 inj:=by
  intro i j b m n hi d;simp only[e_]at hi d;split at hi
  ·rename_i e1
   split at d
   ·rename_i Y; omega
   ·split at hi
    ·simp at hi
     rcases F b m hi with h|⟨m',q⟩
     ·have:=(H.lt j b n d).1; omega
     ·rw[←e1]; exact H.inj _ _ _ _ _ q d
    ·cases hi
  ·split at d
   ·rename_i Y
    split at d
    ·simp at d
     rcases F b n d with h|⟨m',q⟩
     ·have:=(H.lt i b m hi).1; omega
     ·rw[←Y]; exact H.inj _ _ _ _ _ hi q
    ·cases d
   ·exact H.inj i j b m n hi d
 lt:=by
  intro i b m hi;simp only[e_]at hi;split at hi
  ·split at hi
   ·simp at hi
    rcases F b m hi with h|⟨m',q⟩
    ·exact⟨h.2,fun hx=>by have:=H.X b hx; omega⟩
    ·exact⟨dN (H.lt _ _ _ q).1 B,(H.lt _ _ _ q).2⟩
   ·cases hi
  ·exact⟨dN (H.lt i b m hi).1 B,(H.lt i b m hi).2⟩
 X:=fun b A=>dN (H.X b A) B
 obj:=by
  intro i x hi;by_cases e:i=id
  ·subst e
   simp only[]at hi;rw[cr (aJ hid)]at hi;cases hi;exact ho
  ·have J := hi
   simp only[]at J;rw[bH (Ne.symm e)]at J;have hle:E.le { w:=w',H:=E.H.set id o',loc:=E.loc.set id l,X:=E.X } :=
    Env.la hid H.len B I (fun b n A=>(F b n A).imp (fun h=>h.1) (fun h=>h)) N R M O
   refine k_ (fun a _ hr=>cC hle a hr) ?_ ?_ ?_ (H.obj i x J)
   ·simp only []
    rw[bH (Ne.symm e)]
   ·intro b n A
    exact I b (H.lt i b n A).1 (fun m hm=>e (H.inj i id b n m A hm))
   ·exact fun l1 _=>⟨rfl,fun k g m hk=>I g (H.cD l1 k g m hk).1 (fun n hn=>H.dj id g n l1 k m hn hk)⟩
theorem ar.TF{E:Env}{w':World}{id l0:Nat}{o o':af}{r':Nat→List (Option (Option (Nat × Nat)))}(H:ar E)(hid:E.H[id]? = some o)(hlab:o.label=some l0)(U:o'.label=some l0)(W:o'.aH = o.aH)
  (M:E.w.heap.size≤w'.heap.size)
  (N:∀ x,x<E.w.heap.size→(∀ n,E.loc[id]? ≠ some (some (x,n)))→(∀(h m:Nat),(E.X.r l0)[h]? ≠ some (some (some (x,m))))→w'.heap[x]? = E.w.heap[x]?)
  (hr:∀ l,l≠l0→r' l=E.X.r l)
  (hnew:∀(h b m:Nat),(r' l0)[h]? = some (some (some (b,m)))→(E.X.r l0)[h]? = some (some (some (b,m)))∨(E.w.heap.size≤b∧b<w'.heap.size∧∀(h' m':Nat),(r' l0)[h']? = some (some (some (b,m')))→h'=h))
  (hrl:∀(h:Nat),h<(E.X.r l0).length→h<(r' l0).length∧∀ q,(r' l0)[h]? = some (some q)→(E.X.r l0)[h]? = some (some q))
  (ho:E.le { w:=w',H:=E.H.set id o',loc:=E.loc,X:=E.X.re r' }→aO { w:=w',H:=E.H.set id o',loc:=E.loc,X:=E.X.re r' } id o') (henv:dq E.w w') :
  ar { w:=w',H:=E.H.set id o',loc:=E.loc,X:=E.X.re r' }∧E.le { w:=w',H:=E.H.set id o',loc:=E.loc,X:=E.X.re r' }:=by
 have I:=aJ hid;have F:∀(l h b m:Nat),(r' l)[h]? = some (some (some (b,m)))→(E.X.r l)[h]? = some (some (some (b,m)))∨(l=l0∧E.w.heap.size≤b∧b<w'.heap.size∧∀(h' m':Nat),(r' l0)[h']? = some (some (some (b,m')))→h'=h):=fun l h b m hk=>by
  by_cases e:l=l0
  ·subst e
   rcases hnew h b m hk with h1|⟨h1,d,h3⟩
   ·exact .inl h1
   ·exact .inr ⟨rfl,h1,d,h3⟩
  ·rw [hr l e] at hk
   exact .inl hk
 have hle:E.le { w:=w',H:=E.H.set id o',loc:=E.loc,X:=E.X.re r' }:=by
  refine⟨fun i ae hp=>?_,M,fun x O Y=>N x O (fun n hn=>Y (.inl ⟨id,n,hn⟩)) fun h m hm=>Y (.inr ⟨l0,h,m,hm⟩),fun b B hno=>?_,fun i ae hp k=>?_,⟨rfl,rfl⟩,fun l h hh=>?_,henv⟩
  ·obtain ⟨x, h1, d⟩ := hp
   by_cases e:i=id
   ·subst e
    rw[hid]at h1;cases h1;exact⟨o',by simp only[]; rw[cr I],fun v hv=>d v (by rw[←W]; exact hv)⟩
   ·exact⟨x,by simp only[]; rw[bH (Ne.symm e)]; exact h1,d⟩
  ·rintro (⟨i, c, hi⟩ | ⟨l, h, m, hm⟩)
   ·exact hno (.inl ⟨i,c,hi⟩)
   ·rcases F l h b m hm with h1 | ⟨_, h1, _⟩
    ·exact hno (.inr ⟨l,h,m,h1⟩)
    ·omega
  ·obtain ⟨x, h1, d⟩ := k
   refine⟨?_,rfl⟩;simp only[]at h1;by_cases e:i=id
   ·subst e
    rw[cr I]at h1;cases h1;exact⟨o,hid,by rw[←W]; exact d⟩
   ·rw [bH (Ne.symm e)] at h1
    exact⟨x,h1,d⟩
  ·by_cases e : l = l0
   ·subst e
    exact hrl h hh
   ·show h < (r' l).length ∧ _
    rw[hr l e];exact⟨hh,fun _ A=>(by rw[show ({ w:=w',H:=E.H.set id o',loc:=E.loc,X:=E.X.re r' }:Env).X.r l=E.X.r l from hr l e]at A; exact A)⟩
 refine⟨⟨by simp[H.len],H.inj,fun i b m hi=>⟨dN (H.lt i b m hi).1 M,(H.lt i b m hi).2⟩,fun b B=>dN (H.X b B) M,fun i x hi=>?_,H.fb.bG hle.toC,fun l h l' h' b m n h1 d=>?_,fun i b m l h n hi hk=>?_,fun l h b m hk=>?_,fun i j x y l hi hj h1 d=>?_,fun l hn h q A=>?_⟩,hle⟩
 ·by_cases e : i = id
  ·subst e
   simp only[]at hi;rw[cr I]at hi;cases hi;exact ho hle
  ·simp only [] at hi
   rw[bH (Ne.symm e)]at hi;refine k_ (fun a _ hr=>cC hle a hr) rfl (fun b n B=>N b (H.lt i b n B).1 (fun m hm=>e (H.inj i id b n m B hm)) fun h m hm=>H.dj i b n l0 h m B hm) (fun l k=>?_) (H.obj i x hi);have J:l≠l0:=fun e2=>e (H.uniq i id x o l hi hid k (by rw[hlab,e2]));exact⟨hr l J,fun h g m hk=>N g (H.cD l h g m hk).1 (fun n hn=>H.dj id g n l h m hn hk) fun h' m' hk'=>J (H.fc l h l0 h' g m m' hk hk').1⟩
 ·rcases F l h b m h1 with g1 | ⟨rfl, g1, g2, g3⟩ <;> rcases F l' h' b n d with R | ⟨rfl, R, k2, k3⟩
  ·exact H.fc _ _ _ _ _ _ _ g1 R
  ·have:=(H.cD _ _ _ _ g1).1; omega
  ·have:=(H.cD _ _ _ _ R).1; omega
  ·exact⟨rfl,(g3 h' n d).symm⟩
 ·rcases F l h b n hk with g1 | ⟨rfl, g1, g2, g3⟩
  ·exact H.dj _ _ _ _ _ _ hi g1
  ·have:=(H.lt i b m hi).1; omega
 ·rcases F l h b m hk with g1 | ⟨rfl, g1, g2, g3⟩
  ·exact⟨dN (H.cD _ _ _ _ g1).1 M,(H.cD _ _ _ _ g1).2⟩
  ·exact⟨g2,fun O=>by have:=H.X b O; omega⟩
 ·have key:∀ (i:Nat) x,(E.H.set id o')[i]? = some x→x.label=some l→∃ y,E.H[i]? = some y∧y.label=some l:=by
   intro i x hi k;by_cases e:i=id
   ·subst e
    rw[cr I]at hi;cases hi;exact⟨o,hid,by rw[hlab,←U,k]⟩
   ·rw [bH (Ne.symm e)] at hi
    exact⟨x,hi,k⟩
  obtain⟨x',a1,a2⟩:=key i x hi h1;obtain⟨y',b1,b2⟩:=key j y hj d;exact H.uniq i j x' y' l a1 b1 a2 b2
 ·have J : l ≠ l0 := fun e => hn id o' (by show (E.H.set id o')[id]? = _; rw [cr I]) (by rw [U, e])
  have A:(r' l)[h]? = some (some q):=A;rw[hr l J]at A;refine H.gT l (fun i x hi k=>?_) h q A;by_cases e:i=id
  ·subst e
   rw[hid]at hi;cases hi;exact J (by rw[hlab]at k; cases k; rfl)
  ·exact hn i x (by show (E.H.set id o')[i]? = _; rw[bH (Ne.symm e)]; exact hi) k
def ig (r:Nat→List (Option (Option (Nat × Nat)))) (l0:Nat):Nat→List (Option (Option (Nat × Nat))):=fun l=>if l=l0 then r l++[some none] else r l
theorem CJ{r:Nat→List (Option (Option (Nat × Nat)))}{l0 l h:Nat}{q:Option (Option (Nat × Nat))}(d:(ig r l0 l)[h]? = some q):(r l)[h]? = some q∨(l=l0∧h=(r l).length∧q=some none):=by
 unfold ig at d;split at d
 ·rename_i e
  rw[gy]at d;split at d
  ·exact .inl d
  ·rename_i g
   right;cases hk:h-(r l).length with
   | zero =>
    rw[hk]at d;simp at d;exact⟨e,by omega,d.symm⟩
   |succ n=>rw[hk]at d; simp at d
 ·exact .inl d
theorem TG{r:Nat→List (Option (Option (Nat × Nat)))}{l0 l h:Nat}(d:h<(r l).length):(ig r l0 l)[h]? = (r l)[h]? := by
 unfold ig;split
 ·exact dz d
 ·rfl
theorem ar.TH{E:Env}{w':World}{o:af}{l:Option (Nat × Nat)}{l0:Nat}(H:ar E)(h:Ext E.w w')(J:∀ b n,l=some (b,n)→E.w.heap.size≤b∧b<w'.heap.size)(hlab:o.label=some l0)(N:∀(i:Nat) x,E.H[i]? = some x→x.label≠some l0)
  (ho:aO { w:=w',H:=E.H++[o],loc:=E.loc++[l],X:=E.X.re (ig E.X.r l0) } E.H.length o) :
  ar { w:=w',H:=E.H++[o],loc:=E.loc++[l],X:=E.X.re (ig E.X.r l0) }∧E.le { w:=w',H:=E.H++[o],loc:=E.loc++[l],X:=E.X.re (ig E.X.r l0) }:=by
 have O:∀(i:Nat) x,(E.H++[o])[i]? = some x→E.H[i]? = some x∨(i=E.H.length∧x=o):=fun i x hi=>by
  rw[gy]at hi;split at hi
  ·exact .inl hi
  ·right
   cases hk:i-E.H.length with
   |zero=>rw[hk]at hi; simp at hi; exact⟨by omega,hi.symm⟩
   |succ n=>rw[hk]at hi; simp at hi
 have F:∀(i:Nat) x,(E.loc++[l])[i]? = some x→E.loc[i]? = some x∨(i=E.loc.length∧x=l):=fun i x hi=>by
  rw[gy]at hi;split at hi
  ·exact .inl hi
  ·right
   cases hk:i-E.loc.length with
   |zero=>rw[hk]at hi; simp at hi; exact⟨by omega,hi.symm⟩
   |succ n=>rw[hk]at hi; simp at hi
 have B:∀(x k b m:Nat),(ig E.X.r l0 x)[k]? = some (some (some (b,m)))→(E.X.r x)[k]? = some (some (some (b,m))):=fun x k b m hk=>by
  rcases CJ hk with h1|⟨_,_,h1⟩
  ·exact h1
  ·cases h1
 have hle:E.le { w:=w',H:=E.H++[o],loc:=E.loc++[l],X:=E.X.re (ig E.X.r l0) }:=by
  refine⟨fun i ae R=>?_,h.size,fun b I _=>h.same b I,fun b hlt hno'=>?_,fun i ae R U=>?_,⟨rfl,rfl⟩,fun x k hk=>?_,h.env⟩
  ·obtain ⟨x, h1, d⟩ := R
   exact⟨x,by simp only[]; rw[dz (aJ h1)]; exact h1,d⟩
  ·rintro (⟨i, c, hi⟩ | ⟨x, k, m, hk⟩)
   ·rcases F i _ hi with h1 | ⟨_, h1⟩
    ·exact hno' (.inl ⟨i,c,h1⟩)
    ·have := J b c h1.symm
     omega
   ·exact hno' (.inr ⟨x,k,m,B x k b m hk⟩)
  ·obtain ⟨x, h1, d⟩ := R
   have hid:=aJ h1;obtain⟨y,A,W⟩:=U;simp only[]at A;rw[dz hid]at A;exact⟨⟨y,A,W⟩,by simp only[]; rw[dz (by rw[H.len]; exact hid)]⟩
  ·have hk':k<(ig E.X.r l0 x).length:=by
    unfold ig;split
    ·simp; omega
    ·exact hk
   refine⟨hk',fun q M=>?_⟩;have M:(ig E.X.r l0 x)[k]? = some (some q):=M
   rwa [TG hk]at M
 refine⟨⟨by simp[H.len],fun i j b m n hi Y=>?_,fun i b m hi=>?_,fun b I=>dN (H.X b I) h.size,fun i x hi=>?_,H.fb.bG hle.toC,fun x k x' k' b m n h1 d=>H.fc _ _ _ _ _ _ _ (B _ _ _ _ h1) (B _ _ _ _ d),fun i b m x k n hi hk=>?_,fun x k b m hk=>?_,fun i j x y l1 hi Y h1 d=>?_,fun l1 hn k q M=>?_⟩,hle⟩
 ·rcases F i _ hi with h1 | ⟨h1, d⟩ <;> rcases F j _ Y with A | ⟨A, W⟩
  ·exact H.inj _ _ _ _ _ h1 A
  ·have:=J b n W.symm; have:=(H.lt _ _ _ h1).1; omega
  ·have:=J b m d.symm; have:=(H.lt _ _ _ A).1; omega
  ·omega
 ·rcases F i _ hi with h1 | ⟨h1, d⟩
  ·exact⟨dN (H.lt _ _ _ h1).1 h.size,(H.lt _ _ _ h1).2⟩
  ·have A := J b m d.symm
   exact⟨A.2,fun hx=>by have:=H.X b hx; omega⟩
 ·rcases O i x hi with h1 | ⟨h1, d⟩
  ·refine k_ (fun a _ hr => cC hle a hr) (by simp only []; rw [dz (by rw [H.len]; exact aJ h1)]) (fun b n I => h.same b (H.lt i b n I).1) (fun l1 hl1 => ?_) (H.obj i x h1)
   have hne:l1≠l0:=fun e=>N i x h1 (by rw[hl1,e]);exact⟨if_neg hne,fun k g m hk=>h.same g (H.cD _ _ _ _ hk).1⟩
  ·subst h1 d
   exact ho
 ·rcases F i _ hi with h1 | ⟨h1, d⟩
  ·exact H.dj _ _ _ _ _ _ h1 (B _ _ _ _ hk)
  ·have:=J b m d.symm; have:=(H.cD _ _ _ _ (B _ _ _ _ hk)).1; omega
 ·have h1 := B _ _ _ _ hk
  exact⟨dN (H.cD _ _ _ _ h1).1 h.size,(H.cD _ _ _ _ h1).2⟩
 ·rcases O i x hi with g1 | ⟨g1, rfl⟩ <;> rcases O j y Y with g3 | ⟨g3, rfl⟩
  ·exact H.uniq i j x y l1 g1 g3 h1 d
  ·rw [hlab] at d
   cases d;exact(N i x g1 h1).elim
  ·rw [hlab] at h1
   cases h1;exact(N j y g3 d).elim
  ·omega
 ·rcases CJ (show (ig E.X.r l0 l1)[k]? = some (some q) from M) with g1 | ⟨g1, _⟩
  ·exact H.gT l1 (fun i x hi U=>hn i x (by simp only[]; rw[dz (aJ hi)]; exact hi) U) k q g1
  ·exact hn E.H.length o (by simp) (by rw[hlab,g1])
theorem Env.uW{E:Env}(H:ar E)(id:Nat):E.le { w:=E.w,H:=E.H.set id .dead,loc:=E.loc.set id none,X:=E.X }:=by
 rcases jZ id E.H.length with h|h
 ·exact Env.la (o:=E.H[id]) (by simp[h]) H.len (aI _) (fun _ _ _=>rfl) (fun _ _ h=>by cases h) (.inl (fun v h=>by simp[af.aH]at h))
   (fun v u h=>by simp[af.aH]at h) (fun _=>rfl)
 ·rw [IC h, IC (by rw [H.len]; exact h)]
  exact Env.le.refl E
theorem ar.drop{E:Env}(H:ar E)(id:Nat)(hlab:∀ o,E.H[id]? = some o→o.label=none):ar { w:=E.w,H:=E.H.set id .dead,loc:=E.loc.set id none,X:=E.X }:=by
 rcases jZ id E.H.length with h|h
 ·refine ar.ni (o:=E.H[id]) H (by simp [h]) (aI _) (fun _ _ _=>rfl) (fun _ _ h=>by cases h) (.inl (fun v h=>by simp [af.aH] at h))
   (fun v u h=>by simp[af.aH]at h) (fun _=>rfl) ?_ (hlab:=hlab _ (by simp[h]))
  simp only[aO];rw[cr (by rw[H.len]; exact h)]
 ·rw [IC h, IC (by rw [H.len]; exact h)]
  exact H
end Go.AL

namespace Go.AL
variable [Dr]
structure FK where
 off:Nat
 size:Nat
 agg:Bool
def qg:TypeDesc→Bool
 |.struct _ | .array _ _=>true
 |_=>false
def eo(P:Program)(t:TypeId):Option (Nat × Bool) :=
 match P.info? t,P.underlying t with
 |some i,some d=>some (i.size,qg d)
 |_,_=>none
def sn(P:Program)(t:TypeId)(f:Nat):Option FK :=
 match P.underlying t with
 | some (.struct d)=>match d[f]? with
  | some fd=>match eo P fd.type with
   |some (n,a)=>some ⟨fd.offset,n,a⟩
   |none=>none
  |none=>none
 |_=>none
def eF(P:Program)(t:TypeId):Option (List Value) :=
 match P.info? t with
 | some i=>match i.zero with
  |some z=>if z.cells.toList.all dB then some z.cells.toList else none
  |none=>none
 |none=>none
inductive SK where
 |slice (elem size bytes:Nat)
 |array (n elem size:Nat) (agg:Bool)
 |str
 |int (k:IntKind)
 |bool
 |other
def bY(P:Program)(t:TypeId):SK :=
 match P.underlying t with
 | some (.slice e)=>match P.info? e with
  |some i=>.slice e i.size i.bytes
  |none=>.other
 | some (.array n e)=>match eo P e with
  |some (m,a)=>.array n e m a
  |none=>.other
 |some .string=>.str
 |some (.int k)=>.int k
 |some .bool=>.bool
 |_=>.other
def AV.sq:Value→AV
 |.agg cs=>if cs.toList.all dB then .agg (cs.toList.map .lit) else .lit (.agg cs)
 |.tuple cs=>.tuple (cs.toList.map .lit)
 |v=>.lit v
abbrev AV.int(n:Int):AV:=.lit (.int .i64 n)
abbrev AV.bool(b:Bool):AV:=.lit (.bool b)
abbrev AV.str(s:ByteArray):AV:=.lit (.string s)
theorem oC{E:Env}:∀(l:List Value),ad E (l.map .lit) l
 | []=>by simp[ad]
 |v::l=>by simp[ad,rel,oC l]
theorem Jg(E:Env)(v:Value):rel E (AV.sq v) v:=by
 unfold AV.sq;split
 ·split
  ·rename_i cs h
   simp only[rel];exact⟨cs,rfl,dX.1 h,oC _⟩
  ·simp[rel]
 ·simp only [rel]
  exact⟨_,rfl,oC _⟩
 ·simp[rel]
structure St where
 fr:List AV
 H:List af
def St.eval(s:St):Operand→AV
 |.tmp t=>s.fr.getD t .undef
 |.const v=>AV.sq v
 |.global g=>.lit (.pointer (some ⟨g,0,none⟩))
 |.func f=>.clo f []
def jc(w:World)(X:XS)(l:List Deferred):Prop:=l.Nodup∧∀ d∈l,∃ D,d={ target:=.collected D,args:=#[] }∧w.heap[D]? = some (.deferred (some []))∧X D∧X.z D
theorem lb(w:World)(X:XS):jc w X []:=⟨List.nodup_nil,fun _ h=>by cases h⟩
theorem uX{w w':World}{X X':XS}{l:List Deferred}(h:jc w X l)(q:∀ b,X b→X.z b→X' b∧X'.z b)(A:∀ b,X b→X.z b→w'.heap[b]? = w.heap[b]?):jc w' X' l :=
 ⟨h.1,fun d B=>let ⟨D,e,h1,g,k⟩:=h.2 d B; ⟨D,e,by rw[A D g k]; exact h1,q D g k⟩⟩
theorem sr{E E':Env}(HE:ar E)(h:E.le E'){l:List Deferred}(hm:jc E.w E.X l):jc E'.w E'.X l :=
 uX hm (fun b h1 g=>⟨by rw[show E'.X.x=E.X.x from h.X.1]; exact h1,by rw[show E'.X.z=E.X.z from h.X.2]; exact g⟩) fun b d _=>h.same b (HE.X b d) (HE.j_ d)
structure bj (s:St) (E:Env) (a:Act):Prop where
 H:E.H=s.H
 fr:ad E s.fr a.tmps.toList
 defers:jc E.w E.X a.defers
 heap:ar E
theorem bj.eval{s:St}{E:Env}{a:Act}(h:bj s E a)(x:Operand):rel E (s.eval x) (a.eval x):=by
 cases x with
 | tmp t =>
  simp only[St.eval,Ci];obtain⟨h1,A⟩:=ng.1 h.fr;rcases jZ t s.fr.length with d|q
  ·have k : t < a.tmps.toList.length := h1 ▸ d
   have B:s.fr[t]? = some s.fr[t]:=by simp[d]
   have F:a.tmps.toList[t]? = some a.tmps.toList[t]:=bE k;have:=A t _ _ B F;simpa[cH,Array.getD_eq_getD_getElem?,d,show t<a.tmps.size by simpa using k]using this
  ·have : s.fr.getD t .undef = .undef := by simp [cH, rX q]
   rw[this];simp[rel]
 |const v=>exact Jg E v
 |global g=>simp[St.eval,Ci,rel]
 |func f=>simp only[St.eval,Ci,rel]; exact⟨#[],rfl,by simp[ad]⟩
def fM(agg:Bool)(n:Nat)(cells:List AV):Option AV :=
 if agg then (if n≤cells.length then some (.agg (cells.take n)) else none) else cells[0]?
def ka(k:SK)(x i:AV):Option AV :=
 match i with
 | .lit (.int _ n) =>
  match k,x with
  |.slice _ sz _,.list w rows=>if w=sz∧0≤n∧n<rows.length then (rows[n.toNat]?).map .cptr else none
  |.slice _ sz _,.listF ks rows=>if ks.length=sz∧0≤n∧n<rows.length then some (.cptr (aD ks (rows.getD n.toNat []))) else none
  |.slice _ sz _,.vec w id ae off m=>if w=sz∧0≤n∧n<m then some (.ptr id ae w (off+n.toNat) 0) else none
  |.array m _ sz _,.ptr id ae w row col=>if 0≤n∧n<m then some (.ptr id ae w row (col+n.toNat*sz)) else none
  |.array m _ sz _,.cptr cells=>if 0≤n∧n<m then some (.cptr ((cells.drop (n.toNat*sz)).take sz)) else none
  |_,_=>none
 |_=>none
def CK(k:FK)(x:AV):Option AV :=
 if k.size=0 then none else
 match x with
 |.cptr cells=>some (.cptr (cells.drop k.off))
 |.ptr id ae w row col=>some (.ptr id ae w row (col+k.off))
 |_=>none
def Jh(k:IntKind)(a b:Int):Int:=k.wrap (x5 k.bits a &&& x5 k.bits b).toNat
def Ji(k:IntKind)(a b:Int):Int:=k.wrap (x5 k.bits a ||| x5 k.bits b).toNat
def Jj(k:IntKind)(a b:Int):Int:=k.wrap (x5 k.bits a ^^^ x5 k.bits b).toNat
def CL(k:IntKind)(a b:Int):Int:=k.wrap (a*2 ^ min b.toNat k.bits)
def l8(k:IntKind)(a b:Int):Int:=a.fdiv (2 ^ min b.toNat k.bits)
def l9(op:BinOp)(k:IntKind)(a b:Int):Option Value :=
 match op with
 |.and=>some (.int k (Jh k a b))
 |.or=>some (.int k (Ji k a b))
 |.xor=>some (.int k (Jj k a b))
 |.add=>some (.int k (k.wrap (a+b)))
 |.sub=>some (.int k (k.wrap (a-b)))
 |.mul=>some (.int k (k.wrap (a*b)))
 |.quo=>if b=0 then none else some (.int k (k.wrap (a.tdiv b)))
 |.rem=>if b=0 then none else some (.int k (a.tmod b))
 |.eql=>some (.bool (a==b))
 |.neq=>some (.bool (a != b))
 |.lss=>some (.bool (a<b))
 |.leq=>some (.bool (a≤b))
 |.gtr=>some (.bool (a>b))
 |.geq=>some (.bool (a ≥ b))
 |_=>none
def CM(op:BinOp)(x y:ByteArray):Option Value :=
 match op with
 |.add=>if ((x.size+y.size:Nat):Int)>IntKind.i64.max then none else some (.string (x++y))
 |.eql=>some (.bool (x.toList==y.toList))
 |.neq=>some (.bool !(x.toList==y.toList))
 |.lss=>some (.bool (ID x.toList y.toList))
 |.leq=>some (.bool (ID x.toList y.toList||x.toList==y.toList))
 |.gtr=>some (.bool !(ID x.toList y.toList||x.toList==y.toList))
 |.geq=>some (.bool !(ID x.toList y.toList))
 |_=>none
def ij(op:BinOp):Value→Value→Option Value
 | .int k a,.int k' b=>match op with
  |.shl=>if b<0 then none else some (.int k (CL k a b))
  |.shr=>if b<0 then none else some (.int k (l8 k a b))
  |op=>if k=k' then l9 op k a b else none
 |.string a,.string b=>CM op a b
 |_,_=>none
def yy:AV→Option Nat
 |.lit (.string s)=>some s.size
 |.lit (.slice none 0 0)=>some 0
 |.nils=>some 0
 |.emptyS _=>some 0
 |.list _ rows=>some rows.length
 |.listF _ rows=>some rows.length
 |.vec _ _ _ _ n=>some n
 |_=>none
theorem Sem.bz{P:Program}{t:TypeId}{d:TypeDesc}(h:P.underlying t=some d)(w:World) :
  (underlying t).run P w=.ok d w:=by simp[underlying,h]
theorem Sem.run_sizeOf{P:Program}{t:TypeId}{i:TypeInfo}(h:P.info? t=some i)(w:World):(sizeOf t).run P w=.ok i.size w:=by
 simp[sizeOf,typeInfo,h]
theorem Sem.oD{P:Program}{t:TypeId}{d:TypeDesc}(h:P.underlying t=some d)(w:World):(isAgg t).run P w=.ok (qg d) w:=by
 simp[isAgg,Sem.bz h];cases d<;>rfl
theorem l_{P:Program}{t:TypeId}{n:Nat}{a:Bool}(h:eo P t=some (n,a)):∃ i d,P.info? t=some i∧P.underlying t=some d∧i.size=n∧qg d=a:=by
 unfold eo at h;split at h
 ·rename_i i d h1 g
  simp at h;exact⟨i,d,h1,g,h.1,h.2⟩
 ·cases h
theorem Jk{P:Program}{t:TypeId}{f:Nat}{k:FK}(h:sn P t f=some k) :
  ∃ d fd,P.underlying t=some (.struct d)∧d[f]? = some fd∧fd.offset=k.off∧eo P fd.type=some (k.size,k.agg):=by
 unfold sn at h;split at h
 ·rename_i d h1
  split at h
  ·rename_i fd g
   split at h
   ·rename_i n a q
    simp at h;subst h;exact⟨d,fd,h1,g,rfl,q⟩
   ·cases h
  ·cases h
 ·cases h
theorem TI{P:Program}(op:BinOp)(t:TypeId)(x y:Value)(v:Value)(h:ij op x y=some v)(w:World):(binOp op t x y).run P w=.ok v w:=by
 unfold ij at h;split at h
 ·rename_i k a k' b
  split at h
  ·split at h
   ·cases h
   ·rename_i d
    cases h;simp only[binOp,Op.shift,if_neg d,CL];rfl
  ·split at h
   ·cases h
   ·rename_i d
    cases h;simp only[binOp,Op.shift,if_neg d,l8];rfl
  ·rename_i g q
   split at h
   ·rename_i hk
    subst hk;cases op<;>first|exact absurd rfl g|exact absurd rfl q|skip
    all_goals simp[l9]at h
    all_goals simp[binOp,Op.intArith,Op.intDiv,Op.intCmp,Op.intBits]
    all_goals first
     |exact h
     |(obtain⟨h1,A⟩:=h; simp[h1,A])
   ·cases h
 ·rename_i a b
  cases op<;>simp only[CM]at h<;>(try split at h)<;>simp at h<;>simp only[binOp,Op.stringOp]<;>first
   |(subst h; simp; done)
   |(rename_i B; subst h; rw[if_neg B]; rfl)
 ·cases h
theorem TJ{P:Program}(op:BinOp)(t:TypeId)(x y:Operand)(a b:Value)(h:∀ v,ij op a b≠some v→True)(d:(ij op a b).isSome=true)(w:World) :
  (eqGuard op t x y a b).run P w=.ok () w:=by
 unfold ij at d;split at d
 ·cases op<;>simp[eqGuard]<;>rfl
 ·cases op<;>simp[eqGuard]<;>rfl
 ·cases d
theorem TK{E:Env}{x:AV}{c:Value}{n:Nat}(h:yy x=some n)(hr:rel E x c) :
  (∃ s,c=.string s∧s.size=n)∨∃ base cap,c=.slice base n cap:=by
 unfold yy at h;split at h
 ·simp only[rel]at hr; subst hr; simp at h; exact .inl ⟨_,rfl,h⟩
 ·simp only[rel]at hr; subst hr; simp at h; subst h; exact .inr ⟨_,_,rfl⟩
 ·simp only[rel]at hr; obtain⟨b,rfl⟩:=hr; simp at h; subst h; exact .inr ⟨_,_,rfl⟩
 ·simp only[rel]at hr; obtain⟨b,cap,rfl,_⟩:=hr; simp at h; subst h; exact .inr ⟨_,_,rfl⟩
 ·simp only[rel]at hr; obtain⟨_,b,cap,rfl,_⟩:=hr; simp at h; subst h; exact .inr ⟨_,_,rfl⟩
 ·simp only[rel,dC]at hr; obtain⟨b,cap,rfl,_⟩:=hr; simp at h; subst h; exact .inr ⟨_,_,rfl⟩
 ·simp only[rel]at hr; obtain⟨⟨b,cap,rfl,_⟩,_⟩:=hr; simp at h; subst h; exact .inr ⟨_,_,rfl⟩
 ·cases h
end Go.AL

namespace Go.AL
open Go
variable [Dr]
theorem ke(b o n:Nat):(Addr.mk b o none).add n=⟨b,o+n,none⟩:=by
 unfold Addr.add;split
 ·rename_i h; simp[h]
 ·rfl
theorem TL{E:Env}{as:List AV}{b o:Nat}(h:ca E as b o){i:Nat}{a:AV}(hi:as[i]? = some a) :
  ∃ v,E.w.cell? ⟨b,o+i,none⟩=some v∧dB v=true∧rel E a v:=jb.1 h i a hi
theorem su{E:Env}{as:List AV}{b o:Nat}(h:ca E as b o)(n:Nat):ca E (as.drop n) b (o+n):=by
 rw[jb]at *;intro i a hi;rw[rY]at hi;obtain⟨v,h1,d,g⟩:=h (n+i) a hi;exact⟨v,by rw[pX]; exact h1,d,g⟩
theorem yz{E:Env}{as:List AV}{b o:Nat}(h:ca E as b o)(n:Nat):ca E (as.take n) b o:=by
 rw[jb]at *;intro i a hi;rw[mT]at hi;split at hi
 ·exact h i a hi
 ·cases hi
theorem uY:∀(as:List AV) (n:Nat),AV.bf as=true→AV.bf (as.drop n)=true
 | [],n,_=>by simp[AV.bf]
 |a::as,0,h=>by simpa using h
 | a::as,n+1,h=>by
  simp only[AV.bf,aw]at h;simpa using uY as n h.2
theorem yA:∀(as:List AV) (n:Nat),AV.bf as=true→AV.bf (as.take n)=true
 | [],n,_=>by simp[AV.bf]
 |a::as,0,_=>by simp[AV.bf]
 | a::as,n+1,h=>by
  simp only[AV.bf,aw]at h;simp only[Cj,AV.bf,aw];exact⟨h.1,yA as n h.2⟩
theorem uZ{E:Env}:∀{as:List AV} {b o:Nat},ca E as b o →
  ∃ vs:List Value,ad E as vs∧(∀ x∈vs,dB x=true)∧∀ j v,vs[j]? = some v→E.w.cell? ⟨b,o+j,none⟩=some v
 | [],b,o,_=>⟨[],by simp[ad]⟩
 | a::as,b,o,h=>by
  simp only[ca]at h;obtain⟨⟨v,h1,k,q⟩,A⟩:=h;obtain⟨vs,g1,g2,g3⟩:=uZ A;refine⟨v::vs,by simp only[ad]; exact⟨q,g1⟩,?_,?_⟩
  ·intro x d
   rcases bI.1 d with rfl|d
   ·exact k
   ·exact g2 x d
  ·intro j x g
   cases j with
   |zero=>simp at g; subst g; exact h1
   |succ j=>have:=g3 j x (by simpa using g); rwa [pX,uH 1 j]at this
theorem CN{P:Program}{E:Env}{cells:List AV}{b o n:Nat}{agg:Bool}{t:TypeId}{v:AV}(A:eo P t=some (n,agg))
  (g:fM agg n cells=some v) (hr:ca E cells b o):∃ c,(loadVar t ⟨b,o,none⟩).run P E.w=.ok c E.w∧rel E v c:=by
 obtain⟨i,d,hi,k,B,q⟩:=l_ A;unfold fM at g;cases agg with
 | true =>
  simp only[if_true]at g;split at g
  ·rename_i hle
   cases g;obtain⟨vs,g1,g2,g3⟩:=uZ (yz hr n);have F:vs.length=n:=by rw[←fv g1]; simp[hle]
   refine⟨.agg vs.toArray,?_,?_⟩
   ·simp only [loadVar, cf, Sem.oD k, cB, q, if_true, Sem.run_sizeOf hi, B]
    rw[←F,run_loadCells_list (w:=E.w) ⟨b,o,none⟩ vs (fun j v I=>by rw[ke]; exact g3 j v I)];rfl
   ·simp only [rel]
    exact⟨vs.toArray,rfl,by simpa using g2,by simpa using g1⟩
  ·cases g
 | false =>
  simp only[mU,if_false]at g;obtain⟨x,h1,_,J⟩:=TL hr g;refine⟨x,?_,J⟩;simp only[loadVar,cf,Sem.oD k,cB,q,mU,if_false,run_load];rw[show (⟨b,o,none⟩:Addr)=⟨b,o+0,none⟩ from rfl,h1]
def fN(P:Program)(t:TypeId)(x:AV)(H:List af):Option AV :=
 match eo P t with
 | some (n,agg) =>
  match x with
  |.cptr cells=>fM agg n cells
  | .ptr id ae w row col=>match H[id]? with
   |some (.box cells)=>if ae=0∧row=0 then fM agg n (cells.drop col) else none
   |some (.vec k v rows)=>if ae=v∧k=w then (match rows[row]? with|some r=>fM agg n (r.drop col)|none=>none) else none
   |_=>none
  |_=>none
 |none=>none
theorem ma{E:Env}{k:Nat}{rs:List (List AV)}{b o:Nat}(h:cL E k rs b o){i:Nat}{r:List AV}(hi:rs[i]? = some r) :
  r.length=k∧ca E r b (o+i*k):=l6.1 h i r hi
theorem Jl{P:Program}{E:Env}(HE:ar E){t:TypeId}{x v:AV}{c:Value}(d:fN P t x E.H=some v)(hr:rel E x c) :
  ∃ u,(Ck t c).run P E.w=.ok u E.w∧rel E v u:=by
 unfold fN at d;split at d
 case h_2=>cases d
 rename_i n agg I;split at d
 ·simp only [rel] at hr
  obtain⟨_,b,o,rfl,_,N⟩:=hr;obtain⟨u,q,A⟩:=CN I d N;exact⟨u,by simpa[Ck,nZ]using q,A⟩
 ·rename_i id ae w row col
  simp only[rel]at hr;split at d
  ·rename_i cells hid
   split at d
   ·rename_i F
    obtain⟨rfl,rfl⟩:=F;obtain⟨b,m,J,rfl⟩:=hr.2.2 ⟨_,hid,rfl⟩;obtain⟨O,m',g,_,B⟩:=HE.obj id _ hid;rw[J]at g;cases g;have:=su B col;simp only[dO]at this;obtain⟨u,q,A⟩:=CN I d this;exact⟨u,by simpa[Ck,nZ]using q,A⟩
   ·cases d
  ·rename_i k R rows hid
   split at d
   ·rename_i F
    obtain⟨rfl,rfl⟩:=F;split at d
    ·rename_i r M
     obtain⟨b,m,J,rfl⟩:=hr.2.2 ⟨_,hid,rfl⟩;rcases HE.obj id _ hid with⟨g,B⟩|⟨O,m',g,_,_,_,B⟩
     ·subst B; simp at M
     ·rw [J] at g
      cases g;have:=su (ma B M).2 col;simp only[dO]at this;obtain⟨u,q,A⟩:=CN I d this;exact⟨u,by simpa[Ck,nZ]using q,A⟩
    ·cases d
   ·cases d
  ·cases d
 ·cases d
theorem TM{P:Program}{E:Env}{t:TypeId}{f:Nat}{k:FK}{x v:AV}{c:Value}(hk:sn P t f=some k)
  (g:CK k x=some v) (hr:rel E x c):∃ u,(SS t c f).run P E.w=.ok u E.w∧rel E v u:=by
 obtain⟨fs,fd,h1,B,J,M⟩:=Jk hk;obtain⟨i,d,hi,hd,N,ha⟩:=l_ M;unfold CK at g;split at g
 ·cases g
 rename_i F;have A:∀ b o w,(fieldPlace ⟨b,o,none⟩ fd).run P w=.ok ⟨b,o+k.off,none⟩ w:=by
  intro b o w;simp only[fieldPlace,cf,Sem.run_sizeOf hi,cB,N,if_neg F,gR,ke,J]
 split at g
 ·cases g
  simp only[rel]at hr;obtain⟨hc,b,o,rfl,aL,I⟩:=hr;refine⟨.pointer (some ⟨b,o+k.off,none⟩),?_,?_⟩
  ·simp[SS,Sem.bz h1,B,nZ,A]
  ·simp only [rel]
   exact⟨uY _ _ hc,b,o+k.off,rfl,aL,su I _⟩
 ·cases g
  simp only[rel]at hr;rename_i id ae w row col;obtain⟨⟨b,o,rfl⟩,O,R⟩:=hr;refine⟨.pointer (some ⟨b,o+k.off,none⟩),?_,?_⟩
  ·simp[SS,Sem.bz h1,B,nZ,A]
  ·simp only [rel]
   refine⟨⟨_,_,rfl⟩,O,fun U=>?_⟩;obtain⟨W,Y,e1,q⟩:=R U;simp only[aif,aT,IE]at q;exact⟨W,Y,e1,by simp[q.1,q.2.1,pX]⟩
 ·cases g
theorem gC{P:Program}{t e sz bK:Nat}(h:bY P t=.slice e sz bK):P.underlying t=some (.slice e)∧∃ i,P.info? e=some i∧i.size=sz∧i.bytes=bK:=by
 unfold bY at h;split at h
 ·rename_i e' h1
  split at h
  ·rename_i i d
   cases h;exact⟨h1,i,d,rfl,rfl⟩
  ·cases h
 ·split at h<;>cases h
 all_goals cases h
theorem yB{P:Program}{t n e sz:Nat}{a:Bool}(h:bY P t=.array n e sz a):P.underlying t=some (.array n e)∧eo P e=some (sz,a):=by
 unfold bY at h;split at h
 ·split at h<;>cases h
 ·rename_i g e' h1
  split at h
  ·rename_i m k d
   cases h;exact⟨h1,d⟩
  ·cases h
 all_goals cases h
theorem qh{P:Program}{t:Nat}(h:bY P t=.str):P.underlying t=some .string:=by
 unfold bY at h;split at h
 ·split at h<;>cases h
 ·split at h<;>cases h
 ·rename_i h1; exact h1
 all_goals cases h
theorem TN{P:Program}{E:Env}(HE:ar E){t:TypeId}{x i v:AV}{c d:Value}
  (g:ka (bY P t) x i=some v) (q:rel E x c) (hi:rel E i d):∃ u,(x6 t c d).run P E.w=.ok u E.w∧rel E v u:=by
 unfold ka at g;split at g
 case h_2=>cases g
 rename_i k n;simp only[rel]at hi;subst hi;split at g
 ·rename_i e sz bK w rows hk
  split at g
  ·rename_i hc
   obtain⟨rfl,h0,h1⟩:=hc;obtain⟨hu,ii,B,F,_⟩:=gC hk;cases A:rows[n.toNat]? with
   |none=>rw[A]at g; cases g
   | some r =>
    rw[A]at g;simp at g;subst g;simp only[rel]at q;obtain⟨M,base,cap,rfl,hle,U⟩:=q;rcases U with rfl|⟨b,o,rfl,aL,hr⟩
    ·simp at A
    ·obtain ⟨g1, g2⟩ := ma hr A
     refine⟨.pointer (some ⟨b,o+n.toNat*w,none⟩),?_,?_⟩
     ·simp[x6,asIntOf,Sem.bz hu,h0,h1,Sem.run_sizeOf B,F,ke]
     ·simp only [rel]
      exact⟨M r (fK A),b,_,rfl,aL,g2⟩
  ·cases g
 ·rename_i e sz bK ks rows hk
  split at g
  ·rename_i hc
   obtain⟨rfl,h0,h1⟩:=hc;cases g;obtain⟨hu,ii,B,F,_⟩:=gC hk;have q:=jI.1 q;simp only[rel,bF]at q;obtain⟨M,base,cap,rfl,hle,U⟩:=q;have hlt:n.toNat<rows.length:=by omega
   have A:(rows.map (aD ks))[n.toNat]? = some (aD ks (rows.getD n.toNat [])):=by
    rw[cq,cH,bE hlt];rfl
   rcases U with hn|⟨b,o,rfl,aL,hr⟩
   ·rw[hn]at A; simp at A
   ·obtain ⟨g1, g2⟩ := ma hr A
    refine⟨.pointer (some ⟨b,o+n.toNat*ks.length,none⟩),?_,?_⟩
    ·simp[x6,asIntOf,Sem.bz hu,h0,h1,Sem.run_sizeOf B,F,ke]
    ·simp only [rel]
     exact⟨fL _ _,b,_,rfl,aL,g2⟩
  ·cases g
 ·rename_i e sz bK w id ae off m hk
  split at g
  ·rename_i hc
   obtain⟨rfl,h0,h1⟩:=hc;cases g;obtain⟨hu,ii,B,F,_⟩:=gC hk;simp only[rel]at q;obtain⟨⟨base,cap,rfl,hle,hb⟩,N,I⟩:=q;obtain⟨b,o,rfl⟩:=hb (by omega);refine⟨.pointer (some ⟨b,o+n.toNat*w,none⟩),?_,?_⟩
   ·simp[x6,asIntOf,Sem.bz hu,h0,h1,Sem.run_sizeOf B,F,ke]
   ·simp only [rel]
    refine⟨⟨_,_,rfl⟩,N,fun W=>?_⟩;obtain⟨g1,g2⟩:=I W;obtain⟨a,ha,hav⟩:=N;cases J:E.loc[id]? with
    | none =>
     have:=aJ ha;rw[←HE.len]at this;rw[bE this]at J;cases J
    | some l =>
     cases l with
     |none=>have:=(g1 J).1; omega
     | some bm =>
      obtain⟨O,m'⟩:=bm;obtain⟨q1,o',q2,Y⟩:=g2 O m' J;simp only[j0,aT,IE]at Y;refine⟨O,m',rfl,?_⟩;rw[Y.1.1,Y.1.2.1,q2 (by omega),fq];rfl
  ·cases g
 ·rename_i m e sz a id ae w row col hk
  split at g
  ·rename_i hc
   cases g;obtain⟨hu,R⟩:=yB hk;obtain⟨ii,dd,B,F,h4,_⟩:=l_ R;simp only[rel]at q;obtain⟨⟨b,o,rfl⟩,N,I⟩:=q;refine⟨.pointer (some ⟨b,o+n.toNat*sz,none⟩),?_,?_⟩
   ·simp[x6,asIntOf,Sem.bz hu,hc.1,hc.2,Sem.run_sizeOf B,h4,ke,nZ]
   ·simp only [rel]
    refine⟨⟨_,_,rfl⟩,N,fun W=>?_⟩;obtain⟨O,n',e1,e2⟩:=I W;simp only[aif,aT,IE]at e2;exact⟨O,n',e1,by simp[e2.1,e2.2.1,pX]⟩
  ·cases g
 ·rename_i m e sz a cells hk
  split at g
  ·rename_i hc
   cases g;obtain⟨hu,R⟩:=yB hk;obtain⟨ii,dd,B,F,h4,_⟩:=l_ R;simp only[rel]at q;obtain⟨M,b,o,rfl,aL,I⟩:=q;refine⟨.pointer (some ⟨b,o+n.toNat*sz,none⟩),?_,?_⟩
   ·simp[x6,asIntOf,Sem.bz hu,hc.1,hc.2,Sem.run_sizeOf B,h4,ke,nZ]
   ·simp only [rel]
    exact⟨yA _ _ (uY _ _ M),b,_,rfl,aL,yz (su I _) _⟩
  ·cases g
 ·cases g
def kg:AV→Option Int
 |.lit (.int _ n)=>some n
 |_=>none
def gf(len:Nat)(lo hi:Option AV):Option (Nat × Nat) :=
 match (match lo with|none=>some 0|some x=>kg x),(match hi with|none=>some (len:Int)|some x=>kg x)with
 |some l,some h=>if 0≤l∧l≤h∧h≤len then some (l.toNat,h.toNat) else none
 |_,_=>none
theorem sv{E:Env}{x:AV}{c:Value}{n:Int}(h:kg x=some n)(hr:rel E x c):∃ k,c=.int k n:=by
 unfold kg at h;split at h
 ·cases h
  simp only[rel]at hr;exact⟨_,hr⟩
 ·cases h
def Jm:List AV→Option (List G)
 | [.lit (.string s)]=>some [.s s]
 |_=>none
def sw:List (List AV)→Option (List (List G))
 | []=>some []
 | r::rs=>match Jm r,sw rs with
  |some g,some gs=>some (g::gs)
  |_,_=>none
theorem CO:∀{rows:List (List AV)} {gs:List (List G)},sw rows=some gs→gs.map (aD [.str])=rows
 | [],gs,h=>by
  simp only[sw,aT]at h;subst h;rfl
 | r::rs,gs,h=>by
  simp only[sw]at h;split at h
  ·rename_i g k h1 d
   cases h;rw[dA,CO d];unfold Jm at h1;split at h1
   ·cases h1; rfl
   ·cases h1
  ·cases h
def yC(w:Nat)(rows:List (List AV))(l n:Nat):AV:=match w,sw rows with
 |1,some gs=>.listF [.str] ((gs.drop l).take n)
 |_,_=>.list w ((rows.drop l).take n)
theorem TO{E:Env}{w l n:Nat}{rows:List (List AV)}{c:Value} (h:rel E (.list w ((rows.drop l).take n)) c):rel E (yC w rows l n) c:=by
 unfold yC;split
 ·rename_i gs d
  rw[jI,SU,IF,CO d];exact h
 ·exact h
def lf(P:Program)(t:TypeId)(x:AV)(lo hi mx:Option AV):Option AV :=
 match bY P t,x with
 | .str,.lit (.string s)=>match mx,gf s.size lo hi with
  |none,some (l,h)=>some (.lit (.string (s.extract l h)))
  |_,_=>none
 | .slice _ sz _,.list w rows=>match mx with
  | none=>match gf rows.length lo hi with
   |some (l,h)=>if w=sz then some (yC w rows l (h-l)) else none
   |none=>none
  |some m=>if hi.isSome∧gf rows.length lo hi=some (0,0)∧kg m=some 0 then some .nils else none
 | .slice _ sz _,.listF ks rows=>match mx with
  | none=>match gf rows.length lo hi with
   |some (l,h)=>if ks.length=sz then some (.listF ks ((rows.drop l).take (h-l))) else none
   |none=>none
  |some m=>if hi.isSome∧gf rows.length lo hi=some (0,0)∧kg m=some 0 then some .nils else none
 | .slice _ sz _,.vec w id ae off n=>match mx with
  | none=>match gf n lo hi with
   |some (l,h)=>if w=sz then some (.vec w id ae (off+l) (h-l)) else none
   |none=>none
  |some m=>if hi.isSome∧gf n lo hi=some (0,0)∧kg m=some 0 then some .nils else none
 | .slice _ _ _,.nils=>match mx with
  |none=>if (gf 0 lo hi).isSome then some .nils else none
  |some _=>none
 | .slice _ _ _,.lit (.slice none 0 0)=>match mx with
  |none=>if (gf 0 lo hi).isSome then some (.lit (.slice none 0 0)) else none
  |some m=>if hi.isSome∧gf 0 lo hi=some (0,0)∧kg m=some 0 then some (.lit (.slice none 0 0)) else none
 |_,_=>none
theorem sx{P:Program}{E:Env}{len cap:Nat}{lo hi:Option AV}{clo q:Option Value}{l h:Nat}(isSlice:Bool)(d:gf len lo hi=some (l,h))(hle:len≤cap)
  (h1:∀ x,lo=some x→∃ c,clo=some c∧rel E x c) (B:lo=none→clo=none)
  (J:∀ x,hi=some x→∃ c,q=some c∧rel E x c) (I:hi=none→q=none) (w:World) :
  (rZ isSlice len cap clo q none).run P w=.ok (l,h,cap) w∧l≤h∧h≤len:=by
 unfold gf at d;split at d
 case h_2=>cases d
 rename_i a b g A;split at d
 case isFalse=>cases d
 rename_i hc;simp only[aT,aZ]at d;obtain⟨rfl,rfl⟩:=d;obtain⟨F,c1,c2⟩:=hc;refine⟨?_,by omega,by omega⟩;cases hi with
 | none =>
  rw[I rfl];simp at A;subst A;cases lo with
  | none =>
   rw[B rfl];simp at g;subst g;simp[rZ]
  | some x =>
   obtain⟨c,rfl,hc⟩:=h1 x rfl;obtain⟨k,rfl⟩:=sv g hc;simp[rZ,Cl,asIntOf,F,c1]
 | some z =>
  obtain⟨c,rfl,hc⟩:=J z rfl;obtain⟨k,rfl⟩:=sv A hc;have g1:b≤(cap:Int):=by omega
  have g2:0≤b:=by omega
  cases lo with
  | none =>
   rw[B rfl];simp at g;subst g;simp[rZ,Cl,asIntOf,g1,g2]
  | some x =>
   obtain⟨c,rfl,hc⟩:=h1 x rfl;obtain⟨k',rfl⟩:=sv g hc;have g4:¬ (max b 0<a):=by omega
   simp[rZ,Cl,asIntOf,g1,g2,F,g4]
theorem Jn{E:Env}{k:Nat}{rows:List (List AV)}{b o:Nat}(h:cL E k rows b o)(l n:Nat) :
  cL E k ((rows.drop l).take n) b (o+l*k):=by
 rw[l6]at *;intro i r hi;rw[mT]at hi;split at hi
 ·rw [rY] at hi
  have:=h (l+i) r hi
  rwa [fq,←pX]at this
 ·cases hi
def oE(E:Env):Option AV→Option Value→Prop
 |none,none=>True
 |some x,some c=>rel E x c
 |_,_=>False
theorem CP{E:Env}{lo:Option AV}{clo:Option Value}(h:oE E lo clo):(∀ x,lo=some x→∃ c,clo=some c∧rel E x c)∧(lo=none→clo=none):=by
 cases lo<;>cases clo<;>simp_all[oE]
theorem Jo{E:Env}{w l h cap:Nat}{rows:List (List AV)}{base:Option Addr}(d:fa rows)(hle:rows.length≤cap)(h1:l≤h)(g:h≤rows.length)
  (k:rows=[]∨∃ b o,base=some ⟨b,o,none⟩∧E.ic b∧cL E w rows b o) :
  rel E (.list w ((rows.drop l).take (h-l))) (.slice (if cap=l then base else base.map (·.add (l*w))) (h-l) (cap-l)):=by
 simp only[rel];have hlen:((rows.drop l).take (h-l)).length=h-l:=by simp; omega
 refine⟨fun r hr=>d r (x7 (uI hr)),_,cap-l,by rw[hlen],by rw[hlen]; omega,?_⟩;rcases Nat.eq_or_lt_of_le h1 with rfl|q
 ·left; simp
 ·right
  rcases k with rfl|⟨b,o,rfl,aL,hr⟩
  ·simp at g; omega
  ·refine ⟨b, o + l * w, ?_, aL, Jn hr l (h - l)⟩
   rw[if_neg (by omega)];simp[ke]
theorem TP{E:Env}{w id ae off n l h:Nat}{base:Option Addr}{cap:Nat}(hr:rel E (.vec w id ae off n) (.slice base n cap))(h1:l≤h)(R:h≤n) :
  rel E (.vec w id ae (off+l) (h-l)) (.slice (if cap=l then base else base.map (·.add (l*w))) (h-l) (cap-l)):=by
 simp only[rel]at hr⊢;obtain⟨⟨k,O,e,hle,A⟩,B,F⟩:=hr;simp only[j0]at e;obtain⟨rfl,_,rfl⟩:=e;refine⟨⟨_,_,rfl,by omega,fun U=>?_⟩,B,fun I=>?_⟩
 ·obtain ⟨b, o, rfl⟩ := A (by omega)
  rw[if_neg (by omega)];exact⟨b,o+l*w,by simp[ke]⟩
 ·obtain ⟨g1, g2⟩ := F I
  refine⟨fun d=>?_,fun b m d=>?_⟩
  ·obtain ⟨rfl, rfl, k, e⟩ := g1 d
   simp only[j0]at e;refine⟨by omega,by omega,?_⟩;have J:h-l=0:=by omega
   have M:cap-l=0:=by omega
   rw[J,M];exact⟨_,rfl⟩
  ·obtain ⟨W, o, N, g⟩ := g2 b m d
   simp only[j0]at g;obtain⟨rfl,_,rfl⟩:=g;refine⟨by omega,?_⟩;by_cases hc:m-off=l
   ·rw [if_pos hc]
    exact⟨o,fun q=>by omega,by rw[aih]⟩
   ·rw [if_neg hc]
    refine⟨o+l*w,fun q=>?_,by simp[ke,aih]⟩;rw[N (by omega),fq]
theorem yD{P:Program}{E:Env}{len:Nat}{lo hi:Option AV}{m:AV}{clo g:Option Value}{q:Value}
  (d:gf len lo hi=some (0,0)) (I:hi.isSome=true) (hm:kg m=some 0)
  (h1:∀ x,lo=some x→∃ c,clo=some c∧rel E x c) (A:lo=none→clo=none)
  (J:∀ x,hi=some x→∃ c,g=some c∧rel E x c) (B:rel E m q) (cap:Nat) (w:World) :
  (rZ true len cap clo g (some q)).run P w=.ok (0,0,0) w:=by
 obtain⟨k,rfl⟩:=sv hm B;obtain⟨z,rfl⟩:=n_.1 I;obtain⟨c,rfl,hc⟩:=J z rfl;unfold gf at d;split at d
 case h_2=>cases d
 rename_i a b M N;split at d
 case isFalse=>cases d
 rename_i R;simp only[aT,aZ]at d;obtain⟨k',rfl⟩:=sv N hc;have O:a=0:=by omega
 have F:b=0:=by omega
 subst O; subst F;cases lo with
 | none =>
  rw[A rfl];simp[rZ,Cl,asIntOf]
 | some x =>
  obtain⟨c,rfl,hc⟩:=h1 x rfl;obtain⟨U,rfl⟩:=sv M hc;simp[rZ,Cl,asIntOf]
theorem TQ{P:Program}{E:Env}{t:TypeId}{x v:AV}{lo hi mx:Option AV}{c:Value}{clo R U:Option Value}
  (d:lf P t x lo hi mx=some v) (q:rel E x c) (W:oE E lo clo) (Y:oE E hi R) (hmx:oE E mx U) :
  ∃ u,(mV t c clo R U).run P E.w=.ok u E.w∧rel E v u:=by
 obtain⟨l1,A⟩:=CP W;obtain⟨l2,B⟩:=CP Y;obtain⟨J,F⟩:=CP hmx;unfold lf at d;split at d
 ·rename_i s hk
  have hu:=qh hk;simp only[rel]at q;subst q;split at d
  ·rename_i l h k
   cases d;rw[F rfl];obtain⟨g1,g2,g3⟩:=sx (P:=P) (E:=E) (cap:=s.size) false k (aI _) l1 A l2 B E.w;refine⟨.string (s.extract l h),?_,by simp[rel]⟩;simp[mV,oa,Sem.bz hu,g1]
  ·cases d
 ·rename_i e sz bK w rows hk
  obtain⟨hu,ii,i1,i2,_⟩:=gC hk;have I:=q;simp only[rel]at q;obtain⟨M,base,cap,rfl,hle,N⟩:=q;split at d
  ·split at d
   ·rename_i l h k
    split at d
    ·rename_i hw
     subst hw;cases d;rw[F rfl];obtain⟨g1,g2,g3⟩:=sx (P:=P) (E:=E) (cap:=cap) true k hle l1 A l2 B E.w;refine⟨_,?_,TO (Jo (cap:=cap) M hle g2 g3 N)⟩;simp[mV,oa,Sem.bz hu,g1,Sem.run_sizeOf i1,i2]
    ·cases d
   ·cases d
  ·rename_i m
   split at d
   ·rename_i hc
    cases d;obtain⟨O,rfl,hm⟩:=J m rfl;have g:=yD (P:=P) hc.2.1 hc.1 hc.2.2 l1 A l2 hm cap E.w;refine⟨.slice base 0 0,?_,by simp only[rel]; exact⟨base,rfl⟩⟩;simp[mV,oa,Sem.bz hu,g,Sem.run_sizeOf i1,i2]
   ·cases d
 ·rename_i e sz bK ks rows hk
  obtain⟨hu,ii,i1,i2,_⟩:=gC hk;have I:=jI.1 q;simp only[rel]at I;obtain⟨M,base,cap,rfl,hle,N⟩:=I;simp only[bF]at hle q⊢;split at d
  ·split at d
   ·rename_i l h k
    split at d
    ·rename_i hw
     subst hw;cases d;rw[F rfl];obtain⟨g1,g2,g3⟩:=sx (P:=P) (E:=E) (cap:=cap) true k hle l1 A l2 B E.w;have:=Jo (cap:=cap) M (by simpa using hle) g2 (by simpa using g3) N;have e:((rows.map (aD ks)).drop l).take (h-l)=((rows.drop l).take (h-l)).map (aD ks):=by rw[SU,IF]
     rw[e]at this;refine⟨_,?_,jI.2 this⟩;simp[mV,oa,Sem.bz hu,g1,Sem.run_sizeOf i1,i2]
    ·cases d
   ·cases d
  ·rename_i m
   split at d
   ·rename_i hc
    cases d;obtain⟨O,rfl,hm⟩:=J m rfl;have g:=yD (P:=P) hc.2.1 hc.1 hc.2.2 l1 A l2 hm cap E.w;refine⟨.slice base 0 0,?_,by simp only[rel]; exact⟨base,rfl⟩⟩;simp[mV,oa,Sem.bz hu,g,Sem.run_sizeOf i1,i2]
   ·cases d
 ·rename_i e sz bK w id ae off n hk
  obtain⟨hu,ii,i1,i2,_⟩:=gC hk;have I:=q;simp only[rel]at q;obtain⟨⟨base,cap,rfl,hle,_⟩,_,_⟩:=q;split at d
  ·split at d
   ·rename_i l h k
    split at d
    ·rename_i hw
     subst hw;cases d;rw[F rfl];obtain⟨g1,g2,g3⟩:=sx (P:=P) (E:=E) (cap:=cap) true k hle l1 A l2 B E.w;refine⟨_,?_,TP I g2 g3⟩;simp[mV,oa,Sem.bz hu,g1,Sem.run_sizeOf i1,i2]
    ·cases d
   ·cases d
  ·rename_i m
   split at d
   ·rename_i hc
    cases d;obtain⟨O,rfl,hm⟩:=J m rfl;have g:=yD (P:=P) hc.2.1 hc.1 hc.2.2 l1 A l2 hm cap E.w;refine⟨.slice base 0 0,?_,by simp only[rel]; exact⟨base,rfl⟩⟩;simp[mV,oa,Sem.bz hu,g,Sem.run_sizeOf i1,i2]
   ·cases d
 ·rename_i e sz bK hk
  obtain⟨hu,ii,i1,i2,_⟩:=gC hk;simp only[rel]at q;obtain⟨base,rfl⟩:=q;split at d
  ·split at d
   ·rename_i k
    cases d;obtain⟨⟨l,h⟩,k⟩:=n_.1 k;rw[F rfl];obtain⟨g1,g2,g3⟩:=sx (P:=P) (E:=E) (cap:=0) true k (aI _) l1 A l2 B E.w;have:h=0:=by omega
    subst this;have:l=0:=by omega
    subst this;refine⟨.slice base 0 0,?_,by simp only[rel]; exact⟨base,rfl⟩⟩;simp[mV,oa,Sem.bz hu,g1,Sem.run_sizeOf i1,i2]
   ·cases d
  ·cases d
 ·rename_i e sz bK hk
  obtain⟨hu,ii,i1,i2,_⟩:=gC hk;simp only[rel]at q;subst q;split at d
  ·split at d
   ·rename_i k
    cases d;obtain⟨⟨l,h⟩,k⟩:=n_.1 k;rw[F rfl];obtain⟨g1,g2,g3⟩:=sx (P:=P) (E:=E) (cap:=0) true k (aI _) l1 A l2 B E.w;have:h=0:=by omega
    subst this;have:l=0:=by omega
    subst this;refine⟨.slice none 0 0,?_,by simp only[rel]⟩;simp[mV,oa,Sem.bz hu,g1,Sem.run_sizeOf i1,i2]
   ·cases d
  ·rename_i m
   split at d
   ·rename_i hc
    cases d;obtain⟨O,rfl,hm⟩:=J m rfl;have g:=yD (P:=P) hc.2.1 hc.1 hc.2.2 l1 A l2 hm 0 E.w;refine⟨.slice none 0 0,?_,by simp only[rel]⟩;simp[mV,oa,Sem.bz hu,g,Sem.run_sizeOf i1,i2]
   ·cases d
 ·cases d
end Go.AL

namespace Go.AL
open Go
variable [Dr]
def kindOk:SK→Value→Bool
 |.int k,.int k' _=>k=k'
 |.str,.string _=>true
 |.bool,.bool _=>true
 |_,_=>false
def oF:Value→Value→Bool
 |.int _ a,.int _ b=>a==b
 |.string a,.string b=>a.toList==b.toList
 |.bool a,.bool b=>a==b
 |_,_=>false
def dJ:List Value→List Value→Bool
 | [],[]=>true
 |a::as,b::d=>oF a b&&dJ as d
 |_,_=>false
def cM:List SK→List Value→Bool
 | [],[]=>true
 |k::ks,v::vs=>kindOk k v&&cM ks vs
 |_,_=>false
def sA(P:Program)(f:TypeId→Option (List SK)):List Field→Nat→Option (List SK)
 | [],_=>some []
 | x::d,off=>if x.name = "_" ∨ x.offset≠off then none else
  match f x.type,eo P x.type with
  |some ks,some (n,_)=>if n=ks.length then (match sA P f d (off+n)with|some l=>some (ks++l)|none=>none) else none
  |_,_=>none
def flatK(P:Program):Nat→TypeId→Option (List SK)
 |0,_=>none
 | d+1,t=>match P.underlying t with
  |some (.int k)=>some [.int k]
  |some .string=>some [.str]
  |some .bool=>some [.bool]
  |some (.struct g)=>if P.stoodInHeld t then none else sA P (fun t=>flatK P d t) g.toList 0
  |_=>none
abbrev u9(P:Program)(d:Nat)(g:List Field)(off:Nat):Option (List SK):=sA P (fun t=>flatK P d t) g off
theorem Jp:∀(a b c d:List Value),a.length=c.length→dJ (a++b) (c++d)=(dJ a c&&dJ b d)
 | [],b,[],d,_=>by simp[dJ]
 | x::a,b,y::c,d,h=>by
  simp only[ob,dJ,Jp a b c d (by simpa using h),aii]
 | [],_,_::_,_,h=>by simp at h
 |_::_,_,[],_,h=>by simp at h
theorem sB:∀{ks:List SK} {vs:List Value},cM ks vs=true→ks.length=vs.length
 | [],[],_=>rfl
 |_::ks,_::vs,h=>by simp only[cM,aw]at h; simp[sB h.2]
 | [],_::_,h=>by simp[cM]at h
 |_::_,[],h=>by simp[cM]at h
theorem yE:∀{a b:List SK} {vs:List Value},cM (a++b) vs=true→cM a (vs.take a.length)=true∧cM b (vs.drop a.length)=true
 | [],b,vs,h=>by simpa[cM]using h
 |k::a,b,[],h=>by simp[cM]at h
 | k::a,b,v::vs,h=>by
  simp only[ob,cM,aw]at h;have:=yE h.2;simp only[di,Cj,cM,aw,aij];exact⟨⟨h.1,this.1⟩,this.2⟩
def isVal(P:Program)(t:TypeId)(x:Value)(vs:List Value):Prop :=
 match P.underlying t with
 |some (.struct _)=>∃ a:Array Value,x=.agg a∧a.toList=vs
 |_=>vs=[x]
theorem CQ{P:Program}{t:TypeId}{n:Nat}{agg:Bool}{ks:List SK}{d:Nat}(q:eo P t=some (n,agg))(hk:flatK P d t=some ks)(hn:n=ks.length)
  (cs:Array Value) (off:Nat) (aL:cM ks ((cs.toList.drop off).take n)=true) (w:World) :
  ∃ x,(part t cs off).run P w=.ok x w∧isVal P t x ((cs.toList.drop off).take n):=by
 obtain⟨i,d',h1,g,A,B⟩:=l_ q;cases d with
 |zero=>simp[flatK]at hk
 | succ d =>
  unfold flatK at hk;rw[g]at hk;have hlen:=sB aL;cases d' with
  | struct F =>
   refine⟨.agg (cs.extract off (off+n)),?_,?_⟩
   ·simp[part,Sem.oD g,qg,Sem.run_sizeOf h1,A]
   ·simp only [isVal, g]
    refine⟨_,rfl,?_⟩;simp
  | int k =>
   simp at hk;subst hk;simp at hn;subst hn;have:off<cs.size:=by simp at hlen; omega
   refine⟨cs[off],?_,?_⟩
   ·simp[part,Sem.oD g,qg,this]
   ·simp[isVal,g,SV,this]
  | string =>
   simp at hk;subst hk;simp at hn;subst hn;have:off<cs.size:=by simp at hlen; omega
   refine⟨cs[off],?_,?_⟩
   ·simp[part,Sem.oD g,qg,this]
   ·simp[isVal,g,SV,this]
  | bool =>
   simp at hk;subst hk;simp at hn;subst hn;have:off<cs.size:=by simp at hlen; omega
   refine⟨cs[off],?_,?_⟩
   ·simp[part,Sem.oD g,qg,this]
   ·simp[isVal,g,SV,this]
  |_=>simp at hk
theorem TR{P:Program}{t:TypeId}{d:Array Field}(h:P.underlying t=some (.struct d)):P.underlying t=some (.struct (P.fieldsOf t)):=by
 simp[aik,h]
mutual
theorem CR{P:Program}:∀(d:Nat) (t:TypeId) (ks:List SK),flatK P d t=some ks→∀(D:Nat),d≤D→∀(x y:Value) (vs us:List Value),
  isVal P t x vs→isVal P t y us→cM ks vs=true→cM ks us=true→∀ w,(kS D t x y).run P w=.ok (dJ vs us) w
 |0,_,_,hk=>by simp[flatK]at hk
 | d+1,t,ks,hk=>by
  intro D hD x y vs us q A g ky w;obtain⟨D,rfl⟩:∃ F,D=F+1:=⟨D-1,by omega⟩
  unfold flatK at hk;cases hu:P.underlying t with
  |none=>rw[hu]at hk; cases hk
  | some I =>
   rw[hu]at hk;cases I with
   | struct B =>
    simp only[]at hk;split at hk
    ·cases hk
    rename_i J;simp only[isVal,hu]at q A;obtain⟨a,rfl,rfl⟩:=q;obtain⟨b,rfl,rfl⟩:=A;have M:P.fieldsOf t=B:=by simp[aik,hu]
    rw[run_equalIn_struct w D t a b (TR hu) (by simpa using J),M];have:=Jq d B.toList 0 ks hk D (by omega) a b (by simpa using g) (by simpa using ky) w;simpa using this
   | int k =>
    simp at hk;subst hk;simp only[isVal,hu]at q A;subst q; subst A;simp only[cM,dZ]at g ky;unfold kindOk at g ky;split at g<;>split at ky<;>simp_all[kS,dJ,oF,Sem.bz hu]
   | string =>
    simp at hk;subst hk;simp only[isVal,hu]at q A;subst q; subst A;simp only[cM,dZ]at g ky;unfold kindOk at g ky;split at g<;>split at ky<;>simp_all[kS,dJ,oF,Sem.bz hu,beq_toListBytes]
   | bool =>
    simp at hk;subst hk;simp only[isVal,hu]at q A;subst q; subst A;simp only[cM,dZ]at g ky;unfold kindOk at g ky;split at g<;>split at ky<;>simp_all[kS,dJ,oF,Sem.bz hu]
   |_=>simp at hk
theorem Jq{P:Program}:∀(d:Nat) (B:List Field) (off:Nat) (ks:List SK),u9 P d B off=some ks→∀(D:Nat),d≤D→∀(xs g:Array Value),
  cM ks (xs.toList.drop off)=true→cM ks (g.toList.drop off)=true→∀ w,(SX D xs g B).run P w=.ok (dJ (xs.toList.drop off) (g.toList.drop off)) w
 | d,[],off,ks,hk=>by
  intro D hD xs g M ky w;simp[u9,sA]at hk;subst hk;have h1:=sB M;have W:=sB ky;have k:xs.toList.drop off=[]:=uJ (by rw[←h1]; rfl);have F:g.toList.drop off=[]:=uJ (by rw[←W]; rfl);rw[k,F];simp[SX,dJ]
 | d,f::B,off,ks,hk=>by
  intro D hD xs g M ky w;unfold u9 sA at hk;split at hk
  ·cases hk
  rename_i hc;split at hk
  case h_2=>cases hk
  rename_i Y n ag k F;split at hk
  case isFalse=>cases hk
  rename_i hn;split at hk
  case h_2=>cases hk
  rename_i l e3;cases hk;have O:f.name ≠ "_" := fun e=>hc (.inl e);have U:f.offset=off:=by
   by_cases e:f.offset=off
   ·exact e
   ·exact(hc (.inr e)).elim
  obtain⟨q,I⟩:=yE M;obtain⟨A,J⟩:=yE ky;rw[←hn]at q I A J;obtain⟨x,px,vx⟩:=CQ F k hn xs off q w;obtain⟨y,py,vy⟩:=CQ F k hn g off A w;have he:=CR d f.type Y k D hD x y _ _ vx vy q A w;have R:=Jq d B (off+n) l e3 D hD xs g (by rw[pZ]at I; exact I) (by rw[pZ]at J; exact J) w;have N:dJ (xs.toList.drop off) (g.toList.drop off) =
    (dJ ((xs.toList.drop off).take n) ((g.toList.drop off).take n)&&dJ (xs.toList.drop (off+n)) (g.toList.drop (off+n))):=by
   rw[←Jp _ _ _ _ (by rw[←sB q,←sB A]),←pZ,←pZ,uK,uK]
  simp only[SX,O,ne_eq,not_false_eq_true,if_true,cf,U,px,py,cB,he,N];cases dJ ((xs.toList.drop off).take n) ((g.toList.drop off).take n)<;>simp[R]
end
def nj:List AV→Option (List Value)
 | []=>some []
 | .lit v::as=>match nj as with
  |some l=>some (v::l)
  |none=>none
 |_=>none
theorem yF{E:Env}:∀{as:List AV} {l vs:List Value},nj as=some l→ad E as vs→vs=l
 | [],l,[],h,_=>by simp[nj]at h; exact h.symm
 | [],_,_::_,_,hr=>by simp[ad]at hr
 |_::_,_,[],_,hr=>by simp[ad]at hr
 | a::as,l,v::vs,h,hr=>by
  simp only[ad]at hr;cases a<;>simp only[nj]at h<;>try cases h
  split at h
  ·rename_i u l' d
   cases h;have:=yF d hr.2;have h1:=hr.1;simp only[rel]at h1;rw[h1,this]
  ·cases h
def nk:Option TypeDesc→Bool
 |some (.struct _)=>true
 |_=>false
def kh(op:BinOp)(b:Bool):Option AV :=
 match op with
 |.eql=>some (.bool b)
 |.neq=>some (.bool !b)
 |_=>none
def nl:Nat:=6
def CS(P:Program)(op:BinOp)(t:TypeId)(d:Bool)(a b:Value):Option AV :=
 match a,b with
 | .bool a,.bool b=>match P.underlying t with
  |some .bool=>kh op (a==b)
  |_=>none
 | .slice none 0 0,.slice none 0 0=>match P.underlying t with
  |some (.slice _)=>kh op true
  |_=>none
 |.nilIface,.nilIface=>if d then (match P.underlying t with|some (.interface _)=>kh op true|_=>none) else none
 |_,_=>none
def gD(P:Program)(op:BinOp)(t:TypeId)(d:Bool)(x y:AV):Option AV :=
 match x,y with
 | .lit a,.lit b=>match ij op a b with
  |some v=>some (.lit v)
  |none=>CS P op t d a b
 | .agg as,.agg g=>match flatK P nl t,nj as,nj g with
  |some ks,some l,some m=>if P.eqGuardType P.depth t=false∧cM ks l=true∧cM ks m=true∧nk (P.underlying t)=true then kh op (dJ l m) else none
  |_,_,_=>none
 | .emptyS n,.lit (.slice none 0 0)=>match P.underlying t with
  |some (.slice _)=>kh op n
  |_=>none
 | .listF _ rows,.lit (.slice none 0 0)=>match P.underlying t with
  |some (.slice _)=>if 0<rows.length then kh op false else none
  |_=>none
 | .vec _ _ _ _ m,.lit (.slice none 0 0)=>match P.underlying t with
  |some (.slice _)=>if 0<m then kh op false else none
  |_=>none
 | .ifc,.lit .nilIface | .lit .nilIface,.ifc=>match P.underlying t with
  |some (.interface _)=>kh op false
  |_=>none
 |_,_=>none
theorem Jr{P:Program}{t:Nat}{k:IntKind}(h:bY P t=.int k):P.underlying t=some (.int k):=by
 unfold bY at h;split at h
 ·split at h<;>cases h
 ·split at h<;>cases h
 ·cases h
 ·rename_i h1; cases h; exact h1
 ·cases h
 ·cases h
theorem nm{P:Program}{op:BinOp}{b:Bool}{v:AV}{t:TypeId}{x y:Operand}{c d:Value}{w:World}(h:kh op b=some v)
  (g:(eqGuard op t x y c d).run P w=.ok () w) (he:(x8 t c d).run P w=.ok b w)
  (k:∀ op,op=.eql∨op=.neq→(binOp op t c d)=(match op with | .eql=>(do pure (.bool (← x8 t c d)))|_=>(do pure (.bool (!(← x8 t c d)))))) :
  ∃ u,(do eqGuard op t x y c d; binOp op t c d:Sem Value).run P w=.ok u w∧∀ E,rel E v u:=by
 unfold kh at h;split at h
 ·cases h
  refine⟨.bool b,?_,fun E=>by simp[rel]⟩;simp only[cf,g,cB,k .eql (.inl rfl)];simp[he]
 ·cases h
  refine⟨.bool !b,?_,fun E=>by simp[rel]⟩;simp only[cf,g,cB,k .neq (.inr rfl)];simp[he]
 ·cases h
end Go.AL

namespace Go.AL
open Go
variable [Dr]
theorem oG{P:Program}{t:TypeId}{c d:Value}{b:Bool}{w:World} (h:∀ n,(kS (n+1) t c d).run P w=.ok b w) :
  (x8 t c d).run P w=.ok b w:=h 9999
theorem TS{P:Program}{op:BinOp}{t:TypeId}{x y:Operand} (h:((x matches .const _)||(y matches .const _))=true) (w:World) :
  (eqGuard op t x y .nilIface .nilIface).run P w=.ok () w:=by
 cases x<;>cases y<;>first
  |(cases op<;>rfl)
  |(simp at h; done)
theorem TT{P:Program}{E:Env}{op:BinOp}{t:TypeId}{x y:Operand}{p q:Value}{v:AV}{k:Bool}
  (A:k=true→((x matches .const _)||(y matches .const _))=true) (h:CS P op t k p q=some v) :
  ∃ u,(do eqGuard op t x y p q; binOp op t p q:Sem Value).run P E.w=.ok u E.w∧rel E v u:=by
 unfold CS at h;split at h
 ·rename_i a b
  split at h
  ·rename_i hu
   obtain⟨u,h1,g⟩:=nm (P:=P) (t:=t) (x:=x) (y:=y) (c:=.bool a) (d:=.bool b) (w:=E.w) h (by cases op<;>simp[eqGuard]<;>rfl)
    (oG fun n=>by simp[kS,Sem.bz hu]) (by rintro op (rfl|rfl)<;>rfl)
   exact⟨u,h1,g E⟩
  ·cases h
 ·split at h
  ·rename_i hu
   obtain⟨u,h1,g⟩:=nm (P:=P) (t:=t) (x:=x) (y:=y) (c:=.slice none 0 0) (d:=.slice none 0 0) (w:=E.w) h (by cases op<;>simp[eqGuard]<;>rfl)
    (oG fun n=>by simp[kS,Sem.bz hu]) (by rintro op (rfl|rfl)<;>rfl)
   exact⟨u,h1,g E⟩
  ·cases h
 ·split at h
  ·rename_i hc
   split at h
   ·rename_i ms hu
    obtain⟨u,h1,g⟩:=nm (P:=P) (t:=t) (x:=x) (y:=y) (c:=.nilIface) (d:=.nilIface) (w:=E.w) h
     (TS (A hc) _)
     (oG fun n=>by simp[kS,Sem.bz hu]) (by rintro op (rfl|rfl)<;>rfl)
    exact⟨u,h1,g E⟩
   ·cases h
  ·cases h
 ·cases h
theorem TU{P:Program}{E:Env}{op:BinOp}{t:TypeId}{x y:Operand}{a b v:AV}{c d:Value}
  {O:Bool} (R:O=true→((x matches .const _)||(y matches .const _))=true) (h:gD P op t O a b=some v) (g:rel E a c) (k:rel E b d) :
  ∃ u,(do eqGuard op t x y c d; binOp op t c d:Sem Value).run P E.w=.ok u E.w∧rel E v u:=by
 unfold gD at h;split at h
 ·rename_i p q
  simp only[rel]at g k;rw[g,k];clear g k c d;split at h
  ·rename_i u hu
   cases h;refine⟨u,?_,by simp[rel]⟩;simp only[cf];rw[TJ op t x y p q (fun _ _=>trivial) (by simp[hu])];simp only[cB];exact TI op t p q u hu E.w
  ·exact TT R h
 ·rename_i as bs
  split at h
  case h_2=>cases h
  rename_i ks l m h1 A U;by_cases hc:P.eqGuardType P.depth t=false∧cM ks l=true∧cM ks m=true∧nk (P.underlying t)=true
  case neg=>rw[if_neg hc]at h; cases h
  rw[if_pos hc]at h;obtain⟨g1,g2,g3,g4⟩:=hc;simp only[rel]at g k;obtain⟨xs,rfl,_,g⟩:=g;obtain⟨F,rfl,_,k⟩:=k;have ex:=yF A g;have W:=yF U k;unfold nk at g4;split at g4
  case h_2=>cases g4
  rename_i fs hu;have:=CR nl t ks h1 10000 (by decide) (.agg xs) (.agg F) l m (by simp only[isVal,hu]; exact⟨xs,rfl,ex⟩)
   (by simp only[isVal,hu]; exact⟨F,rfl,W⟩) g2 g3 E.w
  obtain⟨u,Y,q2⟩:=nm (P:=P) (t:=t) (x:=x) (y:=y) (c:=.agg xs) (d:=.agg F) (w:=E.w) h (run_eqGuard_agg E.w op t x y xs F g1)
   (by simpa[x8,Op.maxDepth]using this) (by rintro op (rfl|rfl)<;>rfl)
  exact⟨u,Y,q2 E⟩
 ·simp only [rel] at g k
  subst k;obtain⟨b,cap,rfl,B⟩:=g;split at h
  ·rename_i el hu
   obtain⟨u,h1,A⟩:=nm (P:=P) (t:=t) (x:=x) (y:=y) (c:=.slice b 0 cap) (d:=.slice none 0 0) (w:=E.w) h (by cases op<;>simp[eqGuard]<;>rfl)
    (oG fun n=>by cases b<;>simp[kS,Sem.bz hu]<;>simpa using B.symm) (by rintro op (rfl|rfl)<;>rfl)
   exact⟨u,h1,A E⟩
  ·cases h
 ·rename_i ks rows
  simp only[rel,dC,G.rows]at g k;subst k;obtain⟨b,cap,rfl,_,B⟩:=g;split at h
  ·rename_i el hu
   split at h
   ·rename_i I
    rcases B with rfl|⟨J,o',rfl,_⟩
    ·simp at I
    obtain⟨u,h1,A⟩:=nm (P:=P) (t:=t) (x:=x) (y:=y) (c:=.slice (some ⟨J,o',none⟩) rows.length cap) (d:=.slice none 0 0) (w:=E.w) h (by cases op<;>simp[eqGuard]<;>rfl)
     (oG fun n=>by simp[kS,Sem.bz hu]) (by rintro op (rfl|rfl)<;>rfl)
    exact⟨u,h1,A E⟩
   ·cases h
  ·cases h
 ·rename_i m
  simp only[rel]at g k;subst k;obtain⟨⟨b,cap,rfl,_,B⟩,_⟩:=g;split at h
  ·rename_i el hu
   split at h
   ·rename_i I
    obtain⟨J,o',rfl⟩:=B I;obtain⟨u,h1,A⟩:=nm (P:=P) (t:=t) (x:=x) (y:=y) (c:=.slice (some ⟨J,o',none⟩) m cap) (d:=.slice none 0 0) (w:=E.w) h (by cases op<;>simp[eqGuard]<;>rfl)
     (oG fun n=>by simp[kS,Sem.bz hu]) (by rintro op (rfl|rfl)<;>rfl)
    exact⟨u,h1,A E⟩
   ·cases h
  ·cases h
 ·simp only [rel] at g k
  subst k;obtain⟨M,N,rfl⟩:=g;split at h
  ·rename_i ms hu
   obtain⟨u,h1,A⟩:=nm (P:=P) (t:=t) (x:=x) (y:=y) (c:=.iface M N) (d:=.nilIface) (w:=E.w) h (by cases op<;>simp[eqGuard]<;>rfl)
    (oG fun n=>by simp[kS,Sem.bz hu]) (by rintro op (rfl|rfl)<;>rfl)
   exact⟨u,h1,A E⟩
  ·cases h
 ·simp only [rel] at g k
  subst g;obtain⟨M,N,rfl⟩:=k;split at h
  ·rename_i ms hu
   obtain⟨u,h1,A⟩:=nm (P:=P) (t:=t) (x:=x) (y:=y) (c:=.nilIface) (d:=.iface M N) (w:=E.w) h (by cases op<;>simp[eqGuard]<;>rfl)
    (oG fun n=>by simp[kS,Sem.bz hu]) (by rintro op (rfl|rfl)<;>rfl)
   exact⟨u,h1,A E⟩
  ·cases h
 ·cases h
def sC(op:UnOp)(x:AV):Option AV :=
 match op,x with
 |.not,.lit (.bool b)=>some (.bool !b)
 |.neg,.lit (.int k n)=>some (.lit (.int k (k.wrap (0-n))))
 |_,_=>none
theorem TV{P:Program}{E:Env}{op:UnOp}{x v:AV}{c:Value}(h:sC op x=some v)(d:rel E x c) :
  ∃ u,(Op.unary op c).run P E.w=.ok u E.w∧rel E v u:=by
 unfold sC at h;split at h
 ·cases h
  simp only[rel]at d;subst d;exact⟨_,rfl,by simp[rel]⟩
 ·cases h
  simp only[rel]at d;subst d;exact⟨_,rfl,by simp[rel]⟩
 ·cases h
def sD(P:Program)(s d:TypeId)(x:AV):Option AV :=
 match P.underlying s,bY P d,x with
 |some _,.int k,.lit (.int _ n)=>some (.lit (.int k (k.wrap n)))
 |some _,.str,.lit (.string b)=>some (.str b)
 |some _,.str,.lit (.int _ n)=>some (.str (Utf8.encode n))
 |_,_,_=>none
theorem TW{P:Program}{E:Env}{s d:TypeId}{x v:AV}{c:Value}(h:sD P s d x=some v)(g:rel E x c) :
  ∃ u,(convert s d c).run P E.w=.ok u E.w∧rel E v u:=by
 unfold sD at h;split at h
 ·rename_i k n q A
  cases h;simp only[rel]at g;subst g;refine⟨_,?_,by simp only[rel]; rfl⟩;simp[convert,Sem.bz q,Sem.bz (Jr A),Conv.intToInt]
 ·rename_i b q A
  cases h;simp only[rel]at g;subst g;refine⟨_,?_,by simp only[rel]; rfl⟩;simp only[convert,cf,Sem.bz q,Sem.bz (qh A),cB];rfl
 ·rename_i k n q A
  cases h;simp only[rel]at g;subst g;refine⟨_,?_,by simp only[rel]; rfl⟩;simp only[convert,cf,Sem.bz q,Sem.bz (qh A),cB];rfl
 ·cases h
def oH(k:SK)(x i:AV):Option AV :=
 match i with
 | .lit (.int _ n) =>
  match k,x with
  |.str,.lit (.string s)=>if 0≤n∧n<s.size then (match s[n.toNat]? with|some b=>some (.lit (.int .u8 b.toNat))|none=>none) else none
  |.array m _ sz agg,.agg cells=>if 0≤n∧n<m then fM agg sz (cells.drop (n.toNat*sz)) else none
  |_,_=>none
 |_=>none
theorem CT{E:Env}:∀{as:List AV} {vs:List Value} (n:Nat),ad E as vs→ad E (as.drop n) (vs.drop n)
 |_,_,0,h=>by simpa using h
 | [],[],n+1,_=>by simp[ad]
 | [],_::_,_,h=>by simp[ad]at h
 |_::_,[],_,h=>by simp[ad]at h
 |a::as,v::vs,n+1,h=>by simp only[ad]at h; simpa using CT n h.2
theorem CU{E:Env}:∀{as:List AV} {vs:List Value} (n:Nat),ad E as vs→ad E (as.take n) (vs.take n)
 |_,_,0,_=>by simp[ad]
 | [],[],n+1,_=>by simp[ad]
 | [],_::_,_,h=>by simp[ad]at h
 |_::_,[],_,h=>by simp[ad]at h
 |a::as,v::vs,n+1,h=>by simp only[ad]at h; simp only[Cj,ad]; exact⟨h.1,CU n h.2⟩
theorem jd{E:Env}:∀{as d:List AV} {vs us:List Value},ad E as vs→ad E d us→ad E (as++d) (vs++us)
 | [],_,[],_,_,h=>by simpa using h
 | [],_,_::_,_,h,_=>by simp[ad]at h
 |_::_,_,[],_,h,_=>by simp[ad]at h
 |a::as,d,v::vs,us,h,h'=>by simp only[ad]at h; simp only[ob,ad]; exact⟨h.1,jd h.2 h'⟩
theorem np{E:Env}{as:List AV}{vs:List Value}(h:ad E as vs){i:Nat}{a:AV}(hi:as[i]? = some a):∃ v,vs[i]? = some v∧rel E a v:=by
 obtain⟨h1,k⟩:=ng.1 h;have g:=aJ hi;have d:i<vs.length:=h1▸g;exact⟨vs[i],bE d,k i a _ hi (bE d)⟩
theorem Js{P:Program}{E:Env}{t:TypeId}{n:Nat}{agg:Bool}{cells:List AV}{cs:Array Value}{off:Nat}{v:AV}(A:eo P t=some (n,agg))
  (h:fM agg n (cells.drop off)=some v) (hr:ad E cells cs.toList) (h1:∀ x∈cs.toList,dB x=true) :
  ∃ u,(part t cs off).run P E.w=.ok u E.w∧rel E v u:=by
 obtain⟨i,d,hi,g,B,k⟩:=l_ A;unfold fM at h;cases agg with
 | true =>
  simp only[if_true]at h;split at h
  ·cases h
   refine⟨.agg (cs.extract off (off+n)),?_,?_⟩
   ·simp[part,Sem.oD g,k,Sem.run_sizeOf hi,B]
   ·simp only [rel]
    have e:(cs.extract off (off+n)).toList=(cs.toList.drop off).take n:=by simp
    refine⟨_,rfl,?_,?_⟩
    ·rw[e]; exact fun x F=>h1 x (x7 (uI F))
    ·rw[e]; exact CU n (CT off hr)
  ·cases h
 | false =>
  simp only[mU,if_false]at h;rw[rY]at h;obtain⟨u,g1,g2⟩:=np hr h;refine⟨u,?_,g2⟩;have q:cs[off]? = some u:=by simpa using g1
  simp[part,Sem.oD g,k,q]
theorem TX{P:Program}{E:Env}{t:TypeId}{x i v:AV}{c d:Value}(h:oH (bY P t) x i=some v)(g:rel E x c)(hi:rel E i d) :
  ∃ u,(SY t c d).run P E.w=.ok u E.w∧rel E v u:=by
 unfold oH at h;split at h
 case h_2=>cases h
 rename_i k n;simp only[rel]at hi;subst hi;split at h
 ·rename_i s hk
  have hu:=qh hk;simp only[rel]at g;subst g;split at h
  case isFalse=>cases h
  rename_i hc;split at h
  case h_2=>cases h
  rename_i b A;cases h;refine⟨.int .u8 b.toNat,?_,by simp[rel]⟩;simp[SY,asIntOf,Sem.bz hu,hc.1,A]
 ·rename_i m e sz agg cells hk
  obtain⟨hu,q⟩:=yB hk;obtain⟨ii,dd,g1,g2,g3,g4⟩:=l_ q;split at h
  case isFalse=>cases h
  rename_i hc;simp only[rel]at g;obtain⟨cs,rfl,h1,B⟩:=g;obtain⟨u,F,I⟩:=Js q h B h1;refine⟨u,?_,I⟩;simp[SY,asIntOf,Sem.bz hu,hc.1,hc.2,Sem.run_sizeOf g1,g3,F]
 ·cases h
def CV(k:FK)(x:AV):Option AV :=
 match x with
 |.agg cells=>fM k.agg k.size (cells.drop k.off)
 |_=>none
theorem TY{P:Program}{E:Env}{t:TypeId}{f:Nat}{k:FK}{x v:AV}{c:Value}(hk:sn P t f=some k)(h:CV k x=some v)(d:rel E x c) :
  ∃ u,(ail t c f).run P E.w=.ok u E.w∧rel E v u:=by
 obtain⟨I,fd,h1,g,q,A⟩:=Jk hk;unfold CV at h;split at h
 ·simp only [rel] at d
  obtain⟨cs,rfl,g1,g2⟩:=d;obtain⟨u,B,F⟩:=Js A h g2 g1;refine⟨u,?_,F⟩;simp[ail,Sem.bz h1,g,asAgg,q,B]
 ·cases h
end Go.AL

namespace Go.AL
open Go
variable [Dr]
def qi:AV→Option (List AV)
 |.undef | .tuple _=>none
 |.agg cs=>some cs
 |.lit v=>if dB v then some [.lit v] else none
 |x=>some [x]
theorem CW{E:Env}{x:AV}{cs:List AV}{c:Value}(h:qi x=some cs)(hr:rel E x c) :
  ad E cs c.cells.toList∧∀ y∈c.cells.toList,dB y=true:=by
 unfold qi at h;split at h
 ·cases h
 ·cases h
 ·cases h
  simp only[rel]at hr;obtain⟨a,rfl,h1,d⟩:=hr;exact⟨d,h1⟩
 ·rename_i v
  split at h
  ·rename_i h1
   cases h;have A:=hr;simp only[rel]at hr;subst hr;cases c<;>simp[dB]at h1<;>exact⟨by simp[IG,ad,rel],by simp[IG,dB]⟩
  ·cases h
 ·rename_i h1 d k q
  cases h;have g:dB c=true∧c.cells=#[c]:=by
   cases x<;>simp only[rel]at hr
   case undef=>exact(h1 rfl).elim
   case lit v=>exact(q v rfl).elim
   case nils=>obtain⟨b,rfl⟩:=hr; exact⟨rfl,rfl⟩
   case list=>obtain⟨_,b,cap,rfl,_⟩:=hr; exact⟨rfl,rfl⟩
   case listF=>simp only[dC]at hr; obtain⟨b,cap,rfl,_⟩:=hr; exact⟨rfl,rfl⟩
   case agg as=>exact(k as rfl).elim
   case tuple as=>exact(d as rfl).elim
   case cptr=>obtain⟨_,b,o,rfl,_⟩:=hr; exact⟨rfl,rfl⟩
   case ptr=>obtain⟨⟨b,o,rfl⟩,_⟩:=hr; exact⟨rfl,rfl⟩
   case vec=>obtain⟨⟨b,o,rfl,_⟩,_⟩:=hr; exact⟨rfl,rfl⟩
   case map=>obtain⟨⟨b,rfl⟩,_⟩:=hr; exact⟨rfl,rfl⟩
   case clo=>obtain⟨cs,rfl,_⟩:=hr; exact⟨rfl,rfl⟩
   case ifc=>obtain⟨t,v,rfl⟩:=hr; exact⟨rfl,rfl⟩
   case emptyS=>obtain⟨b,cap,rfl,_⟩:=hr; exact⟨rfl,rfl⟩
  rw[g.2];exact⟨by simp only[ad]; exact⟨hr,trivial⟩,by simpa using g.1⟩
def qj(place:Nat→Option (Nat × Nat))(cells:List AV):List (Nat × AV)→Option (List AV)
 | []=>some cells
 | (i,v)::rest=>match place i,qi v with
  |some (off,size),some cs=>if cs.length=size∧off+cs.length≤cells.length then qj place (cells.take off++cs++cells.drop (off+cs.length)) rest else none
  |_,_=>none
theorem Jt(cs:Array Value):∀(l:List Value) (off k:Nat) (cells:Array Value),off+k+l.length≤cells.size →
  (l.zipIdx k).foldl (fun cs (p : Value × Nat) => cs.setIfInBounds (off + p.2) p.1) cells =
   (cells.toList.take (off+k)++l++cells.toList.drop (off+k+l.length)).toArray
 | [],off,k,cells,_=>by simp
 | v::l,off,k,cells,h=>by
  simp only[List.zipIdx_cons,List.foldl_cons];have h':off+(k+1)+l.length≤(cells.setIfInBounds (off+k) v).size:=by simp at h⊢; omega
  rw[Jt cs l off (k+1) _ h'];congr 1;apply mW;intro i;simp only[Array.toList_setIfInBounds,gy,iX,Cm,mT,rY,e_,fD,di,kT];simp at h;by_cases c1:i<off+k
  ·have d : i < min (off + k) cells.size := by omega
   have g:i<min (off+(k+1)) cells.size:=by omega
   have F:¬ off+k=i:=by omega
   have A:i<off+(k+1):=by omega
   have q:i<min (off+k) cells.size+(l.length+1):=by omega
   have B:i<min (off+(k+1)) cells.size+l.length:=by omega
   simp[d,g,F,A,q,B,c1]
  ·by_cases c2 : i = off + k
   ·subst c2
    have d:¬ off+k<min (off+k) cells.size:=by omega
    have g:off+k<min (off+(k+1)) cells.size:=by omega
    have A:off+k<off+(k+1):=by omega
    have q:off+k<min (off+k) cells.size+(l.length+1):=by omega
    have B:off+k<min (off+(k+1)) cells.size+l.length:=by omega
    have I:off+k-min (off+k) cells.size=0:=by omega
    have J:off+k<cells.size:=by omega
    simp[d,g,A,q,B,I,J]
   ·by_cases M : i < off + k + 1 + l.length
    ·have d : ¬ i < min (off + k) cells.size := by omega
     have g:¬ i<min (off+(k+1)) cells.size:=by omega
     have q:i<min (off+k) cells.size+(l.length+1):=by omega
     have B:i<min (off+(k+1)) cells.size+l.length:=by omega
     have I:i-min (off+k) cells.size=(i-min (off+(k+1)) cells.size)+1:=by omega
     simp[d,g,q,B,I]
    ·have d : ¬ i < min (off + k) cells.size + (l.length + 1) := by omega
     have g:¬ i<min (off+(k+1)) cells.size+l.length:=by omega
     have F:off+k+(l.length+1)+(i-(min (off+k) cells.size+(l.length+1)))=i:=by omega
     have A:off+(k+1)+l.length+(i-(min (off+(k+1)) cells.size+l.length))=i:=by omega
     have q:¬ off+k=i:=by omega
     simp[d,g,F,A,q]
theorem u_{E:Env}{place:Nat→Option (Nat × Nat)}:∀{parts:List (Nat × AV)} {cparts:List (Nat × Value)} {cells:List AV} {cs:Array Value} {out:List AV},
  qj place cells parts=some out→ad E cells cs.toList→(∀ x∈cs.toList,dB x=true) →
  parts.map (·.1)=cparts.map (·.1)→ad E (parts.map (·.2)) (cparts.map (·.2)) →
  ∃ o,aim place cs cparts=some o∧ad E out o.toList∧∀ x∈o.toList,dB x=true
 | [],[],cells,cs,out,h,hr,h1,_,_=>by
  simp only[qj,aT]at h;subst h;exact⟨cs,rfl,hr,h1⟩
 | [],_::_,_,_,_,_,_,_,hm,_=>by simp at hm
 |_::_,[],_,_,_,_,_,_,hm,_=>by simp at hm
 | (i,v)::ps,(j,c)::J,cells,cs,out,h,hr,h1,hm,g=>by
  simp only[dA,IH]at hm;obtain⟨rfl,hm⟩:=hm;simp only[dA,ad]at g;simp only[qj]at h;split at h
  case h_2=>cases h
  rename_i off size us B hc;split at h
  case isFalse=>cases h
  rename_i F;obtain⟨g1,g2⟩:=CW hc g.1;have q:=fv g1;have A:=fv hr;have M:us.length=c.cells.size:=by simpa using q
  have I:cells.length=cs.size:=by simpa using A
  have k:(c.cells.zipIdx.foldl (fun cs (x:Value × Nat)=>cs.setIfInBounds (off+x.2) x.1) cs) =
    (cs.toList.take off++c.cells.toList++cs.toList.drop (off+c.cells.toList.length)).toArray:=by
   rw[←Array.foldl_toList,Array.toList_zipIdx];have:=Jt cs c.cells.toList off 0 cs (by simp; omega);simpa using this
  simp only[aim,B];rw[if_neg (by simp; omega)];refine u_ (cells:=cells.take off++us++cells.drop (off+us.length)) h ?_ ?_ hm g.2
  ·rw [k]
   simp only[];refine jd (jd (CU off hr) g1) ?_;rw[q];exact CT _ hr
  ·rw [k]
   intro x d;simp only[bV]at d;rcases d with(d|d)|d
   ·exact h1 x (uI d)
   ·exact g2 x d
   ·exact h1 x (x7 d)
def Ju(P:Program)(t:TypeId):Option (List (Nat × Nat)) :=
 match P.underlying t with
 |some (.struct d)=>d.toList.mapM fun fd=>(eo P fd.type).map fun p=>(fd.offset,p.1)
 |_=>none
theorem mc{P:Program}{t:TypeId}{z:List Value}(h:eF P t=some z) :
  ∃ i v,P.info? t=some i∧i.zero=some v∧v.cells.toList=z∧∀ x∈z,dB x=true:=by
 unfold eF at h;split at h
 ·rename_i i hi
  split at h
  ·rename_i v d
   split at h
   ·rename_i g
    cases h;exact⟨i,v,hi,d,rfl,dX.1 g⟩
   ·cases h
  ·cases h
 ·cases h
theorem me{P:Program}{t:TypeId}{i:TypeInfo}{v:Value}(hi:P.info? t=some i)(d:i.zero=some v)(w:World):(zeroValue t).run P w=.ok v w:=by
 simp[zeroValue,typeInfo,hi,d]
theorem Jv{P:Program}{w:World}:∀(g:List Field) (pl:List (Nat × Nat)),(g.mapM fun fd=>(eo P fd.type).map fun p=>(fd.offset,p.1))=some pl →
  (g.mapM fun(f:Field)=>(do pure (f.offset,←sizeOf f.type):Sem (Nat × Nat))).run P w=.ok pl w
 | [],pl,h=>by simp at h; subst h; simp
 | f::g,pl,h=>by
  simp only[SZ,Option.bind_eq_bind,Option.pure_def,Option.bind_eq_some_iff,ft]at h;obtain⟨x,⟨⟨n,a⟩,h1,rfl⟩,l,k,q⟩:=h;cases q;obtain⟨i,d,g1,g2,g3,g4⟩:=l_ h1;have:=Jv (w:=w) g l k;simp only[SZ,cf,Sem.run_sizeOf g1,cB,gR,g3];rw[this];rfl
def CX(P:Program)(t:TypeId)(parts:List (Nat × AV)):Option AV :=
 match eF P t with
 | some z=>match Ju P t with
  |some pl=>(qj (fun i=>pl[i]?) (z.map .lit) parts).map .agg
  | none=>match bY P t with
   |.array _ _ sz _=>(qj (fun i=>some (i*sz,sz)) (z.map .lit) parts).map .agg
   |_=>none
 |none=>none
theorem TZ{P:Program}{E:Env}{t:TypeId}{parts:List (Nat × AV)}{cparts:List (Nat × Value)}{v:AV}(h:CX P t parts=some v)
  (hm:parts.map (·.1)=cparts.map (·.1)) (k:ad E (parts.map (·.2)) (cparts.map (·.2))) :
  ∃ u,(S0 t cparts.toArray).run P E.w=.ok u E.w∧rel E v u:=by
 unfold CX at h;split at h
 case h_2=>cases h
 rename_i z J;obtain⟨i,q,A,z2,z3,z4⟩:=mc J;split at h
 ·rename_i pl d
  unfold Ju at d;split at d
  case h_2=>cases d
  rename_i B hu;simp only[ft]at h;obtain⟨out,g,rfl⟩:=h;obtain⟨o,g1,g2,g3⟩:=u_ (cs:=q.cells) g (by rw[z3]; exact oC z) (by rw[z3]; exact z4) hm k;refine⟨.agg o,?_,by simp only[rel]; exact⟨o,rfl,g3,g2⟩⟩;have F:(B.mapM fun(f:Field)=>(do pure (f.offset,←sizeOf f.type):Sem (Nat × Nat))).run P E.w=.ok pl.toArray E.w:=by
   have:=Jv (w:=E.w) B.toList pl d;rw[Array.mapM_eq_mapM_toList,Sem.run_map,this];rfl
  simp only[S0,cf,me A z2,cB,Sem.bz hu];rw[F];simp only[cB];have e:(fun(x:Nat)=>(pl.toArray)[x]?)=fun(i:Nat)=>pl[i]? := by funext i; simp
  rw[e,g1];rfl
 ·split at h
  case h_2=>cases h
  rename_i n e sz O hk;obtain⟨hu,I⟩:=yB hk;obtain⟨R,U,M,W,N,Y⟩:=l_ I;simp only[ft]at h;obtain⟨out,g,rfl⟩:=h;obtain⟨o,g1,g2,g3⟩:=u_ (cs:=q.cells) g (by rw[z3]; exact oC z) (by rw[z3]; exact z4) hm k;refine⟨.agg o,?_,by simp only[rel]; exact⟨o,rfl,g3,g2⟩⟩;simp only[S0,cf,me A z2,cB,Sem.bz hu,Sem.run_sizeOf M,N,g1];rfl
def chunk(sz:Nat):Nat→List AV→List (List AV)
 |0,_=>[]
 |n+1,l=>l.take sz::chunk sz n (l.drop sz)
theorem va(sz:Nat):∀(n:Nat) (l:List AV),(chunk sz n l).length=n
 |0,_=>rfl
 |n+1,l=>by simp[chunk,va sz n]
theorem CY(sz:Nat):∀(n:Nat) (l:List AV),AV.bf l=true→fa (chunk sz n l)
 |0,_,_=>by intro r hr; simp[chunk]at hr
 | n+1,l,h=>by
  intro r hr;simp only[chunk,bI]at hr;rcases hr with rfl|hr
  ·exact yA _ _ h
  ·exact CY sz n _ (uY _ _ h) r hr
theorem Jw{E:Env}(sz:Nat):∀(n:Nat) (l:List AV) (b o:Nat),l.length=n*sz→ca E l b o→cL E sz (chunk sz n l) b o
 |0,_,_,_,_,_=>by simp[chunk,cL]
 | n+1,l,b,o,d,h=>by
  simp only[chunk,cL];have:sz≤l.length:=by rw[d,fq]; omega
  refine⟨by simp; omega,yz h sz,Jw sz n _ b (o+sz) (by simp[d,fq]) (su h sz)⟩
theorem CZ{E:Env}{as:List AV}{cs:Array Value}{b:Nat}{el:TypeId}{fr:Nat × Nat}(d:E.w.heap[b]? = some (.cells cs el fr))(hr:ad E as cs.toList)
  (h1:∀ x∈cs.toList,dB x=true):ca E as b 0:=by
 rw[jb];intro i a hi;obtain⟨v,g1,g2⟩:=np hr hi;refine⟨v,?_,h1 v (fK g1),g2⟩;simp only[dO,rW,d];simpa using g1
end Go.AL

namespace Go.AL
open Go
variable [Dr]
theorem yG(v:Value):v.oneCell'=dB v:=by cases v<;>rfl
theorem setRow_size(w:World)(g:Nat)(cs:Array Value):(w.setRow g cs).heap.size=w.heap.size:=by simp[ain]
theorem setRow_other(w:World)(g:Nat)(cs:Array Value)(x:Nat)(h:x≠g):(w.setRow g cs).heap[x]? = w.heap[x]? := by
 simp only[ain];rw[Array.getElem?_modify];split
 ·rename_i e; exact(h e.symm).elim
 ·rfl
structure Src (P:Program) (E:Env) (sz:Nat) (rows:List (List AV)) (xt:TypeId) (x:Value) (news:List Value):Prop where
 len:∀ w,(IJ x).run P w=.ok rows.length w
 cells:∀ w,(∀ b o,b<E.w.heap.size→w.cell? ⟨b,o,none⟩=E.w.cell? ⟨b,o,none⟩)→(ia sz rows.length x).run P w=.ok news.toArray w
 rel:ad E rows.flatten news
 one:∀ v∈news,dB v=true
 wide:∀ r∈rows,r.length=sz
 closed:fa rows
 kind:∃ d,P.underlying xt=some d∧∀ k,d≠.int k
theorem Src.length{P:Program}{E:Env}{sz:Nat}{rows:List (List AV)}{xt:TypeId}{x:Value}{news:List Value}(h:Src P E sz rows xt x news):news.length=rows.length*sz:=by
 rw[←fv h.rel];have:∀(l:List (List AV)),(∀ r∈l,r.length=sz)→l.flatten.length=l.length*sz:=by
  intro l d
  induction l with
  |nil=>simp
  |cons a l g=>simp[g (fun r hr=>d r (by simp[hr])),d a (by simp),fq,uH]
 exact this rows h.wide
theorem yH{E:Env}{k:Nat}:∀{rows:List (List AV)} {b o:Nat},cL E k rows b o→ca E rows.flatten b o
 | [],_,_,_=>by simp[ca]
 | r::rows,b,o,h=>by
  simp only[cL]at h;obtain⟨h1,d,g⟩:=h;have q:=yH g;rw[jb]at *;intro i a hi;simp only[uL,gy]at hi;split at hi
  ·exact d i a hi
  ·rename_i A
   obtain⟨v,g1,g2,g3⟩:=q (i-r.length) a hi;refine⟨v,?_,g2,g3⟩;rw[←g1];congr 2;omega
theorem yI{E:Env}{k:Nat}:∀{rows:List (List AV)} {b o:Nat},(∀ r∈rows,r.length=k)→ca E rows.flatten b o→cL E k rows b o
 | [],_,_,_,_=>by simp[cL]
 | r::rows,b,o,hk,h=>by
  simp only[cL];have hr:=hk r (by simp);refine⟨hr,?_,?_⟩
  ·have := yz h r.length
   simpa using this
  ·have := su h r.length
   simp at this;rw[hr]at this;exact yI (fun x d=>hk x (by simp[d])) this
def lh(sz:Nat)(x:AV)(H:List af):Option (List (List AV)) :=
 match x with
 |.nils | .lit (.slice none 0 0)=>some []
 |.emptyS _=>some []
 |.list w rows=>if w=sz then some rows else none
 |.listF ks rows=>if ks.length=sz then some (rows.map (aD ks)) else none
 | .vec w id ae off n=>match H[id]? with
  |some (.vec k v rows)=>if w=sz∧k=w∧v=ae∧off+n≤rows.length then some ((rows.drop off).take n) else none
  |_=>none
 |.lit (.string s)=>if sz=1 then some (s.data.toList.map fun b=>[.lit (.int .u8 b.toNat)]) else none
 |_=>none
theorem Jx{α β:Type}(f:α→β):∀(l:List α),(l.map fun b=>[f b]).flatten=l.map f
 | []=>rfl
 |a::l=>by simp[Jx f l]
theorem yJ{P:Program}{E:Env}{sz:Nat}{rows:List (List AV)}{b o cap:Nat}(hr:cL E sz rows b o)(d:b<E.w.heap.size) :
  ∃ news,ad E rows.flatten news∧(∀ v∈news,dB v=true) ∧
   ∀ w,(∀ b o,b<E.w.heap.size→w.cell? ⟨b,o,none⟩=E.w.cell? ⟨b,o,none⟩)→(ia sz rows.length (.slice (some ⟨b,o,none⟩) rows.length cap)).run P w=.ok news.toArray w:=by
 obtain⟨vs,g1,g2,g3⟩:=uZ (yH hr);refine⟨vs,g1,g2,fun w hw=>?_⟩;refine run_firstCells_some (P:=P) w sz rows.length ⟨b,o,none⟩ rows.length cap vs ?_ ?_
 ·rw [← fv g1]
  have:∀(l:List (List AV)) (o:Nat),cL E sz l b o→l.flatten.length=l.length*sz:=by
   intro l
   induction l with
   |nil=>intros; simp
   | cons a l g =>
    intro o h;simp only[cL]at h;simp[g _ h.2.2,h.1,fq,uH]
  exact this rows o hr
 ·intro j v k
  rw[ke,hw b _ d];exact g3 j v k
theorem T0{P:Program}{E:Env}(HE:ar E){sz:Nat}{x:AV}{c:Value}{rows:List (List AV)}{xt:TypeId}(h:lh sz x E.H=some rows)(hr:rel E x c)
  (hk:∃ d,P.underlying xt=some d∧∀ k,d≠.int k):∃ news,Src P E sz rows xt c news:=by
 unfold lh at h;split at h
 ·cases h
  simp only[rel]at hr;obtain⟨base,rfl⟩:=hr;refine⟨[],⟨fun w=>rfl,fun w _=>?_,by simp[ad],by simp,by simp,(by intro r hr; cases hr),hk⟩⟩;cases base<;>simp[ia,loadCells,loadCellsFrom]
 ·cases h
  simp only[rel]at hr;subst hr;exact⟨[],⟨fun w=>rfl,fun w _=>by simp[ia],by simp[ad],by simp,by simp,(by intro r hr; cases hr),hk⟩⟩
 ·cases h
  simp only[rel]at hr;obtain⟨base,cap,rfl,_⟩:=hr;refine⟨[],⟨fun w=>rfl,fun w _=>?_,by simp[ad],by simp,by simp,(by intro r hr; cases hr),hk⟩⟩;cases base<;>simp[ia,loadCells,loadCellsFrom]
 ·rename_i w rows'
  split at h
  case isFalse=>cases h
  rename_i hw;subst hw;cases h;simp only[rel]at hr;obtain⟨A,base,cap,rfl,hle,F⟩:=hr;rcases F with rfl|⟨b,o,rfl,aL,g⟩
  ·refine ⟨[], ⟨fun w => rfl, fun w _ => ?_, by simp [ad], by simp, by simp, (by intro r hr; cases hr), hk⟩⟩
   cases base<;>simp[ia,loadCells,loadCellsFrom]
  ·obtain ⟨news, g1, g2, g3⟩ := yJ (P := P) (cap := cap) g aL.1
   exact⟨news,⟨fun w=>rfl,g3,g1,g2,fun r hr=>by
    obtain⟨i,hi⟩:=od hr;exact(ma g hi).1,A,hk⟩⟩
 ·rename_i ks N
  split at h
  case isFalse=>cases h
  rename_i hw;subst hw;cases h;have hr:=jI.1 hr;generalize N.map (aD ks)=rows at hr;simp only[rel]at hr;obtain⟨A,base,cap,rfl,hle,F⟩:=hr;rcases F with rfl|⟨b,o,rfl,aL,g⟩
  ·refine ⟨[], ⟨fun w => rfl, fun w _ => ?_, by simp [ad], by simp, by simp, (by intro r hr; cases hr), hk⟩⟩
   cases base<;>simp[ia,loadCells,loadCellsFrom]
  ·obtain ⟨news, g1, g2, g3⟩ := yJ (P := P) (cap := cap) g aL.1
   exact⟨news,⟨fun w=>rfl,g3,g1,g2,fun r hr=>by
    obtain⟨i,hi⟩:=od hr;exact(ma g hi).1,A,hk⟩⟩
 ·rename_i w id ae off n
  split at h
  case h_2=>cases h
  rename_i k v rows' hid;split at h
  case isFalse=>cases h
  rename_i hc;obtain⟨rfl,rfl,rfl,hle⟩:=hc;cases h;simp only[rel]at hr;obtain⟨⟨base,cap,rfl,hcap,_⟩,_,O⟩:=hr;obtain⟨R,U⟩:=O ⟨_,hid,rfl⟩;have hn:((rows'.drop off).take n).length=n:=by simp; omega
  rcases HE.obj id _ hid with⟨q,I⟩|⟨b,m,q,I,e3,W,Y⟩
  ·obtain ⟨rfl, rfl, base', e⟩ := R q
   subst I;refine⟨[],⟨fun w=>by rw[hn]; rfl,fun w _=>?_,by simp[ad],by simp,by simp,(by intro r hr; simp at hr),hk⟩⟩;cases base<;>simp[ia,loadCells,loadCellsFrom]
  ·obtain ⟨p1, o, p2, J⟩ := U b m q
   simp only[j0]at J;obtain⟨rfl,_,rfl⟩:=J;by_cases hm:off<m
   ·rw [p2 hm]
    have B:=Jn Y off n;simp only[dO]at B;obtain⟨news,g1,g2,g3⟩:=yJ (P:=P) (cap:=m-off) B (HE.lt id b m q).1;rw[hn]at g3;refine⟨news,⟨fun w=>by rw[hn]; rfl,by rw[hn]; exact g3,g1,g2,fun r hr=>?_,fun r hr=>W r (x7 (uI hr)),hk⟩⟩;obtain⟨i,hi⟩:=od hr;exact(ma B hi).1
   ·have hz : n = 0 := by omega
    subst hz;refine⟨[],⟨fun w=>by rw[hn]; rfl,fun w _=>?_,by simp[ad],by simp,by simp,(by intro r hr; simp at hr),hk⟩⟩;simp[ia,loadCells,loadCellsFrom]
 ·rename_i s
  split at h
  case isFalse=>cases h
  rename_i hs;subst hs;cases h;simp only[rel]at hr;subst hr;refine⟨s.data.toList.map fun b=>.int .u8 b.toNat,⟨fun w=>by simp[IJ],fun w _=>?_,?_,?_,?_,?_,hk⟩⟩
  ·simp only [bF, kT, ia]
   have:s.extract 0 s.data.size=s:=by
    have:=ByteArray.extract_zero_size (b:=s);exact this
   rw[this,←S2];rfl
  ·rw [Jx]
   have:=oC (E:=E) (s.data.toList.map fun b=>.int .u8 b.toNat);rw[List.map_map]at this;exact this
  ·intro v M; simp at M; obtain⟨b,_,rfl⟩:=M; rfl
  ·intro r hr; simp at hr; obtain⟨b,_,rfl⟩:=hr; rfl
  ·intro r hr; simp at hr; obtain⟨b,_,rfl⟩:=hr; simp[AV.bf,AV.closed]
 ·cases h
def sE(P:Program)(t xt:TypeId)(s x:AV)(H:List af):Option (AV × List af) :=
 match bY P t with
 | .slice e sz bK =>
  match eF P e,(match bY P xt with | .slice _ _ _ | .str=>true|_=>false),lh sz x H with
  | some z,true,some new =>
   if z.length=sz∧new.length≤1048576∧bK≤1048576 then
    match s with
    |.nils | .lit (.slice none 0 0)=>some (.vec sz H.length 0 0 new.length,H++[.vec sz 0 new])
    | .vec w id ae off n=>match H[id]? with
     | some (.vec k v rows) =>
      if k=w∧w=sz∧v=ae∧off=0∧n=rows.length∧rows.length+new.length≤1048576 then
       some (.vec w id (ae+1) 0 (n+new.length),H.set id (.vec k (ae+1) (rows++new)))
      else none
     |_=>none
    |_=>none
   else none
  |_,_,_=>none
 |_=>none
theorem C0{P:Program}{w w':World}{t xt ty e:TypeId}{i:TypeInfo}{sz:Nat}{base:Option Addr}{n cap m:Nat}{x:Value}{d:TypeDesc}
  (A:P.underlying t=some (.slice e)) (B:P.underlying xt=some d) (_hd:∀ k,d≠.int k) (hi:P.info? e=some i) (F:i.size=sz)
  (I:(IJ x).run P w=.ok m w) (q:n+m≤cap) {news:List Value} (hn:(ia sz m x).run P w=.ok news.toArray w)
  (g:(match base with|some a=>storeCells (a.add (n*sz)) news|none=>(pure ():Sem Unit)).run P w=.ok () w') :
  (mX #[t,xt] ty #[.slice base n cap,x]).run P w=.ok (.slice base (n+m) cap) w':=by
 cases base with
 | none =>
  simp at g;subst g;simp[mX,run_underlying A,run_underlying B,sizeOf,typeInfo,hi,F,I,q,hn]
 | some a =>
  simp only[]at g;simp[mX,run_underlying A,run_underlying B,sizeOf,typeInfo,hi,F,I,q,hn,g]
theorem Jy{P:Program}{w:World}{t xt ty e:TypeId}{i:TypeInfo}{z:Value}{sz:Nat}{base:Option Addr}{n cap m:Nat}{x:Value}{d:TypeDesc}
  (A:P.underlying t=some (.slice e)) (B:P.underlying xt=some d) (U:∀ k,d≠.int k) (hi:P.info? e=some i) (F:i.size=sz) (I:i.zero=some z)
  (J:(IJ x).run P w=.ok m w) (g:cap<n+m) {olds news:List Value}
  (M:(ia sz n (.slice base n cap)).run P w.drew=.ok olds.toArray w.drew)
  (hn:(ia sz m x).run P w.drew=.ok news.toArray w.drew)
  (q:n+m≤1048576) (N:i.bytes≤1048576) :
  ∃ C,n+m≤C∧(mX #[t,xt] ty #[.slice base n cap,x]).run P w =
   .ok (.slice (some ⟨w.heap.size,0,none⟩) (n+m) C) (w.drew.alloc (.cells (olds++news++(x9 z.cells (C-(n+m))).toList).toArray e)):=by
 have h1:¬ (n+m≤cap):=by omega
 have O:¬ (9223372036854775807<((n:Int)+(m:Int))):=by omega
 have W:IK (n+m) cap*i.bytes≤281474976710656:=growslice_fits g (by
  have:=aio q N;omega)
 have R:¬ (281474976710656<IK (n+m) cap*i.bytes):=by omega
 refine⟨grownCap w (n+m) cap e,?_,?_⟩
 ·simp[grownCap,aip]
 ·simp [mX, run_underlying A, run_underlying B, sizeOf, typeInfo, zeroValue, hi, I, F, J, h1, O, R, aiq, hn, M, newRow, grownCap]
  congr 2;apply eT;simp
def dh(E:Env)(v:AV)(H':List af)(u:Value)(w':World):Prop :=
 ∃ d r',rel { w:=w',H:=H',loc:=d,X:=E.X.re r' } v u∧ar { w:=w',H:=H',loc:=d,X:=E.X.re r' }∧E.le { w:=w',H:=H',loc:=d,X:=E.X.re r' }
theorem Jz{E:Env}{as:List AV}{cs:Array Value}{vs tl:List Value}{b:Nat}{el:TypeId}{fr:Nat × Nat}(d:E.w.heap[b]? = some (.cells cs el fr))(hr:ad E as vs)
  (hc:cs.toList=vs++tl) (h1:∀ x∈vs,dB x=true):ca E as b 0:=by
 rw[jb];intro i a hi;obtain⟨v,g1,g2⟩:=np hr hi;refine⟨v,?_,h1 v (fK g1),g2⟩;simp only[dO,rW,d];have:cs.toList[i]? = some v:=by rw[hc,dz (aJ g1)]; exact g1
 simpa using this
theorem T3{E:Env}{as:List AV}{cs:Array Value}{b:Nat}{el:TypeId}{fr:Nat × Nat}(k:E.w.heap[b]? = some (.cells cs el fr))(hr:ca E as b 0) :
  ad E as (cs.toList.take as.length)∧(∀ x∈cs.toList.take as.length,dB x=true)∧as.length≤cs.size:=by
 obtain⟨vs,g1,g2,g3⟩:=uZ hr;have q:=fv g1;have g:∀(j:Nat) v,vs[j]? = some v→cs.toList[j]? = some v:=by
  intro j v d;have:=g3 j v d;simpa[rW,k]using this
 have A:vs.length≤cs.size:=by
  rcases Nat.eq_zero_or_pos vs.length with h|h
  ·omega
  ·have := g (vs.length - 1) vs[vs.length - 1] (bE (by omega))
   have:=aJ this;simp at this;omega
 have:cs.toList.take as.length=vs:=by
  rw[q];apply mW;intro j;rw[mT];split
  ·rename_i d
   rw[g j vs[j] (bE d),bE d]
  ·rename_i d
   rw[rX (by omega)]
 rw[this];exact⟨g1,g2,by omega⟩
theorem sF{sz:Nat}:∀{l:List (List AV)},(∀ r∈l,r.length=sz)→l.flatten.length=l.length*sz
 | [],_=>by simp
 |a::l,h=>by simp[sF (l:=l) (fun r hr=>h r (by simp[hr])),h a (by simp),fq,uH]
theorem C1{E:Env}{k:Nat}{rows:List (List AV)}{b o:Nat}(h:cL E k rows b o):∀ r∈rows,r.length=k:=by
 intro r hr;obtain⟨i,hi⟩:=od hr;exact(ma h hi).1
theorem JA(w:World)(o:Obj):Ext w (w.drew.alloc o) :=
 ⟨by show w.heap.size ≤ (w.heap.push o).size; simp, fun b d => by
  show (w.heap.push o)[b]? = _
  simp[pY,aie d],⟨rfl,rfl,rfl,by first|exact fun _=>aI _|exact fun _=>eL _ _⟩⟩
theorem JB(w:World)(o:Obj):(w.drew.alloc o).heap[w.heap.size]? = some o:=by
 show (w.heap.push o)[w.heap.size]? = _
 simp
theorem C2{E E':Env}{sz m C:Nat}{rows:List (List AV)}{vals:List Value}{rest:List Value}{b:Nat}{e:TypeId}(A:∀ a c,rel E a c→rel E' a c)
  (d:E'.w.heap[b]? = some (.cells (vals++rest).toArray e (0,0))) (hr:ad E rows.flatten vals) (h1:∀ x∈vals,dB x=true)
  (hw:∀ r∈rows,r.length=sz) (hlen:rows.length=m) (hC:m≤C) (g:rest.length=(C-m)*sz) :
  isRow E'.w b (C*sz)∧cL E' sz rows b 0:=by
 have k:ad E' rows.flatten vals:=by
  rw[ng]at *;exact⟨hr.1,fun i a v B q=>A a v (hr.2 i a v B q)⟩
 refine⟨⟨_,e,d,?_⟩,yI hw (Jz d k (by simp; rfl) h1)⟩;have:=fv hr;rw[sF hw,hlen]at this;simp only[x_,fD,←this,g,←fq];congr 1;omega
theorem JC{P:Program}{e:TypeId}{z:List Value}(h:eF P e=some z):∃ i v,P.info? e=some i∧i.zero=some v∧v.cells.toList=z :=
 let ⟨i,v,h1,d,g,_⟩:=mc h
 ⟨i,v,h1,d,g⟩
theorem JD{E:Env}(HE:ar E){sz C m:Nat}{new:List (List AV)}{vals rest:List Value}{e:TypeId}(hr:ad E new.flatten vals)(h1:∀ x∈vals,dB x=true)
  (hw:∀ r∈new,r.length=sz) (A:fa new) (hm:new.length=m) (hC:m≤C) (q:rest.length=(C-m)*sz) :
  dh E (.vec sz E.H.length 0 0 m) (E.H++[.vec sz 0 new]) (.slice (some ⟨E.w.heap.size,0,none⟩) m C) (E.w.drew.alloc (.cells (vals++rest).toArray e)):=by
 have g:=JA E.w (.cells (vals++rest).toArray e);have hle:=Env.jJ (o:=.vec sz 0 new) (l:=some (E.w.heap.size,C)) HE.len g (fun b n d=>by cases d; exact aI _);have hblk:=JB E.w (.cells (vals++rest).toArray e);have k:=C2 (E':=E.push (E.w.drew.alloc (.cells (vals++rest).toArray e)) (.vec sz 0 new) (some (E.w.heap.size,C))) (fun a c hr=>cC hle a hr) hblk hr h1 hw hm hC q;refine⟨E.loc++[some (E.w.heap.size,C)],E.X.r,?_,ar.push HE g (fun b n d=>?_) ?_,hle⟩
 ·simp only [rel]
  refine⟨⟨_,_,rfl,hC,fun _=>⟨_,_,rfl⟩⟩,⟨.vec sz 0 new,by simp,fun v B=>by simp[af.aH]at B; omega⟩,fun _=>⟨fun hn=>?_,fun b M hn=>?_⟩⟩
  ·rw[←HE.len]at hn; simp at hn
  ·rw [← HE.len] at hn
   simp at hn;obtain⟨rfl,rfl⟩:=hn;exact⟨by omega,0,fun _=>by simp,by simp⟩
 ·cases d
  exact⟨aI _,by show _<(E.w.heap.push _).size; simp⟩
 ·simp only [aO]
  right;refine⟨E.w.heap.size,C,?_,k.1,by omega,A,k.2⟩;simp only[Env.push];rw[←HE.len];simp
theorem T4{E:Env}(HE:ar E){sz:Nat}(base:Option Addr) :
  dh E (.vec sz E.H.length 0 0 0) (E.H++[.vec sz 0 []]) (.slice base 0 0) E.w:=by
 have hle:=Env.jJ (o:=.vec sz 0 []) (l:=none) HE.len (Ext.refl E.w) (fun b n d=>by cases d);refine⟨E.loc++[none],E.X.r,?_,ar.push HE (Ext.refl _) (fun b n d=>by cases d) ?_,hle⟩
 ·simp only [rel]
  refine⟨⟨_,_,rfl,aI _,fun h=>by omega⟩,⟨.vec sz 0 [],by simp,fun v g=>by simp[af.aH]at g; omega⟩,fun _=>⟨fun _=>⟨trivial,trivial,base,rfl⟩,fun b M hn=>?_⟩⟩;rw[←HE.len]at hn;simp at hn
 ·simp only [aO]
  left;refine⟨?_,trivial⟩;simp only[Env.push];rw[←HE.len];simp
theorem C3(P:Program)(a:Addr)(w:World):(storeCells a []).run P w=.ok () w:=rfl
theorem C4{P:Program}{E:Env}{sz:Nat}{rows:List (List AV)}{xt:TypeId}{x:Value}{news:List Value}(h:Src P E sz rows xt x news)(hr:rows=[]):news=[]:=by
 have:=h.length;rw[hr]at this;simp at this;exact this
theorem JE{P:Program}{E:Env}(HE:ar E){t xt ty e:TypeId}{sz bK:Nat}{z:List Value}{new:List (List AV)}{base:Option Addr}{q:Value}{news:List Value}
  (hk:bY P t=.slice e sz bK) (U:eF P e=some z) (g:Src P E sz new xt q news) (Y:new.length≤1048576) (hb2:bK≤1048576) (N:z.length=sz) :
  ∃ u w',(mX #[t,xt] ty #[.slice base 0 0,q]).run P E.w=.ok u w'∧dh E (.vec sz E.H.length 0 0 new.length) (E.H++[.vec sz 0 new]) u w':=by
 obtain⟨hu,i,hi,J,hby⟩:=gC hk;obtain⟨i',zv,B,O,R⟩:=JC U;rw[hi]at B;cases B;obtain⟨d,F,I⟩:=g.kind;cases k:new with
 | nil =>
  have hn:=C4 g k;subst hn;subst k;refine⟨.slice base (0+0) 0,E.w,C0 (m:=0) hu F I hi J (g.len E.w) (aI _) (g.cells E.w (fun _ _ _=>rfl)) ?_,T4 HE base⟩;cases base with
  |none=>rfl
  |some a=>exact C3 P _ _
 | cons r rs =>
  rw[←k];have W:0<new.length:=by rw[k]; simp
  have M:∀ b o,b<E.w.heap.size→E.w.drew.cell? ⟨b,o,none⟩=E.w.cell? ⟨b,o,none⟩:=fun _ _ _=>rfl;obtain⟨C,hC,A⟩:=Jy (P:=P) (w:=E.w) (ty:=ty) (base:=base) (n:=0) (cap:=0) (m:=new.length) (x:=q) (olds:=[]) hu F I hi J O (g.len E.w) (by omega)
   (by cases base<;>simp[ia,loadCells,loadCellsFrom]) (g.cells _ M) (by omega) (by omega)
  simp only[dO,Cn]at A;refine⟨_,_,A,JD HE g.rel g.one g.wide g.closed rfl (by omega) ?_⟩;simp only[kT,size_zeroCells];rw[←N,←R];simp
theorem T5{P:Program}{xt:TypeId}(h:(match bY P xt with | .slice _ _ _ | .str=>true|_=>false)=true):∃ d,P.underlying xt=some d∧∀ k,d≠.int k:=by
 split at h
 ·rename_i hk
  exact⟨_,(gC hk).1,by simp⟩
 ·rename_i hk
  exact⟨_,qh hk,by simp⟩
 ·cases h
theorem mf{α:Type}{l:List α}{i:Nat}{x:α}(h:l[i]? = some x):l.set i x=l:=by
 apply mW;intro j;rw[e_];split
 ·rename_i e
  subst e;rw[h];split
  ·rfl
  ·rename_i d; exact(d (aJ h)).elim
 ·rfl
theorem T6{P:Program}{E:Env}(HE:ar E){t xt ty e id ae:TypeId}{sz bK:Nat}{z:List Value}{rows new:List (List AV)}{c cx:Value}{news:List Value}
  (hk:bY P t=.slice e sz bK) (hz:eF P e=some z) (g:Src P E sz new xt cx news) (hb1:rows.length+new.length≤1048576) (hb2:bK≤1048576) (hzl:z.length=sz)
  (hid:E.H[id]? = some (.vec sz ae rows)) (hr:rel E (.vec sz id ae 0 rows.length) c) :
  ∃ u w',(mX #[t,xt] ty #[c,cx]).run P E.w=.ok u w' ∧
   dh E (.vec sz id (ae+1) 0 (rows.length+new.length)) (E.H.set id (.vec sz (ae+1) (rows++new))) u w':=by
 obtain⟨hu,i,hi,hs,hby⟩:=gC hk;obtain⟨i',zv,hi',hz1,hz2⟩:=JC hz;rw[hi]at hi';cases hi';obtain⟨d,hd1,hd2⟩:=g.kind;simp only[rel]at hr;obtain⟨⟨base,cap,rfl,hcap,hbase⟩,hpast,hlive⟩:=hr;obtain⟨q1,q2⟩:=hlive ⟨_,hid,rfl⟩;have W:=aJ hid;have F:(∀ v,(af.vec sz (ae+1) (rows++new)).aH = some v→∀ u,(af.vec sz ae rows).aH = some u→u<v):=by
  intro v B u hu; simp[af.aH]at B hu; omega
 have J:∀ v u,(af.vec sz (ae+1) (rows++new)).aH = some v→(af.vec sz ae rows).aH = some u→u≤v:=by
  intro v u B hu; simp[af.aH]at B hu; omega
 have I:(af.vec sz ae rows).aH = none→(af.vec sz (ae+1) (rows++new)).aH = none:=by simp[af.aH]
 have hpast':∀(w':World) loc',Env.past { w:=w',H:=E.H.set id (.vec sz (ae+1) (rows++new)),loc:=loc',X:=E.X } id (ae+1):=fun w' loc' =>
  ⟨_,cr W,fun v B=>by simp[af.aH]at B; omega⟩
 have hcells:∀ b o,b<E.w.heap.size→E.w.drew.cell? ⟨b,o,none⟩=E.w.cell? ⟨b,o,none⟩:=fun _ _ _=>rfl;by_cases A:rows.length+new.length≤cap
 ·-- in place
  rcases HE.obj id _ hid with⟨k,N⟩|⟨b,M,k,N,e3,e4,O⟩
  ·obtain ⟨hn0, _, base', ee⟩ := q1 k
   simp only[j0]at ee;obtain⟨rfl,_,rfl⟩:=ee;have hnil:new=[]:=by
    cases new with
    |nil=>rfl
    |cons a l=>simp at A
   have hnews:=C4 g hnil;subst hnews;subst hnil;subst N;refine⟨_,E.w,C0 (m:=0) hu hd1 hd2 hi hs (g.len E.w) (aI _) (g.cells E.w (fun _ _ _=>rfl)) ?_,E.loc.set id none,E.X.r,?_,?_,?_⟩
   ·cases base with
    |none=>rfl
    |some a=>exact C3 P _ _
   ·simp only [rel]
    refine⟨⟨_,_,rfl,aI _,fun h=>by simp at h⟩,hpast' _ _,fun _=>⟨fun _=>⟨by simp,trivial,base,by simp⟩,fun b M hn=>?_⟩⟩;rw[cr (by rw[HE.len]; exact W)]at hn;cases hn
   ·refine ar.ni HE hid (aI _) (fun _ _ _ => rfl) (fun _ _ h => by cases h) (.inr F) J I ?_
    simp only[aO];left;exact⟨by rw[cr (by rw[HE.len]; exact W)],by simp⟩
   ·exact Env.la hid HE.len (aI _) (fun _ _ _=>rfl) (fun _ _ h=>by cases h) (.inr F) J I
  ·obtain ⟨_, o, Y, R⟩ := q2 b M k
   simp only[j0,jC]at R;obtain⟨rfl,_,rfl⟩:=R;obtain⟨cur,el,hblk,hsize⟩:=N;have hcurl:=T3 hblk (yH O);have hwide:=C1 O;have hflat:=sF hwide;have hnl:=g.length;have hstore:∃ w',(storeCells ((Addr.mk b o none).add (rows.length*sz)) news).run P E.w=.ok () w'∧w'.heap.size=E.w.heap.size∧dq E.w w'∧(∀ x,x≠b→w'.heap[x]? = E.w.heap[x]?) ∧
     w'.heap[b]? = some (.cells (cur.toList.take (rows.length*sz)++news++cur.toList.drop (rows.length*sz+news.length)).toArray el (0,0)):=by
    by_cases hM:0<cap
    ·rw [Y hM, ke, r7, dO]
     have hfit2:rows.length*sz+0+news.length≤cur.size:=by
      rw[hnl,hsize,mY,←fq];exact uM _ A
     have hst:=run_storeCells_at P b (rows.length*sz) el news 0 cur E.w hblk hfit2 (fun v B=>by rw[yG]; exact g.one v B);refine⟨_,hst,setRow_size _ _ _,⟨rfl,rfl,rfl,by first|exact fun _=>aI _|exact fun _=>eL _ _⟩,fun x q=>setRow_other _ _ _ _ q,?_⟩;rw[setRow_heap _ _ _ _ _ _ hblk];simp
    ·have h0 : cap = 0 := by omega
     have hn0:new=[]:=by
      cases new with
      |nil=>rfl
      |cons a l=>simp at A; omega
     have:=C4 g hn0;subst this;refine⟨E.w,C3 P _ _,rfl,⟨rfl,rfl,rfl,by first|exact fun _=>aI _|exact fun _=>eL _ _⟩,fun _ _=>rfl,?_⟩;rw[hblk];simp
   obtain⟨w',hst,hsz,henv,hother,hb'⟩:=hstore;have hloc:E.loc.set id (some (b,cap))=E.loc:=mf k;have hle:E.le { w:=w',H:=E.H.set id (.vec sz (ae+1) (rows++new)),loc:=E.loc.set id (some (b,cap)),X:=E.X } :=
    Env.la hid HE.len (by omega) (fun x q hne=>hother x (fun ex=>hne cap (by rw[ex]; exact k))) (fun b' n' h=>by cases h; exact .inr ⟨cap,k⟩) (.inr F) J I
   refine⟨_,w',C0 (m:=new.length) hu hd1 hd2 hi hs (g.len E.w) A (g.cells E.w (fun _ _ _=>rfl)) hst,E.loc.set id (some (b,cap)),E.X.r,?_,?_,hle⟩
   ·simp only [rel]
    refine⟨⟨_,_,rfl,A,fun _=>⟨b,o,rfl⟩⟩,hpast' _ _,fun _=>⟨fun hn=>?_,fun b' M hn=>?_⟩⟩
    ·rw[hloc,k]at hn; cases hn
    ·rw [hloc, k] at hn
     simp only[aT,aZ]at hn;obtain⟨rfl,rfl⟩:=hn;exact⟨by omega,o,fun h=>by simpa using Y (by simpa using h),by simp⟩
   ·refine ar.ni HE hid (by omega) (fun x q hne => hother x (fun ex => hne cap (by rw [ex]; exact k))) (fun b' n' h => by cases h; exact .inr ⟨cap, k⟩) (.inr F) J I ?_
    simp only[aO];right;refine⟨b,cap,by rw[hloc]; exact k,?_,by simpa using A,?_,?_⟩
    ·refine ⟨_, el, hb', ?_⟩
     have hfit2:rows.length*sz+news.length≤cap*sz:=by rw[hnl,←fq]; exact uM _ A
     simp only[x_,fD,iX,oe,kT,hsize];omega
    ·intro r hr
     rcases bV.1 hr with h|h
     ·exact e4 r h
     ·exact g.closed r h
    ·have hall:∀ r∈rows++new,r.length=sz:=by
      intro r hr;rcases bV.1 hr with h|h
      ·exact hwide r h
      ·exact g.wide r h
     refine yI hall (Jz hb' (vs:=cur.toList.take (rows.length*sz)++news) (tl:=cur.toList.drop (rows.length*sz+news.length)) ?_ (by simp) ?_)
     ·rw [ya]
      refine jd ?_ (eM hle _ g.rel);have:=eM hle _ hcurl.1;rw[hflat]at this;exact this
     ·intro x q
      rcases bV.1 q with h|h
      ·exact hcurl.2.1 x (by rw[hflat]; exact h)
      ·exact g.one x h
 ·-- it moves
  have holds:∃ olds:List Value,ad E rows.flatten olds∧(∀ x∈olds,dB x=true)∧(∀ r∈rows,r.length=sz)∧fa rows ∧
    (ia sz rows.length (.slice base rows.length cap)).run P E.w.drew=.ok olds.toArray E.w.drew:=by
   rcases HE.obj id _ hid with⟨k,N⟩|⟨b,M,k,N,e3,e4,O⟩
   ·subst N
    refine⟨[],by simp[ad],by simp,by simp,(fun r hr=>by cases hr),?_⟩;cases base<;>simp[ia,loadCells,loadCellsFrom]
   ·obtain ⟨_, o, Y, R⟩ := q2 b M k
    simp only[j0,jC]at R;obtain⟨rfl,_,rfl⟩:=R;by_cases hM:0<cap
    ·have ho := Y hM
     rw[r7]at ho;subst ho;obtain⟨vs,g1,g2,g3⟩:=yJ (P:=P) (cap:=cap) O (HE.lt id b cap k).1;exact⟨vs,g1,g2,C1 O,e4,g3 _ hcells⟩
    ·have:rows=[]:=by
      cases rows with
      |nil=>rfl
      |cons a l=>simp at hcap; omega
     subst this;exact⟨[],by simp[ad],by simp,by simp,fun r hr=>by(cases hr),by simp[ia,loadCells,loadCellsFrom]⟩
  obtain⟨olds,g1,g2,g3,g4,g5⟩:=holds;obtain⟨C,hC,hrun⟩:=Jy (P:=P) (w:=E.w) (ty:=ty) (base:=base) (n:=rows.length) (cap:=cap) (m:=new.length) (x:=cx) (olds:=olds) hu hd1 hd2 hi hs hz1 (g.len E.w) (by omega)
   g5 (g.cells _ hcells) (by omega) (by omega)
  generalize hrest:(x9 zv.cells (C-(rows.length+new.length))).toList=rest at hrun;have hrl:rest.length=(C-(rows.length+new.length))*sz:=by
   rw[←hrest];simp only[kT,size_zeroCells];rw[←hzl,←hz2];simp
  generalize hw':E.w.drew.alloc (.cells (olds++news++rest).toArray e)=w' at hrun;have U:Ext E.w w':=by rw[←hw']; exact JA _ _
  have hblk:w'.heap[E.w.heap.size]? = some (.cells (olds++news++rest).toArray e (0,0)):=by rw[←hw']; exact JB _ _
  have hltw:E.w.heap.size<w'.heap.size:=(Array.getElem?_eq_some_iff.1 hblk).1;have hle:E.le { w:=w',H:=E.H.set id (.vec sz (ae+1) (rows++new)),loc:=E.loc.set id (some (E.w.heap.size,C)),X:=E.X } :=
   Env.la hid HE.len U.size (fun x q _=>U.same x q) (fun b n h=>by cases h; exact .inl (aI _)) (.inr F) J I
  have hall:∀ r∈rows++new,r.length=sz:=by
   intro r hr;rcases bV.1 hr with h|h
   ·exact g3 r h
   ·exact g.wide r h
  have hlocs:(E.loc.set id (some (E.w.heap.size,C)))[id]? = some (some (E.w.heap.size,C)):=cr (by rw[HE.len]; exact W);have hrow:=C2 (E:=E) (E':={ w:=w',H:=E.H.set id (.vec sz (ae+1) (rows++new)),loc:=E.loc.set id (some (E.w.heap.size,C)),X:=E.X })
   (rows:=rows++new) (vals:=olds++news) (m:=rows.length+new.length) (fun a c hr=>cC hle a hr) hblk
   (by rw[ya]; exact jd g1 g.rel)
   (by intro x q; rcases bV.1 q with h|h; exact g2 x h; exact g.one x h) hall (by simp) hC hrl
  refine⟨_,w',hrun,E.loc.set id (some (E.w.heap.size,C)),E.X.r,?_,?_,hle⟩
  ·simp only [rel]
   refine⟨⟨_,_,rfl,hC,fun _=>⟨_,_,rfl⟩⟩,hpast' _ _,fun _=>⟨fun hn=>?_,fun b' M hn=>?_⟩⟩
   ·rw[hlocs]at hn; cases hn
   ·rw [hlocs] at hn
    simp only[aT,aZ]at hn;obtain⟨rfl,rfl⟩:=hn;exact⟨by omega,0,fun _=>by simp,by simp⟩
  ·refine ar.ni HE hid U.size (fun x q _ => U.same x q) (fun b n h => by cases h; exact .inl ⟨aI _, hltw⟩) (.inr F) J I ?_
   simp only[aO];right;refine⟨E.w.heap.size,C,hlocs,hrow.1,by simpa using hC,?_,hrow.2⟩;intro r hr;rcases bV.1 hr with h|h
   ·exact g4 r h
   ·exact g.closed r h
theorem T7{P:Program}{E:Env}(HE:ar E){t xt ty:TypeId}{s x v:AV}{H':List af}{c B:Value}(h:sE P t xt s x E.H=some (v,H'))
  (d:rel E s c) (N:rel E x B):∃ u w',(mX #[t,xt] ty #[c,B]).run P E.w=.ok u w'∧dh E v H' u w':=by
 unfold sE at h;split at h
 case h_2=>cases h
 rename_i e sz bK hk;split at h
 case h_2=>cases h
 rename_i z new q J I;split at h
 case isFalse=>cases h
 rename_i hc;obtain⟨h1,F,A⟩:=hc;obtain⟨news,g⟩:=T0 (P:=P) HE I N (T5 J);split at h
 ·cases h
  simp only[rel]at d;obtain⟨base,rfl⟩:=d;exact JE HE hk q g F A h1
 ·cases h
  simp only[rel]at d;subst d;exact JE HE hk q g F A h1
 ·split at h
  case h_2=>cases h
  rename_i k v rows hid;split at h
  case isFalse=>cases h
  rename_i M;obtain⟨rfl,rfl,rfl,rfl,rfl,O⟩:=M;cases h;exact T6 HE hk q g O A h1 hid d
 ·cases h
end Go.AL

namespace Go.AL
open Go
variable [Dr]
theorem JF{w w':World}{b off:Nat}{cur:Array Value}{vals:List Value}{el:TypeId}{fr:Nat × Nat}(hblk:w.heap[b]? = some (.cells cur el fr))
  (g:w'.heap[b]? = some (.cells (cur.toList.take off++vals++cur.toList.drop (off+vals.length)).toArray el fr)) (q:off+vals.length≤cur.size) (i:Nat) :
  w'.cell? ⟨b,i,none⟩=if off≤i∧i<off+vals.length then vals[i-off]? else w.cell? ⟨b,i,none⟩:=by
 simp only[rW,hblk,g,Option.isSome_none,mU,if_false,List.getElem?_toArray,gy,fD,iX,kT,
  mT,rY]
 have h1:min off cur.size=off:=by omega
 rw[h1];by_cases c1:i<off
 ·have c2 : ¬ (off ≤ i ∧ i < off + vals.length) := by omega
  have d:i<off+vals.length:=by omega
  rw[if_neg c2];simp[c1,d]
 ·by_cases c2 : i < off + vals.length
  ·have d : off ≤ i ∧ i < off + vals.length := by omega
   simp[c1,c2,d]
  ·have d : ¬ (off ≤ i ∧ i < off + vals.length) := by omega
   have k:off+vals.length+(i-(off+vals.length))=i:=by omega
   rw[if_neg c2,if_neg d,k];simp
theorem C5{E E':Env}{b o col:Nat}{cur:Array Value}{as cs:List AV}{vals:List Value}{el:TypeId}{fr:Nat × Nat}(d:∀ a c,rel E a c→rel E' a c)
  (hblk:E.w.heap[b]? = some (.cells cur el fr))
  (q:E'.w.heap[b]? = some (.cells (cur.toList.take (o+col)++vals++cur.toList.drop (o+col+vals.length)).toArray el fr)) (k:o+col+vals.length≤cur.size)
  (hr:ca E as b o) (g:ad E cs vals) (h1:∀ x∈vals,dB x=true) (A:col+cs.length≤as.length) :
  ca E' (as.take col++cs++as.drop (col+cs.length)) b o:=by
 have hlen:=fv g;rw[jb]at hr⊢;intro i a hi;rw[JF hblk q k];simp only[gy,fD,iX,mT,rY]at hi;have hm:min col as.length=col:=by omega
 rw[hm]at hi;by_cases c1:i<col
 ·have c2 : i < col + cs.length := by omega
  rw[if_pos c2,if_pos c1,if_pos c1]at hi;obtain⟨v,g1,g2,g3⟩:=hr i a hi;exact⟨v,by rw[if_neg (by omega)]; exact g1,g2,d _ _ g3⟩
 ·by_cases c2 : i < col + cs.length
  ·rw [if_pos c2, if_neg c1] at hi
   obtain⟨v,g1,g2⟩:=np g hi;refine⟨v,?_,h1 v (fK g1),d _ _ g2⟩;rw[if_pos (by omega),←g1];congr 1;omega
  ·rw [if_neg c2] at hi
   have:col+cs.length+(i-(col+cs.length))=i:=by omega
   rw[this]at hi;obtain⟨v,g1,g2,g3⟩:=hr i a hi;exact⟨v,by rw[if_neg (by omega)]; exact g1,g2,d _ _ g3⟩
theorem Env.oI{E:Env}{w':World}{id b n:Nat}{o o':af}(HE:ar E)(hid:E.H[id]? = some o) (g:E.loc[id]? = some (some (b,n)))
  (k:∀ v,o'.aH = some v→o.aH = some v) (F:w'.heap.size=E.w.heap.size) (q:∀ x,x≠b→w'.heap[x]? = E.w.heap[x]?) (A:dq E.w w':=by first|exact⟨rfl,rfl,rfl,by first|exact fun _=>aI _|exact fun _=>eL _ _⟩|assumption|exact Ext.env (by assumption)) :
  E.le { w:=w',H:=E.H.set id o',loc:=E.loc,X:=E.X }:=by
 have h:=Env.la (w':=w') (o':=o') (l:=some (b,n)) hid HE.len (by omega) (fun x _ B=>q x (fun e=>B n (by rw[e]; exact g))) (fun I J h=>by cases h; exact .inr ⟨n,g⟩)
  (.inl fun v d => ⟨k v d, g⟩) (fun v u d hu => by rw [k v d] at hu; cases hu; exact aI _) (fun hn => by
   cases d:o'.aH with
   |none=>rfl
   |some v=>rw[k v d]at hn; cases hn) A
 rwa [mf g]at h
theorem ar.set{E:Env}{w':World}{id b n:Nat}{o o':af}(HE:ar E)(hid:E.H[id]? = some o) (d:E.loc[id]? = some (some (b,n)))
  (k:∀ v,o'.aH = some v→o.aH = some v) (I:w'.heap.size=E.w.heap.size) (q:∀ x,x≠b→w'.heap[x]? = E.w.heap[x]?)
  (F:aO { w:=w',H:=E.H.set id o',loc:=E.loc,X:=E.X } id o') (A:dq E.w w':=by first|exact⟨rfl,rfl,rfl,by first|exact fun _=>aI _|exact fun _=>eL _ _⟩|assumption|exact Ext.env (by assumption)) (hlab:o.label=none:=by first|rfl|assumption) (J:o'.label=none:=by first|rfl|assumption):ar { w:=w',H:=E.H.set id o',loc:=E.loc,X:=E.X }:=by
 have h:=ar.ni (w':=w') (o':=o') (l:=some (b,n)) HE hid (by omega) (fun x _ B=>q x (fun e=>B n (by rw[e]; exact d))) (fun M N h=>by cases h; exact .inr ⟨n,d⟩)
  (.inl fun v g => ⟨k v g, d⟩) (fun v u g hu => by rw [k v g] at hu; cases hu; exact aI _) (fun hn => by
   cases g:o'.aH with
   |none=>rfl
   |some v=>rw[k v g]at hn; cases hn) (by rw[mf d]; exact F) A
 rwa [mf d]at h
def putCells(as cs:List AV)(col:Nat):List AV:=as.take col++cs++as.drop (col+cs.length)
def sG(P:Program)(t:TypeId)(x v:AV)(H:List af):Option (List af) :=
 match eo P t,qi v,x with
 | some (n,_),some cs,.ptr id ae w row col =>
  if cs.length=n then
   match H[id]? with
   |some (.box cells)=>if ae=0∧row=0∧col+n≤cells.length then some (H.set id (.box (putCells cells cs col))) else none
   | some (.vec k u rows) =>
    if ae=u∧k=w∧AV.bf cs=true then
     match rows[row]? with
     |some r=>if col+n≤r.length then some (H.set id (.vec k u (rows.set row (putCells r cs col)))) else none
     |none=>none
    else none
   |_=>none
  else none
 |_,_,_=>none
theorem JG{as cs:List AV}{col:Nat}(h:col+cs.length≤as.length):(putCells as cs col).length=as.length:=by
 simp[putCells]; omega
theorem C6:∀(a b:List AV),AV.bf (a++b)=(AV.bf a&&AV.bf b)
 | [],b=>by simp[AV.bf]
 |x::a,b=>by simp[AV.bf,C6 a b,aii]
theorem JH{P:Program}{E:Env}(HE:ar E){t:TypeId}{x v:AV}{c d:Value}{H':List af}(h:sG P t x v E.H=some H')(N:rel E x c)(B:rel E v d) :
  ∃ w',(IL t c d).run P E.w=.ok () w'∧ar { w:=w',H:=H',loc:=E.loc,X:=E.X }∧E.le { w:=w',H:=H',loc:=E.loc,X:=E.X }:=by
 unfold sG at h;split at h
 case h_2=>cases h
 rename_i n ag cs id ae w row col ht hcs;obtain⟨i,dd,hi,hd,hs,ha⟩:=l_ ht;obtain⟨hrel,h1⟩:=CW hcs B;split at h
 case isFalse=>cases h
 rename_i hn;have hlen:=fv hrel;have hsz:d.cells.size=n:=by rw[←hn,hlen]; simp
 simp only[rel]at N;obtain⟨_,hpast,hlive⟩:=N;split at h
 ·rename_i cells hid
  split at h
  case isFalse=>cases h
  rename_i hc;obtain⟨rfl,rfl,hcol⟩:=hc;cases h;obtain⟨b,m,F,rfl⟩:=hlive ⟨_,hid,rfl⟩;obtain⟨b',m',J,⟨cur,el,hblk,W⟩,e3⟩:=HE.obj id _ hid;rw[F]at J;cases J;have g:col+0+d.cells.toList.length≤cur.size:=by rw[W]; simp; omega
  have I:=run_storeCells_at P b col el d.cells.toList 0 cur E.w hblk g (fun v B=>by rw[yG]; exact h1 v B);simp only[mY]at I g;generalize A:E.w.setRow b (cur.toList.take col++d.cells.toList++cur.toList.drop (col+d.cells.toList.length)).toArray=w' at I;have O:w'.heap.size=E.w.heap.size:=by rw[←A]; exact setRow_size _ _ _
  have henv:dq E.w w':=by rw[←A]; exact⟨rfl,rfl,rfl,by first|exact fun _=>aI _|exact fun _=>eL _ _⟩
  have R:∀ x,x≠b→w'.heap[x]? = E.w.heap[x]? := by intro x N; rw[←A]; exact setRow_other _ _ _ _ N
  have M:w'.heap[b]? = some (.cells (cur.toList.take col++d.cells.toList++cur.toList.drop (col+d.cells.toList.length)).toArray el (0,0)):=by
   rw[←A]; exact setRow_heap E.w b cur _ el (0,0) hblk
  have U:∀ v,(af.box (putCells cells cs col)).aH = some v→(af.box cells).aH = some v:=fun v B=>by simpa[af.aH]using B
  have hle:=Env.oI (o':=.box (putCells cells cs col)) HE hid F U O R;refine⟨w',?_,ar.set HE hid F U O R ?_,hle⟩
  ·simp only [IL, nZ, cf, gR, cB, storeVar, Sem.run_sizeOf hi, hs, r7, dO]
   rw[if_neg (by omega)];exact I
  ·simp only [aO]
   refine⟨b,m,F,⟨_,el,M,?_⟩,?_⟩
   ·rw [JG (by omega)]
    simp only[x_,fD,iX,oe,kT]at g⊢;omega
   ·exact C5 (o:=0) (col:=col) (fun a c hr=>cC hle a hr) hblk (by simpa using M) (by simpa using g) e3 hrel h1 (by omega)
 ·rename_i k u rows hid
  split at h
  case isFalse=>cases h
  rename_i hc;obtain⟨rfl,rfl,hclosed⟩:=hc;split at h
  case h_2=>cases h
  rename_i r Y;split at h
  case isFalse=>cases h
  rename_i hcol;cases h;obtain⟨b,m,F,rfl⟩:=hlive ⟨_,hid,rfl⟩;rcases HE.obj id _ hid with⟨_,J⟩|⟨b',m',J,⟨cur,el,hblk,W⟩,e3,e4,e5⟩
  ·subst J; simp at Y
  rw[F]at J;cases J;have hrlt:=aJ Y;obtain⟨hrk,hrc⟩:=ma e5 Y;rw[dO]at hrc;have hrow1:(row+1)*k≤m*k:=uM _ (by omega);rw[fq,Co]at hrow1;have g:row*k+col+0+d.cells.toList.length≤cur.size:=by rw[W]; simp; omega
  have I:=run_storeCells_at P b (row*k+col) el d.cells.toList 0 cur E.w hblk g (fun v B=>by rw[yG]; exact h1 v B);simp only[mY]at I g;generalize A:E.w.setRow b (cur.toList.take (row*k+col)++d.cells.toList++cur.toList.drop (row*k+col+d.cells.toList.length)).toArray=w' at I;have O:w'.heap.size=E.w.heap.size:=by rw[←A]; exact setRow_size _ _ _
  have henv:dq E.w w':=by rw[←A]; exact⟨rfl,rfl,rfl,by first|exact fun _=>aI _|exact fun _=>eL _ _⟩
  have R:∀ x,x≠b→w'.heap[x]? = E.w.heap[x]? := by intro x N; rw[←A]; exact setRow_other _ _ _ _ N
  have M:w'.heap[b]? = some (.cells (cur.toList.take (row*k+col)++d.cells.toList++cur.toList.drop (row*k+col+d.cells.toList.length)).toArray el (0,0)):=by
   rw[←A]; exact setRow_heap E.w b cur _ el (0,0) hblk
  have U:∀ v,(af.vec k ae (rows.set row (putCells r cs col))).aH = some v→(af.vec k ae rows).aH = some v:=fun v B=>by simpa[af.aH]using B
  have hle:=Env.oI (o':=.vec k ae (rows.set row (putCells r cs col))) HE hid F U O R;refine⟨w',?_,ar.set HE hid F U O R ?_,hle⟩
  ·simp only [IL, nZ, cf, gR, cB, storeVar, Sem.run_sizeOf hi, hs]
   rw[if_neg (by omega)];exact I
  ·simp only [aO]
   right;refine⟨b,m,F,⟨_,el,M,?_⟩,by simpa using e3,?_,?_⟩
   ·simp only [x_, fD, iX, oe, kT, W] at g ⊢
    omega
   ·intro r' hr'
    rcases List.mem_or_eq_of_mem_set hr' with h'|h'
    ·exact e4 r' h'
    ·rw [h', putCells, C6, C6]
     have:=e4 r (fK Y);simp[yA _ _ this,uY _ _ this,hclosed]
   ·rw [l6] at e5 ⊢
    intro j r' hj;rw[e_]at hj;split at hj
    ·rename_i ej
     subst ej;cases hj;refine⟨by rw[JG (by omega)]; exact hrk,?_⟩;rw[dO];exact C5 (fun a c hr=>cC hle a hr) hblk M g hrc hrel h1 (by omega)
    ·rename_i ej
     obtain⟨g1,g2⟩:=e5 j r' hj;refine⟨g1,?_⟩;rw[jb]at g2⊢;intro q a hq;obtain⟨vv,p1,p2,p3⟩:=g2 q a hq;refine⟨vv,?_,p2,cC hle a p3⟩;have hql:=aJ hq;rw[JF hblk M g,if_neg]
     ·exact p1
     ·rcases Nat.lt_or_gt_of_ne ej with hlt | hgt
      ·have : (row + 1) * k ≤ j * k := uM _ (by omega)
       rw[fq,Co]at this;simp only[kT];omega
      ·have : (j + 1) * k ≤ row * k := uM _ (by omega)
       rw[fq,Co]at this;omega
 ·cases h
theorem JI{E:Env}(HE:ar E){cells:List AV}{vals:Array Value}{el:TypeId}(hr:ad E cells vals.toList)(h1:∀ x∈vals.toList,dB x=true) :
  dh E (.ptr E.H.length 0 0 0 0) (E.H++[.box cells]) (.pointer (some ⟨E.w.heap.size,0,none⟩)) { E.w with heap:=E.w.heap.push (.cells vals el) }:=by
 have g:=Ext.push E.w (.cells vals el);have hle:=Env.jJ (o:=.box cells) (l:=some (E.w.heap.size,0)) HE.len g (fun b n d=>by cases d; exact aI _);have hblk:(E.w.heap.push (.cells vals el))[E.w.heap.size]? = some (.cells vals el (0,0)):=by simp
 have k:ad (E.push { E.w with heap:=E.w.heap.push (.cells vals el) } (.box cells) (some (E.w.heap.size,0))) cells vals.toList:=eM hle _ hr;refine⟨E.loc++[some (E.w.heap.size,0)],E.X.r,?_,ar.push HE g (fun b n d=>?_) ?_,hle⟩
 ·simp only [rel]
  refine⟨⟨_,_,rfl⟩,⟨.box cells,by simp,fun v q=>by simp⟩,fun _=>⟨E.w.heap.size,0,?_,by simp⟩⟩;rw[←HE.len]; simp
 ·cases d
  exact⟨aI _,by simp⟩
 ·simp only [aO]
  refine⟨E.w.heap.size,0,?_,⟨vals,el,hblk,?_⟩,CZ (cs:=vals) (el:=el) (fr:=(0,0)) hblk k h1⟩
  ·simp only[Env.push]; rw[←HE.len]; simp
  ·have := fv hr
   simpa using this.symm
def yK(P:Program)(t:TypeId):Option TypeId:=match eF P t with
 | some [.pointer none,.slice none 0 0]=>match P.underlying t with
  | some (.struct d)=>match d[1]? with
   | some fd=>match P.underlying fd.type with
    | some (.slice e)=>match P.underlying e with
     |some (.int .u8)=>some e
     |_=>none
    |_=>none
   |none=>none
  |_=>none
 |_=>none
theorem T8{P:Program}{t e:TypeId}(h:yK P t=some e):eF P t=some [.pointer none,.slice none 0 0]:=by
 unfold yK at h;split at h
 ·assumption
 ·cases h
def sH(H:List af)(l:Nat):Bool:=H.all fun o=>match o.label with
 |some k => !ab k l
 |none=>true
theorem C7{H:List af}{l:Nat}(h:sH H l=true)(i:Nat)(o:af)(hi:H[i]? = some o):o.label≠some l:=fun e=>by
 have:=dX.1 h o (fK hi);rw[e]at this;simp at this
theorem T9{E:Env}(HE:ar E){t e:TypeId}(d:sH E.H 0=true) :
  dh E (.ptr E.H.length 0 0 0 0) (E.H++[.eQ 0 t e x4]) (.pointer (some ⟨E.w.heap.size,0,none⟩)) { E.w with heap:=E.w.heap.push (.cells #[.pointer none,.slice none 0 0] t) }:=by
 have k:=Ext.push E.w (.cells #[.pointer none,.slice none 0 0] t);obtain⟨h1,q⟩:=ar.TH (o:=.eQ 0 t e x4) (l:=some (E.w.heap.size,0)) (l0:=0) HE k (fun b n A=>by cases A; exact⟨aI _,by simp⟩) rfl (C7 d) (by
  simp only[aO];refine⟨E.w.heap.size,0,.pointer none,.slice none 0 0,(E.X.r 0).length,none,?_,?_,.inl rfl,?_,?_,⟨rfl,rfl⟩⟩
  ·rw[←HE.len]; simp
  ·simp
  ·simp[ig,XS.re]
  ·intro h' q' B
   rcases CJ (show (ig E.X.r 0 0)[h']? = some (some q') from B)with g|⟨_,g,_⟩
   ·exact(HE.gT 0 (C7 d) h' q' g).elim
   ·exact g)
 refine⟨E.loc++[some (E.w.heap.size,0)],ig E.X.r 0,?_,h1,q⟩;simp only[rel];refine⟨⟨_,_,rfl⟩,⟨.eQ 0 t e x4,by simp,fun v F=>by simp⟩,fun _=>⟨E.w.heap.size,0,?_,by simp⟩⟩;rw[←HE.len]; simp
def qk(P:Program)(t:TypeId)(H:List af):Option (AV × List af) :=
 match yK P t with
 |some e=>if sH H 0=true then some (.ptr H.length 0 0 0 0,H++[.eQ 0 t e x4]) else none
 | none=>match eF P t with
  |some z=>some (.ptr H.length 0 0 0 0,H++[.box (z.map .lit)])
  |none=>none
theorem T_{P:Program}{E:Env}(HE:ar E){t:TypeId}{v:AV}{H':List af}(h:qk P t E.H=some (v,H')) :
  ∃ u w',(Cp t true (.tuple #[])).run P E.w=.ok u w'∧dh E v H' u w':=by
 unfold qk at h;split at h
 ·rename_i e he
  split at h
  case isFalse=>cases h
  rename_i B;cases h;obtain⟨i,g,h1,k,d,A⟩:=mc (T8 he);have q:g.cells=#[.pointer none,.slice none 0 0]:=eT (by simpa using d);refine⟨_,_,?_,T9 HE (t:=t) (e:=e) B⟩;simp[Cp,me h1 k,newVar,newRow,q]
 split at h
 ·rename_i z q
  cases h;obtain⟨i,g,h1,k,d,A⟩:=mc q;refine⟨_,_,?_,JI HE (vals:=g.cells) (el:=t) (by rw[d]; exact oC z) (by rw[d]; exact A)⟩;simp[Cp,me h1 k,newVar,newRow]
 ·cases h
def zc:Option (List Kd)→Value→AV
 |some ks,.slice none 0 0=>.listF ks []
 |_,v=>.lit v
def dD:List (Option (List Kd))→List Value→List AV
 |_,[]=>[]
 | [],v::z=>.lit v::dD [] z
 |a::m,v::z=>zc a v::dD m z
theorem yL:∀(m:List (Option (List Kd))) (z:List Value),(dD m z).length=z.length
 | [],[]=>rfl
 |_::_,[]=>rfl
 | [],v::z=>by simp[dD,yL [] z]
 |a::m,v::z=>by simp[dD,yL m z]
theorem Ua{E:Env}(a:Option (List Kd))(v:Value):rel E (zc a v) v:=by
 unfold zc;split
 ·simp only [rel, dC]
  exact⟨none,0,rfl,aI _,.inl rfl⟩
 ·simp[rel]
theorem C8{E:Env}:∀(m:List (Option (List Kd))) (z:List Value),ad E (dD m z) z
 | [],[]=>by simp[dD,ad]
 |_::_,[]=>by simp[dD,ad]
 | [],v::z=>by simp only[dD,ad]; exact⟨by simp[rel],C8 [] z⟩
 |a::m,v::z=>by simp only[dD,ad]; exact⟨Ua a v,C8 m z⟩
theorem Ub(a:Option (List Kd))(v:Value):(zc a v).closed=true:=by
 unfold zc;split<;>rfl
theorem C9:∀(m:List (Option (List Kd))) (z:List Value),AV.bf (dD m z)=true
 | [],[]=>rfl
 |_::_,[]=>rfl
 | [],v::z=>by simp[dD,AV.bf,AV.closed,C9 [] z]
 |a::m,v::z=>by simp[dD,AV.bf,Ub,C9 m z]
def oJ(P:Program)(t:TypeId)(id:Nat) (m:List (Option (List Kd))) (H:List af):Option (AV × List af) :=
 match eF P t,H[id]? with
 |some z,some (.vec k 0 [])=>if k=z.length then some (.ptr id 1 k 0 0,H.set id (.vec k 1 [dD m z])) else none
 |_,_=>none
theorem Uc{E:Env}(HE:ar E){id k:Nat}{cells:List AV}{vals:Array Value}{el:TypeId}(hid:E.H[id]? = some (.vec k 0 []))(hr:ad E cells vals.toList)(h1:∀ x∈vals.toList,dB x=true)(hk:cells.length=k)
  (M:AV.bf cells=true) :
  dh E (.ptr id 1 k 0 0) (E.H.set id (.vec k 1 [cells])) (.pointer (some ⟨E.w.heap.size,0,none⟩)) { E.w with heap:=E.w.heap.push (.cells vals el) }:=by
 have g:=Ext.push E.w (.cells vals el);have I:=aJ hid;have A:∀ v,(af.vec k 1 [cells]).aH = some v→∀ u,(af.vec k 0 []).aH = some u→u<v:=by
  intro v d u hu;simp[af.aH]at d hu;omega
 have J:∀ v u,(af.vec k 1 [cells]).aH = some v→(af.vec k 0 []).aH = some u→u≤v:=by
  intro v u d hu;simp[af.aH]at d hu;omega
 have B:(af.vec k 0 []).aH = none→(af.vec k 1 [cells]).aH = none:=by simp[af.aH]
 have hle:E.le { w:={ E.w with heap:=E.w.heap.push (.cells vals el) },H:=E.H.set id (.vec k 1 [cells]),loc:=E.loc.set id (some (E.w.heap.size,1)),X:=E.X } :=
  Env.la hid HE.len g.size (fun x q _=>g.same x q) (fun b n h=>by cases h; exact .inl (aI _)) (.inr A) J B
 have hblk:(E.w.heap.push (.cells vals el))[E.w.heap.size]? = some (.cells vals el (0,0)):=by simp
 have F:(E.loc.set id (some (E.w.heap.size,1)))[id]? = some (some (E.w.heap.size,1)):=cr (by rw[HE.len]; exact I);have N:=eM hle _ hr;refine⟨E.loc.set id (some (E.w.heap.size,1)),E.X.r,?_,?_,hle⟩
 ·simp only [rel]
  refine⟨⟨_,_,rfl⟩,⟨.vec k 1 [cells],by simp[I],fun v d=>by simp[af.aH]at d; omega⟩,fun _=>⟨E.w.heap.size,1,F,by simp⟩⟩
 ·refine ar.ni HE hid g.size (fun x q _ => g.same x q) (fun b n h => by cases h; exact .inl ⟨aI _, by simp⟩) (.inr A) J B ?_
  simp only[aO];right;refine⟨E.w.heap.size,1,F,⟨vals,el,hblk,?_⟩,by simp,?_,?_⟩
  ·have := fv hr
   rw[Co,←hk];simpa using this.symm
  ·intro r hr
   simp at hr;rw[hr];exact M
  ·simp only [cL, and_true]
   exact⟨hk,CZ (cs:=vals) (el:=el) (fr:=(0,0)) hblk N h1⟩
theorem Ud{P:Program}{E:Env}(HE:ar E){t:TypeId}{id:Nat}{m:List (Option (List Kd))}{v:AV}{H':List af}(h:oJ P t id m E.H=some (v,H')) :
  ∃ u w',(Cp t true (.tuple #[])).run P E.w=.ok u w'∧dh E v H' u w':=by
 unfold oJ at h;split at h
 ·rename_i z k g hid
  split at h
  ·rename_i hk
   cases h;obtain⟨i,q,h1,A,d,B⟩:=mc g;refine⟨_,_,?_,Uc HE (vals:=q.cells) (el:=t) hid (by rw[d]; exact C8 m z) (by rw[d]; exact B) (by rw[yL,hk]) (C9 m z)⟩;simp[Cp,me h1 A,newVar,newRow]
  ·cases h
 ·cases h
def yM(v:AV)(H:List af):Option (AV × List af) :=
 match qi v with
 |some cs=>some (.ptr H.length 0 0 0 0,H++[.box cs])
 |none=>none
theorem Ue{P:Program}{E:Env}(HE:ar E){t:TypeId}{x v:AV}{c:Value}{H':List af}(h:yM x E.H=some (v,H'))(g:rel E x c) :
  ∃ u w',(air t c).run P E.w=.ok u w'∧dh E v H' u w':=by
 unfold yM at h;split at h
 ·rename_i cs d
  cases h;obtain⟨h1,k⟩:=CW d g;refine⟨_,_,?_,JI HE (vals:=c.cells) (el:=t) h1 k⟩;simp[air,newVar,newRow]
 ·cases h
theorem JJ{E:Env}(HE:ar E){sz n C:Nat}{rows:List (List AV)}{vals rest:List Value}{el:TypeId}(hr:ad E rows.flatten vals)(h1:∀ x∈vals,dB x=true)
  (hw:∀ r∈rows,r.length=sz) (A:fa rows) (hn:rows.length=n) (hC:n≤C) (q:rest.length=(C-n)*sz) :
  dh E (.vec sz E.H.length 0 0 n) (E.H++[.vec sz 0 rows]) (.slice (some ⟨E.w.heap.size,0,none⟩) n C) { E.w with heap:=E.w.heap.push (.cells (vals++rest).toArray el) }:=by
 have g:=Ext.push E.w (.cells (vals++rest).toArray el);have hle:=Env.jJ (o:=.vec sz 0 rows) (l:=some (E.w.heap.size,C)) HE.len g (fun b n d=>by cases d; exact aI _);have hblk:(E.w.heap.push (.cells (vals++rest).toArray el))[E.w.heap.size]? = some (.cells (vals++rest).toArray el (0,0)):=by simp
 have k:=C2 (E':=E.push { E.w with heap:=E.w.heap.push (.cells (vals++rest).toArray el) } (.vec sz 0 rows) (some (E.w.heap.size,C))) (fun a c hr=>cC hle a hr) hblk hr h1 hw hn hC q;refine⟨E.loc++[some (E.w.heap.size,C)],E.X.r,?_,ar.push HE g (fun b n d=>?_) ?_,hle⟩
 ·simp only [rel]
  refine⟨⟨_,_,rfl,hC,fun _=>⟨_,_,rfl⟩⟩,⟨.vec sz 0 rows,by simp,fun v B=>by simp[af.aH]at B; omega⟩,fun _=>⟨fun hn=>?_,fun b M hn=>?_⟩⟩
  ·rw[←HE.len]at hn; simp at hn
  ·rw [← HE.len] at hn
   simp at hn;obtain⟨rfl,rfl⟩:=hn;exact⟨by omega,0,fun _=>by simp,by simp⟩
 ·cases d
  exact⟨aI _,by simp⟩
 ·simp only [aO]
  right;refine⟨E.w.heap.size,C,?_,k.1,by omega,A,k.2⟩;simp only[Env.push];rw[←HE.len];simp
theorem range_zero(z:Array Value)(n:Nat)(q:0<z.size):((gz (n*z.size)).map (fun i=>z[i%z.size]!)).toList=(cI n z.toList).flatten:=by
 induction n with
 |zero=>simp
 | succ n g =>
  rw[List.replicate_succ',ya,←g];simp only[uL,List.flatten_nil,gS];apply mW;intro i;simp only[S2,Array.toList_range,cq,gy,bF,List.length_range];by_cases c1:i<n*z.size
  ·have c2 : i < (n + 1) * z.size := by rw [fq]; omega
   simp[c1,c2]
  ·by_cases c2 : i < (n + 1) * z.size
   ·have d : i - n * z.size < z.size := by rw [fq] at c2; omega
    have k:i%z.size=i-n*z.size:=by
     have:i=i-n*z.size+n*z.size:=by omega
     rw[this,Nat.add_mul_mod_self_right,Nat.mod_eq_of_lt d];omega
    simp[c1,c2,k,d]
   ·have d : ¬ (i - n * z.size < z.size) := by rw [fq] at c2; omega
    simp[c1,c2,d]
theorem JK(f:Nat→Value):IM f (gz 0)=#[]:=by apply eT; simp
def Uf:Value→Option Kd
 |.int k _=>some (.int k)
 |.string _=>some .str
 |.bool _=>some .bool
 |_=>none
def C_:List Value→Option (List Kd)
 | []=>some []
 | v::vs=>match Uf v,C_ vs with
  |some k,some ks=>some (k::ks)
  |_,_=>none
def C'(P:Program)(t:TypeId):Option (List Kd):=match P.underlying t with
 | some (.slice e)=>match P.info? e with
  | some i=>match i.zero with
   |some (.agg cs)=>C_ cs.toList
   |some v=>C_ [v]
   |none=>none
  |none=>none
 |_=>none
def Da(P:Program):Nat→TypeId→List TypeId
 |0,t=>[t]
 | d+1,t=>match P.underlying t with
  |some (.struct g)=>(g.toList.map fun f=>Da P d f.type).flatten
  |some (.array n e)=>(cI n (Da P d e)).flatten
  |_=>[t]
def nq:List Value→List (Option (List Kd))→List AV
 | [],_=>[]
 | v::vs,ks=>(match v,ks.headD none with
  |.slice none 0 0,some k=>.listF k []
  |v,_=>.lit v)::nq vs ks.tail
def yN(P:Program)(e:TypeId)(z:List Value):List AV:=nq z ((Da P 4 e).map (C' P))
theorem JL:∀(z:List Value) (ks:List (Option (List Kd))),(nq z ks).length=z.length
 | [],_=>rfl
 |_::z,ks=>by simp[nq,JL z]
theorem JM{E:Env}:∀(z:List Value) (ks:List (Option (List Kd))),ad E (nq z ks) z
 | [],_=>by simp[nq,ad]
 | v::z,ks=>by
  simp only[nq,ad];refine⟨?_,JM z _⟩;split
  ·simp only [rel, dC, G.rows]
   exact⟨none,0,rfl,aI _,.inl (by first|rfl|trivial)⟩
  ·simp[rel]
theorem JN:∀(z:List Value) (ks:List (Option (List Kd))),AV.bf (nq z ks)=true
 | [],_=>rfl
 | v::z,ks=>by
  simp only[nq,AV.bf,JN z,dZ];split<;>rfl
theorem JO{E:Env}{as:List AV}{z:List Value}(h:ad E as z):∀ n:Nat,ad E (cI n as).flatten (cI n z).flatten
 |0=>by simp[ad]
 | n+1=>by
  simp only[S4,uL];exact jd h (JO h n)
def vc(P:Program)(t:TypeId)(l c:AV)(H:List af):Option (AV × List af) :=
 match bY P t,l,c with
 | .slice e sz bK,.lit (.int _ l),.lit (.int _ c) =>
  match eF P e with
  | some z=>if z.length=sz∧0<sz∧0≤l∧l≤c∧c≤1048576∧bK≤1048576 then
    some (.vec sz H.length 0 0 l.toNat,H++[.vec sz 0 (cI l.toNat (yN P e z))]) else none
  |none=>none
 |_,_,_=>none
theorem wrap_small{n:Int}(h0:0≤n)(h1:n≤1048576):IntKind.i64.wrap n=n:=by
 simp[IntKind.wrap,IntKind.bits,IntKind.signed];omega
theorem vd{E:Env}(z:List Value):∀ n:Nat,ad E (cI n (z.map AV.lit)).flatten (cI n z).flatten
 |0=>by simp[ad]
 | n+1=>by
  simp only[S4,uL];exact jd (oC z) (vd z n)
theorem ve{α:Type}{z:List α}{n:Nat}{x:α}(h:x∈(cI n z).flatten):x∈z:=by
 obtain⟨l,h1,d⟩:=List.mem_flatten.1 h;rw[S5 h1]at d;exact d
theorem Db:∀(z:List Value),AV.bf (z.map .lit)=true
 | []=>rfl
 |v::z=>by simp[AV.bf,AV.closed,Db z]
theorem Ug{P:Program}{E:Env}(HE:ar E){t:TypeId}{l c v:AV}{cl I:Value}{H':List af}(h:vc P t l c E.H=some (v,H'))
  (J:rel E l cl) (hc:rel E c I):∃ u w',(ais t cl I).run P E.w=.ok u w'∧dh E v H' u w':=by
 unfold vc at h;split at h
 case h_2=>cases h
 rename_i e sz bK k1 l k2 c hk;simp only[rel]at J hc;subst J; subst hc;obtain⟨hu,i,hi,hs,hby⟩:=gC hk;split at h
 case h_2=>cases h
 rename_i z hz;split at h
 case isFalse=>cases h
 rename_i N;obtain⟨g1,g2,g3,g4,g5,g6⟩:=N;cases h;obtain⟨i',d,A,R,B,U⟩:=mc hz;rw[hi]at A;cases A;have wl:IntKind.i64.wrap l=l:=wrap_small g3 (by omega);have wc:IntKind.i64.wrap c=c:=wrap_small (by omega) g5;have hbc:(i.bytes:Int)*c≤1048576*1048576:=by
  have h1:(i.bytes:Int)≤1048576:=by omega
  have g:(0:Int)≤c:=by omega
  exact Int.mul_le_mul h1 g5 g (by omega)
 have W:¬ (281474976710656<(i.bytes:Int)*c):=by omega
 have Y:d.cells.size=sz:=by rw[←g1,←B]; simp
 have q:(cI l.toNat z).flatten++(cI (c.toNat-l.toNat) z).flatten=(cI c.toNat z).flatten:=by
  rw[←ya,List.replicate_append_replicate];congr 2;omega
 obtain⟨vals,k⟩:∃ vals,vals=(cI l.toNat z).flatten:=⟨_,rfl⟩
 obtain⟨rest,F⟩:∃ rest,rest=(cI (c.toNat-l.toNat) z).flatten:=⟨_,rfl⟩
 have O:rest.length=(c.toNat-l.toNat)*sz:=by rw[F]; simp[g1]
 rw[←k,←F]at q;refine⟨.slice (some ⟨E.w.heap.size,0,none⟩) l.toNat c.toNat,{ E.w with heap:=E.w.heap.push (.cells (vals++rest).toArray e) },?_,?_⟩
 ·have h1 : ¬ c < 0 := by omega
  have g:¬ l<0:=by omega
  have h3:¬ c<l:=by omega
  simp only[ais,cf,Sem.bz hu,cB,asInt,asIntOf,gR,typeInfo,run_program,hi,wl,wc];rw[if_neg (by simp[h1,g,h3,W])];simp only[cf,run_askRoom,cB,Sem.run_sizeOf hi];rw[q];by_cases h0:c.toNat*i.size=0
  ·have:c.toNat=0:=by
    rcases S6.1 h0 with h|h
    ·exact h
    ·omega
   rw[if_pos h0];simp only[cf,gR,cB,newRow,this,r7,JK];simp
  ·rw [if_neg h0]
   simp only[cf,me hi R,cB,gR,newRow];have:(IM (fun x=>d.cells[x%d.cells.size]!) (gz (c.toNat*i.size)))=(cI c.toNat z).flatten.toArray:=by
    apply eT;rw[hs,←Y,range_zero d.cells c.toNat (by omega),B]
   rw[this];simp
 ·refine JJ HE (C := c.toNat) (by rw [k]; exact JO (JM z _) _) (by intro x M; rw [k] at M; exact U x (ve M)) ?_ ?_ (by simp) (by omega) O
  ·intro r hr
   have:=S5 hr;rw[this];rw[yN,JL]; exact g1
  ·intro r hr
   have:=S5 hr;rw[this];exact JN z _
def sI(P:Program)(t:TypeId)(n:Nat)(parts:List (Nat × AV)):Option AV :=
 match bY P t with
 | .slice e sz _=>match eF P e with
  | some z=>if z.length=sz∧0<sz∧n*sz≤1048576 then
    match qj (fun i=>some (i*sz,sz)) (cI n (z.map AV.lit)).flatten parts with
    |some out=>if AV.bf out=true∧out.length=n*sz then some (match n with|0=>.nils|_=>.list sz (chunk sz n out)) else none
    |none=>none
   else none
  |none=>none
 |_=>none
theorem Uh{P:Program}{E:Env}(HE:ar E){t:TypeId}{n:Nat}{parts:List (Nat × AV)}{cparts:List (Nat × Value)}{v:AV}(h:sI P t n parts=some v)
  (hm:parts.map (·.1)=cparts.map (·.1)) (Y:ad E (parts.map (·.2)) (cparts.map (·.2))) :
  ∃ u w',(IN t n cparts.toArray).run P E.w=.ok u w'∧Ext E.w w'∧rel { E with w:=w' } v u:=by
 unfold sI at h;split at h
 case h_2=>cases h
 rename_i e sz bK hk;obtain⟨hu,i,hi,k,_⟩:=gC hk;split at h
 case h_2=>cases h
 rename_i z hz;obtain⟨i',q,F,O,I,R⟩:=mc hz;rw[hi]at F;cases F;split at h
 case isFalse=>cases h
 rename_i hc;obtain⟨g1,g2,g3⟩:=hc;split at h
 case h_2=>cases h
 rename_i out N;split at h
 case isFalse=>cases h
 rename_i J;cases h;have U:q.cells.size=sz:=by rw[←g1,←I]; simp
 obtain⟨d,g⟩:∃ d:Array Value,d.toList=(cI n z).flatten:=⟨((cI n z).flatten).toArray,by simp⟩
 obtain⟨o,f1,f2,f3⟩:=u_ (E:=E) (cs:=d) N (by rw[g]; exact vd z n) (by rw[g]; intro x A; exact R x (ve A)) hm Y;have B:=Ext.push E.w (.cells o e);have hblk:(E.w.heap.push (.cells o e))[E.w.heap.size]? = some (.cells o e (0,0)):=by simp
 refine⟨.slice (some ⟨E.w.heap.size,0,none⟩) n n,{ E.w with heap:=E.w.heap.push (.cells o e) },?_,B,?_⟩
 ·have W : ¬ (n * i.size > 2 ^ 24) := by rw [k]; omega
  simp only[IN,cf,Sem.bz hu,cB,Sem.run_sizeOf hi];rw[if_neg W];by_cases h0:n*i.size=0
  ·have M:n=0:=by
    rcases S6.1 h0 with h|h
    ·exact h
    ·omega
   have:d=#[]:=by apply eT; rw[g,M]; rfl
   rw[if_pos h0];rw[this]at f1;simp only[cf,gR,cB,M,r7,JK,k,f1];simp[newRow]
  ·rw [if_neg h0]
   simp only[cf,me hi O,cB,gR];have:(IM (fun x=>q.cells[x%q.cells.size]!) (gz (n*i.size)))=d:=by
    apply eT;rw[k,←U,range_zero q.cells n (by omega),I,g]
   rw[this,k,f1];simp[newRow]
 ·have hle : E.le { E with w := { E.w with heap := E.w.heap.push (.cells o e) } } := Env.gd B
  cases n with
  |zero=>simp only[rel]; exact⟨_,rfl⟩
  |succ n =>
  simp only[rel];refine⟨CY sz _ out J.1,some ⟨E.w.heap.size,0,none⟩,n+1,by rw[va],by rw[va]; exact aI _,.inr ⟨E.w.heap.size,0,rfl,?_,?_⟩⟩
  ·refine ⟨by simp, ?_, fun A => by have := HE.X _ A; omega⟩
   rintro ho;have:=(HE.uU ho).1;omega
  ·exact Jw sz _ out _ 0 J.2 (CZ (cs:=o) (el:=e) (fr:=(0,0)) hblk (eM hle _ f2) f3)
end Go.AL

namespace Go.AL
open Go
variable [Dr]
def yO(P:Program)(t:TypeId)(x:AV)(H:List af):Option (AV × List af) :=
 match bY P t,x with
 |.str,.lit (.string s)=>some (.ptr H.length 0 0 0 0,H++[.iter s 0])
 |_,_=>none
theorem Ui{E:Env}(HE:ar E)(s:ByteArray) :
  dh E (.ptr E.H.length 0 0 0 0) (E.H++[.iter s 0]) (.pointer (some ⟨E.w.heap.size,0,none⟩)) { E.w with heap:=E.w.heap.push (.stringIter s 0) }:=by
 have g:=Ext.push E.w (.stringIter s 0);have hle:=Env.jJ (o:=.iter s 0) (l:=some (E.w.heap.size,0)) HE.len g (fun b n d=>by cases d; exact aI _);have hblk:(E.w.heap.push (.stringIter s 0))[E.w.heap.size]? = some (.stringIter s 0):=by simp
 refine⟨E.loc++[some (E.w.heap.size,0)],E.X.r,?_,ar.push HE g (fun b n d=>?_) ?_,hle⟩
 ·simp only [rel]
  refine⟨⟨_,_,rfl⟩,⟨.iter s 0,by simp,fun v k=>by simp⟩,fun _=>⟨E.w.heap.size,0,?_,by simp⟩⟩;rw[←HE.len]; simp
 ·cases d
  exact⟨aI _,by simp⟩
 ·simp only [aO]
  refine⟨E.w.heap.size,0,?_,hblk⟩;simp only[Env.push]; rw[←HE.len]; simp
theorem Uj{P:Program}{E:Env}(HE:ar E){t:TypeId}{x v:AV}{c:Value}{H':List af}(h:yO P t x E.H=some (v,H'))(d:rel E x c) :
  ∃ u w',(S7 t c).run P E.w=.ok u w'∧dh E v H' u w':=by
 unfold yO at h;split at h
 ·rename_i s hk
  cases h;simp only[rel]at d;subst d;refine⟨_,_,?_,Ui HE s⟩;simp[S7,Sem.bz (qh hk),newObj];rfl
 ·cases h
def yP(x:AV)(isString:Bool)(H:List af):Option (AV × List af) :=
 match x,isString with
 | .ptr id 0 _ 0 0,true=>match H[id]? with
  | some (.iter s pos)=>if pos<s.size then some (.tuple [.lit (.bool true),.lit (goInt pos),.lit (.int .i32 (og s pos).1)],H.set id (.iter s (pos+(og s pos).2)))
    else some (.tuple [.lit (.bool false)],H)
  |_=>none
 |_,_=>none
theorem Uk{P:Program}{E:Env}(HE:ar E){x v:AV}{c:Value}{isString:Bool}{ty:TypeId}{H':List af}(h:yP x isString E.H=some (v,H'))(I:rel E x c) :
  ∃ u w',(Instr.next c isString ty).run P E.w=.ok u w'∧dh E v H' u w':=by
 unfold yP at h;split at h
 case h_2=>cases h
 rename_i id k;split at h
 case h_2=>cases h
 rename_i s pos hid;have J:=HE.obj id _ hid;simp only[aO]at J;obtain⟨b,n,h1,g⟩:=J;simp only[rel]at I;obtain⟨_,_,M⟩:=I;obtain⟨U,W,g1,g2⟩:=M ⟨_,hid,rfl⟩;rw[h1]at g1;simp only[aT,aZ]at g1;obtain⟨rfl,rfl⟩:=g1;have N:=(HE.lt id b n h1).1;split at h
 ·rename_i d
  cases h;subst g2;have F:({ E.w with heap:=E.w.heap.setIfInBounds b (.stringIter s (pos+(og s pos).2)) }:World).heap.size=E.w.heap.size:=by simp
  have B:∀ y,y≠b→({ E.w with heap:=E.w.heap.setIfInBounds b (.stringIter s (pos+(og s pos).2)) }:World).heap[y]? = E.w.heap[y]? := by
   intro y O;simp only[S8];rw[if_neg (fun e=>O e.symm)]
  refine⟨.tuple #[.bool true,goInt pos,.int .i32 (og s pos).1],{ E.w with heap:=E.w.heap.setIfInBounds b (.stringIter s (pos+(og s pos).2)) },?_,E.loc,E.X.r,?_,?_,?_⟩
  ·have q : (getObj b).run P E.w = .ok (.stringIter s pos) E.w := by simp [getObj, kU, g]
   have R:(setObj b (.stringIter s (pos+(og s pos).2))).run P E.w=.ok () { E.w with heap:=E.w.heap.setIfInBounds b (.stringIter s (pos+(og s pos).2)) }:=by
    simp[setObj,kU,g]
   simp only[Instr.next,r7,mY,cf,q,cB,d,if_true];rw[R];rfl
  ·simp[rel,ad]
  ·exact HE.set hid h1 (fun v A=>A) F B (by
    simp only[aO];exact⟨b,n,h1,by simp[N]⟩)
  ·exact Env.oI HE hid h1 (fun v A=>A) F B
 ·rename_i d
  cases h;subst g2;refine⟨.tuple #[.bool false],E.w,?_,E.loc,E.X.r,by simp[rel,ad],by simpa using HE,Env.le.refl E⟩;have q:(getObj b).run P E.w=.ok (.stringIter s pos) E.w:=by simp[getObj,kU,g]
  simp only[Instr.next,r7,mY,cf,q,cB,d,if_false];rfl
end Go.AL

namespace Go.AL
open Go
variable [Dr]
def kl(P:Program)(d:TypeId)(a:AV):Option (List Value) :=
 match flatK P nl d with
 |none=>none
 | some ks=>match a with
  |.lit v=>if cM ks [v]=true∧nk (P.underlying d)=false then some [v] else none
  | .agg as=>match nj as with
   |some l=>if cM ks l=true∧nk (P.underlying d)=true then some l else none
   |none=>none
  |_=>none
def nr(P:Program)(d:TypeId)(l:List Value)(c:Value):Prop:=isVal P d c l∧∃ ks,flatK P nl d=some ks∧cM ks l=true
theorem lj{P:Program}{E:Env}{d:TypeId}{a:AV}{l:List Value}{c:Value}(h:kl P d a=some l)(hr:rel E a c):nr P d l c:=by
 unfold kl at h;split at h
 ·cases h
 rename_i ks hk;split at h
 ·split at h
  ·rename_i v hc
   cases h;simp only[rel]at hr;subst hr;refine⟨?_,ks,hk,hc.1⟩;unfold isVal;split
   ·rename_i g hu
    rw[hu]at hc;exact absurd hc.2 (by simp[nk])
   ·rfl
  ·cases h
 ·split at h
  ·rename_i as l' q
   split at h
   ·rename_i hc
    cases h;simp only[rel]at hr;obtain⟨cs,rfl,_,A⟩:=hr;refine⟨?_,ks,hk,hc.1⟩;have e:=yF q A;unfold isVal;split
    ·exact⟨cs,rfl,e⟩
    ·rename_i k
     exfalso;have:=hc.2;unfold nk at this;split at this
     ·rename_i g hu
      exact k g hu
     ·cases this
   ·cases h
  ·cases h
 ·cases h
theorem JP{P:Program}:∀(d:Nat) (q:List Field) (off:Nat) (ks:List SK),u9 P d q off=some ks→∀(xs:Array Value),cM ks (xs.toList.drop off)=true→∀ w:World,∀ f∈q,f.name ≠ "_" ∧
  ∃ A x vs,flatK P d f.type=some A∧(part f.type xs f.offset).run P w=.ok x w∧isVal P f.type x vs∧cM A vs=true
 |d,[],off,ks,hk,xs,I,w,f,k=>by cases k
 | d,g::q,off,ks,hk,xs,I,w,f,k=>by
  unfold u9 sA at hk;split at hk
  ·cases hk
  rename_i hc;split at hk
  case h_2=>cases hk
  rename_i A n W J N;split at hk
  case isFalse=>cases hk
  rename_i hn;split at hk
  case h_2=>cases hk
  rename_i l O;cases hk;have M:g.offset=off:=by
   by_cases e:g.offset=off
   ·exact e
   ·exact(hc (.inr e)).elim
  obtain⟨B,F⟩:=yE I;rw[←hn]at B F;rcases bI.1 k with rfl|k
  ·obtain ⟨x, R, U⟩ := CQ N J hn xs off B w
   exact⟨fun e=>hc (.inl e),A,x,_,J,by rw[M]; exact R,U,B⟩
  ·exact JP d q (off+n) l O xs (by rw[pZ]at F; exact F) w f k
theorem JQ{P:Program}(em:Bool):∀(d:Nat) (t:TypeId) (ks:List SK),flatK P d t=some ks→∀(D:Nat),d≤D→∀(x:Value) (vs:List Value),isVal P t x vs→cM ks vs=true →
  ∀ w,(uN em D t x).run P w=.ok () w
 |0,_,_,hk=>by simp[flatK]at hk
 | d+1,t,ks,hk=>by
  intro D hD x vs q g w;obtain⟨D,rfl⟩:∃ B,D=B+1:=⟨D-1,by omega⟩
  unfold flatK at hk;cases hu:P.underlying t with
  |none=>rw[hu]at hk; cases hk
  | some F =>
   rw[hu]at hk;cases F with
   | struct A =>
    simp only[]at hk;split at hk
    ·cases hk
    simp only[isVal,hu]at q;obtain⟨a,rfl,rfl⟩:=q;have each:=JP d A.toList 0 ks hk a (by simpa using g) w;have deep:∀ f∈A.toList,f.name ≠ "_" ∧ ∃ x,(part f.type a f.offset).run P w=.ok x w∧(uN em D f.type x).run P w=.ok () w:=fun f I=>by
     obtain⟨h1,J,x,vs,M,N,O,R⟩:=each f I;exact⟨h1,x,N,JQ em d f.type J M D (by omega) x vs O R w⟩
    rw[uN];simp only[cf,Sem.bz hu,cB];rw[←Array.forIn_toList];clear each hk;generalize A.toList=L at deep
    induction L with
    |nil=>simp
    | cons f L U =>
     obtain⟨hn,x,p1,W⟩:=deep f (by simp);simp only[List.forIn_cons,cf,hn,ne_eq,not_false_eq_true,if_true,cB,p1,W,gR];exact U (fun y Y=>deep y (by simp[Y]))
   | int k =>
    simp at hk;subst hk;simp only[isVal,hu]at q;subst q;simp only[cM,dZ]at g;unfold kindOk at g;split at g<;>simp_all[uN,Sem.bz hu]
   | string =>
    simp at hk;subst hk;simp only[isVal,hu]at q;subst q;simp only[cM,dZ]at g;unfold kindOk at g;split at g<;>simp_all[uN,Sem.bz hu]
   | bool =>
    simp at hk;subst hk;simp only[isVal,hu]at q;subst q;simp only[cM,dZ]at g;unfold kindOk at g;split at g<;>simp_all[uN,Sem.bz hu]
   |_=>simp at hk
theorem km{P:Program}{d:TypeId}{l:List Value}{c:Value}(h:nr P d l c)(em:Bool)(w:World):(uN em 10000 d c).run P w=.ok () w:=by
 obtain⟨h1,ks,g,k⟩:=h;exact JQ em nl d ks g 10000 (by decide) c l h1 k w
theorem Ul{P:Program}{g:TypeId}{l m:List Value}{c d:Value}(h:nr P g l c)(h':nr P g m d)(w:World):(x8 g c d).run P w=.ok (dJ l m) w:=by
 obtain⟨h1,ks,k,A⟩:=h;obtain⟨B,I,q,F⟩:=h';rw[k]at q;cases q;exact CR nl g ks k 10000 (by decide) c d l m h1 B A F w
def fE(P:Program)(d:TypeId)(k:List Value):List (AV × AV × Nat)→Nat→Option (Option (Nat × AV))
 | [],_=>some none
 | (k',v,_)::es,i=>match kl P d k' with
  |some l=>bif dJ k l then some (some (i,v)) else fE P d k es (i+1)
  |none=>none
def eG(E:Env)(ms:List MapEntry)(i0:Nat):Option (Nat × AV)→Option (Nat × Value)→Prop
 |none,none=>True
 |some (i,v),some (j,c)=>i=j∧rel E v c∧i0≤i∧∃ e,ms[i-i0]? = some e∧e.val=c
 |_,_=>False
theorem JR{P:Program}{E:Env}{d:TypeId}{k:List Value}{c:Value}(hk:nr P d k c)(w:World):∀(es:List (AV × AV × Nat)) (ms:List MapEntry) (i:Nat) (r:Option (Nat × AV)),
  bP E es ms→fE P d k es i=some r→∃ r',(S9 d c ms i).run P w=.ok r' w∧eG E ms i r r'
 | [],[],i,r,_,h=>by
  simp only[fE,aT]at h;subst h;exact⟨none,rfl,trivial⟩
 | [],_::_,_,_,hr,_=>by simp[bP]at hr
 |(_,_,_)::_,[],_,_,hr,_=>by simp[bP]at hr
 | (k',v,n)::es,e::ms,i,r,hr,h=>by
  simp only[bP]at hr;obtain⟨h1,A,O,R,U,B⟩:=hr;simp only[fE]at h;split at h
  case h_2=>cases h
  rename_i l F;have he:=Ul hk (lj F h1) w;cases g:dJ k l with
  | true =>
   rw[g]at h he;cases h;refine⟨some (i,e.val),by simp[S9,he],rfl,A,aI _,e,by simp,rfl⟩
  | false =>
   rw[g]at h he;obtain⟨r',g1,g2⟩:=JR hk w es ms (i+1) r B h;refine⟨r',by simp[S9,he,g1],?_⟩;cases r with
   | none=>cases r' with
    |none=>trivial
    |some _=>simp[eG]at g2
   | some p=>cases r' with
    |none=>simp[eG]at g2
    | some q =>
     simp only[eG]at g2⊢;obtain⟨I,J,W,e',M,N⟩:=g2;refine⟨I,J,by omega,e',?_,N⟩;rw[show p.1-i=(p.1-(i+1))+1 from by omega];simpa using M
theorem JS{P:Program}{E:Env}{N:TypeId}{k:List Value}{c:Value}{d:TypeDesc}(hu:P.underlying N=some d)(hk:nr P N k c):∀(es:List (AV × AV × Nat)) (ms:List MapEntry) (i:Nat) (r:Option (Nat × AV)),
  bP E es ms→fE P N k es i=some r→(∃ r',yb d c ms i=some r'∧eG E ms i r r')∨yb d c ms i=none
 | [],[],i,r,_,h=>by
  simp only[fE,aT]at h;subst h;exact .inl ⟨none,rfl,trivial⟩
 | [],_::_,_,_,hr,_=>by simp[bP]at hr
 |(_,_,_)::_,[],_,_,hr,_=>by simp[bP]at hr
 | (k',v,n)::es,e::ms,i,r,hr,h=>by
  simp only[bP]at hr;obtain⟨h1,U,h3,h4,h5,W⟩:=hr;simp only[fE]at h;split at h
  case h_2=>cases h
  rename_i l Y;have R:=lj Y h1;have same:yc d c e.key=some (dJ k l)∨yc d c e.key=none:=by
   obtain⟨p1,ks,A,F⟩:=hk;obtain⟨I,ks',M,B⟩:=R;rw[A]at M;cases M;unfold nl at A;unfold flatK at A;rw[hu]at A;cases d with
   |struct fs=>right; simp[yc]
   | int kk =>
    simp at A;subst A;simp only[isVal,hu]at p1 I;subst p1; subst I;simp only[cM,dZ]at F B;unfold kindOk at F B;left;split at F<;>split at B<;>simp_all[yc,dJ,oF]
   | string =>
    simp at A;subst A;simp only[isVal,hu]at p1 I;subst p1; subst I;simp only[cM,dZ]at F B;unfold kindOk at F B;left;split at F<;>split at B<;>simp_all[yc,dJ,oF,beq_toListBytes]
   | bool =>
    simp at A;subst A;simp only[isVal,hu]at p1 I;subst p1; subst I;simp only[cM,dZ]at F B;unfold kindOk at F B;left;split at F<;>split at B<;>simp_all[yc,dJ,oF]
   |_=>simp at A
  rcases same with J|J
  ·cases O : dJ k l with
   | true =>
    rw[O]at h J;cases h;exact .inl ⟨some (i,e.val),by simp[yb,J],rfl,U,aI _,e,by simp,rfl⟩
   | false =>
    rw[O]at h J;rcases JS hu hk es ms (i+1) r W h with⟨r',g1,g2⟩|g
    ·refine .inl ⟨r', by simp [yb, J, g1], ?_⟩
     cases r with
     | none=>cases r' with
      |none=>trivial
      |some _=>simp[eG]at g2
     | some p=>cases r' with
      |none=>simp[eG]at g2
      | some q =>
       simp only[eG]at g2⊢;obtain⟨I,M,B,e',q4,q5⟩:=g2;refine⟨I,M,by omega,e',?_,q5⟩;rw[show p.1-i=(p.1-(i+1))+1 from by omega];simpa using q4
    ·exact .inr (by simp[yb,J,g])
  ·exact .inr (by simp[yb,J])
theorem lk{P:Program}{E:Env}{q:TypeId}{k:List Value}{c:Value}(hk:nr P q k c)(w:World){es:List (AV × AV × Nat)}{ms:List MapEntry}{r:Option (Nat × AV)}
  (hr:bP E es ms) (h:fE P q k es 0=some r):∃ r',(S_ q c ms).run P w=.ok r' w∧eG E ms 0 r r':=by
 have hu:∃ d,P.underlying q=some d:=by
  obtain⟨_,ks,A,_⟩:=hk;unfold nl at A;unfold flatK at A;split at A<;>first|exact⟨_,by assumption⟩|cases A
 obtain⟨d,hu⟩:=hu;rcases JS hu hk es ms 0 r hr h with⟨r',g1,g2⟩|g
 ·exact⟨r',by simp[S_,Sem.bz hu,g1],g2⟩
 ·obtain ⟨r', g1, g2⟩ := JR hk w es ms 0 r hr h
  exact⟨r',by simp[S_,Sem.bz hu,g,g1],g2⟩
def fe(P:Program)(t:TypeId):Option (TypeId × TypeId):=match P.underlying t with
 |some (.map k e)=>some (k,e)
 |_=>none
theorem iN{P:Program}{t k e:TypeId}(h:fe P t=some (k,e)):P.underlying t=some (.map k e):=by
 unfold fe at h;split at h
 ·rename_i h1; cases h; exact h1
 ·cases h
def jK(P:Program)(t:TypeId):Option AV:=match P.info? t with
 | some i=>match i.zero with
  |some z=>some (AV.sq z)
  |none=>none
 |none=>none
theorem yQ{P:Program}{t:TypeId}{a:AV}(h:jK P t=some a)(w:World):∃ z,(zeroValue t).run P w=.ok z w∧∀ E,rel E a z:=by
 unfold jK at h;split at h
 ·rename_i i hi
  split at h
  ·rename_i z d
   cases h;exact⟨z,me hi d w,fun E=>Jg E z⟩
  ·cases h
 ·cases h
def oK(P:Program)(t:TypeId):Option AV:=match jK P t,C' P t with
 |some (.lit (.slice none 0 0)),some ks=>some (.listF ks [])
 |some z,_=>some z
 |none,_=>none
theorem Um{P:Program}{t:TypeId}{a:AV}(h:oK P t=some a)(w:World):∃ z,(zeroValue t).run P w=.ok z w∧∀ E,rel E a z:=by
 unfold oK at h;split at h
 ·rename_i ks h1 d
  cases h;obtain⟨z,g1,g2⟩:=yQ h1 w;refine⟨z,g1,fun E=>?_⟩;have:=g2 E;simp only[rel]at this;subst this;simp only[rel,dC,G.rows];exact⟨none,0,rfl,aI _,.inl (by first|rfl|trivial)⟩
 ·rename_i z h1 _
  cases h;exact yQ ‹jK P t=some a› w
 ·cases h
def ln(P:Program)(t:TypeId)(m k:AV)(ok:Bool)(H:List af):Option AV :=
 match fe P t,m with
 | some (d,g),.map id=>match H[id]? with
  | some (.map es _)=>match kl P d k,oK P g with
   | some q,some z=>match fE P d q es 0 with
    | some r=>let v:=match r with
      |some (_,v)=>v
      |none=>z
     some (match ok with
      |true=>.tuple [v,.lit (.bool r.isSome)]
      |false=>v)
    |none=>none
   |_,_=>none
  |_=>none
 |_,_=>none
theorem sJ{E:Env}(HE:ar E){id cl:Nat}{es:List (AV × AV × Nat)}{c:Value}(hid:E.H[id]? = some (.map es cl))(hr:rel E (.map id) c) :
  ∃ b n ms,c=.map (some b)∧E.loc[id]? = some (some (b,n))∧E.w.heap[b]? = some (.map ms cl)∧bP E es ms.toList:=by
 have d:=HE.obj id _ hid;simp only[aO]at d;obtain⟨b,n,ms,h1,g,k⟩:=d;simp only[rel]at hr;obtain⟨_,_,q⟩:=hr;obtain⟨A,B,g1,g2⟩:=q ⟨_,hid,rfl⟩;rw[h1]at g1;simp only[aT,aZ]at g1;obtain⟨rfl,rfl⟩:=g1;exact⟨b,n,ms,g2,h1,g,k⟩
theorem JT{P:Program}{E:Env}(HE:ar E){t:TypeId}{m k v:AV}{ok:Bool}{c d:Value}(h:ln P t m k ok E.H=some v)(hm:rel E m c)(hk:rel E k d) :
  ∃ u,(yd t c d ok).run P E.w=.ok u E.w∧rel E v u:=by
 unfold ln at h;split at h
 case h_2=>cases h
 rename_i U W id A;split at h
 case h_2=>cases h
 rename_i es cl hid;split at h
 case h_2=>cases h
 rename_i Y z J M;split at h
 case h_2=>cases h
 rename_i r hr;obtain⟨b,n,ms,rfl,h1,N,O⟩:=sJ HE hid hm;have g:=lj J hk;obtain⟨r',g1,g2⟩:=lk g E.w O hr;obtain⟨B,R,z2⟩:=Um M E.w;have F:(getObj b).run P E.w=.ok (.map ms cl) E.w:=by simp[getObj,kU,N]
 cases h;cases r with
 | none =>
  cases r' with
  |some _=>simp[eG]at g2
  | none =>
   refine⟨if ok then .tuple #[B,.bool false] else B,?_,?_⟩
   ·simp only[yd,cf,Sem.bz (iN A),cB,F,gR,km g,g1,R]
   ·cases ok with
    |true=>simp[rel,ad,z2 E]
    |false=>simpa using z2 E
 | some p =>
  cases r' with
  |none=>simp[eG]at g2
  | some q =>
   simp only[eG]at g2;obtain⟨q1,I,_,_,_,_⟩:=g2;refine⟨if ok then .tuple #[q.2,.bool true] else q.2,?_,?_⟩
   ·simp only[yd,cf,Sem.bz (iN A),cB,F,gR,km g,g1]
   ·cases ok with
    |true=>simp[rel,ad,I]
    |false=>simpa using I
theorem Un{E:Env}(HE:ar E):dh E (.map E.H.length) (E.H++[.map [] 0]) (.map (some E.w.heap.size)) { E.w with heap:=E.w.heap.push (.map #[] 0) }:=by
 have g:=Ext.push E.w (.map #[] 0);have hle:=Env.jJ (o:=.map [] 0) (l:=some (E.w.heap.size,0)) HE.len g (fun b n d=>by cases d; exact aI _);have hblk:(E.w.heap.push (.map #[] 0))[E.w.heap.size]? = some (.map #[] 0):=by simp
 refine⟨E.loc++[some (E.w.heap.size,0)],E.X.r,?_,ar.push HE g (fun b n d=>?_) ?_,hle⟩
 ·simp only [rel]
  refine⟨⟨_,rfl⟩,⟨.map [] 0,by simp,fun v k=>Nat.zero_le _⟩,fun _=>⟨E.w.heap.size,0,?_,rfl⟩⟩;rw[←HE.len]; simp
 ·cases d
  exact⟨aI _,by simp⟩
 ·simp only [aO]
  refine⟨E.w.heap.size,0,#[],?_,hblk,by simp[bP]⟩;simp only[Env.push]; rw[←HE.len]; simp
theorem Uo{a b:ByteArray}(h:a.toList=b.toList):a=b:=by
 have h1:(a==b)=true:=by rw[beq_toListBytes,h]; simp
 obtain⟨x⟩:=a;obtain⟨y⟩:=b;have e:x=y:=by simpa using(show (x==y)=true from h1)
 rw[e]
theorem JU:∀{l m:List Value} {ks:List SK},cM ks l=true→cM ks m=true→dJ l m=true→l=m
 | [],[],_,_,_,_=>rfl
 | a::l,b::m,ks,h1,d,h=>by
  cases ks with
  |nil=>simp[cM]at h1
  | cons k ks =>
   simp only[cM,aw]at h1 d;simp only[dJ,aw]at h;have e:a=b:=by
    have g:=h1.1;have q:=d.1;have A:=h.1;unfold kindOk at g q;split at g<;>split at q<;>simp_all[oF]
    exact Uo h.1
   rw[e,JU h1.2 d.2 h.2]
 | [],_::_,_,_,_,h|_::_,[],_,_,_,h=>by simp[dJ]at h
theorem JV{ks:List SK}:∀{l:List Value},cM ks l=true→∀(n:Nat),(l.zip l).all (fun(x,y)=>IP n x y)=true:=by
 intro l
 induction l generalizing ks with
 |nil=>intro _ _; rfl
 | cons a l d =>
  intro h n;cases ks with
  |nil=>simp[cM]at h
  | cons k ks =>
   simp only[cM,aw]at h;simp only[List.zip_cons_cons,List.all_cons,aw];refine⟨?_,d h.2 n⟩;have hk:=h.1;unfold kindOk at hk;split at hk<;>cases n<;>simp_all[IP,beq_toListBytes]
theorem Dc{P:Program}{q:TypeId}{l m:List Value}{c d:Value}(h:nr P q l c)(h':nr P q m d)(he:dJ l m=true):c=d∧IP 10000 d c=true:=by
 obtain⟨h1,ks,J,k⟩:=h;obtain⟨g,O,A,M⟩:=h';rw[J]at A;cases A;have e:=JU k M he;subst e;unfold isVal at h1 g;split at h1
 ·rename_i B hu
  rw[hu]at g;simp only[]at g;obtain⟨a,rfl,F⟩:=h1;obtain⟨b,rfl,N⟩:=g;have:a=b:=by apply eT; rw[F,N]
  subst this;refine⟨rfl,?_⟩;simp only[IP,beq_self_eq_true,Bool.true_and];rw[F];exact JV k 9999
 ·rename_i I
  split at g
  ·rename_i B hu
   exact(I B hu).elim
  ·have : c = d := by rw [h1] at g; simpa using g
   subst this;refine⟨rfl,?_⟩;have:=JV k 10000;rw[h1]at this;simpa using this
def oL(P:Program)(t:TypeId)(m k v:AV)(H:List af):Option (List af) :=
 match fe P t,m with
 | some (d,_),.map id=>match H[id]? with
  | some (.map es cl)=>match kl P d k with
   | some g=>if v.closed=true∧k.closed=true then
     match fE P d g es 0 with
     |some (some (i,_))=>some (H.set id (.map (es.modify i fun e=>(k,v,e.2.2)) cl))
     |some none=>some (H.set id (.map (es++[(k,v,cl)]) (cl+1)))
     |none=>none
    else none
   |none=>none
  |_=>none
 |_,_=>none
theorem fF{E:Env}:∀{es:List (AV × AV × Nat)} {ms:List MapEntry},bP E es ms↔es.length=ms.length∧∀(i:Nat) x e,es[i]? = some x→ms[i]? = some e →
  rel E x.1 e.key∧rel E x.2.1 e.val∧e.born=x.2.2∧x.1.closed=true∧x.2.1.closed=true
 | [],[]=>by simp[bP]
 | [],_::_=>by simp[bP]
 |(_,_,_)::_,[]=>by simp[bP]
 | (k,v,n)::es,e::ms=>by
  simp only[bP,fF (es:=es),di];constructor
  ·rintro ⟨h1, q, A, B, F, M, I⟩
   refine⟨by omega,fun i x y d g=>?_⟩;cases i with
   |zero=>simp at d g; subst d; subst g; exact⟨h1,q,A,B,F⟩
   |succ i=>exact I i x y (by simpa using d) (by simpa using g)
  ·rintro ⟨h1, q⟩
   obtain⟨J,a2,a3,a4,a5⟩:=q 0 (k,v,n) e rfl rfl;exact⟨J,a2,a3,a4,a5,by omega,fun i x y d g=>q (i+1) x y (by simpa using d) (by simpa using g)⟩
theorem yR{P:Program}{E:Env}(HE:ar E){id b n cl cl':Nat}{es es':List (AV × AV × Nat)}{ms ms':Array MapEntry}(hid:E.H[id]? = some (.map es cl)) (d:E.loc[id]? = some (some (b,n)))
  (B:E.w.heap[b]? = some (.map ms cl)) (hr:bP E es' ms'.toList) :
  ∃ w',(setObj b (.map ms' cl')).run P E.w=.ok () w'∧ar { w:=w',H:=E.H.set id (.map es' cl'),loc:=E.loc,X:=E.X }∧E.le { w:=w',H:=E.H.set id (.map es' cl'),loc:=E.loc,X:=E.X }:=by
 have A:=(HE.lt id b n d).1;have q:({ E.w with heap:=E.w.heap.setIfInBounds b (.map ms' cl') }:World).heap.size=E.w.heap.size:=by simp
 have k:∀ y,y≠b→({ E.w with heap:=E.w.heap.setIfInBounds b (.map ms' cl') }:World).heap[y]? = E.w.heap[y]? := by
  intro y F;simp only[S8];rw[if_neg (fun e=>F e.symm)]
 refine⟨{ E.w with heap:=E.w.heap.setIfInBounds b (.map ms' cl') },by simp[setObj,kU,B],?_,?_⟩
 ·have hle : E.le { w := { E.w with heap := E.w.heap.setIfInBounds b (.map ms' cl') }, H := E.H.set id (.map es' cl'), loc := E.loc, X := E.X } := Env.oI HE hid d (fun v g => g) q k
  refine HE.set hid d (fun v g=>g) q k ?_;simp only[aO];refine⟨b,n,ms',d,by simp[A],?_⟩;rw[fF]at hr⊢;refine⟨hr.1,fun i x e I he=>?_⟩;obtain⟨J,a2,a3,a4,a5⟩:=hr.2 i x e I he;exact⟨cC hle _ J,cC hle _ a2,a3,a4,a5⟩
 ·exact Env.oI HE hid d (fun v g=>g) q k
theorem yS{P:Program}{g:TypeId}{k:List Value}:∀{es:List (AV × AV × Nat)} {i j:Nat} {v:AV},fE P g k es i=some (some (j,v))→i≤j∧∃ x l,es[j-i]? = some x∧kl P g x.1=some l∧dJ k l=true
 | [],_,_,_,h=>by simp[fE]at h
 | (k',q,n)::es,i,j,v,h=>by
  simp only[fE]at h;split at h
  case h_2=>cases h
  rename_i l A;cases d:dJ k l with
  | true =>
   rw[d]at h;cases h;exact⟨aI _,(k',q,n),l,by simp,A,d⟩
  | false =>
   rw[d]at h;obtain⟨h1,x,l',B,F,I⟩:=yS h;refine⟨by omega,x,l',?_,F,I⟩;rw[show j-i=(j-(i+1))+1 from by omega];simpa using B
theorem JW{P:Program}{E:Env}(HE:ar E){t:TypeId}{m k v:AV}{c d u:Value}{H':List af}(h:oL P t m k v E.H=some H')(hm:rel E m c)(hk:rel E k d)(R:rel E v u) :
  ∃ w',(r8 t c d u).run P E.w=.ok () w'∧ar { w:=w',H:=H',loc:=E.loc,X:=E.X }∧E.le { w:=w',H:=H',loc:=E.loc,X:=E.X }:=by
 unfold oL at h;split at h
 case h_2=>cases h
 rename_i kt et id U;split at h
 case h_2=>cases h
 rename_i es cl hid;split at h
 case h_2=>cases h
 rename_i kv hkv;split at h
 case isFalse=>cases h
 rename_i F;obtain⟨b,n,ms,rfl,h1,M,N⟩:=sJ HE hid hm;have B:=lj hkv hk;have W:(getObj b).run P E.w=.ok (.map ms cl) E.w:=by simp[getObj,kU,M]
 obtain⟨hlen,J⟩:=fF.1 N;split at h
 ·rename_i i v0 I
  cases h;obtain⟨r',g1,g2⟩:=lk B E.w N I;cases r' with
  |none=>simp[eG]at g2
  | some q =>
   simp only[eG]at g2;obtain⟨q1,q2,_,e',O,q5⟩:=g2;obtain⟨_,x,l,f1,f2,f3⟩:=yS I;simp only[jC]at O f1;obtain⟨a1,a2,a3,a4,a5⟩:=J i x e' f1 O;obtain⟨s1,s2⟩:=Dc B (lj f2 a1) f3;have q4':ms[i]? = some e':=by simpa using O
   obtain⟨w',r1,r2,r3⟩:=yR (P:=P) HE (es':=es.modify i fun e=>(k,v,e.2.2)) (ms':=ms.modify i fun e=>{ e with key:=d,val:=u }) (cl':=cl) hid h1 M (by
    rw[fF];refine⟨by simp[hlen],fun j y z g A=>?_⟩;simp only[kV]at g;simp only[oh,kV]at A;obtain⟨y0,hy0,rfl⟩:=ft.1 g;obtain⟨z0,hz0,rfl⟩:=ft.1 A;obtain⟨b1,b2,Y,b4,b5⟩:=J j y0 z0 hy0 hz0;by_cases e:i=j
    ·subst e
     simp only[if_true];exact⟨hk,R,Y,F.2,F.1⟩
    ·simp only [if_neg e]
     exact⟨b1,b2,Y,b4,b5⟩)
   refine⟨w',?_,r2,r3⟩;subst q1;have hst:(ye e'.key d).run P E.w=.ok d E.w:=by simp[ye,s2]
   simp only[r8,cf,Sem.bz (iN U),cB,W,km B,g1,q4',iZ,kW,hst];exact r1
 ·rename_i I
  cases h;obtain⟨r',g1,g2⟩:=lk B E.w N I;cases r' with
  |some _=>simp[eG]at g2
  | none =>
   obtain⟨w',r1,r2,r3⟩:=yR (P:=P) HE (es':=es++[(k,v,cl)]) (ms':=ms.push { key:=d,val:=u,born:=cl }) (cl':=cl+1) hid h1 M (by
    rw[fF];refine⟨by simp[hlen],fun j y z g A=>?_⟩;simp only[yf,gy,hlen]at g A;by_cases e:j<ms.toList.length
    ·simp only [if_pos e] at g A
     exact J j y z g A
    ·simp only [if_neg e] at g A
     cases hj:j-ms.toList.length with
     | zero =>
      rw[hj]at g A;simp at g A;subst g; subst A;exact⟨hk,R,rfl,F.2,F.1⟩
     |succ _=>rw[hj]at g; simp at g)
   refine⟨w',?_,r2,r3⟩;simp only[r8,cf,Sem.bz (iN U),cB,W,km B,g1];exact r1
 ·cases h
def vf(P:Program)(t:TypeId)(m k:AV)(H:List af):Option (List af) :=
 match fe P t,m with
 | some (d,_),.map id=>match H[id]? with
  | some (.map es cl)=>match kl P d k with
   | some g=>match fE P d g es 0 with
    |some (some (i,_))=>some (H.set id (.map (es.eraseIdx i) cl))
    |some none=>some (H.set id (.map es cl))
    |none=>none
   |none=>none
  |_=>none
 |_,_=>none
theorem Up{P:Program}{E:Env}(HE:ar E){t ty:TypeId}{tys:Array TypeId}{m k:AV}{c d:Value}{cs:Array Value}{H':List af}(h:vf P t m k E.H=some H')(h0:tys[0]? = some t)
  (N:cs[0]? = some c) (O:cs[1]? = some d) (hm:rel E m c) (hk:rel E k d) :
  ∃ w',(Ta tys ty cs).run P E.w=.ok (.tuple #[]) w'∧ar { w:=w',H:=H',loc:=E.loc,X:=E.X }∧E.le { w:=w',H:=H',loc:=E.loc,X:=E.X }:=by
 unfold vf at h;split at h
 case h_2=>cases h
 rename_i kt et id R;split at h
 case h_2=>cases h
 rename_i es cl hid;split at h
 case h_2=>cases h
 rename_i kv Y;obtain⟨b,n,ms,rfl,h1,I,F⟩:=sJ HE hid hm;have B:=lj Y hk;have U:(getObj b).run P E.w=.ok (.map ms cl) E.w:=by simp[getObj,kU,I]
 obtain⟨hlen,M⟩:=fF.1 F;split at h
 ·rename_i i v0 J
  cases h;obtain⟨r',g1,g2⟩:=lk B E.w F J;cases r' with
  |none=>simp[eG]at g2
  | some q =>
   simp only[eG]at g2;obtain⟨q1,q2,_,e',q4,q5⟩:=g2;obtain⟨w',r1,r2,r3⟩:=yR (P:=P) HE (es':=es.eraseIdx i) (ms':=ms.eraseIdxIfInBounds i) (cl':=cl) hid h1 I (by
    rw[fF];have e:(ms.eraseIdxIfInBounds i).toList=ms.toList.eraseIdx i:=by simp
    rw[e];refine⟨by simp[List.length_eraseIdx,hlen],fun j y z g A=>?_⟩;rw[List.getElem?_eraseIdx]at g A;by_cases W:j<i
    ·simp only [if_pos W] at g A
     exact M j y z g A
    ·simp only [if_neg W] at g A
     exact M (j+1) y z g A)
   refine⟨w',?_,r2,r3⟩;subst q1;simp only[Ta,h0,N,O,cf,Sem.bz (iN R),cB,U,km B,g1];rw[r1];rfl
 ·rename_i J
  cases h;obtain⟨r',g1,g2⟩:=lk B E.w F J;cases r' with
  |some _=>simp[eG]at g2
  | none =>
   obtain⟨w',r1,r2,r3⟩:=yR (P:=P) HE (es':=es) (ms':=ms) (cl':=cl) hid h1 I F;refine⟨w',?_,r2,r3⟩;simp only[Ta,h0,N,O,cf,Sem.bz (iN R),cB,U,km B,g1];rw[r1];rfl
 ·cases h
end Go.AL

namespace Go.AL
open Go
variable [Dr]
theorem JX{α:Type}{k:Nat}:∀{l:List (List α)} (n:Nat),(∀ r∈l,r.length=k)→(l.take n).flatten=l.flatten.take (n*k)
 | [],n,_=>by simp
 |r::l,0,_=>by simp
 | r::l,n+1,h=>by
  have hr:r.length=k:=h r cZ;have d:=JX (l:=l) n (fun x g=>h x (cU _ g));have e:(n+1)*k=k+n*k:=by rw[fq]; omega
  simp only[Cj,uL,d,e];rw[List.take_append,hr];have q:r.take (k+n*k)=r:=List.take_of_length_le (by omega);have A:k+n*k-k=n*k:=by omega
  rw[q,A]
theorem JY{α:Type}{k:Nat}:∀{l:List (List α)} (n:Nat),(∀ r∈l,r.length=k)→(l.drop n).flatten=l.flatten.drop (n*k)
 | [],n,_=>by simp
 |r::l,0,_=>by simp
 | r::l,n+1,h=>by
  have hr:r.length=k:=h r cZ;have d:=JY (l:=l) n (fun x g=>h x (cU _ g));have e:(n+1)*k=k+n*k:=by rw[fq]; omega
  simp only[aij,uL,d,e];rw[List.drop_append,hr];have q:r.drop (k+n*k)=[]:=List.drop_eq_nil_of_le (by omega);have A:k+n*k-k=n*k:=by omega
  rw[q,A,Cn]
theorem Uq{P:Program}{E:Env}(HE:ar E){id k ae b m off:Nat}{rows news:List (List AV)}{vals:List Value}(hid:E.H[id]? = some (.vec k ae rows)) (q:E.loc[id]? = some (some (b,m)))
  (d:ad E news.flatten vals) (h1:∀ x∈vals,dB x=true) (hw:∀ r∈news,r.length=k) (hcl:fa news) (hle:off+news.length≤rows.length) :
  ∃ w',(storeCells ⟨b,off*k,none⟩ vals).run P E.w=.ok () w'∧ar { w:=w',H:=E.H.set id (.vec k ae (rows.take off++news++rows.drop (off+news.length))),loc:=E.loc,X:=E.X } ∧
   E.le { w:=w',H:=E.H.set id (.vec k ae (rows.take off++news++rows.drop (off+news.length))),loc:=E.loc,X:=E.X }:=by
 rcases HE.obj id _ hid with⟨A,_⟩|⟨b',m',A,⟨cur,el,hblk,N⟩,Y,e4,e5⟩
 ·rw[q]at A; cases A
 rw[q]at A;cases A;have g:∀ r∈rows,r.length=k:=C1 e5;have hlen:vals.length=news.length*k:=by rw[←fv d,sF hw]
 have hmul:(off+news.length)*k≤rows.length*k:=uM _ hle;rw[fq]at hmul;have hmul2:rows.length*k≤m*k:=uM _ Y;have B:off*k+0+vals.length≤cur.size:=by rw[N]; omega
 have I:=run_storeCells_at P b (off*k) el vals 0 cur E.w hblk B (fun v d=>by rw[yG]; exact h1 v d);simp only[mY]at I B;generalize F:E.w.setRow b (cur.toList.take (off*k)++vals++cur.toList.drop (off*k+vals.length)).toArray=w' at I;have J:w'.heap.size=E.w.heap.size:=by rw[←F]; exact setRow_size _ _ _
 have henv:dq E.w w':=by rw[←F]; exact⟨rfl,rfl,rfl,by first|exact fun _=>aI _|exact fun _=>eL _ _⟩
 have M:∀ x,x≠b→w'.heap[x]? = E.w.heap[x]? := by intro x hx; rw[←F]; exact setRow_other _ _ _ _ hx
 have U:w'.heap[b]? = some (.cells (cur.toList.take (off*k)++vals++cur.toList.drop (off*k+vals.length)).toArray el (0,0)):=by
  rw[←F]; exact setRow_heap E.w b cur _ el (0,0) hblk
 have O:∀ v,(af.vec k ae (rows.take off++news++rows.drop (off+news.length))).aH = some v→(af.vec k ae rows).aH = some v:=fun v d=>by simpa[af.aH]using d
 have R:=Env.oI (o':=.vec k ae (rows.take off++news++rows.drop (off+news.length))) HE hid q O J M;have hl2:(rows.take off++news++rows.drop (off+news.length)).length=rows.length:=by
  simp only[fD,iX,oe];omega
 refine⟨w',I,ar.set HE hid q O J M ?_,R⟩;simp only[aO];right;refine⟨b,m,q,⟨_,el,U,?_⟩,by rw[hl2]; exact Y,?_,?_⟩
 ·simp only [x_, fD, iX, oe, kT, N] at B ⊢
  omega
 ·intro r hr
  simp only[bV]at hr;rcases hr with(h|h)|h
  ·exact e4 r (uI h)
  ·exact hcl r h
  ·exact e4 r (x7 h)
 ·refine yI ?_ ?_
  ·intro r hr
   simp only[bV]at hr;rcases hr with(h|h)|h
   ·exact g r (uI h)
   ·exact hw r h
   ·exact g r (x7 h)
  ·rw [ya, ya, JX off g, JY _ g]
   have hflat:=yH e5;have W:news.flatten.length=news.length*k:=sF hw;have:=C5 (E:=E) (E':={ w:=w',H:=E.H.set id (.vec k ae (rows.take off++news++rows.drop (off+news.length))),loc:=E.loc,X:=E.X }) (o:=0) (col:=off*k) (as:=rows.flatten) (cs:=news.flatten)
    (fun a c hr=>cC R a hr) hblk (by simpa using U) (by simpa using B) hflat d h1 (by rw[sF g,W]; omega)
   rw[W]at this;rw[show (off+news.length)*k=off*k+news.length*k from fq _ _ _];exact this
def vg(P:Program)(t:TypeId)(x:AV)(H:List af):Option (List af) :=
 match bY P t,x with
 | .slice e sz _,.vec w id ae off n=>match eF P e,H[id]? with
  | some z,some (.vec k v rows)=>if k=w∧w=sz∧v=ae∧z.length=sz∧0<sz∧off+n≤rows.length then
    some (H.set id (.vec k v (rows.take off++cI n (z.map AV.lit)++rows.drop (off+n)))) else none
  |_,_=>none
 |_,_=>none
theorem Ur{P:Program}{E:Env}(HE:ar E){t ty:TypeId}{tys:Array TypeId}{x:AV}{c:Value}{cs:Array Value}{H':List af}(h:vg P t x E.H=some H')(h0:tys[0]? = some t)
  (I:cs[0]? = some c) (g:rel E x c) :
  ∃ w',(Tc tys ty cs).run P E.w=.ok (.tuple #[]) w'∧ar { w:=w',H:=H',loc:=E.loc,X:=E.X }∧E.le { w:=w',H:=H',loc:=E.loc,X:=E.X }:=by
 unfold vg at h;split at h
 case h_2=>cases h
 rename_i e sz bK w id ae off n hk;obtain⟨hu,i,hi,hs,_⟩:=gC hk;split at h
 case h_2=>cases h
 rename_i z k v rows hz hid;split at h
 case isFalse=>cases h
 rename_i hc;obtain⟨rfl,rfl,rfl,R,hpos,hle⟩:=hc;cases h;obtain⟨i',q,J,U,M,W⟩:=mc hz;rw[hi]at J;cases J;simp only[rel]at g;obtain⟨⟨base,cap,rfl,hcap,hb⟩,_,N⟩:=g;obtain⟨q1,q2⟩:=N ⟨_,hid,rfl⟩;cases n with
 | zero =>
  refine⟨E.w,?_,?_,?_⟩
  ·simp only [Tc, h0, I, cf, Sem.bz hu, cB]
   cases base<;>rfl
  ·simp only [ait, gS, mY, uK]
   rw[mf hid];exact HE
  ·simp only [ait, gS, mY, uK]
   rw[mf hid];exact Env.le.refl E
 | succ n =>
  obtain⟨b,o,rfl⟩:=hb (by omega);have d:∃ b m,E.loc[id]? = some (some (b,m)):=by
   rcases HE.obj id _ hid with⟨_,A⟩|⟨B,m',A,_⟩
   ·subst A
    simp at hle
   ·exact⟨B,m',A⟩
  obtain⟨B,m,d⟩:=d;obtain⟨g1,o',g2,g3⟩:=q2 B m d;have ho:=g2 (by omega);subst ho;simp only[j0,aT,IE]at g3;obtain⟨⟨rfl,rfl,_⟩,_,_⟩:=g3;have O:(x9 q.cells (n+1)).toList=(cI (n+1) z).flatten:=by
   rw[←M];have Y:0<q.cells.size:=by
    have:q.cells.size=z.length:=by rw[←M]; simp
    omega
   exact range_zero q.cells (n+1) Y
  have F:∀ r∈cI (n+1) (z.map AV.lit),r=z.map AV.lit:=fun r hr=>(IQ.1 hr).2;obtain⟨w',r1,r2,r3⟩:=Uq (P:=P) HE (off:=off) (news:=cI (n+1) (z.map AV.lit)) (vals:=(cI (n+1) z).flatten) hid d (vd z (n+1))
   (fun x g=>W x (ve g)) (fun r hr=>by rw[F r hr]; simp[R]) (fun r hr=>by rw[F r hr]; exact Db z) (by simpa using hle)
  simp only[List.length_replicate]at r2 r3;refine⟨w',?_,r2,r3⟩;simp only[Tc,h0,I,cf,Sem.bz hu,cB,me hi U,O];rw[r1];rfl
theorem Us{P:Program}{w:World}{t xt ty e:TypeId}{i:TypeInfo}{z:Value}{sz:Nat}{base:Option Addr}{m:Nat}{k k':IntKind}
  (A:P.underlying t=some (.slice e)) (B:P.underlying xt=some (.int k)) (hi:P.info? e=some i) (F:i.size=sz) (I:i.zero=some z) (d:0<sz) (h0:0<m) (hm:m≤1048576) (J:i.bytes≤1048576) :
  ∃ C,m≤C∧(mX #[t,xt] ty #[.slice base 0 0,.int k' (m:Int)]).run P w =
   .ok (.slice (some ⟨w.heap.size,0,none⟩) m C) (w.drew.alloc (.cells ((x9 z.cells m).toList++(x9 z.cells (C-m)).toList).toArray e)):=by
 have g:IntKind.i64.wrap (m:Int)=m:=wrap_small (by omega) (by omega);have h1:¬ (m≤0):=by omega
 have M:¬ ((m:Int)<0):=by omega
 have q:m*i.bytes≤1048576*1048576:=aio hm J;have N:¬ ((281474976710656:Int)<(m:Int)*(i.bytes:Int)):=by
  have:((m*i.bytes:Nat):Int)≤1099511627776:=Int.ofNat_le.2 (mS q (by decide));rw[Int.natCast_mul]at this;omega
 have O:¬ (IntKind.i64.max<(m:Int)):=by
  show ¬ ((9223372036854775807:Int)<(m:Int))
  omega
 have W:IK m 0*i.bytes≤281474976710656:=growslice_fits (by omega) (by omega);have R:¬ (281474976710656<IK m 0*i.bytes):=by omega
 have U:¬ (m*sz=0):=by
  have:=Nat.mul_pos h0 d;omega
 refine⟨grownCap w m 0 e,?_,?_⟩
 ·simp[grownCap,aip]
 ·simp [mX, run_underlying A, run_underlying B, sizeOf, typeInfo, zeroValue, hi, I, F, asInt, asIntOf, g, h1, M, N, O, R, U, aiq, newRow, grownCap, ia]
  rw[if_neg (by omega:¬ m=0),if_neg (by omega:¬ (9223372036854775807:Int)<(m:Int))];cases base<;>simp[loadCells,loadCellsFrom]<;>(congr 2; apply eT; simp)
def ql(P:Program)(t xt:TypeId)(s x:AV)(H:List af):Option (AV × List af) :=
 match bY P t,bY P xt,s,x with
 | .slice e sz bK,.int _,.lit (.slice none 0 0),.lit (.int _ n)=>match eF P e with
  |some z=>if z.length=sz∧0<sz∧bK≤1048576∧0<n∧n≤1048576 then some (.vec sz H.length 0 0 n.toNat,H++[.vec sz 0 (cI n.toNat (z.map AV.lit))]) else none
  |none=>none
 |_,_,_,_=>none
theorem Ut{P:Program}{E:Env}(HE:ar E){t xt ty:TypeId}{s x v:AV}{H':List af}{c F:Value}(h:ql P t xt s x E.H=some (v,H'))(I:rel E s c)(d:rel E x F) :
  ∃ u w',(mX #[t,xt] ty #[c,F]).run P E.w=.ok u w'∧dh E v H' u w':=by
 unfold ql at h;split at h
 case h_2=>cases h
 rename_i e sz bK k k' n hk M;split at h
 case h_2=>cases h
 rename_i z W;split at h
 case isFalse=>cases h
 rename_i hc;obtain⟨h1,Y,h3,h4,h5⟩:=hc;cases h;obtain⟨hu,i,hi,N,hby⟩:=gC hk;obtain⟨i',g,B,O,q,R⟩:=mc W;rw[hi]at B;cases B;simp only[rel]at I d;subst I;subst d;obtain⟨m,rfl⟩:∃ m:Nat,n=(m:Int):=⟨n.toNat,by omega⟩
 obtain⟨C,g1,g2⟩:=Us (P:=P) (w:=E.w) (ty:=ty) (base:=none) (k':=k') (m:=m) hu (Jr M) hi N O Y (by omega) (by omega) (by omega);have U:0<g.cells.size:=by
  have:g.cells.size=z.length:=by rw[←q]; simp
  omega
 have J:(x9 g.cells m).toList=(cI m z).flatten:=by rw[←q]; exact range_zero g.cells m U
 rw[J]at g2;have A:∀ r∈cI m (z.map AV.lit),r=z.map AV.lit:=fun r hr=>(IQ.1 hr).2;refine⟨_,_,g2,?_⟩;simp only[Int.toNat_natCast];refine JD HE (vd z m) (fun x d=>R x (ve d)) (fun r hr=>by rw[A r hr]; simp[h1]) (fun r hr=>by rw[A r hr]; exact Db z) (by simp) g1 ?_;simp only[kT,size_zeroCells];rw[←h1,←q];simp
end Go.AL

namespace Go.AL
open Go
variable [Dr]
def vh(P:Program)(t:TypeId)(n:Nat)(parts:List (Nat × AV))(H:List af):Option (AV × List af) :=
 match sI P t n parts with
 |some (.list sz rows)=>some (.vec sz H.length 0 0 rows.length,H++[.vec sz 0 rows])
 |_=>none
theorem JZ(k:Nat):∀(n:Nat) (out:List AV),out.length=n*k→(chunk k n out).flatten=out
 | 0,out,h=>by
  have:out=[]:=uJ (by simpa using h);subst this;rfl
 | n+1,out,h=>by
  simp only[chunk,uL];rw[JZ k n (out.drop k) (by rw[oe,h,aiu]; omega)];exact uK k out
theorem J0(k:Nat):∀(n:Nat) (out:List AV),out.length=n*k→∀ r∈chunk k n out,r.length=k
 |0,_,_,r,hr=>by simp[chunk]at hr
 | n+1,out,h,r,hr=>by
  simp only[chunk]at hr;rw[aiu]at h;rcases bI.1 hr with rfl|hr
  ·rw [iX]
   omega
  ·exact J0 k n (out.drop k) (by rw[oe]; omega) r hr
theorem Uu{P:Program}{E:Env}(HE:ar E){t:TypeId}{n:Nat}{parts:List (Nat × AV)}{cparts:List (Nat × Value)}{v:AV}{H':List af}(h:vh P t n parts E.H=some (v,H'))
  (hm:parts.map (·.1)=cparts.map (·.1)) (U:ad E (parts.map (·.2)) (cparts.map (·.2))) :
  ∃ u w',(IN t n cparts.toArray).run P E.w=.ok u w'∧dh E v H' u w':=by
 unfold vh at h;split at h
 case h_2=>cases h
 rename_i k rows0 h0;cases h;unfold sI at h0;split at h0
 case h_2=>cases h0
 rename_i e sz bK hk;obtain⟨hu,i,hi,B,_⟩:=gC hk;split at h0
 case h_2=>cases h0
 rename_i z W;obtain⟨i',g,F,M,I,N⟩:=mc W;rw[hi]at F;cases F;split at h0
 case isFalse=>cases h0
 rename_i hc;obtain⟨g1,g2,g3⟩:=hc;split at h0
 case h_2=>cases h0
 rename_i out J;split at h0
 case isFalse=>cases h0
 rename_i q;have O:g.cells.size=sz:=by rw[←g1,←I]; simp
 obtain⟨d,A⟩:∃ d:Array Value,d.toList=(cI n z).flatten:=⟨((cI n z).flatten).toArray,by simp⟩
 obtain⟨o,f1,f2,f3⟩:=u_ (E:=E) (cs:=d) J (by rw[A]; exact vd z n) (by rw[A]; intro x Y; exact N x (ve Y)) hm U;cases n with
 |zero=>cases h0
 |succ n =>
 cases h0;refine⟨.slice (some ⟨E.w.heap.size,0,none⟩) (n+1) (n+1),{ E.w with heap:=E.w.heap.push (.cells (o.toList++[]).toArray e) },?_,?_⟩
 ·have R : ¬ ((n + 1) * i.size > 2 ^ 24) := by rw [B]; omega
  simp only[IN,cf,Sem.bz hu,cB,Sem.run_sizeOf hi];rw[if_neg R];have h0:¬ ((n+1)*i.size=0):=by
   intro h;rcases S6.1 h with h|h
   ·omega
   ·omega
  rw[if_neg h0];simp only[cf,me hi M,cB,gR];have:(IM (fun x=>g.cells[x%g.cells.size]!) (gz ((n+1)*i.size)))=d:=by
   apply eT;rw[B,←O,range_zero g.cells (n+1) (by omega),I,A]
  rw[this,B,f1];simp[newRow]
 ·rw [va]
  exact JJ HE (C:=n+1) (by rw[JZ k (n+1) out q.2]; exact f2) f3 (J0 k (n+1) out q.2) (CY k _ out q.1) (va ..) (aI _) (by simp)
end Go.AL

namespace Go.AL
open Go
variable [Dr]
def gE (r:Nat→List (Option (Option (Nat × Nat)))) (l0:Nat) (q:Option (Nat × Nat)):Nat→List (Option (Option (Nat × Nat))):=fun l=>if l=l0 then r l++[some q] else r l
def fO (r:Nat→List (Option (Option (Nat × Nat)))) (l0 h:Nat):Nat→List (Option (Option (Nat × Nat))):=fun l=>if l=l0 then (r l).set h none else r l
def lp (r:Nat→List (Option (Option (Nat × Nat)))) (l0:Nat):Nat→List (Option (Option (Nat × Nat))):=fun l=>if l=l0 then (r l).map fun _=>none else r l
theorem Uv{r:Nat→List (Option (Option (Nat × Nat)))}{l0 l h:Nat}{q:Option (Nat × Nat)}{x:Option (Option (Nat × Nat))}(d:(gE r l0 q l)[h]? = some x):(r l)[h]? = some x∨(l=l0∧h=(r l).length∧x=some q):=by
 unfold gE at d;split at d
 ·rename_i e
  rw[gy]at d;split at d
  ·exact .inl d
  ·right
   cases hk:h-(r l).length with
   | zero =>
    rw[hk]at d;simp at d;exact⟨e,by omega,d.symm⟩
   |succ n=>rw[hk]at d; simp at d
 ·exact .inl d
theorem J1{r:Nat→List (Option (Option (Nat × Nat)))}{l0 l h:Nat}{q:Option (Nat × Nat)}(d:h<(r l).length):h<(gE r l0 q l).length∧(gE r l0 q l)[h]? = (r l)[h]? := by
 unfold gE;split
 ·exact⟨by simp; omega,dz d⟩
 ·exact⟨d,rfl⟩
theorem Uw{r:Nat→List (Option (Option (Nat × Nat)))}{l0 h0 l h:Nat}{q:Option (Nat × Nat)}(d:(fO r l0 h0 l)[h]? = some (some q)):(r l)[h]? = some (some q)∧¬ (l=l0∧h=h0):=by
 unfold fO at d;split at d
 ·rw [e_] at d
  split at d
  ·split at d<;>cases d
  ·rename_i h1
   exact⟨d,fun e=>h1 e.2.symm⟩
 ·rename_i h1
  exact⟨d,fun e=>h1 e.1⟩
theorem Dd{r:Nat→List (Option (Option (Nat × Nat)))}{l0 h0 l h:Nat}(d:¬ (l=l0∧h=h0)):(fO r l0 h0 l)[h]? = (r l)[h]? := by
 unfold fO;split
 ·rename_i e
  exact bH (fun g=>d ⟨e,g.symm⟩)
 ·rfl
theorem Ux{r:Nat→List (Option (Option (Nat × Nat)))}{l0 h0 l:Nat}:(fO r l0 h0 l).length=(r l).length:=by
 unfold fO;split<;>simp
theorem oM{r:Nat→List (Option (Option (Nat × Nat)))}{l0 l h:Nat}{q:Option (Nat × Nat)}(d:(lp r l0 l)[h]? = some (some q)):(r l)[h]? = some (some q)∧l≠l0:=by
 unfold lp at d;split at d
 ·rw [cq] at d
  cases g:(r l)[h]? with
  |none=>rw[g]at d; cases d
  |some y=>rw[g]at d; cases d
 ·rename_i e
  exact⟨d,e⟩
theorem Uy{r:Nat→List (Option (Option (Nat × Nat)))}{l0 l:Nat}:(lp r l0 l).length=(r l).length:=by
 unfold lp;split<;>simp
theorem ar.attach{E:Env}(H:ar E){id j l0:Nat}{o o' oj:af}{q:Option (Nat × Nat)}(hid:E.H[id]? = some o)(hlab:o.label=some l0)(hlab':o'.label=some l0)(hver:o'.aH = o.aH)(W:E.H[j]? = some oj)(hlj:oj.label=none)(hq:E.loc[j]? = some q)
  (ho:E.le { w:=E.w,H:=(E.H.set id o').set j .dead,loc:=E.loc.set j none,X:=E.X.re (gE E.X.r l0 q) }→aO { w:=E.w,H:=(E.H.set id o').set j .dead,loc:=E.loc.set j none,X:=E.X.re (gE E.X.r l0 q) } id o') :
  ar { w:=E.w,H:=(E.H.set id o').set j .dead,loc:=E.loc.set j none,X:=E.X.re (gE E.X.r l0 q) }∧E.le { w:=E.w,H:=(E.H.set id o').set j .dead,loc:=E.loc.set j none,X:=E.X.re (gE E.X.r l0 q) }:=by
 have hne:j≠id:=fun e=>by rw[e,hid]at W; cases W; rw[hlab]at hlj; cases hlj
 have hlt:=aJ hid;have hltj:=aJ W;have N:∀(i:Nat) x,(E.loc.set j none)[i]? = some (some x)→i≠j∧E.loc[i]? = some (some x):=fun i x hi=>by
  rw[e_]at hi;split at hi
  ·split at hi<;>cases hi
  ·rename_i e
   exact⟨Ne.symm e,hi⟩
 have Y:∀(i:Nat) x,((E.H.set id o').set j .dead)[i]? = some x→(i=j∧x=.dead)∨(i=id∧x=o')∨(i≠j∧i≠id∧E.H[i]? = some x):=fun i x hi=>by
  by_cases e:i=j
  ·subst e
   rw[cr (by simp; exact hltj)]at hi;cases hi;exact .inl ⟨rfl,rfl⟩
  ·rw [bH (Ne.symm e)] at hi
   by_cases B:i=id
   ·subst B
    rw[cr hlt]at hi;cases hi;exact .inr (.inl ⟨rfl,rfl⟩)
   ·rw [bH (Ne.symm B)] at hi
    exact .inr (.inr ⟨e,B,hi⟩)
 have hid':((E.H.set id o').set j .dead)[id]? = some o':=by
  rw[bH hne,cr hlt]
 have O:∀(l h b m:Nat),(gE E.X.r l0 q l)[h]? = some (some (some (b,m)))→(E.X.r l)[h]? = some (some (some (b,m)))∨(l=l0∧h=(E.X.r l).length∧E.loc[j]? = some (some (b,m))):=fun l h b m hk=>by
  rcases Uv hk with g|⟨g1,g2,g3⟩
  ·exact .inl g
  ·cases g3
   exact .inr ⟨g1,g2,hq⟩
 have hle:E.le { w:=E.w,H:=(E.H.set id o').set j .dead,loc:=E.loc.set j none,X:=E.X.re (gE E.X.r l0 q) }:=by
  refine⟨fun i ae hp=>?_,aI _,fun _ _ _=>rfl,fun b hb hno=>?_,fun i ae hp d=>?_,⟨rfl,rfl⟩,fun l h hh=>?_,.refl _⟩
  ·obtain ⟨x, h1, F⟩ := hp
   by_cases e:i=j
   ·subst e
    exact⟨.dead,by simp only[]; rw[cr (by simp; exact hltj)],fun v hv=>by cases hv⟩
   ·by_cases B : i = id
    ·subst B
     rw[hid]at h1;cases h1;exact⟨o',hid',fun v hv=>F v (by rw[←hver]; exact hv)⟩
    ·exact⟨x,by simp only[]; rw[bH (Ne.symm e),bH (Ne.symm B)]; exact h1,F⟩
  ·rintro (⟨i, c, hi⟩ | ⟨l, h, m, hm⟩)
   ·exact hno (.inl ⟨i,c,(N i _ hi).2⟩)
   ·rcases O l h b m hm with h1 | ⟨_, _, h1⟩
    ·exact hno (.inr ⟨l,h,m,h1⟩)
    ·exact hno (.inl ⟨j,m,h1⟩)
  ·obtain ⟨x, h1, F⟩ := d
   rcases Y i x h1 with⟨_,rfl⟩|⟨rfl,rfl⟩|⟨J,B,M⟩
   ·cases F
   ·exact⟨⟨o,hid,by rw[←hver]; exact F⟩,by simp only[]; rw[bH hne]⟩
   ·exact⟨⟨x,M,F⟩,by simp only[]; rw[bH (Ne.symm J)]⟩
  ·obtain ⟨g1, g2⟩ := J1 (r := E.X.r) (l0 := l0) (q := q) hh
   exact⟨g1,fun y I=>by
    have I:(gE E.X.r l0 q l)[h]? = some (some y):=I
    rwa [g2]at I⟩
 refine⟨⟨by simp[H.len],fun i k b m n hi hk=>H.inj i k b m n (N i _ hi).2 (N k _ hk).2,fun i b m hi=>H.lt i b m (N i _ hi).2,fun b hb=>H.X b hb,fun i x hi=>?_,H.fb.bG hle.toC,fun l h l' h' b m n h1 F=>?_,fun i b m l h n hi hk=>?_,fun l h b m hk=>?_,fun i k x y l hi hk h1 F=>?_,fun l hn h y I=>?_⟩,hle⟩
 ·rcases Y i x hi with ⟨rfl, rfl⟩ | ⟨rfl, rfl⟩ | ⟨J, B, M⟩
  ·simp only [aO]
   rw[cr (by rw[H.len]; exact hltj)]
  ·exact ho hle
  ·refine k_ (fun a _ hr => cC hle a hr) (by simp only []; rw [bH (Ne.symm J)]) (fun _ _ _ => rfl) (fun l d => ?_) (H.obj i x M)
   have U:l≠l0:=fun e=>B (H.uniq i id x o l M hid d (by rw[hlab,e]));exact⟨if_neg U,fun _ _ _ _=>rfl⟩
 ·rcases O l h b m h1 with g1 | ⟨g1, g2, g3⟩ <;> rcases O l' h' b n F with A | ⟨A, k2, R⟩
  ·exact H.fc _ _ _ _ _ _ _ g1 A
  ·exact(H.dj _ _ _ _ _ _ R g1).elim
  ·exact(H.dj _ _ _ _ _ _ g3 A).elim
  ·exact⟨by rw[g1,A],by rw[g2,k2,g1,A]⟩
 ·obtain ⟨g0, g1⟩ := N i _ hi
  rcases O l h b n hk with A|⟨A,k2,R⟩
  ·exact H.dj _ _ _ _ _ _ g1 A
  ·exact g0 (H.inj _ _ _ _ _ g1 R)
 ·rcases O l h b m hk with A | ⟨A, k2, R⟩
  ·exact H.cD _ _ _ _ A
  ·exact H.lt _ _ _ R
 ·have key:∀ (i:Nat) x,((E.H.set id o').set j .dead)[i]? = some x→x.label=some l→∃ y,E.H[i]? = some y∧y.label=some l:=by
   intro i x hi d;rcases Y i x hi with⟨_,rfl⟩|⟨rfl,rfl⟩|⟨J,B,M⟩
   ·cases d
   ·exact⟨o,hid,by rw[hlab,←hlab',d]⟩
   ·exact⟨x,M,d⟩
  obtain⟨x',a1,a2⟩:=key i x hi h1;obtain⟨y',b1,b2⟩:=key k y hk F;exact H.uniq i k x' y' l a1 b1 a2 b2
 ·have U : l ≠ l0 := fun e => hn id o' hid' (by rw [hlab', e])
  have I:(gE E.X.r l0 q l)[h]? = some (some y):=I;unfold gE at I;rw[if_neg U]at I;refine H.gT l (fun i x hi d=>?_) h y I;by_cases e:i=id
  ·subst e
   rw[hid]at hi;cases hi;exact U (by rw[hlab]at d; cases d; rfl)
  ·by_cases J : i = j
   ·subst J
    rw[W]at hi;cases hi;rw[hlj]at d;cases d
   ·exact hn i x (by show ((E.H.set id o').set j .dead)[i]? = _; rw[bH (Ne.symm J),bH (Ne.symm e)]; exact hi) d
theorem ar.De{E:Env}(H:ar E){id l0 h0:Nat}{o o' ov:af}{q:Option (Nat × Nat)}(hid:E.H[id]? = some o)(hlab:o.label=some l0)(Y:o'.label=some l0)(hver:o'.aH = o.aH)(hlv:ov.label=none) (J:∀ b m,q=some (b,m)→(E.X.r l0)[h0]? = some (some (some (b,m))))
  (ho:E.le { w:=E.w,H:=E.H.set id o'++[ov],loc:=E.loc++[q],X:=E.X.re (fO E.X.r l0 h0) }→aO { w:=E.w,H:=E.H.set id o'++[ov],loc:=E.loc++[q],X:=E.X.re (fO E.X.r l0 h0) } id o'∧aO { w:=E.w,H:=E.H.set id o'++[ov],loc:=E.loc++[q],X:=E.X.re (fO E.X.r l0 h0) } E.H.length ov) :
  ar { w:=E.w,H:=E.H.set id o'++[ov],loc:=E.loc++[q],X:=E.X.re (fO E.X.r l0 h0) }∧E.le { w:=E.w,H:=E.H.set id o'++[ov],loc:=E.loc++[q],X:=E.X.re (fO E.X.r l0 h0) }:=by
 have N:=aJ hid;have I:∀(i:Nat) x,(E.loc++[q])[i]? = some x→E.loc[i]? = some x∨(i=E.loc.length∧x=q):=fun i x hi=>by
  rw[gy]at hi;split at hi
  ·exact .inl hi
  ·right
   cases hk:i-E.loc.length with
   |zero=>rw[hk]at hi; simp at hi; exact⟨by omega,hi.symm⟩
   |succ n=>rw[hk]at hi; simp at hi
 have M:∀(i:Nat) x,(E.H.set id o'++[ov])[i]? = some x→(i=E.H.length∧x=ov)∨(i=id∧x=o')∨(i≠id∧E.H[i]? = some x):=fun i x hi=>by
  rw[gy]at hi;split at hi
  ·by_cases g : i = id
   ·subst g
    rw[cr N]at hi;cases hi;exact .inr (.inl ⟨rfl,rfl⟩)
   ·rw [bH (Ne.symm g)] at hi
    exact .inr (.inr ⟨g,hi⟩)
  ·left
   cases hk:i-(E.H.set id o').length with
   |zero=>rw[hk]at hi; simp at hi; simp at hk; rename_i h1; simp at h1; exact⟨by omega,hi.symm⟩
   |succ n=>rw[hk]at hi; simp at hi
 have hid':(E.H.set id o'++[ov])[id]? = some o':=by
  rw[dz (by simp; exact N),cr N]
 have B:∀(l h:Nat) y,(fO E.X.r l0 h0 l)[h]? = some (some y)→(E.X.r l)[h]? = some (some y)∧¬ (l=l0∧h=h0):=fun l h y hk=>Uw hk;have hle:E.le { w:=E.w,H:=E.H.set id o'++[ov],loc:=E.loc++[q],X:=E.X.re (fO E.X.r l0 h0) }:=by
  refine⟨fun i ae R=>?_,aI _,fun _ _ _=>rfl,fun b hb O=>?_,fun i ae R d=>?_,⟨rfl,rfl⟩,fun l h hh=>?_,.refl _⟩
  ·obtain ⟨x, h1, A⟩ := R
   by_cases g:i=id
   ·subst g
    rw[hid]at h1;cases h1;exact⟨o',hid',fun v hv=>A v (by rw[←hver]; exact hv)⟩
   ·exact⟨x,by simp only[]; rw[dz (by simp; exact aJ h1),bH (Ne.symm g)]; exact h1,A⟩
  ·rintro (⟨i, c, hi⟩ | ⟨l, h, m, hm⟩)
   ·rcases I i _ hi with h1 | ⟨_, h1⟩
    ·exact O (.inl ⟨i,c,h1⟩)
    ·exact O (.inr ⟨l0,h0,c,J b c h1.symm⟩)
   ·exact O (.inr ⟨l,h,m,(B l h _ hm).1⟩)
  ·obtain ⟨x0, g1, _⟩ := R
   have hii:=aJ g1;obtain⟨x,h1,A⟩:=d;have hloc:(E.loc++[q])[i]? = E.loc[i]? := dz (by rw[H.len]; exact hii);rcases M i x h1 with⟨e,rfl⟩|⟨rfl,rfl⟩|⟨g,F⟩
   ·omega
   ·exact⟨⟨o,hid,by rw[←hver]; exact A⟩,hloc⟩
   ·exact⟨⟨x,F,A⟩,hloc⟩
  ·refine ⟨?_, fun y U => (B l h y U).1⟩
   show h<(fO E.X.r l0 h0 l).length
   rw[Ux];exact hh
 refine⟨⟨by simp[H.len],fun i k b m n hi hk=>?_,fun i b m hi=>?_,fun b hb=>H.X b hb,fun i x hi=>?_,H.fb.bG hle.toC,fun l h l' h' b m n h1 A=>H.fc _ _ _ _ _ _ _ (B l h _ h1).1 (B l' h' _ A).1,fun i b m l h n hi hk=>?_,fun l h b m hk=>H.cD _ _ _ _ (B l h _ hk).1,fun i k x y l hi hk h1 A=>?_,fun l hn h y U=>?_⟩,hle⟩
 ·rcases I i _ hi with g1 | ⟨g1, g2⟩ <;> rcases I k _ hk with W | ⟨W, k2⟩
  ·exact H.inj _ _ _ _ _ g1 W
  ·exact(H.dj _ _ _ _ _ _ g1 (J b n k2.symm)).elim
  ·exact(H.dj _ _ _ _ _ _ W (J b m g2.symm)).elim
  ·omega
 ·rcases I i _ hi with g1 | ⟨g1, g2⟩
  ·exact H.lt _ _ _ g1
  ·exact H.cD _ _ _ _ (J b m g2.symm)
 ·rcases M i x hi with ⟨rfl, rfl⟩ | ⟨rfl, rfl⟩ | ⟨g, F⟩
  ·exact(ho hle).2
  ·exact(ho hle).1
  ·refine k_ (fun a _ hr => cC hle a hr) (by simp only []; rw [dz (by rw [H.len]; exact aJ F)]) (fun _ _ _ => rfl) (fun l d => ?_) (H.obj i x F)
   have hne2:l≠l0:=fun e=>g (H.uniq i id x o l F hid d (by rw[hlab,e]));exact⟨if_neg hne2,fun _ _ _ _=>rfl⟩
 ·obtain ⟨r1, r2⟩ := B l h _ hk
  rcases I i _ hi with g1|⟨g1,g2⟩
  ·exact H.dj _ _ _ _ _ _ g1 r1
  ·exact r2 (H.fc _ _ _ _ _ _ _ r1 (J b m g2.symm))
 ·have key:∀ (i:Nat) x,(E.H.set id o'++[ov])[i]? = some x→x.label=some l→∃ y,E.H[i]? = some y∧y.label=some l:=by
   intro i x hi d;rcases M i x hi with⟨_,rfl⟩|⟨rfl,rfl⟩|⟨g,F⟩
   ·rw[hlv]at d; cases d
   ·exact⟨o,hid,by rw[hlab,←Y,d]⟩
   ·exact⟨x,F,d⟩
  obtain⟨x',a1,a2⟩:=key i x hi h1;obtain⟨y',b1,b2⟩:=key k y hk A;exact H.uniq i k x' y' l a1 b1 a2 b2
 ·refine H.gT l (fun i x hi d => ?_) h y (B l h y U).1
  by_cases e:i=id
  ·subst e
   rw[hid]at hi;cases hi;exact hn i o' hid' (by rw[Y,←hlab,d])
  ·exact hn i x (by show (E.H.set id o'++[ov])[i]? = _; rw[dz (by simp; exact aJ hi),bH (Ne.symm e)]; exact hi) d
theorem ar.Uz{E:Env}(H:ar E){id l0:Nat}{o o':af}(hid:E.H[id]? = some o)(hlab:o.label=some l0)(O:o'.label=none)(I:o'.aH = o.aH)
  (U:E.le { w:=E.w,H:=E.H.set id o',loc:=E.loc,X:=E.X.re (lp E.X.r l0) }→aO { w:=E.w,H:=E.H.set id o',loc:=E.loc,X:=E.X.re (lp E.X.r l0) } id o') :
  ar { w:=E.w,H:=E.H.set id o',loc:=E.loc,X:=E.X.re (lp E.X.r l0) }∧E.le { w:=E.w,H:=E.H.set id o',loc:=E.loc,X:=E.X.re (lp E.X.r l0) }:=by
 have J:=aJ hid;have B:∀(i:Nat) x,(E.H.set id o')[i]? = some x→(i=id∧x=o')∨(i≠id∧E.H[i]? = some x):=fun i x hi=>by
  by_cases d:i=id
  ·subst d
   rw[cr J]at hi;cases hi;exact .inl ⟨rfl,rfl⟩
  ·rw [bH (Ne.symm d)] at hi
   exact .inr ⟨d,hi⟩
 have hle:E.le { w:=E.w,H:=E.H.set id o',loc:=E.loc,X:=E.X.re (lp E.X.r l0) }:=by
  refine⟨fun i ae N=>?_,aI _,fun _ _ _=>rfl,fun b hb M=>?_,fun i ae N g=>?_,⟨rfl,rfl⟩,fun l h W=>?_,.refl _⟩
  ·obtain ⟨x, h1, q⟩ := N
   by_cases d:i=id
   ·subst d
    rw[hid]at h1;cases h1;exact⟨o',by simp only[]; rw[cr J],fun v Y=>q v (by rw[←I]; exact Y)⟩
   ·exact⟨x,by simp only[]; rw[bH (Ne.symm d)]; exact h1,q⟩
  ·rintro (⟨i, c, hi⟩ | ⟨l, h, m, hm⟩)
   ·exact M (.inl ⟨i,c,hi⟩)
   ·exact M (.inr ⟨l,h,m,(oM hm).1⟩)
  ·obtain ⟨x, h1, q⟩ := g
   rcases B i x h1 with⟨rfl,rfl⟩|⟨d,A⟩
   ·exact⟨⟨o,hid,by rw[←I]; exact q⟩,rfl⟩
   ·exact⟨⟨x,A,q⟩,rfl⟩
  ·refine ⟨?_, fun y F => (oM F).1⟩
   show h<(lp E.X.r l0 l).length
   rw[Uy];exact W
 refine⟨⟨by simp[H.len],H.inj,H.lt,H.X,fun i x hi=>?_,H.fb.bG hle.toC,fun l h l' h' b m n h1 q=>H.fc _ _ _ _ _ _ _ (oM h1).1 (oM q).1,fun i b m l h n hi hk=>H.dj _ _ _ _ _ _ hi (oM hk).1,fun l h b m hk=>H.cD _ _ _ _ (oM hk).1,fun i k x y l hi hk h1 q=>?_,fun l hn h y F=>?_⟩,hle⟩
 ·rcases B i x hi with ⟨rfl, rfl⟩ | ⟨d, A⟩
  ·exact U hle
  ·refine k_ (fun a _ hr => cC hle a hr) rfl (fun _ _ _ => rfl) (fun l g => ?_) (H.obj i x A)
   have R:l≠l0:=fun e=>d (H.uniq i id x o l A hid g (by rw[hlab,e]));exact⟨if_neg R,fun _ _ _ _=>rfl⟩
 ·have key:∀ (i:Nat) x,(E.H.set id o')[i]? = some x→x.label=some l→E.H[i]? = some x:=by
   intro i x hi g;rcases B i x hi with⟨rfl,rfl⟩|⟨d,A⟩
   ·rw[O]at g; cases g
   ·exact A
  exact H.uniq i k x y l (key i x hi h1) (key k y hk q) h1 q
 ·obtain ⟨g1, g2⟩ := oM F
  refine H.gT l (fun i x hi g=>?_) h y g1;by_cases e:i=id
  ·subst e
   rw[hid]at hi;cases hi;exact g2 (by rw[hlab]at g; cases g; rfl)
  ·exact hn i x (by show (E.H.set id o')[i]? = _; rw[bH (Ne.symm e)]; exact hi) g
theorem yT{E:Env}(HE:ar E){id l w cl:Nat}{es:List (AV × Option (List (List AV)) × Nat)}{c:Value}(hid:E.H[id]? = some (.a7 l w es cl))(hr:rel E (.map id) c) :
  ∃ b n ms,c=.map (some b)∧E.loc[id]? = some (some (b,n))∧E.w.heap[b]? = some (.map ms cl)∧bP E (cO es) ms.toList∧iM E l w es ms.toList:=by
 have d:=HE.obj id _ hid;simp only[aO]at d;obtain⟨b,n,ms,h1,g,k,q⟩:=d;simp only[rel]at hr;obtain⟨_,_,A⟩:=hr;obtain⟨B,F,g1,g2⟩:=A ⟨_,hid,rfl⟩;rw[h1]at g1;simp only[aT,aZ]at g1;obtain⟨rfl,rfl⟩:=g1;exact⟨b,n,ms,g2,h1,g,k,q⟩
theorem yU{es:List (AV × Option (List (List AV)) × Nat)}{i:Nat}{x:AV × Option (List (List AV)) × Nat}(h:es[i]? = some x):(cO es)[i]? = some (x.1,.undef,x.2.2):=by
 unfold cO;rw[cq,h];rfl
def yV(P:Program)(t:TypeId):Option Nat:=match bY P t with
 |.slice _ w _=>some w
 |_=>none
def oN (es:List (AV × Option (List (List AV)) × Nat)) (i:Nat):Option (AV × List (List AV) × Nat):=match es[i]? with
 |some (key,some rows,n)=>some (key,rows,n)
 |_=>none
def vj(P:Program)(t:TypeId)(m k:AV)(H:List af):Option (AV × List af) :=
 match fe P t,m with
 | some (d,g),.map id=>match H[id]? with
  | some (.a7 l w es cl)=>match kl P d k,yV P g,jK P g with
   | some q,some w',some (.lit (.slice none 0 0))=>match ab w' w with
    | true=>match fE P d q (cO es) 0 with
     | some (some (i,_))=>match oN es i with
      |some (key,rows,n)=>some (.vec w H.length 0 0 rows.length,H.set id (.a7 l w (es.set i (key,none,n)) cl)++[.vec w 0 rows])
      |none=>none
     |some none=>some (.vec w H.length 0 0 0,H.set id (.a7 l w es cl)++[.vec w 0 []])
     |none=>none
    |false=>none
   |_,_,_=>none
  |_=>none
 |_,_=>none
theorem UA{E:Env}{l w i:Nat}{es:List (AV × Option (List (List AV)) × Nat)}{ms:List MapEntry}{x:AV × Option (List (List AV)) × Nat}(B:x.2.1=none)(h:iM E l w es ms):iM E l w (es.set i x) ms:=by
 obtain⟨F,h1,I⟩:=h;have g:∀(j:Nat) y,(es.set i x)[j]? = some y→y.2.1.isSome=true→es[j]? = some y∧j≠i:=fun j y d k=>by
  rw[e_]at d;split at d
  ·split at d
   ·cases d
    rw[B]at k;cases k
   ·cases d
  ·rename_i A
   exact⟨d,Ne.symm A⟩
 refine⟨F,fun a b y z d J q sz he=>h1 a b y z (g a y d q).1 (g b z J sz).1 q sz he,fun a y rows e d hr he=>I a y rows e (g a y d (by rw[hr]; rfl)).1 hr he⟩
theorem Df{E:Env}{i:Nat}{es:List (AV × Option (List (List AV)) × Nat)}{ms:List MapEntry}{x y:AV × Option (List (List AV)) × Nat}(hi:es[i]? = some x)(h1:y.1=x.1)(d:y.2.2=x.2.2)(h:bP E (cO es) ms):bP E (cO (es.set i y)) ms:=by
 have e:cO (es.set i y)=cO es:=by
  apply mW;intro j;unfold cO;rw[cq,cq,e_];split
  ·rename_i e
   subst e;rw[if_pos (aJ hi),hi];simp[h1,d]
  ·rfl
 rw[e];exact h
theorem UB{P:Program}{E:Env}(HE:ar E){t:TypeId}{m k v:AV}{c d:Value}{H':List af}(h:vj P t m k E.H=some (v,H'))(hm:rel E m c)(hk:rel E k d) :
  ∃ u w',(yd t c d false).run P E.w=.ok u w'∧dh E v H' u w':=by
 unfold vj at h;split at h
 case h_2=>cases h
 rename_i kt et id ht;split at h
 case h_2=>cases h
 rename_i l w es cl hid;split at h
 case h_2=>cases h
 rename_i kv w' hkv hw' hz;split at h
 case h_2=>cases h
 rename_i hww;have hww:=Nat.eq_of_beq_eq_true hww;clear hw' hww;obtain⟨b,n,ms,rfl,h1,h2,h3,h4⟩:=yT HE hid hm;have hkv':=lj hkv hk;have e1:(getObj b).run P E.w=.ok (.map ms cl) E.w:=by simp[getObj,kU,h2]
 have hlenH:E.H.length=E.loc.length:=HE.len.symm;split at h
 ·rename_i i v0 hf
  split at h
  case h_2=>cases h
  rename_i key rows bn hat;cases h;have hes:es[i]? = some (key,some rows,bn):=by
   unfold oN at hat;split at hat
   ·rename_i a1 a2 a3 he
    cases hat;exact he
   ·cases hat
  obtain⟨r',g1,g2⟩:=lk hkv' E.w h3 hf;cases r' with
  |none=>simp[eG]at g2
  | some q =>
   simp only[eG]at g2;obtain⟨q1,q2,_,e',q4,q5⟩:=g2;simp only[jC]at q4;have hval:q.2=e'.val:=q5.symm;obtain⟨N,k1,k2⟩:=h4;have hsl:=k2 i _ rows e' hes rfl q4;obtain⟨F,h0,z1,z2,z3⟩:∃(F:Option (Nat × Nat)) (h0:Nat),(∀ b m,F=some (b,m)→(E.X.r l)[h0]? = some (some (some (b,m)))) ∧
     (∀ j y,es[j]? = some y→y.2.1.isSome=true→j≠i→∀ b m,(E.X.r l)[N j]? = some (some (some (b,m)))→N j≠h0) ∧
     ((F=none∧rows=[]∧∃ base,e'.val=.slice base 0 0)∨∃ b m,F=some (b,m)∧e'.val=.slice (some ⟨b,0,none⟩) rows.length m∧isRow E.w b (m*w)∧rows.length≤m∧fa rows∧cL E w rows b 0):=by
    rcases hsl with⟨s1,s2⟩|⟨J,mm,s1,s2,s3,M,O,R⟩
    ·exact⟨none,(E.X.r l).length,fun _ _ e=>(by cases e),fun j y _ _ _ b m hb e=>(by rw[e]at hb; have:=aJ hb; omega),.inl ⟨rfl,s1,s2⟩⟩
    ·exact⟨some (J,mm),N i,fun _ _ e=>(by cases e; exact s1),fun j y B hsy W _ _ _ e=>W (k1 j i _ _ B hes hsy rfl e),.inr ⟨J,mm,rfl,s2,s3,M,O,R⟩⟩
   obtain⟨r1,r2⟩:=ar.De HE (id:=id) (l0:=l) (h0:=h0) (o':=.a7 l w (es.set i (key,none,bn)) cl) (ov:=.vec w 0 rows) (q:=F) hid rfl rfl rfl rfl z1 fun hle=>by
    refine⟨?_,?_⟩
    ·simp only [aO]
     refine⟨b,n,ms,?_,h2,?_,?_⟩
     ·rw [dz (aJ h1)]
      exact h1
     ·exact l7 (fun a _ hr=>cC hle a hr) (Df hes rfl rfl h3)
     ·obtain ⟨_, k3, k4⟩ := UA (i := i) (x := (key, none, bn)) rfl (show iM E l w es ms.toList from ⟨N, k1, k2⟩)
      refine⟨N,fun a U y z B hz sy sz he=>?_,fun a y rws e B hr he=>?_⟩
      all_goals
       have old:∀(j:Nat) y,(es.set i (key,none,bn))[j]? = some y→y.2.1.isSome=true→es[j]? = some y∧j≠i:=fun j y B hsm=>by
        rw[e_]at B;split at B
        ·split at B
         ·cases B
          cases hsm
         ·cases B
        ·rename_i W
         exact⟨B,Ne.symm W⟩
      ·exact k1 a U y z (old a y B sy).1 (old U z hz sz).1 sy sz he
      ·obtain ⟨o1, o2⟩ := old a y B (by rw [hr]; rfl)
       rcases k2 a y rws e o1 hr he with I|⟨J,mm,s1,s2,s3,M,O,R⟩
       ·exact .inl I
       ·refine .inr ⟨J, mm, ?_, s2, s3, M, O, k9 (fun a _ hr => cC hle a hr) rfl R⟩
        have W:=z2 a y o1 (by rw[hr]; rfl) o2 J mm s1;show (fO E.X.r l h0 l)[N a]? = _
        rw[Dd fun e=>W e.2];exact s1
    ·simp only [aO]
     have I:(E.loc++[F])[E.H.length]? = some F:=by rw[hlenH]; simp
     rcases z3 with⟨rfl,s1,_⟩|⟨J,mm,rfl,_,s3,M,O,R⟩
     ·exact .inl ⟨I,s1⟩
     ·exact .inr ⟨J,mm,I,s3,M,O,k9 (fun a _ hr=>cC hle a hr) rfl R⟩
   refine⟨q.2,E.w,?_,E.loc++[F],fO E.X.r l h0,?_,r1,r2⟩
   ·simp only [yd, cf, Sem.bz (iN ht), cB, e1, gR, km hkv', g1]
    rfl
   ·have hnew:(E.H.set id (.a7 l w (es.set i (key,none,bn)) cl)++[.vec w 0 rows])[E.H.length]? = some (.vec w 0 rows):=by
     rw[gx (by simp)];simp
    have I:(E.loc++[F])[E.H.length]? = some F:=by rw[hlenH]; simp
    rw[hval];simp only[rel];rcases z3 with⟨rfl,s1,base,s2⟩|⟨J,mm,rfl,s2,s3,M,O,R⟩
    ·subst s1
     refine⟨⟨base,0,by rw[s2]; rfl,aI _,fun h=>by simp at h⟩,⟨_,hnew,fun v Y=>by cases Y; exact aI _⟩,fun _=>⟨fun _=>⟨by first|rfl|trivial,by first|rfl|trivial,base,s2⟩,fun U m' A=>?_⟩⟩;rw[I]at A;cases A
    ·refine ⟨⟨_, mm, s2, M, fun _ => ⟨J, 0, rfl⟩⟩, ⟨_, hnew, fun v Y => by cases Y; exact aI _⟩, fun _ => ⟨fun A => ?_, fun U m' A => ?_⟩⟩
     ·rw [I] at A
      cases A
     ·rw [I] at A
      cases A;exact⟨by omega,0,fun _=>by simp,by rw[s2,jC]⟩
 ·rename_i hf
  cases h;obtain⟨r',g1,g2⟩:=lk hkv' E.w h3 hf;cases r' with
  |some _=>simp[eG]at g2
  | none =>
   obtain⟨zv,z1,z2⟩:=yQ hz E.w;have hzv:zv=.slice none 0 0:=by have:=z2 E; simpa[rel]using this
   obtain⟨r1,r2⟩:=ar.De HE (id:=id) (l0:=l) (h0:=(E.X.r l).length) (o':=.a7 l w es cl) (ov:=.vec w 0 []) (q:=none) hid rfl rfl rfl rfl (fun _ _ e=>by cases e) fun hle=>by
    refine⟨?_,?_⟩
    ·simp only [aO]
     refine⟨b,n,ms,?_,h2,l7 (fun a _ hr=>cC hle a hr) h3,uT (E:=E) (fun h g m hk=>⟨?_,rfl⟩) (fun _ _ _ _ _ U A _ hr=>k9 (fun a _ hr=>cC hle a hr) A hr) h4⟩
     ·rw [dz (aJ h1)]
      exact h1
     ·show (fO E.X.r l (E.X.r l).length l)[h]? = _
      rw[Dd fun e=>by rw[e.2]at hk; have:=aJ hk; omega];exact hk
    ·simp only [aO]
     exact .inl ⟨by rw[hlenH]; simp,by first|rfl|trivial⟩
   refine⟨zv,E.w,?_,E.loc++[none],fO E.X.r l (E.X.r l).length,?_,r1,r2⟩
   ·simp only [yd, cf, Sem.bz (iN ht), cB, e1, gR, km hkv', g1, z1]
    rfl
   ·have hnew:(E.H.set id (.a7 l w es cl)++[.vec w 0 []])[E.H.length]? = some (.vec w 0 []):=by
     rw[gx (by simp)];simp
    have I:(E.loc++[(none:Option (Nat × Nat))])[E.H.length]? = some none:=by rw[hlenH]; simp
    rw[hzv];simp only[rel];refine⟨⟨none,0,rfl,aI _,fun h=>by simp at h⟩,⟨_,hnew,fun v Y=>by cases Y; exact aI _⟩,fun _=>⟨fun _=>⟨by first|rfl|trivial,by first|rfl|trivial,none,rfl⟩,fun U m' A=>?_⟩⟩;rw[I]at A;cases A
 ·cases h
theorem Dg{es:List (AV × Option (List (List AV)) × Nat)}{i:Nat}{x:AV × Option (List (List AV)) × Nat}{f:AV × Option (List (List AV)) × Nat→AV × Option (List (List AV)) × Nat}(h:es[i]? = some x):es.modify i f=es.set i (f x):=by
 apply mW;intro j;rw[kV,e_];by_cases e:i=j
 ·subst e
  rw[if_pos rfl,if_pos (aJ h),h];simp
 ·rw [if_neg e]
  simp[e]
def vk(P:Program)(t:TypeId)(m k v:AV)(H:List af):Option (List af) :=
 match fe P t,m,v with
 | some (d,_),.map id,.vec w j ae off n=>match H[id]?,H[j]? with
  | some (.a7 l w' es cl),some (.vec q g rows)=>match kl P d k with
   | some A=>if (w=w'∧w=q)∧(ae=g∧off=0)∧n=rows.length∧k.closed=true then
     match fE P d A (cO es) 0 with
     |some (some (i,_))=>some ((H.set id (.a7 l w' (es.modify i fun e=>(k,some rows,e.2.2)) cl)).set j .dead)
     |some none=>some ((H.set id (.a7 l w' (es++[(k,some rows,cl)]) (cl+1))).set j .dead)
     |none=>none
    else none
   |none=>none
  |_,_=>none
 |_,_,_=>none
theorem vl{P:Program}{E:Env}(HE:ar E){id l w b n cl cl':Nat}{es es':List (AV × Option (List (List AV)) × Nat)}{ms ms':Array MapEntry}(hid:E.H[id]? = some (.a7 l w es cl)) (d:E.loc[id]? = some (some (b,n)))
  (J:E.w.heap[b]? = some (.map ms cl)) (hr:bP E (cO es') ms'.toList) (A:iM E l w es' ms'.toList) :
  ∃ w',(setObj b (.map ms' cl')).run P E.w=.ok () w'∧ar { w:=w',H:=E.H.set id (.a7 l w es' cl'),loc:=E.loc,X:=E.X }∧E.le { w:=w',H:=E.H.set id (.a7 l w es' cl'),loc:=E.loc,X:=E.X } ∧
   w'.heap[b]? = some (.map ms' cl')∧∀ y,y≠b→w'.heap[y]? = E.w.heap[y]? := by
 have q:=(HE.lt id b n d).1;have B:({ E.w with heap:=E.w.heap.setIfInBounds b (.map ms' cl') }:World).heap.size=E.w.heap.size:=by simp
 have k:∀ y,y≠b→({ E.w with heap:=E.w.heap.setIfInBounds b (.map ms' cl') }:World).heap[y]? = E.w.heap[y]? := by
  intro y M;simp only[S8];rw[if_neg (fun e=>M e.symm)]
 have key:=ar.TF (E:=E) (w':={ E.w with heap:=E.w.heap.setIfInBounds b (.map ms' cl') }) (o':=.a7 l w es' cl') (r':=E.X.r) HE hid rfl rfl rfl (by rw[B]; exact aI _) (fun x _ F _=>k x fun e=>F n (by rw[e]; exact d)) (fun _ _=>rfl) (fun _ _ _ h=>.inl h) (fun h N=>⟨N,fun _ O=>O⟩) (fun hle=>by
  simp only[aO];refine⟨b,n,ms',d,by simp[q],l7 (fun a _ hr=>cC hle a hr) hr,uT (E:=E) (fun h g m hk=>⟨hk,k g fun e=>HE.dj _ _ _ _ _ _ d (by rw[←e]; exact hk)⟩) (fun _ _ _ _ _ R I _ hr=>k9 (fun a _ hr=>cC hle a hr) I hr) A⟩) ⟨rfl,rfl,rfl,by first|exact fun _=>aI _|exact fun _=>eL _ _⟩
 rw[XS.TB]at key;exact⟨_,by simp[setObj,kU,J],key.1,key.2,by simp[q],k⟩
theorem Dh{E:Env}(HE:ar E){id j l w cl i ae:Nat}{es:List (AV × Option (List (List AV)) × Nat)}{rows:List (List AV)}{key:AV}{bn b n:Nat}{ms:Array MapEntry}{e:MapEntry}(hid:E.H[id]? = some (.a7 l w es cl))(B:E.H[j]? = some (.vec w ae rows))
  (hi:es[i]? = some (key,none,bn)) (hloc:E.loc[id]? = some (some (b,n))) (hb:E.w.heap[b]? = some (.map ms cl)) (he:ms.toList[i]? = some e) (hr:bP E (cO es) ms.toList) (hsl:iM E l w es ms.toList) (hv:rel E (.vec w j ae 0 rows.length) e.val) :
  ∃ Y r',ar { w:=E.w,H:=(E.H.set id (.a7 l w (es.set i (key,some rows,bn)) cl)).set j .dead,loc:=Y,X:=E.X.re r' }∧E.le { w:=E.w,H:=(E.H.set id (.a7 l w (es.set i (key,some rows,bn)) cl)).set j .dead,loc:=Y,X:=E.X.re r' }:=by
 have J:j≠id:=fun e=>by rw[e,hid]at B; cases B
 have M:=HE.obj j _ B;simp only[rel]at hv;obtain⟨_,_,v3⟩:=hv;obtain⟨v4,v5⟩:=v3 ⟨_,B,rfl⟩;simp only[aO]at M;obtain⟨q,hq⟩:∃ q,E.loc[j]? = some q:=by
  rcases M with⟨h1,_⟩|⟨O,m',h1,_⟩
  ·exact⟨_,h1⟩
  ·exact⟨_,h1⟩
 obtain⟨I,k1,k2⟩:=hsl;have htl:∀ h,h<(E.X.r l).length→(gE E.X.r l q l)[h]? = (E.X.r l)[h]? := fun h d=>(J1 d).2;have hnew:(gE E.X.r l q l)[(E.X.r l).length]? = some (some q):=by
  unfold gE;rw[if_pos rfl];simp
 obtain⟨r1,r2⟩:=ar.attach HE (id:=id) (j:=j) (o':=.a7 l w (es.set i (key,some rows,bn)) cl) (q:=q) hid rfl rfl rfl B rfl hq fun hle=>by
  simp only[aO];refine⟨b,n,ms,?_,hb,l7 (fun a _ hr=>cC hle a hr) (Df hi rfl rfl hr),?_⟩
  ·rw [bH J]
   exact hloc
  ·-- handles: the F ones, but at i the new one; empty ones take none
   have F:∀(a:Nat) y,(es.set i (key,some rows,bn))[a]? = some y→a≠i→es[a]? = some y:=fun a y g J=>by
    rwa [bH (Ne.symm J)]at g
   have at_i:∀ y,(es.set i (key,some rows,bn))[i]? = some y→y=(key,some rows,bn):=fun y g=>by
    rw[cr (aJ hi)]at g;cases g;rfl
   refine⟨fun a=>if a=i then (E.X.r l).length else if I a<(E.X.r l).length then I a else (E.X.r l).length+1+I a,fun a c y z g hz sy sz d=>?_,fun a y rws e' g hr' N=>?_⟩
   ·by_cases k : a = i
    ·by_cases A : c = i
     ·rw[k,A]
     ·simp only [if_pos k, if_neg A] at d
      split at d<;>omega
    ·by_cases A : c = i
     ·simp only [if_neg k, if_pos A] at d
      split at d<;>omega
     ·simp only [if_neg k, if_neg A] at d
      refine k1 a c y z (F a y g k) (F c z hz A) sy sz ?_;split at d<;>split at d<;>omega
   ·by_cases k : a = i
    ·subst k
     have:=at_i y g;subst this;cases hr';rw[he]at N;cases N;rcases M with⟨h1,R⟩|⟨O,m',h1,R,U,h4,h5⟩
     ·obtain ⟨_, _, base, U⟩ := v4 h1
      subst R;exact .inl ⟨rfl,base,U⟩
     ·obtain ⟨h6, o, h7, W⟩ := v5 O m' h1
      rw[hq]at h1;cases h1;simp only[dO,r7,jC]at h6 h7 W;by_cases hm:0<m'
      ·have := h7 hm
       subst this;refine .inr ⟨O,m',?_,W,R,U,h4,k9 (fun a _ hr=>cC hle a hr) rfl h5⟩;simp only[if_true];exact hnew
      ·have hr0 : rows = [] := uJ (by omega)
       have hm0:m'=0:=by omega
       subst hr0;subst hm0;exact .inl ⟨rfl,_,W⟩
    ·rcases k2 a y rws e' (F a y g k) hr' N with hl | ⟨bb, mm, s1, s2, s3, s4, s5, s6⟩
     ·exact .inl hl
     ·refine .inr ⟨bb, mm, ?_, s2, s3, s4, s5, k9 (fun a _ hr => cC hle a hr) rfl s6⟩
      have d:=aJ s1;simp only[if_neg k,if_pos d];show (gE E.X.r l q l)[I a]? = _
      rw[htl _ d];exact s1
 exact⟨_,_,r1,r2⟩
theorem UC{P:Program}{E:Env}(HE:ar E){t:TypeId}{m k v:AV}{c d u:Value}{H':List af}(h:vk P t m k v E.H=some H')(hm:rel E m c)(hk:rel E k d)(hv:rel E v u) :
  ∃ w',(r8 t c d u).run P E.w=.ok () w'∧∀ x,dh E .undef H' x w':=by
 unfold vk at h;split at h
 case h_2=>cases h
 rename_i kt et id w j ae off n ht;split at h
 case h_2=>cases h
 rename_i l w' es cl w2 ver' rows hid hj;split at h
 case h_2=>cases h
 rename_i kv hkv;split at h
 case isFalse=>cases h
 rename_i hc;obtain⟨⟨rfl,rfl⟩,⟨rfl,rfl⟩,rfl,hcl⟩:=hc;obtain⟨b,n,ms,rfl,h1,h2,h3,h4⟩:=yT HE hid hm;have hne:j≠id:=fun e=>by rw[e,hid]at hj; cases hj
 have J:=lj hkv hk;have e1:(getObj b).run P E.w=.ok (.map ms cl) E.w:=by simp[getObj,kU,h2]
 obtain⟨hlen,hall⟩:=fF.1 h3;rw[CH]at hlen;split at h
 ·rename_i i v0 hf
  cases h;obtain⟨r',g1,g2⟩:=lk J E.w h3 hf;cases r' with
  |none=>simp[eG]at g2
  | some q =>
   simp only[eG]at g2;obtain⟨q1,q2,_,e',I,q5⟩:=g2;obtain⟨_,x,y,f1,f2,f3⟩:=yS hf;simp only[jC]at I f1;obtain⟨a1,a2,a3,a4,a5⟩:=hall i x e' f1 I;obtain⟨s1,s2⟩:=Dc J (lj f2 a1) f3;have q4':ms[i]? = some e':=by simpa using I
   have hlt:i<es.length:=by have:=aJ I; omega
   obtain⟨B,hx0⟩:∃ B,es[i]? = some B:=⟨es[i],bE hlt⟩
   have hx:x=(B.1,.undef,B.2.2):=by rw[yU hx0]at f1; cases f1; rfl
   have hkk:(k,(none:Option (List (List AV))),B.2.2)=(k,none,B.2.2):=rfl;have hre:bP E (cO (es.set i (k,none,B.2.2))) (ms.modify i fun e=>{ e with key:=d,val:=u }).toList:=by
    rw[fF];refine⟨by simp[cO,hlen],fun a y z g A=>?_⟩;simp only[oh,kV]at A;obtain⟨z0,O,rfl⟩:=ft.1 A;unfold cO at g;rw[cq,e_]at g;by_cases e:i=a
    ·subst e
     rw[if_pos rfl,if_pos hlt]at g;cases g;rw[I]at O;cases O;simp only[if_true];refine⟨hk,by simp[rel],?_,hcl,rfl⟩;rw[a3,hx]
    ·rw [if_neg e] at g
     obtain⟨b1,b2,b3,b4,b5⟩:=hall a y z0 (by unfold cO; rw[cq]; exact g) O;simp only[if_neg e];exact⟨b1,b2,b3,b4,b5⟩
   have hsl2:iM E l w (es.set i (k,none,B.2.2)) (ms.modify i fun e=>{ e with key:=d,val:=u }).toList:=by
    obtain⟨hs,k1,k2⟩:=h4;have F:∀(a:Nat) y,(es.set i (k,none,B.2.2))[a]? = some y→y.2.1.isSome=true→es[a]? = some y∧a≠i:=fun a y g hsm=>by
     by_cases ei:i=a
     ·subst ei
      rw[cr hlt]at g;cases g;cases hsm
     ·rw [bH ei] at g
      exact⟨g,Ne.symm ei⟩
    refine⟨hs,fun a c y z g A R sz he=>k1 a c y z (F a y g R).1 (F c z A sz).1 R sz he,fun a y rws e g hr he=>?_⟩;obtain⟨o1,o2⟩:=F a y g (by rw[hr]; rfl);simp only[oh,kV]at he;obtain⟨z0,O,rfl⟩:=ft.1 he;rw[if_neg (Ne.symm o2)];exact k2 a y rws z0 o1 hr O
   obtain⟨w',p1,U,W,Y,p5⟩:=vl (P:=P) HE (cl':=cl) hid h1 h2 hre hsl2;have hst:(ye e'.key d).run P E.w=.ok d E.w:=by simp[ye,s2]
   have hrun:(r8 t (.map (some b)) d u).run P E.w=.ok () w':=by
    subst q1;simp only[r8,cf,Sem.bz (iN ht),cB,e1,km J,g1,q4',iZ,kW,hst];exact p1
   have M:({ w:=w',H:=E.H.set id (.a7 l w (es.set i (k,none,B.2.2)) cl),loc:=E.loc,X:=E.X }:Env).H[id]? = some (.a7 l w (es.set i (k,none,B.2.2)) cl):=by
    simp only[];rw[cr (aJ hid)]
   have hjE:({ w:=w',H:=E.H.set id (.a7 l w (es.set i (k,none,B.2.2)) cl),loc:=E.loc,X:=E.X }:Env).H[j]? = some (.vec w ae rows):=by
    simp only[];rw[bH (Ne.symm hne)];exact hj
   have N:=U.obj id _ M;simp only[aO]at N;obtain⟨b2,n2,ms2,o1,o2,o3,o4⟩:=N;rw[h1]at o1;simp only[aT,aZ]at o1;obtain⟨rfl,rfl⟩:=o1;rw[Y]at o2;cases o2;obtain⟨loc',r',r1,r2⟩:=Dh U (i:=i) (key:=k) (bn:=B.2.2) (e:={ e' with key:=d,val:=u }) M hjE (by rw[cr hlt]) h1 Y (by
    simp only[oh,kV,I];simp) o3 o4 (cC W _ hv)
   refine⟨w',hrun,fun xx=>⟨loc',r',by simp[rel],?_,W.trans ?_⟩⟩
   ·simpa[uO,Dg hx0]using r1
   ·simpa[uO,Dg hx0]using r2
 ·rename_i hf
  cases h;obtain⟨r',g1,g2⟩:=lk J E.w h3 hf;cases r' with
  |some _=>simp[eG]at g2
  | none =>
   have hml:ms.toList.length=es.length:=by omega
   have hre:bP E (cO (es++[(k,none,cl)])) (ms.push { key:=d,val:=u,born:=cl }).toList:=by
    rw[fF];refine⟨by simp[cO,hlen],fun a y z g A=>?_⟩;unfold cO at g;rw[j6]at g;simp only[yf,gy,bF]at g A;rw[hml]at A;by_cases e:a<es.length
    ·simp only [if_pos e] at g A
     exact hall a y z (by unfold cO; exact g) A
    ·simp only [if_neg e] at g A
     cases hj2:a-es.length with
     | zero =>
      rw[hj2]at g A;simp at g A;subst g; subst A;exact⟨hk,by simp[rel],rfl,hcl,rfl⟩
     |succ _=>rw[hj2]at g; simp at g
   have hsl2:iM E l w (es++[(k,none,cl)]) (ms.push { key:=d,val:=u,born:=cl }).toList:=by
    obtain⟨hs,k1,k2⟩:=h4;have F:∀(a:Nat) y,(es++[(k,(none:Option (List (List AV))),cl)])[a]? = some y→y.2.1.isSome=true→es[a]? = some y∧a<es.length:=fun a y g hsm=>by
     rw[gy]at g;split at g
     ·rename_i hh
      exact⟨g,hh⟩
     ·cases hk2 : a - es.length with
      | zero =>
       rw[hk2]at g;simp at g;subst g;cases hsm
      |succ _=>rw[hk2]at g; simp at g
    refine⟨hs,fun a c y z g A R sz he=>k1 a c y z (F a y g R).1 (F c z A sz).1 R sz he,fun a y rws e g hr he=>?_⟩;obtain⟨o1,o2⟩:=F a y g (by rw[hr]; rfl);simp only[yf]at he;rw[dz (by omega)]at he;exact k2 a y rws e o1 hr he
   obtain⟨w',p1,U,W,Y,p5⟩:=vl (P:=P) HE (cl':=cl+1) hid h1 h2 hre hsl2;have hrun:(r8 t (.map (some b)) d u).run P E.w=.ok () w':=by
    simp only[r8,cf,Sem.bz (iN ht),cB,e1,km J,g1];exact p1
   have M:({ w:=w',H:=E.H.set id (.a7 l w (es++[(k,none,cl)]) (cl+1)),loc:=E.loc,X:=E.X }:Env).H[id]? = some (.a7 l w (es++[(k,none,cl)]) (cl+1)):=by
    simp only[];rw[cr (aJ hid)]
   have hjE:({ w:=w',H:=E.H.set id (.a7 l w (es++[(k,none,cl)]) (cl+1)),loc:=E.loc,X:=E.X }:Env).H[j]? = some (.vec w ae rows):=by
    simp only[];rw[bH (Ne.symm hne)];exact hj
   have N:=U.obj id _ M;simp only[aO]at N;obtain⟨b2,n2,ms2,o1,o2,o3,o4⟩:=N;rw[h1]at o1;simp only[aT,aZ]at o1;obtain⟨rfl,rfl⟩:=o1;rw[Y]at o2;cases o2;obtain⟨loc',r',r1,r2⟩:=Dh U (i:=es.length) (key:=k) (bn:=cl) (e:={ key:=d,val:=u,born:=cl }) M hjE (by simp) h1 Y (by
    simp only[yf];rw[gx (by omega)];simp[hml]) o3 o4 (cC W _ hv)
   have e2:(es++[(k,(none:Option (List (List AV))),cl)]).set es.length (k,some rows,cl)=es++[(k,some rows,cl)]:=by
    rw[List.set_append_right _ _ (aI _),Nat.sub_self];rfl
   refine⟨w',hrun,fun xx=>⟨loc',r',by simp[rel],?_,W.trans ?_⟩⟩
   ·simpa[uO,e2]using r1
   ·simpa[uO,e2]using r2
 ·cases h
theorem ar.UD{E:Env}(H:ar E){id l0:Nat}{o o':af}(hid:E.H[id]? = some o)(hlab:o.label=none)(I:o'.label=some l0)(J:o'.aH = o.aH)(F:∀(i:Nat) x,E.H[i]? = some x→x.label≠some l0)
  (R:E.le { w:=E.w,H:=E.H.set id o',loc:=E.loc,X:=E.X }→aO { w:=E.w,H:=E.H.set id o',loc:=E.loc,X:=E.X } id o') :
  ar { w:=E.w,H:=E.H.set id o',loc:=E.loc,X:=E.X }∧E.le { w:=E.w,H:=E.H.set id o',loc:=E.loc,X:=E.X }:=by
 have M:=aJ hid;have B:∀(i:Nat) x,(E.H.set id o')[i]? = some x→(i=id∧x=o')∨(i≠id∧E.H[i]? = some x):=fun i x hi=>by
  by_cases g:i=id
  ·subst g
   rw[cr M]at hi;cases hi;exact .inl ⟨rfl,rfl⟩
  ·rw [bH (Ne.symm g)] at hi
   exact .inr ⟨g,hi⟩
 have hle:E.le { w:=E.w,H:=E.H.set id o',loc:=E.loc,X:=E.X }:=by
  refine⟨fun i ae N=>?_,aI _,fun _ _ _=>rfl,fun b hb F=>F,fun i ae N q=>?_,⟨rfl,rfl⟩,fun l h U=>⟨U,fun _ W=>W⟩,.refl _⟩
  ·obtain ⟨x, h1, d⟩ := N
   by_cases g:i=id
   ·subst g
    rw[hid]at h1;cases h1;exact⟨o',by simp only[]; rw[cr M],fun v Y=>d v (by rw[←J]; exact Y)⟩
   ·exact⟨x,by simp only[]; rw[bH (Ne.symm g)]; exact h1,d⟩
  ·obtain ⟨x, h1, d⟩ := q
   rcases B i x h1 with⟨rfl,rfl⟩|⟨g,A⟩
   ·exact⟨⟨o,hid,by rw[←J]; exact d⟩,rfl⟩
   ·exact⟨⟨x,A,d⟩,rfl⟩
 refine⟨⟨by simp[H.len],H.inj,H.lt,H.X,fun i x hi=>?_,H.fb.bG hle.toC,H.fc,H.dj,H.cD,fun i k x y l hi hk h1 d=>?_,fun l hn h y hy=>?_⟩,hle⟩
 ·rcases B i x hi with ⟨rfl, rfl⟩ | ⟨g, A⟩
  ·exact R hle
  ·exact k_ (fun a _ hr=>cC hle a hr) rfl (fun _ _ _=>rfl) (fun l q=>⟨rfl,fun _ _ _ _=>rfl⟩) (H.obj i x A)
 ·rcases B i x hi with ⟨rfl, rfl⟩ | ⟨g, A⟩ <;> rcases B k y hk with ⟨rfl, rfl⟩ | ⟨e4, O⟩
  ·rfl
  ·rw [I] at h1
   cases h1;exact(F k y O d).elim
  ·rw [I] at d
   cases d;exact(F i x A h1).elim
  ·exact H.uniq i k x y l A O h1 d
 ·refine H.gT l (fun i x hi q => ?_) h y hy
  by_cases e:i=id
  ·subst e
   rw[hid]at hi;cases hi;rw[hlab]at q;cases q
  ·exact hn i x (by show (E.H.set id o')[i]? = _; rw[bH (Ne.symm e)]; exact hi) q
theorem UE{E:Env}(HE:ar E){id l w cl:Nat}(hid:E.H[id]? = some (.map [] cl))(g:sH E.H l=true) :
  ar { w:=E.w,H:=E.H.set id (.a7 l w [] cl),loc:=E.loc,X:=E.X }∧E.le { w:=E.w,H:=E.H.set id (.a7 l w [] cl),loc:=E.loc,X:=E.X } :=
 ar.UD HE hid rfl rfl rfl (C7 g) fun hle=>by
  have d:=HE.obj id _ hid;simp only[aO]at d⊢;obtain⟨b,n,ms,h1,k,q⟩:=d;refine⟨b,n,ms,h1,k,l7 (fun a _ hr=>cC hle a hr) q,fun _=>0,fun i j x y hi=>by simp at hi,fun i x rows e hi=>by simp at hi⟩
theorem UF{E:Env}(HE:ar E){id l w cl i:Nat}{es:List (AV × Option (List (List AV)) × Nat)}{key:AV}{rows:List (List AV)}{bn b n:Nat}{ms:Array MapEntry}{e':MapEntry}(hid:E.H[id]? = some (.a7 l w es cl))(U:es[i]? = some (key,some rows,bn))
  (h1:E.loc[id]? = some (some (b,n))) (h2:E.w.heap[b]? = some (.map ms cl)) (h3:bP E (cO es) ms.toList) (h4:iM E l w es ms.toList) (q4:ms.toList[i]? = some e') :
  ∃ R r',ar { w:=E.w,H:=E.H.set id (.a7 l w (es.set i (key,none,bn)) cl)++[.vec w 0 rows],loc:=R,X:=E.X.re r' }∧E.le { w:=E.w,H:=E.H.set id (.a7 l w (es.set i (key,none,bn)) cl)++[.vec w 0 rows],loc:=R,X:=E.X.re r' } ∧
   rel { w:=E.w,H:=E.H.set id (.a7 l w (es.set i (key,none,bn)) cl)++[.vec w 0 rows],loc:=R,X:=E.X.re r' } (.vec w E.H.length 0 0 rows.length) e'.val:=by
 have hlenH:E.H.length=E.loc.length:=HE.len.symm;obtain⟨N,k1,k2⟩:=h4;have hsl:=k2 i _ rows e' U rfl q4;obtain⟨g,h0,z1,z2,z3⟩:∃(g:Option (Nat × Nat)) (h0:Nat),(∀ b m,g=some (b,m)→(E.X.r l)[h0]? = some (some (some (b,m)))) ∧
   (∀ j y,es[j]? = some y→y.2.1.isSome=true→j≠i→∀ b m,(E.X.r l)[N j]? = some (some (some (b,m)))→N j≠h0) ∧
   ((g=none∧rows=[]∧∃ base,e'.val=.slice base 0 0)∨∃ b m,g=some (b,m)∧e'.val=.slice (some ⟨b,0,none⟩) rows.length m∧isRow E.w b (m*w)∧rows.length≤m∧fa rows∧cL E w rows b 0):=by
  rcases hsl with⟨s1,s2⟩|⟨k,mm,s1,s2,s3,F,I,J⟩
  ·exact⟨none,(E.X.r l).length,fun _ _ e=>(by cases e),fun j y _ _ _ b m hb e=>(by rw[e]at hb; have:=aJ hb; omega),.inl ⟨rfl,s1,s2⟩⟩
  ·exact⟨some (k,mm),N i,fun _ _ e=>(by cases e; exact s1),fun j y d hsy M _ _ _ e=>M (k1 j i _ _ d U hsy rfl e),.inr ⟨k,mm,rfl,s2,s3,F,I,J⟩⟩
 obtain⟨r1,r2⟩:=ar.De HE (id:=id) (l0:=l) (h0:=h0) (o':=.a7 l w (es.set i (key,none,bn)) cl) (ov:=.vec w 0 rows) (q:=g) hid rfl rfl rfl rfl z1 fun hle=>by
  refine⟨?_,?_⟩
  ·simp only [aO]
   refine⟨b,n,ms,?_,h2,?_,?_⟩
   ·rw [dz (aJ h1)]
    exact h1
   ·exact l7 (fun a _ hr=>cC hle a hr) (Df U rfl rfl h3)
   ·refine ⟨N, fun a O y z d hz sy sz he => ?_, fun a y rws e d hr he => ?_⟩
    all_goals
     have W:∀(j:Nat) y,(es.set i (key,none,bn))[j]? = some y→y.2.1.isSome=true→es[j]? = some y∧j≠i:=fun j y d hsm=>by
      rw[e_]at d;split at d
      ·split at d
       ·cases d
        cases hsm
       ·cases d
      ·rename_i M
       exact⟨d,Ne.symm M⟩
    ·exact k1 a O y z (W a y d sy).1 (W O z hz sz).1 sy sz he
    ·obtain ⟨o1, o2⟩ := W a y d (by rw [hr]; rfl)
     rcases k2 a y rws e o1 hr he with B|⟨k,mm,s1,s2,s3,F,I,J⟩
     ·exact .inl B
     ·refine .inr ⟨k, mm, ?_, s2, s3, F, I, k9 (fun a _ hr => cC hle a hr) rfl J⟩
      have M:=z2 a y o1 (by rw[hr]; rfl) o2 k mm s1;show (fO E.X.r l h0 l)[N a]? = _
      rw[Dd fun e=>M e.2];exact s1
  ·simp only [aO]
   have B:(E.loc++[g])[E.H.length]? = some g:=by rw[hlenH]; simp
   rcases z3 with⟨rfl,s1,_⟩|⟨k,mm,rfl,_,s3,F,I,J⟩
   ·exact .inl ⟨B,s1⟩
   ·exact .inr ⟨k,mm,B,s3,F,I,k9 (fun a _ hr=>cC hle a hr) rfl J⟩
 refine⟨E.loc++[g],fO E.X.r l h0,r1,r2,?_⟩;have hnew:(E.H.set id (.a7 l w (es.set i (key,none,bn)) cl)++[.vec w 0 rows])[E.H.length]? = some (.vec w 0 rows):=by
  rw[gx (by simp)];simp
 have B:(E.loc++[g])[E.H.length]? = some g:=by rw[hlenH]; simp
 simp only[rel];rcases z3 with⟨rfl,s1,base,s2⟩|⟨k,mm,rfl,s2,s3,F,I,J⟩
 ·subst s1
  refine⟨⟨base,0,by rw[s2]; rfl,aI _,fun h=>by simp at h⟩,⟨_,hnew,fun v Y=>by cases Y; exact aI _⟩,fun _=>⟨fun _=>⟨by first|rfl|trivial,by first|rfl|trivial,base,s2⟩,fun O m' A=>?_⟩⟩;rw[B]at A;cases A
 ·refine ⟨⟨_, mm, s2, F, fun _ => ⟨k, 0, rfl⟩⟩, ⟨_, hnew, fun v Y => by cases Y; exact aI _⟩, fun _ => ⟨fun A => ?_, fun O m' A => ?_⟩⟩
  ·rw [B] at A
   cases A
  ·rw [B] at A
   cases A;exact⟨by omega,0,fun _=>by simp,by rw[s2,jC]⟩
theorem UG{E:Env}(HE:ar E)(w:Nat) :
  ar { w:=E.w,H:=E.H++[.vec w 0 []],loc:=E.loc++[none],X:=E.X }∧E.le { w:=E.w,H:=E.H++[.vec w 0 []],loc:=E.loc++[none],X:=E.X } ∧
   rel { w:=E.w,H:=E.H++[.vec w 0 []],loc:=E.loc++[none],X:=E.X } (.vec w E.H.length 0 0 0) (.slice none 0 0):=by
 have hle:E.le (E.push E.w (.vec w 0 []) none):=Env.jJ HE.len (Ext.refl _) (fun b n h=>by cases h);have d:(E.loc++[(none:Option (Nat × Nat))])[E.H.length]? = some none:=by rw[←HE.len]; simp
 have k:aO (E.push E.w (.vec w 0 []) none) E.H.length (.vec w 0 []):=by
  simp only[aO,Env.push];exact .inl ⟨d,trivial⟩
 refine⟨ar.push HE (Ext.refl _) (fun b n h=>by cases h) k,hle,?_⟩;simp only[rel];refine⟨⟨none,0,rfl,aI _,fun h=>by simp at h⟩,⟨.vec w 0 [],by simp,fun v q=>by cases q; exact aI _⟩,fun _=>⟨fun _=>⟨by first|rfl|trivial,by first|rfl|trivial,none,rfl⟩,fun A m' g=>?_⟩⟩;rw[d]at g;cases g
def vm(P:Program)(t:TypeId)(m k:AV)(H:List af):Option (AV × List af) :=
 match fe P t,m with
 | some (d,g),.map id=>match H[id]? with
  | some (.a7 l w es cl)=>match kl P d k,yV P g,jK P g with
   | some q,some w',some (.lit (.slice none 0 0))=>match ab w' w&&k.closed with
    | true=>match fE P d q (cO es) 0 with
     | some (some (i,_))=>match oN es i with
      |some (_,rows,n)=>some (.tuple [.vec w H.length 0 0 rows.length,.lit (goInt n)],H.set id (.a7 l w (es.set i (k,none,n)) cl)++[.vec w 0 rows])
      |none=>none
     |some none=>some (.tuple [.vec w H.length 0 0 0,.lit (goInt cl)],H.set id (.a7 l w (es++[(k,none,cl)]) (cl+1))++[.vec w 0 []])
     |none=>none
    |false=>none
   |_,_,_=>none
  |_=>none
 |_,_=>none
theorem UH{P:Program}{E:Env}(HE:ar E){t:TypeId}{m k v:AV}{c d:Value}{H':List af}(h:vm P t m k E.H=some (v,H'))(hm:rel E m c)(hk:rel E k d) :
  ∃ u w',(Td t c d).run P E.w=.ok u w'∧dh E v H' u w':=by
 unfold vm at h;split at h
 case h_2=>cases h
 rename_i kt et id ht;split at h
 case h_2=>cases h
 rename_i l w es cl hid;split at h
 case h_2=>cases h
 rename_i kv w' hkv hw' A;split at h
 case h_2=>cases h
 rename_i hww;simp only[aw]at hww;have hcl:=hww.2;clear hw' hww;obtain⟨b,n,ms,rfl,h1,h2,h3,h4⟩:=yT HE hid hm;have F:=lj hkv hk;have e1:(getObj b).run P E.w=.ok (.map ms cl) E.w:=by simp[getObj,kU,h2]
 obtain⟨hlen,Y⟩:=fF.1 h3;rw[CH]at hlen;have hidE:∀(w':World) es' cl',({ w:=w',H:=E.H.set id (.a7 l w es' cl'),loc:=E.loc,X:=E.X }:Env).H[id]? = some (.a7 l w es' cl'):=fun w' es' cl'=>by
  simp only[];rw[cr (aJ hid)]
 split at h
 ·rename_i i v0 O
  split at h
  case h_2=>cases h
  rename_i key rows bn N;cases h;have hes:es[i]? = some (key,some rows,bn):=by
   unfold oN at N;split at N
   ·rename_i a1 a2 a3 he
    cases N;exact he
   ·cases N
  have hlt:=aJ hes;obtain⟨r',g1,g2⟩:=lk F E.w h3 O;cases r' with
  |none=>simp[eG]at g2
  | some q =>
   simp only[eG]at g2;obtain⟨q1,q2,_,e',J,q5⟩:=g2;obtain⟨_,x,y,f1,f2,f3⟩:=yS O;simp only[jC]at J f1;obtain⟨a1,a2,a3,a4,a5⟩:=Y i x e' f1 J;obtain⟨s1,s2⟩:=Dc F (lj f2 a1) f3;have q4':ms[i]? = some e':=by simpa using J
   have hx:x=(key,.undef,bn):=by rw[yU hes]at f1; cases f1; rfl
   have hre:bP E (cO (es.set i (k,some rows,bn))) (ms.modify i fun e=>{ e with key:=d }).toList:=by
    rw[fF];refine⟨by simp[cO,hlen],fun a y z g A=>?_⟩;simp only[oh,kV]at A;obtain⟨z0,I,rfl⟩:=ft.1 A;unfold cO at g;rw[cq,e_]at g;by_cases e:i=a
    ·subst e
     rw[if_pos rfl,if_pos hlt]at g;cases g;rw[J]at I;cases I;simp only[if_true];refine⟨hk,by simp[rel],?_,hcl,rfl⟩;rw[a3,hx]
    ·rw [if_neg e] at g
     obtain⟨b1,b2,b3,b4,b5⟩:=Y a y z0 (by unfold cO; rw[cq]; exact g) I;simp only[if_neg e];exact⟨b1,b2,b3,b4,b5⟩
   have hsl2:iM E l w (es.set i (k,some rows,bn)) (ms.modify i fun e=>{ e with key:=d }).toList:=by
    obtain⟨hs,k1,k2⟩:=h4;have B:∀(a:Nat) y,(es.set i (k,some rows,bn))[a]? = some y→∃ z,es[a]? = some z∧z.2.1=y.2.1:=fun a y g=>by
     by_cases ei:i=a
     ·subst ei
      rw[cr hlt]at g;cases g;exact⟨_,hes,rfl⟩
     ·rw [bH ei] at g
      exact⟨y,g,rfl⟩
    refine⟨hs,fun a c y z g A R sz he=>?_,fun a y rws e g hr he=>?_⟩
    ·obtain ⟨y', hy', ey⟩ := B a y g
     obtain⟨z',hz',ez⟩:=B c z A;exact k1 a c y' z' hy' hz' (by rw[ey]; exact R) (by rw[ez]; exact sz) he
    ·obtain ⟨y', hy', ey⟩ := B a y g
     simp only[oh,kV]at he;obtain⟨z0,I,rfl⟩:=ft.1 he;have:=k2 a y' rws z0 hy' (by rw[ey]; exact hr) I;split<;>exact this
   obtain⟨M,p1,U,p3,p4,p5⟩:=vl (P:=P) HE (cl':=cl) hid h1 h2 hre hsl2;have hobj:=U.obj id _ (hidE M _ _);simp only[aO]at hobj;obtain⟨b2,n2,ms2,o1,o2,o3,o4⟩:=hobj;rw[h1]at o1;simp only[aT,aZ]at o1;obtain⟨rfl,rfl⟩:=o1;rw[p4]at o2;cases o2;obtain⟨loc',r',r1,r2,r3⟩:=UF U (i:=i) (key:=k) (rows:=rows) (bn:=bn) (e':={ e' with key:=d }) (hidE M _ _) (by rw[cr hlt]) h1 p4 o3 o4 (by
    simp only[oh,kV,J];simp)
   simp only[uO,Cm]at r1 r2 r3;refine⟨.tuple #[e'.val,goInt bn],M,?_,loc',r',?_,r1,p3.trans r2⟩
   ·have hst : (ye e'.key d).run P E.w = .ok d E.w := by simp [ye, s2]
    subst q1;simp only[Td,cf,Sem.bz (iN ht),cB,e1,km F,g1,q4',iZ,kW,hst];rw[p1];simp only[cB,gR];rw[a3,hx,←q5]
   ·simp only [rel]
    refine⟨_,rfl,?_⟩;simp only[ad,and_true];exact⟨r3,by simp[rel]⟩
 ·rename_i O
  cases h;obtain⟨r',g1,g2⟩:=lk F E.w h3 O;cases r' with
  |some _=>simp[eG]at g2
  | none =>
   obtain⟨W,z1,z2⟩:=yQ A E.w;have hzv:W=.slice none 0 0:=by have:=z2 E; simpa[rel]using this
   have hml:ms.toList.length=es.length:=by omega
   have hre:bP E (cO (es++[(k,none,cl)])) (ms.push { key:=d,val:=W,born:=cl }).toList:=by
    rw[fF];refine⟨by simp[cO,hlen],fun a y z g A=>?_⟩;unfold cO at g;rw[j6]at g;simp only[yf,gy,bF]at g A;rw[hml]at A;by_cases e:a<es.length
    ·simp only [if_pos e] at g A
     exact Y a y z (by unfold cO; exact g) A
    ·simp only [if_neg e] at g A
     cases hj2:a-es.length with
     | zero =>
      rw[hj2]at g A;simp at g A;subst g; subst A;exact⟨hk,by simp[rel],rfl,hcl,rfl⟩
     |succ _=>rw[hj2]at g; simp at g
   have hsl2:iM E l w (es++[(k,none,cl)]) (ms.push { key:=d,val:=W,born:=cl }).toList:=by
    obtain⟨hs,k1,k2⟩:=h4;have B:∀(a:Nat) y,(es++[(k,(none:Option (List (List AV))),cl)])[a]? = some y→y.2.1.isSome=true→es[a]? = some y∧a<es.length:=fun a y g hsm=>by
     rw[gy]at g;split at g
     ·rename_i hh
      exact⟨g,hh⟩
     ·cases hk2 : a - es.length with
      | zero =>
       rw[hk2]at g;simp at g;subst g;cases hsm
      |succ _=>rw[hk2]at g; simp at g
    refine⟨hs,fun a c y z g A R sz he=>k1 a c y z (B a y g R).1 (B c z A sz).1 R sz he,fun a y rws e g hr he=>?_⟩;obtain⟨o1,o2⟩:=B a y g (by rw[hr]; rfl);simp only[yf]at he;rw[dz (by omega)]at he;exact k2 a y rws e o1 hr he
   obtain⟨M,p1,U,p3,p4,p5⟩:=vl (P:=P) HE (cl':=cl+1) hid h1 h2 hre hsl2;obtain⟨r1,r2,r3⟩:=UG U w;simp only[Cm]at r3;refine⟨.tuple #[W,goInt cl],M,?_,E.loc++[none],E.X.r,?_,r1,p3.trans r2⟩
   ·simp only [Td, cf, Sem.bz (iN ht), cB, e1, km F, g1, z1]
    rw[p1];rfl
   ·simp only [rel]
    refine⟨_,rfl,?_⟩;simp only[ad,and_true];rw[hzv];exact⟨r3,by simp[rel]⟩
 ·cases h
def qm (es:List (AV × Option (List (List AV)) × Nat)) (st:Int):Option Nat:=es.findIdx? fun x=>(x.2.2:Int)==st
def vn(m s v:AV)(H:List af):Option (List af) :=
 match m,s,v with
 | .map id,.lit (.int .i64 st),.vec w j ae off n=>match H[id]?,H[j]? with
  | some (.a7 l w' es cl),some (.vec g d rows)=>if (w=w'∧w=g)∧(ae=d∧off=0)∧n=rows.length then
    match qm es st with
    | some i=>match es[i]? with
     |some (key,_,bn)=>some ((H.set id (.a7 l w' (es.set i (key,some rows,bn)) cl)).set j .dead)
     |none=>none
    |none=>none
   else none
  |_,_=>none
 |_,_,_=>none
theorem J2{E:Env}{st:Int}:∀{es:List (AV × Option (List (List AV)) × Nat)} {ms:List MapEntry},bP E (cO es) ms→ms.findIdx? (fun e=>(e.born:Int)==st)=qm es st
 | [],[],_=>rfl
 | [],_::_,h=>by simp[cO,bP]at h
 |_::_,[],h=>by simp[cO,bP]at h
 | x::es,e::ms,h=>by
  have h':bP E ((x.1,.undef,x.2.2)::cO es) (e::ms):=h;simp only[bP]at h';obtain⟨_,_,g,_,_,k⟩:=h';have d:=J2 (st:=st) k;unfold qm at d⊢;simp only[List.findIdx?_cons,g,d]
theorem UI{P:Program}{E:Env}(HE:ar E){t:TypeId}{m s v:AV}{c d u:Value}{H':List af}(h:vn m s v E.H=some H')(hm:rel E m c)(F:rel E s d)(hv:rel E v u) :
  ∃ w',(Te t c d u).run P E.w=.ok () w'∧∀ x,dh E .undef H' x w':=by
 unfold vn at h;split at h
 case h_2=>cases h
 rename_i id st w j ae off n;split at h
 case h_2=>cases h
 rename_i l w' es cl w2 ver' rows hid I;split at h
 case isFalse=>cases h
 rename_i hc;obtain⟨⟨rfl,rfl⟩,⟨rfl,rfl⟩,rfl⟩:=hc;split at h
 case h_2=>cases h
 rename_i i hi;split at h
 case h_2=>cases h
 rename_i key k bn Y;cases h;obtain⟨b,n,ms,rfl,h1,h2,h3,h4⟩:=yT HE hid hm;have hne:j≠id:=fun e=>by rw[e,hid]at I; cases I
 have e1:(getObj b).run P E.w=.ok (.map ms cl) E.w:=by simp[getObj,kU,h2]
 obtain⟨hlen,R⟩:=fF.1 h3;rw[CH]at hlen;have B:=aJ Y;obtain⟨e',q4⟩:∃ e',ms.toList[i]? = some e':=⟨ms.toList[i]'(by omega),bE _⟩
 have hfind:ms.findIdx? (fun e=>(e.born:Int)==st)=some i:=by
  have e0:ms=ms.toList.toArray:=by simp
  rw[e0,List.findIdx?_toArray,J2 h3,hi]
 have hre:bP E (cO (es.set i (key,none,bn))) (ms.modify i fun e=>{ e with val:=u }).toList:=by
  rw[fF];refine⟨by simp[cO,hlen],fun a y z g A=>?_⟩;simp only[oh,kV]at A;obtain⟨z0,q,rfl⟩:=ft.1 A;unfold cO at g;rw[cq,e_]at g;by_cases e:i=a
  ·subst e
   rw[if_pos rfl,if_pos B]at g;cases g;obtain⟨b1,J,M,N,b5⟩:=R i _ z0 (yU Y) q;simp only[if_true];exact⟨b1,by simp[rel],M,N,rfl⟩
  ·rw [if_neg e] at g
   obtain⟨b1,J,M,N,b5⟩:=R a y z0 (by unfold cO; rw[cq]; exact g) q;simp only[if_neg e];exact⟨b1,J,M,N,b5⟩
 have hsl2:iM E l w (es.set i (key,none,bn)) (ms.modify i fun e=>{ e with val:=u }).toList:=by
  obtain⟨F,k1,k2⟩:=h4;have k:∀(a:Nat) y,(es.set i (key,none,bn))[a]? = some y→y.2.1.isSome=true→es[a]? = some y∧a≠i:=fun a y g hsm=>by
   by_cases O:i=a
   ·subst O
    rw[cr B]at g;cases g;cases hsm
   ·rw [bH O] at g
    exact⟨g,Ne.symm O⟩
  refine⟨F,fun a c y z g A sy sz he=>k1 a c y z (k a y g sy).1 (k c z A sz).1 sy sz he,fun a y rws e g hr he=>?_⟩;obtain⟨o1,o2⟩:=k a y g (by rw[hr]; rfl);simp only[oh,kV]at he;obtain⟨z0,q,rfl⟩:=ft.1 he;rw[if_neg (Ne.symm o2)];exact k2 a y rws z0 o1 hr q
 obtain⟨w',p1,p2,p3,p4,p5⟩:=vl (P:=P) HE (cl':=cl) hid h1 h2 hre hsl2;have hd:d=.int .i64 st:=by simpa[rel]using F
 have hrun:(Te t (.map (some b)) d u).run P E.w=.ok () w':=by
  subst hd;simp only[Te,asInt,asIntOf,cf,cB,e1,gR,hfind];exact p1
 have U:({ w:=w',H:=E.H.set id (.a7 l w (es.set i (key,none,bn)) cl),loc:=E.loc,X:=E.X }:Env).H[id]? = some (.a7 l w (es.set i (key,none,bn)) cl):=by
  simp only[];rw[cr (aJ hid)]
 have hjE:({ w:=w',H:=E.H.set id (.a7 l w (es.set i (key,none,bn)) cl),loc:=E.loc,X:=E.X }:Env).H[j]? = some (.vec w ae rows):=by
  simp only[];rw[bH (Ne.symm hne)];exact I
 have W:=p2.obj id _ U;simp only[aO]at W;obtain⟨J,n2,ms2,o1,o2,o3,o4⟩:=W;rw[h1]at o1;simp only[aT,aZ]at o1;obtain⟨rfl,rfl⟩:=o1;rw[p4]at o2;cases o2;obtain⟨loc',r',r1,r2⟩:=Dh p2 (i:=i) (key:=key) (bn:=bn) (e:={ e' with val:=u }) U hjE (by rw[cr B]) h1 p4 (by
  simp only[oh,kV,q4];simp) o3 o4 (cC p3 _ hv)
 refine⟨w',hrun,fun xx=>⟨loc',r',by simp[rel],?_,p3.trans ?_⟩⟩
 ·simpa[uO]using r1
 ·simpa[uO]using r2
end Go.AL
