/-
 What is proved here: basic facts of an abstract logic for the model's programs: abstract values,what they say of the model's values in a world,and that this survives what a call may do. No program in sight; no condition.
-/
import Derived.Calls
import Derived.Orders
import Derived.OrdersIn
import Derived.RangeFuncNested
import Derived.RangeFuncLeaves
import Derived.Laws.Sem
import Derived.Laws.Cells
import Derived.Laws.StructEq
import Derived.Laws.AppendOwn
import Derived.Laws.CopyRow
set_option linter.all false
open Array renaming getElem?_push→wA,length_toList→ls,toList_map→RW,ext'→fm,range→gu,map→Ho,getElem?_setIfInBounds→AP,toList_modify→kJ,toList_push→oU
open BitVec renaming ofInt→wB
open Bool renaming and_true→fD,and_eq_true→ax,false_eq_true→kF,and_assoc→agG
open ByteArray renaming empty→wz
open Go.Act renaming eval→AG
open Go.Addr.mk renaming injEq→Hd
open Go.Builtin renaming lenOf→Hh,firstCells→h_,append_→mg,zeroCells→wG,nextslicecap→Hk,delete_→R6,clear_→R9
open Go.Instr renaming loadAt→AI,sureAddr→ng,fieldAt→RP,indexAt→wC,sliceBounds→qo,sliceBound→AJ,sliceAt→mf,slice→nh,index→RT,field→agJ,fill→agK,build→RV,storeAt→Hm,alloc→AO,box→agP,makeSlice→agQ,buildSlice→Hq,range→R0,checkKey→tn,findAsking→R3,findNow→wI,sameNow→wK,findKey→R4,lookup→kH,makeMap→R5,sameBits→Hr,mapUpdate→mh,keyThatStays→qu,mapEntry→AQ,entryStore→wM
open Go.Op renaming bytesLess→lr,equalIn→jz,eqFields→RS,equal→wF
open Go.Program renaming fieldsOf→agI
open Go.Question renaming cut→agN,forced→agO
open Go.Result renaming andThen_ok→bX
open Go.Sem renaming run_bind→bW,run_pure→fl,run→gv
open Go.Utf8 renaming decode→nm
open Go.Value renaming cells→Hf
open Go.Value.pointer renaming injEq→agE
open Go.Value.slice renaming injEq→jT
open Go.World renaming cell?→te,setRow→agL
open List renaming length_cons→cr,append_nil→db,getElem?_append_left→cK,length_map→cN,getElem?_map→bT,getElem_of_mem→ma,getElem?_eq_getElem→bt,mem_of_getElem?→eB,getElem?_eq_none→me,getElem?_append_right→hZ,getElem?_append→fk,getElem?_set_self→bx,getElem?_set_ne→aR,getElem?_set→dU,set_eq_of_length_le→Hb,all_eq_true→dq,nodup_nil→Hc,getD_eq_getElem?_getD→bG,getElem?_drop→oR,getElem?_take→nf,take_succ_cons→AH,mem_cons→bR,map_cons→dg,map_take→RQ,map_drop→He,mem_of_mem_drop→wD,mem_of_mem_take→wE,cons_append→kG,drop_succ_cons→agH,take_one→RR,eq_nil_of_length_eq_zero→AK,drop_drop→oS,take_append_drop→tf,ext_getElem?→jU,length_take→jA,length_set→nk,length_append→dY,mem_append→cZ,mapM_cons→RU,flatten_cons→qs,getElem?_of_mem→nl,size_toArray→AN,nil_append→jV,length_drop→oT,flatten_append→wH,replicate→bO,replicate_succ→RX,eq_of_mem_replicate→RY,getElem?_modify→iJ,mem_cons_self→cO,mem_cons_of_mem→c9,replicate_zero→agR,mem_replicate→R_,set_set→oV,map_append→jX,findIdx?_cons→Hs,findIdx?_toArray→agT
open List.cons renaming injEq→AM
open Nat renaming add_assoc→oP,add_comm→td,add_mul→fE,le_refl→aD,le_add_right→eR,le_trans→oQ,lt_of_lt_of_le→dz,zero_le→eI,ne_of_lt→agD,lt_or_ge→jy,zero_add→cW,sub_sub→agF,mul_le_mul→agM,sub_zero→gq,zero_mul→qt,add_zero→lv,mul_le_mul_right→tg,one_mul→Hn,beq→ae,mul_eq_zero→RZ,succ_mul→agS,eq_of_beq_eq_true→bk,le_of_eq→agU
open Option renaming map_eq_some_iff→dN,isSome_iff_exists→qp,map_some→dO,getD_some→ga
open Option.some renaming injEq→aQ
open Prod.mk renaming injEq→a7
namespace Go.AL
inductive Kd where
 |int (k:IntKind)
 |str
 |bool
 |list (ks:List Kd)
 deriving Inhabited
inductive G where
 |i (n:Int)
 |s (b:ByteArray)
 |t (x:Bool)
 |l (rows:List (List G))
instance:Inhabited G:=⟨.i 0⟩
def G.int:G→Int
 |.i n=>n
 |_=>0
def G.str:G→ByteArray
 |.s b=>b
 |_=>wz
def G.bool:G→Bool
 |.t x=>x
 |_=>false
def G.rows:G→List (List G)
 |.l rows=>rows
 |_=>[]
inductive AV where
 |undef
 |lit (v:Value)
 |nils
 |list (k:Nat) (rows:List (List AV))
 |listF (ks:List Kd) (rows:List (List G))
 |agg (cells:List AV)
 |tuple (vs:List AV)
 |cptr (cells:List AV)
 |ptr (id ad k row col:Nat)
 |vec (k id ad off n:Nat)
 |map (id:Nat)
 |clo (f:FuncId) (caps:List AV)
 |ifc
 |emptyS (isNil:Bool)
 |sub (id l:Nat) (j:Option Nat)
 deriving Inhabited
def iK:Kd→G→AV
 |.int k,g=>.lit (.int k g.int)
 |.str,g=>.lit (.string g.str)
 |.bool,g=>.lit (.bool g.bool)
 |.list ks,g=>.listF ks g.rows
def aH:List Kd→List G→List AV
 | [],_=>[]
 |k::ks,g=>iK k (g.headD default)::aH ks g.tail
theorem qE:∀(ks:List Kd) (g:List G),(aH ks g).length=ks.length
 | [],_=>rfl
 |_::ks,g=>by simp[aH,qE ks]
inductive ab where
 |dead
 |box (cells:List AV)
 |vec (k ad:Nat) (rows:List (List AV))
 |map (es:List (AV × AV × Nat)) (clock:Nat)
 |iter (s:ByteArray) (pos:Nat)
 |eJ (l:Nat) (T B:TypeId) (s:ByteArray)
 |aO (l k:Nat) (es:List (AV × Option (List (List AV)) × Nat)) (clock:Nat)
 |mm (l:Nat) (es:List (AV × Option Nat × Nat)) (ms:List (List (AV × AV × Nat) × Nat)) (clock:Nat)
 |dQ
 deriving Inhabited
def ab.born:ab→Bool
 |.dQ=>false
 |_=>true
def ab.label:ab→Option Nat
 |.eJ l _ _ _=>some l
 |.aO l _ _ _=>some l
 |.mm l _ _ _=>some l
 |_=>none
def ab.dh:ab→Option Nat
 |.mm l _ _ _=>some l
 |_=>none
theorem ab.kM{o:ab}{l:Nat}(h:o.dh=some l):o.label=some l:=by
 cases o<;>first|exact h|cases h
theorem ab.A7{o:ab}{l:Nat}(h:o.dh=some l):o.born=true:=by
 cases o<;>first|rfl|cases h
theorem ab.wW{o:ab}{l:Nat}(h:o.label=some l):o.born=true:=by
 cases o<;>first|rfl|cases h
theorem ab.wX{o:ab}(h:o.label=none):o.dh=none:=by
 cases o<;>first|rfl|cases h
def ab.aF : ab→Option Nat
 |.dead=>none
 |.box _=>some 0
 |.vec _ v _=>some v
 |.map _ _=>some 0
 |.iter _ _=>some 0
 |.eJ ..=>some 0
 |.aO ..=>some 0
 |.mm ..=>some 0
 |.dQ=>none
theorem ab.A8{o:ab}{v:Nat}(h:o.aF = some v):o.born=true:=by
 cases o<;>first|rfl|cases h
structure XS where
 x:Nat→Prop
 z:Nat→Prop
 r:Nat→List (Option (Option (Nat × Nat)))
instance:CoeFun XS fun _=>Nat→Prop:=⟨XS.x⟩
def XS.or(X:XS)(p:Nat→Prop):XS:=⟨fun b=>X b∨p b,X.z,X.r⟩
def XS.re(X:XS) (r:Nat→List (Option (Option (Nat × Nat)))):XS:=⟨X.x,X.z,r⟩
@[simp] theorem XS.Sw (X:XS):X.re X.r=X:=rfl
@[simp] theorem XS.ahj (X:XS) (r):(X.re r).x=X.x:=rfl
@[simp] theorem XS.ahk (X:XS) (r):(X.re r).z=X.z:=rfl
@[simp] theorem XS.ahl (X:XS) (r):(X.re r).r=r:=rfl
@[simp] theorem XS.ahm (X:XS) (r r'):(X.re r).re r'=X.re r':=rfl
theorem XS.HI{X X':XS}(h:X'.x=X.x∧X'.z=X.z)(r):X'.re r=X.re r:=by
 unfold XS.re;rw[h.1,h.2]
def dK:Nat→List (Option (Option (Nat × Nat))):=fun _=>[]
def tD:List (Nat × Array Value):=[]
class Dr where
 d:Bool
abbrev tF:Dr:=⟨true⟩
variable [Dr]
def Sx:Bool:=Dr.d
structure Env where
 w:World
 H:List ab
 loc:List (Option (Nat × Nat))
 X:XS
def Env.sat(E:Env)(b:Nat):Prop:=∃(l h m:Nat),(E.X.r l)[h]? = some (some (some (b,m)))
def Env.own(E:Env)(b:Nat):Prop:=(∃(id:Nat) (c:Nat),E.loc[id]? = some (some (b,c)))∨E.sat b
def Env.iL(E:Env)(b:Nat):Prop:=b<E.w.heap.size∧¬ E.own b∧¬ E.X b
def Env.live(E:Env)(id ad:Nat):Prop:=∃ o,E.H[id]? = some o∧o.aF = some ad
def Env.past(E:Env)(id ad:Nat):Prop:=∃ o,E.H[id]? = some o∧o.born=true∧∀ v,o.aF = some v→ad≤v
def dZ (r:List (Option (Option (Nat × Nat)))):List Nat:=r.filterMap fun x=>match x with
 |some (some (b,_))=>some b
 |_=>none
theorem A9 (r t:List (Option (Option (Nat × Nat)))):dZ (r++t)=dZ r++dZ t:=List.filterMap_append
def Env.HJ(E:Env)(id l i:Nat)(c:Value):Prop:=(∃ o,E.H[id]? = some o∧o.dh=some l)∧∃ b,(dZ (E.X.r l))[i]? = some b∧c=.map (some b)
def dv:Value→Bool
 |.agg _ | .tuple _=>false
 |_=>true
mutual
def AV.closed:AV→Bool
 |.undef | .lit _ | .nils | .list _ _ | .listF _ _ | .cptr _ | .ifc | .emptyS _=>true
 |.agg cs | .tuple cs | .clo _ cs=>AV.bl cs
 |.ptr .. | .vec .. | .map _ | .sub ..=>false
def AV.bl:List AV→Bool
 | []=>true
 |a::as=>a.closed&&AV.bl as
end
theorem fG:∀(ks:List Kd) (g:List G),AV.bl (aH ks g)=true
 | [],_=>rfl
 | k::ks,g=>by
  simp only[aH,AV.bl,fG ks,fD];cases k<;>rfl
mutual
def dV(E:Env):Kd→G→Value→Prop
 |.int k,g,c=>c=.int k g.int
 |.str,g,c=>c=.string g.str
 |.bool,g,c=>c=.bool g.bool
 | .list ks,g,c=>∃ base cap,c=.slice base g.rows.length cap∧g.rows.length≤cap ∧
   (g.rows=[]∨∃ b o,base=some ⟨b,o,none⟩∧E.iL b∧∀(i:Nat) (r:List G),g.rows[i]? = some r→kN E ks r b (o+i*ks.length))
def kN(E:Env):List Kd→List G→Nat→Nat→Prop
 | [],_,_,_=>True
 |k::ks,g,b,o=>(∃ v,E.w.cell? ⟨b,o,none⟩=some v∧dv v=true∧dV E k (g.headD default) v)∧kN E ks g.tail b (o+1)
end
def eS(rows:List (List AV)):Prop:=∀ r∈rows,AV.bl r=true
mutual
def rel(E:Env):AV→Value→Prop
 |.undef,_=>True
 |.lit v,c=>c=v
 |.nils,c=>∃ base,c=.slice base 0 0
 | .list k rows,c=>eS rows∧∃ base cap,c=.slice base rows.length cap∧rows.length≤cap ∧
   (rows=[]∨∃ b o,base=some ⟨b,o,none⟩∧E.iL b∧cA E k rows b o)
 |.listF ks rows,c=>dV E (.list ks) (.l rows) c
 |.agg cells,c=>∃ cs:Array Value,c=.agg cs∧(∀ x∈cs.toList,dv x=true)∧af E cells cs.toList
 |.tuple vs,c=>∃ cs:Array Value,c=.tuple cs∧af E vs cs.toList
 |.cptr cells,c=>AV.bl cells=true∧∃ b o,c=.pointer (some ⟨b,o,none⟩)∧E.iL b∧cn E cells b o
 | .ptr id ad k row col,c=>(∃ b o,c=.pointer (some ⟨b,o,none⟩))∧E.past id ad∧(E.live id ad→∃ b n,E.loc[id]? = some (some (b,n)) ∧
   c=.pointer (some ⟨b,row*k+col,none⟩))
 | .vec k id ad off n,c=>(∃ base cap,c=.slice base n cap∧n≤cap∧(0<n→∃ b o,base=some ⟨b,o,none⟩))∧E.past id ad∧(E.live id ad →
   (E.loc[id]? = some none→n=0∧off=0∧∃ base,c=.slice base 0 0) ∧
   (∀ b m,E.loc[id]? = some (some (b,m))→off+n≤m∧∃ o,(off<m→o=off*k)∧c=.slice (some ⟨b,o,none⟩) n (m-off)))
 |.map id,c=>(∃ b,c=.map (some b))∧E.past id 0∧(E.live id 0→∃ b n,E.loc[id]? = some (some (b,n))∧c=.map (some b))
 |.clo f caps,c=>∃ cs:Array Value,c=.func (.func f) #[] cs∧af E caps cs.toList
 |.ifc,c=>∃ t v,c=.iface t v
 |.emptyS n,c=>∃ base cap,c=.slice base 0 cap∧base.isNone=n
 |.sub id l j,c=>(j=none∧c=.map none)∨∃ i,j=some i∧(∃ b,c=.map (some b))∧E.past id 0∧(E.live id 0→E.HJ id l i c)
def af(E:Env):List AV→List Value→Prop
 | [],[]=>True
 |a::as,v::vs=>rel E a v∧af E as vs
 |_,_=>False
def cn(E:Env):List AV→Nat→Nat→Prop
 | [],_,_=>True
 |a::as,b,o=>(∃ v,E.w.cell? ⟨b,o,none⟩=some v∧dv v=true∧rel E a v)∧cn E as b (o+1)
def cA(E:Env)(k:Nat):List (List AV)→Nat→Nat→Prop
 | [],_,_=>True
 |r::rs,b,o=>r.length=k∧cn E r b o∧cA E k rs b (o+k)
end
theorem gb{E:Env}:∀{as:List AV} {vs:List Value},af E as vs→as.length=vs.length
 | [],[],_=>rfl
 |_::_,_::_,h=>by simp only[af]at h; simp[gb h.2]
 | [],_::_,h=>by simp[af]at h
 |_::_,[],h=>by simp[af]at h
theorem mv{E:Env}:∀{as:List AV} {vs:List Value},
  af E as vs↔as.length=vs.length∧∀(i:Nat) a v,as[i]? = some a→vs[i]? = some v→rel E a v
 | [],[]=>by simp[af]
 | [],_::_=>by simp[af]
 |_::_,[]=>by simp[af]
 | a::as,v::vs=>by
  simp only[af,mv (as:=as),cr];constructor
  ·rintro ⟨h1, k, q⟩
   refine⟨by omega,fun i x y d h=>?_⟩;cases i with
   |zero=>simp at d h; subst d; subst h; exact h1
   |succ i=>exact q i x y (by simpa using d) (by simpa using h)
  ·rintro ⟨h1, k⟩
   exact⟨k 0 a v rfl rfl,by omega,fun i x y d h=>k (i+1) x y (by simpa using d) (by simpa using h)⟩
theorem iM{E:Env}:∀{as:List AV} {b o:Nat},
  cn E as b o↔∀(i:Nat) a,as[i]? = some a→∃ v,E.w.cell? ⟨b,o+i,none⟩=some v∧dv v=true∧rel E a v
 | [],b,o=>by simp[cn]
 | a::as,b,o=>by
  simp only[cn,iM (as:=as)];constructor
  ·rintro ⟨h1, k⟩ i x d
   cases i with
   |zero=>simp at d; subst d; exact h1
   |succ i=>have:=k i x (by simpa using d); rwa [oP,td 1 i]at this
  ·intro h
   refine⟨h 0 a rfl,fun i x d=>?_⟩;have:=h (i+1) x (by simpa using d)
   rwa [oP,td 1 i]
theorem lz{E:Env}{k:Nat}:∀{rs:List (List AV)} {b o:Nat},
  cA E k rs b o↔∀(i:Nat) r,rs[i]? = some r→r.length=k∧cn E r b (o+i*k)
 | [],b,o=>by simp[cA]
 | r::rs,b,o=>by
  simp only[cA,lz (rs:=rs)];constructor
  ·rintro ⟨h0, h1, q⟩ i x d
   cases i with
   |zero=>simp at d; subst d; simpa using⟨h0,h1⟩
   | succ i =>
    have:=q i x (by simpa using d)
    rwa [oP,show k+i*k=(i+1)*k from by rw[fE]; omega]at this
  ·intro h
   have h0:=h 0 r rfl;refine⟨h0.1,by simpa using h0.2,fun i x d=>?_⟩;have:=h (i+1) x (by simpa using d)
   rwa [oP,show k+i*k=(i+1)*k from by rw[fE]; omega]
def dR(w w':World):Prop:=w'.os=w.os∧w'.output=w.output∧w'.tape=w.tape∧(Sx=true→w.drawn≤w'.drawn)
theorem dR.refl(w:World):dR w w:=⟨rfl,rfl,rfl,by first|exact fun _=>aD _|exact fun _=>eR _ _⟩
theorem dR.trans{w w' d:World}(h:dR w w')(h':dR w' d):dR w d:=⟨h'.1.trans h.1,h'.2.1.trans h.2.1,h'.2.2.1.trans h.2.2.1,fun t=>oQ (h.2.2.2 t) (h'.2.2.2 t)⟩
structure Env.le (E E':Env):Prop where
 past:∀ id ad,E.past id ad→E'.past id ad
 size:E.w.heap.size≤E'.w.heap.size
 same:∀ b,b<E.w.heap.size→¬ E.own b→E'.w.heap[b]? = E.w.heap[b]?
 own:∀ b,b<E.w.heap.size→¬ E.own b→¬ E'.own b
 live:∀ id ad,E.past id ad→E'.live id ad→E.live id ad∧E'.loc[id]? = E.loc[id]?
 X:E'.X.x=E.X.x∧E'.X.z=E.X.z
 rl:∀ l h,h<(E.X.r l).length→h<(E'.X.r l).length∧∀ q,(E'.X.r l)[h]? = some (some q)→(E.X.r l)[h]? = some (some q)
 env:dR E.w E'.w
 grow:∀ id l o,E.H[id]? = some o→o.dh=some l→E'.live id 0→(∃ t,E'.X.r l=E.X.r l++t)∧∃ o',E'.H[id]? = some o'∧o'.dh=some l
theorem Env.le.refl(E:Env):E.le E:=⟨fun _ _ h=>h,aD _,fun _ _ _=>rfl,fun _ _ h=>h,fun _ _ _ h=>⟨h,rfl⟩,⟨rfl,rfl⟩,fun _ _ h=>⟨h,fun _ d=>d⟩,⟨rfl,rfl,rfl,by first|exact fun _=>aD _|exact fun _=>eR _ _⟩,fun _ _ o h1 k _=>⟨⟨[],(db _).symm⟩,o,h1,k⟩⟩
theorem Env.le.ok{E E':Env}(h:E.le E')(b:Nat)(hb:E.iL b):E'.iL b :=
 ⟨dz hb.1 h.size,h.own b hb.1 hb.2.1,by rw[show E'.X.x=E.X.x from h.X.1]; exact hb.2.2⟩
theorem Env.le.trans{E E' B:Env}(h:E.le E')(h':E'.le B):E.le B where
 past:=fun id ad d=>h'.past id ad (h.past id ad d)
 size:=oQ h.size h'.size
 same:=fun b hb ho=>by rw[h'.same b (dz hb h.size) (h.own b hb ho),h.same b hb ho]
 own:=fun b hb ho=>h'.own b (dz hb h.size) (h.own b hb ho)
 live:=fun id ad hid O=>by
  obtain⟨k,a2⟩:=h'.live id ad (h.past id ad hid) O;obtain⟨b1,u⟩:=h.live id ad hid k;exact⟨b1,by rw[a2,u]⟩
 X:=⟨by rw[h'.X.1,h.X.1],by rw[h'.X.2,h.X.2]⟩
 rl:=fun l i hi=>by
  obtain⟨k,a2⟩:=h.rl l i hi;obtain⟨b1,u⟩:=h'.rl l i k;exact⟨b1,fun q U=>a2 q (u q U)⟩
 env:=h.env.trans h'.env
 grow:=fun id l o h1 I y=>by
  have d:E.past id 0:=⟨o,h1,ab.A7 I,fun v y=>eI _⟩
  obtain⟨J,_⟩:=h'.live id 0 (h.past id 0 d) y;obtain⟨⟨t,V⟩,o',g1,g2⟩:=h.grow id l o h1 I J;obtain⟨⟨t',M⟩,N,g3,g4⟩:=h'.grow id l o' g1 g2 y;exact⟨⟨t++t',by rw[M,V,List.append_assoc]⟩,N,g3,g4⟩
theorem World.qF{w w':World}{b o:Nat}(h:w'.heap[b]? = w.heap[b]?):w'.cell? ⟨b,o,none⟩=w.cell? ⟨b,o,none⟩:=by
 simp[te,h]
structure Env.bF (E E':Env):Prop where
 ok:∀ b,E.iL b→E'.iL b∧E'.w.heap[b]? = E.w.heap[b]?
theorem Env.le.toC{E E':Env}(h:E.le E'):E.bF E':=⟨fun b hb=>⟨h.ok b hb,h.same b hb.1 hb.2.1⟩⟩
mutual
theorem HK{E E':Env}(h:E.bF E'):∀(k:Kd) {g:G} {c:Value},dV E k g c→dV E' k g c
 |.int k,g,c,hr=>by simpa only[dV]using hr
 |.str,g,c,hr=>by simpa only[dV]using hr
 |.bool,g,c,hr=>by simpa only[dV]using hr
 | .list ks,g,c,hr=>by
  simp only[dV]at hr⊢;obtain⟨base,cap,u,hle,q⟩:=hr;refine⟨base,cap,u,hle,?_⟩;rcases q with v|⟨b,o,hb,bY,d⟩
  ·exact .inl v
  ·exact .inr ⟨b,o,hb,(h.ok b bY).1,fun i r hi=>HL h ks (h.ok b bY).2 (d i r hi)⟩
theorem HL{E E':Env}(h:E.bF E'):∀(ks:List Kd) {g:List G} {b o:Nat},E'.w.heap[b]? = E.w.heap[b]? → kN E ks g b o→kN E' ks g b o
 | [],_,_,_,_,_=>by simp[kN]
 | k::ks,g,b,o,hb,hr=>by
  simp only[kN]at hr⊢;obtain⟨⟨v,h1,d,q⟩,u⟩:=hr;exact⟨⟨v,by rw[World.qF hb]; exact h1,d,HK h k q⟩,HL h ks hb u⟩
end
mutual
theorem dL{E E':Env}(h:E.bF E'):∀(a:AV) {c:Value},a.closed=true→rel E a c→rel E' a c
 |.undef,_,_,_=>by simp[rel]
 |.lit v,c,_,hr=>by simpa only[rel]using hr
 |.nils,c,_,hr=>by simpa only[rel]using hr
 | .list k rows,c,_,hr=>by
  simp only[rel]at hr⊢;obtain⟨u,base,cap,d,hle,B⟩:=hr;refine⟨u,base,cap,d,hle,?_⟩;rcases B with rfl|⟨b,o,hb,bY,y⟩
  ·exact .inl rfl
  ·exact .inr ⟨b,o,hb,(h.ok b bY).1,kO h rows u (h.ok b bY).2 y⟩
 | .listF ks rows,c,_,hr=>by
  simp only[rel]at hr⊢;exact HK h _ hr
 | .agg cells,c,d,hr=>by
  simp only[rel]at hr⊢;obtain⟨cs,e,h1,q⟩:=hr;exact⟨cs,e,h1,ny h cells (by simpa only[AV.closed]using d) q⟩
 | .tuple cells,c,d,hr=>by
  simp only[rel]at hr⊢;obtain⟨cs,e,q⟩:=hr;exact⟨cs,e,ny h cells (by simpa only[AV.closed]using d) q⟩
 | .cptr cells,c,d,hr=>by
  simp only[rel]at hr⊢;obtain⟨u,b,o,e,bY,q⟩:=hr;exact⟨u,b,o,e,(h.ok b bY).1,qG h cells u (h.ok b bY).2 q⟩
 |.ptr ..,_,d,_=>by simp[AV.closed]at d
 |.vec ..,_,d,_=>by simp[AV.closed]at d
 |.map _,_,d,_=>by simp[AV.closed]at d
 |.sub ..,_,d,_=>by simp[AV.closed]at d
 | .clo f caps,c,d,hr=>by
  simp only[rel]at hr⊢;obtain⟨cs,e,q⟩:=hr;exact⟨cs,e,ny h caps (by simpa only[AV.closed]using d) q⟩
 |.ifc,c,_,hr=>by simpa only[rel]using hr
 |.emptyS n,c,_,hr=>by simpa only[rel]using hr
theorem ny{E E':Env}(h:E.bF E'):∀(as:List AV) {vs:List Value},AV.bl as=true→af E as vs→af E' as vs
 | [],[],_,_=>by simp[af]
 | [],_::_,_,hr=>by simp[af]at hr
 |_::_,[],_,hr=>by simp[af]at hr
 | a::as,v::vs,d,hr=>by
  simp only[AV.bl,ax]at d;simp only[af]at hr⊢;exact⟨dL h a d.1 hr.1,ny h as d.2 hr.2⟩
theorem qG{E E':Env}(h:E.bF E'):∀(as:List AV) {b o:Nat},AV.bl as=true→E'.w.heap[b]? = E.w.heap[b]? → cn E as b o→cn E' as b o
 | [],_,_,_,_,_=>by simp[cn]
 | a::as,b,o,d,hb,hr=>by
  simp only[AV.bl,ax]at d;simp only[cn]at hr⊢;obtain⟨⟨v,h1,k,q⟩,u⟩:=hr;exact⟨⟨v,by rw[World.qF hb]; exact h1,k,dL h a d.1 q⟩,qG h as d.2 hb u⟩
theorem kO{E E':Env}(h:E.bF E'){k:Nat}:∀(rs:List (List AV)) {b o:Nat},eS rs→E'.w.heap[b]? = E.w.heap[b]? → cA E k rs b o→cA E' k rs b o
 | [],_,_,_,_,_=>by simp[cA]
 | r::rs,b,o,d,hb,hr=>by
  simp only[cA]at hr⊢;exact⟨hr.1,qG h r (d r (by simp)) hb hr.2.1,kO h rs (fun x q=>d x (by simp[q])) hb hr.2.2⟩
end
mutual
theorem bH{E E':Env}(h:E.le E'):∀(a:AV) {c:Value},rel E a c→rel E' a c
 |.undef,_,_=>by simp[rel]
 |.lit v,c,hr=>by simpa only[rel]using hr
 |.nils,c,hr=>by simpa only[rel]using hr
 |.list k rows,c,hr=>dL h.toC _ (by simp[AV.closed]) hr
 |.listF ks rows,c,hr=>dL h.toC _ (by simp[AV.closed]) hr
 | .agg cells,c,hr=>by
  simp only[rel]at hr⊢;obtain⟨cs,e,h1,d⟩:=hr;exact⟨cs,e,h1,dw h cells d⟩
 | .tuple cells,c,hr=>by
  simp only[rel]at hr⊢;obtain⟨cs,e,d⟩:=hr;exact⟨cs,e,dw h cells d⟩
 |.cptr cells,c,hr=>dL h.toC _ (by simp[AV.closed]) hr
 | .ptr id ad k row col,c,hr=>by
  simp only[rel]at hr⊢;refine⟨hr.1,h.past _ _ hr.2.1,fun q=>?_⟩;obtain⟨h1,d⟩:=h.live id ad hr.2.1 q;rw[d];exact hr.2.2 h1
 | .vec k id ad off n,c,hr=>by
  simp only[rel]at hr⊢;refine⟨hr.1,h.past _ _ hr.2.1,fun q=>?_⟩;obtain⟨h1,d⟩:=h.live id ad hr.2.1 q;rw[d];exact hr.2.2 h1
 | .map id,c,hr=>by
  simp only[rel]at hr⊢;refine⟨hr.1,h.past _ _ hr.2.1,fun q=>?_⟩;obtain⟨h1,d⟩:=h.live id 0 hr.2.1 q;rw[d];exact hr.2.2 h1
 | .clo f caps,c,hr=>by
  simp only[rel]at hr⊢;obtain⟨cs,e,d⟩:=hr;exact⟨cs,e,dw h caps d⟩
 |.ifc,c,hr=>by simpa only[rel]using hr
 |.emptyS n,c,hr=>by simpa only[rel]using hr
 | .sub id l j,c,hr=>by
  simp only[rel]at hr⊢;rcases hr with hr|⟨i,h1,d,u,B⟩
  ·exact .inl hr
  ·refine .inr ⟨i, h1, d, h.past _ _ u, fun q => ?_⟩
   obtain⟨g1,_⟩:=h.live id 0 u q;obtain⟨⟨o,I,J⟩,b,y,M⟩:=B g1;obtain⟨⟨t,N⟩,ho⟩:=h.grow id l o I J q;refine⟨ho,b,?_,M⟩;rw[N,A9,cK (List.getElem?_eq_some_iff.1 y).1];exact y
theorem dw{E E':Env}(h:E.le E'):∀(as:List AV) {vs:List Value},af E as vs→af E' as vs
 | [],[],_=>by simp[af]
 | [],_::_,hr=>by simp[af]at hr
 |_::_,[],hr=>by simp[af]at hr
 | a::as,v::vs,hr=>by
  simp only[af]at hr⊢;exact⟨bH h a hr.1,dw h as hr.2⟩
end
theorem Sy{E:Env}(k:Kd)(g:G)(c:Value):rel E (iK k g) c↔dV E k g c:=by
 cases k with
 |int k=>simp only[iK,rel,dV]
 |str=>simp only[iK,rel,dV]
 |bool=>simp only[iK,rel,dV]
 |list ks=>simp only[iK,rel,dV,G.rows]
theorem A_{E:Env}:∀(ks:List Kd) (g:List G) (b o:Nat),cn E (aH ks g) b o↔kN E ks g b o
 | [],_,_,_=>by simp[aH,cn,kN]
 |k::ks,g,b,o=>by simp only[aH,cn,kN,A_ ks,Sy]
theorem iN{E:Env}{ks:List Kd}{rows:List (List G)}{c:Value}:rel E (.listF ks rows) c↔rel E (.list ks.length (rows.map (aH ks))) c:=by
 simp only[rel,dV,G.rows,cN,List.map_eq_nil_iff];have d:eS (rows.map (aH ks)):=by
  intro r hr;obtain⟨g,_,rfl⟩:=List.mem_map.1 hr;exact fG ks g
 have hr:∀ b o,(∀(i:Nat) (r:List G),rows[i]? = some r→kN E ks r b (o+i*ks.length))↔cA E ks.length (rows.map (aH ks)) b o:=by
  intro b o;rw[lz];constructor
  ·intro h i r hi
   simp only[bT,dN]at hi;obtain⟨g,hg,rfl⟩:=hi;exact⟨qE ks g,(A_ ks g _ _).2 (h i g hg)⟩
  ·intro h i g hg
   exact(A_ ks g _ _).1 (h i (aH ks g) (by simp[hg])).2
 simp only[hr,d,true_and]
end Go.AL

namespace Go.AL
variable [Dr]
def isRow(w:World)(b n:Nat):Prop:=∃ cs el,w.heap[b]? = some (.cells cs el (0,0))∧cs.size=n
def bB(E:Env):List (AV × AV × Nat)→List MapEntry→Prop
 | [],[]=>True
 |(k,v,n)::es,e::ms=>rel E k e.key∧rel E v e.val∧e.born=n∧k.closed=true∧v.closed=true∧bB E es ms
 |_,_=>False
def A'(w:World)(B:TypeId)(s:ByteArray)(v:Value):Option (Nat × Nat)→Prop
 |none=>v=.slice none 0 0∧s.data.toList=[]
 | some (g,m)=>v=.slice (some ⟨g,0,none⟩) s.data.toList.length m∧∃ cs fz,w.heap[g]? = some (.cells cs B fz)∧fz.2≤s.data.toList.length∧cs.size=m∧s.data.toList.length≤m∧m≤9223372036854775807 ∧
   cs.toList.take s.data.toList.length=s.data.toList.map fun b=>Value.int .u8 (b.toNat:Int)
theorem Ba{w w':World}{B:TypeId}{s:ByteArray}{v:Value}{q:Option (Nat × Nat)}(h:∀ g m,q=some (g,m)→w'.heap[g]? = w.heap[g]?)(hr:A' w B s v q):A' w' B s v q:=by
 cases q with
 |none=>exact hr
 | some d =>
  obtain⟨g,m⟩:=d;obtain⟨h1,cs,fz,k,u⟩:=hr;exact⟨h1,cs,fz,by rw[h g m rfl]; exact k,u⟩
def fp:AV→AV × AV
 |.tuple [a,v]=>(a,v)
 |k=>(k,.undef)
def cu (es:List (AV × Option (List (List AV)) × Nat)):List (AV × AV × Nat):=es.map fun x=>((fp x.1).1,(fp x.1).2,x.2.2)
theorem Bb (es:List (AV × Option (List (List AV)) × Nat)):(cu es).length=es.length:=by simp[cu]
def Bc(E:Env)(l k:Nat)(rows:List (List AV))(h:Nat)(v:Value):Prop :=
 (rows = [] ∧ ∃ base, v = .slice base 0 0) ∨
  ∃ b m,(E.X.r l)[h]? = some (some (some (b,m)))∧v=.slice (some ⟨b,0,none⟩) rows.length m∧isRow E.w b (m*k)∧rows.length≤m∧eS rows∧cA E k rows b 0
def iO(E:Env)(l k:Nat) (es:List (AV × Option (List (List AV)) × Nat)) (ms:List MapEntry):Prop :=
 ∃ d:Nat→Nat,(∀(i j:Nat) x y,es[i]? = some x→es[j]? = some y→x.2.1.isSome=true→y.2.1.isSome=true→d i=d j→i=j) ∧
  ∀(i:Nat) x rows e,es[i]? = some x→x.2.1=some rows→ms[i]? = some e→Bc E l k rows (d i) e.val
theorem Sz{E E':Env}{l k h:Nat}{rows:List (List AV)}{v:Value} (hg:∀ b m,(E.X.r l)[h]? = some (some (some (b,m)))→(E'.X.r l)[h]? = some (some (some (b,m)))∧E'.w.heap[b]? = E.w.heap[b]?)
  (q:∀ b,E'.w.heap[b]? = E.w.heap[b]? → eS rows→cA E k rows b 0→cA E' k rows b 0) (hr:Bc E l k rows h v):Bc E' l k rows h v:=by
 rcases hr with hr|⟨b,m,h1,u,⟨cs,el,y,B⟩,I,d,J⟩
 ·exact .inl hr
 ·obtain ⟨g1, g2⟩ := hg b m h1
  exact .inr ⟨b,m,g1,u,⟨cs,el,by rw[g2]; exact y,B⟩,I,d,q b g2 d J⟩
theorem tG{E E':Env}{l k:Nat}{es:List (AV × Option (List (List AV)) × Nat)}{ms:List MapEntry} (hg:∀(h b m:Nat),(E.X.r l)[h]? = some (some (some (b,m)))→(E'.X.r l)[h]? = some (some (some (b,m)))∧E'.w.heap[b]? = E.w.heap[b]?)
  (v:∀(i:Nat) x rows,es[i]? = some x→x.2.1=some rows→∀ b,E'.w.heap[b]? = E.w.heap[b]? → eS rows→cA E k rows b 0→cA E' k rows b 0) (hr:iO E l k es ms):iO E' l k es ms:=by
 obtain⟨q,h1,y⟩:=hr;exact⟨q,h1,fun i x rows e u d he=>Sz (hg (q i)) (v i x rows u d) (y i x rows e u d he)⟩
theorem wY{r:List (Option (Option (Nat × Nat)))}{b:Nat}(h:b∈dZ r):∃(i m:Nat),r[i]? = some (some (some (b,m))):=by
 unfold dZ at h;obtain⟨x,d,hb⟩:=List.mem_filterMap.1 h;obtain⟨i,hi,e⟩:=ma d;split at hb
 ·rename_i k m
  cases hb;exact⟨i,m,by rw[bt hi,e]⟩
 ·cases hb
def fq(es:List (AV × Option Nat × Nat)):List (AV × AV × Nat):=es.map fun x=>(x.1,.undef,x.2.2)
theorem HM(es:List (AV × Option Nat × Nat)):(fq es).length=es.length:=by simp[fq]
def wZ(E:Env)(l:Nat)(es:List (AV × Option Nat × Nat)) (ms:List (List (AV × AV × Nat) × Nat)) (d:List MapEntry):Prop :=
 (dZ (E.X.r l)).length = ms.length ∧
  (∀(i:Nat) x e,es[i]? = some x→d[i]? = some e→(x.2.1=none∧e.val=.map none)∨∃ j b,x.2.1=some j∧(dZ (E.X.r l))[j]? = some b∧e.val=.map (some b)) ∧
  ∀(j:Nat) m b,ms[j]? = some m→(dZ (E.X.r l))[j]? = some b→∃ mm,E.w.heap[b]? = some (.map mm m.2)∧bB E m.1 mm.toList
theorem Bd{E E':Env}{l:Nat}{es:List (AV × Option Nat × Nat)}{ms:List (List (AV × AV × Nat) × Nat)}{d:List MapEntry}(hr:E'.X.r l=E.X.r l) (hg:∀(h b m:Nat),(E.X.r l)[h]? = some (some (some (b,m)))→E'.w.heap[b]? = E.w.heap[b]?)
  (k:∀ m∈ms,∀ q,bB E m.1 q→bB E' m.1 q) (h:wZ E l es ms d):wZ E' l es ms d:=by
 obtain⟨h1,u,v⟩:=h;refine⟨by rw[hr]; exact h1,fun i x e y he=>by rw[hr]; exact u i x e y he,fun j m b hm hb=>?_⟩;rw[hr]at hb;obtain⟨mm,B,I⟩:=v j m b hm hb;obtain⟨i,n,hi⟩:=wY (eB hb);exact⟨mm,by rw[hg i b n hi]; exact B,k m (eB hm) _ I⟩
def aJ(E:Env)(id:Nat):ab→Prop
 |.dead=>E.loc[id]? = some none
 |.dQ=>E.loc[id]? = some none
 |.box cells=>∃ b n,E.loc[id]? = some (some (b,n))∧isRow E.w b cells.length∧cn E cells b 0
 | .vec k _ rows=>(E.loc[id]? = some none∧rows=[]) ∨
   ∃ b m,E.loc[id]? = some (some (b,m))∧isRow E.w b (m*k)∧rows.length≤m∧eS rows∧cA E k rows b 0
 |.map es clock=>∃ b n ms,E.loc[id]? = some (some (b,n))∧E.w.heap[b]? = some (.map ms clock)∧bB E es ms.toList
 |.iter s pos=>∃ b n,E.loc[id]? = some (some (b,n))∧E.w.heap[b]? = some (.stringIter s pos)
 | .eJ l T B s=>∃ (b n:Nat) (p v:Value) (h:Nat) (q:Option (Nat × Nat)),E.loc[id]? = some (some (b,n))∧E.w.heap[b]? = some (.cells #[p,v] T (0,0))∧(p=.pointer none∨p=.pointer (some ⟨b,0,none⟩))∧(E.X.r l)[h]? = some (some q) ∧
   (∀(h':Nat) u,(E.X.r l)[h']? = some (some u)→h'=h)∧A' E.w B s v q
 |.aO l k es clock=>∃ b n ms,E.loc[id]? = some (some (b,n))∧E.w.heap[b]? = some (.map ms clock)∧bB E (cu es) ms.toList∧iO E l k es ms.toList
 |.mm l es ms clock=>∃ b n d,E.loc[id]? = some (some (b,n))∧E.w.heap[b]? = some (.map d clock)∧bB E (fq es) d.toList∧wZ E l es ms d.toList
def pb(E:Env):Prop:=∀ p∈tD,E.iL p.1∧∃ t f,E.w.heap[p.1]? = some (.cells p.2 t f)
theorem pb.bF{E E':Env}(H:pb E)(h:E.bF E'):pb E':=fun p d=>by
 obtain⟨h1,t,f,k⟩:=H p d;exact⟨(h.ok _ h1).1,t,f,by rw[(h.ok _ h1).2]; exact k⟩
structure ar (E:Env):Prop where
 len:E.loc.length=E.H.length
 inj:∀(i j b m n:Nat),E.loc[i]? = some (some (b,m))→E.loc[j]? = some (some (b,n))→i=j
 lt:∀(i b m:Nat),E.loc[i]? = some (some (b,m))→b<E.w.heap.size∧¬ E.X b
 X:∀ b,E.X b→b<E.w.heap.size
 obj:∀(i:Nat) o,E.H[i]? = some o→aJ E i o
 fb:pb E
 eC:∀(l h l' h' b m n:Nat),(E.X.r l)[h]? = some (some (some (b,m)))→(E.X.r l')[h']? = some (some (some (b,n)))→l=l'∧h=h'
 cP:∀(i b m l h n:Nat),E.loc[i]? = some (some (b,m))→(E.X.r l)[h]? ≠ some (some (some (b,n)))
 ch:∀(l h b m:Nat),(E.X.r l)[h]? = some (some (some (b,m)))→b<E.w.heap.size∧¬ E.X b
 uniq:∀(i j:Nat) o o' (l:Nat),E.H[i]? = some o→E.H[j]? = some o'→o.label=some l→o'.label=some l→i=j
 gd:∀(l:Nat),(∀(i:Nat) o,E.H[i]? = some o→o.label≠some l)→∀(h:Nat) q,(E.X.r l)[h]? ≠ some (some q)
theorem ar.nz{E:Env}(H:ar E){b:Nat}(d:E.X b):¬ E.own b:=by
 rintro(⟨i,c,hi⟩|⟨l,h,m,hi⟩)
 ·exact(H.lt i b c hi).2 d
 ·exact(H.ch l h b m hi).2 d
theorem ar.w5{E:Env}(H:ar E){b:Nat}(ho:E.own b):b<E.w.heap.size∧¬ E.X b:=by
 rcases ho with⟨i,c,hi⟩|⟨l,h,m,hi⟩
 ·exact H.lt i b c hi
 ·exact H.ch l h b m hi
structure Ext (w w':World):Prop where
 size:w.heap.size≤w'.heap.size
 same:∀ b,b<w.heap.size→w'.heap[b]? = w.heap[b]?
 env:dR w w'
theorem Ext.refl(w:World):Ext w w:=⟨aD _,fun _ _=>rfl,⟨rfl,rfl,rfl,by first|exact fun _=>aD _|exact fun _=>eR _ _⟩⟩
theorem Ext.trans{w w' d:World}(h:Ext w w')(h':Ext w' d):Ext w d :=
 ⟨oQ h.size h'.size,fun b hb=>by rw[h'.same b (dz hb h.size),h.same b hb],h.env.trans h'.env⟩
theorem Ext.push(w:World)(o:Obj):Ext w { w with heap:=w.heap.push o } :=
 ⟨by simp,fun b hb=>by simp[wA,agD hb],⟨rfl,rfl,rfl,by first|exact fun _=>aD _|exact fun _=>eR _ _⟩⟩
theorem Ext.drawn(w:World)(n:Nat)(h:w.drawn≤n:=by exact Nat.le_succ _):Ext w { w with drawn:=n }:=⟨aD _,fun _ _=>rfl,⟨rfl,rfl,rfl,fun _=>h⟩⟩
theorem Env.jd{E:Env}{w':World}(h:Ext E.w w'):E.le { E with w:=w' } where
 past:=fun _ _ h=>h
 size:=h.size
 same:=fun b hb _=>h.same b hb
 own:=fun _ _ ho=>ho
 live:=fun _ _ _ d=>⟨d,rfl⟩
 X:=⟨rfl,rfl⟩
 rl:=fun _ _ h=>⟨h,fun _ k=>k⟩
 env:=h.env
 grow:=fun _ _ o h1 q _=>⟨⟨[],(db _).symm⟩,o,h1,q⟩
theorem qH{w w':World}{b n:Nat}(h:w'.heap[b]? = w.heap[b]?)(hr:isRow w b n):isRow w' b n:=by
 unfold isRow at *; rw[h]; exact hr
theorem tH{E E':Env}{b:Nat}(d:∀ a c,rel E a c→rel E' a c)(hb:E'.w.heap[b]? = E.w.heap[b]?){as:List AV}{o:Nat}
  (h:cn E as b o):cn E' as b o:=by
 rw[iM]at *;intro i a hi;obtain⟨v,h1,k,q⟩:=h i a hi;exact⟨v,by rw[World.qF hb]; exact h1,k,d _ _ q⟩
theorem jY{E E':Env}{b k:Nat}(d:∀ a c,rel E a c→rel E' a c)(hb:E'.w.heap[b]? = E.w.heap[b]?){rs:List (List AV)}{o:Nat}
  (h:cA E k rs b o):cA E' k rs b o:=by
 rw[lz]at *;intro i r hi;exact⟨(h i r hi).1,tH d hb (h i r hi).2⟩
theorem fH{E E':Env}(d:∀ a c,rel E a c→rel E' a c):∀{es:List (AV × AV × Nat)} {ms:List MapEntry},bB E es ms→bB E' es ms
 | [],[],_=>by simp[bB]
 | [],_::_,h=>by simp[bB]at h
 |(_,_,_)::_,[],h=>by simp[bB]at h
 | (k,v,n)::es,e::ms,h=>by
  simp only[bB]at h⊢;exact⟨d _ _ h.1,d _ _ h.2.1,h.2.2.1,h.2.2.2.1,h.2.2.2.2.1,fH d h.2.2.2.2.2⟩
theorem jZ{E E':Env}{i:Nat}{o:ab}(J:∀ a c,rel E a c→rel E' a c)(y:E'.loc[i]? = E.loc[i]?)
  (hb:∀ b n,E.loc[i]? = some (some (b,n))→E'.w.heap[b]? = E.w.heap[b]?)
  (hg:∀ l,o.label=some l→E'.X.r l=E.X.r l∧∀(h g m:Nat),(E.X.r l)[h]? = some (some (some (g,m)))→E'.w.heap[g]? = E.w.heap[g]?) (h:aJ E i o):aJ E' i o:=by
 cases o with
 |dead=>simp only[aJ]at *; rw[y]; exact h
 |dQ=>simp only[aJ]at *; rw[y]; exact h
 | box cells =>
  simp only[aJ]at *;obtain⟨b,n,h1,d,u⟩:=h;exact⟨b,n,by rw[y,h1],qH (hb b n h1) d,tH J (hb b n h1) u⟩
 | vec k ad rows =>
  simp only[aJ]at *;rcases h with⟨h1,d⟩|⟨b,m,h1,d,u,I,M⟩
  ·exact .inl ⟨by rw[y,h1],d⟩
  ·exact .inr ⟨b,m,by rw[y,h1],qH (hb b m h1) d,u,I,jY J (hb b m h1) M⟩
 | map es clock =>
  simp only[aJ]at *;obtain⟨b,n,ms,h1,d,u⟩:=h;exact⟨b,n,ms,by rw[y,h1],by rw[hb b n h1,d],fH J u⟩
 | iter s pos =>
  simp only[aJ]at *;obtain⟨b,n,h1,d⟩:=h;exact⟨b,n,by rw[y,h1],by rw[hb b n h1,d]⟩
 | eJ l T B s =>
  simp only[aJ]at *;obtain⟨b,n,p,v,k,q,h1,d,u,I,M,U⟩:=h;obtain⟨g1,g2⟩:=hg l rfl;exact⟨b,n,p,v,k,q,by rw[y,h1],by rw[hb b n h1,d],u,by rw[g1,I],by rw[g1]; exact M,Ba (fun g m e=>g2 k g m (by rw[I,e])) U⟩
 | aO l k es clock =>
  simp only[aJ]at *;obtain⟨b,n,ms,h1,d,u,I⟩:=h;obtain⟨g1,g2⟩:=hg l rfl;exact⟨b,n,ms,by rw[y,h1],by rw[hb b n h1,d],fH J u,tG (fun h g m hk=>⟨by rw[g1]; exact hk,g2 h g m hk⟩) (fun _ _ _ _ _ b N _ hr=>jY J N hr) I⟩
 | mm l es ms clock =>
  simp only[aJ]at *;obtain⟨b,n,O,h1,d,u,I⟩:=h;obtain⟨g1,g2⟩:=hg l rfl;exact⟨b,n,O,by rw[y,h1],by rw[hb b n h1,d],fH J u,Bd g1 g2 (fun _ _ _=>fH J) I⟩
theorem ar.ext{E:Env}{w':World}(H:ar E)(h:Ext E.w w'):ar { E with w:=w' } where
 len:=H.len
 inj:=H.inj
 lt:=fun i b m hi=>⟨dz (H.lt i b m hi).1 h.size,(H.lt i b m hi).2⟩
 X:=fun b hb=>dz (H.X b hb) h.size
 obj:=fun i o hi=>jZ (fun a _ hr=>bH (Env.jd h) a hr) rfl (fun b n hb=>h.same b (H.lt i b n hb).1) (fun l _=>⟨rfl,fun k g m hk=>h.same g (H.ch l k g m hk).1⟩) (H.obj i o hi)
 fb:=H.fb.bF (Env.jd h).toC
 eC:=H.eC
 cP:=H.cP
 ch:=fun l k b m hk=>⟨dz (H.ch l k b m hk).1 h.size,(H.ch l k b m hk).2⟩
 uniq:=H.uniq
 gd:=H.gd
def Env.push(E:Env)(w':World)(o:ab)(l:Option (Nat × Nat)):Env:={ w:=w',H:=E.H++[o],loc:=E.loc++[l],X:=E.X }
theorem aI{α:Type}{l:List α}{i:Nat}{x:α}(h:l[i]? = some x):i<l.length:=by
 rcases jy i l.length with h'|h'
 ·exact h'
 ·rw[me h']at h; cases h
theorem ahn{α:Type}(l:List α)(x:α)(i:Nat)(h:i<l.length):(l++[x])[i]? = l[i]? := by
 rw[cK h]
theorem Env.jC{E:Env}{w':World}{o:ab}{l:Option (Nat × Nat)}(y:E.loc.length=E.H.length)(h:Ext E.w w')
  (hb:∀ b n,l=some (b,n)→E.w.heap.size≤b):E.le (E.push w' o l) where
 past:=fun id ad k=>by
  obtain⟨x,h1,d⟩:=k;exact⟨x,by simp only[Env.push]; rw[cK (aI h1)]; exact h1,d⟩
 size:=h.size
 same:=fun b hb _=>h.same b hb
 own:=fun b v ho=>by
  rintro(⟨id,c,hid⟩|q)
  case inr=>exact ho (.inr q)
  simp only[Env.push]at hid;by_cases hi:id<E.loc.length
  ·rw [cK hi] at hid
   exact ho (.inl ⟨id,c,hid⟩)
  ·rw [hZ (by omega)] at hid
   cases hk:id-E.loc.length with
   | zero =>
    rw[hk]at hid;simp at hid;have:=hb b c hid;omega
   |succ n=>rw[hk]at hid; simp at hid
 live:=fun id ad k=>by
  obtain⟨x,h1,d⟩:=k;have hid:=aI h1;simp only[Env.live,Env.push];rw[cK hid,cK (by omega)];exact fun h=>⟨h,rfl⟩
 X:=⟨rfl,rfl⟩
 grow:=fun id l o h1 d _=>⟨⟨[],(db _).symm⟩,o,by simp only[Env.push]; rw[cK (aI h1)]; exact h1,d⟩
 rl:=fun _ _ h=>⟨h,fun _ u=>u⟩
 env:=h.env
theorem ar.push{E:Env}{w':World}{o:ab}{l:Option (Nat × Nat)}(H:ar E)(h:Ext E.w w')
  (hb:∀ b n,l=some (b,n)→E.w.heap.size≤b∧b<w'.heap.size) (ho:aJ (E.push w' o l) E.H.length o) (hlab:o.label=none:=by first|rfl|assumption):ar (E.push w' o l) where
 eC:=H.eC
 ch:=fun l k b m hk=>⟨dz (H.ch l k b m hk).1 h.size,(H.ch l k b m hk).2⟩
 cP:=by
  intro i b m l' k n hi hk;simp only[Env.push,fk]at hi;split at hi
  ·exact H.cP i b m l' k n hi hk
  ·rename_i h1
   cases v:i-E.loc.length with
   | zero =>
    rw[v]at hi;simp at hi;have B:=hb b m hi;have M:=(H.ch l' k b n hk).1;omega
   |succ n=>rw[v]at hi; simp at hi
 uniq:=by
  have key:∀(i:Nat) o1 l1,(E.push w' o l).H[i]? = some o1→o1.label=some l1→E.H[i]? = some o1:=by
   intro i o1 l1 hi I;simp only[Env.push,fk]at hi;split at hi
   ·exact hi
   ·cases v : i - E.H.length with
    | zero =>
     rw[v]at hi;simp at hi;subst hi;rw[hlab]at I;cases I
    |succ n=>rw[v]at hi; simp at hi
  exact fun i j o1 o2 l1 hi d h1 y=>H.uniq i j o1 o2 l1 (key i o1 l1 hi h1) (key j o2 l1 d y) h1 y
 gd:=fun l1 N=>H.gd l1 fun i o1 hi=>N i o1 (by
  simp only[Env.push];rw[cK (aI hi)];exact hi)
 fb:=H.fb.bF (Env.jC H.len h (fun b n e=>(hb b n e).1)).toC
 len:=by simp[Env.push,H.len]
 inj:=by
  intro i j b m n hi d;simp only[Env.push,fk]at hi d;split at hi<;>split at d
  ·exact H.inj i j b m n hi d
  ·rename_i h1 y
   cases hk:j-E.loc.length with
   | zero =>
    rw[hk]at d;simp at d;have B:=hb b n d;have M:=(H.lt i b m hi).1;omega
   |succ n=>rw[hk]at d; simp at d
  ·rename_i h1 y
   cases hk:i-E.loc.length with
   | zero =>
    rw[hk]at hi;simp at hi;have B:=hb b m hi;have M:=(H.lt j b n d).1;omega
   |succ n=>rw[hk]at hi; simp at hi
  ·rename_i h1 y
   have U:i-E.loc.length=0:=by
    cases hk:i-E.loc.length with
    |zero=>rfl
    |succ n=>rw[hk]at hi; simp at hi
   have V:j-E.loc.length=0:=by
    cases hk:j-E.loc.length with
    |zero=>rfl
    |succ n=>rw[hk]at d; simp at d
   omega
 lt:=by
  intro i b m hi;simp only[Env.push,fk]at hi⊢;split at hi
  ·exact⟨dz (H.lt i b m hi).1 h.size,(H.lt i b m hi).2⟩
  ·cases hk : i - E.loc.length with
   | zero =>
    rw[hk]at hi;simp at hi;have B:=hb b m hi;exact⟨B.2,fun O=>by have:=H.X b O; omega⟩
   |succ n=>rw[hk]at hi; simp at hi
 X:=fun b u=>dz (H.X b u) h.size
 obj:=by
  intro i o' hi;have hle:E.le (E.push w' o l):=Env.jC H.len h (fun b n u=>(hb b n u).1);by_cases J:i<E.H.length
  ·simp only [Env.push] at hi
   rw[cK J]at hi;refine jZ (fun a _ hr=>bH hle a hr) ?_ ?_ ?_ (H.obj i o' hi)
   ·simp only [Env.push]
    rw[cK (by rw[H.len]; exact J)]
   ·intro b n u
    exact h.same b (H.lt i b n u).1
   ·exact fun l1 _=>⟨rfl,fun k g m hk=>h.same g (H.ch l1 k g m hk).1⟩
  ·have q := hi
   simp only[Env.push]at q;rw[hZ (by omega)]at q;cases hk:i-E.H.length with
   | zero =>
    rw[hk]at q;simp at q;have:i=E.H.length:=by omega
    rw[this,←q];exact ho
   |succ n=>rw[hk]at q; simp at q
theorem Env.jD{E:Env}{w':World}{id:Nat}{o o':ab}{l:Option (Nat × Nat)}(hid:E.H[id]? = some o)
  (hlen:E.loc.length=E.H.length) (M:E.w.heap.size≤w'.heap.size)
  (N:∀ x,x<E.w.heap.size→(∀ n,E.loc[id]? ≠ some (some (x,n)))→w'.heap[x]? = E.w.heap[x]?)
  (hl:∀ b n,l=some (b,n)→E.w.heap.size≤b∨∃ m,E.loc[id]? = some (some (b,m)))
  (U:(∀ v,o'.aF = some v→o.aF = some v∧E.loc[id]? = some l)∨(∀ v,o'.aF = some v→∀ u,o.aF = some u→u<v))
  (W:∀ v u,o'.aF = some v→o.aF = some u→u≤v) (J:o.born=true→o.aF = none→o'.aF = none) (V:dR E.w w':=by first|exact⟨rfl,rfl,rfl,by first|exact fun _=>aD _|exact fun _=>eR _ _⟩|assumption|exact Ext.env (by assumption))
  (hmm:o.dh=none∨o'.dh=o.dh∨o'.aF = none:=by first|exact .inl rfl|exact .inr (.inl rfl)|exact .inr (.inr rfl)|exact .inl (ab.wX (by assumption))|assumption)
  (O:o.born=true→o'.born=true:=by first|exact fun _=>rfl|exact fun h=>h|assumption) :
  E.le { w:=w',H:=E.H.set id o',loc:=E.loc.set id l,X:=E.X } where
 grow:=fun i l1 x h1 d k=>by
  by_cases e:i=id
  ·subst e
   rw[hid]at h1;cases h1;rcases hmm with h|h|h
   ·rw[h]at d; cases d
   ·exact⟨⟨[],(db _).symm⟩,o',by simp only[]; rw[bx (aI hid)],by rw[h]; exact d⟩
   ·obtain ⟨y, q, B⟩ := k
    simp only[]at q;rw[bx (aI hid)]at q;cases q;rw[h]at B;cases B
  ·exact⟨⟨[],(db _).symm⟩,x,by simp only[]; rw[aR (Ne.symm e)]; exact h1,d⟩
 past:=fun i ad I=>by
  obtain⟨x,h1,d⟩:=I;by_cases e:i=id
  ·subst e
   rw[hid]at h1;cases h1;refine⟨o',by simp only[]; rw[bx (aI hid)],O d.1,fun v k=>?_⟩;cases hu:o.aF with
   |none=>rw[J d.1 hu]at k; cases k
   |some u=>exact oQ (d.2 u hu) (W v u k hu)
  ·exact⟨x,by simp only[]; rw[aR (Ne.symm e)]; exact h1,d⟩
 size:=M
 same:=fun x hx ho=>N x hx (fun n hn=>ho (.inl ⟨id,n,hn⟩))
 own:=fun b hlt ho=>by
  rintro(⟨i,c,hi⟩|hs)
  case inr=>exact ho (.inr hs)
  simp only[dU]at hi;split at hi
  ·split at hi
   ·simp at hi
    rcases hl b c hi with h|⟨m,hm⟩
    ·omega
    ·exact ho (.inl ⟨id,m,hm⟩)
   ·cases hi
  ·exact ho (.inl ⟨i,c,hi⟩)
 live:=fun i ad I hl'=>by
  obtain⟨x,h1,d⟩:=hl';by_cases e:i=id
  ·subst e
   simp only[]at h1;rw[bx (aI hid)]at h1;cases h1;rcases U with k|k
   ·obtain ⟨a1, a2⟩ := k ad d
    refine⟨⟨o,hid,a1⟩,?_⟩;simp only[];rw[bx (by rw[hlen]; exact aI hid),a2]
   ·obtain ⟨y, q, B⟩ := I
    rw[hid]at q;cases q;cases hu:o.aF with
    |none=>rw[J B.1 hu]at d; cases d
    |some u=>have:=k ad d u hu; have:=B.2 u hu; omega
  ·simp only [] at h1 ⊢
   rw[aR (Ne.symm e)]at h1;rw[aR (Ne.symm e)];exact⟨⟨x,h1,d⟩,rfl⟩
 X:=⟨rfl,rfl⟩
 rl:=fun _ _ h=>⟨h,fun _ hq=>hq⟩
 env:=V
theorem ar.kP{E:Env}{w':World}{id:Nat}{o o':ab}{l:Option (Nat × Nat)}(H:ar E)(hid:E.H[id]? = some o)
  (y:E.w.heap.size≤w'.heap.size)
  (I:∀ x,x<E.w.heap.size→(∀ n,E.loc[id]? ≠ some (some (x,n)))→w'.heap[x]? = E.w.heap[x]?)
  (B:∀ b n,l=some (b,n)→(E.w.heap.size≤b∧b<w'.heap.size)∨∃ m,E.loc[id]? = some (some (b,m)))
  (O:(∀ v,o'.aF = some v→o.aF = some v∧E.loc[id]? = some l)∨(∀ v,o'.aF = some v→∀ u,o.aF = some u→u<v))
  (V:∀ v u,o'.aF = some v→o.aF = some u→u≤v) (N:o.born=true→o.aF = none→o'.aF = none)
  (ho:aJ { w:=w',H:=E.H.set id o',loc:=E.loc.set id l,X:=E.X } id o') (U:dR E.w w':=by first|exact⟨rfl,rfl,rfl,by first|exact fun _=>aD _|exact fun _=>eR _ _⟩|assumption|exact Ext.env (by assumption))
  (hlab:o.label=none:=by first|rfl|assumption) (hlab':o'.label=none:=by first|rfl|assumption)
  (hborn:o.born=true→o'.born=true:=by first|exact fun _=>rfl|exact fun h=>h|assumption) :
  ar { w:=w',H:=E.H.set id o',loc:=E.loc.set id l,X:=E.X } where
 eC:=H.eC
 ch:=fun l k b m hk=>⟨dz (H.ch l k b m hk).1 y,(H.ch l k b m hk).2⟩
 cP:=by
  intro i b m l' k n hi hk;simp only[dU]at hi;split at hi
  ·split at hi
   ·simp at hi
    rcases B b m hi with h|⟨m',q⟩
    ·have:=(H.ch l' k b n hk).1; omega
    ·exact H.cP _ _ _ _ _ _ q hk
   ·cases hi
  ·exact H.cP _ _ _ _ _ _ hi hk
 uniq:=by
  have key:∀(i:Nat) o1 l1,(E.H.set id o')[i]? = some o1→o1.label=some l1→E.H[i]? = some o1:=by
   intro i o1 l1 hi W;rw[dU]at hi;split at hi
   ·split at hi
    ·cases hi
     rw[hlab']at W;cases W
    ·cases hi
   ·exact hi
  exact fun i j o1 o2 l1 hi d h1 h2=>H.uniq i j o1 o2 l1 (key i o1 l1 hi h1) (key j o2 l1 d h2) h1 h2
 gd:=fun l1 M=>H.gd l1 fun i o1 hi=>by
  by_cases e:i=id
  ·subst e
   rw[hid]at hi;cases hi;rw[hlab];exact fun h=>by cases h
  ·exact M i o1 (by show (E.H.set id o')[i]? = _; rw[aR (Ne.symm e)]; exact hi)
 fb:=H.fb.bF (Env.jD hid H.len y I (fun b n hb=>(B b n hb).imp (fun h=>h.1) (fun h=>h)) O V N U).toC
 len:=by simp[H.len]
 inj:=by
  intro i j b m n hi d;simp only[dU]at hi d;split at hi
  ·rename_i e1
   split at d
   ·rename_i e2; omega
   ·split at hi
    ·simp at hi
     rcases B b m hi with h|⟨m',q⟩
     ·have:=(H.lt j b n d).1; omega
     ·rw[←e1]; exact H.inj _ _ _ _ _ q d
    ·cases hi
  ·split at d
   ·rename_i e2
    split at d
    ·simp at d
     rcases B b n d with h|⟨m',q⟩
     ·have:=(H.lt i b m hi).1; omega
     ·rw[←e2]; exact H.inj _ _ _ _ _ hi q
    ·cases d
   ·exact H.inj i j b m n hi d
 lt:=by
  intro i b m hi;simp only[dU]at hi;split at hi
  ·split at hi
   ·simp at hi
    rcases B b m hi with h|⟨m',q⟩
    ·exact⟨h.2,fun hx=>by have:=H.X b hx; omega⟩
    ·exact⟨dz (H.lt _ _ _ q).1 y,(H.lt _ _ _ q).2⟩
   ·cases hi
  ·exact⟨dz (H.lt i b m hi).1 y,(H.lt i b m hi).2⟩
 X:=fun b hb=>dz (H.X b hb) y
 obj:=by
  intro i x hi;by_cases e:i=id
  ·subst e
   simp only[]at hi;rw[bx (aI hid)]at hi;cases hi;exact ho
  ·have J := hi
   simp only[]at J;rw[aR (Ne.symm e)]at J;have hle:E.le { w:=w',H:=E.H.set id o',loc:=E.loc.set id l,X:=E.X } :=
    Env.jD hid H.len y I (fun b n hb=>(B b n hb).imp (fun h=>h.1) (fun h=>h)) O V N U
   refine jZ (fun a _ hr=>bH hle a hr) ?_ ?_ ?_ (H.obj i x J)
   ·simp only []
    rw[aR (Ne.symm e)]
   ·intro b n hb
    exact I b (H.lt i b n hb).1 (fun m hm=>e (H.inj i id b n m hb hm))
   ·exact fun l1 _=>⟨rfl,fun k g m hk=>I g (H.ch l1 k g m hk).1 (fun n M=>H.cP id g n l1 k m M hk)⟩
theorem ar.Be{E:Env}{w':World}{id l0:Nat}{o o':ab}{r':Nat→List (Option (Option (Nat × Nat)))}(H:ar E)(hid:E.H[id]? = some o)(hlab:o.label=some l0)(O:o'.label=some l0)(hver:o'.aF = o.aF)
  (N:E.w.heap.size≤w'.heap.size)
  (U:∀ x,x<E.w.heap.size→(∀ n,E.loc[id]? ≠ some (some (x,n)))→(∀(h m:Nat),(E.X.r l0)[h]? ≠ some (some (some (x,m))))→w'.heap[x]? = E.w.heap[x]?)
  (hr:∀ l,l≠l0→r' l=E.X.r l)
  (hnew:∀(h b m:Nat),(r' l0)[h]? = some (some (some (b,m)))→(E.X.r l0)[h]? = some (some (some (b,m)))∨(E.w.heap.size≤b∧b<w'.heap.size∧∀(h' m':Nat),(r' l0)[h']? = some (some (some (b,m')))→h'=h))
  (hrl:∀(h:Nat),h<(E.X.r l0).length→h<(r' l0).length∧∀ q,(r' l0)[h]? = some (some q)→(E.X.r l0)[h]? = some (some q))
  (ho:E.le { w:=w',H:=E.H.set id o',loc:=E.loc,X:=E.X.re r' }→aJ { w:=w',H:=E.H.set id o',loc:=E.loc,X:=E.X.re r' } id o') (henv:dR E.w w') (hmm:o.dh=none∨(o'.dh=o.dh∧∃ t,r' l0=E.X.r l0++t):=by first|exact .inl rfl|assumption) :
  ar { w:=w',H:=E.H.set id o',loc:=E.loc,X:=E.X.re r' }∧E.le { w:=w',H:=E.H.set id o',loc:=E.loc,X:=E.X.re r' }:=by
 have I:=aI hid;have M:∀(l h b m:Nat),(r' l)[h]? = some (some (some (b,m)))→(E.X.r l)[h]? = some (some (some (b,m)))∨(l=l0∧E.w.heap.size≤b∧b<w'.heap.size∧∀(h' m':Nat),(r' l0)[h']? = some (some (some (b,m')))→h'=h):=fun l h b m hk=>by
  by_cases e:l=l0
  ·subst e
   rcases hnew h b m hk with h1|⟨h1,d,h3⟩
   ·exact .inl h1
   ·exact .inr ⟨rfl,h1,d,h3⟩
  ·rw [hr l e] at hk
   exact .inl hk
 have hle:E.le { w:=w',H:=E.H.set id o',loc:=E.loc,X:=E.X.re r' }:=by
  refine⟨fun i ad hp=>?_,N,fun x V hx'=>U x V (fun n J=>hx' (.inl ⟨id,n,J⟩)) fun h m hm=>hx' (.inr ⟨l0,h,m,hm⟩),fun b hb hno=>?_,fun i ad hp k=>?_,⟨rfl,rfl⟩,fun l h hh=>?_,henv,fun i l x h1 d hv=>?_⟩
  rotate_right
  ·by_cases e : i = id
   ·subst e
    rw[hid]at h1;cases h1;have u:l0=l:=by
     have:=ab.kM d;rw[hlab]at this;cases this;rfl
    subst u;rcases hmm with h|⟨h,ht⟩
    ·rw[h]at d; cases d
    ·exact⟨ht,o',by simp only[]; rw[bx I],by rw[h]; exact d⟩
   ·have u : l ≠ l0 := fun u => e (H.uniq i id x o l h1 hid (ab.kM d) (by rw [u]; exact hlab))
    exact⟨⟨[],by rw[db]; exact hr l u⟩,x,by simp only[]; rw[aR (Ne.symm e)]; exact h1,d⟩
  ·obtain ⟨x, h1, d⟩ := hp
   by_cases e:i=id
   ·subst e
    rw[hid]at h1;cases h1;exact⟨o',by simp only[]; rw[bx I],ab.wW O,fun v hv=>d.2 v (by rw[←hver]; exact hv)⟩
   ·exact⟨x,by simp only[]; rw[aR (Ne.symm e)]; exact h1,d⟩
  ·rintro (⟨i, c, hi⟩ | ⟨l, h, m, hm⟩)
   ·exact hno (.inl ⟨i,c,hi⟩)
   ·rcases M l h b m hm with h1 | ⟨_, h1, _⟩
    ·exact hno (.inr ⟨l,h,m,h1⟩)
    ·omega
  ·obtain ⟨x, h1, d⟩ := k
   refine⟨?_,rfl⟩;simp only[]at h1;by_cases e:i=id
   ·subst e
    rw[bx I]at h1;cases h1;exact⟨o,hid,by rw[←hver]; exact d⟩
   ·rw [aR (Ne.symm e)] at h1
    exact⟨x,h1,d⟩
  ·by_cases e : l = l0
   ·subst e
    exact hrl h hh
   ·show h < (r' l).length ∧ _
    rw[hr l e];exact⟨hh,fun _ B=>(by rw[show ({ w:=w',H:=E.H.set id o',loc:=E.loc,X:=E.X.re r' }:Env).X.r l=E.X.r l from hr l e]at B; exact B)⟩
 refine⟨⟨by simp[H.len],H.inj,fun i b m hi=>⟨dz (H.lt i b m hi).1 N,(H.lt i b m hi).2⟩,fun b hb=>dz (H.X b hb) N,fun i x hi=>?_,H.fb.bF hle.toC,fun l h l' h' b m n h1 d=>?_,fun i b m l h n hi hk=>?_,fun l h b m hk=>?_,fun i j x y l hi hj h1 d=>?_,fun l J h q B=>?_⟩,hle⟩
 ·by_cases e : i = id
  ·subst e
   simp only[]at hi;rw[bx I]at hi;cases hi;exact ho hle
  ·simp only [] at hi
   rw[aR (Ne.symm e)]at hi;refine jZ (fun a _ hr=>bH hle a hr) rfl (fun b n hb=>U b (H.lt i b n hb).1 (fun m hm=>e (H.inj i id b n m hb hm)) fun h m hm=>H.cP i b n l0 h m hb hm) (fun l k=>?_) (H.obj i x hi);have aw:l≠l0:=fun u=>e (H.uniq i id x o l hi hid k (by rw[hlab,u]));exact⟨hr l aw,fun h g m hk=>U g (H.ch l h g m hk).1 (fun n J=>H.cP id g n l h m J hk) fun h' m' hk'=>aw (H.eC l h l0 h' g m m' hk hk').1⟩
 ·rcases M l h b m h1 with g1 | ⟨rfl, g1, g2, g3⟩ <;> rcases M l' h' b n d with W | ⟨rfl, W, k2, k3⟩
  ·exact H.eC _ _ _ _ _ _ _ g1 W
  ·have:=(H.ch _ _ _ _ g1).1; omega
  ·have:=(H.ch _ _ _ _ W).1; omega
  ·exact⟨rfl,(g3 h' n d).symm⟩
 ·rcases M l h b n hk with g1 | ⟨rfl, g1, g2, g3⟩
  ·exact H.cP _ _ _ _ _ _ hi g1
  ·have:=(H.lt i b m hi).1; omega
 ·rcases M l h b m hk with g1 | ⟨rfl, g1, g2, g3⟩
  ·exact⟨dz (H.ch _ _ _ _ g1).1 N,(H.ch _ _ _ _ g1).2⟩
  ·exact⟨g2,fun V=>by have:=H.X b V; omega⟩
 ·have key:∀ (i:Nat) x,(E.H.set id o')[i]? = some x→x.label=some l→∃ y,E.H[i]? = some y∧y.label=some l:=by
   intro i x hi k;by_cases e:i=id
   ·subst e
    rw[bx I]at hi;cases hi;exact⟨o,hid,by rw[hlab,←O,k]⟩
   ·rw [aR (Ne.symm e)] at hi
    exact⟨x,hi,k⟩
  obtain⟨x',a1,a2⟩:=key i x hi h1;obtain⟨y',b1,b2⟩:=key j y hj d;exact H.uniq i j x' y' l a1 b1 a2 b2
 ·have aw : l ≠ l0 := fun e => J id o' (by show (E.H.set id o')[id]? = _; rw [bx I]) (by rw [O, e])
  have B:(r' l)[h]? = some (some q):=B;rw[hr l aw]at B;refine H.gd l (fun i x hi k=>?_) h q B;by_cases e:i=id
  ·subst e
   rw[hid]at hi;cases hi;exact aw (by rw[hlab]at k; cases k; rfl)
  ·exact J i x (by show (E.H.set id o')[i]? = _; rw[aR (Ne.symm e)]; exact hi) k
def ib (r:Nat→List (Option (Option (Nat × Nat)))) (l0:Nat):Nat→List (Option (Option (Nat × Nat))):=fun l=>if l=l0 then r l++[some none] else r l
theorem Bf{r:Nat→List (Option (Option (Nat × Nat)))}{l0 l h:Nat}{q:Option (Option (Nat × Nat))}(d:(ib r l0 l)[h]? = some q):(r l)[h]? = some q∨(l=l0∧h=(r l).length∧q=some none):=by
 unfold ib at d;split at d
 ·rename_i e
  rw[fk]at d;split at d
  ·exact .inl d
  ·rename_i k
   right;cases hk:h-(r l).length with
   | zero =>
    rw[hk]at d;simp at d;exact⟨e,by omega,d.symm⟩
   |succ n=>rw[hk]at d; simp at d
 ·exact .inl d
theorem SA{r:Nat→List (Option (Option (Nat × Nat)))}{l0 l h:Nat}(d:h<(r l).length):(ib r l0 l)[h]? = (r l)[h]? := by
 unfold ib;split
 ·exact cK d
 ·rfl
theorem ar.SB{E:Env}{w':World}{o:ab}{l:Option (Nat × Nat)}{l0:Nat}(H:ar E)(h:Ext E.w w')(hb:∀ b n,l=some (b,n)→E.w.heap.size≤b∧b<w'.heap.size)(hlab:o.label=some l0)(M:∀(i:Nat) x,E.H[i]? = some x→x.label≠some l0)
  (ho:aJ { w:=w',H:=E.H++[o],loc:=E.loc++[l],X:=E.X.re (ib E.X.r l0) } E.H.length o) :
  ar { w:=w',H:=E.H++[o],loc:=E.loc++[l],X:=E.X.re (ib E.X.r l0) }∧E.le { w:=w',H:=E.H++[o],loc:=E.loc++[l],X:=E.X.re (ib E.X.r l0) }:=by
 have N:∀(i:Nat) x,(E.H++[o])[i]? = some x→E.H[i]? = some x∨(i=E.H.length∧x=o):=fun i x hi=>by
  rw[fk]at hi;split at hi
  ·exact .inl hi
  ·right
   cases hk:i-E.H.length with
   |zero=>rw[hk]at hi; simp at hi; exact⟨by omega,hi.symm⟩
   |succ n=>rw[hk]at hi; simp at hi
 have B:∀(i:Nat) x,(E.loc++[l])[i]? = some x→E.loc[i]? = some x∨(i=E.loc.length∧x=l):=fun i x hi=>by
  rw[fk]at hi;split at hi
  ·exact .inl hi
  ·right
   cases hk:i-E.loc.length with
   |zero=>rw[hk]at hi; simp at hi; exact⟨by omega,hi.symm⟩
   |succ n=>rw[hk]at hi; simp at hi
 have v:∀(x k b m:Nat),(ib E.X.r l0 x)[k]? = some (some (some (b,m)))→(E.X.r x)[k]? = some (some (some (b,m))):=fun x k b m hk=>by
  rcases Bf hk with h1|⟨_,_,h1⟩
  ·exact h1
  ·cases h1
 have hle:E.le { w:=w',H:=E.H++[o],loc:=E.loc++[l],X:=E.X.re (ib E.X.r l0) }:=by
  refine⟨fun i ad O=>?_,h.size,fun b I _=>h.same b I,fun b hlt hno'=>?_,fun i ad O U=>?_,⟨rfl,rfl⟩,fun x k hk=>?_,h.env,fun i l x h1 d hv=>⟨⟨[],?_⟩,x,by simp only[]; rw[cK (aI h1)]; exact h1,d⟩⟩
  rotate_right
  ·have e : l ≠ l0 := fun e => M i x h1 (by rw [← e]; exact ab.kM d)
   rw[db];exact if_neg e
  ·obtain ⟨x, h1, d⟩ := O
   exact⟨x,by simp only[]; rw[cK (aI h1)]; exact h1,d⟩
  ·rintro (⟨i, c, hi⟩ | ⟨x, k, m, hk⟩)
   ·rcases B i _ hi with h1 | ⟨_, h1⟩
    ·exact hno' (.inl ⟨i,c,h1⟩)
    ·have := hb b c h1.symm
     omega
   ·exact hno' (.inr ⟨x,k,m,v x k b m hk⟩)
  ·obtain ⟨x, h1, d⟩ := O
   have hid:=aI h1;obtain⟨y,u,V⟩:=U;simp only[]at u;rw[cK hid]at u;exact⟨⟨y,u,V⟩,by simp only[]; rw[cK (by rw[H.len]; exact hid)]⟩
  ·have hk':k<(ib E.X.r l0 x).length:=by
    unfold ib;split
    ·simp; omega
    ·exact hk
   refine⟨hk',fun q J=>?_⟩;have J:(ib E.X.r l0 x)[k]? = some (some q):=J
   rwa [SA hk]at J
 refine⟨⟨by simp[H.len],fun i j b m n hi W=>?_,fun i b m hi=>?_,fun b I=>dz (H.X b I) h.size,fun i x hi=>?_,H.fb.bF hle.toC,fun x k x' k' b m n h1 d=>H.eC _ _ _ _ _ _ _ (v _ _ _ _ h1) (v _ _ _ _ d),fun i b m x k n hi hk=>?_,fun x k b m hk=>?_,fun i j x y l1 hi W h1 d=>?_,fun l1 hn k q J=>?_⟩,hle⟩
 ·rcases B i _ hi with h1 | ⟨h1, d⟩ <;> rcases B j _ W with u | ⟨u, V⟩
  ·exact H.inj _ _ _ _ _ h1 u
  ·have:=hb b n V.symm; have:=(H.lt _ _ _ h1).1; omega
  ·have:=hb b m d.symm; have:=(H.lt _ _ _ u).1; omega
  ·omega
 ·rcases B i _ hi with h1 | ⟨h1, d⟩
  ·exact⟨dz (H.lt _ _ _ h1).1 h.size,(H.lt _ _ _ h1).2⟩
  ·have u := hb b m d.symm
   exact⟨u.2,fun hx=>by have:=H.X b hx; omega⟩
 ·rcases N i x hi with h1 | ⟨h1, d⟩
  ·refine jZ (fun a _ hr => bH hle a hr) (by simp only []; rw [cK (by rw [H.len]; exact aI h1)]) (fun b n I => h.same b (H.lt i b n I).1) (fun l1 hl1 => ?_) (H.obj i x h1)
   have aw:l1≠l0:=fun e=>M i x h1 (by rw[hl1,e]);exact⟨if_neg aw,fun k g m hk=>h.same g (H.ch _ _ _ _ hk).1⟩
  ·subst h1 d
   exact ho
 ·rcases B i _ hi with h1 | ⟨h1, d⟩
  ·exact H.cP _ _ _ _ _ _ h1 (v _ _ _ _ hk)
  ·have:=hb b m d.symm; have:=(H.ch _ _ _ _ (v _ _ _ _ hk)).1; omega
 ·have h1 := v _ _ _ _ hk
  exact⟨dz (H.ch _ _ _ _ h1).1 h.size,(H.ch _ _ _ _ h1).2⟩
 ·rcases N i x hi with g1 | ⟨g1, rfl⟩ <;> rcases N j y W with g3 | ⟨g3, rfl⟩
  ·exact H.uniq i j x y l1 g1 g3 h1 d
  ·rw [hlab] at d
   cases d;exact(M i x g1 h1).elim
  ·rw [hlab] at h1
   cases h1;exact(M j y g3 d).elim
  ·omega
 ·rcases Bf (show (ib E.X.r l0 l1)[k]? = some (some q) from J) with g1 | ⟨g1, _⟩
  ·exact H.gd l1 (fun i x hi U=>hn i x (by simp only[]; rw[cK (aI hi)]; exact hi) U) k q g1
  ·exact hn E.H.length o (by simp) (by rw[hlab,g1])
theorem Env.qI{E:Env}(H:ar E)(id:Nat):E.le { w:=E.w,H:=E.H.set id .dead,loc:=E.loc.set id none,X:=E.X }:=by
 rcases jy id E.H.length with h|h
 ·exact Env.jD (o:=E.H[id]) (by simp[h]) H.len (aD _) (fun _ _ _=>rfl) (fun _ _ h=>by cases h) (.inl (fun v h=>by simp[ab.aF]at h))
   (fun v u h=>by simp[ab.aF]at h) (fun _ _=>rfl)
 ·rw [Hb h, Hb (by rw [H.len]; exact h)]
  exact Env.le.refl E
theorem ar.drop{E:Env}(H:ar E)(id:Nat)(hlab:∀ o,E.H[id]? = some o→o.label=none):ar { w:=E.w,H:=E.H.set id .dead,loc:=E.loc.set id none,X:=E.X }:=by
 rcases jy id E.H.length with h|h
 ·refine ar.kP (o:=E.H[id]) H (by simp [h]) (aD _) (fun _ _ _=>rfl) (fun _ _ h=>by cases h) (.inl (fun v h=>by simp [ab.aF] at h))
   (fun v u h=>by simp[ab.aF]at h) (fun _ _=>rfl) ?_ (hlab:=hlab _ (by simp[h]))
  simp only[aJ];rw[bx (by rw[H.len]; exact h)]
 ·rw [Hb h, Hb (by rw [H.len]; exact h)]
  exact H
end Go.AL

namespace Go.AL
variable [Dr]
structure FK where
 off:Nat
 size:Nat
 agg:Bool
def pc:TypeDesc→Bool
 |.struct _ | .array _ _=>true
 |_=>false
def eT(P:Program)(t:TypeId):Option (Nat × Bool) :=
 match P.info? t,P.underlying t with
 |some i,some d=>some (i.size,pc d)
 |_,_=>none
def qJ(P:Program)(t:TypeId)(f:Nat):Option FK :=
 match P.underlying t with
 | some (.struct d)=>match d[f]? with
  | some fd=>match eT P fd.type with
   |some (n,a)=>some ⟨fd.offset,n,a⟩
   |none=>none
  |none=>none
 |_=>none
def d_(P:Program)(t:TypeId):Option (List Value) :=
 match P.info? t with
 | some i=>match i.zero with
  |some z=>if z.cells.toList.all dv then some z.cells.toList else none
  |none=>none
 |none=>none
inductive SK where
 |slice (elem size bytes:Nat)
 |array (n elem size:Nat) (agg:Bool)
 |str
 |int (k:IntKind)
 |bool
 |other
def b_(P:Program)(t:TypeId):SK :=
 match P.underlying t with
 | some (.slice e)=>match P.info? e with
  |some i=>.slice e i.size i.bytes
  |none=>.other
 | some (.array n e)=>match eT P e with
  |some (m,a)=>.array n e m a
  |none=>.other
 |some .string=>.str
 |some (.int k)=>.int k
 |some .bool=>.bool
 |_=>.other
def AV.qK:Value→AV
 |.agg cs=>if cs.toList.all dv then .agg (cs.toList.map .lit) else .lit (.agg cs)
 |.tuple cs=>.tuple (cs.toList.map .lit)
 |v=>.lit v
abbrev AV.int(n:Int):AV:=.lit (.int .i64 n)
abbrev AV.bool(b:Bool):AV:=.lit (.bool b)
abbrev AV.str(s:ByteArray):AV:=.lit (.string s)
theorem nA{E:Env}:∀(l:List Value),af E (l.map .lit) l
 | []=>by simp[af]
 |v::l=>by simp[af,rel,nA l]
theorem HN(E:Env)(v:Value):rel E (AV.qK v) v:=by
 unfold AV.qK;split
 ·split
  ·rename_i cs h
   simp only[rel];exact⟨cs,rfl,dq.1 h,nA _⟩
  ·simp[rel]
 ·simp only [rel]
  exact⟨_,rfl,nA _⟩
 ·simp[rel]
structure St where
 fr:List AV
 H:List ab
def St.eval(s:St):Operand→AV
 |.tmp t=>s.fr.getD t .undef
 |.const v=>AV.qK v
 |.global g=>.lit (.pointer (some ⟨g,0,none⟩))
 |.func f=>.clo f []
def je(w:World)(X:XS)(l:List Deferred):Prop:=l.Nodup∧∀ d∈l,∃ D,d={ target:=.collected D,args:=#[] }∧w.heap[D]? = some (.deferred (some []))∧X D∧X.z D
theorem pd(w:World)(X:XS):je w X []:=⟨Hc,fun _ h=>by cases h⟩
theorem w6{w w':World}{X X':XS}{l:List Deferred}(h:je w X l)(hX:∀ b,X b→X.z b→X' b∧X'.z b)(u:∀ b,X b→X.z b→w'.heap[b]? = w.heap[b]?):je w' X' l :=
 ⟨h.1,fun d v=>let ⟨D,e,h1,k,q⟩:=h.2 d v; ⟨D,e,by rw[u D k q]; exact h1,hX D k q⟩⟩
theorem w7{E E':Env}(HE:ar E)(h:E.le E'){l:List Deferred}(hm:je E.w E.X l):je E'.w E'.X l :=
 w6 hm (fun b h1 d=>⟨by rw[show E'.X.x=E.X.x from h.X.1]; exact h1,by rw[show E'.X.z=E.X.z from h.X.2]; exact d⟩) fun b hb _=>h.same b (HE.X b hb) (HE.nz hb)
structure bP (s:St) (E:Env) (a:Act):Prop where
 H:E.H=s.H
 fr:af E s.fr a.tmps.toList
 defers:je E.w E.X a.defers
 heap:ar E
theorem bP.eval{s:St}{E:Env}{a:Act}(h:bP s E a)(x:Operand):rel E (s.eval x) (a.eval x):=by
 cases x with
 | tmp t =>
  simp only[St.eval,AG];obtain⟨h1,u⟩:=mv.1 h.fr;rcases jy t s.fr.length with d|q
  ·have k : t < a.tmps.toList.length := h1 ▸ d
   have y:s.fr[t]? = some s.fr[t]:=by simp[d]
   have B:a.tmps.toList[t]? = some a.tmps.toList[t]:=bt k;have:=u t _ _ y B;simpa[bG,Array.getD_eq_getD_getElem?,d,show t<a.tmps.size by simpa using k]using this
  ·have : s.fr.getD t .undef = .undef := by simp [bG, me q]
   rw[this];simp[rel]
 |const v=>exact HN E v
 |global g=>simp[St.eval,AG,rel]
 |func f=>simp only[St.eval,AG,rel]; exact⟨#[],rfl,by simp[af]⟩
def gy(agg:Bool)(n:Nat)(cells:List AV):Option AV :=
 if agg then (if n≤cells.length then some (.agg (cells.take n)) else none) else cells[0]?
def j0(k:SK)(x i:AV):Option AV :=
 match i with
 | .lit (.int _ n) =>
  match k,x with
  |.slice _ sz _,.list w rows=>if w=sz∧0≤n∧n<rows.length then (rows[n.toNat]?).map .cptr else none
  |.slice _ sz _,.listF ks rows=>if ks.length=sz∧0≤n∧n<rows.length then some (.cptr (aH ks (rows.getD n.toNat []))) else none
  |.slice _ sz _,.vec w id ad off m=>if w=sz∧0≤n∧n<m then some (.ptr id ad w (off+n.toNat) 0) else none
  |.array m _ sz _,.ptr id ad w row col=>if 0≤n∧n<m then some (.ptr id ad w row (col+n.toNat*sz)) else none
  |.array m _ sz _,.cptr cells=>if 0≤n∧n<m then some (.cptr ((cells.drop (n.toNat*sz)).take sz)) else none
  |_,_=>none
 |_=>none
def Bg(k:FK)(x:AV):Option AV :=
 if k.size=0 then none else
 match x with
 |.cptr cells=>some (.cptr (cells.drop k.off))
 |.ptr id ad w row col=>some (.ptr id ad w row (col+k.off))
 |_=>none
def HO(k:IntKind)(a b:Int):Int:=k.wrap (wB k.bits a &&& wB k.bits b).toNat
def HP(k:IntKind)(a b:Int):Int:=k.wrap (wB k.bits a ||| wB k.bits b).toNat
def HQ(k:IntKind)(a b:Int):Int:=k.wrap (wB k.bits a ^^^ wB k.bits b).toNat
def Bh(k:IntKind)(a b:Int):Int:=k.wrap (a*2 ^ min b.toNat k.bits)
def dW(k:IntKind)(a b:Int):Int:=a.fdiv (2 ^ min b.toNat k.bits)
def lA(op:BinOp)(k:IntKind)(a b:Int):Option Value :=
 match op with
 |.and=>some (.int k (HO k a b))
 |.or=>some (.int k (HP k a b))
 |.xor=>some (.int k (HQ k a b))
 |.add=>some (.int k (k.wrap (a+b)))
 |.sub=>some (.int k (k.wrap (a-b)))
 |.mul=>some (.int k (k.wrap (a*b)))
 |.quo=>if b=0 then none else some (.int k (k.wrap (a.tdiv b)))
 |.rem=>if b=0 then none else some (.int k (a.tmod b))
 |.eql=>some (.bool (a==b))
 |.neq=>some (.bool (a != b))
 |.lss=>some (.bool (a<b))
 |.leq=>some (.bool (a≤b))
 |.gtr=>some (.bool (a>b))
 |.geq=>some (.bool (a ≥ b))
 |_=>none
def Bi(op:BinOp)(x y:ByteArray):Option Value :=
 match op with
 |.add=>if ((x.size+y.size:Nat):Int)>IntKind.i64.max then none else some (.string (x++y))
 |.eql=>some (.bool (x.toList==y.toList))
 |.neq=>some (.bool !(x.toList==y.toList))
 |.lss=>some (.bool (lr x.toList y.toList))
 |.leq=>some (.bool (lr x.toList y.toList||x.toList==y.toList))
 |.gtr=>some (.bool !(lr x.toList y.toList||x.toList==y.toList))
 |.geq=>some (.bool !(lr x.toList y.toList))
 |_=>none
def ic(op:BinOp):Value→Value→Option Value
 | .int k a,.int k' b=>match op with
  |.shl=>if b<0 then none else some (.int k (Bh k a b))
  |.shr=>if b<0 then none else some (.int k (dW k a b))
  |op=>if k=k' then lA op k a b else none
 |.string a,.string b=>Bi op a b
 |_,_=>none
def w8:AV→Option Nat
 |.lit (.string s)=>some s.size
 |.lit (.slice none 0 0)=>some 0
 |.nils=>some 0
 |.emptyS _=>some 0
 |.list _ rows=>some rows.length
 |.listF _ rows=>some rows.length
 |.vec _ _ _ _ n=>some n
 |_=>none
theorem Sem.bp{P:Program}{t:TypeId}{d:TypeDesc}(h:P.underlying t=some d)(w:World) :
  (underlying t).run P w=.ok d w:=by simp[underlying,h]
theorem Sem.run_sizeOf{P:Program}{t:TypeId}{i:TypeInfo}(h:P.info? t=some i)(w:World):(sizeOf t).run P w=.ok i.size w:=by
 simp[sizeOf,typeInfo,h]
theorem Sem.nB{P:Program}{t:TypeId}{d:TypeDesc}(h:P.underlying t=some d)(w:World):(isAgg t).run P w=.ok (pc d) w:=by
 simp[isAgg,Sem.bp h];cases d<;>rfl
theorem lB{P:Program}{t:TypeId}{n:Nat}{a:Bool}(h:eT P t=some (n,a)):∃ i d,P.info? t=some i∧P.underlying t=some d∧i.size=n∧pc d=a:=by
 unfold eT at h;split at h
 ·rename_i i d h1 k
  simp at h;exact⟨i,d,h1,k,h.1,h.2⟩
 ·cases h
theorem HR{P:Program}{t:TypeId}{f:Nat}{k:FK}(h:qJ P t f=some k) :
  ∃ d fd,P.underlying t=some (.struct d)∧d[f]? = some fd∧fd.offset=k.off∧eT P fd.type=some (k.size,k.agg):=by
 unfold qJ at h;split at h
 ·rename_i d h1
  split at h
  ·rename_i fd q
   split at h
   ·rename_i n a u
    simp at h;subst h;exact⟨d,fd,h1,q,rfl,u⟩
   ·cases h
  ·cases h
 ·cases h
theorem SC{P:Program}(op:BinOp)(t:TypeId)(x y:Value)(v:Value)(h:ic op x y=some v)(w:World):(binOp op t x y).run P w=.ok v w:=by
 unfold ic at h;split at h
 ·rename_i k a k' b
  split at h
  ·split at h
   ·cases h
   ·rename_i hb
    cases h;simp only[binOp,Op.shift,if_neg hb,Bh];rfl
  ·split at h
   ·cases h
   ·rename_i hb
    cases h;simp only[binOp,Op.shift,if_neg hb,dW];rfl
  ·rename_i d q
   split at h
   ·rename_i hk
    subst hk;cases op<;>first|exact absurd rfl d|exact absurd rfl q|skip
    all_goals simp[lA]at h
    all_goals simp[binOp,Op.intArith,Op.intDiv,Op.intCmp,Op.intBits]
    all_goals first
     |exact h
     |(obtain⟨h1,u⟩:=h; simp[h1,u])
   ·cases h
 ·rename_i a b
  cases op<;>simp only[Bi]at h<;>(try split at h)<;>simp at h<;>simp only[binOp,Op.stringOp]<;>first
   |(subst h; simp; done)
   |(rename_i B; subst h; rw[if_neg B]; rfl)
 ·cases h
theorem SD{P:Program}(op:BinOp)(t:TypeId)(x y:Operand)(a b:Value)(h:∀ v,ic op a b≠some v→True)(d:(ic op a b).isSome=true)(w:World) :
  (eqGuard op t x y a b).run P w=.ok () w:=by
 unfold ic at d;split at d
 ·cases op<;>simp[eqGuard]<;>rfl
 ·cases op<;>simp[eqGuard]<;>rfl
 ·cases d
theorem SE{E:Env}{x:AV}{c:Value}{n:Nat}(h:w8 x=some n)(hr:rel E x c) :
  (∃ s,c=.string s∧s.size=n)∨∃ base cap,c=.slice base n cap:=by
 unfold w8 at h;split at h
 ·simp only[rel]at hr; subst hr; simp at h; exact .inl ⟨_,rfl,h⟩
 ·simp only[rel]at hr; subst hr; simp at h; subst h; exact .inr ⟨_,_,rfl⟩
 ·simp only[rel]at hr; obtain⟨b,rfl⟩:=hr; simp at h; subst h; exact .inr ⟨_,_,rfl⟩
 ·simp only[rel]at hr; obtain⟨b,cap,rfl,_⟩:=hr; simp at h; subst h; exact .inr ⟨_,_,rfl⟩
 ·simp only[rel]at hr; obtain⟨_,b,cap,rfl,_⟩:=hr; simp at h; subst h; exact .inr ⟨_,_,rfl⟩
 ·simp only[rel,dV]at hr; obtain⟨b,cap,rfl,_⟩:=hr; simp at h; subst h; exact .inr ⟨_,_,rfl⟩
 ·simp only[rel]at hr; obtain⟨⟨b,cap,rfl,_⟩,_⟩:=hr; simp at h; subst h; exact .inr ⟨_,_,rfl⟩
 ·cases h
end Go.AL

namespace Go.AL
open Go
variable [Dr]
theorem j5(b o n:Nat):(Addr.mk b o none).add n=⟨b,o+n,none⟩:=by
 unfold Addr.add;split
 ·rename_i h; simp[h]
 ·rfl
theorem SF{E:Env}{as:List AV}{b o:Nat}(h:cn E as b o){i:Nat}{a:AV}(hi:as[i]? = some a) :
  ∃ v,E.w.cell? ⟨b,o+i,none⟩=some v∧dv v=true∧rel E a v:=iM.1 h i a hi
theorem qL{E:Env}{as:List AV}{b o:Nat}(h:cn E as b o)(n:Nat):cn E (as.drop n) b (o+n):=by
 rw[iM]at *;intro i a hi;rw[oR]at hi;obtain⟨v,h1,d,k⟩:=h (n+i) a hi;exact⟨v,by rw[oP]; exact h1,d,k⟩
theorem w9{E:Env}{as:List AV}{b o:Nat}(h:cn E as b o)(n:Nat):cn E (as.take n) b o:=by
 rw[iM]at *;intro i a hi;rw[nf]at hi;split at hi
 ·exact h i a hi
 ·cases hi
theorem tJ:∀(as:List AV) (n:Nat),AV.bl as=true→AV.bl (as.drop n)=true
 | [],n,_=>by simp[AV.bl]
 |a::as,0,h=>by simpa using h
 | a::as,n+1,h=>by
  simp only[AV.bl,ax]at h;simpa using tJ as n h.2
theorem w_:∀(as:List AV) (n:Nat),AV.bl as=true→AV.bl (as.take n)=true
 | [],n,_=>by simp[AV.bl]
 |a::as,0,_=>by simp[AV.bl]
 | a::as,n+1,h=>by
  simp only[AV.bl,ax]at h;simp only[AH,AV.bl,ax];exact⟨h.1,w_ as n h.2⟩
theorem tK{E:Env}:∀{as:List AV} {b o:Nat},cn E as b o →
  ∃ vs:List Value,af E as vs∧(∀ x∈vs,dv x=true)∧∀ j v,vs[j]? = some v→E.w.cell? ⟨b,o+j,none⟩=some v
 | [],b,o,_=>⟨[],by simp[af]⟩
 | a::as,b,o,h=>by
  simp only[cn]at h;obtain⟨⟨v,h1,q,u⟩,y⟩:=h;obtain⟨vs,g1,g2,g3⟩:=tK y;refine⟨v::vs,by simp only[af]; exact⟨u,g1⟩,?_,?_⟩
  ·intro x d
   rcases bR.1 d with rfl|d
   ·exact q
   ·exact g2 x d
  ·intro j x k
   cases j with
   |zero=>simp at k; subst k; exact h1
   |succ j=>have:=g3 j x (by simpa using k); rwa [oP,td 1 j]at this
theorem Bj{P:Program}{E:Env}{cells:List AV}{b o n:Nat}{agg:Bool}{t:TypeId}{v:AV}(q:eT P t=some (n,agg))
  (h:gy agg n cells=some v) (hr:cn E cells b o):∃ c,(loadVar t ⟨b,o,none⟩).run P E.w=.ok c E.w∧rel E v c:=by
 obtain⟨i,d,hi,k,u,ha⟩:=lB q;unfold gy at h;cases agg with
 | true =>
  simp only[if_true]at h;split at h
  ·rename_i hle
   cases h;obtain⟨vs,g1,g2,g3⟩:=tK (w9 hr n);have y:vs.length=n:=by rw[←gb g1]; simp[hle]
   refine⟨.agg vs.toArray,?_,?_⟩
   ·simp only [loadVar, bW, Sem.nB k, bX, ha, if_true, Sem.run_sizeOf hi, u]
    rw[←y,run_loadCells_list (w:=E.w) ⟨b,o,none⟩ vs (fun j v B=>by rw[j5]; exact g3 j v B)];rfl
   ·simp only [rel]
    exact⟨vs.toArray,rfl,by simpa using g2,by simpa using g1⟩
  ·cases h
 | false =>
  simp only[kF,if_false]at h;obtain⟨x,h1,_,I⟩:=SF hr h;refine⟨x,?_,I⟩;simp only[loadVar,bW,Sem.nB k,bX,ha,kF,if_false,run_load];rw[show (⟨b,o,none⟩:Addr)=⟨b,o+0,none⟩ from rfl,h1]
def ig(P:Program)(t:TypeId)(x:AV)(H:List ab):Option AV :=
 match eT P t with
 | some (n,agg) =>
  match x with
  |.cptr cells=>gy agg n cells
  | .ptr id ad w row col=>match H[id]? with
   |some (.box cells)=>if ad=0∧row=0 then gy agg n (cells.drop col) else none
   |some (.vec k v rows)=>if ad=v∧k=w then (match rows[row]? with|some r=>gy agg n (r.drop col)|none=>none) else none
   |_=>none
  |_=>none
 |none=>none
theorem lC{E:Env}{k:Nat}{rs:List (List AV)}{b o:Nat}(h:cA E k rs b o){i:Nat}{r:List AV}(hi:rs[i]? = some r) :
  r.length=k∧cn E r b (o+i*k):=lz.1 h i r hi
theorem HS{P:Program}{E:Env}(HE:ar E){t:TypeId}{x v:AV}{c:Value}(d:ig P t x E.H=some v)(hr:rel E x c) :
  ∃ u,(AI t c).run P E.w=.ok u E.w∧rel E v u:=by
 unfold ig at d;split at d
 case h_2=>cases d
 rename_i n agg J;split at d
 ·simp only [rel] at hr
  obtain⟨_,b,o,rfl,_,O⟩:=hr;obtain⟨u,q,y⟩:=Bj J d O;exact⟨u,by simpa[AI,ng]using q,y⟩
 ·rename_i id ad w row col
  simp only[rel]at hr;split at d
  ·rename_i cells hid
   split at d
   ·rename_i I
    obtain⟨rfl,rfl⟩:=I;obtain⟨b,m,M,rfl⟩:=hr.2.2 ⟨_,hid,rfl⟩;obtain⟨U,m',h,_,B⟩:=HE.obj id _ hid;rw[M]at h;cases h;have:=qL B col;simp only[cW]at this;obtain⟨u,q,y⟩:=Bj J d this;exact⟨u,by simpa[AI,ng]using q,y⟩
   ·cases d
  ·rename_i k V rows hid
   split at d
   ·rename_i I
    obtain⟨rfl,rfl⟩:=I;split at d
    ·rename_i r N
     obtain⟨b,m,M,rfl⟩:=hr.2.2 ⟨_,hid,rfl⟩;rcases HE.obj id _ hid with⟨h,B⟩|⟨U,m',h,_,_,_,B⟩
     ·subst B; simp at N
     ·rw [M] at h
      cases h;have:=qL (lC B N).2 col;simp only[cW]at this;obtain⟨u,q,y⟩:=Bj J d this;exact⟨u,by simpa[AI,ng]using q,y⟩
    ·cases d
   ·cases d
  ·cases d
 ·cases d
theorem SG{P:Program}{E:Env}{t:TypeId}{f:Nat}{k:FK}{x v:AV}{c:Value}(hk:qJ P t f=some k)
  (h:Bg k x=some v) (hr:rel E x c):∃ u,(RP t c f).run P E.w=.ok u E.w∧rel E v u:=by
 obtain⟨fs,fd,h1,B,M,N⟩:=HR hk;obtain⟨i,d,hi,hd,O,ha⟩:=lB N;unfold Bg at h;split at h
 ·cases h
 rename_i I;have y:∀ b o w,(fieldPlace ⟨b,o,none⟩ fd).run P w=.ok ⟨b,o+k.off,none⟩ w:=by
  intro b o w;simp only[fieldPlace,bW,Sem.run_sizeOf hi,bX,O,if_neg I,fl,j5,M]
 split at h
 ·cases h
  simp only[rel]at hr;obtain⟨U,b,o,rfl,bY,J⟩:=hr;refine⟨.pointer (some ⟨b,o+k.off,none⟩),?_,?_⟩
  ·simp[RP,Sem.bp h1,B,ng,y]
  ·simp only [rel]
   exact⟨tJ _ _ U,b,o+k.off,rfl,bY,qL J _⟩
 ·cases h
  simp only[rel]at hr;rename_i id ad w row col;obtain⟨⟨b,o,rfl⟩,V,W⟩:=hr;refine⟨.pointer (some ⟨b,o+k.off,none⟩),?_,?_⟩
  ·simp[RP,Sem.bp h1,B,ng,y]
  ·simp only [rel]
   refine⟨⟨_,_,rfl⟩,V,fun hl=>?_⟩;obtain⟨b',n',e1,q⟩:=W hl;simp only[agE,aQ,Hd]at q;exact⟨b',n',e1,by simp[q.1,q.2.1,oP]⟩
 ·cases h
theorem gz{P:Program}{t e sz d:Nat}(h:b_ P t=.slice e sz d):P.underlying t=some (.slice e)∧∃ i,P.info? e=some i∧i.size=sz∧i.bytes=d:=by
 unfold b_ at h;split at h
 ·rename_i e' h1
  split at h
  ·rename_i i k
   cases h;exact⟨h1,i,k,rfl,rfl⟩
  ·cases h
 ·split at h<;>cases h
 all_goals cases h
theorem xa{P:Program}{t n e sz:Nat}{a:Bool}(h:b_ P t=.array n e sz a):P.underlying t=some (.array n e)∧eT P e=some (sz,a):=by
 unfold b_ at h;split at h
 ·split at h<;>cases h
 ·rename_i k e' h1
  split at h
  ·rename_i m q d
   cases h;exact⟨h1,d⟩
  ·cases h
 all_goals cases h
theorem pe{P:Program}{t:Nat}(h:b_ P t=.str):P.underlying t=some .string:=by
 unfold b_ at h;split at h
 ·split at h<;>cases h
 ·split at h<;>cases h
 ·rename_i h1; exact h1
 all_goals cases h
theorem SH{P:Program}{E:Env}(HE:ar E){t:TypeId}{x i v:AV}{c d:Value}
  (h:j0 (b_ P t) x i=some v) (q:rel E x c) (hi:rel E i d):∃ u,(wC t c d).run P E.w=.ok u E.w∧rel E v u:=by
 unfold j0 at h;split at h
 case h_2=>cases h
 rename_i k n;simp only[rel]at hi;subst hi;split at h
 ·rename_i e sz by_ w rows hk
  split at h
  ·rename_i y
   obtain⟨rfl,h0,h1⟩:=y;obtain⟨hu,ii,I,J,_⟩:=gz hk;cases B:rows[n.toNat]? with
   |none=>rw[B]at h; cases h
   | some r =>
    rw[B]at h;simp at h;subst h;simp only[rel]at q;obtain⟨O,base,cap,rfl,hle,hh⟩:=q;rcases hh with rfl|⟨b,o,rfl,bY,hr⟩
    ·simp at B
    ·obtain ⟨g1, g2⟩ := lC hr B
     refine⟨.pointer (some ⟨b,o+n.toNat*w,none⟩),?_,?_⟩
     ·simp[wC,asIntOf,Sem.bp hu,h0,h1,Sem.run_sizeOf I,J,j5]
     ·simp only [rel]
      exact⟨O r (eB B),b,_,rfl,bY,g2⟩
  ·cases h
 ·rename_i e sz by_ ks rows hk
  split at h
  ·rename_i y
   obtain⟨rfl,h0,h1⟩:=y;cases h;obtain⟨hu,ii,I,J,_⟩:=gz hk;have q:=iN.1 q;simp only[rel,cN]at q;obtain⟨O,base,cap,rfl,hle,hh⟩:=q;have hlt:n.toNat<rows.length:=by omega
   have B:(rows.map (aH ks))[n.toNat]? = some (aH ks (rows.getD n.toNat [])):=by
    rw[bT,bG,bt hlt];rfl
   rcases hh with hn|⟨b,o,rfl,bY,hr⟩
   ·rw[hn]at B; simp at B
   ·obtain ⟨g1, g2⟩ := lC hr B
    refine⟨.pointer (some ⟨b,o+n.toNat*ks.length,none⟩),?_,?_⟩
    ·simp[wC,asIntOf,Sem.bp hu,h0,h1,Sem.run_sizeOf I,J,j5]
    ·simp only [rel]
     exact⟨fG _ _,b,_,rfl,bY,g2⟩
  ·cases h
 ·rename_i e sz by_ w id ad off m hk
  split at h
  ·rename_i y
   obtain⟨rfl,h0,h1⟩:=y;cases h;obtain⟨hu,ii,I,J,_⟩:=gz hk;simp only[rel]at q;obtain⟨⟨base,cap,rfl,hle,hb⟩,U,M⟩:=q;obtain⟨b,o,rfl⟩:=hb (by omega);refine⟨.pointer (some ⟨b,o+n.toNat*w,none⟩),?_,?_⟩
   ·simp[wC,asIntOf,Sem.bp hu,h0,h1,Sem.run_sizeOf I,J,j5]
   ·simp only [rel]
    refine⟨⟨_,_,rfl⟩,U,fun hl=>?_⟩;obtain⟨g1,g2⟩:=M hl;obtain⟨a,ha,hav⟩:=U;cases N:E.loc[id]? with
    | none =>
     have:=aI ha;rw[←HE.len]at this;rw[bt this]at N;cases N
    | some l =>
     cases l with
     |none=>have:=(g1 N).1; omega
     | some bm =>
      obtain⟨V,m'⟩:=bm;obtain⟨q1,o',q2,q3⟩:=g2 V m' N;simp only[jT,aQ,Hd]at q3;refine⟨V,m',rfl,?_⟩;rw[q3.1.1,q3.1.2.1,q2 (by omega),fE];rfl
  ·cases h
 ·rename_i m e sz a id ad w row col hk
  split at h
  ·rename_i y
   cases h;obtain⟨hu,W⟩:=xa hk;obtain⟨ii,dd,I,J,h4,_⟩:=lB W;simp only[rel]at q;obtain⟨⟨b,o,rfl⟩,U,M⟩:=q;refine⟨.pointer (some ⟨b,o+n.toNat*sz,none⟩),?_,?_⟩
   ·simp[wC,asIntOf,Sem.bp hu,y.1,y.2,Sem.run_sizeOf I,h4,j5,ng]
   ·simp only [rel]
    refine⟨⟨_,_,rfl⟩,U,fun hl=>?_⟩;obtain⟨V,n',e1,e2⟩:=M hl;simp only[agE,aQ,Hd]at e2;exact⟨V,n',e1,by simp[e2.1,e2.2.1,oP]⟩
  ·cases h
 ·rename_i m e sz a cells hk
  split at h
  ·rename_i y
   cases h;obtain⟨hu,W⟩:=xa hk;obtain⟨ii,dd,I,J,h4,_⟩:=lB W;simp only[rel]at q;obtain⟨O,b,o,rfl,bY,M⟩:=q;refine⟨.pointer (some ⟨b,o+n.toNat*sz,none⟩),?_,?_⟩
   ·simp[wC,asIntOf,Sem.bp hu,y.1,y.2,Sem.run_sizeOf I,h4,j5,ng]
   ·simp only [rel]
    exact⟨w_ _ _ (tJ _ _ O),b,_,rfl,bY,w9 (qL M _) _⟩
  ·cases h
 ·cases h
def j6:AV→Option Int
 |.lit (.int _ n)=>some n
 |_=>none
def gf(len:Nat)(lo hi:Option AV):Option (Nat × Nat) :=
 match (match lo with|none=>some 0|some x=>j6 x),(match hi with|none=>some (len:Int)|some x=>j6 x)with
 |some l,some h=>if 0≤l∧l≤h∧h≤len then some (l.toNat,h.toNat) else none
 |_,_=>none
theorem qM{E:Env}{x:AV}{c:Value}{n:Int}(h:j6 x=some n)(hr:rel E x c):∃ k,c=.int k n:=by
 unfold j6 at h;split at h
 ·cases h
  simp only[rel]at hr;exact⟨_,hr⟩
 ·cases h
def HT:List AV→Option (List G)
 | [.lit (.string s)]=>some [.s s]
 |_=>none
def qN:List (List AV)→Option (List (List G))
 | []=>some []
 | r::rs=>match HT r,qN rs with
  |some g,some gs=>some (g::gs)
  |_,_=>none
theorem Bk:∀{rows:List (List AV)} {gs:List (List G)},qN rows=some gs→gs.map (aH [.str])=rows
 | [],gs,h=>by
  simp only[qN,aQ]at h;subst h;rfl
 | r::rs,gs,h=>by
  simp only[qN]at h;split at h
  ·rename_i g k h1 d
   cases h;rw[dg,Bk d];unfold HT at h1;split at h1
   ·cases h1; rfl
   ·cases h1
  ·cases h
def xb(w:Nat)(rows:List (List AV))(l n:Nat):AV:=match w,qN rows with
 |1,some gs=>.listF [.str] ((gs.drop l).take n)
 |_,_=>.list w ((rows.drop l).take n)
theorem SI{E:Env}{w l n:Nat}{rows:List (List AV)}{c:Value} (h:rel E (.list w ((rows.drop l).take n)) c):rel E (xb w rows l n) c:=by
 unfold xb;split
 ·rename_i gs hg
  rw[iN,RQ,He,Bk hg];exact h
 ·exact h
def kQ(P:Program)(t:TypeId)(x:AV)(lo hi mx:Option AV):Option AV :=
 match b_ P t,x with
 | .str,.lit (.string s)=>match mx,gf s.size lo hi with
  |none,some (l,h)=>some (.lit (.string (s.extract l h)))
  |_,_=>none
 | .slice _ sz _,.list w rows=>match mx with
  | none=>match gf rows.length lo hi with
   |some (l,h)=>if w=sz then some (xb w rows l (h-l)) else none
   |none=>none
  |some m=>if hi.isSome∧gf rows.length lo hi=some (0,0)∧j6 m=some 0 then some .nils else none
 | .slice _ sz _,.listF ks rows=>match mx with
  | none=>match gf rows.length lo hi with
   |some (l,h)=>if ks.length=sz then some (.listF ks ((rows.drop l).take (h-l))) else none
   |none=>none
  |some m=>if hi.isSome∧gf rows.length lo hi=some (0,0)∧j6 m=some 0 then some .nils else none
 | .slice _ sz _,.vec w id ad off n=>match mx with
  | none=>match gf n lo hi with
   |some (l,h)=>if w=sz then some (.vec w id ad (off+l) (h-l)) else none
   |none=>none
  |some m=>if hi.isSome∧gf n lo hi=some (0,0)∧j6 m=some 0 then some .nils else none
 | .slice _ _ _,.nils=>match mx with
  |none=>if (gf 0 lo hi).isSome then some .nils else none
  |some _=>none
 | .slice _ _ _,.lit (.slice none 0 0)=>match mx with
  |none=>if (gf 0 lo hi).isSome then some (.lit (.slice none 0 0)) else none
  |some m=>if hi.isSome∧gf 0 lo hi=some (0,0)∧j6 m=some 0 then some (.lit (.slice none 0 0)) else none
 |_,_=>none
theorem qO{P:Program}{E:Env}{len cap:Nat}{lo hi:Option AV}{clo u:Option Value}{l h:Nat}(isSlice:Bool)(hb:gf len lo hi=some (l,h))(hle:len≤cap)
  (h1:∀ x,lo=some x→∃ c,clo=some c∧rel E x c) (y:lo=none→clo=none)
  (J:∀ x,hi=some x→∃ c,u=some c∧rel E x c) (I:hi=none→u=none) (w:World) :
  (qo isSlice len cap clo u none).run P w=.ok (l,h,cap) w∧l≤h∧h≤len:=by
 unfold gf at hb;split at hb
 case h_2=>cases hb
 rename_i a b q v;split at hb
 case isFalse=>cases hb
 rename_i d;simp only[aQ,a7]at hb;obtain⟨rfl,rfl⟩:=hb;obtain⟨B,c1,c2⟩:=d;refine⟨?_,by omega,by omega⟩;cases hi with
 | none =>
  rw[I rfl];simp at v;subst v;cases lo with
  | none =>
   rw[y rfl];simp at q;subst q;simp[qo]
  | some x =>
   obtain⟨c,rfl,d⟩:=h1 x rfl;obtain⟨k,rfl⟩:=qM q d;simp[qo,AJ,asIntOf,B,c1]
 | some z =>
  obtain⟨c,rfl,d⟩:=J z rfl;obtain⟨k,rfl⟩:=qM v d;have g1:b≤(cap:Int):=by omega
  have g2:0≤b:=by omega
  cases lo with
  | none =>
   rw[y rfl];simp at q;subst q;simp[qo,AJ,asIntOf,g1,g2]
  | some x =>
   obtain⟨c,rfl,d⟩:=h1 x rfl;obtain⟨k',rfl⟩:=qM q d;have g4:¬ (max b 0<a):=by omega
   simp[qo,AJ,asIntOf,g1,g2,B,g4]
theorem HU{E:Env}{k:Nat}{rows:List (List AV)}{b o:Nat}(h:cA E k rows b o)(l n:Nat) :
  cA E k ((rows.drop l).take n) b (o+l*k):=by
 rw[lz]at *;intro i r hi;rw[nf]at hi;split at hi
 ·rw [oR] at hi
  have:=h (l+i) r hi
  rwa [fE,←oP]at this
 ·cases hi
def nC(E:Env):Option AV→Option Value→Prop
 |none,none=>True
 |some x,some c=>rel E x c
 |_,_=>False
theorem Bl{E:Env}{lo:Option AV}{clo:Option Value}(h:nC E lo clo):(∀ x,lo=some x→∃ c,clo=some c∧rel E x c)∧(lo=none→clo=none):=by
 cases lo<;>cases clo<;>simp_all[nC]
theorem HV{E:Env}{w l h cap:Nat}{rows:List (List AV)}{base:Option Addr}(d:eS rows)(hle:rows.length≤cap)(h1:l≤h)(k:h≤rows.length)
  (q:rows=[]∨∃ b o,base=some ⟨b,o,none⟩∧E.iL b∧cA E w rows b o) :
  rel E (.list w ((rows.drop l).take (h-l))) (.slice (if cap=l then base else base.map (·.add (l*w))) (h-l) (cap-l)):=by
 simp only[rel];have hlen:((rows.drop l).take (h-l)).length=h-l:=by simp; omega
 refine⟨fun r hr=>d r (wD (wE hr)),_,cap-l,by rw[hlen],by rw[hlen]; omega,?_⟩;rcases Nat.eq_or_lt_of_le h1 with rfl|u
 ·left; simp
 ·right
  rcases q with rfl|⟨b,o,rfl,bY,hr⟩
  ·simp at k; omega
  ·refine ⟨b, o + l * w, ?_, bY, HU hr l (h - l)⟩
   rw[if_neg (by omega)];simp[j5]
theorem SJ{E:Env}{w id ad off n l h:Nat}{base:Option Addr}{cap:Nat}(hr:rel E (.vec w id ad off n) (.slice base n cap))(h1:l≤h)(U:h≤n) :
  rel E (.vec w id ad (off+l) (h-l)) (.slice (if cap=l then base else base.map (·.add (l*w))) (h-l) (cap-l)):=by
 simp only[rel]at hr⊢;obtain⟨⟨u,O,e,hle,hb⟩,y,B⟩:=hr;simp only[jT]at e;obtain⟨rfl,_,rfl⟩:=e;refine⟨⟨_,_,rfl,by omega,fun V=>?_⟩,y,fun I=>?_⟩
 ·obtain ⟨b, o, rfl⟩ := hb (by omega)
  rw[if_neg (by omega)];exact⟨b,o+l*w,by simp[j5]⟩
 ·obtain ⟨g1, g2⟩ := B I
  refine⟨fun d=>?_,fun b m d=>?_⟩
  ·obtain ⟨rfl, rfl, u, e⟩ := g1 d
   simp only[jT]at e;refine⟨by omega,by omega,?_⟩;have J:h-l=0:=by omega
   have M:cap-l=0:=by omega
   rw[J,M];exact⟨_,rfl⟩
  ·obtain ⟨W, o, N, k⟩ := g2 b m d
   simp only[jT]at k;obtain⟨rfl,_,rfl⟩:=k;refine⟨by omega,?_⟩;by_cases q:m-off=l
   ·rw [if_pos q]
    exact⟨o,fun v=>by omega,by rw[agF]⟩
   ·rw [if_neg q]
    refine⟨o+l*w,fun v=>?_,by simp[j5,agF]⟩;rw[N (by omega),fE]
theorem xc{P:Program}{E:Env}{len:Nat}{lo hi:Option AV}{m:AV}{clo h:Option Value}{q:Value}
  (hb:gf len lo hi=some (0,0)) (B:hi.isSome=true) (hm:j6 m=some 0)
  (h1:∀ x,lo=some x→∃ c,clo=some c∧rel E x c) (u:lo=none→clo=none)
  (I:∀ x,hi=some x→∃ c,h=some c∧rel E x c) (v:rel E m q) (cap:Nat) (w:World) :
  (qo true len cap clo h (some q)).run P w=.ok (0,0,0) w:=by
 obtain⟨k,rfl⟩:=qM hm v;obtain⟨z,rfl⟩:=qp.1 B;obtain⟨c,rfl,d⟩:=I z rfl;unfold gf at hb;split at hb
 case h_2=>cases hb
 rename_i a b J M;split at hb
 case isFalse=>cases hb
 rename_i N;simp only[aQ,a7]at hb;obtain⟨k',rfl⟩:=qM M d;have ha:a=0:=by omega
 have y:b=0:=by omega
 subst ha; subst y;cases lo with
 | none =>
  rw[u rfl];simp[qo,AJ,asIntOf]
 | some x =>
  obtain⟨c,rfl,d⟩:=h1 x rfl;obtain⟨O,rfl⟩:=qM J d;simp[qo,AJ,asIntOf]
theorem SL{P:Program}{E:Env}{t:TypeId}{x v:AV}{lo hi mx:Option AV}{c:Value}{clo W cmx:Option Value}
  (d:kQ P t x lo hi mx=some v) (q:rel E x c) (hlo:nC E lo clo) (hhi:nC E hi W) (hmx:nC E mx cmx) :
  ∃ u,(mf t c clo W cmx).run P E.w=.ok u E.w∧rel E v u:=by
 obtain⟨l1,y⟩:=Bl hlo;obtain⟨l2,B⟩:=Bl hhi;obtain⟨N,I⟩:=Bl hmx;unfold kQ at d;split at d
 ·rename_i s hk
  have hu:=pe hk;simp only[rel]at q;subst q;split at d
  ·rename_i l h hb
   cases d;rw[I rfl];obtain⟨g1,g2,g3⟩:=qO (P:=P) (E:=E) (cap:=s.size) false hb (aD _) l1 y l2 B E.w;refine⟨.string (s.extract l h),?_,by simp[rel]⟩;simp[mf,nh,Sem.bp hu,g1]
  ·cases d
 ·rename_i e sz M w rows hk
  obtain⟨hu,ii,i1,i2,_⟩:=gz hk;have J:=q;simp only[rel]at q;obtain⟨O,base,cap,rfl,hle,U⟩:=q;split at d
  ·split at d
   ·rename_i l h hb
    split at d
    ·rename_i hw
     subst hw;cases d;rw[I rfl];obtain⟨g1,g2,g3⟩:=qO (P:=P) (E:=E) (cap:=cap) true hb hle l1 y l2 B E.w;refine⟨_,?_,SI (HV (cap:=cap) O hle g2 g3 U)⟩;simp[mf,nh,Sem.bp hu,g1,Sem.run_sizeOf i1,i2]
    ·cases d
   ·cases d
  ·rename_i m
   split at d
   ·rename_i k
    cases d;obtain⟨V,rfl,hm⟩:=N m rfl;have g:=xc (P:=P) k.2.1 k.1 k.2.2 l1 y l2 hm cap E.w;refine⟨.slice base 0 0,?_,by simp only[rel]; exact⟨base,rfl⟩⟩;simp[mf,nh,Sem.bp hu,g,Sem.run_sizeOf i1,i2]
   ·cases d
 ·rename_i e sz M ks rows hk
  obtain⟨hu,ii,i1,i2,_⟩:=gz hk;have J:=iN.1 q;simp only[rel]at J;obtain⟨O,base,cap,rfl,hle,U⟩:=J;simp only[cN]at hle q⊢;split at d
  ·split at d
   ·rename_i l h hb
    split at d
    ·rename_i hw
     subst hw;cases d;rw[I rfl];obtain⟨g1,g2,g3⟩:=qO (P:=P) (E:=E) (cap:=cap) true hb hle l1 y l2 B E.w;have:=HV (cap:=cap) O (by simpa using hle) g2 (by simpa using g3) U;have e:((rows.map (aH ks)).drop l).take (h-l)=((rows.drop l).take (h-l)).map (aH ks):=by rw[RQ,He]
     rw[e]at this;refine⟨_,?_,iN.2 this⟩;simp[mf,nh,Sem.bp hu,g1,Sem.run_sizeOf i1,i2]
    ·cases d
   ·cases d
  ·rename_i m
   split at d
   ·rename_i k
    cases d;obtain⟨V,rfl,hm⟩:=N m rfl;have g:=xc (P:=P) k.2.1 k.1 k.2.2 l1 y l2 hm cap E.w;refine⟨.slice base 0 0,?_,by simp only[rel]; exact⟨base,rfl⟩⟩;simp[mf,nh,Sem.bp hu,g,Sem.run_sizeOf i1,i2]
   ·cases d
 ·rename_i e sz M w id ad off n hk
  obtain⟨hu,ii,i1,i2,_⟩:=gz hk;have J:=q;simp only[rel]at q;obtain⟨⟨base,cap,rfl,hle,_⟩,_,_⟩:=q;split at d
  ·split at d
   ·rename_i l h hb
    split at d
    ·rename_i hw
     subst hw;cases d;rw[I rfl];obtain⟨g1,g2,g3⟩:=qO (P:=P) (E:=E) (cap:=cap) true hb hle l1 y l2 B E.w;refine⟨_,?_,SJ J g2 g3⟩;simp[mf,nh,Sem.bp hu,g1,Sem.run_sizeOf i1,i2]
    ·cases d
   ·cases d
  ·rename_i m
   split at d
   ·rename_i k
    cases d;obtain⟨V,rfl,hm⟩:=N m rfl;have g:=xc (P:=P) k.2.1 k.1 k.2.2 l1 y l2 hm cap E.w;refine⟨.slice base 0 0,?_,by simp only[rel]; exact⟨base,rfl⟩⟩;simp[mf,nh,Sem.bp hu,g,Sem.run_sizeOf i1,i2]
   ·cases d
 ·rename_i e sz M hk
  obtain⟨hu,ii,i1,i2,_⟩:=gz hk;simp only[rel]at q;obtain⟨base,rfl⟩:=q;split at d
  ·split at d
   ·rename_i hb
    cases d;obtain⟨⟨l,h⟩,hb⟩:=qp.1 hb;rw[I rfl];obtain⟨g1,g2,g3⟩:=qO (P:=P) (E:=E) (cap:=0) true hb (aD _) l1 y l2 B E.w;have:h=0:=by omega
    subst this;have:l=0:=by omega
    subst this;refine⟨.slice base 0 0,?_,by simp only[rel]; exact⟨base,rfl⟩⟩;simp[mf,nh,Sem.bp hu,g1,Sem.run_sizeOf i1,i2]
   ·cases d
  ·cases d
 ·rename_i e sz M hk
  obtain⟨hu,ii,i1,i2,_⟩:=gz hk;simp only[rel]at q;subst q;split at d
  ·split at d
   ·rename_i hb
    cases d;obtain⟨⟨l,h⟩,hb⟩:=qp.1 hb;rw[I rfl];obtain⟨g1,g2,g3⟩:=qO (P:=P) (E:=E) (cap:=0) true hb (aD _) l1 y l2 B E.w;have:h=0:=by omega
    subst this;have:l=0:=by omega
    subst this;refine⟨.slice none 0 0,?_,by simp only[rel]⟩;simp[mf,nh,Sem.bp hu,g1,Sem.run_sizeOf i1,i2]
   ·cases d
  ·rename_i m
   split at d
   ·rename_i k
    cases d;obtain⟨V,rfl,hm⟩:=N m rfl;have g:=xc (P:=P) k.2.1 k.1 k.2.2 l1 y l2 hm 0 E.w;refine⟨.slice none 0 0,?_,by simp only[rel]⟩;simp[mf,nh,Sem.bp hu,g,Sem.run_sizeOf i1,i2]
   ·cases d
 ·cases d
end Go.AL

namespace Go.AL
open Go
variable [Dr]
def kindOk:SK→Value→Bool
 |.int k,.int k' _=>k=k'
 |.str,.string _=>true
 |.bool,.bool _=>true
 |_,_=>false
def nD:Value→Value→Bool
 |.int _ a,.int _ b=>a==b
 |.string a,.string b=>a.toList==b.toList
 |.bool a,.bool b=>a==b
 |_,_=>false
def dA:List Value→List Value→Bool
 | [],[]=>true
 |a::as,b::d=>nD a b&&dA as d
 |_,_=>false
def cB:List SK→List Value→Bool
 | [],[]=>true
 |k::ks,v::vs=>kindOk k v&&cB ks vs
 |_,_=>false
def qP(P:Program)(f:TypeId→Option (List SK)):List Field→Nat→Option (List SK)
 | [],_=>some []
 | x::d,off=>if x.name = "_" ∨ x.offset≠off then none else
  match f x.type,eT P x.type with
  |some ks,some (n,_)=>if n=ks.length then (match qP P f d (off+n)with|some l=>some (ks++l)|none=>none) else none
  |_,_=>none
def flatK(P:Program):Nat→TypeId→Option (List SK)
 |0,_=>none
 | d+1,t=>match P.underlying t with
  |some (.int k)=>some [.int k]
  |some .string=>some [.str]
  |some .bool=>some [.bool]
  |some (.struct h)=>if P.stoodInHeld t then none else qP P (fun t=>flatK P d t) h.toList 0
  |_=>none
abbrev tL(P:Program)(d:Nat)(h:List Field)(off:Nat):Option (List SK):=qP P (fun t=>flatK P d t) h off
theorem HW:∀(a b c d:List Value),a.length=c.length→dA (a++b) (c++d)=(dA a c&&dA b d)
 | [],b,[],d,_=>by simp[dA]
 | x::a,b,y::c,d,h=>by
  simp only[kG,dA,HW a b c d (by simpa using h),agG]
 | [],_,_::_,_,h=>by simp at h
 |_::_,_,[],_,h=>by simp at h
theorem qQ:∀{ks:List SK} {vs:List Value},cB ks vs=true→ks.length=vs.length
 | [],[],_=>rfl
 |_::ks,_::vs,h=>by simp only[cB,ax]at h; simp[qQ h.2]
 | [],_::_,h=>by simp[cB]at h
 |_::_,[],h=>by simp[cB]at h
theorem xd:∀{a b:List SK} {vs:List Value},cB (a++b) vs=true→cB a (vs.take a.length)=true∧cB b (vs.drop a.length)=true
 | [],b,vs,h=>by simpa[cB]using h
 |k::a,b,[],h=>by simp[cB]at h
 | k::a,b,v::vs,h=>by
  simp only[kG,cB,ax]at h;have:=xd h.2;simp only[cr,AH,cB,ax,agH];exact⟨⟨h.1,this.1⟩,this.2⟩
def isVal(P:Program)(t:TypeId)(x:Value)(vs:List Value):Prop :=
 match P.underlying t with
 |some (.struct _)=>∃ a:Array Value,x=.agg a∧a.toList=vs
 |_=>vs=[x]
theorem Bm{P:Program}{t:TypeId}{n:Nat}{agg:Bool}{ks:List SK}{d:Nat}(u:eT P t=some (n,agg))(hk:flatK P d t=some ks)(q:n=ks.length)
  (cs:Array Value) (off:Nat) (bY:cB ks ((cs.toList.drop off).take n)=true) (w:World) :
  ∃ x,(part t cs off).run P w=.ok x w∧isVal P t x ((cs.toList.drop off).take n):=by
 obtain⟨i,d',h1,h,v,y⟩:=lB u;cases d with
 |zero=>simp[flatK]at hk
 | succ d =>
  unfold flatK at hk;rw[h]at hk;have hlen:=qQ bY;cases d' with
  | struct B =>
   refine⟨.agg (cs.extract off (off+n)),?_,?_⟩
   ·simp[part,Sem.nB h,pc,Sem.run_sizeOf h1,v]
   ·simp only [isVal, h]
    refine⟨_,rfl,?_⟩;simp
  | int k =>
   simp at hk;subst hk;simp at q;subst q;have:off<cs.size:=by simp at hlen; omega
   refine⟨cs[off],?_,?_⟩
   ·simp[part,Sem.nB h,pc,this]
   ·simp[isVal,h,RR,this]
  | string =>
   simp at hk;subst hk;simp at q;subst q;have:off<cs.size:=by simp at hlen; omega
   refine⟨cs[off],?_,?_⟩
   ·simp[part,Sem.nB h,pc,this]
   ·simp[isVal,h,RR,this]
  | bool =>
   simp at hk;subst hk;simp at q;subst q;have:off<cs.size:=by simp at hlen; omega
   refine⟨cs[off],?_,?_⟩
   ·simp[part,Sem.nB h,pc,this]
   ·simp[isVal,h,RR,this]
  |_=>simp at hk
theorem SM{P:Program}{t:TypeId}{d:Array Field}(h:P.underlying t=some (.struct d)):P.underlying t=some (.struct (P.fieldsOf t)):=by
 simp[agI,h]
mutual
theorem Bn{P:Program}:∀(d:Nat) (t:TypeId) (ks:List SK),flatK P d t=some ks→∀(D:Nat),d≤D→∀(x y:Value) (vs us:List Value),
  isVal P t x vs→isVal P t y us→cB ks vs=true→cB ks us=true→∀ w,(jz D t x y).run P w=.ok (dA vs us) w
 |0,_,_,hk=>by simp[flatK]at hk
 | d+1,t,ks,hk=>by
  intro D hD x y vs us u v h q w;obtain⟨D,rfl⟩:∃ I,D=I+1:=⟨D-1,by omega⟩
  unfold flatK at hk;cases hu:P.underlying t with
  |none=>rw[hu]at hk; cases hk
  | some J =>
   rw[hu]at hk;cases J with
   | struct B =>
    simp only[]at hk;split at hk
    ·cases hk
    rename_i M;simp only[isVal,hu]at u v;obtain⟨a,rfl,rfl⟩:=u;obtain⟨b,rfl,rfl⟩:=v;have N:P.fieldsOf t=B:=by simp[agI,hu]
    rw[run_equalIn_struct w D t a b (SM hu) (by simpa using M),N];have:=HX d B.toList 0 ks hk D (by omega) a b (by simpa using h) (by simpa using q) w;simpa using this
   | int k =>
    simp at hk;subst hk;simp only[isVal,hu]at u v;subst u; subst v;simp only[cB,fD]at h q;unfold kindOk at h q;split at h<;>split at q<;>simp_all[jz,dA,nD,Sem.bp hu]
   | string =>
    simp at hk;subst hk;simp only[isVal,hu]at u v;subst u; subst v;simp only[cB,fD]at h q;unfold kindOk at h q;split at h<;>split at q<;>simp_all[jz,dA,nD,Sem.bp hu,beq_toListBytes]
   | bool =>
    simp at hk;subst hk;simp only[isVal,hu]at u v;subst u; subst v;simp only[cB,fD]at h q;unfold kindOk at h q;split at h<;>split at q<;>simp_all[jz,dA,nD,Sem.bp hu]
   |_=>simp at hk
theorem HX{P:Program}:∀(d:Nat) (v:List Field) (off:Nat) (ks:List SK),tL P d v off=some ks→∀(D:Nat),d≤D→∀(xs h:Array Value),
  cB ks (xs.toList.drop off)=true→cB ks (h.toList.drop off)=true→∀ w,(RS D xs h v).run P w=.ok (dA (xs.toList.drop off) (h.toList.drop off)) w
 | d,[],off,ks,hk=>by
  intro D hD xs h M N w;simp[tL,qP]at hk;subst hk;have h1:=qQ M;have h2:=qQ N;have k:xs.toList.drop off=[]:=AK (by rw[←h1]; rfl);have B:h.toList.drop off=[]:=AK (by rw[←h2]; rfl);rw[k,B];simp[RS,dA]
 | d,f::v,off,ks,hk=>by
  intro D hD xs h M N w;unfold tL qP at hk;split at hk
  ·cases hk
  rename_i U;split at hk
  case h_2=>cases hk
  rename_i k1 n ag k B;split at hk
  case isFalse=>cases hk
  rename_i O;split at hk
  case h_2=>cases hk
  rename_i l e3;cases hk;have W:f.name ≠ "_" := fun e=>U (.inl e);have hoff:f.offset=off:=by
   by_cases e:f.offset=off
   ·exact e
   ·exact(U (.inr e)).elim
  obtain⟨q,I⟩:=xd M;obtain⟨u,J⟩:=xd N;rw[←O]at q I u J;obtain⟨x,px,vx⟩:=Bm B k O xs off q w;obtain⟨y,py,vy⟩:=Bm B k O h off u w;have he:=Bn d f.type k1 k D hD x y _ _ vx vy q u w;have hrest:=HX d v (off+n) l e3 D hD xs h (by rw[oS]at I; exact I) (by rw[oS]at J; exact J) w;have V:dA (xs.toList.drop off) (h.toList.drop off) =
    (dA ((xs.toList.drop off).take n) ((h.toList.drop off).take n)&&dA (xs.toList.drop (off+n)) (h.toList.drop (off+n))):=by
   rw[←HW _ _ _ _ (by rw[←qQ q,←qQ u]),←oS,←oS,tf,tf]
  simp only[RS,W,ne_eq,not_false_eq_true,if_true,bW,hoff,px,py,bX,he,V];cases dA ((xs.toList.drop off).take n) ((h.toList.drop off).take n)<;>simp[hrest]
end
def mw:List AV→Option (List Value)
 | []=>some []
 | .lit v::as=>match mw as with
  |some l=>some (v::l)
  |none=>none
 |_=>none
theorem xf{E:Env}:∀{as:List AV} {l vs:List Value},mw as=some l→af E as vs→vs=l
 | [],l,[],h,_=>by simp[mw]at h; exact h.symm
 | [],_,_::_,_,hr=>by simp[af]at hr
 |_::_,_,[],_,hr=>by simp[af]at hr
 | a::as,l,v::vs,h,hr=>by
  simp only[af]at hr;cases a<;>simp only[mw]at h<;>try cases h
  split at h
  ·rename_i u l' d
   cases h;have:=xf d hr.2;have h1:=hr.1;simp only[rel]at h1;rw[h1,this]
  ·cases h
def my:Option TypeDesc→Bool
 |some (.struct _)=>true
 |_=>false
def jE(op:BinOp)(b:Bool):Option AV :=
 match op with
 |.eql=>some (.bool b)
 |.neq=>some (.bool !b)
 |_=>none
def mz:Nat:=6
def Bo(P:Program)(op:BinOp)(t:TypeId)(d:Bool)(a b:Value):Option AV :=
 match a,b with
 | .bool a,.bool b=>match P.underlying t with
  |some .bool=>jE op (a==b)
  |_=>none
 | .slice none 0 0,.slice none 0 0=>match P.underlying t with
  |some (.slice _)=>jE op true
  |_=>none
 |.nilIface,.nilIface=>if d then (match P.underlying t with|some (.interface _)=>jE op true|_=>none) else none
 |_,_=>none
def gA(P:Program)(op:BinOp)(t:TypeId)(d:Bool)(x y:AV):Option AV :=
 match x,y with
 | .lit a,.lit b=>match ic op a b with
  |some v=>some (.lit v)
  |none=>Bo P op t d a b
 | .agg as,.agg h=>match flatK P mz t,mw as,mw h with
  |some ks,some l,some m=>if P.eqGuardType P.depth t=false∧cB ks l=true∧cB ks m=true∧my (P.underlying t)=true then jE op (dA l m) else none
  |_,_,_=>none
 | .emptyS n,.lit (.slice none 0 0)=>match P.underlying t with
  |some (.slice _)=>jE op n
  |_=>none
 | .listF _ rows,.lit (.slice none 0 0)=>match P.underlying t with
  |some (.slice _)=>if 0<rows.length then jE op false else none
  |_=>none
 | .vec _ _ _ _ m,.lit (.slice none 0 0)=>match P.underlying t with
  |some (.slice _)=>if 0<m then jE op false else none
  |_=>none
 | .ifc,.lit .nilIface | .lit .nilIface,.ifc=>match P.underlying t with
  |some (.interface _)=>jE op false
  |_=>none
 | .sub _ _ j,.lit (.map none)=>match P.underlying t with
  |some (.map _ _)=>jE op j.isNone
  |_=>none
 |_,_=>none
theorem HY{P:Program}{t:Nat}{k:IntKind}(h:b_ P t=.int k):P.underlying t=some (.int k):=by
 unfold b_ at h;split at h
 ·split at h<;>cases h
 ·split at h<;>cases h
 ·cases h
 ·rename_i h1; cases h; exact h1
 ·cases h
 ·cases h
theorem kR{P:Program}{op:BinOp}{b:Bool}{v:AV}{t:TypeId}{x y:Operand}{c d:Value}{w:World}(h:jE op b=some v)
  (hg:(eqGuard op t x y c d).run P w=.ok () w) (he:(wF t c d).run P w=.ok b w)
  (hb:∀ op,op=.eql∨op=.neq→(binOp op t c d)=(match op with | .eql=>(do pure (.bool (← wF t c d)))|_=>(do pure (.bool (!(← wF t c d)))))) :
  ∃ u,(do eqGuard op t x y c d; binOp op t c d:Sem Value).run P w=.ok u w∧∀ E,rel E v u:=by
 unfold jE at h;split at h
 ·cases h
  refine⟨.bool b,?_,fun E=>by simp[rel]⟩;simp only[bW,hg,bX,hb .eql (.inl rfl)];simp[he]
 ·cases h
  refine⟨.bool !b,?_,fun E=>by simp[rel]⟩;simp only[bW,hg,bX,hb .neq (.inr rfl)];simp[he]
 ·cases h
end Go.AL

namespace Go.AL
open Go
variable [Dr]
theorem lD{P:Program}{t:TypeId}{c d:Value}{b:Bool}{w:World} (h:∀ n,(jz (n+1) t c d).run P w=.ok b w) :
  (wF t c d).run P w=.ok b w:=h 9999
theorem SN{P:Program}{op:BinOp}{t:TypeId}{x y:Operand} (h:((x matches .const _)||(y matches .const _))=true) (w:World) :
  (eqGuard op t x y .nilIface .nilIface).run P w=.ok () w:=by
 cases x<;>cases y<;>first
  |(cases op<;>rfl)
  |(simp at h; done)
theorem SO{P:Program}{E:Env}{op:BinOp}{t:TypeId}{x y:Operand}{p q:Value}{v:AV}{B:Bool}
  (I:B=true→((x matches .const _)||(y matches .const _))=true) (h:Bo P op t B p q=some v) :
  ∃ u,(do eqGuard op t x y p q; binOp op t p q:Sem Value).run P E.w=.ok u E.w∧rel E v u:=by
 unfold Bo at h;split at h
 ·rename_i a b
  split at h
  ·rename_i hu
   obtain⟨u,h1,k⟩:=kR (P:=P) (t:=t) (x:=x) (y:=y) (c:=.bool a) (d:=.bool b) (w:=E.w) h (by cases op<;>simp[eqGuard]<;>rfl)
    (lD fun n=>by simp[jz,Sem.bp hu]) (by rintro op (rfl|rfl)<;>rfl)
   exact⟨u,h1,k E⟩
  ·cases h
 ·split at h
  ·rename_i hu
   obtain⟨u,h1,k⟩:=kR (P:=P) (t:=t) (x:=x) (y:=y) (c:=.slice none 0 0) (d:=.slice none 0 0) (w:=E.w) h (by cases op<;>simp[eqGuard]<;>rfl)
    (lD fun n=>by simp[jz,Sem.bp hu]) (by rintro op (rfl|rfl)<;>rfl)
   exact⟨u,h1,k E⟩
  ·cases h
 ·split at h
  ·rename_i J
   split at h
   ·rename_i ms hu
    obtain⟨u,h1,k⟩:=kR (P:=P) (t:=t) (x:=x) (y:=y) (c:=.nilIface) (d:=.nilIface) (w:=E.w) h
     (SN (I J) _)
     (lD fun n=>by simp[jz,Sem.bp hu]) (by rintro op (rfl|rfl)<;>rfl)
    exact⟨u,h1,k E⟩
   ·cases h
  ·cases h
 ·cases h
theorem SP{P:Program}{E:Env}{op:BinOp}{t:TypeId}{x y:Operand}{a b v:AV}{c d:Value}
  {W:Bool} (hkk:W=true→((x matches .const _)||(y matches .const _))=true) (h:gA P op t W a b=some v) (k:rel E a c) (B:rel E b d) :
  ∃ u,(do eqGuard op t x y c d; binOp op t c d:Sem Value).run P E.w=.ok u E.w∧rel E v u:=by
 unfold gA at h;split at h
 ·rename_i p q
  simp only[rel]at k B;rw[k,B];clear k B c d;split at h
  ·rename_i u hu
   cases h;refine⟨u,?_,by simp[rel]⟩;simp only[bW];rw[SD op t x y p q (fun _ _=>trivial) (by simp[hu])];simp only[bX];exact SC op t p q u hu E.w
  ·exact SO hkk h
 ·rename_i as bs
  split at h
  case h_2=>cases h
  rename_i ks l m h1 I h3;by_cases N:P.eqGuardType P.depth t=false∧cB ks l=true∧cB ks m=true∧my (P.underlying t)=true
  case neg=>rw[if_neg N]at h; cases h
  rw[if_pos N]at h;obtain⟨g1,g2,g3,g4⟩:=N;simp only[rel]at k B;obtain⟨xs,rfl,_,k⟩:=k;obtain⟨J,rfl,_,B⟩:=B;have ex:=xf I k;have ey:=xf h3 B;unfold my at g4;split at g4
  case h_2=>cases g4
  rename_i fs hu;have:=Bn mz t ks h1 10000 (by decide) (.agg xs) (.agg J) l m (by simp only[isVal,hu]; exact⟨xs,rfl,ex⟩)
   (by simp only[isVal,hu]; exact⟨J,rfl,ey⟩) g2 g3 E.w
  obtain⟨u,q1,q2⟩:=kR (P:=P) (t:=t) (x:=x) (y:=y) (c:=.agg xs) (d:=.agg J) (w:=E.w) h (run_eqGuard_agg E.w op t x y xs J g1)
   (by simpa[wF,Op.maxDepth]using this) (by rintro op (rfl|rfl)<;>rfl)
  exact⟨u,q1,q2 E⟩
 ·simp only [rel] at k B
  subst B;obtain⟨b,cap,rfl,hb⟩:=k;split at h
  ·rename_i el hu
   obtain⟨u,h1,I⟩:=kR (P:=P) (t:=t) (x:=x) (y:=y) (c:=.slice b 0 cap) (d:=.slice none 0 0) (w:=E.w) h (by cases op<;>simp[eqGuard]<;>rfl)
    (lD fun n=>by cases b<;>simp[jz,Sem.bp hu]<;>simpa using hb.symm) (by rintro op (rfl|rfl)<;>rfl)
   exact⟨u,h1,I E⟩
  ·cases h
 ·rename_i ks rows
  simp only[rel,dV,G.rows]at k B;subst B;obtain⟨b,cap,rfl,_,hb⟩:=k;split at h
  ·rename_i el hu
   split at h
   ·rename_i M
    rcases hb with rfl|⟨O,o',rfl,_⟩
    ·simp at M
    obtain⟨u,h1,I⟩:=kR (P:=P) (t:=t) (x:=x) (y:=y) (c:=.slice (some ⟨O,o',none⟩) rows.length cap) (d:=.slice none 0 0) (w:=E.w) h (by cases op<;>simp[eqGuard]<;>rfl)
     (lD fun n=>by simp[jz,Sem.bp hu]) (by rintro op (rfl|rfl)<;>rfl)
    exact⟨u,h1,I E⟩
   ·cases h
  ·cases h
 ·rename_i m
  simp only[rel]at k B;subst B;obtain⟨⟨b,cap,rfl,_,hb⟩,_⟩:=k;split at h
  ·rename_i el hu
   split at h
   ·rename_i M
    obtain⟨O,o',rfl⟩:=hb M;obtain⟨u,h1,I⟩:=kR (P:=P) (t:=t) (x:=x) (y:=y) (c:=.slice (some ⟨O,o',none⟩) m cap) (d:=.slice none 0 0) (w:=E.w) h (by cases op<;>simp[eqGuard]<;>rfl)
     (lD fun n=>by simp[jz,Sem.bp hu]) (by rintro op (rfl|rfl)<;>rfl)
    exact⟨u,h1,I E⟩
   ·cases h
  ·cases h
 ·simp only [rel] at k B
  subst B;obtain⟨U,V,rfl⟩:=k;split at h
  ·rename_i ms hu
   obtain⟨u,h1,I⟩:=kR (P:=P) (t:=t) (x:=x) (y:=y) (c:=.iface U V) (d:=.nilIface) (w:=E.w) h (by cases op<;>simp[eqGuard]<;>rfl)
    (lD fun n=>by simp[jz,Sem.bp hu]) (by rintro op (rfl|rfl)<;>rfl)
   exact⟨u,h1,I E⟩
  ·cases h
 ·simp only [rel] at k B
  subst k;obtain⟨U,V,rfl⟩:=B;split at h
  ·rename_i ms hu
   obtain⟨u,h1,I⟩:=kR (P:=P) (t:=t) (x:=x) (y:=y) (c:=.nilIface) (d:=.iface U V) (w:=E.w) h (by cases op<;>simp[eqGuard]<;>rfl)
    (lD fun n=>by simp[jz,Sem.bp hu]) (by rintro op (rfl|rfl)<;>rfl)
   exact⟨u,h1,I E⟩
  ·cases h
 ·rename_i id l jj
  simp only[rel]at k B;subst B;split at h
  ·rename_i kt el hu
   rcases k with⟨rfl,rfl⟩|⟨i,rfl,⟨b,rfl⟩,_⟩
   ·obtain ⟨u,h1,I⟩:=kR (P:=P) (t:=t) (x:=x) (y:=y) (c:=.map none) (d:=.map none) (w:=E.w) h (by cases op<;>simp [eqGuard]<;>rfl)
     (lD fun n=>by simp[jz,Sem.bp hu]) (by rintro op (rfl|rfl)<;>rfl)
    exact⟨u,h1,I E⟩
   ·obtain ⟨u,h1,I⟩:=kR (P:=P) (t:=t) (x:=x) (y:=y) (c:=.map (some b)) (d:=.map none) (w:=E.w) h (by cases op<;>simp [eqGuard]<;>rfl)
     (lD fun n=>by simp[jz,Sem.bp hu]) (by rintro op (rfl|rfl)<;>rfl)
    exact⟨u,h1,I E⟩
  ·cases h
 ·cases h
def qR(op:UnOp)(x:AV):Option AV :=
 match op,x with
 |.not,.lit (.bool b)=>some (.bool !b)
 |.neg,.lit (.int k n)=>some (.lit (.int k (k.wrap (0-n))))
 |_,_=>none
theorem SQ{P:Program}{E:Env}{op:UnOp}{x v:AV}{c:Value}(h:qR op x=some v)(d:rel E x c) :
  ∃ u,(Op.unary op c).run P E.w=.ok u E.w∧rel E v u:=by
 unfold qR at h;split at h
 ·cases h
  simp only[rel]at d;subst d;exact⟨_,rfl,by simp[rel]⟩
 ·cases h
  simp only[rel]at d;subst d;exact⟨_,rfl,by simp[rel]⟩
 ·cases h
def qS(P:Program)(s d:TypeId)(x:AV):Option AV :=
 match P.underlying s,b_ P d,x with
 |some _,.int k,.lit (.int _ n)=>some (.lit (.int k (k.wrap n)))
 |some _,.str,.lit (.string b)=>some (.str b)
 |some _,.str,.lit (.int _ n)=>some (.str (Utf8.encode n))
 |_,_,_=>none
theorem SR{P:Program}{E:Env}{s d:TypeId}{x v:AV}{c:Value}(h:qS P s d x=some v)(q:rel E x c) :
  ∃ u,(convert s d c).run P E.w=.ok u E.w∧rel E v u:=by
 unfold qS at h;split at h
 ·rename_i k n y B
  cases h;simp only[rel]at q;subst q;refine⟨_,?_,by simp only[rel]; rfl⟩;simp[convert,Sem.bp y,Sem.bp (HY B),Conv.intToInt]
 ·rename_i b y B
  cases h;simp only[rel]at q;subst q;refine⟨_,?_,by simp only[rel]; rfl⟩;simp only[convert,bW,Sem.bp y,Sem.bp (pe B),bX];rfl
 ·rename_i k n y B
  cases h;simp only[rel]at q;subst q;refine⟨_,?_,by simp only[rel]; rfl⟩;simp only[convert,bW,Sem.bp y,Sem.bp (pe B),bX];rfl
 ·cases h
def nE(k:SK)(x i:AV):Option AV :=
 match i with
 | .lit (.int _ n) =>
  match k,x with
  |.str,.lit (.string s)=>if 0≤n∧n<s.size then (match s[n.toNat]? with|some b=>some (.lit (.int .u8 b.toNat))|none=>none) else none
  |.array m _ sz agg,.agg cells=>if 0≤n∧n<m then gy agg sz (cells.drop (n.toNat*sz)) else none
  |_,_=>none
 |_=>none
theorem Bp{E:Env}:∀{as:List AV} {vs:List Value} (n:Nat),af E as vs→af E (as.drop n) (vs.drop n)
 |_,_,0,h=>by simpa using h
 | [],[],n+1,_=>by simp[af]
 | [],_::_,_,h=>by simp[af]at h
 |_::_,[],_,h=>by simp[af]at h
 |a::as,v::vs,n+1,h=>by simp only[af]at h; simpa using Bp n h.2
theorem Bq{E:Env}:∀{as:List AV} {vs:List Value} (n:Nat),af E as vs→af E (as.take n) (vs.take n)
 |_,_,0,_=>by simp[af]
 | [],[],n+1,_=>by simp[af]
 | [],_::_,_,h=>by simp[af]at h
 |_::_,[],_,h=>by simp[af]at h
 |a::as,v::vs,n+1,h=>by simp only[af]at h; simp only[AH,af]; exact⟨h.1,Bq n h.2⟩
theorem j7{E:Env}:∀{as d:List AV} {vs us:List Value},af E as vs→af E d us→af E (as++d) (vs++us)
 | [],_,[],_,_,h=>by simpa using h
 | [],_,_::_,_,h,_=>by simp[af]at h
 |_::_,_,[],_,h,_=>by simp[af]at h
 |a::as,d,v::vs,us,h,h'=>by simp only[af]at h; simp only[kG,af]; exact⟨h.1,j7 h.2 h'⟩
theorem mA{E:Env}{as:List AV}{vs:List Value}(h:af E as vs){i:Nat}{a:AV}(hi:as[i]? = some a):∃ v,vs[i]? = some v∧rel E a v:=by
 obtain⟨h1,q⟩:=mv.1 h;have k:=aI hi;have d:i<vs.length:=h1▸k;exact⟨vs[i],bt d,q i a _ hi (bt d)⟩
theorem HZ{P:Program}{E:Env}{t:TypeId}{n:Nat}{agg:Bool}{cells:List AV}{cs:Array Value}{off:Nat}{v:AV}(y:eT P t=some (n,agg))
  (h:gy agg n (cells.drop off)=some v) (hr:af E cells cs.toList) (h1:∀ x∈cs.toList,dv x=true) :
  ∃ u,(part t cs off).run P E.w=.ok u E.w∧rel E v u:=by
 obtain⟨i,d,hi,k,B,ha⟩:=lB y;unfold gy at h;cases agg with
 | true =>
  simp only[if_true]at h;split at h
  ·cases h
   refine⟨.agg (cs.extract off (off+n)),?_,?_⟩
   ·simp[part,Sem.nB k,ha,Sem.run_sizeOf hi,B]
   ·simp only [rel]
    have e:(cs.extract off (off+n)).toList=(cs.toList.drop off).take n:=by simp
    refine⟨_,rfl,?_,?_⟩
    ·rw[e]; exact fun x I=>h1 x (wD (wE I))
    ·rw[e]; exact Bq n (Bp off hr)
  ·cases h
 | false =>
  simp only[kF,if_false]at h;rw[oR]at h;obtain⟨u,g1,g2⟩:=mA hr h;refine⟨u,?_,g2⟩;have q:cs[off]? = some u:=by simpa using g1
  simp[part,Sem.nB k,ha,q]
theorem SS{P:Program}{E:Env}{t:TypeId}{x i v:AV}{c d:Value}(h:nE (b_ P t) x i=some v)(q:rel E x c)(hi:rel E i d) :
  ∃ u,(RT t c d).run P E.w=.ok u E.w∧rel E v u:=by
 unfold nE at h;split at h
 case h_2=>cases h
 rename_i k n;simp only[rel]at hi;subst hi;split at h
 ·rename_i s hk
  have hu:=pe hk;simp only[rel]at q;subst q;split at h
  case isFalse=>cases h
  rename_i y;split at h
  case h_2=>cases h
  rename_i b hb;cases h;refine⟨.int .u8 b.toNat,?_,by simp[rel]⟩;simp[RT,asIntOf,Sem.bp hu,y.1,hb]
 ·rename_i m e sz agg cells hk
  obtain⟨hu,B⟩:=xa hk;obtain⟨ii,N,g1,g2,g3,g4⟩:=lB B;split at h
  case isFalse=>cases h
  rename_i y;simp only[rel]at q;obtain⟨cs,rfl,h1,I⟩:=q;obtain⟨u,J,M⟩:=HZ B h I h1;refine⟨u,?_,M⟩;simp[RT,asIntOf,Sem.bp hu,y.1,y.2,Sem.run_sizeOf g1,g3,J]
 ·cases h
def Br(k:FK)(x:AV):Option AV :=
 match x with
 |.agg cells=>gy k.agg k.size (cells.drop k.off)
 |_=>none
theorem SU{P:Program}{E:Env}{t:TypeId}{f:Nat}{k:FK}{x v:AV}{c:Value}(hk:qJ P t f=some k)(h:Br k x=some v)(d:rel E x c) :
  ∃ u,(agJ t c f).run P E.w=.ok u E.w∧rel E v u:=by
 obtain⟨M,fd,h1,q,y,B⟩:=HR hk;unfold Br at h;split at h
 ·simp only [rel] at d
  obtain⟨cs,rfl,g1,g2⟩:=d;obtain⟨u,I,J⟩:=HZ B h g2 g1;refine⟨u,?_,J⟩;simp[agJ,Sem.bp h1,q,asAgg,y,I]
 ·cases h
end Go.AL

namespace Go.AL
open Go
variable [Dr]
def pg:AV→Option (List AV)
 |.undef | .tuple _=>none
 |.agg cs=>some cs
 |.lit v=>if dv v then some [.lit v] else none
 |x=>some [x]
theorem Bs{E:Env}{x:AV}{cs:List AV}{c:Value}(h:pg x=some cs)(hr:rel E x c) :
  af E cs c.cells.toList∧∀ y∈c.cells.toList,dv y=true:=by
 unfold pg at h;split at h
 ·cases h
 ·cases h
 ·cases h
  simp only[rel]at hr;obtain⟨a,rfl,h1,d⟩:=hr;exact⟨d,h1⟩
 ·rename_i v
  split at h
  ·rename_i h1
   cases h;have B:=hr;simp only[rel]at hr;subst hr;cases c<;>simp[dv]at h1<;>exact⟨by simp[Hf,af,rel],by simp[Hf,dv]⟩
  ·cases h
 ·rename_i h1 d q u
  cases h;have k:dv c=true∧c.cells=#[c]:=by
   cases x<;>simp only[rel]at hr
   case sub=>rcases hr with⟨_,rfl⟩|⟨_,_,⟨b,rfl⟩,_⟩<;>exact⟨rfl,rfl⟩
   case undef=>exact(h1 rfl).elim
   case lit v=>exact(u v rfl).elim
   case nils=>obtain⟨b,rfl⟩:=hr; exact⟨rfl,rfl⟩
   case list=>obtain⟨_,b,cap,rfl,_⟩:=hr; exact⟨rfl,rfl⟩
   case listF=>simp only[dV]at hr; obtain⟨b,cap,rfl,_⟩:=hr; exact⟨rfl,rfl⟩
   case agg as=>exact(q as rfl).elim
   case tuple as=>exact(d as rfl).elim
   case cptr=>obtain⟨_,b,o,rfl,_⟩:=hr; exact⟨rfl,rfl⟩
   case ptr=>obtain⟨⟨b,o,rfl⟩,_⟩:=hr; exact⟨rfl,rfl⟩
   case vec=>obtain⟨⟨b,o,rfl,_⟩,_⟩:=hr; exact⟨rfl,rfl⟩
   case map=>obtain⟨⟨b,rfl⟩,_⟩:=hr; exact⟨rfl,rfl⟩
   case clo=>obtain⟨cs,rfl,_⟩:=hr; exact⟨rfl,rfl⟩
   case ifc=>obtain⟨t,v,rfl⟩:=hr; exact⟨rfl,rfl⟩
   case emptyS=>obtain⟨b,cap,rfl,_⟩:=hr; exact⟨rfl,rfl⟩
  rw[k.2];exact⟨by simp only[af]; exact⟨hr,trivial⟩,by simpa using k.1⟩
def ph(place:Nat→Option (Nat × Nat))(cells:List AV):List (Nat × AV)→Option (List AV)
 | []=>some cells
 | (i,v)::rest=>match place i,pg v with
  |some (off,size),some cs=>if cs.length=size∧off+cs.length≤cells.length then ph place (cells.take off++cs++cells.drop (off+cs.length)) rest else none
  |_,_=>none
theorem H5(cs:Array Value):∀(l:List Value) (off k:Nat) (cells:Array Value),off+k+l.length≤cells.size →
  (l.zipIdx k).foldl (fun cs (p : Value × Nat) => cs.setIfInBounds (off + p.2) p.1) cells =
   (cells.toList.take (off+k)++l++cells.toList.drop (off+k+l.length)).toArray
 | [],off,k,cells,_=>by simp
 | v::l,off,k,cells,h=>by
  simp only[List.zipIdx_cons,List.foldl_cons];have h':off+(k+1)+l.length≤(cells.setIfInBounds (off+k) v).size:=by simp at h⊢; omega
  rw[H5 cs l off (k+1) _ h'];congr 1;apply jU;intro i;simp only[Array.toList_setIfInBounds,fk,jA,nk,nf,oR,dU,dY,cr,ls];simp at h;by_cases c1:i<off+k
  ·have d : i < min (off + k) cells.size := by omega
   have q:i<min (off+(k+1)) cells.size:=by omega
   have I:¬ off+k=i:=by omega
   have y:i<off+(k+1):=by omega
   have u:i<min (off+k) cells.size+(l.length+1):=by omega
   have B:i<min (off+(k+1)) cells.size+l.length:=by omega
   simp[d,q,I,y,u,B,c1]
  ·by_cases c2 : i = off + k
   ·subst c2
    have d:¬ off+k<min (off+k) cells.size:=by omega
    have q:off+k<min (off+(k+1)) cells.size:=by omega
    have y:off+k<off+(k+1):=by omega
    have u:off+k<min (off+k) cells.size+(l.length+1):=by omega
    have B:off+k<min (off+(k+1)) cells.size+l.length:=by omega
    have J:off+k-min (off+k) cells.size=0:=by omega
    have M:off+k<cells.size:=by omega
    simp[d,q,y,u,B,J,M]
   ·by_cases N : i < off + k + 1 + l.length
    ·have d : ¬ i < min (off + k) cells.size := by omega
     have q:¬ i<min (off+(k+1)) cells.size:=by omega
     have u:i<min (off+k) cells.size+(l.length+1):=by omega
     have B:i<min (off+(k+1)) cells.size+l.length:=by omega
     have J:i-min (off+k) cells.size=(i-min (off+(k+1)) cells.size)+1:=by omega
     simp[d,q,u,B,J]
    ·have d : ¬ i < min (off + k) cells.size + (l.length + 1) := by omega
     have q:¬ i<min (off+(k+1)) cells.size+l.length:=by omega
     have I:off+k+(l.length+1)+(i-(min (off+k) cells.size+(l.length+1)))=i:=by omega
     have y:off+(k+1)+l.length+(i-(min (off+(k+1)) cells.size+l.length))=i:=by omega
     have u:¬ off+k=i:=by omega
     simp[d,q,I,y,u]
theorem tM{E:Env}{place:Nat→Option (Nat × Nat)}:∀{parts:List (Nat × AV)} {cparts:List (Nat × Value)} {cells:List AV} {cs:Array Value} {out:List AV},
  ph place cells parts=some out→af E cells cs.toList→(∀ x∈cs.toList,dv x=true) →
  parts.map (·.1)=cparts.map (·.1)→af E (parts.map (·.2)) (cparts.map (·.2)) →
  ∃ o,agK place cs cparts=some o∧af E out o.toList∧∀ x∈o.toList,dv x=true
 | [],[],cells,cs,out,h,hr,h1,_,_=>by
  simp only[ph,aQ]at h;subst h;exact⟨cs,rfl,hr,h1⟩
 | [],_::_,_,_,_,_,_,_,hm,_=>by simp at hm
 |_::_,[],_,_,_,_,_,_,hm,_=>by simp at hm
 | (i,v)::ps,(j,c)::N,cells,cs,out,h,hr,h1,hm,k=>by
  simp only[dg,AM]at hm;obtain⟨rfl,hm⟩:=hm;simp only[dg,af]at k;simp only[ph]at h;split at h
  case h_2=>cases h
  rename_i off size us B I;split at h
  case isFalse=>cases h
  rename_i J;obtain⟨g1,g2⟩:=Bs I k.1;have u:=gb g1;have y:=gb hr;have O:us.length=c.cells.size:=by simpa using u
  have M:cells.length=cs.size:=by simpa using y
  have q:(c.cells.zipIdx.foldl (fun cs (x:Value × Nat)=>cs.setIfInBounds (off+x.2) x.1) cs) =
    (cs.toList.take off++c.cells.toList++cs.toList.drop (off+c.cells.toList.length)).toArray:=by
   rw[←Array.foldl_toList,Array.toList_zipIdx];have:=H5 cs c.cells.toList off 0 cs (by simp; omega);simpa using this
  simp only[agK,B];rw[if_neg (by simp; omega)];refine tM (cells:=cells.take off++us++cells.drop (off+us.length)) h ?_ ?_ hm k.2
  ·rw [q]
   simp only[];refine j7 (j7 (Bq off hr) g1) ?_;rw[u];exact Bp _ hr
  ·rw [q]
   intro x d;simp only[cZ]at d;rcases d with(d|d)|d
   ·exact h1 x (wE d)
   ·exact g2 x d
   ·exact h1 x (wD d)
def H6(P:Program)(t:TypeId):Option (List (Nat × Nat)) :=
 match P.underlying t with
 |some (.struct d)=>d.toList.mapM fun fd=>(eT P fd.type).map fun p=>(fd.offset,p.1)
 |_=>none
theorem lE{P:Program}{t:TypeId}{z:List Value}(h:d_ P t=some z) :
  ∃ i v,P.info? t=some i∧i.zero=some v∧v.cells.toList=z∧∀ x∈z,dv x=true:=by
 unfold d_ at h;split at h
 ·rename_i i hi
  split at h
  ·rename_i v d
   split at h
   ·rename_i k
    cases h;exact⟨i,v,hi,d,rfl,dq.1 k⟩
   ·cases h
  ·cases h
 ·cases h
theorem lF{P:Program}{t:TypeId}{i:TypeInfo}{v:Value}(hi:P.info? t=some i)(d:i.zero=some v)(w:World):(zeroValue t).run P w=.ok v w:=by
 simp[zeroValue,typeInfo,hi,d]
theorem H7{P:Program}{w:World}:∀(k:List Field) (pl:List (Nat × Nat)),(k.mapM fun fd=>(eT P fd.type).map fun p=>(fd.offset,p.1))=some pl →
  (k.mapM fun(f:Field)=>(do pure (f.offset,←sizeOf f.type):Sem (Nat × Nat))).run P w=.ok pl w
 | [],pl,h=>by simp at h; subst h; simp
 | f::k,pl,h=>by
  simp only[RU,Option.bind_eq_bind,Option.pure_def,Option.bind_eq_some_iff,dN]at h;obtain⟨x,⟨⟨n,a⟩,h1,rfl⟩,l,q,u⟩:=h;cases u;obtain⟨i,d,g1,g2,g3,g4⟩:=lB h1;have:=H7 (w:=w) k l q;simp only[RU,bW,Sem.run_sizeOf g1,bX,fl,g3];rw[this];rfl
def Bt(P:Program)(t:TypeId)(parts:List (Nat × AV)):Option AV :=
 match d_ P t with
 | some z=>match H6 P t with
  |some pl=>(ph (fun i=>pl[i]?) (z.map .lit) parts).map .agg
  | none=>match b_ P t with
   |.array _ _ sz _=>(ph (fun i=>some (i*sz,sz)) (z.map .lit) parts).map .agg
   |_=>none
 |none=>none
theorem SV{P:Program}{E:Env}{t:TypeId}{parts:List (Nat × AV)}{cparts:List (Nat × Value)}{v:AV}(h:Bt P t parts=some v)
  (hm:parts.map (·.1)=cparts.map (·.1)) (k:af E (parts.map (·.2)) (cparts.map (·.2))) :
  ∃ u,(RV t cparts.toArray).run P E.w=.ok u E.w∧rel E v u:=by
 unfold Bt at h;split at h
 case h_2=>cases h
 rename_i z M;obtain⟨i,q,y,z2,z3,z4⟩:=lE M;split at h
 ·rename_i pl d
  unfold H6 at d;split at d
  case h_2=>cases d
  rename_i B hu;simp only[dN]at h;obtain⟨out,ho,rfl⟩:=h;obtain⟨o,g1,g2,g3⟩:=tM (cs:=q.cells) ho (by rw[z3]; exact nA z) (by rw[z3]; exact z4) hm k;refine⟨.agg o,?_,by simp only[rel]; exact⟨o,rfl,g3,g2⟩⟩;have I:(B.mapM fun(f:Field)=>(do pure (f.offset,←sizeOf f.type):Sem (Nat × Nat))).run P E.w=.ok pl.toArray E.w:=by
   have:=H7 (w:=E.w) B.toList pl d;rw[Array.mapM_eq_mapM_toList,Sem.run_map,this];rfl
  simp only[RV,bW,lF y z2,bX,Sem.bp hu];rw[I];simp only[bX];have e:(fun(x:Nat)=>(pl.toArray)[x]?)=fun(i:Nat)=>pl[i]? := by funext i; simp
  rw[e,g1];rfl
 ·split at h
  case h_2=>cases h
  rename_i n e sz U hk;obtain⟨hu,J⟩:=xa hk;obtain⟨V,W,N,q2,O,q4⟩:=lB J;simp only[dN]at h;obtain⟨out,ho,rfl⟩:=h;obtain⟨o,g1,g2,g3⟩:=tM (cs:=q.cells) ho (by rw[z3]; exact nA z) (by rw[z3]; exact z4) hm k;refine⟨.agg o,?_,by simp only[rel]; exact⟨o,rfl,g3,g2⟩⟩;simp only[RV,bW,lF y z2,bX,Sem.bp hu,Sem.run_sizeOf N,O,g1];rfl
def chunk(sz:Nat):Nat→List AV→List (List AV)
 |0,_=>[]
 |n+1,l=>l.take sz::chunk sz n (l.drop sz)
theorem tN(sz:Nat):∀(n:Nat) (l:List AV),(chunk sz n l).length=n
 |0,_=>rfl
 |n+1,l=>by simp[chunk,tN sz n]
theorem Bu(sz:Nat):∀(n:Nat) (l:List AV),AV.bl l=true→eS (chunk sz n l)
 |0,_,_=>by intro r hr; simp[chunk]at hr
 | n+1,l,h=>by
  intro r hr;simp only[chunk,bR]at hr;rcases hr with rfl|hr
  ·exact w_ _ _ h
  ·exact Bu sz n _ (tJ _ _ h) r hr
theorem H8{E:Env}(sz:Nat):∀(n:Nat) (l:List AV) (b o:Nat),l.length=n*sz→cn E l b o→cA E sz (chunk sz n l) b o
 |0,_,_,_,_,_=>by simp[chunk,cA]
 | n+1,l,b,o,d,h=>by
  simp only[chunk,cA];have:sz≤l.length:=by rw[d,fE]; omega
  refine⟨by simp; omega,w9 h sz,H8 sz n _ b (o+sz) (by simp[d,fE]) (qL h sz)⟩
theorem Bv{E:Env}{as:List AV}{cs:Array Value}{b:Nat}{el:TypeId}{fr:Nat × Nat}(hb:E.w.heap[b]? = some (.cells cs el fr))(hr:af E as cs.toList)
  (h1:∀ x∈cs.toList,dv x=true):cn E as b 0:=by
 rw[iM];intro i a hi;obtain⟨v,g1,g2⟩:=mA hr hi;refine⟨v,?_,h1 v (eB g1),g2⟩;simp only[cW,te,hb];simpa using g1
end Go.AL

namespace Go.AL
open Go
variable [Dr]
theorem xg(v:Value):v.oneCell'=dv v:=by cases v<;>rfl
theorem setRow_size(w:World)(g:Nat)(cs:Array Value):(w.setRow g cs).heap.size=w.heap.size:=by simp[agL]
theorem setRow_other(w:World)(g:Nat)(cs:Array Value)(x:Nat)(h:x≠g):(w.setRow g cs).heap[x]? = w.heap[x]? := by
 simp only[agL];rw[Array.getElem?_modify];split
 ·rename_i e; exact(h e.symm).elim
 ·rfl
structure Src (P:Program) (E:Env) (sz:Nat) (rows:List (List AV)) (xt:TypeId) (x:Value) (news:List Value):Prop where
 len:∀ w,(Hh x).run P w=.ok rows.length w
 cells:∀ w,(∀ b o,b<E.w.heap.size→w.cell? ⟨b,o,none⟩=E.w.cell? ⟨b,o,none⟩)→(h_ sz rows.length x).run P w=.ok news.toArray w
 rel:af E rows.flatten news
 one:∀ v∈news,dv v=true
 wide:∀ r∈rows,r.length=sz
 closed:eS rows
 kind:∃ d,P.underlying xt=some d∧∀ k,d≠.int k
theorem Src.length{P:Program}{E:Env}{sz:Nat}{rows:List (List AV)}{xt:TypeId}{x:Value}{news:List Value}(h:Src P E sz rows xt x news):news.length=rows.length*sz:=by
 rw[←gb h.rel];have:∀(l:List (List AV)),(∀ r∈l,r.length=sz)→l.flatten.length=l.length*sz:=by
  intro l d
  induction l with
  |nil=>simp
  |cons a l k=>simp[k (fun r hr=>d r (by simp[hr])),d a (by simp),fE,td]
 exact this rows h.wide
theorem xh{E:Env}{k:Nat}:∀{rows:List (List AV)} {b o:Nat},cA E k rows b o→cn E rows.flatten b o
 | [],_,_,_=>by simp[cn]
 | r::rows,b,o,h=>by
  simp only[cA]at h;obtain⟨h1,d,q⟩:=h;have u:=xh q;rw[iM]at *;intro i a hi;simp only[qs,fk]at hi;split at hi
  ·exact d i a hi
  ·rename_i y
   obtain⟨v,g1,g2,g3⟩:=u (i-r.length) a hi;refine⟨v,?_,g2,g3⟩;rw[←g1];congr 2;omega
theorem xk{E:Env}{k:Nat}:∀{rows:List (List AV)} {b o:Nat},(∀ r∈rows,r.length=k)→cn E rows.flatten b o→cA E k rows b o
 | [],_,_,_,_=>by simp[cA]
 | r::rows,b,o,hk,h=>by
  simp only[cA];have hr:=hk r (by simp);refine⟨hr,?_,?_⟩
  ·have := w9 h r.length
   simpa using this
  ·have := qL h r.length
   simp at this;rw[hr]at this;exact xk (fun x d=>hk x (by simp[d])) this
def kS(sz:Nat)(x:AV)(H:List ab):Option (List (List AV)) :=
 match x with
 |.nils | .lit (.slice none 0 0)=>some []
 |.emptyS _=>some []
 |.list w rows=>if w=sz then some rows else none
 |.listF ks rows=>if ks.length=sz then some (rows.map (aH ks)) else none
 | .vec w id ad off n=>match H[id]? with
  |some (.vec k v rows)=>if w=sz∧k=w∧v=ad∧off+n≤rows.length then some ((rows.drop off).take n) else none
  |_=>none
 |.lit (.string s)=>if sz=1 then some (s.data.toList.map fun b=>[.lit (.int .u8 b.toNat)]) else none
 |_=>none
theorem H9{α β:Type}(f:α→β):∀(l:List α),(l.map fun b=>[f b]).flatten=l.map f
 | []=>rfl
 |a::l=>by simp[H9 f l]
theorem xl{P:Program}{E:Env}{sz:Nat}{rows:List (List AV)}{b o cap:Nat}(hr:cA E sz rows b o)(hb:b<E.w.heap.size) :
  ∃ news,af E rows.flatten news∧(∀ v∈news,dv v=true) ∧
   ∀ w,(∀ b o,b<E.w.heap.size→w.cell? ⟨b,o,none⟩=E.w.cell? ⟨b,o,none⟩)→(h_ sz rows.length (.slice (some ⟨b,o,none⟩) rows.length cap)).run P w=.ok news.toArray w:=by
 obtain⟨vs,g1,g2,g3⟩:=tK (xh hr);refine⟨vs,g1,g2,fun w hw=>?_⟩;refine run_firstCells_some (P:=P) w sz rows.length ⟨b,o,none⟩ rows.length cap vs ?_ ?_
 ·rw [← gb g1]
  have:∀(l:List (List AV)) (o:Nat),cA E sz l b o→l.flatten.length=l.length*sz:=by
   intro l
   induction l with
   |nil=>intros; simp
   | cons a l d =>
    intro o h;simp only[cA]at h;simp[d _ h.2.2,h.1,fE,td]
  exact this rows o hr
 ·intro j v k
  rw[j5,hw b _ hb];exact g3 j v k
theorem SX{P:Program}{E:Env}(HE:ar E){sz:Nat}{x:AV}{c:Value}{rows:List (List AV)}{xt:TypeId}(h:kS sz x E.H=some rows)(hr:rel E x c)
  (hk:∃ d,P.underlying xt=some d∧∀ k,d≠.int k):∃ news,Src P E sz rows xt c news:=by
 unfold kS at h;split at h
 ·cases h
  simp only[rel]at hr;obtain⟨base,rfl⟩:=hr;refine⟨[],⟨fun w=>rfl,fun w _=>?_,by simp[af],by simp,by simp,(by intro r hr; cases hr),hk⟩⟩;cases base<;>simp[h_,loadCells,loadCellsFrom]
 ·cases h
  simp only[rel]at hr;subst hr;exact⟨[],⟨fun w=>rfl,fun w _=>by simp[h_],by simp[af],by simp,by simp,(by intro r hr; cases hr),hk⟩⟩
 ·cases h
  simp only[rel]at hr;obtain⟨base,cap,rfl,_⟩:=hr;refine⟨[],⟨fun w=>rfl,fun w _=>?_,by simp[af],by simp,by simp,(by intro r hr; cases hr),hk⟩⟩;cases base<;>simp[h_,loadCells,loadCellsFrom]
 ·rename_i w rows'
  split at h
  case isFalse=>cases h
  rename_i hw;subst hw;cases h;simp only[rel]at hr;obtain⟨B,base,cap,rfl,hle,J⟩:=hr;rcases J with rfl|⟨b,o,rfl,bY,q⟩
  ·refine ⟨[], ⟨fun w => rfl, fun w _ => ?_, by simp [af], by simp, by simp, (by intro r hr; cases hr), hk⟩⟩
   cases base<;>simp[h_,loadCells,loadCellsFrom]
  ·obtain ⟨news, g1, g2, g3⟩ := xl (P := P) (cap := cap) q bY.1
   exact⟨news,⟨fun w=>rfl,g3,g1,g2,fun r hr=>by
    obtain⟨i,hi⟩:=nl hr;exact(lC q hi).1,B,hk⟩⟩
 ·rename_i ks U
  split at h
  case isFalse=>cases h
  rename_i hw;subst hw;cases h;have hr:=iN.1 hr;generalize U.map (aH ks)=rows at hr;simp only[rel]at hr;obtain⟨B,base,cap,rfl,hle,J⟩:=hr;rcases J with rfl|⟨b,o,rfl,bY,q⟩
  ·refine ⟨[], ⟨fun w => rfl, fun w _ => ?_, by simp [af], by simp, by simp, (by intro r hr; cases hr), hk⟩⟩
   cases base<;>simp[h_,loadCells,loadCellsFrom]
  ·obtain ⟨news, g1, g2, g3⟩ := xl (P := P) (cap := cap) q bY.1
   exact⟨news,⟨fun w=>rfl,g3,g1,g2,fun r hr=>by
    obtain⟨i,hi⟩:=nl hr;exact(lC q hi).1,B,hk⟩⟩
 ·rename_i w id ad off n
  split at h
  case h_2=>cases h
  rename_i k v rows' hid;split at h
  case isFalse=>cases h
  rename_i V;obtain⟨rfl,rfl,rfl,hle⟩:=V;cases h;simp only[rel]at hr;obtain⟨⟨base,cap,rfl,hcap,_⟩,_,W⟩:=hr;obtain⟨q1,q2⟩:=W ⟨_,hid,rfl⟩;have u:((rows'.drop off).take n).length=n:=by simp; omega
  rcases HE.obj id _ hid with⟨y,M⟩|⟨b,m,y,M,e3,e4,e5⟩
  ·obtain ⟨rfl, rfl, base', e⟩ := q1 y
   subst M;refine⟨[],⟨fun w=>by rw[u]; rfl,fun w _=>?_,by simp[af],by simp,by simp,(by intro r hr; simp at hr),hk⟩⟩;cases base<;>simp[h_,loadCells,loadCellsFrom]
  ·obtain ⟨p1, o, p2, N⟩ := q2 b m y
   simp only[jT]at N;obtain⟨rfl,_,rfl⟩:=N;by_cases hm:off<m
   ·rw [p2 hm]
    have I:=HU e5 off n;simp only[cW]at I;obtain⟨news,g1,g2,g3⟩:=xl (P:=P) (cap:=m-off) I (HE.lt id b m y).1;rw[u]at g3;refine⟨news,⟨fun w=>by rw[u]; rfl,by rw[u]; exact g3,g1,g2,fun r hr=>?_,fun r hr=>e4 r (wD (wE hr)),hk⟩⟩;obtain⟨i,hi⟩:=nl hr;exact(lC I hi).1
   ·have hz : n = 0 := by omega
    subst hz;refine⟨[],⟨fun w=>by rw[u]; rfl,fun w _=>?_,by simp[af],by simp,by simp,(by intro r hr; simp at hr),hk⟩⟩;simp[h_,loadCells,loadCellsFrom]
 ·rename_i s
  split at h
  case isFalse=>cases h
  rename_i hs;subst hs;cases h;simp only[rel]at hr;subst hr;refine⟨s.data.toList.map fun b=>.int .u8 b.toNat,⟨fun w=>by simp[Hh],fun w _=>?_,?_,?_,?_,?_,hk⟩⟩
  ·simp only [cN, ls, h_]
   have:s.extract 0 s.data.size=s:=by
    have:=ByteArray.extract_zero_size (b:=s);exact this
   rw[this,←RW];rfl
  ·rw [H9]
   have:=nA (E:=E) (s.data.toList.map fun b=>.int .u8 b.toNat);rw[List.map_map]at this;exact this
  ·intro v O; simp at O; obtain⟨b,_,rfl⟩:=O; rfl
  ·intro r hr; simp at hr; obtain⟨b,_,rfl⟩:=hr; rfl
  ·intro r hr; simp at hr; obtain⟨b,_,rfl⟩:=hr; simp[AV.bl,AV.closed]
 ·cases h
def qT(P:Program)(t xt:TypeId)(s x:AV)(H:List ab):Option (AV × List ab) :=
 match b_ P t with
 | .slice e sz d =>
  match d_ P e,(match b_ P xt with | .slice _ _ _ | .str=>true|_=>false),kS sz x H with
  | some z,true,some new =>
   if z.length=sz∧new.length≤1048576∧d≤1048576 then
    match s with
    |.nils | .lit (.slice none 0 0)=>some (.vec sz H.length 0 0 new.length,H++[.vec sz 0 new])
    | .vec w id ad off n=>match H[id]? with
     | some (.vec k v rows) =>
      if k=w∧w=sz∧v=ad∧off=0∧n=rows.length∧rows.length+new.length≤1048576 then
       some (.vec w id (ad+1) 0 (n+new.length),H.set id (.vec k (ad+1) (rows++new)))
      else none
     |_=>none
    |_=>none
   else none
  |_,_,_=>none
 |_=>none
theorem Bw{P:Program}{w w':World}{t xt ty e:TypeId}{i:TypeInfo}{sz:Nat}{base:Option Addr}{n cap m:Nat}{x:Value}{d:TypeDesc}
  (u:P.underlying t=some (.slice e)) (v:P.underlying xt=some d) (_hd:∀ k,d≠.int k) (hi:P.info? e=some i) (y:i.size=sz)
  (B:(Hh x).run P w=.ok m w) (q:n+m≤cap) {news:List Value} (I:(h_ sz m x).run P w=.ok news.toArray w)
  (h:(match base with|some a=>storeCells (a.add (n*sz)) news|none=>(pure ():Sem Unit)).run P w=.ok () w') :
  (mg #[t,xt] ty #[.slice base n cap,x]).run P w=.ok (.slice base (n+m) cap) w':=by
 cases base with
 | none =>
  simp at h;subst h;simp[mg,run_underlying u,run_underlying v,sizeOf,typeInfo,hi,y,B,q,I]
 | some a =>
  simp only[]at h;simp[mg,run_underlying u,run_underlying v,sizeOf,typeInfo,hi,y,B,q,I,h]
theorem H_{P:Program}{w:World}{t xt ty e:TypeId}{i:TypeInfo}{z:Value}{sz:Nat}{base:Option Addr}{n cap m:Nat}{x:Value}{d:TypeDesc}
  (u:P.underlying t=some (.slice e)) (v:P.underlying xt=some d) (O:∀ k,d≠.int k) (hi:P.info? e=some i) (y:i.size=sz) (B:i.zero=some z)
  (I:(Hh x).run P w=.ok m w) (h:cap<n+m) {olds news:List Value}
  (ho:(h_ sz n (.slice base n cap)).run P w.drew=.ok olds.toArray w.drew)
  (J:(h_ sz m x).run P w.drew=.ok news.toArray w.drew)
  (q:n+m≤1048576) (hb:i.bytes≤1048576) :
  ∃ C,n+m≤C∧(mg #[t,xt] ty #[.slice base n cap,x]).run P w =
   .ok (.slice (some ⟨w.heap.size,0,none⟩) (n+m) C) (w.drew.alloc (.cells (olds++news++(wG z.cells (C-(n+m))).toList).toArray e)):=by
 have h1:¬ (n+m≤cap):=by omega
 have M:¬ (9223372036854775807<((n:Int)+(m:Int))):=by omega
 have U:Hk (n+m) cap*i.bytes≤281474976710656:=growslice_fits h (by
  have:=agM q hb;omega)
 have N:¬ (281474976710656<Hk (n+m) cap*i.bytes):=by omega
 refine⟨grownCap w (n+m) cap e,?_,?_⟩
 ·simp[grownCap,agN]
 ·simp [mg, run_underlying u, run_underlying v, sizeOf, typeInfo, zeroValue, hi, B, y, I, h1, M, N, agO, J, ho, newRow, grownCap]
  congr 2;apply fm;simp
def cQ(E:Env)(v:AV)(H':List ab)(u:Value)(w':World):Prop :=
 ∃ d r',rel { w:=w',H:=H',loc:=d,X:=E.X.re r' } v u∧ar { w:=w',H:=H',loc:=d,X:=E.X.re r' }∧E.le { w:=w',H:=H',loc:=d,X:=E.X.re r' }
theorem Ia{E:Env}{as:List AV}{cs:Array Value}{vs tl:List Value}{b:Nat}{el:TypeId}{fr:Nat × Nat}(hb:E.w.heap[b]? = some (.cells cs el fr))(hr:af E as vs)
  (d:cs.toList=vs++tl) (h1:∀ x∈vs,dv x=true):cn E as b 0:=by
 rw[iM];intro i a hi;obtain⟨v,g1,g2⟩:=mA hr hi;refine⟨v,?_,h1 v (eB g1),g2⟩;simp only[cW,te,hb];have:cs.toList[i]? = some v:=by rw[d,cK (aI g1)]; exact g1
 simpa using this
theorem SY{E:Env}{as:List AV}{cs:Array Value}{b:Nat}{el:TypeId}{fr:Nat × Nat}(hb:E.w.heap[b]? = some (.cells cs el fr))(hr:cn E as b 0) :
  af E as (cs.toList.take as.length)∧(∀ x∈cs.toList.take as.length,dv x=true)∧as.length≤cs.size:=by
 obtain⟨vs,g1,g2,g3⟩:=tK hr;have q:=gb g1;have k:∀(j:Nat) v,vs[j]? = some v→cs.toList[j]? = some v:=by
  intro j v d;have:=g3 j v d;simpa[te,hb]using this
 have u:vs.length≤cs.size:=by
  rcases Nat.eq_zero_or_pos vs.length with h|h
  ·omega
  ·have := k (vs.length - 1) vs[vs.length - 1] (bt (by omega))
   have:=aI this;simp at this;omega
 have:cs.toList.take as.length=vs:=by
  rw[q];apply jU;intro j;rw[nf];split
  ·rename_i d
   rw[k j vs[j] (bt d),bt d]
  ·rename_i d
   rw[me (by omega)]
 rw[this];exact⟨g1,g2,by omega⟩
theorem qU{sz:Nat}:∀{l:List (List AV)},(∀ r∈l,r.length=sz)→l.flatten.length=l.length*sz
 | [],_=>by simp
 |a::l,h=>by simp[qU (l:=l) (fun r hr=>h r (by simp[hr])),h a (by simp),fE,td]
theorem Bx{E:Env}{k:Nat}{rows:List (List AV)}{b o:Nat}(h:cA E k rows b o):∀ r∈rows,r.length=k:=by
 intro r hr;obtain⟨i,hi⟩:=nl hr;exact(lC h hi).1
theorem Ib(w:World)(o:Obj):Ext w (w.drew.alloc o) :=
 ⟨by show w.heap.size ≤ (w.heap.push o).size; simp, fun b hb => by
  show (w.heap.push o)[b]? = _
  simp[wA,agD hb],⟨rfl,rfl,rfl,by first|exact fun _=>aD _|exact fun _=>eR _ _⟩⟩
theorem Ic(w:World)(o:Obj):(w.drew.alloc o).heap[w.heap.size]? = some o:=by
 show (w.heap.push o)[w.heap.size]? = _
 simp
theorem By{E E':Env}{sz m C:Nat}{rows:List (List AV)}{vals:List Value}{rest:List Value}{b:Nat}{e:TypeId}(q:∀ a c,rel E a c→rel E' a c)
  (hb:E'.w.heap[b]? = some (.cells (vals++rest).toArray e (0,0))) (hr:af E rows.flatten vals) (h1:∀ x∈vals,dv x=true)
  (hw:∀ r∈rows,r.length=sz) (hlen:rows.length=m) (hC:m≤C) (d:rest.length=(C-m)*sz) :
  isRow E'.w b (C*sz)∧cA E' sz rows b 0:=by
 have h:af E' rows.flatten vals:=by
  rw[mv]at *;exact⟨hr.1,fun i a v ha k=>q a v (hr.2 i a v ha k)⟩
 refine⟨⟨_,e,hb,?_⟩,xk hw (Ia hb h (by simp; rfl) h1)⟩;have:=gb hr;rw[qU hw,hlen]at this;simp only[AN,dY,←this,d,←fE];congr 1;omega
theorem Ie{P:Program}{e:TypeId}{z:List Value}(h:d_ P e=some z):∃ i v,P.info? e=some i∧i.zero=some v∧v.cells.toList=z :=
 let ⟨i,v,h1,d,k,_⟩:=lE h
 ⟨i,v,h1,d,k⟩
theorem If{E:Env}(HE:ar E){sz C m:Nat}{new:List (List AV)}{vals rest:List Value}{e:TypeId}(hr:af E new.flatten vals)(h1:∀ x∈vals,dv x=true)
  (hw:∀ r∈new,r.length=sz) (u:eS new) (hm:new.length=m) (hC:m≤C) (q:rest.length=(C-m)*sz) :
  cQ E (.vec sz E.H.length 0 0 m) (E.H++[.vec sz 0 new]) (.slice (some ⟨E.w.heap.size,0,none⟩) m C) (E.w.drew.alloc (.cells (vals++rest).toArray e)):=by
 have h:=Ib E.w (.cells (vals++rest).toArray e);have hle:=Env.jC (o:=.vec sz 0 new) (l:=some (E.w.heap.size,C)) HE.len h (fun b n hb=>by cases hb; exact aD _);have hblk:=Ic E.w (.cells (vals++rest).toArray e);have k:=By (E':=E.push (E.w.drew.alloc (.cells (vals++rest).toArray e)) (.vec sz 0 new) (some (E.w.heap.size,C))) (fun a c hr=>bH hle a hr) hblk hr h1 hw hm hC q;refine⟨E.loc++[some (E.w.heap.size,C)],E.X.r,?_,ar.push HE h (fun b n hb=>?_) ?_,hle⟩
 ·simp only [rel]
  refine⟨⟨_,_,rfl,hC,fun _=>⟨_,_,rfl⟩⟩,⟨.vec sz 0 new,by simp,rfl,fun v y=>by simp[ab.aF]at y; omega⟩,fun _=>⟨fun d=>?_,fun b M d=>?_⟩⟩
  ·rw[←HE.len]at d; simp at d
  ·rw [← HE.len] at d
   simp at d;obtain⟨rfl,rfl⟩:=d;exact⟨by omega,0,fun _=>by simp,by simp⟩
 ·cases hb
  exact⟨aD _,by show _<(E.w.heap.push _).size; simp⟩
 ·simp only [aJ]
  right;refine⟨E.w.heap.size,C,?_,k.1,by omega,u,k.2⟩;simp only[Env.push];rw[←HE.len];simp
theorem SZ{E:Env}(HE:ar E){sz:Nat}(base:Option Addr) :
  cQ E (.vec sz E.H.length 0 0 0) (E.H++[.vec sz 0 []]) (.slice base 0 0) E.w:=by
 have hle:=Env.jC (o:=.vec sz 0 []) (l:=none) HE.len (Ext.refl E.w) (fun b n hb=>by cases hb);refine⟨E.loc++[none],E.X.r,?_,ar.push HE (Ext.refl _) (fun b n hb=>by cases hb) ?_,hle⟩
 ·simp only [rel]
  refine⟨⟨_,_,rfl,aD _,fun h=>by omega⟩,⟨.vec sz 0 [],by simp,rfl,fun v k=>by simp[ab.aF]at k; omega⟩,fun _=>⟨fun _=>⟨trivial,trivial,base,rfl⟩,fun b M d=>?_⟩⟩;rw[←HE.len]at d;simp at d
 ·simp only [aJ]
  left;refine⟨?_,trivial⟩;simp only[Env.push];rw[←HE.len];simp
theorem Bz(P:Program)(a:Addr)(w:World):(storeCells a []).run P w=.ok () w:=rfl
theorem BA{P:Program}{E:Env}{sz:Nat}{rows:List (List AV)}{xt:TypeId}{x:Value}{news:List Value}(h:Src P E sz rows xt x news)(hr:rows=[]):news=[]:=by
 have:=h.length;rw[hr]at this;simp at this;exact this
theorem Ig{P:Program}{E:Env}(HE:ar E){t xt ty e:TypeId}{sz y:Nat}{z:List Value}{new:List (List AV)}{base:Option Addr}{q:Value}{news:List Value}
  (hk:b_ P t=.slice e sz y) (W:d_ P e=some z) (h:Src P E sz new xt q news) (hb1:new.length≤1048576) (hb2:y≤1048576) (O:z.length=sz) :
  ∃ u w',(mg #[t,xt] ty #[.slice base 0 0,q]).run P E.w=.ok u w'∧cQ E (.vec sz E.H.length 0 0 new.length) (E.H++[.vec sz 0 new]) u w':=by
 obtain⟨hu,i,hi,M,hby⟩:=gz hk;obtain⟨i',zv,B,U,V⟩:=Ie W;rw[hi]at B;cases B;obtain⟨d,I,J⟩:=h.kind;cases k:new with
 | nil =>
  have hn:=BA h k;subst hn;subst k;refine⟨.slice base (0+0) 0,E.w,Bw (m:=0) hu I J hi M (h.len E.w) (aD _) (h.cells E.w (fun _ _ _=>rfl)) ?_,SZ HE base⟩;cases base with
  |none=>rfl
  |some a=>exact Bz P _ _
 | cons r rs =>
  rw[←k];have hpos:0<new.length:=by rw[k]; simp
  have N:∀ b o,b<E.w.heap.size→E.w.drew.cell? ⟨b,o,none⟩=E.w.cell? ⟨b,o,none⟩:=fun _ _ _=>rfl;obtain⟨C,hC,v⟩:=H_ (P:=P) (w:=E.w) (ty:=ty) (base:=base) (n:=0) (cap:=0) (m:=new.length) (x:=q) (olds:=[]) hu I J hi M U (h.len E.w) (by omega)
   (by cases base<;>simp[h_,loadCells,loadCellsFrom]) (h.cells _ N) (by omega) (by omega)
  simp only[cW,jV]at v;refine⟨_,_,v,If HE h.rel h.one h.wide h.closed rfl (by omega) ?_⟩;simp only[ls,size_zeroCells];rw[←O,←V];simp
theorem S0{P:Program}{xt:TypeId}(h:(match b_ P xt with | .slice _ _ _ | .str=>true|_=>false)=true):∃ d,P.underlying xt=some d∧∀ k,d≠.int k:=by
 split at h
 ·rename_i hk
  exact⟨_,(gz hk).1,by simp⟩
 ·rename_i hk
  exact⟨_,pe hk,by simp⟩
 ·cases h
theorem lG{α:Type}{l:List α}{i:Nat}{x:α}(h:l[i]? = some x):l.set i x=l:=by
 apply jU;intro j;rw[dU];split
 ·rename_i e
  subst e;rw[h];split
  ·rfl
  ·rename_i d; exact(d (aI h)).elim
 ·rfl
theorem S1{P:Program}{E:Env}(HE:ar E){t xt ty e id ad:TypeId}{sz by_:Nat}{z:List Value}{rows new:List (List AV)}{c cx:Value}{news:List Value}
  (hk:b_ P t=.slice e sz by_) (hz:d_ P e=some z) (k:Src P E sz new xt cx news) (hb1:rows.length+new.length≤1048576) (hb2:by_≤1048576) (hzl:z.length=sz)
  (hid:E.H[id]? = some (.vec sz ad rows)) (hr:rel E (.vec sz id ad 0 rows.length) c) :
  ∃ u w',(mg #[t,xt] ty #[c,cx]).run P E.w=.ok u w' ∧
   cQ E (.vec sz id (ad+1) 0 (rows.length+new.length)) (E.H.set id (.vec sz (ad+1) (rows++new))) u w':=by
 obtain⟨hu,i,hi,hs,hby⟩:=gz hk;obtain⟨i',zv,hi',hz1,hz2⟩:=Ie hz;rw[hi]at hi';cases hi';obtain⟨d,hd1,hd2⟩:=k.kind;simp only[rel]at hr;obtain⟨⟨base,cap,rfl,hcap,hbase⟩,hpast,hlive⟩:=hr;obtain⟨q1,q2⟩:=hlive ⟨_,hid,rfl⟩;have hlt:=aI hid;have N:(∀ v,(ab.vec sz (ad+1) (rows++new)).aF = some v→∀ u,(ab.vec sz ad rows).aF = some u→u<v):=by
  intro v J u hu; simp[ab.aF]at J hu; omega
 have U:∀ v u,(ab.vec sz (ad+1) (rows++new)).aF = some v→(ab.vec sz ad rows).aF = some u→u≤v:=by
  intro v u J hu; simp[ab.aF]at J hu; omega
 have O:(ab.vec sz ad rows).aF = none→(ab.vec sz (ad+1) (rows++new)).aF = none:=by simp[ab.aF]
 have hpast':∀(w':World) loc',Env.past { w:=w',H:=E.H.set id (.vec sz (ad+1) (rows++new)),loc:=loc',X:=E.X } id (ad+1):=fun w' loc' =>
  ⟨_,bx hlt,rfl,fun v J=>by simp[ab.aF]at J; omega⟩
 have hcells:∀ b o,b<E.w.heap.size→E.w.drew.cell? ⟨b,o,none⟩=E.w.cell? ⟨b,o,none⟩:=fun _ _ _=>rfl;by_cases I:rows.length+new.length≤cap
 ·-- in place
  rcases HE.obj id _ hid with⟨y,V⟩|⟨b,M,y,V,e3,e4,W⟩
  ·obtain ⟨hn0, _, base', ee⟩ := q1 y
   simp only[jT]at ee;obtain⟨rfl,_,rfl⟩:=ee;have hnil:new=[]:=by
    cases new with
    |nil=>rfl
    |cons a l=>simp at I
   have hnews:=BA k hnil;subst hnews;subst hnil;subst V;refine⟨_,E.w,Bw (m:=0) hu hd1 hd2 hi hs (k.len E.w) (aD _) (k.cells E.w (fun _ _ _=>rfl)) ?_,E.loc.set id none,E.X.r,?_,?_,?_⟩
   ·cases base with
    |none=>rfl
    |some a=>exact Bz P _ _
   ·simp only [rel]
    refine⟨⟨_,_,rfl,aD _,fun h=>by simp at h⟩,hpast' _ _,fun _=>⟨fun _=>⟨by simp,trivial,base,by simp⟩,fun b M q=>?_⟩⟩;rw[bx (by rw[HE.len]; exact hlt)]at q;cases q
   ·refine ar.kP HE hid (aD _) (fun _ _ _ => rfl) (fun _ _ h => by cases h) (.inr N) U (fun _ => O) ?_
    simp only[aJ];left;exact⟨by rw[bx (by rw[HE.len]; exact hlt)],by simp⟩
   ·exact Env.jD hid HE.len (aD _) (fun _ _ _=>rfl) (fun _ _ h=>by cases h) (.inr N) U (fun _=>O)
  ·obtain ⟨_, o, p2, p3⟩ := q2 b M y
   simp only[jT,gq]at p3;obtain⟨rfl,_,rfl⟩:=p3;obtain⟨cur,el,hblk,hsize⟩:=V;have hcurl:=SY hblk (xh W);have hwide:=Bx W;have hflat:=qU hwide;have hnl:=k.length;have hstore:∃ w',(storeCells ((Addr.mk b o none).add (rows.length*sz)) news).run P E.w=.ok () w'∧w'.heap.size=E.w.heap.size∧dR E.w w'∧(∀ x,x≠b→w'.heap[x]? = E.w.heap[x]?) ∧
     w'.heap[b]? = some (.cells (cur.toList.take (rows.length*sz)++news++cur.toList.drop (rows.length*sz+news.length)).toArray el (0,0)):=by
    by_cases hM:0<cap
    ·rw [p2 hM, j5, qt, cW]
     have hfit2:rows.length*sz+0+news.length≤cur.size:=by
      rw[hnl,hsize,lv,←fE];exact tg _ I
     have hst:=run_storeCells_at P b (rows.length*sz) el news 0 cur E.w hblk hfit2 (fun v J=>by rw[xg]; exact k.one v J);refine⟨_,hst,setRow_size _ _ _,⟨rfl,rfl,rfl,by first|exact fun _=>aD _|exact fun _=>eR _ _⟩,fun x B=>setRow_other _ _ _ _ B,?_⟩;rw[setRow_heap _ _ _ _ _ _ hblk];simp
    ·have h0 : cap = 0 := by omega
     have hn0:new=[]:=by
      cases new with
      |nil=>rfl
      |cons a l=>simp at I; omega
     have:=BA k hn0;subst this;refine⟨E.w,Bz P _ _,rfl,⟨rfl,rfl,rfl,by first|exact fun _=>aD _|exact fun _=>eR _ _⟩,fun _ _=>rfl,?_⟩;rw[hblk];simp
   obtain⟨w',hst,hsz,henv,hother,hb'⟩:=hstore;have hloc:E.loc.set id (some (b,cap))=E.loc:=lG y;have hle:E.le { w:=w',H:=E.H.set id (.vec sz (ad+1) (rows++new)),loc:=E.loc.set id (some (b,cap)),X:=E.X } :=
    Env.jD hid HE.len (by omega) (fun x B aw=>hother x (fun ex=>aw cap (by rw[ex]; exact y))) (fun b' n' h=>by cases h; exact .inr ⟨cap,y⟩) (.inr N) U (fun _=>O)
   refine⟨_,w',Bw (m:=new.length) hu hd1 hd2 hi hs (k.len E.w) I (k.cells E.w (fun _ _ _=>rfl)) hst,E.loc.set id (some (b,cap)),E.X.r,?_,?_,hle⟩
   ·simp only [rel]
    refine⟨⟨_,_,rfl,I,fun _=>⟨b,o,rfl⟩⟩,hpast' _ _,fun _=>⟨fun q=>?_,fun b' M q=>?_⟩⟩
    ·rw[hloc,y]at q; cases q
    ·rw [hloc, y] at q
     simp only[aQ,a7]at q;obtain⟨rfl,rfl⟩:=q;exact⟨by omega,o,fun h=>by simpa using p2 (by simpa using h),by simp⟩
   ·refine ar.kP HE hid (by omega) (fun x B aw => hother x (fun ex => aw cap (by rw [ex]; exact y))) (fun b' n' h => by cases h; exact .inr ⟨cap, y⟩) (.inr N) U (fun _ => O) ?_
    simp only[aJ];right;refine⟨b,cap,by rw[hloc]; exact y,?_,by simpa using I,?_,?_⟩
    ·refine ⟨_, el, hb', ?_⟩
     have hfit2:rows.length*sz+news.length≤cap*sz:=by rw[hnl,←fE]; exact tg _ I
     simp only[AN,dY,jA,oT,ls,hsize];omega
    ·intro r hr
     rcases cZ.1 hr with h|h
     ·exact e4 r h
     ·exact k.closed r h
    ·have hall:∀ r∈rows++new,r.length=sz:=by
      intro r hr;rcases cZ.1 hr with h|h
      ·exact hwide r h
      ·exact k.wide r h
     refine xk hall (Ia hb' (vs:=cur.toList.take (rows.length*sz)++news) (tl:=cur.toList.drop (rows.length*sz+news.length)) ?_ (by simp) ?_)
     ·rw [wH]
      refine j7 ?_ (dw hle _ k.rel);have:=dw hle _ hcurl.1;rw[hflat]at this;exact this
     ·intro x B
      rcases cZ.1 B with h|h
      ·exact hcurl.2.1 x (by rw[hflat]; exact h)
      ·exact k.one x h
 ·-- it moves
  have holds:∃ olds:List Value,af E rows.flatten olds∧(∀ x∈olds,dv x=true)∧(∀ r∈rows,r.length=sz)∧eS rows ∧
    (h_ sz rows.length (.slice base rows.length cap)).run P E.w.drew=.ok olds.toArray E.w.drew:=by
   rcases HE.obj id _ hid with⟨y,V⟩|⟨b,M,y,V,e3,e4,W⟩
   ·subst V
    refine⟨[],by simp[af],by simp,by simp,(fun r hr=>by cases hr),?_⟩;cases base<;>simp[h_,loadCells,loadCellsFrom]
   ·obtain ⟨_, o, p2, p3⟩ := q2 b M y
    simp only[jT,gq]at p3;obtain⟨rfl,_,rfl⟩:=p3;by_cases hM:0<cap
    ·have ho := p2 hM
     rw[qt]at ho;subst ho;obtain⟨vs,g1,g2,g3⟩:=xl (P:=P) (cap:=cap) W (HE.lt id b cap y).1;exact⟨vs,g1,g2,Bx W,e4,g3 _ hcells⟩
    ·have:rows=[]:=by
      cases rows with
      |nil=>rfl
      |cons a l=>simp at hcap; omega
     subst this;exact⟨[],by simp[af],by simp,by simp,fun r hr=>by(cases hr),by simp[h_,loadCells,loadCellsFrom]⟩
  obtain⟨olds,g1,g2,g3,g4,g5⟩:=holds;obtain⟨C,hC,hrun⟩:=H_ (P:=P) (w:=E.w) (ty:=ty) (base:=base) (n:=rows.length) (cap:=cap) (m:=new.length) (x:=cx) (olds:=olds) hu hd1 hd2 hi hs hz1 (k.len E.w) (by omega)
   g5 (k.cells _ hcells) (by omega) (by omega)
  generalize hrest:(wG zv.cells (C-(rows.length+new.length))).toList=rest at hrun;have hrl:rest.length=(C-(rows.length+new.length))*sz:=by
   rw[←hrest];simp only[ls,size_zeroCells];rw[←hzl,←hz2];simp
  generalize hw':E.w.drew.alloc (.cells (olds++news++rest).toArray e)=w' at hrun;have hext:Ext E.w w':=by rw[←hw']; exact Ib _ _
  have hblk:w'.heap[E.w.heap.size]? = some (.cells (olds++news++rest).toArray e (0,0)):=by rw[←hw']; exact Ic _ _
  have hltw:E.w.heap.size<w'.heap.size:=(Array.getElem?_eq_some_iff.1 hblk).1;have hle:E.le { w:=w',H:=E.H.set id (.vec sz (ad+1) (rows++new)),loc:=E.loc.set id (some (E.w.heap.size,C)),X:=E.X } :=
   Env.jD hid HE.len hext.size (fun x B _=>hext.same x B) (fun b n h=>by cases h; exact .inl (aD _)) (.inr N) U (fun _=>O)
  have hall:∀ r∈rows++new,r.length=sz:=by
   intro r hr;rcases cZ.1 hr with h|h
   ·exact g3 r h
   ·exact k.wide r h
  have hlocs:(E.loc.set id (some (E.w.heap.size,C)))[id]? = some (some (E.w.heap.size,C)):=bx (by rw[HE.len]; exact hlt);have hrow:=By (E:=E) (E':={ w:=w',H:=E.H.set id (.vec sz (ad+1) (rows++new)),loc:=E.loc.set id (some (E.w.heap.size,C)),X:=E.X })
   (rows:=rows++new) (vals:=olds++news) (m:=rows.length+new.length) (fun a c hr=>bH hle a hr) hblk
   (by rw[wH]; exact j7 g1 k.rel)
   (by intro x B; rcases cZ.1 B with h|h; exact g2 x h; exact k.one x h) hall (by simp) hC hrl
  refine⟨_,w',hrun,E.loc.set id (some (E.w.heap.size,C)),E.X.r,?_,?_,hle⟩
  ·simp only [rel]
   refine⟨⟨_,_,rfl,hC,fun _=>⟨_,_,rfl⟩⟩,hpast' _ _,fun _=>⟨fun q=>?_,fun b' M q=>?_⟩⟩
   ·rw[hlocs]at q; cases q
   ·rw [hlocs] at q
    simp only[aQ,a7]at q;obtain⟨rfl,rfl⟩:=q;exact⟨by omega,0,fun _=>by simp,by simp⟩
  ·refine ar.kP HE hid hext.size (fun x B _ => hext.same x B) (fun b n h => by cases h; exact .inl ⟨aD _, hltw⟩) (.inr N) U (fun _ => O) ?_
   simp only[aJ];right;refine⟨E.w.heap.size,C,hlocs,hrow.1,by simpa using hC,?_,hrow.2⟩;intro r hr;rcases cZ.1 hr with h|h
   ·exact g4 r h
   ·exact k.closed r h
theorem S2{P:Program}{E:Env}(HE:ar E){t xt ty:TypeId}{s x v:AV}{H':List ab}{c I:Value}(h:qT P t xt s x E.H=some (v,H'))
  (d:rel E s c) (U:rel E x I):∃ u w',(mg #[t,xt] ty #[c,I]).run P E.w=.ok u w'∧cQ E v H' u w':=by
 unfold qT at h;split at h
 case h_2=>cases h
 rename_i e sz W hk;split at h
 case h_2=>cases h
 rename_i z new y N M;split at h
 case isFalse=>cases h
 rename_i V;obtain⟨h1,J,B⟩:=V;obtain⟨news,q⟩:=SX (P:=P) HE M U (S0 N);split at h
 ·cases h
  simp only[rel]at d;obtain⟨base,rfl⟩:=d;exact Ig HE hk y q J B h1
 ·cases h
  simp only[rel]at d;subst d;exact Ig HE hk y q J B h1
 ·split at h
  case h_2=>cases h
  rename_i k v rows hid;split at h
  case isFalse=>cases h
  rename_i O;obtain⟨rfl,rfl,rfl,rfl,rfl,hb⟩:=O;cases h;exact S1 HE hk y q hb B h1 hid d
 ·cases h
end Go.AL

namespace Go.AL
open Go
variable [Dr]
theorem Ih{w w':World}{b off:Nat}{cur:Array Value}{vals:List Value}{el:TypeId}{fr:Nat × Nat}(hblk:w.heap[b]? = some (.cells cur el fr))
  (h:w'.heap[b]? = some (.cells (cur.toList.take off++vals++cur.toList.drop (off+vals.length)).toArray el fr)) (q:off+vals.length≤cur.size) (i:Nat) :
  w'.cell? ⟨b,i,none⟩=if off≤i∧i<off+vals.length then vals[i-off]? else w.cell? ⟨b,i,none⟩:=by
 simp only[te,hblk,h,Option.isSome_none,kF,if_false,List.getElem?_toArray,fk,dY,jA,ls,
  nf,oR]
 have h1:min off cur.size=off:=by omega
 rw[h1];by_cases c1:i<off
 ·have c2 : ¬ (off ≤ i ∧ i < off + vals.length) := by omega
  have d:i<off+vals.length:=by omega
  rw[if_neg c2];simp[c1,d]
 ·by_cases c2 : i < off + vals.length
  ·have d : off ≤ i ∧ i < off + vals.length := by omega
   simp[c1,c2,d]
  ·have d : ¬ (off ≤ i ∧ i < off + vals.length) := by omega
   have k:off+vals.length+(i-(off+vals.length))=i:=by omega
   rw[if_neg c2,if_neg d,k];simp
theorem BB{E E':Env}{b o col:Nat}{cur:Array Value}{as cs:List AV}{vals:List Value}{el:TypeId}{fr:Nat × Nat}(d:∀ a c,rel E a c→rel E' a c)
  (hblk:E.w.heap[b]? = some (.cells cur el fr))
  (q:E'.w.heap[b]? = some (.cells (cur.toList.take (o+col)++vals++cur.toList.drop (o+col+vals.length)).toArray el fr)) (k:o+col+vals.length≤cur.size)
  (hr:cn E as b o) (h:af E cs vals) (h1:∀ x∈vals,dv x=true) (u:col+cs.length≤as.length) :
  cn E' (as.take col++cs++as.drop (col+cs.length)) b o:=by
 have hlen:=gb h;rw[iM]at hr⊢;intro i a hi;rw[Ih hblk q k];simp only[fk,dY,jA,nf,oR]at hi;have hm:min col as.length=col:=by omega
 rw[hm]at hi;by_cases c1:i<col
 ·have c2 : i < col + cs.length := by omega
  rw[if_pos c2,if_pos c1,if_pos c1]at hi;obtain⟨v,g1,g2,g3⟩:=hr i a hi;exact⟨v,by rw[if_neg (by omega)]; exact g1,g2,d _ _ g3⟩
 ·by_cases c2 : i < col + cs.length
  ·rw [if_pos c2, if_neg c1] at hi
   obtain⟨v,g1,g2⟩:=mA h hi;refine⟨v,?_,h1 v (eB g1),d _ _ g2⟩;rw[if_pos (by omega),←g1];congr 1;omega
  ·rw [if_neg c2] at hi
   have:col+cs.length+(i-(col+cs.length))=i:=by omega
   rw[this]at hi;obtain⟨v,g1,g2,g3⟩:=hr i a hi;exact⟨v,by rw[if_neg (by omega)]; exact g1,g2,d _ _ g3⟩
theorem Env.mB{E:Env}{w':World}{id b n:Nat}{o o':ab}(HE:ar E)(hid:E.H[id]? = some o) (k:E.loc[id]? = some (some (b,n)))
  (q:∀ v,o'.aF = some v→o.aF = some v) (J:w'.heap.size=E.w.heap.size) (B:∀ x,x≠b→w'.heap[x]? = E.w.heap[x]?) (I:dR E.w w':=by first|exact⟨rfl,rfl,rfl,by first|exact fun _=>aD _|exact fun _=>eR _ _⟩|assumption|exact Ext.env (by assumption)) (hmm:o.dh=none∨o'.dh=o.dh∨o'.aF = none:=by first|exact .inl rfl|exact .inr (.inl rfl)|exact .inr (.inr rfl)|exact .inl (ab.wX (by assumption))|assumption) (M:o.born=true→o'.born=true:=by first|exact fun _=>rfl|exact fun h=>h|assumption) :
  E.le { w:=w',H:=E.H.set id o',loc:=E.loc,X:=E.X }:=by
 have h:=Env.jD (w':=w') (o':=o') (l:=some (b,n)) hid HE.len (by omega) (fun x _ aw=>B x (fun e=>aw n (by rw[e]; exact k))) (fun N O h=>by cases h; exact .inr ⟨n,k⟩)
  (.inl fun v d => ⟨q v d, k⟩) (fun v u d hu => by rw [q v d] at hu; cases hu; exact aD _) (fun _ y => by
   cases d:o'.aF with
   |none=>rfl
   |some v=>rw[q v d]at y; cases y) I hmm
 rwa [lG k]at h
theorem ar.set{E:Env}{w':World}{id b n:Nat}{o o':ab}(HE:ar E)(hid:E.H[id]? = some o) (d:E.loc[id]? = some (some (b,n)))
  (q:∀ v,o'.aF = some v→o.aF = some v) (J:w'.heap.size=E.w.heap.size) (B:∀ x,x≠b→w'.heap[x]? = E.w.heap[x]?)
  (ho:aJ { w:=w',H:=E.H.set id o',loc:=E.loc,X:=E.X } id o') (I:dR E.w w':=by first|exact⟨rfl,rfl,rfl,by first|exact fun _=>aD _|exact fun _=>eR _ _⟩|assumption|exact Ext.env (by assumption)) (hlab:o.label=none:=by first|rfl|assumption) (M:o'.label=none:=by first|rfl|assumption) (N:o.born=true→o'.born=true:=by first|exact fun _=>rfl|exact fun h=>h|assumption):ar { w:=w',H:=E.H.set id o',loc:=E.loc,X:=E.X }:=by
 have h:=ar.kP (w':=w') (o':=o') (l:=some (b,n)) HE hid (by omega) (fun x _ aw=>B x (fun e=>aw n (by rw[e]; exact d))) (fun O U h=>by cases h; exact .inr ⟨n,d⟩)
  (.inl fun v k => ⟨q v k, d⟩) (fun v u k hu => by rw [q v k] at hu; cases hu; exact aD _) (fun _ y => by
   cases k:o'.aF with
   |none=>rfl
   |some v=>rw[q v k]at y; cases y) (by rw[lG d]; exact ho) I
 rwa [lG d]at h
def putCells(as cs:List AV)(col:Nat):List AV:=as.take col++cs++as.drop (col+cs.length)
def qV(P:Program)(t:TypeId)(x v:AV)(H:List ab):Option (List ab) :=
 match eT P t,pg v,x with
 | some (n,_),some cs,.ptr id ad w row col =>
  if cs.length=n then
   match H[id]? with
   |some (.box cells)=>if ad=0∧row=0∧col+n≤cells.length then some (H.set id (.box (putCells cells cs col))) else none
   | some (.vec k u rows) =>
    if ad=u∧k=w∧AV.bl cs=true then
     match rows[row]? with
     |some r=>if col+n≤r.length then some (H.set id (.vec k u (rows.set row (putCells r cs col)))) else none
     |none=>none
    else none
   |_=>none
  else none
 |_,_,_=>none
theorem Ii{as cs:List AV}{col:Nat}(h:col+cs.length≤as.length):(putCells as cs col).length=as.length:=by
 simp[putCells]; omega
theorem BC:∀(a b:List AV),AV.bl (a++b)=(AV.bl a&&AV.bl b)
 | [],b=>by simp[AV.bl]
 |x::a,b=>by simp[AV.bl,BC a b,agG]
theorem Ij{P:Program}{E:Env}(HE:ar E){t:TypeId}{x v:AV}{c d:Value}{H':List ab}(h:qV P t x v E.H=some H')(U:rel E x c)(I:rel E v d) :
  ∃ w',(Hm t c d).run P E.w=.ok () w'∧ar { w:=w',H:=H',loc:=E.loc,X:=E.X }∧E.le { w:=w',H:=H',loc:=E.loc,X:=E.X }:=by
 unfold qV at h;split at h
 case h_2=>cases h
 rename_i n ag cs id ad w row col ht hcs;obtain⟨i,dd,hi,hd,hs,ha⟩:=lB ht;obtain⟨hrel,h1⟩:=Bs hcs I;split at h
 case isFalse=>cases h
 rename_i hn;have hlen:=gb hrel;have hsz:d.cells.size=n:=by rw[←hn,hlen]; simp
 simp only[rel]at U;obtain⟨_,hpast,hlive⟩:=U;split at h
 ·rename_i cells hid
  split at h
  case isFalse=>cases h
  rename_i hc;obtain⟨rfl,rfl,hcol⟩:=hc;cases h;obtain⟨b,m,J,rfl⟩:=hlive ⟨_,hid,rfl⟩;obtain⟨b',m',N,⟨cur,el,hblk,hsize⟩,e3⟩:=HE.obj id _ hid;rw[J]at N;cases N;have y:col+0+d.cells.toList.length≤cur.size:=by rw[hsize]; simp; omega
  have M:=run_storeCells_at P b col el d.cells.toList 0 cur E.w hblk y (fun v I=>by rw[xg]; exact h1 v I);simp only[lv]at M y;generalize B:E.w.setRow b (cur.toList.take col++d.cells.toList++cur.toList.drop (col+d.cells.toList.length)).toArray=w' at M;have V:w'.heap.size=E.w.heap.size:=by rw[←B]; exact setRow_size _ _ _
  have henv:dR E.w w':=by rw[←B]; exact⟨rfl,rfl,rfl,by first|exact fun _=>aD _|exact fun _=>eR _ _⟩
  have W:∀ x,x≠b→w'.heap[x]? = E.w.heap[x]? := by intro x U; rw[←B]; exact setRow_other _ _ _ _ U
  have O:w'.heap[b]? = some (.cells (cur.toList.take col++d.cells.toList++cur.toList.drop (col+d.cells.toList.length)).toArray el (0,0)):=by
   rw[←B]; exact setRow_heap E.w b cur _ el (0,0) hblk
  have hver:∀ v,(ab.box (putCells cells cs col)).aF = some v→(ab.box cells).aF = some v:=fun v I=>by simpa[ab.aF]using I
  have hle:=Env.mB (o':=.box (putCells cells cs col)) HE hid J hver V W;refine⟨w',?_,ar.set HE hid J hver V W ?_,hle⟩
  ·simp only [Hm, ng, bW, fl, bX, storeVar, Sem.run_sizeOf hi, hs, qt, cW]
   rw[if_neg (by omega)];exact M
  ·simp only [aJ]
   refine⟨b,m,J,⟨_,el,O,?_⟩,?_⟩
   ·rw [Ii (by omega)]
    simp only[AN,dY,jA,oT,ls]at y⊢;omega
   ·exact BB (o:=0) (col:=col) (fun a c hr=>bH hle a hr) hblk (by simpa using O) (by simpa using y) e3 hrel h1 (by omega)
 ·rename_i k u rows hid
  split at h
  case isFalse=>cases h
  rename_i hc;obtain⟨rfl,rfl,hclosed⟩:=hc;split at h
  case h_2=>cases h
  rename_i r hrow;split at h
  case isFalse=>cases h
  rename_i hcol;cases h;obtain⟨b,m,J,rfl⟩:=hlive ⟨_,hid,rfl⟩;rcases HE.obj id _ hid with⟨_,N⟩|⟨b',m',N,⟨cur,el,hblk,hsize⟩,e3,e4,e5⟩
  ·subst N; simp at hrow
  rw[J]at N;cases N;have hrlt:=aI hrow;obtain⟨hrk,hrc⟩:=lC e5 hrow;rw[cW]at hrc;have hrow1:(row+1)*k≤m*k:=tg _ (by omega);rw[fE,Hn]at hrow1;have y:row*k+col+0+d.cells.toList.length≤cur.size:=by rw[hsize]; simp; omega
  have M:=run_storeCells_at P b (row*k+col) el d.cells.toList 0 cur E.w hblk y (fun v I=>by rw[xg]; exact h1 v I);simp only[lv]at M y;generalize B:E.w.setRow b (cur.toList.take (row*k+col)++d.cells.toList++cur.toList.drop (row*k+col+d.cells.toList.length)).toArray=w' at M;have V:w'.heap.size=E.w.heap.size:=by rw[←B]; exact setRow_size _ _ _
  have henv:dR E.w w':=by rw[←B]; exact⟨rfl,rfl,rfl,by first|exact fun _=>aD _|exact fun _=>eR _ _⟩
  have W:∀ x,x≠b→w'.heap[x]? = E.w.heap[x]? := by intro x U; rw[←B]; exact setRow_other _ _ _ _ U
  have O:w'.heap[b]? = some (.cells (cur.toList.take (row*k+col)++d.cells.toList++cur.toList.drop (row*k+col+d.cells.toList.length)).toArray el (0,0)):=by
   rw[←B]; exact setRow_heap E.w b cur _ el (0,0) hblk
  have hver:∀ v,(ab.vec k ad (rows.set row (putCells r cs col))).aF = some v→(ab.vec k ad rows).aF = some v:=fun v I=>by simpa[ab.aF]using I
  have hle:=Env.mB (o':=.vec k ad (rows.set row (putCells r cs col))) HE hid J hver V W;refine⟨w',?_,ar.set HE hid J hver V W ?_,hle⟩
  ·simp only [Hm, ng, bW, fl, bX, storeVar, Sem.run_sizeOf hi, hs]
   rw[if_neg (by omega)];exact M
  ·simp only [aJ]
   right;refine⟨b,m,J,⟨_,el,O,?_⟩,by simpa using e3,?_,?_⟩
   ·simp only [AN, dY, jA, oT, ls, hsize] at y ⊢
    omega
   ·intro r' hr'
    rcases List.mem_or_eq_of_mem_set hr' with h'|h'
    ·exact e4 r' h'
    ·rw [h', putCells, BC, BC]
     have:=e4 r (eB hrow);simp[w_ _ _ this,tJ _ _ this,hclosed]
   ·rw [lz] at e5 ⊢
    intro j r' hj;rw[dU]at hj;split at hj
    ·rename_i ej
     subst ej;cases hj;refine⟨by rw[Ii (by omega)]; exact hrk,?_⟩;rw[cW];exact BB (fun a c hr=>bH hle a hr) hblk O y hrc hrel h1 (by omega)
    ·rename_i ej
     obtain⟨g1,g2⟩:=e5 j r' hj;refine⟨g1,?_⟩;rw[iM]at g2⊢;intro q a hq;obtain⟨vv,p1,p2,p3⟩:=g2 q a hq;refine⟨vv,?_,p2,bH hle a p3⟩;have hql:=aI hq;rw[Ih hblk O y,if_neg]
     ·exact p1
     ·rcases Nat.lt_or_gt_of_ne ej with hlt | hgt
      ·have : (row + 1) * k ≤ j * k := tg _ (by omega)
       rw[fE,Hn]at this;simp only[ls];omega
      ·have : (j + 1) * k ≤ row * k := tg _ (by omega)
       rw[fE,Hn]at this;omega
 ·cases h
theorem Ik{E:Env}(HE:ar E){cells:List AV}{vals:Array Value}{el:TypeId}(hr:af E cells vals.toList)(h1:∀ x∈vals.toList,dv x=true) :
  cQ E (.ptr E.H.length 0 0 0 0) (E.H++[.box cells]) (.pointer (some ⟨E.w.heap.size,0,none⟩)) { E.w with heap:=E.w.heap.push (.cells vals el) }:=by
 have d:=Ext.push E.w (.cells vals el);have hle:=Env.jC (o:=.box cells) (l:=some (E.w.heap.size,0)) HE.len d (fun b n hb=>by cases hb; exact aD _);have hblk:(E.w.heap.push (.cells vals el))[E.w.heap.size]? = some (.cells vals el (0,0)):=by simp
 have h:af (E.push { E.w with heap:=E.w.heap.push (.cells vals el) } (.box cells) (some (E.w.heap.size,0))) cells vals.toList:=dw hle _ hr;refine⟨E.loc++[some (E.w.heap.size,0)],E.X.r,?_,ar.push HE d (fun b n hb=>?_) ?_,hle⟩
 ·simp only [rel]
  refine⟨⟨_,_,rfl⟩,⟨.box cells,by simp,rfl,fun v k=>by simp⟩,fun _=>⟨E.w.heap.size,0,?_,by simp⟩⟩;rw[←HE.len]; simp
 ·cases hb
  exact⟨aD _,by simp⟩
 ·simp only [aJ]
  refine⟨E.w.heap.size,0,?_,⟨vals,el,hblk,?_⟩,Bv (cs:=vals) (el:=el) (fr:=(0,0)) hblk h h1⟩
  ·simp only[Env.push]; rw[←HE.len]; simp
  ·have := gb hr
   simpa using this.symm
def xm(P:Program)(t:TypeId):Option TypeId:=match d_ P t with
 | some [.pointer none,.slice none 0 0]=>match P.underlying t with
  | some (.struct d)=>match d[1]? with
   | some fd=>match P.underlying fd.type with
    | some (.slice e)=>match P.underlying e with
     |some (.int .u8)=>some e
     |_=>none
    |_=>none
   |none=>none
  |_=>none
 |_=>none
theorem S3{P:Program}{t e:TypeId}(h:xm P t=some e):d_ P t=some [.pointer none,.slice none 0 0]:=by
 unfold xm at h;split at h
 ·assumption
 ·cases h
def kT(H:List ab)(l:Nat):Bool:=H.all fun o=>match o.label with
 |some k => !ae k l
 |none=>true
theorem qW{H:List ab}{l:Nat}(h:kT H l=true)(i:Nat)(o:ab)(hi:H[i]? = some o):o.label≠some l:=fun e=>by
 have:=dq.1 h o (eB hi);rw[e]at this;simp at this
theorem S4{E:Env}(HE:ar E){t e:TypeId}(d:kT E.H 0=true) :
  cQ E (.ptr E.H.length 0 0 0 0) (E.H++[.eJ 0 t e wz]) (.pointer (some ⟨E.w.heap.size,0,none⟩)) { E.w with heap:=E.w.heap.push (.cells #[.pointer none,.slice none 0 0] t) }:=by
 have k:=Ext.push E.w (.cells #[.pointer none,.slice none 0 0] t);obtain⟨h1,q⟩:=ar.SB (o:=.eJ 0 t e wz) (l:=some (E.w.heap.size,0)) (l0:=0) HE k (fun b n hb=>by cases hb; exact⟨aD _,by simp⟩) rfl (qW d) (by
  simp only[aJ];refine⟨E.w.heap.size,0,.pointer none,.slice none 0 0,(E.X.r 0).length,none,?_,?_,.inl rfl,?_,?_,⟨rfl,rfl⟩⟩
  ·rw[←HE.len]; simp
  ·simp
  ·simp[ib,XS.re]
  ·intro h' h u
   rcases Bf (show (ib E.X.r 0 0)[h']? = some (some h) from u)with g|⟨_,g,_⟩
   ·exact(HE.gd 0 (qW d) h' h g).elim
   ·exact g)
 refine⟨E.loc++[some (E.w.heap.size,0)],ib E.X.r 0,?_,h1,q⟩;simp only[rel];refine⟨⟨_,_,rfl⟩,⟨.eJ 0 t e wz,by simp,rfl,fun v y=>by simp⟩,fun _=>⟨E.w.heap.size,0,?_,by simp⟩⟩;rw[←HE.len]; simp
def pj(P:Program)(t:TypeId)(H:List ab):Option (AV × List ab) :=
 match xm P t with
 |some e=>if kT H 0=true then some (.ptr H.length 0 0 0 0,H++[.eJ 0 t e wz]) else none
 | none=>match d_ P t with
  |some z=>some (.ptr H.length 0 0 0 0,H++[.box (z.map .lit)])
  |none=>none
theorem S5{P:Program}{E:Env}(HE:ar E){t:TypeId}{v:AV}{H':List ab}(h:pj P t E.H=some (v,H')) :
  ∃ u w',(AO t true (.tuple #[])).run P E.w=.ok u w'∧cQ E v H' u w':=by
 unfold pj at h;split at h
 ·rename_i e he
  split at h
  case isFalse=>cases h
  rename_i I;cases h;obtain⟨i,k,h1,q,d,B⟩:=lE (S3 he);have y:k.cells=#[.pointer none,.slice none 0 0]:=fm (by simpa using d);refine⟨_,_,?_,S4 HE (t:=t) (e:=e) I⟩;simp[AO,lF h1 q,newVar,newRow,y]
 split at h
 ·rename_i z y
  cases h;obtain⟨i,k,h1,q,d,B⟩:=lE y;refine⟨_,_,?_,Ik HE (vals:=k.cells) (el:=t) (by rw[d]; exact nA z) (by rw[d]; exact B)⟩;simp[AO,lF h1 q,newVar,newRow]
 ·cases h
def zc:Option (List Kd)→Value→AV
 |some ks,.slice none 0 0=>.listF ks []
 |_,v=>.lit v
def dS:List (Option (List Kd))→List Value→List AV
 |_,[]=>[]
 | [],v::z=>.lit v::dS [] z
 |a::m,v::z=>zc a v::dS m z
theorem xn:∀(m:List (Option (List Kd))) (z:List Value),(dS m z).length=z.length
 | [],[]=>rfl
 |_::_,[]=>rfl
 | [],v::z=>by simp[dS,xn [] z]
 |a::m,v::z=>by simp[dS,xn m z]
theorem S6{E:Env}(a:Option (List Kd))(v:Value):rel E (zc a v) v:=by
 unfold zc;split
 ·simp only [rel, dV]
  exact⟨none,0,rfl,aD _,.inl rfl⟩
 ·simp[rel]
theorem BD{E:Env}:∀(m:List (Option (List Kd))) (z:List Value),af E (dS m z) z
 | [],[]=>by simp[dS,af]
 |_::_,[]=>by simp[dS,af]
 | [],v::z=>by simp only[dS,af]; exact⟨by simp[rel],BD [] z⟩
 |a::m,v::z=>by simp only[dS,af]; exact⟨S6 a v,BD m z⟩
theorem S7(a:Option (List Kd))(v:Value):(zc a v).closed=true:=by
 unfold zc;split<;>rfl
theorem BE:∀(m:List (Option (List Kd))) (z:List Value),AV.bl (dS m z)=true
 | [],[]=>rfl
 |_::_,[]=>rfl
 | [],v::z=>by simp[dS,AV.bl,AV.closed,BE [] z]
 |a::m,v::z=>by simp[dS,AV.bl,S7,BE m z]
def nF(P:Program)(t:TypeId)(id:Nat) (m:List (Option (List Kd))) (H:List ab):Option (AV × List ab) :=
 match d_ P t,H[id]? with
 |some z,some (.vec k 0 [])=>if k=z.length then some (.ptr id 1 k 0 0,H.set id (.vec k 1 [dS m z])) else none
 |_,_=>none
theorem S8{E:Env}(HE:ar E){id k:Nat}{cells:List AV}{vals:Array Value}{el:TypeId}(hid:E.H[id]? = some (.vec k 0 []))(hr:af E cells vals.toList)(h1:∀ x∈vals.toList,dv x=true)(hk:cells.length=k)
  (O:AV.bl cells=true) :
  cQ E (.ptr id 1 k 0 0) (E.H.set id (.vec k 1 [cells])) (.pointer (some ⟨E.w.heap.size,0,none⟩)) { E.w with heap:=E.w.heap.push (.cells vals el) }:=by
 have q:=Ext.push E.w (.cells vals el);have M:=aI hid;have B:∀ v,(ab.vec k 1 [cells]).aF = some v→∀ u,(ab.vec k 0 []).aF = some u→u<v:=by
  intro v d u hu;simp[ab.aF]at d hu;omega
 have N:∀ v u,(ab.vec k 1 [cells]).aF = some v→(ab.vec k 0 []).aF = some u→u≤v:=by
  intro v u d hu;simp[ab.aF]at d hu;omega
 have I:(ab.vec k 0 []).aF = none→(ab.vec k 1 [cells]).aF = none:=by simp[ab.aF]
 have hle:E.le { w:={ E.w with heap:=E.w.heap.push (.cells vals el) },H:=E.H.set id (.vec k 1 [cells]),loc:=E.loc.set id (some (E.w.heap.size,1)),X:=E.X } :=
  Env.jD hid HE.len q.size (fun x y _=>q.same x y) (fun b n h=>by cases h; exact .inl (aD _)) (.inr B) N (fun _=>I)
 have hblk:(E.w.heap.push (.cells vals el))[E.w.heap.size]? = some (.cells vals el (0,0)):=by simp
 have J:(E.loc.set id (some (E.w.heap.size,1)))[id]? = some (some (E.w.heap.size,1)):=bx (by rw[HE.len]; exact M);have U:=dw hle _ hr;refine⟨E.loc.set id (some (E.w.heap.size,1)),E.X.r,?_,?_,hle⟩
 ·simp only [rel]
  refine⟨⟨_,_,rfl⟩,⟨.vec k 1 [cells],by simp[M],rfl,fun v d=>by simp[ab.aF]at d; omega⟩,fun _=>⟨E.w.heap.size,1,J,by simp⟩⟩
 ·refine ar.kP HE hid q.size (fun x y _ => q.same x y) (fun b n h => by cases h; exact .inl ⟨aD _, by simp⟩) (.inr B) N (fun _ => I) ?_
  simp only[aJ];right;refine⟨E.w.heap.size,1,J,⟨vals,el,hblk,?_⟩,by simp,?_,?_⟩
  ·have := gb hr
   rw[Hn,←hk];simpa using this.symm
  ·intro r hr
   simp at hr;rw[hr];exact O
  ·simp only [cA, and_true]
   exact⟨hk,Bv (cs:=vals) (el:=el) (fr:=(0,0)) hblk U h1⟩
theorem S9{P:Program}{E:Env}(HE:ar E){t:TypeId}{id:Nat}{m:List (Option (List Kd))}{v:AV}{H':List ab}(h:nF P t id m E.H=some (v,H')) :
  ∃ u w',(AO t true (.tuple #[])).run P E.w=.ok u w'∧cQ E v H' u w':=by
 unfold nF at h;split at h
 ·rename_i z k q hid
  split at h
  ·rename_i hk
   cases h;obtain⟨i,y,h1,B,d,I⟩:=lE q;refine⟨_,_,?_,S8 HE (vals:=y.cells) (el:=t) hid (by rw[d]; exact BD m z) (by rw[d]; exact I) (by rw[xn,hk]) (BE m z)⟩;simp[AO,lF h1 B,newVar,newRow]
  ·cases h
 ·cases h
def xo(v:AV)(H:List ab):Option (AV × List ab) :=
 match pg v with
 |some cs=>some (.ptr H.length 0 0 0 0,H++[.box cs])
 |none=>none
theorem S_{P:Program}{E:Env}(HE:ar E){t:TypeId}{x v:AV}{c:Value}{H':List ab}(h:xo x E.H=some (v,H'))(k:rel E x c) :
  ∃ u w',(agP t c).run P E.w=.ok u w'∧cQ E v H' u w':=by
 unfold xo at h;split at h
 ·rename_i cs d
  cases h;obtain⟨h1,q⟩:=Bs d k;refine⟨_,_,?_,Ik HE (vals:=c.cells) (el:=t) h1 q⟩;simp[agP,newVar,newRow]
 ·cases h
theorem Il{E:Env}(HE:ar E){sz n C:Nat}{rows:List (List AV)}{vals rest:List Value}{el:TypeId}(hr:af E rows.flatten vals)(h1:∀ x∈vals,dv x=true)
  (hw:∀ r∈rows,r.length=sz) (u:eS rows) (d:rows.length=n) (hC:n≤C) (q:rest.length=(C-n)*sz) :
  cQ E (.vec sz E.H.length 0 0 n) (E.H++[.vec sz 0 rows]) (.slice (some ⟨E.w.heap.size,0,none⟩) n C) { E.w with heap:=E.w.heap.push (.cells (vals++rest).toArray el) }:=by
 have h:=Ext.push E.w (.cells (vals++rest).toArray el);have hle:=Env.jC (o:=.vec sz 0 rows) (l:=some (E.w.heap.size,C)) HE.len h (fun b n hb=>by cases hb; exact aD _);have hblk:(E.w.heap.push (.cells (vals++rest).toArray el))[E.w.heap.size]? = some (.cells (vals++rest).toArray el (0,0)):=by simp
 have k:=By (E':=E.push { E.w with heap:=E.w.heap.push (.cells (vals++rest).toArray el) } (.vec sz 0 rows) (some (E.w.heap.size,C))) (fun a c hr=>bH hle a hr) hblk hr h1 hw d hC q;refine⟨E.loc++[some (E.w.heap.size,C)],E.X.r,?_,ar.push HE h (fun b n hb=>?_) ?_,hle⟩
 ·simp only [rel]
  refine⟨⟨_,_,rfl,hC,fun _=>⟨_,_,rfl⟩⟩,⟨.vec sz 0 rows,by simp,rfl,fun v y=>by simp[ab.aF]at y; omega⟩,fun _=>⟨fun d=>?_,fun b M d=>?_⟩⟩
  ·rw[←HE.len]at d; simp at d
  ·rw [← HE.len] at d
   simp at d;obtain⟨rfl,rfl⟩:=d;exact⟨by omega,0,fun _=>by simp,by simp⟩
 ·cases hb
  exact⟨aD _,by simp⟩
 ·simp only [aJ]
  right;refine⟨E.w.heap.size,C,?_,k.1,by omega,u,k.2⟩;simp only[Env.push];rw[←HE.len];simp
theorem range_zero(z:Array Value)(n:Nat)(q:0<z.size):((gu (n*z.size)).map (fun i=>z[i%z.size]!)).toList=(bO n z.toList).flatten:=by
 induction n with
 |zero=>simp
 | succ n h =>
  rw[List.replicate_succ',wH,←h];simp only[qs,List.flatten_nil,db];apply jU;intro i;simp only[RW,Array.toList_range,bT,fk,cN,List.length_range];by_cases c1:i<n*z.size
  ·have c2 : i < (n + 1) * z.size := by rw [fE]; omega
   simp[c1,c2]
  ·by_cases c2 : i < (n + 1) * z.size
   ·have d : i - n * z.size < z.size := by rw [fE] at c2; omega
    have k:i%z.size=i-n*z.size:=by
     have:i=i-n*z.size+n*z.size:=by omega
     rw[this,Nat.add_mul_mod_self_right,Nat.mod_eq_of_lt d];omega
    simp[c1,c2,k,d]
   ·have d : ¬ (i - n * z.size < z.size) := by rw [fE] at c2; omega
    simp[c1,c2,d]
theorem Im(f:Nat→Value):Ho f (gu 0)=#[]:=by apply fm; simp
def S':Value→Option Kd
 |.int k _=>some (.int k)
 |.string _=>some .str
 |.bool _=>some .bool
 |_=>none
def BF:List Value→Option (List Kd)
 | []=>some []
 | v::vs=>match S' v,BF vs with
  |some k,some ks=>some (k::ks)
  |_,_=>none
def BG(P:Program)(t:TypeId):Option (List Kd):=match P.underlying t with
 | some (.slice e)=>match P.info? e with
  | some i=>match i.zero with
   |some (.agg cs)=>BF cs.toList
   |some v=>BF [v]
   |none=>none
  |none=>none
 |_=>none
def BH(P:Program):Nat→TypeId→List TypeId
 |0,t=>[t]
 | d+1,t=>match P.underlying t with
  |some (.struct h)=>(h.toList.map fun f=>BH P d f.type).flatten
  |some (.array n e)=>(bO n (BH P d e)).flatten
  |_=>[t]
def mC:List Value→List (Option (List Kd))→List AV
 | [],_=>[]
 | v::vs,ks=>(match v,ks.headD none with
  |.slice none 0 0,some k=>.listF k []
  |v,_=>.lit v)::mC vs ks.tail
def xp(P:Program)(e:TypeId)(z:List Value):List AV:=mC z ((BH P 4 e).map (BG P))
theorem Io:∀(z:List Value) (ks:List (Option (List Kd))),(mC z ks).length=z.length
 | [],_=>rfl
 |_::z,ks=>by simp[mC,Io z]
theorem Ip{E:Env}:∀(z:List Value) (ks:List (Option (List Kd))),af E (mC z ks) z
 | [],_=>by simp[mC,af]
 | v::z,ks=>by
  simp only[mC,af];refine⟨?_,Ip z _⟩;split
  ·simp only [rel, dV, G.rows]
   exact⟨none,0,rfl,aD _,.inl (by first|rfl|trivial)⟩
  ·simp[rel]
theorem Iq:∀(z:List Value) (ks:List (Option (List Kd))),AV.bl (mC z ks)=true
 | [],_=>rfl
 | v::z,ks=>by
  simp only[mC,AV.bl,Iq z,fD];split<;>rfl
theorem Ir{E:Env}{as:List AV}{z:List Value}(h:af E as z):∀ n:Nat,af E (bO n as).flatten (bO n z).flatten
 |0=>by simp[af]
 | n+1=>by
  simp only[RX,qs];exact j7 h (Ir h n)
def tO(P:Program)(t:TypeId)(l c:AV)(H:List ab):Option (AV × List ab) :=
 match b_ P t,l,c with
 | .slice e sz d,.lit (.int _ l),.lit (.int _ c) =>
  match d_ P e with
  | some z=>if z.length=sz∧0<sz∧0≤l∧l≤c∧c≤1048576∧d≤1048576 then
    some (.vec sz H.length 0 0 l.toNat,H++[.vec sz 0 (bO l.toNat (xp P e z))]) else none
  |none=>none
 |_,_,_=>none
theorem wrap_small{n:Int}(h0:0≤n)(h1:n≤1048576):IntKind.i64.wrap n=n:=by
 simp[IntKind.wrap,IntKind.bits,IntKind.signed];omega
theorem tP{E:Env}(z:List Value):∀ n:Nat,af E (bO n (z.map AV.lit)).flatten (bO n z).flatten
 |0=>by simp[af]
 | n+1=>by
  simp only[RX,qs];exact j7 (nA z) (tP z n)
theorem tQ{α:Type}{z:List α}{n:Nat}{x:α}(h:x∈(bO n z).flatten):x∈z:=by
 obtain⟨l,h1,d⟩:=List.mem_flatten.1 h;rw[RY h1]at d;exact d
theorem BI:∀(z:List Value),AV.bl (z.map .lit)=true
 | []=>rfl
 |v::z=>by simp[AV.bl,AV.closed,BI z]
theorem Ta{P:Program}{E:Env}(HE:ar E){t:TypeId}{l c v:AV}{cl M:Value}{H':List ab}(h:tO P t l c E.H=some (v,H'))
  (N:rel E l cl) (O:rel E c M):∃ u w',(agQ t cl M).run P E.w=.ok u w'∧cQ E v H' u w':=by
 unfold tO at h;split at h
 case h_2=>cases h
 rename_i e sz by_ k1 l k2 c hk;simp only[rel]at N O;subst N; subst O;obtain⟨hu,i,hi,hs,hby⟩:=gz hk;split at h
 case h_2=>cases h
 rename_i z hz;split at h
 case isFalse=>cases h
 rename_i V;obtain⟨g1,g2,g3,g4,g5,g6⟩:=V;cases h;obtain⟨i',d,B,hz1,I,hz3⟩:=lE hz;rw[hi]at B;cases B;have wl:IntKind.i64.wrap l=l:=wrap_small g3 (by omega);have wc:IntKind.i64.wrap c=c:=wrap_small (by omega) g5;have hbc:(i.bytes:Int)*c≤1048576*1048576:=by
  have h1:(i.bytes:Int)≤1048576:=by omega
  have k:(0:Int)≤c:=by omega
  exact Int.mul_le_mul h1 g5 k (by omega)
 have aw:¬ (281474976710656<(i.bytes:Int)*c):=by omega
 have hzs:d.cells.size=sz:=by rw[←g1,←I]; simp
 have y:(bO l.toNat z).flatten++(bO (c.toNat-l.toNat) z).flatten=(bO c.toNat z).flatten:=by
  rw[←wH,List.replicate_append_replicate];congr 2;omega
 obtain⟨vals,q⟩:∃ vals,vals=(bO l.toNat z).flatten:=⟨_,rfl⟩
 obtain⟨rest,J⟩:∃ rest,rest=(bO (c.toNat-l.toNat) z).flatten:=⟨_,rfl⟩
 have W:rest.length=(c.toNat-l.toNat)*sz:=by rw[J]; simp[g1]
 rw[←q,←J]at y;refine⟨.slice (some ⟨E.w.heap.size,0,none⟩) l.toNat c.toNat,{ E.w with heap:=E.w.heap.push (.cells (vals++rest).toArray e) },?_,?_⟩
 ·have h1 : ¬ c < 0 := by omega
  have k:¬ l<0:=by omega
  have h3:¬ c<l:=by omega
  simp only[agQ,bW,Sem.bp hu,bX,asInt,asIntOf,fl,typeInfo,run_program,hi,wl,wc];rw[if_neg (by simp[h1,k,h3,aw])];simp only[bW,run_askRoom,bX,Sem.run_sizeOf hi];rw[y];by_cases h0:c.toNat*i.size=0
  ·have:c.toNat=0:=by
    rcases RZ.1 h0 with h|h
    ·exact h
    ·omega
   rw[if_pos h0];simp only[bW,fl,bX,newRow,this,qt,Im];simp
  ·rw [if_neg h0]
   simp only[bW,lF hi hz1,bX,fl,newRow];have:(Ho (fun x=>d.cells[x%d.cells.size]!) (gu (c.toNat*i.size)))=(bO c.toNat z).flatten.toArray:=by
    apply fm;rw[hs,←hzs,range_zero d.cells c.toNat (by omega),I]
   rw[this];simp
 ·refine Il HE (C := c.toNat) (by rw [q]; exact Ir (Ip z _) _) (by intro x U; rw [q] at U; exact hz3 x (tQ U)) ?_ ?_ (by simp) (by omega) W
  ·intro r hr
   have:=RY hr;rw[this];rw[xp,Io]; exact g1
  ·intro r hr
   have:=RY hr;rw[this];exact Iq z _
def qX(P:Program)(t:TypeId)(n:Nat)(parts:List (Nat × AV)):Option AV :=
 match b_ P t with
 | .slice e sz _=>match d_ P e with
  | some z=>if z.length=sz∧0<sz∧n*sz≤1048576 then
    match ph (fun i=>some (i*sz,sz)) (bO n (z.map AV.lit)).flatten parts with
    |some out=>if AV.bl out=true∧out.length=n*sz then some (match n with|0=>.nils|_=>.list sz (chunk sz n out)) else none
    |none=>none
   else none
  |none=>none
 |_=>none
theorem Tb{P:Program}{E:Env}(HE:ar E){t:TypeId}{n:Nat}{parts:List (Nat × AV)}{cparts:List (Nat × Value)}{v:AV}(h:qX P t n parts=some v)
  (hm:parts.map (·.1)=cparts.map (·.1)) (hv:af E (parts.map (·.2)) (cparts.map (·.2))) :
  ∃ u w',(Hq t n cparts.toArray).run P E.w=.ok u w'∧Ext E.w w'∧rel { E with w:=w' } v u:=by
 unfold qX at h;split at h
 case h_2=>cases h
 rename_i e sz by_ hk;obtain⟨hu,i,hi,q,_⟩:=gz hk;split at h
 case h_2=>cases h
 rename_i z hz;obtain⟨i',y,J,V,M,W⟩:=lE hz;rw[hi]at J;cases J;split at h
 case isFalse=>cases h
 rename_i hc;obtain⟨g1,g2,g3⟩:=hc;split at h
 case h_2=>cases h
 rename_i out U;split at h
 case isFalse=>cases h
 rename_i N;cases h;have hzs:y.cells.size=sz:=by rw[←g1,←M]; simp
 obtain⟨d,k⟩:∃ d:Array Value,d.toList=(bO n z).flatten:=⟨((bO n z).flatten).toArray,by simp⟩
 obtain⟨o,f1,f2,f3⟩:=tM (E:=E) (cs:=d) U (by rw[k]; exact tP z n) (by rw[k]; intro x B; exact W x (tQ B)) hm hv;have I:=Ext.push E.w (.cells o e);have hblk:(E.w.heap.push (.cells o e))[E.w.heap.size]? = some (.cells o e (0,0)):=by simp
 refine⟨.slice (some ⟨E.w.heap.size,0,none⟩) n n,{ E.w with heap:=E.w.heap.push (.cells o e) },?_,I,?_⟩
 ·have hno : ¬ (n * i.size > 2 ^ 24) := by rw [q]; omega
  simp only[Hq,bW,Sem.bp hu,bX,Sem.run_sizeOf hi];rw[if_neg hno];by_cases h0:n*i.size=0
  ·have O:n=0:=by
    rcases RZ.1 h0 with h|h
    ·exact h
    ·omega
   have:d=#[]:=by apply fm; rw[k,O]; rfl
   rw[if_pos h0];rw[this]at f1;simp only[bW,fl,bX,O,qt,Im,q,f1];simp[newRow]
  ·rw [if_neg h0]
   simp only[bW,lF hi V,bX,fl];have:(Ho (fun x=>y.cells[x%y.cells.size]!) (gu (n*i.size)))=d:=by
    apply fm;rw[q,←hzs,range_zero y.cells n (by omega),M,k]
   rw[this,q,f1];simp[newRow]
 ·have hle : E.le { E with w := { E.w with heap := E.w.heap.push (.cells o e) } } := Env.jd I
  cases n with
  |zero=>simp only[rel]; exact⟨_,rfl⟩
  |succ n =>
  simp only[rel];refine⟨Bu sz _ out N.1,some ⟨E.w.heap.size,0,none⟩,n+1,by rw[tN],by rw[tN]; exact aD _,.inr ⟨E.w.heap.size,0,rfl,?_,?_⟩⟩
  ·refine ⟨by simp, ?_, fun B => by have := HE.X _ B; omega⟩
   rintro ho;have:=(HE.w5 ho).1;omega
  ·exact H8 sz _ out _ 0 N.2 (Bv (cs:=o) (el:=e) (fr:=(0,0)) hblk (dw hle _ f2) f3)
end Go.AL

namespace Go.AL
open Go
variable [Dr]
def xq(P:Program)(t:TypeId)(x:AV)(H:List ab):Option (AV × List ab) :=
 match b_ P t,x with
 |.str,.lit (.string s)=>some (.ptr H.length 0 0 0 0,H++[.iter s 0])
 |_,_=>none
theorem Tc{E:Env}(HE:ar E)(s:ByteArray) :
  cQ E (.ptr E.H.length 0 0 0 0) (E.H++[.iter s 0]) (.pointer (some ⟨E.w.heap.size,0,none⟩)) { E.w with heap:=E.w.heap.push (.stringIter s 0) }:=by
 have d:=Ext.push E.w (.stringIter s 0);have hle:=Env.jC (o:=.iter s 0) (l:=some (E.w.heap.size,0)) HE.len d (fun b n hb=>by cases hb; exact aD _);have hblk:(E.w.heap.push (.stringIter s 0))[E.w.heap.size]? = some (.stringIter s 0):=by simp
 refine⟨E.loc++[some (E.w.heap.size,0)],E.X.r,?_,ar.push HE d (fun b n hb=>?_) ?_,hle⟩
 ·simp only [rel]
  refine⟨⟨_,_,rfl⟩,⟨.iter s 0,by simp,rfl,fun v h=>by simp⟩,fun _=>⟨E.w.heap.size,0,?_,by simp⟩⟩;rw[←HE.len]; simp
 ·cases hb
  exact⟨aD _,by simp⟩
 ·simp only [aJ]
  refine⟨E.w.heap.size,0,?_,hblk⟩;simp only[Env.push]; rw[←HE.len]; simp
theorem Td{P:Program}{E:Env}(HE:ar E){t:TypeId}{x v:AV}{c:Value}{H':List ab}(h:xq P t x E.H=some (v,H'))(d:rel E x c) :
  ∃ u w',(R0 t c).run P E.w=.ok u w'∧cQ E v H' u w':=by
 unfold xq at h;split at h
 ·rename_i s hk
  cases h;simp only[rel]at d;subst d;refine⟨_,_,?_,Tc HE s⟩;simp[R0,Sem.bp (pe hk),newObj];rfl
 ·cases h
def xr(x:AV)(isString:Bool)(H:List ab):Option (AV × List ab) :=
 match x,isString with
 | .ptr id 0 _ 0 0,true=>match H[id]? with
  | some (.iter s pos)=>if pos<s.size then some (.tuple [.lit (.bool true),.lit (goInt pos),.lit (.int .i32 (nm s pos).1)],H.set id (.iter s (pos+(nm s pos).2)))
    else some (.tuple [.lit (.bool false)],H)
  |_=>none
 |_,_=>none
theorem Te{P:Program}{E:Env}(HE:ar E){x v:AV}{c:Value}{isString:Bool}{ty:TypeId}{H':List ab}(h:xr x isString E.H=some (v,H'))(N:rel E x c) :
  ∃ u w',(Instr.next c isString ty).run P E.w=.ok u w'∧cQ E v H' u w':=by
 unfold xr at h;split at h
 case h_2=>cases h
 rename_i id k;split at h
 case h_2=>cases h
 rename_i s pos hid;have ho:=HE.obj id _ hid;simp only[aJ]at ho;obtain⟨b,n,h1,q⟩:=ho;simp only[rel]at N;obtain⟨_,_,O⟩:=N;obtain⟨W,n',g1,g2⟩:=O ⟨_,hid,rfl⟩;rw[h1]at g1;simp only[aQ,a7]at g1;obtain⟨rfl,rfl⟩:=g1;have hb:=(HE.lt id b n h1).1;split at h
 ·rename_i d
  cases h;subst g2;have M:({ E.w with heap:=E.w.heap.setIfInBounds b (.stringIter s (pos+(nm s pos).2)) }:World).heap.size=E.w.heap.size:=by simp
  have J:∀ y,y≠b→({ E.w with heap:=E.w.heap.setIfInBounds b (.stringIter s (pos+(nm s pos).2)) }:World).heap[y]? = E.w.heap[y]? := by
   intro y U;simp only[AP];rw[if_neg (fun e=>U e.symm)]
  refine⟨.tuple #[.bool true,goInt pos,.int .i32 (nm s pos).1],{ E.w with heap:=E.w.heap.setIfInBounds b (.stringIter s (pos+(nm s pos).2)) },?_,E.loc,E.X.r,?_,?_,?_⟩
  ·have B : (getObj b).run P E.w = .ok (.stringIter s pos) E.w := by simp [getObj, gv, q]
   have V:(setObj b (.stringIter s (pos+(nm s pos).2))).run P E.w=.ok () { E.w with heap:=E.w.heap.setIfInBounds b (.stringIter s (pos+(nm s pos).2)) }:=by
    simp[setObj,gv,q]
   simp only[Instr.next,qt,lv,bW,B,bX,d,if_true];rw[V];rfl
  ·simp[rel,af]
  ·exact HE.set hid h1 (fun v I=>I) M J (by
    simp only[aJ];exact⟨b,n,h1,by simp[hb]⟩)
  ·exact Env.mB HE hid h1 (fun v I=>I) M J
 ·rename_i d
  cases h;subst g2;refine⟨.tuple #[.bool false],E.w,?_,E.loc,E.X.r,by simp[rel,af],by simpa using HE,Env.le.refl E⟩;have B:(getObj b).run P E.w=.ok (.stringIter s pos) E.w:=by simp[getObj,gv,q]
  simp only[Instr.next,qt,lv,bW,B,bX,d,if_false];rfl
end Go.AL

namespace Go.AL
open Go
variable [Dr]
def gB(P:Program)(d:TypeId)(a:AV):Option (List Value) :=
 match flatK P mz d with
 |none=>none
 | some ks=>match a with
  |.lit v=>if cB ks [v]=true∧my (P.underlying d)=false then some [v] else none
  | .agg as=>match mw as with
   |some l=>if cB ks l=true∧my (P.underlying d)=true then some l else none
   |none=>none
  |_=>none
def mD(P:Program)(d:TypeId)(l:List Value)(c:Value):Prop:=isVal P d c l∧∃ ks,flatK P mz d=some ks∧cB ks l=true
theorem ij{P:Program}{E:Env}{k:TypeId}{a:AV}{l:List Value}{c:Value}(h:gB P k a=some l)(hr:rel E a c):mD P k l c:=by
 unfold gB at h;split at h
 ·cases h
 rename_i ks hk;split at h
 ·split at h
  ·rename_i v d
   cases h;simp only[rel]at hr;subst hr;refine⟨?_,ks,hk,d.1⟩;unfold isVal;split
   ·rename_i q hu
    rw[hu]at d;exact absurd d.2 (by simp[my])
   ·rfl
  ·cases h
 ·split at h
  ·rename_i as l' y
   split at h
   ·rename_i d
    cases h;simp only[rel]at hr;obtain⟨cs,rfl,_,B⟩:=hr;refine⟨?_,ks,hk,d.1⟩;have e:=xf y B;unfold isVal;split
    ·exact⟨cs,rfl,e⟩
    ·rename_i u
     exfalso;have:=d.2;unfold my at this;split at this
     ·rename_i q hu
      exact u q hu
     ·cases this
   ·cases h
  ·cases h
 ·cases h
theorem It{P:Program}:∀(d:Nat) (k:List Field) (off:Nat) (ks:List SK),tL P d k off=some ks→∀(xs:Array Value),cB ks (xs.toList.drop off)=true→∀ w:World,∀ f∈k,f.name ≠ "_" ∧
  ∃ q x vs,flatK P d f.type=some q∧(part f.type xs f.offset).run P w=.ok x w∧isVal P f.type x vs∧cB q vs=true
 |d,[],off,ks,hk,xs,y,w,f,h=>by cases h
 | d,g::k,off,ks,hk,xs,y,w,f,h=>by
  unfold tL qP at hk;split at hk
  ·cases hk
  rename_i B;split at hk
  case h_2=>cases hk
  rename_i q n W I N;split at hk
  case isFalse=>cases hk
  rename_i J;split at hk
  case h_2=>cases hk
  rename_i l O;cases hk;have M:g.offset=off:=by
   by_cases e:g.offset=off
   ·exact e
   ·exact(B (.inr e)).elim
  obtain⟨u,v⟩:=xd y;rw[←J]at u v;rcases bR.1 h with rfl|h
  ·obtain ⟨x, U, V⟩ := Bm N I J xs off u w
   exact⟨fun e=>B (.inl e),q,x,_,I,by rw[M]; exact U,V,u⟩
  ·exact It d k (off+n) l O xs (by rw[oS]at v; exact v) w f h
theorem Iu{P:Program}(em:Bool):∀(d:Nat) (t:TypeId) (ks:List SK),flatK P d t=some ks→∀(D:Nat),d≤D→∀(x:Value) (vs:List Value),isVal P t x vs→cB ks vs=true →
  ∀ w,(tn em D t x).run P w=.ok () w
 |0,_,_,hk=>by simp[flatK]at hk
 | d+1,t,ks,hk=>by
  intro D hD x vs q h w;obtain⟨D,rfl⟩:∃ v,D=v+1:=⟨D-1,by omega⟩
  unfold flatK at hk;cases hu:P.underlying t with
  |none=>rw[hu]at hk; cases hk
  | some B =>
   rw[hu]at hk;cases B with
   | struct u =>
    simp only[]at hk;split at hk
    ·cases hk
    simp only[isVal,hu]at q;obtain⟨a,rfl,rfl⟩:=q;have each:=It d u.toList 0 ks hk a (by simpa using h) w;have deep:∀ f∈u.toList,f.name ≠ "_" ∧ ∃ x,(part f.type a f.offset).run P w=.ok x w∧(tn em D f.type x).run P w=.ok () w:=fun f I=>by
     obtain⟨h1,J,x,vs,M,N,O,U⟩:=each f I;exact⟨h1,x,N,Iu em d f.type J M D (by omega) x vs O U w⟩
    rw[tn];simp only[bW,Sem.bp hu,bX];rw[←Array.forIn_toList];clear each hk;generalize u.toList=L at deep
    induction L with
    |nil=>simp
    | cons f L V =>
     obtain⟨W,x,p1,p2⟩:=deep f (by simp);simp only[List.forIn_cons,bW,W,ne_eq,not_false_eq_true,if_true,bX,p1,p2,fl];exact V (fun y hy=>deep y (by simp[hy]))
   | int k =>
    simp at hk;subst hk;simp only[isVal,hu]at q;subst q;simp only[cB,fD]at h;unfold kindOk at h;split at h<;>simp_all[tn,Sem.bp hu]
   | string =>
    simp at hk;subst hk;simp only[isVal,hu]at q;subst q;simp only[cB,fD]at h;unfold kindOk at h;split at h<;>simp_all[tn,Sem.bp hu]
   | bool =>
    simp at hk;subst hk;simp only[isVal,hu]at q;subst q;simp only[cB,fD]at h;unfold kindOk at h;split at h<;>simp_all[tn,Sem.bp hu]
   |_=>simp at hk
theorem gg{P:Program}{d:TypeId}{l:List Value}{c:Value}(h:mD P d l c)(em:Bool)(w:World):(tn em 10000 d c).run P w=.ok () w:=by
 obtain⟨h1,ks,k,q⟩:=h;exact Iu em mz d ks k 10000 (by decide) c l h1 q w
theorem Tf{P:Program}{k:TypeId}{l m:List Value}{c d:Value}(h:mD P k l c)(h':mD P k m d)(w:World):(wF k c d).run P w=.ok (dA l m) w:=by
 obtain⟨h1,ks,q,v⟩:=h;obtain⟨y,I,u,B⟩:=h';rw[q]at u;cases u;exact Bn mz k ks q 10000 (by decide) c d l m h1 y v B w
def ew(P:Program)(d:TypeId)(k:List Value):List (AV × AV × Nat)→Nat→Option (Option (Nat × AV))
 | [],_=>some none
 | (k',v,_)::es,i=>match gB P d k' with
  |some l=>bif dA k l then some (some (i,v)) else ew P d k es (i+1)
  |none=>none
def di(E:Env)(ms:List MapEntry)(i0:Nat):Option (Nat × AV)→Option (Nat × Value)→Prop
 |none,none=>True
 |some (i,v),some (j,c)=>i=j∧rel E v c∧i0≤i∧∃ e,ms[i-i0]? = some e∧e.val=c
 |_,_=>False
theorem Iv{P:Program}{E:Env}{d:TypeId}{k:List Value}{c:Value}(hk:mD P d k c)(w:World):∀(es:List (AV × AV × Nat)) (ms:List MapEntry) (i:Nat) (r:Option (Nat × AV)),
  bB E es ms→ew P d k es i=some r→∃ r',(R3 d c ms i).run P w=.ok r' w∧di E ms i r r'
 | [],[],i,r,_,h=>by
  simp only[ew,aQ]at h;subst h;exact⟨none,rfl,trivial⟩
 | [],_::_,_,_,hr,_=>by simp[bB]at hr
 |(_,_,_)::_,[],_,_,hr,_=>by simp[bB]at hr
 | (k',v,n)::es,e::ms,i,r,hr,h=>by
  simp only[bB]at hr;obtain⟨h1,y,U,V,W,B⟩:=hr;simp only[ew]at h;split at h
  case h_2=>cases h
  rename_i l I;have he:=Tf hk (ij I h1) w;cases u:dA k l with
  | true =>
   rw[u]at h he;cases h;refine⟨some (i,e.val),by simp[R3,he],rfl,y,aD _,e,by simp,rfl⟩
  | false =>
   rw[u]at h he;obtain⟨r',g1,g2⟩:=Iv hk w es ms (i+1) r B h;refine⟨r',by simp[R3,he,g1],?_⟩;cases r with
   | none=>cases r' with
    |none=>trivial
    |some _=>simp[di]at g2
   | some p=>cases r' with
    |none=>simp[di]at g2
    | some q =>
     simp only[di]at g2⊢;obtain⟨J,M,q3,e',N,O⟩:=g2;refine⟨J,M,by omega,e',?_,O⟩;rw[show p.1-i=(p.1-(i+1))+1 from by omega];simpa using N
theorem Iw{P:Program}{E:Env}{N:TypeId}{k:List Value}{c:Value}{d:TypeDesc}(hu:P.underlying N=some d)(hk:mD P N k c):∀(es:List (AV × AV × Nat)) (ms:List MapEntry) (i:Nat) (r:Option (Nat × AV)),
  bB E es ms→ew P N k es i=some r→(∃ r',wI d c ms i=some r'∧di E ms i r r')∨wI d c ms i=none
 | [],[],i,r,_,h=>by
  simp only[ew,aQ]at h;subst h;exact .inl ⟨none,rfl,trivial⟩
 | [],_::_,_,_,hr,_=>by simp[bB]at hr
 |(_,_,_)::_,[],_,_,hr,_=>by simp[bB]at hr
 | (k',v,n)::es,e::ms,i,r,hr,h=>by
  simp only[bB]at hr;obtain⟨h1,V,h3,h4,h5,W⟩:=hr;simp only[ew]at h;split at h
  case h_2=>cases h
  rename_i l hl;have U:=ij hl h1;have same:wK d c e.key=some (dA k l)∨wK d c e.key=none:=by
   obtain⟨p1,ks,u,B⟩:=hk;obtain⟨I,ks',M,y⟩:=U;rw[u]at M;cases M;unfold mz at u;unfold flatK at u;rw[hu]at u;cases d with
   |struct fs=>right; simp[wK]
   | int kk =>
    simp at u;subst u;simp only[isVal,hu]at p1 I;subst p1; subst I;simp only[cB,fD]at B y;unfold kindOk at B y;left;split at B<;>split at y<;>simp_all[wK,dA,nD]
   | string =>
    simp at u;subst u;simp only[isVal,hu]at p1 I;subst p1; subst I;simp only[cB,fD]at B y;unfold kindOk at B y;left;split at B<;>split at y<;>simp_all[wK,dA,nD,beq_toListBytes]
   | bool =>
    simp at u;subst u;simp only[isVal,hu]at p1 I;subst p1; subst I;simp only[cB,fD]at B y;unfold kindOk at B y;left;split at B<;>split at y<;>simp_all[wK,dA,nD]
   |_=>simp at u
  rcases same with J|J
  ·cases O : dA k l with
   | true =>
    rw[O]at h J;cases h;exact .inl ⟨some (i,e.val),by simp[wI,J],rfl,V,aD _,e,by simp,rfl⟩
   | false =>
    rw[O]at h J;rcases Iw hu hk es ms (i+1) r W h with⟨r',g1,g2⟩|g
    ·refine .inl ⟨r', by simp [wI, J, g1], ?_⟩
     cases r with
     | none=>cases r' with
      |none=>trivial
      |some _=>simp[di]at g2
     | some p=>cases r' with
      |none=>simp[di]at g2
      | some q =>
       simp only[di]at g2⊢;obtain⟨I,M,y,e',q4,q5⟩:=g2;refine⟨I,M,by omega,e',?_,q5⟩;rw[show p.1-i=(p.1-(i+1))+1 from by omega];simpa using q4
    ·exact .inr (by simp[wI,J,g])
  ·exact .inr (by simp[wI,J])
theorem gP{P:Program}{E:Env}{q:TypeId}{k:List Value}{c:Value}(hk:mD P q k c)(w:World){es:List (AV × AV × Nat)}{ms:List MapEntry}{r:Option (Nat × AV)}
  (hr:bB E es ms) (h:ew P q k es 0=some r):∃ r',(R4 q c ms).run P w=.ok r' w∧di E ms 0 r r':=by
 have hu:∃ d,P.underlying q=some d:=by
  obtain⟨_,ks,u,_⟩:=hk;unfold mz at u;unfold flatK at u;split at u<;>first|exact⟨_,by assumption⟩|cases u
 obtain⟨d,hu⟩:=hu;rcases Iw hu hk es ms 0 r hr h with⟨r',g1,g2⟩|g
 ·exact⟨r',by simp[R4,Sem.bp hu,g1],g2⟩
 ·obtain ⟨r', g1, g2⟩ := Iv hk w es ms 0 r hr h
  exact⟨r',by simp[R4,Sem.bp hu,g,g1],g2⟩
def dc(P:Program)(t:TypeId):Option (TypeId × TypeId):=match P.underlying t with
 |some (.map k e)=>some (k,e)
 |_=>none
theorem ft{P:Program}{t k e:TypeId}(h:dc P t=some (k,e)):P.underlying t=some (.map k e):=by
 unfold dc at h;split at h
 ·rename_i h1; cases h; exact h1
 ·cases h
def gQ(P:Program)(t:TypeId):Option AV:=match P.info? t with
 | some i=>match i.zero with
  |some z=>some (AV.qK z)
  |none=>none
 |none=>none
theorem qY{P:Program}{t:TypeId}{a:AV}(h:gQ P t=some a)(w:World):∃ z,(zeroValue t).run P w=.ok z w∧∀ E,rel E a z:=by
 unfold gQ at h;split at h
 ·rename_i i hi
  split at h
  ·rename_i z d
   cases h;exact⟨z,lF hi d w,fun E=>HN E z⟩
  ·cases h
 ·cases h
def mE(P:Program)(t:TypeId):Option AV:=match gQ P t,BG P t with
 |some (.lit (.slice none 0 0)),some ks=>some (.listF ks [])
 |some z,_=>some z
 |none,_=>none
theorem Ix{P:Program}{t:TypeId}{a:AV}(h:mE P t=some a)(w:World):∃ z,(zeroValue t).run P w=.ok z w∧∀ E,rel E a z:=by
 unfold mE at h;split at h
 ·rename_i ks h1 d
  cases h;obtain⟨z,g1,g2⟩:=qY h1 w;refine⟨z,g1,fun E=>?_⟩;have:=g2 E;simp only[rel]at this;subst this;simp only[rel,dV,G.rows];exact⟨none,0,rfl,aD _,.inl (by first|rfl|trivial)⟩
 ·rename_i z h1 _
  cases h;exact qY ‹gQ P t=some a› w
 ·cases h
def fT(P:Program)(t:TypeId)(m k:AV)(ok:Bool)(H:List ab):Option AV :=
 match dc P t,m with
 | some (d,h),.map id=>match H[id]? with
  | some (.map es _)=>match gB P d k,mE P h with
   | some q,some z=>match ew P d q es 0 with
    | some r=>let v:=match r with
      |some (_,v)=>v
      |none=>z
     some (match ok with
      |true=>.tuple [v,.lit (.bool r.isSome)]
      |false=>v)
    |none=>none
   |_,_=>none
  |_=>none
 |_,_=>none
theorem pk{E:Env}(HE:ar E){id cl:Nat}{es:List (AV × AV × Nat)}{c:Value}(hid:E.H[id]? = some (.map es cl))(hr:rel E (.map id) c) :
  ∃ b n ms,c=.map (some b)∧E.loc[id]? = some (some (b,n))∧E.w.heap[b]? = some (.map ms cl)∧bB E es ms.toList:=by
 have ho:=HE.obj id _ hid;simp only[aJ]at ho;obtain⟨b,n,ms,h1,d,h⟩:=ho;simp only[rel]at hr;obtain⟨_,_,k⟩:=hr;obtain⟨q,u,g1,g2⟩:=k ⟨_,hid,rfl⟩;rw[h1]at g1;simp only[aQ,a7]at g1;obtain⟨rfl,rfl⟩:=g1;exact⟨b,n,ms,g2,h1,d,h⟩
theorem Iy{P:Program}{E:Env}(HE:ar E){t:TypeId}{m k v:AV}{ok:Bool}{c d:Value}(h:fT P t m k ok E.H=some v)(hm:rel E m c)(hk:rel E k d) :
  ∃ u,(kH t c d ok).run P E.w=.ok u E.w∧rel E v u:=by
 unfold fT at h;split at h
 case h_2=>cases h
 rename_i kt et id B;split at h
 case h_2=>cases h
 rename_i es cl hid;split at h
 case h_2=>cases h
 rename_i kv z N O;split at h
 case h_2=>cases h
 rename_i r hr;obtain⟨b,n,ms,rfl,h1,U,V⟩:=pk HE hid hm;have y:=ij N hk;obtain⟨r',g1,g2⟩:=gP y E.w V hr;obtain⟨I,W,z2⟩:=Ix O E.w;have J:(getObj b).run P E.w=.ok (.map ms cl) E.w:=by simp[getObj,gv,U]
 cases h;cases r with
 | none =>
  cases r' with
  |some _=>simp[di]at g2
  | none =>
   refine⟨if ok then .tuple #[I,.bool false] else I,?_,?_⟩
   ·simp only[kH,bW,Sem.bp (ft B),bX,J,fl,gg y,g1,W]
   ·cases ok with
    |true=>simp[rel,af,z2 E]
    |false=>simpa using z2 E
 | some p =>
  cases r' with
  |none=>simp[di]at g2
  | some q =>
   simp only[di]at g2;obtain⟨q1,M,_,_,_,_⟩:=g2;refine⟨if ok then .tuple #[q.2,.bool true] else q.2,?_,?_⟩
   ·simp only[kH,bW,Sem.bp (ft B),bX,J,fl,gg y,g1]
   ·cases ok with
    |true=>simp[rel,af,M]
    |false=>simpa using M
theorem Tg{E:Env}(HE:ar E):cQ E (.map E.H.length) (E.H++[.map [] 0]) (.map (some E.w.heap.size)) { E.w with heap:=E.w.heap.push (.map #[] 0) }:=by
 have d:=Ext.push E.w (.map #[] 0);have hle:=Env.jC (o:=.map [] 0) (l:=some (E.w.heap.size,0)) HE.len d (fun b n hb=>by cases hb; exact aD _);have hblk:(E.w.heap.push (.map #[] 0))[E.w.heap.size]? = some (.map #[] 0):=by simp
 refine⟨E.loc++[some (E.w.heap.size,0)],E.X.r,?_,ar.push HE d (fun b n hb=>?_) ?_,hle⟩
 ·simp only [rel]
  refine⟨⟨_,rfl⟩,⟨.map [] 0,by simp,rfl,fun v h=>eI _⟩,fun _=>⟨E.w.heap.size,0,?_,rfl⟩⟩;rw[←HE.len]; simp
 ·cases hb
  exact⟨aD _,by simp⟩
 ·simp only [aJ]
  refine⟨E.w.heap.size,0,#[],?_,hblk,by simp[bB]⟩;simp only[Env.push]; rw[←HE.len]; simp
def pn(id:Nat)(H:List ab):Option (AV × List ab) :=
 match H[id]? with
 |some .dQ=>some (.map id,H.set id (.map [] 0))
 |_=>none
theorem BJ{id:Nat}{H H':List ab}{v:AV}(h:pn id H=some (v,H')):H[id]? = some .dQ∧v=.map id∧H'=H.set id (.map [] 0):=by
 unfold pn at h;split at h
 ·rename_i hid
  cases h;exact⟨hid,rfl,rfl⟩
 ·cases h
theorem Iz{id:Nat}{H:List ab}(h:H[id]? = some .dQ):pn id H=some (.map id,H.set id (.map [] 0)):=by
 unfold pn;rw[h]
theorem Th{E:Env}(HE:ar E){id:Nat}(hid:E.H[id]? = some .dQ):cQ E (.map id) (E.H.set id (.map [] 0)) (.map (some E.w.heap.size)) { E.w with heap:=E.w.heap.push (.map #[] 0) }:=by
 have d:=Ext.push E.w (.map #[] 0);have I:=aI hid;have q:(ab.dQ).born=true→(ab.dQ).aF = none→(ab.map [] 0).aF = none:=fun h=>by cases h
 have B:∀ v,(ab.map [] 0).aF = some v→∀ u,(ab.dQ).aF = some u→u<v:=fun v _ u hu=>by cases hu
 have J:∀ v u,(ab.map [] 0).aF = some v→(ab.dQ).aF = some u→u≤v:=fun v u _ hu=>by cases hu
 have hblk:(E.w.heap.push (.map #[] 0))[E.w.heap.size]? = some (.map #[] 0):=by simp
 have y:(E.loc.set id (some (E.w.heap.size,0)))[id]? = some (some (E.w.heap.size,0)):=bx (by rw[HE.len]; exact I);have hle:E.le { w:={ E.w with heap:=E.w.heap.push (.map #[] 0) },H:=E.H.set id (.map [] 0),loc:=E.loc.set id (some (E.w.heap.size,0)),X:=E.X } :=
  Env.jD hid HE.len d.size (fun x k _=>d.same x k) (fun b n h=>by cases h; exact .inl (aD _)) (.inr B) J q
 refine⟨E.loc.set id (some (E.w.heap.size,0)),E.X.r,?_,?_,hle⟩
 ·simp only [rel]
  exact⟨⟨_,rfl⟩,⟨.map [] 0,by simp[I],rfl,fun v M=>eI _⟩,fun _=>⟨E.w.heap.size,0,y,rfl⟩⟩
 ·refine ar.kP HE hid d.size (fun x k _ => d.same x k) (fun b n h => by cases h; exact .inl ⟨aD _, by simp⟩) (.inr B) J q ?_
  simp only[aJ];exact⟨E.w.heap.size,0,#[],y,hblk,by simp[bB]⟩
theorem Ti{P:Program}{E:Env}(HE:ar E){t:TypeId}{id:Nat}{v:AV}{H':List ab}(h:pn id E.H=some (v,H')) :
  ∃ u w',(R5 t none).run P E.w=.ok u w'∧cQ E v H' u w':=by
 obtain⟨h1,rfl,rfl⟩:=BJ h;exact⟨_,_,by simp[R5,newObj]; rfl,Th HE h1⟩
theorem IA{a b:ByteArray}(h:a.toList=b.toList):a=b:=by
 have h1:(a==b)=true:=by rw[beq_toListBytes,h]; simp
 obtain⟨x⟩:=a;obtain⟨y⟩:=b;have e:x=y:=by simpa using(show (x==y)=true from h1)
 rw[e]
theorem IB:∀{l m:List Value} {ks:List SK},cB ks l=true→cB ks m=true→dA l m=true→l=m
 | [],[],_,_,_,_=>rfl
 | a::l,b::m,ks,h1,d,h=>by
  cases ks with
  |nil=>simp[cB]at h1
  | cons k ks =>
   simp only[cB,ax]at h1 d;simp only[dA,ax]at h;have e:a=b:=by
    have q:=h1.1;have u:=d.1;have v:=h.1;unfold kindOk at q u;split at q<;>split at u<;>simp_all[nD]
    exact IA h.1
   rw[e,IB h1.2 d.2 h.2]
 | [],_::_,_,_,_,h|_::_,[],_,_,_,h=>by simp[dA]at h
theorem IC{ks:List SK}:∀{l:List Value},cB ks l=true→∀(n:Nat),(l.zip l).all (fun(x,y)=>Hr n x y)=true:=by
 intro l
 induction l generalizing ks with
 |nil=>intro _ _; rfl
 | cons a l d =>
  intro h n;cases ks with
  |nil=>simp[cB]at h
  | cons k ks =>
   simp only[cB,ax]at h;simp only[List.zip_cons_cons,List.all_cons,ax];refine⟨?_,d h.2 n⟩;have hk:=h.1;unfold kindOk at hk;split at hk<;>cases n<;>simp_all[Hr,beq_toListBytes]
theorem xu{P:Program}{u:TypeId}{l m:List Value}{c d:Value}(h:mD P u l c)(h':mD P u m d)(he:dA l m=true):c=d∧Hr 10000 d c=true:=by
 obtain⟨h1,ks,I,q⟩:=h;obtain⟨k,M,v,J⟩:=h';rw[I]at v;cases v;have e:=IB q J he;subst e;unfold isVal at h1 k;split at h1
 ·rename_i y hu
  rw[hu]at k;simp only[]at k;obtain⟨a,rfl,ha⟩:=h1;obtain⟨b,rfl,hb⟩:=k;have:a=b:=by apply fm; rw[ha,hb]
  subst this;refine⟨rfl,?_⟩;simp only[Hr,beq_self_eq_true,Bool.true_and];rw[ha];exact IC q 9999
 ·rename_i B
  split at k
  ·rename_i y hu
   exact(B y hu).elim
  ·have : c = d := by rw [h1] at k; simpa using k
   subst this;refine⟨rfl,?_⟩;have:=IC q 10000;rw[h1]at this;simpa using this
def lH(P:Program)(t:TypeId)(m k v:AV)(H:List ab):Option (List ab) :=
 match dc P t,m with
 | some (d,_),.map id=>match H[id]? with
  | some (.map es cl)=>match gB P d k with
   | some h=>if v.closed=true∧k.closed=true then
     match ew P d h es 0 with
     |some (some (i,_))=>some (H.set id (.map (es.modify i fun e=>(k,v,e.2.2)) cl))
     |some none=>some (H.set id (.map (es++[(k,v,cl)]) (cl+1)))
     |none=>none
    else none
   |none=>none
  |_=>none
 |_,_=>none
theorem dX{E:Env}:∀{es:List (AV × AV × Nat)} {ms:List MapEntry},bB E es ms↔es.length=ms.length∧∀(i:Nat) x e,es[i]? = some x→ms[i]? = some e →
  rel E x.1 e.key∧rel E x.2.1 e.val∧e.born=x.2.2∧x.1.closed=true∧x.2.1.closed=true
 | [],[]=>by simp[bB]
 | [],_::_=>by simp[bB]
 |(_,_,_)::_,[]=>by simp[bB]
 | (k,v,n)::es,e::ms=>by
  simp only[bB,dX (es:=es),cr];constructor
  ·rintro ⟨h1, q, u, B, I, N, J⟩
   refine⟨by omega,fun i x y d h=>?_⟩;cases i with
   |zero=>simp at d h; subst d; subst h; exact⟨h1,q,u,B,I⟩
   |succ i=>exact J i x y (by simpa using d) (by simpa using h)
  ·rintro ⟨h1, q⟩
   obtain⟨M,a2,a3,a4,a5⟩:=q 0 (k,v,n) e rfl rfl;exact⟨M,a2,a3,a4,a5,by omega,fun i x y d h=>q (i+1) x y (by simpa using d) (by simpa using h)⟩
theorem xv{P:Program}{E:Env}(HE:ar E){id b n cl cl':Nat}{es es':List (AV × AV × Nat)}{ms ms':Array MapEntry}(hid:E.H[id]? = some (.map es cl)) (d:E.loc[id]? = some (some (b,n)))
  (hb:E.w.heap[b]? = some (.map ms cl)) (hr:bB E es' ms'.toList) :
  ∃ w',(setObj b (.map ms' cl')).run P E.w=.ok () w'∧ar { w:=w',H:=E.H.set id (.map es' cl'),loc:=E.loc,X:=E.X }∧E.le { w:=w',H:=E.H.set id (.map es' cl'),loc:=E.loc,X:=E.X }:=by
 have u:=(HE.lt id b n d).1;have q:({ E.w with heap:=E.w.heap.setIfInBounds b (.map ms' cl') }:World).heap.size=E.w.heap.size:=by simp
 have k:∀ y,y≠b→({ E.w with heap:=E.w.heap.setIfInBounds b (.map ms' cl') }:World).heap[y]? = E.w.heap[y]? := by
  intro y B;simp only[AP];rw[if_neg (fun e=>B e.symm)]
 refine⟨{ E.w with heap:=E.w.heap.setIfInBounds b (.map ms' cl') },by simp[setObj,gv,hb],?_,?_⟩
 ·have hle : E.le { w := { E.w with heap := E.w.heap.setIfInBounds b (.map ms' cl') }, H := E.H.set id (.map es' cl'), loc := E.loc, X := E.X } := Env.mB HE hid d (fun v h => h) q k
  refine HE.set hid d (fun v h=>h) q k ?_;simp only[aJ];refine⟨b,n,ms',d,by simp[u],?_⟩;rw[dX]at hr⊢;refine⟨hr.1,fun i x e I he=>?_⟩;obtain⟨J,a2,a3,a4,a5⟩:=hr.2 i x e I he;exact⟨bH hle _ J,bH hle _ a2,a3,a4,a5⟩
 ·exact Env.mB HE hid d (fun v h=>h) q k
theorem tR{P:Program}{q:TypeId}{k:List Value}:∀{es:List (AV × AV × Nat)} {i j:Nat} {v:AV},ew P q k es i=some (some (j,v))→i≤j∧∃ x l,es[j-i]? = some x∧gB P q x.1=some l∧dA k l=true
 | [],_,_,_,h=>by simp[ew]at h
 | (k',u,n)::es,i,j,v,h=>by
  simp only[ew]at h;split at h
  case h_2=>cases h
  rename_i l y;cases d:dA k l with
  | true =>
   rw[d]at h;cases h;exact⟨aD _,(k',u,n),l,by simp,y,d⟩
  | false =>
   rw[d]at h;obtain⟨h1,x,l',B,I,J⟩:=tR h;refine⟨by omega,x,l',?_,I,J⟩;rw[show j-i=(j-(i+1))+1 from by omega];simpa using B
theorem ID{P:Program}{E:Env}(HE:ar E){t:TypeId}{m k v:AV}{c d u:Value}{H':List ab}(h:lH P t m k v E.H=some H')(hm:rel E m c)(hk:rel E k d)(hv:rel E v u) :
  ∃ w',(mh t c d u).run P E.w=.ok () w'∧ar { w:=w',H:=H',loc:=E.loc,X:=E.X }∧E.le { w:=w',H:=H',loc:=E.loc,X:=E.X }:=by
 unfold lH at h;split at h
 case h_2=>cases h
 rename_i kt et id ht;split at h
 case h_2=>cases h
 rename_i es cl hid;split at h
 case h_2=>cases h
 rename_i kv hkv;split at h
 case isFalse=>cases h
 rename_i M;obtain⟨b,n,ms,rfl,h1,U,V⟩:=pk HE hid hm;have J:=ij hkv hk;have e1:(getObj b).run P E.w=.ok (.map ms cl) E.w:=by simp[getObj,gv,U]
 obtain⟨hlen,O⟩:=dX.1 V;split at h
 ·rename_i i v0 N
  cases h;obtain⟨r',g1,g2⟩:=gP J E.w V N;cases r' with
  |none=>simp[di]at g2
  | some q =>
   simp only[di]at g2;obtain⟨q1,q2,_,e',W,q5⟩:=g2;obtain⟨_,x,l,f1,f2,f3⟩:=tR N;simp only[gq]at W f1;obtain⟨a1,a2,a3,a4,a5⟩:=O i x e' f1 W;obtain⟨s1,s2⟩:=xu J (ij f2 a1) f3;have q4':ms[i]? = some e':=by simpa using W
   obtain⟨w',r1,r2,r3⟩:=xv (P:=P) HE (es':=es.modify i fun e=>(k,v,e.2.2)) (ms':=ms.modify i fun e=>{ e with key:=d,val:=u }) (cl':=cl) hid h1 U (by
    rw[dX];refine⟨by simp[hlen],fun j y z B I=>?_⟩;simp only[iJ]at B;simp only[kJ,iJ]at I;obtain⟨y0,hy0,rfl⟩:=dN.1 B;obtain⟨z0,hz0,rfl⟩:=dN.1 I;obtain⟨b1,b2,b3,b4,b5⟩:=O j y0 z0 hy0 hz0;by_cases e:i=j
    ·subst e
     simp only[if_true];exact⟨hk,hv,b3,M.2,M.1⟩
    ·simp only [if_neg e]
     exact⟨b1,b2,b3,b4,b5⟩)
   refine⟨w',?_,r2,r3⟩;subst q1;have hst:(qu e'.key d).run P E.w=.ok d E.w:=by simp[qu,s2]
   simp only[mh,bW,Sem.bp (ft ht),bX,e1,gg J,g1,q4',dO,ga,hst];exact r1
 ·rename_i N
  cases h;obtain⟨r',g1,g2⟩:=gP J E.w V N;cases r' with
  |some _=>simp[di]at g2
  | none =>
   obtain⟨w',r1,r2,r3⟩:=xv (P:=P) HE (es':=es++[(k,v,cl)]) (ms':=ms.push { key:=d,val:=u,born:=cl }) (cl':=cl+1) hid h1 U (by
    rw[dX];refine⟨by simp[hlen],fun j y z B I=>?_⟩;simp only[oU,fk,hlen]at B I;by_cases e:j<ms.toList.length
    ·simp only [if_pos e] at B I
     exact O j y z B I
    ·simp only [if_neg e] at B I
     cases hj:j-ms.toList.length with
     | zero =>
      rw[hj]at B I;simp at B I;subst B; subst I;exact⟨hk,hv,rfl,M.2,M.1⟩
     |succ _=>rw[hj]at B; simp at B)
   refine⟨w',?_,r2,r3⟩;simp only[mh,bW,Sem.bp (ft ht),bX,e1,gg J,g1];exact r1
 ·cases h
def tS(P:Program)(t:TypeId)(m k:AV)(H:List ab):Option (List ab) :=
 match dc P t,m with
 | some (d,_),.map id=>match H[id]? with
  | some (.map es cl)=>match gB P d k with
   | some h=>match ew P d h es 0 with
    |some (some (i,_))=>some (H.set id (.map (es.eraseIdx i) cl))
    |some none=>some (H.set id (.map es cl))
    |none=>none
   |none=>none
  |_=>none
 |_,_=>none
theorem Tj{P:Program}{E:Env}(HE:ar E){t ty:TypeId}{tys:Array TypeId}{m k:AV}{c d:Value}{cs:Array Value}{H':List ab}(h:tS P t m k E.H=some H')(h0:tys[0]? = some t)
  (O:cs[0]? = some c) (U:cs[1]? = some d) (hm:rel E m c) (hk:rel E k d) :
  ∃ w',(R6 tys ty cs).run P E.w=.ok (.tuple #[]) w'∧ar { w:=w',H:=H',loc:=E.loc,X:=E.X }∧E.le { w:=w',H:=H',loc:=E.loc,X:=E.X }:=by
 unfold tS at h;split at h
 case h_2=>cases h
 rename_i kt et id V;split at h
 case h_2=>cases h
 rename_i es cl hid;split at h
 case h_2=>cases h
 rename_i kv hkv;obtain⟨b,n,ms,rfl,h1,J,I⟩:=pk HE hid hm;have B:=ij hkv hk;have W:(getObj b).run P E.w=.ok (.map ms cl) E.w:=by simp[getObj,gv,J]
 obtain⟨hlen,N⟩:=dX.1 I;split at h
 ·rename_i i v0 M
  cases h;obtain⟨r',g1,g2⟩:=gP B E.w I M;cases r' with
  |none=>simp[di]at g2
  | some q =>
   simp only[di]at g2;obtain⟨q1,q2,_,e',q4,q5⟩:=g2;obtain⟨w',r1,r2,r3⟩:=xv (P:=P) HE (es':=es.eraseIdx i) (ms':=ms.eraseIdxIfInBounds i) (cl':=cl) hid h1 J (by
    rw[dX];have e:(ms.eraseIdxIfInBounds i).toList=ms.toList.eraseIdx i:=by simp
    rw[e];refine⟨by simp[List.length_eraseIdx,hlen],fun j y z u v=>?_⟩;rw[List.getElem?_eraseIdx]at u v;by_cases hj:j<i
    ·simp only [if_pos hj] at u v
     exact N j y z u v
    ·simp only [if_neg hj] at u v
     exact N (j+1) y z u v)
   refine⟨w',?_,r2,r3⟩;subst q1;simp only[R6,h0,O,U,bW,Sem.bp (ft V),bX,W,gg B,g1];rw[r1];rfl
 ·rename_i M
  cases h;obtain⟨r',g1,g2⟩:=gP B E.w I M;cases r' with
  |some _=>simp[di]at g2
  | none =>
   obtain⟨w',r1,r2,r3⟩:=xv (P:=P) HE (es':=es) (ms':=ms) (cl':=cl) hid h1 J I;refine⟨w',?_,r2,r3⟩;simp only[R6,h0,O,U,bW,Sem.bp (ft V),bX,W,gg B,g1];rw[r1];rfl
 ·cases h
end Go.AL

namespace Go.AL
open Go
variable [Dr]
theorem IE{α:Type}{k:Nat}:∀{l:List (List α)} (n:Nat),(∀ r∈l,r.length=k)→(l.take n).flatten=l.flatten.take (n*k)
 | [],n,_=>by simp
 |r::l,0,_=>by simp
 | r::l,n+1,h=>by
  have hr:r.length=k:=h r cO;have d:=IE (l:=l) n (fun x q=>h x (c9 _ q));have e:(n+1)*k=k+n*k:=by rw[fE]; omega
  simp only[AH,qs,d,e];rw[List.take_append,hr];have u:r.take (k+n*k)=r:=List.take_of_length_le (by omega);have v:k+n*k-k=n*k:=by omega
  rw[u,v]
theorem IF{α:Type}{k:Nat}:∀{l:List (List α)} (n:Nat),(∀ r∈l,r.length=k)→(l.drop n).flatten=l.flatten.drop (n*k)
 | [],n,_=>by simp
 |r::l,0,_=>by simp
 | r::l,n+1,h=>by
  have hr:r.length=k:=h r cO;have d:=IF (l:=l) n (fun x q=>h x (c9 _ q));have e:(n+1)*k=k+n*k:=by rw[fE]; omega
  simp only[agH,qs,d,e];rw[List.drop_append,hr];have u:r.drop (k+n*k)=[]:=List.drop_eq_nil_of_le (by omega);have v:k+n*k-k=n*k:=by omega
  rw[u,v,jV]
theorem Tk{P:Program}{E:Env}(HE:ar E){id k ad b m off:Nat}{rows news:List (List AV)}{vals:List Value}(hid:E.H[id]? = some (.vec k ad rows)) (u:E.loc[id]? = some (some (b,m)))
  (d:af E news.flatten vals) (h1:∀ x∈vals,dv x=true) (hw:∀ r∈news,r.length=k) (hcl:eS news) (hle:off+news.length≤rows.length) :
  ∃ w',(storeCells ⟨b,off*k,none⟩ vals).run P E.w=.ok () w'∧ar { w:=w',H:=E.H.set id (.vec k ad (rows.take off++news++rows.drop (off+news.length))),loc:=E.loc,X:=E.X } ∧
   E.le { w:=w',H:=E.H.set id (.vec k ad (rows.take off++news++rows.drop (off+news.length))),loc:=E.loc,X:=E.X }:=by
 rcases HE.obj id _ hid with⟨y,_⟩|⟨b',m',y,⟨cur,el,hblk,O⟩,e3,e4,e5⟩
 ·rw[u]at y; cases y
 rw[u]at y;cases y;have q:∀ r∈rows,r.length=k:=Bx e5;have hlen:vals.length=news.length*k:=by rw[←gb d,qU hw]
 have hmul:(off+news.length)*k≤rows.length*k:=tg _ hle;rw[fE]at hmul;have hmul2:rows.length*k≤m*k:=tg _ e3;have B:off*k+0+vals.length≤cur.size:=by rw[O]; omega
 have J:=run_storeCells_at P b (off*k) el vals 0 cur E.w hblk B (fun v d=>by rw[xg]; exact h1 v d);simp only[lv]at J B;generalize I:E.w.setRow b (cur.toList.take (off*k)++vals++cur.toList.drop (off*k+vals.length)).toArray=w' at J;have M:w'.heap.size=E.w.heap.size:=by rw[←I]; exact setRow_size _ _ _
 have henv:dR E.w w':=by rw[←I]; exact⟨rfl,rfl,rfl,by first|exact fun _=>aD _|exact fun _=>eR _ _⟩
 have N:∀ x,x≠b→w'.heap[x]? = E.w.heap[x]? := by intro x hx; rw[←I]; exact setRow_other _ _ _ _ hx
 have W:w'.heap[b]? = some (.cells (cur.toList.take (off*k)++vals++cur.toList.drop (off*k+vals.length)).toArray el (0,0)):=by
  rw[←I]; exact setRow_heap E.w b cur _ el (0,0) hblk
 have U:∀ v,(ab.vec k ad (rows.take off++news++rows.drop (off+news.length))).aF = some v→(ab.vec k ad rows).aF = some v:=fun v d=>by simpa[ab.aF]using d
 have V:=Env.mB (o':=.vec k ad (rows.take off++news++rows.drop (off+news.length))) HE hid u U M N;have hl2:(rows.take off++news++rows.drop (off+news.length)).length=rows.length:=by
  simp only[dY,jA,oT];omega
 refine⟨w',J,ar.set HE hid u U M N ?_,V⟩;simp only[aJ];right;refine⟨b,m,u,⟨_,el,W,?_⟩,by rw[hl2]; exact e3,?_,?_⟩
 ·simp only [AN, dY, jA, oT, ls, O] at B ⊢
  omega
 ·intro r hr
  simp only[cZ]at hr;rcases hr with(h|h)|h
  ·exact e4 r (wE h)
  ·exact hcl r h
  ·exact e4 r (wD h)
 ·refine xk ?_ ?_
  ·intro r hr
   simp only[cZ]at hr;rcases hr with(h|h)|h
   ·exact q r (wE h)
   ·exact hw r h
   ·exact q r (wD h)
  ·rw [wH, wH, IE off q, IF _ q]
   have hflat:=xh e5;have hcs:news.flatten.length=news.length*k:=qU hw;have:=BB (E:=E) (E':={ w:=w',H:=E.H.set id (.vec k ad (rows.take off++news++rows.drop (off+news.length))),loc:=E.loc,X:=E.X }) (o:=0) (col:=off*k) (as:=rows.flatten) (cs:=news.flatten)
    (fun a c hr=>bH V a hr) hblk (by simpa using W) (by simpa using B) hflat d h1 (by rw[qU q,hcs]; omega)
   rw[hcs]at this;rw[show (off+news.length)*k=off*k+news.length*k from fE _ _ _];exact this
def tT(P:Program)(t:TypeId)(x:AV)(H:List ab):Option (List ab) :=
 match b_ P t,x with
 | .slice e sz _,.vec w id ad off n=>match d_ P e,H[id]? with
  | some z,some (.vec k v rows)=>if k=w∧w=sz∧v=ad∧z.length=sz∧0<sz∧off+n≤rows.length then
    some (H.set id (.vec k v (rows.take off++bO n (z.map AV.lit)++rows.drop (off+n)))) else none
  |_,_=>none
 |_,_=>none
theorem Tl{P:Program}{E:Env}(HE:ar E){t ty:TypeId}{tys:Array TypeId}{x:AV}{c:Value}{cs:Array Value}{H':List ab}(h:tT P t x E.H=some H')(h0:tys[0]? = some t)
  (J:cs[0]? = some c) (q:rel E x c) :
  ∃ w',(R9 tys ty cs).run P E.w=.ok (.tuple #[]) w'∧ar { w:=w',H:=H',loc:=E.loc,X:=E.X }∧E.le { w:=w',H:=H',loc:=E.loc,X:=E.X }:=by
 unfold tT at h;split at h
 case h_2=>cases h
 rename_i e sz by_ w id ad off n hk;obtain⟨hu,i,hi,hs,_⟩:=gz hk;split at h
 case h_2=>cases h
 rename_i z k v rows hz hid;split at h
 case isFalse=>cases h
 rename_i hc;obtain⟨rfl,rfl,rfl,V,hpos,hle⟩:=hc;cases h;obtain⟨i',u,M,W,N,hz3⟩:=lE hz;rw[hi]at M;cases M;simp only[rel]at q;obtain⟨⟨base,cap,rfl,hcap,hb⟩,_,O⟩:=q;obtain⟨q1,q2⟩:=O ⟨_,hid,rfl⟩;cases n with
 | zero =>
  refine⟨E.w,?_,?_,?_⟩
  ·simp only [R9, h0, J, bW, Sem.bp hu, bX]
   cases base<;>rfl
  ·simp only [agR, db, lv, tf]
   rw[lG hid];exact HE
  ·simp only [agR, db, lv, tf]
   rw[lG hid];exact Env.le.refl E
 | succ n =>
  obtain⟨b,o,rfl⟩:=hb (by omega);have d:∃ b m,E.loc[id]? = some (some (b,m)):=by
   rcases HE.obj id _ hid with⟨_,y⟩|⟨B,m',y,_⟩
   ·subst y
    simp at hle
   ·exact⟨B,m',y⟩
  obtain⟨B,m,d⟩:=d;obtain⟨g1,o',g2,g3⟩:=q2 B m d;have ho:=g2 (by omega);subst ho;simp only[jT,aQ,Hd]at g3;obtain⟨⟨rfl,rfl,_⟩,_,_⟩:=g3;have U:(wG u.cells (n+1)).toList=(bO (n+1) z).flatten:=by
   rw[←N];have hzs:0<u.cells.size:=by
    have:u.cells.size=z.length:=by rw[←N]; simp
    omega
   exact range_zero u.cells (n+1) hzs
  have I:∀ r∈bO (n+1) (z.map AV.lit),r=z.map AV.lit:=fun r hr=>(R_.1 hr).2;obtain⟨w',r1,r2,r3⟩:=Tk (P:=P) HE (off:=off) (news:=bO (n+1) (z.map AV.lit)) (vals:=(bO (n+1) z).flatten) hid d (tP z (n+1))
   (fun x q=>hz3 x (tQ q)) (fun r hr=>by rw[I r hr]; simp[V]) (fun r hr=>by rw[I r hr]; exact BI z) (by simpa using hle)
  simp only[List.length_replicate]at r2 r3;refine⟨w',?_,r2,r3⟩;simp only[R9,h0,J,bW,Sem.bp hu,bX,lF hi W,U];rw[r1];rfl
theorem Tm{P:Program}{w:World}{t xt ty e:TypeId}{i:TypeInfo}{z:Value}{sz:Nat}{base:Option Addr}{m:Nat}{k k':IntKind}
  (u:P.underlying t=some (.slice e)) (v:P.underlying xt=some (.int k)) (hi:P.info? e=some i) (y:i.size=sz) (B:i.zero=some z) (d:0<sz) (h0:0<m) (hm:m≤1048576) (hb:i.bytes≤1048576) :
  ∃ C,m≤C∧(mg #[t,xt] ty #[.slice base 0 0,.int k' (m:Int)]).run P w =
   .ok (.slice (some ⟨w.heap.size,0,none⟩) m C) (w.drew.alloc (.cells ((wG z.cells m).toList++(wG z.cells (C-m)).toList).toArray e)):=by
 have h:IntKind.i64.wrap (m:Int)=m:=wrap_small (by omega) (by omega);have h1:¬ (m≤0):=by omega
 have I:¬ ((m:Int)<0):=by omega
 have q:m*i.bytes≤1048576*1048576:=agM hm hb;have J:¬ ((281474976710656:Int)<(m:Int)*(i.bytes:Int)):=by
  have:((m*i.bytes:Nat):Int)≤1099511627776:=Int.ofNat_le.2 (oQ q (by decide));rw[Int.natCast_mul]at this;omega
 have M:¬ (IntKind.i64.max<(m:Int)):=by
  show ¬ ((9223372036854775807:Int)<(m:Int))
  omega
 have U:Hk m 0*i.bytes≤281474976710656:=growslice_fits (by omega) (by omega);have N:¬ (281474976710656<Hk m 0*i.bytes):=by omega
 have O:¬ (m*sz=0):=by
  have:=Nat.mul_pos h0 d;omega
 refine⟨grownCap w m 0 e,?_,?_⟩
 ·simp[grownCap,agN]
 ·simp [mg, run_underlying u, run_underlying v, sizeOf, typeInfo, zeroValue, hi, B, y, asInt, asIntOf, h, h1, I, J, M, N, O, agO, newRow, grownCap, h_]
  rw[if_neg (by omega:¬ m=0),if_neg (by omega:¬ (9223372036854775807:Int)<(m:Int))];cases base<;>simp[loadCells,loadCellsFrom]<;>(congr 2; apply fm; simp)
def po(P:Program)(t xt:TypeId)(s x:AV)(H:List ab):Option (AV × List ab) :=
 match b_ P t,b_ P xt,s,x with
 | .slice e sz d,.int _,.lit (.slice none 0 0),.lit (.int _ n)=>match d_ P e with
  |some z=>if z.length=sz∧0<sz∧d≤1048576∧0<n∧n≤1048576 then some (.vec sz H.length 0 0 n.toNat,H++[.vec sz 0 (bO n.toNat (z.map AV.lit))]) else none
  |none=>none
 |_,_,_,_=>none
theorem Tn{P:Program}{E:Env}(HE:ar E){t xt ty:TypeId}{s x v:AV}{H':List ab}{c J:Value}(h:po P t xt s x E.H=some (v,H'))(M:rel E s c)(d:rel E x J) :
  ∃ u w',(mg #[t,xt] ty #[c,J]).run P E.w=.ok u w'∧cQ E v H' u w':=by
 unfold po at h;split at h
 case h_2=>cases h
 rename_i e sz by_ k k' n hk O;split at h
 case h_2=>cases h
 rename_i z hz;split at h
 case isFalse=>cases h
 rename_i hc;obtain⟨h1,h2,h3,h4,h5⟩:=hc;cases h;obtain⟨hu,i,hi,U,hby⟩:=gz hk;obtain⟨i',q,I,V,y,W⟩:=lE hz;rw[hi]at I;cases I;simp only[rel]at M d;subst M;subst d;obtain⟨m,rfl⟩:∃ m:Nat,n=(m:Int):=⟨n.toNat,by omega⟩
 obtain⟨C,g1,g2⟩:=Tm (P:=P) (w:=E.w) (ty:=ty) (base:=none) (k':=k') (m:=m) hu (HY O) hi U V h2 (by omega) (by omega) (by omega);have hzs:0<q.cells.size:=by
  have:q.cells.size=z.length:=by rw[←y]; simp
  omega
 have N:(wG q.cells m).toList=(bO m z).flatten:=by rw[←y]; exact range_zero q.cells m hzs
 rw[N]at g2;have B:∀ r∈bO m (z.map AV.lit),r=z.map AV.lit:=fun r hr=>(R_.1 hr).2;refine⟨_,_,g2,?_⟩;simp only[Int.toNat_natCast];refine If HE (tP z m) (fun x d=>W x (tQ d)) (fun r hr=>by rw[B r hr]; simp[h1]) (fun r hr=>by rw[B r hr]; exact BI z) (by simp) g1 ?_;simp only[ls,size_zeroCells];rw[←h1,←y];simp
end Go.AL

namespace Go.AL
open Go
variable [Dr]
def tU(P:Program)(t:TypeId)(n:Nat)(parts:List (Nat × AV))(H:List ab):Option (AV × List ab) :=
 match qX P t n parts with
 |some (.list sz rows)=>some (.vec sz H.length 0 0 rows.length,H++[.vec sz 0 rows])
 |_=>none
theorem IG(k:Nat):∀(n:Nat) (out:List AV),out.length=n*k→(chunk k n out).flatten=out
 | 0,out,h=>by
  have:out=[]:=AK (by simpa using h);subst this;rfl
 | n+1,out,h=>by
  simp only[chunk,qs];rw[IG k n (out.drop k) (by rw[oT,h,agS]; omega)];exact tf k out
theorem IH(k:Nat):∀(n:Nat) (out:List AV),out.length=n*k→∀ r∈chunk k n out,r.length=k
 |0,_,_,r,hr=>by simp[chunk]at hr
 | n+1,out,h,r,hr=>by
  simp only[chunk]at hr;rw[agS]at h;rcases bR.1 hr with rfl|hr
  ·rw [jA]
   omega
  ·exact IH k n (out.drop k) (by rw[oT]; omega) r hr
theorem To{P:Program}{E:Env}(HE:ar E){t:TypeId}{n:Nat}{parts:List (Nat × AV)}{cparts:List (Nat × Value)}{v:AV}{H':List ab}(h:tU P t n parts E.H=some (v,H'))
  (hm:parts.map (·.1)=cparts.map (·.1)) (hv:af E (parts.map (·.2)) (cparts.map (·.2))) :
  ∃ u w',(Hq t n cparts.toArray).run P E.w=.ok u w'∧cQ E v H' u w':=by
 unfold tU at h;split at h
 case h_2=>cases h
 rename_i q rows0 h0;cases h;unfold qX at h0;split at h0
 case h_2=>cases h0
 rename_i e sz by_ hk;obtain⟨hu,i,hi,I,_⟩:=gz hk;split at h0
 case h_2=>cases h0
 rename_i z hz;obtain⟨i',k,J,O,M,U⟩:=lE hz;rw[hi]at J;cases J;split at h0
 case isFalse=>cases h0
 rename_i hc;obtain⟨g1,g2,g3⟩:=hc;split at h0
 case h_2=>cases h0
 rename_i out N;split at h0
 case isFalse=>cases h0
 rename_i y;have V:k.cells.size=sz:=by rw[←g1,←M]; simp
 obtain⟨d,B⟩:∃ d:Array Value,d.toList=(bO n z).flatten:=⟨((bO n z).flatten).toArray,by simp⟩
 obtain⟨o,f1,f2,f3⟩:=tM (E:=E) (cs:=d) N (by rw[B]; exact tP z n) (by rw[B]; intro x hx; exact U x (tQ hx)) hm hv;cases n with
 |zero=>cases h0
 |succ n =>
 cases h0;refine⟨.slice (some ⟨E.w.heap.size,0,none⟩) (n+1) (n+1),{ E.w with heap:=E.w.heap.push (.cells (o.toList++[]).toArray e) },?_,?_⟩
 ·have W : ¬ ((n + 1) * i.size > 2 ^ 24) := by rw [I]; omega
  simp only[Hq,bW,Sem.bp hu,bX,Sem.run_sizeOf hi];rw[if_neg W];have h0:¬ ((n+1)*i.size=0):=by
   intro h;rcases RZ.1 h with h|h
   ·omega
   ·omega
  rw[if_neg h0];simp only[bW,lF hi O,bX,fl];have:(Ho (fun x=>k.cells[x%k.cells.size]!) (gu ((n+1)*i.size)))=d:=by
   apply fm;rw[I,←V,range_zero k.cells (n+1) (by omega),M,B]
  rw[this,I,f1];simp[newRow]
 ·rw [tN]
  exact Il HE (C:=n+1) (by rw[IG q (n+1) out y.2]; exact f2) f3 (IH q (n+1) out y.2) (Bu q _ out y.1) (tN ..) (aD _) (by simp)
end Go.AL

namespace Go.AL
open Go
variable [Dr]
def eU (r:Nat→List (Option (Option (Nat × Nat)))) (l0:Nat) (q:Option (Nat × Nat)):Nat→List (Option (Option (Nat × Nat))):=fun l=>if l=l0 then r l++[some q] else r l
def fU (r:Nat→List (Option (Option (Nat × Nat)))) (l0 h:Nat):Nat→List (Option (Option (Nat × Nat))):=fun l=>if l=l0 then (r l).set h none else r l
def gR (r:Nat→List (Option (Option (Nat × Nat)))) (l0:Nat):Nat→List (Option (Option (Nat × Nat))):=fun l=>if l=l0 then (r l).map fun _=>none else r l
theorem Tp{r:Nat→List (Option (Option (Nat × Nat)))}{l0 l h:Nat}{q:Option (Nat × Nat)}{x:Option (Option (Nat × Nat))}(d:(eU r l0 q l)[h]? = some x):(r l)[h]? = some x∨(l=l0∧h=(r l).length∧x=some q):=by
 unfold eU at d;split at d
 ·rename_i e
  rw[fk]at d;split at d
  ·exact .inl d
  ·right
   cases hk:h-(r l).length with
   | zero =>
    rw[hk]at d;simp at d;exact⟨e,by omega,d.symm⟩
   |succ n=>rw[hk]at d; simp at d
 ·exact .inl d
theorem II{r:Nat→List (Option (Option (Nat × Nat)))}{l0 l h:Nat}{q:Option (Nat × Nat)}(d:h<(r l).length):h<(eU r l0 q l).length∧(eU r l0 q l)[h]? = (r l)[h]? := by
 unfold eU;split
 ·exact⟨by simp; omega,cK d⟩
 ·exact⟨d,rfl⟩
theorem Tq{r:Nat→List (Option (Option (Nat × Nat)))}{l0 h0 l h:Nat}{q:Option (Nat × Nat)}(d:(fU r l0 h0 l)[h]? = some (some q)):(r l)[h]? = some (some q)∧¬ (l=l0∧h=h0):=by
 unfold fU at d;split at d
 ·rw [dU] at d
  split at d
  ·split at d<;>cases d
  ·rename_i h1
   exact⟨d,fun e=>h1 e.2.symm⟩
 ·rename_i h1
  exact⟨d,fun e=>h1 e.1⟩
theorem BK{r:Nat→List (Option (Option (Nat × Nat)))}{l0 h0 l h:Nat}(aw:¬ (l=l0∧h=h0)):(fU r l0 h0 l)[h]? = (r l)[h]? := by
 unfold fU;split
 ·rename_i e
  exact aR (fun d=>aw ⟨e,d.symm⟩)
 ·rfl
theorem Tr{r:Nat→List (Option (Option (Nat × Nat)))}{l0 h0 l:Nat}:(fU r l0 h0 l).length=(r l).length:=by
 unfold fU;split<;>simp
theorem il{r:Nat→List (Option (Option (Nat × Nat)))}{l0 l h:Nat}{q:Option (Nat × Nat)}(d:(gR r l0 l)[h]? = some (some q)):(r l)[h]? = some (some q)∧l≠l0:=by
 unfold gR at d;split at d
 ·rw [bT] at d
  cases k:(r l)[h]? with
  |none=>rw[k]at d; cases d
  |some y=>rw[k]at d; cases d
 ·rename_i e
  exact⟨d,e⟩
theorem IJ{r:Nat→List (Option (Option (Nat × Nat)))}{l0 l:Nat}:(gR r l0 l).length=(r l).length:=by
 unfold gR;split<;>simp
theorem ar.attach{E:Env}(H:ar E){id j l0:Nat}{o o' oj:ab}{q:Option (Nat × Nat)}(hid:E.H[id]? = some o)(hlab:o.label=some l0)(hlab':o'.label=some l0)(hver:o'.aF = o.aF)(hj:E.H[j]? = some oj)(hlj:oj.label=none)(hq:E.loc[j]? = some q)
  (ho:E.le { w:=E.w,H:=(E.H.set id o').set j .dead,loc:=E.loc.set j none,X:=E.X.re (eU E.X.r l0 q) }→aJ { w:=E.w,H:=(E.H.set id o').set j .dead,loc:=E.loc.set j none,X:=E.X.re (eU E.X.r l0 q) } id o')
  (hmm:o.dh=none∨o'.dh=o.dh:=by first|exact .inl rfl|exact .inr rfl|assumption) :
  ar { w:=E.w,H:=(E.H.set id o').set j .dead,loc:=E.loc.set j none,X:=E.X.re (eU E.X.r l0 q) }∧E.le { w:=E.w,H:=(E.H.set id o').set j .dead,loc:=E.loc.set j none,X:=E.X.re (eU E.X.r l0 q) }:=by
 have aw:j≠id:=fun e=>by rw[e,hid]at hj; cases hj; rw[hlab]at hlj; cases hlj
 have hlt:=aI hid;have hltj:=aI hj;have O:∀(i:Nat) x,(E.loc.set j none)[i]? = some (some x)→i≠j∧E.loc[i]? = some (some x):=fun i x hi=>by
  rw[dU]at hi;split at hi
  ·split at hi<;>cases hi
  ·rename_i e
   exact⟨Ne.symm e,hi⟩
 have H_old:∀(i:Nat) x,((E.H.set id o').set j .dead)[i]? = some x→(i=j∧x=.dead)∨(i=id∧x=o')∨(i≠j∧i≠id∧E.H[i]? = some x):=fun i x hi=>by
  by_cases e:i=j
  ·subst e
   rw[bx (by simp; exact hltj)]at hi;cases hi;exact .inl ⟨rfl,rfl⟩
  ·rw [aR (Ne.symm e)] at hi
   by_cases u:i=id
   ·subst u
    rw[bx hlt]at hi;cases hi;exact .inr (.inl ⟨rfl,rfl⟩)
   ·rw [aR (Ne.symm u)] at hi
    exact .inr (.inr ⟨e,u,hi⟩)
 have hid':((E.H.set id o').set j .dead)[id]? = some o':=by
  rw[aR aw,bx hlt]
 have U:∀(l h b m:Nat),(eU E.X.r l0 q l)[h]? = some (some (some (b,m)))→(E.X.r l)[h]? = some (some (some (b,m)))∨(l=l0∧h=(E.X.r l).length∧E.loc[j]? = some (some (b,m))):=fun l h b m hk=>by
  rcases Tp hk with g|⟨g1,g2,g3⟩
  ·exact .inl g
  ·cases g3
   exact .inr ⟨g1,g2,hq⟩
 have hle:E.le { w:=E.w,H:=(E.H.set id o').set j .dead,loc:=E.loc.set j none,X:=E.X.re (eU E.X.r l0 q) }:=by
  refine⟨fun i ad hp=>?_,aD _,fun _ _ _=>rfl,fun b hb hno=>?_,fun i ad hp B=>?_,⟨rfl,rfl⟩,fun l h hh=>?_,.refl _,fun i l x h1 d V=>?_⟩
  rotate_right
  ·by_cases e : i = j
   ·subst e
    obtain⟨y,J,h4⟩:=V;simp only[]at J;rw[bx (by simp; exact hltj)]at J;cases J;cases h4
   ·by_cases u : i = id
    ·subst u
     rw[hid]at h1;cases h1;have W:l0=l:=by
      have:=ab.kM d;rw[hlab]at this;cases this;rfl
     subst W;rcases hmm with h|h
     ·rw[h]at d; cases d
     ·exact⟨⟨[some q],if_pos rfl⟩,o',hid',by rw[h]; exact d⟩
    ·have W : l ≠ l0 := fun W => u (H.uniq i id x o l h1 hid (ab.kM d) (by rw [W]; exact hlab))
     exact⟨⟨[],by rw[db]; exact if_neg W⟩,x,by simp only[]; rw[aR (Ne.symm e),aR (Ne.symm u)]; exact h1,d⟩
  ·obtain ⟨x, h1, d⟩ := hp
   by_cases e:i=j
   ·subst e
    exact⟨.dead,by simp only[]; rw[bx (by simp; exact hltj)],rfl,fun v V=>by cases V⟩
   ·by_cases u : i = id
    ·subst u
     rw[hid]at h1;cases h1;exact⟨o',hid',ab.wW hlab',fun v V=>d.2 v (by rw[←hver]; exact V)⟩
    ·exact⟨x,by simp only[]; rw[aR (Ne.symm e),aR (Ne.symm u)]; exact h1,d⟩
  ·rintro (⟨i, c, hi⟩ | ⟨l, h, m, hm⟩)
   ·exact hno (.inl ⟨i,c,(O i _ hi).2⟩)
   ·rcases U l h b m hm with h1 | ⟨_, _, h1⟩
    ·exact hno (.inr ⟨l,h,m,h1⟩)
    ·exact hno (.inl ⟨j,m,h1⟩)
  ·obtain ⟨x, h1, d⟩ := B
   rcases H_old i x h1 with⟨_,rfl⟩|⟨rfl,rfl⟩|⟨N,u,J⟩
   ·cases d
   ·exact⟨⟨o,hid,by rw[←hver]; exact d⟩,by simp only[]; rw[aR aw]⟩
   ·exact⟨⟨x,J,d⟩,by simp only[]; rw[aR (Ne.symm N)]⟩
  ·obtain ⟨g1, g2⟩ := II (r := E.X.r) (l0 := l0) (q := q) hh
   exact⟨g1,fun y M=>by
    have M:(eU E.X.r l0 q l)[h]? = some (some y):=M
    rwa [g2]at M⟩
 refine⟨⟨by simp[H.len],fun i k b m n hi hk=>H.inj i k b m n (O i _ hi).2 (O k _ hk).2,fun i b m hi=>H.lt i b m (O i _ hi).2,fun b hb=>H.X b hb,fun i x hi=>?_,H.fb.bF hle.toC,fun l h l' h' b m n h1 d=>?_,fun i b m l h n hi hk=>?_,fun l h b m hk=>?_,fun i k x y l hi hk h1 d=>?_,fun l hn h y M=>?_⟩,hle⟩
 ·rcases H_old i x hi with ⟨rfl, rfl⟩ | ⟨rfl, rfl⟩ | ⟨N, u, J⟩
  ·simp only [aJ]
   rw[bx (by rw[H.len]; exact hltj)]
  ·exact ho hle
  ·refine jZ (fun a _ hr => bH hle a hr) (by simp only []; rw [aR (Ne.symm N)]) (fun _ _ _ => rfl) (fun l B => ?_) (H.obj i x J)
   have hne2:l≠l0:=fun e=>u (H.uniq i id x o l J hid B (by rw[hlab,e]));exact⟨if_neg hne2,fun _ _ _ _=>rfl⟩
 ·rcases U l h b m h1 with g1 | ⟨g1, g2, g3⟩ <;> rcases U l' h' b n d with I | ⟨I, k2, k3⟩
  ·exact H.eC _ _ _ _ _ _ _ g1 I
  ·exact(H.cP _ _ _ _ _ _ k3 g1).elim
  ·exact(H.cP _ _ _ _ _ _ g3 I).elim
  ·exact⟨by rw[g1,I],by rw[g2,k2,g1,I]⟩
 ·obtain ⟨g0, g1⟩ := O i _ hi
  rcases U l h b n hk with I|⟨I,k2,k3⟩
  ·exact H.cP _ _ _ _ _ _ g1 I
  ·exact g0 (H.inj _ _ _ _ _ g1 k3)
 ·rcases U l h b m hk with I | ⟨I, k2, k3⟩
  ·exact H.ch _ _ _ _ I
  ·exact H.lt _ _ _ k3
 ·have key:∀ (i:Nat) x,((E.H.set id o').set j .dead)[i]? = some x→x.label=some l→∃ y,E.H[i]? = some y∧y.label=some l:=by
   intro i x hi B;rcases H_old i x hi with⟨_,rfl⟩|⟨rfl,rfl⟩|⟨N,u,J⟩
   ·cases B
   ·exact⟨o,hid,by rw[hlab,←hlab',B]⟩
   ·exact⟨x,J,B⟩
  obtain⟨x',a1,a2⟩:=key i x hi h1;obtain⟨y',b1,b2⟩:=key k y hk d;exact H.uniq i k x' y' l a1 b1 a2 b2
 ·have hne2 : l ≠ l0 := fun e => hn id o' hid' (by rw [hlab', e])
  have M:(eU E.X.r l0 q l)[h]? = some (some y):=M;unfold eU at M;rw[if_neg hne2]at M;refine H.gd l (fun i x hi B=>?_) h y M;by_cases e:i=id
  ·subst e
   rw[hid]at hi;cases hi;exact hne2 (by rw[hlab]at B; cases B; rfl)
  ·by_cases N : i = j
   ·subst N
    rw[hj]at hi;cases hi;rw[hlj]at B;cases B
   ·exact hn i x (by show ((E.H.set id o').set j .dead)[i]? = _; rw[aR (Ne.symm N),aR (Ne.symm e)]; exact hi) B
theorem ar.BL{E:Env}(H:ar E){id l0 h0:Nat}{o o' ov:ab}{q:Option (Nat × Nat)}(hid:E.H[id]? = some o)(hlab:o.label=some l0)(O:o'.label=some l0)(hver:o'.aF = o.aF)(hlv:ov.label=none) (N:∀ b m,q=some (b,m)→(E.X.r l0)[h0]? = some (some (some (b,m))))
  (ho:E.le { w:=E.w,H:=E.H.set id o'++[ov],loc:=E.loc++[q],X:=E.X.re (fU E.X.r l0 h0) }→aJ { w:=E.w,H:=E.H.set id o'++[ov],loc:=E.loc++[q],X:=E.X.re (fU E.X.r l0 h0) } id o'∧aJ { w:=E.w,H:=E.H.set id o'++[ov],loc:=E.loc++[q],X:=E.X.re (fU E.X.r l0 h0) } E.H.length ov)
  (hmm:o.dh=none:=by first|rfl|assumption) :
  ar { w:=E.w,H:=E.H.set id o'++[ov],loc:=E.loc++[q],X:=E.X.re (fU E.X.r l0 h0) }∧E.le { w:=E.w,H:=E.H.set id o'++[ov],loc:=E.loc++[q],X:=E.X.re (fU E.X.r l0 h0) }:=by
 have V:=aI hid;have M:∀(i:Nat) x,(E.loc++[q])[i]? = some x→E.loc[i]? = some x∨(i=E.loc.length∧x=q):=fun i x hi=>by
  rw[fk]at hi;split at hi
  ·exact .inl hi
  ·right
   cases hk:i-E.loc.length with
   |zero=>rw[hk]at hi; simp at hi; exact⟨by omega,hi.symm⟩
   |succ n=>rw[hk]at hi; simp at hi
 have U:∀(i:Nat) x,(E.H.set id o'++[ov])[i]? = some x→(i=E.H.length∧x=ov)∨(i=id∧x=o')∨(i≠id∧E.H[i]? = some x):=fun i x hi=>by
  rw[fk]at hi;split at hi
  ·by_cases d : i = id
   ·subst d
    rw[bx V]at hi;cases hi;exact .inr (.inl ⟨rfl,rfl⟩)
   ·rw [aR (Ne.symm d)] at hi
    exact .inr (.inr ⟨d,hi⟩)
  ·left
   cases hk:i-(E.H.set id o').length with
   |zero=>rw[hk]at hi; simp at hi; simp at hk; rename_i h1; simp at h1; exact⟨by omega,hi.symm⟩
   |succ n=>rw[hk]at hi; simp at hi
 have hid':(E.H.set id o'++[ov])[id]? = some o':=by
  rw[cK (by simp; exact V),bx V]
 have I:∀(l h:Nat) y,(fU E.X.r l0 h0 l)[h]? = some (some y)→(E.X.r l)[h]? = some (some y)∧¬ (l=l0∧h=h0):=fun l h y hk=>Tq hk;have hle:E.le { w:=E.w,H:=E.H.set id o'++[ov],loc:=E.loc++[q],X:=E.X.re (fU E.X.r l0 h0) }:=by
  refine⟨fun i ad hp=>?_,aD _,fun _ _ _=>rfl,fun b hb W=>?_,fun i ad hp B=>?_,⟨rfl,rfl⟩,fun l h hh=>?_,.refl _,fun i l x h1 u hv=>?_⟩
  rotate_right
  ·by_cases d : i = id
   ·subst d
    rw[hid]at h1;cases h1;rw[hmm]at u;cases u
   ·have e3 : l ≠ l0 := fun e3 => d (H.uniq i id x o l h1 hid (ab.kM u) (by rw [e3]; exact hlab))
    exact⟨⟨[],by rw[db]; exact if_neg e3⟩,x,by simp only[]; rw[cK (by rw[nk]; exact aI h1),aR (Ne.symm d)]; exact h1,u⟩
  ·obtain ⟨x, h1, u⟩ := hp
   by_cases d:i=id
   ·subst d
    rw[hid]at h1;cases h1;exact⟨o',hid',ab.wW O,fun v hv=>u.2 v (by rw[←hver]; exact hv)⟩
   ·exact⟨x,by simp only[]; rw[cK (by simp; exact aI h1),aR (Ne.symm d)]; exact h1,u⟩
  ·rintro (⟨i, c, hi⟩ | ⟨l, h, m, hm⟩)
   ·rcases M i _ hi with h1 | ⟨_, h1⟩
    ·exact W (.inl ⟨i,c,h1⟩)
    ·exact W (.inr ⟨l0,h0,c,N b c h1.symm⟩)
   ·exact W (.inr ⟨l,h,m,(I l h _ hm).1⟩)
  ·obtain ⟨x0, g1, _⟩ := hp
   have hii:=aI g1;obtain⟨x,h1,u⟩:=B;have hloc:(E.loc++[q])[i]? = E.loc[i]? := cK (by rw[H.len]; exact hii);rcases U i x h1 with⟨e,rfl⟩|⟨rfl,rfl⟩|⟨d,J⟩
   ·omega
   ·exact⟨⟨o,hid,by rw[←hver]; exact u⟩,hloc⟩
   ·exact⟨⟨x,J,u⟩,hloc⟩
  ·refine ⟨?_, fun y hy => (I l h y hy).1⟩
   show h<(fU E.X.r l0 h0 l).length
   rw[Tr];exact hh
 refine⟨⟨by simp[H.len],fun i k b m n hi hk=>?_,fun i b m hi=>?_,fun b hb=>H.X b hb,fun i x hi=>?_,H.fb.bF hle.toC,fun l h l' h' b m n h1 u=>H.eC _ _ _ _ _ _ _ (I l h _ h1).1 (I l' h' _ u).1,fun i b m l h n hi hk=>?_,fun l h b m hk=>H.ch _ _ _ _ (I l h _ hk).1,fun i k x y l hi hk h1 u=>?_,fun l hn h y hy=>?_⟩,hle⟩
 ·rcases M i _ hi with g1 | ⟨g1, g2⟩ <;> rcases M k _ hk with k1 | ⟨k1, k2⟩
  ·exact H.inj _ _ _ _ _ g1 k1
  ·exact(H.cP _ _ _ _ _ _ g1 (N b n k2.symm)).elim
  ·exact(H.cP _ _ _ _ _ _ k1 (N b m g2.symm)).elim
  ·omega
 ·rcases M i _ hi with g1 | ⟨g1, g2⟩
  ·exact H.lt _ _ _ g1
  ·exact H.ch _ _ _ _ (N b m g2.symm)
 ·rcases U i x hi with ⟨rfl, rfl⟩ | ⟨rfl, rfl⟩ | ⟨d, J⟩
  ·exact(ho hle).2
  ·exact(ho hle).1
  ·refine jZ (fun a _ hr => bH hle a hr) (by simp only []; rw [cK (by rw [H.len]; exact aI J)]) (fun _ _ _ => rfl) (fun l B => ?_) (H.obj i x J)
   have hne2:l≠l0:=fun e=>d (H.uniq i id x o l J hid B (by rw[hlab,e]));exact⟨if_neg hne2,fun _ _ _ _=>rfl⟩
 ·obtain ⟨r1, r2⟩ := I l h _ hk
  rcases M i _ hi with g1|⟨g1,g2⟩
  ·exact H.cP _ _ _ _ _ _ g1 r1
  ·exact r2 (H.eC _ _ _ _ _ _ _ r1 (N b m g2.symm))
 ·have key:∀ (i:Nat) x,(E.H.set id o'++[ov])[i]? = some x→x.label=some l→∃ y,E.H[i]? = some y∧y.label=some l:=by
   intro i x hi B;rcases U i x hi with⟨_,rfl⟩|⟨rfl,rfl⟩|⟨d,J⟩
   ·rw[hlv]at B; cases B
   ·exact⟨o,hid,by rw[hlab,←O,B]⟩
   ·exact⟨x,J,B⟩
  obtain⟨x',a1,a2⟩:=key i x hi h1;obtain⟨y',b1,b2⟩:=key k y hk u;exact H.uniq i k x' y' l a1 b1 a2 b2
 ·refine H.gd l (fun i x hi B => ?_) h y (I l h y hy).1
  by_cases e:i=id
  ·subst e
   rw[hid]at hi;cases hi;exact hn i o' hid' (by rw[O,←hlab,B])
  ·exact hn i x (by show (E.H.set id o'++[ov])[i]? = _; rw[cK (by simp; exact aI hi),aR (Ne.symm e)]; exact hi) B
theorem ar.IK{E:Env}(H:ar E){id l0:Nat}{o o':ab}(hid:E.H[id]? = some o)(hlab:o.label=some l0)(hlab':o'.label=none)(N:o'.aF = o.aF)
  (ho:E.le { w:=E.w,H:=E.H.set id o',loc:=E.loc,X:=E.X.re (gR E.X.r l0) }→aJ { w:=E.w,H:=E.H.set id o',loc:=E.loc,X:=E.X.re (gR E.X.r l0) } id o')
  (hmm:o.dh=none:=by first|rfl|assumption) (hborn:o'.born=true:=by first|rfl|assumption) :
  ar { w:=E.w,H:=E.H.set id o',loc:=E.loc,X:=E.X.re (gR E.X.r l0) }∧E.le { w:=E.w,H:=E.H.set id o',loc:=E.loc,X:=E.X.re (gR E.X.r l0) }:=by
 have O:=aI hid;have I:∀(i:Nat) x,(E.H.set id o')[i]? = some x→(i=id∧x=o')∨(i≠id∧E.H[i]? = some x):=fun i x hi=>by
  by_cases q:i=id
  ·subst q
   rw[bx O]at hi;cases hi;exact .inl ⟨rfl,rfl⟩
  ·rw [aR (Ne.symm q)] at hi
   exact .inr ⟨q,hi⟩
 have hle:E.le { w:=E.w,H:=E.H.set id o',loc:=E.loc,X:=E.X.re (gR E.X.r l0) }:=by
  refine⟨fun i ad V=>?_,aD _,fun _ _ _=>rfl,fun b hb U=>?_,fun i ad V u=>?_,⟨rfl,rfl⟩,fun l h hh=>?_,.refl _,fun i l x h1 d W=>?_⟩
  rotate_right
  ·by_cases q : i = id
   ·subst q
    rw[hid]at h1;cases h1;rw[hmm]at d;cases d
   ·have J : l ≠ l0 := fun J => q (H.uniq i id x o l h1 hid (ab.kM d) (by rw [J]; exact hlab))
    exact⟨⟨[],by rw[db]; exact if_neg J⟩,x,by simp only[]; rw[aR (Ne.symm q)]; exact h1,d⟩
  ·obtain ⟨x, h1, d⟩ := V
   by_cases q:i=id
   ·subst q
    rw[hid]at h1;cases h1;exact⟨o',by simp only[]; rw[bx O],hborn,fun v W=>d.2 v (by rw[←N]; exact W)⟩
   ·exact⟨x,by simp only[]; rw[aR (Ne.symm q)]; exact h1,d⟩
  ·rintro (⟨i, c, hi⟩ | ⟨l, h, m, hm⟩)
   ·exact U (.inl ⟨i,c,hi⟩)
   ·exact U (.inr ⟨l,h,m,(il hm).1⟩)
  ·obtain ⟨x, h1, d⟩ := u
   rcases I i x h1 with⟨rfl,rfl⟩|⟨q,B⟩
   ·exact⟨⟨o,hid,by rw[←N]; exact d⟩,rfl⟩
   ·exact⟨⟨x,B,d⟩,rfl⟩
  ·refine ⟨?_, fun y M => (il M).1⟩
   show h<(gR E.X.r l0 l).length
   rw[IJ];exact hh
 refine⟨⟨by simp[H.len],H.inj,H.lt,H.X,fun i x hi=>?_,H.fb.bF hle.toC,fun l h l' h' b m n h1 d=>H.eC _ _ _ _ _ _ _ (il h1).1 (il d).1,fun i b m l h n hi hk=>H.cP _ _ _ _ _ _ hi (il hk).1,fun l h b m hk=>H.ch _ _ _ _ (il hk).1,fun i k x y l hi hk h1 d=>?_,fun l hn h y M=>?_⟩,hle⟩
 ·rcases I i x hi with ⟨rfl, rfl⟩ | ⟨q, B⟩
  ·exact ho hle
  ·refine jZ (fun a _ hr => bH hle a hr) rfl (fun _ _ _ => rfl) (fun l u => ?_) (H.obj i x B)
   have hne2:l≠l0:=fun e=>q (H.uniq i id x o l B hid u (by rw[hlab,e]));exact⟨if_neg hne2,fun _ _ _ _=>rfl⟩
 ·have key:∀ (i:Nat) x,(E.H.set id o')[i]? = some x→x.label=some l→E.H[i]? = some x:=by
   intro i x hi u;rcases I i x hi with⟨rfl,rfl⟩|⟨q,B⟩
   ·rw[hlab']at u; cases u
   ·exact B
  exact H.uniq i k x y l (key i x hi h1) (key k y hk d) h1 d
 ·obtain ⟨g1, g2⟩ := il M
  refine H.gd l (fun i x hi u=>?_) h y g1;by_cases e:i=id
  ·subst e
   rw[hid]at hi;cases hi;exact g2 (by rw[hlab]at u; cases u; rfl)
  ·exact hn i x (by show (E.H.set id o')[i]? = _; rw[aR (Ne.symm e)]; exact hi) u
theorem xw{E:Env}(HE:ar E){id l w cl:Nat}{es:List (AV × Option (List (List AV)) × Nat)}{c:Value}(hid:E.H[id]? = some (.aO l w es cl))(hr:rel E (.map id) c) :
  ∃ b n ms,c=.map (some b)∧E.loc[id]? = some (some (b,n))∧E.w.heap[b]? = some (.map ms cl)∧bB E (cu es) ms.toList∧iO E l w es ms.toList:=by
 have ho:=HE.obj id _ hid;simp only[aJ]at ho;obtain⟨b,n,ms,h1,d,h,k⟩:=ho;simp only[rel]at hr;obtain⟨_,_,q⟩:=hr;obtain⟨u,v,g1,g2⟩:=q ⟨_,hid,rfl⟩;rw[h1]at g1;simp only[aQ,a7]at g1;obtain⟨rfl,rfl⟩:=g1;exact⟨b,n,ms,g2,h1,d,h,k⟩
theorem BM{P:Program}{d:TypeId}{k:AV}{q:List Value}(h:gB P d k=some q):fp k=(k,.undef):=by
 unfold gB at h;split at h
 ·cases h
 ·split at h
  ·rfl
  ·rfl
  ·cases h
theorem tV{es:List (AV × Option (List (List AV)) × Nat)}{i:Nat}{x:AV × Option (List (List AV)) × Nat}(h:es[i]? = some x):(cu es)[i]? = some ((fp x.1).1,(fp x.1).2,x.2.2):=by
 unfold cu;rw[bT,h];rfl
def xy(P:Program)(t:TypeId):Option Nat:=match b_ P t with
 |.slice _ w _=>some w
 |_=>none
def nG (es:List (AV × Option (List (List AV)) × Nat)) (i:Nat):Option (AV × List (List AV) × Nat):=match es[i]? with
 |some (key,some rows,n)=>some (key,rows,n)
 |_=>none
def tW(P:Program)(t:TypeId)(m k:AV)(H:List ab):Option (AV × List ab) :=
 match dc P t,m with
 | some (d,h),.map id=>match H[id]? with
  | some (.aO l w es cl)=>match gB P d k,xy P h,gQ P h with
   | some q,some w',some (.lit (.slice none 0 0))=>match ae w' w with
    | true=>match ew P d q (cu es) 0 with
     | some (some (i,_))=>match nG es i with
      |some (key,rows,n)=>some (.vec w H.length 0 0 rows.length,H.set id (.aO l w (es.set i (key,none,n)) cl)++[.vec w 0 rows])
      |none=>none
     |some none=>some (.vec w H.length 0 0 0,H.set id (.aO l w es cl)++[.vec w 0 []])
     |none=>none
    |false=>none
   |_,_,_=>none
  |_=>none
 |_,_=>none
theorem Ts{E:Env}{l w i:Nat}{es:List (AV × Option (List (List AV)) × Nat)}{ms:List MapEntry}{x:AV × Option (List (List AV)) × Nat}(v:x.2.1=none)(h:iO E l w es ms):iO E l w (es.set i x) ms:=by
 obtain⟨B,h1,I⟩:=h;have k:∀(j:Nat) y,(es.set i x)[j]? = some y→y.2.1.isSome=true→es[j]? = some y∧j≠i:=fun j y d q=>by
  rw[dU]at d;split at d
  ·split at d
   ·cases d
    rw[v]at q;cases q
   ·cases d
  ·rename_i aw
   exact⟨d,Ne.symm aw⟩
 refine⟨B,fun a b y z d J u sz he=>h1 a b y z (k a y d u).1 (k b z J sz).1 u sz he,fun a y rows e d hr he=>I a y rows e (k a y d (by rw[hr]; rfl)).1 hr he⟩
theorem BN{E:Env}{i:Nat}{es:List (AV × Option (List (List AV)) × Nat)}{ms:List MapEntry}{x y:AV × Option (List (List AV)) × Nat}(hi:es[i]? = some x)(h1:y.1=x.1)(d:y.2.2=x.2.2)(h:bB E (cu es) ms):bB E (cu (es.set i y)) ms:=by
 have e:cu (es.set i y)=cu es:=by
  apply jU;intro j;unfold cu;rw[bT,bT,dU];split
  ·rename_i e
   subst e;rw[if_pos (aI hi),hi];simp[h1,d]
  ·rfl
 rw[e];exact h
theorem Tt{P:Program}{E:Env}(HE:ar E){t:TypeId}{m k v:AV}{c d:Value}{H':List ab}(h:tW P t m k E.H=some (v,H'))(hm:rel E m c)(hk:rel E k d) :
  ∃ u w',(kH t c d false).run P E.w=.ok u w'∧cQ E v H' u w':=by
 unfold tW at h;split at h
 case h_2=>cases h
 rename_i kt et id ht;split at h
 case h_2=>cases h
 rename_i l w es cl hid;split at h
 case h_2=>cases h
 rename_i kv w' hkv hw' hz;split at h
 case h_2=>cases h
 rename_i hww;have hww:=bk hww;clear hw' hww;obtain⟨b,n,ms,rfl,h1,h2,h3,h4⟩:=xw HE hid hm;have hkv':=ij hkv hk;have hpk:=BM hkv;have e1:(getObj b).run P E.w=.ok (.map ms cl) E.w:=by simp[getObj,gv,h2]
 have hlenH:E.H.length=E.loc.length:=HE.len.symm;split at h
 ·rename_i i v0 hf
  split at h
  case h_2=>cases h
  rename_i key rows bn hat;cases h;have hes:es[i]? = some (key,some rows,bn):=by
   unfold nG at hat;split at hat
   ·rename_i a1 a2 a3 he
    cases hat;exact he
   ·cases hat
  obtain⟨r',g1,g2⟩:=gP hkv' E.w h3 hf;cases r' with
  |none=>simp[di]at g2
  | some q =>
   simp only[di]at g2;obtain⟨q1,q2,_,e',q4,q5⟩:=g2;simp only[gq]at q4;have hval:q.2=e'.val:=q5.symm;obtain⟨U,k1,k2⟩:=h4;have hsl:=k2 i _ rows e' hes rfl q4;obtain⟨J,h0,z1,z2,z3⟩:∃(J:Option (Nat × Nat)) (h0:Nat),(∀ b m,J=some (b,m)→(E.X.r l)[h0]? = some (some (some (b,m)))) ∧
     (∀ j y,es[j]? = some y→y.2.1.isSome=true→j≠i→∀ b m,(E.X.r l)[U j]? = some (some (some (b,m)))→U j≠h0) ∧
     ((J=none∧rows=[]∧∃ base,e'.val=.slice base 0 0)∨∃ b m,J=some (b,m)∧e'.val=.slice (some ⟨b,0,none⟩) rows.length m∧isRow E.w b (m*w)∧rows.length≤m∧eS rows∧cA E w rows b 0):=by
    rcases hsl with⟨s1,s2⟩|⟨N,mm,s1,s2,V,O,W,s6⟩
    ·exact⟨none,(E.X.r l).length,fun _ _ e=>(by cases e),fun j y _ _ _ b m hb e=>(by rw[e]at hb; have:=aI hb; omega),.inl ⟨rfl,s1,s2⟩⟩
    ·exact⟨some (N,mm),U i,fun _ _ e=>(by cases e; exact s1),fun j y I hsy aw _ _ _ e=>aw (k1 j i _ _ I hes hsy rfl e),.inr ⟨N,mm,rfl,s2,V,O,W,s6⟩⟩
   obtain⟨r1,r2⟩:=ar.BL HE (id:=id) (l0:=l) (h0:=h0) (o':=.aO l w (es.set i (key,none,bn)) cl) (ov:=.vec w 0 rows) (q:=J) hid rfl rfl rfl rfl z1 fun hle=>by
    refine⟨?_,?_⟩
    ·simp only [aJ]
     refine⟨b,n,ms,?_,h2,?_,?_⟩
     ·rw [cK (aI h1)]
      exact h1
     ·exact fH (fun a _ hr=>bH hle a hr) (BN hes rfl rfl h3)
     ·obtain ⟨_, k3, k4⟩ := Ts (i := i) (x := (key, none, bn)) rfl (show iO E l w es ms.toList from ⟨U, k1, k2⟩)
      refine⟨U,fun a b' y z I hz sy sz he=>?_,fun a y rws e I hr he=>?_⟩
      all_goals
       have old:∀(j:Nat) y,(es.set i (key,none,bn))[j]? = some y→y.2.1.isSome=true→es[j]? = some y∧j≠i:=fun j y I hsm=>by
        rw[dU]at I;split at I
        ·split at I
         ·cases I
          cases hsm
         ·cases I
        ·rename_i aw
         exact⟨I,Ne.symm aw⟩
      ·exact k1 a b' y z (old a y I sy).1 (old b' z hz sz).1 sy sz he
      ·obtain ⟨o1, o2⟩ := old a y I (by rw [hr]; rfl)
       rcases k2 a y rws e o1 hr he with M|⟨N,mm,s1,s2,V,O,W,s6⟩
       ·exact .inl M
       ·refine .inr ⟨N, mm, ?_, s2, V, O, W, jY (fun a _ hr => bH hle a hr) rfl s6⟩
        have aw:=z2 a y o1 (by rw[hr]; rfl) o2 N mm s1;show (fU E.X.r l h0 l)[U a]? = _
        rw[BK fun e=>aw e.2];exact s1
    ·simp only [aJ]
     have M:(E.loc++[J])[E.H.length]? = some J:=by rw[hlenH]; simp
     rcases z3 with⟨rfl,s1,_⟩|⟨N,mm,rfl,_,V,O,W,s6⟩
     ·exact .inl ⟨M,s1⟩
     ·exact .inr ⟨N,mm,M,V,O,W,jY (fun a _ hr=>bH hle a hr) rfl s6⟩
   refine⟨q.2,E.w,?_,E.loc++[J],fU E.X.r l h0,?_,r1,r2⟩
   ·simp only [kH, bW, Sem.bp (ft ht), bX, e1, fl, gg hkv', g1]
    rfl
   ·have hnew:(E.H.set id (.aO l w (es.set i (key,none,bn)) cl)++[.vec w 0 rows])[E.H.length]? = some (.vec w 0 rows):=by
     rw[hZ (by simp)];simp
    have M:(E.loc++[J])[E.H.length]? = some J:=by rw[hlenH]; simp
    rw[hval];simp only[rel];rcases z3 with⟨rfl,s1,base,s2⟩|⟨N,mm,rfl,s2,V,O,W,s6⟩
    ·subst s1
     refine⟨⟨base,0,by rw[s2]; rfl,aD _,fun h=>by simp at h⟩,⟨_,hnew,rfl,fun v hv=>by cases hv; exact aD _⟩,fun _=>⟨fun _=>⟨by first|rfl|trivial,by first|rfl|trivial,base,s2⟩,fun b' m' B=>?_⟩⟩;rw[M]at B;cases B
    ·refine ⟨⟨_, mm, s2, O, fun _ => ⟨N, 0, rfl⟩⟩, ⟨_, hnew, rfl, fun v hv => by cases hv; exact aD _⟩, fun _ => ⟨fun B => ?_, fun b' m' B => ?_⟩⟩
     ·rw [M] at B
      cases B
     ·rw [M] at B
      cases B;exact⟨by omega,0,fun _=>by simp,by rw[s2,gq]⟩
 ·rename_i hf
  cases h;obtain⟨r',g1,g2⟩:=gP hkv' E.w h3 hf;cases r' with
  |some _=>simp[di]at g2
  | none =>
   obtain⟨zv,z1,z2⟩:=qY hz E.w;have hzv:zv=.slice none 0 0:=by have:=z2 E; simpa[rel]using this
   obtain⟨r1,r2⟩:=ar.BL HE (id:=id) (l0:=l) (h0:=(E.X.r l).length) (o':=.aO l w es cl) (ov:=.vec w 0 []) (q:=none) hid rfl rfl rfl rfl (fun _ _ e=>by cases e) fun hle=>by
    refine⟨?_,?_⟩
    ·simp only [aJ]
     refine⟨b,n,ms,?_,h2,fH (fun a _ hr=>bH hle a hr) h3,tG (E:=E) (fun h g m hk=>⟨?_,rfl⟩) (fun _ _ _ _ _ b' B _ hr=>jY (fun a _ hr=>bH hle a hr) B hr) h4⟩
     ·rw [cK (aI h1)]
      exact h1
     ·show (fU E.X.r l (E.X.r l).length l)[h]? = _
      rw[BK fun e=>by rw[e.2]at hk; have:=aI hk; omega];exact hk
    ·simp only [aJ]
     exact .inl ⟨by rw[hlenH]; simp,by first|rfl|trivial⟩
   refine⟨zv,E.w,?_,E.loc++[none],fU E.X.r l (E.X.r l).length,?_,r1,r2⟩
   ·simp only [kH, bW, Sem.bp (ft ht), bX, e1, fl, gg hkv', g1, z1]
    rfl
   ·have hnew:(E.H.set id (.aO l w es cl)++[.vec w 0 []])[E.H.length]? = some (.vec w 0 []):=by
     rw[hZ (by simp)];simp
    have M:(E.loc++[(none:Option (Nat × Nat))])[E.H.length]? = some none:=by rw[hlenH]; simp
    rw[hzv];simp only[rel];refine⟨⟨none,0,rfl,aD _,fun h=>by simp at h⟩,⟨_,hnew,rfl,fun v hv=>by cases hv; exact aD _⟩,fun _=>⟨fun _=>⟨by first|rfl|trivial,by first|rfl|trivial,none,rfl⟩,fun b' m' B=>?_⟩⟩;rw[M]at B;cases B
 ·cases h
theorem BO{es:List (AV × Option (List (List AV)) × Nat)}{i:Nat}{x:AV × Option (List (List AV)) × Nat}{f:AV × Option (List (List AV)) × Nat→AV × Option (List (List AV)) × Nat}(h:es[i]? = some x):es.modify i f=es.set i (f x):=by
 apply jU;intro j;rw[iJ,dU];by_cases e:i=j
 ·subst e
  rw[if_pos rfl,if_pos (aI h),h];simp
 ·rw [if_neg e]
  simp[e]
def pq(P:Program)(t:TypeId)(m k v:AV)(H:List ab):Option (List ab) :=
 match dc P t,m,v with
 | some (d,_),.map id,.vec w j ad off n=>match H[id]?,H[j]? with
  | some (.aO l w' es cl),some (.vec q h rows)=>match gB P d k with
   | some u=>if (w=w'∧w=q)∧(ad=h∧off=0)∧n=rows.length∧k.closed=true then
     match ew P d u (cu es) 0 with
     |some (some (i,_))=>some ((H.set id (.aO l w' (es.modify i fun e=>(k,some rows,e.2.2)) cl)).set j .dead)
     |some none=>some ((H.set id (.aO l w' (es++[(k,some rows,cl)]) (cl+1))).set j .dead)
     |none=>none
    else none
   |none=>none
  |_,_=>none
 |_,_,_=>none
theorem tX{P:Program}{E:Env}(HE:ar E){id l w b n cl cl':Nat}{es es':List (AV × Option (List (List AV)) × Nat)}{ms ms':Array MapEntry}(hid:E.H[id]? = some (.aO l w es cl)) (d:E.loc[id]? = some (some (b,n)))
  (hb:E.w.heap[b]? = some (.map ms cl)) (hr:bB E (cu es') ms'.toList) (u:iO E l w es' ms'.toList) :
  ∃ w',(setObj b (.map ms' cl')).run P E.w=.ok () w'∧ar { w:=w',H:=E.H.set id (.aO l w es' cl'),loc:=E.loc,X:=E.X }∧E.le { w:=w',H:=E.H.set id (.aO l w es' cl'),loc:=E.loc,X:=E.X } ∧
   w'.heap[b]? = some (.map ms' cl')∧∀ y,y≠b→w'.heap[y]? = E.w.heap[y]? := by
 have q:=(HE.lt id b n d).1;have v:({ E.w with heap:=E.w.heap.setIfInBounds b (.map ms' cl') }:World).heap.size=E.w.heap.size:=by simp
 have k:∀ y,y≠b→({ E.w with heap:=E.w.heap.setIfInBounds b (.map ms' cl') }:World).heap[y]? = E.w.heap[y]? := by
  intro y I;simp only[AP];rw[if_neg (fun e=>I e.symm)]
 have key:=ar.Be (E:=E) (w':={ E.w with heap:=E.w.heap.setIfInBounds b (.map ms' cl') }) (o':=.aO l w es' cl') (r':=E.X.r) HE hid rfl rfl rfl (by rw[v]; exact aD _) (fun x _ aw _=>k x fun e=>aw n (by rw[e]; exact d)) (fun _ _=>rfl) (fun _ _ _ h=>.inl h) (fun h J=>⟨J,fun _ M=>M⟩) (fun hle=>by
  simp only[aJ];refine⟨b,n,ms',d,by simp[q],fH (fun a _ hr=>bH hle a hr) hr,tG (E:=E) (fun h g m hk=>⟨hk,k g fun e=>HE.cP _ _ _ _ _ _ d (by rw[←e]; exact hk)⟩) (fun _ _ _ _ _ N B _ hr=>jY (fun a _ hr=>bH hle a hr) B hr) u⟩) ⟨rfl,rfl,rfl,by first|exact fun _=>aD _|exact fun _=>eR _ _⟩
 rw[XS.Sw]at key;exact⟨_,by simp[setObj,gv,hb],key.1,key.2,by simp[q],k⟩
theorem BP{E:Env}(HE:ar E){id j l w cl i ad:Nat}{es:List (AV × Option (List (List AV)) × Nat)}{rows:List (List AV)}{key:AV}{bn b n:Nat}{ms:Array MapEntry}{e:MapEntry}(hid:E.H[id]? = some (.aO l w es cl))(B:E.H[j]? = some (.vec w ad rows))
  (hi:es[i]? = some (key,none,bn)) (hloc:E.loc[id]? = some (some (b,n))) (hb:E.w.heap[b]? = some (.map ms cl)) (he:ms.toList[i]? = some e) (hr:bB E (cu es) ms.toList) (hsl:iO E l w es ms.toList) (hv:rel E (.vec w j ad 0 rows.length) e.val) :
  ∃ loc' r',ar { w:=E.w,H:=(E.H.set id (.aO l w (es.set i (key,some rows,bn)) cl)).set j .dead,loc:=loc',X:=E.X.re r' }∧E.le { w:=E.w,H:=(E.H.set id (.aO l w (es.set i (key,some rows,bn)) cl)).set j .dead,loc:=loc',X:=E.X.re r' }:=by
 have aw:j≠id:=fun e=>by rw[e,hid]at B; cases B
 have M:=HE.obj j _ B;simp only[rel]at hv;obtain⟨_,_,v3⟩:=hv;obtain⟨v4,v5⟩:=v3 ⟨_,B,rfl⟩;simp only[aJ]at M;obtain⟨q,hq⟩:∃ q,E.loc[j]? = some q:=by
  rcases M with⟨h1,_⟩|⟨O,m',h1,_⟩
  ·exact⟨_,h1⟩
  ·exact⟨_,h1⟩
 obtain⟨J,k1,k2⟩:=hsl;have htl:∀ h,h<(E.X.r l).length→(eU E.X.r l q l)[h]? = (E.X.r l)[h]? := fun h d=>(II d).2;have hnew:(eU E.X.r l q l)[(E.X.r l).length]? = some (some q):=by
  unfold eU;rw[if_pos rfl];simp
 obtain⟨r1,r2⟩:=ar.attach HE (id:=id) (j:=j) (o':=.aO l w (es.set i (key,some rows,bn)) cl) (q:=q) hid rfl rfl rfl B rfl hq fun hle=>by
  simp only[aJ];refine⟨b,n,ms,?_,hb,fH (fun a _ hr=>bH hle a hr) (BN hi rfl rfl hr),?_⟩
  ·rw [aR aw]
   exact hloc
  ·-- handles: the I ones, but at i the new one; empty ones take none
   have I:∀(a:Nat) y,(es.set i (key,some rows,bn))[a]? = some y→a≠i→es[a]? = some y:=fun a y k aw=>by
    rwa [aR (Ne.symm aw)]at k
   have at_i:∀ y,(es.set i (key,some rows,bn))[i]? = some y→y=(key,some rows,bn):=fun y k=>by
    rw[bx (aI hi)]at k;cases k;rfl
   refine⟨fun a=>if a=i then (E.X.r l).length else if J a<(E.X.r l).length then J a else (E.X.r l).length+1+J a,fun a c y z k hz sy sz d=>?_,fun a y rws e' k hr' N=>?_⟩
   ·by_cases u : a = i
    ·by_cases v : c = i
     ·rw[u,v]
     ·simp only [if_pos u, if_neg v] at d
      split at d<;>omega
    ·by_cases v : c = i
     ·simp only [if_neg u, if_pos v] at d
      split at d<;>omega
     ·simp only [if_neg u, if_neg v] at d
      refine k1 a c y z (I a y k u) (I c z hz v) sy sz ?_;split at d<;>split at d<;>omega
   ·by_cases u : a = i
    ·subst u
     have:=at_i y k;subst this;cases hr';rw[he]at N;cases N;rcases M with⟨h1,U⟩|⟨O,m',h1,U,V,h4,h5⟩
     ·obtain ⟨_, _, base, V⟩ := v4 h1
      subst U;exact .inl ⟨rfl,base,V⟩
     ·obtain ⟨h6, o, h7, W⟩ := v5 O m' h1
      rw[hq]at h1;cases h1;simp only[cW,qt,gq]at h6 h7 W;by_cases hm:0<m'
      ·have := h7 hm
       subst this;refine .inr ⟨O,m',?_,W,U,V,h4,jY (fun a _ hr=>bH hle a hr) rfl h5⟩;simp only[if_true];exact hnew
      ·have hr0 : rows = [] := AK (by omega)
       have hm0:m'=0:=by omega
       subst hr0;subst hm0;exact .inl ⟨rfl,_,W⟩
    ·rcases k2 a y rws e' (I a y k u) hr' N with hl | ⟨bb, mm, s1, s2, s3, s4, s5, s6⟩
     ·exact .inl hl
     ·refine .inr ⟨bb, mm, ?_, s2, s3, s4, s5, jY (fun a _ hr => bH hle a hr) rfl s6⟩
      have d:=aI s1;simp only[if_neg u,if_pos d];show (eU E.X.r l q l)[J a]? = _
      rw[htl _ d];exact s1
 exact⟨_,_,r1,r2⟩
theorem Tu{P:Program}{E:Env}(HE:ar E){t:TypeId}{m k v:AV}{c d u:Value}{H':List ab}(h:pq P t m k v E.H=some H')(hm:rel E m c)(hk:rel E k d)(hv:rel E v u) :
  ∃ w',(mh t c d u).run P E.w=.ok () w'∧∀ x,cQ E .undef H' x w':=by
 unfold pq at h;split at h
 case h_2=>cases h
 rename_i kt et id w j ad off n ht;split at h
 case h_2=>cases h
 rename_i l w' es cl w2 ver' rows hid hj;split at h
 case h_2=>cases h
 rename_i kv hkv;split at h
 case isFalse=>cases h
 rename_i hc;obtain⟨⟨rfl,rfl⟩,⟨rfl,rfl⟩,rfl,hcl⟩:=hc;obtain⟨b,n,ms,rfl,h1,h2,h3,h4⟩:=xw HE hid hm;have aw:j≠id:=fun e=>by rw[e,hid]at hj; cases hj
 have U:=ij hkv hk;have M:=BM hkv;have e1:(getObj b).run P E.w=.ok (.map ms cl) E.w:=by simp[getObj,gv,h2]
 obtain⟨hlen,hall⟩:=dX.1 h3;rw[Bb]at hlen;split at h
 ·rename_i i v0 hf
  cases h;obtain⟨r',g1,g2⟩:=gP U E.w h3 hf;cases r' with
  |none=>simp[di]at g2
  | some q =>
   simp only[di]at g2;obtain⟨q1,q2,_,e',O,q5⟩:=g2;obtain⟨_,x,y,f1,f2,f3⟩:=tR hf;simp only[gq]at O f1;obtain⟨a1,a2,a3,a4,a5⟩:=hall i x e' f1 O;obtain⟨s1,s2⟩:=xu U (ij f2 a1) f3;have q4':ms[i]? = some e':=by simpa using O
   have hlt:i<es.length:=by have:=aI O; omega
   obtain⟨J,hx0⟩:∃ J,es[i]? = some J:=⟨es[i],bt hlt⟩
   have hx:x=((fp J.1).1,(fp J.1).2,J.2.2):=by rw[tV hx0]at f1; cases f1; rfl
   have hkk:(k,(none:Option (List (List AV))),J.2.2)=(k,none,J.2.2):=rfl;have hre:bB E (cu (es.set i (k,none,J.2.2))) (ms.modify i fun e=>{ e with key:=d,val:=u }).toList:=by
    rw[dX];refine⟨by simp[cu,hlen],fun a y z B I=>?_⟩;simp only[kJ,iJ]at I;obtain⟨z0,hz0,rfl⟩:=dN.1 I;unfold cu at B;rw[bT,dU]at B;by_cases e:i=a
    ·subst e
     rw[if_pos rfl,if_pos hlt]at B;cases B;rw[O]at hz0;cases hz0;simp only[if_true];refine⟨by simpa[M]using hk,by simp[M,rel],?_,by simpa[M]using hcl,by simp[M,AV.closed]⟩;rw[a3,hx]
    ·rw [if_neg e] at B
     obtain⟨b1,b2,b3,b4,b5⟩:=hall a y z0 (by unfold cu; rw[bT]; exact B) hz0;simp only[if_neg e];exact⟨b1,b2,b3,b4,b5⟩
   have hsl2:iO E l w (es.set i (k,none,J.2.2)) (ms.modify i fun e=>{ e with key:=d,val:=u }).toList:=by
    obtain⟨hs,k1,k2⟩:=h4;have N:∀(a:Nat) y,(es.set i (k,none,J.2.2))[a]? = some y→y.2.1.isSome=true→es[a]? = some y∧a≠i:=fun a y B hsm=>by
     by_cases ei:i=a
     ·subst ei
      rw[bx hlt]at B;cases B;cases hsm
     ·rw [aR ei] at B
      exact⟨B,Ne.symm ei⟩
    refine⟨hs,fun a c y z B I sy sz he=>k1 a c y z (N a y B sy).1 (N c z I sz).1 sy sz he,fun a y rws e B hr he=>?_⟩;obtain⟨o1,o2⟩:=N a y B (by rw[hr]; rfl);simp only[kJ,iJ]at he;obtain⟨z0,hz0,rfl⟩:=dN.1 he;rw[if_neg (Ne.symm o2)];exact k2 a y rws z0 o1 hr hz0
   obtain⟨w',p1,p2,p3,p4,p5⟩:=tX (P:=P) HE (cl':=cl) hid h1 h2 hre hsl2;have hst:(qu e'.key d).run P E.w=.ok d E.w:=by simp[qu,s2]
   have hrun:(mh t (.map (some b)) d u).run P E.w=.ok () w':=by
    subst q1;simp only[mh,bW,Sem.bp (ft ht),bX,e1,gg U,g1,q4',dO,ga,hst];exact p1
   have V:({ w:=w',H:=E.H.set id (.aO l w (es.set i (k,none,J.2.2)) cl),loc:=E.loc,X:=E.X }:Env).H[id]? = some (.aO l w (es.set i (k,none,J.2.2)) cl):=by
    simp only[];rw[bx (aI hid)]
   have hjE:({ w:=w',H:=E.H.set id (.aO l w (es.set i (k,none,J.2.2)) cl),loc:=E.loc,X:=E.X }:Env).H[j]? = some (.vec w ad rows):=by
    simp only[];rw[aR (Ne.symm aw)];exact hj
   have W:=p2.obj id _ V;simp only[aJ]at W;obtain⟨b2,n2,ms2,o1,o2,o3,o4⟩:=W;rw[h1]at o1;simp only[aQ,a7]at o1;obtain⟨rfl,rfl⟩:=o1;rw[p4]at o2;cases o2;obtain⟨loc',r',r1,r2⟩:=BP p2 (i:=i) (key:=k) (bn:=J.2.2) (e:={ e' with key:=d,val:=u }) V hjE (by rw[bx hlt]) h1 p4 (by
    simp only[kJ,iJ,O];simp) o3 o4 (bH p3 _ hv)
   refine⟨w',hrun,fun xx=>⟨loc',r',by simp[rel],?_,p3.trans ?_⟩⟩
   ·simpa[oV,BO hx0]using r1
   ·simpa[oV,BO hx0]using r2
 ·rename_i hf
  cases h;obtain⟨r',g1,g2⟩:=gP U E.w h3 hf;cases r' with
  |some _=>simp[di]at g2
  | none =>
   have hml:ms.toList.length=es.length:=by omega
   have hre:bB E (cu (es++[(k,none,cl)])) (ms.push { key:=d,val:=u,born:=cl }).toList:=by
    rw[dX];refine⟨by simp[cu,hlen],fun a y z B I=>?_⟩;unfold cu at B;rw[jX]at B;simp only[oU,fk,cN]at B I;rw[hml]at I;by_cases e:a<es.length
    ·simp only [if_pos e] at B I
     exact hall a y z (by unfold cu; exact B) I
    ·simp only [if_neg e] at B I
     cases hj2:a-es.length with
     | zero =>
      rw[hj2]at B I;simp at B I;subst B; subst I;exact⟨by simpa[M]using hk,by simp[M,rel],rfl,by simpa[M]using hcl,by simp[M,AV.closed]⟩
     |succ _=>rw[hj2]at B; simp at B
   have hsl2:iO E l w (es++[(k,none,cl)]) (ms.push { key:=d,val:=u,born:=cl }).toList:=by
    obtain⟨hs,k1,k2⟩:=h4;have N:∀(a:Nat) y,(es++[(k,(none:Option (List (List AV))),cl)])[a]? = some y→y.2.1.isSome=true→es[a]? = some y∧a<es.length:=fun a y B hsm=>by
     rw[fk]at B;split at B
     ·rename_i hh
      exact⟨B,hh⟩
     ·cases hk2 : a - es.length with
      | zero =>
       rw[hk2]at B;simp at B;subst B;cases hsm
      |succ _=>rw[hk2]at B; simp at B
    refine⟨hs,fun a c y z B I sy sz he=>k1 a c y z (N a y B sy).1 (N c z I sz).1 sy sz he,fun a y rws e B hr he=>?_⟩;obtain⟨o1,o2⟩:=N a y B (by rw[hr]; rfl);simp only[oU]at he;rw[cK (by omega)]at he;exact k2 a y rws e o1 hr he
   obtain⟨w',p1,p2,p3,p4,p5⟩:=tX (P:=P) HE (cl':=cl+1) hid h1 h2 hre hsl2;have hrun:(mh t (.map (some b)) d u).run P E.w=.ok () w':=by
    simp only[mh,bW,Sem.bp (ft ht),bX,e1,gg U,g1];exact p1
   have V:({ w:=w',H:=E.H.set id (.aO l w (es++[(k,none,cl)]) (cl+1)),loc:=E.loc,X:=E.X }:Env).H[id]? = some (.aO l w (es++[(k,none,cl)]) (cl+1)):=by
    simp only[];rw[bx (aI hid)]
   have hjE:({ w:=w',H:=E.H.set id (.aO l w (es++[(k,none,cl)]) (cl+1)),loc:=E.loc,X:=E.X }:Env).H[j]? = some (.vec w ad rows):=by
    simp only[];rw[aR (Ne.symm aw)];exact hj
   have W:=p2.obj id _ V;simp only[aJ]at W;obtain⟨b2,n2,ms2,o1,o2,o3,o4⟩:=W;rw[h1]at o1;simp only[aQ,a7]at o1;obtain⟨rfl,rfl⟩:=o1;rw[p4]at o2;cases o2;obtain⟨loc',r',r1,r2⟩:=BP p2 (i:=es.length) (key:=k) (bn:=cl) (e:={ key:=d,val:=u,born:=cl }) V hjE (by simp) h1 p4 (by
    simp only[oU];rw[hZ (by omega)];simp[hml]) o3 o4 (bH p3 _ hv)
   have e2:(es++[(k,(none:Option (List (List AV))),cl)]).set es.length (k,some rows,cl)=es++[(k,some rows,cl)]:=by
    rw[List.set_append_right _ _ (aD _),Nat.sub_self];rfl
   refine⟨w',hrun,fun xx=>⟨loc',r',by simp[rel],?_,p3.trans ?_⟩⟩
   ·simpa[oV,e2]using r1
   ·simpa[oV,e2]using r2
 ·cases h
theorem ar.BQ{E:Env}(H:ar E){id l0:Nat}{o o':ab}(hid:E.H[id]? = some o)(hlab:o.label=none)(M:o'.label=some l0)(N:o'.aF = o.aF)(J:∀(i:Nat) x,E.H[i]? = some x→x.label≠some l0)
  (ho:E.le { w:=E.w,H:=E.H.set id o',loc:=E.loc,X:=E.X }→aJ { w:=E.w,H:=E.H.set id o',loc:=E.loc,X:=E.X } id o') :
  ar { w:=E.w,H:=E.H.set id o',loc:=E.loc,X:=E.X }∧E.le { w:=E.w,H:=E.H.set id o',loc:=E.loc,X:=E.X }:=by
 have O:=aI hid;have I:∀(i:Nat) x,(E.H.set id o')[i]? = some x→(i=id∧x=o')∨(i≠id∧E.H[i]? = some x):=fun i x hi=>by
  by_cases q:i=id
  ·subst q
   rw[bx O]at hi;cases hi;exact .inl ⟨rfl,rfl⟩
  ·rw [aR (Ne.symm q)] at hi
   exact .inr ⟨q,hi⟩
 have hle:E.le { w:=E.w,H:=E.H.set id o',loc:=E.loc,X:=E.X }:=by
  refine⟨fun i ad U=>?_,aD _,fun _ _ _=>rfl,fun b hb J=>J,fun i ad U u=>?_,⟨rfl,rfl⟩,fun l h hh=>⟨hh,fun _ hq=>hq⟩,.refl _,fun i l x h1 d V=>⟨⟨[],(db _).symm⟩,?_⟩⟩
  rotate_right
  ·by_cases q : i = id
   ·subst q
    rw[hid]at h1;cases h1;rw[ab.wX hlab]at d;cases d
   ·exact⟨x,by simp only[]; rw[aR (Ne.symm q)]; exact h1,d⟩
  ·obtain ⟨x, h1, d⟩ := U
   by_cases q:i=id
   ·subst q
    rw[hid]at h1;cases h1;exact⟨o',by simp only[]; rw[bx O],ab.wW M,fun v V=>d.2 v (by rw[←N]; exact V)⟩
   ·exact⟨x,by simp only[]; rw[aR (Ne.symm q)]; exact h1,d⟩
  ·obtain ⟨x, h1, d⟩ := u
   rcases I i x h1 with⟨rfl,rfl⟩|⟨q,B⟩
   ·exact⟨⟨o,hid,by rw[←N]; exact d⟩,rfl⟩
   ·exact⟨⟨x,B,d⟩,rfl⟩
 refine⟨⟨by simp[H.len],H.inj,H.lt,H.X,fun i x hi=>?_,H.fb.bF hle.toC,H.eC,H.cP,H.ch,fun i k x y l hi hk h1 d=>?_,fun l hn h y hy=>?_⟩,hle⟩
 ·rcases I i x hi with ⟨rfl, rfl⟩ | ⟨q, B⟩
  ·exact ho hle
  ·exact jZ (fun a _ hr=>bH hle a hr) rfl (fun _ _ _=>rfl) (fun l u=>⟨rfl,fun _ _ _ _=>rfl⟩) (H.obj i x B)
 ·rcases I i x hi with ⟨rfl, rfl⟩ | ⟨q, B⟩ <;> rcases I k y hk with ⟨rfl, rfl⟩ | ⟨e4, W⟩
  ·rfl
  ·rw [M] at h1
   cases h1;exact(J k y W d).elim
  ·rw [M] at d
   cases d;exact(J i x B h1).elim
  ·exact H.uniq i k x y l B W h1 d
 ·refine H.gd l (fun i x hi u => ?_) h y hy
  by_cases e:i=id
  ·subst e
   rw[hid]at hi;cases hi;rw[hlab]at u;cases u
  ·exact hn i x (by show (E.H.set id o')[i]? = _; rw[aR (Ne.symm e)]; exact hi) u
theorem Tv{E:Env}(HE:ar E){id l w cl:Nat}(hid:E.H[id]? = some (.map [] cl))(d:kT E.H l=true) :
  ar { w:=E.w,H:=E.H.set id (.aO l w [] cl),loc:=E.loc,X:=E.X }∧E.le { w:=E.w,H:=E.H.set id (.aO l w [] cl),loc:=E.loc,X:=E.X } :=
 ar.BQ HE hid rfl rfl rfl (qW d) fun hle=>by
  have ho:=HE.obj id _ hid;simp only[aJ]at ho⊢;obtain⟨b,n,ms,h1,h,k⟩:=ho;refine⟨b,n,ms,h1,h,fH (fun a _ hr=>bH hle a hr) k,fun _=>0,fun i j x y hi=>by simp at hi,fun i x rows e hi=>by simp at hi⟩
theorem Tw{E:Env}(HE:ar E){id l w cl:Nat}{h:List (AV × AV × Nat)}{es:List (AV × Option (List (List AV)) × Nat)}(hid:E.H[id]? = some (.map h cl))(he:cu es=h)(k:∀ x∈es,x.2.1=none)(q:kT E.H l=true) :
  ar { w:=E.w,H:=E.H.set id (.aO l w es cl),loc:=E.loc,X:=E.X }∧E.le { w:=E.w,H:=E.H.set id (.aO l w es cl),loc:=E.loc,X:=E.X } :=
 ar.BQ HE hid rfl rfl rfl (qW q) fun hle=>by
  have ho:=HE.obj id _ hid;simp only[aJ]at ho⊢;obtain⟨b,n,ms,h1,u,v⟩:=ho;refine⟨b,n,ms,h1,u,fH (fun a _ hr=>bH hle a hr) (by rw[he]; exact v),fun i=>i,fun i j x y hi B d=>?_,fun i x rows e hi d=>?_⟩
  ·rw [k x (eB hi)] at d
   cases d
  ·rw [k x (eB hi)] at d
   cases d
theorem Tx{E:Env}(HE:ar E){id l w cl i:Nat}{es:List (AV × Option (List (List AV)) × Nat)}{key:AV}{rows:List (List AV)}{bn b n:Nat}{ms:Array MapEntry}{e':MapEntry}(hid:E.H[id]? = some (.aO l w es cl))(hes:es[i]? = some (key,some rows,bn))
  (h1:E.loc[id]? = some (some (b,n))) (h2:E.w.heap[b]? = some (.map ms cl)) (h3:bB E (cu es) ms.toList) (h4:iO E l w es ms.toList) (q4:ms.toList[i]? = some e') :
  ∃ W r',ar { w:=E.w,H:=E.H.set id (.aO l w (es.set i (key,none,bn)) cl)++[.vec w 0 rows],loc:=W,X:=E.X.re r' }∧E.le { w:=E.w,H:=E.H.set id (.aO l w (es.set i (key,none,bn)) cl)++[.vec w 0 rows],loc:=W,X:=E.X.re r' } ∧
   rel { w:=E.w,H:=E.H.set id (.aO l w (es.set i (key,none,bn)) cl)++[.vec w 0 rows],loc:=W,X:=E.X.re r' } (.vec w E.H.length 0 0 rows.length) e'.val:=by
 have hlenH:E.H.length=E.loc.length:=HE.len.symm;obtain⟨U,k1,k2⟩:=h4;have hsl:=k2 i _ rows e' hes rfl q4;obtain⟨k,h0,z1,z2,z3⟩:∃(k:Option (Nat × Nat)) (h0:Nat),(∀ b m,k=some (b,m)→(E.X.r l)[h0]? = some (some (some (b,m)))) ∧
   (∀ j y,es[j]? = some y→y.2.1.isSome=true→j≠i→∀ b m,(E.X.r l)[U j]? = some (some (some (b,m)))→U j≠h0) ∧
   ((k=none∧rows=[]∧∃ base,e'.val=.slice base 0 0)∨∃ b m,k=some (b,m)∧e'.val=.slice (some ⟨b,0,none⟩) rows.length m∧isRow E.w b (m*w)∧rows.length≤m∧eS rows∧cA E w rows b 0):=by
  rcases hsl with⟨s1,s2⟩|⟨u,mm,s1,s2,M,J,N,O⟩
  ·exact⟨none,(E.X.r l).length,fun _ _ e=>(by cases e),fun j y _ _ _ b m hb e=>(by rw[e]at hb; have:=aI hb; omega),.inl ⟨rfl,s1,s2⟩⟩
  ·exact⟨some (u,mm),U i,fun _ _ e=>(by cases e; exact s1),fun j y d hsy aw _ _ _ e=>aw (k1 j i _ _ d hes hsy rfl e),.inr ⟨u,mm,rfl,s2,M,J,N,O⟩⟩
 obtain⟨r1,r2⟩:=ar.BL HE (id:=id) (l0:=l) (h0:=h0) (o':=.aO l w (es.set i (key,none,bn)) cl) (ov:=.vec w 0 rows) (q:=k) hid rfl rfl rfl rfl z1 fun hle=>by
  refine⟨?_,?_⟩
  ·simp only [aJ]
   refine⟨b,n,ms,?_,h2,?_,?_⟩
   ·rw [cK (aI h1)]
    exact h1
   ·exact fH (fun a _ hr=>bH hle a hr) (BN hes rfl rfl h3)
   ·refine ⟨U, fun a V y z d hz sy sz he => ?_, fun a y rws e d hr he => ?_⟩
    all_goals
     have old:∀(j:Nat) y,(es.set i (key,none,bn))[j]? = some y→y.2.1.isSome=true→es[j]? = some y∧j≠i:=fun j y d hsm=>by
      rw[dU]at d;split at d
      ·split at d
       ·cases d
        cases hsm
       ·cases d
      ·rename_i aw
       exact⟨d,Ne.symm aw⟩
    ·exact k1 a V y z (old a y d sy).1 (old V z hz sz).1 sy sz he
    ·obtain ⟨o1, o2⟩ := old a y d (by rw [hr]; rfl)
     rcases k2 a y rws e o1 hr he with I|⟨u,mm,s1,s2,M,J,N,O⟩
     ·exact .inl I
     ·refine .inr ⟨u, mm, ?_, s2, M, J, N, jY (fun a _ hr => bH hle a hr) rfl O⟩
      have aw:=z2 a y o1 (by rw[hr]; rfl) o2 u mm s1;show (fU E.X.r l h0 l)[U a]? = _
      rw[BK fun e=>aw e.2];exact s1
  ·simp only [aJ]
   have I:(E.loc++[k])[E.H.length]? = some k:=by rw[hlenH]; simp
   rcases z3 with⟨rfl,s1,_⟩|⟨u,mm,rfl,_,M,J,N,O⟩
   ·exact .inl ⟨I,s1⟩
   ·exact .inr ⟨u,mm,I,M,J,N,jY (fun a _ hr=>bH hle a hr) rfl O⟩
 refine⟨E.loc++[k],fU E.X.r l h0,r1,r2,?_⟩;have hnew:(E.H.set id (.aO l w (es.set i (key,none,bn)) cl)++[.vec w 0 rows])[E.H.length]? = some (.vec w 0 rows):=by
  rw[hZ (by simp)];simp
 have I:(E.loc++[k])[E.H.length]? = some k:=by rw[hlenH]; simp
 simp only[rel];rcases z3 with⟨rfl,s1,base,s2⟩|⟨u,mm,rfl,s2,M,J,N,O⟩
 ·subst s1
  refine⟨⟨base,0,by rw[s2]; rfl,aD _,fun h=>by simp at h⟩,⟨_,hnew,rfl,fun v hv=>by cases hv; exact aD _⟩,fun _=>⟨fun _=>⟨by first|rfl|trivial,by first|rfl|trivial,base,s2⟩,fun V m' B=>?_⟩⟩;rw[I]at B;cases B
 ·refine ⟨⟨_, mm, s2, J, fun _ => ⟨u, 0, rfl⟩⟩, ⟨_, hnew, rfl, fun v hv => by cases hv; exact aD _⟩, fun _ => ⟨fun B => ?_, fun V m' B => ?_⟩⟩
  ·rw [I] at B
   cases B
  ·rw [I] at B
   cases B;exact⟨by omega,0,fun _=>by simp,by rw[s2,gq]⟩
theorem Ty{E:Env}(HE:ar E)(w:Nat) :
  ar { w:=E.w,H:=E.H++[.vec w 0 []],loc:=E.loc++[none],X:=E.X }∧E.le { w:=E.w,H:=E.H++[.vec w 0 []],loc:=E.loc++[none],X:=E.X } ∧
   rel { w:=E.w,H:=E.H++[.vec w 0 []],loc:=E.loc++[none],X:=E.X } (.vec w E.H.length 0 0 0) (.slice none 0 0):=by
 have hle:E.le (E.push E.w (.vec w 0 []) none):=Env.jC HE.len (Ext.refl _) (fun b n h=>by cases h);have d:(E.loc++[(none:Option (Nat × Nat))])[E.H.length]? = some none:=by rw[←HE.len]; simp
 have q:aJ (E.push E.w (.vec w 0 []) none) E.H.length (.vec w 0 []):=by
  simp only[aJ,Env.push];exact .inl ⟨d,trivial⟩
 refine⟨ar.push HE (Ext.refl _) (fun b n h=>by cases h) q,hle,?_⟩;simp only[rel];refine⟨⟨none,0,rfl,aD _,fun h=>by simp at h⟩,⟨.vec w 0 [],by simp,rfl,fun v u=>by cases u; exact aD _⟩,fun _=>⟨fun _=>⟨by first|rfl|trivial,by first|rfl|trivial,none,rfl⟩,fun y m' k=>?_⟩⟩;rw[d]at k;cases k
def im(P:Program)(t:TypeId)(m k:AV)(H:List ab):Option (AV × List ab) :=
 match dc P t,m with
 | some (d,h),.map id=>match H[id]? with
  | some (.aO l w es cl)=>match gB P d k,xy P h,gQ P h with
   | some q,some w',some (.lit (.slice none 0 0))=>match ae w' w&&k.closed with
    | true=>match ew P d q (cu es) 0 with
     | some (some (i,_))=>match nG es i with
      |some (_,rows,n)=>some (.tuple [.vec w H.length 0 0 rows.length,.lit (goInt n)],H.set id (.aO l w (es.set i (k,none,n)) cl)++[.vec w 0 rows])
      |none=>none
     |some none=>some (.tuple [.vec w H.length 0 0 0,.lit (goInt cl)],H.set id (.aO l w (es++[(k,none,cl)]) (cl+1))++[.vec w 0 []])
     |none=>none
    |false=>none
   |_,_,_=>none
  |_=>none
 |_,_=>none
theorem Tz{P:Program}{E:Env}(HE:ar E){t:TypeId}{m k v:AV}{c d:Value}{H':List ab}(h:im P t m k E.H=some (v,H'))(hm:rel E m c)(hk:rel E k d) :
  ∃ u w',(AQ t c d).run P E.w=.ok u w'∧cQ E v H' u w':=by
 unfold im at h;split at h
 case h_2=>cases h
 rename_i kt et id ht;split at h
 case h_2=>cases h
 rename_i l w es cl hid;split at h
 case h_2=>cases h
 rename_i kv w' hkv hw' I;split at h
 case h_2=>cases h
 rename_i hww;simp only[ax]at hww;have hcl:=hww.2;clear hw' hww;obtain⟨b,n,ms,rfl,h1,h2,h3,h4⟩:=xw HE hid hm;have N:=ij hkv hk;have J:=BM hkv;have e1:(getObj b).run P E.w=.ok (.map ms cl) E.w:=by simp[getObj,gv,h2]
 obtain⟨hlen,hall⟩:=dX.1 h3;rw[Bb]at hlen;have hidE:∀(w':World) es' cl',({ w:=w',H:=E.H.set id (.aO l w es' cl'),loc:=E.loc,X:=E.X }:Env).H[id]? = some (.aO l w es' cl'):=fun w' es' cl'=>by
  simp only[];rw[bx (aI hid)]
 split at h
 ·rename_i i v0 hf
  split at h
  case h_2=>cases h
  rename_i key rows bn W;cases h;have hes:es[i]? = some (key,some rows,bn):=by
   unfold nG at W;split at W
   ·rename_i a1 a2 a3 he
    cases W;exact he
   ·cases W
  have hlt:=aI hes;obtain⟨r',g1,g2⟩:=gP N E.w h3 hf;cases r' with
  |none=>simp[di]at g2
  | some q =>
   simp only[di]at g2;obtain⟨q1,q2,_,e',U,q5⟩:=g2;obtain⟨_,x,y,f1,f2,f3⟩:=tR hf;simp only[gq]at U f1;obtain⟨a1,a2,a3,a4,a5⟩:=hall i x e' f1 U;obtain⟨s1,s2⟩:=xu N (ij f2 a1) f3;have q4':ms[i]? = some e':=by simpa using U
   have hx:x=((fp key).1,(fp key).2,bn):=by rw[tV hes]at f1; cases f1; rfl
   have hre:bB E (cu (es.set i (k,some rows,bn))) (ms.modify i fun e=>{ e with key:=d }).toList:=by
    rw[dX];refine⟨by simp[cu,hlen],fun a y z B I=>?_⟩;simp only[kJ,iJ]at I;obtain⟨z0,O,rfl⟩:=dN.1 I;unfold cu at B;rw[bT,dU]at B;by_cases e:i=a
    ·subst e
     rw[if_pos rfl,if_pos hlt]at B;cases B;rw[U]at O;cases O;simp only[if_true];refine⟨by simpa[J]using hk,by simp[J,rel],?_,by simpa[J]using hcl,by simp[J,AV.closed]⟩;rw[a3,hx]
    ·rw [if_neg e] at B
     obtain⟨b1,b2,b3,b4,b5⟩:=hall a y z0 (by unfold cu; rw[bT]; exact B) O;simp only[if_neg e];exact⟨b1,b2,b3,b4,b5⟩
   have hsl2:iO E l w (es.set i (k,some rows,bn)) (ms.modify i fun e=>{ e with key:=d }).toList:=by
    obtain⟨hs,k1,k2⟩:=h4;have M:∀(a:Nat) y,(es.set i (k,some rows,bn))[a]? = some y→∃ z,es[a]? = some z∧z.2.1=y.2.1:=fun a y B=>by
     by_cases ei:i=a
     ·subst ei
      rw[bx hlt]at B;cases B;exact⟨_,hes,rfl⟩
     ·rw [aR ei] at B
      exact⟨y,B,rfl⟩
    refine⟨hs,fun a c y z B I sy sz he=>?_,fun a y rws e B hr he=>?_⟩
    ·obtain ⟨y', hy', ey⟩ := M a y B
     obtain⟨z',hz',ez⟩:=M c z I;exact k1 a c y' z' hy' hz' (by rw[ey]; exact sy) (by rw[ez]; exact sz) he
    ·obtain ⟨y', hy', ey⟩ := M a y B
     simp only[kJ,iJ]at he;obtain⟨z0,O,rfl⟩:=dN.1 he;have:=k2 a y' rws z0 hy' (by rw[ey]; exact hr) O;split<;>exact this
   obtain⟨V,p1,p2,p3,p4,p5⟩:=tX (P:=P) HE (cl':=cl) hid h1 h2 hre hsl2;have hobj:=p2.obj id _ (hidE V _ _);simp only[aJ]at hobj;obtain⟨b2,n2,ms2,o1,o2,o3,o4⟩:=hobj;rw[h1]at o1;simp only[aQ,a7]at o1;obtain⟨rfl,rfl⟩:=o1;rw[p4]at o2;cases o2;obtain⟨loc',r',r1,r2,r3⟩:=Tx p2 (i:=i) (key:=k) (rows:=rows) (bn:=bn) (e':={ e' with key:=d }) (hidE V _ _) (by rw[bx hlt]) h1 p4 o3 o4 (by
    simp only[kJ,iJ,U];simp)
   simp only[oV,nk]at r1 r2 r3;refine⟨.tuple #[e'.val,goInt bn],V,?_,loc',r',?_,r1,p3.trans r2⟩
   ·have hst : (qu e'.key d).run P E.w = .ok d E.w := by simp [qu, s2]
    subst q1;simp only[AQ,bW,Sem.bp (ft ht),bX,e1,gg N,g1,q4',dO,ga,hst];rw[p1];simp only[bX,fl];rw[a3,hx,←q5]
   ·simp only [rel]
    refine⟨_,rfl,?_⟩;simp only[af,and_true];exact⟨r3,by simp[rel]⟩
 ·rename_i hf
  cases h;obtain⟨r',g1,g2⟩:=gP N E.w h3 hf;cases r' with
  |some _=>simp[di]at g2
  | none =>
   obtain⟨zv,z1,z2⟩:=qY I E.w;have hzv:zv=.slice none 0 0:=by have:=z2 E; simpa[rel]using this
   have hml:ms.toList.length=es.length:=by omega
   have hre:bB E (cu (es++[(k,none,cl)])) (ms.push { key:=d,val:=zv,born:=cl }).toList:=by
    rw[dX];refine⟨by simp[cu,hlen],fun a y z B I=>?_⟩;unfold cu at B;rw[jX]at B;simp only[oU,fk,cN]at B I;rw[hml]at I;by_cases e:a<es.length
    ·simp only [if_pos e] at B I
     exact hall a y z (by unfold cu; exact B) I
    ·simp only [if_neg e] at B I
     cases hj2:a-es.length with
     | zero =>
      rw[hj2]at B I;simp at B I;subst B; subst I;exact⟨by simpa[J]using hk,by simp[J,rel],rfl,by simpa[J]using hcl,by simp[J,AV.closed]⟩
     |succ _=>rw[hj2]at B; simp at B
   have hsl2:iO E l w (es++[(k,none,cl)]) (ms.push { key:=d,val:=zv,born:=cl }).toList:=by
    obtain⟨hs,k1,k2⟩:=h4;have M:∀(a:Nat) y,(es++[(k,(none:Option (List (List AV))),cl)])[a]? = some y→y.2.1.isSome=true→es[a]? = some y∧a<es.length:=fun a y B hsm=>by
     rw[fk]at B;split at B
     ·rename_i hh
      exact⟨B,hh⟩
     ·cases hk2 : a - es.length with
      | zero =>
       rw[hk2]at B;simp at B;subst B;cases hsm
      |succ _=>rw[hk2]at B; simp at B
    refine⟨hs,fun a c y z B I sy sz he=>k1 a c y z (M a y B sy).1 (M c z I sz).1 sy sz he,fun a y rws e B hr he=>?_⟩;obtain⟨o1,o2⟩:=M a y B (by rw[hr]; rfl);simp only[oU]at he;rw[cK (by omega)]at he;exact k2 a y rws e o1 hr he
   obtain⟨V,p1,p2,p3,p4,p5⟩:=tX (P:=P) HE (cl':=cl+1) hid h1 h2 hre hsl2;obtain⟨r1,r2,r3⟩:=Ty p2 w;simp only[nk]at r3;refine⟨.tuple #[zv,goInt cl],V,?_,E.loc++[none],E.X.r,?_,r1,p3.trans r2⟩
   ·simp only [AQ, bW, Sem.bp (ft ht), bX, e1, gg N, g1, z1]
    rw[p1];rfl
   ·simp only [rel]
    refine⟨_,rfl,?_⟩;simp only[af,and_true];rw[hzv];exact⟨r3,by simp[rel]⟩
 ·cases h
def pr (es:List (AV × Option (List (List AV)) × Nat)) (st:Int):Option Nat:=es.findIdx? fun x=>(x.2.2:Int)==st
def plainKey:AV→Bool
 |.tuple _=>false
 |_=>true
theorem TA{k:AV}(h:plainKey k=true):fp k=(k,.undef):=by
 cases k<;>first|rfl|cases h
def j8(m s v:AV)(H:List ab):Option (List ab) :=
 match m,s,v with
 | .map id,.lit (.int .i64 st),.vec w j ad off n=>match H[id]?,H[j]? with
  | some (.aO l w' es cl),some (.vec h d rows)=>if (w=w'∧w=h)∧(ad=d∧off=0)∧n=rows.length then
    match pr es st with
    | some i=>match es[i]? with
     | some (key,_,bn)=>match plainKey (fp key).1 with
      |true=>some ((H.set id (.aO l w' (es.set i ((fp key).1,some rows,bn)) cl)).set j .dead)
      |false=>none
     |none=>none
    |none=>none
   else none
  |_,_=>none
 |_,_,_=>none
theorem IL{E:Env}{st:Int}:∀{es:List (AV × Option (List (List AV)) × Nat)} {ms:List MapEntry},bB E (cu es) ms→ms.findIdx? (fun e=>(e.born:Int)==st)=pr es st
 | [],[],_=>rfl
 | [],_::_,h=>by simp[cu,bB]at h
 |_::_,[],h=>by simp[cu,bB]at h
 | x::es,e::ms,h=>by
  have h':bB E (((fp x.1).1,(fp x.1).2,x.2.2)::cu es) (e::ms):=h;simp only[bB]at h';obtain⟨_,_,k,_,_,q⟩:=h';have d:=IL (st:=st) q;unfold pr at d⊢;simp only[Hs,k,d]
theorem TB{P:Program}{E:Env}(HE:ar E){t:TypeId}{m s v:AV}{c d u:Value}{H':List ab}(h:j8 m s v E.H=some H')(hm:rel E m c)(O:rel E s d)(hv:rel E v u) :
  ∃ w',(wM t c d u).run P E.w=.ok () w'∧∀ x,cQ E .undef H' x w':=by
 unfold j8 at h;split at h
 case h_2=>cases h
 rename_i id st w j ad off n;split at h
 case h_2=>cases h
 rename_i l w' es cl w2 ver' rows hid U;split at h
 case isFalse=>cases h
 rename_i hc;obtain⟨⟨rfl,rfl⟩,⟨rfl,rfl⟩,rfl⟩:=hc;split at h
 case h_2=>cases h
 rename_i i hi;split at h
 case h_2=>cases h
 rename_i key0 B bn hes;split at h
 case h_2=>cases h
 rename_i hpl;cases h;have q:=TA hpl;obtain⟨key,M⟩:∃ key,key=(fp key0).1:=⟨_,rfl⟩
 rw[←M]at q⊢;obtain⟨b,n,ms,rfl,h1,h2,h3,h4⟩:=xw HE hid hm;have aw:j≠id:=fun e=>by rw[e,hid]at U; cases U
 have e1:(getObj b).run P E.w=.ok (.map ms cl) E.w:=by simp[getObj,gv,h2]
 obtain⟨hlen,hall⟩:=dX.1 h3;rw[Bb]at hlen;have N:=aI hes;obtain⟨e',q4⟩:∃ e',ms.toList[i]? = some e':=⟨ms.toList[i]'(by omega),bt _⟩
 have hfind:ms.findIdx? (fun e=>(e.born:Int)==st)=some i:=by
  have e0:ms=ms.toList.toArray:=by simp
  rw[e0,agT,IL h3,hi]
 have hre:bB E (cu (es.set i (key,none,bn))) (ms.modify i fun e=>{ e with val:=u }).toList:=by
  rw[dX];refine⟨by simp[cu,hlen],fun a y z k J=>?_⟩;simp only[kJ,iJ]at J;obtain⟨z0,I,rfl⟩:=dN.1 J;unfold cu at k;rw[bT,dU]at k;by_cases e:i=a
  ·subst e
   rw[if_pos rfl,if_pos N]at k;cases k;obtain⟨b1,V,W,b4,b5⟩:=hall i _ z0 (tV hes) I;simp only[if_true];exact⟨by simpa only[q,←M]using b1,by simp[q,rel],W,by simpa only[q,←M]using b4,by simp[q,AV.closed]⟩
  ·rw [if_neg e] at k
   obtain⟨b1,V,W,b4,b5⟩:=hall a y z0 (by unfold cu; rw[bT]; exact k) I;simp only[if_neg e];exact⟨b1,V,W,b4,b5⟩
 have hsl2:iO E l w (es.set i (key,none,bn)) (ms.modify i fun e=>{ e with val:=u }).toList:=by
  obtain⟨O,k1,k2⟩:=h4;have B:∀(a:Nat) y,(es.set i (key,none,bn))[a]? = some y→y.2.1.isSome=true→es[a]? = some y∧a≠i:=fun a y k hsm=>by
   by_cases ei:i=a
   ·subst ei
    rw[bx N]at k;cases k;cases hsm
   ·rw [aR ei] at k
    exact⟨k,Ne.symm ei⟩
  refine⟨O,fun a c y z k J sy sz he=>k1 a c y z (B a y k sy).1 (B c z J sz).1 sy sz he,fun a y rws e k hr he=>?_⟩;obtain⟨o1,o2⟩:=B a y k (by rw[hr]; rfl);simp only[kJ,iJ]at he;obtain⟨z0,I,rfl⟩:=dN.1 he;rw[if_neg (Ne.symm o2)];exact k2 a y rws z0 o1 hr I
 obtain⟨w',p1,p2,p3,p4,p5⟩:=tX (P:=P) HE (cl':=cl) hid h1 h2 hre hsl2;have hd:d=.int .i64 st:=by simpa[rel]using O
 have hrun:(wM t (.map (some b)) d u).run P E.w=.ok () w':=by
  subst hd;simp only[wM,asInt,asIntOf,bW,bX,e1,fl,hfind];exact p1
 have hidE:({ w:=w',H:=E.H.set id (.aO l w (es.set i (key,none,bn)) cl),loc:=E.loc,X:=E.X }:Env).H[id]? = some (.aO l w (es.set i (key,none,bn)) cl):=by
  simp only[];rw[bx (aI hid)]
 have hjE:({ w:=w',H:=E.H.set id (.aO l w (es.set i (key,none,bn)) cl),loc:=E.loc,X:=E.X }:Env).H[j]? = some (.vec w ad rows):=by
  simp only[];rw[aR (Ne.symm aw)];exact U
 have hobj:=p2.obj id _ hidE;simp only[aJ]at hobj;obtain⟨V,n2,ms2,o1,o2,o3,o4⟩:=hobj;rw[h1]at o1;simp only[aQ,a7]at o1;obtain⟨rfl,rfl⟩:=o1;rw[p4]at o2;cases o2;obtain⟨loc',r',r1,r2⟩:=BP p2 (i:=i) (key:=key) (bn:=bn) (e:={ e' with val:=u }) hidE hjE (by rw[bx N]) h1 p4 (by
  simp only[kJ,iJ,q4];simp) o3 o4 (bH p3 _ hv)
 refine⟨w',hrun,fun xx=>⟨loc',r',by simp[rel],?_,p3.trans ?_⟩⟩
 ·simpa[oV]using r1
 ·simpa[oV]using r2
end Go.AL

namespace Go.AL
open Go
variable [Dr]
theorem TC{r:List (Option (Option (Nat × Nat)))}(h:∀(i:Nat) q,r[i]? ≠ some (some q)):dZ r=[]:=by
 unfold dZ;rw[List.filterMap_eq_nil_iff];intro x d;obtain⟨i,hi,e⟩:=ma d;cases x with
 |none=>rfl
 |some q=>exact absurd (by rw[bt hi,e]) (h i q)
theorem IM{E:Env}(HE:ar E){id l cl:Nat}(hid:E.H[id]? = some (.map [] cl))(d:kT E.H l=true) :
  ar { w:=E.w,H:=E.H.set id (.mm l [] [] cl),loc:=E.loc,X:=E.X }∧E.le { w:=E.w,H:=E.H.set id (.mm l [] [] cl),loc:=E.loc,X:=E.X } :=
 ar.BQ HE hid rfl rfl rfl (qW d) fun hle=>by
  have ho:=HE.obj id _ hid;simp only[aJ]at ho⊢;obtain⟨b,n,ms,h1,h,k⟩:=ho;have q:=TC (HE.gd l (qW d));refine⟨b,n,ms,h1,h,fH (fun a _ hr=>bH hle a hr) k,?_,fun i x e u=>by simp at u,fun j m b hm=>by simp at hm⟩;show (dZ (E.X.r l)).length=0
  rw[q];rfl
theorem BR{E:Env}(HE:ar E){id l cl:Nat}{es:List (AV × Option Nat × Nat)}{ms:List (List (AV × AV × Nat) × Nat)}{c:Value}(hid:E.H[id]? = some (.mm l es ms cl))(hr:rel E (.map id) c) :
  ∃ b n d,c=.map (some b)∧E.loc[id]? = some (some (b,n))∧E.w.heap[b]? = some (.map d cl)∧bB E (fq es) d.toList∧wZ E l es ms d.toList:=by
 have ho:=HE.obj id _ hid;simp only[aJ]at ho;obtain⟨b,n,d,h1,h,k,q⟩:=ho;simp only[rel]at hr;obtain⟨_,_,u⟩:=hr;obtain⟨v,y,g1,g2⟩:=u ⟨_,hid,rfl⟩;rw[h1]at g1;simp only[aQ,a7]at g1;obtain⟨rfl,rfl⟩:=g1;exact⟨b,n,d,g2,h1,h,k,q⟩
theorem IN{E:Env}(HE:ar E){id l cl i:Nat}{es:List (AV × Option Nat × Nat)}{ms:List (List (AV × AV × Nat) × Nat)}{m:List (AV × AV × Nat) × Nat}{c:Value}(hid:E.H[id]? = some (.mm l es ms cl))(hm:ms[i]? = some m) (hr:rel E (.sub id l (some i)) c) :
  ∃ b d,c=.map (some b)∧(dZ (E.X.r l))[i]? = some b∧E.w.heap[b]? = some (.map d m.2)∧bB E m.1 d.toList:=by
 have ho:=HE.obj id _ hid;simp only[aJ]at ho;obtain⟨_,_,d,_,_,_,_,_,k⟩:=ho;simp only[rel]at hr;rcases hr with⟨h,_⟩|⟨u,h1,_,_,q⟩
 ·cases h
 cases h1;obtain⟨_,b,g1,g2⟩:=q ⟨_,hid,rfl⟩;obtain⟨mm,g3,g4⟩:=k i m b hm g1;exact⟨b,mm,g2,g1,g3,g4⟩
def pt(P:Program)(t:TypeId)(m k:AV)(H:List ab):Option AV :=
 match dc P t,m with
 | some (d,h),.map id=>match H[id]? with
  | some (.mm l es _ _)=>match gB P d k,gQ P h with
   | some q,some (.lit (.map none))=>match ew P d q (fq es) 0 with
    |some (some (i,_))=>(es[i]?).map fun x=>.sub id l x.2.1
    |some none=>some (.sub id l none)
    |none=>none
   |_,_=>none
  |_=>none
 |_,_=>none
theorem TD{P:Program}{E:Env}(HE:ar E){t:TypeId}{m k v:AV}{c d:Value}(h:pt P t m k E.H=some v)(hm:rel E m c)(hk:rel E k d) :
  ∃ u,(kH t c d false).run P E.w=.ok u E.w∧rel E v u:=by
 unfold pt at h;split at h
 case h_2=>cases h
 rename_i kt et id J;split at h
 case h_2=>cases h
 rename_i l es ms cl hid;split at h
 case h_2=>cases h
 rename_i kv U hz;obtain⟨b,n,V,rfl,h1,h2,M,_,hmm,_⟩:=BR HE hid hm;have y:=ij U hk;obtain⟨zv,z1,z2⟩:=qY hz E.w;have W:zv=.map none:=by simpa[rel]using z2 E
 subst W;have N:(getObj b).run P E.w=.ok (.map V cl) E.w:=by simp[getObj,gv,h2]
 split at h
 ·rename_i i v0 B
  obtain⟨r',g1,g2⟩:=gP y E.w M B;cases r' with
  |none=>simp[di]at g2
  | some q =>
   simp only[di]at g2;obtain⟨q1,_,_,e,q4,q5⟩:=g2;obtain⟨x,hx,rfl⟩:=dN.1 h;refine⟨q.2,?_,?_⟩
   ·simp only [kH, bW, Sem.bp (ft J), bX, N, fl, gg y, g1]
    rfl
   ·rw [← q5]
    simp only[rel];rcases hmm i x e hx (by simpa using q4)with⟨I,a2⟩|⟨j,O,I,a2,a3⟩
    ·exact .inl ⟨I,a2⟩
    ·exact .inr ⟨j,I,⟨O,a3⟩,⟨_,hid,rfl,fun v _=>eI v⟩,fun _=>⟨⟨_,hid,rfl⟩,O,a2,a3⟩⟩
 ·rename_i B
  obtain⟨r',g1,g2⟩:=gP y E.w M B;cases h;cases r' with
  |some _=>simp[di]at g2
  | none =>
   refine⟨.map none,?_,by simp[rel]⟩;simp only[kH,bW,Sem.bp (ft J),bX,N,fl,gg y,g1,z1];rfl
 ·cases h
def qZ(P:Program)(t:TypeId)(m k:AV)(ok:Bool)(H:List ab):Option AV :=
 match dc P t,m with
 | some (d,h),.sub id l (some i)=>match H[id]? with
  | some (.mm l' _ ms _)=>match ae l l',ms[i]?,gB P d k,mE P h with
   | true,some mm,some q,some z=>match ew P d q mm.1 0 with
    | some r=>let v:=match r with
      |some (_,v)=>v
      |none=>z
     some (match ok with
      |true=>.tuple [v,.lit (.bool r.isSome)]
      |false=>v)
    |none=>none
   |_,_,_,_=>none
  |_=>none
 |_,_=>none
theorem TE{P:Program}{E:Env}(HE:ar E){t:TypeId}{m k v:AV}{ok:Bool}{c d:Value}(h:qZ P t m k ok E.H=some v)(hm:rel E m c)(hk:rel E k d) :
  ∃ u,(kH t c d ok).run P E.w=.ok u E.w∧rel E v u:=by
 unfold qZ at h;split at h
 case h_2=>cases h
 rename_i kt et id l i I;split at h
 case h_2=>cases h
 rename_i l' es ms cl hid;split at h
 case h_2=>cases h
 rename_i mm kv z B hmm O V;have B:=bk B;subst B;split at h
 case h_2=>cases h
 rename_i r hr;obtain⟨b,U,rfl,_,W,h3⟩:=IN HE hid hmm hm;have y:=ij O hk;obtain⟨r',g1,g2⟩:=gP y E.w h3 hr;obtain⟨J,z1,z2⟩:=Ix V E.w;have M:(getObj b).run P E.w=.ok (.map U mm.2) E.w:=by simp[getObj,gv,W]
 cases h;cases r with
 | none =>
  cases r' with
  |some _=>simp[di]at g2
  | none =>
   refine⟨if ok then .tuple #[J,.bool false] else J,?_,?_⟩
   ·simp only[kH,bW,Sem.bp (ft I),bX,M,fl,gg y,g1,z1]
   ·cases ok with
    |true=>simp[rel,af,z2 E]
    |false=>simpa using z2 E
 | some p =>
  cases r' with
  |none=>simp[di]at g2
  | some q =>
   simp only[di]at g2;obtain⟨q1,N,_,_,_,_⟩:=g2;refine⟨if ok then .tuple #[q.2,.bool true] else q.2,?_,?_⟩
   ·simp only[kH,bW,Sem.bp (ft I),bX,M,fl,gg y,g1]
   ·cases ok with
    |true=>simp[rel,af,N]
    |false=>simpa using N
theorem IP:∀{r:List (Option (Option (Nat × Nat)))},(∀(h h' b m n:Nat),r[h]? = some (some (some (b,m)))→r[h']? = some (some (some (b,n)))→h=h')→(dZ r).Nodup
 | [],_=>Hc
 | x::r,H=>by
  have d:=IP (r:=r) fun h h' b m n h1 k=>by
   have:=H (h+1) (h'+1) b m n (by simpa using h1) (by simpa using k);omega
  match x,H with
  |none,_=>exact d
  |some none,_=>exact d
  | some (some (b,m)),H =>
   show (b::dZ r).Nodup
   refine List.nodup_cons.2 ⟨fun hm=>?_,d⟩;obtain⟨i,n,hi⟩:=wY hm;have:=H 0 (i+1) b m n rfl (by simpa using hi);omega
theorem TF{E:Env}(HE:ar E){l i j b:Nat} (h1:(dZ (E.X.r l))[i]? = some b) (d:(dZ (E.X.r l))[j]? = some b):i=j :=
 (List.getElem?_inj (aI h1) (IP fun h h' b m n k q=>(HE.eC l h l h' b m n k q).2)).1 (by rw[h1,d])
def jF(P:Program)(t:TypeId)(m k:AV)(ok:Bool)(H:List ab):Option AV :=
 match m with
 |.sub id l j=>qZ P t (.sub id l j) k ok H
 | .map id=>match ok with
  |false=>pt P t (.map id) k H
  |true=>none
 |_=>none
theorem TG{P:Program}{E:Env}(HE:ar E){t:TypeId}{m k v:AV}{ok:Bool}{c d:Value}(h:jF P t m k ok E.H=some v)(hm:rel E m c)(hk:rel E k d) :
  ∃ u,(kH t c d ok).run P E.w=.ok u E.w∧rel E v u:=by
 unfold jF at h;split at h
 ·exact TE HE h hm hk
 ·split at h
  ·exact TD HE h hm hk
  ·cases h
 ·cases h
theorem IQ{P:Program}{t:TypeId}{m k v:AV}{ok:Bool}{H H2:List ab}(hg:∀(i l:Nat) es ms (cl:Nat),H[i]? = some (ab.mm l es ms cl)→H2[i]? = some (ab.mm l es ms cl))(h:jF P t m k ok H=some v):jF P t m k ok H2=some v∧fT P t m k ok H2=none:=by
 unfold jF at h⊢;unfold fT;split at h
 ·rename_i id l j
  refine⟨?_,by split<;>first|rfl|(rename_i e; cases e)⟩;unfold qZ at h⊢;split at h
  case h_2=>cases h
  rename_i q u i y;split at h
  case h_2=>cases h
  rename_i l' es ms cl hid;simp only[hg _ _ _ _ _ hid];exact h
 ·rename_i id
  split at h
  case h_2=>cases h
  cases d:dc P t with
  | none =>
   simp only[pt,d]at h;cases h
  | some p =>
   simp only[pt,d]at h⊢;split at h
   case h_2=>cases h
   rename_i hid;simp only[hg _ _ _ _ _ hid];exact⟨h,trivial⟩
 ·cases h
theorem TH{P:Program}{t:TypeId}{m k:AV}{ok:Bool}{H H2:List ab}(h1:∀ id,m=.map id→H2[id]? = H[id]?)(d:∀ id l j,m=.sub id l j→H2[id]? = H[id]?):jF P t m k ok H2=jF P t m k ok H:=by
 unfold jF;cases m<;>try rfl
 ·rename_i id
  cases ok with
  |true=>rfl
  | false =>
   unfold pt;cases dc P t with
   |none=>rfl
   |some p=>simp only[h1 id rfl]
 ·rename_i id l j
  unfold qZ;cases dc P t with
  |none=>rfl
  | some p =>
   cases j with
   |none=>rfl
   |some j=>simp only[d id l (some j) rfl]
theorem IS{P:Program}{E:Env}(HE:ar E){id l cl i b:Nat}{es:List (AV × Option Nat × Nat)}{ms:List (List (AV × AV × Nat) × Nat)}{m m':List (AV × AV × Nat) × Nat}{J mes':Array MapEntry}(hid:E.H[id]? = some (.mm l es ms cl))(hm:ms[i]? = some m)
  (hb:(dZ (E.X.r l))[i]? = some b) (O:E.w.heap[b]? = some (.map J m.2)) (hr:bB E m'.1 mes'.toList) :
  ∃ w',(setObj b (.map mes' m'.2)).run P E.w=.ok () w'∧ar { w:=w',H:=E.H.set id (.mm l es (ms.set i m') cl),loc:=E.loc,X:=E.X }∧E.le { w:=w',H:=E.H.set id (.mm l es (ms.set i m') cl),loc:=E.loc,X:=E.X }:=by
 obtain⟨h,u,v⟩:=wY (eB hb);have M:=(HE.ch l h b u v).1;have N:({ E.w with heap:=E.w.heap.setIfInBounds b (.map mes' m'.2) }:World).heap.size=E.w.heap.size:=by simp
 have q:∀ y,y≠b→({ E.w with heap:=E.w.heap.setIfInBounds b (.map mes' m'.2) }:World).heap[y]? = E.w.heap[y]? := by
  intro y U;simp only[AP];rw[if_neg (fun e=>U e.symm)]
 have key:=ar.Be (w':={ E.w with heap:=E.w.heap.setIfInBounds b (.map mes' m'.2) }) (r':=E.X.r) (o':=.mm l es (ms.set i m') cl) HE hid rfl rfl rfl (agU N.symm) (fun x _ _ V=>q x fun e=>by
   subst e;exact V h u v) (fun _ _=>rfl) (fun _ _ _ hk=>.inl hk) (fun _ hk=>⟨hk,fun _ W=>W⟩) (fun hle=>?_) ⟨rfl,rfl,rfl,fun _=>aD _⟩ (.inr ⟨rfl,[],(db _).symm⟩)
 ·exact⟨_,by simp[setObj,gv,O],key.1,key.2⟩
 ·have ho := HE.obj id _ hid
  simp only[aJ]at ho⊢;obtain⟨b0,n,I,g1,g2,g3,g4,g5,g6⟩:=ho;have aw:b0≠b:=fun e=>HE.cP id b0 n l h u g1 (by rw[e]; exact v);refine⟨b0,n,I,g1,?_,fH (fun a _ hr=>bH hle a hr) g3,?_,g5,fun j mj B k d=>?_⟩
  ·rw [← g2]
   exact q b0 aw
  ·show (dZ (E.X.r l)).length = _
   rw[nk];exact g4
  ·have d : (dZ (E.X.r l))[j]? = some B := d
   by_cases e:i=j
   ·subst e
    rw[bx (aI hm)]at k;cases k;rw[hb]at d;cases d;exact⟨mes',by simp[M],fH (fun a _ hr=>bH hle a hr) hr⟩
   ·rw [aR e] at k
    obtain⟨mm,k1,k2⟩:=g6 j mj B k d;refine⟨mm,?_,fH (fun a _ hr=>bH hle a hr) k2⟩;rw[←k1];exact q B fun e2=>e (TF HE hb (by rw[←e2]; exact d))
def tY(P:Program)(t:TypeId)(m k v:AV)(H:List ab):Option (List ab) :=
 match dc P t,m with
 | some (u,_),.sub id l (some i0)=>match H[id]? with
  | some (.mm l' h d q)=>match ae l l',d[i0]?,gB P u k with
   | true,some mm,some y=>if v.closed=true∧k.closed=true then
     match ew P u y mm.1 0 with
     |some (some (i,_))=>some (H.set id (.mm l h (d.set i0 (mm.1.modify i fun e=>(k,v,e.2.2),mm.2)) q))
     |some none=>some (H.set id (.mm l h (d.set i0 (mm.1++[(k,v,mm.2)],mm.2+1)) q))
     |none=>none
    else none
   |_,_,_=>none
  |_=>none
 |_,_=>none
theorem TI{P:Program}{E:Env}(HE:ar E){t:TypeId}{m k v:AV}{c d u:Value}{H':List ab}(h:tY P t m k v E.H=some H')(hm:rel E m c)(hk:rel E k d)(hv:rel E v u) :
  ∃ w',(mh t c d u).run P E.w=.ok () w'∧ar { w:=w',H:=H',loc:=E.loc,X:=E.X }∧E.le { w:=w',H:=H',loc:=E.loc,X:=E.X }:=by
 unfold tY at h;split at h
 case h_2=>cases h
 rename_i kt et id l i0 ht;split at h
 case h_2=>cases h
 rename_i l' oes oms ocl hid;split at h
 case h_2=>cases h
 rename_i mm kv U hmm hkv;have U:=bk U;subst U;obtain⟨es,cl⟩:=mm;split at h
 case isFalse=>cases h
 rename_i M;obtain⟨b,ms,rfl,h1,V,W⟩:=IN HE hid hmm hm;have J:=ij hkv hk;have e1:(getObj b).run P E.w=.ok (.map ms cl) E.w:=by simp[getObj,gv,V]
 obtain⟨hlen,O⟩:=dX.1 W;split at h
 ·rename_i i v0 N
  cases h;obtain⟨r',g1,g2⟩:=gP J E.w W N;cases r' with
  |none=>simp[di]at g2
  | some q =>
   simp only[di]at g2;obtain⟨q1,q2,_,e',q4,q5⟩:=g2;obtain⟨_,x,l,f1,f2,f3⟩:=tR N;simp only[gq]at q4 f1;obtain⟨a1,a2,a3,a4,a5⟩:=O i x e' f1 q4;obtain⟨s1,s2⟩:=xu J (ij f2 a1) f3;have q4':ms[i]? = some e':=by simpa using q4
   obtain⟨w',r1,r2,r3⟩:=IS (P:=P) HE (m':=(es.modify i fun e=>(k,v,e.2.2),cl)) (mes':=ms.modify i fun e=>{ e with key:=d,val:=u }) hid hmm h1 V (by
    rw[dX];refine⟨by simp[hlen],fun j y z B I=>?_⟩;simp only[iJ]at B;simp only[kJ,iJ]at I;obtain⟨y0,hy0,rfl⟩:=dN.1 B;obtain⟨z0,hz0,rfl⟩:=dN.1 I;obtain⟨b1,b2,b3,b4,b5⟩:=O j y0 z0 hy0 hz0;by_cases e:i=j
    ·subst e
     simp only[if_true];exact⟨hk,hv,b3,M.2,M.1⟩
    ·simp only [if_neg e]
     exact⟨b1,b2,b3,b4,b5⟩)
   refine⟨w',?_,r2,r3⟩;subst q1;have hst:(qu e'.key d).run P E.w=.ok d E.w:=by simp[qu,s2]
   simp only[mh,bW,Sem.bp (ft ht),bX,e1,gg J,g1,q4',dO,ga,hst];exact r1
 ·rename_i N
  cases h;obtain⟨r',g1,g2⟩:=gP J E.w W N;cases r' with
  |some _=>simp[di]at g2
  | none =>
   obtain⟨w',r1,r2,r3⟩:=IS (P:=P) HE (m':=(es++[(k,v,cl)],cl+1)) (mes':=ms.push { key:=d,val:=u,born:=cl }) hid hmm h1 V (by
    rw[dX];refine⟨by simp[hlen],fun j y z B I=>?_⟩;simp only[oU,fk,hlen]at B I;by_cases e:j<ms.toList.length
    ·simp only [if_pos e] at B I
     exact O j y z B I
    ·simp only [if_neg e] at B I
     cases hj:j-ms.toList.length with
     | zero =>
      rw[hj]at B I;simp at B I;subst B; subst I;exact⟨hk,hv,rfl,M.2,M.1⟩
     |succ _=>rw[hj]at B; simp at B)
   refine⟨w',?_,r2,r3⟩;simp only[mh,bW,Sem.bp (ft ht),bX,e1,gg J,g1];exact r1
 ·cases h
theorem IT{P:Program}{E:Env}(HE:ar E){id l b n cl cl':Nat}{es es':List (AV × Option Nat × Nat)}{ms:List (List (AV × AV × Nat) × Nat)}{v mes':Array MapEntry}(hid:E.H[id]? = some (.mm l es ms cl)) (d:E.loc[id]? = some (some (b,n)))
  (hb:E.w.heap[b]? = some (.map v cl)) (hr:bB E (fq es') mes'.toList)
  (hmm:∀(i:Nat) x e,es'[i]? = some x→mes'.toList[i]? = some e→(x.2.1=none∧e.val=.map none)∨∃ j b,x.2.1=some j∧(dZ (E.X.r l))[j]? = some b∧e.val=.map (some b)) :
  ∃ w',(setObj b (.map mes' cl')).run P E.w=.ok () w'∧ar { w:=w',H:=E.H.set id (.mm l es' ms cl'),loc:=E.loc,X:=E.X }∧E.le { w:=w',H:=E.H.set id (.mm l es' ms cl'),loc:=E.loc,X:=E.X }:=by
 have B:=(HE.lt id b n d).1;have I:({ E.w with heap:=E.w.heap.setIfInBounds b (.map mes' cl') }:World).heap.size=E.w.heap.size:=by simp
 have k:∀ y,y≠b→({ E.w with heap:=E.w.heap.setIfInBounds b (.map mes' cl') }:World).heap[y]? = E.w.heap[y]? := by
  intro y J;simp only[AP];rw[if_neg (fun e=>J e.symm)]
 have key:=ar.Be (w':={ E.w with heap:=E.w.heap.setIfInBounds b (.map mes' cl') }) (r':=E.X.r) (o':=.mm l es' ms cl') HE hid rfl rfl rfl (agU I.symm) (fun x _ M _=>k x fun e=>by
   subst e;exact M n d) (fun _ _=>rfl) (fun _ _ _ hk=>.inl hk) (fun _ hk=>⟨hk,fun _ N=>N⟩) (fun hle=>?_) ⟨rfl,rfl,rfl,fun _=>aD _⟩ (.inr ⟨rfl,[],(db _).symm⟩)
 ·exact⟨_,by simp[setObj,gv,hb],key.1,key.2⟩
 ·have ho := HE.obj id _ hid
  simp only[aJ]at ho⊢;obtain⟨b0,n0,mes0,g1,g2,g3,g4,g5,g6⟩:=ho;refine⟨b,n,mes',d,by simp[B],fH (fun a _ hr=>bH hle a hr) hr,g4,hmm,fun j O u U q=>?_⟩;obtain⟨mm,V,W⟩:=g6 j O u U q;obtain⟨h,mc,hh⟩:=wY (eB q);refine⟨mm,?_,fH (fun a _ hr=>bH hle a hr) W⟩;rw[←V];exact k u fun e2=>HE.cP id b n l h mc d (by rw[←e2]; exact hh)
def jf(P:Program)(t:TypeId)(m k:AV)(H:List ab):Option (AV × List ab) :=
 match dc P t,m with
 | some (d,h),.map id=>match H[id]? with
  | some (.mm l es ms cl)=>match gB P d k,gQ P h,k.closed with
   | some q,some (.lit (.map none)),true=>match ew P d q (fq es) 0 with
    |some none=>some (.tuple [.sub id l none,.lit (goInt cl)],H.set id (.mm l (es++[(k,none,cl)]) ms (cl+1)))
    |_=>none
   |_,_,_=>none
  |_=>none
 |_,_=>none
theorem TJ{P:Program}{E:Env}(HE:ar E){t:TypeId}{m k v:AV}{c d:Value}{H':List ab}(h:jf P t m k E.H=some (v,H'))(hm:rel E m c)(hk:rel E k d) :
  ∃ u w',(AQ t c d).run P E.w=.ok u w'∧cQ E v H' u w':=by
 unfold jf at h;split at h
 case h_2=>cases h
 rename_i kt et id ht;split at h
 case h_2=>cases h
 rename_i l es ms cl hid;split at h
 case h_2=>cases h
 rename_i kv hkv B hcl;obtain⟨b,n,O,rfl,h1,U,V,h4,h5,h6⟩:=BR HE hid hm;have N:=ij hkv hk;have M:(getObj b).run P E.w=.ok (.map O cl) E.w:=by simp[getObj,gv,U]
 obtain⟨hlen,W⟩:=dX.1 V;rw[HM]at hlen;split at h
 case h_2=>cases h
 rename_i hf;cases h;obtain⟨r',g1,g2⟩:=gP N E.w V hf;cases r' with
 |some _=>simp[di]at g2
 | none =>
  obtain⟨zv,z1,z2⟩:=qY B E.w;have hzv:zv=.map none:=by have:=z2 E; simpa[rel]using this
  subst hzv;have hre:bB E (fq (es++[(k,none,cl)])) (O.push { key:=d,val:=.map none,born:=cl }).toList:=by
   rw[dX];refine⟨by simp[fq,hlen],fun a y z q B=>?_⟩;unfold fq at q;rw[jX]at q;simp only[oU,fk,cN]at q B;rw[←hlen]at B;by_cases e:a<es.length
   ·simp only [if_pos e] at q B
    exact W a y z (by unfold fq; exact q) B
   ·simp only [if_neg e] at q B
    cases J:a-es.length with
    | zero =>
     rw[J]at q B;simp at q B;subst q; subst B;exact⟨hk,by simp[rel],rfl,hcl,rfl⟩
    |succ _=>rw[J]at q; simp at q
  obtain⟨w1,p1,p2,p3⟩:=IT (P:=P) HE (cl':=cl+1) hid h1 U hre (fun i x e I he=>by
   simp only[oU,fk]at I he;rw[←hlen]at he;by_cases M:i<es.length
   ·simp only [if_pos M] at I he
    exact h5 i x e I he
   ·simp only [if_neg M] at I he
    cases J:i-es.length with
    | zero =>
     rw[J]at I he;simp at I he;subst I; subst he;exact .inl ⟨rfl,rfl⟩
    |succ _=>rw[J]at I; simp at I)
  refine⟨.tuple #[.map none,goInt cl],w1,?_,E.loc,E.X.r,?_,p2,p3⟩
  ·simp only [AQ, bW, Sem.bp (ft ht), bX, M, gg N, g1, z1]
   rw[p1];rfl
  ·simp only [rel]
   refine⟨_,rfl,?_⟩;simp[af,rel]
def pv(es:List (AV × Option Nat × Nat))(st:Int):Option Nat:=es.findIdx? fun x=>(x.2.2:Int)==st
theorem IU{E:Env}{st:Int}:∀{es:List (AV × Option Nat × Nat)} {ms:List MapEntry},bB E (fq es) ms→ms.findIdx? (fun e=>(e.born:Int)==st)=pv es st
 | [],[],_=>rfl
 | [],_::_,h=>by simp[fq,bB]at h
 |_::_,[],h=>by simp[fq,bB]at h
 | x::es,e::ms,h=>by
  have h':bB E ((x.1,.undef,x.2.2)::fq es) (e::ms):=h;simp only[bB]at h';obtain⟨_,_,k,_,_,q⟩:=h';have d:=IU (st:=st) q;unfold pv at d⊢;simp only[Hs,k,d]
theorem TK{E:Env}(HE:ar E){id j l cl v:Nat}{es:List (AV × Option Nat × Nat)}{ms:List (List (AV × AV × Nat) × Nat)}{y:List (AV × AV × Nat)}{u:Value}(hid:E.H[id]? = some (.mm l es ms cl))(I:E.H[j]? = some (.map y v))(hu:rel E (.map j) u) :
  ∃ d J r',u=.map (some d)∧(∃ t,r' l=E.X.r l++t)∧(dZ (r' l))[ms.length]? = some d∧(∀ i,i≠j→J[i]? = E.loc[i]?) ∧
   ar { w:=E.w,H:=(E.H.set id (.mm l es (ms++[(y,v)]) cl)).set j .dead,loc:=J,X:=E.X.re r' }∧E.le { w:=E.w,H:=(E.H.set id (.mm l es (ms++[(y,v)]) cl)).set j .dead,loc:=J,X:=E.X.re r' }:=by
 obtain⟨d,n,U,rfl,h1,V,W⟩:=pk HE I hu;have ho:=HE.obj id _ hid;simp only[aJ]at ho;obtain⟨b0,n0,O,g1,g2,g3,g4,g5,g6⟩:=ho;have aw:j≠id:=fun e=>by rw[e,hid]at I; cases I
 have M:eU E.X.r l (some (d,n)) l=E.X.r l++[some (some (d,n))]:=if_pos rfl;have B:dZ (eU E.X.r l (some (d,n)) l)=dZ (E.X.r l)++[d]:=by
  rw[M,A9];rfl
 have key:=ar.attach HE (o':=.mm l es (ms++[(y,v)]) cl) hid rfl rfl rfl I rfl h1 (fun hle=>?_) (.inr rfl)
 ·refine ⟨d, E.loc.set j none, eU E.X.r l (some (d, n)), rfl, ⟨_, M⟩, ?_, fun i hi => aR (Ne.symm hi), key.1, key.2⟩
  rw[B,←g4];simp
 ·simp only [aJ]
  refine⟨b0,n0,O,by rw[aR aw]; exact g1,g2,fH (fun a _ hr=>bH hle a hr) g3,?_,fun i x e hx he=>?_,fun i mi bi q k=>?_⟩
  ·show (dZ (eU E.X.r l (some (d, n)) l)).length = _
   rw[B];simp[g4]
  ·rcases g5 i x e hx he with h | ⟨N, b', a1, a2, a3⟩
   ·exact .inl h
   ·refine .inr ⟨N, b', a1, ?_, a3⟩
    show (dZ (eU E.X.r l (some (d,n)) l))[N]? = _
    rw[B,cK (aI a2)];exact a2
  ·have k : (dZ (eU E.X.r l (some (d, n)) l))[i]? = some bi := k
   rw[B]at k;rw[fk]at q k;by_cases e:i<ms.length
   ·rw [if_pos e] at q
    rw[if_pos (by omega)]at k;obtain⟨mm,k1,k2⟩:=g6 i mi bi q k;exact⟨mm,k1,fH (fun a _ hr=>bH hle a hr) k2⟩
   ·rw [if_neg e] at q
    rw[if_neg (by omega),g4]at k;cases hk:i-ms.length with
    | zero =>
     rw[hk]at q k;simp at q k;subst q k;exact⟨U,V,fH (fun a _ hr=>bH hle a hr) W⟩
    |succ _=>rw[hk]at q; simp at q
def kU(m s v:AV)(H:List ab):Option (List ab) :=
 match m,s,v with
 | .map id,.lit (.int .i64 st),.map j=>match H[id]?,H[j]? with
  | some (.mm l es ms cl),some (.map d h)=>match pv es st with
   | some i=>match es[i]? with
    |some (key,none,bn)=>some ((H.set id (.mm l (es.set i (key,some ms.length,bn)) (ms++[(d,h)]) cl)).set j .dead)
    |_=>none
   |none=>none
  |_,_=>none
 |_,_,_=>none
theorem TL{P:Program}{E:Env}(HE:ar E){t:TypeId}{m s v:AV}{c d u:Value}{H':List ab}(h:kU m s v E.H=some H')(hm:rel E m c)(hs:rel E s d)(hv:rel E v u) :
  ∃ w',(wM t c d u).run P E.w=.ok () w'∧∀ x,cQ E .undef H' x w':=by
 unfold kU at h;split at h
 case h_2=>cases h
 rename_i id st j;split at h
 case h_2=>cases h
 rename_i l es ms cl q B hid V;split at h
 case h_2=>cases h
 rename_i i hi;split at h
 case h_2=>cases h
 rename_i key bn hes;cases h;obtain⟨b,n,k,rfl,h1,h2,h3,h4,h5,h6⟩:=BR HE hid hm;have aw:j≠id:=fun e=>by rw[e,hid]at V; cases V
 have e1:(getObj b).run P E.w=.ok (.map k cl) E.w:=by simp[getObj,gv,h2]
 obtain⟨hlen,hall⟩:=dX.1 h3;rw[HM]at hlen;have hlt:=aI hes;obtain⟨e',q4⟩:∃ e',k.toList[i]? = some e':=⟨k.toList[i]'(by omega),bt _⟩
 have hfind:k.findIdx? (fun e=>(e.born:Int)==st)=some i:=by
  have e0:k=k.toList.toArray:=by simp
  rw[e0,agT,IU h3,hi]
 obtain⟨O,J,r',rfl,⟨tt,ht⟩,hlv,hloc,HE1,M⟩:=TK HE hid V hv;have hd:d=.int .i64 st:=by simpa[rel]using hs
 have hidE:({ w:=E.w,H:=(E.H.set id (.mm l es (ms++[(q,B)]) cl)).set j .dead,loc:=J,X:=E.X.re r' }:Env).H[id]? = some (.mm l es (ms++[(q,B)]) cl):=by
  simp only[];rw[aR aw,bx (aI hid)]
 have hre:bB { w:=E.w,H:=(E.H.set id (.mm l es (ms++[(q,B)]) cl)).set j .dead,loc:=J,X:=E.X.re r' } (fq (es.set i (key,some ms.length,bn))) (k.modify i fun e=>{ e with val:=.map (some O) }).toList:=by
  rw[dX];refine⟨by simp[fq,hlen],fun a y z I hz=>?_⟩;simp only[kJ,iJ]at hz;obtain⟨z0,N,rfl⟩:=dN.1 hz;unfold fq at I;rw[bT,dU]at I;by_cases e:i=a
  ·subst e
   rw[if_pos rfl,if_pos hlt]at I;cases I;obtain⟨b1,b2,W,b4,b5⟩:=hall i (key,.undef,bn) z0 (by unfold fq; rw[bT,hes]; rfl) N;simp only[if_true];exact⟨bH M _ b1,by simp[rel],W,b4,rfl⟩
  ·rw [if_neg e] at I
   obtain⟨b1,b2,W,b4,b5⟩:=hall a y z0 (by unfold fq; rw[bT]; exact I) N;simp only[if_neg e];exact⟨bH M _ b1,bH M _ b2,W,b4,b5⟩
 obtain⟨w',p1,p2,p3⟩:=IT (P:=P) HE1 (cl':=cl) (es':=es.set i (key,some ms.length,bn)) (mes':=k.modify i fun e=>{ e with val:=.map (some O) }) hidE (by
  show J[id]? = _
  rw[hloc id (Ne.symm aw)];exact h1) h2 hre (fun a x e U he=>by
  simp only[kJ,iJ]at he;obtain⟨z0,N,rfl⟩:=dN.1 he;by_cases e:i=a
  ·subst e
   rw[bx hlt]at U;cases U;exact .inr ⟨ms.length,O,rfl,hlv,by simp⟩
  ·rw [aR e] at U
   simp only[if_neg e];rcases h5 a x z0 U N with h|⟨i',b',a1,a2,a3⟩
   ·exact .inl h
   ·refine .inr ⟨i', b', a1, ?_, a3⟩
    show (dZ (r' l))[i']? = _
    rw[ht,A9,cK (aI a2)];exact a2)
 have hH:((E.H.set id (.mm l es (ms++[(q,B)]) cl)).set j .dead).set id (.mm l (es.set i (key,some ms.length,bn)) (ms++[(q,B)]) cl)=(E.H.set id (.mm l (es.set i (key,some ms.length,bn)) (ms++[(q,B)]) cl)).set j .dead:=by
  rw[List.set_comm _ _ aw,oV]
 rw[hH]at p2 p3;have hrun:(wM t (.map (some b)) d (.map (some O))).run P E.w=.ok () w':=by
  subst hd;simp only[wM,asInt,asIntOf,bW,bX,e1,fl,hfind];exact p1
 exact⟨w',hrun,fun xx=>⟨J,r',by simp[rel],p2,M.trans p3⟩⟩
end Go.AL
