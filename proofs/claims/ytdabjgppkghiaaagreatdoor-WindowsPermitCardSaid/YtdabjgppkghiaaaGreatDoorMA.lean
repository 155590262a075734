/-
 What is proved here: basic facts of an abstract logic for the model's programs: abstract values,what they say of the model's values in a world,and that this survives what a call may do. No program in sight; no condition.
-/
import Derived.Calls
import Derived.Orders
import Derived.OrdersIn
import Derived.RangeFuncNested
import Derived.RangeFuncLeaves
import Derived.Laws.Sem
import Derived.Laws.Cells
import Derived.Laws.StructEq
import Derived.Laws.AppendOwn
import Derived.Laws.CopyRow
set_option linter.all false
open Array renaming getElem?_push→sZ,length_toList→jP,toList_map→KU,ext'→ed,range→fo,map→Cx,getElem?_setIfInBounds→xa,toList_modify→jg,toList_push→mD
open BitVec renaming ofInt→s7
open Bool renaming and_true→fl,and_eq_true→aq,false_eq_true→jO,and_assoc→W5
open ByteArray renaming empty→sX,extract_zero_size→X6
open Go.Act renaming eval→wX
open Go.Addr.mk renaming injEq→Cn
open Go.Builtin renaming lenOf→Cr,firstCells→fT,append_→kr,zeroCells→tb,nextslicecap→Cs,delete_→K5,clear_→K7
open Go.Instr renaming loadAt→w5,sureAddr→ln,fieldAt→KM,indexAt→s8,sliceBounds→nQ,sliceBound→w6,sliceAt→kn,slice→lp,index→KQ,field→W8,fill→W9,build→KS,storeAt→Cv,alloc→w_,box→Xd,makeSlice→Xe,buildSlice→Cy,range→KY,checkKey→pR,findAsking→KZ,findNow→td,sameNow→te,findKey→K3,lookup→jf,makeMap→K4,sameBits→Cz,mapUpdate→ku,keyThatStays→nV,mapEntry→xb,entryStore→tf
open Go.Op renaming bytesLess→wY,equalIn→ig,eqFields→KP,equal→ta
open Go.Program renaming fieldsOf→W7
open Go.Question renaming cut→Xb,forced→Xc
open Go.Result renaming andThen_ok→bH
open Go.Sem renaming run_bind→bG,run_pure→eb,run→fp
open Go.Utf8 renaming decode→lr
open Go.Value renaming cells→Cp
open Go.Value.pointer renaming injEq→W3
open Go.Value.slice renaming injEq→iM
open Go.World renaming cell?→pL,setRow→W_
open List renaming length_cons→dZ,append_nil→cV,getElem?_append_left→cn,length_map→eY,getElem?_map→b7,getElem_of_mem→pM,getElem?_eq_getElem→bC,mem_of_getElem?→dK,getElem?_eq_none→nO,getElem?_append_right→gI,getElem?_append→d_,getElem?_set_self→bd,getElem?_set_ne→aJ,getElem?_set→dy,set_eq_of_length_le→Cl,all_eq_true→cC,nodup_nil→Cm,getD_eq_getElem?_getD→cD,getElem?_drop→nP,getElem?_take→ll,take_succ_cons→wZ,mem_cons→bN,map_cons→dg,map_take→KN,map_drop→Co,mem_of_mem_drop→s9,mem_of_mem_take→s_,cons_append→nS,drop_succ_cons→W6,take_one→KO,eq_nil_of_length_eq_zero→w7,drop_drop→mA,take_append_drop→pN,ext_getElem?→kp,length_take→kq,length_set→nT,length_append→gu,mem_append→bQ,mapM_cons→KR,flatten_cons→pO,getElem?_of_mem→lq,size_toArray→w8,nil_append→w9,length_drop→mC,flatten_append→tc,replicate→cu,replicate_succ→KV,eq_of_mem_replicate→KW,getElem?_modify→gv,mem_cons_self→cW,mem_cons_of_mem→da,replicate_zero→Xf,mem_replicate→K8,set_set→nX,map_append→nY,findIdx?_cons→CA,findIdx?_toArray→Xh
open List.cons renaming injEq→Cq
open Nat renaming add_assoc→mz,add_comm→sY,add_mul→eF,le_refl→aB,le_add_right→dT,le_trans→nN,lt_of_lt_of_le→cM,zero_le→fI,ne_of_lt→W2,lt_or_ge→gr,zero_add→dL,sub_sub→W4,mul_le_mul→Xa,sub_zero→fm,zero_mul→nU,add_zero→mB,mul_le_mul_right→pQ,one_mul→Cw,beq→ah,mul_eq_zero→KX,succ_mul→Xg,eq_of_beq_eq_true→aR,le_of_eq→Xi
open Option renaming map_eq_some_iff→df,isSome_iff_exists→nR,map_some→eZ,getD_some→nW
open Option.some renaming injEq→aK
open Prod.mk renaming injEq→aN
namespace Go.AL
inductive Kd where
 |int (k:IntKind)
 |str
 |bool
 |list (ks:List Kd)
 deriving Inhabited
inductive G where
 |i (n:Int)
 |s (b:ByteArray)
 |t (x:Bool)
 |l (rows:List (List G))
instance:Inhabited G:=⟨.i 0⟩
def G.int:G→Int
 |.i n=>n
 |_=>0
def G.str:G→ByteArray
 |.s b=>b
 |_=>sX
def G.bool:G→Bool
 |.t x=>x
 |_=>false
def G.rows:G→List (List G)
 |.l rows=>rows
 |_=>[]
inductive AV where
 |undef
 |lit (v:Value)
 |nils
 |list (k:Nat) (rows:List (List AV))
 |listF (ks:List Kd) (rows:List (List G))
 |agg (cells:List AV)
 |tuple (vs:List AV)
 |cptr (cells:List AV)
 |ptr (id ad k row col:Nat)
 |vec (k id ad off n:Nat)
 |map (id:Nat)
 |clo (f:FuncId) (caps:List AV)
 |ifc
 |emptyS (isNil:Bool)
 |sub (id l:Nat) (j:Option Nat)
 deriving Inhabited
def gx:Kd→G→AV
 |.int k,g=>.lit (.int k g.int)
 |.str,g=>.lit (.string g.str)
 |.bool,g=>.lit (.bool g.bool)
 |.list ks,g=>.listF ks g.rows
def ax:List Kd→List G→List AV
 | [],_=>[]
 |k::ks,g=>gx k (g.headD default)::ax ks g.tail
theorem oa:∀(ks:List Kd) (g:List G),(ax ks g).length=ks.length
 | [],_=>rfl
 |_::ks,g=>by simp[ax,oa ks]
inductive ab where
 |dead
 |box (cells:List AV)
 |vec (k ad:Nat) (rows:List (List AV))
 |map (es:List (AV × AV × Nat)) (clock:Nat)
 |iter (s:ByteArray) (pos:Nat)
 |dC (l:Nat) (T B:TypeId) (s:ByteArray)
 |aM (l k:Nat) (es:List (AV × Option (List (List AV)) × Nat)) (clock:Nat)
 |mm (l:Nat) (es:List (AV × Option Nat × Nat)) (ms:List (List (AV × AV × Nat) × Nat)) (clock:Nat)
 |c6
 deriving Inhabited
def ab.born:ab→Bool
 |.c6=>false
 |_=>true
def ab.label:ab→Option Nat
 |.dC l _ _ _=>some l
 |.aM l _ _ _=>some l
 |.mm l _ _ _=>some l
 |_=>none
def ab.cF:ab→Option Nat
 |.mm l _ _ _=>some l
 |_=>none
theorem ab.jh{o:ab}{l:Nat}(h:o.cF=some l):o.label=some l:=by
 cases o<;>first|exact h|cases h
theorem ab.xm{o:ab}{l:Nat}(h:o.cF=some l):o.born=true:=by
 cases o<;>first|rfl|cases h
theorem ab.tD{o:ab}{l:Nat}(h:o.label=some l):o.born=true:=by
 cases o<;>first|rfl|cases h
theorem ab.tF{o:ab}(h:o.label=none):o.cF=none:=by
 cases o<;>first|rfl|cases h
def ab.aw : ab→Option Nat
 |.dead=>none
 |.box _=>some 0
 |.vec _ v _=>some v
 |.map _ _=>some 0
 |.iter _ _=>some 0
 |.dC ..=>some 0
 |.aM ..=>some 0
 |.mm ..=>some 0
 |.c6=>none
theorem ab.xn{o:ab}{v:Nat}(h:o.aw = some v):o.born=true:=by
 cases o<;>first|rfl|cases h
structure XS where
 x:Nat→Prop
 z:Nat→Prop
 r:Nat→List (Option (Option (Nat × Nat)))
instance:CoeFun XS fun _=>Nat→Prop:=⟨XS.x⟩
def XS.or(X:XS)(p:Nat→Prop):XS:=⟨fun b=>X b∨p b,X.z,X.r⟩
def XS.re(X:XS) (r:Nat→List (Option (Option (Nat × Nat)))):XS:=⟨X.x,X.z,r⟩
@[simp] theorem XS.Lo (X:XS):X.re X.r=X:=rfl
@[simp] theorem XS.XJ (X:XS) (r):(X.re r).x=X.x:=rfl
@[simp] theorem XS.XK (X:XS) (r):(X.re r).z=X.z:=rfl
@[simp] theorem XS.XL (X:XS) (r):(X.re r).r=r:=rfl
@[simp] theorem XS.XM (X:XS) (r r'):(X.re r).re r'=X.re r':=rfl
theorem XS.CN{X X':XS}(h:X'.x=X.x∧X'.z=X.z)(r):X'.re r=X.re r:=by
 unfold XS.re;rw[h.1,h.2]
def cY:Nat→List (Option (Option (Nat × Nat))):=fun _=>[]
def p7:List (Nat × Array Value):=[]
class Dr where
 d:Bool
abbrev p8:Dr:=⟨true⟩
variable [Dr]
def Lp:Bool:=Dr.d
structure Env where
 w:World
 H:List ab
 loc:List (Option (Nat × Nat))
 X:XS
def Env.sat(E:Env)(b:Nat):Prop:=∃(l h m:Nat),(E.X.r l)[h]? = some (some (some (b,m)))
def Env.own(E:Env)(b:Nat):Prop:=(∃(id:Nat) (c:Nat),E.loc[id]? = some (some (b,c)))∨E.sat b
def Env.gy(E:Env)(b:Nat):Prop:=b<E.w.heap.size∧¬ E.own b∧¬ E.X b
def Env.live(E:Env)(id ad:Nat):Prop:=∃ o,E.H[id]? = some o∧o.aw = some ad
def Env.past(E:Env)(id ad:Nat):Prop:=∃ o,E.H[id]? = some o∧o.born=true∧∀ v,o.aw = some v→ad≤v
def dh (r:List (Option (Option (Nat × Nat)))):List Nat:=r.filterMap fun x=>match x with
 |some (some (b,_))=>some b
 |_=>none
theorem xo (r t:List (Option (Option (Nat × Nat)))):dh (r++t)=dh r++dh t:=List.filterMap_append
def Env.CO(E:Env)(id l i:Nat)(c:Value):Prop:=(∃ o,E.H[id]? = some o∧o.cF=some l)∧∃ b,(dh (E.X.r l))[i]? = some b∧c=.map (some b)
def cN:Value→Bool
 |.agg _ | .tuple _=>false
 |_=>true
mutual
def AV.closed:AV→Bool
 |.undef | .lit _ | .nils | .list _ _ | .listF _ _ | .cptr _ | .ifc | .emptyS _=>true
 |.agg cs | .tuple cs | .clo _ cs=>AV.aV cs
 |.ptr .. | .vec .. | .map _ | .sub ..=>false
def AV.aV:List AV→Bool
 | []=>true
 |a::as=>a.closed&&AV.aV as
end
theorem eO:∀(ks:List Kd) (g:List G),AV.aV (ax ks g)=true
 | [],_=>rfl
 | k::ks,g=>by
  simp only[ax,AV.aV,eO ks,fl];cases k<;>rfl
mutual
def db(E:Env):Kd→G→Value→Prop
 |.int k,g,c=>c=.int k g.int
 |.str,g,c=>c=.string g.str
 |.bool,g,c=>c=.bool g.bool
 | .list ks,g,c=>∃ base cap,c=.slice base g.rows.length cap∧g.rows.length≤cap ∧
   (g.rows=[]∨∃ b o,base=some ⟨b,o,none⟩∧E.gy b∧∀(i:Nat) (r:List G),g.rows[i]? = some r→ji E ks r b (o+i*ks.length))
def ji(E:Env):List Kd→List G→Nat→Nat→Prop
 | [],_,_,_=>True
 |k::ks,g,b,o=>(∃ v,E.w.cell? ⟨b,o,none⟩=some v∧cN v=true∧db E k (g.headD default) v)∧ji E ks g.tail b (o+1)
end
def dW(rows:List (List AV)):Prop:=∀ r∈rows,AV.aV r=true
mutual
def rel(E:Env):AV→Value→Prop
 |.undef,_=>True
 |.lit v,c=>c=v
 |.nils,c=>∃ base,c=.slice base 0 0
 | .list k rows,c=>dW rows∧∃ base cap,c=.slice base rows.length cap∧rows.length≤cap ∧
   (rows=[]∨∃ b o,base=some ⟨b,o,none⟩∧E.gy b∧bU E k rows b o)
 |.listF ks rows,c=>db E (.list ks) (.l rows) c
 |.agg cells,c=>∃ cs:Array Value,c=.agg cs∧(∀ x∈cs.toList,cN x=true)∧ae E cells cs.toList
 |.tuple vs,c=>∃ cs:Array Value,c=.tuple cs∧ae E vs cs.toList
 |.cptr cells,c=>AV.aV cells=true∧∃ b o,c=.pointer (some ⟨b,o,none⟩)∧E.gy b∧bO E cells b o
 | .ptr id ad k row col,c=>(∃ b o,c=.pointer (some ⟨b,o,none⟩))∧E.past id ad∧(E.live id ad→∃ b n,E.loc[id]? = some (some (b,n)) ∧
   c=.pointer (some ⟨b,row*k+col,none⟩))
 | .vec k id ad off n,c=>(∃ base cap,c=.slice base n cap∧n≤cap∧(0<n→∃ b o,base=some ⟨b,o,none⟩))∧E.past id ad∧(E.live id ad →
   (E.loc[id]? = some none→n=0∧off=0∧∃ base,c=.slice base 0 0) ∧
   (∀ b m,E.loc[id]? = some (some (b,m))→off+n≤m∧∃ o,(off<m→o=off*k)∧c=.slice (some ⟨b,o,none⟩) n (m-off)))
 |.map id,c=>(∃ b,c=.map (some b))∧E.past id 0∧(E.live id 0→∃ b n,E.loc[id]? = some (some (b,n))∧c=.map (some b))
 |.clo f caps,c=>∃ cs:Array Value,c=.func (.func f) #[] cs∧ae E caps cs.toList
 |.ifc,c=>∃ t v,c=.iface t v
 |.emptyS n,c=>∃ base cap,c=.slice base 0 cap∧base.isNone=n
 |.sub id l j,c=>(j=none∧c=.map none)∨∃ i,j=some i∧(∃ b,c=.map (some b))∧E.past id 0∧(E.live id 0→E.CO id l i c)
def ae(E:Env):List AV→List Value→Prop
 | [],[]=>True
 |a::as,v::vs=>rel E a v∧ae E as vs
 |_,_=>False
def bO(E:Env):List AV→Nat→Nat→Prop
 | [],_,_=>True
 |a::as,b,o=>(∃ v,E.w.cell? ⟨b,o,none⟩=some v∧cN v=true∧rel E a v)∧bO E as b (o+1)
def bU(E:Env)(k:Nat):List (List AV)→Nat→Nat→Prop
 | [],_,_=>True
 |r::rs,b,o=>r.length=k∧bO E r b o∧bU E k rs b (o+k)
end
theorem fb{E:Env}:∀{as:List AV} {vs:List Value},ae E as vs→as.length=vs.length
 | [],[],_=>rfl
 |_::_,_::_,h=>by simp only[ae]at h; simp[fb h.2]
 | [],_::_,h=>by simp[ae]at h
 |_::_,[],h=>by simp[ae]at h
theorem kB{E:Env}:∀{as:List AV} {vs:List Value},
  ae E as vs↔as.length=vs.length∧∀(i:Nat) a v,as[i]? = some a→vs[i]? = some v→rel E a v
 | [],[]=>by simp[ae]
 | [],_::_=>by simp[ae]
 |_::_,[]=>by simp[ae]
 | a::as,v::vs=>by
  simp only[ae,kB (as:=as),dZ];constructor
  ·rintro ⟨h1, g, h⟩
   refine⟨by omega,fun i x y b d=>?_⟩;cases i with
   |zero=>simp at b d; subst b; subst d; exact h1
   |succ i=>exact h i x y (by simpa using b) (by simpa using d)
  ·rintro ⟨h1, g⟩
   exact⟨g 0 a v rfl rfl,by omega,fun i x y b d=>g (i+1) x y (by simpa using b) (by simpa using d)⟩
theorem gz{E:Env}:∀{as:List AV} {b o:Nat},
  bO E as b o↔∀(i:Nat) a,as[i]? = some a→∃ v,E.w.cell? ⟨b,o+i,none⟩=some v∧cN v=true∧rel E a v
 | [],b,o=>by simp[bO]
 | a::as,b,o=>by
  simp only[bO,gz (as:=as)];constructor
  ·rintro ⟨h1, g⟩ i x d
   cases i with
   |zero=>simp at d; subst d; exact h1
   |succ i=>have:=g i x (by simpa using d); rwa [mz,sY 1 i]at this
  ·intro h
   refine⟨h 0 a rfl,fun i x d=>?_⟩;have:=h (i+1) x (by simpa using d)
   rwa [mz,sY 1 i]
theorem jQ{E:Env}{k:Nat}:∀{rs:List (List AV)} {b o:Nat},
  bU E k rs b o↔∀(i:Nat) r,rs[i]? = some r→r.length=k∧bO E r b (o+i*k)
 | [],b,o=>by simp[bU]
 | r::rs,b,o=>by
  simp only[bU,jQ (rs:=rs)];constructor
  ·rintro ⟨h0, h1, d⟩ i x a
   cases i with
   |zero=>simp at a; subst a; simpa using⟨h0,h1⟩
   | succ i =>
    have:=d i x (by simpa using a)
    rwa [mz,show k+i*k=(i+1)*k from by rw[eF]; omega]at this
  ·intro h
   have h0:=h 0 r rfl;refine⟨h0.1,by simpa using h0.2,fun i x a=>?_⟩;have:=h (i+1) x (by simpa using a)
   rwa [mz,show k+i*k=(i+1)*k from by rw[eF]; omega]
def c7(w w':World):Prop:=w'.os=w.os∧w'.output=w.output∧w'.tape=w.tape∧(Lp=true→w.drawn≤w'.drawn)
theorem c7.refl(w:World):c7 w w:=⟨rfl,rfl,rfl,by first|exact fun _=>aB _|exact fun _=>dT _ _⟩
theorem c7.trans{w w' a:World}(h:c7 w w')(h':c7 w' a):c7 w a:=⟨h'.1.trans h.1,h'.2.1.trans h.2.1,h'.2.2.1.trans h.2.2.1,fun t=>nN (h.2.2.2 t) (h'.2.2.2 t)⟩
structure Env.le (E E':Env):Prop where
 past:∀ id ad,E.past id ad→E'.past id ad
 size:E.w.heap.size≤E'.w.heap.size
 same:∀ b,b<E.w.heap.size→¬ E.own b→E'.w.heap[b]? = E.w.heap[b]?
 own:∀ b,b<E.w.heap.size→¬ E.own b→¬ E'.own b
 live:∀ id ad,E.past id ad→E'.live id ad→E.live id ad∧E'.loc[id]? = E.loc[id]?
 X:E'.X.x=E.X.x∧E'.X.z=E.X.z
 rl:∀ l h,h<(E.X.r l).length→h<(E'.X.r l).length∧∀ q,(E'.X.r l)[h]? = some (some q)→(E.X.r l)[h]? = some (some q)
 env:c7 E.w E'.w
 grow:∀ id l o,E.H[id]? = some o→o.cF=some l→E'.live id 0→(∃ t,E'.X.r l=E.X.r l++t)∧∃ o',E'.H[id]? = some o'∧o'.cF=some l
theorem Env.le.refl(E:Env):E.le E:=⟨fun _ _ h=>h,aB _,fun _ _ _=>rfl,fun _ _ h=>h,fun _ _ _ h=>⟨h,rfl⟩,⟨rfl,rfl⟩,fun _ _ h=>⟨h,fun _ a=>a⟩,⟨rfl,rfl,rfl,by first|exact fun _=>aB _|exact fun _=>dT _ _⟩,fun _ _ o h1 b _=>⟨⟨[],(cV _).symm⟩,o,h1,b⟩⟩
theorem Env.le.ok{E E':Env}(h:E.le E')(b:Nat)(a:E.gy b):E'.gy b :=
 ⟨cM a.1 h.size,h.own b a.1 a.2.1,by rw[show E'.X.x=E.X.x from h.X.1]; exact a.2.2⟩
theorem Env.le.trans{E E' w:Env}(h:E.le E')(h':E'.le w):E.le w where
 past:=fun id ad g=>h'.past id ad (h.past id ad g)
 size:=nN h.size h'.size
 same:=fun b a d=>by rw[h'.same b (cM a h.size) (h.own b a d),h.same b a d]
 own:=fun b a d=>h'.own b (cM a h.size) (h.own b a d)
 live:=fun id ad hid I=>by
  obtain⟨k,a2⟩:=h'.live id ad (h.past id ad hid) I;obtain⟨b1,r⟩:=h.live id ad hid k;exact⟨b1,by rw[a2,r]⟩
 X:=⟨by rw[h'.X.1,h.X.1],by rw[h'.X.2,h.X.2]⟩
 rl:=fun l i hi=>by
  obtain⟨k,a2⟩:=h.rl l i hi;obtain⟨b1,r⟩:=h'.rl l i k;exact⟨b1,fun q J=>a2 q (r q J)⟩
 env:=h.env.trans h'.env
 grow:=fun id l o h1 y u=>by
  have g:E.past id 0:=⟨o,h1,ab.xm y,fun v u=>fI _⟩
  obtain⟨A,_⟩:=h'.live id 0 (h.past id 0 g) u;obtain⟨⟨t,M⟩,o',g1,g2⟩:=h.grow id l o h1 y A;obtain⟨⟨t',B⟩,D,g3,g4⟩:=h'.grow id l o' g1 g2 u;exact⟨⟨t++t',by rw[B,M,List.append_assoc]⟩,D,g3,g4⟩
theorem World.ob{w w':World}{b o:Nat}(h:w'.heap[b]? = w.heap[b]?):w'.cell? ⟨b,o,none⟩=w.cell? ⟨b,o,none⟩:=by
 simp[pL,h]
structure Env.bh (E E':Env):Prop where
 ok:∀ b,E.gy b→E'.gy b∧E'.w.heap[b]? = E.w.heap[b]?
theorem Env.le.toC{E E':Env}(h:E.le E'):E.bh E':=⟨fun b a=>⟨h.ok b a,h.same b a.1 a.2.1⟩⟩
mutual
theorem CP{E E':Env}(h:E.bh E'):∀(k:Kd) {g:G} {c:Value},db E k g c→db E' k g c
 |.int k,g,c,hr=>by simpa only[db]using hr
 |.str,g,c,hr=>by simpa only[db]using hr
 |.bool,g,c,hr=>by simpa only[db]using hr
 | .list ks,g,c,hr=>by
  simp only[db]at hr⊢;obtain⟨base,cap,q,hle,l⟩:=hr;refine⟨base,cap,q,hle,?_⟩;rcases l with t|⟨b,o,u,a,d⟩
  ·exact .inl t
  ·exact .inr ⟨b,o,u,(h.ok b a).1,fun i r hi=>CQ h ks (h.ok b a).2 (d i r hi)⟩
theorem CQ{E E':Env}(h:E.bh E'):∀(ks:List Kd) {g:List G} {b o:Nat},E'.w.heap[b]? = E.w.heap[b]? → ji E ks g b o→ji E' ks g b o
 | [],_,_,_,_,_=>by simp[ji]
 | k::ks,g,b,o,a,hr=>by
  simp only[ji]at hr⊢;obtain⟨⟨v,h1,d,i⟩,l⟩:=hr;exact⟨⟨v,by rw[World.ob a]; exact h1,d,CP h k i⟩,CQ h ks a l⟩
end
mutual
theorem cZ{E E':Env}(h:E.bh E'):∀(a:AV) {c:Value},a.closed=true→rel E a c→rel E' a c
 |.undef,_,_,_=>by simp[rel]
 |.lit v,c,_,hr=>by simpa only[rel]using hr
 |.nils,c,_,hr=>by simpa only[rel]using hr
 | .list k rows,c,_,hr=>by
  simp only[rel]at hr⊢;obtain⟨i,base,cap,d,hle,r⟩:=hr;refine⟨i,base,cap,d,hle,?_⟩;rcases r with rfl|⟨b,o,t,l,q⟩
  ·exact .inl rfl
  ·exact .inr ⟨b,o,t,(h.ok b l).1,jk h rows i (h.ok b l).2 q⟩
 | .listF ks rows,c,_,hr=>by
  simp only[rel]at hr⊢;exact CP h _ hr
 | .agg cells,c,d,hr=>by
  simp only[rel]at hr⊢;obtain⟨cs,e,h1,g⟩:=hr;exact⟨cs,e,h1,lv h cells (by simpa only[AV.closed]using d) g⟩
 | .tuple cells,c,d,hr=>by
  simp only[rel]at hr⊢;obtain⟨cs,e,g⟩:=hr;exact⟨cs,e,lv h cells (by simpa only[AV.closed]using d) g⟩
 | .cptr cells,c,d,hr=>by
  simp only[rel]at hr⊢;obtain⟨i,b,o,e,l,g⟩:=hr;exact⟨i,b,o,e,(h.ok b l).1,od h cells i (h.ok b l).2 g⟩
 |.ptr ..,_,d,_=>by simp[AV.closed]at d
 |.vec ..,_,d,_=>by simp[AV.closed]at d
 |.map _,_,d,_=>by simp[AV.closed]at d
 |.sub ..,_,d,_=>by simp[AV.closed]at d
 | .clo f caps,c,d,hr=>by
  simp only[rel]at hr⊢;obtain⟨cs,e,g⟩:=hr;exact⟨cs,e,lv h caps (by simpa only[AV.closed]using d) g⟩
 |.ifc,c,_,hr=>by simpa only[rel]using hr
 |.emptyS n,c,_,hr=>by simpa only[rel]using hr
theorem lv{E E':Env}(h:E.bh E'):∀(as:List AV) {vs:List Value},AV.aV as=true→ae E as vs→ae E' as vs
 | [],[],_,_=>by simp[ae]
 | [],_::_,_,hr=>by simp[ae]at hr
 |_::_,[],_,hr=>by simp[ae]at hr
 | a::as,v::vs,b,hr=>by
  simp only[AV.aV,aq]at b;simp only[ae]at hr⊢;exact⟨cZ h a b.1 hr.1,lv h as b.2 hr.2⟩
theorem od{E E':Env}(h:E.bh E'):∀(as:List AV) {b o:Nat},AV.aV as=true→E'.w.heap[b]? = E.w.heap[b]? → bO E as b o→bO E' as b o
 | [],_,_,_,_,_=>by simp[bO]
 | a::as,b,o,d,g,hr=>by
  simp only[AV.aV,aq]at d;simp only[bO]at hr⊢;obtain⟨⟨v,h1,i,k⟩,l⟩:=hr;exact⟨⟨v,by rw[World.ob g]; exact h1,i,cZ h a d.1 k⟩,od h as d.2 g l⟩
theorem jk{E E':Env}(h:E.bh E'){k:Nat}:∀(rs:List (List AV)) {b o:Nat},dW rs→E'.w.heap[b]? = E.w.heap[b]? → bU E k rs b o→bU E' k rs b o
 | [],_,_,_,_,_=>by simp[bU]
 | r::rs,b,o,a,d,hr=>by
  simp only[bU]at hr⊢;exact⟨hr.1,od h r (a r (by simp)) d hr.2.1,jk h rs (fun x g=>a x (by simp[g])) d hr.2.2⟩
end
mutual
theorem bA{E E':Env}(h:E.le E'):∀(a:AV) {c:Value},rel E a c→rel E' a c
 |.undef,_,_=>by simp[rel]
 |.lit v,c,hr=>by simpa only[rel]using hr
 |.nils,c,hr=>by simpa only[rel]using hr
 |.list k rows,c,hr=>cZ h.toC _ (by simp[AV.closed]) hr
 |.listF ks rows,c,hr=>cZ h.toC _ (by simp[AV.closed]) hr
 | .agg cells,c,hr=>by
  simp only[rel]at hr⊢;obtain⟨cs,e,h1,d⟩:=hr;exact⟨cs,e,h1,cR h cells d⟩
 | .tuple cells,c,hr=>by
  simp only[rel]at hr⊢;obtain⟨cs,e,d⟩:=hr;exact⟨cs,e,cR h cells d⟩
 |.cptr cells,c,hr=>cZ h.toC _ (by simp[AV.closed]) hr
 | .ptr id ad k row col,c,hr=>by
  simp only[rel]at hr⊢;refine⟨hr.1,h.past _ _ hr.2.1,fun g=>?_⟩;obtain⟨h1,d⟩:=h.live id ad hr.2.1 g;rw[d];exact hr.2.2 h1
 | .vec k id ad off n,c,hr=>by
  simp only[rel]at hr⊢;refine⟨hr.1,h.past _ _ hr.2.1,fun g=>?_⟩;obtain⟨h1,d⟩:=h.live id ad hr.2.1 g;rw[d];exact hr.2.2 h1
 | .map id,c,hr=>by
  simp only[rel]at hr⊢;refine⟨hr.1,h.past _ _ hr.2.1,fun g=>?_⟩;obtain⟨h1,d⟩:=h.live id 0 hr.2.1 g;rw[d];exact hr.2.2 h1
 | .clo f caps,c,hr=>by
  simp only[rel]at hr⊢;obtain⟨cs,e,d⟩:=hr;exact⟨cs,e,cR h caps d⟩
 |.ifc,c,hr=>by simpa only[rel]using hr
 |.emptyS n,c,hr=>by simpa only[rel]using hr
 | .sub id l j,c,hr=>by
  simp only[rel]at hr⊢;rcases hr with hr|⟨i,h1,d,q,u⟩
  ·exact .inl hr
  ·refine .inr ⟨i, h1, d, h.past _ _ q, fun g => ?_⟩
   obtain⟨g1,_⟩:=h.live id 0 q g;obtain⟨⟨o,w,y⟩,b,r,A⟩:=u g1;obtain⟨⟨t,B⟩,D⟩:=h.grow id l o w y g;refine⟨D,b,?_,A⟩;rw[B,xo,cn (List.getElem?_eq_some_iff.1 r).1];exact r
theorem cR{E E':Env}(h:E.le E'):∀(as:List AV) {vs:List Value},ae E as vs→ae E' as vs
 | [],[],_=>by simp[ae]
 | [],_::_,hr=>by simp[ae]at hr
 |_::_,[],hr=>by simp[ae]at hr
 | a::as,v::vs,hr=>by
  simp only[ae]at hr⊢;exact⟨bA h a hr.1,cR h as hr.2⟩
end
theorem Lq{E:Env}(k:Kd)(g:G)(c:Value):rel E (gx k g) c↔db E k g c:=by
 cases k with
 |int k=>simp only[gx,rel,db]
 |str=>simp only[gx,rel,db]
 |bool=>simp only[gx,rel,db]
 |list ks=>simp only[gx,rel,db,G.rows]
theorem xp{E:Env}:∀(ks:List Kd) (g:List G) (b o:Nat),bO E (ax ks g) b o↔ji E ks g b o
 | [],_,_,_=>by simp[ax,bO,ji]
 |k::ks,g,b,o=>by simp only[ax,bO,ji,xp ks,Lq]
theorem gM{E:Env}{ks:List Kd}{rows:List (List G)}{c:Value}:rel E (.listF ks rows) c↔rel E (.list ks.length (rows.map (ax ks))) c:=by
 simp only[rel,db,G.rows,eY,List.map_eq_nil_iff];have d:dW (rows.map (ax ks)):=by
  intro r hr;obtain⟨g,_,rfl⟩:=List.mem_map.1 hr;exact eO ks g
 have hr:∀ b o,(∀(i:Nat) (r:List G),rows[i]? = some r→ji E ks r b (o+i*ks.length))↔bU E ks.length (rows.map (ax ks)) b o:=by
  intro b o;rw[jQ];constructor
  ·intro h i r hi
   simp only[b7,df]at hi;obtain⟨g,a,rfl⟩:=hi;exact⟨oa ks g,(xp ks g _ _).2 (h i g a)⟩
  ·intro h i g a
   exact(xp ks g _ _).1 (h i (ax ks g) (by simp[a])).2
 simp only[hr,d,true_and]
end Go.AL

namespace Go.AL
variable [Dr]
def isRow(w:World)(b n:Nat):Prop:=∃ cs el,w.heap[b]? = some (.cells cs el (0,0))∧cs.size=n
def ba(E:Env):List (AV × AV × Nat)→List MapEntry→Prop
 | [],[]=>True
 |(k,v,n)::es,e::ms=>rel E k e.key∧rel E v e.val∧e.born=n∧k.closed=true∧v.closed=true∧ba E es ms
 |_,_=>False
def xq(w:World)(B:TypeId)(s:ByteArray)(v:Value):Option (Nat × Nat)→Prop
 |none=>v=.slice none 0 0∧s.data.toList=[]
 | some (g,m)=>v=.slice (some ⟨g,0,none⟩) s.data.toList.length m∧∃ cs fz,w.heap[g]? = some (.cells cs B fz)∧fz.2≤s.data.toList.length∧cs.size=m∧s.data.toList.length≤m∧m≤9223372036854775807 ∧
   cs.toList.take s.data.toList.length=s.data.toList.map fun b=>Value.int .u8 (b.toNat:Int)
theorem xr{w w':World}{B:TypeId}{s:ByteArray}{v:Value}{q:Option (Nat × Nat)}(h:∀ g m,q=some (g,m)→w'.heap[g]? = w.heap[g]?)(hr:xq w B s v q):xq w' B s v q:=by
 cases q with
 |none=>exact hr
 | some a =>
  obtain⟨g,m⟩:=a;obtain⟨h1,cs,fz,b,d⟩:=hr;exact⟨h1,cs,fz,by rw[h g m rfl]; exact b,d⟩
def bX (es:List (AV × Option (List (List AV)) × Nat)):List (AV × AV × Nat):=es.map fun x=>(x.1,.undef,x.2.2)
theorem xu (es:List (AV × Option (List (List AV)) × Nat)):(bX es).length=es.length:=by simp[bX]
def xv(E:Env)(l k:Nat)(rows:List (List AV))(h:Nat)(v:Value):Prop :=
 (rows = [] ∧ ∃ base, v = .slice base 0 0) ∨
  ∃ b m,(E.X.r l)[h]? = some (some (some (b,m)))∧v=.slice (some ⟨b,0,none⟩) rows.length m∧isRow E.w b (m*k)∧rows.length≤m∧dW rows∧bU E k rows b 0
def gA(E:Env)(l k:Nat) (es:List (AV × Option (List (List AV)) × Nat)) (ms:List MapEntry):Prop :=
 ∃ hs:Nat→Nat,(∀(i j:Nat) x y,es[i]? = some x→es[j]? = some y→x.2.1.isSome=true→y.2.1.isSome=true→hs i=hs j→i=j) ∧
  ∀(i:Nat) x rows e,es[i]? = some x→x.2.1=some rows→ms[i]? = some e→xv E l k rows (hs i) e.val
theorem Lr{E E':Env}{l k h:Nat}{rows:List (List AV)}{v:Value} (d:∀ b m,(E.X.r l)[h]? = some (some (some (b,m)))→(E'.X.r l)[h]? = some (some (some (b,m)))∧E'.w.heap[b]? = E.w.heap[b]?)
  (g:∀ b,E'.w.heap[b]? = E.w.heap[b]? → dW rows→bU E k rows b 0→bU E' k rows b 0) (hr:xv E l k rows h v):xv E' l k rows h v:=by
 rcases hr with hr|⟨b,m,h1,i,⟨cs,el,q,t⟩,u,a,y⟩
 ·exact .inl hr
 ·obtain ⟨g1, g2⟩ := d b m h1
  exact .inr ⟨b,m,g1,i,⟨cs,el,by rw[g2]; exact q,t⟩,u,a,g b g2 a y⟩
theorem p9{E E':Env}{l k:Nat}{es:List (AV × Option (List (List AV)) × Nat)}{ms:List MapEntry} (g:∀(h b m:Nat),(E.X.r l)[h]? = some (some (some (b,m)))→(E'.X.r l)[h]? = some (some (some (b,m)))∧E'.w.heap[b]? = E.w.heap[b]?)
  (q:∀(i:Nat) x rows,es[i]? = some x→x.2.1=some rows→∀ b,E'.w.heap[b]? = E.w.heap[b]? → dW rows→bU E k rows b 0→bU E' k rows b 0) (hr:gA E l k es ms):gA E' l k es ms:=by
 obtain⟨hs,h1,t⟩:=hr;exact⟨hs,h1,fun i x rows e d a he=>Lr (g (hs i)) (q i x rows d a) (t i x rows e d a he)⟩
theorem tG{r:List (Option (Option (Nat × Nat)))}{b:Nat}(h:b∈dh r):∃(i m:Nat),r[i]? = some (some (some (b,m))):=by
 unfold dh at h;obtain⟨x,d,a⟩:=List.mem_filterMap.1 h;obtain⟨i,hi,e⟩:=pM d;split at a
 ·rename_i g m
  cases a;exact⟨i,m,by rw[bC hi,e]⟩
 ·cases a
def eh(es:List (AV × Option Nat × Nat)):List (AV × AV × Nat):=es.map fun x=>(x.1,.undef,x.2.2)
theorem CR(es:List (AV × Option Nat × Nat)):(eh es).length=es.length:=by simp[eh]
def tH(E:Env)(l:Nat)(es:List (AV × Option Nat × Nat)) (ms:List (List (AV × AV × Nat) × Nat)) (a:List MapEntry):Prop :=
 (dh (E.X.r l)).length = ms.length ∧
  (∀(i:Nat) x e,es[i]? = some x→a[i]? = some e→(x.2.1=none∧e.val=.map none)∨∃ j b,x.2.1=some j∧(dh (E.X.r l))[j]? = some b∧e.val=.map (some b)) ∧
  ∀(j:Nat) m b,ms[j]? = some m→(dh (E.X.r l))[j]? = some b→∃ mm,E.w.heap[b]? = some (.map mm m.2)∧ba E m.1 mm.toList
theorem xw{E E':Env}{l:Nat}{es:List (AV × Option Nat × Nat)}{ms:List (List (AV × AV × Nat) × Nat)}{d:List MapEntry}(hr:E'.X.r l=E.X.r l) (g:∀(h b m:Nat),(E.X.r l)[h]? = some (some (some (b,m)))→E'.w.heap[b]? = E.w.heap[b]?)
  (k:∀ m∈ms,∀ q,ba E m.1 q→ba E' m.1 q) (h:tH E l es ms d):tH E' l es ms d:=by
 obtain⟨h1,t,u⟩:=h;refine⟨by rw[hr]; exact h1,fun i x e v he=>by rw[hr]; exact t i x e v he,fun j m b hm a=>?_⟩;rw[hr]at a;obtain⟨mm,y,A⟩:=u j m b hm a;obtain⟨i,n,hi⟩:=tG (dK a);exact⟨mm,by rw[g i b n hi]; exact y,k m (dK hm) _ A⟩
def aD(E:Env)(id:Nat):ab→Prop
 |.dead=>E.loc[id]? = some none
 |.c6=>E.loc[id]? = some none
 |.box cells=>∃ b n,E.loc[id]? = some (some (b,n))∧isRow E.w b cells.length∧bO E cells b 0
 | .vec k _ rows=>(E.loc[id]? = some none∧rows=[]) ∨
   ∃ b m,E.loc[id]? = some (some (b,m))∧isRow E.w b (m*k)∧rows.length≤m∧dW rows∧bU E k rows b 0
 |.map es clock=>∃ b n ms,E.loc[id]? = some (some (b,n))∧E.w.heap[b]? = some (.map ms clock)∧ba E es ms.toList
 |.iter s pos=>∃ b n,E.loc[id]? = some (some (b,n))∧E.w.heap[b]? = some (.stringIter s pos)
 | .dC l T B s=>∃ (b n:Nat) (p v:Value) (h:Nat) (q:Option (Nat × Nat)),E.loc[id]? = some (some (b,n))∧E.w.heap[b]? = some (.cells #[p,v] T (0,0))∧(p=.pointer none∨p=.pointer (some ⟨b,0,none⟩))∧(E.X.r l)[h]? = some (some q) ∧
   (∀(h':Nat) d,(E.X.r l)[h']? = some (some d)→h'=h)∧xq E.w B s v q
 |.aM l k es clock=>∃ b n ms,E.loc[id]? = some (some (b,n))∧E.w.heap[b]? = some (.map ms clock)∧ba E (bX es) ms.toList∧gA E l k es ms.toList
 |.mm l es ms clock=>∃ b n a,E.loc[id]? = some (some (b,n))∧E.w.heap[b]? = some (.map a clock)∧ba E (eh es) a.toList∧tH E l es ms a.toList
def mG(E:Env):Prop:=∀ p∈p7,E.gy p.1∧∃ t f,E.w.heap[p.1]? = some (.cells p.2 t f)
theorem mG.bh{E E':Env}(H:mG E)(h:E.bh E'):mG E':=fun p a=>by
 obtain⟨h1,t,f,b⟩:=H p a;exact⟨(h.ok _ h1).1,t,f,by rw[(h.ok _ h1).2]; exact b⟩
structure ak (E:Env):Prop where
 len:E.loc.length=E.H.length
 inj:∀(i j b m n:Nat),E.loc[i]? = some (some (b,m))→E.loc[j]? = some (some (b,n))→i=j
 lt:∀(i b m:Nat),E.loc[i]? = some (some (b,m))→b<E.w.heap.size∧¬ E.X b
 X:∀ b,E.X b→b<E.w.heap.size
 obj:∀(i:Nat) o,E.H[i]? = some o→aD E i o
 dX:mG E
 dD:∀(l h l' h' b m n:Nat),(E.X.r l)[h]? = some (some (some (b,m)))→(E.X.r l')[h']? = some (some (some (b,n)))→l=l'∧h=h'
 cd:∀(i b m l h n:Nat),E.loc[i]? = some (some (b,m))→(E.X.r l)[h]? ≠ some (some (some (b,n)))
 bR:∀(l h b m:Nat),(E.X.r l)[h]? = some (some (some (b,m)))→b<E.w.heap.size∧¬ E.X b
 uniq:∀(i j:Nat) o o' (l:Nat),E.H[i]? = some o→E.H[j]? = some o'→o.label=some l→o'.label=some l→i=j
 fc:∀(l:Nat),(∀(i:Nat) o,E.H[i]? = some o→o.label≠some l)→∀(h:Nat) q,(E.X.r l)[h]? ≠ some (some q)
theorem ak.lx{E:Env}(H:ak E){b:Nat}(a:E.X b):¬ E.own b:=by
 rintro(⟨i,c,hi⟩|⟨l,h,m,hi⟩)
 ·exact(H.lt i b c hi).2 a
 ·exact(H.bR l h b m hi).2 a
theorem ak.tJ{E:Env}(H:ak E){b:Nat}(a:E.own b):b<E.w.heap.size∧¬ E.X b:=by
 rcases a with⟨i,c,hi⟩|⟨l,h,m,hi⟩
 ·exact H.lt i b c hi
 ·exact H.bR l h b m hi
structure Ext (w w':World):Prop where
 size:w.heap.size≤w'.heap.size
 same:∀ b,b<w.heap.size→w'.heap[b]? = w.heap[b]?
 env:c7 w w'
theorem Ext.refl(w:World):Ext w w:=⟨aB _,fun _ _=>rfl,⟨rfl,rfl,rfl,by first|exact fun _=>aB _|exact fun _=>dT _ _⟩⟩
theorem Ext.trans{w w' a:World}(h:Ext w w')(h':Ext w' a):Ext w a :=
 ⟨nN h.size h'.size,fun b d=>by rw[h'.same b (cM d h.size),h.same b d],h.env.trans h'.env⟩
theorem Ext.push(w:World)(o:Obj):Ext w { w with heap:=w.heap.push o } :=
 ⟨by simp,fun b a=>by simp[sZ,W2 a],⟨rfl,rfl,rfl,by first|exact fun _=>aB _|exact fun _=>dT _ _⟩⟩
theorem Ext.drawn(w:World)(n:Nat)(h:w.drawn≤n:=by exact Nat.le_succ _):Ext w { w with drawn:=n }:=⟨aB _,fun _ _=>rfl,⟨rfl,rfl,rfl,fun _=>h⟩⟩
theorem Env.fK{E:Env}{w':World}(h:Ext E.w w'):E.le { E with w:=w' } where
 past:=fun _ _ h=>h
 size:=h.size
 same:=fun b a _=>h.same b a
 own:=fun _ _ d=>d
 live:=fun _ _ _ g=>⟨g,rfl⟩
 X:=⟨rfl,rfl⟩
 rl:=fun _ _ h=>⟨h,fun _ i=>i⟩
 env:=h.env
 grow:=fun _ _ o h1 k _=>⟨⟨[],(cV _).symm⟩,o,h1,k⟩
theorem oe{w w':World}{b n:Nat}(h:w'.heap[b]? = w.heap[b]?)(hr:isRow w b n):isRow w' b n:=by
 unfold isRow at *; rw[h]; exact hr
theorem p_{E E':Env}{b:Nat}(d:∀ a c,rel E a c→rel E' a c)(g:E'.w.heap[b]? = E.w.heap[b]?){as:List AV}{o:Nat}
  (h:bO E as b o):bO E' as b o:=by
 rw[gz]at *;intro i a hi;obtain⟨v,h1,k,l⟩:=h i a hi;exact⟨v,by rw[World.ob g]; exact h1,k,d _ _ l⟩
theorem jl{E E':Env}{b k:Nat}(d:∀ a c,rel E a c→rel E' a c)(g:E'.w.heap[b]? = E.w.heap[b]?){rs:List (List AV)}{o:Nat}
  (h:bU E k rs b o):bU E' k rs b o:=by
 rw[jQ]at *;intro i r hi;exact⟨(h i r hi).1,p_ d g (h i r hi).2⟩
theorem eP{E E':Env}(b:∀ a c,rel E a c→rel E' a c):∀{es:List (AV × AV × Nat)} {ms:List MapEntry},ba E es ms→ba E' es ms
 | [],[],_=>by simp[ba]
 | [],_::_,h=>by simp[ba]at h
 |(_,_,_)::_,[],h=>by simp[ba]at h
 | (k,v,n)::es,e::ms,h=>by
  simp only[ba]at h⊢;exact⟨b _ _ h.1,b _ _ h.2.1,h.2.2.1,h.2.2.2.1,h.2.2.2.2.1,eP b h.2.2.2.2.2⟩
theorem iN{E E':Env}{i:Nat}{o:ab}(D:∀ a c,rel E a c→rel E' a c)(u:E'.loc[i]? = E.loc[i]?)
  (y:∀ b n,E.loc[i]? = some (some (b,n))→E'.w.heap[b]? = E.w.heap[b]?)
  (I:∀ l,o.label=some l→E'.X.r l=E.X.r l∧∀(h g m:Nat),(E.X.r l)[h]? = some (some (some (g,m)))→E'.w.heap[g]? = E.w.heap[g]?) (h:aD E i o):aD E' i o:=by
 cases o with
 |dead=>simp only[aD]at *; rw[u]; exact h
 |c6=>simp only[aD]at *; rw[u]; exact h
 | box cells =>
  simp only[aD]at *;obtain⟨b,n,h1,d,t⟩:=h;exact⟨b,n,by rw[u,h1],oe (y b n h1) d,p_ D (y b n h1) t⟩
 | vec k ad rows =>
  simp only[aD]at *;rcases h with⟨h1,d⟩|⟨b,m,h1,d,t,A,J⟩
  ·exact .inl ⟨by rw[u,h1],d⟩
  ·exact .inr ⟨b,m,by rw[u,h1],oe (y b m h1) d,t,A,jl D (y b m h1) J⟩
 | map es clock =>
  simp only[aD]at *;obtain⟨b,n,ms,h1,d,t⟩:=h;exact⟨b,n,ms,by rw[u,h1],by rw[y b n h1,d],eP D t⟩
 | iter s pos =>
  simp only[aD]at *;obtain⟨b,n,h1,d⟩:=h;exact⟨b,n,by rw[u,h1],by rw[y b n h1,d]⟩
 | dC l T B s =>
  simp only[aD]at *;obtain⟨b,n,p,v,k,q,h1,d,t,A,J,O⟩:=h;obtain⟨g1,g2⟩:=I l rfl;exact⟨b,n,p,v,k,q,by rw[u,h1],by rw[y b n h1,d],t,by rw[g1,A],by rw[g1]; exact J,xr (fun g m e=>g2 k g m (by rw[A,e])) O⟩
 | aM l k es clock =>
  simp only[aD]at *;obtain⟨b,n,ms,h1,d,t,A⟩:=h;obtain⟨g1,g2⟩:=I l rfl;exact⟨b,n,ms,by rw[u,h1],by rw[y b n h1,d],eP D t,p9 (fun h g m hk=>⟨by rw[g1]; exact hk,g2 h g m hk⟩) (fun _ _ _ _ _ b M _ hr=>jl D M hr) A⟩
 | mm l es ms clock =>
  simp only[aD]at *;obtain⟨b,n,N,h1,d,t,A⟩:=h;obtain⟨g1,g2⟩:=I l rfl;exact⟨b,n,N,by rw[u,h1],by rw[y b n h1,d],eP D t,xw g1 g2 (fun _ _ _=>eP D) A⟩
theorem ak.ext{E:Env}{w':World}(H:ak E)(h:Ext E.w w'):ak { E with w:=w' } where
 len:=H.len
 inj:=H.inj
 lt:=fun i b m hi=>⟨cM (H.lt i b m hi).1 h.size,(H.lt i b m hi).2⟩
 X:=fun b d=>cM (H.X b d) h.size
 obj:=fun i o hi=>iN (fun a _ hr=>bA (Env.fK h) a hr) rfl (fun b n d=>h.same b (H.lt i b n d).1) (fun l _=>⟨rfl,fun k g m hk=>h.same g (H.bR l k g m hk).1⟩) (H.obj i o hi)
 dX:=H.dX.bh (Env.fK h).toC
 dD:=H.dD
 cd:=H.cd
 bR:=fun l k b m hk=>⟨cM (H.bR l k b m hk).1 h.size,(H.bR l k b m hk).2⟩
 uniq:=H.uniq
 fc:=H.fc
def Env.push(E:Env)(w':World)(o:ab)(l:Option (Nat × Nat)):Env:={ w:=w',H:=E.H++[o],loc:=E.loc++[l],X:=E.X }
theorem az{α:Type}{l:List α}{i:Nat}{x:α}(h:l[i]? = some x):i<l.length:=by
 rcases gr i l.length with h'|h'
 ·exact h'
 ·rw[nO h']at h; cases h
theorem XN{α:Type}(l:List α)(x:α)(i:Nat)(h:i<l.length):(l++[x])[i]? = l[i]? := by
 rw[cn h]
theorem Env.il{E:Env}{w':World}{o:ab}{l:Option (Nat × Nat)}(r:E.loc.length=E.H.length)(h:Ext E.w w')
  (d:∀ b n,l=some (b,n)→E.w.heap.size≤b):E.le (E.push w' o l) where
 past:=fun id ad g=>by
  obtain⟨x,h1,a⟩:=g;exact⟨x,by simp only[Env.push]; rw[cn (az h1)]; exact h1,a⟩
 size:=h.size
 same:=fun b d _=>h.same b d
 own:=fun b q i=>by
  rintro(⟨id,c,hid⟩|hs)
  case inr=>exact i (.inr hs)
  simp only[Env.push]at hid;by_cases hi:id<E.loc.length
  ·rw [cn hi] at hid
   exact i (.inl ⟨id,c,hid⟩)
  ·rw [gI (by omega)] at hid
   cases hk:id-E.loc.length with
   | zero =>
    rw[hk]at hid;simp at hid;have:=d b c hid;omega
   |succ n=>rw[hk]at hid; simp at hid
 live:=fun id ad g=>by
  obtain⟨x,h1,a⟩:=g;have hid:=az h1;simp only[Env.live,Env.push];rw[cn hid,cn (by omega)];exact fun h=>⟨h,rfl⟩
 X:=⟨rfl,rfl⟩
 grow:=fun id l o h1 a _=>⟨⟨[],(cV _).symm⟩,o,by simp only[Env.push]; rw[cn (az h1)]; exact h1,a⟩
 rl:=fun _ _ h=>⟨h,fun _ k=>k⟩
 env:=h.env
theorem ak.push{E:Env}{w':World}{o:ab}{l:Option (Nat × Nat)}(H:ak E)(h:Ext E.w w')
  (t:∀ b n,l=some (b,n)→E.w.heap.size≤b∧b<w'.heap.size) (J:aD (E.push w' o l) E.H.length o) (hlab:o.label=none:=by first|rfl|assumption):ak (E.push w' o l) where
 dD:=H.dD
 bR:=fun l k b m hk=>⟨cM (H.bR l k b m hk).1 h.size,(H.bR l k b m hk).2⟩
 cd:=by
  intro i b m l' k n hi hk;simp only[Env.push,d_]at hi;split at hi
  ·exact H.cd i b m l' k n hi hk
  ·rename_i h1
   cases v:i-E.loc.length with
   | zero =>
    rw[v]at hi;simp at hi;have A:=t b m hi;have I:=(H.bR l' k b n hk).1;omega
   |succ n=>rw[v]at hi; simp at hi
 uniq:=by
  have key:∀(i:Nat) o1 q,(E.push w' o l).H[i]? = some o1→o1.label=some q→E.H[i]? = some o1:=by
   intro i o1 q hi B;simp only[Env.push,d_]at hi;split at hi
   ·exact hi
   ·cases v : i - E.H.length with
    | zero =>
     rw[v]at hi;simp at hi;subst hi;rw[hlab]at B;cases B
    |succ n=>rw[v]at hi; simp at hi
  exact fun i j o1 o2 q hi d h1 y=>H.uniq i j o1 o2 q (key i o1 q hi h1) (key j o2 q d y) h1 y
 fc:=fun q M=>H.fc q fun i o1 hi=>M i o1 (by
  simp only[Env.push];rw[cn (az hi)];exact hi)
 dX:=H.dX.bh (Env.il H.len h (fun b n e=>(t b n e).1)).toC
 len:=by simp[Env.push,H.len]
 inj:=by
  intro i j b m n hi d;simp only[Env.push,d_]at hi d;split at hi<;>split at d
  ·exact H.inj i j b m n hi d
  ·rename_i h1 y
   cases hk:j-E.loc.length with
   | zero =>
    rw[hk]at d;simp at d;have A:=t b n d;have I:=(H.lt i b m hi).1;omega
   |succ n=>rw[hk]at d; simp at d
  ·rename_i h1 y
   cases hk:i-E.loc.length with
   | zero =>
    rw[hk]at hi;simp at hi;have A:=t b m hi;have I:=(H.lt j b n d).1;omega
   |succ n=>rw[hk]at hi; simp at hi
  ·rename_i h1 y
   have O:i-E.loc.length=0:=by
    cases hk:i-E.loc.length with
    |zero=>rfl
    |succ n=>rw[hk]at hi; simp at hi
   have R:j-E.loc.length=0:=by
    cases hk:j-E.loc.length with
    |zero=>rfl
    |succ n=>rw[hk]at d; simp at d
   omega
 lt:=by
  intro i b m hi;simp only[Env.push,d_]at hi⊢;split at hi
  ·exact⟨cM (H.lt i b m hi).1 h.size,(H.lt i b m hi).2⟩
  ·cases hk : i - E.loc.length with
   | zero =>
    rw[hk]at hi;simp at hi;have A:=t b m hi;exact⟨A.2,fun N=>by have:=H.X b N; omega⟩
   |succ n=>rw[hk]at hi; simp at hi
 X:=fun b u=>cM (H.X b u) h.size
 obj:=by
  intro i o' hi;have hle:E.le (E.push w' o l):=Env.il H.len h (fun b n u=>(t b n u).1);by_cases D:i<E.H.length
  ·simp only [Env.push] at hi
   rw[cn D]at hi;refine iN (fun a _ hr=>bA hle a hr) ?_ ?_ ?_ (H.obj i o' hi)
   ·simp only [Env.push]
    rw[cn (by rw[H.len]; exact D)]
   ·intro b n u
    exact h.same b (H.lt i b n u).1
   ·exact fun q _=>⟨rfl,fun k g m hk=>h.same g (H.bR q k g m hk).1⟩
  ·have r := hi
   simp only[Env.push]at r;rw[gI (by omega)]at r;cases hk:i-E.H.length with
   | zero =>
    rw[hk]at r;simp at r;have:i=E.H.length:=by omega
    rw[this,←r];exact J
   |succ n=>rw[hk]at r; simp at r
theorem Env.im{E:Env}{w':World}{id:Nat}{o o':ab}{l:Option (Nat × Nat)}(hid:E.H[id]? = some o)
  (hlen:E.loc.length=E.H.length) (A:E.w.heap.size≤w'.heap.size)
  (B:∀ x,x<E.w.heap.size→(∀ n,E.loc[id]? ≠ some (some (x,n)))→w'.heap[x]? = E.w.heap[x]?)
  (O:∀ b n,l=some (b,n)→E.w.heap.size≤b∨∃ m,E.loc[id]? = some (some (b,m)))
  (I:(∀ v,o'.aw = some v→o.aw = some v∧E.loc[id]? = some l)∨(∀ v,o'.aw = some v→∀ u,o.aw = some u→u<v))
  (M:∀ v u,o'.aw = some v→o.aw = some u→u≤v) (t:o.born=true→o.aw = none→o'.aw = none) (J:c7 E.w w':=by first|exact⟨rfl,rfl,rfl,by first|exact fun _=>aB _|exact fun _=>dT _ _⟩|assumption|exact Ext.env (by assumption))
  (hmm:o.cF=none∨o'.cF=o.cF∨o'.aw = none:=by first|exact .inl rfl|exact .inr (.inl rfl)|exact .inr (.inr rfl)|exact .inl (ab.tF (by assumption))|assumption)
  (D:o.born=true→o'.born=true:=by first|exact fun _=>rfl|exact fun h=>h|assumption) :
  E.le { w:=w',H:=E.H.set id o',loc:=E.loc.set id l,X:=E.X } where
 grow:=fun i l1 x h1 a d=>by
  by_cases e:i=id
  ·subst e
   rw[hid]at h1;cases h1;rcases hmm with h|h|h
   ·rw[h]at a; cases a
   ·exact⟨⟨[],(cV _).symm⟩,o',by simp only[]; rw[bd (az hid)],by rw[h]; exact a⟩
   ·obtain ⟨y, g, k⟩ := d
    simp only[]at g;rw[bd (az hid)]at g;cases g;rw[h]at k;cases k
  ·exact⟨⟨[],(cV _).symm⟩,x,by simp only[]; rw[aJ (Ne.symm e)]; exact h1,a⟩
 past:=fun i ad r=>by
  obtain⟨x,h1,a⟩:=r;by_cases e:i=id
  ·subst e
   rw[hid]at h1;cases h1;refine⟨o',by simp only[]; rw[bd (az hid)],D a.1,fun v d=>?_⟩;cases hu:o.aw with
   |none=>rw[t a.1 hu]at d; cases d
   |some u=>exact nN (a.2 u hu) (M v u d hu)
  ·exact⟨x,by simp only[]; rw[aJ (Ne.symm e)]; exact h1,a⟩
 size:=A
 same:=fun x R q=>B x R (fun n U=>q (.inl ⟨id,n,U⟩))
 own:=fun b Y q=>by
  rintro(⟨i,c,hi⟩|hs)
  case inr=>exact q (.inr hs)
  simp only[dy]at hi;split at hi
  ·split at hi
   ·simp at hi
    rcases O b c hi with h|⟨m,hm⟩
    ·omega
    ·exact q (.inl ⟨id,m,hm⟩)
   ·cases hi
  ·exact q (.inl ⟨i,c,hi⟩)
 live:=fun i ad r N=>by
  obtain⟨x,h1,a⟩:=N;by_cases e:i=id
  ·subst e
   simp only[]at h1;rw[bd (az hid)]at h1;cases h1;rcases I with d|d
   ·obtain ⟨V, a2⟩ := d ad a
    refine⟨⟨o,hid,V⟩,?_⟩;simp only[];rw[bd (by rw[hlen]; exact az hid),a2]
   ·obtain ⟨y, g, k⟩ := r
    rw[hid]at g;cases g;cases hu:o.aw with
    |none=>rw[t k.1 hu]at a; cases a
    |some u=>have:=d ad a u hu; have:=k.2 u hu; omega
  ·simp only [] at h1 ⊢
   rw[aJ (Ne.symm e)]at h1;rw[aJ (Ne.symm e)];exact⟨⟨x,h1,a⟩,rfl⟩
 X:=⟨rfl,rfl⟩
 rl:=fun _ _ h=>⟨h,fun _ W=>W⟩
 env:=J
theorem ak.jm{E:Env}{w':World}{id:Nat}{o o':ab}{l:Option (Nat × Nat)}(H:ak E)(hid:E.H[id]? = some o)
  (y:E.w.heap.size≤w'.heap.size)
  (B:∀ x,x<E.w.heap.size→(∀ n,E.loc[id]? ≠ some (some (x,n)))→w'.heap[x]? = E.w.heap[x]?)
  (A:∀ b n,l=some (b,n)→(E.w.heap.size≤b∧b<w'.heap.size)∨∃ m,E.loc[id]? = some (some (b,m)))
  (M:(∀ v,o'.aw = some v→o.aw = some v∧E.loc[id]? = some l)∨(∀ v,o'.aw = some v→∀ u,o.aw = some u→u<v))
  (O:∀ v u,o'.aw = some v→o.aw = some u→u≤v) (J:o.born=true→o.aw = none→o'.aw = none)
  (Y:aD { w:=w',H:=E.H.set id o',loc:=E.loc.set id l,X:=E.X } id o') (N:c7 E.w w':=by first|exact⟨rfl,rfl,rfl,by first|exact fun _=>aB _|exact fun _=>dT _ _⟩|assumption|exact Ext.env (by assumption))
  (hlab:o.label=none:=by first|rfl|assumption) (W:o'.label=none:=by first|rfl|assumption)
  (Yc:o.born=true→o'.born=true:=by first|exact fun _=>rfl|exact fun h=>h|assumption) :
  ak { w:=w',H:=E.H.set id o',loc:=E.loc.set id l,X:=E.X } where
 dD:=H.dD
 bR:=fun l k b m hk=>⟨cM (H.bR l k b m hk).1 y,(H.bR l k b m hk).2⟩
 cd:=by
  intro i b m l' k n hi hk;simp only[dy]at hi;split at hi
  ·split at hi
   ·simp at hi
    rcases A b m hi with h|⟨m',r⟩
    ·have:=(H.bR l' k b n hk).1; omega
    ·exact H.cd _ _ _ _ _ _ r hk
   ·cases hi
  ·exact H.cd _ _ _ _ _ _ hi hk
 uniq:=by
  have key:∀(i:Nat) o1 q,(E.H.set id o')[i]? = some o1→o1.label=some q→E.H[i]? = some o1:=by
   intro i o1 q hi R;rw[dy]at hi;split at hi
   ·split at hi
    ·cases hi
     rw[W]at R;cases R
    ·cases hi
   ·exact hi
  exact fun i j o1 o2 q hi d h1 U=>H.uniq i j o1 o2 q (key i o1 q hi h1) (key j o2 q d U) h1 U
 fc:=fun q I=>H.fc q fun i o1 hi=>by
  by_cases e:i=id
  ·subst e
   rw[hid]at hi;cases hi;rw[hlab];exact fun h=>by cases h
  ·exact I i o1 (by show (E.H.set id o')[i]? = _; rw[aJ (Ne.symm e)]; exact hi)
 dX:=H.dX.bh (Env.im hid H.len y B (fun b n t=>(A b n t).imp (fun h=>h.1) (fun h=>h)) M O J N).toC
 len:=by simp[H.len]
 inj:=by
  intro i j b m n hi d;simp only[dy]at hi d;split at hi
  ·rename_i e1
   split at d
   ·rename_i V; omega
   ·split at hi
    ·simp at hi
     rcases A b m hi with h|⟨m',r⟩
     ·have:=(H.lt j b n d).1; omega
     ·rw[←e1]; exact H.inj _ _ _ _ _ r d
    ·cases hi
  ·split at d
   ·rename_i V
    split at d
    ·simp at d
     rcases A b n d with h|⟨m',r⟩
     ·have:=(H.lt i b m hi).1; omega
     ·rw[←V]; exact H.inj _ _ _ _ _ hi r
    ·cases d
   ·exact H.inj i j b m n hi d
 lt:=by
  intro i b m hi;simp only[dy]at hi;split at hi
  ·split at hi
   ·simp at hi
    rcases A b m hi with h|⟨m',r⟩
    ·exact⟨h.2,fun hx=>by have:=H.X b hx; omega⟩
    ·exact⟨cM (H.lt _ _ _ r).1 y,(H.lt _ _ _ r).2⟩
   ·cases hi
  ·exact⟨cM (H.lt i b m hi).1 y,(H.lt i b m hi).2⟩
 X:=fun b t=>cM (H.X b t) y
 obj:=by
  intro i x hi;by_cases e:i=id
  ·subst e
   simp only[]at hi;rw[bd (az hid)]at hi;cases hi;exact Y
  ·have D := hi
   simp only[]at D;rw[aJ (Ne.symm e)]at D;have hle:E.le { w:=w',H:=E.H.set id o',loc:=E.loc.set id l,X:=E.X } :=
    Env.im hid H.len y B (fun b n t=>(A b n t).imp (fun h=>h.1) (fun h=>h)) M O J N
   refine iN (fun a _ hr=>bA hle a hr) ?_ ?_ ?_ (H.obj i x D)
   ·simp only []
    rw[aJ (Ne.symm e)]
   ·intro b n t
    exact B b (H.lt i b n t).1 (fun m hm=>e (H.inj i id b n m t hm))
   ·exact fun q _=>⟨rfl,fun k g m hk=>B g (H.bR q k g m hk).1 (fun n I=>H.cd id g n q k m I hk)⟩
theorem ak.xy{E:Env}{w':World}{id l0:Nat}{o o':ab}{r':Nat→List (Option (Option (Nat × Nat)))}(H:ak E)(hid:E.H[id]? = some o)(hlab:o.label=some l0)(O:o'.label=some l0)(W:o'.aw = o.aw)
  (N:E.w.heap.size≤w'.heap.size)
  (R:∀ x,x<E.w.heap.size→(∀ n,E.loc[id]? ≠ some (some (x,n)))→(∀(h m:Nat),(E.X.r l0)[h]? ≠ some (some (some (x,m))))→w'.heap[x]? = E.w.heap[x]?)
  (hr:∀ l,l≠l0→r' l=E.X.r l)
  (Yd:∀(h b m:Nat),(r' l0)[h]? = some (some (some (b,m)))→(E.X.r l0)[h]? = some (some (some (b,m)))∨(E.w.heap.size≤b∧b<w'.heap.size∧∀(h' m':Nat),(r' l0)[h']? = some (some (some (b,m')))→h'=h))
  (Yf:∀(h:Nat),h<(E.X.r l0).length→h<(r' l0).length∧∀ q,(r' l0)[h]? = some (some q)→(E.X.r l0)[h]? = some (some q))
  (ho:E.le { w:=w',H:=E.H.set id o',loc:=E.loc,X:=E.X.re r' }→aD { w:=w',H:=E.H.set id o',loc:=E.loc,X:=E.X.re r' } id o') (Ye:c7 E.w w') (hmm:o.cF=none∨(o'.cF=o.cF∧∃ t,r' l0=E.X.r l0++t):=by first|exact .inl rfl|assumption) :
  ak { w:=w',H:=E.H.set id o',loc:=E.loc,X:=E.X.re r' }∧E.le { w:=w',H:=E.H.set id o',loc:=E.loc,X:=E.X.re r' }:=by
 have B:=az hid;have J:∀(l h b m:Nat),(r' l)[h]? = some (some (some (b,m)))→(E.X.r l)[h]? = some (some (some (b,m)))∨(l=l0∧E.w.heap.size≤b∧b<w'.heap.size∧∀(h' m':Nat),(r' l0)[h']? = some (some (some (b,m')))→h'=h):=fun l h b m hk=>by
  by_cases e:l=l0
  ·subst e
   rcases Yd h b m hk with h1|⟨h1,d,h3⟩
   ·exact .inl h1
   ·exact .inr ⟨rfl,h1,d,h3⟩
  ·rw [hr l e] at hk
   exact .inl hk
 have hle:E.le { w:=w',H:=E.H.set id o',loc:=E.loc,X:=E.X.re r' }:=by
  refine⟨fun i ad hp=>?_,N,fun x U Y=>R x U (fun n D=>Y (.inl ⟨id,n,D⟩)) fun h m hm=>Y (.inr ⟨l0,h,m,hm⟩),fun b I Yc=>?_,fun i ad hp k=>?_,⟨rfl,rfl⟩,fun l h hh=>?_,Ye,fun i l x h1 d hv=>?_⟩
  rotate_right
  ·by_cases e : i = id
   ·subst e
    rw[hid]at h1;cases h1;have u:l0=l:=by
     have:=ab.jh d;rw[hlab]at this;cases this;rfl
    subst u;rcases hmm with h|⟨h,ht⟩
    ·rw[h]at d; cases d
    ·exact⟨ht,o',by simp only[]; rw[bd B],by rw[h]; exact d⟩
   ·have u : l ≠ l0 := fun u => e (H.uniq i id x o l h1 hid (ab.jh d) (by rw [u]; exact hlab))
    exact⟨⟨[],by rw[cV]; exact hr l u⟩,x,by simp only[]; rw[aJ (Ne.symm e)]; exact h1,d⟩
  ·obtain ⟨x, h1, d⟩ := hp
   by_cases e:i=id
   ·subst e
    rw[hid]at h1;cases h1;exact⟨o',by simp only[]; rw[bd B],ab.tD O,fun v hv=>d.2 v (by rw[←W]; exact hv)⟩
   ·exact⟨x,by simp only[]; rw[aJ (Ne.symm e)]; exact h1,d⟩
  ·rintro (⟨i, c, hi⟩ | ⟨l, h, m, hm⟩)
   ·exact Yc (.inl ⟨i,c,hi⟩)
   ·rcases J l h b m hm with h1 | ⟨_, h1, _⟩
    ·exact Yc (.inr ⟨l,h,m,h1⟩)
    ·omega
  ·obtain ⟨x, h1, d⟩ := k
   refine⟨?_,rfl⟩;simp only[]at h1;by_cases e:i=id
   ·subst e
    rw[bd B]at h1;cases h1;exact⟨o,hid,by rw[←W]; exact d⟩
   ·rw [aJ (Ne.symm e)] at h1
    exact⟨x,h1,d⟩
  ·by_cases e : l = l0
   ·subst e
    exact Yf h hh
   ·show h < (r' l).length ∧ _
    rw[hr l e];exact⟨hh,fun _ A=>(by rw[show ({ w:=w',H:=E.H.set id o',loc:=E.loc,X:=E.X.re r' }:Env).X.r l=E.X.r l from hr l e]at A; exact A)⟩
 refine⟨⟨by simp[H.len],H.inj,fun i b m hi=>⟨cM (H.lt i b m hi).1 N,(H.lt i b m hi).2⟩,fun b I=>cM (H.X b I) N,fun i x hi=>?_,H.dX.bh hle.toC,fun l h l' h' b m n h1 d=>?_,fun i b m l h n hi hk=>?_,fun l h b m hk=>?_,fun i j x y l hi hj h1 d=>?_,fun l D h q A=>?_⟩,hle⟩
 ·by_cases e : i = id
  ·subst e
   simp only[]at hi;rw[bd B]at hi;cases hi;exact ho hle
  ·simp only [] at hi
   rw[aJ (Ne.symm e)]at hi;refine iN (fun a _ hr=>bA hle a hr) rfl (fun b n I=>R b (H.lt i b n I).1 (fun m hm=>e (H.inj i id b n m I hm)) fun h m hm=>H.cd i b n l0 h m I hm) (fun l k=>?_) (H.obj i x hi);have M:l≠l0:=fun u=>e (H.uniq i id x o l hi hid k (by rw[hlab,u]));exact⟨hr l M,fun h g m hk=>R g (H.bR l h g m hk).1 (fun n D=>H.cd id g n l h m D hk) fun h' m' Yg=>M (H.dD l h l0 h' g m m' hk Yg).1⟩
 ·rcases J l h b m h1 with g1 | ⟨rfl, g1, g2, g3⟩ <;> rcases J l' h' b n d with V | ⟨rfl, V, k2, k3⟩
  ·exact H.dD _ _ _ _ _ _ _ g1 V
  ·have:=(H.bR _ _ _ _ g1).1; omega
  ·have:=(H.bR _ _ _ _ V).1; omega
  ·exact⟨rfl,(g3 h' n d).symm⟩
 ·rcases J l h b n hk with g1 | ⟨rfl, g1, g2, g3⟩
  ·exact H.cd _ _ _ _ _ _ hi g1
  ·have:=(H.lt i b m hi).1; omega
 ·rcases J l h b m hk with g1 | ⟨rfl, g1, g2, g3⟩
  ·exact⟨cM (H.bR _ _ _ _ g1).1 N,(H.bR _ _ _ _ g1).2⟩
  ·exact⟨g2,fun U=>by have:=H.X b U; omega⟩
 ·have key:∀ (i:Nat) x,(E.H.set id o')[i]? = some x→x.label=some l→∃ y,E.H[i]? = some y∧y.label=some l:=by
   intro i x hi k;by_cases e:i=id
   ·subst e
    rw[bd B]at hi;cases hi;exact⟨o,hid,by rw[hlab,←O,k]⟩
   ·rw [aJ (Ne.symm e)] at hi
    exact⟨x,hi,k⟩
  obtain⟨x',a1,a2⟩:=key i x hi h1;obtain⟨y',b1,b2⟩:=key j y hj d;exact H.uniq i j x' y' l a1 b1 a2 b2
 ·have M : l ≠ l0 := fun e => D id o' (by show (E.H.set id o')[id]? = _; rw [bd B]) (by rw [O, e])
  have A:(r' l)[h]? = some (some q):=A;rw[hr l M]at A;refine H.fc l (fun i x hi k=>?_) h q A;by_cases e:i=id
  ·subst e
   rw[hid]at hi;cases hi;exact M (by rw[hlab]at k; cases k; rfl)
  ·exact D i x (by show (E.H.set id o')[i]? = _; rw[aJ (Ne.symm e)]; exact hi) k
def fU (r:Nat→List (Option (Option (Nat × Nat)))) (l0:Nat):Nat→List (Option (Option (Nat × Nat))):=fun l=>if l=l0 then r l++[some none] else r l
theorem xz{r:Nat→List (Option (Option (Nat × Nat)))}{l0 l h:Nat}{q:Option (Option (Nat × Nat))}(a:(fU r l0 l)[h]? = some q):(r l)[h]? = some q∨(l=l0∧h=(r l).length∧q=some none):=by
 unfold fU at a;split at a
 ·rename_i e
  rw[d_]at a;split at a
  ·exact .inl a
  ·rename_i b
   right;cases hk:h-(r l).length with
   | zero =>
    rw[hk]at a;simp at a;exact⟨e,by omega,a.symm⟩
   |succ n=>rw[hk]at a; simp at a
 ·exact .inl a
theorem Ls{r:Nat→List (Option (Option (Nat × Nat)))}{l0 l h:Nat}(a:h<(r l).length):(fU r l0 l)[h]? = (r l)[h]? := by
 unfold fU;split
 ·exact cn a
 ·rfl
theorem ak.Lt{E:Env}{w':World}{o:ab}{l:Option (Nat × Nat)}{l0:Nat}(H:ak E)(h:Ext E.w w')(D:∀ b n,l=some (b,n)→E.w.heap.size≤b∧b<w'.heap.size)(hlab:o.label=some l0)(J:∀(i:Nat) x,E.H[i]? = some x→x.label≠some l0)
  (ho:aD { w:=w',H:=E.H++[o],loc:=E.loc++[l],X:=E.X.re (fU E.X.r l0) } E.H.length o) :
  ak { w:=w',H:=E.H++[o],loc:=E.loc++[l],X:=E.X.re (fU E.X.r l0) }∧E.le { w:=w',H:=E.H++[o],loc:=E.loc++[l],X:=E.X.re (fU E.X.r l0) }:=by
 have M:∀(i:Nat) x,(E.H++[o])[i]? = some x→E.H[i]? = some x∨(i=E.H.length∧x=o):=fun i x hi=>by
  rw[d_]at hi;split at hi
  ·exact .inl hi
  ·right
   cases hk:i-E.H.length with
   |zero=>rw[hk]at hi; simp at hi; exact⟨by omega,hi.symm⟩
   |succ n=>rw[hk]at hi; simp at hi
 have A:∀(i:Nat) x,(E.loc++[l])[i]? = some x→E.loc[i]? = some x∨(i=E.loc.length∧x=l):=fun i x hi=>by
  rw[d_]at hi;split at hi
  ·exact .inl hi
  ·right
   cases hk:i-E.loc.length with
   |zero=>rw[hk]at hi; simp at hi; exact⟨by omega,hi.symm⟩
   |succ n=>rw[hk]at hi; simp at hi
 have u:∀(x k b m:Nat),(fU E.X.r l0 x)[k]? = some (some (some (b,m)))→(E.X.r x)[k]? = some (some (some (b,m))):=fun x k b m hk=>by
  rcases xz hk with h1|⟨_,_,h1⟩
  ·exact h1
  ·cases h1
 have hle:E.le { w:=w',H:=E.H++[o],loc:=E.loc++[l],X:=E.X.re (fU E.X.r l0) }:=by
  refine⟨fun i ad N=>?_,h.size,fun b B _=>h.same b B,fun b Ye V=>?_,fun i ad N O=>?_,⟨rfl,rfl⟩,fun x k hk=>?_,h.env,fun i l x h1 d hv=>⟨⟨[],?_⟩,x,by simp only[]; rw[cn (az h1)]; exact h1,d⟩⟩
  rotate_right
  ·have e : l ≠ l0 := fun e => J i x h1 (by rw [← e]; exact ab.jh d)
   rw[cV];exact if_neg e
  ·obtain ⟨x, h1, d⟩ := N
   exact⟨x,by simp only[]; rw[cn (az h1)]; exact h1,d⟩
  ·rintro (⟨i, c, hi⟩ | ⟨x, k, m, hk⟩)
   ·rcases A i _ hi with h1 | ⟨_, h1⟩
    ·exact V (.inl ⟨i,c,h1⟩)
    ·have := D b c h1.symm
     omega
   ·exact V (.inr ⟨x,k,m,u x k b m hk⟩)
  ·obtain ⟨x, h1, d⟩ := N
   have hid:=az h1;obtain⟨y,t,R⟩:=O;simp only[]at t;rw[cn hid]at t;exact⟨⟨y,t,R⟩,by simp only[]; rw[cn (by rw[H.len]; exact hid)]⟩
  ·have Y:k<(fU E.X.r l0 x).length:=by
    unfold fU;split
    ·simp; omega
    ·exact hk
   refine⟨Y,fun q I=>?_⟩;have I:(fU E.X.r l0 x)[k]? = some (some q):=I
   rwa [Ls hk]at I
 refine⟨⟨by simp[H.len],fun i j b m n hi U=>?_,fun i b m hi=>?_,fun b B=>cM (H.X b B) h.size,fun i x hi=>?_,H.dX.bh hle.toC,fun x k x' k' b m n h1 d=>H.dD _ _ _ _ _ _ _ (u _ _ _ _ h1) (u _ _ _ _ d),fun i b m x k n hi hk=>?_,fun x k b m hk=>?_,fun i j x y v hi U h1 d=>?_,fun v W k q I=>?_⟩,hle⟩
 ·rcases A i _ hi with h1 | ⟨h1, d⟩ <;> rcases A j _ U with t | ⟨t, R⟩
  ·exact H.inj _ _ _ _ _ h1 t
  ·have:=D b n R.symm; have:=(H.lt _ _ _ h1).1; omega
  ·have:=D b m d.symm; have:=(H.lt _ _ _ t).1; omega
  ·omega
 ·rcases A i _ hi with h1 | ⟨h1, d⟩
  ·exact⟨cM (H.lt _ _ _ h1).1 h.size,(H.lt _ _ _ h1).2⟩
  ·have t := D b m d.symm
   exact⟨t.2,fun hx=>by have:=H.X b hx; omega⟩
 ·rcases M i x hi with h1 | ⟨h1, d⟩
  ·refine iN (fun a _ hr => bA hle a hr) (by simp only []; rw [cn (by rw [H.len]; exact az h1)]) (fun b n B => h.same b (H.lt i b n B).1) (fun v Yc => ?_) (H.obj i x h1)
   have Yd:v≠l0:=fun e=>J i x h1 (by rw[Yc,e]);exact⟨if_neg Yd,fun k g m hk=>h.same g (H.bR _ _ _ _ hk).1⟩
  ·subst h1 d
   exact ho
 ·rcases A i _ hi with h1 | ⟨h1, d⟩
  ·exact H.cd _ _ _ _ _ _ h1 (u _ _ _ _ hk)
  ·have:=D b m d.symm; have:=(H.bR _ _ _ _ (u _ _ _ _ hk)).1; omega
 ·have h1 := u _ _ _ _ hk
  exact⟨cM (H.bR _ _ _ _ h1).1 h.size,(H.bR _ _ _ _ h1).2⟩
 ·rcases M i x hi with g1 | ⟨g1, rfl⟩ <;> rcases M j y U with g3 | ⟨g3, rfl⟩
  ·exact H.uniq i j x y v g1 g3 h1 d
  ·rw [hlab] at d
   cases d;exact(J i x g1 h1).elim
  ·rw [hlab] at h1
   cases h1;exact(J j y g3 d).elim
  ·omega
 ·rcases xz (show (fU E.X.r l0 v)[k]? = some (some q) from I) with g1 | ⟨g1, _⟩
  ·exact H.fc v (fun i x hi O=>W i x (by simp only[]; rw[cn (az hi)]; exact hi) O) k q g1
  ·exact W E.H.length o (by simp) (by rw[hlab,g1])
theorem Env.og{E:Env}(H:ak E)(id:Nat):E.le { w:=E.w,H:=E.H.set id .dead,loc:=E.loc.set id none,X:=E.X }:=by
 rcases gr id E.H.length with h|h
 ·exact Env.im (o:=E.H[id]) (by simp[h]) H.len (aB _) (fun _ _ _=>rfl) (fun _ _ h=>by cases h) (.inl (fun v h=>by simp[ab.aw]at h))
   (fun v u h=>by simp[ab.aw]at h) (fun _ _=>rfl)
 ·rw [Cl h, Cl (by rw [H.len]; exact h)]
  exact Env.le.refl E
theorem ak.drop{E:Env}(H:ak E)(id:Nat)(hlab:∀ o,E.H[id]? = some o→o.label=none):ak { w:=E.w,H:=E.H.set id .dead,loc:=E.loc.set id none,X:=E.X }:=by
 rcases gr id E.H.length with h|h
 ·refine ak.jm (o:=E.H[id]) H (by simp [h]) (aB _) (fun _ _ _=>rfl) (fun _ _ h=>by cases h) (.inl (fun v h=>by simp [ab.aw] at h))
   (fun v u h=>by simp[ab.aw]at h) (fun _ _=>rfl) ?_ (hlab:=hlab _ (by simp[h]))
  simp only[aD];rw[bd (by rw[H.len]; exact h)]
 ·rw [Cl h, Cl (by rw [H.len]; exact h)]
  exact H
end Go.AL

namespace Go.AL
variable [Dr]
structure FK where
 off:Nat
 size:Nat
 agg:Bool
def mH:TypeDesc→Bool
 |.struct _ | .array _ _=>true
 |_=>false
def dN(P:Program)(t:TypeId):Option (Nat × Bool) :=
 match P.info? t,P.underlying t with
 |some i,some d=>some (i.size,mH d)
 |_,_=>none
def oh(P:Program)(t:TypeId)(f:Nat):Option FK :=
 match P.underlying t with
 | some (.struct b)=>match b[f]? with
  | some fd=>match dN P fd.type with
   |some (n,a)=>some ⟨fd.offset,n,a⟩
   |none=>none
  |none=>none
 |_=>none
def di(P:Program)(t:TypeId):Option (List Value) :=
 match P.info? t with
 | some i=>match i.zero with
  |some z=>if z.cells.toList.all cN then some z.cells.toList else none
  |none=>none
 |none=>none
inductive SK where
 |slice (elem size bytes:Nat)
 |array (n elem size:Nat) (agg:Bool)
 |str
 |int (k:IntKind)
 |bool
 |other
def bJ(P:Program)(t:TypeId):SK :=
 match P.underlying t with
 | some (.slice e)=>match P.info? e with
  |some i=>.slice e i.size i.bytes
  |none=>.other
 | some (.array n e)=>match dN P e with
  |some (m,a)=>.array n e m a
  |none=>.other
 |some .string=>.str
 |some (.int k)=>.int k
 |some .bool=>.bool
 |_=>.other
def AV.om:Value→AV
 |.agg cs=>if cs.toList.all cN then .agg (cs.toList.map .lit) else .lit (.agg cs)
 |.tuple cs=>.tuple (cs.toList.map .lit)
 |v=>.lit v
abbrev AV.int(n:Int):AV:=.lit (.int .i64 n)
abbrev AV.bool(b:Bool):AV:=.lit (.bool b)
abbrev AV.str(s:ByteArray):AV:=.lit (.string s)
theorem ly{E:Env}:∀(l:List Value),ae E (l.map .lit) l
 | []=>by simp[ae]
 |v::l=>by simp[ae,rel,ly l]
theorem CS(E:Env)(v:Value):rel E (AV.om v) v:=by
 unfold AV.om;split
 ·split
  ·rename_i cs h
   simp only[rel];exact⟨cs,rfl,cC.1 h,ly _⟩
  ·simp[rel]
 ·simp only [rel]
  exact⟨_,rfl,ly _⟩
 ·simp[rel]
structure St where
 fr:List AV
 H:List ab
def St.eval(s:St):Operand→AV
 |.tmp t=>s.fr.getD t .undef
 |.const v=>AV.om v
 |.global g=>.lit (.pointer (some ⟨g,0,none⟩))
 |.func f=>.clo f []
def gN(w:World)(X:XS)(l:List Deferred):Prop:=l.Nodup∧∀ d∈l,∃ D,d={ target:=.collected D,args:=#[] }∧w.heap[D]? = some (.deferred (some []))∧X D∧X.z D
theorem mI(w:World)(X:XS):gN w X []:=⟨Cm,fun _ h=>by cases h⟩
theorem tK{w w':World}{X X':XS}{l:List Deferred}(h:gN w X l)(i:∀ b,X b→X.z b→X' b∧X'.z b)(hs:∀ b,X b→X.z b→w'.heap[b]? = w.heap[b]?):gN w' X' l :=
 ⟨h.1,fun d k=>let ⟨D,e,h1,a,g⟩:=h.2 d k; ⟨D,e,by rw[hs D a g]; exact h1,i D a g⟩⟩
theorem qa{E E':Env}(HE:ak E)(h:E.le E'){l:List Deferred}(hm:gN E.w E.X l):gN E'.w E'.X l :=
 tK hm (fun b h1 d=>⟨by rw[show E'.X.x=E.X.x from h.X.1]; exact h1,by rw[show E'.X.z=E.X.z from h.X.2]; exact d⟩) fun b a _=>h.same b (HE.X b a) (HE.lx a)
structure br (s:St) (E:Env) (a:Act):Prop where
 H:E.H=s.H
 fr:ae E s.fr a.tmps.toList
 defers:gN E.w E.X a.defers
 heap:ak E
theorem br.eval{s:St}{E:Env}{a:Act}(h:br s E a)(x:Operand):rel E (s.eval x) (a.eval x):=by
 cases x with
 | tmp t =>
  simp only[St.eval,wX];obtain⟨h1,k⟩:=kB.1 h.fr;rcases gr t s.fr.length with b|i
  ·have d : t < a.tmps.toList.length := h1 ▸ b
   have l:s.fr[t]? = some s.fr[t]:=by simp[b]
   have q:a.tmps.toList[t]? = some a.tmps.toList[t]:=bC d;have:=k t _ _ l q;simpa[cD,Array.getD_eq_getD_getElem?,b,show t<a.tmps.size by simpa using d]using this
  ·have : s.fr.getD t .undef = .undef := by simp [cD, nO i]
   rw[this];simp[rel]
 |const v=>exact CS E v
 |global g=>simp[St.eval,wX,rel]
 |func f=>simp only[St.eval,wX,rel]; exact⟨#[],rfl,by simp[ae]⟩
def fL(agg:Bool)(n:Nat)(cells:List AV):Option AV :=
 if agg then (if n≤cells.length then some (.agg (cells.take n)) else none) else cells[0]?
def jn(k:SK)(x i:AV):Option AV :=
 match i with
 | .lit (.int _ n) =>
  match k,x with
  |.slice _ sz _,.list w rows=>if w=sz∧0≤n∧n<rows.length then (rows[n.toNat]?).map .cptr else none
  |.slice _ sz _,.listF ks rows=>if ks.length=sz∧0≤n∧n<rows.length then some (.cptr (ax ks (rows.getD n.toNat []))) else none
  |.slice _ sz _,.vec w id ad off m=>if w=sz∧0≤n∧n<m then some (.ptr id ad w (off+n.toNat) 0) else none
  |.array m _ sz _,.ptr id ad w row col=>if 0≤n∧n<m then some (.ptr id ad w row (col+n.toNat*sz)) else none
  |.array m _ sz _,.cptr cells=>if 0≤n∧n<m then some (.cptr ((cells.drop (n.toNat*sz)).take sz)) else none
  |_,_=>none
 |_=>none
def xA(k:FK)(x:AV):Option AV :=
 if k.size=0 then none else
 match x with
 |.cptr cells=>some (.cptr (cells.drop k.off))
 |.ptr id ad w row col=>some (.ptr id ad w row (col+k.off))
 |_=>none
def CT(k:IntKind)(a b:Int):Int:=k.wrap (s7 k.bits a &&& s7 k.bits b).toNat
def CU(k:IntKind)(a b:Int):Int:=k.wrap (s7 k.bits a ||| s7 k.bits b).toNat
def CV(k:IntKind)(a b:Int):Int:=k.wrap (s7 k.bits a ^^^ s7 k.bits b).toNat
def xB(k:IntKind)(a b:Int):Int:=k.wrap (a*2 ^ min b.toNat k.bits)
def eQ(k:IntKind)(a b:Int):Int:=a.fdiv (2 ^ min b.toNat k.bits)
def jR(op:BinOp)(k:IntKind)(a b:Int):Option Value :=
 match op with
 |.and=>some (.int k (CT k a b))
 |.or=>some (.int k (CU k a b))
 |.xor=>some (.int k (CV k a b))
 |.add=>some (.int k (k.wrap (a+b)))
 |.sub=>some (.int k (k.wrap (a-b)))
 |.mul=>some (.int k (k.wrap (a*b)))
 |.quo=>if b=0 then none else some (.int k (k.wrap (a.tdiv b)))
 |.rem=>if b=0 then none else some (.int k (a.tmod b))
 |.eql=>some (.bool (a==b))
 |.neq=>some (.bool (a != b))
 |.lss=>some (.bool (a<b))
 |.leq=>some (.bool (a≤b))
 |.gtr=>some (.bool (a>b))
 |.geq=>some (.bool (a ≥ b))
 |_=>none
def xC(op:BinOp)(x y:ByteArray):Option Value :=
 match op with
 |.add=>if ((x.size+y.size:Nat):Int)>IntKind.i64.max then none else some (.string (x++y))
 |.eql=>some (.bool (x.toList==y.toList))
 |.neq=>some (.bool !(x.toList==y.toList))
 |.lss=>some (.bool (wY x.toList y.toList))
 |.leq=>some (.bool (wY x.toList y.toList||x.toList==y.toList))
 |.gtr=>some (.bool !(wY x.toList y.toList||x.toList==y.toList))
 |.geq=>some (.bool !(wY x.toList y.toList))
 |_=>none
def fV(op:BinOp):Value→Value→Option Value
 | .int k a,.int k' b=>match op with
  |.shl=>if b<0 then none else some (.int k (xB k a b))
  |.shr=>if b<0 then none else some (.int k (eQ k a b))
  |op=>if k=k' then jR op k a b else none
 |.string a,.string b=>xC op a b
 |_,_=>none
def tL:AV→Option Nat
 |.lit (.string s)=>some s.size
 |.lit (.slice none 0 0)=>some 0
 |.nils=>some 0
 |.emptyS _=>some 0
 |.list _ rows=>some rows.length
 |.listF _ rows=>some rows.length
 |.vec _ _ _ _ n=>some n
 |_=>none
theorem Sem.aX{P:Program}{t:TypeId}{d:TypeDesc}(h:P.underlying t=some d)(w:World) :
  (underlying t).run P w=.ok d w:=by simp[underlying,h]
theorem Sem.run_sizeOf{P:Program}{t:TypeId}{i:TypeInfo}(h:P.info? t=some i)(w:World):(sizeOf t).run P w=.ok i.size w:=by
 simp[sizeOf,typeInfo,h]
theorem Sem.lz{P:Program}{t:TypeId}{d:TypeDesc}(h:P.underlying t=some d)(w:World):(isAgg t).run P w=.ok (mH d) w:=by
 simp[isAgg,Sem.aX h];cases d<;>rfl
theorem jS{P:Program}{t:TypeId}{n:Nat}{a:Bool}(h:dN P t=some (n,a)):∃ i d,P.info? t=some i∧P.underlying t=some d∧i.size=n∧mH d=a:=by
 unfold dN at h;split at h
 ·rename_i i d h1 b
  simp at h;exact⟨i,d,h1,b,h.1,h.2⟩
 ·cases h
theorem CW{P:Program}{t:TypeId}{f:Nat}{k:FK}(h:oh P t f=some k) :
  ∃ b fd,P.underlying t=some (.struct b)∧b[f]? = some fd∧fd.offset=k.off∧dN P fd.type=some (k.size,k.agg):=by
 unfold oh at h;split at h
 ·rename_i b h1
  split at h
  ·rename_i fd d
   split at h
   ·rename_i n a g
    simp at h;subst h;exact⟨b,fd,h1,d,rfl,g⟩
   ·cases h
  ·cases h
 ·cases h
theorem Lu{P:Program}(op:BinOp)(t:TypeId)(x y:Value)(v:Value)(h:fV op x y=some v)(w:World):(binOp op t x y).run P w=.ok v w:=by
 unfold fV at h;split at h
 ·rename_i k a k' b
  split at h
  ·split at h
   ·cases h
   ·rename_i d
    cases h;simp only[binOp,Op.shift,if_neg d,xB];rfl
  ·split at h
   ·cases h
   ·rename_i d
    cases h;simp only[binOp,Op.shift,if_neg d,eQ];rfl
  ·rename_i g i
   split at h
   ·rename_i hk
    subst hk;cases op<;>first|exact absurd rfl g|exact absurd rfl i|skip
    all_goals simp[jR]at h
    all_goals simp[binOp,Op.intArith,Op.intDiv,Op.intCmp,Op.intBits]
    all_goals first
     |exact h
     |(obtain⟨h1,l⟩:=h; simp[h1,l])
   ·cases h
 ·rename_i a b
  cases op<;>simp only[xC]at h<;>(try split at h)<;>simp at h<;>simp only[binOp,Op.stringOp]<;>first
   |(subst h; simp; done)
   |(rename_i q; subst h; rw[if_neg q]; rfl)
 ·cases h
theorem Lv{P:Program}(op:BinOp)(t:TypeId)(x y:Operand)(a b:Value)(h:∀ v,fV op a b≠some v→True)(d:(fV op a b).isSome=true)(w:World) :
  (eqGuard op t x y a b).run P w=.ok () w:=by
 unfold fV at d;split at d
 ·cases op<;>simp[eqGuard]<;>rfl
 ·cases op<;>simp[eqGuard]<;>rfl
 ·cases d
theorem Lw{E:Env}{x:AV}{c:Value}{n:Nat}(h:tL x=some n)(hr:rel E x c) :
  (∃ s,c=.string s∧s.size=n)∨∃ base cap,c=.slice base n cap:=by
 unfold tL at h;split at h
 ·simp only[rel]at hr; subst hr; simp at h; exact .inl ⟨_,rfl,h⟩
 ·simp only[rel]at hr; subst hr; simp at h; subst h; exact .inr ⟨_,_,rfl⟩
 ·simp only[rel]at hr; obtain⟨b,rfl⟩:=hr; simp at h; subst h; exact .inr ⟨_,_,rfl⟩
 ·simp only[rel]at hr; obtain⟨b,cap,rfl,_⟩:=hr; simp at h; subst h; exact .inr ⟨_,_,rfl⟩
 ·simp only[rel]at hr; obtain⟨_,b,cap,rfl,_⟩:=hr; simp at h; subst h; exact .inr ⟨_,_,rfl⟩
 ·simp only[rel,db]at hr; obtain⟨b,cap,rfl,_⟩:=hr; simp at h; subst h; exact .inr ⟨_,_,rfl⟩
 ·simp only[rel]at hr; obtain⟨⟨b,cap,rfl,_⟩,_⟩:=hr; simp at h; subst h; exact .inr ⟨_,_,rfl⟩
 ·cases h
end Go.AL

namespace Go.AL
open Go
variable [Dr]
theorem iO(b o n:Nat):(Addr.mk b o none).add n=⟨b,o+n,none⟩:=by
 unfold Addr.add;split
 ·rename_i h; simp[h]
 ·rfl
theorem Lx{E:Env}{as:List AV}{b o:Nat}(h:bO E as b o){i:Nat}{a:AV}(hi:as[i]? = some a) :
  ∃ v,E.w.cell? ⟨b,o+i,none⟩=some v∧cN v=true∧rel E a v:=gz.1 h i a hi
theorem oq{E:Env}{as:List AV}{b o:Nat}(h:bO E as b o)(n:Nat):bO E (as.drop n) b (o+n):=by
 rw[gz]at *;intro i a hi;rw[nP]at hi;obtain⟨v,h1,d,g⟩:=h (n+i) a hi;exact⟨v,by rw[mz]; exact h1,d,g⟩
theorem tM{E:Env}{as:List AV}{b o:Nat}(h:bO E as b o)(n:Nat):bO E (as.take n) b o:=by
 rw[gz]at *;intro i a hi;rw[ll]at hi;split at hi
 ·exact h i a hi
 ·cases hi
theorem qb:∀(as:List AV) (n:Nat),AV.aV as=true→AV.aV (as.drop n)=true
 | [],n,_=>by simp[AV.aV]
 |a::as,0,h=>by simpa using h
 | a::as,n+1,h=>by
  simp only[AV.aV,aq]at h;simpa using qb as n h.2
theorem tN:∀(as:List AV) (n:Nat),AV.aV as=true→AV.aV (as.take n)=true
 | [],n,_=>by simp[AV.aV]
 |a::as,0,_=>by simp[AV.aV]
 | a::as,n+1,h=>by
  simp only[AV.aV,aq]at h;simp only[wZ,AV.aV,aq];exact⟨h.1,tN as n h.2⟩
theorem qc{E:Env}:∀{as:List AV} {b o:Nat},bO E as b o →
  ∃ vs:List Value,ae E as vs∧(∀ x∈vs,cN x=true)∧∀ j v,vs[j]? = some v→E.w.cell? ⟨b,o+j,none⟩=some v
 | [],b,o,_=>⟨[],by simp[ae]⟩
 | a::as,b,o,h=>by
  simp only[bO]at h;obtain⟨⟨v,h1,i,k⟩,l⟩:=h;obtain⟨vs,g1,g2,g3⟩:=qc l;refine⟨v::vs,by simp only[ae]; exact⟨k,g1⟩,?_,?_⟩
  ·intro x d
   rcases bN.1 d with rfl|d
   ·exact i
   ·exact g2 x d
  ·intro j x g
   cases j with
   |zero=>simp at g; subst g; exact h1
   |succ j=>have:=g3 j x (by simpa using g); rwa [mz,sY 1 j]at this
theorem xD{P:Program}{E:Env}{cells:List AV}{b o n:Nat}{agg:Bool}{t:TypeId}{v:AV}(k:dN P t=some (n,agg))
  (a:fL agg n cells=some v) (hr:bO E cells b o):∃ c,(loadVar t ⟨b,o,none⟩).run P E.w=.ok c E.w∧rel E v c:=by
 obtain⟨i,d,hi,g,hs,h⟩:=jS k;unfold fL at a;cases agg with
 | true =>
  simp only[if_true]at a;split at a
  ·rename_i hle
   cases a;obtain⟨vs,g1,g2,g3⟩:=qc (tM hr n);have l:vs.length=n:=by rw[←fb g1]; simp[hle]
   refine⟨.agg vs.toArray,?_,?_⟩
   ·simp only [loadVar, bG, Sem.lz g, bH, h, if_true, Sem.run_sizeOf hi, hs]
    rw[←l,run_loadCells_list (w:=E.w) ⟨b,o,none⟩ vs (fun j v q=>by rw[iO]; exact g3 j v q)];rfl
   ·simp only [rel]
    exact⟨vs.toArray,rfl,by simpa using g2,by simpa using g1⟩
  ·cases a
 | false =>
  simp only[jO,if_false]at a;obtain⟨x,h1,_,r⟩:=Lx hr a;refine⟨x,?_,r⟩;simp only[loadVar,bG,Sem.lz g,bH,h,jO,if_false,run_load];rw[show (⟨b,o,none⟩:Addr)=⟨b,o+0,none⟩ from rfl,h1]
def fW(P:Program)(t:TypeId)(x:AV)(H:List ab):Option AV :=
 match dN P t with
 | some (n,agg) =>
  match x with
  |.cptr cells=>fL agg n cells
  | .ptr id ad w row col=>match H[id]? with
   |some (.box cells)=>if ad=0∧row=0 then fL agg n (cells.drop col) else none
   |some (.vec k v rows)=>if ad=v∧k=w then (match rows[row]? with|some r=>fL agg n (r.drop col)|none=>none) else none
   |_=>none
  |_=>none
 |none=>none
theorem kC{E:Env}{k:Nat}{rs:List (List AV)}{b o:Nat}(h:bU E k rs b o){i:Nat}{r:List AV}(hi:rs[i]? = some r) :
  r.length=k∧bO E r b (o+i*k):=jQ.1 h i r hi
theorem CX{P:Program}{E:Env}(HE:ak E){t:TypeId}{x v:AV}{c:Value}(a:fW P t x E.H=some v)(hr:rel E x c) :
  ∃ u,(w5 t c).run P E.w=.ok u E.w∧rel E v u:=by
 unfold fW at a;split at a
 case h_2=>cases a
 rename_i n agg q;split at a
 ·simp only [rel] at hr
  obtain⟨_,b,o,rfl,_,B⟩:=hr;obtain⟨u,g,h⟩:=xD q a B;exact⟨u,by simpa[w5,ln]using g,h⟩
 ·rename_i id ad w row col
  simp only[rel]at hr;split at a
  ·rename_i cells hid
   split at a
   ·rename_i l
    obtain⟨rfl,rfl⟩:=l;obtain⟨b,m,y,rfl⟩:=hr.2.2 ⟨_,hid,rfl⟩;obtain⟨D,m',d,_,i⟩:=HE.obj id _ hid;rw[y]at d;cases d;have:=oq i col;simp only[dL]at this;obtain⟨u,g,h⟩:=xD q a this;exact⟨u,by simpa[w5,ln]using g,h⟩
   ·cases a
  ·rename_i k I rows hid
   split at a
   ·rename_i l
    obtain⟨rfl,rfl⟩:=l;split at a
    ·rename_i r A
     obtain⟨b,m,y,rfl⟩:=hr.2.2 ⟨_,hid,rfl⟩;rcases HE.obj id _ hid with⟨d,i⟩|⟨D,m',d,_,_,_,i⟩
     ·subst i; simp at A
     ·rw [y] at d
      cases d;have:=oq (kC i A).2 col;simp only[dL]at this;obtain⟨u,g,h⟩:=xD q a this;exact⟨u,by simpa[w5,ln]using g,h⟩
    ·cases a
   ·cases a
  ·cases a
 ·cases a
theorem Ly{P:Program}{E:Env}{t:TypeId}{f:Nat}{k:FK}{x v:AV}{c:Value}(hk:oh P t f=some k)
  (a:xA k x=some v) (hr:rel E x c):∃ u,(KM t c f).run P E.w=.ok u E.w∧rel E v u:=by
 obtain⟨U,fd,h1,l,A,B⟩:=CW hk;obtain⟨i,d,hi,V,hs,W⟩:=jS B;unfold xA at a;split at a
 ·cases a
 rename_i q;have h:∀ b o w,(fieldPlace ⟨b,o,none⟩ fd).run P w=.ok ⟨b,o+k.off,none⟩ w:=by
  intro b o w;simp only[fieldPlace,bG,Sem.run_sizeOf hi,bH,hs,if_neg q,eb,iO,A]
 split at a
 ·cases a
  simp only[rel]at hr;obtain⟨D,b,o,rfl,r,y⟩:=hr;refine⟨.pointer (some ⟨b,o+k.off,none⟩),?_,?_⟩
  ·simp[KM,Sem.aX h1,l,ln,h]
  ·simp only [rel]
   exact⟨qb _ _ D,b,o+k.off,rfl,r,oq y _⟩
 ·cases a
  simp only[rel]at hr;rename_i id ad w row col;obtain⟨⟨b,o,rfl⟩,I,J⟩:=hr;refine⟨.pointer (some ⟨b,o+k.off,none⟩),?_,?_⟩
  ·simp[KM,Sem.aX h1,l,ln,h]
  ·simp only [rel]
   refine⟨⟨_,_,rfl⟩,I,fun M=>?_⟩;obtain⟨N,O,R,g⟩:=J M;simp only[W3,aK,Cn]at g;exact⟨N,O,R,by simp[g.1,g.2.1,mz]⟩
 ·cases a
theorem ft{P:Program}{t e sz a:Nat}(h:bJ P t=.slice e sz a):P.underlying t=some (.slice e)∧∃ i,P.info? e=some i∧i.size=sz∧i.bytes=a:=by
 unfold bJ at h;split at h
 ·rename_i e' h1
  split at h
  ·rename_i i b
   cases h;exact⟨h1,i,b,rfl,rfl⟩
  ·cases h
 ·split at h<;>cases h
 all_goals cases h
theorem tO{P:Program}{t n e sz:Nat}{a:Bool}(h:bJ P t=.array n e sz a):P.underlying t=some (.array n e)∧dN P e=some (sz,a):=by
 unfold bJ at h;split at h
 ·split at h<;>cases h
 ·rename_i d e' h1
  split at h
  ·rename_i m g b
   cases h;exact⟨h1,b⟩
  ·cases h
 all_goals cases h
theorem mJ{P:Program}{t:Nat}(h:bJ P t=.str):P.underlying t=some .string:=by
 unfold bJ at h;split at h
 ·split at h<;>cases h
 ·split at h<;>cases h
 ·rename_i h1; exact h1
 all_goals cases h
theorem Lz{P:Program}{E:Env}(HE:ak E){t:TypeId}{x i v:AV}{c d:Value}
  (g:jn (bJ P t) x i=some v) (h:rel E x c) (hi:rel E i d):∃ u,(s8 t c d).run P E.w=.ok u E.w∧rel E v u:=by
 unfold jn at g;split at g
 case h_2=>cases g
 rename_i k n;simp only[rel]at hi;subst hi;split at g
 ·rename_i e sz Yc w rows hk
  split at g
  ·rename_i q
   obtain⟨rfl,h0,h1⟩:=q;obtain⟨hu,ii,A,B,_⟩:=ft hk;cases y:rows[n.toNat]? with
   |none=>rw[y]at g; cases g
   | some r =>
    rw[y]at g;simp at g;subst g;simp only[rel]at h;obtain⟨M,base,cap,rfl,hle,U⟩:=h;rcases U with rfl|⟨b,o,rfl,D,hr⟩
    ·simp at y
    ·obtain ⟨g1, g2⟩ := kC hr y
     refine⟨.pointer (some ⟨b,o+n.toNat*w,none⟩),?_,?_⟩
     ·simp[s8,asIntOf,Sem.aX hu,h0,h1,Sem.run_sizeOf A,B,iO]
     ·simp only [rel]
      exact⟨M r (dK y),b,_,rfl,D,g2⟩
  ·cases g
 ·rename_i e sz Yc ks rows hk
  split at g
  ·rename_i q
   obtain⟨rfl,h0,h1⟩:=q;cases g;obtain⟨hu,ii,A,B,_⟩:=ft hk;have h:=gM.1 h;simp only[rel,eY]at h;obtain⟨M,base,cap,rfl,hle,U⟩:=h;have Yd:n.toNat<rows.length:=by omega
   have y:(rows.map (ax ks))[n.toNat]? = some (ax ks (rows.getD n.toNat [])):=by
    rw[b7,cD,bC Yd];rfl
   rcases U with hn|⟨b,o,rfl,D,hr⟩
   ·rw[hn]at y; simp at y
   ·obtain ⟨g1, g2⟩ := kC hr y
    refine⟨.pointer (some ⟨b,o+n.toNat*ks.length,none⟩),?_,?_⟩
    ·simp[s8,asIntOf,Sem.aX hu,h0,h1,Sem.run_sizeOf A,B,iO]
    ·simp only [rel]
     exact⟨eO _ _,b,_,rfl,D,g2⟩
  ·cases g
 ·rename_i e sz Yc w id ad off m hk
  split at g
  ·rename_i q
   obtain⟨rfl,h0,h1⟩:=q;cases g;obtain⟨hu,ii,A,B,_⟩:=ft hk;simp only[rel]at h;obtain⟨⟨base,cap,rfl,hle,hb⟩,N,I⟩:=h;obtain⟨b,o,rfl⟩:=hb (by omega);refine⟨.pointer (some ⟨b,o+n.toNat*w,none⟩),?_,?_⟩
   ·simp[s8,asIntOf,Sem.aX hu,h0,h1,Sem.run_sizeOf A,B,iO]
   ·simp only [rel]
    refine⟨⟨_,_,rfl⟩,N,fun V=>?_⟩;obtain⟨g1,g2⟩:=I V;obtain⟨a,ha,Ye⟩:=N;cases J:E.loc[id]? with
    | none =>
     have:=az ha;rw[←HE.len]at this;rw[bC this]at J;cases J
    | some l =>
     cases l with
     |none=>have:=(g1 J).1; omega
     | some bm =>
      obtain⟨O,m'⟩:=bm;obtain⟨q1,o',q2,W⟩:=g2 O m' J;simp only[iM,aK,Cn]at W;refine⟨O,m',rfl,?_⟩;rw[W.1.1,W.1.2.1,q2 (by omega),eF];rfl
  ·cases g
 ·rename_i m e sz a id ad w row col hk
  split at g
  ·rename_i q
   cases g;obtain⟨hu,R⟩:=tO hk;obtain⟨ii,dd,A,B,X,_⟩:=jS R;simp only[rel]at h;obtain⟨⟨b,o,rfl⟩,N,I⟩:=h;refine⟨.pointer (some ⟨b,o+n.toNat*sz,none⟩),?_,?_⟩
   ·simp[s8,asIntOf,Sem.aX hu,q.1,q.2,Sem.run_sizeOf A,X,iO,ln]
   ·simp only [rel]
    refine⟨⟨_,_,rfl⟩,N,fun V=>?_⟩;obtain⟨O,n',e1,Y⟩:=I V;simp only[W3,aK,Cn]at Y;exact⟨O,n',e1,by simp[Y.1,Y.2.1,mz]⟩
  ·cases g
 ·rename_i m e sz a cells hk
  split at g
  ·rename_i q
   cases g;obtain⟨hu,R⟩:=tO hk;obtain⟨ii,dd,A,B,X,_⟩:=jS R;simp only[rel]at h;obtain⟨M,b,o,rfl,D,I⟩:=h;refine⟨.pointer (some ⟨b,o+n.toNat*sz,none⟩),?_,?_⟩
   ·simp[s8,asIntOf,Sem.aX hu,q.1,q.2,Sem.run_sizeOf A,X,iO,ln]
   ·simp only [rel]
    exact⟨tN _ _ (qb _ _ M),b,_,rfl,D,tM (oq I _) _⟩
  ·cases g
 ·cases g
def iP:AV→Option Int
 |.lit (.int _ n)=>some n
 |_=>none
def fe(len:Nat)(lo hi:Option AV):Option (Nat × Nat) :=
 match (match lo with|none=>some 0|some x=>iP x),(match hi with|none=>some (len:Int)|some x=>iP x)with
 |some l,some h=>if 0≤l∧l≤h∧h≤len then some (l.toNat,h.toNat) else none
 |_,_=>none
theorem ot{E:Env}{x:AV}{c:Value}{n:Int}(h:iP x=some n)(hr:rel E x c):∃ k,c=.int k n:=by
 unfold iP at h;split at h
 ·cases h
  simp only[rel]at hr;exact⟨_,hr⟩
 ·cases h
def CY:List AV→Option (List G)
 | [.lit (.string s)]=>some [.s s]
 |_=>none
def ow:List (List AV)→Option (List (List G))
 | []=>some []
 | r::rs=>match CY r,ow rs with
  |some g,some gs=>some (g::gs)
  |_,_=>none
theorem xE:∀{rows:List (List AV)} {gs:List (List G)},ow rows=some gs→gs.map (ax [.str])=rows
 | [],gs,h=>by
  simp only[ow,aK]at h;subst h;rfl
 | r::rs,gs,h=>by
  simp only[ow]at h;split at h
  ·rename_i g b h1 a
   cases h;rw[dg,xE a];unfold CY at h1;split at h1
   ·cases h1; rfl
   ·cases h1
  ·cases h
def tP(w:Nat)(rows:List (List AV))(l n:Nat):AV:=match w,ow rows with
 |1,some gs=>.listF [.str] ((gs.drop l).take n)
 |_,_=>.list w ((rows.drop l).take n)
theorem LA{E:Env}{w l n:Nat}{rows:List (List AV)}{c:Value} (h:rel E (.list w ((rows.drop l).take n)) c):rel E (tP w rows l n) c:=by
 unfold tP;split
 ·rename_i gs a
  rw[gM,KN,Co,xE a];exact h
 ·exact h
def jo(P:Program)(t:TypeId)(x:AV)(lo hi mx:Option AV):Option AV :=
 match bJ P t,x with
 | .str,.lit (.string s)=>match mx,fe s.size lo hi with
  |none,some (l,h)=>some (.lit (.string (s.extract l h)))
  |_,_=>none
 | .slice _ sz _,.list w rows=>match mx with
  | none=>match fe rows.length lo hi with
   |some (l,h)=>if w=sz then some (tP w rows l (h-l)) else none
   |none=>none
  |some m=>if hi.isSome∧fe rows.length lo hi=some (0,0)∧iP m=some 0 then some .nils else none
 | .slice _ sz _,.listF ks rows=>match mx with
  | none=>match fe rows.length lo hi with
   |some (l,h)=>if ks.length=sz then some (.listF ks ((rows.drop l).take (h-l))) else none
   |none=>none
  |some m=>if hi.isSome∧fe rows.length lo hi=some (0,0)∧iP m=some 0 then some .nils else none
 | .slice _ sz _,.vec w id ad off n=>match mx with
  | none=>match fe n lo hi with
   |some (l,h)=>if w=sz then some (.vec w id ad (off+l) (h-l)) else none
   |none=>none
  |some m=>if hi.isSome∧fe n lo hi=some (0,0)∧iP m=some 0 then some .nils else none
 | .slice _ _ _,.nils=>match mx with
  |none=>if (fe 0 lo hi).isSome then some .nils else none
  |some _=>none
 | .slice _ _ _,.lit (.slice none 0 0)=>match mx with
  |none=>if (fe 0 lo hi).isSome then some (.lit (.slice none 0 0)) else none
  |some m=>if hi.isSome∧fe 0 lo hi=some (0,0)∧iP m=some 0 then some (.lit (.slice none 0 0)) else none
 |_,_=>none
theorem ox{P:Program}{E:Env}{len cap:Nat}{lo hi:Option AV}{clo q:Option Value}{l h:Nat}(isSlice:Bool)(d:fe len lo hi=some (l,h))(hle:len≤cap)
  (h1:∀ x,lo=some x→∃ c,clo=some c∧rel E x c) (t:lo=none→clo=none)
  (y:∀ x,hi=some x→∃ c,q=some c∧rel E x c) (v:hi=none→q=none) (w:World) :
  (nQ isSlice len cap clo q none).run P w=.ok (l,h,cap) w∧l≤h∧h≤len:=by
 unfold fe at d;split at d
 case h_2=>cases d
 rename_i a b i r;split at d
 case isFalse=>cases d
 rename_i g;simp only[aK,aN]at d;obtain⟨rfl,rfl⟩:=d;obtain⟨u,c1,c2⟩:=g;refine⟨?_,by omega,by omega⟩;cases hi with
 | none =>
  rw[v rfl];simp at r;subst r;cases lo with
  | none =>
   rw[t rfl];simp at i;subst i;simp[nQ]
  | some x =>
   obtain⟨c,rfl,g⟩:=h1 x rfl;obtain⟨k,rfl⟩:=ot i g;simp[nQ,w6,asIntOf,u,c1]
 | some z =>
  obtain⟨c,rfl,g⟩:=y z rfl;obtain⟨k,rfl⟩:=ot r g;have g1:b≤(cap:Int):=by omega
  have g2:0≤b:=by omega
  cases lo with
  | none =>
   rw[t rfl];simp at i;subst i;simp[nQ,w6,asIntOf,g1,g2]
  | some x =>
   obtain⟨c,rfl,g⟩:=h1 x rfl;obtain⟨k',rfl⟩:=ot i g;have g4:¬ (max b 0<a):=by omega
   simp[nQ,w6,asIntOf,g1,g2,u,g4]
theorem CZ{E:Env}{k:Nat}{rows:List (List AV)}{b o:Nat}(h:bU E k rows b o)(l n:Nat) :
  bU E k ((rows.drop l).take n) b (o+l*k):=by
 rw[jQ]at *;intro i r hi;rw[ll]at hi;split at hi
 ·rw [nP] at hi
  have:=h (l+i) r hi
  rwa [eF,←mz]at this
 ·cases hi
def lA(E:Env):Option AV→Option Value→Prop
 |none,none=>True
 |some x,some c=>rel E x c
 |_,_=>False
theorem xF{E:Env}{lo:Option AV}{clo:Option Value}(h:lA E lo clo):(∀ x,lo=some x→∃ c,clo=some c∧rel E x c)∧(lo=none→clo=none):=by
 cases lo<;>cases clo<;>simp_all[lA]
theorem C0{E:Env}{w l h cap:Nat}{rows:List (List AV)}{base:Option Addr}(a:dW rows)(hle:rows.length≤cap)(h1:l≤h)(g:h≤rows.length)
  (i:rows=[]∨∃ b o,base=some ⟨b,o,none⟩∧E.gy b∧bU E w rows b o) :
  rel E (.list w ((rows.drop l).take (h-l))) (.slice (if cap=l then base else base.map (·.add (l*w))) (h-l) (cap-l)):=by
 simp only[rel];have hlen:((rows.drop l).take (h-l)).length=h-l:=by simp; omega
 refine⟨fun r hr=>a r (s9 (s_ hr)),_,cap-l,by rw[hlen],by rw[hlen]; omega,?_⟩;rcases Nat.eq_or_lt_of_le h1 with rfl|k
 ·left; simp
 ·right
  rcases i with rfl|⟨b,o,rfl,d,hr⟩
  ·simp at g; omega
  ·refine ⟨b, o + l * w, ?_, d, CZ hr l (h - l)⟩
   rw[if_neg (by omega)];simp[iO]
theorem LB{E:Env}{w id ad off n l h:Nat}{base:Option Addr}{cap:Nat}(hr:rel E (.vec w id ad off n) (.slice base n cap))(h1:l≤h)(D:h≤n) :
  rel E (.vec w id ad (off+l) (h-l)) (.slice (if cap=l then base else base.map (·.add (l*w))) (h-l) (cap-l)):=by
 simp only[rel]at hr⊢;obtain⟨⟨i,B,e,hle,q⟩,r,t⟩:=hr;simp only[iM]at e;obtain⟨rfl,_,rfl⟩:=e;refine⟨⟨_,_,rfl,by omega,fun I=>?_⟩,r,fun u=>?_⟩
 ·obtain ⟨b, o, rfl⟩ := q (by omega)
  rw[if_neg (by omega)];exact⟨b,o+l*w,by simp[iO]⟩
 ·obtain ⟨g1, g2⟩ := t u
  refine⟨fun a=>?_,fun b m a=>?_⟩
  ·obtain ⟨rfl, rfl, i, e⟩ := g1 a
   simp only[iM]at e;refine⟨by omega,by omega,?_⟩;have v:h-l=0:=by omega
   have y:cap-l=0:=by omega
   rw[v,y];exact⟨_,rfl⟩
  ·obtain ⟨J, o, A, d⟩ := g2 b m a
   simp only[iM]at d;obtain⟨rfl,_,rfl⟩:=d;refine⟨by omega,?_⟩;by_cases g:m-off=l
   ·rw [if_pos g]
    exact⟨o,fun k=>by omega,by rw[W4]⟩
   ·rw [if_neg g]
    refine⟨o+l*w,fun k=>?_,by simp[iO,W4]⟩;rw[A (by omega),eF]
theorem tQ{P:Program}{E:Env}{len:Nat}{lo hi:Option AV}{m:AV}{clo h:Option Value}{i:Value}
  (d:fe len lo hi=some (0,0)) (hs:hi.isSome=true) (hm:iP m=some 0)
  (h1:∀ x,lo=some x→∃ c,clo=some c∧rel E x c) (l:lo=none→clo=none)
  (t:∀ x,hi=some x→∃ c,h=some c∧rel E x c) (q:rel E m i) (cap:Nat) (w:World) :
  (nQ true len cap clo h (some i)).run P w=.ok (0,0,0) w:=by
 obtain⟨k,rfl⟩:=ot hm q;obtain⟨z,rfl⟩:=nR.1 hs;obtain⟨c,rfl,g⟩:=t z rfl;unfold fe at d;split at d
 case h_2=>cases d
 rename_i a b u v;split at d
 case isFalse=>cases d
 rename_i A;simp only[aK,aN]at d;obtain⟨k',rfl⟩:=ot v g;have y:a=0:=by omega
 have r:b=0:=by omega
 subst y; subst r;cases lo with
 | none =>
  rw[l rfl];simp[nQ,w6,asIntOf]
 | some x =>
  obtain⟨c,rfl,g⟩:=h1 x rfl;obtain⟨B,rfl⟩:=ot u g;simp[nQ,w6,asIntOf]
theorem LC{P:Program}{E:Env}{t:TypeId}{x v:AV}{lo hi mx:Option AV}{c:Value}{clo O R:Option Value}
  (a:jo P t x lo hi mx=some v) (i:rel E x c) (U:lA E lo clo) (V:lA E hi O) (W:lA E mx R) :
  ∃ u,(kn t c clo O R).run P E.w=.ok u E.w∧rel E v u:=by
 obtain⟨q,k⟩:=xF U;obtain⟨r,y⟩:=xF V;obtain⟨I,A⟩:=xF W;unfold jo at a;split at a
 ·rename_i s hk
  have hu:=mJ hk;simp only[rel]at i;subst i;split at a
  ·rename_i l h b
   cases a;rw[A rfl];obtain⟨g1,g2,g3⟩:=ox (P:=P) (E:=E) (cap:=s.size) false b (aB _) q k r y E.w;refine⟨.string (s.extract l h),?_,by simp[rel]⟩;simp[kn,lp,Sem.aX hu,g1]
  ·cases a
 ·rename_i e sz D w rows hk
  obtain⟨hu,ii,i1,i2,_⟩:=ft hk;have B:=i;simp only[rel]at i;obtain⟨J,base,cap,rfl,hle,M⟩:=i;split at a
  ·split at a
   ·rename_i l h b
    split at a
    ·rename_i hw
     subst hw;cases a;rw[A rfl];obtain⟨g1,g2,g3⟩:=ox (P:=P) (E:=E) (cap:=cap) true b hle q k r y E.w;refine⟨_,?_,LA (C0 (cap:=cap) J hle g2 g3 M)⟩;simp[kn,lp,Sem.aX hu,g1,Sem.run_sizeOf i1,i2]
    ·cases a
   ·cases a
  ·rename_i m
   split at a
   ·rename_i d
    cases a;obtain⟨N,rfl,hm⟩:=I m rfl;have g:=tQ (P:=P) d.2.1 d.1 d.2.2 q k r hm cap E.w;refine⟨.slice base 0 0,?_,by simp only[rel]; exact⟨base,rfl⟩⟩;simp[kn,lp,Sem.aX hu,g,Sem.run_sizeOf i1,i2]
   ·cases a
 ·rename_i e sz D ks rows hk
  obtain⟨hu,ii,i1,i2,_⟩:=ft hk;have B:=gM.1 i;simp only[rel]at B;obtain⟨J,base,cap,rfl,hle,M⟩:=B;simp only[eY]at hle i⊢;split at a
  ·split at a
   ·rename_i l h b
    split at a
    ·rename_i hw
     subst hw;cases a;rw[A rfl];obtain⟨g1,g2,g3⟩:=ox (P:=P) (E:=E) (cap:=cap) true b hle q k r y E.w;have:=C0 (cap:=cap) J (by simpa using hle) g2 (by simpa using g3) M;have e:((rows.map (ax ks)).drop l).take (h-l)=((rows.drop l).take (h-l)).map (ax ks):=by rw[KN,Co]
     rw[e]at this;refine⟨_,?_,gM.2 this⟩;simp[kn,lp,Sem.aX hu,g1,Sem.run_sizeOf i1,i2]
    ·cases a
   ·cases a
  ·rename_i m
   split at a
   ·rename_i d
    cases a;obtain⟨N,rfl,hm⟩:=I m rfl;have g:=tQ (P:=P) d.2.1 d.1 d.2.2 q k r hm cap E.w;refine⟨.slice base 0 0,?_,by simp only[rel]; exact⟨base,rfl⟩⟩;simp[kn,lp,Sem.aX hu,g,Sem.run_sizeOf i1,i2]
   ·cases a
 ·rename_i e sz D w id ad off n hk
  obtain⟨hu,ii,i1,i2,_⟩:=ft hk;have B:=i;simp only[rel]at i;obtain⟨⟨base,cap,rfl,hle,_⟩,_,_⟩:=i;split at a
  ·split at a
   ·rename_i l h b
    split at a
    ·rename_i hw
     subst hw;cases a;rw[A rfl];obtain⟨g1,g2,g3⟩:=ox (P:=P) (E:=E) (cap:=cap) true b hle q k r y E.w;refine⟨_,?_,LB B g2 g3⟩;simp[kn,lp,Sem.aX hu,g1,Sem.run_sizeOf i1,i2]
    ·cases a
   ·cases a
  ·rename_i m
   split at a
   ·rename_i d
    cases a;obtain⟨N,rfl,hm⟩:=I m rfl;have g:=tQ (P:=P) d.2.1 d.1 d.2.2 q k r hm cap E.w;refine⟨.slice base 0 0,?_,by simp only[rel]; exact⟨base,rfl⟩⟩;simp[kn,lp,Sem.aX hu,g,Sem.run_sizeOf i1,i2]
   ·cases a
 ·rename_i e sz D hk
  obtain⟨hu,ii,i1,i2,_⟩:=ft hk;simp only[rel]at i;obtain⟨base,rfl⟩:=i;split at a
  ·split at a
   ·rename_i b
    cases a;obtain⟨⟨l,h⟩,b⟩:=nR.1 b;rw[A rfl];obtain⟨g1,g2,g3⟩:=ox (P:=P) (E:=E) (cap:=0) true b (aB _) q k r y E.w;have:h=0:=by omega
    subst this;have:l=0:=by omega
    subst this;refine⟨.slice base 0 0,?_,by simp only[rel]; exact⟨base,rfl⟩⟩;simp[kn,lp,Sem.aX hu,g1,Sem.run_sizeOf i1,i2]
   ·cases a
  ·cases a
 ·rename_i e sz D hk
  obtain⟨hu,ii,i1,i2,_⟩:=ft hk;simp only[rel]at i;subst i;split at a
  ·split at a
   ·rename_i b
    cases a;obtain⟨⟨l,h⟩,b⟩:=nR.1 b;rw[A rfl];obtain⟨g1,g2,g3⟩:=ox (P:=P) (E:=E) (cap:=0) true b (aB _) q k r y E.w;have:h=0:=by omega
    subst this;have:l=0:=by omega
    subst this;refine⟨.slice none 0 0,?_,by simp only[rel]⟩;simp[kn,lp,Sem.aX hu,g1,Sem.run_sizeOf i1,i2]
   ·cases a
  ·rename_i m
   split at a
   ·rename_i d
    cases a;obtain⟨N,rfl,hm⟩:=I m rfl;have g:=tQ (P:=P) d.2.1 d.1 d.2.2 q k r hm 0 E.w;refine⟨.slice none 0 0,?_,by simp only[rel]⟩;simp[kn,lp,Sem.aX hu,g,Sem.run_sizeOf i1,i2]
   ·cases a
 ·cases a
end Go.AL

namespace Go.AL
open Go
variable [Dr]
def kindOk:SK→Value→Bool
 |.int k,.int k' _=>k=k'
 |.str,.string _=>true
 |.bool,.bool _=>true
 |_,_=>false
def lB:Value→Value→Bool
 |.int _ a,.int _ b=>a==b
 |.string a,.string b=>a.toList==b.toList
 |.bool a,.bool b=>a==b
 |_,_=>false
def cS:List Value→List Value→Bool
 | [],[]=>true
 |a::as,b::d=>lB a b&&cS as d
 |_,_=>false
def bV:List SK→List Value→Bool
 | [],[]=>true
 |k::ks,v::vs=>kindOk k v&&bV ks vs
 |_,_=>false
def oy(P:Program)(f:TypeId→Option (List SK)):List Field→Nat→Option (List SK)
 | [],_=>some []
 | x::a,off=>if x.name = "_" ∨ x.offset≠off then none else
  match f x.type,dN P x.type with
  |some ks,some (n,_)=>if n=ks.length then (match oy P f a (off+n)with|some l=>some (ks++l)|none=>none) else none
  |_,_=>none
def flatK(P:Program):Nat→TypeId→Option (List SK)
 |0,_=>none
 | d+1,t=>match P.underlying t with
  |some (.int k)=>some [.int k]
  |some .string=>some [.str]
  |some .bool=>some [.bool]
  |some (.struct a)=>if P.stoodInHeld t then none else oy P (fun t=>flatK P d t) a.toList 0
  |_=>none
abbrev qd(P:Program)(d:Nat)(a:List Field)(off:Nat):Option (List SK):=oy P (fun t=>flatK P d t) a off
theorem C1:∀(a b c d:List Value),a.length=c.length→cS (a++b) (c++d)=(cS a c&&cS b d)
 | [],b,[],d,_=>by simp[cS]
 | x::a,b,y::c,d,h=>by
  simp only[nS,cS,C1 a b c d (by simpa using h),W5]
 | [],_,_::_,_,h=>by simp at h
 |_::_,_,[],_,h=>by simp at h
theorem oz:∀{ks:List SK} {vs:List Value},bV ks vs=true→ks.length=vs.length
 | [],[],_=>rfl
 |_::ks,_::vs,h=>by simp only[bV,aq]at h; simp[oz h.2]
 | [],_::_,h=>by simp[bV]at h
 |_::_,[],h=>by simp[bV]at h
theorem tR:∀{a b:List SK} {vs:List Value},bV (a++b) vs=true→bV a (vs.take a.length)=true∧bV b (vs.drop a.length)=true
 | [],b,vs,h=>by simpa[bV]using h
 |k::a,b,[],h=>by simp[bV]at h
 | k::a,b,v::vs,h=>by
  simp only[nS,bV,aq]at h;have:=tR h.2;simp only[dZ,wZ,bV,aq,W6];exact⟨⟨h.1,this.1⟩,this.2⟩
def isVal(P:Program)(t:TypeId)(x:Value)(vs:List Value):Prop :=
 match P.underlying t with
 |some (.struct _)=>∃ a:Array Value,x=.agg a∧a.toList=vs
 |_=>vs=[x]
theorem xG{P:Program}{t:TypeId}{n:Nat}{agg:Bool}{ks:List SK}{d:Nat}(h:dN P t=some (n,agg))(hk:flatK P d t=some ks)(b:n=ks.length)
  (cs:Array Value) (off:Nat) (g:bV ks ((cs.toList.drop off).take n)=true) (w:World) :
  ∃ x,(part t cs off).run P w=.ok x w∧isVal P t x ((cs.toList.drop off).take n):=by
 obtain⟨i,d',h1,a,l,q⟩:=jS h;cases d with
 |zero=>simp[flatK]at hk
 | succ d =>
  unfold flatK at hk;rw[a]at hk;have hlen:=oz g;cases d' with
  | struct r =>
   refine⟨.agg (cs.extract off (off+n)),?_,?_⟩
   ·simp[part,Sem.lz a,mH,Sem.run_sizeOf h1,l]
   ·simp only [isVal, a]
    refine⟨_,rfl,?_⟩;simp
  | int k =>
   simp at hk;subst hk;simp at b;subst b;have:off<cs.size:=by simp at hlen; omega
   refine⟨cs[off],?_,?_⟩
   ·simp[part,Sem.lz a,mH,this]
   ·simp[isVal,a,KO,this]
  | string =>
   simp at hk;subst hk;simp at b;subst b;have:off<cs.size:=by simp at hlen; omega
   refine⟨cs[off],?_,?_⟩
   ·simp[part,Sem.lz a,mH,this]
   ·simp[isVal,a,KO,this]
  | bool =>
   simp at hk;subst hk;simp at b;subst b;have:off<cs.size:=by simp at hlen; omega
   refine⟨cs[off],?_,?_⟩
   ·simp[part,Sem.lz a,mH,this]
   ·simp[isVal,a,KO,this]
  |_=>simp at hk
theorem LD{P:Program}{t:TypeId}{a:Array Field}(h:P.underlying t=some (.struct a)):P.underlying t=some (.struct (P.fieldsOf t)):=by
 simp[W7,h]
mutual
theorem xH{P:Program}:∀(d:Nat) (t:TypeId) (ks:List SK),flatK P d t=some ks→∀(D:Nat),d≤D→∀(x y:Value) (vs us:List Value),
  isVal P t x vs→isVal P t y us→bV ks vs=true→bV ks us=true→∀ w,(ig D t x y).run P w=.ok (cS vs us) w
 |0,_,_,hk=>by simp[flatK]at hk
 | d+1,t,ks,hk=>by
  intro D v x y vs us i l g h w;obtain⟨D,rfl⟩:∃ r,D=r+1:=⟨D-1,by omega⟩
  unfold flatK at hk;cases hu:P.underlying t with
  |none=>rw[hu]at hk; cases hk
  | some u =>
   rw[hu]at hk;cases u with
   | struct q =>
    simp only[]at hk;split at hk
    ·cases hk
    rename_i hs;simp only[isVal,hu]at i l;obtain⟨a,rfl,rfl⟩:=i;obtain⟨b,rfl,rfl⟩:=l;have hf:P.fieldsOf t=q:=by simp[W7,hu]
    rw[run_equalIn_struct w D t a b (LD hu) (by simpa using hs),hf];have:=C2 d q.toList 0 ks hk D (by omega) a b (by simpa using g) (by simpa using h) w;simpa using this
   | int k =>
    simp at hk;subst hk;simp only[isVal,hu]at i l;subst i; subst l;simp only[bV,fl]at g h;unfold kindOk at g h;split at g<;>split at h<;>simp_all[ig,cS,lB,Sem.aX hu]
   | string =>
    simp at hk;subst hk;simp only[isVal,hu]at i l;subst i; subst l;simp only[bV,fl]at g h;unfold kindOk at g h;split at g<;>split at h<;>simp_all[ig,cS,lB,Sem.aX hu,beq_toListBytes]
   | bool =>
    simp at hk;subst hk;simp only[isVal,hu]at i l;subst i; subst l;simp only[bV,fl]at g h;unfold kindOk at g h;split at g<;>split at h<;>simp_all[ig,cS,lB,Sem.aX hu]
   |_=>simp at hk
theorem C2{P:Program}:∀(d:Nat) (i:List Field) (off:Nat) (ks:List SK),qd P d i off=some ks→∀(D:Nat),d≤D→∀(xs a:Array Value),
  bV ks (xs.toList.drop off)=true→bV ks (a.toList.drop off)=true→∀ w,(KP D xs a i).run P w=.ok (cS (xs.toList.drop off) (a.toList.drop off)) w
 | d,[],off,ks,hk=>by
  intro D t xs a u v w;simp[qd,oy]at hk;subst hk;have h1:=oz u;have O:=oz v;have b:xs.toList.drop off=[]:=w7 (by rw[←h1]; rfl);have k:a.toList.drop off=[]:=w7 (by rw[←O]; rfl);rw[b,k];simp[KP,cS]
 | d,f::i,off,ks,hk=>by
  intro D t xs a u v w;unfold qd oy at hk;split at hk
  ·cases hk
  rename_i B;split at hk
  case h_2=>cases hk
  rename_i R n ag b k;split at hk
  case isFalse=>cases hk
  rename_i A;split at hk
  case h_2=>cases hk
  rename_i l U;cases hk;have J:f.name ≠ "_" := fun e=>B (.inl e);have N:f.offset=off:=by
   by_cases e:f.offset=off
   ·exact e
   ·exact(B (.inr e)).elim
  obtain⟨g,q⟩:=tR u;obtain⟨h,r⟩:=tR v;rw[←A]at g q h r;obtain⟨x,V,W⟩:=xG k b A xs off g w;obtain⟨y,X,Y⟩:=xG k b A a off h w;have he:=xH d f.type R b D t x y _ _ W Y g h w;have M:=C2 d i (off+n) l U D t xs a (by rw[mA]at q; exact q) (by rw[mA]at r; exact r) w;have I:cS (xs.toList.drop off) (a.toList.drop off) =
    (cS ((xs.toList.drop off).take n) ((a.toList.drop off).take n)&&cS (xs.toList.drop (off+n)) (a.toList.drop (off+n))):=by
   rw[←C1 _ _ _ _ (by rw[←oz g,←oz h]),←mA,←mA,pN,pN]
  simp only[KP,J,ne_eq,not_false_eq_true,if_true,bG,N,V,X,bH,he,I];cases cS ((xs.toList.drop off).take n) ((a.toList.drop off).take n)<;>simp[M]
end
def kD:List AV→Option (List Value)
 | []=>some []
 | .lit v::as=>match kD as with
  |some l=>some (v::l)
  |none=>none
 |_=>none
theorem tS{E:Env}:∀{as:List AV} {l vs:List Value},kD as=some l→ae E as vs→vs=l
 | [],l,[],h,_=>by simp[kD]at h; exact h.symm
 | [],_,_::_,_,hr=>by simp[ae]at hr
 |_::_,_,[],_,hr=>by simp[ae]at hr
 | a::as,l,v::vs,h,hr=>by
  simp only[ae]at hr;cases a<;>simp only[kD]at h<;>try cases h
  split at h
  ·rename_i u l' b
   cases h;have:=tS b hr.2;have h1:=hr.1;simp only[rel]at h1;rw[h1,this]
  ·cases h
def kE:Option TypeDesc→Bool
 |some (.struct _)=>true
 |_=>false
def iq(op:BinOp)(b:Bool):Option AV :=
 match op with
 |.eql=>some (.bool b)
 |.neq=>some (.bool !b)
 |_=>none
def kF:Nat:=6
def xI(P:Program)(op:BinOp)(t:TypeId)(d:Bool)(a b:Value):Option AV :=
 match a,b with
 | .bool a,.bool b=>match P.underlying t with
  |some .bool=>iq op (a==b)
  |_=>none
 | .slice none 0 0,.slice none 0 0=>match P.underlying t with
  |some (.slice _)=>iq op true
  |_=>none
 |.nilIface,.nilIface=>if d then (match P.underlying t with|some (.interface _)=>iq op true|_=>none) else none
 |_,_=>none
def fu(P:Program)(op:BinOp)(t:TypeId)(d:Bool)(x y:AV):Option AV :=
 match x,y with
 | .lit a,.lit b=>match fV op a b with
  |some v=>some (.lit v)
  |none=>xI P op t d a b
 | .agg as,.agg g=>match flatK P kF t,kD as,kD g with
  |some ks,some l,some m=>if P.eqGuardType P.depth t=false∧bV ks l=true∧bV ks m=true∧kE (P.underlying t)=true then iq op (cS l m) else none
  |_,_,_=>none
 | .emptyS n,.lit (.slice none 0 0)=>match P.underlying t with
  |some (.slice _)=>iq op n
  |_=>none
 | .listF _ rows,.lit (.slice none 0 0)=>match P.underlying t with
  |some (.slice _)=>if 0<rows.length then iq op false else none
  |_=>none
 | .vec _ _ _ _ m,.lit (.slice none 0 0)=>match P.underlying t with
  |some (.slice _)=>if 0<m then iq op false else none
  |_=>none
 | .ifc,.lit .nilIface | .lit .nilIface,.ifc=>match P.underlying t with
  |some (.interface _)=>iq op false
  |_=>none
 | .sub _ _ j,.lit (.map none)=>match P.underlying t with
  |some (.map _ _)=>iq op j.isNone
  |_=>none
 |_,_=>none
theorem C3{P:Program}{t:Nat}{k:IntKind}(h:bJ P t=.int k):P.underlying t=some (.int k):=by
 unfold bJ at h;split at h
 ·split at h<;>cases h
 ·split at h<;>cases h
 ·cases h
 ·rename_i h1; cases h; exact h1
 ·cases h
 ·cases h
theorem jq{P:Program}{op:BinOp}{b:Bool}{v:AV}{t:TypeId}{x y:Operand}{c d:Value}{w:World}(h:iq op b=some v)
  (a:(eqGuard op t x y c d).run P w=.ok () w) (he:(ta t c d).run P w=.ok b w)
  (g:∀ op,op=.eql∨op=.neq→(binOp op t c d)=(match op with | .eql=>(do pure (.bool (← ta t c d)))|_=>(do pure (.bool (!(← ta t c d)))))) :
  ∃ u,(do eqGuard op t x y c d; binOp op t c d:Sem Value).run P w=.ok u w∧∀ E,rel E v u:=by
 unfold iq at h;split at h
 ·cases h
  refine⟨.bool b,?_,fun E=>by simp[rel]⟩;simp only[bG,a,bH,g .eql (.inl rfl)];simp[he]
 ·cases h
  refine⟨.bool !b,?_,fun E=>by simp[rel]⟩;simp only[bG,a,bH,g .neq (.inr rfl)];simp[he]
 ·cases h
end Go.AL

namespace Go.AL
open Go
variable [Dr]
theorem jT{P:Program}{t:TypeId}{c d:Value}{b:Bool}{w:World} (h:∀ n,(ig (n+1) t c d).run P w=.ok b w) :
  (ta t c d).run P w=.ok b w:=h 9999
theorem LF{P:Program}{op:BinOp}{t:TypeId}{x y:Operand} (h:((x matches .const _)||(y matches .const _))=true) (w:World) :
  (eqGuard op t x y .nilIface .nilIface).run P w=.ok () w:=by
 cases x<;>cases y<;>first
  |(cases op<;>rfl)
  |(simp at h; done)
theorem LG{P:Program}{E:Env}{op:BinOp}{t:TypeId}{x y:Operand}{p q:Value}{v:AV}{i:Bool}
  (k:i=true→((x matches .const _)||(y matches .const _))=true) (h:xI P op t i p q=some v) :
  ∃ u,(do eqGuard op t x y p q; binOp op t p q:Sem Value).run P E.w=.ok u E.w∧rel E v u:=by
 unfold xI at h;split at h
 ·rename_i a b
  split at h
  ·rename_i hu
   obtain⟨u,h1,g⟩:=jq (P:=P) (t:=t) (x:=x) (y:=y) (c:=.bool a) (d:=.bool b) (w:=E.w) h (by cases op<;>simp[eqGuard]<;>rfl)
    (jT fun n=>by simp[ig,Sem.aX hu]) (by rintro op (rfl|rfl)<;>rfl)
   exact⟨u,h1,g E⟩
  ·cases h
 ·split at h
  ·rename_i hu
   obtain⟨u,h1,g⟩:=jq (P:=P) (t:=t) (x:=x) (y:=y) (c:=.slice none 0 0) (d:=.slice none 0 0) (w:=E.w) h (by cases op<;>simp[eqGuard]<;>rfl)
    (jT fun n=>by simp[ig,Sem.aX hu]) (by rintro op (rfl|rfl)<;>rfl)
   exact⟨u,h1,g E⟩
  ·cases h
 ·split at h
  ·rename_i l
   split at h
   ·rename_i ms hu
    obtain⟨u,h1,g⟩:=jq (P:=P) (t:=t) (x:=x) (y:=y) (c:=.nilIface) (d:=.nilIface) (w:=E.w) h
     (LF (k l) _)
     (jT fun n=>by simp[ig,Sem.aX hu]) (by rintro op (rfl|rfl)<;>rfl)
    exact⟨u,h1,g E⟩
   ·cases h
  ·cases h
 ·cases h
theorem LH{P:Program}{E:Env}{op:BinOp}{t:TypeId}{x y:Operand}{a b v:AV}{c d:Value}
  {O:Bool} (R:O=true→((x matches .const _)||(y matches .const _))=true) (h:fu P op t O a b=some v) (g:rel E a c) (k:rel E b d) :
  ∃ u,(do eqGuard op t x y c d; binOp op t c d:Sem Value).run P E.w=.ok u E.w∧rel E v u:=by
 unfold fu at h;split at h
 ·rename_i p q
  simp only[rel]at g k;rw[g,k];clear g k c d;split at h
  ·rename_i u hu
   cases h;refine⟨u,?_,by simp[rel]⟩;simp only[bG];rw[Lv op t x y p q (fun _ _=>trivial) (by simp[hu])];simp only[bH];exact Lu op t p q u hu E.w
  ·exact LG R h
 ·rename_i as Y
  split at h
  case h_2=>cases h
  rename_i ks l m h1 r U;by_cases I:P.eqGuardType P.depth t=false∧bV ks l=true∧bV ks m=true∧kE (P.underlying t)=true
  case neg=>rw[if_neg I]at h; cases h
  rw[if_pos I]at h;obtain⟨g1,g2,g3,g4⟩:=I;simp only[rel]at g k;obtain⟨xs,rfl,_,g⟩:=g;obtain⟨B,rfl,_,k⟩:=k;have ex:=tS r g;have V:=tS U k;unfold kE at g4;split at g4
  case h_2=>cases g4
  rename_i fs hu;have:=xH kF t ks h1 10000 (by decide) (.agg xs) (.agg B) l m (by simp only[isVal,hu]; exact⟨xs,rfl,ex⟩)
   (by simp only[isVal,hu]; exact⟨B,rfl,V⟩) g2 g3 E.w
  obtain⟨u,W,X⟩:=jq (P:=P) (t:=t) (x:=x) (y:=y) (c:=.agg xs) (d:=.agg B) (w:=E.w) h (run_eqGuard_agg E.w op t x y xs B g1)
   (by simpa[ta,Op.maxDepth]using this) (by rintro op (rfl|rfl)<;>rfl)
  exact⟨u,W,X E⟩
 ·simp only [rel] at g k
  subst k;obtain⟨b,cap,rfl,A⟩:=g;split at h
  ·rename_i el hu
   obtain⟨u,h1,r⟩:=jq (P:=P) (t:=t) (x:=x) (y:=y) (c:=.slice b 0 cap) (d:=.slice none 0 0) (w:=E.w) h (by cases op<;>simp[eqGuard]<;>rfl)
    (jT fun n=>by cases b<;>simp[ig,Sem.aX hu]<;>simpa using A.symm) (by rintro op (rfl|rfl)<;>rfl)
   exact⟨u,h1,r E⟩
  ·cases h
 ·rename_i ks rows
  simp only[rel,db,G.rows]at g k;subst k;obtain⟨b,cap,rfl,_,A⟩:=g;split at h
  ·rename_i el hu
   split at h
   ·rename_i D
    rcases A with rfl|⟨J,o',rfl,_⟩
    ·simp at D
    obtain⟨u,h1,r⟩:=jq (P:=P) (t:=t) (x:=x) (y:=y) (c:=.slice (some ⟨J,o',none⟩) rows.length cap) (d:=.slice none 0 0) (w:=E.w) h (by cases op<;>simp[eqGuard]<;>rfl)
     (jT fun n=>by simp[ig,Sem.aX hu]) (by rintro op (rfl|rfl)<;>rfl)
    exact⟨u,h1,r E⟩
   ·cases h
  ·cases h
 ·rename_i m
  simp only[rel]at g k;subst k;obtain⟨⟨b,cap,rfl,_,A⟩,_⟩:=g;split at h
  ·rename_i el hu
   split at h
   ·rename_i D
    obtain⟨J,o',rfl⟩:=A D;obtain⟨u,h1,r⟩:=jq (P:=P) (t:=t) (x:=x) (y:=y) (c:=.slice (some ⟨J,o',none⟩) m cap) (d:=.slice none 0 0) (w:=E.w) h (by cases op<;>simp[eqGuard]<;>rfl)
     (jT fun n=>by simp[ig,Sem.aX hu]) (by rintro op (rfl|rfl)<;>rfl)
    exact⟨u,h1,r E⟩
   ·cases h
  ·cases h
 ·simp only [rel] at g k
  subst k;obtain⟨M,N,rfl⟩:=g;split at h
  ·rename_i ms hu
   obtain⟨u,h1,r⟩:=jq (P:=P) (t:=t) (x:=x) (y:=y) (c:=.iface M N) (d:=.nilIface) (w:=E.w) h (by cases op<;>simp[eqGuard]<;>rfl)
    (jT fun n=>by simp[ig,Sem.aX hu]) (by rintro op (rfl|rfl)<;>rfl)
   exact⟨u,h1,r E⟩
  ·cases h
 ·simp only [rel] at g k
  subst g;obtain⟨M,N,rfl⟩:=k;split at h
  ·rename_i ms hu
   obtain⟨u,h1,r⟩:=jq (P:=P) (t:=t) (x:=x) (y:=y) (c:=.nilIface) (d:=.iface M N) (w:=E.w) h (by cases op<;>simp[eqGuard]<;>rfl)
    (jT fun n=>by simp[ig,Sem.aX hu]) (by rintro op (rfl|rfl)<;>rfl)
   exact⟨u,h1,r E⟩
  ·cases h
 ·rename_i id l jj
  simp only[rel]at g k;subst k;split at h
  ·rename_i kt el hu
   rcases g with⟨rfl,rfl⟩|⟨i,rfl,⟨b,rfl⟩,_⟩
   ·obtain ⟨u,h1,r⟩:=jq (P:=P) (t:=t) (x:=x) (y:=y) (c:=.map none) (d:=.map none) (w:=E.w) h (by cases op<;>simp [eqGuard]<;>rfl)
     (jT fun n=>by simp[ig,Sem.aX hu]) (by rintro op (rfl|rfl)<;>rfl)
    exact⟨u,h1,r E⟩
   ·obtain ⟨u,h1,r⟩:=jq (P:=P) (t:=t) (x:=x) (y:=y) (c:=.map (some b)) (d:=.map none) (w:=E.w) h (by cases op<;>simp [eqGuard]<;>rfl)
     (jT fun n=>by simp[ig,Sem.aX hu]) (by rintro op (rfl|rfl)<;>rfl)
    exact⟨u,h1,r E⟩
  ·cases h
 ·cases h
def oA(op:UnOp)(x:AV):Option AV :=
 match op,x with
 |.not,.lit (.bool b)=>some (.bool !b)
 |.neg,.lit (.int k n)=>some (.lit (.int k (k.wrap (0-n))))
 |_,_=>none
theorem LI{P:Program}{E:Env}{op:UnOp}{x v:AV}{c:Value}(h:oA op x=some v)(a:rel E x c) :
  ∃ u,(Op.unary op c).run P E.w=.ok u E.w∧rel E v u:=by
 unfold oA at h;split at h
 ·cases h
  simp only[rel]at a;subst a;exact⟨_,rfl,by simp[rel]⟩
 ·cases h
  simp only[rel]at a;subst a;exact⟨_,rfl,by simp[rel]⟩
 ·cases h
def oB(P:Program)(s d:TypeId)(x:AV):Option AV :=
 match P.underlying s,bJ P d,x with
 |some _,.int k,.lit (.int _ n)=>some (.lit (.int k (k.wrap n)))
 |some _,.str,.lit (.string b)=>some (.str b)
 |some _,.str,.lit (.int _ n)=>some (.str (Utf8.encode n))
 |_,_,_=>none
theorem LJ{P:Program}{E:Env}{s d:TypeId}{x v:AV}{c:Value}(h:oB P s d x=some v)(a:rel E x c) :
  ∃ u,(convert s d c).run P E.w=.ok u E.w∧rel E v u:=by
 unfold oB at h;split at h
 ·rename_i k n hs g
  cases h;simp only[rel]at a;subst a;refine⟨_,?_,by simp only[rel]; rfl⟩;simp[convert,Sem.aX hs,Sem.aX (C3 g),Conv.intToInt]
 ·rename_i b hs g
  cases h;simp only[rel]at a;subst a;refine⟨_,?_,by simp only[rel]; rfl⟩;simp only[convert,bG,Sem.aX hs,Sem.aX (mJ g),bH];rfl
 ·rename_i k n hs g
  cases h;simp only[rel]at a;subst a;refine⟨_,?_,by simp only[rel]; rfl⟩;simp only[convert,bG,Sem.aX hs,Sem.aX (mJ g),bH];rfl
 ·cases h
def lC(k:SK)(x i:AV):Option AV :=
 match i with
 | .lit (.int _ n) =>
  match k,x with
  |.str,.lit (.string s)=>if 0≤n∧n<s.size then (match s[n.toNat]? with|some b=>some (.lit (.int .u8 b.toNat))|none=>none) else none
  |.array m _ sz agg,.agg cells=>if 0≤n∧n<m then fL agg sz (cells.drop (n.toNat*sz)) else none
  |_,_=>none
 |_=>none
theorem xJ{E:Env}:∀{as:List AV} {vs:List Value} (n:Nat),ae E as vs→ae E (as.drop n) (vs.drop n)
 |_,_,0,h=>by simpa using h
 | [],[],n+1,_=>by simp[ae]
 | [],_::_,_,h=>by simp[ae]at h
 |_::_,[],_,h=>by simp[ae]at h
 |a::as,v::vs,n+1,h=>by simp only[ae]at h; simpa using xJ n h.2
theorem xK{E:Env}:∀{as:List AV} {vs:List Value} (n:Nat),ae E as vs→ae E (as.take n) (vs.take n)
 |_,_,0,_=>by simp[ae]
 | [],[],n+1,_=>by simp[ae]
 | [],_::_,_,h=>by simp[ae]at h
 |_::_,[],_,h=>by simp[ae]at h
 |a::as,v::vs,n+1,h=>by simp only[ae]at h; simp only[wZ,ae]; exact⟨h.1,xK n h.2⟩
theorem iQ{E:Env}:∀{as b:List AV} {vs us:List Value},ae E as vs→ae E b us→ae E (as++b) (vs++us)
 | [],_,[],_,_,h=>by simpa using h
 | [],_,_::_,_,h,_=>by simp[ae]at h
 |_::_,_,[],_,h,_=>by simp[ae]at h
 |a::as,b,v::vs,us,h,h'=>by simp only[ae]at h; simp only[nS,ae]; exact⟨h.1,iQ h.2 h'⟩
theorem kG{E:Env}{as:List AV}{vs:List Value}(h:ae E as vs){i:Nat}{a:AV}(hi:as[i]? = some a):∃ v,vs[i]? = some v∧rel E a v:=by
 obtain⟨h1,g⟩:=kB.1 h;have d:=az hi;have b:i<vs.length:=h1▸d;exact⟨vs[i],bC b,g i a _ hi (bC b)⟩
theorem C4{P:Program}{E:Env}{t:TypeId}{n:Nat}{agg:Bool}{cells:List AV}{cs:Array Value}{off:Nat}{v:AV}(k:dN P t=some (n,agg))
  (h:fL agg n (cells.drop off)=some v) (hr:ae E cells cs.toList) (h1:∀ x∈cs.toList,cN x=true) :
  ∃ u,(part t cs off).run P E.w=.ok u E.w∧rel E v u:=by
 obtain⟨i,d,hi,a,hs,b⟩:=jS k;unfold fL at h;cases agg with
 | true =>
  simp only[if_true]at h;split at h
  ·cases h
   refine⟨.agg (cs.extract off (off+n)),?_,?_⟩
   ·simp[part,Sem.lz a,b,Sem.run_sizeOf hi,hs]
   ·simp only [rel]
    have e:(cs.extract off (off+n)).toList=(cs.toList.drop off).take n:=by simp
    refine⟨_,rfl,?_,?_⟩
    ·rw[e]; exact fun x l=>h1 x (s9 (s_ l))
    ·rw[e]; exact xK n (xJ off hr)
  ·cases h
 | false =>
  simp only[jO,if_false]at h;rw[nP]at h;obtain⟨u,g1,g2⟩:=kG hr h;refine⟨u,?_,g2⟩;have g:cs[off]? = some u:=by simpa using g1
  simp[part,Sem.lz a,b,g]
theorem LK{P:Program}{E:Env}{t:TypeId}{x i v:AV}{c d:Value}(h:lC (bJ P t) x i=some v)(a:rel E x c)(hi:rel E i d) :
  ∃ u,(KQ t c d).run P E.w=.ok u E.w∧rel E v u:=by
 unfold lC at h;split at h
 case h_2=>cases h
 rename_i k n;simp only[rel]at hi;subst hi;split at h
 ·rename_i s hk
  have hu:=mJ hk;simp only[rel]at a;subst a;split at h
  case isFalse=>cases h
  rename_i g;split at h
  case h_2=>cases h
  rename_i b q;cases h;refine⟨.int .u8 b.toNat,?_,by simp[rel]⟩;simp[KQ,asIntOf,Sem.aX hu,g.1,q]
 ·rename_i m e sz agg cells hk
  obtain⟨hu,l⟩:=tO hk;obtain⟨ii,B,g1,g2,g3,g4⟩:=jS l;split at h
  case isFalse=>cases h
  rename_i g;simp only[rel]at a;obtain⟨cs,rfl,h1,r⟩:=a;obtain⟨u,y,A⟩:=C4 l h r h1;refine⟨u,?_,A⟩;simp[KQ,asIntOf,Sem.aX hu,g.1,g.2,Sem.run_sizeOf g1,g3,y]
 ·cases h
def xL(k:FK)(x:AV):Option AV :=
 match x with
 |.agg cells=>fL k.agg k.size (cells.drop k.off)
 |_=>none
theorem LL{P:Program}{E:Env}{t:TypeId}{f:Nat}{k:FK}{x v:AV}{c:Value}(hk:oh P t f=some k)(h:xL k x=some v)(a:rel E x c) :
  ∃ u,(W8 t c f).run P E.w=.ok u E.w∧rel E v u:=by
 obtain⟨q,fd,h1,b,d,g⟩:=CW hk;unfold xL at h;split at h
 ·simp only [rel] at a
  obtain⟨cs,rfl,g1,g2⟩:=a;obtain⟨u,i,l⟩:=C4 g h g2 g1;refine⟨u,?_,l⟩;simp[W8,Sem.aX h1,b,asAgg,d,i]
 ·cases h
end Go.AL

namespace Go.AL
open Go
variable [Dr]
def mL:AV→Option (List AV)
 |.undef | .tuple _=>none
 |.agg cs=>some cs
 |.lit v=>if cN v then some [.lit v] else none
 |x=>some [x]
theorem xM{E:Env}{x:AV}{cs:List AV}{c:Value}(h:mL x=some cs)(hr:rel E x c) :
  ae E cs c.cells.toList∧∀ y∈c.cells.toList,cN y=true:=by
 unfold mL at h;split at h
 ·cases h
 ·cases h
 ·cases h
  simp only[rel]at hr;obtain⟨a,rfl,h1,d⟩:=hr;exact⟨d,h1⟩
 ·rename_i v
  split at h
  ·rename_i h1
   cases h;have l:=hr;simp only[rel]at hr;subst hr;cases c<;>simp[cN]at h1<;>exact⟨by simp[Cp,ae,rel],by simp[Cp,cN]⟩
  ·cases h
 ·rename_i h1 d i k
  cases h;have g:cN c=true∧c.cells=#[c]:=by
   cases x<;>simp only[rel]at hr
   case sub=>rcases hr with⟨_,rfl⟩|⟨_,_,⟨b,rfl⟩,_⟩<;>exact⟨rfl,rfl⟩
   case undef=>exact(h1 rfl).elim
   case lit v=>exact(k v rfl).elim
   case nils=>obtain⟨b,rfl⟩:=hr; exact⟨rfl,rfl⟩
   case list=>obtain⟨_,b,cap,rfl,_⟩:=hr; exact⟨rfl,rfl⟩
   case listF=>simp only[db]at hr; obtain⟨b,cap,rfl,_⟩:=hr; exact⟨rfl,rfl⟩
   case agg as=>exact(i as rfl).elim
   case tuple as=>exact(d as rfl).elim
   case cptr=>obtain⟨_,b,o,rfl,_⟩:=hr; exact⟨rfl,rfl⟩
   case ptr=>obtain⟨⟨b,o,rfl⟩,_⟩:=hr; exact⟨rfl,rfl⟩
   case vec=>obtain⟨⟨b,o,rfl,_⟩,_⟩:=hr; exact⟨rfl,rfl⟩
   case map=>obtain⟨⟨b,rfl⟩,_⟩:=hr; exact⟨rfl,rfl⟩
   case clo=>obtain⟨cs,rfl,_⟩:=hr; exact⟨rfl,rfl⟩
   case ifc=>obtain⟨t,v,rfl⟩:=hr; exact⟨rfl,rfl⟩
   case emptyS=>obtain⟨b,cap,rfl,_⟩:=hr; exact⟨rfl,rfl⟩
  rw[g.2];exact⟨by simp only[ae]; exact⟨hr,trivial⟩,by simpa using g.1⟩
def mM(place:Nat→Option (Nat × Nat))(cells:List AV):List (Nat × AV)→Option (List AV)
 | []=>some cells
 | (i,v)::rest=>match place i,mL v with
  |some (off,size),some cs=>if cs.length=size∧off+cs.length≤cells.length then mM place (cells.take off++cs++cells.drop (off+cs.length)) rest else none
  |_,_=>none
theorem C5(cs:Array Value):∀(l:List Value) (off k:Nat) (cells:Array Value),off+k+l.length≤cells.size →
  (l.zipIdx k).foldl (fun cs (p : Value × Nat) => cs.setIfInBounds (off + p.2) p.1) cells =
   (cells.toList.take (off+k)++l++cells.toList.drop (off+k+l.length)).toArray
 | [],off,k,cells,_=>by simp
 | v::l,off,k,cells,h=>by
  simp only[List.zipIdx_cons,List.foldl_cons];have h':off+(k+1)+l.length≤(cells.setIfInBounds (off+k) v).size:=by simp at h⊢; omega
  rw[C5 cs l off (k+1) _ h'];congr 1;apply kp;intro i;simp only[Array.toList_setIfInBounds,d_,kq,nT,ll,nP,dy,gu,dZ,jP];simp at h;by_cases c1:i<off+k
  ·have a : i < min (off + k) cells.size := by omega
   have b:i<min (off+(k+1)) cells.size:=by omega
   have r:¬ off+k=i:=by omega
   have g:i<off+(k+1):=by omega
   have d:i<min (off+k) cells.size+(l.length+1):=by omega
   have q:i<min (off+(k+1)) cells.size+l.length:=by omega
   simp[a,b,r,g,d,q,c1]
  ·by_cases c2 : i = off + k
   ·subst c2
    have a:¬ off+k<min (off+k) cells.size:=by omega
    have b:off+k<min (off+(k+1)) cells.size:=by omega
    have g:off+k<off+(k+1):=by omega
    have d:off+k<min (off+k) cells.size+(l.length+1):=by omega
    have q:off+k<min (off+(k+1)) cells.size+l.length:=by omega
    have t:off+k-min (off+k) cells.size=0:=by omega
    have u:off+k<cells.size:=by omega
    simp[a,b,g,d,q,t,u]
   ·by_cases w : i < off + k + 1 + l.length
    ·have a : ¬ i < min (off + k) cells.size := by omega
     have b:¬ i<min (off+(k+1)) cells.size:=by omega
     have d:i<min (off+k) cells.size+(l.length+1):=by omega
     have q:i<min (off+(k+1)) cells.size+l.length:=by omega
     have t:i-min (off+k) cells.size=(i-min (off+(k+1)) cells.size)+1:=by omega
     simp[a,b,d,q,t]
    ·have a : ¬ i < min (off + k) cells.size + (l.length + 1) := by omega
     have b:¬ i<min (off+(k+1)) cells.size+l.length:=by omega
     have r:off+k+(l.length+1)+(i-(min (off+k) cells.size+(l.length+1)))=i:=by omega
     have g:off+(k+1)+l.length+(i-(min (off+(k+1)) cells.size+l.length))=i:=by omega
     have d:¬ off+k=i:=by omega
     simp[a,b,r,g,d]
theorem qe{E:Env}{place:Nat→Option (Nat × Nat)}:∀{parts:List (Nat × AV)} {cparts:List (Nat × Value)} {cells:List AV} {cs:Array Value} {out:List AV},
  mM place cells parts=some out→ae E cells cs.toList→(∀ x∈cs.toList,cN x=true) →
  parts.map (·.1)=cparts.map (·.1)→ae E (parts.map (·.2)) (cparts.map (·.2)) →
  ∃ o,W9 place cs cparts=some o∧ae E out o.toList∧∀ x∈o.toList,cN x=true
 | [],[],cells,cs,out,h,hr,h1,_,_=>by
  simp only[mM,aK]at h;subst h;exact⟨cs,rfl,hr,h1⟩
 | [],_::_,_,_,_,_,_,_,hm,_=>by simp at hm
 |_::_,[],_,_,_,_,_,_,hm,_=>by simp at hm
 | (i,v)::ps,(j,c)::u,cells,cs,out,h,hr,h1,hm,b=>by
  simp only[dg,Cq]at hm;obtain⟨rfl,hm⟩:=hm;simp only[dg,ae]at b;simp only[mM]at h;split at h
  case h_2=>cases h
  rename_i off size us l q;split at h
  case isFalse=>cases h
  rename_i r;obtain⟨g1,g2⟩:=xM q b.1;have g:=fb g1;have k:=fb hr;have w:us.length=c.cells.size:=by simpa using g
  have t:cells.length=cs.size:=by simpa using k
  have d:(c.cells.zipIdx.foldl (fun cs (x:Value × Nat)=>cs.setIfInBounds (off+x.2) x.1) cs) =
    (cs.toList.take off++c.cells.toList++cs.toList.drop (off+c.cells.toList.length)).toArray:=by
   rw[←Array.foldl_toList,Array.toList_zipIdx];have:=C5 cs c.cells.toList off 0 cs (by simp; omega);simpa using this
  simp only[W9,l];rw[if_neg (by simp; omega)];refine qe (cells:=cells.take off++us++cells.drop (off+us.length)) h ?_ ?_ hm b.2
  ·rw [d]
   simp only[];refine iQ (iQ (xK off hr) g1) ?_;rw[g];exact xJ _ hr
  ·rw [d]
   intro x a;simp only[bQ]at a;rcases a with(a|a)|a
   ·exact h1 x (s_ a)
   ·exact g2 x a
   ·exact h1 x (s9 a)
def C6(P:Program)(t:TypeId):Option (List (Nat × Nat)) :=
 match P.underlying t with
 |some (.struct a)=>a.toList.mapM fun fd=>(dN P fd.type).map fun p=>(fd.offset,p.1)
 |_=>none
theorem jU{P:Program}{t:TypeId}{z:List Value}(h:di P t=some z) :
  ∃ i v,P.info? t=some i∧i.zero=some v∧v.cells.toList=z∧∀ x∈z,cN x=true:=by
 unfold di at h;split at h
 ·rename_i i hi
  split at h
  ·rename_i v a
   split at h
   ·rename_i b
    cases h;exact⟨i,v,hi,a,rfl,cC.1 b⟩
   ·cases h
  ·cases h
 ·cases h
theorem jV{P:Program}{t:TypeId}{i:TypeInfo}{v:Value}(hi:P.info? t=some i)(a:i.zero=some v)(w:World):(zeroValue t).run P w=.ok v w:=by
 simp[zeroValue,typeInfo,hi,a]
theorem C7{P:Program}{w:World}:∀(b:List Field) (pl:List (Nat × Nat)),(b.mapM fun fd=>(dN P fd.type).map fun p=>(fd.offset,p.1))=some pl →
  (b.mapM fun(f:Field)=>(do pure (f.offset,←sizeOf f.type):Sem (Nat × Nat))).run P w=.ok pl w
 | [],pl,h=>by simp at h; subst h; simp
 | f::b,pl,h=>by
  simp only[KR,Option.bind_eq_bind,Option.pure_def,Option.bind_eq_some_iff,df]at h;obtain⟨x,⟨⟨n,a⟩,h1,rfl⟩,l,g,k⟩:=h;cases k;obtain⟨i,d,g1,g2,g3,g4⟩:=jS h1;have:=C7 (w:=w) b l g;simp only[KR,bG,Sem.run_sizeOf g1,bH,eb,g3];rw[this];rfl
def xN(P:Program)(t:TypeId)(parts:List (Nat × AV)):Option AV :=
 match di P t with
 | some z=>match C6 P t with
  |some pl=>(mM (fun i=>pl[i]?) (z.map .lit) parts).map .agg
  | none=>match bJ P t with
   |.array _ _ sz _=>(mM (fun i=>some (i*sz,sz)) (z.map .lit) parts).map .agg
   |_=>none
 |none=>none
theorem LM{P:Program}{E:Env}{t:TypeId}{parts:List (Nat × AV)}{cparts:List (Nat × Value)}{v:AV}(h:xN P t parts=some v)
  (hm:parts.map (·.1)=cparts.map (·.1)) (d:ae E (parts.map (·.2)) (cparts.map (·.2))) :
  ∃ u,(KS t cparts.toArray).run P E.w=.ok u E.w∧rel E v u:=by
 unfold xN at h;split at h
 case h_2=>cases h
 rename_i z y;obtain⟨i,g,k,z2,z3,z4⟩:=jU y;split at h
 ·rename_i pl a
  unfold C6 at a;split at a
  case h_2=>cases a
  rename_i l hu;simp only[df]at h;obtain⟨out,b,rfl⟩:=h;obtain⟨o,g1,g2,g3⟩:=qe (cs:=g.cells) b (by rw[z3]; exact ly z) (by rw[z3]; exact z4) hm d;refine⟨.agg o,?_,by simp only[rel]; exact⟨o,rfl,g3,g2⟩⟩;have q:(l.mapM fun(f:Field)=>(do pure (f.offset,←sizeOf f.type):Sem (Nat × Nat))).run P E.w=.ok pl.toArray E.w:=by
   have:=C7 (w:=E.w) l.toList pl a;rw[Array.mapM_eq_mapM_toList,Sem.run_map,this];rfl
  simp only[KS,bG,jV k z2,bH,Sem.aX hu];rw[q];simp only[bH];have e:(fun(x:Nat)=>(pl.toArray)[x]?)=fun(i:Nat)=>pl[i]? := by funext i; simp
  rw[e,g1];rfl
 ·split at h
  case h_2=>cases h
  rename_i n e sz D hk;obtain⟨hu,r⟩:=tO hk;obtain⟨I,J,A,M,B,N⟩:=jS r;simp only[df]at h;obtain⟨out,b,rfl⟩:=h;obtain⟨o,g1,g2,g3⟩:=qe (cs:=g.cells) b (by rw[z3]; exact ly z) (by rw[z3]; exact z4) hm d;refine⟨.agg o,?_,by simp only[rel]; exact⟨o,rfl,g3,g2⟩⟩;simp only[KS,bG,jV k z2,bH,Sem.aX hu,Sem.run_sizeOf A,B,g1];rfl
def chunk(sz:Nat):Nat→List AV→List (List AV)
 |0,_=>[]
 |n+1,l=>l.take sz::chunk sz n (l.drop sz)
theorem qf(sz:Nat):∀(n:Nat) (l:List AV),(chunk sz n l).length=n
 |0,_=>rfl
 |n+1,l=>by simp[chunk,qf sz n]
theorem xO(sz:Nat):∀(n:Nat) (l:List AV),AV.aV l=true→dW (chunk sz n l)
 |0,_,_=>by intro r hr; simp[chunk]at hr
 | n+1,l,h=>by
  intro r hr;simp only[chunk,bN]at hr;rcases hr with rfl|hr
  ·exact tN _ _ h
  ·exact xO sz n _ (qb _ _ h) r hr
theorem C8{E:Env}(sz:Nat):∀(n:Nat) (l:List AV) (b o:Nat),l.length=n*sz→bO E l b o→bU E sz (chunk sz n l) b o
 |0,_,_,_,_,_=>by simp[chunk,bU]
 | n+1,l,b,o,a,h=>by
  simp only[chunk,bU];have:sz≤l.length:=by rw[a,eF]; omega
  refine⟨by simp; omega,tM h sz,C8 sz n _ b (o+sz) (by simp[a,eF]) (oq h sz)⟩
theorem xP{E:Env}{as:List AV}{cs:Array Value}{b:Nat}{el:TypeId}{fr:Nat × Nat}(d:E.w.heap[b]? = some (.cells cs el fr))(hr:ae E as cs.toList)
  (h1:∀ x∈cs.toList,cN x=true):bO E as b 0:=by
 rw[gz];intro i a hi;obtain⟨v,g1,g2⟩:=kG hr hi;refine⟨v,?_,h1 v (dK g1),g2⟩;simp only[dL,pL,d];simpa using g1
end Go.AL

namespace Go.AL
open Go
variable [Dr]
theorem tT(v:Value):v.oneCell'=cN v:=by cases v<;>rfl
theorem setRow_size(w:World)(g:Nat)(cs:Array Value):(w.setRow g cs).heap.size=w.heap.size:=by simp[W_]
theorem setRow_other(w:World)(g:Nat)(cs:Array Value)(x:Nat)(h:x≠g):(w.setRow g cs).heap[x]? = w.heap[x]? := by
 simp only[W_];rw[Array.getElem?_modify];split
 ·rename_i e; exact(h e.symm).elim
 ·rfl
structure Src (P:Program) (E:Env) (sz:Nat) (rows:List (List AV)) (xt:TypeId) (x:Value) (news:List Value):Prop where
 len:∀ w,(Cr x).run P w=.ok rows.length w
 cells:∀ w,(∀ b o,b<E.w.heap.size→w.cell? ⟨b,o,none⟩=E.w.cell? ⟨b,o,none⟩)→(fT sz rows.length x).run P w=.ok news.toArray w
 rel:ae E rows.flatten news
 one:∀ v∈news,cN v=true
 wide:∀ r∈rows,r.length=sz
 closed:dW rows
 kind:∃ d,P.underlying xt=some d∧∀ k,d≠.int k
theorem Src.length{P:Program}{E:Env}{sz:Nat}{rows:List (List AV)}{xt:TypeId}{x:Value}{news:List Value}(h:Src P E sz rows xt x news):news.length=rows.length*sz:=by
 rw[←fb h.rel];have:∀(l:List (List AV)),(∀ r∈l,r.length=sz)→l.flatten.length=l.length*sz:=by
  intro l b
  induction l with
  |nil=>simp
  |cons a l d=>simp[d (fun r hr=>b r (by simp[hr])),b a (by simp),eF,sY]
 exact this rows h.wide
theorem tU{E:Env}{k:Nat}:∀{rows:List (List AV)} {b o:Nat},bU E k rows b o→bO E rows.flatten b o
 | [],_,_,_=>by simp[bO]
 | r::rows,b,o,h=>by
  simp only[bU]at h;obtain⟨h1,d,g⟩:=h;have l:=tU g;rw[gz]at *;intro i a hi;simp only[pO,d_]at hi;split at hi
  ·exact d i a hi
  ·rename_i q
   obtain⟨v,g1,g2,g3⟩:=l (i-r.length) a hi;refine⟨v,?_,g2,g3⟩;rw[←g1];congr 2;omega
theorem tV{E:Env}{k:Nat}:∀{rows:List (List AV)} {b o:Nat},(∀ r∈rows,r.length=k)→bO E rows.flatten b o→bU E k rows b o
 | [],_,_,_,_=>by simp[bU]
 | r::rows,b,o,hk,h=>by
  simp only[bU];have hr:=hk r (by simp);refine⟨hr,?_,?_⟩
  ·have := tM h r.length
   simpa using this
  ·have := oq h r.length
   simp at this;rw[hr]at this;exact tV (fun x a=>hk x (by simp[a])) this
def jr(sz:Nat)(x:AV)(H:List ab):Option (List (List AV)) :=
 match x with
 |.nils | .lit (.slice none 0 0)=>some []
 |.emptyS _=>some []
 |.list w rows=>if w=sz then some rows else none
 |.listF ks rows=>if ks.length=sz then some (rows.map (ax ks)) else none
 | .vec w id ad off n=>match H[id]? with
  |some (.vec k v rows)=>if w=sz∧k=w∧v=ad∧off+n≤rows.length then some ((rows.drop off).take n) else none
  |_=>none
 |.lit (.string s)=>if sz=1 then some (s.data.toList.map fun b=>[.lit (.int .u8 b.toNat)]) else none
 |_=>none
theorem C9{α β:Type}(f:α→β):∀(l:List α),(l.map fun b=>[f b]).flatten=l.map f
 | []=>rfl
 |a::l=>by simp[C9 f l]
theorem tW{P:Program}{E:Env}{sz:Nat}{rows:List (List AV)}{b o cap:Nat}(hr:bU E sz rows b o)(d:b<E.w.heap.size) :
  ∃ news,ae E rows.flatten news∧(∀ v∈news,cN v=true) ∧
   ∀ w,(∀ b o,b<E.w.heap.size→w.cell? ⟨b,o,none⟩=E.w.cell? ⟨b,o,none⟩)→(fT sz rows.length (.slice (some ⟨b,o,none⟩) rows.length cap)).run P w=.ok news.toArray w:=by
 obtain⟨vs,g1,g2,g3⟩:=qc (tU hr);refine⟨vs,g1,g2,fun w hw=>?_⟩;refine run_firstCells_some (P:=P) w sz rows.length ⟨b,o,none⟩ rows.length cap vs ?_ ?_
 ·rw [← fb g1]
  have:∀(l:List (List AV)) (o:Nat),bU E sz l b o→l.flatten.length=l.length*sz:=by
   intro l
   induction l with
   |nil=>intros; simp
   | cons a l g =>
    intro o h;simp only[bU]at h;simp[g _ h.2.2,h.1,eF,sY]
  exact this rows o hr
 ·intro j v i
  rw[iO,hw b _ d];exact g3 j v i
theorem LN{P:Program}{E:Env}(HE:ak E){sz:Nat}{x:AV}{c:Value}{rows:List (List AV)}{xt:TypeId}(h:jr sz x E.H=some rows)(hr:rel E x c)
  (hk:∃ d,P.underlying xt=some d∧∀ k,d≠.int k):∃ news,Src P E sz rows xt c news:=by
 unfold jr at h;split at h
 ·cases h
  simp only[rel]at hr;obtain⟨base,rfl⟩:=hr;refine⟨[],⟨fun w=>rfl,fun w _=>?_,by simp[ae],by simp,by simp,(by intro r hr; cases hr),hk⟩⟩;cases base<;>simp[fT,loadCells,loadCellsFrom]
 ·cases h
  simp only[rel]at hr;subst hr;exact⟨[],⟨fun w=>rfl,fun w _=>by simp[fT],by simp[ae],by simp,by simp,(by intro r hr; cases hr),hk⟩⟩
 ·cases h
  simp only[rel]at hr;obtain⟨base,cap,rfl,_⟩:=hr;refine⟨[],⟨fun w=>rfl,fun w _=>?_,by simp[ae],by simp,by simp,(by intro r hr; cases hr),hk⟩⟩;cases base<;>simp[fT,loadCells,loadCellsFrom]
 ·rename_i w rows'
  split at h
  case isFalse=>cases h
  rename_i hw;subst hw;cases h;simp only[rel]at hr;obtain⟨q,base,cap,rfl,hle,y⟩:=hr;rcases y with rfl|⟨b,o,rfl,t,a⟩
  ·refine ⟨[], ⟨fun w => rfl, fun w _ => ?_, by simp [ae], by simp, by simp, (by intro r hr; cases hr), hk⟩⟩
   cases base<;>simp[fT,loadCells,loadCellsFrom]
  ·obtain ⟨news, g1, g2, g3⟩ := tW (P := P) (cap := cap) a t.1
   exact⟨news,⟨fun w=>rfl,g3,g1,g2,fun r hr=>by
    obtain⟨i,hi⟩:=lq hr;exact(kC a hi).1,q,hk⟩⟩
 ·rename_i ks I
  split at h
  case isFalse=>cases h
  rename_i hw;subst hw;cases h;have hr:=gM.1 hr;generalize I.map (ax ks)=rows at hr;simp only[rel]at hr;obtain⟨q,base,cap,rfl,hle,y⟩:=hr;rcases y with rfl|⟨b,o,rfl,t,a⟩
  ·refine ⟨[], ⟨fun w => rfl, fun w _ => ?_, by simp [ae], by simp, by simp, (by intro r hr; cases hr), hk⟩⟩
   cases base<;>simp[fT,loadCells,loadCellsFrom]
  ·obtain ⟨news, g1, g2, g3⟩ := tW (P := P) (cap := cap) a t.1
   exact⟨news,⟨fun w=>rfl,g3,g1,g2,fun r hr=>by
    obtain⟨i,hi⟩:=lq hr;exact(kC a hi).1,q,hk⟩⟩
 ·rename_i w id ad off n
  split at h
  case h_2=>cases h
  rename_i k v rows' hid;split at h
  case isFalse=>cases h
  rename_i J;obtain⟨rfl,rfl,rfl,hle⟩:=J;cases h;simp only[rel]at hr;obtain⟨⟨base,cap,rfl,Y,_⟩,_,M⟩:=hr;obtain⟨N,O⟩:=M ⟨_,hid,rfl⟩;have g:((rows'.drop off).take n).length=n:=by simp; omega
  rcases HE.obj id _ hid with⟨l,A⟩|⟨b,m,l,A,e3,R,U⟩
  ·obtain ⟨rfl, rfl, X, e⟩ := N l
   subst A;refine⟨[],⟨fun w=>by rw[g]; rfl,fun w _=>?_,by simp[ae],by simp,by simp,(by intro r hr; simp at hr),hk⟩⟩;cases base<;>simp[fT,loadCells,loadCellsFrom]
  ·obtain ⟨p1, o, V, B⟩ := O b m l
   simp only[iM]at B;obtain⟨rfl,_,rfl⟩:=B;by_cases hm:off<m
   ·rw [V hm]
    have u:=CZ U off n;simp only[dL]at u;obtain⟨news,g1,g2,g3⟩:=tW (P:=P) (cap:=m-off) u (HE.lt id b m l).1;rw[g]at g3;refine⟨news,⟨fun w=>by rw[g]; rfl,by rw[g]; exact g3,g1,g2,fun r hr=>?_,fun r hr=>R r (s9 (s_ hr)),hk⟩⟩;obtain⟨i,hi⟩:=lq hr;exact(kC u hi).1
   ·have W : n = 0 := by omega
    subst W;refine⟨[],⟨fun w=>by rw[g]; rfl,fun w _=>?_,by simp[ae],by simp,by simp,(by intro r hr; simp at hr),hk⟩⟩;simp[fT,loadCells,loadCellsFrom]
 ·rename_i s
  split at h
  case isFalse=>cases h
  rename_i hs;subst hs;cases h;simp only[rel]at hr;subst hr;refine⟨s.data.toList.map fun b=>.int .u8 b.toNat,⟨fun w=>by simp[Cr],fun w _=>?_,?_,?_,?_,?_,hk⟩⟩
  ·simp only [eY, jP, fT]
   have:s.extract 0 s.data.size=s:=by
    have:=X6 (b:=s);exact this
   rw[this,←KU];rfl
  ·rw [C9]
   have:=ly (E:=E) (s.data.toList.map fun b=>.int .u8 b.toNat);rw[List.map_map]at this;exact this
  ·intro v D; simp at D; obtain⟨b,_,rfl⟩:=D; rfl
  ·intro r hr; simp at hr; obtain⟨b,_,rfl⟩:=hr; rfl
  ·intro r hr; simp at hr; obtain⟨b,_,rfl⟩:=hr; simp[AV.aV,AV.closed]
 ·cases h
def oC(P:Program)(t xt:TypeId)(s x:AV)(H:List ab):Option (AV × List ab) :=
 match bJ P t with
 | .slice e sz a =>
  match di P e,(match bJ P xt with | .slice _ _ _ | .str=>true|_=>false),jr sz x H with
  | some z,true,some new =>
   if z.length=sz∧new.length≤1048576∧a≤1048576 then
    match s with
    |.nils | .lit (.slice none 0 0)=>some (.vec sz H.length 0 0 new.length,H++[.vec sz 0 new])
    | .vec w id ad off n=>match H[id]? with
     | some (.vec k v rows) =>
      if k=w∧w=sz∧v=ad∧off=0∧n=rows.length∧rows.length+new.length≤1048576 then
       some (.vec w id (ad+1) 0 (n+new.length),H.set id (.vec k (ad+1) (rows++new)))
      else none
     |_=>none
    |_=>none
   else none
  |_,_,_=>none
 |_=>none
theorem xQ{P:Program}{w w':World}{t xt ty e:TypeId}{i:TypeInfo}{sz:Nat}{base:Option Addr}{n cap m:Nat}{x:Value}{d:TypeDesc}
  (h:P.underlying t=some (.slice e)) (l:P.underlying xt=some d) (_hd:∀ k,d≠.int k) (hi:P.info? e=some i) (hs:i.size=sz)
  (q:(Cr x).run P w=.ok m w) (g:n+m≤cap) {news:List Value} (r:(fT sz m x).run P w=.ok news.toArray w)
  (b:(match base with|some a=>storeCells (a.add (n*sz)) news|none=>(pure ():Sem Unit)).run P w=.ok () w') :
  (kr #[t,xt] ty #[.slice base n cap,x]).run P w=.ok (.slice base (n+m) cap) w':=by
 cases base with
 | none =>
  simp at b;subst b;simp[kr,run_underlying h,run_underlying l,sizeOf,typeInfo,hi,hs,q,g,r]
 | some a =>
  simp only[]at b;simp[kr,run_underlying h,run_underlying l,sizeOf,typeInfo,hi,hs,q,g,r,b]
theorem C_{P:Program}{w:World}{t xt ty e:TypeId}{i:TypeInfo}{z:Value}{sz:Nat}{base:Option Addr}{n cap m:Nat}{x:Value}{d:TypeDesc}
  (g:P.underlying t=some (.slice e)) (h:P.underlying xt=some d) (B:∀ k,d≠.int k) (hi:P.info? e=some i) (hs:i.size=sz) (l:i.zero=some z)
  (q:(Cr x).run P w=.ok m w) (a:cap<n+m) {olds news:List Value}
  (r:(fT sz n (.slice base n cap)).run P w.drew=.ok olds.toArray w.drew)
  (u:(fT sz m x).run P w.drew=.ok news.toArray w.drew)
  (b:n+m≤1048576) (v:i.bytes≤1048576) :
  ∃ C,n+m≤C∧(kr #[t,xt] ty #[.slice base n cap,x]).run P w =
   .ok (.slice (some ⟨w.heap.size,0,none⟩) (n+m) C) (w.drew.alloc (.cells (olds++news++(tb z.cells (C-(n+m))).toList).toArray e)):=by
 have h1:¬ (n+m≤cap):=by omega
 have y:¬ (9223372036854775807<((n:Int)+(m:Int))):=by omega
 have D:Cs (n+m) cap*i.bytes≤281474976710656:=growslice_fits a (by
  have:=Xa b v;omega)
 have A:¬ (281474976710656<Cs (n+m) cap*i.bytes):=by omega
 refine⟨grownCap w (n+m) cap e,?_,?_⟩
 ·simp[grownCap,Xb]
 ·simp [kr, run_underlying g, run_underlying h, sizeOf, typeInfo, zeroValue, hi, l, hs, q, h1, y, A, Xc, u, r, newRow, grownCap]
  congr 2;apply ed;simp
def b_(E:Env)(v:AV)(H':List ab)(u:Value)(w':World):Prop :=
 ∃ a r',rel { w:=w',H:=H',loc:=a,X:=E.X.re r' } v u∧ak { w:=w',H:=H',loc:=a,X:=E.X.re r' }∧E.le { w:=w',H:=H',loc:=a,X:=E.X.re r' }
theorem C'{E:Env}{as:List AV}{cs:Array Value}{vs tl:List Value}{b:Nat}{el:TypeId}{fr:Nat × Nat}(d:E.w.heap[b]? = some (.cells cs el fr))(hr:ae E as vs)
  (g:cs.toList=vs++tl) (h1:∀ x∈vs,cN x=true):bO E as b 0:=by
 rw[gz];intro i a hi;obtain⟨v,g1,g2⟩:=kG hr hi;refine⟨v,?_,h1 v (dK g1),g2⟩;simp only[dL,pL,d];have:cs.toList[i]? = some v:=by rw[g,cn (az g1)]; exact g1
 simpa using this
theorem LO{E:Env}{as:List AV}{cs:Array Value}{b:Nat}{el:TypeId}{fr:Nat × Nat}(g:E.w.heap[b]? = some (.cells cs el fr))(hr:bO E as b 0) :
  ae E as (cs.toList.take as.length)∧(∀ x∈cs.toList.take as.length,cN x=true)∧as.length≤cs.size:=by
 obtain⟨vs,g1,g2,g3⟩:=qc hr;have i:=fb g1;have d:∀(j:Nat) v,vs[j]? = some v→cs.toList[j]? = some v:=by
  intro j v a;have:=g3 j v a;simpa[pL,g]using this
 have k:vs.length≤cs.size:=by
  rcases Nat.eq_zero_or_pos vs.length with h|h
  ·omega
  ·have := d (vs.length - 1) vs[vs.length - 1] (bC (by omega))
   have:=az this;simp at this;omega
 have:cs.toList.take as.length=vs:=by
  rw[i];apply kp;intro j;rw[ll];split
  ·rename_i a
   rw[d j vs[j] (bC a),bC a]
  ·rename_i a
   rw[nO (by omega)]
 rw[this];exact⟨g1,g2,by omega⟩
theorem oD{sz:Nat}:∀{l:List (List AV)},(∀ r∈l,r.length=sz)→l.flatten.length=l.length*sz
 | [],_=>by simp
 |a::l,h=>by simp[oD (l:=l) (fun r hr=>h r (by simp[hr])),h a (by simp),eF,sY]
theorem xR{E:Env}{k:Nat}{rows:List (List AV)}{b o:Nat}(h:bU E k rows b o):∀ r∈rows,r.length=k:=by
 intro r hr;obtain⟨i,hi⟩:=lq hr;exact(kC h hi).1
theorem Da(w:World)(o:Obj):Ext w (w.drew.alloc o) :=
 ⟨by show w.heap.size ≤ (w.heap.push o).size; simp, fun b a => by
  show (w.heap.push o)[b]? = _
  simp[sZ,W2 a],⟨rfl,rfl,rfl,by first|exact fun _=>aB _|exact fun _=>dT _ _⟩⟩
theorem Db(w:World)(o:Obj):(w.drew.alloc o).heap[w.heap.size]? = some o:=by
 show (w.heap.push o)[w.heap.size]? = _
 simp
theorem xS{E E':Env}{sz m C:Nat}{rows:List (List AV)}{vals:List Value}{rest:List Value}{b:Nat}{e:TypeId}(l:∀ a c,rel E a c→rel E' a c)
  (d:E'.w.heap[b]? = some (.cells (vals++rest).toArray e (0,0))) (hr:ae E rows.flatten vals) (h1:∀ x∈vals,cN x=true)
  (hw:∀ r∈rows,r.length=sz) (hlen:rows.length=m) (t:m≤C) (g:rest.length=(C-m)*sz) :
  isRow E'.w b (C*sz)∧bU E' sz rows b 0:=by
 have h:ae E' rows.flatten vals:=by
  rw[kB]at *;exact⟨hr.1,fun i a v q k=>l a v (hr.2 i a v q k)⟩
 refine⟨⟨_,e,d,?_⟩,tV hw (C' d h (by simp; rfl) h1)⟩;have:=fb hr;rw[oD hw,hlen]at this;simp only[w8,gu,←this,g,←eF];congr 1;omega
theorem Dc{P:Program}{e:TypeId}{z:List Value}(h:di P e=some z):∃ i v,P.info? e=some i∧i.zero=some v∧v.cells.toList=z :=
 let ⟨i,v,h1,a,b,_⟩:=jU h
 ⟨i,v,h1,a,b⟩
theorem Dd{E:Env}(HE:ak E){sz C m:Nat}{new:List (List AV)}{vals rest:List Value}{e:TypeId}(hr:ae E new.flatten vals)(h1:∀ x∈vals,cN x=true)
  (hw:∀ r∈new,r.length=sz) (t:dW new) (hm:new.length=m) (k:m≤C) (q:rest.length=(C-m)*sz) :
  b_ E (.vec sz E.H.length 0 0 m) (E.H++[.vec sz 0 new]) (.slice (some ⟨E.w.heap.size,0,none⟩) m C) (E.w.drew.alloc (.cells (vals++rest).toArray e)):=by
 have h:=Da E.w (.cells (vals++rest).toArray e);have hle:=Env.il (o:=.vec sz 0 new) (l:=some (E.w.heap.size,C)) HE.len h (fun b n g=>by cases g; exact aB _);have hblk:=Db E.w (.cells (vals++rest).toArray e);have i:=xS (E':=E.push (E.w.drew.alloc (.cells (vals++rest).toArray e)) (.vec sz 0 new) (some (E.w.heap.size,C))) (fun a c hr=>bA hle a hr) hblk hr h1 hw hm k q;refine⟨E.loc++[some (E.w.heap.size,C)],E.X.r,?_,ak.push HE h (fun b n g=>?_) ?_,hle⟩
 ·simp only [rel]
  refine⟨⟨_,_,rfl,k,fun _=>⟨_,_,rfl⟩⟩,⟨.vec sz 0 new,by simp,rfl,fun v u=>by simp[ab.aw]at u; omega⟩,fun _=>⟨fun d=>?_,fun b M d=>?_⟩⟩
  ·rw[←HE.len]at d; simp at d
  ·rw [← HE.len] at d
   simp at d;obtain⟨rfl,rfl⟩:=d;exact⟨by omega,0,fun _=>by simp,by simp⟩
 ·cases g
  exact⟨aB _,by show _<(E.w.heap.push _).size; simp⟩
 ·simp only [aD]
  right;refine⟨E.w.heap.size,C,?_,i.1,by omega,t,i.2⟩;simp only[Env.push];rw[←HE.len];simp
theorem LP{E:Env}(HE:ak E){sz:Nat}(base:Option Addr) :
  b_ E (.vec sz E.H.length 0 0 0) (E.H++[.vec sz 0 []]) (.slice base 0 0) E.w:=by
 have hle:=Env.il (o:=.vec sz 0 []) (l:=none) HE.len (Ext.refl E.w) (fun b n a=>by cases a);refine⟨E.loc++[none],E.X.r,?_,ak.push HE (Ext.refl _) (fun b n a=>by cases a) ?_,hle⟩
 ·simp only [rel]
  refine⟨⟨_,_,rfl,aB _,fun h=>by omega⟩,⟨.vec sz 0 [],by simp,rfl,fun v g=>by simp[ab.aw]at g; omega⟩,fun _=>⟨fun _=>⟨trivial,trivial,base,rfl⟩,fun b M d=>?_⟩⟩;rw[←HE.len]at d;simp at d
 ·simp only [aD]
  left;refine⟨?_,trivial⟩;simp only[Env.push];rw[←HE.len];simp
theorem xT(P:Program)(a:Addr)(w:World):(storeCells a []).run P w=.ok () w:=rfl
theorem xU{P:Program}{E:Env}{sz:Nat}{rows:List (List AV)}{xt:TypeId}{x:Value}{news:List Value}(h:Src P E sz rows xt x news)(hr:rows=[]):news=[]:=by
 have:=h.length;rw[hr]at this;simp at this;exact this
theorem De{P:Program}{E:Env}(HE:ak E){t xt ty e:TypeId}{sz q:Nat}{z:List Value}{new:List (List AV)}{base:Option Addr}{k:Value}{news:List Value}
  (hk:bJ P t=.slice e sz q) (M:di P e=some z) (g:Src P E sz new xt k news) (R:new.length≤1048576) (U:q≤1048576) (D:z.length=sz) :
  ∃ u w',(kr #[t,xt] ty #[.slice base 0 0,k]).run P E.w=.ok u w'∧b_ E (.vec sz E.H.length 0 0 new.length) (E.H++[.vec sz 0 new]) u w':=by
 obtain⟨hu,i,hi,hs,V⟩:=ft hk;obtain⟨W,X,v,I,J⟩:=Dc M;rw[hi]at v;cases v;obtain⟨d,y,A⟩:=g.kind;cases h:new with
 | nil =>
  have N:=xU g h;subst N;subst h;refine⟨.slice base (0+0) 0,E.w,xQ (m:=0) hu y A hi hs (g.len E.w) (aB _) (g.cells E.w (fun _ _ _=>rfl)) ?_,LP HE base⟩;cases base with
  |none=>rfl
  |some a=>exact xT P _ _
 | cons r rs =>
  rw[←h];have O:0<new.length:=by rw[h]; simp
  have B:∀ b o,b<E.w.heap.size→E.w.drew.cell? ⟨b,o,none⟩=E.w.cell? ⟨b,o,none⟩:=fun _ _ _=>rfl;obtain⟨C,Y,l⟩:=C_ (P:=P) (w:=E.w) (ty:=ty) (base:=base) (n:=0) (cap:=0) (m:=new.length) (x:=k) (olds:=[]) hu y A hi hs I (g.len E.w) (by omega)
   (by cases base<;>simp[fT,loadCells,loadCellsFrom]) (g.cells _ B) (by omega) (by omega)
  simp only[dL,w9]at l;refine⟨_,_,l,Dd HE g.rel g.one g.wide g.closed rfl (by omega) ?_⟩;simp only[jP,size_zeroCells];rw[←D,←J];simp
theorem LQ{P:Program}{xt:TypeId}(h:(match bJ P xt with | .slice _ _ _ | .str=>true|_=>false)=true):∃ d,P.underlying xt=some d∧∀ k,d≠.int k:=by
 split at h
 ·rename_i hk
  exact⟨_,(ft hk).1,by simp⟩
 ·rename_i hk
  exact⟨_,mJ hk,by simp⟩
 ·cases h
theorem jW{α:Type}{l:List α}{i:Nat}{x:α}(h:l[i]? = some x):l.set i x=l:=by
 apply kp;intro j;rw[dy];split
 ·rename_i e
  subst e;rw[h];split
  ·rfl
  ·rename_i a; exact(a (az h)).elim
 ·rfl
theorem LR{P:Program}{E:Env}(HE:ak E){t xt ty e id ad:TypeId}{sz Yu:Nat}{z:List Value}{rows new:List (List AV)}{c cx:Value}{news:List Value}
  (hk:bJ P t=.slice e sz Yu) (hz:di P e=some z) (g:Src P E sz new xt cx news) (YP:rows.length+new.length≤1048576) (YQ:Yu≤1048576) (YG:z.length=sz)
  (hid:E.H[id]? = some (.vec sz ad rows)) (hr:rel E (.vec sz id ad 0 rows.length) c) :
  ∃ u w',(kr #[t,xt] ty #[c,cx]).run P E.w=.ok u w' ∧
   b_ E (.vec sz id (ad+1) 0 (rows.length+new.length)) (E.H.set id (.vec sz (ad+1) (rows++new))) u w':=by
 obtain⟨hu,i,hi,hs,YR⟩:=ft hk;obtain⟨i',zv,Yv,YH,YI⟩:=Dc hz;rw[hi]at Yv;cases Yv;obtain⟨d,Yg,Yh⟩:=g.kind;simp only[rel]at hr;obtain⟨⟨base,cap,rfl,YE,YK⟩,YL,YB⟩:=hr;obtain⟨q1,q2⟩:=YB ⟨_,hid,rfl⟩;have V:=az hid;have D:(∀ v,(ab.vec sz (ad+1) (rows++new)).aw = some v→∀ u,(ab.vec sz ad rows).aw = some u→u<v):=by
  intro v B u hu; simp[ab.aw]at B hu; omega
 have J:∀ v u,(ab.vec sz (ad+1) (rows++new)).aw = some v→(ab.vec sz ad rows).aw = some u→u≤v:=by
  intro v u B hu; simp[ab.aw]at B hu; omega
 have I:(ab.vec sz ad rows).aw = none→(ab.vec sz (ad+1) (rows++new)).aw = none:=by simp[ab.aw]
 have Y:∀(w':World) Yr,Env.past { w:=w',H:=E.H.set id (.vec sz (ad+1) (rows++new)),loc:=Yr,X:=E.X } id (ad+1):=fun w' Yr =>
  ⟨_,bd V,rfl,fun v B=>by simp[ab.aw]at B; omega⟩
 have Yk:∀ b o,b<E.w.heap.size→E.w.drew.cell? ⟨b,o,none⟩=E.w.cell? ⟨b,o,none⟩:=fun _ _ _=>rfl;by_cases A:rows.length+new.length≤cap
 ·-- in place
  rcases HE.obj id _ hid with⟨q,N⟩|⟨b,M,q,N,e3,e4,O⟩
  ·obtain ⟨Yw, _, YM, ee⟩ := q1 q
   simp only[iM]at ee;obtain⟨rfl,_,rfl⟩:=ee;have Ys:new=[]:=by
    cases new with
    |nil=>rfl
    |cons a l=>simp at A
   have YC:=xU g Ys;subst YC;subst Ys;subst N;refine⟨_,E.w,xQ (m:=0) hu Yg Yh hi hs (g.len E.w) (aB _) (g.cells E.w (fun _ _ _=>rfl)) ?_,E.loc.set id none,E.X.r,?_,?_,?_⟩
   ·cases base with
    |none=>rfl
    |some a=>exact xT P _ _
   ·simp only [rel]
    refine⟨⟨_,_,rfl,aB _,fun h=>by simp at h⟩,Y _ _,fun _=>⟨fun _=>⟨by simp,trivial,base,by simp⟩,fun b M k=>?_⟩⟩;rw[bd (by rw[HE.len]; exact V)]at k;cases k
   ·refine ak.jm HE hid (aB _) (fun _ _ _ => rfl) (fun _ _ h => by cases h) (.inr D) J (fun _ => I) ?_
    simp only[aD];left;exact⟨by rw[bd (by rw[HE.len]; exact V)],by simp⟩
   ·exact Env.im hid HE.len (aB _) (fun _ _ _=>rfl) (fun _ _ h=>by cases h) (.inr D) J (fun _=>I)
  ·obtain ⟨_, o, W, R⟩ := q2 b M q
   simp only[iM,fm]at R;obtain⟨rfl,_,rfl⟩:=R;obtain⟨cur,el,hblk,Ym⟩:=N;have Yn:=LO hblk (tU O);have Yo:=xR O;have Yp:=oD Yo;have Yx:=g.length;have YA:∃ w',(storeCells ((Addr.mk b o none).add (rows.length*sz)) news).run P E.w=.ok () w'∧w'.heap.size=E.w.heap.size∧c7 E.w w'∧(∀ x,x≠b→w'.heap[x]? = E.w.heap[x]?) ∧
     w'.heap[b]? = some (.cells (cur.toList.take (rows.length*sz)++news++cur.toList.drop (rows.length*sz+news.length)).toArray el (0,0)):=by
    by_cases hM:0<cap
    ·rw [W hM, iO, nU, dL]
     have Yq:rows.length*sz+0+news.length≤cur.size:=by
      rw[Yx,Ym,mB,←eF];exact pQ _ A
     have Yi:=run_storeCells_at P b (rows.length*sz) el news 0 cur E.w hblk Yq (fun v B=>by rw[tT]; exact g.one v B);refine⟨_,Yi,setRow_size _ _ _,⟨rfl,rfl,rfl,by first|exact fun _=>aB _|exact fun _=>dT _ _⟩,fun x y=>setRow_other _ _ _ _ y,?_⟩;rw[setRow_heap _ _ _ _ _ _ hblk];simp
    ·have h0 : cap = 0 := by omega
     have Yw:new=[]:=by
      cases new with
      |nil=>rfl
      |cons a l=>simp at A; omega
     have:=xU g Yw;subst this;refine⟨E.w,xT P _ _,rfl,⟨rfl,rfl,rfl,by first|exact fun _=>aB _|exact fun _=>dT _ _⟩,fun _ _=>rfl,?_⟩;rw[hblk];simp
   obtain⟨w',Yi,YS,YO,Yl,Yy⟩:=YA;have Yd:E.loc.set id (some (b,cap))=E.loc:=jW q;have hle:E.le { w:=w',H:=E.H.set id (.vec sz (ad+1) (rows++new)),loc:=E.loc.set id (some (b,cap)),X:=E.X } :=
    Env.im hid HE.len (by omega) (fun x y Yj=>Yl x (fun ex=>Yj cap (by rw[ex]; exact q))) (fun b' n' h=>by cases h; exact .inr ⟨cap,q⟩) (.inr D) J (fun _=>I)
   refine⟨_,w',xQ (m:=new.length) hu Yg Yh hi hs (g.len E.w) A (g.cells E.w (fun _ _ _=>rfl)) Yi,E.loc.set id (some (b,cap)),E.X.r,?_,?_,hle⟩
   ·simp only [rel]
    refine⟨⟨_,_,rfl,A,fun _=>⟨b,o,rfl⟩⟩,Y _ _,fun _=>⟨fun k=>?_,fun b' M k=>?_⟩⟩
    ·rw[Yd,q]at k; cases k
    ·rw [Yd, q] at k
     simp only[aK,aN]at k;obtain⟨rfl,rfl⟩:=k;exact⟨by omega,o,fun h=>by simpa using W (by simpa using h),by simp⟩
   ·refine ak.jm HE hid (by omega) (fun x y Yj => Yl x (fun ex => Yj cap (by rw [ex]; exact q))) (fun b' n' h => by cases h; exact .inr ⟨cap, q⟩) (.inr D) J (fun _ => I) ?_
    simp only[aD];right;refine⟨b,cap,by rw[Yd]; exact q,?_,by simpa using A,?_,?_⟩
    ·refine ⟨_, el, Yy, ?_⟩
     have Yq:rows.length*sz+news.length≤cap*sz:=by rw[Yx,←eF]; exact pQ _ A
     simp only[w8,gu,kq,mC,jP,Ym];omega
    ·intro r hr
     rcases bQ.1 hr with h|h
     ·exact e4 r h
     ·exact g.closed r h
    ·have Ye:∀ r∈rows++new,r.length=sz:=by
      intro r hr;rcases bQ.1 hr with h|h
      ·exact Yo r h
      ·exact g.wide r h
     refine tV Ye (C' Yy (vs:=cur.toList.take (rows.length*sz)++news) (tl:=cur.toList.drop (rows.length*sz+news.length)) ?_ (by simp) ?_)
     ·rw [tc]
      refine iQ ?_ (cR hle _ g.rel);have:=cR hle _ Yn.1;rw[Yp]at this;exact this
     ·intro x y
      rcases bQ.1 y with h|h
      ·exact Yn.2.1 x (by rw[Yp]; exact h)
      ·exact g.one x h
 ·-- it YN
  have holds:∃ olds:List Value,ae E rows.flatten olds∧(∀ x∈olds,cN x=true)∧(∀ r∈rows,r.length=sz)∧dW rows ∧
    (fT sz rows.length (.slice base rows.length cap)).run P E.w.drew=.ok olds.toArray E.w.drew:=by
   rcases HE.obj id _ hid with⟨q,N⟩|⟨b,M,q,N,e3,e4,O⟩
   ·subst N
    refine⟨[],by simp[ae],by simp,by simp,(fun r hr=>by cases hr),?_⟩;cases base<;>simp[fT,loadCells,loadCellsFrom]
   ·obtain ⟨_, o, W, R⟩ := q2 b M q
    simp only[iM,fm]at R;obtain⟨rfl,_,rfl⟩:=R;by_cases hM:0<cap
    ·have ho := W hM
     rw[nU]at ho;subst ho;obtain⟨vs,g1,g2,g3⟩:=tW (P:=P) (cap:=cap) O (HE.lt id b cap q).1;exact⟨vs,g1,g2,xR O,e4,g3 _ Yk⟩
    ·have:rows=[]:=by
      cases rows with
      |nil=>rfl
      |cons a l=>simp at YE; omega
     subst this;exact⟨[],by simp[ae],by simp,by simp,fun r hr=>by(cases hr),by simp[fT,loadCells,loadCellsFrom]⟩
  obtain⟨olds,g1,g2,g3,g4,g5⟩:=holds;obtain⟨C,hC,Yf⟩:=C_ (P:=P) (w:=E.w) (ty:=ty) (base:=base) (n:=rows.length) (cap:=cap) (m:=new.length) (x:=cx) (olds:=olds) hu Yg Yh hi hs YH (g.len E.w) (by omega)
   g5 (g.cells _ Yk) (by omega) (by omega)
  generalize YD:(tb zv.cells (C-(rows.length+new.length))).toList=rest at Yf;have YJ:rest.length=(C-(rows.length+new.length))*sz:=by
   rw[←YD];simp only[jP,size_zeroCells];rw[←YG,←YI];simp
  generalize Yz:E.w.drew.alloc (.cells (olds++news++rest).toArray e)=w' at Yf;have U:Ext E.w w':=by rw[←Yz]; exact Da _ _
  have hblk:w'.heap[E.w.heap.size]? = some (.cells (olds++news++rest).toArray e (0,0)):=by rw[←Yz]; exact Db _ _
  have YF:E.w.heap.size<w'.heap.size:=(Array.getElem?_eq_some_iff.1 hblk).1;have hle:E.le { w:=w',H:=E.H.set id (.vec sz (ad+1) (rows++new)),loc:=E.loc.set id (some (E.w.heap.size,C)),X:=E.X } :=
   Env.im hid HE.len U.size (fun x y _=>U.same x y) (fun b n h=>by cases h; exact .inl (aB _)) (.inr D) J (fun _=>I)
  have Ye:∀ r∈rows++new,r.length=sz:=by
   intro r hr;rcases bQ.1 hr with h|h
   ·exact g3 r h
   ·exact g.wide r h
  have Yc:(E.loc.set id (some (E.w.heap.size,C)))[id]? = some (some (E.w.heap.size,C)):=bd (by rw[HE.len]; exact V);have Yt:=xS (E:=E) (E':={ w:=w',H:=E.H.set id (.vec sz (ad+1) (rows++new)),loc:=E.loc.set id (some (E.w.heap.size,C)),X:=E.X })
   (rows:=rows++new) (vals:=olds++news) (m:=rows.length+new.length) (fun a c hr=>bA hle a hr) hblk
   (by rw[tc]; exact iQ g1 g.rel)
   (by intro x y; rcases bQ.1 y with h|h; exact g2 x h; exact g.one x h) Ye (by simp) hC YJ
  refine⟨_,w',Yf,E.loc.set id (some (E.w.heap.size,C)),E.X.r,?_,?_,hle⟩
  ·simp only [rel]
   refine⟨⟨_,_,rfl,hC,fun _=>⟨_,_,rfl⟩⟩,Y _ _,fun _=>⟨fun k=>?_,fun b' M k=>?_⟩⟩
   ·rw[Yc]at k; cases k
   ·rw [Yc] at k
    simp only[aK,aN]at k;obtain⟨rfl,rfl⟩:=k;exact⟨by omega,0,fun _=>by simp,by simp⟩
  ·refine ak.jm HE hid U.size (fun x y _ => U.same x y) (fun b n h => by cases h; exact .inl ⟨aB _, YF⟩) (.inr D) J (fun _ => I) ?_
   simp only[aD];right;refine⟨E.w.heap.size,C,Yc,Yt.1,by simpa using hC,?_,Yt.2⟩;intro r hr;rcases bQ.1 hr with h|h
   ·exact g4 r h
   ·exact g.closed r h
theorem LS{P:Program}{E:Env}(HE:ak E){t xt ty:TypeId}{s x v:AV}{H':List ab}{c g:Value}(h:oC P t xt s x E.H=some (v,H'))
  (hs:rel E s c) (y:rel E x g):∃ u w',(kr #[t,xt] ty #[c,g]).run P E.w=.ok u w'∧b_ E v H' u w':=by
 unfold oC at h;split at h
 case h_2=>cases h
 rename_i e sz D hk;split at h
 case h_2=>cases h
 rename_i z new b q l;split at h
 case isFalse=>cases h
 rename_i A;obtain⟨h1,i,d⟩:=A;obtain⟨news,a⟩:=LN (P:=P) HE l y (LQ q);split at h
 ·cases h
  simp only[rel]at hs;obtain⟨base,rfl⟩:=hs;exact De HE hk b a i d h1
 ·cases h
  simp only[rel]at hs;subst hs;exact De HE hk b a i d h1
 ·split at h
  case h_2=>cases h
  rename_i k v rows hid;split at h
  case isFalse=>cases h
  rename_i r;obtain⟨rfl,rfl,rfl,rfl,rfl,B⟩:=r;cases h;exact LR HE hk b a B d h1 hid hs
 ·cases h
end Go.AL

namespace Go.AL
open Go
variable [Dr]
theorem Df{w w':World}{b off:Nat}{cur:Array Value}{vals:List Value}{el:TypeId}{fr:Nat × Nat}(hblk:w.heap[b]? = some (.cells cur el fr))
  (d:w'.heap[b]? = some (.cells (cur.toList.take off++vals++cur.toList.drop (off+vals.length)).toArray el fr)) (h:off+vals.length≤cur.size) (i:Nat) :
  w'.cell? ⟨b,i,none⟩=if off≤i∧i<off+vals.length then vals[i-off]? else w.cell? ⟨b,i,none⟩:=by
 simp only[pL,hblk,d,Option.isSome_none,jO,if_false,List.getElem?_toArray,d_,gu,kq,jP,
  ll,nP]
 have h1:min off cur.size=off:=by omega
 rw[h1];by_cases c1:i<off
 ·have c2 : ¬ (off ≤ i ∧ i < off + vals.length) := by omega
  have a:i<off+vals.length:=by omega
  rw[if_neg c2];simp[c1,a]
 ·by_cases c2 : i < off + vals.length
  ·have a : off ≤ i ∧ i < off + vals.length := by omega
   simp[c1,c2,a]
  ·have a : ¬ (off ≤ i ∧ i < off + vals.length) := by omega
   have g:off+vals.length+(i-(off+vals.length))=i:=by omega
   rw[if_neg c2,if_neg a,g];simp
theorem xV{E E':Env}{b o col:Nat}{cur:Array Value}{as cs:List AV}{vals:List Value}{el:TypeId}{fr:Nat × Nat}(d:∀ a c,rel E a c→rel E' a c)
  (hblk:E.w.heap[b]? = some (.cells cur el fr))
  (k:E'.w.heap[b]? = some (.cells (cur.toList.take (o+col)++vals++cur.toList.drop (o+col+vals.length)).toArray el fr)) (h:o+col+vals.length≤cur.size)
  (hr:bO E as b o) (g:ae E cs vals) (h1:∀ x∈vals,cN x=true) (l:col+cs.length≤as.length) :
  bO E' (as.take col++cs++as.drop (col+cs.length)) b o:=by
 have hlen:=fb g;rw[gz]at hr⊢;intro i a hi;rw[Df hblk k h];simp only[d_,gu,kq,ll,nP]at hi;have hm:min col as.length=col:=by omega
 rw[hm]at hi;by_cases c1:i<col
 ·have c2 : i < col + cs.length := by omega
  rw[if_pos c2,if_pos c1,if_pos c1]at hi;obtain⟨v,g1,g2,g3⟩:=hr i a hi;exact⟨v,by rw[if_neg (by omega)]; exact g1,g2,d _ _ g3⟩
 ·by_cases c2 : i < col + cs.length
  ·rw [if_pos c2, if_neg c1] at hi
   obtain⟨v,g1,g2⟩:=kG g hi;refine⟨v,?_,h1 v (dK g1),d _ _ g2⟩;rw[if_pos (by omega),←g1];congr 1;omega
  ·rw [if_neg c2] at hi
   have:col+cs.length+(i-(col+cs.length))=i:=by omega
   rw[this]at hi;obtain⟨v,g1,g2,g3⟩:=hr i a hi;exact⟨v,by rw[if_neg (by omega)]; exact g1,g2,d _ _ g3⟩
theorem Env.kH{E:Env}{w':World}{id b n:Nat}{o o':ab}(HE:ak E)(hid:E.H[id]? = some o) (d:E.loc[id]? = some (some (b,n)))
  (g:∀ v,o'.aw = some v→o.aw = some v) (t:w'.heap.size=E.w.heap.size) (k:∀ x,x≠b→w'.heap[x]? = E.w.heap[x]?) (q:c7 E.w w':=by first|exact⟨rfl,rfl,rfl,by first|exact fun _=>aB _|exact fun _=>dT _ _⟩|assumption|exact Ext.env (by assumption)) (hmm:o.cF=none∨o'.cF=o.cF∨o'.aw = none:=by first|exact .inl rfl|exact .inr (.inl rfl)|exact .inr (.inr rfl)|exact .inl (ab.tF (by assumption))|assumption) (y:o.born=true→o'.born=true:=by first|exact fun _=>rfl|exact fun h=>h|assumption) :
  E.le { w:=w',H:=E.H.set id o',loc:=E.loc,X:=E.X }:=by
 have h:=Env.im (w':=w') (o':=o') (l:=some (b,n)) hid HE.len (by omega) (fun x _ r=>k x (fun e=>r n (by rw[e]; exact d))) (fun A B h=>by cases h; exact .inr ⟨n,d⟩)
  (.inl fun v a => ⟨g v a, d⟩) (fun v u a hu => by rw [g v a] at hu; cases hu; exact aB _) (fun _ i => by
   cases a:o'.aw with
   |none=>rfl
   |some v=>rw[g v a]at i; cases i) q hmm
 rwa [jW d]at h
theorem ak.set{E:Env}{w':World}{id b n:Nat}{o o':ab}(HE:ak E)(hid:E.H[id]? = some o) (a:E.loc[id]? = some (some (b,n)))
  (g:∀ v,o'.aw = some v→o.aw = some v) (y:w'.heap.size=E.w.heap.size) (k:∀ x,x≠b→w'.heap[x]? = E.w.heap[x]?)
  (t:aD { w:=w',H:=E.H.set id o',loc:=E.loc,X:=E.X } id o') (q:c7 E.w w':=by first|exact⟨rfl,rfl,rfl,by first|exact fun _=>aB _|exact fun _=>dT _ _⟩|assumption|exact Ext.env (by assumption)) (hlab:o.label=none:=by first|rfl|assumption) (A:o'.label=none:=by first|rfl|assumption) (B:o.born=true→o'.born=true:=by first|exact fun _=>rfl|exact fun h=>h|assumption):ak { w:=w',H:=E.H.set id o',loc:=E.loc,X:=E.X }:=by
 have h:=ak.jm (w':=w') (o':=o') (l:=some (b,n)) HE hid (by omega) (fun x _ r=>k x (fun e=>r n (by rw[e]; exact a))) (fun D I h=>by cases h; exact .inr ⟨n,a⟩)
  (.inl fun v d => ⟨g v d, a⟩) (fun v u d hu => by rw [g v d] at hu; cases hu; exact aB _) (fun _ i => by
   cases d:o'.aw with
   |none=>rfl
   |some v=>rw[g v d]at i; cases i) (by rw[jW a]; exact t) q
 rwa [jW a]at h
def putCells(as cs:List AV)(col:Nat):List AV:=as.take col++cs++as.drop (col+cs.length)
def oE(P:Program)(t:TypeId)(x v:AV)(H:List ab):Option (List ab) :=
 match dN P t,mL v,x with
 | some (n,_),some cs,.ptr id ad w row col =>
  if cs.length=n then
   match H[id]? with
   |some (.box cells)=>if ad=0∧row=0∧col+n≤cells.length then some (H.set id (.box (putCells cells cs col))) else none
   | some (.vec k u rows) =>
    if ad=u∧k=w∧AV.aV cs=true then
     match rows[row]? with
     |some r=>if col+n≤r.length then some (H.set id (.vec k u (rows.set row (putCells r cs col)))) else none
     |none=>none
    else none
   |_=>none
  else none
 |_,_,_=>none
theorem Dg{as cs:List AV}{col:Nat}(h:col+cs.length≤as.length):(putCells as cs col).length=as.length:=by
 simp[putCells]; omega
theorem xW:∀(a b:List AV),AV.aV (a++b)=(AV.aV a&&AV.aV b)
 | [],b=>by simp[AV.aV]
 |x::a,b=>by simp[AV.aV,xW a b,W5]
theorem Dh{P:Program}{E:Env}(HE:ak E){t:TypeId}{x v:AV}{c d:Value}{H':List ab}(h:oE P t x v E.H=some H')(J:rel E x c)(y:rel E v d) :
  ∃ w',(Cv t c d).run P E.w=.ok () w'∧ak { w:=w',H:=H',loc:=E.loc,X:=E.X }∧E.le { w:=w',H:=H',loc:=E.loc,X:=E.X }:=by
 unfold oE at h;split at h
 case h_2=>cases h
 rename_i n ag cs id ad w row col ht Yi;obtain⟨i,dd,hi,hd,hs,ha⟩:=jS ht;obtain⟨W,h1⟩:=xM Yi y;split at h
 case isFalse=>cases h
 rename_i hn;have hlen:=fb W;have Yn:d.cells.size=n:=by rw[←hn,hlen]; simp
 simp only[rel]at J;obtain⟨_,Yl,Yc⟩:=J;split at h
 ·rename_i cells hid
  split at h
  case isFalse=>cases h
  rename_i Y;obtain⟨rfl,rfl,Yg⟩:=Y;cases h;obtain⟨b,m,A,rfl⟩:=Yc ⟨_,hid,rfl⟩;obtain⟨b',m',D,⟨cur,el,hblk,R⟩,e3⟩:=HE.obj id _ hid;rw[A]at D;cases D;have g:col+0+d.cells.toList.length≤cur.size:=by rw[R]; simp; omega
  have B:=run_storeCells_at P b col el d.cells.toList 0 cur E.w hblk g (fun v y=>by rw[tT]; exact h1 v y);simp only[mB]at B g;generalize l:E.w.setRow b (cur.toList.take col++d.cells.toList++cur.toList.drop (col+d.cells.toList.length)).toArray=w' at B;have M:w'.heap.size=E.w.heap.size:=by rw[←l]; exact setRow_size _ _ _
  have Yh:c7 E.w w':=by rw[←l]; exact⟨rfl,rfl,rfl,by first|exact fun _=>aB _|exact fun _=>dT _ _⟩
  have N:∀ x,x≠b→w'.heap[x]? = E.w.heap[x]? := by intro x J; rw[←l]; exact setRow_other _ _ _ _ J
  have I:w'.heap[b]? = some (.cells (cur.toList.take col++d.cells.toList++cur.toList.drop (col+d.cells.toList.length)).toArray el (0,0)):=by
   rw[←l]; exact setRow_heap E.w b cur _ el (0,0) hblk
  have O:∀ v,(ab.box (putCells cells cs col)).aw = some v→(ab.box cells).aw = some v:=fun v y=>by simpa[ab.aw]using y
  have hle:=Env.kH (o':=.box (putCells cells cs col)) HE hid A O M N;refine⟨w',?_,ak.set HE hid A O M N ?_,hle⟩
  ·simp only [Cv, ln, bG, eb, bH, storeVar, Sem.run_sizeOf hi, hs, nU, dL]
   rw[if_neg (by omega)];exact B
  ·simp only [aD]
   refine⟨b,m,A,⟨_,el,I,?_⟩,?_⟩
   ·rw [Dg (by omega)]
    simp only[w8,gu,kq,mC,jP]at g⊢;omega
   ·exact xV (o:=0) (col:=col) (fun a c hr=>bA hle a hr) hblk (by simpa using I) (by simpa using g) e3 W h1 (by omega)
 ·rename_i k u rows hid
  split at h
  case isFalse=>cases h
  rename_i Y;obtain⟨rfl,rfl,Ye⟩:=Y;split at h
  case h_2=>cases h
  rename_i r U;split at h
  case isFalse=>cases h
  rename_i Yg;cases h;obtain⟨b,m,A,rfl⟩:=Yc ⟨_,hid,rfl⟩;rcases HE.obj id _ hid with⟨_,D⟩|⟨b',m',D,⟨cur,el,hblk,R⟩,e3,e4,e5⟩
  ·subst D; simp at U
  rw[A]at D;cases D;have Ym:=az U;obtain⟨Yj,Yd⟩:=kC e5 U;rw[dL]at Yd;have Yf:(row+1)*k≤m*k:=pQ _ (by omega);rw[eF,Cw]at Yf;have g:row*k+col+0+d.cells.toList.length≤cur.size:=by rw[R]; simp; omega
  have B:=run_storeCells_at P b (row*k+col) el d.cells.toList 0 cur E.w hblk g (fun v y=>by rw[tT]; exact h1 v y);simp only[mB]at B g;generalize l:E.w.setRow b (cur.toList.take (row*k+col)++d.cells.toList++cur.toList.drop (row*k+col+d.cells.toList.length)).toArray=w' at B;have M:w'.heap.size=E.w.heap.size:=by rw[←l]; exact setRow_size _ _ _
  have Yh:c7 E.w w':=by rw[←l]; exact⟨rfl,rfl,rfl,by first|exact fun _=>aB _|exact fun _=>dT _ _⟩
  have N:∀ x,x≠b→w'.heap[x]? = E.w.heap[x]? := by intro x J; rw[←l]; exact setRow_other _ _ _ _ J
  have I:w'.heap[b]? = some (.cells (cur.toList.take (row*k+col)++d.cells.toList++cur.toList.drop (row*k+col+d.cells.toList.length)).toArray el (0,0)):=by
   rw[←l]; exact setRow_heap E.w b cur _ el (0,0) hblk
  have O:∀ v,(ab.vec k ad (rows.set row (putCells r cs col))).aw = some v→(ab.vec k ad rows).aw = some v:=fun v y=>by simpa[ab.aw]using y
  have hle:=Env.kH (o':=.vec k ad (rows.set row (putCells r cs col))) HE hid A O M N;refine⟨w',?_,ak.set HE hid A O M N ?_,hle⟩
  ·simp only [Cv, ln, bG, eb, bH, storeVar, Sem.run_sizeOf hi, hs]
   rw[if_neg (by omega)];exact B
  ·simp only [aD]
   right;refine⟨b,m,A,⟨_,el,I,?_⟩,by simpa using e3,?_,?_⟩
   ·simp only [w8, gu, kq, mC, jP, R] at g ⊢
    omega
   ·intro r' Yk
    rcases List.mem_or_eq_of_mem_set Yk with h'|h'
    ·exact e4 r' h'
    ·rw [h', putCells, xW, xW]
     have:=e4 r (dK U);simp[tN _ _ this,qb _ _ this,Ye]
   ·rw [jQ] at e5 ⊢
    intro j r' V;rw[dy]at V;split at V
    ·rename_i ej
     subst ej;cases V;refine⟨by rw[Dg (by omega)]; exact Yj,?_⟩;rw[dL];exact xV (fun a c hr=>bA hle a hr) hblk I g Yd W h1 (by omega)
    ·rename_i ej
     obtain⟨g1,g2⟩:=e5 j r' V;refine⟨g1,?_⟩;rw[gz]at g2⊢;intro q a hq;obtain⟨vv,p1,p2,p3⟩:=g2 q a hq;refine⟨vv,?_,p2,bA hle a p3⟩;have Yo:=az hq;rw[Df hblk I g,if_neg]
     ·exact p1
     ·rcases Nat.lt_or_gt_of_ne ej with Yp | Yq
      ·have : (row + 1) * k ≤ j * k := pQ _ (by omega)
       rw[eF,Cw]at this;simp only[jP];omega
      ·have : (j + 1) * k ≤ row * k := pQ _ (by omega)
       rw[eF,Cw]at this;omega
 ·cases h
theorem Di{E:Env}(HE:ak E){cells:List AV}{vals:Array Value}{el:TypeId}(hr:ae E cells vals.toList)(h1:∀ x∈vals.toList,cN x=true) :
  b_ E (.ptr E.H.length 0 0 0 0) (E.H++[.box cells]) (.pointer (some ⟨E.w.heap.size,0,none⟩)) { E.w with heap:=E.w.heap.push (.cells vals el) }:=by
 have d:=Ext.push E.w (.cells vals el);have hle:=Env.il (o:=.box cells) (l:=some (E.w.heap.size,0)) HE.len d (fun b n a=>by cases a; exact aB _);have hblk:(E.w.heap.push (.cells vals el))[E.w.heap.size]? = some (.cells vals el (0,0)):=by simp
 have g:ae (E.push { E.w with heap:=E.w.heap.push (.cells vals el) } (.box cells) (some (E.w.heap.size,0))) cells vals.toList:=cR hle _ hr;refine⟨E.loc++[some (E.w.heap.size,0)],E.X.r,?_,ak.push HE d (fun b n a=>?_) ?_,hle⟩
 ·simp only [rel]
  refine⟨⟨_,_,rfl⟩,⟨.box cells,by simp,rfl,fun v h=>by simp⟩,fun _=>⟨E.w.heap.size,0,?_,by simp⟩⟩;rw[←HE.len]; simp
 ·cases a
  exact⟨aB _,by simp⟩
 ·simp only [aD]
  refine⟨E.w.heap.size,0,?_,⟨vals,el,hblk,?_⟩,xP (cs:=vals) (el:=el) (fr:=(0,0)) hblk g h1⟩
  ·simp only[Env.push]; rw[←HE.len]; simp
  ·have := fb hr
   simpa using this.symm
def tX(P:Program)(t:TypeId):Option TypeId:=match di P t with
 | some [.pointer none,.slice none 0 0]=>match P.underlying t with
  | some (.struct a)=>match a[1]? with
   | some fd=>match P.underlying fd.type with
    | some (.slice e)=>match P.underlying e with
     |some (.int .u8)=>some e
     |_=>none
    |_=>none
   |none=>none
  |_=>none
 |_=>none
theorem LU{P:Program}{t e:TypeId}(h:tX P t=some e):di P t=some [.pointer none,.slice none 0 0]:=by
 unfold tX at h;split at h
 ·assumption
 ·cases h
def kI(H:List ab)(l:Nat):Bool:=H.all fun o=>match o.label with
 |some k => !ah k l
 |none=>true
theorem qg{H:List ab}{l:Nat}(h:kI H l=true)(i:Nat)(o:ab)(hi:H[i]? = some o):o.label≠some l:=fun e=>by
 have:=cC.1 h o (dK hi);rw[e]at this;simp at this
theorem LV{E:Env}(HE:ak E){t e:TypeId}(a:kI E.H 0=true) :
  b_ E (.ptr E.H.length 0 0 0 0) (E.H++[.dC 0 t e sX]) (.pointer (some ⟨E.w.heap.size,0,none⟩)) { E.w with heap:=E.w.heap.push (.cells #[.pointer none,.slice none 0 0] t) }:=by
 have h:=Ext.push E.w (.cells #[.pointer none,.slice none 0 0] t);obtain⟨h1,i⟩:=ak.Lt (o:=.dC 0 t e sX) (l:=some (E.w.heap.size,0)) (l0:=0) HE h (fun b n k=>by cases k; exact⟨aB _,by simp⟩) rfl (qg a) (by
  simp only[aD];refine⟨E.w.heap.size,0,.pointer none,.slice none 0 0,(E.X.r 0).length,none,?_,?_,.inl rfl,?_,?_,⟨rfl,rfl⟩⟩
  ·rw[←HE.len]; simp
  ·simp
  ·simp[fU,XS.re]
  ·intro h' d q
   rcases xz (show (fU E.X.r 0 0)[h']? = some (some d) from q)with g|⟨_,g,_⟩
   ·exact(HE.fc 0 (qg a) h' d g).elim
   ·exact g)
 refine⟨E.loc++[some (E.w.heap.size,0)],fU E.X.r 0,?_,h1,i⟩;simp only[rel];refine⟨⟨_,_,rfl⟩,⟨.dC 0 t e sX,by simp,rfl,fun v u=>by simp⟩,fun _=>⟨E.w.heap.size,0,?_,by simp⟩⟩;rw[←HE.len]; simp
def mN(P:Program)(t:TypeId)(H:List ab):Option (AV × List ab) :=
 match tX P t with
 |some e=>if kI H 0=true then some (.ptr H.length 0 0 0 0,H++[.dC 0 t e sX]) else none
 | none=>match di P t with
  |some z=>some (.ptr H.length 0 0 0 0,H++[.box (z.map .lit)])
  |none=>none
theorem LW{P:Program}{E:Env}(HE:ak E){t:TypeId}{v:AV}{H':List ab}(h:mN P t E.H=some (v,H')) :
  ∃ u w',(w_ t true (.tuple #[])).run P E.w=.ok u w'∧b_ E v H' u w':=by
 unfold mN at h;split at h
 ·rename_i e he
  split at h
  case isFalse=>cases h
  rename_i l;cases h;obtain⟨i,b,h1,d,a,k⟩:=jU (LU he);have g:b.cells=#[.pointer none,.slice none 0 0]:=ed (by simpa using a);refine⟨_,_,?_,LV HE (t:=t) (e:=e) l⟩;simp[w_,jV h1 d,newVar,newRow,g]
 split at h
 ·rename_i z g
  cases h;obtain⟨i,b,h1,d,a,k⟩:=jU g;refine⟨_,_,?_,Di HE (vals:=b.cells) (el:=t) (by rw[a]; exact ly z) (by rw[a]; exact k)⟩;simp[w_,jV h1 d,newVar,newRow]
 ·cases h
def zc:Option (List Kd)→Value→AV
 |some ks,.slice none 0 0=>.listF ks []
 |_,v=>.lit v
def c8:List (Option (List Kd))→List Value→List AV
 |_,[]=>[]
 | [],v::z=>.lit v::c8 [] z
 |a::m,v::z=>zc a v::c8 m z
theorem tY:∀(m:List (Option (List Kd))) (z:List Value),(c8 m z).length=z.length
 | [],[]=>rfl
 |_::_,[]=>rfl
 | [],v::z=>by simp[c8,tY [] z]
 |a::m,v::z=>by simp[c8,tY m z]
theorem LX{E:Env}(a:Option (List Kd))(v:Value):rel E (zc a v) v:=by
 unfold zc;split
 ·simp only [rel, db]
  exact⟨none,0,rfl,aB _,.inl rfl⟩
 ·simp[rel]
theorem xX{E:Env}:∀(m:List (Option (List Kd))) (z:List Value),ae E (c8 m z) z
 | [],[]=>by simp[c8,ae]
 |_::_,[]=>by simp[c8,ae]
 | [],v::z=>by simp only[c8,ae]; exact⟨by simp[rel],xX [] z⟩
 |a::m,v::z=>by simp only[c8,ae]; exact⟨LX a v,xX m z⟩
theorem LY(a:Option (List Kd))(v:Value):(zc a v).closed=true:=by
 unfold zc;split<;>rfl
theorem xY:∀(m:List (Option (List Kd))) (z:List Value),AV.aV (c8 m z)=true
 | [],[]=>rfl
 |_::_,[]=>rfl
 | [],v::z=>by simp[c8,AV.aV,AV.closed,xY [] z]
 |a::m,v::z=>by simp[c8,AV.aV,LY,xY m z]
def lD(P:Program)(t:TypeId)(id:Nat) (m:List (Option (List Kd))) (H:List ab):Option (AV × List ab) :=
 match di P t,H[id]? with
 |some z,some (.vec k 0 [])=>if k=z.length then some (.ptr id 1 k 0 0,H.set id (.vec k 1 [c8 m z])) else none
 |_,_=>none
theorem LZ{E:Env}(HE:ak E){id k:Nat}{cells:List AV}{vals:Array Value}{el:TypeId}(hid:E.H[id]? = some (.vec k 0 []))(hr:ae E cells vals.toList)(h1:∀ x∈vals.toList,cN x=true)(hk:cells.length=k)
  (A:AV.aV cells=true) :
  b_ E (.ptr id 1 k 0 0) (E.H.set id (.vec k 1 [cells])) (.pointer (some ⟨E.w.heap.size,0,none⟩)) { E.w with heap:=E.w.heap.push (.cells vals el) }:=by
 have d:=Ext.push E.w (.cells vals el);have t:=az hid;have i:∀ v,(ab.vec k 1 [cells]).aw = some v→∀ u,(ab.vec k 0 []).aw = some u→u<v:=by
  intro v a u hu;simp[ab.aw]at a hu;omega
 have y:∀ v u,(ab.vec k 1 [cells]).aw = some v→(ab.vec k 0 []).aw = some u→u≤v:=by
  intro v u a hu;simp[ab.aw]at a hu;omega
 have l:(ab.vec k 0 []).aw = none→(ab.vec k 1 [cells]).aw = none:=by simp[ab.aw]
 have hle:E.le { w:={ E.w with heap:=E.w.heap.push (.cells vals el) },H:=E.H.set id (.vec k 1 [cells]),loc:=E.loc.set id (some (E.w.heap.size,1)),X:=E.X } :=
  Env.im hid HE.len d.size (fun x g _=>d.same x g) (fun b n h=>by cases h; exact .inl (aB _)) (.inr i) y (fun _=>l)
 have hblk:(E.w.heap.push (.cells vals el))[E.w.heap.size]? = some (.cells vals el (0,0)):=by simp
 have q:(E.loc.set id (some (E.w.heap.size,1)))[id]? = some (some (E.w.heap.size,1)):=bd (by rw[HE.len]; exact t);have B:=cR hle _ hr;refine⟨E.loc.set id (some (E.w.heap.size,1)),E.X.r,?_,?_,hle⟩
 ·simp only [rel]
  refine⟨⟨_,_,rfl⟩,⟨.vec k 1 [cells],by simp[t],rfl,fun v a=>by simp[ab.aw]at a; omega⟩,fun _=>⟨E.w.heap.size,1,q,by simp⟩⟩
 ·refine ak.jm HE hid d.size (fun x g _ => d.same x g) (fun b n h => by cases h; exact .inl ⟨aB _, by simp⟩) (.inr i) y (fun _ => l) ?_
  simp only[aD];right;refine⟨E.w.heap.size,1,q,⟨vals,el,hblk,?_⟩,by simp,?_,?_⟩
  ·have := fb hr
   rw[Cw,←hk];simpa using this.symm
  ·intro r hr
   simp at hr;rw[hr];exact A
  ·simp only [bU, and_true]
   exact⟨hk,xP (cs:=vals) (el:=el) (fr:=(0,0)) hblk B h1⟩
theorem L0{P:Program}{E:Env}(HE:ak E){t:TypeId}{id:Nat}{m:List (Option (List Kd))}{v:AV}{H':List ab}(h:lD P t id m E.H=some (v,H')) :
  ∃ u w',(w_ t true (.tuple #[])).run P E.w=.ok u w'∧b_ E v H' u w':=by
 unfold lD at h;split at h
 ·rename_i z k b hid
  split at h
  ·rename_i hk
   cases h;obtain⟨i,d,h1,g,a,l⟩:=jU b;refine⟨_,_,?_,LZ HE (vals:=d.cells) (el:=t) hid (by rw[a]; exact xX m z) (by rw[a]; exact l) (by rw[tY,hk]) (xY m z)⟩;simp[w_,jV h1 g,newVar,newRow]
  ·cases h
 ·cases h
def tZ(v:AV)(H:List ab):Option (AV × List ab) :=
 match mL v with
 |some cs=>some (.ptr H.length 0 0 0 0,H++[.box cs])
 |none=>none
theorem L1{P:Program}{E:Env}(HE:ak E){t:TypeId}{x v:AV}{c:Value}{H':List ab}(h:tZ x E.H=some (v,H'))(b:rel E x c) :
  ∃ u w',(Xd t c).run P E.w=.ok u w'∧b_ E v H' u w':=by
 unfold tZ at h;split at h
 ·rename_i cs a
  cases h;obtain⟨h1,d⟩:=xM a b;refine⟨_,_,?_,Di HE (vals:=c.cells) (el:=t) h1 d⟩;simp[Xd,newVar,newRow]
 ·cases h
theorem Dj{E:Env}(HE:ak E){sz n C:Nat}{rows:List (List AV)}{vals rest:List Value}{el:TypeId}(hr:ae E rows.flatten vals)(h1:∀ x∈vals,cN x=true)
  (hw:∀ r∈rows,r.length=sz) (t:dW rows) (d:rows.length=n) (k:n≤C) (q:rest.length=(C-n)*sz) :
  b_ E (.vec sz E.H.length 0 0 n) (E.H++[.vec sz 0 rows]) (.slice (some ⟨E.w.heap.size,0,none⟩) n C) { E.w with heap:=E.w.heap.push (.cells (vals++rest).toArray el) }:=by
 have h:=Ext.push E.w (.cells (vals++rest).toArray el);have hle:=Env.il (o:=.vec sz 0 rows) (l:=some (E.w.heap.size,C)) HE.len h (fun b n g=>by cases g; exact aB _);have hblk:(E.w.heap.push (.cells (vals++rest).toArray el))[E.w.heap.size]? = some (.cells (vals++rest).toArray el (0,0)):=by simp
 have i:=xS (E':=E.push { E.w with heap:=E.w.heap.push (.cells (vals++rest).toArray el) } (.vec sz 0 rows) (some (E.w.heap.size,C))) (fun a c hr=>bA hle a hr) hblk hr h1 hw d k q;refine⟨E.loc++[some (E.w.heap.size,C)],E.X.r,?_,ak.push HE h (fun b n g=>?_) ?_,hle⟩
 ·simp only [rel]
  refine⟨⟨_,_,rfl,k,fun _=>⟨_,_,rfl⟩⟩,⟨.vec sz 0 rows,by simp,rfl,fun v u=>by simp[ab.aw]at u; omega⟩,fun _=>⟨fun d=>?_,fun b M d=>?_⟩⟩
  ·rw[←HE.len]at d; simp at d
  ·rw [← HE.len] at d
   simp at d;obtain⟨rfl,rfl⟩:=d;exact⟨by omega,0,fun _=>by simp,by simp⟩
 ·cases g
  exact⟨aB _,by simp⟩
 ·simp only [aD]
  right;refine⟨E.w.heap.size,C,?_,i.1,by omega,t,i.2⟩;simp only[Env.push];rw[←HE.len];simp
theorem range_zero(z:Array Value)(n:Nat)(g:0<z.size):((fo (n*z.size)).map (fun i=>z[i%z.size]!)).toList=(cu n z.toList).flatten:=by
 induction n with
 |zero=>simp
 | succ n b =>
  rw[List.replicate_succ',tc,←b];simp only[pO,List.flatten_nil,cV];apply kp;intro i;simp only[KU,Array.toList_range,b7,d_,eY,List.length_range];by_cases c1:i<n*z.size
  ·have c2 : i < (n + 1) * z.size := by rw [eF]; omega
   simp[c1,c2]
  ·by_cases c2 : i < (n + 1) * z.size
   ·have a : i - n * z.size < z.size := by rw [eF] at c2; omega
    have d:i%z.size=i-n*z.size:=by
     have:i=i-n*z.size+n*z.size:=by omega
     rw[this,Nat.add_mul_mod_self_right,Nat.mod_eq_of_lt a];omega
    simp[c1,c2,d,a]
   ·have a : ¬ (i - n * z.size < z.size) := by rw [eF] at c2; omega
    simp[c1,c2,a]
theorem Dk(f:Nat→Value):Cx f (fo 0)=#[]:=by apply ed; simp
def L2:Value→Option Kd
 |.int k _=>some (.int k)
 |.string _=>some .str
 |.bool _=>some .bool
 |_=>none
def xZ:List Value→Option (List Kd)
 | []=>some []
 | v::vs=>match L2 v,xZ vs with
  |some k,some ks=>some (k::ks)
  |_,_=>none
def x2(P:Program)(t:TypeId):Option (List Kd):=match P.underlying t with
 | some (.slice e)=>match P.info? e with
  | some i=>match i.zero with
   |some (.agg cs)=>xZ cs.toList
   |some v=>xZ [v]
   |none=>none
  |none=>none
 |_=>none
def x3(P:Program):Nat→TypeId→List TypeId
 |0,t=>[t]
 | d+1,t=>match P.underlying t with
  |some (.struct a)=>(a.toList.map fun f=>x3 P d f.type).flatten
  |some (.array n e)=>(cu n (x3 P d e)).flatten
  |_=>[t]
def kJ:List Value→List (Option (List Kd))→List AV
 | [],_=>[]
 | v::vs,ks=>(match v,ks.headD none with
  |.slice none 0 0,some k=>.listF k []
  |v,_=>.lit v)::kJ vs ks.tail
def t_(P:Program)(e:TypeId)(z:List Value):List AV:=kJ z ((x3 P 4 e).map (x2 P))
theorem Dl:∀(z:List Value) (ks:List (Option (List Kd))),(kJ z ks).length=z.length
 | [],_=>rfl
 |_::z,ks=>by simp[kJ,Dl z]
theorem Dm{E:Env}:∀(z:List Value) (ks:List (Option (List Kd))),ae E (kJ z ks) z
 | [],_=>by simp[kJ,ae]
 | v::z,ks=>by
  simp only[kJ,ae];refine⟨?_,Dm z _⟩;split
  ·simp only [rel, db, G.rows]
   exact⟨none,0,rfl,aB _,.inl (by first|rfl|trivial)⟩
  ·simp[rel]
theorem Dn:∀(z:List Value) (ks:List (Option (List Kd))),AV.aV (kJ z ks)=true
 | [],_=>rfl
 | v::z,ks=>by
  simp only[kJ,AV.aV,Dn z,fl];split<;>rfl
theorem Dp{E:Env}{as:List AV}{z:List Value}(h:ae E as z):∀ n:Nat,ae E (cu n as).flatten (cu n z).flatten
 |0=>by simp[ae]
 | n+1=>by
  simp only[KV,pO];exact iQ h (Dp h n)
def qh(P:Program)(t:TypeId)(l c:AV)(H:List ab):Option (AV × List ab) :=
 match bJ P t,l,c with
 | .slice e sz a,.lit (.int _ l),.lit (.int _ c) =>
  match di P e with
  | some z=>if z.length=sz∧0<sz∧0≤l∧l≤c∧c≤1048576∧a≤1048576 then
    some (.vec sz H.length 0 0 l.toNat,H++[.vec sz 0 (cu l.toNat (t_ P e z))]) else none
  |none=>none
 |_,_,_=>none
theorem wrap_small{n:Int}(h0:0≤n)(h1:n≤1048576):IntKind.i64.wrap n=n:=by
 simp[IntKind.wrap,IntKind.bits,IntKind.signed];omega
theorem qi{E:Env}(z:List Value):∀ n:Nat,ae E (cu n (z.map AV.lit)).flatten (cu n z).flatten
 |0=>by simp[ae]
 | n+1=>by
  simp only[KV,pO];exact iQ (ly z) (qi z n)
theorem qj{α:Type}{z:List α}{n:Nat}{x:α}(h:x∈(cu n z).flatten):x∈z:=by
 obtain⟨l,h1,a⟩:=List.mem_flatten.1 h;rw[KW h1]at a;exact a
theorem x4:∀(z:List Value),AV.aV (z.map .lit)=true
 | []=>rfl
 |v::z=>by simp[AV.aV,AV.closed,x4 z]
theorem L3{P:Program}{E:Env}(HE:ak E){t:TypeId}{l c v:AV}{cl A:Value}{H':List ab}(h:qh P t l c E.H=some (v,H'))
  (B:rel E l cl) (D:rel E c A):∃ u w',(Xe t cl A).run P E.w=.ok u w'∧b_ E v H' u w':=by
 unfold qh at h;split at h
 case h_2=>cases h
 rename_i e sz Y k1 l k2 c hk;simp only[rel]at B D;subst B; subst D;obtain⟨hu,i,hi,hs,Yc⟩:=ft hk;split at h
 case h_2=>cases h
 rename_i z V;split at h
 case isFalse=>cases h
 rename_i J;obtain⟨g1,g2,g3,g4,g5,g6⟩:=J;cases h;obtain⟨i',a,k,N,q,O⟩:=jU V;rw[hi]at k;cases k;have wl:IntKind.i64.wrap l=l:=wrap_small g3 (by omega);have W:IntKind.i64.wrap c=c:=wrap_small (by omega) g5;have Yd:(i.bytes:Int)*c≤1048576*1048576:=by
  have h1:(i.bytes:Int)≤1048576:=by omega
  have b:(0:Int)≤c:=by omega
  exact Int.mul_le_mul h1 g5 b (by omega)
 have R:¬ (281474976710656<(i.bytes:Int)*c):=by omega
 have U:a.cells.size=sz:=by rw[←g1,←q]; simp
 have g:(cu l.toNat z).flatten++(cu (c.toNat-l.toNat) z).flatten=(cu c.toNat z).flatten:=by
  rw[←tc,List.replicate_append_replicate];congr 2;omega
 obtain⟨vals,d⟩:∃ vals,vals=(cu l.toNat z).flatten:=⟨_,rfl⟩
 obtain⟨rest,y⟩:∃ rest,rest=(cu (c.toNat-l.toNat) z).flatten:=⟨_,rfl⟩
 have M:rest.length=(c.toNat-l.toNat)*sz:=by rw[y]; simp[g1]
 rw[←d,←y]at g;refine⟨.slice (some ⟨E.w.heap.size,0,none⟩) l.toNat c.toNat,{ E.w with heap:=E.w.heap.push (.cells (vals++rest).toArray e) },?_,?_⟩
 ·have h1 : ¬ c < 0 := by omega
  have b:¬ l<0:=by omega
  have X:¬ c<l:=by omega
  simp only[Xe,bG,Sem.aX hu,bH,asInt,asIntOf,eb,typeInfo,run_program,hi,wl,W];rw[if_neg (by simp[h1,b,X,R])];simp only[bG,run_askRoom,bH,Sem.run_sizeOf hi];rw[g];by_cases h0:c.toNat*i.size=0
  ·have:c.toNat=0:=by
    rcases KX.1 h0 with h|h
    ·exact h
    ·omega
   rw[if_pos h0];simp only[bG,eb,bH,newRow,this,nU,Dk];simp
  ·rw [if_neg h0]
   simp only[bG,jV hi N,bH,eb,newRow];have:(Cx (fun x=>a.cells[x%a.cells.size]!) (fo (c.toNat*i.size)))=(cu c.toNat z).flatten.toArray:=by
    apply ed;rw[hs,←U,range_zero a.cells c.toNat (by omega),q]
   rw[this];simp
 ·refine Dj HE (C := c.toNat) (by rw [d]; exact Dp (Dm z _) _) (by intro x I; rw [d] at I; exact O x (qj I)) ?_ ?_ (by simp) (by omega) M
  ·intro r hr
   have:=KW hr;rw[this];rw[t_,Dl]; exact g1
  ·intro r hr
   have:=KW hr;rw[this];exact Dn z _
def oF(P:Program)(t:TypeId)(n:Nat)(parts:List (Nat × AV)):Option AV :=
 match bJ P t with
 | .slice e sz _=>match di P e with
  | some z=>if z.length=sz∧0<sz∧n*sz≤1048576 then
    match mM (fun i=>some (i*sz,sz)) (cu n (z.map AV.lit)).flatten parts with
    |some out=>if AV.aV out=true∧out.length=n*sz then some (match n with|0=>.nils|_=>.list sz (chunk sz n out)) else none
    |none=>none
   else none
  |none=>none
 |_=>none
theorem L4{P:Program}{E:Env}(HE:ak E){t:TypeId}{n:Nat}{parts:List (Nat × AV)}{cparts:List (Nat × Value)}{v:AV}(h:oF P t n parts=some v)
  (hm:parts.map (·.1)=cparts.map (·.1)) (M:ae E (parts.map (·.2)) (cparts.map (·.2))) :
  ∃ u w',(Cy t n cparts.toArray).run P E.w=.ok u w'∧Ext E.w w'∧rel { E with w:=w' } v u:=by
 unfold oF at h;split at h
 case h_2=>cases h
 rename_i e sz U hk;obtain⟨hu,i,hi,hs,_⟩:=ft hk;split at h
 case h_2=>cases h
 rename_i z N;obtain⟨V,d,l,B,q,D⟩:=jU N;rw[hi]at l;cases l;split at h
 case isFalse=>cases h
 rename_i O;obtain⟨g1,g2,g3⟩:=O;split at h
 case h_2=>cases h
 rename_i out A;split at h
 case isFalse=>cases h
 rename_i r;cases h;have I:d.cells.size=sz:=by rw[←g1,←q]; simp
 obtain⟨a,b⟩:∃ a:Array Value,a.toList=(cu n z).flatten:=⟨((cu n z).flatten).toArray,by simp⟩
 obtain⟨o,f1,f2,f3⟩:=qe (E:=E) (cs:=a) A (by rw[b]; exact qi z n) (by rw[b]; intro x g; exact D x (qj g)) hm M;have k:=Ext.push E.w (.cells o e);have hblk:(E.w.heap.push (.cells o e))[E.w.heap.size]? = some (.cells o e (0,0)):=by simp
 refine⟨.slice (some ⟨E.w.heap.size,0,none⟩) n n,{ E.w with heap:=E.w.heap.push (.cells o e) },?_,k,?_⟩
 ·have J : ¬ (n * i.size > 2 ^ 24) := by rw [hs]; omega
  simp only[Cy,bG,Sem.aX hu,bH,Sem.run_sizeOf hi];rw[if_neg J];by_cases h0:n*i.size=0
  ·have y:n=0:=by
    rcases KX.1 h0 with h|h
    ·exact h
    ·omega
   have:a=#[]:=by apply ed; rw[b,y]; rfl
   rw[if_pos h0];rw[this]at f1;simp only[bG,eb,bH,y,nU,Dk,hs,f1];simp[newRow]
  ·rw [if_neg h0]
   simp only[bG,jV hi B,bH,eb];have:(Cx (fun x=>d.cells[x%d.cells.size]!) (fo (n*i.size)))=a:=by
    apply ed;rw[hs,←I,range_zero d.cells n (by omega),q,b]
   rw[this,hs,f1];simp[newRow]
 ·have hle : E.le { E with w := { E.w with heap := E.w.heap.push (.cells o e) } } := Env.fK k
  cases n with
  |zero=>simp only[rel]; exact⟨_,rfl⟩
  |succ n =>
  simp only[rel];refine⟨xO sz _ out r.1,some ⟨E.w.heap.size,0,none⟩,n+1,by rw[qf],by rw[qf]; exact aB _,.inr ⟨E.w.heap.size,0,rfl,?_,?_⟩⟩
  ·refine ⟨by simp, ?_, fun g => by have := HE.X _ g; omega⟩
   rintro R;have:=(HE.tJ R).1;omega
  ·exact C8 sz _ out _ 0 r.2 (xP (cs:=o) (el:=e) (fr:=(0,0)) hblk (cR hle _ f2) f3)
end Go.AL

namespace Go.AL
open Go
variable [Dr]
def ua(P:Program)(t:TypeId)(x:AV)(H:List ab):Option (AV × List ab) :=
 match bJ P t,x with
 |.str,.lit (.string s)=>some (.ptr H.length 0 0 0 0,H++[.iter s 0])
 |_,_=>none
theorem L5{E:Env}(HE:ak E)(s:ByteArray) :
  b_ E (.ptr E.H.length 0 0 0 0) (E.H++[.iter s 0]) (.pointer (some ⟨E.w.heap.size,0,none⟩)) { E.w with heap:=E.w.heap.push (.stringIter s 0) }:=by
 have d:=Ext.push E.w (.stringIter s 0);have hle:=Env.il (o:=.iter s 0) (l:=some (E.w.heap.size,0)) HE.len d (fun b n a=>by cases a; exact aB _);have hblk:(E.w.heap.push (.stringIter s 0))[E.w.heap.size]? = some (.stringIter s 0):=by simp
 refine⟨E.loc++[some (E.w.heap.size,0)],E.X.r,?_,ak.push HE d (fun b n a=>?_) ?_,hle⟩
 ·simp only [rel]
  refine⟨⟨_,_,rfl⟩,⟨.iter s 0,by simp,rfl,fun v g=>by simp⟩,fun _=>⟨E.w.heap.size,0,?_,by simp⟩⟩;rw[←HE.len]; simp
 ·cases a
  exact⟨aB _,by simp⟩
 ·simp only [aD]
  refine⟨E.w.heap.size,0,?_,hblk⟩;simp only[Env.push]; rw[←HE.len]; simp
theorem L6{P:Program}{E:Env}(HE:ak E){t:TypeId}{x v:AV}{c:Value}{H':List ab}(h:ua P t x E.H=some (v,H'))(a:rel E x c) :
  ∃ u w',(KY t c).run P E.w=.ok u w'∧b_ E v H' u w':=by
 unfold ua at h;split at h
 ·rename_i s hk
  cases h;simp only[rel]at a;subst a;refine⟨_,_,?_,L5 HE s⟩;simp[KY,Sem.aX (mJ hk),newObj];rfl
 ·cases h
def ub(x:AV)(isString:Bool)(H:List ab):Option (AV × List ab) :=
 match x,isString with
 | .ptr id 0 _ 0 0,true=>match H[id]? with
  | some (.iter s pos)=>if pos<s.size then some (.tuple [.lit (.bool true),.lit (goInt pos),.lit (.int .i32 (lr s pos).1)],H.set id (.iter s (pos+(lr s pos).2)))
    else some (.tuple [.lit (.bool false)],H)
  |_=>none
 |_,_=>none
theorem L7{P:Program}{E:Env}(HE:ak E){x v:AV}{c:Value}{isString:Bool}{ty:TypeId}{H':List ab}(h:ub x isString E.H=some (v,H'))(t:rel E x c) :
  ∃ u w',(Instr.next c isString ty).run P E.w=.ok u w'∧b_ E v H' u w':=by
 unfold ub at h;split at h
 case h_2=>cases h
 rename_i id k;split at h
 case h_2=>cases h
 rename_i s pos hid;have A:=HE.obj id _ hid;simp only[aD]at A;obtain⟨b,n,h1,d⟩:=A;simp only[rel]at t;obtain⟨_,_,B⟩:=t;obtain⟨M,N,g1,g2⟩:=B ⟨_,hid,rfl⟩;rw[h1]at g1;simp only[aK,aN]at g1;obtain⟨rfl,rfl⟩:=g1;have D:=(HE.lt id b n h1).1;split at h
 ·rename_i a
  cases h;subst g2;have q:({ E.w with heap:=E.w.heap.setIfInBounds b (.stringIter s (pos+(lr s pos).2)) }:World).heap.size=E.w.heap.size:=by simp
  have l:∀ y,y≠b→({ E.w with heap:=E.w.heap.setIfInBounds b (.stringIter s (pos+(lr s pos).2)) }:World).heap[y]? = E.w.heap[y]? := by
   intro y I;simp only[xa];rw[if_neg (fun e=>I e.symm)]
  refine⟨.tuple #[.bool true,goInt pos,.int .i32 (lr s pos).1],{ E.w with heap:=E.w.heap.setIfInBounds b (.stringIter s (pos+(lr s pos).2)) },?_,E.loc,E.X.r,?_,?_,?_⟩
  ·have g : (getObj b).run P E.w = .ok (.stringIter s pos) E.w := by simp [getObj, fp, d]
   have J:(setObj b (.stringIter s (pos+(lr s pos).2))).run P E.w=.ok () { E.w with heap:=E.w.heap.setIfInBounds b (.stringIter s (pos+(lr s pos).2)) }:=by
    simp[setObj,fp,d]
   simp only[Instr.next,nU,mB,bG,g,bH,a,if_true];rw[J];rfl
  ·simp[rel,ae]
  ·exact HE.set hid h1 (fun v i=>i) q l (by
    simp only[aD];exact⟨b,n,h1,by simp[D]⟩)
  ·exact Env.kH HE hid h1 (fun v i=>i) q l
 ·rename_i a
  cases h;subst g2;refine⟨.tuple #[.bool false],E.w,?_,E.loc,E.X.r,by simp[rel,ae],by simpa using HE,Env.le.refl E⟩;have g:(getObj b).run P E.w=.ok (.stringIter s pos) E.w:=by simp[getObj,fp,d]
  simp only[Instr.next,nU,mB,bG,g,bH,a,if_false];rfl
end Go.AL

namespace Go.AL
open Go
variable [Dr]
def fX(P:Program)(b:TypeId)(a:AV):Option (List Value) :=
 match flatK P kF b with
 |none=>none
 | some ks=>match a with
  |.lit v=>if bV ks [v]=true∧kE (P.underlying b)=false then some [v] else none
  | .agg as=>match kD as with
   |some l=>if bV ks l=true∧kE (P.underlying b)=true then some l else none
   |none=>none
  |_=>none
def kK(P:Program)(a:TypeId)(l:List Value)(c:Value):Prop:=isVal P a c l∧∃ ks,flatK P kF a=some ks∧bV ks l=true
theorem fY{P:Program}{E:Env}{d:TypeId}{a:AV}{l:List Value}{c:Value}(h:fX P d a=some l)(hr:rel E a c):kK P d l c:=by
 unfold fX at h;split at h
 ·cases h
 rename_i ks hk;split at h
 ·split at h
  ·rename_i v b
   cases h;simp only[rel]at hr;subst hr;refine⟨?_,ks,hk,b.1⟩;unfold isVal;split
   ·rename_i g hu
    rw[hu]at b;exact absurd b.2 (by simp[kE])
   ·rfl
  ·cases h
 ·split at h
  ·rename_i as l' k
   split at h
   ·rename_i b
    cases h;simp only[rel]at hr;obtain⟨cs,rfl,_,q⟩:=hr;refine⟨?_,ks,hk,b.1⟩;have e:=tS k q;unfold isVal;split
    ·exact⟨cs,rfl,e⟩
    ·rename_i i
     exfalso;have:=b.2;unfold kE at this;split at this
     ·rename_i g hu
      exact i g hu
     ·cases this
   ·cases h
  ·cases h
 ·cases h
theorem Dq{P:Program}:∀(d:Nat) (a:List Field) (off:Nat) (ks:List SK),qd P d a off=some ks→∀(xs:Array Value),bV ks (xs.toList.drop off)=true→∀ w:World,∀ f∈a,f.name ≠ "_" ∧
  ∃ b x vs,flatK P d f.type=some b∧(part f.type xs f.offset).run P w=.ok x w∧isVal P f.type x vs∧bV b vs=true
 |d,[],off,ks,hk,xs,k,w,f,hf=>by cases hf
 | d,g::a,off,ks,hk,xs,k,w,f,hf=>by
  unfold qd oy at hk;split at hk
  ·cases hk
  rename_i q;split at hk
  case h_2=>cases hk
  rename_i b n D r v;split at hk
  case isFalse=>cases hk
  rename_i t;split at hk
  case h_2=>cases hk
  rename_i l y;cases hk;have u:g.offset=off:=by
   by_cases e:g.offset=off
   ·exact e
   ·exact(q (.inr e)).elim
  obtain⟨h,i⟩:=tR k;rw[←t]at h i;rcases bN.1 hf with rfl|hf
  ·obtain ⟨x, A, B⟩ := xG v r t xs off h w
   exact⟨fun e=>q (.inl e),b,x,_,r,by rw[u]; exact A,B,h⟩
  ·exact Dq d a (off+n) l y xs (by rw[mA]at i; exact i) w f hf
theorem Ds{P:Program}(em:Bool):∀(d:Nat) (t:TypeId) (ks:List SK),flatK P d t=some ks→∀(D:Nat),d≤D→∀(x:Value) (vs:List Value),isVal P t x vs→bV ks vs=true →
  ∀ w,(pR em D t x).run P w=.ok () w
 |0,_,_,hk=>by simp[flatK]at hk
 | d+1,t,ks,hk=>by
  intro D N x vs g b w;obtain⟨D,rfl⟩:∃ i,D=i+1:=⟨D-1,by omega⟩
  unfold flatK at hk;cases hu:P.underlying t with
  |none=>rw[hu]at hk; cases hk
  | some l =>
   rw[hu]at hk;cases l with
   | struct h =>
    simp only[]at hk;split at hk
    ·cases hk
    simp only[isVal,hu]at g;obtain⟨a,rfl,rfl⟩:=g;have each:=Dq d h.toList 0 ks hk a (by simpa using b) w;have deep:∀ f∈h.toList,f.name ≠ "_" ∧ ∃ x,(part f.type a f.offset).run P w=.ok x w∧(pR em D f.type x).run P w=.ok () w:=fun f hf=>by
     obtain⟨h1,q,x,vs,r,u,v,A⟩:=each f hf;exact⟨h1,x,u,Ds em d f.type q r D (by omega) x vs v A w⟩
    rw[pR];simp only[bG,Sem.aX hu,bH];rw[←Array.forIn_toList];clear each hk;generalize h.toList=L at deep
    induction L with
    |nil=>simp
    | cons f L B =>
     obtain⟨I,x,p1,J⟩:=deep f (by simp);simp only[List.forIn_cons,bG,I,ne_eq,not_false_eq_true,if_true,bH,p1,J,eb];exact B (fun y M=>deep y (by simp[M]))
   | int k =>
    simp at hk;subst hk;simp only[isVal,hu]at g;subst g;simp only[bV,fl]at b;unfold kindOk at b;split at b<;>simp_all[pR,Sem.aX hu]
   | string =>
    simp at hk;subst hk;simp only[isVal,hu]at g;subst g;simp only[bV,fl]at b;unfold kindOk at b;split at b<;>simp_all[pR,Sem.aX hu]
   | bool =>
    simp at hk;subst hk;simp only[isVal,hu]at g;subst g;simp only[bV,fl]at b;unfold kindOk at b;split at b<;>simp_all[pR,Sem.aX hu]
   |_=>simp at hk
theorem ff{P:Program}{a:TypeId}{l:List Value}{c:Value}(h:kK P a l c)(em:Bool)(w:World):(pR em 10000 a c).run P w=.ok () w:=by
 obtain⟨h1,ks,b,d⟩:=h;exact Ds em kF a ks b 10000 (by decide) c l h1 d w
theorem L8{P:Program}{a:TypeId}{l m:List Value}{c d:Value}(h:kK P a l c)(h':kK P a m d)(w:World):(ta a c d).run P w=.ok (cS l m) w:=by
 obtain⟨h1,ks,b,i⟩:=h;obtain⟨k,r,g,q⟩:=h';rw[b]at g;cases g;exact xH kF a ks b 10000 (by decide) c d l m h1 k i q w
def du(P:Program)(a:TypeId)(k:List Value):List (AV × AV × Nat)→Nat→Option (Option (Nat × AV))
 | [],_=>some none
 | (k',v,_)::es,i=>match fX P a k' with
  |some l=>bif cS k l then some (some (i,v)) else du P a k es (i+1)
  |none=>none
def cG(E:Env)(ms:List MapEntry)(i0:Nat):Option (Nat × AV)→Option (Nat × Value)→Prop
 |none,none=>True
 |some (i,v),some (j,c)=>i=j∧rel E v c∧i0≤i∧∃ e,ms[i-i0]? = some e∧e.val=c
 |_,_=>False
theorem Dt{P:Program}{E:Env}{a:TypeId}{k:List Value}{c:Value}(hk:kK P a k c)(w:World):∀(es:List (AV × AV × Nat)) (ms:List MapEntry) (i:Nat) (r:Option (Nat × AV)),
  ba E es ms→du P a k es i=some r→∃ r',(KZ a c ms i).run P w=.ok r' w∧cG E ms i r r'
 | [],[],i,r,_,h=>by
  simp only[du,aK]at h;subst h;exact⟨none,rfl,trivial⟩
 | [],_::_,_,_,hr,_=>by simp[ba]at hr
 |(_,_,_)::_,[],_,_,hr,_=>by simp[ba]at hr
 | (k',v,n)::es,e::ms,i,r,hr,h=>by
  simp only[ba]at hr;obtain⟨h1,d,D,I,J,g⟩:=hr;simp only[du]at h;split at h
  case h_2=>cases h
  rename_i l t;have he:=L8 hk (fY t h1) w;cases b:cS k l with
  | true =>
   rw[b]at h he;cases h;refine⟨some (i,e.val),by simp[KZ,he],rfl,d,aB _,e,by simp,rfl⟩
  | false =>
   rw[b]at h he;obtain⟨r',g1,g2⟩:=Dt hk w es ms (i+1) r g h;refine⟨r',by simp[KZ,he,g1],?_⟩;cases r with
   | none=>cases r' with
    |none=>trivial
    |some _=>simp[cG]at g2
   | some p=>cases r' with
    |none=>simp[cG]at g2
    | some q =>
     simp only[cG]at g2⊢;obtain⟨u,y,M,e',A,B⟩:=g2;refine⟨u,y,by omega,e',?_,B⟩;rw[show p.1-i=(p.1-(i+1))+1 from by omega];simpa using A
theorem Du{P:Program}{E:Env}{y:TypeId}{k:List Value}{c:Value}{d:TypeDesc}(hu:P.underlying y=some d)(hk:kK P y k c):∀(es:List (AV × AV × Nat)) (ms:List MapEntry) (i:Nat) (r:Option (Nat × AV)),
  ba E es ms→du P y k es i=some r→(∃ r',td d c ms i=some r'∧cG E ms i r r')∨td d c ms i=none
 | [],[],i,r,_,h=>by
  simp only[du,aK]at h;subst h;exact .inl ⟨none,rfl,trivial⟩
 | [],_::_,_,_,hr,_=>by simp[ba]at hr
 |(_,_,_)::_,[],_,_,hr,_=>by simp[ba]at hr
 | (k',v,n)::es,e::ms,i,r,hr,h=>by
  simp only[ba]at hr;obtain⟨h1,D,R,U,V,I⟩:=hr;simp only[du]at h;split at h
  case h_2=>cases h
  rename_i l J;have B:=fY J h1;have same:te d c e.key=some (cS k l)∨te d c e.key=none:=by
   obtain⟨p1,ks,a,t⟩:=hk;obtain⟨u,O,w,b⟩:=B;rw[a]at w;cases w;unfold kF at a;unfold flatK at a;rw[hu]at a;cases d with
   |struct W=>right; simp[te]
   | int X =>
    simp at a;subst a;simp only[isVal,hu]at p1 u;subst p1; subst u;simp only[bV,fl]at t b;unfold kindOk at t b;left;split at t<;>split at b<;>simp_all[te,cS,lB]
   | string =>
    simp at a;subst a;simp only[isVal,hu]at p1 u;subst p1; subst u;simp only[bV,fl]at t b;unfold kindOk at t b;left;split at t<;>split at b<;>simp_all[te,cS,lB,beq_toListBytes]
   | bool =>
    simp at a;subst a;simp only[isVal,hu]at p1 u;subst p1; subst u;simp only[bV,fl]at t b;unfold kindOk at t b;left;split at t<;>split at b<;>simp_all[te,cS,lB]
   |_=>simp at a
  rcases same with hs|hs
  ·cases A : cS k l with
   | true =>
    rw[A]at h hs;cases h;exact .inl ⟨some (i,e.val),by simp[td,hs],rfl,D,aB _,e,by simp,rfl⟩
   | false =>
    rw[A]at h hs;rcases Du hu hk es ms (i+1) r I h with⟨r',g1,g2⟩|g
    ·refine .inl ⟨r', by simp [td, hs, g1], ?_⟩
     cases r with
     | none=>cases r' with
      |none=>trivial
      |some _=>simp[cG]at g2
     | some p=>cases r' with
      |none=>simp[cG]at g2
      | some q =>
       simp only[cG]at g2⊢;obtain⟨u,w,b,e',M,N⟩:=g2;refine⟨u,w,by omega,e',?_,N⟩;rw[show p.1-i=(p.1-(i+1))+1 from by omega];simpa using M
    ·exact .inr (by simp[td,hs,g])
  ·exact .inr (by simp[td,hs])
theorem fM{P:Program}{E:Env}{a:TypeId}{k:List Value}{c:Value}(hk:kK P a k c)(w:World){es:List (AV × AV × Nat)}{ms:List MapEntry}{r:Option (Nat × AV)}
  (hr:ba E es ms) (h:du P a k es 0=some r):∃ r',(K3 a c ms).run P w=.ok r' w∧cG E ms 0 r r':=by
 have hu:∃ d,P.underlying a=some d:=by
  obtain⟨_,ks,b,_⟩:=hk;unfold kF at b;unfold flatK at b;split at b<;>first|exact⟨_,by assumption⟩|cases b
 obtain⟨d,hu⟩:=hu;rcases Du hu hk es ms 0 r hr h with⟨r',g1,g2⟩|g
 ·exact⟨r',by simp[K3,Sem.aX hu,g1],g2⟩
 ·obtain ⟨r', g1, g2⟩ := Dt hk w es ms 0 r hr h
  exact⟨r',by simp[K3,Sem.aX hu,g,g1],g2⟩
def cz(P:Program)(t:TypeId):Option (TypeId × TypeId):=match P.underlying t with
 |some (.map k e)=>some (k,e)
 |_=>none
theorem en{P:Program}{t k e:TypeId}(h:cz P t=some (k,e)):P.underlying t=some (.map k e):=by
 unfold cz at h;split at h
 ·rename_i h1; cases h; exact h1
 ·cases h
def fN(P:Program)(t:TypeId):Option AV:=match P.info? t with
 | some i=>match i.zero with
  |some z=>some (AV.om z)
  |none=>none
 |none=>none
theorem oG{P:Program}{t:TypeId}{a:AV}(h:fN P t=some a)(w:World):∃ z,(zeroValue t).run P w=.ok z w∧∀ E,rel E a z:=by
 unfold fN at h;split at h
 ·rename_i i hi
  split at h
  ·rename_i z b
   cases h;exact⟨z,jV hi b w,fun E=>CS E z⟩
  ·cases h
 ·cases h
def kL(P:Program)(t:TypeId):Option AV:=match fN P t,x2 P t with
 |some (.lit (.slice none 0 0)),some ks=>some (.listF ks [])
 |some z,_=>some z
 |none,_=>none
theorem Dv{P:Program}{t:TypeId}{a:AV}(h:kL P t=some a)(w:World):∃ z,(zeroValue t).run P w=.ok z w∧∀ E,rel E a z:=by
 unfold kL at h;split at h
 ·rename_i ks h1 b
  cases h;obtain⟨z,g1,g2⟩:=oG h1 w;refine⟨z,g1,fun E=>?_⟩;have:=g2 E;simp only[rel]at this;subst this;simp only[rel,db,G.rows];exact⟨none,0,rfl,aB _,.inl (by first|rfl|trivial)⟩
 ·rename_i z h1 _
  cases h;exact oG ‹fN P t=some a› w
 ·cases h
def eR(P:Program)(t:TypeId)(m k:AV)(ok:Bool)(H:List ab):Option AV :=
 match cz P t,m with
 | some (a,b),.map id=>match H[id]? with
  | some (.map es _)=>match fX P a k,kL P b with
   | some d,some z=>match du P a d es 0 with
    | some r=>let v:=match r with
      |some (_,v)=>v
      |none=>z
     some (match ok with
      |true=>.tuple [v,.lit (.bool r.isSome)]
      |false=>v)
    |none=>none
   |_,_=>none
  |_=>none
 |_,_=>none
theorem mO{E:Env}(HE:ak E){id cl:Nat}{es:List (AV × AV × Nat)}{c:Value}(hid:E.H[id]? = some (.map es cl))(hr:rel E (.map id) c) :
  ∃ b n ms,c=.map (some b)∧E.loc[id]? = some (some (b,n))∧E.w.heap[b]? = some (.map ms cl)∧ba E es ms.toList:=by
 have a:=HE.obj id _ hid;simp only[aD]at a;obtain⟨b,n,ms,h1,d,g⟩:=a;simp only[rel]at hr;obtain⟨_,_,h⟩:=hr;obtain⟨i,k,g1,g2⟩:=h ⟨_,hid,rfl⟩;rw[h1]at g1;simp only[aK,aN]at g1;obtain⟨rfl,rfl⟩:=g1;exact⟨b,n,ms,g2,h1,d,g⟩
theorem Dw{P:Program}{E:Env}(HE:ak E){t:TypeId}{m k v:AV}{ok:Bool}{c d:Value}(h:eR P t m k ok E.H=some v)(hm:rel E m c)(hk:rel E k d) :
  ∃ u,(jf t c d ok).run P E.w=.ok u E.w∧rel E v u:=by
 unfold eR at h;split at h
 case h_2=>cases h
 rename_i M N id g;split at h
 case h_2=>cases h
 rename_i es cl hid;split at h
 case h_2=>cases h
 rename_i O z A B;split at h
 case h_2=>cases h
 rename_i r hr;obtain⟨b,n,ms,rfl,h1,D,I⟩:=mO HE hid hm;have a:=fY A hk;obtain⟨r',g1,g2⟩:=fM a E.w I hr;obtain⟨i,J,z2⟩:=Dv B E.w;have l:(getObj b).run P E.w=.ok (.map ms cl) E.w:=by simp[getObj,fp,D]
 cases h;cases r with
 | none =>
  cases r' with
  |some _=>simp[cG]at g2
  | none =>
   refine⟨if ok then .tuple #[i,.bool false] else i,?_,?_⟩
   ·simp only[jf,bG,Sem.aX (en g),bH,l,eb,ff a,g1,J]
   ·cases ok with
    |true=>simp[rel,ae,z2 E]
    |false=>simpa using z2 E
 | some p =>
  cases r' with
  |none=>simp[cG]at g2
  | some q =>
   simp only[cG]at g2;obtain⟨R,y,_,_,_,_⟩:=g2;refine⟨if ok then .tuple #[q.2,.bool true] else q.2,?_,?_⟩
   ·simp only[jf,bG,Sem.aX (en g),bH,l,eb,ff a,g1]
   ·cases ok with
    |true=>simp[rel,ae,y]
    |false=>simpa using y
theorem L9{E:Env}(HE:ak E):b_ E (.map E.H.length) (E.H++[.map [] 0]) (.map (some E.w.heap.size)) { E.w with heap:=E.w.heap.push (.map #[] 0) }:=by
 have d:=Ext.push E.w (.map #[] 0);have hle:=Env.il (o:=.map [] 0) (l:=some (E.w.heap.size,0)) HE.len d (fun b n a=>by cases a; exact aB _);have hblk:(E.w.heap.push (.map #[] 0))[E.w.heap.size]? = some (.map #[] 0):=by simp
 refine⟨E.loc++[some (E.w.heap.size,0)],E.X.r,?_,ak.push HE d (fun b n a=>?_) ?_,hle⟩
 ·simp only [rel]
  refine⟨⟨_,rfl⟩,⟨.map [] 0,by simp,rfl,fun v g=>fI _⟩,fun _=>⟨E.w.heap.size,0,?_,rfl⟩⟩;rw[←HE.len]; simp
 ·cases a
  exact⟨aB _,by simp⟩
 ·simp only [aD]
  refine⟨E.w.heap.size,0,#[],?_,hblk,by simp[ba]⟩;simp only[Env.push]; rw[←HE.len]; simp
def mP(id:Nat)(H:List ab):Option (AV × List ab) :=
 match H[id]? with
 |some .c6=>some (.map id,H.set id (.map [] 0))
 |_=>none
theorem x5{id:Nat}{H H':List ab}{v:AV}(h:mP id H=some (v,H')):H[id]? = some .c6∧v=.map id∧H'=H.set id (.map [] 0):=by
 unfold mP at h;split at h
 ·rename_i hid
  cases h;exact⟨hid,rfl,rfl⟩
 ·cases h
theorem Dx{id:Nat}{H:List ab}(h:H[id]? = some .c6):mP id H=some (.map id,H.set id (.map [] 0)):=by
 unfold mP;rw[h]
theorem L_{E:Env}(HE:ak E){id:Nat}(hid:E.H[id]? = some .c6):b_ E (.map id) (E.H.set id (.map [] 0)) (.map (some E.w.heap.size)) { E.w with heap:=E.w.heap.push (.map #[] 0) }:=by
 have a:=Ext.push E.w (.map #[] 0);have l:=az hid;have g:(ab.c6).born=true→(ab.c6).aw = none→(ab.map [] 0).aw = none:=fun h=>by cases h
 have k:∀ v,(ab.map [] 0).aw = some v→∀ u,(ab.c6).aw = some u→u<v:=fun v _ u hu=>by cases hu
 have q:∀ v u,(ab.map [] 0).aw = some v→(ab.c6).aw = some u→u≤v:=fun v u _ hu=>by cases hu
 have hblk:(E.w.heap.push (.map #[] 0))[E.w.heap.size]? = some (.map #[] 0):=by simp
 have i:(E.loc.set id (some (E.w.heap.size,0)))[id]? = some (some (E.w.heap.size,0)):=bd (by rw[HE.len]; exact l);have hle:E.le { w:={ E.w with heap:=E.w.heap.push (.map #[] 0) },H:=E.H.set id (.map [] 0),loc:=E.loc.set id (some (E.w.heap.size,0)),X:=E.X } :=
  Env.im hid HE.len a.size (fun x d _=>a.same x d) (fun b n h=>by cases h; exact .inl (aB _)) (.inr k) q g
 refine⟨E.loc.set id (some (E.w.heap.size,0)),E.X.r,?_,?_,hle⟩
 ·simp only [rel]
  exact⟨⟨_,rfl⟩,⟨.map [] 0,by simp[l],rfl,fun v t=>fI _⟩,fun _=>⟨E.w.heap.size,0,i,rfl⟩⟩
 ·refine ak.jm HE hid a.size (fun x d _ => a.same x d) (fun b n h => by cases h; exact .inl ⟨aB _, by simp⟩) (.inr k) q g ?_
  simp only[aD];exact⟨E.w.heap.size,0,#[],i,hblk,by simp[ba]⟩
theorem L'{P:Program}{E:Env}(HE:ak E){t:TypeId}{id:Nat}{v:AV}{H':List ab}(h:mP id E.H=some (v,H')) :
  ∃ u w',(K4 t none).run P E.w=.ok u w'∧b_ E v H' u w':=by
 obtain⟨h1,rfl,rfl⟩:=x5 h;exact⟨_,_,by simp[K4,newObj]; rfl,L_ HE h1⟩
theorem Ma{a b:ByteArray}(h:a.toList=b.toList):a=b:=by
 have h1:(a==b)=true:=by rw[beq_toListBytes,h]; simp
 obtain⟨x⟩:=a;obtain⟨y⟩:=b;have e:x=y:=by simpa using(show (x==y)=true from h1)
 rw[e]
theorem Dy:∀{l m:List Value} {ks:List SK},bV ks l=true→bV ks m=true→cS l m=true→l=m
 | [],[],_,_,_,_=>rfl
 | a::l,b::m,ks,h1,d,h=>by
  cases ks with
  |nil=>simp[bV]at h1
  | cons k ks =>
   simp only[bV,aq]at h1 d;simp only[cS,aq]at h;have e:a=b:=by
    have g:=h1.1;have i:=d.1;have q:=h.1;unfold kindOk at g i;split at g<;>split at i<;>simp_all[lB]
    exact Ma h.1
   rw[e,Dy h1.2 d.2 h.2]
 | [],_::_,_,_,_,h|_::_,[],_,_,_,h=>by simp[cS]at h
theorem Dz{ks:List SK}:∀{l:List Value},bV ks l=true→∀(n:Nat),(l.zip l).all (fun(x,y)=>Cz n x y)=true:=by
 intro l
 induction l generalizing ks with
 |nil=>intro _ _; rfl
 | cons a l b =>
  intro h n;cases ks with
  |nil=>simp[bV]at h
  | cons k ks =>
   simp only[bV,aq]at h;simp only[List.zip_cons_cons,List.all_cons,aq];refine⟨?_,b h.2 n⟩;have hk:=h.1;unfold kindOk at hk;split at hk<;>cases n<;>simp_all[Cz,beq_toListBytes]
theorem uc{P:Program}{k:TypeId}{l m:List Value}{c d:Value}(h:kK P k l c)(h':kK P k m d)(he:cS l m=true):c=d∧Cz 10000 d c=true:=by
 obtain⟨h1,ks,v,i⟩:=h;obtain⟨g,A,q,w⟩:=h';rw[v]at q;cases q;have e:=Dy i w he;subst e;unfold isVal at h1 g;split at h1
 ·rename_i r hu
  rw[hu]at g;simp only[]at g;obtain⟨a,rfl,t⟩:=h1;obtain⟨b,rfl,y⟩:=g;have:a=b:=by apply ed; rw[t,y]
  subst this;refine⟨rfl,?_⟩;simp only[Cz,beq_self_eq_true,Bool.true_and];rw[t];exact Dz i 9999
 ·rename_i u
  split at g
  ·rename_i r hu
   exact(u r hu).elim
  ·have : c = d := by rw [h1] at g; simpa using g
   subst this;refine⟨rfl,?_⟩;have:=Dz i 10000;rw[h1]at this;simpa using this
def jX(P:Program)(t:TypeId)(m k v:AV)(H:List ab):Option (List ab) :=
 match cz P t,m with
 | some (a,_),.map id=>match H[id]? with
  | some (.map es cl)=>match fX P a k with
   | some b=>if v.closed=true∧k.closed=true then
     match du P a b es 0 with
     |some (some (i,_))=>some (H.set id (.map (es.modify i fun e=>(k,v,e.2.2)) cl))
     |some none=>some (H.set id (.map (es++[(k,v,cl)]) (cl+1)))
     |none=>none
    else none
   |none=>none
  |_=>none
 |_,_=>none
theorem dj{E:Env}:∀{es:List (AV × AV × Nat)} {ms:List MapEntry},ba E es ms↔es.length=ms.length∧∀(i:Nat) x e,es[i]? = some x→ms[i]? = some e →
  rel E x.1 e.key∧rel E x.2.1 e.val∧e.born=x.2.2∧x.1.closed=true∧x.2.1.closed=true
 | [],[]=>by simp[ba]
 | [],_::_=>by simp[ba]
 |(_,_,_)::_,[]=>by simp[ba]
 | (k,v,n)::es,e::ms=>by
  simp only[ba,dj (es:=es),dZ];constructor
  ·rintro ⟨h1, d, g, h, l, t, q⟩
   refine⟨by omega,fun i x y a b=>?_⟩;cases i with
   |zero=>simp at a b; subst a; subst b; exact⟨h1,d,g,h,l⟩
   |succ i=>exact q i x y (by simpa using a) (by simpa using b)
  ·rintro ⟨h1, d⟩
   obtain⟨r,a2,a3,a4,a5⟩:=d 0 (k,v,n) e rfl rfl;exact⟨r,a2,a3,a4,a5,by omega,fun i x y a b=>d (i+1) x y (by simpa using a) (by simpa using b)⟩
theorem ud{P:Program}{E:Env}(HE:ak E){id b n cl cl':Nat}{es es':List (AV × AV × Nat)}{ms ms':Array MapEntry}(hid:E.H[id]? = some (.map es cl)) (a:E.loc[id]? = some (some (b,n)))
  (l:E.w.heap[b]? = some (.map ms cl)) (hr:ba E es' ms'.toList) :
  ∃ w',(setObj b (.map ms' cl')).run P E.w=.ok () w'∧ak { w:=w',H:=E.H.set id (.map es' cl'),loc:=E.loc,X:=E.X }∧E.le { w:=w',H:=E.H.set id (.map es' cl'),loc:=E.loc,X:=E.X }:=by
 have k:=(HE.lt id b n a).1;have h:({ E.w with heap:=E.w.heap.setIfInBounds b (.map ms' cl') }:World).heap.size=E.w.heap.size:=by simp
 have g:∀ y,y≠b→({ E.w with heap:=E.w.heap.setIfInBounds b (.map ms' cl') }:World).heap[y]? = E.w.heap[y]? := by
  intro y q;simp only[xa];rw[if_neg (fun e=>q e.symm)]
 refine⟨{ E.w with heap:=E.w.heap.setIfInBounds b (.map ms' cl') },by simp[setObj,fp,l],?_,?_⟩
 ·have hle : E.le { w := { E.w with heap := E.w.heap.setIfInBounds b (.map ms' cl') }, H := E.H.set id (.map es' cl'), loc := E.loc, X := E.X } := Env.kH HE hid a (fun v d => d) h g
  refine HE.set hid a (fun v d=>d) h g ?_;simp only[aD];refine⟨b,n,ms',a,by simp[k],?_⟩;rw[dj]at hr⊢;refine⟨hr.1,fun i x e r he=>?_⟩;obtain⟨t,a2,a3,a4,a5⟩:=hr.2 i x e r he;exact⟨bA hle _ t,bA hle _ a2,a3,a4,a5⟩
 ·exact Env.kH HE hid a (fun v d=>d) h g
theorem qk{P:Program}{b:TypeId}{k:List Value}:∀{es:List (AV × AV × Nat)} {i j:Nat} {v:AV},du P b k es i=some (some (j,v))→i≤j∧∃ x l,es[j-i]? = some x∧fX P b x.1=some l∧cS k l=true
 | [],_,_,_,h=>by simp[du]at h
 | (k',d,n)::es,i,j,v,h=>by
  simp only[du]at h;split at h
  case h_2=>cases h
  rename_i l g;cases a:cS k l with
  | true =>
   rw[a]at h;cases h;exact⟨aB _,(k',d,n),l,by simp,g,a⟩
  | false =>
   rw[a]at h;obtain⟨h1,x,l',q,r,t⟩:=qk h;refine⟨by omega,x,l',?_,r,t⟩;rw[show j-i=(j-(i+1))+1 from by omega];simpa using q
theorem DA{P:Program}{E:Env}(HE:ak E){t:TypeId}{m k v:AV}{c d u:Value}{H':List ab}(h:jX P t m k v E.H=some H')(hm:rel E m c)(hk:rel E k d)(M:rel E v u) :
  ∃ w',(ku t c d u).run P E.w=.ok () w'∧ak { w:=w',H:=H',loc:=E.loc,X:=E.X }∧E.le { w:=w',H:=H',loc:=E.loc,X:=E.X }:=by
 unfold jX at h;split at h
 case h_2=>cases h
 rename_i kt et id N;split at h
 case h_2=>cases h
 rename_i es cl hid;split at h
 case h_2=>cases h
 rename_i kv V;split at h
 case isFalse=>cases h
 rename_i A;obtain⟨b,n,ms,rfl,h1,D,I⟩:=mO HE hid hm;have r:=fY V hk;have O:(getObj b).run P E.w=.ok (.map ms cl) E.w:=by simp[getObj,fp,D]
 obtain⟨hlen,B⟩:=dj.1 I;split at h
 ·rename_i i v0 hf
  cases h;obtain⟨r',g1,g2⟩:=fM r E.w I hf;cases r' with
  |none=>simp[cG]at g2
  | some q =>
   simp only[cG]at g2;obtain⟨q1,q2,_,e',J,q5⟩:=g2;obtain⟨_,x,l,f1,f2,f3⟩:=qk hf;simp only[fm]at J f1;obtain⟨a1,a2,a3,a4,a5⟩:=B i x e' f1 J;obtain⟨s1,s2⟩:=uc r (fY f2 a1) f3;have W:ms[i]? = some e':=by simpa using J
   obtain⟨w',r1,r2,r3⟩:=ud (P:=P) HE (es':=es.modify i fun e=>(k,v,e.2.2)) (ms':=ms.modify i fun e=>{ e with key:=d,val:=u }) (cl':=cl) hid h1 D (by
    rw[dj];refine⟨by simp[hlen],fun j y z a g=>?_⟩;simp only[gv]at a;simp only[jg,gv]at g;obtain⟨y0,Y,rfl⟩:=df.1 a;obtain⟨z0,Yc,rfl⟩:=df.1 g;obtain⟨b1,b2,R,b4,b5⟩:=B j y0 z0 Y Yc;by_cases e:i=j
    ·subst e
     simp only[if_true];exact⟨hk,M,R,A.2,A.1⟩
    ·simp only [if_neg e]
     exact⟨b1,b2,R,b4,b5⟩)
   refine⟨w',?_,r2,r3⟩;subst q1;have Yd:(nV e'.key d).run P E.w=.ok d E.w:=by simp[nV,s2]
   simp only[ku,bG,Sem.aX (en N),bH,O,ff r,g1,W,eZ,nW,Yd];exact r1
 ·rename_i hf
  cases h;obtain⟨r',g1,g2⟩:=fM r E.w I hf;cases r' with
  |some _=>simp[cG]at g2
  | none =>
   obtain⟨w',r1,r2,r3⟩:=ud (P:=P) HE (es':=es++[(k,v,cl)]) (ms':=ms.push { key:=d,val:=u,born:=cl }) (cl':=cl+1) hid h1 D (by
    rw[dj];refine⟨by simp[hlen],fun j y z a g=>?_⟩;simp only[mD,d_,hlen]at a g;by_cases e:j<ms.toList.length
    ·simp only [if_pos e] at a g
     exact B j y z a g
    ·simp only [if_neg e] at a g
     cases U:j-ms.toList.length with
     | zero =>
      rw[U]at a g;simp at a g;subst a; subst g;exact⟨hk,M,rfl,A.2,A.1⟩
     |succ _=>rw[U]at a; simp at a)
   refine⟨w',?_,r2,r3⟩;simp only[ku,bG,Sem.aX (en N),bH,O,ff r,g1];exact r1
 ·cases h
def ql(P:Program)(t:TypeId)(m k:AV)(H:List ab):Option (List ab) :=
 match cz P t,m with
 | some (a,_),.map id=>match H[id]? with
  | some (.map es cl)=>match fX P a k with
   | some b=>match du P a b es 0 with
    |some (some (i,_))=>some (H.set id (.map (es.eraseIdx i) cl))
    |some none=>some (H.set id (.map es cl))
    |none=>none
   |none=>none
  |_=>none
 |_,_=>none
theorem Mb{P:Program}{E:Env}(HE:ak E){t ty:TypeId}{tys:Array TypeId}{m k:AV}{c d:Value}{cs:Array Value}{H':List ab}(h:ql P t m k E.H=some H')(h0:tys[0]? = some t)
  (A:cs[0]? = some c) (B:cs[1]? = some d) (hm:rel E m c) (hk:rel E k d) :
  ∃ w',(K5 tys ty cs).run P E.w=.ok (.tuple #[]) w'∧ak { w:=w',H:=H',loc:=E.loc,X:=E.X }∧E.le { w:=w',H:=H',loc:=E.loc,X:=E.X }:=by
 unfold ql at h;split at h
 case h_2=>cases h
 rename_i O R id D;split at h
 case h_2=>cases h
 rename_i es cl hid;split at h
 case h_2=>cases h
 rename_i U M;obtain⟨b,n,ms,rfl,h1,u,r⟩:=mO HE hid hm;have l:=fY M hk;have I:(getObj b).run P E.w=.ok (.map ms cl) E.w:=by simp[getObj,fp,u]
 obtain⟨hlen,v⟩:=dj.1 r;split at h
 ·rename_i i v0 hf
  cases h;obtain⟨r',g1,g2⟩:=fM l E.w r hf;cases r' with
  |none=>simp[cG]at g2
  | some q =>
   simp only[cG]at g2;obtain⟨N,V,_,e',W,Y⟩:=g2;obtain⟨w',r1,r2,r3⟩:=ud (P:=P) HE (es':=es.eraseIdx i) (ms':=ms.eraseIdxIfInBounds i) (cl':=cl) hid h1 u (by
    rw[dj];have e:(ms.eraseIdxIfInBounds i).toList=ms.toList.eraseIdx i:=by simp
    rw[e];refine⟨by simp[List.length_eraseIdx,hlen],fun j y z a g=>?_⟩;rw[List.getElem?_eraseIdx]at a g;by_cases J:j<i
    ·simp only [if_pos J] at a g
     exact v j y z a g
    ·simp only [if_neg J] at a g
     exact v (j+1) y z a g)
   refine⟨w',?_,r2,r3⟩;subst N;simp only[K5,h0,A,B,bG,Sem.aX (en D),bH,I,ff l,g1];rw[r1];rfl
 ·rename_i hf
  cases h;obtain⟨r',g1,g2⟩:=fM l E.w r hf;cases r' with
  |some _=>simp[cG]at g2
  | none =>
   obtain⟨w',r1,r2,r3⟩:=ud (P:=P) HE (es':=es) (ms':=ms) (cl':=cl) hid h1 u r;refine⟨w',?_,r2,r3⟩;simp only[K5,h0,A,B,bG,Sem.aX (en D),bH,I,ff l,g1];rw[r1];rfl
 ·cases h
end Go.AL

namespace Go.AL
open Go
variable [Dr]
theorem DB{α:Type}{k:Nat}:∀{l:List (List α)} (n:Nat),(∀ r∈l,r.length=k)→(l.take n).flatten=l.flatten.take (n*k)
 | [],n,_=>by simp
 |r::l,0,_=>by simp
 | r::l,n+1,h=>by
  have hr:r.length=k:=h r cW;have a:=DB (l:=l) n (fun x b=>h x (da _ b));have e:(n+1)*k=k+n*k:=by rw[eF]; omega
  simp only[wZ,pO,a,e];rw[List.take_append,hr];have d:r.take (k+n*k)=r:=List.take_of_length_le (by omega);have g:k+n*k-k=n*k:=by omega
  rw[d,g]
theorem DC{α:Type}{k:Nat}:∀{l:List (List α)} (n:Nat),(∀ r∈l,r.length=k)→(l.drop n).flatten=l.flatten.drop (n*k)
 | [],n,_=>by simp
 |r::l,0,_=>by simp
 | r::l,n+1,h=>by
  have hr:r.length=k:=h r cW;have a:=DC (l:=l) n (fun x b=>h x (da _ b));have e:(n+1)*k=k+n*k:=by rw[eF]; omega
  simp only[W6,pO,a,e];rw[List.drop_append,hr];have d:r.drop (k+n*k)=[]:=List.drop_eq_nil_of_le (by omega);have g:k+n*k-k=n*k:=by omega
  rw[d,g,w9]
theorem Mc{P:Program}{E:Env}(HE:ak E){id k ad b m off:Nat}{rows news:List (List AV)}{vals:List Value}(hid:E.H[id]? = some (.vec k ad rows)) (i:E.loc[id]? = some (some (b,m)))
  (d:ae E news.flatten vals) (h1:∀ x∈vals,cN x=true) (hw:∀ r∈news,r.length=k) (V:dW news) (hle:off+news.length≤rows.length) :
  ∃ w',(storeCells ⟨b,off*k,none⟩ vals).run P E.w=.ok () w'∧ak { w:=w',H:=E.H.set id (.vec k ad (rows.take off++news++rows.drop (off+news.length))),loc:=E.loc,X:=E.X } ∧
   E.le { w:=w',H:=E.H.set id (.vec k ad (rows.take off++news++rows.drop (off+news.length))),loc:=E.loc,X:=E.X }:=by
 rcases HE.obj id _ hid with⟨l,_⟩|⟨b',m',l,⟨cur,el,hblk,B⟩,N,O,R⟩
 ·rw[i]at l; cases l
 rw[i]at l;cases l;have g:∀ r∈rows,r.length=k:=xR R;have hlen:vals.length=news.length*k:=by rw[←fb d,oD hw]
 have hmul:(off+news.length)*k≤rows.length*k:=pQ _ hle;rw[eF]at hmul;have Yc:rows.length*k≤m*k:=pQ _ N;have q:off*k+0+vals.length≤cur.size:=by rw[B]; omega
 have u:=run_storeCells_at P b (off*k) el vals 0 cur E.w hblk q (fun v d=>by rw[tT]; exact h1 v d);simp only[mB]at u q;generalize t:E.w.setRow b (cur.toList.take (off*k)++vals++cur.toList.drop (off*k+vals.length)).toArray=w' at u;have y:w'.heap.size=E.w.heap.size:=by rw[←t]; exact setRow_size _ _ _
 have Yd:c7 E.w w':=by rw[←t]; exact⟨rfl,rfl,rfl,by first|exact fun _=>aB _|exact fun _=>dT _ _⟩
 have A:∀ x,x≠b→w'.heap[x]? = E.w.heap[x]? := by intro x Y; rw[←t]; exact setRow_other _ _ _ _ Y
 have J:w'.heap[b]? = some (.cells (cur.toList.take (off*k)++vals++cur.toList.drop (off*k+vals.length)).toArray el (0,0)):=by
  rw[←t]; exact setRow_heap E.w b cur _ el (0,0) hblk
 have D:∀ v,(ab.vec k ad (rows.take off++news++rows.drop (off+news.length))).aw = some v→(ab.vec k ad rows).aw = some v:=fun v d=>by simpa[ab.aw]using d
 have I:=Env.kH (o':=.vec k ad (rows.take off++news++rows.drop (off+news.length))) HE hid i D y A;have W:(rows.take off++news++rows.drop (off+news.length)).length=rows.length:=by
  simp only[gu,kq,mC];omega
 refine⟨w',u,ak.set HE hid i D y A ?_,I⟩;simp only[aD];right;refine⟨b,m,i,⟨_,el,J,?_⟩,by rw[W]; exact N,?_,?_⟩
 ·simp only [w8, gu, kq, mC, jP, B] at q ⊢
  omega
 ·intro r hr
  simp only[bQ]at hr;rcases hr with(h|h)|h
  ·exact O r (s_ h)
  ·exact V r h
  ·exact O r (s9 h)
 ·refine tV ?_ ?_
  ·intro r hr
   simp only[bQ]at hr;rcases hr with(h|h)|h
   ·exact g r (s_ h)
   ·exact hw r h
   ·exact g r (s9 h)
  ·rw [tc, tc, DB off g, DC _ g]
   have U:=tU R;have M:news.flatten.length=news.length*k:=oD hw;have:=xV (E:=E) (E':={ w:=w',H:=E.H.set id (.vec k ad (rows.take off++news++rows.drop (off+news.length))),loc:=E.loc,X:=E.X }) (o:=0) (col:=off*k) (as:=rows.flatten) (cs:=news.flatten)
    (fun a c hr=>bA I a hr) hblk (by simpa using J) (by simpa using q) U d h1 (by rw[oD g,M]; omega)
   rw[M]at this;rw[show (off+news.length)*k=off*k+news.length*k from eF _ _ _];exact this
def qm(P:Program)(t:TypeId)(x:AV)(H:List ab):Option (List ab) :=
 match bJ P t,x with
 | .slice e sz _,.vec w id ad off n=>match di P e,H[id]? with
  | some z,some (.vec k v rows)=>if k=w∧w=sz∧v=ad∧z.length=sz∧0<sz∧off+n≤rows.length then
    some (H.set id (.vec k v (rows.take off++cu n (z.map AV.lit)++rows.drop (off+n)))) else none
  |_,_=>none
 |_,_=>none
theorem Md{P:Program}{E:Env}(HE:ak E){t ty:TypeId}{tys:Array TypeId}{x:AV}{c:Value}{cs:Array Value}{H':List ab}(h:qm P t x E.H=some H')(h0:tys[0]? = some t)
  (y:cs[0]? = some c) (d:rel E x c) :
  ∃ w',(K7 tys ty cs).run P E.w=.ok (.tuple #[]) w'∧ak { w:=w',H:=H',loc:=E.loc,X:=E.X }∧E.le { w:=w',H:=H',loc:=E.loc,X:=E.X }:=by
 unfold qm at h;split at h
 case h_2=>cases h
 rename_i e sz Ye w id ad off n hk;obtain⟨hu,i,hi,hs,_⟩:=ft hk;split at h
 case h_2=>cases h
 rename_i z k v rows R hid;split at h
 case isFalse=>cases h
 rename_i U;obtain⟨rfl,rfl,rfl,J,Yc,hle⟩:=U;cases h;obtain⟨i',g,A,M,B,N⟩:=jU R;rw[hi]at A;cases A;simp only[rel]at d;obtain⟨⟨base,cap,rfl,Yd,V⟩,_,D⟩:=d;obtain⟨q1,W⟩:=D ⟨_,hid,rfl⟩;cases n with
 | zero =>
  refine⟨E.w,?_,?_,?_⟩
  ·simp only [K7, h0, y, bG, Sem.aX hu, bH]
   cases base<;>rfl
  ·simp only [Xf, cV, mB, pN]
   rw[jW hid];exact HE
  ·simp only [Xf, cV, mB, pN]
   rw[jW hid];exact Env.le.refl E
 | succ n =>
  obtain⟨b,o,rfl⟩:=V (by omega);have a:∃ b m,E.loc[id]? = some (some (b,m)):=by
   rcases HE.obj id _ hid with⟨_,l⟩|⟨q,m',l,_⟩
   ·subst l
    simp at hle
   ·exact⟨q,m',l⟩
  obtain⟨q,m,a⟩:=a;obtain⟨g1,o',g2,g3⟩:=W q m a;have Y:=g2 (by omega);subst Y;simp only[iM,aK,Cn]at g3;obtain⟨⟨rfl,rfl,_⟩,_,_⟩:=g3;have I:(tb g.cells (n+1)).toList=(cu (n+1) z).flatten:=by
   rw[←B];have O:0<g.cells.size:=by
    have:g.cells.size=z.length:=by rw[←B]; simp
    omega
   exact range_zero g.cells (n+1) O
  have u:∀ r∈cu (n+1) (z.map AV.lit),r=z.map AV.lit:=fun r hr=>(K8.1 hr).2;obtain⟨w',r1,r2,r3⟩:=Mc (P:=P) HE (off:=off) (news:=cu (n+1) (z.map AV.lit)) (vals:=(cu (n+1) z).flatten) hid a (qi z (n+1))
   (fun x d=>N x (qj d)) (fun r hr=>by rw[u r hr]; simp[J]) (fun r hr=>by rw[u r hr]; exact x4 z) (by simpa using hle)
  simp only[List.length_replicate]at r2 r3;refine⟨w',?_,r2,r3⟩;simp only[K7,h0,y,bG,Sem.aX hu,bH,jV hi M,I];rw[r1];rfl
theorem Me{P:Program}{w:World}{t xt ty e:TypeId}{i:TypeInfo}{z:Value}{sz:Nat}{base:Option Addr}{m:Nat}{k k':IntKind}
  (g:P.underlying t=some (.slice e)) (h:P.underlying xt=some (.int k)) (hi:P.info? e=some i) (hs:i.size=sz) (l:i.zero=some z) (a:0<sz) (h0:0<m) (hm:m≤1048576) (q:i.bytes≤1048576) :
  ∃ C,m≤C∧(kr #[t,xt] ty #[.slice base 0 0,.int k' (m:Int)]).run P w =
   .ok (.slice (some ⟨w.heap.size,0,none⟩) m C) (w.drew.alloc (.cells ((tb z.cells m).toList++(tb z.cells (C-m)).toList).toArray e)):=by
 have b:IntKind.i64.wrap (m:Int)=m:=wrap_small (by omega) (by omega);have h1:¬ (m≤0):=by omega
 have r:¬ ((m:Int)<0):=by omega
 have d:m*i.bytes≤1048576*1048576:=Xa hm q;have u:¬ ((281474976710656:Int)<(m:Int)*(i.bytes:Int)):=by
  have:((m*i.bytes:Nat):Int)≤1099511627776:=Int.ofNat_le.2 (nN d (by decide));rw[Int.natCast_mul]at this;omega
 have v:¬ (IntKind.i64.max<(m:Int)):=by
  show ¬ ((9223372036854775807:Int)<(m:Int))
  omega
 have B:Cs m 0*i.bytes≤281474976710656:=growslice_fits (by omega) (by omega);have y:¬ (281474976710656<Cs m 0*i.bytes):=by omega
 have A:¬ (m*sz=0):=by
  have:=Nat.mul_pos h0 a;omega
 refine⟨grownCap w m 0 e,?_,?_⟩
 ·simp[grownCap,Xb]
 ·simp [kr, run_underlying g, run_underlying h, sizeOf, typeInfo, zeroValue, hi, l, hs, asInt, asIntOf, b, h1, r, u, v, y, A, Xc, newRow, grownCap, fT]
  rw[if_neg (by omega:¬ m=0),if_neg (by omega:¬ (9223372036854775807:Int)<(m:Int))];cases base<;>simp[loadCells,loadCellsFrom]<;>(congr 2; apply ed; simp)
def mQ(P:Program)(t xt:TypeId)(s x:AV)(H:List ab):Option (AV × List ab) :=
 match bJ P t,bJ P xt,s,x with
 | .slice e sz a,.int _,.lit (.slice none 0 0),.lit (.int _ n)=>match di P e with
  |some z=>if z.length=sz∧0<sz∧a≤1048576∧0<n∧n≤1048576 then some (.vec sz H.length 0 0 n.toNat,H++[.vec sz 0 (cu n.toNat (z.map AV.lit))]) else none
  |none=>none
 |_,_,_,_=>none
theorem Mf{P:Program}{E:Env}(HE:ak E){t xt ty:TypeId}{s x v:AV}{H':List ab}{c q:Value}(h:mQ P t xt s x E.H=some (v,H'))(hs:rel E s c)(a:rel E x q) :
  ∃ u w',(kr #[t,xt] ty #[c,q]).run P E.w=.ok u w'∧b_ E v H' u w':=by
 unfold mQ at h;split at h
 case h_2=>cases h
 rename_i e sz R k k' n hk A;split at h
 case h_2=>cases h
 rename_i z M;split at h
 case isFalse=>cases h
 rename_i N;obtain⟨h1,O,V,W,X⟩:=N;cases h;obtain⟨hu,i,hi,B,U⟩:=ft hk;obtain⟨Y,b,l,D,d,I⟩:=jU M;rw[hi]at l;cases l;simp only[rel]at hs a;subst hs;subst a;obtain⟨m,rfl⟩:∃ m:Nat,n=(m:Int):=⟨n.toNat,by omega⟩
 obtain⟨C,g1,g2⟩:=Me (P:=P) (w:=E.w) (ty:=ty) (base:=none) (k':=k') (m:=m) hu (C3 A) hi B D O (by omega) (by omega) (by omega);have J:0<b.cells.size:=by
  have:b.cells.size=z.length:=by rw[←d]; simp
  omega
 have y:(tb b.cells m).toList=(cu m z).flatten:=by rw[←d]; exact range_zero b.cells m J
 rw[y]at g2;have g:∀ r∈cu m (z.map AV.lit),r=z.map AV.lit:=fun r hr=>(K8.1 hr).2;refine⟨_,_,g2,?_⟩;simp only[Int.toNat_natCast];refine Dd HE (qi z m) (fun x a=>I x (qj a)) (fun r hr=>by rw[g r hr]; simp[h1]) (fun r hr=>by rw[g r hr]; exact x4 z) (by simp) g1 ?_;simp only[jP,size_zeroCells];rw[←h1,←d];simp
end Go.AL

namespace Go.AL
open Go
variable [Dr]
def qn(P:Program)(t:TypeId)(n:Nat)(parts:List (Nat × AV))(H:List ab):Option (AV × List ab) :=
 match oF P t n parts with
 |some (.list sz rows)=>some (.vec sz H.length 0 0 rows.length,H++[.vec sz 0 rows])
 |_=>none
theorem DD(k:Nat):∀(n:Nat) (out:List AV),out.length=n*k→(chunk k n out).flatten=out
 | 0,out,h=>by
  have:out=[]:=w7 (by simpa using h);subst this;rfl
 | n+1,out,h=>by
  simp only[chunk,pO];rw[DD k n (out.drop k) (by rw[mC,h,Xg]; omega)];exact pN k out
theorem DE(k:Nat):∀(n:Nat) (out:List AV),out.length=n*k→∀ r∈chunk k n out,r.length=k
 |0,_,_,r,hr=>by simp[chunk]at hr
 | n+1,out,h,r,hr=>by
  simp only[chunk]at hr;rw[Xg]at h;rcases bN.1 hr with rfl|hr
  ·rw [kq]
   omega
  ·exact DE k n (out.drop k) (by rw[mC]; omega) r hr
theorem Mg{P:Program}{E:Env}(HE:ak E){t:TypeId}{n:Nat}{parts:List (Nat × AV)}{cparts:List (Nat × Value)}{v:AV}{H':List ab}(h:qn P t n parts E.H=some (v,H'))
  (hm:parts.map (·.1)=cparts.map (·.1)) (I:ae E (parts.map (·.2)) (cparts.map (·.2))) :
  ∃ u w',(Cy t n cparts.toArray).run P E.w=.ok u w'∧b_ E v H' u w':=by
 unfold qn at h;split at h
 case h_2=>cases h
 rename_i d O h0;cases h;unfold oF at h0;split at h0
 case h_2=>cases h0
 rename_i e sz R hk;obtain⟨hu,i,hi,hs,_⟩:=ft hk;split at h0
 case h_2=>cases h0
 rename_i z J;obtain⟨U,b,l,y,q,A⟩:=jU J;rw[hi]at l;cases l;split at h0
 case isFalse=>cases h0
 rename_i M;obtain⟨g1,g2,g3⟩:=M;split at h0
 case h_2=>cases h0
 rename_i out r;split at h0
 case isFalse=>cases h0
 rename_i g;have B:b.cells.size=sz:=by rw[←g1,←q]; simp
 obtain⟨a,k⟩:∃ a:Array Value,a.toList=(cu n z).flatten:=⟨((cu n z).flatten).toArray,by simp⟩
 obtain⟨o,f1,f2,f3⟩:=qe (E:=E) (cs:=a) r (by rw[k]; exact qi z n) (by rw[k]; intro x N; exact A x (qj N)) hm I;cases n with
 |zero=>cases h0
 |succ n =>
 cases h0;refine⟨.slice (some ⟨E.w.heap.size,0,none⟩) (n+1) (n+1),{ E.w with heap:=E.w.heap.push (.cells (o.toList++[]).toArray e) },?_,?_⟩
 ·have D : ¬ ((n + 1) * i.size > 2 ^ 24) := by rw [hs]; omega
  simp only[Cy,bG,Sem.aX hu,bH,Sem.run_sizeOf hi];rw[if_neg D];have h0:¬ ((n+1)*i.size=0):=by
   intro h;rcases KX.1 h with h|h
   ·omega
   ·omega
  rw[if_neg h0];simp only[bG,jV hi y,bH,eb];have:(Cx (fun x=>b.cells[x%b.cells.size]!) (fo ((n+1)*i.size)))=a:=by
   apply ed;rw[hs,←B,range_zero b.cells (n+1) (by omega),q,k]
  rw[this,hs,f1];simp[newRow]
 ·rw [qf]
  exact Dj HE (C:=n+1) (by rw[DD d (n+1) out g.2]; exact f2) f3 (DE d (n+1) out g.2) (xO d _ out g.1) (qf ..) (aB _) (by simp)
end Go.AL

namespace Go.AL
open Go
variable [Dr]
def dO (r:Nat→List (Option (Option (Nat × Nat)))) (l0:Nat) (q:Option (Nat × Nat)):Nat→List (Option (Option (Nat × Nat))):=fun l=>if l=l0 then r l++[some q] else r l
def eS (r:Nat→List (Option (Option (Nat × Nat)))) (l0 h:Nat):Nat→List (Option (Option (Nat × Nat))):=fun l=>if l=l0 then (r l).set h none else r l
def fZ (r:Nat→List (Option (Option (Nat × Nat)))) (l0:Nat):Nat→List (Option (Option (Nat × Nat))):=fun l=>if l=l0 then (r l).map fun _=>none else r l
theorem Mh{r:Nat→List (Option (Option (Nat × Nat)))}{l0 l h:Nat}{q:Option (Nat × Nat)}{x:Option (Option (Nat × Nat))}(a:(dO r l0 q l)[h]? = some x):(r l)[h]? = some x∨(l=l0∧h=(r l).length∧x=some q):=by
 unfold dO at a;split at a
 ·rename_i e
  rw[d_]at a;split at a
  ·exact .inl a
  ·right
   cases hk:h-(r l).length with
   | zero =>
    rw[hk]at a;simp at a;exact⟨e,by omega,a.symm⟩
   |succ n=>rw[hk]at a; simp at a
 ·exact .inl a
theorem DF{r:Nat→List (Option (Option (Nat × Nat)))}{l0 l h:Nat}{q:Option (Nat × Nat)}(a:h<(r l).length):h<(dO r l0 q l).length∧(dO r l0 q l)[h]? = (r l)[h]? := by
 unfold dO;split
 ·exact⟨by simp; omega,cn a⟩
 ·exact⟨a,rfl⟩
theorem Mi{r:Nat→List (Option (Option (Nat × Nat)))}{l0 h0 l h:Nat}{q:Option (Nat × Nat)}(a:(eS r l0 h0 l)[h]? = some (some q)):(r l)[h]? = some (some q)∧¬ (l=l0∧h=h0):=by
 unfold eS at a;split at a
 ·rw [dy] at a
  split at a
  ·split at a<;>cases a
  ·rename_i h1
   exact⟨a,fun e=>h1 e.2.symm⟩
 ·rename_i h1
  exact⟨a,fun e=>h1 e.1⟩
theorem x6{r:Nat→List (Option (Option (Nat × Nat)))}{l0 h0 l h:Nat}(a:¬ (l=l0∧h=h0)):(eS r l0 h0 l)[h]? = (r l)[h]? := by
 unfold eS;split
 ·rename_i e
  exact aJ (fun b=>a ⟨e,b.symm⟩)
 ·rfl
theorem Mj{r:Nat→List (Option (Option (Nat × Nat)))}{l0 h0 l:Nat}:(eS r l0 h0 l).length=(r l).length:=by
 unfold eS;split<;>simp
theorem gB{r:Nat→List (Option (Option (Nat × Nat)))}{l0 l h:Nat}{q:Option (Nat × Nat)}(a:(fZ r l0 l)[h]? = some (some q)):(r l)[h]? = some (some q)∧l≠l0:=by
 unfold fZ at a;split at a
 ·rw [b7] at a
  cases b:(r l)[h]? with
  |none=>rw[b]at a; cases a
  |some y=>rw[b]at a; cases a
 ·rename_i e
  exact⟨a,e⟩
theorem DG{r:Nat→List (Option (Option (Nat × Nat)))}{l0 l:Nat}:(fZ r l0 l).length=(r l).length:=by
 unfold fZ;split<;>simp
theorem ak.attach{E:Env}(H:ak E){id j l0:Nat}{o o' oj:ab}{q:Option (Nat × Nat)}(hid:E.H[id]? = some o)(hlab:o.label=some l0)(Y:o'.label=some l0)(Yg:o'.aw = o.aw)(W:E.H[j]? = some oj)(Ye:oj.label=none)(hq:E.loc[j]? = some q)
  (ho:E.le { w:=E.w,H:=(E.H.set id o').set j .dead,loc:=E.loc.set j none,X:=E.X.re (dO E.X.r l0 q) }→aD { w:=E.w,H:=(E.H.set id o').set j .dead,loc:=E.loc.set j none,X:=E.X.re (dO E.X.r l0 q) } id o')
  (hmm:o.cF=none∨o'.cF=o.cF:=by first|exact .inl rfl|exact .inr rfl|assumption) :
  ak { w:=E.w,H:=(E.H.set id o').set j .dead,loc:=E.loc.set j none,X:=E.X.re (dO E.X.r l0 q) }∧E.le { w:=E.w,H:=(E.H.set id o').set j .dead,loc:=E.loc.set j none,X:=E.X.re (dO E.X.r l0 q) }:=by
 have Yh:j≠id:=fun e=>by rw[e,hid]at W; cases W; rw[hlab]at Ye; cases Ye
 have Yi:=az hid;have U:=az W;have J:∀(i:Nat) x,(E.loc.set j none)[i]? = some (some x)→i≠j∧E.loc[i]? = some (some x):=fun i x hi=>by
  rw[dy]at hi;split at hi
  ·split at hi<;>cases hi
  ·rename_i e
   exact⟨Ne.symm e,hi⟩
 have Yc:∀(i:Nat) x,((E.H.set id o').set j .dead)[i]? = some x→(i=j∧x=.dead)∨(i=id∧x=o')∨(i≠j∧i≠id∧E.H[i]? = some x):=fun i x hi=>by
  by_cases e:i=j
  ·subst e
   rw[bd (by simp; exact U)]at hi;cases hi;exact .inl ⟨rfl,rfl⟩
  ·rw [aJ (Ne.symm e)] at hi
   by_cases t:i=id
   ·subst t
    rw[bd Yi]at hi;cases hi;exact .inr (.inl ⟨rfl,rfl⟩)
   ·rw [aJ (Ne.symm t)] at hi
    exact .inr (.inr ⟨e,t,hi⟩)
 have Yd:((E.H.set id o').set j .dead)[id]? = some o':=by
  rw[aJ Yh,bd Yi]
 have M:∀(l h b m:Nat),(dO E.X.r l0 q l)[h]? = some (some (some (b,m)))→(E.X.r l)[h]? = some (some (some (b,m)))∨(l=l0∧h=(E.X.r l).length∧E.loc[j]? = some (some (b,m))):=fun l h b m hk=>by
  rcases Mh hk with g|⟨g1,g2,g3⟩
  ·exact .inl g
  ·cases g3
   exact .inr ⟨g1,g2,hq⟩
 have hle:E.le { w:=E.w,H:=(E.H.set id o').set j .dead,loc:=E.loc.set j none,X:=E.X.re (dO E.X.r l0 q) }:=by
  refine⟨fun i ad hp=>?_,aB _,fun _ _ _=>rfl,fun b hb Yf=>?_,fun i ad hp u=>?_,⟨rfl,rfl⟩,fun l h hh=>?_,.refl _,fun i l x h1 d N=>?_⟩
  rotate_right
  ·by_cases e : i = j
   ·subst e
    obtain⟨y,B,h4⟩:=N;simp only[]at B;rw[bd (by simp; exact U)]at B;cases B;cases h4
   ·by_cases t : i = id
    ·subst t
     rw[hid]at h1;cases h1;have O:l0=l:=by
      have:=ab.jh d;rw[hlab]at this;cases this;rfl
     subst O;rcases hmm with h|h
     ·rw[h]at d; cases d
     ·exact⟨⟨[some q],if_pos rfl⟩,o',Yd,by rw[h]; exact d⟩
    ·have O : l ≠ l0 := fun O => t (H.uniq i id x o l h1 hid (ab.jh d) (by rw [O]; exact hlab))
     exact⟨⟨[],by rw[cV]; exact if_neg O⟩,x,by simp only[]; rw[aJ (Ne.symm e),aJ (Ne.symm t)]; exact h1,d⟩
  ·obtain ⟨x, h1, d⟩ := hp
   by_cases e:i=j
   ·subst e
    exact⟨.dead,by simp only[]; rw[bd (by simp; exact U)],rfl,fun v N=>by cases N⟩
   ·by_cases t : i = id
    ·subst t
     rw[hid]at h1;cases h1;exact⟨o',Yd,ab.tD Y,fun v N=>d.2 v (by rw[←Yg]; exact N)⟩
    ·exact⟨x,by simp only[]; rw[aJ (Ne.symm e),aJ (Ne.symm t)]; exact h1,d⟩
  ·rintro (⟨i, c, hi⟩ | ⟨l, h, m, hm⟩)
   ·exact Yf (.inl ⟨i,c,(J i _ hi).2⟩)
   ·rcases M l h b m hm with h1 | ⟨_, _, h1⟩
    ·exact Yf (.inr ⟨l,h,m,h1⟩)
    ·exact Yf (.inl ⟨j,m,h1⟩)
  ·obtain ⟨x, h1, d⟩ := u
   rcases Yc i x h1 with⟨_,rfl⟩|⟨rfl,rfl⟩|⟨I,t,B⟩
   ·cases d
   ·exact⟨⟨o,hid,by rw[←Yg]; exact d⟩,by simp only[]; rw[aJ Yh]⟩
   ·exact⟨⟨x,B,d⟩,by simp only[]; rw[aJ (Ne.symm I)]⟩
  ·obtain ⟨g1, g2⟩ := DF (r := E.X.r) (l0 := l0) (q := q) hh
   exact⟨g1,fun y D=>by
    have D:(dO E.X.r l0 q l)[h]? = some (some y):=D
    rwa [g2]at D⟩
 refine⟨⟨by simp[H.len],fun i k b m n hi hk=>H.inj i k b m n (J i _ hi).2 (J k _ hk).2,fun i b m hi=>H.lt i b m (J i _ hi).2,fun b hb=>H.X b hb,fun i x hi=>?_,H.dX.bh hle.toC,fun l h l' h' b m n h1 d=>?_,fun i b m l h n hi hk=>?_,fun l h b m hk=>?_,fun i k x y l hi hk h1 d=>?_,fun l hn h y D=>?_⟩,hle⟩
 ·rcases Yc i x hi with ⟨rfl, rfl⟩ | ⟨rfl, rfl⟩ | ⟨I, t, B⟩
  ·simp only [aD]
   rw[bd (by rw[H.len]; exact U)]
  ·exact ho hle
  ·refine iN (fun a _ hr => bA hle a hr) (by simp only []; rw [aJ (Ne.symm I)]) (fun _ _ _ => rfl) (fun l u => ?_) (H.obj i x B)
   have V:l≠l0:=fun e=>t (H.uniq i id x o l B hid u (by rw[hlab,e]));exact⟨if_neg V,fun _ _ _ _=>rfl⟩
 ·rcases M l h b m h1 with g1 | ⟨g1, g2, g3⟩ <;> rcases M l' h' b n d with A | ⟨A, k2, R⟩
  ·exact H.dD _ _ _ _ _ _ _ g1 A
  ·exact(H.cd _ _ _ _ _ _ R g1).elim
  ·exact(H.cd _ _ _ _ _ _ g3 A).elim
  ·exact⟨by rw[g1,A],by rw[g2,k2,g1,A]⟩
 ·obtain ⟨g0, g1⟩ := J i _ hi
  rcases M l h b n hk with A|⟨A,k2,R⟩
  ·exact H.cd _ _ _ _ _ _ g1 A
  ·exact g0 (H.inj _ _ _ _ _ g1 R)
 ·rcases M l h b m hk with A | ⟨A, k2, R⟩
  ·exact H.bR _ _ _ _ A
  ·exact H.lt _ _ _ R
 ·have key:∀ (i:Nat) x,((E.H.set id o').set j .dead)[i]? = some x→x.label=some l→∃ y,E.H[i]? = some y∧y.label=some l:=by
   intro i x hi u;rcases Yc i x hi with⟨_,rfl⟩|⟨rfl,rfl⟩|⟨I,t,B⟩
   ·cases u
   ·exact⟨o,hid,by rw[hlab,←Y,u]⟩
   ·exact⟨x,B,u⟩
  obtain⟨x',a1,a2⟩:=key i x hi h1;obtain⟨y',b1,b2⟩:=key k y hk d;exact H.uniq i k x' y' l a1 b1 a2 b2
 ·have V : l ≠ l0 := fun e => hn id o' Yd (by rw [Y, e])
  have D:(dO E.X.r l0 q l)[h]? = some (some y):=D;unfold dO at D;rw[if_neg V]at D;refine H.fc l (fun i x hi u=>?_) h y D;by_cases e:i=id
  ·subst e
   rw[hid]at hi;cases hi;exact V (by rw[hlab]at u; cases u; rfl)
  ·by_cases I : i = j
   ·subst I
    rw[W]at hi;cases hi;rw[Ye]at u;cases u
   ·exact hn i x (by show ((E.H.set id o').set j .dead)[i]? = _; rw[aJ (Ne.symm I),aJ (Ne.symm e)]; exact hi) u
theorem ak.x7{E:Env}(H:ak E){id l0 h0:Nat}{o o' ov:ab}{q:Option (Nat × Nat)}(hid:E.H[id]? = some o)(hlab:o.label=some l0)(I:o'.label=some l0)(W:o'.aw = o.aw)(Ye:ov.label=none) (D:∀ b m,q=some (b,m)→(E.X.r l0)[h0]? = some (some (some (b,m))))
  (ho:E.le { w:=E.w,H:=E.H.set id o'++[ov],loc:=E.loc++[q],X:=E.X.re (eS E.X.r l0 h0) }→aD { w:=E.w,H:=E.H.set id o'++[ov],loc:=E.loc++[q],X:=E.X.re (eS E.X.r l0 h0) } id o'∧aD { w:=E.w,H:=E.H.set id o'++[ov],loc:=E.loc++[q],X:=E.X.re (eS E.X.r l0 h0) } E.H.length ov)
  (hmm:o.cF=none:=by first|rfl|assumption) :
  ak { w:=E.w,H:=E.H.set id o'++[ov],loc:=E.loc++[q],X:=E.X.re (eS E.X.r l0 h0) }∧E.le { w:=E.w,H:=E.H.set id o'++[ov],loc:=E.loc++[q],X:=E.X.re (eS E.X.r l0 h0) }:=by
 have M:=az hid;have B:∀(i:Nat) x,(E.loc++[q])[i]? = some x→E.loc[i]? = some x∨(i=E.loc.length∧x=q):=fun i x hi=>by
  rw[d_]at hi;split at hi
  ·exact .inl hi
  ·right
   cases hk:i-E.loc.length with
   |zero=>rw[hk]at hi; simp at hi; exact⟨by omega,hi.symm⟩
   |succ n=>rw[hk]at hi; simp at hi
 have J:∀(i:Nat) x,(E.H.set id o'++[ov])[i]? = some x→(i=E.H.length∧x=ov)∨(i=id∧x=o')∨(i≠id∧E.H[i]? = some x):=fun i x hi=>by
  rw[d_]at hi;split at hi
  ·by_cases d : i = id
   ·subst d
    rw[bd M]at hi;cases hi;exact .inr (.inl ⟨rfl,rfl⟩)
   ·rw [aJ (Ne.symm d)] at hi
    exact .inr (.inr ⟨d,hi⟩)
  ·left
   cases hk:i-(E.H.set id o').length with
   |zero=>rw[hk]at hi; simp at hi; simp at hk; rename_i h1; simp at h1; exact⟨by omega,hi.symm⟩
   |succ n=>rw[hk]at hi; simp at hi
 have Y:(E.H.set id o'++[ov])[id]? = some o':=by
  rw[cn (by simp; exact M),bd M]
 have u:∀(l h:Nat) y,(eS E.X.r l0 h0 l)[h]? = some (some y)→(E.X.r l)[h]? = some (some y)∧¬ (l=l0∧h=h0):=fun l h y hk=>Mi hk;have hle:E.le { w:=E.w,H:=E.H.set id o'++[ov],loc:=E.loc++[q],X:=E.X.re (eS E.X.r l0 h0) }:=by
  refine⟨fun i ad O=>?_,aB _,fun _ _ _=>rfl,fun b hb N=>?_,fun i ad O t=>?_,⟨rfl,rfl⟩,fun l h hh=>?_,.refl _,fun i l x h1 g hv=>?_⟩
  rotate_right
  ·by_cases d : i = id
   ·subst d
    rw[hid]at h1;cases h1;rw[hmm]at g;cases g
   ·have R : l ≠ l0 := fun R => d (H.uniq i id x o l h1 hid (ab.jh g) (by rw [R]; exact hlab))
    exact⟨⟨[],by rw[cV]; exact if_neg R⟩,x,by simp only[]; rw[cn (by rw[nT]; exact az h1),aJ (Ne.symm d)]; exact h1,g⟩
  ·obtain ⟨x, h1, g⟩ := O
   by_cases d:i=id
   ·subst d
    rw[hid]at h1;cases h1;exact⟨o',Y,ab.tD I,fun v hv=>g.2 v (by rw[←W]; exact hv)⟩
   ·exact⟨x,by simp only[]; rw[cn (by simp; exact az h1),aJ (Ne.symm d)]; exact h1,g⟩
  ·rintro (⟨i, c, hi⟩ | ⟨l, h, m, hm⟩)
   ·rcases B i _ hi with h1 | ⟨_, h1⟩
    ·exact N (.inl ⟨i,c,h1⟩)
    ·exact N (.inr ⟨l0,h0,c,D b c h1.symm⟩)
   ·exact N (.inr ⟨l,h,m,(u l h _ hm).1⟩)
  ·obtain ⟨x0, g1, _⟩ := O
   have Yf:=az g1;obtain⟨x,h1,g⟩:=t;have Yc:(E.loc++[q])[i]? = E.loc[i]? := cn (by rw[H.len]; exact Yf);rcases J i x h1 with⟨e,rfl⟩|⟨rfl,rfl⟩|⟨d,A⟩
   ·omega
   ·exact⟨⟨o,hid,by rw[←W]; exact g⟩,Yc⟩
   ·exact⟨⟨x,A,g⟩,Yc⟩
  ·refine ⟨?_, fun y U => (u l h y U).1⟩
   show h<(eS E.X.r l0 h0 l).length
   rw[Mj];exact hh
 refine⟨⟨by simp[H.len],fun i k b m n hi hk=>?_,fun i b m hi=>?_,fun b hb=>H.X b hb,fun i x hi=>?_,H.dX.bh hle.toC,fun l h l' h' b m n h1 g=>H.dD _ _ _ _ _ _ _ (u l h _ h1).1 (u l' h' _ g).1,fun i b m l h n hi hk=>?_,fun l h b m hk=>H.bR _ _ _ _ (u l h _ hk).1,fun i k x y l hi hk h1 g=>?_,fun l hn h y U=>?_⟩,hle⟩
 ·rcases B i _ hi with g1 | ⟨g1, g2⟩ <;> rcases B k _ hk with V | ⟨V, k2⟩
  ·exact H.inj _ _ _ _ _ g1 V
  ·exact(H.cd _ _ _ _ _ _ g1 (D b n k2.symm)).elim
  ·exact(H.cd _ _ _ _ _ _ V (D b m g2.symm)).elim
  ·omega
 ·rcases B i _ hi with g1 | ⟨g1, g2⟩
  ·exact H.lt _ _ _ g1
  ·exact H.bR _ _ _ _ (D b m g2.symm)
 ·rcases J i x hi with ⟨rfl, rfl⟩ | ⟨rfl, rfl⟩ | ⟨d, A⟩
  ·exact(ho hle).2
  ·exact(ho hle).1
  ·refine iN (fun a _ hr => bA hle a hr) (by simp only []; rw [cn (by rw [H.len]; exact az A)]) (fun _ _ _ => rfl) (fun l t => ?_) (H.obj i x A)
   have Yd:l≠l0:=fun e=>d (H.uniq i id x o l A hid t (by rw[hlab,e]));exact⟨if_neg Yd,fun _ _ _ _=>rfl⟩
 ·obtain ⟨r1, r2⟩ := u l h _ hk
  rcases B i _ hi with g1|⟨g1,g2⟩
  ·exact H.cd _ _ _ _ _ _ g1 r1
  ·exact r2 (H.dD _ _ _ _ _ _ _ r1 (D b m g2.symm))
 ·have key:∀ (i:Nat) x,(E.H.set id o'++[ov])[i]? = some x→x.label=some l→∃ y,E.H[i]? = some y∧y.label=some l:=by
   intro i x hi t;rcases J i x hi with⟨_,rfl⟩|⟨rfl,rfl⟩|⟨d,A⟩
   ·rw[Ye]at t; cases t
   ·exact⟨o,hid,by rw[hlab,←I,t]⟩
   ·exact⟨x,A,t⟩
  obtain⟨x',a1,a2⟩:=key i x hi h1;obtain⟨y',b1,b2⟩:=key k y hk g;exact H.uniq i k x' y' l a1 b1 a2 b2
 ·refine H.fc l (fun i x hi t => ?_) h y (u l h y U).1
  by_cases e:i=id
  ·subst e
   rw[hid]at hi;cases hi;exact hn i o' Y (by rw[I,←hlab,t])
  ·exact hn i x (by show (E.H.set id o'++[ov])[i]? = _; rw[cn (by simp; exact az hi),aJ (Ne.symm e)]; exact hi) t
theorem ak.Mk{E:Env}(H:ak E){id l0:Nat}{o o':ab}(hid:E.H[id]? = some o)(hlab:o.label=some l0)(O:o'.label=none)(D:o'.aw = o.aw)
  (V:E.le { w:=E.w,H:=E.H.set id o',loc:=E.loc,X:=E.X.re (fZ E.X.r l0) }→aD { w:=E.w,H:=E.H.set id o',loc:=E.loc,X:=E.X.re (fZ E.X.r l0) } id o')
  (hmm:o.cF=none:=by first|rfl|assumption) (R:o'.born=true:=by first|rfl|assumption) :
  ak { w:=E.w,H:=E.H.set id o',loc:=E.loc,X:=E.X.re (fZ E.X.r l0) }∧E.le { w:=E.w,H:=E.H.set id o',loc:=E.loc,X:=E.X.re (fZ E.X.r l0) }:=by
 have I:=az hid;have u:∀(i:Nat) x,(E.H.set id o')[i]? = some x→(i=id∧x=o')∨(i≠id∧E.H[i]? = some x):=fun i x hi=>by
  by_cases g:i=id
  ·subst g
   rw[bd I]at hi;cases hi;exact .inl ⟨rfl,rfl⟩
  ·rw [aJ (Ne.symm g)] at hi
   exact .inr ⟨g,hi⟩
 have hle:E.le { w:=E.w,H:=E.H.set id o',loc:=E.loc,X:=E.X.re (fZ E.X.r l0) }:=by
  refine⟨fun i ad M=>?_,aB _,fun _ _ _=>rfl,fun b hb J=>?_,fun i ad M q=>?_,⟨rfl,rfl⟩,fun l h W=>?_,.refl _,fun i l x h1 d N=>?_⟩
  rotate_right
  ·by_cases g : i = id
   ·subst g
    rw[hid]at h1;cases h1;rw[hmm]at d;cases d
   ·have A : l ≠ l0 := fun A => g (H.uniq i id x o l h1 hid (ab.jh d) (by rw [A]; exact hlab))
    exact⟨⟨[],by rw[cV]; exact if_neg A⟩,x,by simp only[]; rw[aJ (Ne.symm g)]; exact h1,d⟩
  ·obtain ⟨x, h1, d⟩ := M
   by_cases g:i=id
   ·subst g
    rw[hid]at h1;cases h1;exact⟨o',by simp only[]; rw[bd I],R,fun v N=>d.2 v (by rw[←D]; exact N)⟩
   ·exact⟨x,by simp only[]; rw[aJ (Ne.symm g)]; exact h1,d⟩
  ·rintro (⟨i, c, hi⟩ | ⟨l, h, m, hm⟩)
   ·exact J (.inl ⟨i,c,hi⟩)
   ·exact J (.inr ⟨l,h,m,(gB hm).1⟩)
  ·obtain ⟨x, h1, d⟩ := q
   rcases u i x h1 with⟨rfl,rfl⟩|⟨g,t⟩
   ·exact⟨⟨o,hid,by rw[←D]; exact d⟩,rfl⟩
   ·exact⟨⟨x,t,d⟩,rfl⟩
  ·refine ⟨?_, fun y B => (gB B).1⟩
   show h<(fZ E.X.r l0 l).length
   rw[DG];exact W
 refine⟨⟨by simp[H.len],H.inj,H.lt,H.X,fun i x hi=>?_,H.dX.bh hle.toC,fun l h l' h' b m n h1 d=>H.dD _ _ _ _ _ _ _ (gB h1).1 (gB d).1,fun i b m l h n hi hk=>H.cd _ _ _ _ _ _ hi (gB hk).1,fun l h b m hk=>H.bR _ _ _ _ (gB hk).1,fun i k x y l hi hk h1 d=>?_,fun l Y h y B=>?_⟩,hle⟩
 ·rcases u i x hi with ⟨rfl, rfl⟩ | ⟨g, t⟩
  ·exact V hle
  ·refine iN (fun a _ hr => bA hle a hr) rfl (fun _ _ _ => rfl) (fun l q => ?_) (H.obj i x t)
   have U:l≠l0:=fun e=>g (H.uniq i id x o l t hid q (by rw[hlab,e]));exact⟨if_neg U,fun _ _ _ _=>rfl⟩
 ·have key:∀ (i:Nat) x,(E.H.set id o')[i]? = some x→x.label=some l→E.H[i]? = some x:=by
   intro i x hi q;rcases u i x hi with⟨rfl,rfl⟩|⟨g,t⟩
   ·rw[O]at q; cases q
   ·exact t
  exact H.uniq i k x y l (key i x hi h1) (key k y hk d) h1 d
 ·obtain ⟨g1, g2⟩ := gB B
  refine H.fc l (fun i x hi q=>?_) h y g1;by_cases e:i=id
  ·subst e
   rw[hid]at hi;cases hi;exact g2 (by rw[hlab]at q; cases q; rfl)
  ·exact Y i x (by show (E.H.set id o')[i]? = _; rw[aJ (Ne.symm e)]; exact hi) q
theorem ue{E:Env}(HE:ak E){id l w cl:Nat}{es:List (AV × Option (List (List AV)) × Nat)}{c:Value}(hid:E.H[id]? = some (.aM l w es cl))(hr:rel E (.map id) c) :
  ∃ b n ms,c=.map (some b)∧E.loc[id]? = some (some (b,n))∧E.w.heap[b]? = some (.map ms cl)∧ba E (bX es) ms.toList∧gA E l w es ms.toList:=by
 have a:=HE.obj id _ hid;simp only[aD]at a;obtain⟨b,n,ms,h1,d,g,h⟩:=a;simp only[rel]at hr;obtain⟨_,_,i⟩:=hr;obtain⟨k,q,g1,g2⟩:=i ⟨_,hid,rfl⟩;rw[h1]at g1;simp only[aK,aN]at g1;obtain⟨rfl,rfl⟩:=g1;exact⟨b,n,ms,g2,h1,d,g,h⟩
theorem uf{es:List (AV × Option (List (List AV)) × Nat)}{i:Nat}{x:AV × Option (List (List AV)) × Nat}(h:es[i]? = some x):(bX es)[i]? = some (x.1,.undef,x.2.2):=by
 unfold bX;rw[b7,h];rfl
def ug(P:Program)(t:TypeId):Option Nat:=match bJ P t with
 |.slice _ w _=>some w
 |_=>none
def lE (es:List (AV × Option (List (List AV)) × Nat)) (i:Nat):Option (AV × List (List AV) × Nat):=match es[i]? with
 |some (key,some rows,n)=>some (key,rows,n)
 |_=>none
def qo(P:Program)(t:TypeId)(m k:AV)(H:List ab):Option (AV × List ab) :=
 match cz P t,m with
 | some (a,b),.map id=>match H[id]? with
  | some (.aM l w es cl)=>match fX P a k,ug P b,fN P b with
   | some d,some w',some (.lit (.slice none 0 0))=>match ah w' w with
    | true=>match du P a d (bX es) 0 with
     | some (some (i,_))=>match lE es i with
      |some (key,rows,n)=>some (.vec w H.length 0 0 rows.length,H.set id (.aM l w (es.set i (key,none,n)) cl)++[.vec w 0 rows])
      |none=>none
     |some none=>some (.vec w H.length 0 0 0,H.set id (.aM l w es cl)++[.vec w 0 []])
     |none=>none
    |false=>none
   |_,_,_=>none
  |_=>none
 |_,_=>none
theorem Ml{E:Env}{l w i:Nat}{es:List (AV × Option (List (List AV)) × Nat)}{ms:List MapEntry}{x:AV × Option (List (List AV)) × Nat}(t:x.2.1=none)(h:gA E l w es ms):gA E l w (es.set i x) ms:=by
 obtain⟨hs,h1,u⟩:=h;have g:∀(j:Nat) y,(es.set i x)[j]? = some y→y.2.1.isSome=true→es[j]? = some y∧j≠i:=fun j y d k=>by
  rw[dy]at d;split at d
  ·split at d
   ·cases d
    rw[t]at k;cases k
   ·cases d
  ·rename_i r
   exact⟨d,Ne.symm r⟩
 refine⟨hs,fun a b y z d v q sz he=>h1 a b y z (g a y d q).1 (g b z v sz).1 q sz he,fun a y rows e d hr he=>u a y rows e (g a y d (by rw[hr]; rfl)).1 hr he⟩
theorem x8{E:Env}{i:Nat}{es:List (AV × Option (List (List AV)) × Nat)}{ms:List MapEntry}{x y:AV × Option (List (List AV)) × Nat}(hi:es[i]? = some x)(h1:y.1=x.1)(a:y.2.2=x.2.2)(h:ba E (bX es) ms):ba E (bX (es.set i y)) ms:=by
 have e:bX (es.set i y)=bX es:=by
  apply kp;intro j;unfold bX;rw[b7,b7,dy];split
  ·rename_i e
   subst e;rw[if_pos (az hi),hi];simp[h1,a]
  ·rfl
 rw[e];exact h
theorem Mm{P:Program}{E:Env}(HE:ak E){t:TypeId}{m k v:AV}{c d:Value}{H':List ab}(h:qo P t m k E.H=some (v,H'))(hm:rel E m c)(hk:rel E k d) :
  ∃ u w',(jf t c d false).run P E.w=.ok u w'∧b_ E v H' u w':=by
 unfold qo at h;split at h
 case h_2=>cases h
 rename_i kt et id ht;split at h
 case h_2=>cases h
 rename_i l w es cl hid;split at h
 case h_2=>cases h
 rename_i kv w' Yj Yk hz;split at h
 case h_2=>cases h
 rename_i Yf;have Yf:=aR Yf;clear Yk Yf;obtain⟨b,n,ms,rfl,h1,h2,h3,h4⟩:=ue HE hid hm;have Yc:=fY Yj hk;have e1:(getObj b).run P E.w=.ok (.map ms cl) E.w:=by simp[getObj,fp,h2]
 have Y:E.H.length=E.loc.length:=HE.len.symm;split at h
 ·rename_i i v0 hf
  split at h
  case h_2=>cases h
  rename_i key rows bn Ye;cases h;have Yg:es[i]? = some (key,some rows,bn):=by
   unfold lE at Ye;split at Ye
   ·rename_i a1 a2 a3 he
    cases Ye;exact he
   ·cases Ye
  obtain⟨r',g1,g2⟩:=fM Yc E.w h3 hf;cases r' with
  |none=>simp[cG]at g2
  | some q =>
   simp only[cG]at g2;obtain⟨q1,q2,_,e',q4,q5⟩:=g2;simp only[fm]at q4;have Yi:q.2=e'.val:=q5.symm;obtain⟨hs,k1,k2⟩:=h4;have Yl:=k2 i _ rows e' Yg rfl q4;obtain⟨D,h0,z1,z2,z3⟩:∃(D:Option (Nat × Nat)) (h0:Nat),(∀ b m,D=some (b,m)→(E.X.r l)[h0]? = some (some (some (b,m)))) ∧
     (∀ j y,es[j]? = some y→y.2.1.isSome=true→j≠i→∀ b m,(E.X.r l)[hs j]? = some (some (some (b,m)))→hs j≠h0) ∧
     ((D=none∧rows=[]∧∃ base,e'.val=.slice base 0 0)∨∃ b m,D=some (b,m)∧e'.val=.slice (some ⟨b,0,none⟩) rows.length m∧isRow E.w b (m*w)∧rows.length≤m∧dW rows∧bU E w rows b 0):=by
    rcases Yl with⟨s1,s2⟩|⟨J,mm,s1,s2,N,M,O,R⟩
    ·exact⟨none,(E.X.r l).length,fun _ _ e=>(by cases e),fun j y _ _ _ b m hb e=>(by rw[e]at hb; have:=az hb; omega),.inl ⟨rfl,s1,s2⟩⟩
    ·exact⟨some (J,mm),hs i,fun _ _ e=>(by cases e; exact s1),fun j y B Ym V _ _ _ e=>V (k1 j i _ _ B Yg Ym rfl e),.inr ⟨J,mm,rfl,s2,N,M,O,R⟩⟩
   obtain⟨r1,r2⟩:=ak.x7 HE (id:=id) (l0:=l) (h0:=h0) (o':=.aM l w (es.set i (key,none,bn)) cl) (ov:=.vec w 0 rows) (q:=D) hid rfl rfl rfl rfl z1 fun hle=>by
    refine⟨?_,?_⟩
    ·simp only [aD]
     refine⟨b,n,ms,?_,h2,?_,?_⟩
     ·rw [cn (az h1)]
      exact h1
     ·exact eP (fun a _ hr=>bA hle a hr) (x8 Yg rfl rfl h3)
     ·obtain ⟨_, k3, k4⟩ := Ml (i := i) (x := (key, none, bn)) rfl (show gA E l w es ms.toList from ⟨hs, k1, k2⟩)
      refine⟨hs,fun a U y z B hz sy sz he=>?_,fun a y rws e B hr he=>?_⟩
      all_goals
       have Yh:∀(j:Nat) y,(es.set i (key,none,bn))[j]? = some y→y.2.1.isSome=true→es[j]? = some y∧j≠i:=fun j y B Yn=>by
        rw[dy]at B;split at B
        ·split at B
         ·cases B
          cases Yn
         ·cases B
        ·rename_i V
         exact⟨B,Ne.symm V⟩
      ·exact k1 a U y z (Yh a y B sy).1 (Yh U z hz sz).1 sy sz he
      ·obtain ⟨o1, o2⟩ := Yh a y B (by rw [hr]; rfl)
       rcases k2 a y rws e o1 hr he with I|⟨J,mm,s1,s2,N,M,O,R⟩
       ·exact .inl I
       ·refine .inr ⟨J, mm, ?_, s2, N, M, O, jl (fun a _ hr => bA hle a hr) rfl R⟩
        have V:=z2 a y o1 (by rw[hr]; rfl) o2 J mm s1;show (eS E.X.r l h0 l)[hs a]? = _
        rw[x6 fun e=>V e.2];exact s1
    ·simp only [aD]
     have I:(E.loc++[D])[E.H.length]? = some D:=by rw[Y]; simp
     rcases z3 with⟨rfl,s1,_⟩|⟨J,mm,rfl,_,N,M,O,R⟩
     ·exact .inl ⟨I,s1⟩
     ·exact .inr ⟨J,mm,I,N,M,O,jl (fun a _ hr=>bA hle a hr) rfl R⟩
   refine⟨q.2,E.w,?_,E.loc++[D],eS E.X.r l h0,?_,r1,r2⟩
   ·simp only [jf, bG, Sem.aX (en ht), bH, e1, eb, ff Yc, g1]
    rfl
   ·have Yd:(E.H.set id (.aM l w (es.set i (key,none,bn)) cl)++[.vec w 0 rows])[E.H.length]? = some (.vec w 0 rows):=by
     rw[gI (by simp)];simp
    have I:(E.loc++[D])[E.H.length]? = some D:=by rw[Y]; simp
    rw[Yi];simp only[rel];rcases z3 with⟨rfl,s1,base,s2⟩|⟨J,mm,rfl,s2,N,M,O,R⟩
    ·subst s1
     refine⟨⟨base,0,by rw[s2]; rfl,aB _,fun h=>by simp at h⟩,⟨_,Yd,rfl,fun v W=>by cases W; exact aB _⟩,fun _=>⟨fun _=>⟨by first|rfl|trivial,by first|rfl|trivial,base,s2⟩,fun U m' A=>?_⟩⟩;rw[I]at A;cases A
    ·refine ⟨⟨_, mm, s2, M, fun _ => ⟨J, 0, rfl⟩⟩, ⟨_, Yd, rfl, fun v W => by cases W; exact aB _⟩, fun _ => ⟨fun A => ?_, fun U m' A => ?_⟩⟩
     ·rw [I] at A
      cases A
     ·rw [I] at A
      cases A;exact⟨by omega,0,fun _=>by simp,by rw[s2,fm]⟩
 ·rename_i hf
  cases h;obtain⟨r',g1,g2⟩:=fM Yc E.w h3 hf;cases r' with
  |some _=>simp[cG]at g2
  | none =>
   obtain⟨zv,z1,z2⟩:=oG hz E.w;have Yo:zv=.slice none 0 0:=by have:=z2 E; simpa[rel]using this
   obtain⟨r1,r2⟩:=ak.x7 HE (id:=id) (l0:=l) (h0:=(E.X.r l).length) (o':=.aM l w es cl) (ov:=.vec w 0 []) (q:=none) hid rfl rfl rfl rfl (fun _ _ e=>by cases e) fun hle=>by
    refine⟨?_,?_⟩
    ·simp only [aD]
     refine⟨b,n,ms,?_,h2,eP (fun a _ hr=>bA hle a hr) h3,p9 (E:=E) (fun h g m hk=>⟨?_,rfl⟩) (fun _ _ _ _ _ U A _ hr=>jl (fun a _ hr=>bA hle a hr) A hr) h4⟩
     ·rw [cn (az h1)]
      exact h1
     ·show (eS E.X.r l (E.X.r l).length l)[h]? = _
      rw[x6 fun e=>by rw[e.2]at hk; have:=az hk; omega];exact hk
    ·simp only [aD]
     exact .inl ⟨by rw[Y]; simp,by first|rfl|trivial⟩
   refine⟨zv,E.w,?_,E.loc++[none],eS E.X.r l (E.X.r l).length,?_,r1,r2⟩
   ·simp only [jf, bG, Sem.aX (en ht), bH, e1, eb, ff Yc, g1, z1]
    rfl
   ·have Yd:(E.H.set id (.aM l w es cl)++[.vec w 0 []])[E.H.length]? = some (.vec w 0 []):=by
     rw[gI (by simp)];simp
    have I:(E.loc++[(none:Option (Nat × Nat))])[E.H.length]? = some none:=by rw[Y]; simp
    rw[Yo];simp only[rel];refine⟨⟨none,0,rfl,aB _,fun h=>by simp at h⟩,⟨_,Yd,rfl,fun v W=>by cases W; exact aB _⟩,fun _=>⟨fun _=>⟨by first|rfl|trivial,by first|rfl|trivial,none,rfl⟩,fun U m' A=>?_⟩⟩;rw[I]at A;cases A
 ·cases h
theorem x9{es:List (AV × Option (List (List AV)) × Nat)}{i:Nat}{x:AV × Option (List (List AV)) × Nat}{f:AV × Option (List (List AV)) × Nat→AV × Option (List (List AV)) × Nat}(h:es[i]? = some x):es.modify i f=es.set i (f x):=by
 apply kp;intro j;rw[gv,dy];by_cases e:i=j
 ·subst e
  rw[if_pos rfl,if_pos (az h),h];simp
 ·rw [if_neg e]
  simp[e]
def mR(P:Program)(t:TypeId)(m k v:AV)(H:List ab):Option (List ab) :=
 match cz P t,m,v with
 | some (a,_),.map id,.vec w j ad off n=>match H[id]?,H[j]? with
  | some (.aM l w' es cl),some (.vec d b rows)=>match fX P a k with
   | some g=>if (w=w'∧w=d)∧(ad=b∧off=0)∧n=rows.length∧k.closed=true then
     match du P a g (bX es) 0 with
     |some (some (i,_))=>some ((H.set id (.aM l w' (es.modify i fun e=>(k,some rows,e.2.2)) cl)).set j .dead)
     |some none=>some ((H.set id (.aM l w' (es++[(k,some rows,cl)]) (cl+1))).set j .dead)
     |none=>none
    else none
   |none=>none
  |_,_=>none
 |_,_,_=>none
theorem qp{P:Program}{E:Env}(HE:ak E){id l w b n cl cl':Nat}{es es':List (AV × Option (List (List AV)) × Nat)}{ms ms':Array MapEntry}(hid:E.H[id]? = some (.aM l w es cl)) (d:E.loc[id]? = some (some (b,n)))
  (A:E.w.heap[b]? = some (.map ms cl)) (hr:ba E (bX es') ms'.toList) (q:gA E l w es' ms'.toList) :
  ∃ w',(setObj b (.map ms' cl')).run P E.w=.ok () w'∧ak { w:=w',H:=E.H.set id (.aM l w es' cl'),loc:=E.loc,X:=E.X }∧E.le { w:=w',H:=E.H.set id (.aM l w es' cl'),loc:=E.loc,X:=E.X } ∧
   w'.heap[b]? = some (.map ms' cl')∧∀ y,y≠b→w'.heap[y]? = E.w.heap[y]? := by
 have k:=(HE.lt id b n d).1;have t:({ E.w with heap:=E.w.heap.setIfInBounds b (.map ms' cl') }:World).heap.size=E.w.heap.size:=by simp
 have i:∀ y,y≠b→({ E.w with heap:=E.w.heap.setIfInBounds b (.map ms' cl') }:World).heap[y]? = E.w.heap[y]? := by
  intro y B;simp only[xa];rw[if_neg (fun e=>B e.symm)]
 have key:=ak.xy (E:=E) (w':={ E.w with heap:=E.w.heap.setIfInBounds b (.map ms' cl') }) (o':=.aM l w es' cl') (r':=E.X.r) HE hid rfl rfl rfl (by rw[t]; exact aB _) (fun x _ u _=>i x fun e=>u n (by rw[e]; exact d)) (fun _ _=>rfl) (fun _ _ _ h=>.inl h) (fun h D=>⟨D,fun _ I=>I⟩) (fun hle=>by
  simp only[aD];refine⟨b,n,ms',d,by simp[k],eP (fun a _ hr=>bA hle a hr) hr,p9 (E:=E) (fun h g m hk=>⟨hk,i g fun e=>HE.cd _ _ _ _ _ _ d (by rw[←e]; exact hk)⟩) (fun _ _ _ _ _ J v _ hr=>jl (fun a _ hr=>bA hle a hr) v hr) q⟩) ⟨rfl,rfl,rfl,by first|exact fun _=>aB _|exact fun _=>dT _ _⟩
 rw[XS.Lo]at key;exact⟨_,by simp[setObj,fp,A],key.1,key.2,by simp[k],i⟩
theorem x_{E:Env}(HE:ak E){id j l w cl i ad:Nat}{es:List (AV × Option (List (List AV)) × Nat)}{rows:List (List AV)}{key:AV}{bn b n:Nat}{ms:Array MapEntry}{e:MapEntry}(hid:E.H[id]? = some (.aM l w es cl))(u:E.H[j]? = some (.vec w ad rows))
  (hi:es[i]? = some (key,none,bn)) (Y:E.loc[id]? = some (some (b,n))) (hb:E.w.heap[b]? = some (.map ms cl)) (he:ms.toList[i]? = some e) (hr:ba E (bX es) ms.toList) (Yf:gA E l w es ms.toList) (U:rel E (.vec w j ad 0 rows.length) e.val) :
  ∃ O r',ak { w:=E.w,H:=(E.H.set id (.aM l w (es.set i (key,some rows,bn)) cl)).set j .dead,loc:=O,X:=E.X.re r' }∧E.le { w:=E.w,H:=(E.H.set id (.aM l w (es.set i (key,some rows,bn)) cl)).set j .dead,loc:=O,X:=E.X.re r' }:=by
 have A:j≠id:=fun e=>by rw[e,hid]at u; cases u
 have B:=HE.obj j _ u;simp only[rel]at U;obtain⟨_,_,v3⟩:=U;obtain⟨v4,v5⟩:=v3 ⟨_,u,rfl⟩;simp only[aD]at B;obtain⟨q,V⟩:∃ q,E.loc[j]? = some q:=by
  rcases B with⟨h1,_⟩|⟨I,m',h1,_⟩
  ·exact⟨_,h1⟩
  ·exact⟨_,h1⟩
 obtain⟨hs,k1,k2⟩:=Yf;have Yg:∀ h,h<(E.X.r l).length→(dO E.X.r l q l)[h]? = (E.X.r l)[h]? := fun h d=>(DF d).2;have Yc:(dO E.X.r l q l)[(E.X.r l).length]? = some (some q):=by
  unfold dO;rw[if_pos rfl];simp
 obtain⟨r1,r2⟩:=ak.attach HE (id:=id) (j:=j) (o':=.aM l w (es.set i (key,some rows,bn)) cl) (q:=q) hid rfl rfl rfl u rfl V fun hle=>by
  simp only[aD];refine⟨b,n,ms,?_,hb,eP (fun a _ hr=>bA hle a hr) (x8 hi rfl rfl hr),?_⟩
  ·rw [aJ A]
   exact Y
  ·-- Yk: Yh v Yd, Yl at i Yh new one; empty Yd take none
   have v:∀(a:Nat) y,(es.set i (key,some rows,bn))[a]? = some y→a≠i→es[a]? = some y:=fun a y g A=>by
    rwa [aJ (Ne.symm A)]at g
   have Ye:∀ y,(es.set i (key,some rows,bn))[i]? = some y→y=(key,some rows,bn):=fun y g=>by
    rw[bd (az hi)]at g;cases g;rfl
   refine⟨fun a=>if a=i then (E.X.r l).length else if hs a<(E.X.r l).length then hs a else (E.X.r l).length+1+hs a,fun a c y z g hz sy sz d=>?_,fun a y rws e' g R D=>?_⟩
   ·by_cases k : a = i
    ·by_cases t : c = i
     ·rw[k,t]
     ·simp only [if_pos k, if_neg t] at d
      split at d<;>omega
    ·by_cases t : c = i
     ·simp only [if_neg k, if_pos t] at d
      split at d<;>omega
     ·simp only [if_neg k, if_neg t] at d
      refine k1 a c y z (v a y g k) (v c z hz t) sy sz ?_;split at d<;>split at d<;>omega
   ·by_cases k : a = i
    ·subst k
     have:=Ye y g;subst this;cases R;rw[he]at D;cases D;rcases B with⟨h1,J⟩|⟨I,m',h1,J,M,h4,h5⟩
     ·obtain ⟨_, _, base, M⟩ := v4 h1
      subst J;exact .inl ⟨rfl,base,M⟩
     ·obtain ⟨h6, o, W, N⟩ := v5 I m' h1
      rw[V]at h1;cases h1;simp only[dL,nU,fm]at h6 W N;by_cases hm:0<m'
      ·have := W hm
       subst this;refine .inr ⟨I,m',?_,N,J,M,h4,jl (fun a _ hr=>bA hle a hr) rfl h5⟩;simp only[if_true];exact Yc
      ·have Yi : rows = [] := w7 (by omega)
       have Yj:m'=0:=by omega
       subst Yi;subst Yj;exact .inl ⟨rfl,_,N⟩
    ·rcases k2 a y rws e' (v a y g k) R D with hl | ⟨bb, mm, s1, s2, s3, s4, s5, s6⟩
     ·exact .inl hl
     ·refine .inr ⟨bb, mm, ?_, s2, s3, s4, s5, jl (fun a _ hr => bA hle a hr) rfl s6⟩
      have d:=az s1;simp only[if_neg k,if_pos d];show (dO E.X.r l q l)[hs a]? = _
      rw[Yg _ d];exact s1
 exact⟨_,_,r1,r2⟩
theorem Mn{P:Program}{E:Env}(HE:ak E){t:TypeId}{m k v:AV}{c d u:Value}{H':List ab}(h:mR P t m k v E.H=some H')(hm:rel E m c)(hk:rel E k d)(hv:rel E v u) :
  ∃ w',(ku t c d u).run P E.w=.ok () w'∧∀ x,b_ E .undef H' x w':=by
 unfold mR at h;split at h
 case h_2=>cases h
 rename_i kt et id w j ad off n ht;split at h
 case h_2=>cases h
 rename_i l w' es cl w2 Yt rows hid Y;split at h
 case h_2=>cases h
 rename_i kv Yp;split at h
 case isFalse=>cases h
 rename_i hc;obtain⟨⟨rfl,rfl⟩,⟨rfl,rfl⟩,rfl,Yk⟩:=hc;obtain⟨b,n,ms,rfl,h1,h2,h3,h4⟩:=ue HE hid hm;have Yl:j≠id:=fun e=>by rw[e,hid]at Y; cases Y
 have I:=fY Yp hk;have e1:(getObj b).run P E.w=.ok (.map ms cl) E.w:=by simp[getObj,fp,h2]
 obtain⟨hlen,Yc⟩:=dj.1 h3;rw[xu]at hlen;split at h
 ·rename_i i v0 hf
  cases h;obtain⟨r',g1,g2⟩:=fM I E.w h3 hf;cases r' with
  |none=>simp[cG]at g2
  | some q =>
   simp only[cG]at g2;obtain⟨q1,q2,_,e',D,q5⟩:=g2;obtain⟨_,x,y,f1,f2,f3⟩:=qk hf;simp only[fm]at D f1;obtain⟨a1,a2,a3,a4,a5⟩:=Yc i x e' f1 D;obtain⟨s1,s2⟩:=uc I (fY f2 a1) f3;have Yq:ms[i]? = some e':=by simpa using D
   have W:i<es.length:=by have:=az D; omega
   obtain⟨A,Yg⟩:∃ A,es[i]? = some A:=⟨es[i],bC W⟩
   have hx:x=(A.1,.undef,A.2.2):=by rw[uf Yg]at f1; cases f1; rfl
   have Yu:(k,(none:Option (List (List AV))),A.2.2)=(k,none,A.2.2):=rfl;have Yh:ba E (bX (es.set i (k,none,A.2.2))) (ms.modify i fun e=>{ e with key:=d,val:=u }).toList:=by
    rw[dj];refine⟨by simp[bX,hlen],fun a y z g r=>?_⟩;simp only[jg,gv]at r;obtain⟨z0,N,rfl⟩:=df.1 r;unfold bX at g;rw[b7,dy]at g;by_cases e:i=a
    ·subst e
     rw[if_pos rfl,if_pos W]at g;cases g;rw[D]at N;cases N;simp only[if_true];refine⟨hk,by simp[rel],?_,Yk,rfl⟩;rw[a3,hx]
    ·rw [if_neg e] at g
     obtain⟨b1,b2,b3,b4,b5⟩:=Yc a y z0 (by unfold bX; rw[b7]; exact g) N;simp only[if_neg e];exact⟨b1,b2,b3,b4,b5⟩
   have Yd:gA E l w (es.set i (k,none,A.2.2)) (ms.modify i fun e=>{ e with key:=d,val:=u }).toList:=by
    obtain⟨hs,k1,k2⟩:=h4;have B:∀(a:Nat) y,(es.set i (k,none,A.2.2))[a]? = some y→y.2.1.isSome=true→es[a]? = some y∧a≠i:=fun a y g Yi=>by
     by_cases ei:i=a
     ·subst ei
      rw[bd W]at g;cases g;cases Yi
     ·rw [aJ ei] at g
      exact⟨g,Ne.symm ei⟩
    refine⟨hs,fun a c y z g r O sz he=>k1 a c y z (B a y g O).1 (B c z r sz).1 O sz he,fun a y rws e g hr he=>?_⟩;obtain⟨o1,o2⟩:=B a y g (by rw[hr]; rfl);simp only[jg,gv]at he;obtain⟨z0,N,rfl⟩:=df.1 he;rw[if_neg (Ne.symm o2)];exact k2 a y rws z0 o1 hr N
   obtain⟨w',p1,R,U,V,p5⟩:=qp (P:=P) HE (cl':=cl) hid h1 h2 Yh Yd;have Yr:(nV e'.key d).run P E.w=.ok d E.w:=by simp[nV,s2]
   have Ye:(ku t (.map (some b)) d u).run P E.w=.ok () w':=by
    subst q1;simp only[ku,bG,Sem.aX (en ht),bH,e1,ff I,g1,Yq,eZ,nW,Yr];exact p1
   have J:({ w:=w',H:=E.H.set id (.aM l w (es.set i (k,none,A.2.2)) cl),loc:=E.loc,X:=E.X }:Env).H[id]? = some (.aM l w (es.set i (k,none,A.2.2)) cl):=by
    simp only[];rw[bd (az hid)]
   have Yj:({ w:=w',H:=E.H.set id (.aM l w (es.set i (k,none,A.2.2)) cl),loc:=E.loc,X:=E.X }:Env).H[j]? = some (.vec w ad rows):=by
    simp only[];rw[aJ (Ne.symm Yl)];exact Y
   have M:=R.obj id _ J;simp only[aD]at M;obtain⟨b2,n2,Ys,o1,o2,o3,o4⟩:=M;rw[h1]at o1;simp only[aK,aN]at o1;obtain⟨rfl,rfl⟩:=o1;rw[V]at o2;cases o2;obtain⟨Yf,r',r1,r2⟩:=x_ R (i:=i) (key:=k) (bn:=A.2.2) (e:={ e' with key:=d,val:=u }) J Yj (by rw[bd W]) h1 V (by
    simp only[jg,gv,D];simp) o3 o4 (bA U _ hv)
   refine⟨w',Ye,fun xx=>⟨Yf,r',by simp[rel],?_,U.trans ?_⟩⟩
   ·simpa[nX,x9 Yg]using r1
   ·simpa[nX,x9 Yg]using r2
 ·rename_i hf
  cases h;obtain⟨r',g1,g2⟩:=fM I E.w h3 hf;cases r' with
  |some _=>simp[cG]at g2
  | none =>
   have Ym:ms.toList.length=es.length:=by omega
   have Yh:ba E (bX (es++[(k,none,cl)])) (ms.push { key:=d,val:=u,born:=cl }).toList:=by
    rw[dj];refine⟨by simp[bX,hlen],fun a y z g r=>?_⟩;unfold bX at g;rw[nY]at g;simp only[mD,d_,eY]at g r;rw[Ym]at r;by_cases e:a<es.length
    ·simp only [if_pos e] at g r
     exact Yc a y z (by unfold bX; exact g) r
    ·simp only [if_neg e] at g r
     cases Yn:a-es.length with
     | zero =>
      rw[Yn]at g r;simp at g r;subst g; subst r;exact⟨hk,by simp[rel],rfl,Yk,rfl⟩
     |succ _=>rw[Yn]at g; simp at g
   have Yd:gA E l w (es++[(k,none,cl)]) (ms.push { key:=d,val:=u,born:=cl }).toList:=by
    obtain⟨hs,k1,k2⟩:=h4;have B:∀(a:Nat) y,(es++[(k,(none:Option (List (List AV))),cl)])[a]? = some y→y.2.1.isSome=true→es[a]? = some y∧a<es.length:=fun a y g Yi=>by
     rw[d_]at g;split at g
     ·rename_i hh
      exact⟨g,hh⟩
     ·cases Yo : a - es.length with
      | zero =>
       rw[Yo]at g;simp at g;subst g;cases Yi
      |succ _=>rw[Yo]at g; simp at g
    refine⟨hs,fun a c y z g r O sz he=>k1 a c y z (B a y g O).1 (B c z r sz).1 O sz he,fun a y rws e g hr he=>?_⟩;obtain⟨o1,o2⟩:=B a y g (by rw[hr]; rfl);simp only[mD]at he;rw[cn (by omega)]at he;exact k2 a y rws e o1 hr he
   obtain⟨w',p1,R,U,V,p5⟩:=qp (P:=P) HE (cl':=cl+1) hid h1 h2 Yh Yd;have Ye:(ku t (.map (some b)) d u).run P E.w=.ok () w':=by
    simp only[ku,bG,Sem.aX (en ht),bH,e1,ff I,g1];exact p1
   have J:({ w:=w',H:=E.H.set id (.aM l w (es++[(k,none,cl)]) (cl+1)),loc:=E.loc,X:=E.X }:Env).H[id]? = some (.aM l w (es++[(k,none,cl)]) (cl+1)):=by
    simp only[];rw[bd (az hid)]
   have Yj:({ w:=w',H:=E.H.set id (.aM l w (es++[(k,none,cl)]) (cl+1)),loc:=E.loc,X:=E.X }:Env).H[j]? = some (.vec w ad rows):=by
    simp only[];rw[aJ (Ne.symm Yl)];exact Y
   have M:=R.obj id _ J;simp only[aD]at M;obtain⟨b2,n2,Ys,o1,o2,o3,o4⟩:=M;rw[h1]at o1;simp only[aK,aN]at o1;obtain⟨rfl,rfl⟩:=o1;rw[V]at o2;cases o2;obtain⟨Yf,r',r1,r2⟩:=x_ R (i:=es.length) (key:=k) (bn:=cl) (e:={ key:=d,val:=u,born:=cl }) J Yj (by simp) h1 V (by
    simp only[mD];rw[gI (by omega)];simp[Ym]) o3 o4 (bA U _ hv)
   have e2:(es++[(k,(none:Option (List (List AV))),cl)]).set es.length (k,some rows,cl)=es++[(k,some rows,cl)]:=by
    rw[List.set_append_right _ _ (aB _),Nat.sub_self];rfl
   refine⟨w',Ye,fun xx=>⟨Yf,r',by simp[rel],?_,U.trans ?_⟩⟩
   ·simpa[nX,e2]using r1
   ·simpa[nX,e2]using r2
 ·cases h
theorem ak.DH{E:Env}(H:ak E){id l0:Nat}{o o':ab}(hid:E.H[id]? = some o)(hlab:o.label=none)(A:o'.label=some l0)(B:o'.aw = o.aw)(u:∀(i:Nat) x,E.H[i]? = some x→x.label≠some l0)
  (N:E.le { w:=E.w,H:=E.H.set id o',loc:=E.loc,X:=E.X }→aD { w:=E.w,H:=E.H.set id o',loc:=E.loc,X:=E.X } id o') :
  ak { w:=E.w,H:=E.H.set id o',loc:=E.loc,X:=E.X }∧E.le { w:=E.w,H:=E.H.set id o',loc:=E.loc,X:=E.X }:=by
 have D:=az hid;have t:∀(i:Nat) x,(E.H.set id o')[i]? = some x→(i=id∧x=o')∨(i≠id∧E.H[i]? = some x):=fun i x hi=>by
  by_cases g:i=id
  ·subst g
   rw[bd D]at hi;cases hi;exact .inl ⟨rfl,rfl⟩
  ·rw [aJ (Ne.symm g)] at hi
   exact .inr ⟨g,hi⟩
 have hle:E.le { w:=E.w,H:=E.H.set id o',loc:=E.loc,X:=E.X }:=by
  refine⟨fun i ad I=>?_,aB _,fun _ _ _=>rfl,fun b W u=>u,fun i ad I q=>?_,⟨rfl,rfl⟩,fun l h O=>⟨O,fun _ R=>R⟩,.refl _,fun i l x h1 d J=>⟨⟨[],(cV _).symm⟩,?_⟩⟩
  rotate_right
  ·by_cases g : i = id
   ·subst g
    rw[hid]at h1;cases h1;rw[ab.tF hlab]at d;cases d
   ·exact⟨x,by simp only[]; rw[aJ (Ne.symm g)]; exact h1,d⟩
  ·obtain ⟨x, h1, d⟩ := I
   by_cases g:i=id
   ·subst g
    rw[hid]at h1;cases h1;exact⟨o',by simp only[]; rw[bd D],ab.tD A,fun v J=>d.2 v (by rw[←B]; exact J)⟩
   ·exact⟨x,by simp only[]; rw[aJ (Ne.symm g)]; exact h1,d⟩
  ·obtain ⟨x, h1, d⟩ := q
   rcases t i x h1 with⟨rfl,rfl⟩|⟨g,r⟩
   ·exact⟨⟨o,hid,by rw[←B]; exact d⟩,rfl⟩
   ·exact⟨⟨x,r,d⟩,rfl⟩
 refine⟨⟨by simp[H.len],H.inj,H.lt,H.X,fun i x hi=>?_,H.dX.bh hle.toC,H.dD,H.cd,H.bR,fun i k x y l hi hk h1 d=>?_,fun l U h y V=>?_⟩,hle⟩
 ·rcases t i x hi with ⟨rfl, rfl⟩ | ⟨g, r⟩
  ·exact N hle
  ·exact iN (fun a _ hr=>bA hle a hr) rfl (fun _ _ _=>rfl) (fun l q=>⟨rfl,fun _ _ _ _=>rfl⟩) (H.obj i x r)
 ·rcases t i x hi with ⟨rfl, rfl⟩ | ⟨g, r⟩ <;> rcases t k y hk with ⟨rfl, rfl⟩ | ⟨Y, M⟩
  ·rfl
  ·rw [A] at h1
   cases h1;exact(u k y M d).elim
  ·rw [A] at d
   cases d;exact(u i x r h1).elim
  ·exact H.uniq i k x y l r M h1 d
 ·refine H.fc l (fun i x hi q => ?_) h y V
  by_cases e:i=id
  ·subst e
   rw[hid]at hi;cases hi;rw[hlab]at q;cases q
  ·exact U i x (by show (E.H.set id o')[i]? = _; rw[aJ (Ne.symm e)]; exact hi) q
theorem Mo{E:Env}(HE:ak E){id l w cl:Nat}(hid:E.H[id]? = some (.map [] cl))(g:kI E.H l=true) :
  ak { w:=E.w,H:=E.H.set id (.aM l w [] cl),loc:=E.loc,X:=E.X }∧E.le { w:=E.w,H:=E.H.set id (.aM l w [] cl),loc:=E.loc,X:=E.X } :=
 ak.DH HE hid rfl rfl rfl (qg g) fun hle=>by
  have d:=HE.obj id _ hid;simp only[aD]at d⊢;obtain⟨b,n,ms,h1,h,k⟩:=d;refine⟨b,n,ms,h1,h,eP (fun a _ hr=>bA hle a hr) k,fun _=>0,fun i j x y hi=>by simp at hi,fun i x rows e hi=>by simp at hi⟩
theorem Mp{E:Env}(HE:ak E){id l w cl i:Nat}{es:List (AV × Option (List (List AV)) × Nat)}{key:AV}{rows:List (List AV)}{bn b n:Nat}{ms:Array MapEntry}{e':MapEntry}(hid:E.H[id]? = some (.aM l w es cl))(O:es[i]? = some (key,some rows,bn))
  (h1:E.loc[id]? = some (some (b,n))) (h2:E.w.heap[b]? = some (.map ms cl)) (h3:ba E (bX es) ms.toList) (h4:gA E l w es ms.toList) (q4:ms.toList[i]? = some e') :
  ∃ N r',ak { w:=E.w,H:=E.H.set id (.aM l w (es.set i (key,none,bn)) cl)++[.vec w 0 rows],loc:=N,X:=E.X.re r' }∧E.le { w:=E.w,H:=E.H.set id (.aM l w (es.set i (key,none,bn)) cl)++[.vec w 0 rows],loc:=N,X:=E.X.re r' } ∧
   rel { w:=E.w,H:=E.H.set id (.aM l w (es.set i (key,none,bn)) cl)++[.vec w 0 rows],loc:=N,X:=E.X.re r' } (.vec w E.H.length 0 0 rows.length) e'.val:=by
 have V:E.H.length=E.loc.length:=HE.len.symm;obtain⟨hs,Y,k2⟩:=h4;have Yc:=k2 i _ rows e' O rfl q4;obtain⟨g,h0,z1,z2,z3⟩:∃(g:Option (Nat × Nat)) (h0:Nat),(∀ b m,g=some (b,m)→(E.X.r l)[h0]? = some (some (some (b,m)))) ∧
   (∀ j y,es[j]? = some y→y.2.1.isSome=true→j≠i→∀ b m,(E.X.r l)[hs j]? = some (some (some (b,m)))→hs j≠h0) ∧
   ((g=none∧rows=[]∧∃ base,e'.val=.slice base 0 0)∨∃ b m,g=some (b,m)∧e'.val=.slice (some ⟨b,0,none⟩) rows.length m∧isRow E.w b (m*w)∧rows.length≤m∧dW rows∧bU E w rows b 0):=by
  rcases Yc with⟨s1,s2⟩|⟨k,mm,s1,s2,B,A,D,I⟩
  ·exact⟨none,(E.X.r l).length,fun _ _ e=>(by cases e),fun j y _ _ _ b m hb e=>(by rw[e]at hb; have:=az hb; omega),.inl ⟨rfl,s1,s2⟩⟩
  ·exact⟨some (k,mm),hs i,fun _ _ e=>(by cases e; exact s1),fun j y d Yd J _ _ _ e=>J (Y j i _ _ d O Yd rfl e),.inr ⟨k,mm,rfl,s2,B,A,D,I⟩⟩
 obtain⟨r1,r2⟩:=ak.x7 HE (id:=id) (l0:=l) (h0:=h0) (o':=.aM l w (es.set i (key,none,bn)) cl) (ov:=.vec w 0 rows) (q:=g) hid rfl rfl rfl rfl z1 fun hle=>by
  refine⟨?_,?_⟩
  ·simp only [aD]
   refine⟨b,n,ms,?_,h2,?_,?_⟩
   ·rw [cn (az h1)]
    exact h1
   ·exact eP (fun a _ hr=>bA hle a hr) (x8 O rfl rfl h3)
   ·refine ⟨hs, fun a M y z d hz sy sz he => ?_, fun a y rws e d hr he => ?_⟩
    all_goals
     have R:∀(j:Nat) y,(es.set i (key,none,bn))[j]? = some y→y.2.1.isSome=true→es[j]? = some y∧j≠i:=fun j y d Ye=>by
      rw[dy]at d;split at d
      ·split at d
       ·cases d
        cases Ye
       ·cases d
      ·rename_i J
       exact⟨d,Ne.symm J⟩
    ·exact Y a M y z (R a y d sy).1 (R M z hz sz).1 sy sz he
    ·obtain ⟨o1, o2⟩ := R a y d (by rw [hr]; rfl)
     rcases k2 a y rws e o1 hr he with u|⟨k,mm,s1,s2,B,A,D,I⟩
     ·exact .inl u
     ·refine .inr ⟨k, mm, ?_, s2, B, A, D, jl (fun a _ hr => bA hle a hr) rfl I⟩
      have J:=z2 a y o1 (by rw[hr]; rfl) o2 k mm s1;show (eS E.X.r l h0 l)[hs a]? = _
      rw[x6 fun e=>J e.2];exact s1
  ·simp only [aD]
   have u:(E.loc++[g])[E.H.length]? = some g:=by rw[V]; simp
   rcases z3 with⟨rfl,s1,_⟩|⟨k,mm,rfl,_,B,A,D,I⟩
   ·exact .inl ⟨u,s1⟩
   ·exact .inr ⟨k,mm,u,B,A,D,jl (fun a _ hr=>bA hle a hr) rfl I⟩
 refine⟨E.loc++[g],eS E.X.r l h0,r1,r2,?_⟩;have W:(E.H.set id (.aM l w (es.set i (key,none,bn)) cl)++[.vec w 0 rows])[E.H.length]? = some (.vec w 0 rows):=by
  rw[gI (by simp)];simp
 have u:(E.loc++[g])[E.H.length]? = some g:=by rw[V]; simp
 simp only[rel];rcases z3 with⟨rfl,s1,base,s2⟩|⟨k,mm,rfl,s2,B,A,D,I⟩
 ·subst s1
  refine⟨⟨base,0,by rw[s2]; rfl,aB _,fun h=>by simp at h⟩,⟨_,W,rfl,fun v U=>by cases U; exact aB _⟩,fun _=>⟨fun _=>⟨by first|rfl|trivial,by first|rfl|trivial,base,s2⟩,fun M m' t=>?_⟩⟩;rw[u]at t;cases t
 ·refine ⟨⟨_, mm, s2, A, fun _ => ⟨k, 0, rfl⟩⟩, ⟨_, W, rfl, fun v U => by cases U; exact aB _⟩, fun _ => ⟨fun t => ?_, fun M m' t => ?_⟩⟩
  ·rw [u] at t
   cases t
  ·rw [u] at t
   cases t;exact⟨by omega,0,fun _=>by simp,by rw[s2,fm]⟩
theorem Mq{E:Env}(HE:ak E)(w:Nat) :
  ak { w:=E.w,H:=E.H++[.vec w 0 []],loc:=E.loc++[none],X:=E.X }∧E.le { w:=E.w,H:=E.H++[.vec w 0 []],loc:=E.loc++[none],X:=E.X } ∧
   rel { w:=E.w,H:=E.H++[.vec w 0 []],loc:=E.loc++[none],X:=E.X } (.vec w E.H.length 0 0 0) (.slice none 0 0):=by
 have hle:E.le (E.push E.w (.vec w 0 []) none):=Env.il HE.len (Ext.refl _) (fun b n h=>by cases h);have a:(E.loc++[(none:Option (Nat × Nat))])[E.H.length]? = some none:=by rw[←HE.len]; simp
 have g:aD (E.push E.w (.vec w 0 []) none) E.H.length (.vec w 0 []):=by
  simp only[aD,Env.push];exact .inl ⟨a,trivial⟩
 refine⟨ak.push HE (Ext.refl _) (fun b n h=>by cases h) g,hle,?_⟩;simp only[rel];refine⟨⟨none,0,rfl,aB _,fun h=>by simp at h⟩,⟨.vec w 0 [],by simp,rfl,fun v i=>by cases i; exact aB _⟩,fun _=>⟨fun _=>⟨by first|rfl|trivial,by first|rfl|trivial,none,rfl⟩,fun k m' d=>?_⟩⟩;rw[a]at d;cases d
def f_(P:Program)(t:TypeId)(m k:AV)(H:List ab):Option (AV × List ab) :=
 match cz P t,m with
 | some (a,b),.map id=>match H[id]? with
  | some (.aM l w es cl)=>match fX P a k,ug P b,fN P b with
   | some d,some w',some (.lit (.slice none 0 0))=>match ah w' w&&k.closed with
    | true=>match du P a d (bX es) 0 with
     | some (some (i,_))=>match lE es i with
      |some (_,rows,n)=>some (.tuple [.vec w H.length 0 0 rows.length,.lit (goInt n)],H.set id (.aM l w (es.set i (k,none,n)) cl)++[.vec w 0 rows])
      |none=>none
     |some none=>some (.tuple [.vec w H.length 0 0 0,.lit (goInt cl)],H.set id (.aM l w (es++[(k,none,cl)]) (cl+1))++[.vec w 0 []])
     |none=>none
    |false=>none
   |_,_,_=>none
  |_=>none
 |_,_=>none
theorem Mr{P:Program}{E:Env}(HE:ak E){t:TypeId}{m k v:AV}{c d:Value}{H':List ab}(h:f_ P t m k E.H=some (v,H'))(hm:rel E m c)(hk:rel E k d) :
  ∃ u w',(xb t c d).run P E.w=.ok u w'∧b_ E v H' u w':=by
 unfold f_ at h;split at h
 case h_2=>cases h
 rename_i kt et id ht;split at h
 case h_2=>cases h
 rename_i l w es cl hid;split at h
 case h_2=>cases h
 rename_i kv w' Ym Yn A;split at h
 case h_2=>cases h
 rename_i Y;simp only[aq]at Y;have Yi:=Y.2;clear Yn Y;obtain⟨b,n,ms,rfl,h1,h2,h3,h4⟩:=ue HE hid hm;have D:=fY Ym hk;have e1:(getObj b).run P E.w=.ok (.map ms cl) E.w:=by simp[getObj,fp,h2]
 obtain⟨hlen,V⟩:=dj.1 h3;rw[xu]at hlen;have Yg:∀(w':World) es' cl',({ w:=w',H:=E.H.set id (.aM l w es' cl'),loc:=E.loc,X:=E.X }:Env).H[id]? = some (.aM l w es' cl'):=fun w' es' cl'=>by
  simp only[];rw[bd (az hid)]
 split at h
 ·rename_i i v0 hf
  split at h
  case h_2=>cases h
  rename_i key rows bn N;cases h;have Yc:es[i]? = some (key,some rows,bn):=by
   unfold lE at N;split at N
   ·rename_i a1 a2 a3 he
    cases N;exact he
   ·cases N
  have Yd:=az Yc;obtain⟨r',g1,g2⟩:=fM D E.w h3 hf;cases r' with
  |none=>simp[cG]at g2
  | some q =>
   simp only[cG]at g2;obtain⟨q1,q2,_,e',J,q5⟩:=g2;obtain⟨_,x,y,f1,f2,f3⟩:=qk hf;simp only[fm]at J f1;obtain⟨a1,a2,a3,a4,a5⟩:=V i x e' f1 J;obtain⟨s1,s2⟩:=uc D (fY f2 a1) f3;have Yo:ms[i]? = some e':=by simpa using J
   have hx:x=(key,.undef,bn):=by rw[uf Yc]at f1; cases f1; rfl
   have Ye:ba E (bX (es.set i (k,some rows,bn))) (ms.modify i fun e=>{ e with key:=d }).toList:=by
    rw[dj];refine⟨by simp[bX,hlen],fun a y z g A=>?_⟩;simp only[jg,gv]at A;obtain⟨z0,I,rfl⟩:=df.1 A;unfold bX at g;rw[b7,dy]at g;by_cases e:i=a
    ·subst e
     rw[if_pos rfl,if_pos Yd]at g;cases g;rw[J]at I;cases I;simp only[if_true];refine⟨hk,by simp[rel],?_,Yi,rfl⟩;rw[a3,hx]
    ·rw [if_neg e] at g
     obtain⟨b1,b2,b3,b4,b5⟩:=V a y z0 (by unfold bX; rw[b7]; exact g) I;simp only[if_neg e];exact⟨b1,b2,b3,b4,b5⟩
   have W:gA E l w (es.set i (k,some rows,bn)) (ms.modify i fun e=>{ e with key:=d }).toList:=by
    obtain⟨hs,k1,k2⟩:=h4;have B:∀(a:Nat) y,(es.set i (k,some rows,bn))[a]? = some y→∃ z,es[a]? = some z∧z.2.1=y.2.1:=fun a y g=>by
     by_cases ei:i=a
     ·subst ei
      rw[bd Yd]at g;cases g;exact⟨_,Yc,rfl⟩
     ·rw [aJ ei] at g
      exact⟨y,g,rfl⟩
    refine⟨hs,fun a c y z g A O sz he=>?_,fun a y rws e g hr he=>?_⟩
    ·obtain ⟨y', Yf, ey⟩ := B a y g
     obtain⟨z',Yp,ez⟩:=B c z A;exact k1 a c y' z' Yf Yp (by rw[ey]; exact O) (by rw[ez]; exact sz) he
    ·obtain ⟨y', Yf, ey⟩ := B a y g
     simp only[jg,gv]at he;obtain⟨z0,I,rfl⟩:=df.1 he;have:=k2 a y' rws z0 Yf (by rw[ey]; exact hr) I;split<;>exact this
   obtain⟨M,p1,R,p3,p4,p5⟩:=qp (P:=P) HE (cl':=cl) hid h1 h2 Ye W;have Yh:=R.obj id _ (Yg M _ _);simp only[aD]at Yh;obtain⟨b2,n2,Yu,o1,o2,o3,o4⟩:=Yh;rw[h1]at o1;simp only[aK,aN]at o1;obtain⟨rfl,rfl⟩:=o1;rw[p4]at o2;cases o2;obtain⟨Yl,r',r1,r2,r3⟩:=Mp R (i:=i) (key:=k) (rows:=rows) (bn:=bn) (e':={ e' with key:=d }) (Yg M _ _) (by rw[bd Yd]) h1 p4 o3 o4 (by
    simp only[jg,gv,J];simp)
   simp only[nX,nT]at r1 r2 r3;refine⟨.tuple #[e'.val,goInt bn],M,?_,Yl,r',?_,r1,p3.trans r2⟩
   ·have Yq : (nV e'.key d).run P E.w = .ok d E.w := by simp [nV, s2]
    subst q1;simp only[xb,bG,Sem.aX (en ht),bH,e1,ff D,g1,Yo,eZ,nW,Yq];rw[p1];simp only[bH,eb];rw[a3,hx,←q5]
   ·simp only [rel]
    refine⟨_,rfl,?_⟩;simp only[ae,and_true];exact⟨r3,by simp[rel]⟩
 ·rename_i hf
  cases h;obtain⟨r',g1,g2⟩:=fM D E.w h3 hf;cases r' with
  |some _=>simp[cG]at g2
  | none =>
   obtain⟨U,z1,z2⟩:=oG A E.w;have Yr:U=.slice none 0 0:=by have:=z2 E; simpa[rel]using this
   have Ys:ms.toList.length=es.length:=by omega
   have Ye:ba E (bX (es++[(k,none,cl)])) (ms.push { key:=d,val:=U,born:=cl }).toList:=by
    rw[dj];refine⟨by simp[bX,hlen],fun a y z g A=>?_⟩;unfold bX at g;rw[nY]at g;simp only[mD,d_,eY]at g A;rw[Ys]at A;by_cases e:a<es.length
    ·simp only [if_pos e] at g A
     exact V a y z (by unfold bX; exact g) A
    ·simp only [if_neg e] at g A
     cases Yj:a-es.length with
     | zero =>
      rw[Yj]at g A;simp at g A;subst g; subst A;exact⟨hk,by simp[rel],rfl,Yi,rfl⟩
     |succ _=>rw[Yj]at g; simp at g
   have W:gA E l w (es++[(k,none,cl)]) (ms.push { key:=d,val:=U,born:=cl }).toList:=by
    obtain⟨hs,k1,k2⟩:=h4;have B:∀(a:Nat) y,(es++[(k,(none:Option (List (List AV))),cl)])[a]? = some y→y.2.1.isSome=true→es[a]? = some y∧a<es.length:=fun a y g Yt=>by
     rw[d_]at g;split at g
     ·rename_i hh
      exact⟨g,hh⟩
     ·cases Yk : a - es.length with
      | zero =>
       rw[Yk]at g;simp at g;subst g;cases Yt
      |succ _=>rw[Yk]at g; simp at g
    refine⟨hs,fun a c y z g A O sz he=>k1 a c y z (B a y g O).1 (B c z A sz).1 O sz he,fun a y rws e g hr he=>?_⟩;obtain⟨o1,o2⟩:=B a y g (by rw[hr]; rfl);simp only[mD]at he;rw[cn (by omega)]at he;exact k2 a y rws e o1 hr he
   obtain⟨M,p1,R,p3,p4,p5⟩:=qp (P:=P) HE (cl':=cl+1) hid h1 h2 Ye W;obtain⟨r1,r2,r3⟩:=Mq R w;simp only[nT]at r3;refine⟨.tuple #[U,goInt cl],M,?_,E.loc++[none],E.X.r,?_,r1,p3.trans r2⟩
   ·simp only [xb, bG, Sem.aX (en ht), bH, e1, ff D, g1, z1]
    rw[p1];rfl
   ·simp only [rel]
    refine⟨_,rfl,?_⟩;simp only[ae,and_true];rw[Yr];exact⟨r3,by simp[rel]⟩
 ·cases h
def mS (es:List (AV × Option (List (List AV)) × Nat)) (st:Int):Option Nat:=es.findIdx? fun x=>(x.2.2:Int)==st
def iR(m s v:AV)(H:List ab):Option (List ab) :=
 match m,s,v with
 | .map id,.lit (.int .i64 st),.vec w j ad off n=>match H[id]?,H[j]? with
  | some (.aM l w' es cl),some (.vec b a rows)=>if (w=w'∧w=b)∧(ad=a∧off=0)∧n=rows.length then
    match mS es st with
    | some i=>match es[i]? with
     |some (key,_,bn)=>some ((H.set id (.aM l w' (es.set i (key,some rows,bn)) cl)).set j .dead)
     |none=>none
    |none=>none
   else none
  |_,_=>none
 |_,_,_=>none
theorem DI{E:Env}{st:Int}:∀{es:List (AV × Option (List (List AV)) × Nat)} {ms:List MapEntry},ba E (bX es) ms→ms.findIdx? (fun e=>(e.born:Int)==st)=mS es st
 | [],[],_=>rfl
 | [],_::_,h=>by simp[bX,ba]at h
 |_::_,[],h=>by simp[bX,ba]at h
 | x::es,e::ms,h=>by
  have h':ba E ((x.1,.undef,x.2.2)::bX es) (e::ms):=h;simp only[ba]at h';obtain⟨_,_,b,_,_,d⟩:=h';have a:=DI (st:=st) d;unfold mS at a⊢;simp only[CA,b,a]
theorem Ms{P:Program}{E:Env}(HE:ak E){t:TypeId}{m s v:AV}{c d u:Value}{H':List ab}(h:iR m s v E.H=some H')(hm:rel E m c)(hs:rel E s d)(hv:rel E v u) :
  ∃ w',(tf t c d u).run P E.w=.ok () w'∧∀ x,b_ E .undef H' x w':=by
 unfold iR at h;split at h
 case h_2=>cases h
 rename_i id st w j ad off n;split at h
 case h_2=>cases h
 rename_i l w' es cl w2 Yk rows hid B;split at h
 case isFalse=>cases h
 rename_i hc;obtain⟨⟨rfl,rfl⟩,⟨rfl,rfl⟩,rfl⟩:=hc;split at h
 case h_2=>cases h
 rename_i i hi;split at h
 case h_2=>cases h
 rename_i key k bn U;cases h;obtain⟨b,n,ms,rfl,h1,V,W,h4⟩:=ue HE hid hm;have Yg:j≠id:=fun e=>by rw[e,hid]at B; cases B
 have e1:(getObj b).run P E.w=.ok (.map ms cl) E.w:=by simp[getObj,fp,V]
 obtain⟨hlen,N⟩:=dj.1 W;rw[xu]at hlen;have A:=az U;obtain⟨e',q4⟩:∃ e',ms.toList[i]? = some e':=⟨ms.toList[i]'(by omega),bC _⟩
 have Yc:ms.findIdx? (fun e=>(e.born:Int)==st)=some i:=by
  have e0:ms=ms.toList.toArray:=by simp
  rw[e0,Xh,DI W,hi]
 have Yh:ba E (bX (es.set i (key,none,bn))) (ms.modify i fun e=>{ e with val:=u }).toList:=by
  rw[dj];refine⟨by simp[bX,hlen],fun a y z g r=>?_⟩;simp only[jg,gv]at r;obtain⟨z0,q,rfl⟩:=df.1 r;unfold bX at g;rw[b7,dy]at g;by_cases e:i=a
  ·subst e
   rw[if_pos rfl,if_pos A]at g;cases g;obtain⟨b1,D,I,J,Y⟩:=N i _ z0 (uf U) q;simp only[if_true];exact⟨b1,by simp[rel],I,J,rfl⟩
  ·rw [if_neg e] at g
   obtain⟨b1,D,I,J,Y⟩:=N a y z0 (by unfold bX; rw[b7]; exact g) q;simp only[if_neg e];exact⟨b1,D,I,J,Y⟩
 have Yd:gA E l w (es.set i (key,none,bn)) (ms.modify i fun e=>{ e with val:=u }).toList:=by
  obtain⟨hs,k1,k2⟩:=h4;have k:∀(a:Nat) y,(es.set i (key,none,bn))[a]? = some y→y.2.1.isSome=true→es[a]? = some y∧a≠i:=fun a y g Yi=>by
   by_cases M:i=a
   ·subst M
    rw[bd A]at g;cases g;cases Yi
   ·rw [aJ M] at g
    exact⟨g,Ne.symm M⟩
  refine⟨hs,fun a c y z g r sy sz he=>k1 a c y z (k a y g sy).1 (k c z r sz).1 sy sz he,fun a y rws e g hr he=>?_⟩;obtain⟨o1,o2⟩:=k a y g (by rw[hr]; rfl);simp only[jg,gv]at he;obtain⟨z0,q,rfl⟩:=df.1 he;rw[if_neg (Ne.symm o2)];exact k2 a y rws z0 o1 hr q
 obtain⟨w',p1,p2,p3,p4,p5⟩:=qp (P:=P) HE (cl':=cl) hid h1 V Yh Yd;have hd:d=.int .i64 st:=by simpa[rel]using hs
 have Ye:(tf t (.map (some b)) d u).run P E.w=.ok () w':=by
  subst hd;simp only[tf,asInt,asIntOf,bG,bH,e1,eb,Yc];exact p1
 have O:({ w:=w',H:=E.H.set id (.aM l w (es.set i (key,none,bn)) cl),loc:=E.loc,X:=E.X }:Env).H[id]? = some (.aM l w (es.set i (key,none,bn)) cl):=by
  simp only[];rw[bd (az hid)]
 have Yj:({ w:=w',H:=E.H.set id (.aM l w (es.set i (key,none,bn)) cl),loc:=E.loc,X:=E.X }:Env).H[j]? = some (.vec w ad rows):=by
  simp only[];rw[aJ (Ne.symm Yg)];exact B
 have R:=p2.obj id _ O;simp only[aD]at R;obtain⟨D,n2,Yl,o1,o2,o3,o4⟩:=R;rw[h1]at o1;simp only[aK,aN]at o1;obtain⟨rfl,rfl⟩:=o1;rw[p4]at o2;cases o2;obtain⟨Yf,r',r1,r2⟩:=x_ p2 (i:=i) (key:=key) (bn:=bn) (e:={ e' with val:=u }) O Yj (by rw[bd A]) h1 p4 (by
  simp only[jg,gv,q4];simp) o3 o4 (bA p3 _ hv)
 refine⟨w',Ye,fun xx=>⟨Yf,r',by simp[rel],?_,p3.trans ?_⟩⟩
 ·simpa[nX]using r1
 ·simpa[nX]using r2
end Go.AL

namespace Go.AL
open Go
variable [Dr]
theorem Mt{r:List (Option (Option (Nat × Nat)))}(h:∀(i:Nat) q,r[i]? ≠ some (some q)):dh r=[]:=by
 unfold dh;rw[List.filterMap_eq_nil_iff];intro x a;obtain⟨i,hi,e⟩:=pM a;cases x with
 |none=>rfl
 |some q=>exact absurd (by rw[bC hi,e]) (h i q)
theorem DJ{E:Env}(HE:ak E){id l cl:Nat}(hid:E.H[id]? = some (.map [] cl))(d:kI E.H l=true) :
  ak { w:=E.w,H:=E.H.set id (.mm l [] [] cl),loc:=E.loc,X:=E.X }∧E.le { w:=E.w,H:=E.H.set id (.mm l [] [] cl),loc:=E.loc,X:=E.X } :=
 ak.DH HE hid rfl rfl rfl (qg d) fun hle=>by
  have g:=HE.obj id _ hid;simp only[aD]at g⊢;obtain⟨b,n,ms,h1,h,k⟩:=g;have q:=Mt (HE.fc l (qg d));refine⟨b,n,ms,h1,h,eP (fun a _ hr=>bA hle a hr) k,?_,fun i x e t=>by simp at t,fun j m b hm=>by simp at hm⟩;show (dh (E.X.r l)).length=0
  rw[q];rfl
theorem ya{E:Env}(HE:ak E){id l cl:Nat}{es:List (AV × Option Nat × Nat)}{ms:List (List (AV × AV × Nat) × Nat)}{c:Value}(hid:E.H[id]? = some (.mm l es ms cl))(hr:rel E (.map id) c) :
  ∃ b n a,c=.map (some b)∧E.loc[id]? = some (some (b,n))∧E.w.heap[b]? = some (.map a cl)∧ba E (eh es) a.toList∧tH E l es ms a.toList:=by
 have d:=HE.obj id _ hid;simp only[aD]at d;obtain⟨b,n,a,h1,g,h,i⟩:=d;simp only[rel]at hr;obtain⟨_,_,k⟩:=hr;obtain⟨q,r,g1,g2⟩:=k ⟨_,hid,rfl⟩;rw[h1]at g1;simp only[aK,aN]at g1;obtain⟨rfl,rfl⟩:=g1;exact⟨b,n,a,g2,h1,g,h,i⟩
theorem DK{E:Env}(HE:ak E){id l cl i:Nat}{es:List (AV × Option Nat × Nat)}{ms:List (List (AV × AV × Nat) × Nat)}{m:List (AV × AV × Nat) × Nat}{c:Value}(hid:E.H[id]? = some (.mm l es ms cl))(hm:ms[i]? = some m) (hr:rel E (.sub id l (some i)) c) :
  ∃ b a,c=.map (some b)∧(dh (E.X.r l))[i]? = some b∧E.w.heap[b]? = some (.map a m.2)∧ba E m.1 a.toList:=by
 have d:=HE.obj id _ hid;simp only[aD]at d;obtain⟨_,_,a,_,_,_,_,_,g⟩:=d;simp only[rel]at hr;rcases hr with⟨h,_⟩|⟨q,h1,_,_,k⟩
 ·cases h
 cases h1;obtain⟨_,b,g1,g2⟩:=k ⟨_,hid,rfl⟩;obtain⟨mm,g3,g4⟩:=g i m b hm g1;exact⟨b,mm,g2,g1,g3,g4⟩
def mT(P:Program)(t:TypeId)(m k:AV)(H:List ab):Option AV :=
 match cz P t,m with
 | some (a,b),.map id=>match H[id]? with
  | some (.mm l es _ _)=>match fX P a k,fN P b with
   | some d,some (.lit (.map none))=>match du P a d (eh es) 0 with
    |some (some (i,_))=>(es[i]?).map fun x=>.sub id l x.2.1
    |some none=>some (.sub id l none)
    |none=>none
   |_,_=>none
  |_=>none
 |_,_=>none
theorem Mu{P:Program}{E:Env}(HE:ak E){t:TypeId}{m k v:AV}{c d:Value}(h:mT P t m k E.H=some v)(hm:rel E m c)(hk:rel E k d) :
  ∃ u,(jf t c d false).run P E.w=.ok u E.w∧rel E v u:=by
 unfold mT at h;split at h
 case h_2=>cases h
 rename_i X Y id r;split at h
 case h_2=>cases h
 rename_i l es ms cl hid;split at h
 case h_2=>cases h
 rename_i kv D M;obtain⟨b,n,I,rfl,h1,N,y,_,hmm,_⟩:=ya HE hid hm;have a:=fY D hk;obtain⟨O,R,z2⟩:=oG M E.w;have J:O=.map none:=by simpa[rel]using z2 E
 subst J;have A:(getObj b).run P E.w=.ok (.map I cl) E.w:=by simp[getObj,fp,N]
 split at h
 ·rename_i i v0 hf
  obtain⟨r',g1,g2⟩:=fM a E.w y hf;cases r' with
  |none=>simp[cG]at g2
  | some q =>
   simp only[cG]at g2;obtain⟨q1,_,_,e,U,V⟩:=g2;obtain⟨x,W,rfl⟩:=df.1 h;refine⟨q.2,?_,?_⟩
   ·simp only [jf, bG, Sem.aX (en r), bH, A, eb, ff a, g1]
    rfl
   ·rw [← V]
    simp only[rel];rcases hmm i x e W (by simpa using U)with⟨g,a2⟩|⟨j,B,g,a2,a3⟩
    ·exact .inl ⟨g,a2⟩
    ·exact .inr ⟨j,g,⟨B,a3⟩,⟨_,hid,rfl,fun v _=>fI v⟩,fun _=>⟨⟨_,hid,rfl⟩,B,a2,a3⟩⟩
 ·rename_i hf
  obtain⟨r',g1,g2⟩:=fM a E.w y hf;cases h;cases r' with
  |some _=>simp[cG]at g2
  | none =>
   refine⟨.map none,?_,by simp[rel]⟩;simp only[jf,bG,Sem.aX (en r),bH,A,eb,ff a,g1,R];rfl
 ·cases h
def oH(P:Program)(t:TypeId)(m k:AV)(ok:Bool)(H:List ab):Option AV :=
 match cz P t,m with
 | some (a,b),.sub id l (some i)=>match H[id]? with
  | some (.mm l' _ ms _)=>match ah l l',ms[i]?,fX P a k,kL P b with
   | true,some mm,some d,some z=>match du P a d mm.1 0 with
    | some r=>let v:=match r with
      |some (_,v)=>v
      |none=>z
     some (match ok with
      |true=>.tuple [v,.lit (.bool r.isSome)]
      |false=>v)
    |none=>none
   |_,_,_,_=>none
  |_=>none
 |_,_=>none
theorem Mv{P:Program}{E:Env}(HE:ak E){t:TypeId}{m k v:AV}{ok:Bool}{c d:Value}(h:oH P t m k ok E.H=some v)(hm:rel E m c)(hk:rel E k d) :
  ∃ u,(jf t c d ok).run P E.w=.ok u E.w∧rel E v u:=by
 unfold oH at h;split at h
 case h_2=>cases h
 rename_i U V id l i y;split at h
 case h_2=>cases h
 rename_i l' es ms cl hid;split at h
 case h_2=>cases h
 rename_i mm W z g hmm I M;have g:=aR g;subst g;split at h
 case h_2=>cases h
 rename_i r hr;obtain⟨b,J,rfl,_,N,O⟩:=DK HE hid hmm hm;have a:=fY I hk;obtain⟨r',g1,g2⟩:=fM a E.w O hr;obtain⟨A,R,z2⟩:=Dv M E.w;have B:(getObj b).run P E.w=.ok (.map J mm.2) E.w:=by simp[getObj,fp,N]
 cases h;cases r with
 | none =>
  cases r' with
  |some _=>simp[cG]at g2
  | none =>
   refine⟨if ok then .tuple #[A,.bool false] else A,?_,?_⟩
   ·simp only[jf,bG,Sem.aX (en y),bH,B,eb,ff a,g1,R]
   ·cases ok with
    |true=>simp[rel,ae,z2 E]
    |false=>simpa using z2 E
 | some p =>
  cases r' with
  |none=>simp[cG]at g2
  | some q =>
   simp only[cG]at g2;obtain⟨X,D,_,_,_,_⟩:=g2;refine⟨if ok then .tuple #[q.2,.bool true] else q.2,?_,?_⟩
   ·simp only[jf,bG,Sem.aX (en y),bH,B,eb,ff a,g1]
   ·cases ok with
    |true=>simp[rel,ae,D]
    |false=>simpa using D
theorem DL:∀{r:List (Option (Option (Nat × Nat)))},(∀(h h' b m n:Nat),r[h]? = some (some (some (b,m)))→r[h']? = some (some (some (b,n)))→h=h')→(dh r).Nodup
 | [],_=>Cm
 | x::r,H=>by
  have a:=DL (r:=r) fun h h' b m n h1 d=>by
   have:=H (h+1) (h'+1) b m n (by simpa using h1) (by simpa using d);omega
  match x,H with
  |none,_=>exact a
  |some none,_=>exact a
  | some (some (b,m)),H =>
   show (b::dh r).Nodup
   refine List.nodup_cons.2 ⟨fun hm=>?_,a⟩;obtain⟨i,n,hi⟩:=tG hm;have:=H 0 (i+1) b m n rfl (by simpa using hi);omega
theorem Mw{E:Env}(HE:ak E){l i j b:Nat} (h1:(dh (E.X.r l))[i]? = some b) (a:(dh (E.X.r l))[j]? = some b):i=j :=
 (List.getElem?_inj (az h1) (DL fun h h' b m n d g=>(HE.dD l h l h' b m n d g).2)).1 (by rw[h1,a])
def ir(P:Program)(t:TypeId)(m k:AV)(ok:Bool)(H:List ab):Option AV :=
 match m with
 |.sub id l j=>oH P t (.sub id l j) k ok H
 | .map id=>match ok with
  |false=>mT P t (.map id) k H
  |true=>none
 |_=>none
theorem Mx{P:Program}{E:Env}(HE:ak E){t:TypeId}{m k v:AV}{ok:Bool}{c d:Value}(h:ir P t m k ok E.H=some v)(hm:rel E m c)(hk:rel E k d) :
  ∃ u,(jf t c d ok).run P E.w=.ok u E.w∧rel E v u:=by
 unfold ir at h;split at h
 ·exact Mv HE h hm hk
 ·split at h
  ·exact Mu HE h hm hk
  ·cases h
 ·cases h
theorem DM{P:Program}{t:TypeId}{m k v:AV}{ok:Bool}{H H2:List ab}(b:∀(i l:Nat) es ms (cl:Nat),H[i]? = some (ab.mm l es ms cl)→H2[i]? = some (ab.mm l es ms cl))(h:ir P t m k ok H=some v):ir P t m k ok H2=some v∧eR P t m k ok H2=none:=by
 unfold ir at h⊢;unfold eR;split at h
 ·rename_i id l j
  refine⟨?_,by split<;>first|rfl|(rename_i e; cases e)⟩;unfold oH at h⊢;split at h
  case h_2=>cases h
  rename_i d g i q;split at h
  case h_2=>cases h
  rename_i l' es ms cl hid;simp only[b _ _ _ _ _ hid];exact h
 ·rename_i id
  split at h
  case h_2=>cases h
  cases a:cz P t with
  | none =>
   simp only[mT,a]at h;cases h
  | some p =>
   simp only[mT,a]at h⊢;split at h
   case h_2=>cases h
   rename_i hid;simp only[b _ _ _ _ _ hid];exact⟨h,trivial⟩
 ·cases h
theorem My{P:Program}{t:TypeId}{m k:AV}{ok:Bool}{H H2:List ab}(h1:∀ id,m=.map id→H2[id]? = H[id]?)(a:∀ id l j,m=.sub id l j→H2[id]? = H[id]?):ir P t m k ok H2=ir P t m k ok H:=by
 unfold ir;cases m<;>try rfl
 ·rename_i id
  cases ok with
  |true=>rfl
  | false =>
   unfold mT;cases cz P t with
   |none=>rfl
   |some p=>simp only[h1 id rfl]
 ·rename_i id l j
  unfold oH;cases cz P t with
  |none=>rfl
  | some p =>
   cases j with
   |none=>rfl
   |some j=>simp only[a id l (some j) rfl]
theorem DN{P:Program}{E:Env}(HE:ak E){id l cl i b:Nat}{es:List (AV × Option Nat × Nat)}{ms:List (List (AV × AV × Nat) × Nat)}{m m':List (AV × AV × Nat) × Nat}{D mes':Array MapEntry}(hid:E.H[id]? = some (.mm l es ms cl))(hm:ms[i]? = some m)
  (q:(dh (E.X.r l))[i]? = some b) (N:E.w.heap[b]? = some (.map D m.2)) (hr:ba E m'.1 mes'.toList) :
  ∃ w',(setObj b (.map mes' m'.2)).run P E.w=.ok () w'∧ak { w:=w',H:=E.H.set id (.mm l es (ms.set i m') cl),loc:=E.loc,X:=E.X }∧E.le { w:=w',H:=E.H.set id (.mm l es (ms.set i m') cl),loc:=E.loc,X:=E.X }:=by
 obtain⟨h,t,u⟩:=tG (dK q);have I:=(HE.bR l h b t u).1;have J:({ E.w with heap:=E.w.heap.setIfInBounds b (.map mes' m'.2) }:World).heap.size=E.w.heap.size:=by simp
 have k:∀ y,y≠b→({ E.w with heap:=E.w.heap.setIfInBounds b (.map mes' m'.2) }:World).heap[y]? = E.w.heap[y]? := by
  intro y O;simp only[xa];rw[if_neg (fun e=>O e.symm)]
 have key:=ak.xy (w':={ E.w with heap:=E.w.heap.setIfInBounds b (.map mes' m'.2) }) (r':=E.X.r) (o':=.mm l es (ms.set i m') cl) HE hid rfl rfl rfl (Xi J.symm) (fun x _ _ R=>k x fun e=>by
   subst e;exact R h t u) (fun _ _=>rfl) (fun _ _ _ hk=>.inl hk) (fun _ hk=>⟨hk,fun _ U=>U⟩) (fun hle=>?_) ⟨rfl,rfl,rfl,fun _=>aB _⟩ (.inr ⟨rfl,[],(cV _).symm⟩)
 ·exact⟨_,by simp[setObj,fp,N],key.1,key.2⟩
 ·have A := HE.obj id _ hid
  simp only[aD]at A⊢;obtain⟨b0,n,B,g1,g2,g3,g4,g5,g6⟩:=A;have M:b0≠b:=fun e=>HE.cd id b0 n l h t g1 (by rw[e]; exact u);refine⟨b0,n,B,g1,?_,eP (fun a _ hr=>bA hle a hr) g3,?_,g5,fun j V v g d=>?_⟩
  ·rw [← g2]
   exact k b0 M
  ·show (dh (E.X.r l)).length = _
   rw[nT];exact g4
  ·have d : (dh (E.X.r l))[j]? = some v := d
   by_cases e:i=j
   ·subst e
    rw[bd (az hm)]at g;cases g;rw[q]at d;cases d;exact⟨mes',by simp[I],eP (fun a _ hr=>bA hle a hr) hr⟩
   ·rw [aJ e] at g
    obtain⟨mm,W,Y⟩:=g6 j V v g d;refine⟨mm,?_,eP (fun a _ hr=>bA hle a hr) Y⟩;rw[←W];exact k v fun e2=>e (Mw HE q (by rw[←e2]; exact d))
def qs(P:Program)(t:TypeId)(m k v:AV)(H:List ab):Option (List ab) :=
 match cz P t,m with
 | some (g,_),.sub id l (some i0)=>match H[id]? with
  | some (.mm l' b a d)=>match ah l l',a[i0]?,fX P g k with
   | true,some mm,some h=>if v.closed=true∧k.closed=true then
     match du P g h mm.1 0 with
     |some (some (i,_))=>some (H.set id (.mm l b (a.set i0 (mm.1.modify i fun e=>(k,v,e.2.2),mm.2)) d))
     |some none=>some (H.set id (.mm l b (a.set i0 (mm.1++[(k,v,mm.2)],mm.2+1)) d))
     |none=>none
    else none
   |_,_,_=>none
  |_=>none
 |_,_=>none
theorem Mz{P:Program}{E:Env}(HE:ak E){t:TypeId}{m k v:AV}{c d u:Value}{H':List ab}(h:qs P t m k v E.H=some H')(hm:rel E m c)(hk:rel E k d)(N:rel E v u) :
  ∃ w',(ku t c d u).run P E.w=.ok () w'∧ak { w:=w',H:=H',loc:=E.loc,X:=E.X }∧E.le { w:=w',H:=H',loc:=E.loc,X:=E.X }:=by
 unfold qs at h;split at h
 case h_2=>cases h
 rename_i kt et id l i0 O;split at h
 case h_2=>cases h
 rename_i l' Yf Yg Yh hid;split at h
 case h_2=>cases h
 rename_i mm kv D hmm W;have D:=aR D;subst D;obtain⟨es,cl⟩:=mm;split at h
 case isFalse=>cases h
 rename_i A;obtain⟨b,ms,rfl,h1,I,J⟩:=DK HE hid hmm hm;have r:=fY W hk;have R:(getObj b).run P E.w=.ok (.map ms cl) E.w:=by simp[getObj,fp,I]
 obtain⟨hlen,B⟩:=dj.1 J;split at h
 ·rename_i i v0 hf
  cases h;obtain⟨r',g1,g2⟩:=fM r E.w J hf;cases r' with
  |none=>simp[cG]at g2
  | some q =>
   simp only[cG]at g2;obtain⟨q1,q2,_,e',M,q5⟩:=g2;obtain⟨_,x,l,f1,f2,f3⟩:=qk hf;simp only[fm]at M f1;obtain⟨a1,a2,a3,a4,a5⟩:=B i x e' f1 M;obtain⟨s1,s2⟩:=uc r (fY f2 a1) f3;have Y:ms[i]? = some e':=by simpa using M
   obtain⟨w',r1,r2,r3⟩:=DN (P:=P) HE (m':=(es.modify i fun e=>(k,v,e.2.2),cl)) (mes':=ms.modify i fun e=>{ e with key:=d,val:=u }) hid hmm h1 I (by
    rw[dj];refine⟨by simp[hlen],fun j y z a g=>?_⟩;simp only[gv]at a;simp only[jg,gv]at g;obtain⟨y0,Yc,rfl⟩:=df.1 a;obtain⟨z0,Yd,rfl⟩:=df.1 g;obtain⟨b1,b2,U,b4,b5⟩:=B j y0 z0 Yc Yd;by_cases e:i=j
    ·subst e
     simp only[if_true];exact⟨hk,N,U,A.2,A.1⟩
    ·simp only [if_neg e]
     exact⟨b1,b2,U,b4,b5⟩)
   refine⟨w',?_,r2,r3⟩;subst q1;have Ye:(nV e'.key d).run P E.w=.ok d E.w:=by simp[nV,s2]
   simp only[ku,bG,Sem.aX (en O),bH,R,ff r,g1,Y,eZ,nW,Ye];exact r1
 ·rename_i hf
  cases h;obtain⟨r',g1,g2⟩:=fM r E.w J hf;cases r' with
  |some _=>simp[cG]at g2
  | none =>
   obtain⟨w',r1,r2,r3⟩:=DN (P:=P) HE (m':=(es++[(k,v,cl)],cl+1)) (mes':=ms.push { key:=d,val:=u,born:=cl }) hid hmm h1 I (by
    rw[dj];refine⟨by simp[hlen],fun j y z a g=>?_⟩;simp only[mD,d_,hlen]at a g;by_cases e:j<ms.toList.length
    ·simp only [if_pos e] at a g
     exact B j y z a g
    ·simp only [if_neg e] at a g
     cases V:j-ms.toList.length with
     | zero =>
      rw[V]at a g;simp at a g;subst a; subst g;exact⟨hk,N,rfl,A.2,A.1⟩
     |succ _=>rw[V]at a; simp at a)
   refine⟨w',?_,r2,r3⟩;simp only[ku,bG,Sem.aX (en O),bH,R,ff r,g1];exact r1
 ·cases h
theorem DO{P:Program}{E:Env}(HE:ak E){id l b n cl cl':Nat}{es es':List (AV × Option Nat × Nat)}{ms:List (List (AV × AV × Nat) × Nat)}{u mes':Array MapEntry}(hid:E.H[id]? = some (.mm l es ms cl)) (d:E.loc[id]? = some (some (b,n)))
  (B:E.w.heap[b]? = some (.map u cl)) (hr:ba E (eh es') mes'.toList)
  (hmm:∀(i:Nat) x e,es'[i]? = some x→mes'.toList[i]? = some e→(x.2.1=none∧e.val=.map none)∨∃ j b,x.2.1=some j∧(dh (E.X.r l))[j]? = some b∧e.val=.map (some b)) :
  ∃ w',(setObj b (.map mes' cl')).run P E.w=.ok () w'∧ak { w:=w',H:=E.H.set id (.mm l es' ms cl'),loc:=E.loc,X:=E.X }∧E.le { w:=w',H:=E.H.set id (.mm l es' ms cl'),loc:=E.loc,X:=E.X }:=by
 have v:=(HE.lt id b n d).1;have A:({ E.w with heap:=E.w.heap.setIfInBounds b (.map mes' cl') }:World).heap.size=E.w.heap.size:=by simp
 have g:∀ y,y≠b→({ E.w with heap:=E.w.heap.setIfInBounds b (.map mes' cl') }:World).heap[y]? = E.w.heap[y]? := by
  intro y D;simp only[xa];rw[if_neg (fun e=>D e.symm)]
 have key:=ak.xy (w':={ E.w with heap:=E.w.heap.setIfInBounds b (.map mes' cl') }) (r':=E.X.r) (o':=.mm l es' ms cl') HE hid rfl rfl rfl (Xi A.symm) (fun x _ I _=>g x fun e=>by
   subst e;exact I n d) (fun _ _=>rfl) (fun _ _ _ hk=>.inl hk) (fun _ hk=>⟨hk,fun _ J=>J⟩) (fun hle=>?_) ⟨rfl,rfl,rfl,fun _=>aB _⟩ (.inr ⟨rfl,[],(cV _).symm⟩)
 ·exact⟨_,by simp[setObj,fp,B],key.1,key.2⟩
 ·have q := HE.obj id _ hid
  simp only[aD]at q⊢;obtain⟨b0,n0,Y,g1,g2,g3,g4,g5,g6⟩:=q;refine⟨b,n,mes',d,by simp[v],eP (fun a _ hr=>bA hle a hr) hr,g4,hmm,fun j M t N k=>?_⟩;obtain⟨mm,O,R⟩:=g6 j M t N k;obtain⟨h,U,V⟩:=tG (dK k);refine⟨mm,?_,eP (fun a _ hr=>bA hle a hr) R⟩;rw[←O];exact g t fun W=>HE.cd id b n l h U d (by rw[←W]; exact V)
def gO(P:Program)(t:TypeId)(m k:AV)(H:List ab):Option (AV × List ab) :=
 match cz P t,m with
 | some (a,b),.map id=>match H[id]? with
  | some (.mm l es ms cl)=>match fX P a k,fN P b,k.closed with
   | some d,some (.lit (.map none)),true=>match du P a d (eh es) 0 with
    |some none=>some (.tuple [.sub id l none,.lit (goInt cl)],H.set id (.mm l (es++[(k,none,cl)]) ms (cl+1)))
    |_=>none
   |_,_,_=>none
  |_=>none
 |_,_=>none
theorem MA{P:Program}{E:Env}(HE:ak E){t:TypeId}{m k v:AV}{c d:Value}{H':List ab}(h:gO P t m k E.H=some (v,H'))(hm:rel E m c)(hk:rel E k d) :
  ∃ u w',(xb t c d).run P E.w=.ok u w'∧b_ E v H' u w':=by
 unfold gO at h;split at h
 case h_2=>cases h
 rename_i kt et id Y;split at h
 case h_2=>cases h
 rename_i l es ms cl hid;split at h
 case h_2=>cases h
 rename_i kv R q U;obtain⟨b,n,J,rfl,h1,M,N,h4,h5,h6⟩:=ya HE hid hm;have I:=fY R hk;have D:(getObj b).run P E.w=.ok (.map J cl) E.w:=by simp[getObj,fp,M]
 obtain⟨hlen,O⟩:=dj.1 N;rw[CR]at hlen;split at h
 case h_2=>cases h
 rename_i hf;cases h;obtain⟨r',g1,g2⟩:=fM I E.w N hf;cases r' with
 |some _=>simp[cG]at g2
 | none =>
  obtain⟨zv,z1,z2⟩:=oG q E.w;have V:zv=.map none:=by have:=z2 E; simpa[rel]using this
  subst V;have W:ba E (eh (es++[(k,none,cl)])) (J.push { key:=d,val:=.map none,born:=cl }).toList:=by
   rw[dj];refine⟨by simp[eh,hlen],fun a y z g q=>?_⟩;unfold eh at g;rw[nY]at g;simp only[mD,d_,eY]at g q;rw[←hlen]at q;by_cases e:a<es.length
   ·simp only [if_pos e] at g q
    exact O a y z (by unfold eh; exact g) q
   ·simp only [if_neg e] at g q
    cases B:a-es.length with
    | zero =>
     rw[B]at g q;simp at g q;subst g; subst q;exact⟨hk,by simp[rel],rfl,U,rfl⟩
    |succ _=>rw[B]at g; simp at g
  obtain⟨w1,p1,p2,p3⟩:=DO (P:=P) HE (cl':=cl+1) hid h1 M W (fun i x e A he=>by
   simp only[mD,d_]at A he;rw[←hlen]at he;by_cases D:i<es.length
   ·simp only [if_pos D] at A he
    exact h5 i x e A he
   ·simp only [if_neg D] at A he
    cases B:i-es.length with
    | zero =>
     rw[B]at A he;simp at A he;subst A; subst he;exact .inl ⟨rfl,rfl⟩
    |succ _=>rw[B]at A; simp at A)
  refine⟨.tuple #[.map none,goInt cl],w1,?_,E.loc,E.X.r,?_,p2,p3⟩
  ·simp only [xb, bG, Sem.aX (en Y), bH, D, ff I, g1, z1]
   rw[p1];rfl
  ·simp only [rel]
   refine⟨_,rfl,?_⟩;simp[ae,rel]
def mU(es:List (AV × Option Nat × Nat))(st:Int):Option Nat:=es.findIdx? fun x=>(x.2.2:Int)==st
theorem DP{E:Env}{st:Int}:∀{es:List (AV × Option Nat × Nat)} {ms:List MapEntry},ba E (eh es) ms→ms.findIdx? (fun e=>(e.born:Int)==st)=mU es st
 | [],[],_=>rfl
 | [],_::_,h=>by simp[eh,ba]at h
 |_::_,[],h=>by simp[eh,ba]at h
 | x::es,e::ms,h=>by
  have h':ba E ((x.1,.undef,x.2.2)::eh es) (e::ms):=h;simp only[ba]at h';obtain⟨_,_,b,_,_,d⟩:=h';have a:=DP (st:=st) d;unfold mU at a⊢;simp only[CA,b,a]
theorem MB{E:Env}(HE:ak E){id j l cl cJ:Nat}{es:List (AV × Option Nat × Nat)}{ms:List (List (AV × AV × Nat) × Nat)}{k:List (AV × AV × Nat)}{u:Value}(hid:E.H[id]? = some (.mm l es ms cl))(v:E.H[j]? = some (.map k cJ))(hu:rel E (.map j) u) :
  ∃ b y r',u=.map (some b)∧(∃ t,r' l=E.X.r l++t)∧(dh (r' l))[ms.length]? = some b∧(∀ i,i≠j→y[i]? = E.loc[i]?) ∧
   ak { w:=E.w,H:=(E.H.set id (.mm l es (ms++[(k,cJ)]) cl)).set j .dead,loc:=y,X:=E.X.re r' }∧E.le { w:=E.w,H:=(E.H.set id (.mm l es (ms++[(k,cJ)]) cl)).set j .dead,loc:=y,X:=E.X.re r' }:=by
 obtain⟨b,n,J,rfl,h1,N,O⟩:=mO HE v hu;have B:=HE.obj id _ hid;simp only[aD]at B;obtain⟨b0,R,I,g1,g2,g3,g4,g5,g6⟩:=B;have M:j≠id:=fun e=>by rw[e,hid]at v; cases v
 have A:dO E.X.r l (some (b,n)) l=E.X.r l++[some (some (b,n))]:=if_pos rfl;have q:dh (dO E.X.r l (some (b,n)) l)=dh (E.X.r l)++[b]:=by
  rw[A,xo];rfl
 have key:=ak.attach HE (o':=.mm l es (ms++[(k,cJ)]) cl) hid rfl rfl rfl v rfl h1 (fun hle=>?_) (.inr rfl)
 ·refine ⟨b, E.loc.set j none, dO E.X.r l (some (b, n)), rfl, ⟨_, A⟩, ?_, fun i hi => aJ (Ne.symm hi), key.1, key.2⟩
  rw[q,←g4];simp
 ·simp only [aD]
  refine⟨b0,R,I,by rw[aJ M]; exact g1,g2,eP (fun a _ hr=>bA hle a hr) g3,?_,fun i x e U he=>?_,fun i V bi g d=>?_⟩
  ·show (dh (dO E.X.r l (some (b, n)) l)).length = _
   rw[q];simp[g4]
  ·rcases g5 i x e U he with h | ⟨D, W, Y, a2, a3⟩
   ·exact .inl h
   ·refine .inr ⟨D, W, Y, ?_, a3⟩
    show (dh (dO E.X.r l (some (b,n)) l))[D]? = _
    rw[q,cn (az a2)];exact a2
  ·have d : (dh (dO E.X.r l (some (b, n)) l))[i]? = some bi := d
   rw[q]at d;rw[d_]at g d;by_cases e:i<ms.length
   ·rw [if_pos e] at g
    rw[if_pos (by omega)]at d;obtain⟨mm,k1,k2⟩:=g6 i V bi g d;exact⟨mm,k1,eP (fun a _ hr=>bA hle a hr) k2⟩
   ·rw [if_neg e] at g
    rw[if_neg (by omega),g4]at d;cases hk:i-ms.length with
    | zero =>
     rw[hk]at g d;simp at g d;subst g d;exact⟨J,N,eP (fun a _ hr=>bA hle a hr) O⟩
    |succ _=>rw[hk]at g; simp at g
def jt(m s v:AV)(H:List ab):Option (List ab) :=
 match m,s,v with
 | .map id,.lit (.int .i64 st),.map j=>match H[id]?,H[j]? with
  | some (.mm l es ms cl),some (.map a cJ)=>match mU es st with
   | some i=>match es[i]? with
    |some (key,none,bn)=>some ((H.set id (.mm l (es.set i (key,some ms.length,bn)) (ms++[(a,cJ)]) cl)).set j .dead)
    |_=>none
   |none=>none
  |_,_=>none
 |_,_,_=>none
theorem MC{P:Program}{E:Env}(HE:ak E){t:TypeId}{m s v:AV}{c d u:Value}{H':List ab}(h:jt m s v E.H=some H')(hm:rel E m c)(hs:rel E s d)(hv:rel E v u) :
  ∃ w',(tf t c d u).run P E.w=.ok () w'∧∀ x,b_ E .undef H' x w':=by
 unfold jt at h;split at h
 case h_2=>cases h
 rename_i id st j;split at h
 case h_2=>cases h
 rename_i l es ms cl k cJ hid M;split at h
 case h_2=>cases h
 rename_i i hi;split at h
 case h_2=>cases h
 rename_i key bn U;cases h;obtain⟨b,n,g,rfl,h1,W,Y,h4,h5,h6⟩:=ya HE hid hm;have J:j≠id:=fun e=>by rw[e,hid]at M; cases M
 have e1:(getObj b).run P E.w=.ok (.map g cl) E.w:=by simp[getObj,fp,W]
 obtain⟨hlen,R⟩:=dj.1 Y;rw[CR]at hlen;have V:=az U;obtain⟨e',q4⟩:∃ e',g.toList[i]? = some e':=⟨g.toList[i]'(by omega),bC _⟩
 have Yc:g.findIdx? (fun e=>(e.born:Int)==st)=some i:=by
  have e0:g=g.toList.toArray:=by simp
  rw[e0,Xh,DP Y,hi]
 obtain⟨D,r,r',rfl,⟨tt,ht⟩,Yg,Yd,Yh,A⟩:=MB HE hid M hv;have hd:d=.int .i64 st:=by simpa[rel]using hs
 have Ye:({ w:=E.w,H:=(E.H.set id (.mm l es (ms++[(k,cJ)]) cl)).set j .dead,loc:=r,X:=E.X.re r' }:Env).H[id]? = some (.mm l es (ms++[(k,cJ)]) cl):=by
  simp only[];rw[aJ J,bd (az hid)]
 have Yi:ba { w:=E.w,H:=(E.H.set id (.mm l es (ms++[(k,cJ)]) cl)).set j .dead,loc:=r,X:=E.X.re r' } (eh (es.set i (key,some ms.length,bn))) (g.modify i fun e=>{ e with val:=.map (some D) }).toList:=by
  rw[dj];refine⟨by simp[eh,hlen],fun a y z q hz=>?_⟩;simp only[jg,gv]at hz;obtain⟨z0,B,rfl⟩:=df.1 hz;unfold eh at q;rw[b7,dy]at q;by_cases e:i=a
  ·subst e
   rw[if_pos rfl,if_pos V]at q;cases q;obtain⟨b1,b2,N,O,b5⟩:=R i (key,.undef,bn) z0 (by unfold eh; rw[b7,U]; rfl) B;simp only[if_true];exact⟨bA A _ b1,by simp[rel],N,O,rfl⟩
  ·rw [if_neg e] at q
   obtain⟨b1,b2,N,O,b5⟩:=R a y z0 (by unfold eh; rw[b7]; exact q) B;simp only[if_neg e];exact⟨bA A _ b1,bA A _ b2,N,O,b5⟩
 obtain⟨w',p1,p2,p3⟩:=DO (P:=P) Yh (cl':=cl) (es':=es.set i (key,some ms.length,bn)) (mes':=g.modify i fun e=>{ e with val:=.map (some D) }) Ye (by
  show r[id]? = _
  rw[Yd id (Ne.symm J)];exact h1) W Yi (fun a x e I he=>by
  simp only[jg,gv]at he;obtain⟨z0,B,rfl⟩:=df.1 he;by_cases e:i=a
  ·subst e
   rw[bd V]at I;cases I;exact .inr ⟨ms.length,D,rfl,Yg,by simp⟩
  ·rw [aJ e] at I
   simp only[if_neg e];rcases h5 a x z0 I B with h|⟨i',b',a1,a2,a3⟩
   ·exact .inl h
   ·refine .inr ⟨i', b', a1, ?_, a3⟩
    show (dh (r' l))[i']? = _
    rw[ht,xo,cn (az a2)];exact a2)
 have hH:((E.H.set id (.mm l es (ms++[(k,cJ)]) cl)).set j .dead).set id (.mm l (es.set i (key,some ms.length,bn)) (ms++[(k,cJ)]) cl)=(E.H.set id (.mm l (es.set i (key,some ms.length,bn)) (ms++[(k,cJ)]) cl)).set j .dead:=by
  rw[List.set_comm _ _ J,nX]
 rw[hH]at p2 p3;have Yf:(tf t (.map (some b)) d (.map (some D))).run P E.w=.ok () w':=by
  subst hd;simp only[tf,asInt,asIntOf,bG,bH,e1,eb,Yc];exact p1
 exact⟨w',Yf,fun xx=>⟨r,r',by simp[rel],p2,A.trans p3⟩⟩
end Go.AL
