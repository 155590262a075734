/-
 What is proved here: basic facts of an abstract logic for the model's programs: abstract values,what they say of the model's values in a world,and that this survives what a call may do. No program in sight; no condition.
-/
import Derived.Calls
import Derived.Orders
import Derived.OrdersIn
import Derived.RangeFuncNested
import Derived.RangeFuncLeaves
import Derived.Laws.Sem
import Derived.Laws.Cells
import Derived.Laws.StructEq
import Derived.Laws.AppendOwn
import Derived.Laws.CopyRow
set_option linter.all false
open Array renaming getElem?_push→wv,length_toList→la,toList_map→QJ,ext'→fc,range→gd,map→G9,getElem?_setIfInBounds→AM,toList_modify→kz,toList_push→oK
open BitVec renaming ofInt→wx
open Bool renaming and_true→fO,and_eq_true→ax,false_eq_true→k_,and_assoc→aeB
open ByteArray renaming empty→wu
open Go.Act renaming eval→AE
open Go.Addr.mk renaming injEq→GZ
open Go.Builtin renaming lenOf→G4,firstCells→gR,append_→l4,zeroCells→wB,nextslicecap→G5,delete_→QR,clear_→QU
open Go.Instr renaming loadAt→AG,sureAddr→mX,fieldAt→QC,indexAt→wy,sliceBounds→qe,sliceBound→AH,sliceAt→lY,slice→mY,index→QF,field→aeE,fill→aeF,build→QH,storeAt→G7,alloc→AK,box→aeK,makeSlice→aeL,buildSlice→G_,range→QN,checkKey→tb,findAsking→QO,findNow→wD,sameNow→wE,findKey→QP,lookup→ku,makeMap→QQ,sameBits→G',mapUpdate→l6,keyThatStays→qk,mapEntry→AN,entryStore→wG
open Go.Op renaming bytesLess→k9,equalIn→jr,eqFields→QE,equal→wA
open Go.Program renaming fieldsOf→aeD
open Go.Question renaming cut→aeI,forced→aeJ
open Go.Result renaming andThen_ok→bX
open Go.Sem renaming run_bind→bV,run_pure→fa,run→gf
open Go.Utf8 renaming decode→nf
open Go.Value renaming cells→G2
open Go.Value.pointer renaming injEq→aez
open Go.Value.slice renaming injEq→jQ
open Go.World renaming cell?→s7,setRow→aeG
open List renaming length_cons→cw,append_nil→cO,getElem?_append_left→cI,length_map→dJ,getElem?_map→bZ,getElem_of_mem→oG,getElem?_eq_getElem→bI,mem_of_getElem?→eT,getElem?_eq_none→lW,getElem?_append_right→iz,getElem?_append→e_,getElem?_set_self→bB,getElem?_set_ne→aQ,getElem?_set→dR,set_eq_of_length_le→GY,all_eq_true→cM,nodup_nil→QB,getD_eq_getElem?_getD→cf,getElem?_drop→qd,getElem?_take→lX,take_succ_cons→AF,mem_cons→bW,map_cons→du,map_take→G0,map_drop→G1,mem_of_mem_drop→wz,mem_of_mem_take→s8,cons_append→lZ,drop_succ_cons→aeC,take_one→QD,eq_nil_of_length_eq_zero→AI,drop_drop→oH,take_append_drop→s9,ext_getElem?→jR,length_take→kr,length_set→m_,length_append→fb,mem_append→cS,mapM_cons→QG,flatten_cons→qg,getElem?_of_mem→nc,size_toArray→AJ,nil_append→lb,length_drop→oJ,flatten_append→wC,replicate→bM,replicate_succ→QK,eq_of_mem_replicate→QL,getElem?_modify→iA,mem_cons_self→cW,mem_cons_of_mem→c9,replicate_zero→aeM,mem_replicate→QV,set_set→oL,map_append→kA,findIdx?_cons→Ha,findIdx?_toArray→aeO
open List.cons renaming injEq→G3
open Nat renaming add_assoc→oF,add_comm→sZ,add_mul→fo,le_refl→aB,le_add_right→eS,le_trans→lV,lt_of_lt_of_le→dn,zero_le→er,ne_of_lt→aey,lt_or_ge→jq,zero_add→cP,sub_sub→aeA,mul_le_mul→aeH,sub_zero→ga,zero_mul→qi,add_zero→oI,mul_le_mul_right→s_,one_mul→G8,beq→ad,mul_eq_zero→QM,succ_mul→aeN,eq_of_beq_eq_true→br,le_of_eq→aeP
open Option renaming map_eq_some_iff→dQ,isSome_iff_exists→qf,map_some→eJ,getD_some→l7
open Option.some renaming injEq→aV
open Prod.mk renaming injEq→ba
namespace Go.AL
inductive Kd where
 |int (k:IntKind)
 |str
 |bool
 |list (ks:List Kd)
 deriving Inhabited
inductive G where
 |i (n:Int)
 |s (b:ByteArray)
 |t (x:Bool)
 |l (rows:List (List G))
instance:Inhabited G:=⟨.i 0⟩
def G.int:G→Int
 |.i n=>n
 |_=>0
def G.str:G→ByteArray
 |.s b=>b
 |_=>wu
def G.bool:G→Bool
 |.t x=>x
 |_=>false
def G.rows:G→List (List G)
 |.l rows=>rows
 |_=>[]
inductive AV where
 |undef
 |lit (v:Value)
 |nils
 |list (k:Nat) (rows:List (List AV))
 |listF (ks:List Kd) (rows:List (List G))
 |agg (cells:List AV)
 |tuple (vs:List AV)
 |cptr (cells:List AV)
 |ptr (id ae k row col:Nat)
 |vec (k id ae off n:Nat)
 |map (id:Nat)
 |clo (f:FuncId) (caps:List AV)
 |ifc
 |emptyS (isNil:Bool)
 |sub (id l:Nat) (j:Option Nat)
 deriving Inhabited
def iB:Kd→G→AV
 |.int k,g=>.lit (.int k g.int)
 |.str,g=>.lit (.string g.str)
 |.bool,g=>.lit (.bool g.bool)
 |.list ks,g=>.listF ks g.rows
def aK:List Kd→List G→List AV
 | [],_=>[]
 |k::ks,g=>iB k (g.headD default)::aK ks g.tail
theorem qp:∀(ks:List Kd) (g:List G),(aK ks g).length=ks.length
 | [],_=>rfl
 |_::ks,g=>by simp[aK,qp ks]
inductive ab where
 |dead
 |box (cells:List AV)
 |vec (k ae:Nat) (rows:List (List AV))
 |map (es:List (AV × AV × Nat)) (clock:Nat)
 |iter (s:ByteArray) (pos:Nat)
 |eD (l:Nat) (T B:TypeId) (s:ByteArray)
 |aG (l k:Nat) (es:List (AV × Option (List (List AV)) × Nat)) (clock:Nat)
 |mm (l:Nat) (es:List (AV × Option Nat × Nat)) (ms:List (List (AV × AV × Nat) × Nat)) (clock:Nat)
 |dK
 deriving Inhabited
def ab.born:ab→Bool
 |.dK=>false
 |_=>true
def ab.label:ab→Option Nat
 |.eD l _ _ _=>some l
 |.aG l _ _ _=>some l
 |.mm l _ _ _=>some l
 |_=>none
def ab.cZ:ab→Option Nat
 |.mm l _ _ _=>some l
 |_=>none
theorem ab.kD{o:ab}{l:Nat}(h:o.cZ=some l):o.label=some l:=by
 cases o<;>first|exact h|cases h
theorem ab.A0{o:ab}{l:Nat}(h:o.cZ=some l):o.born=true:=by
 cases o<;>first|rfl|cases h
theorem ab.wV{o:ab}{l:Nat}(h:o.label=some l):o.born=true:=by
 cases o<;>first|rfl|cases h
theorem ab.wW{o:ab}(h:o.label=none):o.cZ=none:=by
 cases o<;>first|rfl|cases h
def ab.aD : ab→Option Nat
 |.dead=>none
 |.box _=>some 0
 |.vec _ v _=>some v
 |.map _ _=>some 0
 |.iter _ _=>some 0
 |.eD ..=>some 0
 |.aG ..=>some 0
 |.mm ..=>some 0
 |.dK=>none
theorem ab.A1{o:ab}{v:Nat}(h:o.aD = some v):o.born=true:=by
 cases o<;>first|rfl|cases h
structure XS where
 x:Nat→Prop
 z:Nat→Prop
 r:Nat→List (Option (Option (Nat × Nat)))
instance:CoeFun XS fun _=>Nat→Prop:=⟨XS.x⟩
def XS.or(X:XS)(p:Nat→Prop):XS:=⟨fun b=>X b∨p b,X.z,X.r⟩
def XS.re(X:XS) (r:Nat→List (Option (Option (Nat × Nat)))):XS:=⟨X.x,X.z,r⟩
@[simp] theorem XS.Re (X:XS):X.re X.r=X:=rfl
@[simp] theorem XS.afi (X:XS) (r):(X.re r).x=X.x:=rfl
@[simp] theorem XS.afj (X:XS) (r):(X.re r).z=X.z:=rfl
@[simp] theorem XS.afk (X:XS) (r):(X.re r).r=r:=rfl
@[simp] theorem XS.afl (X:XS) (r r'):(X.re r).re r'=X.re r':=rfl
theorem XS.Hw{X X':XS}(h:X'.x=X.x∧X'.z=X.z)(r):X'.re r=X.re r:=by
 unfold XS.re;rw[h.1,h.2]
def dE:Nat→List (Option (Option (Nat × Nat))):=fun _=>[]
def tv:List (Nat × Array Value):=[]
class Dr where
 d:Bool
abbrev tw:Dr:=⟨true⟩
variable [Dr]
def Rf:Bool:=Dr.d
structure Env where
 w:World
 H:List ab
 loc:List (Option (Nat × Nat))
 X:XS
def Env.sat(E:Env)(b:Nat):Prop:=∃(l h m:Nat),(E.X.r l)[h]? = some (some (some (b,m)))
def Env.own(E:Env)(b:Nat):Prop:=(∃(id:Nat) (c:Nat),E.loc[id]? = some (some (b,c)))∨E.sat b
def Env.iC(E:Env)(b:Nat):Prop:=b<E.w.heap.size∧¬ E.own b∧¬ E.X b
def Env.live(E:Env)(id ae:Nat):Prop:=∃ o,E.H[id]? = some o∧o.aD = some ae
def Env.past(E:Env)(id ae:Nat):Prop:=∃ o,E.H[id]? = some o∧o.born=true∧∀ v,o.aD = some v→ae≤v
def dU (r:List (Option (Option (Nat × Nat)))):List Nat:=r.filterMap fun x=>match x with
 |some (some (b,_))=>some b
 |_=>none
theorem A2 (r t:List (Option (Option (Nat × Nat)))):dU (r++t)=dU r++dU t:=List.filterMap_append
def Env.Hx(E:Env)(id l i:Nat)(c:Value):Prop:=(∃ o,E.H[id]? = some o∧o.cZ=some l)∧∃ b,(dU (E.X.r l))[i]? = some b∧c=.map (some b)
def di:Value→Bool
 |.agg _ | .tuple _=>false
 |_=>true
mutual
def AV.closed:AV→Bool
 |.undef | .lit _ | .nils | .list _ _ | .listF _ _ | .cptr _ | .ifc | .emptyS _=>true
 |.agg cs | .tuple cs | .clo _ cs=>AV.bp cs
 |.ptr .. | .vec .. | .map _ | .sub ..=>false
def AV.bp:List AV→Bool
 | []=>true
 |a::as=>a.closed&&AV.bp as
end
theorem fE:∀(ks:List Kd) (g:List G),AV.bp (aK ks g)=true
 | [],_=>rfl
 | k::ks,g=>by
  simp only[aK,AV.bp,fE ks,fO];cases k<;>rfl
mutual
def dS(E:Env):Kd→G→Value→Prop
 |.int k,g,c=>c=.int k g.int
 |.str,g,c=>c=.string g.str
 |.bool,g,c=>c=.bool g.bool
 | .list ks,g,c=>∃ base cap,c=.slice base g.rows.length cap∧g.rows.length≤cap ∧
   (g.rows=[]∨∃ b o,base=some ⟨b,o,none⟩∧E.iC b∧∀(i:Nat) (r:List G),g.rows[i]? = some r→kE E ks r b (o+i*ks.length))
def kE(E:Env):List Kd→List G→Nat→Nat→Prop
 | [],_,_,_=>True
 |k::ks,g,b,o=>(∃ v,E.w.cell? ⟨b,o,none⟩=some v∧di v=true∧dS E k (g.headD default) v)∧kE E ks g.tail b (o+1)
end
def eV(rows:List (List AV)):Prop:=∀ r∈rows,AV.bp r=true
mutual
def rel(E:Env):AV→Value→Prop
 |.undef,_=>True
 |.lit v,c=>c=v
 |.nils,c=>∃ base,c=.slice base 0 0
 | .list k rows,c=>eV rows∧∃ base cap,c=.slice base rows.length cap∧rows.length≤cap ∧
   (rows=[]∨∃ b o,base=some ⟨b,o,none⟩∧E.iC b∧cy E k rows b o)
 |.listF ks rows,c=>dS E (.list ks) (.l rows) c
 |.agg cells,c=>∃ cs:Array Value,c=.agg cs∧(∀ x∈cs.toList,di x=true)∧af E cells cs.toList
 |.tuple vs,c=>∃ cs:Array Value,c=.tuple cs∧af E vs cs.toList
 |.cptr cells,c=>AV.bp cells=true∧∃ b o,c=.pointer (some ⟨b,o,none⟩)∧E.iC b∧ch E cells b o
 | .ptr id ae k row col,c=>(∃ b o,c=.pointer (some ⟨b,o,none⟩))∧E.past id ae∧(E.live id ae→∃ b n,E.loc[id]? = some (some (b,n)) ∧
   c=.pointer (some ⟨b,row*k+col,none⟩))
 | .vec k id ae off n,c=>(∃ base cap,c=.slice base n cap∧n≤cap∧(0<n→∃ b o,base=some ⟨b,o,none⟩))∧E.past id ae∧(E.live id ae →
   (E.loc[id]? = some none→n=0∧off=0∧∃ base,c=.slice base 0 0) ∧
   (∀ b m,E.loc[id]? = some (some (b,m))→off+n≤m∧∃ o,(off<m→o=off*k)∧c=.slice (some ⟨b,o,none⟩) n (m-off)))
 |.map id,c=>(∃ b,c=.map (some b))∧E.past id 0∧(E.live id 0→∃ b n,E.loc[id]? = some (some (b,n))∧c=.map (some b))
 |.clo f caps,c=>∃ cs:Array Value,c=.func (.func f) #[] cs∧af E caps cs.toList
 |.ifc,c=>∃ t v,c=.iface t v
 |.emptyS n,c=>∃ base cap,c=.slice base 0 cap∧base.isNone=n
 |.sub id l j,c=>(j=none∧c=.map none)∨∃ i,j=some i∧(∃ b,c=.map (some b))∧E.past id 0∧(E.live id 0→E.Hx id l i c)
def af(E:Env):List AV→List Value→Prop
 | [],[]=>True
 |a::as,v::vs=>rel E a v∧af E as vs
 |_,_=>False
def ch(E:Env):List AV→Nat→Nat→Prop
 | [],_,_=>True
 |a::as,b,o=>(∃ v,E.w.cell? ⟨b,o,none⟩=some v∧di v=true∧rel E a v)∧ch E as b (o+1)
def cy(E:Env)(k:Nat):List (List AV)→Nat→Nat→Prop
 | [],_,_=>True
 |r::rs,b,o=>r.length=k∧ch E r b o∧cy E k rs b (o+k)
end
theorem fP{E:Env}:∀{as:List AV} {vs:List Value},af E as vs→as.length=vs.length
 | [],[],_=>rfl
 |_::_,_::_,h=>by simp only[af]at h; simp[fP h.2]
 | [],_::_,h=>by simp[af]at h
 |_::_,[],h=>by simp[af]at h
theorem me{E:Env}:∀{as:List AV} {vs:List Value},
  af E as vs↔as.length=vs.length∧∀(i:Nat) a v,as[i]? = some a→vs[i]? = some v→rel E a v
 | [],[]=>by simp[af]
 | [],_::_=>by simp[af]
 |_::_,[]=>by simp[af]
 | a::as,v::vs=>by
  simp only[af,me (as:=as),cw];constructor
  ·rintro ⟨h1, h, k⟩
   refine⟨by omega,fun i x y d g=>?_⟩;cases i with
   |zero=>simp at d g; subst d; subst g; exact h1
   |succ i=>exact k i x y (by simpa using d) (by simpa using g)
  ·rintro ⟨h1, h⟩
   exact⟨h 0 a v rfl rfl,by omega,fun i x y d g=>h (i+1) x y (by simpa using d) (by simpa using g)⟩
theorem iD{E:Env}:∀{as:List AV} {b o:Nat},
  ch E as b o↔∀(i:Nat) a,as[i]? = some a→∃ v,E.w.cell? ⟨b,o+i,none⟩=some v∧di v=true∧rel E a v
 | [],b,o=>by simp[ch]
 | a::as,b,o=>by
  simp only[ch,iD (as:=as)];constructor
  ·rintro ⟨h1, g⟩ i x d
   cases i with
   |zero=>simp at d; subst d; exact h1
   |succ i=>have:=g i x (by simpa using d); rwa [oF,sZ 1 i]at this
  ·intro h
   refine⟨h 0 a rfl,fun i x d=>?_⟩;have:=h (i+1) x (by simpa using d)
   rwa [oF,sZ 1 i]
theorem lf{E:Env}{k:Nat}:∀{rs:List (List AV)} {b o:Nat},
  cy E k rs b o↔∀(i:Nat) r,rs[i]? = some r→r.length=k∧ch E r b (o+i*k)
 | [],b,o=>by simp[cy]
 | r::rs,b,o=>by
  simp only[cy,lf (rs:=rs)];constructor
  ·rintro ⟨h0, h1, g⟩ i x d
   cases i with
   |zero=>simp at d; subst d; simpa using⟨h0,h1⟩
   | succ i =>
    have:=g i x (by simpa using d)
    rwa [oF,show k+i*k=(i+1)*k from by rw[fo]; omega]at this
  ·intro h
   have h0:=h 0 r rfl;refine⟨h0.1,by simpa using h0.2,fun i x d=>?_⟩;have:=h (i+1) x (by simpa using d)
   rwa [oF,show k+i*k=(i+1)*k from by rw[fo]; omega]
def dL(w w':World):Prop:=w'.os=w.os∧w'.output=w.output∧w'.tape=w.tape∧(Rf=true→w.drawn≤w'.drawn)
theorem dL.refl(w:World):dL w w:=⟨rfl,rfl,rfl,by first|exact fun _=>aB _|exact fun _=>eS _ _⟩
theorem dL.trans{w w' d:World}(h:dL w w')(h':dL w' d):dL w d:=⟨h'.1.trans h.1,h'.2.1.trans h.2.1,h'.2.2.1.trans h.2.2.1,fun t=>lV (h.2.2.2 t) (h'.2.2.2 t)⟩
structure Env.le (E E':Env):Prop where
 past:∀ id ae,E.past id ae→E'.past id ae
 size:E.w.heap.size≤E'.w.heap.size
 same:∀ b,b<E.w.heap.size→¬ E.own b→E'.w.heap[b]? = E.w.heap[b]?
 own:∀ b,b<E.w.heap.size→¬ E.own b→¬ E'.own b
 live:∀ id ae,E.past id ae→E'.live id ae→E.live id ae∧E'.loc[id]? = E.loc[id]?
 X:E'.X.x=E.X.x∧E'.X.z=E.X.z
 rl:∀ l h,h<(E.X.r l).length→h<(E'.X.r l).length∧∀ q,(E'.X.r l)[h]? = some (some q)→(E.X.r l)[h]? = some (some q)
 env:dL E.w E'.w
 grow:∀ id l o,E.H[id]? = some o→o.cZ=some l→E'.live id 0→(∃ t,E'.X.r l=E.X.r l++t)∧∃ o',E'.H[id]? = some o'∧o'.cZ=some l
theorem Env.le.refl(E:Env):E.le E:=⟨fun _ _ h=>h,aB _,fun _ _ _=>rfl,fun _ _ h=>h,fun _ _ _ h=>⟨h,rfl⟩,⟨rfl,rfl⟩,fun _ _ h=>⟨h,fun _ d=>d⟩,⟨rfl,rfl,rfl,by first|exact fun _=>aB _|exact fun _=>eS _ _⟩,fun _ _ o h1 g _=>⟨⟨[],(cO _).symm⟩,o,h1,g⟩⟩
theorem Env.le.ok{E E':Env}(h:E.le E')(b:Nat)(hb:E.iC b):E'.iC b :=
 ⟨dn hb.1 h.size,h.own b hb.1 hb.2.1,by rw[show E'.X.x=E.X.x from h.X.1]; exact hb.2.2⟩
theorem Env.le.trans{E E' y:Env}(h:E.le E')(h':E'.le y):E.le y where
 past:=fun id ae d=>h'.past id ae (h.past id ae d)
 size:=lV h.size h'.size
 same:=fun b hb ho=>by rw[h'.same b (dn hb h.size) (h.own b hb ho),h.same b hb ho]
 own:=fun b hb ho=>h'.own b (dn hb h.size) (h.own b hb ho)
 live:=fun id ae hid N=>by
  obtain⟨g,a2⟩:=h'.live id ae (h.past id ae hid) N;obtain⟨b1,k⟩:=h.live id ae hid g;exact⟨b1,by rw[a2,k]⟩
 X:=⟨by rw[h'.X.1,h.X.1],by rw[h'.X.2,h.X.2]⟩
 rl:=fun l i hi=>by
  obtain⟨g,a2⟩:=h.rl l i hi;obtain⟨b1,k⟩:=h'.rl l i g;exact⟨b1,fun q O=>a2 q (k q O)⟩
 env:=h.env.trans h'.env
 grow:=fun id l o h1 B u=>by
  have d:E.past id 0:=⟨o,h1,ab.A0 B,fun v u=>er _⟩
  obtain⟨I,_⟩:=h'.live id 0 (h.past id 0 d) u;obtain⟨⟨t,U⟩,o',g1,g2⟩:=h.grow id l o h1 B I;obtain⟨⟨t',J⟩,M,g3,g4⟩:=h'.grow id l o' g1 g2 u;exact⟨⟨t++t',by rw[J,U,List.append_assoc]⟩,M,g3,g4⟩
theorem World.qs{w w':World}{b o:Nat}(h:w'.heap[b]? = w.heap[b]?):w'.cell? ⟨b,o,none⟩=w.cell? ⟨b,o,none⟩:=by
 simp[s7,h]
structure Env.bF (E E':Env):Prop where
 ok:∀ b,E.iC b→E'.iC b∧E'.w.heap[b]? = E.w.heap[b]?
theorem Env.le.toC{E E':Env}(h:E.le E'):E.bF E':=⟨fun b hb=>⟨h.ok b hb,h.same b hb.1 hb.2.1⟩⟩
mutual
theorem Hy{E E':Env}(h:E.bF E'):∀(k:Kd) {g:G} {c:Value},dS E k g c→dS E' k g c
 |.int k,g,c,d=>by simpa only[dS]using d
 |.str,g,c,d=>by simpa only[dS]using d
 |.bool,g,c,d=>by simpa only[dS]using d
 | .list ks,g,c,d=>by
  simp only[dS]at d⊢;obtain⟨base,cap,y,hle,v⟩:=d;refine⟨base,cap,y,hle,?_⟩;rcases v with B|⟨b,o,hb,q,u⟩
  ·exact .inl B
  ·exact .inr ⟨b,o,hb,(h.ok b q).1,fun i r hi=>Hz h ks (h.ok b q).2 (u i r hi)⟩
theorem Hz{E E':Env}(h:E.bF E'):∀(ks:List Kd) {g:List G} {b o:Nat},E'.w.heap[b]? = E.w.heap[b]? → kE E ks g b o→kE E' ks g b o
 | [],_,_,_,_,_=>by simp[kE]
 | k::ks,g,b,o,hb,d=>by
  simp only[kE]at d⊢;obtain⟨⟨v,h1,q,u⟩,y⟩:=d;exact⟨⟨v,by rw[World.qs hb]; exact h1,q,Hy h k u⟩,Hz h ks hb y⟩
end
mutual
theorem dF{E E':Env}(h:E.bF E'):∀(a:AV) {c:Value},a.closed=true→rel E a c→rel E' a c
 |.undef,_,_,_=>by simp[rel]
 |.lit v,c,_,d=>by simpa only[rel]using d
 |.nils,c,_,d=>by simpa only[rel]using d
 | .list k rows,c,_,d=>by
  simp only[rel]at d⊢;obtain⟨u,base,cap,g,hle,I⟩:=d;refine⟨u,base,cap,g,hle,?_⟩;rcases I with rfl|⟨b,o,hb,y,B⟩
  ·exact .inl rfl
  ·exact .inr ⟨b,o,hb,(h.ok b y).1,kF h rows u (h.ok b y).2 B⟩
 | .listF ks rows,c,_,d=>by
  simp only[rel]at d⊢;exact Hy h _ d
 | .agg cells,c,g,d=>by
  simp only[rel]at d⊢;obtain⟨cs,e,h1,q⟩:=d;exact⟨cs,e,h1,nr h cells (by simpa only[AV.closed]using g) q⟩
 | .tuple cells,c,g,d=>by
  simp only[rel]at d⊢;obtain⟨cs,e,q⟩:=d;exact⟨cs,e,nr h cells (by simpa only[AV.closed]using g) q⟩
 | .cptr cells,c,g,d=>by
  simp only[rel]at d⊢;obtain⟨u,b,o,e,y,q⟩:=d;exact⟨u,b,o,e,(h.ok b y).1,qt h cells u (h.ok b y).2 q⟩
 |.ptr ..,_,g,_=>by simp[AV.closed]at g
 |.vec ..,_,g,_=>by simp[AV.closed]at g
 |.map _,_,g,_=>by simp[AV.closed]at g
 |.sub ..,_,g,_=>by simp[AV.closed]at g
 | .clo f caps,c,g,d=>by
  simp only[rel]at d⊢;obtain⟨cs,e,q⟩:=d;exact⟨cs,e,nr h caps (by simpa only[AV.closed]using g) q⟩
 |.ifc,c,_,d=>by simpa only[rel]using d
 |.emptyS n,c,_,d=>by simpa only[rel]using d
theorem nr{E E':Env}(h:E.bF E'):∀(as:List AV) {vs:List Value},AV.bp as=true→af E as vs→af E' as vs
 | [],[],_,_=>by simp[af]
 | [],_::_,_,d=>by simp[af]at d
 |_::_,[],_,d=>by simp[af]at d
 | a::as,v::vs,g,d=>by
  simp only[AV.bp,ax]at g;simp only[af]at d⊢;exact⟨dF h a g.1 d.1,nr h as g.2 d.2⟩
theorem qt{E E':Env}(h:E.bF E'):∀(as:List AV) {b o:Nat},AV.bp as=true→E'.w.heap[b]? = E.w.heap[b]? → ch E as b o→ch E' as b o
 | [],_,_,_,_,_=>by simp[ch]
 | a::as,b,o,d,hb,g=>by
  simp only[AV.bp,ax]at d;simp only[ch]at g⊢;obtain⟨⟨v,h1,k,q⟩,u⟩:=g;exact⟨⟨v,by rw[World.qs hb]; exact h1,k,dF h a d.1 q⟩,qt h as d.2 hb u⟩
theorem kF{E E':Env}(h:E.bF E'){k:Nat}:∀(rs:List (List AV)) {b o:Nat},eV rs→E'.w.heap[b]? = E.w.heap[b]? → cy E k rs b o→cy E' k rs b o
 | [],_,_,_,_,_=>by simp[cy]
 | r::rs,b,o,g,hb,d=>by
  simp only[cy]at d⊢;exact⟨d.1,qt h r (g r (by simp)) hb d.2.1,kF h rs (fun x q=>g x (by simp[q])) hb d.2.2⟩
end
mutual
theorem bP{E E':Env}(h:E.le E'):∀(a:AV) {c:Value},rel E a c→rel E' a c
 |.undef,_,_=>by simp[rel]
 |.lit v,c,d=>by simpa only[rel]using d
 |.nils,c,d=>by simpa only[rel]using d
 |.list k rows,c,d=>dF h.toC _ (by simp[AV.closed]) d
 |.listF ks rows,c,d=>dF h.toC _ (by simp[AV.closed]) d
 | .agg cells,c,d=>by
  simp only[rel]at d⊢;obtain⟨cs,e,h1,g⟩:=d;exact⟨cs,e,h1,dw h cells g⟩
 | .tuple cells,c,d=>by
  simp only[rel]at d⊢;obtain⟨cs,e,g⟩:=d;exact⟨cs,e,dw h cells g⟩
 |.cptr cells,c,d=>dF h.toC _ (by simp[AV.closed]) d
 | .ptr id ae k row col,c,d=>by
  simp only[rel]at d⊢;refine⟨d.1,h.past _ _ d.2.1,fun q=>?_⟩;obtain⟨h1,g⟩:=h.live id ae d.2.1 q;rw[g];exact d.2.2 h1
 | .vec k id ae off n,c,d=>by
  simp only[rel]at d⊢;refine⟨d.1,h.past _ _ d.2.1,fun q=>?_⟩;obtain⟨h1,g⟩:=h.live id ae d.2.1 q;rw[g];exact d.2.2 h1
 | .map id,c,d=>by
  simp only[rel]at d⊢;refine⟨d.1,h.past _ _ d.2.1,fun q=>?_⟩;obtain⟨h1,g⟩:=h.live id 0 d.2.1 q;rw[g];exact d.2.2 h1
 | .clo f caps,c,d=>by
  simp only[rel]at d⊢;obtain⟨cs,e,g⟩:=d;exact⟨cs,e,dw h caps g⟩
 |.ifc,c,d=>by simpa only[rel]using d
 |.emptyS n,c,d=>by simpa only[rel]using d
 | .sub id l j,c,d=>by
  simp only[rel]at d⊢;rcases d with d|⟨i,h1,g,u,B⟩
  ·exact .inl d
  ·refine .inr ⟨i, h1, g, h.past _ _ u, fun q => ?_⟩
   obtain⟨g1,_⟩:=h.live id 0 u q;obtain⟨⟨o,I,J⟩,b,y,M⟩:=B g1;obtain⟨⟨t,N⟩,ho⟩:=h.grow id l o I J q;refine⟨ho,b,?_,M⟩;rw[N,A2,cI (List.getElem?_eq_some_iff.1 y).1];exact y
theorem dw{E E':Env}(h:E.le E'):∀(as:List AV) {vs:List Value},af E as vs→af E' as vs
 | [],[],_=>by simp[af]
 | [],_::_,d=>by simp[af]at d
 |_::_,[],d=>by simp[af]at d
 | a::as,v::vs,d=>by
  simp only[af]at d⊢;exact⟨bP h a d.1,dw h as d.2⟩
end
theorem Rg{E:Env}(k:Kd)(g:G)(c:Value):rel E (iB k g) c↔dS E k g c:=by
 cases k with
 |int k=>simp only[iB,rel,dS]
 |str=>simp only[iB,rel,dS]
 |bool=>simp only[iB,rel,dS]
 |list ks=>simp only[iB,rel,dS,G.rows]
theorem A3{E:Env}:∀(ks:List Kd) (g:List G) (b o:Nat),ch E (aK ks g) b o↔kE E ks g b o
 | [],_,_,_=>by simp[aK,ch,kE]
 |k::ks,g,b,o=>by simp only[aK,ch,kE,A3 ks,Rg]
theorem iR{E:Env}{ks:List Kd}{rows:List (List G)}{c:Value}:rel E (.listF ks rows) c↔rel E (.list ks.length (rows.map (aK ks))) c:=by
 simp only[rel,dS,G.rows,dJ,List.map_eq_nil_iff];have q:eV (rows.map (aK ks)):=by
  intro r d;obtain⟨g,_,rfl⟩:=List.mem_map.1 d;exact fE ks g
 have d:∀ b o,(∀(i:Nat) (r:List G),rows[i]? = some r→kE E ks r b (o+i*ks.length))↔cy E ks.length (rows.map (aK ks)) b o:=by
  intro b o;rw[lf];constructor
  ·intro h i r hi
   simp only[bZ,dQ]at hi;obtain⟨g,k,rfl⟩:=hi;exact⟨qp ks g,(A3 ks g _ _).2 (h i g k)⟩
  ·intro h i g k
   exact(A3 ks g _ _).1 (h i (aK ks g) (by simp[k])).2
 simp only[d,q,true_and]
end Go.AL

namespace Go.AL
variable [Dr]
def isRow(w:World)(b n:Nat):Prop:=∃ cs el,w.heap[b]? = some (.cells cs el (0,0))∧cs.size=n
def bC(E:Env):List (AV × AV × Nat)→List MapEntry→Prop
 | [],[]=>True
 |(k,v,n)::es,e::ms=>rel E k e.key∧rel E v e.val∧e.born=n∧k.closed=true∧v.closed=true∧bC E es ms
 |_,_=>False
def A4(w:World)(B:TypeId)(s:ByteArray)(v:Value):Option (Nat × Nat)→Prop
 |none=>v=.slice none 0 0∧s.data.toList=[]
 | some (g,m)=>v=.slice (some ⟨g,0,none⟩) s.data.toList.length m∧∃ cs fz,w.heap[g]? = some (.cells cs B fz)∧fz.2≤s.data.toList.length∧cs.size=m∧s.data.toList.length≤m∧m≤9223372036854775807 ∧
   cs.toList.take s.data.toList.length=s.data.toList.map fun b=>Value.int .u8 (b.toNat:Int)
theorem A5{w w':World}{B:TypeId}{s:ByteArray}{v:Value}{q:Option (Nat × Nat)}(h:∀ g m,q=some (g,m)→w'.heap[g]? = w.heap[g]?)(d:A4 w B s v q):A4 w' B s v q:=by
 cases q with
 |none=>exact d
 | some k =>
  obtain⟨g,m⟩:=k;obtain⟨h1,cs,fz,u,y⟩:=d;exact⟨h1,cs,fz,by rw[h g m rfl]; exact u,y⟩
def cB (es:List (AV × Option (List (List AV)) × Nat)):List (AV × AV × Nat):=es.map fun x=>(x.1,.undef,x.2.2)
theorem A6 (es:List (AV × Option (List (List AV)) × Nat)):(cB es).length=es.length:=by simp[cB]
def A7(E:Env)(l k:Nat)(rows:List (List AV))(h:Nat)(v:Value):Prop :=
 (rows = [] ∧ ∃ base, v = .slice base 0 0) ∨
  ∃ b m,(E.X.r l)[h]? = some (some (some (b,m)))∧v=.slice (some ⟨b,0,none⟩) rows.length m∧isRow E.w b (m*k)∧rows.length≤m∧eV rows∧cy E k rows b 0
def iE(E:Env)(l k:Nat) (es:List (AV × Option (List (List AV)) × Nat)) (ms:List MapEntry):Prop :=
 ∃ d:Nat→Nat,(∀(i j:Nat) x y,es[i]? = some x→es[j]? = some y→x.2.1.isSome=true→y.2.1.isSome=true→d i=d j→i=j) ∧
  ∀(i:Nat) x rows e,es[i]? = some x→x.2.1=some rows→ms[i]? = some e→A7 E l k rows (d i) e.val
theorem Rh{E E':Env}{l k h:Nat}{rows:List (List AV)}{v:Value} (q:∀ b m,(E.X.r l)[h]? = some (some (some (b,m)))→(E'.X.r l)[h]? = some (some (some (b,m)))∧E'.w.heap[b]? = E.w.heap[b]?)
  (u:∀ b,E'.w.heap[b]? = E.w.heap[b]? → eV rows→cy E k rows b 0→cy E' k rows b 0) (d:A7 E l k rows h v):A7 E' l k rows h v:=by
 rcases d with d|⟨b,m,h1,y,⟨cs,el,B,I⟩,J,g,M⟩
 ·exact .inl d
 ·obtain ⟨g1, g2⟩ := q b m h1
  exact .inr ⟨b,m,g1,y,⟨cs,el,by rw[g2]; exact B,I⟩,J,g,u b g2 g M⟩
theorem tx{E E':Env}{l k:Nat}{es:List (AV × Option (List (List AV)) × Nat)}{ms:List MapEntry} (u:∀(h b m:Nat),(E.X.r l)[h]? = some (some (some (b,m)))→(E'.X.r l)[h]? = some (some (some (b,m)))∧E'.w.heap[b]? = E.w.heap[b]?)
  (v:∀(i:Nat) x rows,es[i]? = some x→x.2.1=some rows→∀ b,E'.w.heap[b]? = E.w.heap[b]? → eV rows→cy E k rows b 0→cy E' k rows b 0) (y:iE E l k es ms):iE E' l k es ms:=by
 obtain⟨g,h1,B⟩:=y;exact⟨g,h1,fun i x rows e q d he=>Rh (u (g i)) (v i x rows q d) (B i x rows e q d he)⟩
theorem wX{r:List (Option (Option (Nat × Nat)))}{b:Nat}(h:b∈dU r):∃(i m:Nat),r[i]? = some (some (some (b,m))):=by
 unfold dU at h;obtain⟨x,d,hb⟩:=List.mem_filterMap.1 h;obtain⟨i,hi,e⟩:=oG d;split at hb
 ·rename_i g m
  cases hb;exact⟨i,m,by rw[bI hi,e]⟩
 ·cases hb
def ff(es:List (AV × Option Nat × Nat)):List (AV × AV × Nat):=es.map fun x=>(x.1,.undef,x.2.2)
theorem HA(es:List (AV × Option Nat × Nat)):(ff es).length=es.length:=by simp[ff]
def wY(E:Env)(l:Nat)(es:List (AV × Option Nat × Nat)) (ms:List (List (AV × AV × Nat) × Nat)) (d:List MapEntry):Prop :=
 (dU (E.X.r l)).length = ms.length ∧
  (∀(i:Nat) x e,es[i]? = some x→d[i]? = some e→(x.2.1=none∧e.val=.map none)∨∃ j b,x.2.1=some j∧(dU (E.X.r l))[j]? = some b∧e.val=.map (some b)) ∧
  ∀(j:Nat) m b,ms[j]? = some m→(dU (E.X.r l))[j]? = some b→∃ mm,E.w.heap[b]? = some (.map mm m.2)∧bC E m.1 mm.toList
theorem A8{E E':Env}{l:Nat}{es:List (AV × Option Nat × Nat)}{ms:List (List (AV × AV × Nat) × Nat)}{g:List MapEntry}(d:E'.X.r l=E.X.r l) (k:∀(h b m:Nat),(E.X.r l)[h]? = some (some (some (b,m)))→E'.w.heap[b]? = E.w.heap[b]?)
  (u:∀ m∈ms,∀ q,bC E m.1 q→bC E' m.1 q) (h:wY E l es ms g):wY E' l es ms g:=by
 obtain⟨h1,v,y⟩:=h;refine⟨by rw[d]; exact h1,fun i x e B he=>by rw[d]; exact v i x e B he,fun j m b hm hb=>?_⟩;rw[d]at hb;obtain⟨mm,I,J⟩:=y j m b hm hb;obtain⟨i,n,hi⟩:=wX (eT hb);exact⟨mm,by rw[k i b n hi]; exact I,u m (eT hm) _ J⟩
def aM(E:Env)(id:Nat):ab→Prop
 |.dead=>E.loc[id]? = some none
 |.dK=>E.loc[id]? = some none
 |.box cells=>∃ b n,E.loc[id]? = some (some (b,n))∧isRow E.w b cells.length∧ch E cells b 0
 | .vec k _ rows=>(E.loc[id]? = some none∧rows=[]) ∨
   ∃ b m,E.loc[id]? = some (some (b,m))∧isRow E.w b (m*k)∧rows.length≤m∧eV rows∧cy E k rows b 0
 |.map es clock=>∃ b n ms,E.loc[id]? = some (some (b,n))∧E.w.heap[b]? = some (.map ms clock)∧bC E es ms.toList
 |.iter s pos=>∃ b n,E.loc[id]? = some (some (b,n))∧E.w.heap[b]? = some (.stringIter s pos)
 | .eD l T B s=>∃ (b n:Nat) (p v:Value) (h:Nat) (q:Option (Nat × Nat)),E.loc[id]? = some (some (b,n))∧E.w.heap[b]? = some (.cells #[p,v] T (0,0))∧(p=.pointer none∨p=.pointer (some ⟨b,0,none⟩))∧(E.X.r l)[h]? = some (some q) ∧
   (∀(h':Nat) g,(E.X.r l)[h']? = some (some g)→h'=h)∧A4 E.w B s v q
 |.aG l k es clock=>∃ b n ms,E.loc[id]? = some (some (b,n))∧E.w.heap[b]? = some (.map ms clock)∧bC E (cB es) ms.toList∧iE E l k es ms.toList
 |.mm l es ms clock=>∃ b n d,E.loc[id]? = some (some (b,n))∧E.w.heap[b]? = some (.map d clock)∧bC E (ff es) d.toList∧wY E l es ms d.toList
def oP(E:Env):Prop:=∀ p∈tv,E.iC p.1∧∃ t f,E.w.heap[p.1]? = some (.cells p.2 t f)
theorem oP.bF{E E':Env}(H:oP E)(h:E.bF E'):oP E':=fun p d=>by
 obtain⟨h1,t,f,g⟩:=H p d;exact⟨(h.ok _ h1).1,t,f,by rw[(h.ok _ h1).2]; exact g⟩
structure aq (E:Env):Prop where
 len:E.loc.length=E.H.length
 inj:∀(i j b m n:Nat),E.loc[i]? = some (some (b,m))→E.loc[j]? = some (some (b,n))→i=j
 lt:∀(i b m:Nat),E.loc[i]? = some (some (b,m))→b<E.w.heap.size∧¬ E.X b
 X:∀ b,E.X b→b<E.w.heap.size
 obj:∀(i:Nat) o,E.H[i]? = some o→aM E i o
 eW:oP E
 eE:∀(l h l' h' b m n:Nat),(E.X.r l)[h]? = some (some (some (b,m)))→(E.X.r l')[h']? = some (some (some (b,n)))→l=l'∧h=h'
 cN:∀(i b m l h n:Nat),E.loc[i]? = some (some (b,m))→(E.X.r l)[h]? ≠ some (some (some (b,n)))
 cr:∀(l h b m:Nat),(E.X.r l)[h]? = some (some (some (b,m)))→b<E.w.heap.size∧¬ E.X b
 uniq:∀(i j:Nat) o o' (l:Nat),E.H[i]? = some o→E.H[j]? = some o'→o.label=some l→o'.label=some l→i=j
 fQ:∀(l:Nat),(∀(i:Nat) o,E.H[i]? = some o→o.label≠some l)→∀(h:Nat) q,(E.X.r l)[h]? ≠ some (some q)
theorem aq.nt{E:Env}(H:aq E){b:Nat}(d:E.X b):¬ E.own b:=by
 rintro(⟨i,c,hi⟩|⟨l,h,m,hi⟩)
 ·exact(H.lt i b c hi).2 d
 ·exact(H.cr l h b m hi).2 d
theorem aq.wZ{E:Env}(H:aq E){b:Nat}(ho:E.own b):b<E.w.heap.size∧¬ E.X b:=by
 rcases ho with⟨i,c,hi⟩|⟨l,h,m,hi⟩
 ·exact H.lt i b c hi
 ·exact H.cr l h b m hi
structure Ext (w w':World):Prop where
 size:w.heap.size≤w'.heap.size
 same:∀ b,b<w.heap.size→w'.heap[b]? = w.heap[b]?
 env:dL w w'
theorem Ext.refl(w:World):Ext w w:=⟨aB _,fun _ _=>rfl,⟨rfl,rfl,rfl,by first|exact fun _=>aB _|exact fun _=>eS _ _⟩⟩
theorem Ext.trans{w w' d:World}(h:Ext w w')(h':Ext w' d):Ext w d :=
 ⟨lV h.size h'.size,fun b hb=>by rw[h'.same b (dn hb h.size),h.same b hb],h.env.trans h'.env⟩
theorem Ext.push(w:World)(o:Obj):Ext w { w with heap:=w.heap.push o } :=
 ⟨by simp,fun b hb=>by simp[wv,aey hb],⟨rfl,rfl,rfl,by first|exact fun _=>aB _|exact fun _=>eS _ _⟩⟩
theorem Ext.drawn(w:World)(n:Nat)(h:w.drawn≤n:=by exact Nat.le_succ _):Ext w { w with drawn:=n }:=⟨aB _,fun _ _=>rfl,⟨rfl,rfl,rfl,fun _=>h⟩⟩
theorem Env.iS{E:Env}{w':World}(h:Ext E.w w'):E.le { E with w:=w' } where
 past:=fun _ _ h=>h
 size:=h.size
 same:=fun b hb _=>h.same b hb
 own:=fun _ _ ho=>ho
 live:=fun _ _ _ d=>⟨d,rfl⟩
 X:=⟨rfl,rfl⟩
 rl:=fun _ _ h=>⟨h,fun _ g=>g⟩
 env:=h.env
 grow:=fun _ _ o h1 k _=>⟨⟨[],(cO _).symm⟩,o,h1,k⟩
theorem qu{w w':World}{b n:Nat}(h:w'.heap[b]? = w.heap[b]?)(d:isRow w b n):isRow w' b n:=by
 unfold isRow at *; rw[h]; exact d
theorem tz{E E':Env}{b:Nat}(d:∀ a c,rel E a c→rel E' a c)(hb:E'.w.heap[b]? = E.w.heap[b]?){as:List AV}{o:Nat}
  (h:ch E as b o):ch E' as b o:=by
 rw[iD]at *;intro i a hi;obtain⟨v,h1,g,k⟩:=h i a hi;exact⟨v,by rw[World.qs hb]; exact h1,g,d _ _ k⟩
theorem kG{E E':Env}{b k:Nat}(d:∀ a c,rel E a c→rel E' a c)(hb:E'.w.heap[b]? = E.w.heap[b]?){rs:List (List AV)}{o:Nat}
  (h:cy E k rs b o):cy E' k rs b o:=by
 rw[lf]at *;intro i r hi;exact⟨(h i r hi).1,tz d hb (h i r hi).2⟩
theorem fF{E E':Env}(d:∀ a c,rel E a c→rel E' a c):∀{es:List (AV × AV × Nat)} {ms:List MapEntry},bC E es ms→bC E' es ms
 | [],[],_=>by simp[bC]
 | [],_::_,h=>by simp[bC]at h
 |(_,_,_)::_,[],h=>by simp[bC]at h
 | (k,v,n)::es,e::ms,h=>by
  simp only[bC]at h⊢;exact⟨d _ _ h.1,d _ _ h.2.1,h.2.2.1,h.2.2.2.1,h.2.2.2.2.1,fF d h.2.2.2.2.2⟩
theorem jS{E E':Env}{i:Nat}{o:ab}(J:∀ a c,rel E a c→rel E' a c)(y:E'.loc[i]? = E.loc[i]?)
  (hb:∀ b n,E.loc[i]? = some (some (b,n))→E'.w.heap[b]? = E.w.heap[b]?)
  (M:∀ l,o.label=some l→E'.X.r l=E.X.r l∧∀(h g m:Nat),(E.X.r l)[h]? = some (some (some (g,m)))→E'.w.heap[g]? = E.w.heap[g]?) (h:aM E i o):aM E' i o:=by
 cases o with
 |dead=>simp only[aM]at *; rw[y]; exact h
 |dK=>simp only[aM]at *; rw[y]; exact h
 | box cells =>
  simp only[aM]at *;obtain⟨b,n,h1,d,u⟩:=h;exact⟨b,n,by rw[y,h1],qu (hb b n h1) d,tz J (hb b n h1) u⟩
 | vec k ae rows =>
  simp only[aM]at *;rcases h with⟨h1,d⟩|⟨b,m,h1,d,u,I,N⟩
  ·exact .inl ⟨by rw[y,h1],d⟩
  ·exact .inr ⟨b,m,by rw[y,h1],qu (hb b m h1) d,u,I,kG J (hb b m h1) N⟩
 | map es clock =>
  simp only[aM]at *;obtain⟨b,n,ms,h1,d,u⟩:=h;exact⟨b,n,ms,by rw[y,h1],by rw[hb b n h1,d],fF J u⟩
 | iter s pos =>
  simp only[aM]at *;obtain⟨b,n,h1,d⟩:=h;exact⟨b,n,by rw[y,h1],by rw[hb b n h1,d]⟩
 | eD l T B s =>
  simp only[aM]at *;obtain⟨b,n,p,v,k,q,h1,d,u,I,N,V⟩:=h;obtain⟨g1,g2⟩:=M l rfl;exact⟨b,n,p,v,k,q,by rw[y,h1],by rw[hb b n h1,d],u,by rw[g1,I],by rw[g1]; exact N,A5 (fun g m e=>g2 k g m (by rw[I,e])) V⟩
 | aG l k es clock =>
  simp only[aM]at *;obtain⟨b,n,ms,h1,d,u,I⟩:=h;obtain⟨g1,g2⟩:=M l rfl;exact⟨b,n,ms,by rw[y,h1],by rw[hb b n h1,d],fF J u,tx (fun h g m hk=>⟨by rw[g1]; exact hk,g2 h g m hk⟩) (fun _ _ _ _ _ b O _ W=>kG J O W) I⟩
 | mm l es ms clock =>
  simp only[aM]at *;obtain⟨b,n,U,h1,d,u,I⟩:=h;obtain⟨g1,g2⟩:=M l rfl;exact⟨b,n,U,by rw[y,h1],by rw[hb b n h1,d],fF J u,A8 g1 g2 (fun _ _ _=>fF J) I⟩
theorem aq.ext{E:Env}{w':World}(H:aq E)(h:Ext E.w w'):aq { E with w:=w' } where
 len:=H.len
 inj:=H.inj
 lt:=fun i b m hi=>⟨dn (H.lt i b m hi).1 h.size,(H.lt i b m hi).2⟩
 X:=fun b hb=>dn (H.X b hb) h.size
 obj:=fun i o hi=>jS (fun a _ d=>bP (Env.iS h) a d) rfl (fun b n hb=>h.same b (H.lt i b n hb).1) (fun l _=>⟨rfl,fun k g m hk=>h.same g (H.cr l k g m hk).1⟩) (H.obj i o hi)
 eW:=H.eW.bF (Env.iS h).toC
 eE:=H.eE
 cN:=H.cN
 cr:=fun l k b m hk=>⟨dn (H.cr l k b m hk).1 h.size,(H.cr l k b m hk).2⟩
 uniq:=H.uniq
 fQ:=H.fQ
def Env.push(E:Env)(w':World)(o:ab)(l:Option (Nat × Nat)):Env:={ w:=w',H:=E.H++[o],loc:=E.loc++[l],X:=E.X }
theorem aL{α:Type}{l:List α}{i:Nat}{x:α}(h:l[i]? = some x):i<l.length:=by
 rcases jq i l.length with h'|h'
 ·exact h'
 ·rw[lW h']at h; cases h
theorem afm{α:Type}(l:List α)(x:α)(i:Nat)(h:i<l.length):(l++[x])[i]? = l[i]? := by
 rw[cI h]
theorem Env.ju{E:Env}{w':World}{o:ab}{l:Option (Nat × Nat)}(v:E.loc.length=E.H.length)(h:Ext E.w w')
  (hb:∀ b n,l=some (b,n)→E.w.heap.size≤b):E.le (E.push w' o l) where
 past:=fun id ae g=>by
  obtain⟨x,h1,d⟩:=g;exact⟨x,by simp only[Env.push]; rw[cI (aL h1)]; exact h1,d⟩
 size:=h.size
 same:=fun b hb _=>h.same b hb
 own:=fun b u ho=>by
  rintro(⟨id,c,hid⟩|k)
  case inr=>exact ho (.inr k)
  simp only[Env.push]at hid;by_cases hi:id<E.loc.length
  ·rw [cI hi] at hid
   exact ho (.inl ⟨id,c,hid⟩)
  ·rw [iz (by omega)] at hid
   cases hk:id-E.loc.length with
   | zero =>
    rw[hk]at hid;simp at hid;have:=hb b c hid;omega
   |succ n=>rw[hk]at hid; simp at hid
 live:=fun id ae g=>by
  obtain⟨x,h1,d⟩:=g;have hid:=aL h1;simp only[Env.live,Env.push];rw[cI hid,cI (by omega)];exact fun h=>⟨h,rfl⟩
 X:=⟨rfl,rfl⟩
 grow:=fun id l o h1 d _=>⟨⟨[],(cO _).symm⟩,o,by simp only[Env.push]; rw[cI (aL h1)]; exact h1,d⟩
 rl:=fun _ _ h=>⟨h,fun _ q=>q⟩
 env:=h.env
theorem aq.push{E:Env}{w':World}{o:ab}{l:Option (Nat × Nat)}(H:aq E)(h:Ext E.w w')
  (hb:∀ b n,l=some (b,n)→E.w.heap.size≤b∧b<w'.heap.size) (ho:aM (E.push w' o l) E.H.length o) (hlab:o.label=none:=by first|rfl|assumption):aq (E.push w' o l) where
 eE:=H.eE
 cr:=fun l k b m hk=>⟨dn (H.cr l k b m hk).1 h.size,(H.cr l k b m hk).2⟩
 cN:=by
  intro i b m l' k n hi hk;simp only[Env.push,e_]at hi;split at hi
  ·exact H.cN i b m l' k n hi hk
  ·rename_i h1
   cases v:i-E.loc.length with
   | zero =>
    rw[v]at hi;simp at hi;have B:=hb b m hi;have M:=(H.cr l' k b n hk).1;omega
   |succ n=>rw[v]at hi; simp at hi
 uniq:=by
  have key:∀(i:Nat) o1 l1,(E.push w' o l).H[i]? = some o1→o1.label=some l1→E.H[i]? = some o1:=by
   intro i o1 l1 hi I;simp only[Env.push,e_]at hi;split at hi
   ·exact hi
   ·cases v : i - E.H.length with
    | zero =>
     rw[v]at hi;simp at hi;subst hi;rw[hlab]at I;cases I
    |succ n=>rw[v]at hi; simp at hi
  exact fun i j o1 o2 l1 hi d h1 y=>H.uniq i j o1 o2 l1 (key i o1 l1 hi h1) (key j o2 l1 d y) h1 y
 fQ:=fun l1 N=>H.fQ l1 fun i o1 hi=>N i o1 (by
  simp only[Env.push];rw[cI (aL hi)];exact hi)
 eW:=H.eW.bF (Env.ju H.len h (fun b n e=>(hb b n e).1)).toC
 len:=by simp[Env.push,H.len]
 inj:=by
  intro i j b m n hi d;simp only[Env.push,e_]at hi d;split at hi<;>split at d
  ·exact H.inj i j b m n hi d
  ·rename_i h1 y
   cases hk:j-E.loc.length with
   | zero =>
    rw[hk]at d;simp at d;have B:=hb b n d;have M:=(H.lt i b m hi).1;omega
   |succ n=>rw[hk]at d; simp at d
  ·rename_i h1 y
   cases hk:i-E.loc.length with
   | zero =>
    rw[hk]at hi;simp at hi;have B:=hb b m hi;have M:=(H.lt j b n d).1;omega
   |succ n=>rw[hk]at hi; simp at hi
  ·rename_i h1 y
   have V:i-E.loc.length=0:=by
    cases hk:i-E.loc.length with
    |zero=>rfl
    |succ n=>rw[hk]at hi; simp at hi
   have W:j-E.loc.length=0:=by
    cases hk:j-E.loc.length with
    |zero=>rfl
    |succ n=>rw[hk]at d; simp at d
   omega
 lt:=by
  intro i b m hi;simp only[Env.push,e_]at hi⊢;split at hi
  ·exact⟨dn (H.lt i b m hi).1 h.size,(H.lt i b m hi).2⟩
  ·cases hk : i - E.loc.length with
   | zero =>
    rw[hk]at hi;simp at hi;have B:=hb b m hi;exact⟨B.2,fun O=>by have:=H.X b O; omega⟩
   |succ n=>rw[hk]at hi; simp at hi
 X:=fun b u=>dn (H.X b u) h.size
 obj:=by
  intro i o' hi;have hle:E.le (E.push w' o l):=Env.ju H.len h (fun b n u=>(hb b n u).1);by_cases J:i<E.H.length
  ·simp only [Env.push] at hi
   rw[cI J]at hi;refine jS (fun a _ U=>bP hle a U) ?_ ?_ ?_ (H.obj i o' hi)
   ·simp only [Env.push]
    rw[cI (by rw[H.len]; exact J)]
   ·intro b n u
    exact h.same b (H.lt i b n u).1
   ·exact fun l1 _=>⟨rfl,fun k g m hk=>h.same g (H.cr l1 k g m hk).1⟩
  ·have q := hi
   simp only[Env.push]at q;rw[iz (by omega)]at q;cases hk:i-E.H.length with
   | zero =>
    rw[hk]at q;simp at q;have:i=E.H.length:=by omega
    rw[this,←q];exact ho
   |succ n=>rw[hk]at q; simp at q
theorem Env.jv{E:Env}{w':World}{id:Nat}{o o':ab}{l:Option (Nat × Nat)}(hid:E.H[id]? = some o)
  (hlen:E.loc.length=E.H.length) (J:E.w.heap.size≤w'.heap.size)
  (M:∀ x,x<E.w.heap.size→(∀ n,E.loc[id]? ≠ some (some (x,n)))→w'.heap[x]? = E.w.heap[x]?)
  (hl:∀ b n,l=some (b,n)→E.w.heap.size≤b∨∃ m,E.loc[id]? = some (some (b,m)))
  (O:(∀ v,o'.aD = some v→o.aD = some v∧E.loc[id]? = some l)∨(∀ v,o'.aD = some v→∀ u,o.aD = some u→u<v))
  (V:∀ v u,o'.aD = some v→o.aD = some u→u≤v) (I:o.born=true→o.aD = none→o'.aD = none) (U:dL E.w w':=by first|exact⟨rfl,rfl,rfl,by first|exact fun _=>aB _|exact fun _=>eS _ _⟩|assumption|exact Ext.env (by assumption))
  (hmm:o.cZ=none∨o'.cZ=o.cZ∨o'.aD = none:=by first|exact .inl rfl|exact .inr (.inl rfl)|exact .inr (.inr rfl)|exact .inl (ab.wW (by assumption))|assumption)
  (N:o.born=true→o'.born=true:=by first|exact fun _=>rfl|exact fun h=>h|assumption) :
  E.le { w:=w',H:=E.H.set id o',loc:=E.loc.set id l,X:=E.X } where
 grow:=fun i l1 x h1 d g=>by
  by_cases e:i=id
  ·subst e
   rw[hid]at h1;cases h1;rcases hmm with h|h|h
   ·rw[h]at d; cases d
   ·exact⟨⟨[],(cO _).symm⟩,o',by simp only[]; rw[bB (aL hid)],by rw[h]; exact d⟩
   ·obtain ⟨y, k, q⟩ := g
    simp only[]at k;rw[bB (aL hid)]at k;cases k;rw[h]at q;cases q
  ·exact⟨⟨[],(cO _).symm⟩,x,by simp only[]; rw[aQ (Ne.symm e)]; exact h1,d⟩
 past:=fun i ae B=>by
  obtain⟨x,h1,d⟩:=B;by_cases e:i=id
  ·subst e
   rw[hid]at h1;cases h1;refine⟨o',by simp only[]; rw[bB (aL hid)],N d.1,fun v g=>?_⟩;cases hu:o.aD with
   |none=>rw[I d.1 hu]at g; cases g
   |some u=>exact lV (d.2 u hu) (V v u g hu)
  ·exact⟨x,by simp only[]; rw[aQ (Ne.symm e)]; exact h1,d⟩
 size:=J
 same:=fun x hx ho=>M x hx (fun n hn=>ho (.inl ⟨id,n,hn⟩))
 own:=fun b hlt ho=>by
  rintro(⟨i,c,hi⟩|hs)
  case inr=>exact ho (.inr hs)
  simp only[dR]at hi;split at hi
  ·split at hi
   ·simp at hi
    rcases hl b c hi with h|⟨m,hm⟩
    ·omega
    ·exact ho (.inl ⟨id,m,hm⟩)
   ·cases hi
  ·exact ho (.inl ⟨i,c,hi⟩)
 live:=fun i ae B W=>by
  obtain⟨x,h1,d⟩:=W;by_cases e:i=id
  ·subst e
   simp only[]at h1;rw[bB (aL hid)]at h1;cases h1;rcases O with g|g
   ·obtain ⟨a1, a2⟩ := g ae d
    refine⟨⟨o,hid,a1⟩,?_⟩;simp only[];rw[bB (by rw[hlen]; exact aL hid),a2]
   ·obtain ⟨y, k, q⟩ := B
    rw[hid]at k;cases k;cases hu:o.aD with
    |none=>rw[I q.1 hu]at d; cases d
    |some u=>have:=g ae d u hu; have:=q.2 u hu; omega
  ·simp only [] at h1 ⊢
   rw[aQ (Ne.symm e)]at h1;rw[aQ (Ne.symm e)];exact⟨⟨x,h1,d⟩,rfl⟩
 X:=⟨rfl,rfl⟩
 rl:=fun _ _ h=>⟨h,fun _ hq=>hq⟩
 env:=U
theorem aq.kH{E:Env}{w':World}{id:Nat}{o o':ab}{l:Option (Nat × Nat)}(H:aq E)(hid:E.H[id]? = some o)
  (y:E.w.heap.size≤w'.heap.size)
  (I:∀ x,x<E.w.heap.size→(∀ n,E.loc[id]? ≠ some (some (x,n)))→w'.heap[x]? = E.w.heap[x]?)
  (B:∀ b n,l=some (b,n)→(E.w.heap.size≤b∧b<w'.heap.size)∨∃ m,E.loc[id]? = some (some (b,m)))
  (O:(∀ v,o'.aD = some v→o.aD = some v∧E.loc[id]? = some l)∨(∀ v,o'.aD = some v→∀ u,o.aD = some u→u<v))
  (V:∀ v u,o'.aD = some v→o.aD = some u→u≤v) (N:o.born=true→o.aD = none→o'.aD = none)
  (ho:aM { w:=w',H:=E.H.set id o',loc:=E.loc.set id l,X:=E.X } id o') (U:dL E.w w':=by first|exact⟨rfl,rfl,rfl,by first|exact fun _=>aB _|exact fun _=>eS _ _⟩|assumption|exact Ext.env (by assumption))
  (hlab:o.label=none:=by first|rfl|assumption) (hlab':o'.label=none:=by first|rfl|assumption)
  (hborn:o.born=true→o'.born=true:=by first|exact fun _=>rfl|exact fun h=>h|assumption) :
  aq { w:=w',H:=E.H.set id o',loc:=E.loc.set id l,X:=E.X } where
 eE:=H.eE
 cr:=fun l k b m hk=>⟨dn (H.cr l k b m hk).1 y,(H.cr l k b m hk).2⟩
 cN:=by
  intro i b m l' k n hi hk;simp only[dR]at hi;split at hi
  ·split at hi
   ·simp at hi
    rcases B b m hi with h|⟨m',q⟩
    ·have:=(H.cr l' k b n hk).1; omega
    ·exact H.cN _ _ _ _ _ _ q hk
   ·cases hi
  ·exact H.cN _ _ _ _ _ _ hi hk
 uniq:=by
  have key:∀(i:Nat) o1 l1,(E.H.set id o')[i]? = some o1→o1.label=some l1→E.H[i]? = some o1:=by
   intro i o1 l1 hi W;rw[dR]at hi;split at hi
   ·split at hi
    ·cases hi
     rw[hlab']at W;cases W
    ·cases hi
   ·exact hi
  exact fun i j o1 o2 l1 hi d h1 h2=>H.uniq i j o1 o2 l1 (key i o1 l1 hi h1) (key j o2 l1 d h2) h1 h2
 fQ:=fun l1 M=>H.fQ l1 fun i o1 hi=>by
  by_cases e:i=id
  ·subst e
   rw[hid]at hi;cases hi;rw[hlab];exact fun h=>by cases h
  ·exact M i o1 (by show (E.H.set id o')[i]? = _; rw[aQ (Ne.symm e)]; exact hi)
 eW:=H.eW.bF (Env.jv hid H.len y I (fun b n hb=>(B b n hb).imp (fun h=>h.1) (fun h=>h)) O V N U).toC
 len:=by simp[H.len]
 inj:=by
  intro i j b m n hi d;simp only[dR]at hi d;split at hi
  ·rename_i e1
   split at d
   ·rename_i e2; omega
   ·split at hi
    ·simp at hi
     rcases B b m hi with h|⟨m',q⟩
     ·have:=(H.lt j b n d).1; omega
     ·rw[←e1]; exact H.inj _ _ _ _ _ q d
    ·cases hi
  ·split at d
   ·rename_i e2
    split at d
    ·simp at d
     rcases B b n d with h|⟨m',q⟩
     ·have:=(H.lt i b m hi).1; omega
     ·rw[←e2]; exact H.inj _ _ _ _ _ hi q
    ·cases d
   ·exact H.inj i j b m n hi d
 lt:=by
  intro i b m hi;simp only[dR]at hi;split at hi
  ·split at hi
   ·simp at hi
    rcases B b m hi with h|⟨m',q⟩
    ·exact⟨h.2,fun hx=>by have:=H.X b hx; omega⟩
    ·exact⟨dn (H.lt _ _ _ q).1 y,(H.lt _ _ _ q).2⟩
   ·cases hi
  ·exact⟨dn (H.lt i b m hi).1 y,(H.lt i b m hi).2⟩
 X:=fun b hb=>dn (H.X b hb) y
 obj:=by
  intro i x hi;by_cases e:i=id
  ·subst e
   simp only[]at hi;rw[bB (aL hid)]at hi;cases hi;exact ho
  ·have J := hi
   simp only[]at J;rw[aQ (Ne.symm e)]at J;have hle:E.le { w:=w',H:=E.H.set id o',loc:=E.loc.set id l,X:=E.X } :=
    Env.jv hid H.len y I (fun b n hb=>(B b n hb).imp (fun h=>h.1) (fun h=>h)) O V N U
   refine jS (fun a _ hr=>bP hle a hr) ?_ ?_ ?_ (H.obj i x J)
   ·simp only []
    rw[aQ (Ne.symm e)]
   ·intro b n hb
    exact I b (H.lt i b n hb).1 (fun m hm=>e (H.inj i id b n m hb hm))
   ·exact fun l1 _=>⟨rfl,fun k g m hk=>I g (H.cr l1 k g m hk).1 (fun n M=>H.cN id g n l1 k m M hk)⟩
theorem aq.A9{E:Env}{w':World}{id l0:Nat}{o o':ab}{r':Nat→List (Option (Option (Nat × Nat)))}(H:aq E)(hid:E.H[id]? = some o)(hlab:o.label=some l0)(V:o'.label=some l0)(hver:o'.aD = o.aD)
  (U:E.w.heap.size≤w'.heap.size)
  (W:∀ x,x<E.w.heap.size→(∀ n,E.loc[id]? ≠ some (some (x,n)))→(∀(h m:Nat),(E.X.r l0)[h]? ≠ some (some (some (x,m))))→w'.heap[x]? = E.w.heap[x]?)
  (u:∀ l,l≠l0→r' l=E.X.r l)
  (hnew:∀(h b m:Nat),(r' l0)[h]? = some (some (some (b,m)))→(E.X.r l0)[h]? = some (some (some (b,m)))∨(E.w.heap.size≤b∧b<w'.heap.size∧∀(h' m':Nat),(r' l0)[h']? = some (some (some (b,m')))→h'=h))
  (hrl:∀(h:Nat),h<(E.X.r l0).length→h<(r' l0).length∧∀ q,(r' l0)[h]? = some (some q)→(E.X.r l0)[h]? = some (some q))
  (ho:E.le { w:=w',H:=E.H.set id o',loc:=E.loc,X:=E.X.re r' }→aM { w:=w',H:=E.H.set id o',loc:=E.loc,X:=E.X.re r' } id o') (henv:dL E.w w') (hmm:o.cZ=none∨(o'.cZ=o.cZ∧∃ t,r' l0=E.X.r l0++t):=by first|exact .inl rfl|assumption) :
  aq { w:=w',H:=E.H.set id o',loc:=E.loc,X:=E.X.re r' }∧E.le { w:=w',H:=E.H.set id o',loc:=E.loc,X:=E.X.re r' }:=by
 have J:=aL hid;have N:∀(l h b m:Nat),(r' l)[h]? = some (some (some (b,m)))→(E.X.r l)[h]? = some (some (some (b,m)))∨(l=l0∧E.w.heap.size≤b∧b<w'.heap.size∧∀(h' m':Nat),(r' l0)[h']? = some (some (some (b,m')))→h'=h):=fun l h b m hk=>by
  by_cases e:l=l0
  ·subst e
   rcases hnew h b m hk with h1|⟨h1,d,h3⟩
   ·exact .inl h1
   ·exact .inr ⟨rfl,h1,d,h3⟩
  ·rw [u l e] at hk
   exact .inl hk
 have hle:E.le { w:=w',H:=E.H.set id o',loc:=E.loc,X:=E.X.re r' }:=by
  refine⟨fun i ae hp=>?_,U,fun x hx hx'=>W x hx (fun n M=>hx' (.inl ⟨id,n,M⟩)) fun h m hm=>hx' (.inr ⟨l0,h,m,hm⟩),fun b hb hno=>?_,fun i ae hp k=>?_,⟨rfl,rfl⟩,fun l h hh=>?_,henv,fun i l x h1 d hv=>?_⟩
  rotate_right
  ·by_cases e : i = id
   ·subst e
    rw[hid]at h1;cases h1;have B:l0=l:=by
     have:=ab.kD d;rw[hlab]at this;cases this;rfl
    subst B;rcases hmm with h|⟨h,ht⟩
    ·rw[h]at d; cases d
    ·exact⟨ht,o',by simp only[]; rw[bB J],by rw[h]; exact d⟩
   ·have B : l ≠ l0 := fun B => e (H.uniq i id x o l h1 hid (ab.kD d) (by rw [B]; exact hlab))
    exact⟨⟨[],by rw[cO]; exact u l B⟩,x,by simp only[]; rw[aQ (Ne.symm e)]; exact h1,d⟩
  ·obtain ⟨x, h1, d⟩ := hp
   by_cases e:i=id
   ·subst e
    rw[hid]at h1;cases h1;exact⟨o',by simp only[]; rw[bB J],ab.wV V,fun v hv=>d.2 v (by rw[←hver]; exact hv)⟩
   ·exact⟨x,by simp only[]; rw[aQ (Ne.symm e)]; exact h1,d⟩
  ·rintro (⟨i, c, hi⟩ | ⟨l, h, m, hm⟩)
   ·exact hno (.inl ⟨i,c,hi⟩)
   ·rcases N l h b m hm with h1 | ⟨_, h1, _⟩
    ·exact hno (.inr ⟨l,h,m,h1⟩)
    ·omega
  ·obtain ⟨x, h1, d⟩ := k
   refine⟨?_,rfl⟩;simp only[]at h1;by_cases e:i=id
   ·subst e
    rw[bB J]at h1;cases h1;exact⟨o,hid,by rw[←hver]; exact d⟩
   ·rw [aQ (Ne.symm e)] at h1
    exact⟨x,h1,d⟩
  ·by_cases e : l = l0
   ·subst e
    exact hrl h hh
   ·show h < (r' l).length ∧ _
    rw[u l e];exact⟨hh,fun _ I=>(by rw[show ({ w:=w',H:=E.H.set id o',loc:=E.loc,X:=E.X.re r' }:Env).X.r l=E.X.r l from u l e]at I; exact I)⟩
 refine⟨⟨by simp[H.len],H.inj,fun i b m hi=>⟨dn (H.lt i b m hi).1 U,(H.lt i b m hi).2⟩,fun b hb=>dn (H.X b hb) U,fun i x hi=>?_,H.eW.bF hle.toC,fun l h l' h' b m n h1 d=>?_,fun i b m l h n hi hk=>?_,fun l h b m hk=>?_,fun i j x y l hi hj h1 d=>?_,fun l M h q I=>?_⟩,hle⟩
 ·by_cases e : i = id
  ·subst e
   simp only[]at hi;rw[bB J]at hi;cases hi;exact ho hle
  ·simp only [] at hi
   rw[aQ (Ne.symm e)]at hi;refine jS (fun a _ u=>bP hle a u) rfl (fun b n hb=>W b (H.lt i b n hb).1 (fun m hm=>e (H.inj i id b n m hb hm)) fun h m hm=>H.cN i b n l0 h m hb hm) (fun l k=>?_) (H.obj i x hi);have O:l≠l0:=fun B=>e (H.uniq i id x o l hi hid k (by rw[hlab,B]));exact⟨u l O,fun h g m hk=>W g (H.cr l h g m hk).1 (fun n M=>H.cN id g n l h m M hk) fun h' m' hk'=>O (H.eE l h l0 h' g m m' hk hk').1⟩
 ·rcases N l h b m h1 with g1 | ⟨rfl, g1, g2, g3⟩ <;> rcases N l' h' b n d with k1 | ⟨rfl, k1, k2, k3⟩
  ·exact H.eE _ _ _ _ _ _ _ g1 k1
  ·have:=(H.cr _ _ _ _ g1).1; omega
  ·have:=(H.cr _ _ _ _ k1).1; omega
  ·exact⟨rfl,(g3 h' n d).symm⟩
 ·rcases N l h b n hk with g1 | ⟨rfl, g1, g2, g3⟩
  ·exact H.cN _ _ _ _ _ _ hi g1
  ·have:=(H.lt i b m hi).1; omega
 ·rcases N l h b m hk with g1 | ⟨rfl, g1, g2, g3⟩
  ·exact⟨dn (H.cr _ _ _ _ g1).1 U,(H.cr _ _ _ _ g1).2⟩
  ·exact⟨g2,fun hx=>by have:=H.X b hx; omega⟩
 ·have key:∀ (i:Nat) x,(E.H.set id o')[i]? = some x→x.label=some l→∃ y,E.H[i]? = some y∧y.label=some l:=by
   intro i x hi k;by_cases e:i=id
   ·subst e
    rw[bB J]at hi;cases hi;exact⟨o,hid,by rw[hlab,←V,k]⟩
   ·rw [aQ (Ne.symm e)] at hi
    exact⟨x,hi,k⟩
  obtain⟨x',a1,a2⟩:=key i x hi h1;obtain⟨y',b1,b2⟩:=key j y hj d;exact H.uniq i j x' y' l a1 b1 a2 b2
 ·have O : l ≠ l0 := fun e => M id o' (by show (E.H.set id o')[id]? = _; rw [bB J]) (by rw [V, e])
  have I:(r' l)[h]? = some (some q):=I;rw[u l O]at I;refine H.fQ l (fun i x hi k=>?_) h q I;by_cases e:i=id
  ·subst e
   rw[hid]at hi;cases hi;exact O (by rw[hlab]at k; cases k; rfl)
  ·exact M i x (by show (E.H.set id o')[i]? = _; rw[aQ (Ne.symm e)]; exact hi) k
def gS (r:Nat→List (Option (Option (Nat × Nat)))) (l0:Nat):Nat→List (Option (Option (Nat × Nat))):=fun l=>if l=l0 then r l++[some none] else r l
theorem A_{r:Nat→List (Option (Option (Nat × Nat)))}{l0 l h:Nat}{q:Option (Option (Nat × Nat))}(d:(gS r l0 l)[h]? = some q):(r l)[h]? = some q∨(l=l0∧h=(r l).length∧q=some none):=by
 unfold gS at d;split at d
 ·rename_i e
  rw[e_]at d;split at d
  ·exact .inl d
  ·rename_i g
   right;cases hk:h-(r l).length with
   | zero =>
    rw[hk]at d;simp at d;exact⟨e,by omega,d.symm⟩
   |succ n=>rw[hk]at d; simp at d
 ·exact .inl d
theorem Ri{r:Nat→List (Option (Option (Nat × Nat)))}{l0 l h:Nat}(d:h<(r l).length):(gS r l0 l)[h]? = (r l)[h]? := by
 unfold gS;split
 ·exact cI d
 ·rfl
theorem aq.Rj{E:Env}{w':World}{o:ab}{l:Option (Nat × Nat)}{l0:Nat}(H:aq E)(h:Ext E.w w')(hb:∀ b n,l=some (b,n)→E.w.heap.size≤b∧b<w'.heap.size)(hlab:o.label=some l0)(M:∀(i:Nat) x,E.H[i]? = some x→x.label≠some l0)
  (ho:aM { w:=w',H:=E.H++[o],loc:=E.loc++[l],X:=E.X.re (gS E.X.r l0) } E.H.length o) :
  aq { w:=w',H:=E.H++[o],loc:=E.loc++[l],X:=E.X.re (gS E.X.r l0) }∧E.le { w:=w',H:=E.H++[o],loc:=E.loc++[l],X:=E.X.re (gS E.X.r l0) }:=by
 have N:∀(i:Nat) x,(E.H++[o])[i]? = some x→E.H[i]? = some x∨(i=E.H.length∧x=o):=fun i x hi=>by
  rw[e_]at hi;split at hi
  ·exact .inl hi
  ·right
   cases hk:i-E.H.length with
   |zero=>rw[hk]at hi; simp at hi; exact⟨by omega,hi.symm⟩
   |succ n=>rw[hk]at hi; simp at hi
 have B:∀(i:Nat) x,(E.loc++[l])[i]? = some x→E.loc[i]? = some x∨(i=E.loc.length∧x=l):=fun i x hi=>by
  rw[e_]at hi;split at hi
  ·exact .inl hi
  ·right
   cases hk:i-E.loc.length with
   |zero=>rw[hk]at hi; simp at hi; exact⟨by omega,hi.symm⟩
   |succ n=>rw[hk]at hi; simp at hi
 have v:∀(x k b m:Nat),(gS E.X.r l0 x)[k]? = some (some (some (b,m)))→(E.X.r x)[k]? = some (some (some (b,m))):=fun x k b m hk=>by
  rcases A_ hk with h1|⟨_,_,h1⟩
  ·exact h1
  ·cases h1
 have hle:E.le { w:=w',H:=E.H++[o],loc:=E.loc++[l],X:=E.X.re (gS E.X.r l0) }:=by
  refine⟨fun i ae O=>?_,h.size,fun b I _=>h.same b I,fun b hlt hno'=>?_,fun i ae O U=>?_,⟨rfl,rfl⟩,fun x k hk=>?_,h.env,fun i l x h1 d hv=>⟨⟨[],?_⟩,x,by simp only[]; rw[cI (aL h1)]; exact h1,d⟩⟩
  rotate_right
  ·have e : l ≠ l0 := fun e => M i x h1 (by rw [← e]; exact ab.kD d)
   rw[cO];exact if_neg e
  ·obtain ⟨x, h1, d⟩ := O
   exact⟨x,by simp only[]; rw[cI (aL h1)]; exact h1,d⟩
  ·rintro (⟨i, c, hi⟩ | ⟨x, k, m, hk⟩)
   ·rcases B i _ hi with h1 | ⟨_, h1⟩
    ·exact hno' (.inl ⟨i,c,h1⟩)
    ·have := hb b c h1.symm
     omega
   ·exact hno' (.inr ⟨x,k,m,v x k b m hk⟩)
  ·obtain ⟨x, h1, d⟩ := O
   have hid:=aL h1;obtain⟨y,u,V⟩:=U;simp only[]at u;rw[cI hid]at u;exact⟨⟨y,u,V⟩,by simp only[]; rw[cI (by rw[H.len]; exact hid)]⟩
  ·have hk':k<(gS E.X.r l0 x).length:=by
    unfold gS;split
    ·simp; omega
    ·exact hk
   refine⟨hk',fun q J=>?_⟩;have J:(gS E.X.r l0 x)[k]? = some (some q):=J
   rwa [Ri hk]at J
 refine⟨⟨by simp[H.len],fun i j b m n hi W=>?_,fun i b m hi=>?_,fun b I=>dn (H.X b I) h.size,fun i x hi=>?_,H.eW.bF hle.toC,fun x k x' k' b m n h1 d=>H.eE _ _ _ _ _ _ _ (v _ _ _ _ h1) (v _ _ _ _ d),fun i b m x k n hi hk=>?_,fun x k b m hk=>?_,fun i j x y l1 hi W h1 d=>?_,fun l1 hn k q J=>?_⟩,hle⟩
 ·rcases B i _ hi with h1 | ⟨h1, d⟩ <;> rcases B j _ W with u | ⟨u, V⟩
  ·exact H.inj _ _ _ _ _ h1 u
  ·have:=hb b n V.symm; have:=(H.lt _ _ _ h1).1; omega
  ·have:=hb b m d.symm; have:=(H.lt _ _ _ u).1; omega
  ·omega
 ·rcases B i _ hi with h1 | ⟨h1, d⟩
  ·exact⟨dn (H.lt _ _ _ h1).1 h.size,(H.lt _ _ _ h1).2⟩
  ·have u := hb b m d.symm
   exact⟨u.2,fun hx=>by have:=H.X b hx; omega⟩
 ·rcases N i x hi with h1 | ⟨h1, d⟩
  ·refine jS (fun a _ hr => bP hle a hr) (by simp only []; rw [cI (by rw [H.len]; exact aL h1)]) (fun b n I => h.same b (H.lt i b n I).1) (fun l1 hl1 => ?_) (H.obj i x h1)
   have hne:l1≠l0:=fun e=>M i x h1 (by rw[hl1,e]);exact⟨if_neg hne,fun k g m hk=>h.same g (H.cr _ _ _ _ hk).1⟩
  ·subst h1 d
   exact ho
 ·rcases B i _ hi with h1 | ⟨h1, d⟩
  ·exact H.cN _ _ _ _ _ _ h1 (v _ _ _ _ hk)
  ·have:=hb b m d.symm; have:=(H.cr _ _ _ _ (v _ _ _ _ hk)).1; omega
 ·have h1 := v _ _ _ _ hk
  exact⟨dn (H.cr _ _ _ _ h1).1 h.size,(H.cr _ _ _ _ h1).2⟩
 ·rcases N i x hi with g1 | ⟨g1, rfl⟩ <;> rcases N j y W with g3 | ⟨g3, rfl⟩
  ·exact H.uniq i j x y l1 g1 g3 h1 d
  ·rw [hlab] at d
   cases d;exact(M i x g1 h1).elim
  ·rw [hlab] at h1
   cases h1;exact(M j y g3 d).elim
  ·omega
 ·rcases A_ (show (gS E.X.r l0 l1)[k]? = some (some q) from J) with g1 | ⟨g1, _⟩
  ·exact H.fQ l1 (fun i x hi U=>hn i x (by simp only[]; rw[cI (aL hi)]; exact hi) U) k q g1
  ·exact hn E.H.length o (by simp) (by rw[hlab,g1])
theorem Env.qv{E:Env}(H:aq E)(id:Nat):E.le { w:=E.w,H:=E.H.set id .dead,loc:=E.loc.set id none,X:=E.X }:=by
 rcases jq id E.H.length with h|h
 ·exact Env.jv (o:=E.H[id]) (by simp[h]) H.len (aB _) (fun _ _ _=>rfl) (fun _ _ h=>by cases h) (.inl (fun v h=>by simp[ab.aD]at h))
   (fun v u h=>by simp[ab.aD]at h) (fun _ _=>rfl)
 ·rw [GY h, GY (by rw [H.len]; exact h)]
  exact Env.le.refl E
theorem aq.drop{E:Env}(H:aq E)(id:Nat)(hlab:∀ o,E.H[id]? = some o→o.label=none):aq { w:=E.w,H:=E.H.set id .dead,loc:=E.loc.set id none,X:=E.X }:=by
 rcases jq id E.H.length with h|h
 ·refine aq.kH (o:=E.H[id]) H (by simp [h]) (aB _) (fun _ _ _=>rfl) (fun _ _ h=>by cases h) (.inl (fun v h=>by simp [ab.aD] at h))
   (fun v u h=>by simp[ab.aD]at h) (fun _ _=>rfl) ?_ (hlab:=hlab _ (by simp[h]))
  simp only[aM];rw[bB (by rw[H.len]; exact h)]
 ·rw [GY h, GY (by rw [H.len]; exact h)]
  exact H
end Go.AL

namespace Go.AL
variable [Dr]
structure FK where
 off:Nat
 size:Nat
 agg:Bool
def oQ:TypeDesc→Bool
 |.struct _ | .array _ _=>true
 |_=>false
def eL(P:Program)(t:TypeId):Option (Nat × Bool) :=
 match P.info? t,P.underlying t with
 |some i,some d=>some (i.size,oQ d)
 |_,_=>none
def qw(P:Program)(t:TypeId)(f:Nat):Option FK :=
 match P.underlying t with
 | some (.struct d)=>match d[f]? with
  | some fd=>match eL P fd.type with
   |some (n,a)=>some ⟨fd.offset,n,a⟩
   |none=>none
  |none=>none
 |_=>none
def dV(P:Program)(t:TypeId):Option (List Value) :=
 match P.info? t with
 | some i=>match i.zero with
  |some z=>if z.cells.toList.all di then some z.cells.toList else none
  |none=>none
 |none=>none
inductive SK where
 |slice (elem size bytes:Nat)
 |array (n elem size:Nat) (agg:Bool)
 |str
 |int (k:IntKind)
 |bool
 |other
def b9(P:Program)(t:TypeId):SK :=
 match P.underlying t with
 | some (.slice e)=>match P.info? e with
  |some i=>.slice e i.size i.bytes
  |none=>.other
 | some (.array n e)=>match eL P e with
  |some (m,a)=>.array n e m a
  |none=>.other
 |some .string=>.str
 |some (.int k)=>.int k
 |some .bool=>.bool
 |_=>.other
def AV.qx:Value→AV
 |.agg cs=>if cs.toList.all di then .agg (cs.toList.map .lit) else .lit (.agg cs)
 |.tuple cs=>.tuple (cs.toList.map .lit)
 |v=>.lit v
abbrev AV.int(n:Int):AV:=.lit (.int .i64 n)
abbrev AV.bool(b:Bool):AV:=.lit (.bool b)
abbrev AV.str(s:ByteArray):AV:=.lit (.string s)
theorem nu{E:Env}:∀(l:List Value),af E (l.map .lit) l
 | []=>by simp[af]
 |v::l=>by simp[af,rel,nu l]
theorem HB(E:Env)(v:Value):rel E (AV.qx v) v:=by
 unfold AV.qx;split
 ·split
  ·rename_i cs h
   simp only[rel];exact⟨cs,rfl,cM.1 h,nu _⟩
  ·simp[rel]
 ·simp only [rel]
  exact⟨_,rfl,nu _⟩
 ·simp[rel]
structure St where
 fr:List AV
 H:List ab
def St.eval(s:St):Operand→AV
 |.tmp t=>s.fr.getD t .undef
 |.const v=>AV.qx v
 |.global g=>.lit (.pointer (some ⟨g,0,none⟩))
 |.func f=>.clo f []
def iT(w:World)(X:XS)(l:List Deferred):Prop:=l.Nodup∧∀ d∈l,∃ D,d={ target:=.collected D,args:=#[] }∧w.heap[D]? = some (.deferred (some []))∧X D∧X.z D
theorem oR(w:World)(X:XS):iT w X []:=⟨QB,fun _ h=>by cases h⟩
theorem w5{w w':World}{X X':XS}{l:List Deferred}(h:iT w X l)(hX:∀ b,X b→X.z b→X' b∧X'.z b)(q:∀ b,X b→X.z b→w'.heap[b]? = w.heap[b]?):iT w' X' l :=
 ⟨h.1,fun d u=>let ⟨D,e,h1,g,k⟩:=h.2 d u; ⟨D,e,by rw[q D g k]; exact h1,hX D g k⟩⟩
theorem w6{E E':Env}(HE:aq E)(h:E.le E'){l:List Deferred}(hm:iT E.w E.X l):iT E'.w E'.X l :=
 w5 hm (fun b h1 d=>⟨by rw[show E'.X.x=E.X.x from h.X.1]; exact h1,by rw[show E'.X.z=E.X.z from h.X.2]; exact d⟩) fun b hb _=>h.same b (HE.X b hb) (HE.nt hb)
structure bN (s:St) (E:Env) (a:Act):Prop where
 H:E.H=s.H
 fr:af E s.fr a.tmps.toList
 defers:iT E.w E.X a.defers
 heap:aq E
theorem bN.eval{s:St}{E:Env}{a:Act}(h:bN s E a)(x:Operand):rel E (s.eval x) (a.eval x):=by
 cases x with
 | tmp t =>
  simp only[St.eval,AE];obtain⟨h1,u⟩:=me.1 h.fr;rcases jq t s.fr.length with d|q
  ·have k : t < a.tmps.toList.length := h1 ▸ d
   have y:s.fr[t]? = some s.fr[t]:=by simp[d]
   have B:a.tmps.toList[t]? = some a.tmps.toList[t]:=bI k;have:=u t _ _ y B;simpa[cf,Array.getD_eq_getD_getElem?,d,show t<a.tmps.size by simpa using k]using this
  ·have : s.fr.getD t .undef = .undef := by simp [cf, lW q]
   rw[this];simp[rel]
 |const v=>exact HB E v
 |global g=>simp[St.eval,AE,rel]
 |func f=>simp only[St.eval,AE,rel]; exact⟨#[],rfl,by simp[af]⟩
def gI(agg:Bool)(n:Nat)(cells:List AV):Option AV :=
 if agg then (if n≤cells.length then some (.agg (cells.take n)) else none) else cells[0]?
def kI(k:SK)(x i:AV):Option AV :=
 match i with
 | .lit (.int _ n) =>
  match k,x with
  |.slice _ sz _,.list w rows=>if w=sz∧0≤n∧n<rows.length then (rows[n.toNat]?).map .cptr else none
  |.slice _ sz _,.listF ks rows=>if ks.length=sz∧0≤n∧n<rows.length then some (.cptr (aK ks (rows.getD n.toNat []))) else none
  |.slice _ sz _,.vec w id ae off m=>if w=sz∧0≤n∧n<m then some (.ptr id ae w (off+n.toNat) 0) else none
  |.array m _ sz _,.ptr id ae w row col=>if 0≤n∧n<m then some (.ptr id ae w row (col+n.toNat*sz)) else none
  |.array m _ sz _,.cptr cells=>if 0≤n∧n<m then some (.cptr ((cells.drop (n.toNat*sz)).take sz)) else none
  |_,_=>none
 |_=>none
def A'(k:FK)(x:AV):Option AV :=
 if k.size=0 then none else
 match x with
 |.cptr cells=>some (.cptr (cells.drop k.off))
 |.ptr id ae w row col=>some (.ptr id ae w row (col+k.off))
 |_=>none
def HC(k:IntKind)(a b:Int):Int:=k.wrap (wx k.bits a &&& wx k.bits b).toNat
def HD(k:IntKind)(a b:Int):Int:=k.wrap (wx k.bits a ||| wx k.bits b).toNat
def HF(k:IntKind)(a b:Int):Int:=k.wrap (wx k.bits a ^^^ wx k.bits b).toNat
def Ba(k:IntKind)(a b:Int):Int:=k.wrap (a*2 ^ min b.toNat k.bits)
def dT(k:IntKind)(a b:Int):Int:=a.fdiv (2 ^ min b.toNat k.bits)
def lg(op:BinOp)(k:IntKind)(a b:Int):Option Value :=
 match op with
 |.and=>some (.int k (HC k a b))
 |.or=>some (.int k (HD k a b))
 |.xor=>some (.int k (HF k a b))
 |.add=>some (.int k (k.wrap (a+b)))
 |.sub=>some (.int k (k.wrap (a-b)))
 |.mul=>some (.int k (k.wrap (a*b)))
 |.quo=>if b=0 then none else some (.int k (k.wrap (a.tdiv b)))
 |.rem=>if b=0 then none else some (.int k (a.tmod b))
 |.eql=>some (.bool (a==b))
 |.neq=>some (.bool (a != b))
 |.lss=>some (.bool (a<b))
 |.leq=>some (.bool (a≤b))
 |.gtr=>some (.bool (a>b))
 |.geq=>some (.bool (a ≥ b))
 |_=>none
def Bb(op:BinOp)(x y:ByteArray):Option Value :=
 match op with
 |.add=>if ((x.size+y.size:Nat):Int)>IntKind.i64.max then none else some (.string (x++y))
 |.eql=>some (.bool (x.toList==y.toList))
 |.neq=>some (.bool !(x.toList==y.toList))
 |.lss=>some (.bool (k9 x.toList y.toList))
 |.leq=>some (.bool (k9 x.toList y.toList||x.toList==y.toList))
 |.gtr=>some (.bool !(k9 x.toList y.toList||x.toList==y.toList))
 |.geq=>some (.bool !(k9 x.toList y.toList))
 |_=>none
def gT(op:BinOp):Value→Value→Option Value
 | .int k a,.int k' b=>match op with
  |.shl=>if b<0 then none else some (.int k (Ba k a b))
  |.shr=>if b<0 then none else some (.int k (dT k a b))
  |op=>if k=k' then lg op k a b else none
 |.string a,.string b=>Bb op a b
 |_,_=>none
def w7:AV→Option Nat
 |.lit (.string s)=>some s.size
 |.lit (.slice none 0 0)=>some 0
 |.nils=>some 0
 |.emptyS _=>some 0
 |.list _ rows=>some rows.length
 |.listF _ rows=>some rows.length
 |.vec _ _ _ _ n=>some n
 |_=>none
theorem Sem.bq{P:Program}{t:TypeId}{d:TypeDesc}(h:P.underlying t=some d)(w:World) :
  (underlying t).run P w=.ok d w:=by simp[underlying,h]
theorem Sem.run_sizeOf{P:Program}{t:TypeId}{i:TypeInfo}(h:P.info? t=some i)(w:World):(sizeOf t).run P w=.ok i.size w:=by
 simp[sizeOf,typeInfo,h]
theorem Sem.nv{P:Program}{t:TypeId}{d:TypeDesc}(h:P.underlying t=some d)(w:World):(isAgg t).run P w=.ok (oQ d) w:=by
 simp[isAgg,Sem.bq h];cases d<;>rfl
theorem lh{P:Program}{t:TypeId}{n:Nat}{a:Bool}(h:eL P t=some (n,a)):∃ i d,P.info? t=some i∧P.underlying t=some d∧i.size=n∧oQ d=a:=by
 unfold eL at h;split at h
 ·rename_i i d h1 g
  simp at h;exact⟨i,d,h1,g,h.1,h.2⟩
 ·cases h
theorem HG{P:Program}{t:TypeId}{f:Nat}{k:FK}(h:qw P t f=some k) :
  ∃ d fd,P.underlying t=some (.struct d)∧d[f]? = some fd∧fd.offset=k.off∧eL P fd.type=some (k.size,k.agg):=by
 unfold qw at h;split at h
 ·rename_i d h1
  split at h
  ·rename_i fd g
   split at h
   ·rename_i n a q
    simp at h;subst h;exact⟨d,fd,h1,g,rfl,q⟩
   ·cases h
  ·cases h
 ·cases h
theorem Rk{P:Program}(op:BinOp)(t:TypeId)(x y:Value)(v:Value)(h:gT op x y=some v)(w:World):(binOp op t x y).run P w=.ok v w:=by
 unfold gT at h;split at h
 ·rename_i k a k' b
  split at h
  ·split at h
   ·cases h
   ·rename_i hb
    cases h;simp only[binOp,Op.shift,if_neg hb,Ba];rfl
  ·split at h
   ·cases h
   ·rename_i hb
    cases h;simp only[binOp,Op.shift,if_neg hb,dT];rfl
  ·rename_i d g
   split at h
   ·rename_i hk
    subst hk;cases op<;>first|exact absurd rfl d|exact absurd rfl g|skip
    all_goals simp[lg]at h
    all_goals simp[binOp,Op.intArith,Op.intDiv,Op.intCmp,Op.intBits]
    all_goals first
     |exact h
     |(obtain⟨h1,q⟩:=h; simp[h1,q])
   ·cases h
 ·rename_i a b
  cases op<;>simp only[Bb]at h<;>(try split at h)<;>simp at h<;>simp only[binOp,Op.stringOp]<;>first
   |(subst h; simp; done)
   |(rename_i u; subst h; rw[if_neg u]; rfl)
 ·cases h
theorem Rl{P:Program}(op:BinOp)(t:TypeId)(x y:Operand)(a b:Value)(h:∀ v,gT op a b≠some v→True)(d:(gT op a b).isSome=true)(w:World) :
  (eqGuard op t x y a b).run P w=.ok () w:=by
 unfold gT at d;split at d
 ·cases op<;>simp[eqGuard]<;>rfl
 ·cases op<;>simp[eqGuard]<;>rfl
 ·cases d
theorem Rm{E:Env}{x:AV}{c:Value}{n:Nat}(h:w7 x=some n)(d:rel E x c) :
  (∃ s,c=.string s∧s.size=n)∨∃ base cap,c=.slice base n cap:=by
 unfold w7 at h;split at h
 ·simp only[rel]at d; subst d; simp at h; exact .inl ⟨_,rfl,h⟩
 ·simp only[rel]at d; subst d; simp at h; subst h; exact .inr ⟨_,_,rfl⟩
 ·simp only[rel]at d; obtain⟨b,rfl⟩:=d; simp at h; subst h; exact .inr ⟨_,_,rfl⟩
 ·simp only[rel]at d; obtain⟨b,cap,rfl,_⟩:=d; simp at h; subst h; exact .inr ⟨_,_,rfl⟩
 ·simp only[rel]at d; obtain⟨_,b,cap,rfl,_⟩:=d; simp at h; subst h; exact .inr ⟨_,_,rfl⟩
 ·simp only[rel,dS]at d; obtain⟨b,cap,rfl,_⟩:=d; simp at h; subst h; exact .inr ⟨_,_,rfl⟩
 ·simp only[rel]at d; obtain⟨⟨b,cap,rfl,_⟩,_⟩:=d; simp at h; subst h; exact .inr ⟨_,_,rfl⟩
 ·cases h
end Go.AL

namespace Go.AL
open Go
variable [Dr]
theorem jT(b o n:Nat):(Addr.mk b o none).add n=⟨b,o+n,none⟩:=by
 unfold Addr.add;split
 ·rename_i h; simp[h]
 ·rfl
theorem Rn{E:Env}{as:List AV}{b o:Nat}(h:ch E as b o){i:Nat}{a:AV}(hi:as[i]? = some a) :
  ∃ v,E.w.cell? ⟨b,o+i,none⟩=some v∧di v=true∧rel E a v:=iD.1 h i a hi
theorem qy{E:Env}{as:List AV}{b o:Nat}(h:ch E as b o)(n:Nat):ch E (as.drop n) b (o+n):=by
 rw[iD]at *;intro i a hi;rw[qd]at hi;obtain⟨v,h1,d,g⟩:=h (n+i) a hi;exact⟨v,by rw[oF]; exact h1,d,g⟩
theorem w8{E:Env}{as:List AV}{b o:Nat}(h:ch E as b o)(n:Nat):ch E (as.take n) b o:=by
 rw[iD]at *;intro i a hi;rw[lX]at hi;split at hi
 ·exact h i a hi
 ·cases hi
theorem tA:∀(as:List AV) (n:Nat),AV.bp as=true→AV.bp (as.drop n)=true
 | [],n,_=>by simp[AV.bp]
 |a::as,0,h=>by simpa using h
 | a::as,n+1,h=>by
  simp only[AV.bp,ax]at h;simpa using tA as n h.2
theorem w9:∀(as:List AV) (n:Nat),AV.bp as=true→AV.bp (as.take n)=true
 | [],n,_=>by simp[AV.bp]
 |a::as,0,_=>by simp[AV.bp]
 | a::as,n+1,h=>by
  simp only[AV.bp,ax]at h;simp only[AF,AV.bp,ax];exact⟨h.1,w9 as n h.2⟩
theorem tC{E:Env}:∀{as:List AV} {b o:Nat},ch E as b o →
  ∃ vs:List Value,af E as vs∧(∀ x∈vs,di x=true)∧∀ j v,vs[j]? = some v→E.w.cell? ⟨b,o+j,none⟩=some v
 | [],b,o,_=>⟨[],by simp[af]⟩
 | a::as,b,o,h=>by
  simp only[ch]at h;obtain⟨⟨v,h1,k,q⟩,u⟩:=h;obtain⟨vs,g1,g2,g3⟩:=tC u;refine⟨v::vs,by simp only[af]; exact⟨q,g1⟩,?_,?_⟩
  ·intro x d
   rcases bW.1 d with rfl|d
   ·exact k
   ·exact g2 x d
  ·intro j x g
   cases j with
   |zero=>simp at g; subst g; exact h1
   |succ j=>have:=g3 j x (by simpa using g); rwa [oF,sZ 1 j]at this
theorem Bc{P:Program}{E:Env}{cells:List AV}{b o n:Nat}{agg:Bool}{t:TypeId}{v:AV}(q:eL P t=some (n,agg))
  (g:gI agg n cells=some v) (h:ch E cells b o):∃ c,(loadVar t ⟨b,o,none⟩).run P E.w=.ok c E.w∧rel E v c:=by
 obtain⟨i,d,hi,k,u,ha⟩:=lh q;unfold gI at g;cases agg with
 | true =>
  simp only[if_true]at g;split at g
  ·rename_i hle
   cases g;obtain⟨vs,g1,g2,g3⟩:=tC (w8 h n);have y:vs.length=n:=by rw[←fP g1]; simp[hle]
   refine⟨.agg vs.toArray,?_,?_⟩
   ·simp only [loadVar, bV, Sem.nv k, bX, ha, if_true, Sem.run_sizeOf hi, u]
    rw[←y,run_loadCells_list (w:=E.w) ⟨b,o,none⟩ vs (fun j v B=>by rw[jT]; exact g3 j v B)];rfl
   ·simp only [rel]
    exact⟨vs.toArray,rfl,by simpa using g2,by simpa using g1⟩
  ·cases g
 | false =>
  simp only[k_,if_false]at g;obtain⟨x,h1,_,I⟩:=Rn h g;refine⟨x,?_,I⟩;simp only[loadVar,bV,Sem.nv k,bX,ha,k_,if_false,run_load];rw[show (⟨b,o,none⟩:Addr)=⟨b,o+0,none⟩ from rfl,h1]
def gU(P:Program)(t:TypeId)(x:AV)(H:List ab):Option AV :=
 match eL P t with
 | some (n,agg) =>
  match x with
  |.cptr cells=>gI agg n cells
  | .ptr id ae w row col=>match H[id]? with
   |some (.box cells)=>if ae=0∧row=0 then gI agg n (cells.drop col) else none
   |some (.vec k v rows)=>if ae=v∧k=w then (match rows[row]? with|some r=>gI agg n (r.drop col)|none=>none) else none
   |_=>none
  |_=>none
 |none=>none
theorem mf{E:Env}{k:Nat}{rs:List (List AV)}{b o:Nat}(h:cy E k rs b o){i:Nat}{r:List AV}(hi:rs[i]? = some r) :
  r.length=k∧ch E r b (o+i*k):=lf.1 h i r hi
theorem HH{P:Program}{E:Env}(HE:aq E){t:TypeId}{x v:AV}{c:Value}(d:gU P t x E.H=some v)(h:rel E x c) :
  ∃ u,(AG t c).run P E.w=.ok u E.w∧rel E v u:=by
 unfold gU at d;split at d
 case h_2=>cases d
 rename_i n agg J;split at d
 ·simp only [rel] at h
  obtain⟨_,b,o,rfl,_,O⟩:=h;obtain⟨u,q,y⟩:=Bc J d O;exact⟨u,by simpa[AG,mX]using q,y⟩
 ·rename_i id ae w row col
  simp only[rel]at h;split at d
  ·rename_i cells hid
   split at d
   ·rename_i I
    obtain⟨rfl,rfl⟩:=I;obtain⟨b,m,M,rfl⟩:=h.2.2 ⟨_,hid,rfl⟩;obtain⟨U,m',g,_,B⟩:=HE.obj id _ hid;rw[M]at g;cases g;have:=qy B col;simp only[cP]at this;obtain⟨u,q,y⟩:=Bc J d this;exact⟨u,by simpa[AG,mX]using q,y⟩
   ·cases d
  ·rename_i k V rows hid
   split at d
   ·rename_i I
    obtain⟨rfl,rfl⟩:=I;split at d
    ·rename_i r N
     obtain⟨b,m,M,rfl⟩:=h.2.2 ⟨_,hid,rfl⟩;rcases HE.obj id _ hid with⟨g,B⟩|⟨U,m',g,_,_,_,B⟩
     ·subst B; simp at N
     ·rw [M] at g
      cases g;have:=qy (mf B N).2 col;simp only[cP]at this;obtain⟨u,q,y⟩:=Bc J d this;exact⟨u,by simpa[AG,mX]using q,y⟩
    ·cases d
   ·cases d
  ·cases d
 ·cases d
theorem Ro{P:Program}{E:Env}{t:TypeId}{f:Nat}{k:FK}{x v:AV}{c:Value}(hk:qw P t f=some k)
  (g:A' k x=some v) (h:rel E x c):∃ u,(QC t c f).run P E.w=.ok u E.w∧rel E v u:=by
 obtain⟨fs,fd,h1,B,N,O⟩:=HG hk;obtain⟨i,d,hi,hd,U,ha⟩:=lh O;unfold A' at g;split at g
 ·cases g
 rename_i I;have y:∀ b o w,(fieldPlace ⟨b,o,none⟩ fd).run P w=.ok ⟨b,o+k.off,none⟩ w:=by
  intro b o w;simp only[fieldPlace,bV,Sem.run_sizeOf hi,bX,U,if_neg I,fa,jT,N]
 split at g
 ·cases g
  simp only[rel]at h;obtain⟨V,b,o,rfl,J,M⟩:=h;refine⟨.pointer (some ⟨b,o+k.off,none⟩),?_,?_⟩
  ·simp[QC,Sem.bq h1,B,mX,y]
  ·simp only [rel]
   exact⟨tA _ _ V,b,o+k.off,rfl,J,qy M _⟩
 ·cases g
  simp only[rel]at h;rename_i id ae w row col;obtain⟨⟨b,o,rfl⟩,W,h6⟩:=h;refine⟨.pointer (some ⟨b,o+k.off,none⟩),?_,?_⟩
  ·simp[QC,Sem.bq h1,B,mX,y]
  ·simp only [rel]
   refine⟨⟨_,_,rfl⟩,W,fun hl=>?_⟩;obtain⟨b',n',e1,q⟩:=h6 hl;simp only[aez,aV,GZ]at q;exact⟨b',n',e1,by simp[q.1,q.2.1,oF]⟩
 ·cases g
theorem gh{P:Program}{t e sz d:Nat}(h:b9 P t=.slice e sz d):P.underlying t=some (.slice e)∧∃ i,P.info? e=some i∧i.size=sz∧i.bytes=d:=by
 unfold b9 at h;split at h
 ·rename_i e' h1
  split at h
  ·rename_i i g
   cases h;exact⟨h1,i,g,rfl,rfl⟩
  ·cases h
 ·split at h<;>cases h
 all_goals cases h
theorem w_{P:Program}{t n e sz:Nat}{a:Bool}(h:b9 P t=.array n e sz a):P.underlying t=some (.array n e)∧eL P e=some (sz,a):=by
 unfold b9 at h;split at h
 ·split at h<;>cases h
 ·rename_i g e' h1
  split at h
  ·rename_i m k d
   cases h;exact⟨h1,d⟩
  ·cases h
 all_goals cases h
theorem oS{P:Program}{t:Nat}(h:b9 P t=.str):P.underlying t=some .string:=by
 unfold b9 at h;split at h
 ·split at h<;>cases h
 ·split at h<;>cases h
 ·rename_i h1; exact h1
 all_goals cases h
theorem Rp{P:Program}{E:Env}(HE:aq E){t:TypeId}{x i v:AV}{c d:Value}
  (g:kI (b9 P t) x i=some v) (h:rel E x c) (hi:rel E i d):∃ u,(wy t c d).run P E.w=.ok u E.w∧rel E v u:=by
 unfold kI at g;split at g
 case h_2=>cases g
 rename_i k n;simp only[rel]at hi;subst hi;split at g
 ·rename_i e sz by_ w rows hk
  split at g
  ·rename_i q
   obtain⟨rfl,h0,h1⟩:=q;obtain⟨hu,ii,B,I,_⟩:=gh hk;cases y:rows[n.toNat]? with
   |none=>rw[y]at g; cases g
   | some r =>
    rw[y]at g;simp at g;subst g;simp only[rel]at h;obtain⟨O,base,cap,rfl,hle,hh⟩:=h;rcases hh with rfl|⟨b,o,rfl,J,hr⟩
    ·simp at y
    ·obtain ⟨g1, g2⟩ := mf hr y
     refine⟨.pointer (some ⟨b,o+n.toNat*w,none⟩),?_,?_⟩
     ·simp[wy,asIntOf,Sem.bq hu,h0,h1,Sem.run_sizeOf B,I,jT]
     ·simp only [rel]
      exact⟨O r (eT y),b,_,rfl,J,g2⟩
  ·cases g
 ·rename_i e sz by_ ks rows hk
  split at g
  ·rename_i q
   obtain⟨rfl,h0,h1⟩:=q;cases g;obtain⟨hu,ii,B,I,_⟩:=gh hk;have h:=iR.1 h;simp only[rel,dJ]at h;obtain⟨O,base,cap,rfl,hle,hh⟩:=h;have hlt:n.toNat<rows.length:=by omega
   have y:(rows.map (aK ks))[n.toNat]? = some (aK ks (rows.getD n.toNat [])):=by
    rw[bZ,cf,bI hlt];rfl
   rcases hh with hn|⟨b,o,rfl,J,hr⟩
   ·rw[hn]at y; simp at y
   ·obtain ⟨g1, g2⟩ := mf hr y
    refine⟨.pointer (some ⟨b,o+n.toNat*ks.length,none⟩),?_,?_⟩
    ·simp[wy,asIntOf,Sem.bq hu,h0,h1,Sem.run_sizeOf B,I,jT]
    ·simp only [rel]
     exact⟨fE _ _,b,_,rfl,J,g2⟩
  ·cases g
 ·rename_i e sz by_ w id ae off m hk
  split at g
  ·rename_i q
   obtain⟨rfl,h0,h1⟩:=q;cases g;obtain⟨hu,ii,B,I,_⟩:=gh hk;simp only[rel]at h;obtain⟨⟨base,cap,rfl,hle,hb⟩,U,M⟩:=h;obtain⟨b,o,rfl⟩:=hb (by omega);refine⟨.pointer (some ⟨b,o+n.toNat*w,none⟩),?_,?_⟩
   ·simp[wy,asIntOf,Sem.bq hu,h0,h1,Sem.run_sizeOf B,I,jT]
   ·simp only [rel]
    refine⟨⟨_,_,rfl⟩,U,fun hl=>?_⟩;obtain⟨g1,g2⟩:=M hl;obtain⟨a,ha,hav⟩:=U;cases N:E.loc[id]? with
    | none =>
     have:=aL ha;rw[←HE.len]at this;rw[bI this]at N;cases N
    | some l =>
     cases l with
     |none=>have:=(g1 N).1; omega
     | some bm =>
      obtain⟨V,m'⟩:=bm;obtain⟨q1,o',q2,q3⟩:=g2 V m' N;simp only[jQ,aV,GZ]at q3;refine⟨V,m',rfl,?_⟩;rw[q3.1.1,q3.1.2.1,q2 (by omega),fo];rfl
  ·cases g
 ·rename_i m e sz a id ae w row col hk
  split at g
  ·rename_i q
   cases g;obtain⟨hu,W⟩:=w_ hk;obtain⟨ii,dd,B,I,h4,_⟩:=lh W;simp only[rel]at h;obtain⟨⟨b,o,rfl⟩,U,M⟩:=h;refine⟨.pointer (some ⟨b,o+n.toNat*sz,none⟩),?_,?_⟩
   ·simp[wy,asIntOf,Sem.bq hu,q.1,q.2,Sem.run_sizeOf B,h4,jT,mX]
   ·simp only [rel]
    refine⟨⟨_,_,rfl⟩,U,fun hl=>?_⟩;obtain⟨V,n',e1,e2⟩:=M hl;simp only[aez,aV,GZ]at e2;exact⟨V,n',e1,by simp[e2.1,e2.2.1,oF]⟩
  ·cases g
 ·rename_i m e sz a cells hk
  split at g
  ·rename_i q
   cases g;obtain⟨hu,W⟩:=w_ hk;obtain⟨ii,dd,B,I,h4,_⟩:=lh W;simp only[rel]at h;obtain⟨O,b,o,rfl,J,M⟩:=h;refine⟨.pointer (some ⟨b,o+n.toNat*sz,none⟩),?_,?_⟩
   ·simp[wy,asIntOf,Sem.bq hu,q.1,q.2,Sem.run_sizeOf B,h4,jT,mX]
   ·simp only [rel]
    exact⟨w9 _ _ (tA _ _ O),b,_,rfl,J,w8 (qy M _) _⟩
  ·cases g
 ·cases g
def jU:AV→Option Int
 |.lit (.int _ n)=>some n
 |_=>none
def fR(len:Nat)(lo hi:Option AV):Option (Nat × Nat) :=
 match (match lo with|none=>some 0|some x=>jU x),(match hi with|none=>some (len:Int)|some x=>jU x)with
 |some l,some h=>if 0≤l∧l≤h∧h≤len then some (l.toNat,h.toNat) else none
 |_,_=>none
theorem qz{E:Env}{x:AV}{c:Value}{n:Int}(h:jU x=some n)(d:rel E x c):∃ k,c=.int k n:=by
 unfold jU at h;split at h
 ·cases h
  simp only[rel]at d;exact⟨_,d⟩
 ·cases h
def HI:List AV→Option (List G)
 | [.lit (.string s)]=>some [.s s]
 |_=>none
def qA:List (List AV)→Option (List (List G))
 | []=>some []
 | r::rs=>match HI r,qA rs with
  |some g,some gs=>some (g::gs)
  |_,_=>none
theorem Bd:∀{rows:List (List AV)} {gs:List (List G)},qA rows=some gs→gs.map (aK [.str])=rows
 | [],gs,h=>by
  simp only[qA,aV]at h;subst h;rfl
 | r::rs,gs,h=>by
  simp only[qA]at h;split at h
  ·rename_i g k h1 d
   cases h;rw[du,Bd d];unfold HI at h1;split at h1
   ·cases h1; rfl
   ·cases h1
  ·cases h
def xa(w:Nat)(rows:List (List AV))(l n:Nat):AV:=match w,qA rows with
 |1,some gs=>.listF [.str] ((gs.drop l).take n)
 |_,_=>.list w ((rows.drop l).take n)
theorem Rq{E:Env}{w l n:Nat}{rows:List (List AV)}{c:Value} (h:rel E (.list w ((rows.drop l).take n)) c):rel E (xa w rows l n) c:=by
 unfold xa;split
 ·rename_i gs d
  rw[iR,G0,G1,Bd d];exact h
 ·exact h
def kJ(P:Program)(t:TypeId)(x:AV)(lo hi mx:Option AV):Option AV :=
 match b9 P t,x with
 | .str,.lit (.string s)=>match mx,fR s.size lo hi with
  |none,some (l,h)=>some (.lit (.string (s.extract l h)))
  |_,_=>none
 | .slice _ sz _,.list w rows=>match mx with
  | none=>match fR rows.length lo hi with
   |some (l,h)=>if w=sz then some (xa w rows l (h-l)) else none
   |none=>none
  |some m=>if hi.isSome∧fR rows.length lo hi=some (0,0)∧jU m=some 0 then some .nils else none
 | .slice _ sz _,.listF ks rows=>match mx with
  | none=>match fR rows.length lo hi with
   |some (l,h)=>if ks.length=sz then some (.listF ks ((rows.drop l).take (h-l))) else none
   |none=>none
  |some m=>if hi.isSome∧fR rows.length lo hi=some (0,0)∧jU m=some 0 then some .nils else none
 | .slice _ sz _,.vec w id ae off n=>match mx with
  | none=>match fR n lo hi with
   |some (l,h)=>if w=sz then some (.vec w id ae (off+l) (h-l)) else none
   |none=>none
  |some m=>if hi.isSome∧fR n lo hi=some (0,0)∧jU m=some 0 then some .nils else none
 | .slice _ _ _,.nils=>match mx with
  |none=>if (fR 0 lo hi).isSome then some .nils else none
  |some _=>none
 | .slice _ _ _,.lit (.slice none 0 0)=>match mx with
  |none=>if (fR 0 lo hi).isSome then some (.lit (.slice none 0 0)) else none
  |some m=>if hi.isSome∧fR 0 lo hi=some (0,0)∧jU m=some 0 then some (.lit (.slice none 0 0)) else none
 |_,_=>none
theorem qB{P:Program}{E:Env}{len cap:Nat}{lo hi:Option AV}{clo q:Option Value}{l h:Nat}(isSlice:Bool)(hb:fR len lo hi=some (l,h))(hle:len≤cap)
  (h1:∀ x,lo=some x→∃ c,clo=some c∧rel E x c) (v:lo=none→clo=none)
  (I:∀ x,hi=some x→∃ c,q=some c∧rel E x c) (B:hi=none→q=none) (w:World) :
  (qe isSlice len cap clo q none).run P w=.ok (l,h,cap) w∧l≤h∧h≤len:=by
 unfold fR at hb;split at hb
 case h_2=>cases hb
 rename_i a b g u;split at hb
 case isFalse=>cases hb
 rename_i d;simp only[aV,ba]at hb;obtain⟨rfl,rfl⟩:=hb;obtain⟨y,c1,c2⟩:=d;refine⟨?_,by omega,by omega⟩;cases hi with
 | none =>
  rw[B rfl];simp at u;subst u;cases lo with
  | none =>
   rw[v rfl];simp at g;subst g;simp[qe]
  | some x =>
   obtain⟨c,rfl,d⟩:=h1 x rfl;obtain⟨k,rfl⟩:=qz g d;simp[qe,AH,asIntOf,y,c1]
 | some z =>
  obtain⟨c,rfl,d⟩:=I z rfl;obtain⟨k,rfl⟩:=qz u d;have g1:b≤(cap:Int):=by omega
  have g2:0≤b:=by omega
  cases lo with
  | none =>
   rw[v rfl];simp at g;subst g;simp[qe,AH,asIntOf,g1,g2]
  | some x =>
   obtain⟨c,rfl,d⟩:=h1 x rfl;obtain⟨k',rfl⟩:=qz g d;have g4:¬ (max b 0<a):=by omega
   simp[qe,AH,asIntOf,g1,g2,y,g4]
theorem HJ{E:Env}{k:Nat}{rows:List (List AV)}{b o:Nat}(h:cy E k rows b o)(l n:Nat) :
  cy E k ((rows.drop l).take n) b (o+l*k):=by
 rw[lf]at *;intro i r hi;rw[lX]at hi;split at hi
 ·rw [qd] at hi
  have:=h (l+i) r hi
  rwa [fo,←oF]at this
 ·cases hi
def nw(E:Env):Option AV→Option Value→Prop
 |none,none=>True
 |some x,some c=>rel E x c
 |_,_=>False
theorem Be{E:Env}{lo:Option AV}{clo:Option Value}(h:nw E lo clo):(∀ x,lo=some x→∃ c,clo=some c∧rel E x c)∧(lo=none→clo=none):=by
 cases lo<;>cases clo<;>simp_all[nw]
theorem HK{E:Env}{w l h cap:Nat}{rows:List (List AV)}{base:Option Addr}(g:eV rows)(hle:rows.length≤cap)(h1:l≤h)(q:h≤rows.length)
  (u:rows=[]∨∃ b o,base=some ⟨b,o,none⟩∧E.iC b∧cy E w rows b o) :
  rel E (.list w ((rows.drop l).take (h-l))) (.slice (if cap=l then base else base.map (·.add (l*w))) (h-l) (cap-l)):=by
 simp only[rel];have hlen:((rows.drop l).take (h-l)).length=h-l:=by simp; omega
 refine⟨fun r d=>g r (wz (s8 d)),_,cap-l,by rw[hlen],by rw[hlen]; omega,?_⟩;rcases Nat.eq_or_lt_of_le h1 with rfl|v
 ·left; simp
 ·right
  rcases u with rfl|⟨b,o,rfl,k,d⟩
  ·simp at q; omega
  ·refine ⟨b, o + l * w, ?_, k, HJ d l (h - l)⟩
   rw[if_neg (by omega)];simp[jT]
theorem Rr{E:Env}{w id ae off n l h:Nat}{base:Option Addr}{cap:Nat}(g:rel E (.vec w id ae off n) (.slice base n cap))(h1:l≤h)(U:h≤n) :
  rel E (.vec w id ae (off+l) (h-l)) (.slice (if cap=l then base else base.map (·.add (l*w))) (h-l) (cap-l)):=by
 simp only[rel]at g⊢;obtain⟨⟨u,O,e,hle,hb⟩,y,B⟩:=g;simp only[jQ]at e;obtain⟨rfl,_,rfl⟩:=e;refine⟨⟨_,_,rfl,by omega,fun V=>?_⟩,y,fun I=>?_⟩
 ·obtain ⟨b, o, rfl⟩ := hb (by omega)
  rw[if_neg (by omega)];exact⟨b,o+l*w,by simp[jT]⟩
 ·obtain ⟨g1, g2⟩ := B I
  refine⟨fun d=>?_,fun b m d=>?_⟩
  ·obtain ⟨rfl, rfl, u, e⟩ := g1 d
   simp only[jQ]at e;refine⟨by omega,by omega,?_⟩;have J:h-l=0:=by omega
   have M:cap-l=0:=by omega
   rw[J,M];exact⟨_,rfl⟩
  ·obtain ⟨W, o, N, k⟩ := g2 b m d
   simp only[jQ]at k;obtain⟨rfl,_,rfl⟩:=k;refine⟨by omega,?_⟩;by_cases q:m-off=l
   ·rw [if_pos q]
    exact⟨o,fun v=>by omega,by rw[aeA]⟩
   ·rw [if_neg q]
    refine⟨o+l*w,fun v=>?_,by simp[jT,aeA]⟩;rw[N (by omega),fo]
theorem xb{P:Program}{E:Env}{len:Nat}{lo hi:Option AV}{m:AV}{clo g:Option Value}{h:Value}
  (hb:fR len lo hi=some (0,0)) (y:hi.isSome=true) (hm:jU m=some 0)
  (h1:∀ x,lo=some x→∃ c,clo=some c∧rel E x c) (q:lo=none→clo=none)
  (B:∀ x,hi=some x→∃ c,g=some c∧rel E x c) (u:rel E m h) (cap:Nat) (w:World) :
  (qe true len cap clo g (some h)).run P w=.ok (0,0,0) w:=by
 obtain⟨k,rfl⟩:=qz hm u;obtain⟨z,rfl⟩:=qf.1 y;obtain⟨c,rfl,d⟩:=B z rfl;unfold fR at hb;split at hb
 case h_2=>cases hb
 rename_i a b I J;split at hb
 case isFalse=>cases hb
 rename_i M;simp only[aV,ba]at hb;obtain⟨k',rfl⟩:=qz J d;have ha:a=0:=by omega
 have v:b=0:=by omega
 subst ha; subst v;cases lo with
 | none =>
  rw[q rfl];simp[qe,AH,asIntOf]
 | some x =>
  obtain⟨c,rfl,d⟩:=h1 x rfl;obtain⟨N,rfl⟩:=qz I d;simp[qe,AH,asIntOf]
theorem Rs{P:Program}{E:Env}{t:TypeId}{x v:AV}{lo hi mx:Option AV}{c:Value}{clo W cmx:Option Value}
  (d:kJ P t x lo hi mx=some v) (q:rel E x c) (hlo:nw E lo clo) (hhi:nw E hi W) (hmx:nw E mx cmx) :
  ∃ u,(lY t c clo W cmx).run P E.w=.ok u E.w∧rel E v u:=by
 obtain⟨l1,y⟩:=Be hlo;obtain⟨l2,B⟩:=Be hhi;obtain⟨N,I⟩:=Be hmx;unfold kJ at d;split at d
 ·rename_i s hk
  have hu:=oS hk;simp only[rel]at q;subst q;split at d
  ·rename_i l h hb
   cases d;rw[I rfl];obtain⟨g1,g2,g3⟩:=qB (P:=P) (E:=E) (cap:=s.size) false hb (aB _) l1 y l2 B E.w;refine⟨.string (s.extract l h),?_,by simp[rel]⟩;simp[lY,mY,Sem.bq hu,g1]
  ·cases d
 ·rename_i e sz M w rows hk
  obtain⟨hu,ii,i1,i2,_⟩:=gh hk;have J:=q;simp only[rel]at q;obtain⟨O,base,cap,rfl,hle,U⟩:=q;split at d
  ·split at d
   ·rename_i l h hb
    split at d
    ·rename_i hw
     subst hw;cases d;rw[I rfl];obtain⟨g1,g2,g3⟩:=qB (P:=P) (E:=E) (cap:=cap) true hb hle l1 y l2 B E.w;refine⟨_,?_,Rq (HK (cap:=cap) O hle g2 g3 U)⟩;simp[lY,mY,Sem.bq hu,g1,Sem.run_sizeOf i1,i2]
    ·cases d
   ·cases d
  ·rename_i m
   split at d
   ·rename_i k
    cases d;obtain⟨V,rfl,hm⟩:=N m rfl;have g:=xb (P:=P) k.2.1 k.1 k.2.2 l1 y l2 hm cap E.w;refine⟨.slice base 0 0,?_,by simp only[rel]; exact⟨base,rfl⟩⟩;simp[lY,mY,Sem.bq hu,g,Sem.run_sizeOf i1,i2]
   ·cases d
 ·rename_i e sz M ks rows hk
  obtain⟨hu,ii,i1,i2,_⟩:=gh hk;have J:=iR.1 q;simp only[rel]at J;obtain⟨O,base,cap,rfl,hle,U⟩:=J;simp only[dJ]at hle q⊢;split at d
  ·split at d
   ·rename_i l h hb
    split at d
    ·rename_i hw
     subst hw;cases d;rw[I rfl];obtain⟨g1,g2,g3⟩:=qB (P:=P) (E:=E) (cap:=cap) true hb hle l1 y l2 B E.w;have:=HK (cap:=cap) O (by simpa using hle) g2 (by simpa using g3) U;have e:((rows.map (aK ks)).drop l).take (h-l)=((rows.drop l).take (h-l)).map (aK ks):=by rw[G0,G1]
     rw[e]at this;refine⟨_,?_,iR.2 this⟩;simp[lY,mY,Sem.bq hu,g1,Sem.run_sizeOf i1,i2]
    ·cases d
   ·cases d
  ·rename_i m
   split at d
   ·rename_i k
    cases d;obtain⟨V,rfl,hm⟩:=N m rfl;have g:=xb (P:=P) k.2.1 k.1 k.2.2 l1 y l2 hm cap E.w;refine⟨.slice base 0 0,?_,by simp only[rel]; exact⟨base,rfl⟩⟩;simp[lY,mY,Sem.bq hu,g,Sem.run_sizeOf i1,i2]
   ·cases d
 ·rename_i e sz M w id ae off n hk
  obtain⟨hu,ii,i1,i2,_⟩:=gh hk;have J:=q;simp only[rel]at q;obtain⟨⟨base,cap,rfl,hle,_⟩,_,_⟩:=q;split at d
  ·split at d
   ·rename_i l h hb
    split at d
    ·rename_i hw
     subst hw;cases d;rw[I rfl];obtain⟨g1,g2,g3⟩:=qB (P:=P) (E:=E) (cap:=cap) true hb hle l1 y l2 B E.w;refine⟨_,?_,Rr J g2 g3⟩;simp[lY,mY,Sem.bq hu,g1,Sem.run_sizeOf i1,i2]
    ·cases d
   ·cases d
  ·rename_i m
   split at d
   ·rename_i k
    cases d;obtain⟨V,rfl,hm⟩:=N m rfl;have g:=xb (P:=P) k.2.1 k.1 k.2.2 l1 y l2 hm cap E.w;refine⟨.slice base 0 0,?_,by simp only[rel]; exact⟨base,rfl⟩⟩;simp[lY,mY,Sem.bq hu,g,Sem.run_sizeOf i1,i2]
   ·cases d
 ·rename_i e sz M hk
  obtain⟨hu,ii,i1,i2,_⟩:=gh hk;simp only[rel]at q;obtain⟨base,rfl⟩:=q;split at d
  ·split at d
   ·rename_i hb
    cases d;obtain⟨⟨l,h⟩,hb⟩:=qf.1 hb;rw[I rfl];obtain⟨g1,g2,g3⟩:=qB (P:=P) (E:=E) (cap:=0) true hb (aB _) l1 y l2 B E.w;have:h=0:=by omega
    subst this;have:l=0:=by omega
    subst this;refine⟨.slice base 0 0,?_,by simp only[rel]; exact⟨base,rfl⟩⟩;simp[lY,mY,Sem.bq hu,g1,Sem.run_sizeOf i1,i2]
   ·cases d
  ·cases d
 ·rename_i e sz M hk
  obtain⟨hu,ii,i1,i2,_⟩:=gh hk;simp only[rel]at q;subst q;split at d
  ·split at d
   ·rename_i hb
    cases d;obtain⟨⟨l,h⟩,hb⟩:=qf.1 hb;rw[I rfl];obtain⟨g1,g2,g3⟩:=qB (P:=P) (E:=E) (cap:=0) true hb (aB _) l1 y l2 B E.w;have:h=0:=by omega
    subst this;have:l=0:=by omega
    subst this;refine⟨.slice none 0 0,?_,by simp only[rel]⟩;simp[lY,mY,Sem.bq hu,g1,Sem.run_sizeOf i1,i2]
   ·cases d
  ·rename_i m
   split at d
   ·rename_i k
    cases d;obtain⟨V,rfl,hm⟩:=N m rfl;have g:=xb (P:=P) k.2.1 k.1 k.2.2 l1 y l2 hm 0 E.w;refine⟨.slice none 0 0,?_,by simp only[rel]⟩;simp[lY,mY,Sem.bq hu,g,Sem.run_sizeOf i1,i2]
   ·cases d
 ·cases d
end Go.AL

namespace Go.AL
open Go
variable [Dr]
def kindOk:SK→Value→Bool
 |.int k,.int k' _=>k=k'
 |.str,.string _=>true
 |.bool,.bool _=>true
 |_,_=>false
def ny:Value→Value→Bool
 |.int _ a,.int _ b=>a==b
 |.string a,.string b=>a.toList==b.toList
 |.bool a,.bool b=>a==b
 |_,_=>false
def dp:List Value→List Value→Bool
 | [],[]=>true
 |a::as,b::d=>ny a b&&dp as d
 |_,_=>false
def cz:List SK→List Value→Bool
 | [],[]=>true
 |k::ks,v::vs=>kindOk k v&&cz ks vs
 |_,_=>false
def qC(P:Program)(f:TypeId→Option (List SK)):List Field→Nat→Option (List SK)
 | [],_=>some []
 | x::d,off=>if x.name = "_" ∨ x.offset≠off then none else
  match f x.type,eL P x.type with
  |some ks,some (n,_)=>if n=ks.length then (match qC P f d (off+n)with|some l=>some (ks++l)|none=>none) else none
  |_,_=>none
def flatK(P:Program):Nat→TypeId→Option (List SK)
 |0,_=>none
 | d+1,t=>match P.underlying t with
  |some (.int k)=>some [.int k]
  |some .string=>some [.str]
  |some .bool=>some [.bool]
  |some (.struct g)=>if P.stoodInHeld t then none else qC P (fun t=>flatK P d t) g.toList 0
  |_=>none
abbrev tD(P:Program)(d:Nat)(g:List Field)(off:Nat):Option (List SK):=qC P (fun t=>flatK P d t) g off
theorem HL:∀(a b c d:List Value),a.length=c.length→dp (a++b) (c++d)=(dp a c&&dp b d)
 | [],b,[],d,_=>by simp[dp]
 | x::a,b,y::c,d,h=>by
  simp only[lZ,dp,HL a b c d (by simpa using h),aeB]
 | [],_,_::_,_,h=>by simp at h
 |_::_,_,[],_,h=>by simp at h
theorem qD:∀{ks:List SK} {vs:List Value},cz ks vs=true→ks.length=vs.length
 | [],[],_=>rfl
 |_::ks,_::vs,h=>by simp only[cz,ax]at h; simp[qD h.2]
 | [],_::_,h=>by simp[cz]at h
 |_::_,[],h=>by simp[cz]at h
theorem xc:∀{a b:List SK} {vs:List Value},cz (a++b) vs=true→cz a (vs.take a.length)=true∧cz b (vs.drop a.length)=true
 | [],b,vs,h=>by simpa[cz]using h
 |k::a,b,[],h=>by simp[cz]at h
 | k::a,b,v::vs,h=>by
  simp only[lZ,cz,ax]at h;have:=xc h.2;simp only[cw,AF,cz,ax,aeC];exact⟨⟨h.1,this.1⟩,this.2⟩
def isVal(P:Program)(t:TypeId)(x:Value)(vs:List Value):Prop :=
 match P.underlying t with
 |some (.struct _)=>∃ a:Array Value,x=.agg a∧a.toList=vs
 |_=>vs=[x]
theorem Bf{P:Program}{t:TypeId}{n:Nat}{agg:Bool}{ks:List SK}{d:Nat}(u:eL P t=some (n,agg))(hk:flatK P d t=some ks)(h:n=ks.length)
  (cs:Array Value) (off:Nat) (q:cz ks ((cs.toList.drop off).take n)=true) (w:World) :
  ∃ x,(part t cs off).run P w=.ok x w∧isVal P t x ((cs.toList.drop off).take n):=by
 obtain⟨i,d',h1,g,v,y⟩:=lh u;cases d with
 |zero=>simp[flatK]at hk
 | succ d =>
  unfold flatK at hk;rw[g]at hk;have hlen:=qD q;cases d' with
  | struct B =>
   refine⟨.agg (cs.extract off (off+n)),?_,?_⟩
   ·simp[part,Sem.nv g,oQ,Sem.run_sizeOf h1,v]
   ·simp only [isVal, g]
    refine⟨_,rfl,?_⟩;simp
  | int k =>
   simp at hk;subst hk;simp at h;subst h;have:off<cs.size:=by simp at hlen; omega
   refine⟨cs[off],?_,?_⟩
   ·simp[part,Sem.nv g,oQ,this]
   ·simp[isVal,g,QD,this]
  | string =>
   simp at hk;subst hk;simp at h;subst h;have:off<cs.size:=by simp at hlen; omega
   refine⟨cs[off],?_,?_⟩
   ·simp[part,Sem.nv g,oQ,this]
   ·simp[isVal,g,QD,this]
  | bool =>
   simp at hk;subst hk;simp at h;subst h;have:off<cs.size:=by simp at hlen; omega
   refine⟨cs[off],?_,?_⟩
   ·simp[part,Sem.nv g,oQ,this]
   ·simp[isVal,g,QD,this]
  |_=>simp at hk
theorem Rt{P:Program}{t:TypeId}{d:Array Field}(h:P.underlying t=some (.struct d)):P.underlying t=some (.struct (P.fieldsOf t)):=by
 simp[aeD,h]
mutual
theorem Bg{P:Program}:∀(d:Nat) (t:TypeId) (ks:List SK),flatK P d t=some ks→∀(D:Nat),d≤D→∀(x y:Value) (vs us:List Value),
  isVal P t x vs→isVal P t y us→cz ks vs=true→cz ks us=true→∀ w,(jr D t x y).run P w=.ok (dp vs us) w
 |0,_,_,hk=>by simp[flatK]at hk
 | d+1,t,ks,hk=>by
  intro D hD x y vs us q u g h w;obtain⟨D,rfl⟩:∃ B,D=B+1:=⟨D-1,by omega⟩
  unfold flatK at hk;cases hu:P.underlying t with
  |none=>rw[hu]at hk; cases hk
  | some I =>
   rw[hu]at hk;cases I with
   | struct v =>
    simp only[]at hk;split at hk
    ·cases hk
    rename_i J;simp only[isVal,hu]at q u;obtain⟨a,rfl,rfl⟩:=q;obtain⟨b,rfl,rfl⟩:=u;have M:P.fieldsOf t=v:=by simp[aeD,hu]
    rw[run_equalIn_struct w D t a b (Rt hu) (by simpa using J),M];have:=HM d v.toList 0 ks hk D (by omega) a b (by simpa using g) (by simpa using h) w;simpa using this
   | int k =>
    simp at hk;subst hk;simp only[isVal,hu]at q u;subst q; subst u;simp only[cz,fO]at g h;unfold kindOk at g h;split at g<;>split at h<;>simp_all[jr,dp,ny,Sem.bq hu]
   | string =>
    simp at hk;subst hk;simp only[isVal,hu]at q u;subst q; subst u;simp only[cz,fO]at g h;unfold kindOk at g h;split at g<;>split at h<;>simp_all[jr,dp,ny,Sem.bq hu,beq_toListBytes]
   | bool =>
    simp at hk;subst hk;simp only[isVal,hu]at q u;subst q; subst u;simp only[cz,fO]at g h;unfold kindOk at g h;split at g<;>split at h<;>simp_all[jr,dp,ny,Sem.bq hu]
   |_=>simp at hk
theorem HM{P:Program}:∀(d:Nat) (u:List Field) (off:Nat) (ks:List SK),tD P d u off=some ks→∀(D:Nat),d≤D→∀(xs g:Array Value),
  cz ks (xs.toList.drop off)=true→cz ks (g.toList.drop off)=true→∀ w,(QE D xs g u).run P w=.ok (dp (xs.toList.drop off) (g.toList.drop off)) w
 | d,[],off,ks,hk=>by
  intro D hD xs g J M w;simp[tD,qC]at hk;subst hk;have h1:=qD J;have h2:=qD M;have h:xs.toList.drop off=[]:=AI (by rw[←h1]; rfl);have v:g.toList.drop off=[]:=AI (by rw[←h2]; rfl);rw[h,v];simp[QE,dp]
 | d,f::u,off,ks,hk=>by
  intro D hD xs g J M w;unfold tD qC at hk;split at hk
  ·cases hk
  rename_i O;split at hk
  case h_2=>cases hk
  rename_i k1 n ag h v;split at hk
  case isFalse=>cases hk
  rename_i N;split at hk
  case h_2=>cases hk
  rename_i l e3;cases hk;have V:f.name ≠ "_" := fun e=>O (.inl e);have hoff:f.offset=off:=by
   by_cases e:f.offset=off
   ·exact e
   ·exact(O (.inr e)).elim
  obtain⟨k,B⟩:=xc J;obtain⟨q,I⟩:=xc M;rw[←N]at k B q I;obtain⟨x,px,vx⟩:=Bf v h N xs off k w;obtain⟨y,py,vy⟩:=Bf v h N g off q w;have he:=Bg d f.type k1 h D hD x y _ _ vx vy k q w;have W:=HM d u (off+n) l e3 D hD xs g (by rw[oH]at B; exact B) (by rw[oH]at I; exact I) w;have U:dp (xs.toList.drop off) (g.toList.drop off) =
    (dp ((xs.toList.drop off).take n) ((g.toList.drop off).take n)&&dp (xs.toList.drop (off+n)) (g.toList.drop (off+n))):=by
   rw[←HL _ _ _ _ (by rw[←qD k,←qD q]),←oH,←oH,s9,s9]
  simp only[QE,V,ne_eq,not_false_eq_true,if_true,bV,hoff,px,py,bX,he,U];cases dp ((xs.toList.drop off).take n) ((g.toList.drop off).take n)<;>simp[W]
end
def mg:List AV→Option (List Value)
 | []=>some []
 | .lit v::as=>match mg as with
  |some l=>some (v::l)
  |none=>none
 |_=>none
theorem xd{E:Env}:∀{as:List AV} {l vs:List Value},mg as=some l→af E as vs→vs=l
 | [],l,[],h,_=>by simp[mg]at h; exact h.symm
 | [],_,_::_,_,d=>by simp[af]at d
 |_::_,_,[],_,d=>by simp[af]at d
 | a::as,l,v::vs,h,d=>by
  simp only[af]at d;cases a<;>simp only[mg]at h<;>try cases h
  split at h
  ·rename_i u l' g
   cases h;have:=xd g d.2;have h1:=d.1;simp only[rel]at h1;rw[h1,this]
  ·cases h
def mh:Option TypeDesc→Bool
 |some (.struct _)=>true
 |_=>false
def jx(op:BinOp)(b:Bool):Option AV :=
 match op with
 |.eql=>some (.bool b)
 |.neq=>some (.bool !b)
 |_=>none
def ml:Nat:=6
def Bh(P:Program)(op:BinOp)(t:TypeId)(d:Bool)(a b:Value):Option AV :=
 match a,b with
 | .bool a,.bool b=>match P.underlying t with
  |some .bool=>jx op (a==b)
  |_=>none
 | .slice none 0 0,.slice none 0 0=>match P.underlying t with
  |some (.slice _)=>jx op true
  |_=>none
 |.nilIface,.nilIface=>if d then (match P.underlying t with|some (.interface _)=>jx op true|_=>none) else none
 |_,_=>none
def gj(P:Program)(op:BinOp)(t:TypeId)(d:Bool)(x y:AV):Option AV :=
 match x,y with
 | .lit a,.lit b=>match gT op a b with
  |some v=>some (.lit v)
  |none=>Bh P op t d a b
 | .agg as,.agg g=>match flatK P ml t,mg as,mg g with
  |some ks,some l,some m=>if P.eqGuardType P.depth t=false∧cz ks l=true∧cz ks m=true∧mh (P.underlying t)=true then jx op (dp l m) else none
  |_,_,_=>none
 | .emptyS n,.lit (.slice none 0 0)=>match P.underlying t with
  |some (.slice _)=>jx op n
  |_=>none
 | .listF _ rows,.lit (.slice none 0 0)=>match P.underlying t with
  |some (.slice _)=>if 0<rows.length then jx op false else none
  |_=>none
 | .vec _ _ _ _ m,.lit (.slice none 0 0)=>match P.underlying t with
  |some (.slice _)=>if 0<m then jx op false else none
  |_=>none
 | .ifc,.lit .nilIface | .lit .nilIface,.ifc=>match P.underlying t with
  |some (.interface _)=>jx op false
  |_=>none
 | .sub _ _ j,.lit (.map none)=>match P.underlying t with
  |some (.map _ _)=>jx op j.isNone
  |_=>none
 |_,_=>none
theorem HN{P:Program}{t:Nat}{k:IntKind}(h:b9 P t=.int k):P.underlying t=some (.int k):=by
 unfold b9 at h;split at h
 ·split at h<;>cases h
 ·split at h<;>cases h
 ·cases h
 ·rename_i h1; cases h; exact h1
 ·cases h
 ·cases h
theorem kK{P:Program}{op:BinOp}{b:Bool}{v:AV}{t:TypeId}{x y:Operand}{c d:Value}{w:World}(h:jx op b=some v)
  (g:(eqGuard op t x y c d).run P w=.ok () w) (he:(wA t c d).run P w=.ok b w)
  (hb:∀ op,op=.eql∨op=.neq→(binOp op t c d)=(match op with | .eql=>(do pure (.bool (← wA t c d)))|_=>(do pure (.bool (!(← wA t c d)))))) :
  ∃ u,(do eqGuard op t x y c d; binOp op t c d:Sem Value).run P w=.ok u w∧∀ E,rel E v u:=by
 unfold jx at h;split at h
 ·cases h
  refine⟨.bool b,?_,fun E=>by simp[rel]⟩;simp only[bV,g,bX,hb .eql (.inl rfl)];simp[he]
 ·cases h
  refine⟨.bool !b,?_,fun E=>by simp[rel]⟩;simp only[bV,g,bX,hb .neq (.inr rfl)];simp[he]
 ·cases h
end Go.AL

namespace Go.AL
open Go
variable [Dr]
theorem lj{P:Program}{t:TypeId}{c d:Value}{b:Bool}{w:World} (h:∀ n,(jr (n+1) t c d).run P w=.ok b w) :
  (wA t c d).run P w=.ok b w:=h 9999
theorem Ru{P:Program}{op:BinOp}{t:TypeId}{x y:Operand} (h:((x matches .const _)||(y matches .const _))=true) (w:World) :
  (eqGuard op t x y .nilIface .nilIface).run P w=.ok () w:=by
 cases x<;>cases y<;>first
  |(cases op<;>rfl)
  |(simp at h; done)
theorem Rv{P:Program}{E:Env}{op:BinOp}{t:TypeId}{x y:Operand}{p q:Value}{v:AV}{k:Bool}
  (B:k=true→((x matches .const _)||(y matches .const _))=true) (h:Bh P op t k p q=some v) :
  ∃ u,(do eqGuard op t x y p q; binOp op t p q:Sem Value).run P E.w=.ok u E.w∧rel E v u:=by
 unfold Bh at h;split at h
 ·rename_i a b
  split at h
  ·rename_i hu
   obtain⟨u,h1,g⟩:=kK (P:=P) (t:=t) (x:=x) (y:=y) (c:=.bool a) (d:=.bool b) (w:=E.w) h (by cases op<;>simp[eqGuard]<;>rfl)
    (lj fun n=>by simp[jr,Sem.bq hu]) (by rintro op (rfl|rfl)<;>rfl)
   exact⟨u,h1,g E⟩
  ·cases h
 ·split at h
  ·rename_i hu
   obtain⟨u,h1,g⟩:=kK (P:=P) (t:=t) (x:=x) (y:=y) (c:=.slice none 0 0) (d:=.slice none 0 0) (w:=E.w) h (by cases op<;>simp[eqGuard]<;>rfl)
    (lj fun n=>by simp[jr,Sem.bq hu]) (by rintro op (rfl|rfl)<;>rfl)
   exact⟨u,h1,g E⟩
  ·cases h
 ·split at h
  ·rename_i I
   split at h
   ·rename_i ms hu
    obtain⟨u,h1,g⟩:=kK (P:=P) (t:=t) (x:=x) (y:=y) (c:=.nilIface) (d:=.nilIface) (w:=E.w) h
     (Ru (B I) _)
     (lj fun n=>by simp[jr,Sem.bq hu]) (by rintro op (rfl|rfl)<;>rfl)
    exact⟨u,h1,g E⟩
   ·cases h
  ·cases h
 ·cases h
theorem Rw{P:Program}{E:Env}{op:BinOp}{t:TypeId}{x y:Operand}{a b v:AV}{c d:Value}
  {V:Bool} (W:V=true→((x matches .const _)||(y matches .const _))=true) (h:gj P op t V a b=some v) (g:rel E a c) (k:rel E b d) :
  ∃ u,(do eqGuard op t x y c d; binOp op t c d:Sem Value).run P E.w=.ok u E.w∧rel E v u:=by
 unfold gj at h;split at h
 ·rename_i p q
  simp only[rel]at g k;rw[g,k];clear g k c d;split at h
  ·rename_i u hu
   cases h;refine⟨u,?_,by simp[rel]⟩;simp only[bV];rw[Rl op t x y p q (fun _ _=>trivial) (by simp[hu])];simp only[bX];exact Rk op t p q u hu E.w
  ·exact Rv W h
 ·rename_i as bs
  split at h
  case h_2=>cases h
  rename_i ks l m h1 B h3;by_cases M:P.eqGuardType P.depth t=false∧cz ks l=true∧cz ks m=true∧mh (P.underlying t)=true
  case neg=>rw[if_neg M]at h; cases h
  rw[if_pos M]at h;obtain⟨g1,g2,g3,g4⟩:=M;simp only[rel]at g k;obtain⟨xs,rfl,_,g⟩:=g;obtain⟨I,rfl,_,k⟩:=k;have ex:=xd B g;have ey:=xd h3 k;unfold mh at g4;split at g4
  case h_2=>cases g4
  rename_i fs hu;have:=Bg ml t ks h1 10000 (by decide) (.agg xs) (.agg I) l m (by simp only[isVal,hu]; exact⟨xs,rfl,ex⟩)
   (by simp only[isVal,hu]; exact⟨I,rfl,ey⟩) g2 g3 E.w
  obtain⟨u,q1,q2⟩:=kK (P:=P) (t:=t) (x:=x) (y:=y) (c:=.agg xs) (d:=.agg I) (w:=E.w) h (run_eqGuard_agg E.w op t x y xs I g1)
   (by simpa[wA,Op.maxDepth]using this) (by rintro op (rfl|rfl)<;>rfl)
  exact⟨u,q1,q2 E⟩
 ·simp only [rel] at g k
  subst k;obtain⟨b,cap,rfl,hb⟩:=g;split at h
  ·rename_i el hu
   obtain⟨u,h1,B⟩:=kK (P:=P) (t:=t) (x:=x) (y:=y) (c:=.slice b 0 cap) (d:=.slice none 0 0) (w:=E.w) h (by cases op<;>simp[eqGuard]<;>rfl)
    (lj fun n=>by cases b<;>simp[jr,Sem.bq hu]<;>simpa using hb.symm) (by rintro op (rfl|rfl)<;>rfl)
   exact⟨u,h1,B E⟩
  ·cases h
 ·rename_i ks rows
  simp only[rel,dS,G.rows]at g k;subst k;obtain⟨b,cap,rfl,_,hb⟩:=g;split at h
  ·rename_i el hu
   split at h
   ·rename_i J
    rcases hb with rfl|⟨N,o',rfl,_⟩
    ·simp at J
    obtain⟨u,h1,B⟩:=kK (P:=P) (t:=t) (x:=x) (y:=y) (c:=.slice (some ⟨N,o',none⟩) rows.length cap) (d:=.slice none 0 0) (w:=E.w) h (by cases op<;>simp[eqGuard]<;>rfl)
     (lj fun n=>by simp[jr,Sem.bq hu]) (by rintro op (rfl|rfl)<;>rfl)
    exact⟨u,h1,B E⟩
   ·cases h
  ·cases h
 ·rename_i m
  simp only[rel]at g k;subst k;obtain⟨⟨b,cap,rfl,_,hb⟩,_⟩:=g;split at h
  ·rename_i el hu
   split at h
   ·rename_i J
    obtain⟨N,o',rfl⟩:=hb J;obtain⟨u,h1,B⟩:=kK (P:=P) (t:=t) (x:=x) (y:=y) (c:=.slice (some ⟨N,o',none⟩) m cap) (d:=.slice none 0 0) (w:=E.w) h (by cases op<;>simp[eqGuard]<;>rfl)
     (lj fun n=>by simp[jr,Sem.bq hu]) (by rintro op (rfl|rfl)<;>rfl)
    exact⟨u,h1,B E⟩
   ·cases h
  ·cases h
 ·simp only [rel] at g k
  subst k;obtain⟨O,U,rfl⟩:=g;split at h
  ·rename_i ms hu
   obtain⟨u,h1,B⟩:=kK (P:=P) (t:=t) (x:=x) (y:=y) (c:=.iface O U) (d:=.nilIface) (w:=E.w) h (by cases op<;>simp[eqGuard]<;>rfl)
    (lj fun n=>by simp[jr,Sem.bq hu]) (by rintro op (rfl|rfl)<;>rfl)
   exact⟨u,h1,B E⟩
  ·cases h
 ·simp only [rel] at g k
  subst g;obtain⟨O,U,rfl⟩:=k;split at h
  ·rename_i ms hu
   obtain⟨u,h1,B⟩:=kK (P:=P) (t:=t) (x:=x) (y:=y) (c:=.nilIface) (d:=.iface O U) (w:=E.w) h (by cases op<;>simp[eqGuard]<;>rfl)
    (lj fun n=>by simp[jr,Sem.bq hu]) (by rintro op (rfl|rfl)<;>rfl)
   exact⟨u,h1,B E⟩
  ·cases h
 ·rename_i id l jj
  simp only[rel]at g k;subst k;split at h
  ·rename_i kt el hu
   rcases g with⟨rfl,rfl⟩|⟨i,rfl,⟨b,rfl⟩,_⟩
   ·obtain ⟨u,h1,B⟩:=kK (P:=P) (t:=t) (x:=x) (y:=y) (c:=.map none) (d:=.map none) (w:=E.w) h (by cases op<;>simp [eqGuard]<;>rfl)
     (lj fun n=>by simp[jr,Sem.bq hu]) (by rintro op (rfl|rfl)<;>rfl)
    exact⟨u,h1,B E⟩
   ·obtain ⟨u,h1,B⟩:=kK (P:=P) (t:=t) (x:=x) (y:=y) (c:=.map (some b)) (d:=.map none) (w:=E.w) h (by cases op<;>simp [eqGuard]<;>rfl)
     (lj fun n=>by simp[jr,Sem.bq hu]) (by rintro op (rfl|rfl)<;>rfl)
    exact⟨u,h1,B E⟩
  ·cases h
 ·cases h
def qE(op:UnOp)(x:AV):Option AV :=
 match op,x with
 |.not,.lit (.bool b)=>some (.bool !b)
 |.neg,.lit (.int k n)=>some (.lit (.int k (k.wrap (0-n))))
 |_,_=>none
theorem Rx{P:Program}{E:Env}{op:UnOp}{x v:AV}{c:Value}(h:qE op x=some v)(d:rel E x c) :
  ∃ u,(Op.unary op c).run P E.w=.ok u E.w∧rel E v u:=by
 unfold qE at h;split at h
 ·cases h
  simp only[rel]at d;subst d;exact⟨_,rfl,by simp[rel]⟩
 ·cases h
  simp only[rel]at d;subst d;exact⟨_,rfl,by simp[rel]⟩
 ·cases h
def qF(P:Program)(s d:TypeId)(x:AV):Option AV :=
 match P.underlying s,b9 P d,x with
 |some _,.int k,.lit (.int _ n)=>some (.lit (.int k (k.wrap n)))
 |some _,.str,.lit (.string b)=>some (.str b)
 |some _,.str,.lit (.int _ n)=>some (.str (Utf8.encode n))
 |_,_,_=>none
theorem Ry{P:Program}{E:Env}{s d:TypeId}{x v:AV}{c:Value}(h:qF P s d x=some v)(g:rel E x c) :
  ∃ u,(convert s d c).run P E.w=.ok u E.w∧rel E v u:=by
 unfold qF at h;split at h
 ·rename_i k n q y
  cases h;simp only[rel]at g;subst g;refine⟨_,?_,by simp only[rel]; rfl⟩;simp[convert,Sem.bq q,Sem.bq (HN y),Conv.intToInt]
 ·rename_i b q y
  cases h;simp only[rel]at g;subst g;refine⟨_,?_,by simp only[rel]; rfl⟩;simp only[convert,bV,Sem.bq q,Sem.bq (oS y),bX];rfl
 ·rename_i k n q y
  cases h;simp only[rel]at g;subst g;refine⟨_,?_,by simp only[rel]; rfl⟩;simp only[convert,bV,Sem.bq q,Sem.bq (oS y),bX];rfl
 ·cases h
def nz(k:SK)(x i:AV):Option AV :=
 match i with
 | .lit (.int _ n) =>
  match k,x with
  |.str,.lit (.string s)=>if 0≤n∧n<s.size then (match s[n.toNat]? with|some b=>some (.lit (.int .u8 b.toNat))|none=>none) else none
  |.array m _ sz agg,.agg cells=>if 0≤n∧n<m then gI agg sz (cells.drop (n.toNat*sz)) else none
  |_,_=>none
 |_=>none
theorem Bi{E:Env}:∀{as:List AV} {vs:List Value} (n:Nat),af E as vs→af E (as.drop n) (vs.drop n)
 |_,_,0,h=>by simpa using h
 | [],[],n+1,_=>by simp[af]
 | [],_::_,_,h=>by simp[af]at h
 |_::_,[],_,h=>by simp[af]at h
 |a::as,v::vs,n+1,h=>by simp only[af]at h; simpa using Bi n h.2
theorem Bj{E:Env}:∀{as:List AV} {vs:List Value} (n:Nat),af E as vs→af E (as.take n) (vs.take n)
 |_,_,0,_=>by simp[af]
 | [],[],n+1,_=>by simp[af]
 | [],_::_,_,h=>by simp[af]at h
 |_::_,[],_,h=>by simp[af]at h
 |a::as,v::vs,n+1,h=>by simp only[af]at h; simp only[AF,af]; exact⟨h.1,Bj n h.2⟩
theorem jV{E:Env}:∀{as d:List AV} {vs us:List Value},af E as vs→af E d us→af E (as++d) (vs++us)
 | [],_,[],_,_,h=>by simpa using h
 | [],_,_::_,_,h,_=>by simp[af]at h
 |_::_,_,[],_,h,_=>by simp[af]at h
 |a::as,d,v::vs,us,h,h'=>by simp only[af]at h; simp only[lZ,af]; exact⟨h.1,jV h.2 h'⟩
theorem mn{E:Env}{as:List AV}{vs:List Value}(h:af E as vs){i:Nat}{a:AV}(hi:as[i]? = some a):∃ v,vs[i]? = some v∧rel E a v:=by
 obtain⟨h1,k⟩:=me.1 h;have g:=aL hi;have d:i<vs.length:=h1▸g;exact⟨vs[i],bI d,k i a _ hi (bI d)⟩
theorem HO{P:Program}{E:Env}{t:TypeId}{n:Nat}{agg:Bool}{cells:List AV}{cs:Array Value}{off:Nat}{v:AV}(y:eL P t=some (n,agg))
  (h:gI agg n (cells.drop off)=some v) (g:af E cells cs.toList) (h1:∀ x∈cs.toList,di x=true) :
  ∃ u,(part t cs off).run P E.w=.ok u E.w∧rel E v u:=by
 obtain⟨i,d,hi,k,B,ha⟩:=lh y;unfold gI at h;cases agg with
 | true =>
  simp only[if_true]at h;split at h
  ·cases h
   refine⟨.agg (cs.extract off (off+n)),?_,?_⟩
   ·simp[part,Sem.nv k,ha,Sem.run_sizeOf hi,B]
   ·simp only [rel]
    have e:(cs.extract off (off+n)).toList=(cs.toList.drop off).take n:=by simp
    refine⟨_,rfl,?_,?_⟩
    ·rw[e]; exact fun x I=>h1 x (wz (s8 I))
    ·rw[e]; exact Bj n (Bi off g)
  ·cases h
 | false =>
  simp only[k_,if_false]at h;rw[qd]at h;obtain⟨u,g1,g2⟩:=mn g h;refine⟨u,?_,g2⟩;have q:cs[off]? = some u:=by simpa using g1
  simp[part,Sem.nv k,ha,q]
theorem Rz{P:Program}{E:Env}{t:TypeId}{x i v:AV}{c d:Value}(h:nz (b9 P t) x i=some v)(g:rel E x c)(hi:rel E i d) :
  ∃ u,(QF t c d).run P E.w=.ok u E.w∧rel E v u:=by
 unfold nz at h;split at h
 case h_2=>cases h
 rename_i k n;simp only[rel]at hi;subst hi;split at h
 ·rename_i s hk
  have hu:=oS hk;simp only[rel]at g;subst g;split at h
  case isFalse=>cases h
  rename_i q;split at h
  case h_2=>cases h
  rename_i b hb;cases h;refine⟨.int .u8 b.toNat,?_,by simp[rel]⟩;simp[QF,asIntOf,Sem.bq hu,q.1,hb]
 ·rename_i m e sz agg cells hk
  obtain⟨hu,y⟩:=w_ hk;obtain⟨ii,M,g1,g2,g3,g4⟩:=lh y;split at h
  case isFalse=>cases h
  rename_i q;simp only[rel]at g;obtain⟨cs,rfl,h1,B⟩:=g;obtain⟨u,I,J⟩:=HO y h B h1;refine⟨u,?_,J⟩;simp[QF,asIntOf,Sem.bq hu,q.1,q.2,Sem.run_sizeOf g1,g3,I]
 ·cases h
def Bk(k:FK)(x:AV):Option AV :=
 match x with
 |.agg cells=>gI k.agg k.size (cells.drop k.off)
 |_=>none
theorem RA{P:Program}{E:Env}{t:TypeId}{f:Nat}{k:FK}{x v:AV}{c:Value}(hk:qw P t f=some k)(h:Bk k x=some v)(d:rel E x c) :
  ∃ u,(aeE t c f).run P E.w=.ok u E.w∧rel E v u:=by
 obtain⟨J,fd,h1,g,q,y⟩:=HG hk;unfold Bk at h;split at h
 ·simp only [rel] at d
  obtain⟨cs,rfl,g1,g2⟩:=d;obtain⟨u,B,I⟩:=HO y h g2 g1;refine⟨u,?_,I⟩;simp[aeE,Sem.bq h1,g,asAgg,q,B]
 ·cases h
end Go.AL

namespace Go.AL
open Go
variable [Dr]
def oT:AV→Option (List AV)
 |.undef | .tuple _=>none
 |.agg cs=>some cs
 |.lit v=>if di v then some [.lit v] else none
 |x=>some [x]
theorem Bl{E:Env}{x:AV}{cs:List AV}{c:Value}(h:oT x=some cs)(d:rel E x c) :
  af E cs c.cells.toList∧∀ y∈c.cells.toList,di y=true:=by
 unfold oT at h;split at h
 ·cases h
 ·cases h
 ·cases h
  simp only[rel]at d;obtain⟨a,rfl,h1,g⟩:=d;exact⟨g,h1⟩
 ·rename_i v
  split at h
  ·rename_i h1
   cases h;have B:=d;simp only[rel]at d;subst d;cases c<;>simp[di]at h1<;>exact⟨by simp[G2,af,rel],by simp[G2,di]⟩
  ·cases h
 ·rename_i h1 g q u
  cases h;have k:di c=true∧c.cells=#[c]:=by
   cases x<;>simp only[rel]at d
   case sub=>rcases d with⟨_,rfl⟩|⟨_,_,⟨b,rfl⟩,_⟩<;>exact⟨rfl,rfl⟩
   case undef=>exact(h1 rfl).elim
   case lit v=>exact(u v rfl).elim
   case nils=>obtain⟨b,rfl⟩:=d; exact⟨rfl,rfl⟩
   case list=>obtain⟨_,b,cap,rfl,_⟩:=d; exact⟨rfl,rfl⟩
   case listF=>simp only[dS]at d; obtain⟨b,cap,rfl,_⟩:=d; exact⟨rfl,rfl⟩
   case agg as=>exact(q as rfl).elim
   case tuple as=>exact(g as rfl).elim
   case cptr=>obtain⟨_,b,o,rfl,_⟩:=d; exact⟨rfl,rfl⟩
   case ptr=>obtain⟨⟨b,o,rfl⟩,_⟩:=d; exact⟨rfl,rfl⟩
   case vec=>obtain⟨⟨b,o,rfl,_⟩,_⟩:=d; exact⟨rfl,rfl⟩
   case map=>obtain⟨⟨b,rfl⟩,_⟩:=d; exact⟨rfl,rfl⟩
   case clo=>obtain⟨cs,rfl,_⟩:=d; exact⟨rfl,rfl⟩
   case ifc=>obtain⟨t,v,rfl⟩:=d; exact⟨rfl,rfl⟩
   case emptyS=>obtain⟨b,cap,rfl,_⟩:=d; exact⟨rfl,rfl⟩
  rw[k.2];exact⟨by simp only[af]; exact⟨d,trivial⟩,by simpa using k.1⟩
def oU(place:Nat→Option (Nat × Nat))(cells:List AV):List (Nat × AV)→Option (List AV)
 | []=>some cells
 | (i,v)::rest=>match place i,oT v with
  |some (off,size),some cs=>if cs.length=size∧off+cs.length≤cells.length then oU place (cells.take off++cs++cells.drop (off+cs.length)) rest else none
  |_,_=>none
theorem HP(cs:Array Value):∀(l:List Value) (off k:Nat) (cells:Array Value),off+k+l.length≤cells.size →
  (l.zipIdx k).foldl (fun cs (p : Value × Nat) => cs.setIfInBounds (off + p.2) p.1) cells =
   (cells.toList.take (off+k)++l++cells.toList.drop (off+k+l.length)).toArray
 | [],off,k,cells,_=>by simp
 | v::l,off,k,cells,h=>by
  simp only[List.zipIdx_cons,List.foldl_cons];have h':off+(k+1)+l.length≤(cells.setIfInBounds (off+k) v).size:=by simp at h⊢; omega
  rw[HP cs l off (k+1) _ h'];congr 1;apply jR;intro i;simp only[Array.toList_setIfInBounds,e_,kr,m_,lX,qd,dR,fb,cw,la];simp at h;by_cases c1:i<off+k
  ·have d : i < min (off + k) cells.size := by omega
   have g:i<min (off+(k+1)) cells.size:=by omega
   have B:¬ off+k=i:=by omega
   have u:i<off+(k+1):=by omega
   have q:i<min (off+k) cells.size+(l.length+1):=by omega
   have y:i<min (off+(k+1)) cells.size+l.length:=by omega
   simp[d,g,B,u,q,y,c1]
  ·by_cases c2 : i = off + k
   ·subst c2
    have d:¬ off+k<min (off+k) cells.size:=by omega
    have g:off+k<min (off+(k+1)) cells.size:=by omega
    have u:off+k<off+(k+1):=by omega
    have q:off+k<min (off+k) cells.size+(l.length+1):=by omega
    have y:off+k<min (off+(k+1)) cells.size+l.length:=by omega
    have I:off+k-min (off+k) cells.size=0:=by omega
    have J:off+k<cells.size:=by omega
    simp[d,g,u,q,y,I,J]
   ·by_cases M : i < off + k + 1 + l.length
    ·have d : ¬ i < min (off + k) cells.size := by omega
     have g:¬ i<min (off+(k+1)) cells.size:=by omega
     have q:i<min (off+k) cells.size+(l.length+1):=by omega
     have y:i<min (off+(k+1)) cells.size+l.length:=by omega
     have I:i-min (off+k) cells.size=(i-min (off+(k+1)) cells.size)+1:=by omega
     simp[d,g,q,y,I]
    ·have d : ¬ i < min (off + k) cells.size + (l.length + 1) := by omega
     have g:¬ i<min (off+(k+1)) cells.size+l.length:=by omega
     have B:off+k+(l.length+1)+(i-(min (off+k) cells.size+(l.length+1)))=i:=by omega
     have u:off+(k+1)+l.length+(i-(min (off+(k+1)) cells.size+l.length))=i:=by omega
     have q:¬ off+k=i:=by omega
     simp[d,g,B,u,q]
theorem tF{E:Env}{place:Nat→Option (Nat × Nat)}:∀{parts:List (Nat × AV)} {cparts:List (Nat × Value)} {cells:List AV} {cs:Array Value} {out:List AV},
  oU place cells parts=some out→af E cells cs.toList→(∀ x∈cs.toList,di x=true) →
  parts.map (·.1)=cparts.map (·.1)→af E (parts.map (·.2)) (cparts.map (·.2)) →
  ∃ o,aeF place cs cparts=some o∧af E out o.toList∧∀ x∈o.toList,di x=true
 | [],[],cells,cs,out,h,g,h1,_,_=>by
  simp only[oU,aV]at h;subst h;exact⟨cs,rfl,g,h1⟩
 | [],_::_,_,_,_,_,_,_,hm,_=>by simp at hm
 |_::_,[],_,_,_,_,_,_,hm,_=>by simp at hm
 | (i,v)::ps,(j,c)::N,cells,cs,out,h,g,h1,hm,k=>by
  simp only[du,G3]at hm;obtain⟨rfl,hm⟩:=hm;simp only[du,af]at k;simp only[oU]at h;split at h
  case h_2=>cases h
  rename_i off size us B I;split at h
  case isFalse=>cases h
  rename_i J;obtain⟨g1,g2⟩:=Bl I k.1;have u:=fP g1;have y:=fP g;have O:us.length=c.cells.size:=by simpa using u
  have M:cells.length=cs.size:=by simpa using y
  have q:(c.cells.zipIdx.foldl (fun cs (x:Value × Nat)=>cs.setIfInBounds (off+x.2) x.1) cs) =
    (cs.toList.take off++c.cells.toList++cs.toList.drop (off+c.cells.toList.length)).toArray:=by
   rw[←Array.foldl_toList,Array.toList_zipIdx];have:=HP cs c.cells.toList off 0 cs (by simp; omega);simpa using this
  simp only[aeF,B];rw[if_neg (by simp; omega)];refine tF (cells:=cells.take off++us++cells.drop (off+us.length)) h ?_ ?_ hm k.2
  ·rw [q]
   simp only[];refine jV (jV (Bj off g) g1) ?_;rw[u];exact Bi _ g
  ·rw [q]
   intro x d;simp only[cS]at d;rcases d with(d|d)|d
   ·exact h1 x (s8 d)
   ·exact g2 x d
   ·exact h1 x (wz d)
def HQ(P:Program)(t:TypeId):Option (List (Nat × Nat)) :=
 match P.underlying t with
 |some (.struct d)=>d.toList.mapM fun fd=>(eL P fd.type).map fun p=>(fd.offset,p.1)
 |_=>none
theorem lk{P:Program}{t:TypeId}{z:List Value}(h:dV P t=some z) :
  ∃ i v,P.info? t=some i∧i.zero=some v∧v.cells.toList=z∧∀ x∈z,di x=true:=by
 unfold dV at h;split at h
 ·rename_i i hi
  split at h
  ·rename_i v d
   split at h
   ·rename_i g
    cases h;exact⟨i,v,hi,d,rfl,cM.1 g⟩
   ·cases h
  ·cases h
 ·cases h
theorem ll{P:Program}{t:TypeId}{i:TypeInfo}{v:Value}(hi:P.info? t=some i)(d:i.zero=some v)(w:World):(zeroValue t).run P w=.ok v w:=by
 simp[zeroValue,typeInfo,hi,d]
theorem HR{P:Program}{w:World}:∀(g:List Field) (pl:List (Nat × Nat)),(g.mapM fun fd=>(eL P fd.type).map fun p=>(fd.offset,p.1))=some pl →
  (g.mapM fun(f:Field)=>(do pure (f.offset,←sizeOf f.type):Sem (Nat × Nat))).run P w=.ok pl w
 | [],pl,h=>by simp at h; subst h; simp
 | f::g,pl,h=>by
  simp only[QG,Option.bind_eq_bind,Option.pure_def,Option.bind_eq_some_iff,dQ]at h;obtain⟨x,⟨⟨n,a⟩,h1,rfl⟩,l,k,q⟩:=h;cases q;obtain⟨i,d,g1,g2,g3,g4⟩:=lh h1;have:=HR (w:=w) g l k;simp only[QG,bV,Sem.run_sizeOf g1,bX,fa,g3];rw[this];rfl
def Bm(P:Program)(t:TypeId)(parts:List (Nat × AV)):Option AV :=
 match dV P t with
 | some z=>match HQ P t with
  |some pl=>(oU (fun i=>pl[i]?) (z.map .lit) parts).map .agg
  | none=>match b9 P t with
   |.array _ _ sz _=>(oU (fun i=>some (i*sz,sz)) (z.map .lit) parts).map .agg
   |_=>none
 |none=>none
theorem RB{P:Program}{E:Env}{t:TypeId}{parts:List (Nat × AV)}{cparts:List (Nat × Value)}{v:AV}(h:Bm P t parts=some v)
  (hm:parts.map (·.1)=cparts.map (·.1)) (g:af E (parts.map (·.2)) (cparts.map (·.2))) :
  ∃ u,(QH t cparts.toArray).run P E.w=.ok u E.w∧rel E v u:=by
 unfold Bm at h;split at h
 case h_2=>cases h
 rename_i z J;obtain⟨i,k,q,z2,z3,z4⟩:=lk J;split at h
 ·rename_i pl d
  unfold HQ at d;split at d
  case h_2=>cases d
  rename_i y hu;simp only[dQ]at h;obtain⟨out,ho,rfl⟩:=h;obtain⟨o,g1,g2,g3⟩:=tF (cs:=k.cells) ho (by rw[z3]; exact nu z) (by rw[z3]; exact z4) hm g;refine⟨.agg o,?_,by simp only[rel]; exact⟨o,rfl,g3,g2⟩⟩;have B:(y.mapM fun(f:Field)=>(do pure (f.offset,←sizeOf f.type):Sem (Nat × Nat))).run P E.w=.ok pl.toArray E.w:=by
   have:=HR (w:=E.w) y.toList pl d;rw[Array.mapM_eq_mapM_toList,Sem.run_map,this];rfl
  simp only[QH,bV,ll q z2,bX,Sem.bq hu];rw[B];simp only[bX];have e:(fun(x:Nat)=>(pl.toArray)[x]?)=fun(i:Nat)=>pl[i]? := by funext i; simp
  rw[e,g1];rfl
 ·split at h
  case h_2=>cases h
  rename_i n e sz O hk;obtain⟨hu,I⟩:=w_ hk;obtain⟨U,V,M,W,N,q4⟩:=lh I;simp only[dQ]at h;obtain⟨out,ho,rfl⟩:=h;obtain⟨o,g1,g2,g3⟩:=tF (cs:=k.cells) ho (by rw[z3]; exact nu z) (by rw[z3]; exact z4) hm g;refine⟨.agg o,?_,by simp only[rel]; exact⟨o,rfl,g3,g2⟩⟩;simp only[QH,bV,ll q z2,bX,Sem.bq hu,Sem.run_sizeOf M,N,g1];rfl
def chunk(sz:Nat):Nat→List AV→List (List AV)
 |0,_=>[]
 |n+1,l=>l.take sz::chunk sz n (l.drop sz)
theorem tG(sz:Nat):∀(n:Nat) (l:List AV),(chunk sz n l).length=n
 |0,_=>rfl
 |n+1,l=>by simp[chunk,tG sz n]
theorem Bn(sz:Nat):∀(n:Nat) (l:List AV),AV.bp l=true→eV (chunk sz n l)
 |0,_,_=>by intro r d; simp[chunk]at d
 | n+1,l,h=>by
  intro r d;simp only[chunk,bW]at d;rcases d with rfl|d
  ·exact w9 _ _ h
  ·exact Bn sz n _ (tA _ _ h) r d
theorem HS{E:Env}(sz:Nat):∀(n:Nat) (l:List AV) (b o:Nat),l.length=n*sz→ch E l b o→cy E sz (chunk sz n l) b o
 |0,_,_,_,_,_=>by simp[chunk,cy]
 | n+1,l,b,o,d,h=>by
  simp only[chunk,cy];have:sz≤l.length:=by rw[d,fo]; omega
  refine⟨by simp; omega,w8 h sz,HS sz n _ b (o+sz) (by simp[d,fo]) (qy h sz)⟩
theorem Bo{E:Env}{as:List AV}{cs:Array Value}{b:Nat}{el:TypeId}{fr:Nat × Nat}(hb:E.w.heap[b]? = some (.cells cs el fr))(d:af E as cs.toList)
  (h1:∀ x∈cs.toList,di x=true):ch E as b 0:=by
 rw[iD];intro i a hi;obtain⟨v,g1,g2⟩:=mn d hi;refine⟨v,?_,h1 v (eT g1),g2⟩;simp only[cP,s7,hb];simpa using g1
end Go.AL

namespace Go.AL
open Go
variable [Dr]
theorem xe(v:Value):v.oneCell'=di v:=by cases v<;>rfl
theorem setRow_size(w:World)(g:Nat)(cs:Array Value):(w.setRow g cs).heap.size=w.heap.size:=by simp[aeG]
theorem setRow_other(w:World)(g:Nat)(cs:Array Value)(x:Nat)(h:x≠g):(w.setRow g cs).heap[x]? = w.heap[x]? := by
 simp only[aeG];rw[Array.getElem?_modify];split
 ·rename_i e; exact(h e.symm).elim
 ·rfl
structure Src (P:Program) (E:Env) (sz:Nat) (rows:List (List AV)) (xt:TypeId) (x:Value) (news:List Value):Prop where
 len:∀ w,(G4 x).run P w=.ok rows.length w
 cells:∀ w,(∀ b o,b<E.w.heap.size→w.cell? ⟨b,o,none⟩=E.w.cell? ⟨b,o,none⟩)→(gR sz rows.length x).run P w=.ok news.toArray w
 rel:af E rows.flatten news
 one:∀ v∈news,di v=true
 wide:∀ r∈rows,r.length=sz
 closed:eV rows
 kind:∃ d,P.underlying xt=some d∧∀ k,d≠.int k
theorem Src.length{P:Program}{E:Env}{sz:Nat}{rows:List (List AV)}{xt:TypeId}{x:Value}{news:List Value}(h:Src P E sz rows xt x news):news.length=rows.length*sz:=by
 rw[←fP h.rel];have:∀(l:List (List AV)),(∀ r∈l,r.length=sz)→l.flatten.length=l.length*sz:=by
  intro l d
  induction l with
  |nil=>simp
  |cons a l g=>simp[g (fun r k=>d r (by simp[k])),d a (by simp),fo,sZ]
 exact this rows h.wide
theorem xf{E:Env}{k:Nat}:∀{rows:List (List AV)} {b o:Nat},cy E k rows b o→ch E rows.flatten b o
 | [],_,_,_=>by simp[ch]
 | r::rows,b,o,h=>by
  simp only[cy]at h;obtain⟨h1,d,g⟩:=h;have q:=xf g;rw[iD]at *;intro i a hi;simp only[qg,e_]at hi;split at hi
  ·exact d i a hi
  ·rename_i u
   obtain⟨v,g1,g2,g3⟩:=q (i-r.length) a hi;refine⟨v,?_,g2,g3⟩;rw[←g1];congr 2;omega
theorem xg{E:Env}{k:Nat}:∀{rows:List (List AV)} {b o:Nat},(∀ r∈rows,r.length=k)→ch E rows.flatten b o→cy E k rows b o
 | [],_,_,_,_=>by simp[cy]
 | r::rows,b,o,hk,h=>by
  simp only[cy];have d:=hk r (by simp);refine⟨d,?_,?_⟩
  ·have := w8 h r.length
   simpa using this
  ·have := qy h r.length
   simp at this;rw[d]at this;exact xg (fun x g=>hk x (by simp[g])) this
def kL(sz:Nat)(x:AV)(H:List ab):Option (List (List AV)) :=
 match x with
 |.nils | .lit (.slice none 0 0)=>some []
 |.emptyS _=>some []
 |.list w rows=>if w=sz then some rows else none
 |.listF ks rows=>if ks.length=sz then some (rows.map (aK ks)) else none
 | .vec w id ae off n=>match H[id]? with
  |some (.vec k v rows)=>if w=sz∧k=w∧v=ae∧off+n≤rows.length then some ((rows.drop off).take n) else none
  |_=>none
 |.lit (.string s)=>if sz=1 then some (s.data.toList.map fun b=>[.lit (.int .u8 b.toNat)]) else none
 |_=>none
theorem HT{α β:Type}(f:α→β):∀(l:List α),(l.map fun b=>[f b]).flatten=l.map f
 | []=>rfl
 |a::l=>by simp[HT f l]
theorem xh{P:Program}{E:Env}{sz:Nat}{rows:List (List AV)}{b o cap:Nat}(d:cy E sz rows b o)(hb:b<E.w.heap.size) :
  ∃ news,af E rows.flatten news∧(∀ v∈news,di v=true) ∧
   ∀ w,(∀ b o,b<E.w.heap.size→w.cell? ⟨b,o,none⟩=E.w.cell? ⟨b,o,none⟩)→(gR sz rows.length (.slice (some ⟨b,o,none⟩) rows.length cap)).run P w=.ok news.toArray w:=by
 obtain⟨vs,g1,g2,g3⟩:=tC (xf d);refine⟨vs,g1,g2,fun w hw=>?_⟩;refine run_firstCells_some (P:=P) w sz rows.length ⟨b,o,none⟩ rows.length cap vs ?_ ?_
 ·rw [← fP g1]
  have:∀(l:List (List AV)) (o:Nat),cy E sz l b o→l.flatten.length=l.length*sz:=by
   intro l
   induction l with
   |nil=>intros; simp
   | cons a l g =>
    intro o h;simp only[cy]at h;simp[g _ h.2.2,h.1,fo,sZ]
  exact this rows o d
 ·intro j v k
  rw[jT,hw b _ hb];exact g3 j v k
theorem RC{P:Program}{E:Env}(HE:aq E){sz:Nat}{x:AV}{c:Value}{rows:List (List AV)}{xt:TypeId}(h:kL sz x E.H=some rows)(g:rel E x c)
  (hk:∃ d,P.underlying xt=some d∧∀ k,d≠.int k):∃ news,Src P E sz rows xt c news:=by
 unfold kL at h;split at h
 ·cases h
  simp only[rel]at g;obtain⟨base,rfl⟩:=g;refine⟨[],⟨fun w=>rfl,fun w _=>?_,by simp[af],by simp,by simp,(by intro r g; cases g),hk⟩⟩;cases base<;>simp[gR,loadCells,loadCellsFrom]
 ·cases h
  simp only[rel]at g;subst g;exact⟨[],⟨fun w=>rfl,fun w _=>by simp[gR],by simp[af],by simp,by simp,(by intro r g; cases g),hk⟩⟩
 ·cases h
  simp only[rel]at g;obtain⟨base,cap,rfl,_⟩:=g;refine⟨[],⟨fun w=>rfl,fun w _=>?_,by simp[af],by simp,by simp,(by intro r g; cases g),hk⟩⟩;cases base<;>simp[gR,loadCells,loadCellsFrom]
 ·rename_i w rows'
  split at h
  case isFalse=>cases h
  rename_i hw;subst hw;cases h;simp only[rel]at g;obtain⟨B,base,cap,rfl,hle,M⟩:=g;rcases M with rfl|⟨b,o,rfl,I,q⟩
  ·refine ⟨[], ⟨fun w => rfl, fun w _ => ?_, by simp [af], by simp, by simp, (by intro r g; cases g), hk⟩⟩
   cases base<;>simp[gR,loadCells,loadCellsFrom]
  ·obtain ⟨news, g1, g2, g3⟩ := xh (P := P) (cap := cap) q I.1
   exact⟨news,⟨fun w=>rfl,g3,g1,g2,fun r g=>by
    obtain⟨i,hi⟩:=nc g;exact(mf q hi).1,B,hk⟩⟩
 ·rename_i ks V
  split at h
  case isFalse=>cases h
  rename_i hw;subst hw;cases h;have g:=iR.1 g;generalize V.map (aK ks)=rows at g;simp only[rel]at g;obtain⟨B,base,cap,rfl,hle,M⟩:=g;rcases M with rfl|⟨b,o,rfl,I,q⟩
  ·refine ⟨[], ⟨fun w => rfl, fun w _ => ?_, by simp [af], by simp, by simp, (by intro r g; cases g), hk⟩⟩
   cases base<;>simp[gR,loadCells,loadCellsFrom]
  ·obtain ⟨news, g1, g2, g3⟩ := xh (P := P) (cap := cap) q I.1
   exact⟨news,⟨fun w=>rfl,g3,g1,g2,fun r g=>by
    obtain⟨i,hi⟩:=nc g;exact(mf q hi).1,B,hk⟩⟩
 ·rename_i w id ae off n
  split at h
  case h_2=>cases h
  rename_i k v rows' hid;split at h
  case isFalse=>cases h
  rename_i W;obtain⟨rfl,rfl,rfl,hle⟩:=W;cases h;simp only[rel]at g;obtain⟨⟨base,cap,rfl,hcap,_⟩,_,h6⟩:=g;obtain⟨q1,q2⟩:=h6 ⟨_,hid,rfl⟩;have u:((rows'.drop off).take n).length=n:=by simp; omega
  rcases HE.obj id _ hid with⟨y,N⟩|⟨b,m,y,N,e3,e4,e5⟩
  ·obtain ⟨rfl, rfl, base', e⟩ := q1 y
   subst N;refine⟨[],⟨fun w=>by rw[u]; rfl,fun w _=>?_,by simp[af],by simp,by simp,(by intro r g; simp at g),hk⟩⟩;cases base<;>simp[gR,loadCells,loadCellsFrom]
  ·obtain ⟨p1, o, p2, O⟩ := q2 b m y
   simp only[jQ]at O;obtain⟨rfl,_,rfl⟩:=O;by_cases hm:off<m
   ·rw [p2 hm]
    have J:=HJ e5 off n;simp only[cP]at J;obtain⟨news,g1,g2,g3⟩:=xh (P:=P) (cap:=m-off) J (HE.lt id b m y).1;rw[u]at g3;refine⟨news,⟨fun w=>by rw[u]; rfl,by rw[u]; exact g3,g1,g2,fun r g=>?_,fun r g=>e4 r (wz (s8 g)),hk⟩⟩;obtain⟨i,hi⟩:=nc g;exact(mf J hi).1
   ·have hz : n = 0 := by omega
    subst hz;refine⟨[],⟨fun w=>by rw[u]; rfl,fun w _=>?_,by simp[af],by simp,by simp,(by intro r g; simp at g),hk⟩⟩;simp[gR,loadCells,loadCellsFrom]
 ·rename_i s
  split at h
  case isFalse=>cases h
  rename_i hs;subst hs;cases h;simp only[rel]at g;subst g;refine⟨s.data.toList.map fun b=>.int .u8 b.toNat,⟨fun w=>by simp[G4],fun w _=>?_,?_,?_,?_,?_,hk⟩⟩
  ·simp only [dJ, la, gR]
   have:s.extract 0 s.data.size=s:=by
    have:=ByteArray.extract_zero_size (b:=s);exact this
   rw[this,←QJ];rfl
  ·rw [HT]
   have:=nu (E:=E) (s.data.toList.map fun b=>.int .u8 b.toNat);rw[List.map_map]at this;exact this
  ·intro v U; simp at U; obtain⟨b,_,rfl⟩:=U; rfl
  ·intro r g; simp at g; obtain⟨b,_,rfl⟩:=g; rfl
  ·intro r g; simp at g; obtain⟨b,_,rfl⟩:=g; simp[AV.bp,AV.closed]
 ·cases h
def qG(P:Program)(t xt:TypeId)(s x:AV)(H:List ab):Option (AV × List ab) :=
 match b9 P t with
 | .slice e sz d =>
  match dV P e,(match b9 P xt with | .slice _ _ _ | .str=>true|_=>false),kL sz x H with
  | some z,true,some new =>
   if z.length=sz∧new.length≤1048576∧d≤1048576 then
    match s with
    |.nils | .lit (.slice none 0 0)=>some (.vec sz H.length 0 0 new.length,H++[.vec sz 0 new])
    | .vec w id ae off n=>match H[id]? with
     | some (.vec k v rows) =>
      if k=w∧w=sz∧v=ae∧off=0∧n=rows.length∧rows.length+new.length≤1048576 then
       some (.vec w id (ae+1) 0 (n+new.length),H.set id (.vec k (ae+1) (rows++new)))
      else none
     |_=>none
    |_=>none
   else none
  |_,_,_=>none
 |_=>none
theorem Bp{P:Program}{w w':World}{t xt ty e:TypeId}{i:TypeInfo}{sz:Nat}{base:Option Addr}{n cap m:Nat}{x:Value}{d:TypeDesc}
  (q:P.underlying t=some (.slice e)) (u:P.underlying xt=some d) (_hd:∀ k,d≠.int k) (hi:P.info? e=some i) (v:i.size=sz)
  (y:(G4 x).run P w=.ok m w) (h:n+m≤cap) {news:List Value} (B:(gR sz m x).run P w=.ok news.toArray w)
  (g:(match base with|some a=>storeCells (a.add (n*sz)) news|none=>(pure ():Sem Unit)).run P w=.ok () w') :
  (l4 #[t,xt] ty #[.slice base n cap,x]).run P w=.ok (.slice base (n+m) cap) w':=by
 cases base with
 | none =>
  simp at g;subst g;simp[l4,run_underlying q,run_underlying u,sizeOf,typeInfo,hi,v,y,h,B]
 | some a =>
  simp only[]at g;simp[l4,run_underlying q,run_underlying u,sizeOf,typeInfo,hi,v,y,h,B,g]
theorem HU{P:Program}{w:World}{t xt ty e:TypeId}{i:TypeInfo}{z:Value}{sz:Nat}{base:Option Addr}{n cap m:Nat}{x:Value}{d:TypeDesc}
  (q:P.underlying t=some (.slice e)) (u:P.underlying xt=some d) (N:∀ k,d≠.int k) (hi:P.info? e=some i) (v:i.size=sz) (y:i.zero=some z)
  (B:(G4 x).run P w=.ok m w) (g:cap<n+m) {olds news:List Value}
  (ho:(gR sz n (.slice base n cap)).run P w.drew=.ok olds.toArray w.drew)
  (I:(gR sz m x).run P w.drew=.ok news.toArray w.drew)
  (h:n+m≤1048576) (hb:i.bytes≤1048576) :
  ∃ C,n+m≤C∧(l4 #[t,xt] ty #[.slice base n cap,x]).run P w =
   .ok (.slice (some ⟨w.heap.size,0,none⟩) (n+m) C) (w.drew.alloc (.cells (olds++news++(wB z.cells (C-(n+m))).toList).toArray e)):=by
 have h1:¬ (n+m≤cap):=by omega
 have J:¬ (9223372036854775807<((n:Int)+(m:Int))):=by omega
 have O:G5 (n+m) cap*i.bytes≤281474976710656:=growslice_fits g (by
  have:=aeH h hb;omega)
 have M:¬ (281474976710656<G5 (n+m) cap*i.bytes):=by omega
 refine⟨grownCap w (n+m) cap e,?_,?_⟩
 ·simp[grownCap,aeI]
 ·simp [l4, run_underlying q, run_underlying u, sizeOf, typeInfo, zeroValue, hi, y, v, B, h1, J, M, aeJ, I, ho, newRow, grownCap]
  congr 2;apply fc;simp
def cJ(E:Env)(v:AV)(H':List ab)(u:Value)(w':World):Prop :=
 ∃ d r',rel { w:=w',H:=H',loc:=d,X:=E.X.re r' } v u∧aq { w:=w',H:=H',loc:=d,X:=E.X.re r' }∧E.le { w:=w',H:=H',loc:=d,X:=E.X.re r' }
theorem HV{E:Env}{as:List AV}{cs:Array Value}{vs tl:List Value}{b:Nat}{el:TypeId}{fr:Nat × Nat}(hb:E.w.heap[b]? = some (.cells cs el fr))(d:af E as vs)
  (g:cs.toList=vs++tl) (h1:∀ x∈vs,di x=true):ch E as b 0:=by
 rw[iD];intro i a hi;obtain⟨v,g1,g2⟩:=mn d hi;refine⟨v,?_,h1 v (eT g1),g2⟩;simp only[cP,s7,hb];have:cs.toList[i]? = some v:=by rw[g,cI (aL g1)]; exact g1
 simpa using this
theorem RD{E:Env}{as:List AV}{cs:Array Value}{b:Nat}{el:TypeId}{fr:Nat × Nat}(hb:E.w.heap[b]? = some (.cells cs el fr))(k:ch E as b 0) :
  af E as (cs.toList.take as.length)∧(∀ x∈cs.toList.take as.length,di x=true)∧as.length≤cs.size:=by
 obtain⟨vs,g1,g2,g3⟩:=tC k;have q:=fP g1;have g:∀(j:Nat) v,vs[j]? = some v→cs.toList[j]? = some v:=by
  intro j v d;have:=g3 j v d;simpa[s7,hb]using this
 have u:vs.length≤cs.size:=by
  rcases Nat.eq_zero_or_pos vs.length with h|h
  ·omega
  ·have := g (vs.length - 1) vs[vs.length - 1] (bI (by omega))
   have:=aL this;simp at this;omega
 have:cs.toList.take as.length=vs:=by
  rw[q];apply jR;intro j;rw[lX];split
  ·rename_i d
   rw[g j vs[j] (bI d),bI d]
  ·rename_i d
   rw[lW (by omega)]
 rw[this];exact⟨g1,g2,by omega⟩
theorem qH{sz:Nat}:∀{l:List (List AV)},(∀ r∈l,r.length=sz)→l.flatten.length=l.length*sz
 | [],_=>by simp
 |a::l,h=>by simp[qH (l:=l) (fun r d=>h r (by simp[d])),h a (by simp),fo,sZ]
theorem Bq{E:Env}{k:Nat}{rows:List (List AV)}{b o:Nat}(h:cy E k rows b o):∀ r∈rows,r.length=k:=by
 intro r d;obtain⟨i,hi⟩:=nc d;exact(mf h hi).1
theorem HW(w:World)(o:Obj):Ext w (w.drew.alloc o) :=
 ⟨by show w.heap.size ≤ (w.heap.push o).size; simp, fun b hb => by
  show (w.heap.push o)[b]? = _
  simp[wv,aey hb],⟨rfl,rfl,rfl,by first|exact fun _=>aB _|exact fun _=>eS _ _⟩⟩
theorem HX(w:World)(o:Obj):(w.drew.alloc o).heap[w.heap.size]? = some o:=by
 show (w.heap.push o)[w.heap.size]? = _
 simp
theorem Br{E E':Env}{sz m C:Nat}{rows:List (List AV)}{vals:List Value}{rest:List Value}{b:Nat}{e:TypeId}(q:∀ a c,rel E a c→rel E' a c)
  (hb:E'.w.heap[b]? = some (.cells (vals++rest).toArray e (0,0))) (d:af E rows.flatten vals) (h1:∀ x∈vals,di x=true)
  (hw:∀ r∈rows,r.length=sz) (hlen:rows.length=m) (hC:m≤C) (g:rest.length=(C-m)*sz) :
  isRow E'.w b (C*sz)∧cy E' sz rows b 0:=by
 have h:af E' rows.flatten vals:=by
  rw[me]at *;exact⟨d.1,fun i a v ha k=>q a v (d.2 i a v ha k)⟩
 refine⟨⟨_,e,hb,?_⟩,xg hw (HV hb h (by simp; rfl) h1)⟩;have:=fP d;rw[qH hw,hlen]at this;simp only[AJ,fb,←this,g,←fo];congr 1;omega
theorem HY{P:Program}{e:TypeId}{z:List Value}(h:dV P e=some z):∃ i v,P.info? e=some i∧i.zero=some v∧v.cells.toList=z :=
 let ⟨i,v,h1,d,g,_⟩:=lk h
 ⟨i,v,h1,d,g⟩
theorem HZ{E:Env}(HE:aq E){sz C m:Nat}{new:List (List AV)}{vals rest:List Value}{e:TypeId}(g:af E new.flatten vals)(h1:∀ x∈vals,di x=true)
  (hw:∀ r∈new,r.length=sz) (u:eV new) (hm:new.length=m) (hC:m≤C) (q:rest.length=(C-m)*sz) :
  cJ E (.vec sz E.H.length 0 0 m) (E.H++[.vec sz 0 new]) (.slice (some ⟨E.w.heap.size,0,none⟩) m C) (E.w.drew.alloc (.cells (vals++rest).toArray e)):=by
 have h:=HW E.w (.cells (vals++rest).toArray e);have hle:=Env.ju (o:=.vec sz 0 new) (l:=some (E.w.heap.size,C)) HE.len h (fun b n hb=>by cases hb; exact aB _);have hblk:=HX E.w (.cells (vals++rest).toArray e);have k:=Br (E':=E.push (E.w.drew.alloc (.cells (vals++rest).toArray e)) (.vec sz 0 new) (some (E.w.heap.size,C))) (fun a c g=>bP hle a g) hblk g h1 hw hm hC q;refine⟨E.loc++[some (E.w.heap.size,C)],E.X.r,?_,aq.push HE h (fun b n hb=>?_) ?_,hle⟩
 ·simp only [rel]
  refine⟨⟨_,_,rfl,hC,fun _=>⟨_,_,rfl⟩⟩,⟨.vec sz 0 new,by simp,rfl,fun v y=>by simp[ab.aD]at y; omega⟩,fun _=>⟨fun d=>?_,fun b M d=>?_⟩⟩
  ·rw[←HE.len]at d; simp at d
  ·rw [← HE.len] at d
   simp at d;obtain⟨rfl,rfl⟩:=d;exact⟨by omega,0,fun _=>by simp,by simp⟩
 ·cases hb
  exact⟨aB _,by show _<(E.w.heap.push _).size; simp⟩
 ·simp only [aM]
  right;refine⟨E.w.heap.size,C,?_,k.1,by omega,u,k.2⟩;simp only[Env.push];rw[←HE.len];simp
theorem RE{E:Env}(HE:aq E){sz:Nat}(base:Option Addr) :
  cJ E (.vec sz E.H.length 0 0 0) (E.H++[.vec sz 0 []]) (.slice base 0 0) E.w:=by
 have hle:=Env.ju (o:=.vec sz 0 []) (l:=none) HE.len (Ext.refl E.w) (fun b n hb=>by cases hb);refine⟨E.loc++[none],E.X.r,?_,aq.push HE (Ext.refl _) (fun b n hb=>by cases hb) ?_,hle⟩
 ·simp only [rel]
  refine⟨⟨_,_,rfl,aB _,fun h=>by omega⟩,⟨.vec sz 0 [],by simp,rfl,fun v g=>by simp[ab.aD]at g; omega⟩,fun _=>⟨fun _=>⟨trivial,trivial,base,rfl⟩,fun b M d=>?_⟩⟩;rw[←HE.len]at d;simp at d
 ·simp only [aM]
  left;refine⟨?_,trivial⟩;simp only[Env.push];rw[←HE.len];simp
theorem Bs(P:Program)(a:Addr)(w:World):(storeCells a []).run P w=.ok () w:=rfl
theorem Bt{P:Program}{E:Env}{sz:Nat}{rows:List (List AV)}{xt:TypeId}{x:Value}{news:List Value}(h:Src P E sz rows xt x news)(d:rows=[]):news=[]:=by
 have:=h.length;rw[d]at this;simp at this;exact this
theorem H5{P:Program}{E:Env}(HE:aq E){t xt ty e:TypeId}{sz v:Nat}{z:List Value}{new:List (List AV)}{base:Option Addr}{k:Value}{news:List Value}
  (hk:b9 P t=.slice e sz v) (V:dV P e=some z) (g:Src P E sz new xt k news) (hb1:new.length≤1048576) (hb2:v≤1048576) (N:z.length=sz) :
  ∃ u w',(l4 #[t,xt] ty #[.slice base 0 0,k]).run P E.w=.ok u w'∧cJ E (.vec sz E.H.length 0 0 new.length) (E.H++[.vec sz 0 new]) u w':=by
 obtain⟨hu,i,hi,J,hby⟩:=gh hk;obtain⟨i',zv,y,O,U⟩:=HY V;rw[hi]at y;cases y;obtain⟨d,B,I⟩:=g.kind;cases h:new with
 | nil =>
  have W:=Bt g h;subst W;subst h;refine⟨.slice base (0+0) 0,E.w,Bp (m:=0) hu B I hi J (g.len E.w) (aB _) (g.cells E.w (fun _ _ _=>rfl)) ?_,RE HE base⟩;cases base with
  |none=>rfl
  |some a=>exact Bs P _ _
 | cons r rs =>
  rw[←h];have hpos:0<new.length:=by rw[h]; simp
  have M:∀ b o,b<E.w.heap.size→E.w.drew.cell? ⟨b,o,none⟩=E.w.cell? ⟨b,o,none⟩:=fun _ _ _=>rfl;obtain⟨C,hC,q⟩:=HU (P:=P) (w:=E.w) (ty:=ty) (base:=base) (n:=0) (cap:=0) (m:=new.length) (x:=k) (olds:=[]) hu B I hi J O (g.len E.w) (by omega)
   (by cases base<;>simp[gR,loadCells,loadCellsFrom]) (g.cells _ M) (by omega) (by omega)
  simp only[cP,lb]at q;refine⟨_,_,q,HZ HE g.rel g.one g.wide g.closed rfl (by omega) ?_⟩;simp only[la,size_zeroCells];rw[←N,←U];simp
theorem RF{P:Program}{xt:TypeId}(h:(match b9 P xt with | .slice _ _ _ | .str=>true|_=>false)=true):∃ d,P.underlying xt=some d∧∀ k,d≠.int k:=by
 split at h
 ·rename_i hk
  exact⟨_,(gh hk).1,by simp⟩
 ·rename_i hk
  exact⟨_,oS hk,by simp⟩
 ·cases h
theorem ln{α:Type}{l:List α}{i:Nat}{x:α}(h:l[i]? = some x):l.set i x=l:=by
 apply jR;intro j;rw[dR];split
 ·rename_i e
  subst e;rw[h];split
  ·rfl
  ·rename_i d; exact(d (aL h)).elim
 ·rfl
theorem RG{P:Program}{E:Env}(HE:aq E){t xt ty e id ae:TypeId}{sz by_:Nat}{z:List Value}{rows new:List (List AV)}{c cx:Value}{news:List Value}
  (hk:b9 P t=.slice e sz by_) (hz:dV P e=some z) (g:Src P E sz new xt cx news) (hb1:rows.length+new.length≤1048576) (hb2:by_≤1048576) (hzl:z.length=sz)
  (hid:E.H[id]? = some (.vec sz ae rows)) (k:rel E (.vec sz id ae 0 rows.length) c) :
  ∃ u w',(l4 #[t,xt] ty #[c,cx]).run P E.w=.ok u w' ∧
   cJ E (.vec sz id (ae+1) 0 (rows.length+new.length)) (E.H.set id (.vec sz (ae+1) (rows++new))) u w':=by
 obtain⟨hu,i,hi,hs,hby⟩:=gh hk;obtain⟨i',zv,hi',hz1,hz2⟩:=HY hz;rw[hi]at hi';cases hi';obtain⟨d,hd1,hd2⟩:=g.kind;simp only[rel]at k;obtain⟨⟨base,cap,rfl,hcap,hbase⟩,hpast,hlive⟩:=k;obtain⟨q1,q2⟩:=hlive ⟨_,hid,rfl⟩;have hlt:=aL hid;have N:(∀ v,(ab.vec sz (ae+1) (rows++new)).aD = some v→∀ u,(ab.vec sz ae rows).aD = some u→u<v):=by
  intro v J u hu; simp[ab.aD]at J hu; omega
 have U:∀ v u,(ab.vec sz (ae+1) (rows++new)).aD = some v→(ab.vec sz ae rows).aD = some u→u≤v:=by
  intro v u J hu; simp[ab.aD]at J hu; omega
 have O:(ab.vec sz ae rows).aD = none→(ab.vec sz (ae+1) (rows++new)).aD = none:=by simp[ab.aD]
 have hpast':∀(w':World) loc',Env.past { w:=w',H:=E.H.set id (.vec sz (ae+1) (rows++new)),loc:=loc',X:=E.X } id (ae+1):=fun w' loc' =>
  ⟨_,bB hlt,rfl,fun v J=>by simp[ab.aD]at J; omega⟩
 have hcells:∀ b o,b<E.w.heap.size→E.w.drew.cell? ⟨b,o,none⟩=E.w.cell? ⟨b,o,none⟩:=fun _ _ _=>rfl;by_cases I:rows.length+new.length≤cap
 ·-- in place
  rcases HE.obj id _ hid with⟨y,V⟩|⟨b,M,y,V,e3,e4,W⟩
  ·obtain ⟨hn0, _, base', ee⟩ := q1 y
   simp only[jQ]at ee;obtain⟨rfl,_,rfl⟩:=ee;have hnil:new=[]:=by
    cases new with
    |nil=>rfl
    |cons a l=>simp at I
   have hnews:=Bt g hnil;subst hnews;subst hnil;subst V;refine⟨_,E.w,Bp (m:=0) hu hd1 hd2 hi hs (g.len E.w) (aB _) (g.cells E.w (fun _ _ _=>rfl)) ?_,E.loc.set id none,E.X.r,?_,?_,?_⟩
   ·cases base with
    |none=>rfl
    |some a=>exact Bs P _ _
   ·simp only [rel]
    refine⟨⟨_,_,rfl,aB _,fun h=>by simp at h⟩,hpast' _ _,fun _=>⟨fun _=>⟨by simp,trivial,base,by simp⟩,fun b M q=>?_⟩⟩;rw[bB (by rw[HE.len]; exact hlt)]at q;cases q
   ·refine aq.kH HE hid (aB _) (fun _ _ _ => rfl) (fun _ _ h => by cases h) (.inr N) U (fun _ => O) ?_
    simp only[aM];left;exact⟨by rw[bB (by rw[HE.len]; exact hlt)],by simp⟩
   ·exact Env.jv hid HE.len (aB _) (fun _ _ _=>rfl) (fun _ _ h=>by cases h) (.inr N) U (fun _=>O)
  ·obtain ⟨_, o, p2, p3⟩ := q2 b M y
   simp only[jQ,ga]at p3;obtain⟨rfl,_,rfl⟩:=p3;obtain⟨cur,el,hblk,hsize⟩:=V;have hcurl:=RD hblk (xf W);have hwide:=Bq W;have hflat:=qH hwide;have hnl:=g.length;have hstore:∃ w',(storeCells ((Addr.mk b o none).add (rows.length*sz)) news).run P E.w=.ok () w'∧w'.heap.size=E.w.heap.size∧dL E.w w'∧(∀ x,x≠b→w'.heap[x]? = E.w.heap[x]?) ∧
     w'.heap[b]? = some (.cells (cur.toList.take (rows.length*sz)++news++cur.toList.drop (rows.length*sz+news.length)).toArray el (0,0)):=by
    by_cases hM:0<cap
    ·rw [p2 hM, jT, qi, cP]
     have hfit2:rows.length*sz+0+news.length≤cur.size:=by
      rw[hnl,hsize,oI,←fo];exact s_ _ I
     have hst:=run_storeCells_at P b (rows.length*sz) el news 0 cur E.w hblk hfit2 (fun v J=>by rw[xe]; exact g.one v J);refine⟨_,hst,setRow_size _ _ _,⟨rfl,rfl,rfl,by first|exact fun _=>aB _|exact fun _=>eS _ _⟩,fun x B=>setRow_other _ _ _ _ B,?_⟩;rw[setRow_heap _ _ _ _ _ _ hblk];simp
    ·have h0 : cap = 0 := by omega
     have hn0:new=[]:=by
      cases new with
      |nil=>rfl
      |cons a l=>simp at I; omega
     have:=Bt g hn0;subst this;refine⟨E.w,Bs P _ _,rfl,⟨rfl,rfl,rfl,by first|exact fun _=>aB _|exact fun _=>eS _ _⟩,fun _ _=>rfl,?_⟩;rw[hblk];simp
   obtain⟨w',hst,hsz,henv,hother,hb'⟩:=hstore;have hloc:E.loc.set id (some (b,cap))=E.loc:=ln y;have hle:E.le { w:=w',H:=E.H.set id (.vec sz (ae+1) (rows++new)),loc:=E.loc.set id (some (b,cap)),X:=E.X } :=
    Env.jv hid HE.len (by omega) (fun x B hne=>hother x (fun ex=>hne cap (by rw[ex]; exact y))) (fun b' n' h=>by cases h; exact .inr ⟨cap,y⟩) (.inr N) U (fun _=>O)
   refine⟨_,w',Bp (m:=new.length) hu hd1 hd2 hi hs (g.len E.w) I (g.cells E.w (fun _ _ _=>rfl)) hst,E.loc.set id (some (b,cap)),E.X.r,?_,?_,hle⟩
   ·simp only [rel]
    refine⟨⟨_,_,rfl,I,fun _=>⟨b,o,rfl⟩⟩,hpast' _ _,fun _=>⟨fun q=>?_,fun b' M q=>?_⟩⟩
    ·rw[hloc,y]at q; cases q
    ·rw [hloc, y] at q
     simp only[aV,ba]at q;obtain⟨rfl,rfl⟩:=q;exact⟨by omega,o,fun h=>by simpa using p2 (by simpa using h),by simp⟩
   ·refine aq.kH HE hid (by omega) (fun x B hne => hother x (fun ex => hne cap (by rw [ex]; exact y))) (fun b' n' h => by cases h; exact .inr ⟨cap, y⟩) (.inr N) U (fun _ => O) ?_
    simp only[aM];right;refine⟨b,cap,by rw[hloc]; exact y,?_,by simpa using I,?_,?_⟩
    ·refine ⟨_, el, hb', ?_⟩
     have hfit2:rows.length*sz+news.length≤cap*sz:=by rw[hnl,←fo]; exact s_ _ I
     simp only[AJ,fb,kr,oJ,la,hsize];omega
    ·intro r k
     rcases cS.1 k with h|h
     ·exact e4 r h
     ·exact g.closed r h
    ·have hall:∀ r∈rows++new,r.length=sz:=by
      intro r k;rcases cS.1 k with h|h
      ·exact hwide r h
      ·exact g.wide r h
     refine xg hall (HV hb' (vs:=cur.toList.take (rows.length*sz)++news) (tl:=cur.toList.drop (rows.length*sz+news.length)) ?_ (by simp) ?_)
     ·rw [wC]
      refine jV ?_ (dw hle _ g.rel);have:=dw hle _ hcurl.1;rw[hflat]at this;exact this
     ·intro x B
      rcases cS.1 B with h|h
      ·exact hcurl.2.1 x (by rw[hflat]; exact h)
      ·exact g.one x h
 ·-- it moves
  have holds:∃ olds:List Value,af E rows.flatten olds∧(∀ x∈olds,di x=true)∧(∀ r∈rows,r.length=sz)∧eV rows ∧
    (gR sz rows.length (.slice base rows.length cap)).run P E.w.drew=.ok olds.toArray E.w.drew:=by
   rcases HE.obj id _ hid with⟨y,V⟩|⟨b,M,y,V,e3,e4,W⟩
   ·subst V
    refine⟨[],by simp[af],by simp,by simp,(fun r k=>by cases k),?_⟩;cases base<;>simp[gR,loadCells,loadCellsFrom]
   ·obtain ⟨_, o, p2, p3⟩ := q2 b M y
    simp only[jQ,ga]at p3;obtain⟨rfl,_,rfl⟩:=p3;by_cases hM:0<cap
    ·have ho := p2 hM
     rw[qi]at ho;subst ho;obtain⟨vs,g1,g2,g3⟩:=xh (P:=P) (cap:=cap) W (HE.lt id b cap y).1;exact⟨vs,g1,g2,Bq W,e4,g3 _ hcells⟩
    ·have:rows=[]:=by
      cases rows with
      |nil=>rfl
      |cons a l=>simp at hcap; omega
     subst this;exact⟨[],by simp[af],by simp,by simp,fun r k=>by(cases k),by simp[gR,loadCells,loadCellsFrom]⟩
  obtain⟨olds,g1,g2,g3,g4,g5⟩:=holds;obtain⟨C,hC,hrun⟩:=HU (P:=P) (w:=E.w) (ty:=ty) (base:=base) (n:=rows.length) (cap:=cap) (m:=new.length) (x:=cx) (olds:=olds) hu hd1 hd2 hi hs hz1 (g.len E.w) (by omega)
   g5 (g.cells _ hcells) (by omega) (by omega)
  generalize hrest:(wB zv.cells (C-(rows.length+new.length))).toList=rest at hrun;have hrl:rest.length=(C-(rows.length+new.length))*sz:=by
   rw[←hrest];simp only[la,size_zeroCells];rw[←hzl,←hz2];simp
  generalize hw':E.w.drew.alloc (.cells (olds++news++rest).toArray e)=w' at hrun;have hext:Ext E.w w':=by rw[←hw']; exact HW _ _
  have hblk:w'.heap[E.w.heap.size]? = some (.cells (olds++news++rest).toArray e (0,0)):=by rw[←hw']; exact HX _ _
  have hltw:E.w.heap.size<w'.heap.size:=(Array.getElem?_eq_some_iff.1 hblk).1;have hle:E.le { w:=w',H:=E.H.set id (.vec sz (ae+1) (rows++new)),loc:=E.loc.set id (some (E.w.heap.size,C)),X:=E.X } :=
   Env.jv hid HE.len hext.size (fun x B _=>hext.same x B) (fun b n h=>by cases h; exact .inl (aB _)) (.inr N) U (fun _=>O)
  have hall:∀ r∈rows++new,r.length=sz:=by
   intro r k;rcases cS.1 k with h|h
   ·exact g3 r h
   ·exact g.wide r h
  have hlocs:(E.loc.set id (some (E.w.heap.size,C)))[id]? = some (some (E.w.heap.size,C)):=bB (by rw[HE.len]; exact hlt);have hrow:=Br (E:=E) (E':={ w:=w',H:=E.H.set id (.vec sz (ae+1) (rows++new)),loc:=E.loc.set id (some (E.w.heap.size,C)),X:=E.X })
   (rows:=rows++new) (vals:=olds++news) (m:=rows.length+new.length) (fun a c k=>bP hle a k) hblk
   (by rw[wC]; exact jV g1 g.rel)
   (by intro x B; rcases cS.1 B with h|h; exact g2 x h; exact g.one x h) hall (by simp) hC hrl
  refine⟨_,w',hrun,E.loc.set id (some (E.w.heap.size,C)),E.X.r,?_,?_,hle⟩
  ·simp only [rel]
   refine⟨⟨_,_,rfl,hC,fun _=>⟨_,_,rfl⟩⟩,hpast' _ _,fun _=>⟨fun q=>?_,fun b' M q=>?_⟩⟩
   ·rw[hlocs]at q; cases q
   ·rw [hlocs] at q
    simp only[aV,ba]at q;obtain⟨rfl,rfl⟩:=q;exact⟨by omega,0,fun _=>by simp,by simp⟩
  ·refine aq.kH HE hid hext.size (fun x B _ => hext.same x B) (fun b n h => by cases h; exact .inl ⟨aB _, hltw⟩) (.inr N) U (fun _ => O) ?_
   simp only[aM];right;refine⟨E.w.heap.size,C,hlocs,hrow.1,by simpa using hC,?_,hrow.2⟩;intro r k;rcases cS.1 k with h|h
   ·exact g4 r h
   ·exact g.closed r h
theorem RH{P:Program}{E:Env}(HE:aq E){t xt ty:TypeId}{s x v:AV}{H':List ab}{c B:Value}(h:qG P t xt s x E.H=some (v,H'))
  (d:rel E s c) (O:rel E x B):∃ u w',(l4 #[t,xt] ty #[c,B]).run P E.w=.ok u w'∧cJ E v H' u w':=by
 unfold qG at h;split at h
 case h_2=>cases h
 rename_i e sz V hk;split at h
 case h_2=>cases h
 rename_i z new q M J;split at h
 case isFalse=>cases h
 rename_i U;obtain⟨h1,I,y⟩:=U;obtain⟨news,g⟩:=RC (P:=P) HE J O (RF M);split at h
 ·cases h
  simp only[rel]at d;obtain⟨base,rfl⟩:=d;exact H5 HE hk q g I y h1
 ·cases h
  simp only[rel]at d;subst d;exact H5 HE hk q g I y h1
 ·split at h
  case h_2=>cases h
  rename_i k v rows hid;split at h
  case isFalse=>cases h
  rename_i N;obtain⟨rfl,rfl,rfl,rfl,rfl,hb⟩:=N;cases h;exact RG HE hk q g hb y h1 hid d
 ·cases h
end Go.AL

namespace Go.AL
open Go
variable [Dr]
theorem H6{w w':World}{b off:Nat}{cur:Array Value}{vals:List Value}{el:TypeId}{fr:Nat × Nat}(hblk:w.heap[b]? = some (.cells cur el fr))
  (g:w'.heap[b]? = some (.cells (cur.toList.take off++vals++cur.toList.drop (off+vals.length)).toArray el fr)) (k:off+vals.length≤cur.size) (i:Nat) :
  w'.cell? ⟨b,i,none⟩=if off≤i∧i<off+vals.length then vals[i-off]? else w.cell? ⟨b,i,none⟩:=by
 simp only[s7,hblk,g,Option.isSome_none,k_,if_false,List.getElem?_toArray,e_,fb,kr,la,
  lX,qd]
 have h1:min off cur.size=off:=by omega
 rw[h1];by_cases c1:i<off
 ·have c2 : ¬ (off ≤ i ∧ i < off + vals.length) := by omega
  have d:i<off+vals.length:=by omega
  rw[if_neg c2];simp[c1,d]
 ·by_cases c2 : i < off + vals.length
  ·have d : off ≤ i ∧ i < off + vals.length := by omega
   simp[c1,c2,d]
  ·have d : ¬ (off ≤ i ∧ i < off + vals.length) := by omega
   have h:off+vals.length+(i-(off+vals.length))=i:=by omega
   rw[if_neg c2,if_neg d,h];simp
theorem Bu{E E':Env}{b o col:Nat}{cur:Array Value}{as cs:List AV}{vals:List Value}{el:TypeId}{fr:Nat × Nat}(d:∀ a c,rel E a c→rel E' a c)
  (hblk:E.w.heap[b]? = some (.cells cur el fr))
  (q:E'.w.heap[b]? = some (.cells (cur.toList.take (o+col)++vals++cur.toList.drop (o+col+vals.length)).toArray el fr)) (k:o+col+vals.length≤cur.size)
  (g:ch E as b o) (h:af E cs vals) (h1:∀ x∈vals,di x=true) (u:col+cs.length≤as.length) :
  ch E' (as.take col++cs++as.drop (col+cs.length)) b o:=by
 have hlen:=fP h;rw[iD]at g⊢;intro i a hi;rw[H6 hblk q k];simp only[e_,fb,kr,lX,qd]at hi;have hm:min col as.length=col:=by omega
 rw[hm]at hi;by_cases c1:i<col
 ·have c2 : i < col + cs.length := by omega
  rw[if_pos c2,if_pos c1,if_pos c1]at hi;obtain⟨v,g1,g2,g3⟩:=g i a hi;exact⟨v,by rw[if_neg (by omega)]; exact g1,g2,d _ _ g3⟩
 ·by_cases c2 : i < col + cs.length
  ·rw [if_pos c2, if_neg c1] at hi
   obtain⟨v,g1,g2⟩:=mn h hi;refine⟨v,?_,h1 v (eT g1),d _ _ g2⟩;rw[if_pos (by omega),←g1];congr 1;omega
  ·rw [if_neg c2] at hi
   have:col+cs.length+(i-(col+cs.length))=i:=by omega
   rw[this]at hi;obtain⟨v,g1,g2,g3⟩:=g i a hi;exact⟨v,by rw[if_neg (by omega)]; exact g1,g2,d _ _ g3⟩
theorem Env.mo{E:Env}{w':World}{id b n:Nat}{o o':ab}(HE:aq E)(hid:E.H[id]? = some o) (g:E.loc[id]? = some (some (b,n)))
  (k:∀ v,o'.aD = some v→o.aD = some v) (J:w'.heap.size=E.w.heap.size) (y:∀ x,x≠b→w'.heap[x]? = E.w.heap[x]?) (B:dL E.w w':=by first|exact⟨rfl,rfl,rfl,by first|exact fun _=>aB _|exact fun _=>eS _ _⟩|assumption|exact Ext.env (by assumption)) (hmm:o.cZ=none∨o'.cZ=o.cZ∨o'.aD = none:=by first|exact .inl rfl|exact .inr (.inl rfl)|exact .inr (.inr rfl)|exact .inl (ab.wW (by assumption))|assumption) (M:o.born=true→o'.born=true:=by first|exact fun _=>rfl|exact fun h=>h|assumption) :
  E.le { w:=w',H:=E.H.set id o',loc:=E.loc,X:=E.X }:=by
 have h:=Env.jv (w':=w') (o':=o') (l:=some (b,n)) hid HE.len (by omega) (fun x _ I=>y x (fun e=>I n (by rw[e]; exact g))) (fun N O h=>by cases h; exact .inr ⟨n,g⟩)
  (.inl fun v d => ⟨k v d, g⟩) (fun v u d hu => by rw [k v d] at hu; cases hu; exact aB _) (fun _ q => by
   cases d:o'.aD with
   |none=>rfl
   |some v=>rw[k v d]at q; cases q) B hmm
 rwa [ln g]at h
theorem aq.set{E:Env}{w':World}{id b n:Nat}{o o':ab}(HE:aq E)(hid:E.H[id]? = some o) (d:E.loc[id]? = some (some (b,n)))
  (k:∀ v,o'.aD = some v→o.aD = some v) (J:w'.heap.size=E.w.heap.size) (y:∀ x,x≠b→w'.heap[x]? = E.w.heap[x]?)
  (ho:aM { w:=w',H:=E.H.set id o',loc:=E.loc,X:=E.X } id o') (B:dL E.w w':=by first|exact⟨rfl,rfl,rfl,by first|exact fun _=>aB _|exact fun _=>eS _ _⟩|assumption|exact Ext.env (by assumption)) (hlab:o.label=none:=by first|rfl|assumption) (M:o'.label=none:=by first|rfl|assumption) (N:o.born=true→o'.born=true:=by first|exact fun _=>rfl|exact fun h=>h|assumption):aq { w:=w',H:=E.H.set id o',loc:=E.loc,X:=E.X }:=by
 have h:=aq.kH (w':=w') (o':=o') (l:=some (b,n)) HE hid (by omega) (fun x _ I=>y x (fun e=>I n (by rw[e]; exact d))) (fun O U h=>by cases h; exact .inr ⟨n,d⟩)
  (.inl fun v g => ⟨k v g, d⟩) (fun v u g hu => by rw [k v g] at hu; cases hu; exact aB _) (fun _ q => by
   cases g:o'.aD with
   |none=>rfl
   |some v=>rw[k v g]at q; cases q) (by rw[ln d]; exact ho) B
 rwa [ln d]at h
def putCells(as cs:List AV)(col:Nat):List AV:=as.take col++cs++as.drop (col+cs.length)
def qI(P:Program)(t:TypeId)(x v:AV)(H:List ab):Option (List ab) :=
 match eL P t,oT v,x with
 | some (n,_),some cs,.ptr id ae w row col =>
  if cs.length=n then
   match H[id]? with
   |some (.box cells)=>if ae=0∧row=0∧col+n≤cells.length then some (H.set id (.box (putCells cells cs col))) else none
   | some (.vec k u rows) =>
    if ae=u∧k=w∧AV.bp cs=true then
     match rows[row]? with
     |some r=>if col+n≤r.length then some (H.set id (.vec k u (rows.set row (putCells r cs col)))) else none
     |none=>none
    else none
   |_=>none
  else none
 |_,_,_=>none
theorem H7{as cs:List AV}{col:Nat}(h:col+cs.length≤as.length):(putCells as cs col).length=as.length:=by
 simp[putCells]; omega
theorem Bv:∀(a b:List AV),AV.bp (a++b)=(AV.bp a&&AV.bp b)
 | [],b=>by simp[AV.bp]
 |x::a,b=>by simp[AV.bp,Bv a b,aeB]
theorem H8{P:Program}{E:Env}(HE:aq E){t:TypeId}{x v:AV}{c d:Value}{H':List ab}(h:qI P t x v E.H=some H')(O:rel E x c)(B:rel E v d) :
  ∃ w',(G7 t c d).run P E.w=.ok () w'∧aq { w:=w',H:=H',loc:=E.loc,X:=E.X }∧E.le { w:=w',H:=H',loc:=E.loc,X:=E.X }:=by
 unfold qI at h;split at h
 case h_2=>cases h
 rename_i n ag cs id ae w row col ht hcs;obtain⟨i,dd,hi,hd,hs,ha⟩:=lh ht;obtain⟨hrel,h1⟩:=Bl hcs B;split at h
 case isFalse=>cases h
 rename_i hn;have hlen:=fP hrel;have hsz:d.cells.size=n:=by rw[←hn,hlen]; simp
 simp only[rel]at O;obtain⟨_,hpast,hlive⟩:=O;split at h
 ·rename_i cells hid
  split at h
  case isFalse=>cases h
  rename_i hc;obtain⟨rfl,rfl,hcol⟩:=hc;cases h;obtain⟨b,m,I,rfl⟩:=hlive ⟨_,hid,rfl⟩;obtain⟨b',m',M,⟨cur,el,hblk,hsize⟩,e3⟩:=HE.obj id _ hid;rw[I]at M;cases M;have g:col+0+d.cells.toList.length≤cur.size:=by rw[hsize]; simp; omega
  have J:=run_storeCells_at P b col el d.cells.toList 0 cur E.w hblk g (fun v B=>by rw[xe]; exact h1 v B);simp only[oI]at J g;generalize y:E.w.setRow b (cur.toList.take col++d.cells.toList++cur.toList.drop (col+d.cells.toList.length)).toArray=w' at J;have U:w'.heap.size=E.w.heap.size:=by rw[←y]; exact setRow_size _ _ _
  have henv:dL E.w w':=by rw[←y]; exact⟨rfl,rfl,rfl,by first|exact fun _=>aB _|exact fun _=>eS _ _⟩
  have V:∀ x,x≠b→w'.heap[x]? = E.w.heap[x]? := by intro x O; rw[←y]; exact setRow_other _ _ _ _ O
  have N:w'.heap[b]? = some (.cells (cur.toList.take col++d.cells.toList++cur.toList.drop (col+d.cells.toList.length)).toArray el (0,0)):=by
   rw[←y]; exact setRow_heap E.w b cur _ el (0,0) hblk
  have W:∀ v,(ab.box (putCells cells cs col)).aD = some v→(ab.box cells).aD = some v:=fun v B=>by simpa[ab.aD]using B
  have hle:=Env.mo (o':=.box (putCells cells cs col)) HE hid I W U V;refine⟨w',?_,aq.set HE hid I W U V ?_,hle⟩
  ·simp only [G7, mX, bV, fa, bX, storeVar, Sem.run_sizeOf hi, hs, qi, cP]
   rw[if_neg (by omega)];exact J
  ·simp only [aM]
   refine⟨b,m,I,⟨_,el,N,?_⟩,?_⟩
   ·rw [H7 (by omega)]
    simp only[AJ,fb,kr,oJ,la]at g⊢;omega
   ·exact Bu (o:=0) (col:=col) (fun a c hr=>bP hle a hr) hblk (by simpa using N) (by simpa using g) e3 hrel h1 (by omega)
 ·rename_i k u rows hid
  split at h
  case isFalse=>cases h
  rename_i hc;obtain⟨rfl,rfl,hclosed⟩:=hc;split at h
  case h_2=>cases h
  rename_i r hrow;split at h
  case isFalse=>cases h
  rename_i hcol;cases h;obtain⟨b,m,I,rfl⟩:=hlive ⟨_,hid,rfl⟩;rcases HE.obj id _ hid with⟨_,M⟩|⟨b',m',M,⟨cur,el,hblk,hsize⟩,e3,e4,e5⟩
  ·subst M; simp at hrow
  rw[I]at M;cases M;have hrlt:=aL hrow;obtain⟨hrk,hrc⟩:=mf e5 hrow;rw[cP]at hrc;have hrow1:(row+1)*k≤m*k:=s_ _ (by omega);rw[fo,G8]at hrow1;have g:row*k+col+0+d.cells.toList.length≤cur.size:=by rw[hsize]; simp; omega
  have J:=run_storeCells_at P b (row*k+col) el d.cells.toList 0 cur E.w hblk g (fun v B=>by rw[xe]; exact h1 v B);simp only[oI]at J g;generalize y:E.w.setRow b (cur.toList.take (row*k+col)++d.cells.toList++cur.toList.drop (row*k+col+d.cells.toList.length)).toArray=w' at J;have U:w'.heap.size=E.w.heap.size:=by rw[←y]; exact setRow_size _ _ _
  have henv:dL E.w w':=by rw[←y]; exact⟨rfl,rfl,rfl,by first|exact fun _=>aB _|exact fun _=>eS _ _⟩
  have V:∀ x,x≠b→w'.heap[x]? = E.w.heap[x]? := by intro x O; rw[←y]; exact setRow_other _ _ _ _ O
  have N:w'.heap[b]? = some (.cells (cur.toList.take (row*k+col)++d.cells.toList++cur.toList.drop (row*k+col+d.cells.toList.length)).toArray el (0,0)):=by
   rw[←y]; exact setRow_heap E.w b cur _ el (0,0) hblk
  have W:∀ v,(ab.vec k ae (rows.set row (putCells r cs col))).aD = some v→(ab.vec k ae rows).aD = some v:=fun v B=>by simpa[ab.aD]using B
  have hle:=Env.mo (o':=.vec k ae (rows.set row (putCells r cs col))) HE hid I W U V;refine⟨w',?_,aq.set HE hid I W U V ?_,hle⟩
  ·simp only [G7, mX, bV, fa, bX, storeVar, Sem.run_sizeOf hi, hs]
   rw[if_neg (by omega)];exact J
  ·simp only [aM]
   right;refine⟨b,m,I,⟨_,el,N,?_⟩,by simpa using e3,?_,?_⟩
   ·simp only [AJ, fb, kr, oJ, la, hsize] at g ⊢
    omega
   ·intro r' hr'
    rcases List.mem_or_eq_of_mem_set hr' with h'|h'
    ·exact e4 r' h'
    ·rw [h', putCells, Bv, Bv]
     have:=e4 r (eT hrow);simp[w9 _ _ this,tA _ _ this,hclosed]
   ·rw [lf] at e5 ⊢
    intro j r' hj;rw[dR]at hj;split at hj
    ·rename_i ej
     subst ej;cases hj;refine⟨by rw[H7 (by omega)]; exact hrk,?_⟩;rw[cP];exact Bu (fun a c hr=>bP hle a hr) hblk N g hrc hrel h1 (by omega)
    ·rename_i ej
     obtain⟨g1,g2⟩:=e5 j r' hj;refine⟨g1,?_⟩;rw[iD]at g2⊢;intro q a hq;obtain⟨vv,p1,p2,p3⟩:=g2 q a hq;refine⟨vv,?_,p2,bP hle a p3⟩;have hql:=aL hq;rw[H6 hblk N g,if_neg]
     ·exact p1
     ·rcases Nat.lt_or_gt_of_ne ej with hlt | hgt
      ·have : (row + 1) * k ≤ j * k := s_ _ (by omega)
       rw[fo,G8]at this;simp only[la];omega
      ·have : (j + 1) * k ≤ row * k := s_ _ (by omega)
       rw[fo,G8]at this;omega
 ·cases h
theorem H9{E:Env}(HE:aq E){cells:List AV}{vals:Array Value}{el:TypeId}(g:af E cells vals.toList)(h1:∀ x∈vals.toList,di x=true) :
  cJ E (.ptr E.H.length 0 0 0 0) (E.H++[.box cells]) (.pointer (some ⟨E.w.heap.size,0,none⟩)) { E.w with heap:=E.w.heap.push (.cells vals el) }:=by
 have d:=Ext.push E.w (.cells vals el);have hle:=Env.ju (o:=.box cells) (l:=some (E.w.heap.size,0)) HE.len d (fun b n hb=>by cases hb; exact aB _);have hblk:(E.w.heap.push (.cells vals el))[E.w.heap.size]? = some (.cells vals el (0,0)):=by simp
 have h:af (E.push { E.w with heap:=E.w.heap.push (.cells vals el) } (.box cells) (some (E.w.heap.size,0))) cells vals.toList:=dw hle _ g;refine⟨E.loc++[some (E.w.heap.size,0)],E.X.r,?_,aq.push HE d (fun b n hb=>?_) ?_,hle⟩
 ·simp only [rel]
  refine⟨⟨_,_,rfl⟩,⟨.box cells,by simp,rfl,fun v k=>by simp⟩,fun _=>⟨E.w.heap.size,0,?_,by simp⟩⟩;rw[←HE.len]; simp
 ·cases hb
  exact⟨aB _,by simp⟩
 ·simp only [aM]
  refine⟨E.w.heap.size,0,?_,⟨vals,el,hblk,?_⟩,Bo (cs:=vals) (el:=el) (fr:=(0,0)) hblk h h1⟩
  ·simp only[Env.push]; rw[←HE.len]; simp
  ·have := fP g
   simpa using this.symm
def xk(P:Program)(t:TypeId):Option TypeId:=match dV P t with
 | some [.pointer none,.slice none 0 0]=>match P.underlying t with
  | some (.struct d)=>match d[1]? with
   | some fd=>match P.underlying fd.type with
    | some (.slice e)=>match P.underlying e with
     |some (.int .u8)=>some e
     |_=>none
    |_=>none
   |none=>none
  |_=>none
 |_=>none
theorem RI{P:Program}{t e:TypeId}(h:xk P t=some e):dV P t=some [.pointer none,.slice none 0 0]:=by
 unfold xk at h;split at h
 ·assumption
 ·cases h
def mq(H:List ab)(l:Nat):Bool:=H.all fun o=>match o.label with
 |some k => !ad k l
 |none=>true
theorem tH{H:List ab}{l:Nat}(h:mq H l=true)(i:Nat)(o:ab)(hi:H[i]? = some o):o.label≠some l:=fun e=>by
 have:=cM.1 h o (eT hi);rw[e]at this;simp at this
theorem RJ{E:Env}(HE:aq E){t e:TypeId}(d:mq E.H 0=true) :
  cJ E (.ptr E.H.length 0 0 0 0) (E.H++[.eD 0 t e wu]) (.pointer (some ⟨E.w.heap.size,0,none⟩)) { E.w with heap:=E.w.heap.push (.cells #[.pointer none,.slice none 0 0] t) }:=by
 have k:=Ext.push E.w (.cells #[.pointer none,.slice none 0 0] t);obtain⟨h1,q⟩:=aq.Rj (o:=.eD 0 t e wu) (l:=some (E.w.heap.size,0)) (l0:=0) HE k (fun b n hb=>by cases hb; exact⟨aB _,by simp⟩) rfl (tH d) (by
  simp only[aM];refine⟨E.w.heap.size,0,.pointer none,.slice none 0 0,(E.X.r 0).length,none,?_,?_,.inl rfl,?_,?_,⟨rfl,rfl⟩⟩
  ·rw[←HE.len]; simp
  ·simp
  ·simp[gS,XS.re]
  ·intro h' h u
   rcases A_ (show (gS E.X.r 0 0)[h']? = some (some h) from u)with g|⟨_,g,_⟩
   ·exact(HE.fQ 0 (tH d) h' h g).elim
   ·exact g)
 refine⟨E.loc++[some (E.w.heap.size,0)],gS E.X.r 0,?_,h1,q⟩;simp only[rel];refine⟨⟨_,_,rfl⟩,⟨.eD 0 t e wu,by simp,rfl,fun v y=>by simp⟩,fun _=>⟨E.w.heap.size,0,?_,by simp⟩⟩;rw[←HE.len]; simp
def oV(P:Program)(t:TypeId)(H:List ab):Option (AV × List ab) :=
 match xk P t with
 |some e=>if mq H 0=true then some (.ptr H.length 0 0 0 0,H++[.eD 0 t e wu]) else none
 | none=>match dV P t with
  |some z=>some (.ptr H.length 0 0 0 0,H++[.box (z.map .lit)])
  |none=>none
theorem RL{P:Program}{E:Env}(HE:aq E){t:TypeId}{v:AV}{H':List ab}(h:oV P t E.H=some (v,H')) :
  ∃ u w',(AK t true (.tuple #[])).run P E.w=.ok u w'∧cJ E v H' u w':=by
 unfold oV at h;split at h
 ·rename_i e he
  split at h
  case isFalse=>cases h
  rename_i B;cases h;obtain⟨i,g,h1,k,d,y⟩:=lk (RI he);have q:g.cells=#[.pointer none,.slice none 0 0]:=fc (by simpa using d);refine⟨_,_,?_,RJ HE (t:=t) (e:=e) B⟩;simp[AK,ll h1 k,newVar,newRow,q]
 split at h
 ·rename_i z q
  cases h;obtain⟨i,g,h1,k,d,y⟩:=lk q;refine⟨_,_,?_,H9 HE (vals:=g.cells) (el:=t) (by rw[d]; exact nu z) (by rw[d]; exact y)⟩;simp[AK,ll h1 k,newVar,newRow]
 ·cases h
def zc:Option (List Kd)→Value→AV
 |some ks,.slice none 0 0=>.listF ks []
 |_,v=>.lit v
def dM:List (Option (List Kd))→List Value→List AV
 |_,[]=>[]
 | [],v::z=>.lit v::dM [] z
 |a::m,v::z=>zc a v::dM m z
theorem xl:∀(m:List (Option (List Kd))) (z:List Value),(dM m z).length=z.length
 | [],[]=>rfl
 |_::_,[]=>rfl
 | [],v::z=>by simp[dM,xl [] z]
 |a::m,v::z=>by simp[dM,xl m z]
theorem RM{E:Env}(a:Option (List Kd))(v:Value):rel E (zc a v) v:=by
 unfold zc;split
 ·simp only [rel, dS]
  exact⟨none,0,rfl,aB _,.inl rfl⟩
 ·simp[rel]
theorem Bw{E:Env}:∀(m:List (Option (List Kd))) (z:List Value),af E (dM m z) z
 | [],[]=>by simp[dM,af]
 |_::_,[]=>by simp[dM,af]
 | [],v::z=>by simp only[dM,af]; exact⟨by simp[rel],Bw [] z⟩
 |a::m,v::z=>by simp only[dM,af]; exact⟨RM a v,Bw m z⟩
theorem RN(a:Option (List Kd))(v:Value):(zc a v).closed=true:=by
 unfold zc;split<;>rfl
theorem Bx:∀(m:List (Option (List Kd))) (z:List Value),AV.bp (dM m z)=true
 | [],[]=>rfl
 |_::_,[]=>rfl
 | [],v::z=>by simp[dM,AV.bp,AV.closed,Bx [] z]
 |a::m,v::z=>by simp[dM,AV.bp,RN,Bx m z]
def nA(P:Program)(t:TypeId)(id:Nat) (m:List (Option (List Kd))) (H:List ab):Option (AV × List ab) :=
 match dV P t,H[id]? with
 |some z,some (.vec k 0 [])=>if k=z.length then some (.ptr id 1 k 0 0,H.set id (.vec k 1 [dM m z])) else none
 |_,_=>none
theorem RO{E:Env}(HE:aq E){id k:Nat}{cells:List AV}{vals:Array Value}{el:TypeId}(hid:E.H[id]? = some (.vec k 0 []))(d:af E cells vals.toList)(h1:∀ x∈vals.toList,di x=true)(hk:cells.length=k)
  (O:AV.bp cells=true) :
  cJ E (.ptr id 1 k 0 0) (E.H.set id (.vec k 1 [cells])) (.pointer (some ⟨E.w.heap.size,0,none⟩)) { E.w with heap:=E.w.heap.push (.cells vals el) }:=by
 have q:=Ext.push E.w (.cells vals el);have M:=aL hid;have B:∀ v,(ab.vec k 1 [cells]).aD = some v→∀ u,(ab.vec k 0 []).aD = some u→u<v:=by
  intro v g u hu;simp[ab.aD]at g hu;omega
 have N:∀ v u,(ab.vec k 1 [cells]).aD = some v→(ab.vec k 0 []).aD = some u→u≤v:=by
  intro v u g hu;simp[ab.aD]at g hu;omega
 have I:(ab.vec k 0 []).aD = none→(ab.vec k 1 [cells]).aD = none:=by simp[ab.aD]
 have hle:E.le { w:={ E.w with heap:=E.w.heap.push (.cells vals el) },H:=E.H.set id (.vec k 1 [cells]),loc:=E.loc.set id (some (E.w.heap.size,1)),X:=E.X } :=
  Env.jv hid HE.len q.size (fun x y _=>q.same x y) (fun b n h=>by cases h; exact .inl (aB _)) (.inr B) N (fun _=>I)
 have hblk:(E.w.heap.push (.cells vals el))[E.w.heap.size]? = some (.cells vals el (0,0)):=by simp
 have J:(E.loc.set id (some (E.w.heap.size,1)))[id]? = some (some (E.w.heap.size,1)):=bB (by rw[HE.len]; exact M);have U:=dw hle _ d;refine⟨E.loc.set id (some (E.w.heap.size,1)),E.X.r,?_,?_,hle⟩
 ·simp only [rel]
  refine⟨⟨_,_,rfl⟩,⟨.vec k 1 [cells],by simp[M],rfl,fun v g=>by simp[ab.aD]at g; omega⟩,fun _=>⟨E.w.heap.size,1,J,by simp⟩⟩
 ·refine aq.kH HE hid q.size (fun x y _ => q.same x y) (fun b n h => by cases h; exact .inl ⟨aB _, by simp⟩) (.inr B) N (fun _ => I) ?_
  simp only[aM];right;refine⟨E.w.heap.size,1,J,⟨vals,el,hblk,?_⟩,by simp,?_,?_⟩
  ·have := fP d
   rw[G8,←hk];simpa using this.symm
  ·intro r d
   simp at d;rw[d];exact O
  ·simp only [cy, and_true]
   exact⟨hk,Bo (cs:=vals) (el:=el) (fr:=(0,0)) hblk U h1⟩
theorem RP{P:Program}{E:Env}(HE:aq E){t:TypeId}{id:Nat}{m:List (Option (List Kd))}{v:AV}{H':List ab}(h:nA P t id m E.H=some (v,H')) :
  ∃ u w',(AK t true (.tuple #[])).run P E.w=.ok u w'∧cJ E v H' u w':=by
 unfold nA at h;split at h
 ·rename_i z k g hid
  split at h
  ·rename_i hk
   cases h;obtain⟨i,q,h1,y,d,B⟩:=lk g;refine⟨_,_,?_,RO HE (vals:=q.cells) (el:=t) hid (by rw[d]; exact Bw m z) (by rw[d]; exact B) (by rw[xl,hk]) (Bx m z)⟩;simp[AK,ll h1 y,newVar,newRow]
  ·cases h
 ·cases h
def xm(v:AV)(H:List ab):Option (AV × List ab) :=
 match oT v with
 |some cs=>some (.ptr H.length 0 0 0 0,H++[.box cs])
 |none=>none
theorem RQ{P:Program}{E:Env}(HE:aq E){t:TypeId}{x v:AV}{c:Value}{H':List ab}(h:xm x E.H=some (v,H'))(g:rel E x c) :
  ∃ u w',(aeK t c).run P E.w=.ok u w'∧cJ E v H' u w':=by
 unfold xm at h;split at h
 ·rename_i cs d
  cases h;obtain⟨h1,k⟩:=Bl d g;refine⟨_,_,?_,H9 HE (vals:=c.cells) (el:=t) h1 k⟩;simp[aeK,newVar,newRow]
 ·cases h
theorem H_{E:Env}(HE:aq E){sz n C:Nat}{rows:List (List AV)}{vals rest:List Value}{el:TypeId}(g:af E rows.flatten vals)(h1:∀ x∈vals,di x=true)
  (hw:∀ r∈rows,r.length=sz) (u:eV rows) (d:rows.length=n) (hC:n≤C) (q:rest.length=(C-n)*sz) :
  cJ E (.vec sz E.H.length 0 0 n) (E.H++[.vec sz 0 rows]) (.slice (some ⟨E.w.heap.size,0,none⟩) n C) { E.w with heap:=E.w.heap.push (.cells (vals++rest).toArray el) }:=by
 have h:=Ext.push E.w (.cells (vals++rest).toArray el);have hle:=Env.ju (o:=.vec sz 0 rows) (l:=some (E.w.heap.size,C)) HE.len h (fun b n hb=>by cases hb; exact aB _);have hblk:(E.w.heap.push (.cells (vals++rest).toArray el))[E.w.heap.size]? = some (.cells (vals++rest).toArray el (0,0)):=by simp
 have k:=Br (E':=E.push { E.w with heap:=E.w.heap.push (.cells (vals++rest).toArray el) } (.vec sz 0 rows) (some (E.w.heap.size,C))) (fun a c g=>bP hle a g) hblk g h1 hw d hC q;refine⟨E.loc++[some (E.w.heap.size,C)],E.X.r,?_,aq.push HE h (fun b n hb=>?_) ?_,hle⟩
 ·simp only [rel]
  refine⟨⟨_,_,rfl,hC,fun _=>⟨_,_,rfl⟩⟩,⟨.vec sz 0 rows,by simp,rfl,fun v y=>by simp[ab.aD]at y; omega⟩,fun _=>⟨fun d=>?_,fun b M d=>?_⟩⟩
  ·rw[←HE.len]at d; simp at d
  ·rw [← HE.len] at d
   simp at d;obtain⟨rfl,rfl⟩:=d;exact⟨by omega,0,fun _=>by simp,by simp⟩
 ·cases hb
  exact⟨aB _,by simp⟩
 ·simp only [aM]
  right;refine⟨E.w.heap.size,C,?_,k.1,by omega,u,k.2⟩;simp only[Env.push];rw[←HE.len];simp
theorem range_zero(z:Array Value)(n:Nat)(k:0<z.size):((gd (n*z.size)).map (fun i=>z[i%z.size]!)).toList=(bM n z.toList).flatten:=by
 induction n with
 |zero=>simp
 | succ n g =>
  rw[List.replicate_succ',wC,←g];simp only[qg,List.flatten_nil,cO];apply jR;intro i;simp only[QJ,Array.toList_range,bZ,e_,dJ,List.length_range];by_cases c1:i<n*z.size
  ·have c2 : i < (n + 1) * z.size := by rw [fo]; omega
   simp[c1,c2]
  ·by_cases c2 : i < (n + 1) * z.size
   ·have d : i - n * z.size < z.size := by rw [fo] at c2; omega
    have h:i%z.size=i-n*z.size:=by
     have:i=i-n*z.size+n*z.size:=by omega
     rw[this,Nat.add_mul_mod_self_right,Nat.mod_eq_of_lt d];omega
    simp[c1,c2,h,d]
   ·have d : ¬ (i - n * z.size < z.size) := by rw [fo] at c2; omega
    simp[c1,c2,d]
theorem Ia(f:Nat→Value):G9 f (gd 0)=#[]:=by apply fc; simp
def RR:Value→Option Kd
 |.int k _=>some (.int k)
 |.string _=>some .str
 |.bool _=>some .bool
 |_=>none
def By:List Value→Option (List Kd)
 | []=>some []
 | v::vs=>match RR v,By vs with
  |some k,some ks=>some (k::ks)
  |_,_=>none
def Bz(P:Program)(t:TypeId):Option (List Kd):=match P.underlying t with
 | some (.slice e)=>match P.info? e with
  | some i=>match i.zero with
   |some (.agg cs)=>By cs.toList
   |some v=>By [v]
   |none=>none
  |none=>none
 |_=>none
def BA(P:Program):Nat→TypeId→List TypeId
 |0,t=>[t]
 | d+1,t=>match P.underlying t with
  |some (.struct g)=>(g.toList.map fun f=>BA P d f.type).flatten
  |some (.array n e)=>(bM n (BA P d e)).flatten
  |_=>[t]
def mr:List Value→List (Option (List Kd))→List AV
 | [],_=>[]
 | v::vs,ks=>(match v,ks.headD none with
  |.slice none 0 0,some k=>.listF k []
  |v,_=>.lit v)::mr vs ks.tail
def xn(P:Program)(e:TypeId)(z:List Value):List AV:=mr z ((BA P 4 e).map (Bz P))
theorem Ib:∀(z:List Value) (ks:List (Option (List Kd))),(mr z ks).length=z.length
 | [],_=>rfl
 |_::z,ks=>by simp[mr,Ib z]
theorem Ic{E:Env}:∀(z:List Value) (ks:List (Option (List Kd))),af E (mr z ks) z
 | [],_=>by simp[mr,af]
 | v::z,ks=>by
  simp only[mr,af];refine⟨?_,Ic z _⟩;split
  ·simp only [rel, dS, G.rows]
   exact⟨none,0,rfl,aB _,.inl (by first|rfl|trivial)⟩
  ·simp[rel]
theorem Ie:∀(z:List Value) (ks:List (Option (List Kd))),AV.bp (mr z ks)=true
 | [],_=>rfl
 | v::z,ks=>by
  simp only[mr,AV.bp,Ie z,fO];split<;>rfl
theorem If{E:Env}{as:List AV}{z:List Value}(h:af E as z):∀ n:Nat,af E (bM n as).flatten (bM n z).flatten
 |0=>by simp[af]
 | n+1=>by
  simp only[QK,qg];exact jV h (If h n)
def tJ(P:Program)(t:TypeId)(l c:AV)(H:List ab):Option (AV × List ab) :=
 match b9 P t,l,c with
 | .slice e sz d,.lit (.int _ l),.lit (.int _ c) =>
  match dV P e with
  | some z=>if z.length=sz∧0<sz∧0≤l∧l≤c∧c≤1048576∧d≤1048576 then
    some (.vec sz H.length 0 0 l.toNat,H++[.vec sz 0 (bM l.toNat (xn P e z))]) else none
  |none=>none
 |_,_,_=>none
theorem wrap_small{n:Int}(h0:0≤n)(h1:n≤1048576):IntKind.i64.wrap n=n:=by
 simp[IntKind.wrap,IntKind.bits,IntKind.signed];omega
theorem tK{E:Env}(z:List Value):∀ n:Nat,af E (bM n (z.map AV.lit)).flatten (bM n z).flatten
 |0=>by simp[af]
 | n+1=>by
  simp only[QK,qg];exact jV (nu z) (tK z n)
theorem tL{α:Type}{z:List α}{n:Nat}{x:α}(h:x∈(bM n z).flatten):x∈z:=by
 obtain⟨l,h1,d⟩:=List.mem_flatten.1 h;rw[QL h1]at d;exact d
theorem BB:∀(z:List Value),AV.bp (z.map .lit)=true
 | []=>rfl
 |v::z=>by simp[AV.bp,AV.closed,BB z]
theorem RS{P:Program}{E:Env}(HE:aq E){t:TypeId}{l c v:AV}{cl M:Value}{H':List ab}(h:tJ P t l c E.H=some (v,H'))
  (N:rel E l cl) (O:rel E c M):∃ u w',(aeL t cl M).run P E.w=.ok u w'∧cJ E v H' u w':=by
 unfold tJ at h;split at h
 case h_2=>cases h
 rename_i e sz by_ k1 l k2 c hk;simp only[rel]at N O;subst N; subst O;obtain⟨hu,i,hi,hs,hby⟩:=gh hk;split at h
 case h_2=>cases h
 rename_i z hz;split at h
 case isFalse=>cases h
 rename_i V;obtain⟨g1,g2,g3,g4,g5,g6⟩:=V;cases h;obtain⟨i',d,B,hz1,I,hz3⟩:=lk hz;rw[hi]at B;cases B;have wl:IntKind.i64.wrap l=l:=wrap_small g3 (by omega);have wc:IntKind.i64.wrap c=c:=wrap_small (by omega) g5;have hbc:(i.bytes:Int)*c≤1048576*1048576:=by
  have h1:(i.bytes:Int)≤1048576:=by omega
  have g:(0:Int)≤c:=by omega
  exact Int.mul_le_mul h1 g5 g (by omega)
 have hne:¬ (281474976710656<(i.bytes:Int)*c):=by omega
 have hzs:d.cells.size=sz:=by rw[←g1,←I]; simp
 have y:(bM l.toNat z).flatten++(bM (c.toNat-l.toNat) z).flatten=(bM c.toNat z).flatten:=by
  rw[←wC,List.replicate_append_replicate];congr 2;omega
 obtain⟨vals,k⟩:∃ vals,vals=(bM l.toNat z).flatten:=⟨_,rfl⟩
 obtain⟨rest,J⟩:∃ rest,rest=(bM (c.toNat-l.toNat) z).flatten:=⟨_,rfl⟩
 have W:rest.length=(c.toNat-l.toNat)*sz:=by rw[J]; simp[g1]
 rw[←k,←J]at y;refine⟨.slice (some ⟨E.w.heap.size,0,none⟩) l.toNat c.toNat,{ E.w with heap:=E.w.heap.push (.cells (vals++rest).toArray e) },?_,?_⟩
 ·have h1 : ¬ c < 0 := by omega
  have g:¬ l<0:=by omega
  have h3:¬ c<l:=by omega
  simp only[aeL,bV,Sem.bq hu,bX,asInt,asIntOf,fa,typeInfo,run_program,hi,wl,wc];rw[if_neg (by simp[h1,g,h3,hne])];simp only[bV,run_askRoom,bX,Sem.run_sizeOf hi];rw[y];by_cases h0:c.toNat*i.size=0
  ·have:c.toNat=0:=by
    rcases QM.1 h0 with h|h
    ·exact h
    ·omega
   rw[if_pos h0];simp only[bV,fa,bX,newRow,this,qi,Ia];simp
  ·rw [if_neg h0]
   simp only[bV,ll hi hz1,bX,fa,newRow];have:(G9 (fun x=>d.cells[x%d.cells.size]!) (gd (c.toNat*i.size)))=(bM c.toNat z).flatten.toArray:=by
    apply fc;rw[hs,←hzs,range_zero d.cells c.toNat (by omega),I]
   rw[this];simp
 ·refine H_ HE (C := c.toNat) (by rw [k]; exact If (Ic z _) _) (by intro x U; rw [k] at U; exact hz3 x (tL U)) ?_ ?_ (by simp) (by omega) W
  ·intro r q
   have:=QL q;rw[this];rw[xn,Ib]; exact g1
  ·intro r q
   have:=QL q;rw[this];exact Ie z _
def qJ(P:Program)(t:TypeId)(n:Nat)(parts:List (Nat × AV)):Option AV :=
 match b9 P t with
 | .slice e sz _=>match dV P e with
  | some z=>if z.length=sz∧0<sz∧n*sz≤1048576 then
    match oU (fun i=>some (i*sz,sz)) (bM n (z.map AV.lit)).flatten parts with
    |some out=>if AV.bp out=true∧out.length=n*sz then some (match n with|0=>.nils|_=>.list sz (chunk sz n out)) else none
    |none=>none
   else none
  |none=>none
 |_=>none
theorem RT{P:Program}{E:Env}(HE:aq E){t:TypeId}{n:Nat}{parts:List (Nat × AV)}{cparts:List (Nat × Value)}{v:AV}(h:qJ P t n parts=some v)
  (hm:parts.map (·.1)=cparts.map (·.1)) (hv:af E (parts.map (·.2)) (cparts.map (·.2))) :
  ∃ u w',(G_ t n cparts.toArray).run P E.w=.ok u w'∧Ext E.w w'∧rel { E with w:=w' } v u:=by
 unfold qJ at h;split at h
 case h_2=>cases h
 rename_i e sz by_ hk;obtain⟨hu,i,hi,k,_⟩:=gh hk;split at h
 case h_2=>cases h
 rename_i z hz;obtain⟨i',q,I,U,J,V⟩:=lk hz;rw[hi]at I;cases I;split at h
 case isFalse=>cases h
 rename_i hc;obtain⟨g1,g2,g3⟩:=hc;split at h
 case h_2=>cases h
 rename_i out O;split at h
 case isFalse=>cases h
 rename_i M;cases h;have W:q.cells.size=sz:=by rw[←g1,←J]; simp
 obtain⟨d,g⟩:∃ d:Array Value,d.toList=(bM n z).flatten:=⟨((bM n z).flatten).toArray,by simp⟩
 obtain⟨o,f1,f2,f3⟩:=tF (E:=E) (cs:=d) O (by rw[g]; exact tK z n) (by rw[g]; intro x y; exact V x (tL y)) hm hv;have B:=Ext.push E.w (.cells o e);have hblk:(E.w.heap.push (.cells o e))[E.w.heap.size]? = some (.cells o e (0,0)):=by simp
 refine⟨.slice (some ⟨E.w.heap.size,0,none⟩) n n,{ E.w with heap:=E.w.heap.push (.cells o e) },?_,B,?_⟩
 ·have hno : ¬ (n * i.size > 2 ^ 24) := by rw [k]; omega
  simp only[G_,bV,Sem.bq hu,bX,Sem.run_sizeOf hi];rw[if_neg hno];by_cases h0:n*i.size=0
  ·have N:n=0:=by
    rcases QM.1 h0 with h|h
    ·exact h
    ·omega
   have:d=#[]:=by apply fc; rw[g,N]; rfl
   rw[if_pos h0];rw[this]at f1;simp only[bV,fa,bX,N,qi,Ia,k,f1];simp[newRow]
  ·rw [if_neg h0]
   simp only[bV,ll hi U,bX,fa];have:(G9 (fun x=>q.cells[x%q.cells.size]!) (gd (n*i.size)))=d:=by
    apply fc;rw[k,←W,range_zero q.cells n (by omega),J,g]
   rw[this,k,f1];simp[newRow]
 ·have hle : E.le { E with w := { E.w with heap := E.w.heap.push (.cells o e) } } := Env.iS B
  cases n with
  |zero=>simp only[rel]; exact⟨_,rfl⟩
  |succ n =>
  simp only[rel];refine⟨Bn sz _ out M.1,some ⟨E.w.heap.size,0,none⟩,n+1,by rw[tG],by rw[tG]; exact aB _,.inr ⟨E.w.heap.size,0,rfl,?_,?_⟩⟩
  ·refine ⟨by simp, ?_, fun y => by have := HE.X _ y; omega⟩
   rintro ho;have:=(HE.wZ ho).1;omega
  ·exact HS sz _ out _ 0 M.2 (Bo (cs:=o) (el:=e) (fr:=(0,0)) hblk (dw hle _ f2) f3)
end Go.AL

namespace Go.AL
open Go
variable [Dr]
def xo(P:Program)(t:TypeId)(x:AV)(H:List ab):Option (AV × List ab) :=
 match b9 P t,x with
 |.str,.lit (.string s)=>some (.ptr H.length 0 0 0 0,H++[.iter s 0])
 |_,_=>none
theorem RU{E:Env}(HE:aq E)(s:ByteArray) :
  cJ E (.ptr E.H.length 0 0 0 0) (E.H++[.iter s 0]) (.pointer (some ⟨E.w.heap.size,0,none⟩)) { E.w with heap:=E.w.heap.push (.stringIter s 0) }:=by
 have d:=Ext.push E.w (.stringIter s 0);have hle:=Env.ju (o:=.iter s 0) (l:=some (E.w.heap.size,0)) HE.len d (fun b n hb=>by cases hb; exact aB _);have hblk:(E.w.heap.push (.stringIter s 0))[E.w.heap.size]? = some (.stringIter s 0):=by simp
 refine⟨E.loc++[some (E.w.heap.size,0)],E.X.r,?_,aq.push HE d (fun b n hb=>?_) ?_,hle⟩
 ·simp only [rel]
  refine⟨⟨_,_,rfl⟩,⟨.iter s 0,by simp,rfl,fun v g=>by simp⟩,fun _=>⟨E.w.heap.size,0,?_,by simp⟩⟩;rw[←HE.len]; simp
 ·cases hb
  exact⟨aB _,by simp⟩
 ·simp only [aM]
  refine⟨E.w.heap.size,0,?_,hblk⟩;simp only[Env.push]; rw[←HE.len]; simp
theorem RV{P:Program}{E:Env}(HE:aq E){t:TypeId}{x v:AV}{c:Value}{H':List ab}(h:xo P t x E.H=some (v,H'))(d:rel E x c) :
  ∃ u w',(QN t c).run P E.w=.ok u w'∧cJ E v H' u w':=by
 unfold xo at h;split at h
 ·rename_i s hk
  cases h;simp only[rel]at d;subst d;refine⟨_,_,?_,RU HE s⟩;simp[QN,Sem.bq (oS hk),newObj];rfl
 ·cases h
def xp(x:AV)(isString:Bool)(H:List ab):Option (AV × List ab) :=
 match x,isString with
 | .ptr id 0 _ 0 0,true=>match H[id]? with
  | some (.iter s pos)=>if pos<s.size then some (.tuple [.lit (.bool true),.lit (goInt pos),.lit (.int .i32 (nf s pos).1)],H.set id (.iter s (pos+(nf s pos).2)))
    else some (.tuple [.lit (.bool false)],H)
  |_=>none
 |_,_=>none
theorem RW{P:Program}{E:Env}(HE:aq E){x v:AV}{c:Value}{isString:Bool}{ty:TypeId}{H':List ab}(h:xp x isString E.H=some (v,H'))(M:rel E x c) :
  ∃ u w',(Instr.next c isString ty).run P E.w=.ok u w'∧cJ E v H' u w':=by
 unfold xp at h;split at h
 case h_2=>cases h
 rename_i id k;split at h
 case h_2=>cases h
 rename_i s pos hid;have ho:=HE.obj id _ hid;simp only[aM]at ho;obtain⟨b,n,h1,g⟩:=ho;simp only[rel]at M;obtain⟨_,_,N⟩:=M;obtain⟨V,W,g1,g2⟩:=N ⟨_,hid,rfl⟩;rw[h1]at g1;simp only[aV,ba]at g1;obtain⟨rfl,rfl⟩:=g1;have hb:=(HE.lt id b n h1).1;split at h
 ·rename_i d
  cases h;subst g2;have J:({ E.w with heap:=E.w.heap.setIfInBounds b (.stringIter s (pos+(nf s pos).2)) }:World).heap.size=E.w.heap.size:=by simp
  have I:∀ y,y≠b→({ E.w with heap:=E.w.heap.setIfInBounds b (.stringIter s (pos+(nf s pos).2)) }:World).heap[y]? = E.w.heap[y]? := by
   intro y O;simp only[AM];rw[if_neg (fun e=>O e.symm)]
  refine⟨.tuple #[.bool true,goInt pos,.int .i32 (nf s pos).1],{ E.w with heap:=E.w.heap.setIfInBounds b (.stringIter s (pos+(nf s pos).2)) },?_,E.loc,E.X.r,?_,?_,?_⟩
  ·have q : (getObj b).run P E.w = .ok (.stringIter s pos) E.w := by simp [getObj, gf, g]
   have U:(setObj b (.stringIter s (pos+(nf s pos).2))).run P E.w=.ok () { E.w with heap:=E.w.heap.setIfInBounds b (.stringIter s (pos+(nf s pos).2)) }:=by
    simp[setObj,gf,g]
   simp only[Instr.next,qi,oI,bV,q,bX,d,if_true];rw[U];rfl
  ·simp[rel,af]
  ·exact HE.set hid h1 (fun v B=>B) J I (by
    simp only[aM];exact⟨b,n,h1,by simp[hb]⟩)
  ·exact Env.mo HE hid h1 (fun v B=>B) J I
 ·rename_i d
  cases h;subst g2;refine⟨.tuple #[.bool false],E.w,?_,E.loc,E.X.r,by simp[rel,af],by simpa using HE,Env.le.refl E⟩;have q:(getObj b).run P E.w=.ok (.stringIter s pos) E.w:=by simp[getObj,gf,g]
  simp only[Instr.next,qi,oI,bV,q,bX,d,if_false];rfl
end Go.AL

namespace Go.AL
open Go
variable [Dr]
def gV(P:Program)(d:TypeId)(a:AV):Option (List Value) :=
 match flatK P ml d with
 |none=>none
 | some ks=>match a with
  |.lit v=>if cz ks [v]=true∧mh (P.underlying d)=false then some [v] else none
  | .agg as=>match mg as with
   |some l=>if cz ks l=true∧mh (P.underlying d)=true then some l else none
   |none=>none
  |_=>none
def mu(P:Program)(d:TypeId)(l:List Value)(c:Value):Prop:=isVal P d c l∧∃ ks,flatK P ml d=some ks∧cz ks l=true
theorem gW{P:Program}{E:Env}{k:TypeId}{a:AV}{l:List Value}{c:Value}(h:gV P k a=some l)(g:rel E a c):mu P k l c:=by
 unfold gV at h;split at h
 ·cases h
 rename_i ks hk;split at h
 ·split at h
  ·rename_i v d
   cases h;simp only[rel]at g;subst g;refine⟨?_,ks,hk,d.1⟩;unfold isVal;split
   ·rename_i q hu
    rw[hu]at d;exact absurd d.2 (by simp[mh])
   ·rfl
  ·cases h
 ·split at h
  ·rename_i as l' y
   split at h
   ·rename_i d
    cases h;simp only[rel]at g;obtain⟨cs,rfl,_,B⟩:=g;refine⟨?_,ks,hk,d.1⟩;have e:=xd y B;unfold isVal;split
    ·exact⟨cs,rfl,e⟩
    ·rename_i u
     exfalso;have:=d.2;unfold mh at this;split at this
     ·rename_i q hu
      exact u q hu
     ·cases this
   ·cases h
  ·cases h
 ·cases h
theorem Ig{P:Program}:∀(d:Nat) (k:List Field) (off:Nat) (ks:List SK),tD P d k off=some ks→∀(xs:Array Value),cz ks (xs.toList.drop off)=true→∀ w:World,∀ f∈k,f.name ≠ "_" ∧
  ∃ q x vs,flatK P d f.type=some q∧(part f.type xs f.offset).run P w=.ok x w∧isVal P f.type x vs∧cz q vs=true
 |d,[],off,ks,hk,xs,y,w,f,h=>by cases h
 | d,g::k,off,ks,hk,xs,y,w,f,h=>by
  unfold tD qC at hk;split at hk
  ·cases hk
  rename_i B;split at hk
  case h_2=>cases hk
  rename_i q n W I N;split at hk
  case isFalse=>cases hk
  rename_i J;split at hk
  case h_2=>cases hk
  rename_i l O;cases hk;have M:g.offset=off:=by
   by_cases e:g.offset=off
   ·exact e
   ·exact(B (.inr e)).elim
  obtain⟨u,v⟩:=xc y;rw[←J]at u v;rcases bW.1 h with rfl|h
  ·obtain ⟨x, U, V⟩ := Bf N I J xs off u w
   exact⟨fun e=>B (.inl e),q,x,_,I,by rw[M]; exact U,V,u⟩
  ·exact Ig d k (off+n) l O xs (by rw[oH]at v; exact v) w f h
theorem Ih{P:Program}(em:Bool):∀(d:Nat) (t:TypeId) (ks:List SK),flatK P d t=some ks→∀(D:Nat),d≤D→∀(x:Value) (vs:List Value),isVal P t x vs→cz ks vs=true →
  ∀ w,(tb em D t x).run P w=.ok () w
 |0,_,_,hk=>by simp[flatK]at hk
 | d+1,t,ks,hk=>by
  intro D hD x vs h g w;obtain⟨D,rfl⟩:∃ u,D=u+1:=⟨D-1,by omega⟩
  unfold flatK at hk;cases hu:P.underlying t with
  |none=>rw[hu]at hk; cases hk
  | some v =>
   rw[hu]at hk;cases v with
   | struct q =>
    simp only[]at hk;split at hk
    ·cases hk
    simp only[isVal,hu]at h;obtain⟨a,rfl,rfl⟩:=h;have each:=Ig d q.toList 0 ks hk a (by simpa using g) w;have deep:∀ f∈q.toList,f.name ≠ "_" ∧ ∃ x,(part f.type a f.offset).run P w=.ok x w∧(tb em D f.type x).run P w=.ok () w:=fun f B=>by
     obtain⟨h1,I,x,vs,J,M,N,O⟩:=each f B;exact⟨h1,x,M,Ih em d f.type I J D (by omega) x vs N O w⟩
    rw[tb];simp only[bV,Sem.bq hu,bX];rw[←Array.forIn_toList];clear each hk;generalize q.toList=L at deep
    induction L with
    |nil=>simp
    | cons f L U =>
     obtain⟨V,x,p1,W⟩:=deep f (by simp);simp only[List.forIn_cons,bV,V,ne_eq,not_false_eq_true,if_true,bX,p1,W,fa];exact U (fun y hy=>deep y (by simp[hy]))
   | int k =>
    simp at hk;subst hk;simp only[isVal,hu]at h;subst h;simp only[cz,fO]at g;unfold kindOk at g;split at g<;>simp_all[tb,Sem.bq hu]
   | string =>
    simp at hk;subst hk;simp only[isVal,hu]at h;subst h;simp only[cz,fO]at g;unfold kindOk at g;split at g<;>simp_all[tb,Sem.bq hu]
   | bool =>
    simp at hk;subst hk;simp only[isVal,hu]at h;subst h;simp only[cz,fO]at g;unfold kindOk at g;split at g<;>simp_all[tb,Sem.bq hu]
   |_=>simp at hk
theorem fS{P:Program}{d:TypeId}{l:List Value}{c:Value}(h:mu P d l c)(em:Bool)(w:World):(tb em 10000 d c).run P w=.ok () w:=by
 obtain⟨h1,ks,g,k⟩:=h;exact Ih em ml d ks g 10000 (by decide) c l h1 k w
theorem RX{P:Program}{g:TypeId}{l m:List Value}{c d:Value}(h:mu P g l c)(h':mu P g m d)(w:World):(wA g c d).run P w=.ok (dp l m) w:=by
 obtain⟨h1,ks,k,u⟩:=h;obtain⟨v,B,q,y⟩:=h';rw[k]at q;cases q;exact Bg ml g ks k 10000 (by decide) c d l m h1 v u y w
def ed(P:Program)(d:TypeId)(k:List Value):List (AV × AV × Nat)→Nat→Option (Option (Nat × AV))
 | [],_=>some none
 | (k',v,_)::es,i=>match gV P d k' with
  |some l=>bif dp k l then some (some (i,v)) else ed P d k es (i+1)
  |none=>none
def c5(E:Env)(ms:List MapEntry)(i0:Nat):Option (Nat × AV)→Option (Nat × Value)→Prop
 |none,none=>True
 |some (i,v),some (j,c)=>i=j∧rel E v c∧i0≤i∧∃ e,ms[i-i0]? = some e∧e.val=c
 |_,_=>False
theorem Ii{P:Program}{E:Env}{g:TypeId}{k:List Value}{c:Value}(hk:mu P g k c)(w:World):∀(es:List (AV × AV × Nat)) (ms:List MapEntry) (i:Nat) (r:Option (Nat × AV)),
  bC E es ms→ed P g k es i=some r→∃ r',(QO g c ms i).run P w=.ok r' w∧c5 E ms i r r'
 | [],[],i,r,_,h=>by
  simp only[ed,aV]at h;subst h;exact⟨none,rfl,trivial⟩
 | [],_::_,_,_,d,_=>by simp[bC]at d
 |(_,_,_)::_,[],_,_,d,_=>by simp[bC]at d
 | (k',v,n)::es,e::ms,i,r,d,h=>by
  simp only[bC]at d;obtain⟨h1,y,U,V,W,B⟩:=d;simp only[ed]at h;split at h
  case h_2=>cases h
  rename_i l I;have he:=RX hk (gW I h1) w;cases u:dp k l with
  | true =>
   rw[u]at h he;cases h;refine⟨some (i,e.val),by simp[QO,he],rfl,y,aB _,e,by simp,rfl⟩
  | false =>
   rw[u]at h he;obtain⟨r',g1,g2⟩:=Ii hk w es ms (i+1) r B h;refine⟨r',by simp[QO,he,g1],?_⟩;cases r with
   | none=>cases r' with
    |none=>trivial
    |some _=>simp[c5]at g2
   | some p=>cases r' with
    |none=>simp[c5]at g2
    | some q =>
     simp only[c5]at g2⊢;obtain⟨J,M,q3,e',N,O⟩:=g2;refine⟨J,M,by omega,e',?_,O⟩;rw[show p.1-i=(p.1-(i+1))+1 from by omega];simpa using N
theorem Ij{P:Program}{E:Env}{O:TypeId}{k:List Value}{c:Value}{d:TypeDesc}(hu:P.underlying O=some d)(hk:mu P O k c):∀(es:List (AV × AV × Nat)) (ms:List MapEntry) (i:Nat) (r:Option (Nat × AV)),
  bC E es ms→ed P O k es i=some r→(∃ r',wD d c ms i=some r'∧c5 E ms i r r')∨wD d c ms i=none
 | [],[],i,r,_,h=>by
  simp only[ed,aV]at h;subst h;exact .inl ⟨none,rfl,trivial⟩
 | [],_::_,_,_,M,_=>by simp[bC]at M
 |(_,_,_)::_,[],_,_,M,_=>by simp[bC]at M
 | (k',v,n)::es,e::ms,i,r,M,h=>by
  simp only[bC]at M;obtain⟨h1,W,h3,h4,h5,h6⟩:=M;simp only[ed]at h;split at h
  case h_2=>cases h
  rename_i l hl;have V:=gW hl h1;have same:wE d c e.key=some (dp k l)∨wE d c e.key=none:=by
   obtain⟨p1,ks,u,B⟩:=hk;obtain⟨I,ks',N,y⟩:=V;rw[u]at N;cases N;unfold ml at u;unfold flatK at u;rw[hu]at u;cases d with
   |struct fs=>right; simp[wE]
   | int kk =>
    simp at u;subst u;simp only[isVal,hu]at p1 I;subst p1; subst I;simp only[cz,fO]at B y;unfold kindOk at B y;left;split at B<;>split at y<;>simp_all[wE,dp,ny]
   | string =>
    simp at u;subst u;simp only[isVal,hu]at p1 I;subst p1; subst I;simp only[cz,fO]at B y;unfold kindOk at B y;left;split at B<;>split at y<;>simp_all[wE,dp,ny,beq_toListBytes]
   | bool =>
    simp at u;subst u;simp only[isVal,hu]at p1 I;subst p1; subst I;simp only[cz,fO]at B y;unfold kindOk at B y;left;split at B<;>split at y<;>simp_all[wE,dp,ny]
   |_=>simp at u
  rcases same with J|J
  ·cases U : dp k l with
   | true =>
    rw[U]at h J;cases h;exact .inl ⟨some (i,e.val),by simp[wD,J],rfl,W,aB _,e,by simp,rfl⟩
   | false =>
    rw[U]at h J;rcases Ij hu hk es ms (i+1) r h6 h with⟨r',g1,g2⟩|g
    ·refine .inl ⟨r', by simp [wD, J, g1], ?_⟩
     cases r with
     | none=>cases r' with
      |none=>trivial
      |some _=>simp[c5]at g2
     | some p=>cases r' with
      |none=>simp[c5]at g2
      | some q =>
       simp only[c5]at g2⊢;obtain⟨I,N,y,e',q4,q5⟩:=g2;refine⟨I,N,by omega,e',?_,q5⟩;rw[show p.1-i=(p.1-(i+1))+1 from by omega];simpa using q4
    ·exact .inr (by simp[wD,J,g])
  ·exact .inr (by simp[wD,J])
theorem gJ{P:Program}{E:Env}{q:TypeId}{k:List Value}{c:Value}(hk:mu P q k c)(w:World){es:List (AV × AV × Nat)}{ms:List MapEntry}{r:Option (Nat × AV)}
  (v:bC E es ms) (h:ed P q k es 0=some r):∃ r',(QP q c ms).run P w=.ok r' w∧c5 E ms 0 r r':=by
 have hu:∃ d,P.underlying q=some d:=by
  obtain⟨_,ks,u,_⟩:=hk;unfold ml at u;unfold flatK at u;split at u<;>first|exact⟨_,by assumption⟩|cases u
 obtain⟨d,hu⟩:=hu;rcases Ij hu hk es ms 0 r v h with⟨r',g1,g2⟩|g
 ·exact⟨r',by simp[QP,Sem.bq hu,g1],g2⟩
 ·obtain ⟨r', g1, g2⟩ := Ii hk w es ms 0 r v h
  exact⟨r',by simp[QP,Sem.bq hu,g,g1],g2⟩
def cX(P:Program)(t:TypeId):Option (TypeId × TypeId):=match P.underlying t with
 |some (.map k e)=>some (k,e)
 |_=>none
theorem fg{P:Program}{t k e:TypeId}(h:cX P t=some (k,e)):P.underlying t=some (.map k e):=by
 unfold cX at h;split at h
 ·rename_i h1; cases h; exact h1
 ·cases h
def gK(P:Program)(t:TypeId):Option AV:=match P.info? t with
 | some i=>match i.zero with
  |some z=>some (AV.qx z)
  |none=>none
 |none=>none
theorem qK{P:Program}{t:TypeId}{a:AV}(h:gK P t=some a)(w:World):∃ z,(zeroValue t).run P w=.ok z w∧∀ E,rel E a z:=by
 unfold gK at h;split at h
 ·rename_i i hi
  split at h
  ·rename_i z d
   cases h;exact⟨z,ll hi d w,fun E=>HB E z⟩
  ·cases h
 ·cases h
def mv(P:Program)(t:TypeId):Option AV:=match gK P t,Bz P t with
 |some (.lit (.slice none 0 0)),some ks=>some (.listF ks [])
 |some z,_=>some z
 |none,_=>none
theorem Ik{P:Program}{t:TypeId}{a:AV}(h:mv P t=some a)(w:World):∃ z,(zeroValue t).run P w=.ok z w∧∀ E,rel E a z:=by
 unfold mv at h;split at h
 ·rename_i ks h1 d
  cases h;obtain⟨z,g1,g2⟩:=qK h1 w;refine⟨z,g1,fun E=>?_⟩;have:=g2 E;simp only[rel]at this;subst this;simp only[rel,dS,G.rows];exact⟨none,0,rfl,aB _,.inl (by first|rfl|trivial)⟩
 ·rename_i z h1 _
  cases h;exact qK ‹gK P t=some a› w
 ·cases h
def fG(P:Program)(t:TypeId)(m k:AV)(ok:Bool)(H:List ab):Option AV :=
 match cX P t,m with
 | some (d,g),.map id=>match H[id]? with
  | some (.map es _)=>match gV P d k,mv P g with
   | some h,some z=>match ed P d h es 0 with
    | some r=>let v:=match r with
      |some (_,v)=>v
      |none=>z
     some (match ok with
      |true=>.tuple [v,.lit (.bool r.isSome)]
      |false=>v)
    |none=>none
   |_,_=>none
  |_=>none
 |_,_=>none
theorem oW{E:Env}(HE:aq E){id cl:Nat}{es:List (AV × AV × Nat)}{c:Value}(hid:E.H[id]? = some (.map es cl))(d:rel E (.map id) c) :
  ∃ b n ms,c=.map (some b)∧E.loc[id]? = some (some (b,n))∧E.w.heap[b]? = some (.map ms cl)∧bC E es ms.toList:=by
 have ho:=HE.obj id _ hid;simp only[aM]at ho;obtain⟨b,n,ms,h1,g,h⟩:=ho;simp only[rel]at d;obtain⟨_,_,k⟩:=d;obtain⟨q,u,g1,g2⟩:=k ⟨_,hid,rfl⟩;rw[h1]at g1;simp only[aV,ba]at g1;obtain⟨rfl,rfl⟩:=g1;exact⟨b,n,ms,g2,h1,g,h⟩
theorem Il{P:Program}{E:Env}(HE:aq E){t:TypeId}{m k v:AV}{ok:Bool}{c d:Value}(h:fG P t m k ok E.H=some v)(hm:rel E m c)(hk:rel E k d) :
  ∃ u,(ku t c d ok).run P E.w=.ok u E.w∧rel E v u:=by
 unfold fG at h;split at h
 case h_2=>cases h
 rename_i kt et id y;split at h
 case h_2=>cases h
 rename_i es cl hid;split at h
 case h_2=>cases h
 rename_i kv z M N;split at h
 case h_2=>cases h
 rename_i r O;obtain⟨b,n,ms,rfl,h1,U,V⟩:=oW HE hid hm;have g:=gW M hk;obtain⟨r',g1,g2⟩:=gJ g E.w V O;obtain⟨B,W,z2⟩:=Ik N E.w;have I:(getObj b).run P E.w=.ok (.map ms cl) E.w:=by simp[getObj,gf,U]
 cases h;cases r with
 | none =>
  cases r' with
  |some _=>simp[c5]at g2
  | none =>
   refine⟨if ok then .tuple #[B,.bool false] else B,?_,?_⟩
   ·simp only[ku,bV,Sem.bq (fg y),bX,I,fa,fS g,g1,W]
   ·cases ok with
    |true=>simp[rel,af,z2 E]
    |false=>simpa using z2 E
 | some p =>
  cases r' with
  |none=>simp[c5]at g2
  | some q =>
   simp only[c5]at g2;obtain⟨q1,J,_,_,_,_⟩:=g2;refine⟨if ok then .tuple #[q.2,.bool true] else q.2,?_,?_⟩
   ·simp only[ku,bV,Sem.bq (fg y),bX,I,fa,fS g,g1]
   ·cases ok with
    |true=>simp[rel,af,J]
    |false=>simpa using J
theorem RY{E:Env}(HE:aq E):cJ E (.map E.H.length) (E.H++[.map [] 0]) (.map (some E.w.heap.size)) { E.w with heap:=E.w.heap.push (.map #[] 0) }:=by
 have d:=Ext.push E.w (.map #[] 0);have hle:=Env.ju (o:=.map [] 0) (l:=some (E.w.heap.size,0)) HE.len d (fun b n hb=>by cases hb; exact aB _);have hblk:(E.w.heap.push (.map #[] 0))[E.w.heap.size]? = some (.map #[] 0):=by simp
 refine⟨E.loc++[some (E.w.heap.size,0)],E.X.r,?_,aq.push HE d (fun b n hb=>?_) ?_,hle⟩
 ·simp only [rel]
  refine⟨⟨_,rfl⟩,⟨.map [] 0,by simp,rfl,fun v g=>er _⟩,fun _=>⟨E.w.heap.size,0,?_,rfl⟩⟩;rw[←HE.len]; simp
 ·cases hb
  exact⟨aB _,by simp⟩
 ·simp only [aM]
  refine⟨E.w.heap.size,0,#[],?_,hblk,by simp[bC]⟩;simp only[Env.push]; rw[←HE.len]; simp
def oX(id:Nat)(H:List ab):Option (AV × List ab) :=
 match H[id]? with
 |some .dK=>some (.map id,H.set id (.map [] 0))
 |_=>none
theorem BC{id:Nat}{H H':List ab}{v:AV}(h:oX id H=some (v,H')):H[id]? = some .dK∧v=.map id∧H'=H.set id (.map [] 0):=by
 unfold oX at h;split at h
 ·rename_i hid
  cases h;exact⟨hid,rfl,rfl⟩
 ·cases h
theorem Im{id:Nat}{H:List ab}(h:H[id]? = some .dK):oX id H=some (.map id,H.set id (.map [] 0)):=by
 unfold oX;rw[h]
theorem RZ{E:Env}(HE:aq E){id:Nat}(hid:E.H[id]? = some .dK):cJ E (.map id) (E.H.set id (.map [] 0)) (.map (some E.w.heap.size)) { E.w with heap:=E.w.heap.push (.map #[] 0) }:=by
 have d:=Ext.push E.w (.map #[] 0);have B:=aL hid;have k:(ab.dK).born=true→(ab.dK).aD = none→(ab.map [] 0).aD = none:=fun h=>by cases h
 have y:∀ v,(ab.map [] 0).aD = some v→∀ u,(ab.dK).aD = some u→u<v:=fun v _ u hu=>by cases hu
 have I:∀ v u,(ab.map [] 0).aD = some v→(ab.dK).aD = some u→u≤v:=fun v u _ hu=>by cases hu
 have hblk:(E.w.heap.push (.map #[] 0))[E.w.heap.size]? = some (.map #[] 0):=by simp
 have q:(E.loc.set id (some (E.w.heap.size,0)))[id]? = some (some (E.w.heap.size,0)):=bB (by rw[HE.len]; exact B);have hle:E.le { w:={ E.w with heap:=E.w.heap.push (.map #[] 0) },H:=E.H.set id (.map [] 0),loc:=E.loc.set id (some (E.w.heap.size,0)),X:=E.X } :=
  Env.jv hid HE.len d.size (fun x g _=>d.same x g) (fun b n h=>by cases h; exact .inl (aB _)) (.inr y) I k
 refine⟨E.loc.set id (some (E.w.heap.size,0)),E.X.r,?_,?_,hle⟩
 ·simp only [rel]
  exact⟨⟨_,rfl⟩,⟨.map [] 0,by simp[B],rfl,fun v J=>er _⟩,fun _=>⟨E.w.heap.size,0,q,rfl⟩⟩
 ·refine aq.kH HE hid d.size (fun x g _ => d.same x g) (fun b n h => by cases h; exact .inl ⟨aB _, by simp⟩) (.inr y) I k ?_
  simp only[aM];exact⟨E.w.heap.size,0,#[],q,hblk,by simp[bC]⟩
theorem R0{P:Program}{E:Env}(HE:aq E){t:TypeId}{id:Nat}{v:AV}{H':List ab}(h:oX id E.H=some (v,H')) :
  ∃ u w',(QQ t none).run P E.w=.ok u w'∧cJ E v H' u w':=by
 obtain⟨h1,rfl,rfl⟩:=BC h;exact⟨_,_,by simp[QQ,newObj]; rfl,RZ HE h1⟩
theorem Io{a b:ByteArray}(h:a.toList=b.toList):a=b:=by
 have h1:(a==b)=true:=by rw[beq_toListBytes,h]; simp
 obtain⟨x⟩:=a;obtain⟨y⟩:=b;have e:x=y:=by simpa using(show (x==y)=true from h1)
 rw[e]
theorem Ip:∀{l m:List Value} {ks:List SK},cz ks l=true→cz ks m=true→dp l m=true→l=m
 | [],[],_,_,_,_=>rfl
 | a::l,b::m,ks,h1,d,h=>by
  cases ks with
  |nil=>simp[cz]at h1
  | cons k ks =>
   simp only[cz,ax]at h1 d;simp only[dp,ax]at h;have e:a=b:=by
    have g:=h1.1;have q:=d.1;have u:=h.1;unfold kindOk at g q;split at g<;>split at q<;>simp_all[ny]
    exact Io h.1
   rw[e,Ip h1.2 d.2 h.2]
 | [],_::_,_,_,_,h|_::_,[],_,_,_,h=>by simp[dp]at h
theorem Iq{ks:List SK}:∀{l:List Value},cz ks l=true→∀(n:Nat),(l.zip l).all (fun(x,y)=>G' n x y)=true:=by
 intro l
 induction l generalizing ks with
 |nil=>intro _ _; rfl
 | cons a l d =>
  intro h n;cases ks with
  |nil=>simp[cz]at h
  | cons k ks =>
   simp only[cz,ax]at h;simp only[List.zip_cons_cons,List.all_cons,ax];refine⟨?_,d h.2 n⟩;have hk:=h.1;unfold kindOk at hk;split at hk<;>cases n<;>simp_all[G',beq_toListBytes]
theorem xq{P:Program}{q:TypeId}{l m:List Value}{c d:Value}(h:mu P q l c)(h':mu P q m d)(he:dp l m=true):c=d∧G' 10000 d c=true:=by
 obtain⟨h1,ks,B,k⟩:=h;obtain⟨g,J,u,I⟩:=h';rw[B]at u;cases u;have e:=Ip k I he;subst e;unfold isVal at h1 g;split at h1
 ·rename_i v hu
  rw[hu]at g;simp only[]at g;obtain⟨a,rfl,ha⟩:=h1;obtain⟨b,rfl,hb⟩:=g;have:a=b:=by apply fc; rw[ha,hb]
  subst this;refine⟨rfl,?_⟩;simp only[G',beq_self_eq_true,Bool.true_and];rw[ha];exact Iq k 9999
 ·rename_i y
  split at g
  ·rename_i v hu
   exact(y v hu).elim
  ·have : c = d := by rw [h1] at g; simpa using g
   subst this;refine⟨rfl,?_⟩;have:=Iq k 10000;rw[h1]at this;simpa using this
def lp(P:Program)(t:TypeId)(m k v:AV)(H:List ab):Option (List ab) :=
 match cX P t,m with
 | some (d,_),.map id=>match H[id]? with
  | some (.map es cl)=>match gV P d k with
   | some g=>if v.closed=true∧k.closed=true then
     match ed P d g es 0 with
     |some (some (i,_))=>some (H.set id (.map (es.modify i fun e=>(k,v,e.2.2)) cl))
     |some none=>some (H.set id (.map (es++[(k,v,cl)]) (cl+1)))
     |none=>none
    else none
   |none=>none
  |_=>none
 |_,_=>none
theorem dW{E:Env}:∀{es:List (AV × AV × Nat)} {ms:List MapEntry},bC E es ms↔es.length=ms.length∧∀(i:Nat) x e,es[i]? = some x→ms[i]? = some e →
  rel E x.1 e.key∧rel E x.2.1 e.val∧e.born=x.2.2∧x.1.closed=true∧x.2.1.closed=true
 | [],[]=>by simp[bC]
 | [],_::_=>by simp[bC]
 |(_,_,_)::_,[]=>by simp[bC]
 | (k,v,n)::es,e::ms=>by
  simp only[bC,dW (es:=es),cw];constructor
  ·rintro ⟨h1, h, q, u, B, M, I⟩
   refine⟨by omega,fun i x y d g=>?_⟩;cases i with
   |zero=>simp at d g; subst d; subst g; exact⟨h1,h,q,u,B⟩
   |succ i=>exact I i x y (by simpa using d) (by simpa using g)
  ·rintro ⟨h1, h⟩
   obtain⟨J,a2,a3,a4,a5⟩:=h 0 (k,v,n) e rfl rfl;exact⟨J,a2,a3,a4,a5,by omega,fun i x y d g=>h (i+1) x y (by simpa using d) (by simpa using g)⟩
theorem xr{P:Program}{E:Env}(HE:aq E){id b n cl cl':Nat}{es es':List (AV × AV × Nat)}{ms ms':Array MapEntry}(hid:E.H[id]? = some (.map es cl)) (d:E.loc[id]? = some (some (b,n)))
  (hb:E.w.heap[b]? = some (.map ms cl)) (q:bC E es' ms'.toList) :
  ∃ w',(setObj b (.map ms' cl')).run P E.w=.ok () w'∧aq { w:=w',H:=E.H.set id (.map es' cl'),loc:=E.loc,X:=E.X }∧E.le { w:=w',H:=E.H.set id (.map es' cl'),loc:=E.loc,X:=E.X }:=by
 have u:=(HE.lt id b n d).1;have k:({ E.w with heap:=E.w.heap.setIfInBounds b (.map ms' cl') }:World).heap.size=E.w.heap.size:=by simp
 have h:∀ y,y≠b→({ E.w with heap:=E.w.heap.setIfInBounds b (.map ms' cl') }:World).heap[y]? = E.w.heap[y]? := by
  intro y B;simp only[AM];rw[if_neg (fun e=>B e.symm)]
 refine⟨{ E.w with heap:=E.w.heap.setIfInBounds b (.map ms' cl') },by simp[setObj,gf,hb],?_,?_⟩
 ·have hle : E.le { w := { E.w with heap := E.w.heap.setIfInBounds b (.map ms' cl') }, H := E.H.set id (.map es' cl'), loc := E.loc, X := E.X } := Env.mo HE hid d (fun v g => g) k h
  refine HE.set hid d (fun v g=>g) k h ?_;simp only[aM];refine⟨b,n,ms',d,by simp[u],?_⟩;rw[dW]at q⊢;refine⟨q.1,fun i x e I he=>?_⟩;obtain⟨J,a2,a3,a4,a5⟩:=q.2 i x e I he;exact⟨bP hle _ J,bP hle _ a2,a3,a4,a5⟩
 ·exact Env.mo HE hid d (fun v g=>g) k h
theorem tM{P:Program}{g:TypeId}{k:List Value}:∀{es:List (AV × AV × Nat)} {i j:Nat} {v:AV},ed P g k es i=some (some (j,v))→i≤j∧∃ x l,es[j-i]? = some x∧gV P g x.1=some l∧dp k l=true
 | [],_,_,_,h=>by simp[ed]at h
 | (k',q,n)::es,i,j,v,h=>by
  simp only[ed]at h;split at h
  case h_2=>cases h
  rename_i l u;cases d:dp k l with
  | true =>
   rw[d]at h;cases h;exact⟨aB _,(k',q,n),l,by simp,u,d⟩
  | false =>
   rw[d]at h;obtain⟨h1,x,l',y,B,I⟩:=tM h;refine⟨by omega,x,l',?_,B,I⟩;rw[show j-i=(j-(i+1))+1 from by omega];simpa using y
theorem Ir{P:Program}{E:Env}(HE:aq E){t:TypeId}{m k v:AV}{c d u:Value}{H':List ab}(h:lp P t m k v E.H=some H')(hm:rel E m c)(hk:rel E k d)(W:rel E v u) :
  ∃ w',(l6 t c d u).run P E.w=.ok () w'∧aq { w:=w',H:=H',loc:=E.loc,X:=E.X }∧E.le { w:=w',H:=H',loc:=E.loc,X:=E.X }:=by
 unfold lp at h;split at h
 case h_2=>cases h
 rename_i kt et id ht;split at h
 case h_2=>cases h
 rename_i es cl hid;split at h
 case h_2=>cases h
 rename_i kv hkv;split at h
 case isFalse=>cases h
 rename_i J;obtain⟨b,n,ms,rfl,h1,O,U⟩:=oW HE hid hm;have I:=gW hkv hk;have e1:(getObj b).run P E.w=.ok (.map ms cl) E.w:=by simp[getObj,gf,O]
 obtain⟨hlen,N⟩:=dW.1 U;split at h
 ·rename_i i v0 M
  cases h;obtain⟨r',g1,g2⟩:=gJ I E.w U M;cases r' with
  |none=>simp[c5]at g2
  | some q =>
   simp only[c5]at g2;obtain⟨q1,q2,_,e',V,q5⟩:=g2;obtain⟨_,x,l,f1,f2,f3⟩:=tM M;simp only[ga]at V f1;obtain⟨a1,a2,a3,a4,a5⟩:=N i x e' f1 V;obtain⟨s1,s2⟩:=xq I (gW f2 a1) f3;have q4':ms[i]? = some e':=by simpa using V
   obtain⟨w',r1,r2,r3⟩:=xr (P:=P) HE (es':=es.modify i fun e=>(k,v,e.2.2)) (ms':=ms.modify i fun e=>{ e with key:=d,val:=u }) (cl':=cl) hid h1 O (by
    rw[dW];refine⟨by simp[hlen],fun j y z g B=>?_⟩;simp only[iA]at g;simp only[kz,iA]at B;obtain⟨y0,hy0,rfl⟩:=dQ.1 g;obtain⟨z0,hz0,rfl⟩:=dQ.1 B;obtain⟨b1,b2,b3,b4,b5⟩:=N j y0 z0 hy0 hz0;by_cases e:i=j
    ·subst e
     simp only[if_true];exact⟨hk,W,b3,J.2,J.1⟩
    ·simp only [if_neg e]
     exact⟨b1,b2,b3,b4,b5⟩)
   refine⟨w',?_,r2,r3⟩;subst q1;have hst:(qk e'.key d).run P E.w=.ok d E.w:=by simp[qk,s2]
   simp only[l6,bV,Sem.bq (fg ht),bX,e1,fS I,g1,q4',eJ,l7,hst];exact r1
 ·rename_i M
  cases h;obtain⟨r',g1,g2⟩:=gJ I E.w U M;cases r' with
  |some _=>simp[c5]at g2
  | none =>
   obtain⟨w',r1,r2,r3⟩:=xr (P:=P) HE (es':=es++[(k,v,cl)]) (ms':=ms.push { key:=d,val:=u,born:=cl }) (cl':=cl+1) hid h1 O (by
    rw[dW];refine⟨by simp[hlen],fun j y z g B=>?_⟩;simp only[oK,e_,hlen]at g B;by_cases e:j<ms.toList.length
    ·simp only [if_pos e] at g B
     exact N j y z g B
    ·simp only [if_neg e] at g B
     cases hj:j-ms.toList.length with
     | zero =>
      rw[hj]at g B;simp at g B;subst g; subst B;exact⟨hk,W,rfl,J.2,J.1⟩
     |succ _=>rw[hj]at g; simp at g)
   refine⟨w',?_,r2,r3⟩;simp only[l6,bV,Sem.bq (fg ht),bX,e1,fS I,g1];exact r1
 ·cases h
def tN(P:Program)(t:TypeId)(m k:AV)(H:List ab):Option (List ab) :=
 match cX P t,m with
 | some (d,_),.map id=>match H[id]? with
  | some (.map es cl)=>match gV P d k with
   | some g=>match ed P d g es 0 with
    |some (some (i,_))=>some (H.set id (.map (es.eraseIdx i) cl))
    |some none=>some (H.set id (.map es cl))
    |none=>none
   |none=>none
  |_=>none
 |_,_=>none
theorem R3{P:Program}{E:Env}(HE:aq E){t ty:TypeId}{tys:Array TypeId}{m k:AV}{c d:Value}{cs:Array Value}{H':List ab}(h:tN P t m k E.H=some H')(h0:tys[0]? = some t)
  (N:cs[0]? = some c) (O:cs[1]? = some d) (hm:rel E m c) (hk:rel E k d) :
  ∃ w',(QR tys ty cs).run P E.w=.ok (.tuple #[]) w'∧aq { w:=w',H:=H',loc:=E.loc,X:=E.X }∧E.le { w:=w',H:=H',loc:=E.loc,X:=E.X }:=by
 unfold tN at h;split at h
 case h_2=>cases h
 rename_i kt et id U;split at h
 case h_2=>cases h
 rename_i es cl hid;split at h
 case h_2=>cases h
 rename_i kv hkv;obtain⟨b,n,ms,rfl,h1,I,B⟩:=oW HE hid hm;have v:=gW hkv hk;have V:(getObj b).run P E.w=.ok (.map ms cl) E.w:=by simp[getObj,gf,I]
 obtain⟨hlen,M⟩:=dW.1 B;split at h
 ·rename_i i v0 J
  cases h;obtain⟨r',g1,g2⟩:=gJ v E.w B J;cases r' with
  |none=>simp[c5]at g2
  | some q =>
   simp only[c5]at g2;obtain⟨q1,q2,_,e',q4,q5⟩:=g2;obtain⟨w',r1,r2,r3⟩:=xr (P:=P) HE (es':=es.eraseIdx i) (ms':=ms.eraseIdxIfInBounds i) (cl':=cl) hid h1 I (by
    rw[dW];have e:(ms.eraseIdxIfInBounds i).toList=ms.toList.eraseIdx i:=by simp
    rw[e];refine⟨by simp[List.length_eraseIdx,hlen],fun j y z g u=>?_⟩;rw[List.getElem?_eraseIdx]at g u;by_cases W:j<i
    ·simp only [if_pos W] at g u
     exact M j y z g u
    ·simp only [if_neg W] at g u
     exact M (j+1) y z g u)
   refine⟨w',?_,r2,r3⟩;subst q1;simp only[QR,h0,N,O,bV,Sem.bq (fg U),bX,V,fS v,g1];rw[r1];rfl
 ·rename_i J
  cases h;obtain⟨r',g1,g2⟩:=gJ v E.w B J;cases r' with
  |some _=>simp[c5]at g2
  | none =>
   obtain⟨w',r1,r2,r3⟩:=xr (P:=P) HE (es':=es) (ms':=ms) (cl':=cl) hid h1 I B;refine⟨w',?_,r2,r3⟩;simp only[QR,h0,N,O,bV,Sem.bq (fg U),bX,V,fS v,g1];rw[r1];rfl
 ·cases h
end Go.AL

namespace Go.AL
open Go
variable [Dr]
theorem Is{α:Type}{k:Nat}:∀{l:List (List α)} (n:Nat),(∀ r∈l,r.length=k)→(l.take n).flatten=l.flatten.take (n*k)
 | [],n,_=>by simp
 |r::l,0,_=>by simp
 | r::l,n+1,h=>by
  have d:r.length=k:=h r cW;have g:=Is (l:=l) n (fun x q=>h x (c9 _ q));have e:(n+1)*k=k+n*k:=by rw[fo]; omega
  simp only[AF,qg,g,e];rw[List.take_append,d];have u:r.take (k+n*k)=r:=List.take_of_length_le (by omega);have v:k+n*k-k=n*k:=by omega
  rw[u,v]
theorem It{α:Type}{k:Nat}:∀{l:List (List α)} (n:Nat),(∀ r∈l,r.length=k)→(l.drop n).flatten=l.flatten.drop (n*k)
 | [],n,_=>by simp
 |r::l,0,_=>by simp
 | r::l,n+1,h=>by
  have d:r.length=k:=h r cW;have g:=It (l:=l) n (fun x q=>h x (c9 _ q));have e:(n+1)*k=k+n*k:=by rw[fo]; omega
  simp only[aeC,qg,g,e];rw[List.drop_append,d];have u:r.drop (k+n*k)=[]:=List.drop_eq_nil_of_le (by omega);have v:k+n*k-k=n*k:=by omega
  rw[u,v,lb]
theorem R4{P:Program}{E:Env}(HE:aq E){id k ae b m off:Nat}{rows news:List (List AV)}{vals:List Value}(hid:E.H[id]? = some (.vec k ae rows)) (u:E.loc[id]? = some (some (b,m)))
  (g:af E news.flatten vals) (h1:∀ x∈vals,di x=true) (hw:∀ r∈news,r.length=k) (hcl:eV news) (hle:off+news.length≤rows.length) :
  ∃ w',(storeCells ⟨b,off*k,none⟩ vals).run P E.w=.ok () w'∧aq { w:=w',H:=E.H.set id (.vec k ae (rows.take off++news++rows.drop (off+news.length))),loc:=E.loc,X:=E.X } ∧
   E.le { w:=w',H:=E.H.set id (.vec k ae (rows.take off++news++rows.drop (off+news.length))),loc:=E.loc,X:=E.X }:=by
 rcases HE.obj id _ hid with⟨y,_⟩|⟨b',m',y,⟨cur,el,hblk,O⟩,e3,e4,e5⟩
 ·rw[u]at y; cases y
 rw[u]at y;cases y;have q:∀ r∈rows,r.length=k:=Bq e5;have hlen:vals.length=news.length*k:=by rw[←fP g,qH hw]
 have hmul:(off+news.length)*k≤rows.length*k:=s_ _ hle;rw[fo]at hmul;have hmul2:rows.length*k≤m*k:=s_ _ e3;have B:off*k+0+vals.length≤cur.size:=by rw[O]; omega
 have J:=run_storeCells_at P b (off*k) el vals 0 cur E.w hblk B (fun v g=>by rw[xe]; exact h1 v g);simp only[oI]at J B;generalize I:E.w.setRow b (cur.toList.take (off*k)++vals++cur.toList.drop (off*k+vals.length)).toArray=w' at J;have M:w'.heap.size=E.w.heap.size:=by rw[←I]; exact setRow_size _ _ _
 have henv:dL E.w w':=by rw[←I]; exact⟨rfl,rfl,rfl,by first|exact fun _=>aB _|exact fun _=>eS _ _⟩
 have N:∀ x,x≠b→w'.heap[x]? = E.w.heap[x]? := by intro x hx; rw[←I]; exact setRow_other _ _ _ _ hx
 have W:w'.heap[b]? = some (.cells (cur.toList.take (off*k)++vals++cur.toList.drop (off*k+vals.length)).toArray el (0,0)):=by
  rw[←I]; exact setRow_heap E.w b cur _ el (0,0) hblk
 have U:∀ v,(ab.vec k ae (rows.take off++news++rows.drop (off+news.length))).aD = some v→(ab.vec k ae rows).aD = some v:=fun v g=>by simpa[ab.aD]using g
 have V:=Env.mo (o':=.vec k ae (rows.take off++news++rows.drop (off+news.length))) HE hid u U M N;have hl2:(rows.take off++news++rows.drop (off+news.length)).length=rows.length:=by
  simp only[fb,kr,oJ];omega
 refine⟨w',J,aq.set HE hid u U M N ?_,V⟩;simp only[aM];right;refine⟨b,m,u,⟨_,el,W,?_⟩,by rw[hl2]; exact e3,?_,?_⟩
 ·simp only [AJ, fb, kr, oJ, la, O] at B ⊢
  omega
 ·intro r d
  simp only[cS]at d;rcases d with(h|h)|h
  ·exact e4 r (s8 h)
  ·exact hcl r h
  ·exact e4 r (wz h)
 ·refine xg ?_ ?_
  ·intro r d
   simp only[cS]at d;rcases d with(h|h)|h
   ·exact q r (s8 h)
   ·exact hw r h
   ·exact q r (wz h)
  ·rw [wC, wC, Is off q, It _ q]
   have hflat:=xf e5;have hcs:news.flatten.length=news.length*k:=qH hw;have:=Bu (E:=E) (E':={ w:=w',H:=E.H.set id (.vec k ae (rows.take off++news++rows.drop (off+news.length))),loc:=E.loc,X:=E.X }) (o:=0) (col:=off*k) (as:=rows.flatten) (cs:=news.flatten)
    (fun a c d=>bP V a d) hblk (by simpa using W) (by simpa using B) hflat g h1 (by rw[qH q,hcs]; omega)
   rw[hcs]at this;rw[show (off+news.length)*k=off*k+news.length*k from fo _ _ _];exact this
def tO(P:Program)(t:TypeId)(x:AV)(H:List ab):Option (List ab) :=
 match b9 P t,x with
 | .slice e sz _,.vec w id ae off n=>match dV P e,H[id]? with
  | some z,some (.vec k v rows)=>if k=w∧w=sz∧v=ae∧z.length=sz∧0<sz∧off+n≤rows.length then
    some (H.set id (.vec k v (rows.take off++bM n (z.map AV.lit)++rows.drop (off+n)))) else none
  |_,_=>none
 |_,_=>none
theorem R5{P:Program}{E:Env}(HE:aq E){t ty:TypeId}{tys:Array TypeId}{x:AV}{c:Value}{cs:Array Value}{H':List ab}(h:tO P t x E.H=some H')(h0:tys[0]? = some t)
  (J:cs[0]? = some c) (q:rel E x c) :
  ∃ w',(QU tys ty cs).run P E.w=.ok (.tuple #[]) w'∧aq { w:=w',H:=H',loc:=E.loc,X:=E.X }∧E.le { w:=w',H:=H',loc:=E.loc,X:=E.X }:=by
 unfold tO at h;split at h
 case h_2=>cases h
 rename_i e sz by_ w id ae off n hk;obtain⟨hu,i,hi,hs,_⟩:=gh hk;split at h
 case h_2=>cases h
 rename_i z k v rows hz hid;split at h
 case isFalse=>cases h
 rename_i hc;obtain⟨rfl,rfl,rfl,V,hpos,hle⟩:=hc;cases h;obtain⟨i',u,M,W,N,hz3⟩:=lk hz;rw[hi]at M;cases M;simp only[rel]at q;obtain⟨⟨base,cap,rfl,hcap,hb⟩,_,O⟩:=q;obtain⟨q1,q2⟩:=O ⟨_,hid,rfl⟩;cases n with
 | zero =>
  refine⟨E.w,?_,?_,?_⟩
  ·simp only [QU, h0, J, bV, Sem.bq hu, bX]
   cases base<;>rfl
  ·simp only [aeM, cO, oI, s9]
   rw[ln hid];exact HE
  ·simp only [aeM, cO, oI, s9]
   rw[ln hid];exact Env.le.refl E
 | succ n =>
  obtain⟨b,o,rfl⟩:=hb (by omega);have g:∃ b m,E.loc[id]? = some (some (b,m)):=by
   rcases HE.obj id _ hid with⟨_,y⟩|⟨B,m',y,_⟩
   ·subst y
    simp at hle
   ·exact⟨B,m',y⟩
  obtain⟨B,m,g⟩:=g;obtain⟨g1,o',g2,g3⟩:=q2 B m g;have ho:=g2 (by omega);subst ho;simp only[jQ,aV,GZ]at g3;obtain⟨⟨rfl,rfl,_⟩,_,_⟩:=g3;have U:(wB u.cells (n+1)).toList=(bM (n+1) z).flatten:=by
   rw[←N];have hzs:0<u.cells.size:=by
    have:u.cells.size=z.length:=by rw[←N]; simp
    omega
   exact range_zero u.cells (n+1) hzs
  have I:∀ r∈bM (n+1) (z.map AV.lit),r=z.map AV.lit:=fun r d=>(QV.1 d).2;obtain⟨w',r1,r2,r3⟩:=R4 (P:=P) HE (off:=off) (news:=bM (n+1) (z.map AV.lit)) (vals:=(bM (n+1) z).flatten) hid g (tK z (n+1))
   (fun x q=>hz3 x (tL q)) (fun r d=>by rw[I r d]; simp[V]) (fun r d=>by rw[I r d]; exact BB z) (by simpa using hle)
  simp only[List.length_replicate]at r2 r3;refine⟨w',?_,r2,r3⟩;simp only[QU,h0,J,bV,Sem.bq hu,bX,ll hi W,U];rw[r1];rfl
theorem R6{P:Program}{w:World}{t xt ty e:TypeId}{i:TypeInfo}{z:Value}{sz:Nat}{base:Option Addr}{m:Nat}{k k':IntKind}
  (q:P.underlying t=some (.slice e)) (u:P.underlying xt=some (.int k)) (hi:P.info? e=some i) (v:i.size=sz) (y:i.zero=some z) (d:0<sz) (h0:0<m) (hm:m≤1048576) (hb:i.bytes≤1048576) :
  ∃ C,m≤C∧(l4 #[t,xt] ty #[.slice base 0 0,.int k' (m:Int)]).run P w =
   .ok (.slice (some ⟨w.heap.size,0,none⟩) m C) (w.drew.alloc (.cells ((wB z.cells m).toList++(wB z.cells (C-m)).toList).toArray e)):=by
 have g:IntKind.i64.wrap (m:Int)=m:=wrap_small (by omega) (by omega);have h1:¬ (m≤0):=by omega
 have B:¬ ((m:Int)<0):=by omega
 have h:m*i.bytes≤1048576*1048576:=aeH hm hb;have I:¬ ((281474976710656:Int)<(m:Int)*(i.bytes:Int)):=by
  have:((m*i.bytes:Nat):Int)≤1099511627776:=Int.ofNat_le.2 (lV h (by decide));rw[Int.natCast_mul]at this;omega
 have J:¬ (IntKind.i64.max<(m:Int)):=by
  show ¬ ((9223372036854775807:Int)<(m:Int))
  omega
 have O:G5 m 0*i.bytes≤281474976710656:=growslice_fits (by omega) (by omega);have M:¬ (281474976710656<G5 m 0*i.bytes):=by omega
 have N:¬ (m*sz=0):=by
  have:=Nat.mul_pos h0 d;omega
 refine⟨grownCap w m 0 e,?_,?_⟩
 ·simp[grownCap,aeI]
 ·simp [l4, run_underlying q, run_underlying u, sizeOf, typeInfo, zeroValue, hi, y, v, asInt, asIntOf, g, h1, B, I, J, M, N, aeJ, newRow, grownCap, gR]
  rw[if_neg (by omega:¬ m=0),if_neg (by omega:¬ (9223372036854775807:Int)<(m:Int))];cases base<;>simp[loadCells,loadCellsFrom]<;>(congr 2; apply fc; simp)
def oY(P:Program)(t xt:TypeId)(s x:AV)(H:List ab):Option (AV × List ab) :=
 match b9 P t,b9 P xt,s,x with
 | .slice e sz d,.int _,.lit (.slice none 0 0),.lit (.int _ n)=>match dV P e with
  |some z=>if z.length=sz∧0<sz∧d≤1048576∧0<n∧n≤1048576 then some (.vec sz H.length 0 0 n.toNat,H++[.vec sz 0 (bM n.toNat (z.map AV.lit))]) else none
  |none=>none
 |_,_,_,_=>none
theorem R7{P:Program}{E:Env}(HE:aq E){t xt ty:TypeId}{s x v:AV}{H':List ab}{c J:Value}(h:oY P t xt s x E.H=some (v,H'))(M:rel E s c)(g:rel E x J) :
  ∃ u w',(l4 #[t,xt] ty #[c,J]).run P E.w=.ok u w'∧cJ E v H' u w':=by
 unfold oY at h;split at h
 case h_2=>cases h
 rename_i e sz by_ k k' n hk O;split at h
 case h_2=>cases h
 rename_i z hz;split at h
 case isFalse=>cases h
 rename_i hc;obtain⟨h1,h2,h3,h4,h5⟩:=hc;cases h;obtain⟨hu,i,hi,U,hby⟩:=gh hk;obtain⟨i',q,I,V,y,W⟩:=lk hz;rw[hi]at I;cases I;simp only[rel]at M g;subst M;subst g;obtain⟨m,rfl⟩:∃ m:Nat,n=(m:Int):=⟨n.toNat,by omega⟩
 obtain⟨C,g1,g2⟩:=R6 (P:=P) (w:=E.w) (ty:=ty) (base:=none) (k':=k') (m:=m) hu (HN O) hi U V h2 (by omega) (by omega) (by omega);have hzs:0<q.cells.size:=by
  have:q.cells.size=z.length:=by rw[←y]; simp
  omega
 have N:(wB q.cells m).toList=(bM m z).flatten:=by rw[←y]; exact range_zero q.cells m hzs
 rw[N]at g2;have B:∀ r∈bM m (z.map AV.lit),r=z.map AV.lit:=fun r d=>(QV.1 d).2;refine⟨_,_,g2,?_⟩;simp only[Int.toNat_natCast];refine HZ HE (tK z m) (fun x g=>W x (tL g)) (fun r d=>by rw[B r d]; simp[h1]) (fun r d=>by rw[B r d]; exact BB z) (by simp) g1 ?_;simp only[la,size_zeroCells];rw[←h1,←y];simp
end Go.AL

namespace Go.AL
open Go
variable [Dr]
def tP(P:Program)(t:TypeId)(n:Nat)(parts:List (Nat × AV))(H:List ab):Option (AV × List ab) :=
 match qJ P t n parts with
 |some (.list sz rows)=>some (.vec sz H.length 0 0 rows.length,H++[.vec sz 0 rows])
 |_=>none
theorem Iu(k:Nat):∀(n:Nat) (out:List AV),out.length=n*k→(chunk k n out).flatten=out
 | 0,out,h=>by
  have:out=[]:=AI (by simpa using h);subst this;rfl
 | n+1,out,h=>by
  simp only[chunk,qg];rw[Iu k n (out.drop k) (by rw[oJ,h,aeN]; omega)];exact s9 k out
theorem Iv(k:Nat):∀(n:Nat) (out:List AV),out.length=n*k→∀ r∈chunk k n out,r.length=k
 |0,_,_,r,d=>by simp[chunk]at d
 | n+1,out,h,r,d=>by
  simp only[chunk]at d;rw[aeN]at h;rcases bW.1 d with rfl|d
  ·rw [kr]
   omega
  ·exact Iv k n (out.drop k) (by rw[oJ]; omega) r d
theorem R8{P:Program}{E:Env}(HE:aq E){t:TypeId}{n:Nat}{parts:List (Nat × AV)}{cparts:List (Nat × Value)}{v:AV}{H':List ab}(h:tP P t n parts E.H=some (v,H'))
  (hm:parts.map (·.1)=cparts.map (·.1)) (W:af E (parts.map (·.2)) (cparts.map (·.2))) :
  ∃ u w',(G_ t n cparts.toArray).run P E.w=.ok u w'∧cJ E v H' u w':=by
 unfold tP at h;split at h
 case h_2=>cases h
 rename_i k rows0 h0;cases h;unfold qJ at h0;split at h0
 case h_2=>cases h0
 rename_i e sz by_ hk;obtain⟨hu,i,hi,B,_⟩:=gh hk;split at h0
 case h_2=>cases h0
 rename_i z hz;obtain⟨i',g,I,N,J,O⟩:=lk hz;rw[hi]at I;cases I;split at h0
 case isFalse=>cases h0
 rename_i hc;obtain⟨g1,g2,g3⟩:=hc;split at h0
 case h_2=>cases h0
 rename_i out M;split at h0
 case isFalse=>cases h0
 rename_i q;have U:g.cells.size=sz:=by rw[←g1,←J]; simp
 obtain⟨d,y⟩:∃ d:Array Value,d.toList=(bM n z).flatten:=⟨((bM n z).flatten).toArray,by simp⟩
 obtain⟨o,f1,f2,f3⟩:=tF (E:=E) (cs:=d) M (by rw[y]; exact tK z n) (by rw[y]; intro x hx; exact O x (tL hx)) hm W;cases n with
 |zero=>cases h0
 |succ n =>
 cases h0;refine⟨.slice (some ⟨E.w.heap.size,0,none⟩) (n+1) (n+1),{ E.w with heap:=E.w.heap.push (.cells (o.toList++[]).toArray e) },?_,?_⟩
 ·have V : ¬ ((n + 1) * i.size > 2 ^ 24) := by rw [B]; omega
  simp only[G_,bV,Sem.bq hu,bX,Sem.run_sizeOf hi];rw[if_neg V];have h0:¬ ((n+1)*i.size=0):=by
   intro h;rcases QM.1 h with h|h
   ·omega
   ·omega
  rw[if_neg h0];simp only[bV,ll hi N,bX,fa];have:(G9 (fun x=>g.cells[x%g.cells.size]!) (gd ((n+1)*i.size)))=d:=by
   apply fc;rw[B,←U,range_zero g.cells (n+1) (by omega),J,y]
  rw[this,B,f1];simp[newRow]
 ·rw [tG]
  exact H_ HE (C:=n+1) (by rw[Iu k (n+1) out q.2]; exact f2) f3 (Iv k (n+1) out q.2) (Bn k _ out q.1) (tG ..) (aB _) (by simp)
end Go.AL

namespace Go.AL
open Go
variable [Dr]
def eM (r:Nat→List (Option (Option (Nat × Nat)))) (l0:Nat) (q:Option (Nat × Nat)):Nat→List (Option (Option (Nat × Nat))):=fun l=>if l=l0 then r l++[some q] else r l
def fH (r:Nat→List (Option (Option (Nat × Nat)))) (l0 h:Nat):Nat→List (Option (Option (Nat × Nat))):=fun l=>if l=l0 then (r l).set h none else r l
def gX (r:Nat→List (Option (Option (Nat × Nat)))) (l0:Nat):Nat→List (Option (Option (Nat × Nat))):=fun l=>if l=l0 then (r l).map fun _=>none else r l
theorem R9{r:Nat→List (Option (Option (Nat × Nat)))}{l0 l h:Nat}{q:Option (Nat × Nat)}{x:Option (Option (Nat × Nat))}(d:(eM r l0 q l)[h]? = some x):(r l)[h]? = some x∨(l=l0∧h=(r l).length∧x=some q):=by
 unfold eM at d;split at d
 ·rename_i e
  rw[e_]at d;split at d
  ·exact .inl d
  ·right
   cases hk:h-(r l).length with
   | zero =>
    rw[hk]at d;simp at d;exact⟨e,by omega,d.symm⟩
   |succ n=>rw[hk]at d; simp at d
 ·exact .inl d
theorem Iw{r:Nat→List (Option (Option (Nat × Nat)))}{l0 l h:Nat}{q:Option (Nat × Nat)}(d:h<(r l).length):h<(eM r l0 q l).length∧(eM r l0 q l)[h]? = (r l)[h]? := by
 unfold eM;split
 ·exact⟨by simp; omega,cI d⟩
 ·exact⟨d,rfl⟩
theorem R_{r:Nat→List (Option (Option (Nat × Nat)))}{l0 h0 l h:Nat}{q:Option (Nat × Nat)}(d:(fH r l0 h0 l)[h]? = some (some q)):(r l)[h]? = some (some q)∧¬ (l=l0∧h=h0):=by
 unfold fH at d;split at d
 ·rw [dR] at d
  split at d
  ·split at d<;>cases d
  ·rename_i h1
   exact⟨d,fun e=>h1 e.2.symm⟩
 ·rename_i h1
  exact⟨d,fun e=>h1 e.1⟩
theorem BD{r:Nat→List (Option (Option (Nat × Nat)))}{l0 h0 l h:Nat}(d:¬ (l=l0∧h=h0)):(fH r l0 h0 l)[h]? = (r l)[h]? := by
 unfold fH;split
 ·rename_i e
  exact aQ (fun g=>d ⟨e,g.symm⟩)
 ·rfl
theorem R'{r:Nat→List (Option (Option (Nat × Nat)))}{l0 h0 l:Nat}:(fH r l0 h0 l).length=(r l).length:=by
 unfold fH;split<;>simp
theorem iF{r:Nat→List (Option (Option (Nat × Nat)))}{l0 l h:Nat}{q:Option (Nat × Nat)}(d:(gX r l0 l)[h]? = some (some q)):(r l)[h]? = some (some q)∧l≠l0:=by
 unfold gX at d;split at d
 ·rw [bZ] at d
  cases g:(r l)[h]? with
  |none=>rw[g]at d; cases d
  |some y=>rw[g]at d; cases d
 ·rename_i e
  exact⟨d,e⟩
theorem Ix{r:Nat→List (Option (Option (Nat × Nat)))}{l0 l:Nat}:(gX r l0 l).length=(r l).length:=by
 unfold gX;split<;>simp
theorem aq.attach{E:Env}(H:aq E){id j l0:Nat}{o o' oj:ab}{q:Option (Nat × Nat)}(hid:E.H[id]? = some o)(hlab:o.label=some l0)(hlab':o'.label=some l0)(hver:o'.aD = o.aD)(hj:E.H[j]? = some oj)(hlj:oj.label=none)(hq:E.loc[j]? = some q)
  (ho:E.le { w:=E.w,H:=(E.H.set id o').set j .dead,loc:=E.loc.set j none,X:=E.X.re (eM E.X.r l0 q) }→aM { w:=E.w,H:=(E.H.set id o').set j .dead,loc:=E.loc.set j none,X:=E.X.re (eM E.X.r l0 q) } id o')
  (hmm:o.cZ=none∨o'.cZ=o.cZ:=by first|exact .inl rfl|exact .inr rfl|assumption) :
  aq { w:=E.w,H:=(E.H.set id o').set j .dead,loc:=E.loc.set j none,X:=E.X.re (eM E.X.r l0 q) }∧E.le { w:=E.w,H:=(E.H.set id o').set j .dead,loc:=E.loc.set j none,X:=E.X.re (eM E.X.r l0 q) }:=by
 have hne:j≠id:=fun e=>by rw[e,hid]at hj; cases hj; rw[hlab]at hlj; cases hlj
 have hlt:=aL hid;have hltj:=aL hj;have O:∀(i:Nat) x,(E.loc.set j none)[i]? = some (some x)→i≠j∧E.loc[i]? = some (some x):=fun i x hi=>by
  rw[dR]at hi;split at hi
  ·split at hi<;>cases hi
  ·rename_i e
   exact⟨Ne.symm e,hi⟩
 have H_old:∀(i:Nat) x,((E.H.set id o').set j .dead)[i]? = some x→(i=j∧x=.dead)∨(i=id∧x=o')∨(i≠j∧i≠id∧E.H[i]? = some x):=fun i x hi=>by
  by_cases e:i=j
  ·subst e
   rw[bB (by simp; exact hltj)]at hi;cases hi;exact .inl ⟨rfl,rfl⟩
  ·rw [aQ (Ne.symm e)] at hi
   by_cases u:i=id
   ·subst u
    rw[bB hlt]at hi;cases hi;exact .inr (.inl ⟨rfl,rfl⟩)
   ·rw [aQ (Ne.symm u)] at hi
    exact .inr (.inr ⟨e,u,hi⟩)
 have hid':((E.H.set id o').set j .dead)[id]? = some o':=by
  rw[aQ hne,bB hlt]
 have U:∀(l h b m:Nat),(eM E.X.r l0 q l)[h]? = some (some (some (b,m)))→(E.X.r l)[h]? = some (some (some (b,m)))∨(l=l0∧h=(E.X.r l).length∧E.loc[j]? = some (some (b,m))):=fun l h b m hk=>by
  rcases R9 hk with g|⟨g1,g2,g3⟩
  ·exact .inl g
  ·cases g3
   exact .inr ⟨g1,g2,hq⟩
 have hle:E.le { w:=E.w,H:=(E.H.set id o').set j .dead,loc:=E.loc.set j none,X:=E.X.re (eM E.X.r l0 q) }:=by
  refine⟨fun i ae hp=>?_,aB _,fun _ _ _=>rfl,fun b hb hno=>?_,fun i ae hp B=>?_,⟨rfl,rfl⟩,fun l h hh=>?_,.refl _,fun i l x h1 d V=>?_⟩
  rotate_right
  ·by_cases e : i = j
   ·subst e
    obtain⟨y,J,h4⟩:=V;simp only[]at J;rw[bB (by simp; exact hltj)]at J;cases J;cases h4
   ·by_cases u : i = id
    ·subst u
     rw[hid]at h1;cases h1;have W:l0=l:=by
      have:=ab.kD d;rw[hlab]at this;cases this;rfl
     subst W;rcases hmm with h|h
     ·rw[h]at d; cases d
     ·exact⟨⟨[some q],if_pos rfl⟩,o',hid',by rw[h]; exact d⟩
    ·have W : l ≠ l0 := fun W => u (H.uniq i id x o l h1 hid (ab.kD d) (by rw [W]; exact hlab))
     exact⟨⟨[],by rw[cO]; exact if_neg W⟩,x,by simp only[]; rw[aQ (Ne.symm e),aQ (Ne.symm u)]; exact h1,d⟩
  ·obtain ⟨x, h1, d⟩ := hp
   by_cases e:i=j
   ·subst e
    exact⟨.dead,by simp only[]; rw[bB (by simp; exact hltj)],rfl,fun v V=>by cases V⟩
   ·by_cases u : i = id
    ·subst u
     rw[hid]at h1;cases h1;exact⟨o',hid',ab.wV hlab',fun v V=>d.2 v (by rw[←hver]; exact V)⟩
    ·exact⟨x,by simp only[]; rw[aQ (Ne.symm e),aQ (Ne.symm u)]; exact h1,d⟩
  ·rintro (⟨i, c, hi⟩ | ⟨l, h, m, hm⟩)
   ·exact hno (.inl ⟨i,c,(O i _ hi).2⟩)
   ·rcases U l h b m hm with h1 | ⟨_, _, h1⟩
    ·exact hno (.inr ⟨l,h,m,h1⟩)
    ·exact hno (.inl ⟨j,m,h1⟩)
  ·obtain ⟨x, h1, d⟩ := B
   rcases H_old i x h1 with⟨_,rfl⟩|⟨rfl,rfl⟩|⟨N,u,J⟩
   ·cases d
   ·exact⟨⟨o,hid,by rw[←hver]; exact d⟩,by simp only[]; rw[aQ hne]⟩
   ·exact⟨⟨x,J,d⟩,by simp only[]; rw[aQ (Ne.symm N)]⟩
  ·obtain ⟨g1, g2⟩ := Iw (r := E.X.r) (l0 := l0) (q := q) hh
   exact⟨g1,fun y M=>by
    have M:(eM E.X.r l0 q l)[h]? = some (some y):=M
    rwa [g2]at M⟩
 refine⟨⟨by simp[H.len],fun i k b m n hi hk=>H.inj i k b m n (O i _ hi).2 (O k _ hk).2,fun i b m hi=>H.lt i b m (O i _ hi).2,fun b hb=>H.X b hb,fun i x hi=>?_,H.eW.bF hle.toC,fun l h l' h' b m n h1 d=>?_,fun i b m l h n hi hk=>?_,fun l h b m hk=>?_,fun i k x y l hi hk h1 d=>?_,fun l hn h y M=>?_⟩,hle⟩
 ·rcases H_old i x hi with ⟨rfl, rfl⟩ | ⟨rfl, rfl⟩ | ⟨N, u, J⟩
  ·simp only [aM]
   rw[bB (by rw[H.len]; exact hltj)]
  ·exact ho hle
  ·refine jS (fun a _ hr => bP hle a hr) (by simp only []; rw [aQ (Ne.symm N)]) (fun _ _ _ => rfl) (fun l B => ?_) (H.obj i x J)
   have hne2:l≠l0:=fun e=>u (H.uniq i id x o l J hid B (by rw[hlab,e]));exact⟨if_neg hne2,fun _ _ _ _=>rfl⟩
 ·rcases U l h b m h1 with g1 | ⟨g1, g2, g3⟩ <;> rcases U l' h' b n d with I | ⟨I, k2, k3⟩
  ·exact H.eE _ _ _ _ _ _ _ g1 I
  ·exact(H.cN _ _ _ _ _ _ k3 g1).elim
  ·exact(H.cN _ _ _ _ _ _ g3 I).elim
  ·exact⟨by rw[g1,I],by rw[g2,k2,g1,I]⟩
 ·obtain ⟨g0, g1⟩ := O i _ hi
  rcases U l h b n hk with I|⟨I,k2,k3⟩
  ·exact H.cN _ _ _ _ _ _ g1 I
  ·exact g0 (H.inj _ _ _ _ _ g1 k3)
 ·rcases U l h b m hk with I | ⟨I, k2, k3⟩
  ·exact H.cr _ _ _ _ I
  ·exact H.lt _ _ _ k3
 ·have key:∀ (i:Nat) x,((E.H.set id o').set j .dead)[i]? = some x→x.label=some l→∃ y,E.H[i]? = some y∧y.label=some l:=by
   intro i x hi B;rcases H_old i x hi with⟨_,rfl⟩|⟨rfl,rfl⟩|⟨N,u,J⟩
   ·cases B
   ·exact⟨o,hid,by rw[hlab,←hlab',B]⟩
   ·exact⟨x,J,B⟩
  obtain⟨x',a1,a2⟩:=key i x hi h1;obtain⟨y',b1,b2⟩:=key k y hk d;exact H.uniq i k x' y' l a1 b1 a2 b2
 ·have hne2 : l ≠ l0 := fun e => hn id o' hid' (by rw [hlab', e])
  have M:(eM E.X.r l0 q l)[h]? = some (some y):=M;unfold eM at M;rw[if_neg hne2]at M;refine H.fQ l (fun i x hi B=>?_) h y M;by_cases e:i=id
  ·subst e
   rw[hid]at hi;cases hi;exact hne2 (by rw[hlab]at B; cases B; rfl)
  ·by_cases N : i = j
   ·subst N
    rw[hj]at hi;cases hi;rw[hlj]at B;cases B
   ·exact hn i x (by show ((E.H.set id o').set j .dead)[i]? = _; rw[aQ (Ne.symm N),aQ (Ne.symm e)]; exact hi) B
theorem aq.BE{E:Env}(H:aq E){id l0 h0:Nat}{o o' ov:ab}{q:Option (Nat × Nat)}(hid:E.H[id]? = some o)(hlab:o.label=some l0)(N:o'.label=some l0)(hver:o'.aD = o.aD)(hlv:ov.label=none) (M:∀ b m,q=some (b,m)→(E.X.r l0)[h0]? = some (some (some (b,m))))
  (ho:E.le { w:=E.w,H:=E.H.set id o'++[ov],loc:=E.loc++[q],X:=E.X.re (fH E.X.r l0 h0) }→aM { w:=E.w,H:=E.H.set id o'++[ov],loc:=E.loc++[q],X:=E.X.re (fH E.X.r l0 h0) } id o'∧aM { w:=E.w,H:=E.H.set id o'++[ov],loc:=E.loc++[q],X:=E.X.re (fH E.X.r l0 h0) } E.H.length ov)
  (hmm:o.cZ=none:=by first|rfl|assumption) :
  aq { w:=E.w,H:=E.H.set id o'++[ov],loc:=E.loc++[q],X:=E.X.re (fH E.X.r l0 h0) }∧E.le { w:=E.w,H:=E.H.set id o'++[ov],loc:=E.loc++[q],X:=E.X.re (fH E.X.r l0 h0) }:=by
 have U:=aL hid;have J:∀(i:Nat) x,(E.loc++[q])[i]? = some x→E.loc[i]? = some x∨(i=E.loc.length∧x=q):=fun i x hi=>by
  rw[e_]at hi;split at hi
  ·exact .inl hi
  ·right
   cases hk:i-E.loc.length with
   |zero=>rw[hk]at hi; simp at hi; exact⟨by omega,hi.symm⟩
   |succ n=>rw[hk]at hi; simp at hi
 have O:∀(i:Nat) x,(E.H.set id o'++[ov])[i]? = some x→(i=E.H.length∧x=ov)∨(i=id∧x=o')∨(i≠id∧E.H[i]? = some x):=fun i x hi=>by
  rw[e_]at hi;split at hi
  ·by_cases d : i = id
   ·subst d
    rw[bB U]at hi;cases hi;exact .inr (.inl ⟨rfl,rfl⟩)
   ·rw [aQ (Ne.symm d)] at hi
    exact .inr (.inr ⟨d,hi⟩)
  ·left
   cases hk:i-(E.H.set id o').length with
   |zero=>rw[hk]at hi; simp at hi; simp at hk; rename_i h1; simp at h1; exact⟨by omega,hi.symm⟩
   |succ n=>rw[hk]at hi; simp at hi
 have hid':(E.H.set id o'++[ov])[id]? = some o':=by
  rw[cI (by simp; exact U),bB U]
 have B:∀(l h:Nat) y,(fH E.X.r l0 h0 l)[h]? = some (some y)→(E.X.r l)[h]? = some (some y)∧¬ (l=l0∧h=h0):=fun l h y hk=>R_ hk;have hle:E.le { w:=E.w,H:=E.H.set id o'++[ov],loc:=E.loc++[q],X:=E.X.re (fH E.X.r l0 h0) }:=by
  refine⟨fun i ae W=>?_,aB _,fun _ _ _=>rfl,fun b hb V=>?_,fun i ae W u=>?_,⟨rfl,rfl⟩,fun l h hh=>?_,.refl _,fun i l x h1 g hv=>?_⟩
  rotate_right
  ·by_cases d : i = id
   ·subst d
    rw[hid]at h1;cases h1;rw[hmm]at g;cases g
   ·have e3 : l ≠ l0 := fun e3 => d (H.uniq i id x o l h1 hid (ab.kD g) (by rw [e3]; exact hlab))
    exact⟨⟨[],by rw[cO]; exact if_neg e3⟩,x,by simp only[]; rw[cI (by rw[m_]; exact aL h1),aQ (Ne.symm d)]; exact h1,g⟩
  ·obtain ⟨x, h1, g⟩ := W
   by_cases d:i=id
   ·subst d
    rw[hid]at h1;cases h1;exact⟨o',hid',ab.wV N,fun v hv=>g.2 v (by rw[←hver]; exact hv)⟩
   ·exact⟨x,by simp only[]; rw[cI (by simp; exact aL h1),aQ (Ne.symm d)]; exact h1,g⟩
  ·rintro (⟨i, c, hi⟩ | ⟨l, h, m, hm⟩)
   ·rcases J i _ hi with h1 | ⟨_, h1⟩
    ·exact V (.inl ⟨i,c,h1⟩)
    ·exact V (.inr ⟨l0,h0,c,M b c h1.symm⟩)
   ·exact V (.inr ⟨l,h,m,(B l h _ hm).1⟩)
  ·obtain ⟨x0, g1, _⟩ := W
   have hii:=aL g1;obtain⟨x,h1,g⟩:=u;have hloc:(E.loc++[q])[i]? = E.loc[i]? := cI (by rw[H.len]; exact hii);rcases O i x h1 with⟨e,rfl⟩|⟨rfl,rfl⟩|⟨d,I⟩
   ·omega
   ·exact⟨⟨o,hid,by rw[←hver]; exact g⟩,hloc⟩
   ·exact⟨⟨x,I,g⟩,hloc⟩
  ·refine ⟨?_, fun y hy => (B l h y hy).1⟩
   show h<(fH E.X.r l0 h0 l).length
   rw[R'];exact hh
 refine⟨⟨by simp[H.len],fun i k b m n hi hk=>?_,fun i b m hi=>?_,fun b hb=>H.X b hb,fun i x hi=>?_,H.eW.bF hle.toC,fun l h l' h' b m n h1 g=>H.eE _ _ _ _ _ _ _ (B l h _ h1).1 (B l' h' _ g).1,fun i b m l h n hi hk=>?_,fun l h b m hk=>H.cr _ _ _ _ (B l h _ hk).1,fun i k x y l hi hk h1 g=>?_,fun l hn h y hy=>?_⟩,hle⟩
 ·rcases J i _ hi with g1 | ⟨g1, g2⟩ <;> rcases J k _ hk with k1 | ⟨k1, k2⟩
  ·exact H.inj _ _ _ _ _ g1 k1
  ·exact(H.cN _ _ _ _ _ _ g1 (M b n k2.symm)).elim
  ·exact(H.cN _ _ _ _ _ _ k1 (M b m g2.symm)).elim
  ·omega
 ·rcases J i _ hi with g1 | ⟨g1, g2⟩
  ·exact H.lt _ _ _ g1
  ·exact H.cr _ _ _ _ (M b m g2.symm)
 ·rcases O i x hi with ⟨rfl, rfl⟩ | ⟨rfl, rfl⟩ | ⟨d, I⟩
  ·exact(ho hle).2
  ·exact(ho hle).1
  ·refine jS (fun a _ hr => bP hle a hr) (by simp only []; rw [cI (by rw [H.len]; exact aL I)]) (fun _ _ _ => rfl) (fun l u => ?_) (H.obj i x I)
   have hne2:l≠l0:=fun e=>d (H.uniq i id x o l I hid u (by rw[hlab,e]));exact⟨if_neg hne2,fun _ _ _ _=>rfl⟩
 ·obtain ⟨r1, r2⟩ := B l h _ hk
  rcases J i _ hi with g1|⟨g1,g2⟩
  ·exact H.cN _ _ _ _ _ _ g1 r1
  ·exact r2 (H.eE _ _ _ _ _ _ _ r1 (M b m g2.symm))
 ·have key:∀ (i:Nat) x,(E.H.set id o'++[ov])[i]? = some x→x.label=some l→∃ y,E.H[i]? = some y∧y.label=some l:=by
   intro i x hi u;rcases O i x hi with⟨_,rfl⟩|⟨rfl,rfl⟩|⟨d,I⟩
   ·rw[hlv]at u; cases u
   ·exact⟨o,hid,by rw[hlab,←N,u]⟩
   ·exact⟨x,I,u⟩
  obtain⟨x',a1,a2⟩:=key i x hi h1;obtain⟨y',b1,b2⟩:=key k y hk g;exact H.uniq i k x' y' l a1 b1 a2 b2
 ·refine H.fQ l (fun i x hi u => ?_) h y (B l h y hy).1
  by_cases e:i=id
  ·subst e
   rw[hid]at hi;cases hi;exact hn i o' hid' (by rw[N,←hlab,u])
  ·exact hn i x (by show (E.H.set id o'++[ov])[i]? = _; rw[cI (by simp; exact aL hi),aQ (Ne.symm e)]; exact hi) u
theorem aq.Sa{E:Env}(H:aq E){id l0:Nat}{o o':ab}(hid:E.H[id]? = some o)(hlab:o.label=some l0)(W:o'.label=none)(M:o'.aD = o.aD)
  (ho:E.le { w:=E.w,H:=E.H.set id o',loc:=E.loc,X:=E.X.re (gX E.X.r l0) }→aM { w:=E.w,H:=E.H.set id o',loc:=E.loc,X:=E.X.re (gX E.X.r l0) } id o')
  (hmm:o.cZ=none:=by first|rfl|assumption) (hborn:o'.born=true:=by first|rfl|assumption) :
  aq { w:=E.w,H:=E.H.set id o',loc:=E.loc,X:=E.X.re (gX E.X.r l0) }∧E.le { w:=E.w,H:=E.H.set id o',loc:=E.loc,X:=E.X.re (gX E.X.r l0) }:=by
 have N:=aL hid;have B:∀(i:Nat) x,(E.H.set id o')[i]? = some x→(i=id∧x=o')∨(i≠id∧E.H[i]? = some x):=fun i x hi=>by
  by_cases g:i=id
  ·subst g
   rw[bB N]at hi;cases hi;exact .inl ⟨rfl,rfl⟩
  ·rw [aQ (Ne.symm g)] at hi
   exact .inr ⟨g,hi⟩
 have hle:E.le { w:=E.w,H:=E.H.set id o',loc:=E.loc,X:=E.X.re (gX E.X.r l0) }:=by
  refine⟨fun i ae U=>?_,aB _,fun _ _ _=>rfl,fun b hb O=>?_,fun i ae U q=>?_,⟨rfl,rfl⟩,fun l h hh=>?_,.refl _,fun i l x h1 d V=>?_⟩
  rotate_right
  ·by_cases g : i = id
   ·subst g
    rw[hid]at h1;cases h1;rw[hmm]at d;cases d
   ·have I : l ≠ l0 := fun I => g (H.uniq i id x o l h1 hid (ab.kD d) (by rw [I]; exact hlab))
    exact⟨⟨[],by rw[cO]; exact if_neg I⟩,x,by simp only[]; rw[aQ (Ne.symm g)]; exact h1,d⟩
  ·obtain ⟨x, h1, d⟩ := U
   by_cases g:i=id
   ·subst g
    rw[hid]at h1;cases h1;exact⟨o',by simp only[]; rw[bB N],hborn,fun v V=>d.2 v (by rw[←M]; exact V)⟩
   ·exact⟨x,by simp only[]; rw[aQ (Ne.symm g)]; exact h1,d⟩
  ·rintro (⟨i, c, hi⟩ | ⟨l, h, m, hm⟩)
   ·exact O (.inl ⟨i,c,hi⟩)
   ·exact O (.inr ⟨l,h,m,(iF hm).1⟩)
  ·obtain ⟨x, h1, d⟩ := q
   rcases B i x h1 with⟨rfl,rfl⟩|⟨g,u⟩
   ·exact⟨⟨o,hid,by rw[←M]; exact d⟩,rfl⟩
   ·exact⟨⟨x,u,d⟩,rfl⟩
  ·refine ⟨?_, fun y J => (iF J).1⟩
   show h<(gX E.X.r l0 l).length
   rw[Ix];exact hh
 refine⟨⟨by simp[H.len],H.inj,H.lt,H.X,fun i x hi=>?_,H.eW.bF hle.toC,fun l h l' h' b m n h1 d=>H.eE _ _ _ _ _ _ _ (iF h1).1 (iF d).1,fun i b m l h n hi hk=>H.cN _ _ _ _ _ _ hi (iF hk).1,fun l h b m hk=>H.cr _ _ _ _ (iF hk).1,fun i k x y l hi hk h1 d=>?_,fun l hn h y J=>?_⟩,hle⟩
 ·rcases B i x hi with ⟨rfl, rfl⟩ | ⟨g, u⟩
  ·exact ho hle
  ·refine jS (fun a _ hr => bP hle a hr) rfl (fun _ _ _ => rfl) (fun l q => ?_) (H.obj i x u)
   have hne2:l≠l0:=fun e=>g (H.uniq i id x o l u hid q (by rw[hlab,e]));exact⟨if_neg hne2,fun _ _ _ _=>rfl⟩
 ·have key:∀ (i:Nat) x,(E.H.set id o')[i]? = some x→x.label=some l→E.H[i]? = some x:=by
   intro i x hi q;rcases B i x hi with⟨rfl,rfl⟩|⟨g,u⟩
   ·rw[W]at q; cases q
   ·exact u
  exact H.uniq i k x y l (key i x hi h1) (key k y hk d) h1 d
 ·obtain ⟨g1, g2⟩ := iF J
  refine H.fQ l (fun i x hi q=>?_) h y g1;by_cases e:i=id
  ·subst e
   rw[hid]at hi;cases hi;exact g2 (by rw[hlab]at q; cases q; rfl)
  ·exact hn i x (by show (E.H.set id o')[i]? = _; rw[aQ (Ne.symm e)]; exact hi) q
theorem xu{E:Env}(HE:aq E){id l w cl:Nat}{es:List (AV × Option (List (List AV)) × Nat)}{c:Value}(hid:E.H[id]? = some (.aG l w es cl))(d:rel E (.map id) c) :
  ∃ b n ms,c=.map (some b)∧E.loc[id]? = some (some (b,n))∧E.w.heap[b]? = some (.map ms cl)∧bC E (cB es) ms.toList∧iE E l w es ms.toList:=by
 have ho:=HE.obj id _ hid;simp only[aM]at ho;obtain⟨b,n,ms,h1,g,h,k⟩:=ho;simp only[rel]at d;obtain⟨_,_,q⟩:=d;obtain⟨u,v,g1,g2⟩:=q ⟨_,hid,rfl⟩;rw[h1]at g1;simp only[aV,ba]at g1;obtain⟨rfl,rfl⟩:=g1;exact⟨b,n,ms,g2,h1,g,h,k⟩
theorem xv{es:List (AV × Option (List (List AV)) × Nat)}{i:Nat}{x:AV × Option (List (List AV)) × Nat}(h:es[i]? = some x):(cB es)[i]? = some (x.1,.undef,x.2.2):=by
 unfold cB;rw[bZ,h];rfl
def xw(P:Program)(t:TypeId):Option Nat:=match b9 P t with
 |.slice _ w _=>some w
 |_=>none
def nB (es:List (AV × Option (List (List AV)) × Nat)) (i:Nat):Option (AV × List (List AV) × Nat):=match es[i]? with
 |some (key,some rows,n)=>some (key,rows,n)
 |_=>none
def tQ(P:Program)(t:TypeId)(m k:AV)(H:List ab):Option (AV × List ab) :=
 match cX P t,m with
 | some (d,g),.map id=>match H[id]? with
  | some (.aG l w es cl)=>match gV P d k,xw P g,gK P g with
   | some h,some w',some (.lit (.slice none 0 0))=>match ad w' w with
    | true=>match ed P d h (cB es) 0 with
     | some (some (i,_))=>match nB es i with
      |some (key,rows,n)=>some (.vec w H.length 0 0 rows.length,H.set id (.aG l w (es.set i (key,none,n)) cl)++[.vec w 0 rows])
      |none=>none
     |some none=>some (.vec w H.length 0 0 0,H.set id (.aG l w es cl)++[.vec w 0 []])
     |none=>none
    |false=>none
   |_,_,_=>none
  |_=>none
 |_,_=>none
theorem Sb{E:Env}{l w i:Nat}{es:List (AV × Option (List (List AV)) × Nat)}{ms:List MapEntry}{x:AV × Option (List (List AV)) × Nat}(B:x.2.1=none)(h:iE E l w es ms):iE E l w (es.set i x) ms:=by
 obtain⟨I,h1,J⟩:=h;have g:∀(j:Nat) y,(es.set i x)[j]? = some y→y.2.1.isSome=true→es[j]? = some y∧j≠i:=fun j y d k=>by
  rw[dR]at d;split at d
  ·split at d
   ·cases d
    rw[B]at k;cases k
   ·cases d
  ·rename_i v
   exact⟨d,Ne.symm v⟩
 refine⟨I,fun a b y z d M q sz he=>h1 a b y z (g a y d q).1 (g b z M sz).1 q sz he,fun a y rows e d u he=>J a y rows e (g a y d (by rw[u]; rfl)).1 u he⟩
theorem BF{E:Env}{i:Nat}{es:List (AV × Option (List (List AV)) × Nat)}{ms:List MapEntry}{x y:AV × Option (List (List AV)) × Nat}(hi:es[i]? = some x)(h1:y.1=x.1)(d:y.2.2=x.2.2)(h:bC E (cB es) ms):bC E (cB (es.set i y)) ms:=by
 have e:cB (es.set i y)=cB es:=by
  apply jR;intro j;unfold cB;rw[bZ,bZ,dR];split
  ·rename_i e
   subst e;rw[if_pos (aL hi),hi];simp[h1,d]
  ·rfl
 rw[e];exact h
theorem Sc{P:Program}{E:Env}(HE:aq E){t:TypeId}{m k v:AV}{c d:Value}{H':List ab}(h:tQ P t m k E.H=some (v,H'))(hm:rel E m c)(hk:rel E k d) :
  ∃ u w',(ku t c d false).run P E.w=.ok u w'∧cJ E v H' u w':=by
 unfold tQ at h;split at h
 case h_2=>cases h
 rename_i kt et id ht;split at h
 case h_2=>cases h
 rename_i l w es cl hid;split at h
 case h_2=>cases h
 rename_i kv w' hkv hw' hz;split at h
 case h_2=>cases h
 rename_i hww;have hww:=br hww;clear hw' hww;obtain⟨b,n,ms,rfl,h1,h2,h3,h4⟩:=xu HE hid hm;have hkv':=gW hkv hk;have e1:(getObj b).run P E.w=.ok (.map ms cl) E.w:=by simp[getObj,gf,h2]
 have hlenH:E.H.length=E.loc.length:=HE.len.symm;split at h
 ·rename_i i v0 hf
  split at h
  case h_2=>cases h
  rename_i key rows bn hat;cases h;have hes:es[i]? = some (key,some rows,bn):=by
   unfold nB at hat;split at hat
   ·rename_i a1 a2 a3 he
    cases hat;exact he
   ·cases hat
  obtain⟨r',g1,g2⟩:=gJ hkv' E.w h3 hf;cases r' with
  |none=>simp[c5]at g2
  | some q =>
   simp only[c5]at g2;obtain⟨q1,q2,_,e',q4,q5⟩:=g2;simp only[ga]at q4;have hval:q.2=e'.val:=q5.symm;obtain⟨V,k1,k2⟩:=h4;have hsl:=k2 i _ rows e' hes rfl q4;obtain⟨M,h0,z1,z2,z3⟩:∃(M:Option (Nat × Nat)) (h0:Nat),(∀ b m,M=some (b,m)→(E.X.r l)[h0]? = some (some (some (b,m)))) ∧
     (∀ j y,es[j]? = some y→y.2.1.isSome=true→j≠i→∀ b m,(E.X.r l)[V j]? = some (some (some (b,m)))→V j≠h0) ∧
     ((M=none∧rows=[]∧∃ base,e'.val=.slice base 0 0)∨∃ b m,M=some (b,m)∧e'.val=.slice (some ⟨b,0,none⟩) rows.length m∧isRow E.w b (m*w)∧rows.length≤m∧eV rows∧cy E w rows b 0):=by
    rcases hsl with⟨s1,s2⟩|⟨O,mm,s1,s2,W,U,s5,s6⟩
    ·exact⟨none,(E.X.r l).length,fun _ _ e=>(by cases e),fun j y _ _ _ b m hb e=>(by rw[e]at hb; have:=aL hb; omega),.inl ⟨rfl,s1,s2⟩⟩
    ·exact⟨some (O,mm),V i,fun _ _ e=>(by cases e; exact s1),fun j y J hsy hne _ _ _ e=>hne (k1 j i _ _ J hes hsy rfl e),.inr ⟨O,mm,rfl,s2,W,U,s5,s6⟩⟩
   obtain⟨r1,r2⟩:=aq.BE HE (id:=id) (l0:=l) (h0:=h0) (o':=.aG l w (es.set i (key,none,bn)) cl) (ov:=.vec w 0 rows) (q:=M) hid rfl rfl rfl rfl z1 fun hle=>by
    refine⟨?_,?_⟩
    ·simp only [aM]
     refine⟨b,n,ms,?_,h2,?_,?_⟩
     ·rw [cI (aL h1)]
      exact h1
     ·exact fF (fun a _ B=>bP hle a B) (BF hes rfl rfl h3)
     ·obtain ⟨_, k3, k4⟩ := Sb (i := i) (x := (key, none, bn)) rfl (show iE E l w es ms.toList from ⟨V, k1, k2⟩)
      refine⟨V,fun a b' y z J hz sy sz he=>?_,fun a y rws e J B he=>?_⟩
      all_goals
       have old:∀(j:Nat) y,(es.set i (key,none,bn))[j]? = some y→y.2.1.isSome=true→es[j]? = some y∧j≠i:=fun j y J hsm=>by
        rw[dR]at J;split at J
        ·split at J
         ·cases J
          cases hsm
         ·cases J
        ·rename_i hne
         exact⟨J,Ne.symm hne⟩
      ·exact k1 a b' y z (old a y J sy).1 (old b' z hz sz).1 sy sz he
      ·obtain ⟨o1, o2⟩ := old a y J (by rw [B]; rfl)
       rcases k2 a y rws e o1 B he with N|⟨O,mm,s1,s2,W,U,s5,s6⟩
       ·exact .inl N
       ·refine .inr ⟨O, mm, ?_, s2, W, U, s5, kG (fun a _ B => bP hle a B) rfl s6⟩
        have hne:=z2 a y o1 (by rw[B]; rfl) o2 O mm s1;show (fH E.X.r l h0 l)[V a]? = _
        rw[BD fun e=>hne e.2];exact s1
    ·simp only [aM]
     have N:(E.loc++[M])[E.H.length]? = some M:=by rw[hlenH]; simp
     rcases z3 with⟨rfl,s1,_⟩|⟨O,mm,rfl,_,W,U,s5,s6⟩
     ·exact .inl ⟨N,s1⟩
     ·exact .inr ⟨O,mm,N,W,U,s5,kG (fun a _ B=>bP hle a B) rfl s6⟩
   refine⟨q.2,E.w,?_,E.loc++[M],fH E.X.r l h0,?_,r1,r2⟩
   ·simp only [ku, bV, Sem.bq (fg ht), bX, e1, fa, fS hkv', g1]
    rfl
   ·have hnew:(E.H.set id (.aG l w (es.set i (key,none,bn)) cl)++[.vec w 0 rows])[E.H.length]? = some (.vec w 0 rows):=by
     rw[iz (by simp)];simp
    have N:(E.loc++[M])[E.H.length]? = some M:=by rw[hlenH]; simp
    rw[hval];simp only[rel];rcases z3 with⟨rfl,s1,base,s2⟩|⟨O,mm,rfl,s2,W,U,s5,s6⟩
    ·subst s1
     refine⟨⟨base,0,by rw[s2]; rfl,aB _,fun h=>by simp at h⟩,⟨_,hnew,rfl,fun v hv=>by cases hv; exact aB _⟩,fun _=>⟨fun _=>⟨by first|rfl|trivial,by first|rfl|trivial,base,s2⟩,fun b' m' I=>?_⟩⟩;rw[N]at I;cases I
    ·refine ⟨⟨_, mm, s2, U, fun _ => ⟨O, 0, rfl⟩⟩, ⟨_, hnew, rfl, fun v hv => by cases hv; exact aB _⟩, fun _ => ⟨fun I => ?_, fun b' m' I => ?_⟩⟩
     ·rw [N] at I
      cases I
     ·rw [N] at I
      cases I;exact⟨by omega,0,fun _=>by simp,by rw[s2,ga]⟩
 ·rename_i hf
  cases h;obtain⟨r',g1,g2⟩:=gJ hkv' E.w h3 hf;cases r' with
  |some _=>simp[c5]at g2
  | none =>
   obtain⟨zv,z1,z2⟩:=qK hz E.w;have hzv:zv=.slice none 0 0:=by have:=z2 E; simpa[rel]using this
   obtain⟨r1,r2⟩:=aq.BE HE (id:=id) (l0:=l) (h0:=(E.X.r l).length) (o':=.aG l w es cl) (ov:=.vec w 0 []) (q:=none) hid rfl rfl rfl rfl (fun _ _ e=>by cases e) fun hle=>by
    refine⟨?_,?_⟩
    ·simp only [aM]
     refine⟨b,n,ms,?_,h2,fF (fun a _ B=>bP hle a B) h3,tx (E:=E) (fun h g m hk=>⟨?_,rfl⟩) (fun _ _ _ _ _ b' I _ B=>kG (fun a _ B=>bP hle a B) I B) h4⟩
     ·rw [cI (aL h1)]
      exact h1
     ·show (fH E.X.r l (E.X.r l).length l)[h]? = _
      rw[BD fun e=>by rw[e.2]at hk; have:=aL hk; omega];exact hk
    ·simp only [aM]
     exact .inl ⟨by rw[hlenH]; simp,by first|rfl|trivial⟩
   refine⟨zv,E.w,?_,E.loc++[none],fH E.X.r l (E.X.r l).length,?_,r1,r2⟩
   ·simp only [ku, bV, Sem.bq (fg ht), bX, e1, fa, fS hkv', g1, z1]
    rfl
   ·have hnew:(E.H.set id (.aG l w es cl)++[.vec w 0 []])[E.H.length]? = some (.vec w 0 []):=by
     rw[iz (by simp)];simp
    have N:(E.loc++[(none:Option (Nat × Nat))])[E.H.length]? = some none:=by rw[hlenH]; simp
    rw[hzv];simp only[rel];refine⟨⟨none,0,rfl,aB _,fun h=>by simp at h⟩,⟨_,hnew,rfl,fun v hv=>by cases hv; exact aB _⟩,fun _=>⟨fun _=>⟨by first|rfl|trivial,by first|rfl|trivial,none,rfl⟩,fun b' m' I=>?_⟩⟩;rw[N]at I;cases I
 ·cases h
theorem BG{es:List (AV × Option (List (List AV)) × Nat)}{i:Nat}{x:AV × Option (List (List AV)) × Nat}{f:AV × Option (List (List AV)) × Nat→AV × Option (List (List AV)) × Nat}(h:es[i]? = some x):es.modify i f=es.set i (f x):=by
 apply jR;intro j;rw[iA,dR];by_cases e:i=j
 ·subst e
  rw[if_pos rfl,if_pos (aL h),h];simp
 ·rw [if_neg e]
  simp[e]
def oZ(P:Program)(t:TypeId)(m k v:AV)(H:List ab):Option (List ab) :=
 match cX P t,m,v with
 | some (d,_),.map id,.vec w j ae off n=>match H[id]?,H[j]? with
  | some (.aG l w' es cl),some (.vec h g rows)=>match gV P d k with
   | some q=>if (w=w'∧w=h)∧(ae=g∧off=0)∧n=rows.length∧k.closed=true then
     match ed P d q (cB es) 0 with
     |some (some (i,_))=>some ((H.set id (.aG l w' (es.modify i fun e=>(k,some rows,e.2.2)) cl)).set j .dead)
     |some none=>some ((H.set id (.aG l w' (es++[(k,some rows,cl)]) (cl+1))).set j .dead)
     |none=>none
    else none
   |none=>none
  |_,_=>none
 |_,_,_=>none
theorem tR{P:Program}{E:Env}(HE:aq E){id l w b n cl cl':Nat}{es es':List (AV × Option (List (List AV)) × Nat)}{ms ms':Array MapEntry}(hid:E.H[id]? = some (.aG l w es cl)) (k:E.loc[id]? = some (some (b,n)))
  (hb:E.w.heap[b]? = some (.map ms cl)) (d:bC E (cB es') ms'.toList) (v:iE E l w es' ms'.toList) :
  ∃ w',(setObj b (.map ms' cl')).run P E.w=.ok () w'∧aq { w:=w',H:=E.H.set id (.aG l w es' cl'),loc:=E.loc,X:=E.X }∧E.le { w:=w',H:=E.H.set id (.aG l w es' cl'),loc:=E.loc,X:=E.X } ∧
   w'.heap[b]? = some (.map ms' cl')∧∀ y,y≠b→w'.heap[y]? = E.w.heap[y]? := by
 have u:=(HE.lt id b n k).1;have B:({ E.w with heap:=E.w.heap.setIfInBounds b (.map ms' cl') }:World).heap.size=E.w.heap.size:=by simp
 have q:∀ y,y≠b→({ E.w with heap:=E.w.heap.setIfInBounds b (.map ms' cl') }:World).heap[y]? = E.w.heap[y]? := by
  intro y M;simp only[AM];rw[if_neg (fun e=>M e.symm)]
 have key:=aq.A9 (E:=E) (w':={ E.w with heap:=E.w.heap.setIfInBounds b (.map ms' cl') }) (o':=.aG l w es' cl') (r':=E.X.r) HE hid rfl rfl rfl (by rw[B]; exact aB _) (fun x _ I _=>q x fun e=>I n (by rw[e]; exact k)) (fun _ _=>rfl) (fun _ _ _ h=>.inl h) (fun h N=>⟨N,fun _ O=>O⟩) (fun hle=>by
  simp only[aM];refine⟨b,n,ms',k,by simp[u],fF (fun a _ d=>bP hle a d) d,tx (E:=E) (fun h g m hk=>⟨hk,q g fun e=>HE.cN _ _ _ _ _ _ k (by rw[←e]; exact hk)⟩) (fun _ _ _ _ _ U J _ d=>kG (fun a _ d=>bP hle a d) J d) v⟩) ⟨rfl,rfl,rfl,by first|exact fun _=>aB _|exact fun _=>eS _ _⟩
 rw[XS.Re]at key;exact⟨_,by simp[setObj,gf,hb],key.1,key.2,by simp[u],q⟩
theorem BH{E:Env}(HE:aq E){id j l w cl i ae:Nat}{es:List (AV × Option (List (List AV)) × Nat)}{rows:List (List AV)}{key:AV}{bn b n:Nat}{ms:Array MapEntry}{e:MapEntry}(hid:E.H[id]? = some (.aG l w es cl))(B:E.H[j]? = some (.vec w ae rows))
  (hi:es[i]? = some (key,none,bn)) (hloc:E.loc[id]? = some (some (b,n))) (hb:E.w.heap[b]? = some (.map ms cl)) (he:ms.toList[i]? = some e) (u:bC E (cB es) ms.toList) (hsl:iE E l w es ms.toList) (hv:rel E (.vec w j ae 0 rows.length) e.val) :
  ∃ loc' r',aq { w:=E.w,H:=(E.H.set id (.aG l w (es.set i (key,some rows,bn)) cl)).set j .dead,loc:=loc',X:=E.X.re r' }∧E.le { w:=E.w,H:=(E.H.set id (.aG l w (es.set i (key,some rows,bn)) cl)).set j .dead,loc:=loc',X:=E.X.re r' }:=by
 have M:j≠id:=fun e=>by rw[e,hid]at B; cases B
 have N:=HE.obj j _ B;simp only[rel]at hv;obtain⟨_,_,v3⟩:=hv;obtain⟨v4,v5⟩:=v3 ⟨_,B,rfl⟩;simp only[aM]at N;obtain⟨q,hq⟩:∃ q,E.loc[j]? = some q:=by
  rcases N with⟨h1,_⟩|⟨U,m',h1,_⟩
  ·exact⟨_,h1⟩
  ·exact⟨_,h1⟩
 obtain⟨J,k1,k2⟩:=hsl;have htl:∀ h,h<(E.X.r l).length→(eM E.X.r l q l)[h]? = (E.X.r l)[h]? := fun h d=>(Iw d).2;have hnew:(eM E.X.r l q l)[(E.X.r l).length]? = some (some q):=by
  unfold eM;rw[if_pos rfl];simp
 obtain⟨r1,r2⟩:=aq.attach HE (id:=id) (j:=j) (o':=.aG l w (es.set i (key,some rows,bn)) cl) (q:=q) hid rfl rfl rfl B rfl hq fun hle=>by
  simp only[aM];refine⟨b,n,ms,?_,hb,fF (fun a _ u=>bP hle a u) (BF hi rfl rfl u),?_⟩
  ·rw [aQ M]
   exact hloc
  ·-- handles: the I ones, but at i the new one; empty ones take none
   have I:∀(a:Nat) y,(es.set i (key,some rows,bn))[a]? = some y→a≠i→es[a]? = some y:=fun a y g M=>by
    rwa [aQ (Ne.symm M)]at g
   have at_i:∀ y,(es.set i (key,some rows,bn))[i]? = some y→y=(key,some rows,bn):=fun y g=>by
    rw[bB (aL hi)]at g;cases g;rfl
   refine⟨fun a=>if a=i then (E.X.r l).length else if J a<(E.X.r l).length then J a else (E.X.r l).length+1+J a,fun a c y z g hz sy sz d=>?_,fun a y rws e' g hr' O=>?_⟩
   ·by_cases k : a = i
    ·by_cases v : c = i
     ·rw[k,v]
     ·simp only [if_pos k, if_neg v] at d
      split at d<;>omega
    ·by_cases v : c = i
     ·simp only [if_neg k, if_pos v] at d
      split at d<;>omega
     ·simp only [if_neg k, if_neg v] at d
      refine k1 a c y z (I a y g k) (I c z hz v) sy sz ?_;split at d<;>split at d<;>omega
   ·by_cases k : a = i
    ·subst k
     have:=at_i y g;subst this;cases hr';rw[he]at O;cases O;rcases N with⟨h1,V⟩|⟨U,m',h1,V,W,h4,h5⟩
     ·obtain ⟨_, _, base, W⟩ := v4 h1
      subst V;exact .inl ⟨rfl,base,W⟩
     ·obtain ⟨h6, o, h7, h8⟩ := v5 U m' h1
      rw[hq]at h1;cases h1;simp only[cP,qi,ga]at h6 h7 h8;by_cases hm:0<m'
      ·have := h7 hm
       subst this;refine .inr ⟨U,m',?_,h8,V,W,h4,kG (fun a _ u=>bP hle a u) rfl h5⟩;simp only[if_true];exact hnew
      ·have hr0 : rows = [] := AI (by omega)
       have hm0:m'=0:=by omega
       subst hr0;subst hm0;exact .inl ⟨rfl,_,h8⟩
    ·rcases k2 a y rws e' (I a y g k) hr' O with hl | ⟨bb, mm, s1, s2, s3, s4, s5, s6⟩
     ·exact .inl hl
     ·refine .inr ⟨bb, mm, ?_, s2, s3, s4, s5, kG (fun a _ u => bP hle a u) rfl s6⟩
      have d:=aL s1;simp only[if_neg k,if_pos d];show (eM E.X.r l q l)[J a]? = _
      rw[htl _ d];exact s1
 exact⟨_,_,r1,r2⟩
theorem Sd{P:Program}{E:Env}(HE:aq E){t:TypeId}{m k v:AV}{c d u:Value}{H':List ab}(h:oZ P t m k v E.H=some H')(hm:rel E m c)(hk:rel E k d)(hv:rel E v u) :
  ∃ w',(l6 t c d u).run P E.w=.ok () w'∧∀ x,cJ E .undef H' x w':=by
 unfold oZ at h;split at h
 case h_2=>cases h
 rename_i kt et id w j ae off n ht;split at h
 case h_2=>cases h
 rename_i l w' es cl w2 ver' rows hid hj;split at h
 case h_2=>cases h
 rename_i kv hkv;split at h
 case isFalse=>cases h
 rename_i hc;obtain⟨⟨rfl,rfl⟩,⟨rfl,rfl⟩,rfl,hcl⟩:=hc;obtain⟨b,n,ms,rfl,h1,h2,h3,h4⟩:=xu HE hid hm;have hne:j≠id:=fun e=>by rw[e,hid]at hj; cases hj
 have N:=gW hkv hk;have e1:(getObj b).run P E.w=.ok (.map ms cl) E.w:=by simp[getObj,gf,h2]
 obtain⟨hlen,hall⟩:=dW.1 h3;rw[A6]at hlen;split at h
 ·rename_i i v0 hf
  cases h;obtain⟨r',g1,g2⟩:=gJ N E.w h3 hf;cases r' with
  |none=>simp[c5]at g2
  | some q =>
   simp only[c5]at g2;obtain⟨q1,q2,_,e',M,q5⟩:=g2;obtain⟨_,x,y,f1,f2,f3⟩:=tM hf;simp only[ga]at M f1;obtain⟨a1,a2,a3,a4,a5⟩:=hall i x e' f1 M;obtain⟨s1,s2⟩:=xq N (gW f2 a1) f3;have q4':ms[i]? = some e':=by simpa using M
   have hlt:i<es.length:=by have:=aL M; omega
   obtain⟨I,hx0⟩:∃ I,es[i]? = some I:=⟨es[i],bI hlt⟩
   have hx:x=(I.1,.undef,I.2.2):=by rw[xv hx0]at f1; cases f1; rfl
   have hkk:(k,(none:Option (List (List AV))),I.2.2)=(k,none,I.2.2):=rfl;have hre:bC E (cB (es.set i (k,none,I.2.2))) (ms.modify i fun e=>{ e with key:=d,val:=u }).toList:=by
    rw[dW];refine⟨by simp[cB,hlen],fun a y z g B=>?_⟩;simp only[kz,iA]at B;obtain⟨z0,V,rfl⟩:=dQ.1 B;unfold cB at g;rw[bZ,dR]at g;by_cases e:i=a
    ·subst e
     rw[if_pos rfl,if_pos hlt]at g;cases g;rw[M]at V;cases V;simp only[if_true];refine⟨hk,by simp[rel],?_,hcl,rfl⟩;rw[a3,hx]
    ·rw [if_neg e] at g
     obtain⟨b1,b2,b3,b4,b5⟩:=hall a y z0 (by unfold cB; rw[bZ]; exact g) V;simp only[if_neg e];exact⟨b1,b2,b3,b4,b5⟩
   have hsl2:iE E l w (es.set i (k,none,I.2.2)) (ms.modify i fun e=>{ e with key:=d,val:=u }).toList:=by
    obtain⟨hs,k1,k2⟩:=h4;have J:∀(a:Nat) y,(es.set i (k,none,I.2.2))[a]? = some y→y.2.1.isSome=true→es[a]? = some y∧a≠i:=fun a y g hsm=>by
     by_cases ei:i=a
     ·subst ei
      rw[bB hlt]at g;cases g;cases hsm
     ·rw [aQ ei] at g
      exact⟨g,Ne.symm ei⟩
    refine⟨hs,fun a c y z g B W sz he=>k1 a c y z (J a y g W).1 (J c z B sz).1 W sz he,fun a y rws e g hr he=>?_⟩;obtain⟨o1,o2⟩:=J a y g (by rw[hr]; rfl);simp only[kz,iA]at he;obtain⟨z0,V,rfl⟩:=dQ.1 he;rw[if_neg (Ne.symm o2)];exact k2 a y rws z0 o1 hr V
   obtain⟨w',p1,p2,p3,p4,p5⟩:=tR (P:=P) HE (cl':=cl) hid h1 h2 hre hsl2;have hst:(qk e'.key d).run P E.w=.ok d E.w:=by simp[qk,s2]
   have hrun:(l6 t (.map (some b)) d u).run P E.w=.ok () w':=by
    subst q1;simp only[l6,bV,Sem.bq (fg ht),bX,e1,fS N,g1,q4',eJ,l7,hst];exact p1
   have O:({ w:=w',H:=E.H.set id (.aG l w (es.set i (k,none,I.2.2)) cl),loc:=E.loc,X:=E.X }:Env).H[id]? = some (.aG l w (es.set i (k,none,I.2.2)) cl):=by
    simp only[];rw[bB (aL hid)]
   have hjE:({ w:=w',H:=E.H.set id (.aG l w (es.set i (k,none,I.2.2)) cl),loc:=E.loc,X:=E.X }:Env).H[j]? = some (.vec w ae rows):=by
    simp only[];rw[aQ (Ne.symm hne)];exact hj
   have U:=p2.obj id _ O;simp only[aM]at U;obtain⟨b2,n2,ms2,o1,o2,o3,o4⟩:=U;rw[h1]at o1;simp only[aV,ba]at o1;obtain⟨rfl,rfl⟩:=o1;rw[p4]at o2;cases o2;obtain⟨loc',r',r1,r2⟩:=BH p2 (i:=i) (key:=k) (bn:=I.2.2) (e:={ e' with key:=d,val:=u }) O hjE (by rw[bB hlt]) h1 p4 (by
    simp only[kz,iA,M];simp) o3 o4 (bP p3 _ hv)
   refine⟨w',hrun,fun xx=>⟨loc',r',by simp[rel],?_,p3.trans ?_⟩⟩
   ·simpa[oL,BG hx0]using r1
   ·simpa[oL,BG hx0]using r2
 ·rename_i hf
  cases h;obtain⟨r',g1,g2⟩:=gJ N E.w h3 hf;cases r' with
  |some _=>simp[c5]at g2
  | none =>
   have hml:ms.toList.length=es.length:=by omega
   have hre:bC E (cB (es++[(k,none,cl)])) (ms.push { key:=d,val:=u,born:=cl }).toList:=by
    rw[dW];refine⟨by simp[cB,hlen],fun a y z g B=>?_⟩;unfold cB at g;rw[kA]at g;simp only[oK,e_,dJ]at g B;rw[hml]at B;by_cases e:a<es.length
    ·simp only [if_pos e] at g B
     exact hall a y z (by unfold cB; exact g) B
    ·simp only [if_neg e] at g B
     cases hj2:a-es.length with
     | zero =>
      rw[hj2]at g B;simp at g B;subst g; subst B;exact⟨hk,by simp[rel],rfl,hcl,rfl⟩
     |succ _=>rw[hj2]at g; simp at g
   have hsl2:iE E l w (es++[(k,none,cl)]) (ms.push { key:=d,val:=u,born:=cl }).toList:=by
    obtain⟨hs,k1,k2⟩:=h4;have J:∀(a:Nat) y,(es++[(k,(none:Option (List (List AV))),cl)])[a]? = some y→y.2.1.isSome=true→es[a]? = some y∧a<es.length:=fun a y g hsm=>by
     rw[e_]at g;split at g
     ·rename_i hh
      exact⟨g,hh⟩
     ·cases hk2 : a - es.length with
      | zero =>
       rw[hk2]at g;simp at g;subst g;cases hsm
      |succ _=>rw[hk2]at g; simp at g
    refine⟨hs,fun a c y z g B W sz he=>k1 a c y z (J a y g W).1 (J c z B sz).1 W sz he,fun a y rws e g hr he=>?_⟩;obtain⟨o1,o2⟩:=J a y g (by rw[hr]; rfl);simp only[oK]at he;rw[cI (by omega)]at he;exact k2 a y rws e o1 hr he
   obtain⟨w',p1,p2,p3,p4,p5⟩:=tR (P:=P) HE (cl':=cl+1) hid h1 h2 hre hsl2;have hrun:(l6 t (.map (some b)) d u).run P E.w=.ok () w':=by
    simp only[l6,bV,Sem.bq (fg ht),bX,e1,fS N,g1];exact p1
   have O:({ w:=w',H:=E.H.set id (.aG l w (es++[(k,none,cl)]) (cl+1)),loc:=E.loc,X:=E.X }:Env).H[id]? = some (.aG l w (es++[(k,none,cl)]) (cl+1)):=by
    simp only[];rw[bB (aL hid)]
   have hjE:({ w:=w',H:=E.H.set id (.aG l w (es++[(k,none,cl)]) (cl+1)),loc:=E.loc,X:=E.X }:Env).H[j]? = some (.vec w ae rows):=by
    simp only[];rw[aQ (Ne.symm hne)];exact hj
   have U:=p2.obj id _ O;simp only[aM]at U;obtain⟨b2,n2,ms2,o1,o2,o3,o4⟩:=U;rw[h1]at o1;simp only[aV,ba]at o1;obtain⟨rfl,rfl⟩:=o1;rw[p4]at o2;cases o2;obtain⟨loc',r',r1,r2⟩:=BH p2 (i:=es.length) (key:=k) (bn:=cl) (e:={ key:=d,val:=u,born:=cl }) O hjE (by simp) h1 p4 (by
    simp only[oK];rw[iz (by omega)];simp[hml]) o3 o4 (bP p3 _ hv)
   have e2:(es++[(k,(none:Option (List (List AV))),cl)]).set es.length (k,some rows,cl)=es++[(k,some rows,cl)]:=by
    rw[List.set_append_right _ _ (aB _),Nat.sub_self];rfl
   refine⟨w',hrun,fun xx=>⟨loc',r',by simp[rel],?_,p3.trans ?_⟩⟩
   ·simpa[oL,e2]using r1
   ·simpa[oL,e2]using r2
 ·cases h
theorem aq.Iy{E:Env}(H:aq E){id l0:Nat}{o o':ab}(hid:E.H[id]? = some o)(hlab:o.label=none)(J:o'.label=some l0)(M:o'.aD = o.aD)(I:∀(i:Nat) x,E.H[i]? = some x→x.label≠some l0)
  (ho:E.le { w:=E.w,H:=E.H.set id o',loc:=E.loc,X:=E.X }→aM { w:=E.w,H:=E.H.set id o',loc:=E.loc,X:=E.X } id o') :
  aq { w:=E.w,H:=E.H.set id o',loc:=E.loc,X:=E.X }∧E.le { w:=E.w,H:=E.H.set id o',loc:=E.loc,X:=E.X }:=by
 have N:=aL hid;have B:∀(i:Nat) x,(E.H.set id o')[i]? = some x→(i=id∧x=o')∨(i≠id∧E.H[i]? = some x):=fun i x hi=>by
  by_cases g:i=id
  ·subst g
   rw[bB N]at hi;cases hi;exact .inl ⟨rfl,rfl⟩
  ·rw [aQ (Ne.symm g)] at hi
   exact .inr ⟨g,hi⟩
 have hle:E.le { w:=E.w,H:=E.H.set id o',loc:=E.loc,X:=E.X }:=by
  refine⟨fun i ae O=>?_,aB _,fun _ _ _=>rfl,fun b hb I=>I,fun i ae O q=>?_,⟨rfl,rfl⟩,fun l h W=>⟨W,fun _ hq=>hq⟩,.refl _,fun i l x h1 d U=>⟨⟨[],(cO _).symm⟩,?_⟩⟩
  rotate_right
  ·by_cases g : i = id
   ·subst g
    rw[hid]at h1;cases h1;rw[ab.wW hlab]at d;cases d
   ·exact⟨x,by simp only[]; rw[aQ (Ne.symm g)]; exact h1,d⟩
  ·obtain ⟨x, h1, d⟩ := O
   by_cases g:i=id
   ·subst g
    rw[hid]at h1;cases h1;exact⟨o',by simp only[]; rw[bB N],ab.wV J,fun v U=>d.2 v (by rw[←M]; exact U)⟩
   ·exact⟨x,by simp only[]; rw[aQ (Ne.symm g)]; exact h1,d⟩
  ·obtain ⟨x, h1, d⟩ := q
   rcases B i x h1 with⟨rfl,rfl⟩|⟨g,u⟩
   ·exact⟨⟨o,hid,by rw[←M]; exact d⟩,rfl⟩
   ·exact⟨⟨x,u,d⟩,rfl⟩
 refine⟨⟨by simp[H.len],H.inj,H.lt,H.X,fun i x hi=>?_,H.eW.bF hle.toC,H.eE,H.cN,H.cr,fun i k x y l hi hk h1 d=>?_,fun l hn h y hy=>?_⟩,hle⟩
 ·rcases B i x hi with ⟨rfl, rfl⟩ | ⟨g, u⟩
  ·exact ho hle
  ·exact jS (fun a _ hr=>bP hle a hr) rfl (fun _ _ _=>rfl) (fun l q=>⟨rfl,fun _ _ _ _=>rfl⟩) (H.obj i x u)
 ·rcases B i x hi with ⟨rfl, rfl⟩ | ⟨g, u⟩ <;> rcases B k y hk with ⟨rfl, rfl⟩ | ⟨e4, V⟩
  ·rfl
  ·rw [J] at h1
   cases h1;exact(I k y V d).elim
  ·rw [J] at d
   cases d;exact(I i x u h1).elim
  ·exact H.uniq i k x y l u V h1 d
 ·refine H.fQ l (fun i x hi q => ?_) h y hy
  by_cases e:i=id
  ·subst e
   rw[hid]at hi;cases hi;rw[hlab]at q;cases q
  ·exact hn i x (by show (E.H.set id o')[i]? = _; rw[aQ (Ne.symm e)]; exact hi) q
theorem Se{E:Env}(HE:aq E){id l w cl:Nat}(hid:E.H[id]? = some (.map [] cl))(d:mq E.H l=true) :
  aq { w:=E.w,H:=E.H.set id (.aG l w [] cl),loc:=E.loc,X:=E.X }∧E.le { w:=E.w,H:=E.H.set id (.aG l w [] cl),loc:=E.loc,X:=E.X } :=
 aq.Iy HE hid rfl rfl rfl (tH d) fun hle=>by
  have ho:=HE.obj id _ hid;simp only[aM]at ho⊢;obtain⟨b,n,ms,h1,g,h⟩:=ho;refine⟨b,n,ms,h1,g,fF (fun a _ k=>bP hle a k) h,fun _=>0,fun i j x y hi=>by simp at hi,fun i x rows e hi=>by simp at hi⟩
theorem Sf{E:Env}(HE:aq E){id l w cl i:Nat}{es:List (AV × Option (List (List AV)) × Nat)}{key:AV}{rows:List (List AV)}{bn b n:Nat}{ms:Array MapEntry}{e':MapEntry}(hid:E.H[id]? = some (.aG l w es cl))(hes:es[i]? = some (key,some rows,bn))
  (h1:E.loc[id]? = some (some (b,n))) (h2:E.w.heap[b]? = some (.map ms cl)) (h3:bC E (cB es) ms.toList) (h4:iE E l w es ms.toList) (q4:ms.toList[i]? = some e') :
  ∃ loc' r',aq { w:=E.w,H:=E.H.set id (.aG l w (es.set i (key,none,bn)) cl)++[.vec w 0 rows],loc:=loc',X:=E.X.re r' }∧E.le { w:=E.w,H:=E.H.set id (.aG l w (es.set i (key,none,bn)) cl)++[.vec w 0 rows],loc:=loc',X:=E.X.re r' } ∧
   rel { w:=E.w,H:=E.H.set id (.aG l w (es.set i (key,none,bn)) cl)++[.vec w 0 rows],loc:=loc',X:=E.X.re r' } (.vec w E.H.length 0 0 rows.length) e'.val:=by
 have hlenH:E.H.length=E.loc.length:=HE.len.symm;obtain⟨V,k1,k2⟩:=h4;have hsl:=k2 i _ rows e' hes rfl q4;obtain⟨g,h0,z1,z2,z3⟩:∃(g:Option (Nat × Nat)) (h0:Nat),(∀ b m,g=some (b,m)→(E.X.r l)[h0]? = some (some (some (b,m)))) ∧
   (∀ j y,es[j]? = some y→y.2.1.isSome=true→j≠i→∀ b m,(E.X.r l)[V j]? = some (some (some (b,m)))→V j≠h0) ∧
   ((g=none∧rows=[]∧∃ base,e'.val=.slice base 0 0)∨∃ b m,g=some (b,m)∧e'.val=.slice (some ⟨b,0,none⟩) rows.length m∧isRow E.w b (m*w)∧rows.length≤m∧eV rows∧cy E w rows b 0):=by
  rcases hsl with⟨s1,s2⟩|⟨k,mm,s1,s2,M,J,N,O⟩
  ·exact⟨none,(E.X.r l).length,fun _ _ e=>(by cases e),fun j y _ _ _ b m hb e=>(by rw[e]at hb; have:=aL hb; omega),.inl ⟨rfl,s1,s2⟩⟩
  ·exact⟨some (k,mm),V i,fun _ _ e=>(by cases e; exact s1),fun j y d hsy U _ _ _ e=>U (k1 j i _ _ d hes hsy rfl e),.inr ⟨k,mm,rfl,s2,M,J,N,O⟩⟩
 obtain⟨r1,r2⟩:=aq.BE HE (id:=id) (l0:=l) (h0:=h0) (o':=.aG l w (es.set i (key,none,bn)) cl) (ov:=.vec w 0 rows) (q:=g) hid rfl rfl rfl rfl z1 fun hle=>by
  refine⟨?_,?_⟩
  ·simp only [aM]
   refine⟨b,n,ms,?_,h2,?_,?_⟩
   ·rw [cI (aL h1)]
    exact h1
   ·exact fF (fun a _ u=>bP hle a u) (BF hes rfl rfl h3)
   ·refine ⟨V, fun a W y z d hz sy sz he => ?_, fun a y rws e d u he => ?_⟩
    all_goals
     have old:∀(j:Nat) y,(es.set i (key,none,bn))[j]? = some y→y.2.1.isSome=true→es[j]? = some y∧j≠i:=fun j y d hsm=>by
      rw[dR]at d;split at d
      ·split at d
       ·cases d
        cases hsm
       ·cases d
      ·rename_i U
       exact⟨d,Ne.symm U⟩
    ·exact k1 a W y z (old a y d sy).1 (old W z hz sz).1 sy sz he
    ·obtain ⟨o1, o2⟩ := old a y d (by rw [u]; rfl)
     rcases k2 a y rws e o1 u he with I|⟨k,mm,s1,s2,M,J,N,O⟩
     ·exact .inl I
     ·refine .inr ⟨k, mm, ?_, s2, M, J, N, kG (fun a _ u => bP hle a u) rfl O⟩
      have U:=z2 a y o1 (by rw[u]; rfl) o2 k mm s1;show (fH E.X.r l h0 l)[V a]? = _
      rw[BD fun e=>U e.2];exact s1
  ·simp only [aM]
   have I:(E.loc++[g])[E.H.length]? = some g:=by rw[hlenH]; simp
   rcases z3 with⟨rfl,s1,_⟩|⟨k,mm,rfl,_,M,J,N,O⟩
   ·exact .inl ⟨I,s1⟩
   ·exact .inr ⟨k,mm,I,M,J,N,kG (fun a _ u=>bP hle a u) rfl O⟩
 refine⟨E.loc++[g],fH E.X.r l h0,r1,r2,?_⟩;have hnew:(E.H.set id (.aG l w (es.set i (key,none,bn)) cl)++[.vec w 0 rows])[E.H.length]? = some (.vec w 0 rows):=by
  rw[iz (by simp)];simp
 have I:(E.loc++[g])[E.H.length]? = some g:=by rw[hlenH]; simp
 simp only[rel];rcases z3 with⟨rfl,s1,base,s2⟩|⟨k,mm,rfl,s2,M,J,N,O⟩
 ·subst s1
  refine⟨⟨base,0,by rw[s2]; rfl,aB _,fun h=>by simp at h⟩,⟨_,hnew,rfl,fun v hv=>by cases hv; exact aB _⟩,fun _=>⟨fun _=>⟨by first|rfl|trivial,by first|rfl|trivial,base,s2⟩,fun W m' B=>?_⟩⟩;rw[I]at B;cases B
 ·refine ⟨⟨_, mm, s2, J, fun _ => ⟨k, 0, rfl⟩⟩, ⟨_, hnew, rfl, fun v hv => by cases hv; exact aB _⟩, fun _ => ⟨fun B => ?_, fun W m' B => ?_⟩⟩
  ·rw [I] at B
   cases B
  ·rw [I] at B
   cases B;exact⟨by omega,0,fun _=>by simp,by rw[s2,ga]⟩
theorem Sg{E:Env}(HE:aq E)(w:Nat) :
  aq { w:=E.w,H:=E.H++[.vec w 0 []],loc:=E.loc++[none],X:=E.X }∧E.le { w:=E.w,H:=E.H++[.vec w 0 []],loc:=E.loc++[none],X:=E.X } ∧
   rel { w:=E.w,H:=E.H++[.vec w 0 []],loc:=E.loc++[none],X:=E.X } (.vec w E.H.length 0 0 0) (.slice none 0 0):=by
 have hle:E.le (E.push E.w (.vec w 0 []) none):=Env.ju HE.len (Ext.refl _) (fun b n h=>by cases h);have d:(E.loc++[(none:Option (Nat × Nat))])[E.H.length]? = some none:=by rw[←HE.len]; simp
 have k:aM (E.push E.w (.vec w 0 []) none) E.H.length (.vec w 0 []):=by
  simp only[aM,Env.push];exact .inl ⟨d,trivial⟩
 refine⟨aq.push HE (Ext.refl _) (fun b n h=>by cases h) k,hle,?_⟩;simp only[rel];refine⟨⟨none,0,rfl,aB _,fun h=>by simp at h⟩,⟨.vec w 0 [],by simp,rfl,fun v q=>by cases q; exact aB _⟩,fun _=>⟨fun _=>⟨by first|rfl|trivial,by first|rfl|trivial,none,rfl⟩,fun u m' g=>?_⟩⟩;rw[d]at g;cases g
def gY(P:Program)(t:TypeId)(m k:AV)(H:List ab):Option (AV × List ab) :=
 match cX P t,m with
 | some (d,g),.map id=>match H[id]? with
  | some (.aG l w es cl)=>match gV P d k,xw P g,gK P g with
   | some h,some w',some (.lit (.slice none 0 0))=>match ad w' w&&k.closed with
    | true=>match ed P d h (cB es) 0 with
     | some (some (i,_))=>match nB es i with
      |some (_,rows,n)=>some (.tuple [.vec w H.length 0 0 rows.length,.lit (goInt n)],H.set id (.aG l w (es.set i (k,none,n)) cl)++[.vec w 0 rows])
      |none=>none
     |some none=>some (.tuple [.vec w H.length 0 0 0,.lit (goInt cl)],H.set id (.aG l w (es++[(k,none,cl)]) (cl+1))++[.vec w 0 []])
     |none=>none
    |false=>none
   |_,_,_=>none
  |_=>none
 |_,_=>none
theorem Si{P:Program}{E:Env}(HE:aq E){t:TypeId}{m k v:AV}{c d:Value}{H':List ab}(h:gY P t m k E.H=some (v,H'))(hm:rel E m c)(hk:rel E k d) :
  ∃ u w',(AN t c d).run P E.w=.ok u w'∧cJ E v H' u w':=by
 unfold gY at h;split at h
 case h_2=>cases h
 rename_i kt et id ht;split at h
 case h_2=>cases h
 rename_i l w es cl hid;split at h
 case h_2=>cases h
 rename_i kv w' hkv hw' B;split at h
 case h_2=>cases h
 rename_i hww;simp only[ax]at hww;have hcl:=hww.2;clear hw' hww;obtain⟨b,n,ms,rfl,h1,h2,h3,h4⟩:=xu HE hid hm;have J:=gW hkv hk;have e1:(getObj b).run P E.w=.ok (.map ms cl) E.w:=by simp[getObj,gf,h2]
 obtain⟨hlen,hall⟩:=dW.1 h3;rw[A6]at hlen;have hidE:∀(w':World) es' cl',({ w:=w',H:=E.H.set id (.aG l w es' cl'),loc:=E.loc,X:=E.X }:Env).H[id]? = some (.aG l w es' cl'):=fun w' es' cl'=>by
  simp only[];rw[bB (aL hid)]
 split at h
 ·rename_i i v0 V
  split at h
  case h_2=>cases h
  rename_i key rows bn U;cases h;have hes:es[i]? = some (key,some rows,bn):=by
   unfold nB at U;split at U
   ·rename_i a1 a2 a3 he
    cases U;exact he
   ·cases U
  have hlt:=aL hes;obtain⟨r',g1,g2⟩:=gJ J E.w h3 V;cases r' with
  |none=>simp[c5]at g2
  | some q =>
   simp only[c5]at g2;obtain⟨q1,q2,_,e',N,q5⟩:=g2;obtain⟨_,x,y,f1,f2,f3⟩:=tM V;simp only[ga]at N f1;obtain⟨a1,a2,a3,a4,a5⟩:=hall i x e' f1 N;obtain⟨s1,s2⟩:=xq J (gW f2 a1) f3;have q4':ms[i]? = some e':=by simpa using N
   have hx:x=(key,.undef,bn):=by rw[xv hes]at f1; cases f1; rfl
   have hre:bC E (cB (es.set i (k,some rows,bn))) (ms.modify i fun e=>{ e with key:=d }).toList:=by
    rw[dW];refine⟨by simp[cB,hlen],fun a y z g B=>?_⟩;simp only[kz,iA]at B;obtain⟨z0,M,rfl⟩:=dQ.1 B;unfold cB at g;rw[bZ,dR]at g;by_cases e:i=a
    ·subst e
     rw[if_pos rfl,if_pos hlt]at g;cases g;rw[N]at M;cases M;simp only[if_true];refine⟨hk,by simp[rel],?_,hcl,rfl⟩;rw[a3,hx]
    ·rw [if_neg e] at g
     obtain⟨b1,b2,b3,b4,b5⟩:=hall a y z0 (by unfold cB; rw[bZ]; exact g) M;simp only[if_neg e];exact⟨b1,b2,b3,b4,b5⟩
   have hsl2:iE E l w (es.set i (k,some rows,bn)) (ms.modify i fun e=>{ e with key:=d }).toList:=by
    obtain⟨hs,k1,k2⟩:=h4;have I:∀(a:Nat) y,(es.set i (k,some rows,bn))[a]? = some y→∃ z,es[a]? = some z∧z.2.1=y.2.1:=fun a y g=>by
     by_cases ei:i=a
     ·subst ei
      rw[bB hlt]at g;cases g;exact⟨_,hes,rfl⟩
     ·rw [aQ ei] at g
      exact⟨y,g,rfl⟩
    refine⟨hs,fun a c y z g B W sz he=>?_,fun a y rws e g hr he=>?_⟩
    ·obtain ⟨y', hy', ey⟩ := I a y g
     obtain⟨z',hz',ez⟩:=I c z B;exact k1 a c y' z' hy' hz' (by rw[ey]; exact W) (by rw[ez]; exact sz) he
    ·obtain ⟨y', hy', ey⟩ := I a y g
     simp only[kz,iA]at he;obtain⟨z0,M,rfl⟩:=dQ.1 he;have:=k2 a y' rws z0 hy' (by rw[ey]; exact hr) M;split<;>exact this
   obtain⟨O,p1,p2,p3,p4,p5⟩:=tR (P:=P) HE (cl':=cl) hid h1 h2 hre hsl2;have hobj:=p2.obj id _ (hidE O _ _);simp only[aM]at hobj;obtain⟨b2,n2,ms2,o1,o2,o3,o4⟩:=hobj;rw[h1]at o1;simp only[aV,ba]at o1;obtain⟨rfl,rfl⟩:=o1;rw[p4]at o2;cases o2;obtain⟨loc',r',r1,r2,r3⟩:=Sf p2 (i:=i) (key:=k) (rows:=rows) (bn:=bn) (e':={ e' with key:=d }) (hidE O _ _) (by rw[bB hlt]) h1 p4 o3 o4 (by
    simp only[kz,iA,N];simp)
   simp only[oL,m_]at r1 r2 r3;refine⟨.tuple #[e'.val,goInt bn],O,?_,loc',r',?_,r1,p3.trans r2⟩
   ·have hst : (qk e'.key d).run P E.w = .ok d E.w := by simp [qk, s2]
    subst q1;simp only[AN,bV,Sem.bq (fg ht),bX,e1,fS J,g1,q4',eJ,l7,hst];rw[p1];simp only[bX,fa];rw[a3,hx,←q5]
   ·simp only [rel]
    refine⟨_,rfl,?_⟩;simp only[af,and_true];exact⟨r3,by simp[rel]⟩
 ·rename_i V
  cases h;obtain⟨r',g1,g2⟩:=gJ J E.w h3 V;cases r' with
  |some _=>simp[c5]at g2
  | none =>
   obtain⟨zv,z1,z2⟩:=qK B E.w;have hzv:zv=.slice none 0 0:=by have:=z2 E; simpa[rel]using this
   have hml:ms.toList.length=es.length:=by omega
   have hre:bC E (cB (es++[(k,none,cl)])) (ms.push { key:=d,val:=zv,born:=cl }).toList:=by
    rw[dW];refine⟨by simp[cB,hlen],fun a y z g B=>?_⟩;unfold cB at g;rw[kA]at g;simp only[oK,e_,dJ]at g B;rw[hml]at B;by_cases e:a<es.length
    ·simp only [if_pos e] at g B
     exact hall a y z (by unfold cB; exact g) B
    ·simp only [if_neg e] at g B
     cases hj2:a-es.length with
     | zero =>
      rw[hj2]at g B;simp at g B;subst g; subst B;exact⟨hk,by simp[rel],rfl,hcl,rfl⟩
     |succ _=>rw[hj2]at g; simp at g
   have hsl2:iE E l w (es++[(k,none,cl)]) (ms.push { key:=d,val:=zv,born:=cl }).toList:=by
    obtain⟨hs,k1,k2⟩:=h4;have I:∀(a:Nat) y,(es++[(k,(none:Option (List (List AV))),cl)])[a]? = some y→y.2.1.isSome=true→es[a]? = some y∧a<es.length:=fun a y g hsm=>by
     rw[e_]at g;split at g
     ·rename_i hh
      exact⟨g,hh⟩
     ·cases hk2 : a - es.length with
      | zero =>
       rw[hk2]at g;simp at g;subst g;cases hsm
      |succ _=>rw[hk2]at g; simp at g
    refine⟨hs,fun a c y z g B W sz he=>k1 a c y z (I a y g W).1 (I c z B sz).1 W sz he,fun a y rws e g hr he=>?_⟩;obtain⟨o1,o2⟩:=I a y g (by rw[hr]; rfl);simp only[oK]at he;rw[cI (by omega)]at he;exact k2 a y rws e o1 hr he
   obtain⟨O,p1,p2,p3,p4,p5⟩:=tR (P:=P) HE (cl':=cl+1) hid h1 h2 hre hsl2;obtain⟨r1,r2,r3⟩:=Sg p2 w;simp only[m_]at r3;refine⟨.tuple #[zv,goInt cl],O,?_,E.loc++[none],E.X.r,?_,r1,p3.trans r2⟩
   ·simp only [AN, bV, Sem.bq (fg ht), bX, e1, fS J, g1, z1]
    rw[p1];rfl
   ·simp only [rel]
    refine⟨_,rfl,?_⟩;simp only[af,and_true];rw[hzv];exact⟨r3,by simp[rel]⟩
 ·cases h
def o9 (es:List (AV × Option (List (List AV)) × Nat)) (st:Int):Option Nat:=es.findIdx? fun x=>(x.2.2:Int)==st
def jW(m s v:AV)(H:List ab):Option (List ab) :=
 match m,s,v with
 | .map id,.lit (.int .i64 st),.vec w j ae off n=>match H[id]?,H[j]? with
  | some (.aG l w' es cl),some (.vec g d rows)=>if (w=w'∧w=g)∧(ae=d∧off=0)∧n=rows.length then
    match o9 es st with
    | some i=>match es[i]? with
     |some (key,_,bn)=>some ((H.set id (.aG l w' (es.set i (key,some rows,bn)) cl)).set j .dead)
     |none=>none
    |none=>none
   else none
  |_,_=>none
 |_,_,_=>none
theorem Iz{E:Env}{st:Int}:∀{es:List (AV × Option (List (List AV)) × Nat)} {ms:List MapEntry},bC E (cB es) ms→ms.findIdx? (fun e=>(e.born:Int)==st)=o9 es st
 | [],[],_=>rfl
 | [],_::_,h=>by simp[cB,bC]at h
 |_::_,[],h=>by simp[cB,bC]at h
 | x::es,e::ms,h=>by
  have h':bC E ((x.1,.undef,x.2.2)::cB es) (e::ms):=h;simp only[bC]at h';obtain⟨_,_,g,_,_,k⟩:=h';have d:=Iz (st:=st) k;unfold o9 at d⊢;simp only[Ha,g,d]
theorem Sj{P:Program}{E:Env}(HE:aq E){t:TypeId}{m s v:AV}{c d u:Value}{H':List ab}(h:jW m s v E.H=some H')(hm:rel E m c)(J:rel E s d)(hv:rel E v u) :
  ∃ w',(wG t c d u).run P E.w=.ok () w'∧∀ x,cJ E .undef H' x w':=by
 unfold jW at h;split at h
 case h_2=>cases h
 rename_i id st w j ae off n;split at h
 case h_2=>cases h
 rename_i l w' es cl w2 ver' rows hid M;split at h
 case isFalse=>cases h
 rename_i hc;obtain⟨⟨rfl,rfl⟩,⟨rfl,rfl⟩,rfl⟩:=hc;split at h
 case h_2=>cases h
 rename_i i hi;split at h
 case h_2=>cases h
 rename_i key k bn hes;cases h;obtain⟨b,n,ms,rfl,h1,h2,h3,h4⟩:=xu HE hid hm;have hne:j≠id:=fun e=>by rw[e,hid]at M; cases M
 have e1:(getObj b).run P E.w=.ok (.map ms cl) E.w:=by simp[getObj,gf,h2]
 obtain⟨hlen,W⟩:=dW.1 h3;rw[A6]at hlen;have I:=aL hes;obtain⟨e',q4⟩:∃ e',ms.toList[i]? = some e':=⟨ms.toList[i]'(by omega),bI _⟩
 have hfind:ms.findIdx? (fun e=>(e.born:Int)==st)=some i:=by
  have e0:ms=ms.toList.toArray:=by simp
  rw[e0,aeO,Iz h3,hi]
 have hre:bC E (cB (es.set i (key,none,bn))) (ms.modify i fun e=>{ e with val:=u }).toList:=by
  rw[dW];refine⟨by simp[cB,hlen],fun a y z g B=>?_⟩;simp only[kz,iA]at B;obtain⟨z0,q,rfl⟩:=dQ.1 B;unfold cB at g;rw[bZ,dR]at g;by_cases e:i=a
  ·subst e
   rw[if_pos rfl,if_pos I]at g;cases g;obtain⟨b1,N,O,U,b5⟩:=W i _ z0 (xv hes) q;simp only[if_true];exact⟨b1,by simp[rel],O,U,rfl⟩
  ·rw [if_neg e] at g
   obtain⟨b1,N,O,U,b5⟩:=W a y z0 (by unfold cB; rw[bZ]; exact g) q;simp only[if_neg e];exact⟨b1,N,O,U,b5⟩
 have hsl2:iE E l w (es.set i (key,none,bn)) (ms.modify i fun e=>{ e with val:=u }).toList:=by
  obtain⟨J,k1,k2⟩:=h4;have k:∀(a:Nat) y,(es.set i (key,none,bn))[a]? = some y→y.2.1.isSome=true→es[a]? = some y∧a≠i:=fun a y g hsm=>by
   by_cases V:i=a
   ·subst V
    rw[bB I]at g;cases g;cases hsm
   ·rw [aQ V] at g
    exact⟨g,Ne.symm V⟩
  refine⟨J,fun a c y z g B sy sz he=>k1 a c y z (k a y g sy).1 (k c z B sz).1 sy sz he,fun a y rws e g hr he=>?_⟩;obtain⟨o1,o2⟩:=k a y g (by rw[hr]; rfl);simp only[kz,iA]at he;obtain⟨z0,q,rfl⟩:=dQ.1 he;rw[if_neg (Ne.symm o2)];exact k2 a y rws z0 o1 hr q
 obtain⟨w',p1,p2,p3,p4,p5⟩:=tR (P:=P) HE (cl':=cl) hid h1 h2 hre hsl2;have hd:d=.int .i64 st:=by simpa[rel]using J
 have hrun:(wG t (.map (some b)) d u).run P E.w=.ok () w':=by
  subst hd;simp only[wG,asInt,asIntOf,bV,bX,e1,fa,hfind];exact p1
 have hidE:({ w:=w',H:=E.H.set id (.aG l w (es.set i (key,none,bn)) cl),loc:=E.loc,X:=E.X }:Env).H[id]? = some (.aG l w (es.set i (key,none,bn)) cl):=by
  simp only[];rw[bB (aL hid)]
 have hjE:({ w:=w',H:=E.H.set id (.aG l w (es.set i (key,none,bn)) cl),loc:=E.loc,X:=E.X }:Env).H[j]? = some (.vec w ae rows):=by
  simp only[];rw[aQ (Ne.symm hne)];exact M
 have hobj:=p2.obj id _ hidE;simp only[aM]at hobj;obtain⟨N,n2,ms2,o1,o2,o3,o4⟩:=hobj;rw[h1]at o1;simp only[aV,ba]at o1;obtain⟨rfl,rfl⟩:=o1;rw[p4]at o2;cases o2;obtain⟨loc',r',r1,r2⟩:=BH p2 (i:=i) (key:=key) (bn:=bn) (e:={ e' with val:=u }) hidE hjE (by rw[bB I]) h1 p4 (by
  simp only[kz,iA,q4];simp) o3 o4 (bP p3 _ hv)
 refine⟨w',hrun,fun xx=>⟨loc',r',by simp[rel],?_,p3.trans ?_⟩⟩
 ·simpa[oL]using r1
 ·simpa[oL]using r2
end Go.AL

namespace Go.AL
open Go
variable [Dr]
theorem Sk{r:List (Option (Option (Nat × Nat)))}(h:∀(i:Nat) q,r[i]? ≠ some (some q)):dU r=[]:=by
 unfold dU;rw[List.filterMap_eq_nil_iff];intro x d;obtain⟨i,hi,e⟩:=oG d;cases x with
 |none=>rfl
 |some q=>exact absurd (by rw[bI hi,e]) (h i q)
theorem IA{E:Env}(HE:aq E){id l cl:Nat}(hid:E.H[id]? = some (.map [] cl))(d:mq E.H l=true) :
  aq { w:=E.w,H:=E.H.set id (.mm l [] [] cl),loc:=E.loc,X:=E.X }∧E.le { w:=E.w,H:=E.H.set id (.mm l [] [] cl),loc:=E.loc,X:=E.X } :=
 aq.Iy HE hid rfl rfl rfl (tH d) fun hle=>by
  have ho:=HE.obj id _ hid;simp only[aM]at ho⊢;obtain⟨b,n,ms,h1,g,h⟩:=ho;have k:=Sk (HE.fQ l (tH d));refine⟨b,n,ms,h1,g,fF (fun a _ q=>bP hle a q) h,?_,fun i x e u=>by simp at u,fun j m b hm=>by simp at hm⟩;show (dU (E.X.r l)).length=0
  rw[k];rfl
theorem BI{E:Env}(HE:aq E){id l cl:Nat}{es:List (AV × Option Nat × Nat)}{ms:List (List (AV × AV × Nat) × Nat)}{c:Value}(hid:E.H[id]? = some (.mm l es ms cl))(g:rel E (.map id) c) :
  ∃ b n d,c=.map (some b)∧E.loc[id]? = some (some (b,n))∧E.w.heap[b]? = some (.map d cl)∧bC E (ff es) d.toList∧wY E l es ms d.toList:=by
 have ho:=HE.obj id _ hid;simp only[aM]at ho;obtain⟨b,n,d,h1,h,k,q⟩:=ho;simp only[rel]at g;obtain⟨_,_,u⟩:=g;obtain⟨v,y,g1,g2⟩:=u ⟨_,hid,rfl⟩;rw[h1]at g1;simp only[aV,ba]at g1;obtain⟨rfl,rfl⟩:=g1;exact⟨b,n,d,g2,h1,h,k,q⟩
theorem IB{E:Env}(HE:aq E){id l cl i:Nat}{es:List (AV × Option Nat × Nat)}{ms:List (List (AV × AV × Nat) × Nat)}{m:List (AV × AV × Nat) × Nat}{c:Value}(hid:E.H[id]? = some (.mm l es ms cl))(hm:ms[i]? = some m) (g:rel E (.sub id l (some i)) c) :
  ∃ b d,c=.map (some b)∧(dU (E.X.r l))[i]? = some b∧E.w.heap[b]? = some (.map d m.2)∧bC E m.1 d.toList:=by
 have ho:=HE.obj id _ hid;simp only[aM]at ho;obtain⟨_,_,d,_,_,_,_,_,k⟩:=ho;simp only[rel]at g;rcases g with⟨h,_⟩|⟨u,h1,_,_,q⟩
 ·cases h
 cases h1;obtain⟨_,b,g1,g2⟩:=q ⟨_,hid,rfl⟩;obtain⟨mm,g3,g4⟩:=k i m b hm g1;exact⟨b,mm,g2,g1,g3,g4⟩
def o_(P:Program)(t:TypeId)(m k:AV)(H:List ab):Option AV :=
 match cX P t,m with
 | some (d,g),.map id=>match H[id]? with
  | some (.mm l es _ _)=>match gV P d k,gK P g with
   | some h,some (.lit (.map none))=>match ed P d h (ff es) 0 with
    |some (some (i,_))=>(es[i]?).map fun x=>.sub id l x.2.1
    |some none=>some (.sub id l none)
    |none=>none
   |_,_=>none
  |_=>none
 |_,_=>none
theorem Sl{P:Program}{E:Env}(HE:aq E){t:TypeId}{m k v:AV}{c d:Value}(h:o_ P t m k E.H=some v)(hm:rel E m c)(hk:rel E k d) :
  ∃ u,(ku t c d false).run P E.w=.ok u E.w∧rel E v u:=by
 unfold o_ at h;split at h
 case h_2=>cases h
 rename_i kt et id I;split at h
 case h_2=>cases h
 rename_i l es ms cl hid;split at h
 case h_2=>cases h
 rename_i kv O W;obtain⟨b,n,U,rfl,h1,h2,J,_,hmm,_⟩:=BI HE hid hm;have g:=gW O hk;obtain⟨zv,z1,z2⟩:=qK W E.w;have V:zv=.map none:=by simpa[rel]using z2 E
 subst V;have M:(getObj b).run P E.w=.ok (.map U cl) E.w:=by simp[getObj,gf,h2]
 split at h
 ·rename_i i v0 y
  obtain⟨r',g1,g2⟩:=gJ g E.w J y;cases r' with
  |none=>simp[c5]at g2
  | some q =>
   simp only[c5]at g2;obtain⟨q1,_,_,e,q4,q5⟩:=g2;obtain⟨x,hx,rfl⟩:=dQ.1 h;refine⟨q.2,?_,?_⟩
   ·simp only [ku, bV, Sem.bq (fg I), bX, M, fa, fS g, g1]
    rfl
   ·rw [← q5]
    simp only[rel];rcases hmm i x e hx (by simpa using q4)with⟨B,a2⟩|⟨j,N,B,a2,a3⟩
    ·exact .inl ⟨B,a2⟩
    ·exact .inr ⟨j,B,⟨N,a3⟩,⟨_,hid,rfl,fun v _=>er v⟩,fun _=>⟨⟨_,hid,rfl⟩,N,a2,a3⟩⟩
 ·rename_i y
  obtain⟨r',g1,g2⟩:=gJ g E.w J y;cases h;cases r' with
  |some _=>simp[c5]at g2
  | none =>
   refine⟨.map none,?_,by simp[rel]⟩;simp only[ku,bV,Sem.bq (fg I),bX,M,fa,fS g,g1,z1];rfl
 ·cases h
def qL(P:Program)(t:TypeId)(m k:AV)(ok:Bool)(H:List ab):Option AV :=
 match cX P t,m with
 | some (d,g),.sub id l (some i)=>match H[id]? with
  | some (.mm l' _ ms _)=>match ad l l',ms[i]?,gV P d k,mv P g with
   | true,some mm,some h,some z=>match ed P d h mm.1 0 with
    | some r=>let v:=match r with
      |some (_,v)=>v
      |none=>z
     some (match ok with
      |true=>.tuple [v,.lit (.bool r.isSome)]
      |false=>v)
    |none=>none
   |_,_,_,_=>none
  |_=>none
 |_,_=>none
theorem Sm{P:Program}{E:Env}(HE:aq E){t:TypeId}{m k v:AV}{ok:Bool}{c d:Value}(h:qL P t m k ok E.H=some v)(hm:rel E m c)(hk:rel E k d) :
  ∃ u,(ku t c d ok).run P E.w=.ok u E.w∧rel E v u:=by
 unfold qL at h;split at h
 case h_2=>cases h
 rename_i kt et id l i B;split at h
 case h_2=>cases h
 rename_i l' es ms cl hid;split at h
 case h_2=>cases h
 rename_i mm kv z y hmm N U;have y:=br y;subst y;split at h
 case h_2=>cases h
 rename_i r V;obtain⟨b,O,rfl,_,W,h3⟩:=IB HE hid hmm hm;have g:=gW N hk;obtain⟨r',g1,g2⟩:=gJ g E.w h3 V;obtain⟨I,z1,z2⟩:=Ik U E.w;have J:(getObj b).run P E.w=.ok (.map O mm.2) E.w:=by simp[getObj,gf,W]
 cases h;cases r with
 | none =>
  cases r' with
  |some _=>simp[c5]at g2
  | none =>
   refine⟨if ok then .tuple #[I,.bool false] else I,?_,?_⟩
   ·simp only[ku,bV,Sem.bq (fg B),bX,J,fa,fS g,g1,z1]
   ·cases ok with
    |true=>simp[rel,af,z2 E]
    |false=>simpa using z2 E
 | some p =>
  cases r' with
  |none=>simp[c5]at g2
  | some q =>
   simp only[c5]at g2;obtain⟨q1,M,_,_,_,_⟩:=g2;refine⟨if ok then .tuple #[q.2,.bool true] else q.2,?_,?_⟩
   ·simp only[ku,bV,Sem.bq (fg B),bX,J,fa,fS g,g1]
   ·cases ok with
    |true=>simp[rel,af,M]
    |false=>simpa using M
theorem IC:∀{r:List (Option (Option (Nat × Nat)))},(∀(h h' b m n:Nat),r[h]? = some (some (some (b,m)))→r[h']? = some (some (some (b,n)))→h=h')→(dU r).Nodup
 | [],_=>QB
 | x::r,H=>by
  have d:=IC (r:=r) fun h h' b m n h1 g=>by
   have:=H (h+1) (h'+1) b m n (by simpa using h1) (by simpa using g);omega
  match x,H with
  |none,_=>exact d
  |some none,_=>exact d
  | some (some (b,m)),H =>
   show (b::dU r).Nodup
   refine List.nodup_cons.2 ⟨fun hm=>?_,d⟩;obtain⟨i,n,hi⟩:=wX hm;have:=H 0 (i+1) b m n rfl (by simpa using hi);omega
theorem Sn{E:Env}(HE:aq E){l i j b:Nat} (h1:(dU (E.X.r l))[i]? = some b) (d:(dU (E.X.r l))[j]? = some b):i=j :=
 (List.getElem?_inj (aL h1) (IC fun h h' b m n g k=>(HE.eE l h l h' b m n g k).2)).1 (by rw[h1,d])
def jy(P:Program)(t:TypeId)(m k:AV)(ok:Bool)(H:List ab):Option AV :=
 match m with
 |.sub id l j=>qL P t (.sub id l j) k ok H
 | .map id=>match ok with
  |false=>o_ P t (.map id) k H
  |true=>none
 |_=>none
theorem Sp{P:Program}{E:Env}(HE:aq E){t:TypeId}{m k v:AV}{ok:Bool}{c d:Value}(h:jy P t m k ok E.H=some v)(hm:rel E m c)(hk:rel E k d) :
  ∃ u,(ku t c d ok).run P E.w=.ok u E.w∧rel E v u:=by
 unfold jy at h;split at h
 ·exact Sm HE h hm hk
 ·split at h
  ·exact Sl HE h hm hk
  ·cases h
 ·cases h
theorem ID{P:Program}{t:TypeId}{m k v:AV}{ok:Bool}{H H2:List ab}(g:∀(i l:Nat) es ms (cl:Nat),H[i]? = some (ab.mm l es ms cl)→H2[i]? = some (ab.mm l es ms cl))(h:jy P t m k ok H=some v):jy P t m k ok H2=some v∧fG P t m k ok H2=none:=by
 unfold jy at h⊢;unfold fG;split at h
 ·rename_i id l j
  refine⟨?_,by split<;>first|rfl|(rename_i e; cases e)⟩;unfold qL at h⊢;split at h
  case h_2=>cases h
  rename_i q u i y;split at h
  case h_2=>cases h
  rename_i l' es ms cl hid;simp only[g _ _ _ _ _ hid];exact h
 ·rename_i id
  split at h
  case h_2=>cases h
  cases d:cX P t with
  | none =>
   simp only[o_,d]at h;cases h
  | some p =>
   simp only[o_,d]at h⊢;split at h
   case h_2=>cases h
   rename_i hid;simp only[g _ _ _ _ _ hid];exact⟨h,trivial⟩
 ·cases h
theorem Sq{P:Program}{t:TypeId}{m k:AV}{ok:Bool}{H H2:List ab}(h1:∀ id,m=.map id→H2[id]? = H[id]?)(d:∀ id l j,m=.sub id l j→H2[id]? = H[id]?):jy P t m k ok H2=jy P t m k ok H:=by
 unfold jy;cases m<;>try rfl
 ·rename_i id
  cases ok with
  |true=>rfl
  | false =>
   unfold o_;cases cX P t with
   |none=>rfl
   |some p=>simp only[h1 id rfl]
 ·rename_i id l j
  unfold qL;cases cX P t with
  |none=>rfl
  | some p =>
   cases j with
   |none=>rfl
   |some j=>simp only[d id l (some j) rfl]
theorem IE{P:Program}{E:Env}(HE:aq E){id l cl i b:Nat}{es:List (AV × Option Nat × Nat)}{ms:List (List (AV × AV × Nat) × Nat)}{m m':List (AV × AV × Nat) × Nat}{J mes':Array MapEntry}(hid:E.H[id]? = some (.mm l es ms cl))(hm:ms[i]? = some m)
  (hb:(dU (E.X.r l))[i]? = some b) (U:E.w.heap[b]? = some (.map J m.2)) (d:bC E m'.1 mes'.toList) :
  ∃ w',(setObj b (.map mes' m'.2)).run P E.w=.ok () w'∧aq { w:=w',H:=E.H.set id (.mm l es (ms.set i m') cl),loc:=E.loc,X:=E.X }∧E.le { w:=w',H:=E.H.set id (.mm l es (ms.set i m') cl),loc:=E.loc,X:=E.X }:=by
 obtain⟨h,u,v⟩:=wX (eT hb);have M:=(HE.cr l h b u v).1;have N:({ E.w with heap:=E.w.heap.setIfInBounds b (.map mes' m'.2) }:World).heap.size=E.w.heap.size:=by simp
 have q:∀ y,y≠b→({ E.w with heap:=E.w.heap.setIfInBounds b (.map mes' m'.2) }:World).heap[y]? = E.w.heap[y]? := by
  intro y V;simp only[AM];rw[if_neg (fun e=>V e.symm)]
 have key:=aq.A9 (w':={ E.w with heap:=E.w.heap.setIfInBounds b (.map mes' m'.2) }) (r':=E.X.r) (o':=.mm l es (ms.set i m') cl) HE hid rfl rfl rfl (aeP N.symm) (fun x _ _ W=>q x fun e=>by
   subst e;exact W h u v) (fun _ _=>rfl) (fun _ _ _ hk=>.inl hk) (fun _ hk=>⟨hk,fun _ hq=>hq⟩) (fun hle=>?_) ⟨rfl,rfl,rfl,fun _=>aB _⟩ (.inr ⟨rfl,[],(cO _).symm⟩)
 ·exact⟨_,by simp[setObj,gf,U],key.1,key.2⟩
 ·have ho := HE.obj id _ hid
  simp only[aM]at ho⊢;obtain⟨b0,n,I,g1,g2,g3,g4,g5,g6⟩:=ho;have O:b0≠b:=fun e=>HE.cN id b0 n l h u g1 (by rw[e]; exact v);refine⟨b0,n,I,g1,?_,fF (fun a _ d=>bP hle a d) g3,?_,g5,fun j mj B k g=>?_⟩
  ·rw [← g2]
   exact q b0 O
  ·show (dU (E.X.r l)).length = _
   rw[m_];exact g4
  ·have g : (dU (E.X.r l))[j]? = some B := g
   by_cases e:i=j
   ·subst e
    rw[bB (aL hm)]at k;cases k;rw[hb]at g;cases g;exact⟨mes',by simp[M],fF (fun a _ d=>bP hle a d) d⟩
   ·rw [aQ e] at k
    obtain⟨mm,k1,k2⟩:=g6 j mj B k g;refine⟨mm,?_,fF (fun a _ d=>bP hle a d) k2⟩;rw[←k1];exact q B fun e2=>e (Sn HE hb (by rw[←e2]; exact g))
def tS(P:Program)(t:TypeId)(m k v:AV)(H:List ab):Option (List ab) :=
 match cX P t,m with
 | some (q,_),.sub id l (some i0)=>match H[id]? with
  | some (.mm l' g d h)=>match ad l l',d[i0]?,gV P q k with
   | true,some mm,some u=>if v.closed=true∧k.closed=true then
     match ed P q u mm.1 0 with
     |some (some (i,_))=>some (H.set id (.mm l g (d.set i0 (mm.1.modify i fun e=>(k,v,e.2.2),mm.2)) h))
     |some none=>some (H.set id (.mm l g (d.set i0 (mm.1++[(k,v,mm.2)],mm.2+1)) h))
     |none=>none
    else none
   |_,_,_=>none
  |_=>none
 |_,_=>none
theorem Sr{P:Program}{E:Env}(HE:aq E){t:TypeId}{m k v:AV}{c d u:Value}{H':List ab}(h:tS P t m k v E.H=some H')(hm:rel E m c)(hk:rel E k d)(hv:rel E v u) :
  ∃ w',(l6 t c d u).run P E.w=.ok () w'∧aq { w:=w',H:=H',loc:=E.loc,X:=E.X }∧E.le { w:=w',H:=H',loc:=E.loc,X:=E.X }:=by
 unfold tS at h;split at h
 case h_2=>cases h
 rename_i kt et id l i0 ht;split at h
 case h_2=>cases h
 rename_i l' oes oms ocl hid;split at h
 case h_2=>cases h
 rename_i mm kv O hmm hkv;have O:=br O;subst O;obtain⟨es,cl⟩:=mm;split at h
 case isFalse=>cases h
 rename_i J;obtain⟨b,ms,rfl,h1,U,V⟩:=IB HE hid hmm hm;have I:=gW hkv hk;have e1:(getObj b).run P E.w=.ok (.map ms cl) E.w:=by simp[getObj,gf,U]
 obtain⟨hlen,N⟩:=dW.1 V;split at h
 ·rename_i i v0 M
  cases h;obtain⟨r',g1,g2⟩:=gJ I E.w V M;cases r' with
  |none=>simp[c5]at g2
  | some q =>
   simp only[c5]at g2;obtain⟨q1,q2,_,e',W,q5⟩:=g2;obtain⟨_,x,l,f1,f2,f3⟩:=tM M;simp only[ga]at W f1;obtain⟨a1,a2,a3,a4,a5⟩:=N i x e' f1 W;obtain⟨s1,s2⟩:=xq I (gW f2 a1) f3;have q4':ms[i]? = some e':=by simpa using W
   obtain⟨w',r1,r2,r3⟩:=IE (P:=P) HE (m':=(es.modify i fun e=>(k,v,e.2.2),cl)) (mes':=ms.modify i fun e=>{ e with key:=d,val:=u }) hid hmm h1 U (by
    rw[dW];refine⟨by simp[hlen],fun j y z g B=>?_⟩;simp only[iA]at g;simp only[kz,iA]at B;obtain⟨y0,hy0,rfl⟩:=dQ.1 g;obtain⟨z0,hz0,rfl⟩:=dQ.1 B;obtain⟨b1,b2,b3,b4,b5⟩:=N j y0 z0 hy0 hz0;by_cases e:i=j
    ·subst e
     simp only[if_true];exact⟨hk,hv,b3,J.2,J.1⟩
    ·simp only [if_neg e]
     exact⟨b1,b2,b3,b4,b5⟩)
   refine⟨w',?_,r2,r3⟩;subst q1;have hst:(qk e'.key d).run P E.w=.ok d E.w:=by simp[qk,s2]
   simp only[l6,bV,Sem.bq (fg ht),bX,e1,fS I,g1,q4',eJ,l7,hst];exact r1
 ·rename_i M
  cases h;obtain⟨r',g1,g2⟩:=gJ I E.w V M;cases r' with
  |some _=>simp[c5]at g2
  | none =>
   obtain⟨w',r1,r2,r3⟩:=IE (P:=P) HE (m':=(es++[(k,v,cl)],cl+1)) (mes':=ms.push { key:=d,val:=u,born:=cl }) hid hmm h1 U (by
    rw[dW];refine⟨by simp[hlen],fun j y z g B=>?_⟩;simp only[oK,e_,hlen]at g B;by_cases e:j<ms.toList.length
    ·simp only [if_pos e] at g B
     exact N j y z g B
    ·simp only [if_neg e] at g B
     cases hj:j-ms.toList.length with
     | zero =>
      rw[hj]at g B;simp at g B;subst g; subst B;exact⟨hk,hv,rfl,J.2,J.1⟩
     |succ _=>rw[hj]at g; simp at g)
   refine⟨w',?_,r2,r3⟩;simp only[l6,bV,Sem.bq (fg ht),bX,e1,fS I,g1];exact r1
 ·cases h
theorem IF{P:Program}{E:Env}(HE:aq E){id l b n cl cl':Nat}{es es':List (AV × Option Nat × Nat)}{ms:List (List (AV × AV × Nat) × Nat)}{v mes':Array MapEntry}(hid:E.H[id]? = some (.mm l es ms cl)) (g:E.loc[id]? = some (some (b,n)))
  (hb:E.w.heap[b]? = some (.map v cl)) (d:bC E (ff es') mes'.toList)
  (hmm:∀(i:Nat) x e,es'[i]? = some x→mes'.toList[i]? = some e→(x.2.1=none∧e.val=.map none)∨∃ j b,x.2.1=some j∧(dU (E.X.r l))[j]? = some b∧e.val=.map (some b)) :
  ∃ w',(setObj b (.map mes' cl')).run P E.w=.ok () w'∧aq { w:=w',H:=E.H.set id (.mm l es' ms cl'),loc:=E.loc,X:=E.X }∧E.le { w:=w',H:=E.H.set id (.mm l es' ms cl'),loc:=E.loc,X:=E.X }:=by
 have B:=(HE.lt id b n g).1;have I:({ E.w with heap:=E.w.heap.setIfInBounds b (.map mes' cl') }:World).heap.size=E.w.heap.size:=by simp
 have k:∀ y,y≠b→({ E.w with heap:=E.w.heap.setIfInBounds b (.map mes' cl') }:World).heap[y]? = E.w.heap[y]? := by
  intro y J;simp only[AM];rw[if_neg (fun e=>J e.symm)]
 have key:=aq.A9 (w':={ E.w with heap:=E.w.heap.setIfInBounds b (.map mes' cl') }) (r':=E.X.r) (o':=.mm l es' ms cl') HE hid rfl rfl rfl (aeP I.symm) (fun x _ M _=>k x fun e=>by
   subst e;exact M n g) (fun _ _=>rfl) (fun _ _ _ hk=>.inl hk) (fun _ hk=>⟨hk,fun _ N=>N⟩) (fun hle=>?_) ⟨rfl,rfl,rfl,fun _=>aB _⟩ (.inr ⟨rfl,[],(cO _).symm⟩)
 ·exact⟨_,by simp[setObj,gf,hb],key.1,key.2⟩
 ·have ho := HE.obj id _ hid
  simp only[aM]at ho⊢;obtain⟨b0,n0,mes0,g1,g2,g3,g4,g5,g6⟩:=ho;refine⟨b,n,mes',g,by simp[B],fF (fun a _ d=>bP hle a d) d,g4,hmm,fun j O u U q=>?_⟩;obtain⟨mm,V,W⟩:=g6 j O u U q;obtain⟨h,mc,hh⟩:=wX (eT q);refine⟨mm,?_,fF (fun a _ d=>bP hle a d) W⟩;rw[←V];exact k u fun e2=>HE.cN id b n l h mc g (by rw[←e2]; exact hh)
def iU(P:Program)(t:TypeId)(m k:AV)(H:List ab):Option (AV × List ab) :=
 match cX P t,m with
 | some (d,g),.map id=>match H[id]? with
  | some (.mm l es ms cl)=>match gV P d k,gK P g,k.closed with
   | some h,some (.lit (.map none)),true=>match ed P d h (ff es) 0 with
    |some none=>some (.tuple [.sub id l none,.lit (goInt cl)],H.set id (.mm l (es++[(k,none,cl)]) ms (cl+1)))
    |_=>none
   |_,_,_=>none
  |_=>none
 |_,_=>none
theorem Ss{P:Program}{E:Env}(HE:aq E){t:TypeId}{m k v:AV}{c d:Value}{H':List ab}(h:iU P t m k E.H=some (v,H'))(hm:rel E m c)(hk:rel E k d) :
  ∃ u w',(AN t c d).run P E.w=.ok u w'∧cJ E v H' u w':=by
 unfold iU at h;split at h
 case h_2=>cases h
 rename_i kt et id ht;split at h
 case h_2=>cases h
 rename_i l es ms cl hid;split at h
 case h_2=>cases h
 rename_i kv W q hcl;obtain⟨b,n,N,rfl,h1,O,U,h4,h5,h6⟩:=BI HE hid hm;have M:=gW W hk;have J:(getObj b).run P E.w=.ok (.map N cl) E.w:=by simp[getObj,gf,O]
 obtain⟨hlen,V⟩:=dW.1 U;rw[HA]at hlen;split at h
 case h_2=>cases h
 rename_i hf;cases h;obtain⟨r',g1,g2⟩:=gJ M E.w U hf;cases r' with
 |some _=>simp[c5]at g2
 | none =>
  obtain⟨zv,z1,z2⟩:=qK q E.w;have hzv:zv=.map none:=by have:=z2 E; simpa[rel]using this
  subst hzv;have hre:bC E (ff (es++[(k,none,cl)])) (N.push { key:=d,val:=.map none,born:=cl }).toList:=by
   rw[dW];refine⟨by simp[ff,hlen],fun a y z g q=>?_⟩;unfold ff at g;rw[kA]at g;simp only[oK,e_,dJ]at g q;rw[←hlen]at q;by_cases e:a<es.length
   ·simp only [if_pos e] at g q
    exact V a y z (by unfold ff; exact g) q
   ·simp only [if_neg e] at g q
    cases I:a-es.length with
    | zero =>
     rw[I]at g q;simp at g q;subst g; subst q;exact⟨hk,by simp[rel],rfl,hcl,rfl⟩
    |succ _=>rw[I]at g; simp at g
  obtain⟨w1,p1,p2,p3⟩:=IF (P:=P) HE (cl':=cl+1) hid h1 O hre (fun i x e B he=>by
   simp only[oK,e_]at B he;rw[←hlen]at he;by_cases J:i<es.length
   ·simp only [if_pos J] at B he
    exact h5 i x e B he
   ·simp only [if_neg J] at B he
    cases I:i-es.length with
    | zero =>
     rw[I]at B he;simp at B he;subst B; subst he;exact .inl ⟨rfl,rfl⟩
    |succ _=>rw[I]at B; simp at B)
  refine⟨.tuple #[.map none,goInt cl],w1,?_,E.loc,E.X.r,?_,p2,p3⟩
  ·simp only [AN, bV, Sem.bq (fg ht), bX, J, fS M, g1, z1]
   rw[p1];rfl
  ·simp only [rel]
   refine⟨_,rfl,?_⟩;simp[af,rel]
def pb(es:List (AV × Option Nat × Nat))(st:Int):Option Nat:=es.findIdx? fun x=>(x.2.2:Int)==st
theorem IG{E:Env}{st:Int}:∀{es:List (AV × Option Nat × Nat)} {ms:List MapEntry},bC E (ff es) ms→ms.findIdx? (fun e=>(e.born:Int)==st)=pb es st
 | [],[],_=>rfl
 | [],_::_,h=>by simp[ff,bC]at h
 |_::_,[],h=>by simp[ff,bC]at h
 | x::es,e::ms,h=>by
  have h':bC E ((x.1,.undef,x.2.2)::ff es) (e::ms):=h;simp only[bC]at h';obtain⟨_,_,g,_,_,k⟩:=h';have d:=IG (st:=st) k;unfold pb at d⊢;simp only[Ha,g,d]
theorem Su{E:Env}(HE:aq E){id j l cl clk:Nat}{es:List (AV × Option Nat × Nat)}{ms:List (List (AV × AV × Nat) × Nat)}{v:List (AV × AV × Nat)}{u:Value}(hid:E.H[id]? = some (.mm l es ms cl))(B:E.H[j]? = some (.map v clk))(hu:rel E (.map j) u) :
  ∃ d I r',u=.map (some d)∧(∃ t,r' l=E.X.r l++t)∧(dU (r' l))[ms.length]? = some d∧(∀ i,i≠j→I[i]? = E.loc[i]?) ∧
   aq { w:=E.w,H:=(E.H.set id (.mm l es (ms++[(v,clk)]) cl)).set j .dead,loc:=I,X:=E.X.re r' }∧E.le { w:=E.w,H:=(E.H.set id (.mm l es (ms++[(v,clk)]) cl)).set j .dead,loc:=I,X:=E.X.re r' }:=by
 obtain⟨d,n,O,rfl,h1,V,W⟩:=oW HE B hu;have ho:=HE.obj id _ hid;simp only[aM]at ho;obtain⟨b0,n0,N,g1,g2,g3,g4,g5,g6⟩:=ho;have U:j≠id:=fun e=>by rw[e,hid]at B; cases B
 have J:eM E.X.r l (some (d,n)) l=E.X.r l++[some (some (d,n))]:=if_pos rfl;have y:dU (eM E.X.r l (some (d,n)) l)=dU (E.X.r l)++[d]:=by
  rw[J,A2];rfl
 have key:=aq.attach HE (o':=.mm l es (ms++[(v,clk)]) cl) hid rfl rfl rfl B rfl h1 (fun hle=>?_) (.inr rfl)
 ·refine ⟨d, E.loc.set j none, eM E.X.r l (some (d, n)), rfl, ⟨_, J⟩, ?_, fun i hi => aQ (Ne.symm hi), key.1, key.2⟩
  rw[y,←g4];simp
 ·simp only [aM]
  refine⟨b0,n0,N,by rw[aQ U]; exact g1,g2,fF (fun a _ q=>bP hle a q) g3,?_,fun i x e hx he=>?_,fun i mi bi k g=>?_⟩
  ·show (dU (eM E.X.r l (some (d, n)) l)).length = _
   rw[y];simp[g4]
  ·rcases g5 i x e hx he with h | ⟨M, b', a1, a2, a3⟩
   ·exact .inl h
   ·refine .inr ⟨M, b', a1, ?_, a3⟩
    show (dU (eM E.X.r l (some (d,n)) l))[M]? = _
    rw[y,cI (aL a2)];exact a2
  ·have g : (dU (eM E.X.r l (some (d, n)) l))[i]? = some bi := g
   rw[y]at g;rw[e_]at k g;by_cases e:i<ms.length
   ·rw [if_pos e] at k
    rw[if_pos (by omega)]at g;obtain⟨mm,k1,k2⟩:=g6 i mi bi k g;exact⟨mm,k1,fF (fun a _ q=>bP hle a q) k2⟩
   ·rw [if_neg e] at k
    rw[if_neg (by omega),g4]at g;cases hk:i-ms.length with
    | zero =>
     rw[hk]at k g;simp at k g;subst k g;exact⟨O,V,fF (fun a _ q=>bP hle a q) W⟩
    |succ _=>rw[hk]at k; simp at k
def kM(m s v:AV)(H:List ab):Option (List ab) :=
 match m,s,v with
 | .map id,.lit (.int .i64 st),.map j=>match H[id]?,H[j]? with
  | some (.mm l es ms cl),some (.map d clk)=>match pb es st with
   | some i=>match es[i]? with
    |some (key,none,bn)=>some ((H.set id (.mm l (es.set i (key,some ms.length,bn)) (ms++[(d,clk)]) cl)).set j .dead)
    |_=>none
   |none=>none
  |_,_=>none
 |_,_,_=>none
theorem Sv{P:Program}{E:Env}(HE:aq E){t:TypeId}{m s v:AV}{c d u:Value}{H':List ab}(h:kM m s v E.H=some H')(hm:rel E m c)(hs:rel E s d)(hv:rel E v u) :
  ∃ w',(wG t c d u).run P E.w=.ok () w'∧∀ x,cJ E .undef H' x w':=by
 unfold kM at h;split at h
 case h_2=>cases h
 rename_i id st j;split at h
 case h_2=>cases h
 rename_i l es ms cl k clk hid U;split at h
 case h_2=>cases h
 rename_i i hi;split at h
 case h_2=>cases h
 rename_i key bn hes;cases h;obtain⟨b,n,g,rfl,h1,h2,h3,h4,h5,h6⟩:=BI HE hid hm;have O:j≠id:=fun e=>by rw[e,hid]at U; cases U
 have e1:(getObj b).run P E.w=.ok (.map g cl) E.w:=by simp[getObj,gf,h2]
 obtain⟨hlen,hall⟩:=dW.1 h3;rw[HA]at hlen;have hlt:=aL hes;obtain⟨e',q4⟩:∃ e',g.toList[i]? = some e':=⟨g.toList[i]'(by omega),bI _⟩
 have hfind:g.findIdx? (fun e=>(e.born:Int)==st)=some i:=by
  have e0:g=g.toList.toArray:=by simp
  rw[e0,aeO,IG h3,hi]
 obtain⟨M,B,r',rfl,⟨tt,ht⟩,hlv,hloc,HE1,I⟩:=Su HE hid U hv;have hd:d=.int .i64 st:=by simpa[rel]using hs
 have hidE:({ w:=E.w,H:=(E.H.set id (.mm l es (ms++[(k,clk)]) cl)).set j .dead,loc:=B,X:=E.X.re r' }:Env).H[id]? = some (.mm l es (ms++[(k,clk)]) cl):=by
  simp only[];rw[aQ O,bB (aL hid)]
 have hre:bC { w:=E.w,H:=(E.H.set id (.mm l es (ms++[(k,clk)]) cl)).set j .dead,loc:=B,X:=E.X.re r' } (ff (es.set i (key,some ms.length,bn))) (g.modify i fun e=>{ e with val:=.map (some M) }).toList:=by
  rw[dW];refine⟨by simp[ff,hlen],fun a y z q hz=>?_⟩;simp only[kz,iA]at hz;obtain⟨z0,J,rfl⟩:=dQ.1 hz;unfold ff at q;rw[bZ,dR]at q;by_cases e:i=a
  ·subst e
   rw[if_pos rfl,if_pos hlt]at q;cases q;obtain⟨b1,b2,V,W,b5⟩:=hall i (key,.undef,bn) z0 (by unfold ff; rw[bZ,hes]; rfl) J;simp only[if_true];exact⟨bP I _ b1,by simp[rel],V,W,rfl⟩
  ·rw [if_neg e] at q
   obtain⟨b1,b2,V,W,b5⟩:=hall a y z0 (by unfold ff; rw[bZ]; exact q) J;simp only[if_neg e];exact⟨bP I _ b1,bP I _ b2,V,W,b5⟩
 obtain⟨w',p1,p2,p3⟩:=IF (P:=P) HE1 (cl':=cl) (es':=es.set i (key,some ms.length,bn)) (mes':=g.modify i fun e=>{ e with val:=.map (some M) }) hidE (by
  show B[id]? = _
  rw[hloc id (Ne.symm O)];exact h1) h2 hre (fun a x e N he=>by
  simp only[kz,iA]at he;obtain⟨z0,J,rfl⟩:=dQ.1 he;by_cases e:i=a
  ·subst e
   rw[bB hlt]at N;cases N;exact .inr ⟨ms.length,M,rfl,hlv,by simp⟩
  ·rw [aQ e] at N
   simp only[if_neg e];rcases h5 a x z0 N J with h|⟨i',b',a1,a2,a3⟩
   ·exact .inl h
   ·refine .inr ⟨i', b', a1, ?_, a3⟩
    show (dU (r' l))[i']? = _
    rw[ht,A2,cI (aL a2)];exact a2)
 have hH:((E.H.set id (.mm l es (ms++[(k,clk)]) cl)).set j .dead).set id (.mm l (es.set i (key,some ms.length,bn)) (ms++[(k,clk)]) cl)=(E.H.set id (.mm l (es.set i (key,some ms.length,bn)) (ms++[(k,clk)]) cl)).set j .dead:=by
  rw[List.set_comm _ _ O,oL]
 rw[hH]at p2 p3;have hrun:(wG t (.map (some b)) d (.map (some M))).run P E.w=.ok () w':=by
  subst hd;simp only[wG,asInt,asIntOf,bV,bX,e1,fa,hfind];exact p1
 exact⟨w',hrun,fun xx=>⟨B,r',by simp[rel],p2,I.trans p3⟩⟩
end Go.AL
