/-
 What is proved here: basic facts of an abstract logic for the model's programs: abstract values,what they say of the model's values in a world,and that this survives what a call may do. No program in sight; no condition.
-/
import Derived.Calls
import Derived.Orders
import Derived.OrdersIn
import Derived.RangeFuncNested
import Derived.RangeFuncLeaves
import Derived.Laws.Sem
import Derived.Laws.Cells
import Derived.Laws.StructEq
import Derived.Laws.AppendOwn
import Derived.Laws.CopyRow
set_option linter.all false
open Array renaming getElem?_push→vB,length_toList→kL,toList_map→Rs,ext'→eZ,range→fU,map→GG,getElem?_setIfInBounds→zT,toList_modify→j5,toList_push→n_
open BitVec renaming ofInt→vC
open Bool renaming and_true→fH,and_eq_true→aB,false_eq_true→kK,and_assoc→ago
open ByteArray renaming empty→vA
open Go.Act renaming eval→zL
open Go.Addr.mk renaming injEq→Gv
open Go.Builtin renaming lenOf→GA,firstCells→gH,append_→lE,zeroCells→vG,nextslicecap→GB,delete_→RA,clear_→RD
open Go.Instr renaming loadAt→zN,sureAddr→my,fieldAt→Rl,indexAt→vD,sliceBounds→pH,sliceBound→zO,sliceAt→lB,slice→mz,index→Ro,field→agr,fill→ags,build→Rq,storeAt→GD,alloc→zR,box→agx,makeSlice→agy,buildSlice→GJ,range→Rw,checkKey→sB,findAsking→Rx,findNow→vI,sameNow→vJ,findKey→Ry,lookup→j0,makeMap→Rz,sameBits→GL,mapUpdate→lG,keyThatStays→pN,mapEntry→zU,entryStore→vL
open Go.Op renaming bytesLess→lz,equalIn→iW,eqFields→Rn,equal→vF
open Go.Program renaming fieldsOf→agq
open Go.Question renaming cut→agv,forced→agw
open Go.Result renaming andThen_ok→bX
open Go.Sem renaming run_bind→bW,run_pure→eY,run→fV
open Go.Utf8 renaming decode→mC
open Go.Value renaming cells→Gy
open Go.Value.pointer renaming injEq→agm
open Go.Value.slice renaming injEq→jv
open Go.World renaming cell?→su,setRow→agt
open List renaming length_cons→cB,append_nil→cY,getElem?_append_left→cK,length_map→dE,getElem?_map→bZ,getElem_of_mem→n3,getElem?_eq_getElem→bI,mem_of_getElem?→eM,getElem?_eq_none→ly,getElem?_append_right→ia,getElem?_append→eX,getElem?_set_self→bB,getElem?_set_ne→aT,getElem?_set→dN,set_eq_of_length_le→Gu,all_eq_true→cO,nodup_nil→Rk,getD_eq_getElem?_getD→ch,getElem?_drop→pG,getElem?_take→lA,take_succ_cons→zM,mem_cons→bV,map_cons→dq,map_take→Gw,map_drop→Gx,mem_of_mem_drop→vE,mem_of_mem_take→sv,cons_append→lC,drop_succ_cons→agp,take_one→Rm,eq_nil_of_length_eq_zero→zP,drop_drop→n4,take_append_drop→sw,ext_getElem?→jx,length_take→lD,length_set→mA,length_append→fi,mem_append→cS,mapM_cons→Rp,flatten_cons→pJ,getElem?_of_mem→mB,size_toArray→zQ,nil_append→kM,length_drop→n9,flatten_append→vH,replicate→bM,replicate_succ→Rt,eq_of_mem_replicate→Ru,getElem?_modify→ib,mem_cons_self→db,mem_cons_of_mem→df,replicate_zero→agz,mem_replicate→RE,set_set→oa,map_append→j6,findIdx?_cons→GM,findIdx?_toArray→agB
open List.cons renaming injEq→Gz
open Nat renaming add_assoc→nZ,add_comm→sr,add_mul→fh,le_refl→aG,le_add_right→eL,le_trans→mw,lt_of_lt_of_le→dj,zero_le→ef,ne_of_lt→agl,lt_or_ge→iV,zero_add→cP,sub_sub→agn,mul_le_mul→agu,sub_zero→fS,zero_mul→pL,add_zero→n5,mul_le_mul_right→sx,one_mul→GF,beq→ad,mul_eq_zero→Rv,succ_mul→agA,eq_of_beq_eq_true→bt,le_of_eq→agC
open Option renaming map_eq_some_iff→dM,isSome_iff_exists→pI,map_some→eF,getD_some→lH
open Option.some renaming injEq→aZ
open Prod.mk renaming injEq→be
namespace Go.AL
inductive Kd where
 |int (k:IntKind)
 |str
 |bool
 |list (ks:List Kd)
 deriving Inhabited
inductive G where
 |i (n:Int)
 |s (b:ByteArray)
 |t (x:Bool)
 |l (rows:List (List G))
instance:Inhabited G:=⟨.i 0⟩
def G.int:G→Int
 |.i n=>n
 |_=>0
def G.str:G→ByteArray
 |.s b=>b
 |_=>vA
def G.bool:G→Bool
 |.t x=>x
 |_=>false
def G.rows:G→List (List G)
 |.l rows=>rows
 |_=>[]
inductive AV where
 |undef
 |lit (v:Value)
 |nils
 |list (k:Nat) (rows:List (List AV))
 |listF (ks:List Kd) (rows:List (List G))
 |agg (cells:List AV)
 |tuple (vs:List AV)
 |cptr (cells:List AV)
 |ptr (id ae k row col:Nat)
 |vec (k id ae off n:Nat)
 |map (id:Nat)
 |clo (f:FuncId) (caps:List AV)
 |ifc
 |emptyS (isNil:Bool)
 |sub (id l:Nat) (j:Option Nat)
 deriving Inhabited
def ic:Kd→G→AV
 |.int k,g=>.lit (.int k g.int)
 |.str,g=>.lit (.string g.str)
 |.bool,g=>.lit (.bool g.bool)
 |.list ks,g=>.listF ks g.rows
def aJ:List Kd→List G→List AV
 | [],_=>[]
 |k::ks,g=>ic k (g.headD default)::aJ ks g.tail
theorem pS:∀(ks:List Kd) (g:List G),(aJ ks g).length=ks.length
 | [],_=>rfl
 |_::ks,g=>by simp[aJ,pS ks]
inductive ab where
 |dead
 |box (cells:List AV)
 |vec (k ae:Nat) (rows:List (List AV))
 |map (es:List (AV × AV × Nat)) (clock:Nat)
 |iter (s:ByteArray) (pos:Nat)
 |er (l:Nat) (T B:TypeId) (s:ByteArray)
 |aH (l k:Nat) (es:List (AV × Option (List (List AV)) × Nat)) (clock:Nat)
 |mm (l:Nat) (es:List (AV × Option Nat × Nat)) (ms:List (List (AV × AV × Nat) × Nat)) (clock:Nat)
 |dI
 deriving Inhabited
def ab.born:ab→Bool
 |.dI=>false
 |_=>true
def ab.label:ab→Option Nat
 |.er l _ _ _=>some l
 |.aH l _ _ _=>some l
 |.mm l _ _ _=>some l
 |_=>none
def ab.cZ:ab→Option Nat
 |.mm l _ _ _=>some l
 |_=>none
theorem ab.j9{o:ab}{l:Nat}(h:o.cZ=some l):o.label=some l:=by
 cases o<;>first|exact h|cases h
theorem ab.z_{o:ab}{l:Nat}(h:o.cZ=some l):o.born=true:=by
 cases o<;>first|rfl|cases h
theorem ab.vZ{o:ab}{l:Nat}(h:o.label=some l):o.born=true:=by
 cases o<;>first|rfl|cases h
theorem ab.v7{o:ab}(h:o.label=none):o.cZ=none:=by
 cases o<;>first|rfl|cases h
def ab.aF : ab→Option Nat
 |.dead=>none
 |.box _=>some 0
 |.vec _ v _=>some v
 |.map _ _=>some 0
 |.iter _ _=>some 0
 |.er ..=>some 0
 |.aH ..=>some 0
 |.mm ..=>some 0
 |.dI=>none
theorem ab.Ah{o:ab}{v:Nat}(h:o.aF = some v):o.born=true:=by
 cases o<;>first|rfl|cases h
structure XS where
 x:Nat→Prop
 z:Nat→Prop
 r:Nat→List (Option (Option (Nat × Nat)))
instance:CoeFun XS fun _=>Nat→Prop:=⟨XS.x⟩
def XS.or(X:XS)(p:Nat→Prop):XS:=⟨fun b=>X b∨p b,X.z,X.r⟩
def XS.re(X:XS) (r:Nat→List (Option (Option (Nat × Nat)))):XS:=⟨X.x,X.z,r⟩
@[simp] theorem XS.RV (X:XS):X.re X.r=X:=rfl
@[simp] theorem XS.ag5 (X:XS) (r):(X.re r).x=X.x:=rfl
@[simp] theorem XS.ag6 (X:XS) (r):(X.re r).z=X.z:=rfl
@[simp] theorem XS.ag7 (X:XS) (r):(X.re r).r=r:=rfl
@[simp] theorem XS.ag8 (X:XS) (r r'):(X.re r).re r'=X.re r':=rfl
theorem XS.G'{X X':XS}(h:X'.x=X.x∧X'.z=X.z)(r):X'.re r=X.re r:=by
 unfold XS.re;rw[h.1,h.2]
def dA:Nat→List (Option (Option (Nat × Nat))):=fun _=>[]
def sL:List (Nat × Array Value):=[]
class Dr where
 d:Bool
abbrev sM:Dr:=⟨true⟩
variable [Dr]
def RW:Bool:=Dr.d
structure Env where
 w:World
 H:List ab
 loc:List (Option (Nat × Nat))
 X:XS
def Env.sat(E:Env)(b:Nat):Prop:=∃(l h m:Nat),(E.X.r l)[h]? = some (some (some (b,m)))
def Env.own(E:Env)(b:Nat):Prop:=(∃(id:Nat) (c:Nat),E.loc[id]? = some (some (b,c)))∨E.sat b
def Env.ig(E:Env)(b:Nat):Prop:=b<E.w.heap.size∧¬ E.own b∧¬ E.X b
def Env.live(E:Env)(id ae:Nat):Prop:=∃ o,E.H[id]? = some o∧o.aF = some ae
def Env.past(E:Env)(id ae:Nat):Prop:=∃ o,E.H[id]? = some o∧o.born=true∧∀ v,o.aF = some v→ae≤v
def dR (r:List (Option (Option (Nat × Nat)))):List Nat:=r.filterMap fun x=>match x with
 |some (some (b,_))=>some b
 |_=>none
theorem Ai (r t:List (Option (Option (Nat × Nat)))):dR (r++t)=dR r++dR t:=List.filterMap_append
def Env.Ha(E:Env)(id l i:Nat)(c:Value):Prop:=(∃ o,E.H[id]? = some o∧o.cZ=some l)∧∃ b,(dR (E.X.r l))[i]? = some b∧c=.map (some b)
def dh:Value→Bool
 |.agg _ | .tuple _=>false
 |_=>true
mutual
def AV.closed:AV→Bool
 |.undef | .lit _ | .nils | .list _ _ | .listF _ _ | .cptr _ | .ifc | .emptyS _=>true
 |.agg cs | .tuple cs | .clo _ cs=>AV.bq cs
 |.ptr .. | .vec .. | .map _ | .sub ..=>false
def AV.bq:List AV→Bool
 | []=>true
 |a::as=>a.closed&&AV.bq as
end
theorem fy:∀(ks:List Kd) (g:List G),AV.bq (aJ ks g)=true
 | [],_=>rfl
 | k::ks,g=>by
  simp only[aJ,AV.bq,fy ks,fH];cases k<;>rfl
mutual
def dO(E:Env):Kd→G→Value→Prop
 |.int k,g,c=>c=.int k g.int
 |.str,g,c=>c=.string g.str
 |.bool,g,c=>c=.bool g.bool
 | .list ks,g,c=>∃ base cap,c=.slice base g.rows.length cap∧g.rows.length≤cap ∧
   (g.rows=[]∨∃ b o,base=some ⟨b,o,none⟩∧E.ig b∧∀(i:Nat) (r:List G),g.rows[i]? = some r→j_ E ks r b (o+i*ks.length))
def j_(E:Env):List Kd→List G→Nat→Nat→Prop
 | [],_,_,_=>True
 |k::ks,g,b,o=>(∃ v,E.w.cell? ⟨b,o,none⟩=some v∧dh v=true∧dO E k (g.headD default) v)∧j_ E ks g.tail b (o+1)
end
def eQ(rows:List (List AV)):Prop:=∀ r∈rows,AV.bq r=true
mutual
def rel(E:Env):AV→Value→Prop
 |.undef,_=>True
 |.lit v,c=>c=v
 |.nils,c=>∃ base,c=.slice base 0 0
 | .list k rows,c=>eQ rows∧∃ base cap,c=.slice base rows.length cap∧rows.length≤cap ∧
   (rows=[]∨∃ b o,base=some ⟨b,o,none⟩∧E.ig b∧cz E k rows b o)
 |.listF ks rows,c=>dO E (.list ks) (.l rows) c
 |.agg cells,c=>∃ cs:Array Value,c=.agg cs∧(∀ x∈cs.toList,dh x=true)∧af E cells cs.toList
 |.tuple vs,c=>∃ cs:Array Value,c=.tuple cs∧af E vs cs.toList
 |.cptr cells,c=>AV.bq cells=true∧∃ b o,c=.pointer (some ⟨b,o,none⟩)∧E.ig b∧cn E cells b o
 | .ptr id ae k row col,c=>(∃ b o,c=.pointer (some ⟨b,o,none⟩))∧E.past id ae∧(E.live id ae→∃ b n,E.loc[id]? = some (some (b,n)) ∧
   c=.pointer (some ⟨b,row*k+col,none⟩))
 | .vec k id ae off n,c=>(∃ base cap,c=.slice base n cap∧n≤cap∧(0<n→∃ b o,base=some ⟨b,o,none⟩))∧E.past id ae∧(E.live id ae →
   (E.loc[id]? = some none→n=0∧off=0∧∃ base,c=.slice base 0 0) ∧
   (∀ b m,E.loc[id]? = some (some (b,m))→off+n≤m∧∃ o,(off<m→o=off*k)∧c=.slice (some ⟨b,o,none⟩) n (m-off)))
 |.map id,c=>(∃ b,c=.map (some b))∧E.past id 0∧(E.live id 0→∃ b n,E.loc[id]? = some (some (b,n))∧c=.map (some b))
 |.clo f caps,c=>∃ cs:Array Value,c=.func (.func f) #[] cs∧af E caps cs.toList
 |.ifc,c=>∃ t v,c=.iface t v
 |.emptyS n,c=>∃ base cap,c=.slice base 0 cap∧base.isNone=n
 |.sub id l j,c=>(j=none∧c=.map none)∨∃ i,j=some i∧(∃ b,c=.map (some b))∧E.past id 0∧(E.live id 0→E.Ha id l i c)
def af(E:Env):List AV→List Value→Prop
 | [],[]=>True
 |a::as,v::vs=>rel E a v∧af E as vs
 |_,_=>False
def cn(E:Env):List AV→Nat→Nat→Prop
 | [],_,_=>True
 |a::as,b,o=>(∃ v,E.w.cell? ⟨b,o,none⟩=some v∧dh v=true∧rel E a v)∧cn E as b (o+1)
def cz(E:Env)(k:Nat):List (List AV)→Nat→Nat→Prop
 | [],_,_=>True
 |r::rs,b,o=>r.length=k∧cn E r b o∧cz E k rs b (o+k)
end
theorem fI{E:Env}:∀{as:List AV} {vs:List Value},af E as vs→as.length=vs.length
 | [],[],_=>rfl
 |_::_,_::_,h=>by simp only[af]at h; simp[fI h.2]
 | [],_::_,h=>by simp[af]at h
 |_::_,[],h=>by simp[af]at h
theorem lL{E:Env}:∀{as:List AV} {vs:List Value},
  af E as vs↔as.length=vs.length∧∀(i:Nat) a v,as[i]? = some a→vs[i]? = some v→rel E a v
 | [],[]=>by simp[af]
 | [],_::_=>by simp[af]
 |_::_,[]=>by simp[af]
 | a::as,v::vs=>by
  simp only[af,lL (as:=as),cB];constructor
  ·rintro ⟨h1, h, k⟩
   refine⟨by omega,fun i x y d g=>?_⟩;cases i with
   |zero=>simp at d g; subst d; subst g; exact h1
   |succ i=>exact k i x y (by simpa using d) (by simpa using g)
  ·rintro ⟨h1, h⟩
   exact⟨h 0 a v rfl rfl,by omega,fun i x y d g=>h (i+1) x y (by simpa using d) (by simpa using g)⟩
theorem ij{E:Env}:∀{as:List AV} {b o:Nat},
  cn E as b o↔∀(i:Nat) a,as[i]? = some a→∃ v,E.w.cell? ⟨b,o+i,none⟩=some v∧dh v=true∧rel E a v
 | [],b,o=>by simp[cn]
 | a::as,b,o=>by
  simp only[cn,ij (as:=as)];constructor
  ·rintro ⟨h1, g⟩ i x d
   cases i with
   |zero=>simp at d; subst d; exact h1
   |succ i=>have:=g i x (by simpa using d); rwa [nZ,sr 1 i]at this
  ·intro h
   refine⟨h 0 a rfl,fun i x d=>?_⟩;have:=h (i+1) x (by simpa using d)
   rwa [nZ,sr 1 i]
theorem kO{E:Env}{k:Nat}:∀{rs:List (List AV)} {b o:Nat},
  cz E k rs b o↔∀(i:Nat) r,rs[i]? = some r→r.length=k∧cn E r b (o+i*k)
 | [],b,o=>by simp[cz]
 | r::rs,b,o=>by
  simp only[cz,kO (rs:=rs)];constructor
  ·rintro ⟨h0, h1, g⟩ i x d
   cases i with
   |zero=>simp at d; subst d; simpa using⟨h0,h1⟩
   | succ i =>
    have:=g i x (by simpa using d)
    rwa [nZ,show k+i*k=(i+1)*k from by rw[fh]; omega]at this
  ·intro h
   have h0:=h 0 r rfl;refine⟨h0.1,by simpa using h0.2,fun i x d=>?_⟩;have:=h (i+1) x (by simpa using d)
   rwa [nZ,show k+i*k=(i+1)*k from by rw[fh]; omega]
def dJ(w w':World):Prop:=w'.os=w.os∧w'.output=w.output∧w'.tape=w.tape∧(RW=true→w.drawn≤w'.drawn)
theorem dJ.refl(w:World):dJ w w:=⟨rfl,rfl,rfl,by first|exact fun _=>aG _|exact fun _=>eL _ _⟩
theorem dJ.trans{w w' d:World}(h:dJ w w')(h':dJ w' d):dJ w d:=⟨h'.1.trans h.1,h'.2.1.trans h.2.1,h'.2.2.1.trans h.2.2.1,fun t=>mw (h.2.2.2 t) (h'.2.2.2 t)⟩
structure Env.le (E E':Env):Prop where
 past:∀ id ae,E.past id ae→E'.past id ae
 size:E.w.heap.size≤E'.w.heap.size
 same:∀ b,b<E.w.heap.size→¬ E.own b→E'.w.heap[b]? = E.w.heap[b]?
 own:∀ b,b<E.w.heap.size→¬ E.own b→¬ E'.own b
 live:∀ id ae,E.past id ae→E'.live id ae→E.live id ae∧E'.loc[id]? = E.loc[id]?
 X:E'.X.x=E.X.x∧E'.X.z=E.X.z
 rl:∀ l h,h<(E.X.r l).length→h<(E'.X.r l).length∧∀ q,(E'.X.r l)[h]? = some (some q)→(E.X.r l)[h]? = some (some q)
 env:dJ E.w E'.w
 grow:∀ id l o,E.H[id]? = some o→o.cZ=some l→E'.live id 0→(∃ t,E'.X.r l=E.X.r l++t)∧∃ o',E'.H[id]? = some o'∧o'.cZ=some l
theorem Env.le.refl(E:Env):E.le E:=⟨fun _ _ h=>h,aG _,fun _ _ _=>rfl,fun _ _ h=>h,fun _ _ _ h=>⟨h,rfl⟩,⟨rfl,rfl⟩,fun _ _ h=>⟨h,fun _ d=>d⟩,⟨rfl,rfl,rfl,by first|exact fun _=>aG _|exact fun _=>eL _ _⟩,fun _ _ o h1 g _=>⟨⟨[],(cY _).symm⟩,o,h1,g⟩⟩
theorem Env.le.ok{E E':Env}(h:E.le E')(b:Nat)(hb:E.ig b):E'.ig b :=
 ⟨dj hb.1 h.size,h.own b hb.1 hb.2.1,by rw[show E'.X.x=E.X.x from h.X.1]; exact hb.2.2⟩
theorem Env.le.trans{E E' y:Env}(h:E.le E')(h':E'.le y):E.le y where
 past:=fun id ae d=>h'.past id ae (h.past id ae d)
 size:=mw h.size h'.size
 same:=fun b hb ho=>by rw[h'.same b (dj hb h.size) (h.own b hb ho),h.same b hb ho]
 own:=fun b hb ho=>h'.own b (dj hb h.size) (h.own b hb ho)
 live:=fun id ae hid N=>by
  obtain⟨g,a2⟩:=h'.live id ae (h.past id ae hid) N;obtain⟨b1,k⟩:=h.live id ae hid g;exact⟨b1,by rw[a2,k]⟩
 X:=⟨by rw[h'.X.1,h.X.1],by rw[h'.X.2,h.X.2]⟩
 rl:=fun l i hi=>by
  obtain⟨g,a2⟩:=h.rl l i hi;obtain⟨b1,k⟩:=h'.rl l i g;exact⟨b1,fun q O=>a2 q (k q O)⟩
 env:=h.env.trans h'.env
 grow:=fun id l o h1 B u=>by
  have d:E.past id 0:=⟨o,h1,ab.z_ B,fun v u=>ef _⟩
  obtain⟨I,_⟩:=h'.live id 0 (h.past id 0 d) u;obtain⟨⟨t,U⟩,o',g1,g2⟩:=h.grow id l o h1 B I;obtain⟨⟨t',J⟩,M,g3,g4⟩:=h'.grow id l o' g1 g2 u;exact⟨⟨t++t',by rw[J,U,List.append_assoc]⟩,M,g3,g4⟩
theorem World.pT{w w':World}{b o:Nat}(h:w'.heap[b]? = w.heap[b]?):w'.cell? ⟨b,o,none⟩=w.cell? ⟨b,o,none⟩:=by
 simp[su,h]
structure Env.bF (E E':Env):Prop where
 ok:∀ b,E.ig b→E'.ig b∧E'.w.heap[b]? = E.w.heap[b]?
theorem Env.le.toC{E E':Env}(h:E.le E'):E.bF E':=⟨fun b hb=>⟨h.ok b hb,h.same b hb.1 hb.2.1⟩⟩
mutual
theorem Hb{E E':Env}(h:E.bF E'):∀(k:Kd) {g:G} {c:Value},dO E k g c→dO E' k g c
 |.int k,g,c,d=>by simpa only[dO]using d
 |.str,g,c,d=>by simpa only[dO]using d
 |.bool,g,c,d=>by simpa only[dO]using d
 | .list ks,g,c,d=>by
  simp only[dO]at d⊢;obtain⟨base,cap,y,hle,v⟩:=d;refine⟨base,cap,y,hle,?_⟩;rcases v with B|⟨b,o,hb,q,u⟩
  ·exact .inl B
  ·exact .inr ⟨b,o,hb,(h.ok b q).1,fun i r hi=>Hc h ks (h.ok b q).2 (u i r hi)⟩
theorem Hc{E E':Env}(h:E.bF E'):∀(ks:List Kd) {g:List G} {b o:Nat},E'.w.heap[b]? = E.w.heap[b]? → j_ E ks g b o→j_ E' ks g b o
 | [],_,_,_,_,_=>by simp[j_]
 | k::ks,g,b,o,hb,d=>by
  simp only[j_]at d⊢;obtain⟨⟨v,h1,q,u⟩,y⟩:=d;exact⟨⟨v,by rw[World.pT hb]; exact h1,q,Hb h k u⟩,Hc h ks hb y⟩
end
mutual
theorem dB{E E':Env}(h:E.bF E'):∀(a:AV) {c:Value},a.closed=true→rel E a c→rel E' a c
 |.undef,_,_,_=>by simp[rel]
 |.lit v,c,_,d=>by simpa only[rel]using d
 |.nils,c,_,d=>by simpa only[rel]using d
 | .list k rows,c,_,d=>by
  simp only[rel]at d⊢;obtain⟨u,base,cap,g,hle,I⟩:=d;refine⟨u,base,cap,g,hle,?_⟩;rcases I with rfl|⟨b,o,hb,y,B⟩
  ·exact .inl rfl
  ·exact .inr ⟨b,o,hb,(h.ok b y).1,ka h rows u (h.ok b y).2 B⟩
 | .listF ks rows,c,_,d=>by
  simp only[rel]at d⊢;exact Hb h _ d
 | .agg cells,c,g,d=>by
  simp only[rel]at d⊢;obtain⟨cs,e,h1,q⟩:=d;exact⟨cs,e,h1,mJ h cells (by simpa only[AV.closed]using g) q⟩
 | .tuple cells,c,g,d=>by
  simp only[rel]at d⊢;obtain⟨cs,e,q⟩:=d;exact⟨cs,e,mJ h cells (by simpa only[AV.closed]using g) q⟩
 | .cptr cells,c,g,d=>by
  simp only[rel]at d⊢;obtain⟨u,b,o,e,y,q⟩:=d;exact⟨u,b,o,e,(h.ok b y).1,pU h cells u (h.ok b y).2 q⟩
 |.ptr ..,_,g,_=>by simp[AV.closed]at g
 |.vec ..,_,g,_=>by simp[AV.closed]at g
 |.map _,_,g,_=>by simp[AV.closed]at g
 |.sub ..,_,g,_=>by simp[AV.closed]at g
 | .clo f caps,c,g,d=>by
  simp only[rel]at d⊢;obtain⟨cs,e,q⟩:=d;exact⟨cs,e,mJ h caps (by simpa only[AV.closed]using g) q⟩
 |.ifc,c,_,d=>by simpa only[rel]using d
 |.emptyS n,c,_,d=>by simpa only[rel]using d
theorem mJ{E E':Env}(h:E.bF E'):∀(as:List AV) {vs:List Value},AV.bq as=true→af E as vs→af E' as vs
 | [],[],_,_=>by simp[af]
 | [],_::_,_,d=>by simp[af]at d
 |_::_,[],_,d=>by simp[af]at d
 | a::as,v::vs,g,d=>by
  simp only[AV.bq,aB]at g;simp only[af]at d⊢;exact⟨dB h a g.1 d.1,mJ h as g.2 d.2⟩
theorem pU{E E':Env}(h:E.bF E'):∀(as:List AV) {b o:Nat},AV.bq as=true→E'.w.heap[b]? = E.w.heap[b]? → cn E as b o→cn E' as b o
 | [],_,_,_,_,_=>by simp[cn]
 | a::as,b,o,d,hb,g=>by
  simp only[AV.bq,aB]at d;simp only[cn]at g⊢;obtain⟨⟨v,h1,k,q⟩,u⟩:=g;exact⟨⟨v,by rw[World.pT hb]; exact h1,k,dB h a d.1 q⟩,pU h as d.2 hb u⟩
theorem ka{E E':Env}(h:E.bF E'){k:Nat}:∀(rs:List (List AV)) {b o:Nat},eQ rs→E'.w.heap[b]? = E.w.heap[b]? → cz E k rs b o→cz E' k rs b o
 | [],_,_,_,_,_=>by simp[cz]
 | r::rs,b,o,g,hb,d=>by
  simp only[cz]at d⊢;exact⟨d.1,pU h r (g r (by simp)) hb d.2.1,ka h rs (fun x q=>g x (by simp[q])) hb d.2.2⟩
end
mutual
theorem bP{E E':Env}(h:E.le E'):∀(a:AV) {c:Value},rel E a c→rel E' a c
 |.undef,_,_=>by simp[rel]
 |.lit v,c,d=>by simpa only[rel]using d
 |.nils,c,d=>by simpa only[rel]using d
 |.list k rows,c,d=>dB h.toC _ (by simp[AV.closed]) d
 |.listF ks rows,c,d=>dB h.toC _ (by simp[AV.closed]) d
 | .agg cells,c,d=>by
  simp only[rel]at d⊢;obtain⟨cs,e,h1,g⟩:=d;exact⟨cs,e,h1,du h cells g⟩
 | .tuple cells,c,d=>by
  simp only[rel]at d⊢;obtain⟨cs,e,g⟩:=d;exact⟨cs,e,du h cells g⟩
 |.cptr cells,c,d=>dB h.toC _ (by simp[AV.closed]) d
 | .ptr id ae k row col,c,d=>by
  simp only[rel]at d⊢;refine⟨d.1,h.past _ _ d.2.1,fun q=>?_⟩;obtain⟨h1,g⟩:=h.live id ae d.2.1 q;rw[g];exact d.2.2 h1
 | .vec k id ae off n,c,d=>by
  simp only[rel]at d⊢;refine⟨d.1,h.past _ _ d.2.1,fun q=>?_⟩;obtain⟨h1,g⟩:=h.live id ae d.2.1 q;rw[g];exact d.2.2 h1
 | .map id,c,d=>by
  simp only[rel]at d⊢;refine⟨d.1,h.past _ _ d.2.1,fun q=>?_⟩;obtain⟨h1,g⟩:=h.live id 0 d.2.1 q;rw[g];exact d.2.2 h1
 | .clo f caps,c,d=>by
  simp only[rel]at d⊢;obtain⟨cs,e,g⟩:=d;exact⟨cs,e,du h caps g⟩
 |.ifc,c,d=>by simpa only[rel]using d
 |.emptyS n,c,d=>by simpa only[rel]using d
 | .sub id l j,c,d=>by
  simp only[rel]at d⊢;rcases d with d|⟨i,h1,g,u,B⟩
  ·exact .inl d
  ·refine .inr ⟨i, h1, g, h.past _ _ u, fun q => ?_⟩
   obtain⟨g1,_⟩:=h.live id 0 u q;obtain⟨⟨o,I,J⟩,b,y,M⟩:=B g1;obtain⟨⟨t,N⟩,ho⟩:=h.grow id l o I J q;refine⟨ho,b,?_,M⟩;rw[N,Ai,cK (List.getElem?_eq_some_iff.1 y).1];exact y
theorem du{E E':Env}(h:E.le E'):∀(as:List AV) {vs:List Value},af E as vs→af E' as vs
 | [],[],_=>by simp[af]
 | [],_::_,d=>by simp[af]at d
 |_::_,[],d=>by simp[af]at d
 | a::as,v::vs,d=>by
  simp only[af]at d⊢;exact⟨bP h a d.1,du h as d.2⟩
end
theorem RX{E:Env}(k:Kd)(g:G)(c:Value):rel E (ic k g) c↔dO E k g c:=by
 cases k with
 |int k=>simp only[ic,rel,dO]
 |str=>simp only[ic,rel,dO]
 |bool=>simp only[ic,rel,dO]
 |list ks=>simp only[ic,rel,dO,G.rows]
theorem Aj{E:Env}:∀(ks:List Kd) (g:List G) (b o:Nat),cn E (aJ ks g) b o↔j_ E ks g b o
 | [],_,_,_=>by simp[aJ,cn,j_]
 |k::ks,g,b,o=>by simp only[aJ,cn,j_,Aj ks,RX]
theorem iC{E:Env}{ks:List Kd}{rows:List (List G)}{c:Value}:rel E (.listF ks rows) c↔rel E (.list ks.length (rows.map (aJ ks))) c:=by
 simp only[rel,dO,G.rows,dE,List.map_eq_nil_iff];have q:eQ (rows.map (aJ ks)):=by
  intro r d;obtain⟨g,_,rfl⟩:=List.mem_map.1 d;exact fy ks g
 have d:∀ b o,(∀(i:Nat) (r:List G),rows[i]? = some r→j_ E ks r b (o+i*ks.length))↔cz E ks.length (rows.map (aJ ks)) b o:=by
  intro b o;rw[kO];constructor
  ·intro h i r hi
   simp only[bZ,dM]at hi;obtain⟨g,k,rfl⟩:=hi;exact⟨pS ks g,(Aj ks g _ _).2 (h i g k)⟩
  ·intro h i g k
   exact(Aj ks g _ _).1 (h i (aJ ks g) (by simp[k])).2
 simp only[d,q,true_and]
end Go.AL

namespace Go.AL
variable [Dr]
def isRow(w:World)(b n:Nat):Prop:=∃ cs el,w.heap[b]? = some (.cells cs el (0,0))∧cs.size=n
def bC(E:Env):List (AV × AV × Nat)→List MapEntry→Prop
 | [],[]=>True
 |(k,v,n)::es,e::ms=>rel E k e.key∧rel E v e.val∧e.born=n∧k.closed=true∧v.closed=true∧bC E es ms
 |_,_=>False
def Ak(w:World)(B:TypeId)(s:ByteArray)(v:Value):Option (Nat × Nat)→Prop
 |none=>v=.slice none 0 0∧s.data.toList=[]
 | some (g,m)=>v=.slice (some ⟨g,0,none⟩) s.data.toList.length m∧∃ cs fz,w.heap[g]? = some (.cells cs B fz)∧fz.2≤s.data.toList.length∧cs.size=m∧s.data.toList.length≤m∧m≤9223372036854775807 ∧
   cs.toList.take s.data.toList.length=s.data.toList.map fun b=>Value.int .u8 (b.toNat:Int)
theorem Al{w w':World}{B:TypeId}{s:ByteArray}{v:Value}{q:Option (Nat × Nat)}(h:∀ g m,q=some (g,m)→w'.heap[g]? = w.heap[g]?)(d:Ak w B s v q):Ak w' B s v q:=by
 cases q with
 |none=>exact d
 | some k =>
  obtain⟨g,m⟩:=k;obtain⟨h1,cs,fz,u,y⟩:=d;exact⟨h1,cs,fz,by rw[h g m rfl]; exact u,y⟩
def cC (es:List (AV × Option (List (List AV)) × Nat)):List (AV × AV × Nat):=es.map fun x=>(x.1,.undef,x.2.2)
theorem Am (es:List (AV × Option (List (List AV)) × Nat)):(cC es).length=es.length:=by simp[cC]
def An(E:Env)(l k:Nat)(rows:List (List AV))(h:Nat)(v:Value):Prop :=
 (rows = [] ∧ ∃ base, v = .slice base 0 0) ∨
  ∃ b m,(E.X.r l)[h]? = some (some (some (b,m)))∧v=.slice (some ⟨b,0,none⟩) rows.length m∧isRow E.w b (m*k)∧rows.length≤m∧eQ rows∧cz E k rows b 0
def il(E:Env)(l k:Nat) (es:List (AV × Option (List (List AV)) × Nat)) (ms:List MapEntry):Prop :=
 ∃ d:Nat→Nat,(∀(i j:Nat) x y,es[i]? = some x→es[j]? = some y→x.2.1.isSome=true→y.2.1.isSome=true→d i=d j→i=j) ∧
  ∀(i:Nat) x rows e,es[i]? = some x→x.2.1=some rows→ms[i]? = some e→An E l k rows (d i) e.val
theorem RY{E E':Env}{l k h:Nat}{rows:List (List AV)}{v:Value} (q:∀ b m,(E.X.r l)[h]? = some (some (some (b,m)))→(E'.X.r l)[h]? = some (some (some (b,m)))∧E'.w.heap[b]? = E.w.heap[b]?)
  (u:∀ b,E'.w.heap[b]? = E.w.heap[b]? → eQ rows→cz E k rows b 0→cz E' k rows b 0) (d:An E l k rows h v):An E' l k rows h v:=by
 rcases d with d|⟨b,m,h1,y,⟨cs,el,B,I⟩,J,g,M⟩
 ·exact .inl d
 ·obtain ⟨g1, g2⟩ := q b m h1
  exact .inr ⟨b,m,g1,y,⟨cs,el,by rw[g2]; exact B,I⟩,J,g,u b g2 g M⟩
theorem sN{E E':Env}{l k:Nat}{es:List (AV × Option (List (List AV)) × Nat)}{ms:List MapEntry} (u:∀(h b m:Nat),(E.X.r l)[h]? = some (some (some (b,m)))→(E'.X.r l)[h]? = some (some (some (b,m)))∧E'.w.heap[b]? = E.w.heap[b]?)
  (v:∀(i:Nat) x rows,es[i]? = some x→x.2.1=some rows→∀ b,E'.w.heap[b]? = E.w.heap[b]? → eQ rows→cz E k rows b 0→cz E' k rows b 0) (y:il E l k es ms):il E' l k es ms:=by
 obtain⟨g,h1,B⟩:=y;exact⟨g,h1,fun i x rows e q d he=>RY (u (g i)) (v i x rows q d) (B i x rows e q d he)⟩
theorem v8{r:List (Option (Option (Nat × Nat)))}{b:Nat}(h:b∈dR r):∃(i m:Nat),r[i]? = some (some (some (b,m))):=by
 unfold dR at h;obtain⟨x,d,hb⟩:=List.mem_filterMap.1 h;obtain⟨i,hi,e⟩:=n3 d;split at hb
 ·rename_i g m
  cases hb;exact⟨i,m,by rw[bI hi,e]⟩
 ·cases hb
def e9(es:List (AV × Option Nat × Nat)):List (AV × AV × Nat):=es.map fun x=>(x.1,.undef,x.2.2)
theorem Hd(es:List (AV × Option Nat × Nat)):(e9 es).length=es.length:=by simp[e9]
def v_(E:Env)(l:Nat)(es:List (AV × Option Nat × Nat)) (ms:List (List (AV × AV × Nat) × Nat)) (d:List MapEntry):Prop :=
 (dR (E.X.r l)).length = ms.length ∧
  (∀(i:Nat) x e,es[i]? = some x→d[i]? = some e→(x.2.1=none∧e.val=.map none)∨∃ j b,x.2.1=some j∧(dR (E.X.r l))[j]? = some b∧e.val=.map (some b)) ∧
  ∀(j:Nat) m b,ms[j]? = some m→(dR (E.X.r l))[j]? = some b→∃ mm,E.w.heap[b]? = some (.map mm m.2)∧bC E m.1 mm.toList
theorem Ao{E E':Env}{l:Nat}{es:List (AV × Option Nat × Nat)}{ms:List (List (AV × AV × Nat) × Nat)}{g:List MapEntry}(d:E'.X.r l=E.X.r l) (k:∀(h b m:Nat),(E.X.r l)[h]? = some (some (some (b,m)))→E'.w.heap[b]? = E.w.heap[b]?)
  (u:∀ m∈ms,∀ q,bC E m.1 q→bC E' m.1 q) (h:v_ E l es ms g):v_ E' l es ms g:=by
 obtain⟨h1,v,y⟩:=h;refine⟨by rw[d]; exact h1,fun i x e B he=>by rw[d]; exact v i x e B he,fun j m b hm hb=>?_⟩;rw[d]at hb;obtain⟨mm,I,J⟩:=y j m b hm hb;obtain⟨i,n,hi⟩:=v8 (eM hb);exact⟨mm,by rw[k i b n hi]; exact I,u m (eM hm) _ J⟩
def aN(E:Env)(id:Nat):ab→Prop
 |.dead=>E.loc[id]? = some none
 |.dI=>E.loc[id]? = some none
 |.box cells=>∃ b n,E.loc[id]? = some (some (b,n))∧isRow E.w b cells.length∧cn E cells b 0
 | .vec k _ rows=>(E.loc[id]? = some none∧rows=[]) ∨
   ∃ b m,E.loc[id]? = some (some (b,m))∧isRow E.w b (m*k)∧rows.length≤m∧eQ rows∧cz E k rows b 0
 |.map es clock=>∃ b n ms,E.loc[id]? = some (some (b,n))∧E.w.heap[b]? = some (.map ms clock)∧bC E es ms.toList
 |.iter s pos=>∃ b n,E.loc[id]? = some (some (b,n))∧E.w.heap[b]? = some (.stringIter s pos)
 | .er l T B s=>∃ (b n:Nat) (p v:Value) (h:Nat) (q:Option (Nat × Nat)),E.loc[id]? = some (some (b,n))∧E.w.heap[b]? = some (.cells #[p,v] T (0,0))∧(p=.pointer none∨p=.pointer (some ⟨b,0,none⟩))∧(E.X.r l)[h]? = some (some q) ∧
   (∀(h':Nat) g,(E.X.r l)[h']? = some (some g)→h'=h)∧Ak E.w B s v q
 |.aH l k es clock=>∃ b n ms,E.loc[id]? = some (some (b,n))∧E.w.heap[b]? = some (.map ms clock)∧bC E (cC es) ms.toList∧il E l k es ms.toList
 |.mm l es ms clock=>∃ b n d,E.loc[id]? = some (some (b,n))∧E.w.heap[b]? = some (.map d clock)∧bC E (e9 es) d.toList∧v_ E l es ms d.toList
def og(E:Env):Prop:=∀ p∈sL,E.ig p.1∧∃ t f,E.w.heap[p.1]? = some (.cells p.2 t f)
theorem og.bF{E E':Env}(H:og E)(h:E.bF E'):og E':=fun p d=>by
 obtain⟨h1,t,f,g⟩:=H p d;exact⟨(h.ok _ h1).1,t,f,by rw[(h.ok _ h1).2]; exact g⟩
structure au (E:Env):Prop where
 len:E.loc.length=E.H.length
 inj:∀(i j b m n:Nat),E.loc[i]? = some (some (b,m))→E.loc[j]? = some (some (b,n))→i=j
 lt:∀(i b m:Nat),E.loc[i]? = some (some (b,m))→b<E.w.heap.size∧¬ E.X b
 X:∀ b,E.X b→b<E.w.heap.size
 obj:∀(i:Nat) o,E.H[i]? = some o→aN E i o
 eR:og E
 eu:∀(l h l' h' b m n:Nat),(E.X.r l)[h]? = some (some (some (b,m)))→(E.X.r l')[h']? = some (some (some (b,n)))→l=l'∧h=h'
 cN:∀(i b m l h n:Nat),E.loc[i]? = some (some (b,m))→(E.X.r l)[h]? ≠ some (some (some (b,n)))
 cu:∀(l h b m:Nat),(E.X.r l)[h]? = some (some (some (b,m)))→b<E.w.heap.size∧¬ E.X b
 uniq:∀(i j:Nat) o o' (l:Nat),E.H[i]? = some o→E.H[j]? = some o'→o.label=some l→o'.label=some l→i=j
 fJ:∀(l:Nat),(∀(i:Nat) o,E.H[i]? = some o→o.label≠some l)→∀(h:Nat) q,(E.X.r l)[h]? ≠ some (some q)
theorem au.mL{E:Env}(H:au E){b:Nat}(d:E.X b):¬ E.own b:=by
 rintro(⟨i,c,hi⟩|⟨l,h,m,hi⟩)
 ·exact(H.lt i b c hi).2 d
 ·exact(H.cu l h b m hi).2 d
theorem au.wa{E:Env}(H:au E){b:Nat}(ho:E.own b):b<E.w.heap.size∧¬ E.X b:=by
 rcases ho with⟨i,c,hi⟩|⟨l,h,m,hi⟩
 ·exact H.lt i b c hi
 ·exact H.cu l h b m hi
structure Ext (w w':World):Prop where
 size:w.heap.size≤w'.heap.size
 same:∀ b,b<w.heap.size→w'.heap[b]? = w.heap[b]?
 env:dJ w w'
theorem Ext.refl(w:World):Ext w w:=⟨aG _,fun _ _=>rfl,⟨rfl,rfl,rfl,by first|exact fun _=>aG _|exact fun _=>eL _ _⟩⟩
theorem Ext.trans{w w' d:World}(h:Ext w w')(h':Ext w' d):Ext w d :=
 ⟨mw h.size h'.size,fun b hb=>by rw[h'.same b (dj hb h.size),h.same b hb],h.env.trans h'.env⟩
theorem Ext.push(w:World)(o:Obj):Ext w { w with heap:=w.heap.push o } :=
 ⟨by simp,fun b hb=>by simp[vB,agl hb],⟨rfl,rfl,rfl,by first|exact fun _=>aG _|exact fun _=>eL _ _⟩⟩
theorem Ext.drawn(w:World)(n:Nat)(h:w.drawn≤n:=by exact Nat.le_succ _):Ext w { w with drawn:=n }:=⟨aG _,fun _ _=>rfl,⟨rfl,rfl,rfl,fun _=>h⟩⟩
theorem Env.iD{E:Env}{w':World}(h:Ext E.w w'):E.le { E with w:=w' } where
 past:=fun _ _ h=>h
 size:=h.size
 same:=fun b hb _=>h.same b hb
 own:=fun _ _ ho=>ho
 live:=fun _ _ _ d=>⟨d,rfl⟩
 X:=⟨rfl,rfl⟩
 rl:=fun _ _ h=>⟨h,fun _ g=>g⟩
 env:=h.env
 grow:=fun _ _ o h1 k _=>⟨⟨[],(cY _).symm⟩,o,h1,k⟩
theorem pV{w w':World}{b n:Nat}(h:w'.heap[b]? = w.heap[b]?)(d:isRow w b n):isRow w' b n:=by
 unfold isRow at *; rw[h]; exact d
theorem sO{E E':Env}{b:Nat}(d:∀ a c,rel E a c→rel E' a c)(hb:E'.w.heap[b]? = E.w.heap[b]?){as:List AV}{o:Nat}
  (h:cn E as b o):cn E' as b o:=by
 rw[ij]at *;intro i a hi;obtain⟨v,h1,g,k⟩:=h i a hi;exact⟨v,by rw[World.pT hb]; exact h1,g,d _ _ k⟩
theorem ke{E E':Env}{b k:Nat}(d:∀ a c,rel E a c→rel E' a c)(hb:E'.w.heap[b]? = E.w.heap[b]?){rs:List (List AV)}{o:Nat}
  (h:cz E k rs b o):cz E' k rs b o:=by
 rw[kO]at *;intro i r hi;exact⟨(h i r hi).1,sO d hb (h i r hi).2⟩
theorem fA{E E':Env}(d:∀ a c,rel E a c→rel E' a c):∀{es:List (AV × AV × Nat)} {ms:List MapEntry},bC E es ms→bC E' es ms
 | [],[],_=>by simp[bC]
 | [],_::_,h=>by simp[bC]at h
 |(_,_,_)::_,[],h=>by simp[bC]at h
 | (k,v,n)::es,e::ms,h=>by
  simp only[bC]at h⊢;exact⟨d _ _ h.1,d _ _ h.2.1,h.2.2.1,h.2.2.2.1,h.2.2.2.2.1,fA d h.2.2.2.2.2⟩
theorem jz{E E':Env}{i:Nat}{o:ab}(J:∀ a c,rel E a c→rel E' a c)(y:E'.loc[i]? = E.loc[i]?)
  (hb:∀ b n,E.loc[i]? = some (some (b,n))→E'.w.heap[b]? = E.w.heap[b]?)
  (M:∀ l,o.label=some l→E'.X.r l=E.X.r l∧∀(h g m:Nat),(E.X.r l)[h]? = some (some (some (g,m)))→E'.w.heap[g]? = E.w.heap[g]?) (h:aN E i o):aN E' i o:=by
 cases o with
 |dead=>simp only[aN]at *; rw[y]; exact h
 |dI=>simp only[aN]at *; rw[y]; exact h
 | box cells =>
  simp only[aN]at *;obtain⟨b,n,h1,d,u⟩:=h;exact⟨b,n,by rw[y,h1],pV (hb b n h1) d,sO J (hb b n h1) u⟩
 | vec k ae rows =>
  simp only[aN]at *;rcases h with⟨h1,d⟩|⟨b,m,h1,d,u,I,N⟩
  ·exact .inl ⟨by rw[y,h1],d⟩
  ·exact .inr ⟨b,m,by rw[y,h1],pV (hb b m h1) d,u,I,ke J (hb b m h1) N⟩
 | map es clock =>
  simp only[aN]at *;obtain⟨b,n,ms,h1,d,u⟩:=h;exact⟨b,n,ms,by rw[y,h1],by rw[hb b n h1,d],fA J u⟩
 | iter s pos =>
  simp only[aN]at *;obtain⟨b,n,h1,d⟩:=h;exact⟨b,n,by rw[y,h1],by rw[hb b n h1,d]⟩
 | er l T B s =>
  simp only[aN]at *;obtain⟨b,n,p,v,k,q,h1,d,u,I,N,V⟩:=h;obtain⟨g1,g2⟩:=M l rfl;exact⟨b,n,p,v,k,q,by rw[y,h1],by rw[hb b n h1,d],u,by rw[g1,I],by rw[g1]; exact N,Al (fun g m e=>g2 k g m (by rw[I,e])) V⟩
 | aH l k es clock =>
  simp only[aN]at *;obtain⟨b,n,ms,h1,d,u,I⟩:=h;obtain⟨g1,g2⟩:=M l rfl;exact⟨b,n,ms,by rw[y,h1],by rw[hb b n h1,d],fA J u,sN (fun h g m hk=>⟨by rw[g1]; exact hk,g2 h g m hk⟩) (fun _ _ _ _ _ b O _ W=>ke J O W) I⟩
 | mm l es ms clock =>
  simp only[aN]at *;obtain⟨b,n,U,h1,d,u,I⟩:=h;obtain⟨g1,g2⟩:=M l rfl;exact⟨b,n,U,by rw[y,h1],by rw[hb b n h1,d],fA J u,Ao g1 g2 (fun _ _ _=>fA J) I⟩
theorem au.ext{E:Env}{w':World}(H:au E)(h:Ext E.w w'):au { E with w:=w' } where
 len:=H.len
 inj:=H.inj
 lt:=fun i b m hi=>⟨dj (H.lt i b m hi).1 h.size,(H.lt i b m hi).2⟩
 X:=fun b hb=>dj (H.X b hb) h.size
 obj:=fun i o hi=>jz (fun a _ d=>bP (Env.iD h) a d) rfl (fun b n hb=>h.same b (H.lt i b n hb).1) (fun l _=>⟨rfl,fun k g m hk=>h.same g (H.cu l k g m hk).1⟩) (H.obj i o hi)
 eR:=H.eR.bF (Env.iD h).toC
 eu:=H.eu
 cN:=H.cN
 cu:=fun l k b m hk=>⟨dj (H.cu l k b m hk).1 h.size,(H.cu l k b m hk).2⟩
 uniq:=H.uniq
 fJ:=H.fJ
def Env.push(E:Env)(w':World)(o:ab)(l:Option (Nat × Nat)):Env:={ w:=w',H:=E.H++[o],loc:=E.loc++[l],X:=E.X }
theorem aK{α:Type}{l:List α}{i:Nat}{x:α}(h:l[i]? = some x):i<l.length:=by
 rcases iV i l.length with h'|h'
 ·exact h'
 ·rw[ly h']at h; cases h
theorem ag9{α:Type}(l:List α)(x:α)(i:Nat)(h:i<l.length):(l++[x])[i]? = l[i]? := by
 rw[cK h]
theorem Env.iY{E:Env}{w':World}{o:ab}{l:Option (Nat × Nat)}(v:E.loc.length=E.H.length)(h:Ext E.w w')
  (hb:∀ b n,l=some (b,n)→E.w.heap.size≤b):E.le (E.push w' o l) where
 past:=fun id ae g=>by
  obtain⟨x,h1,d⟩:=g;exact⟨x,by simp only[Env.push]; rw[cK (aK h1)]; exact h1,d⟩
 size:=h.size
 same:=fun b hb _=>h.same b hb
 own:=fun b u ho=>by
  rintro(⟨id,c,hid⟩|k)
  case inr=>exact ho (.inr k)
  simp only[Env.push]at hid;by_cases hi:id<E.loc.length
  ·rw [cK hi] at hid
   exact ho (.inl ⟨id,c,hid⟩)
  ·rw [ia (by omega)] at hid
   cases hk:id-E.loc.length with
   | zero =>
    rw[hk]at hid;simp at hid;have:=hb b c hid;omega
   |succ n=>rw[hk]at hid; simp at hid
 live:=fun id ae g=>by
  obtain⟨x,h1,d⟩:=g;have hid:=aK h1;simp only[Env.live,Env.push];rw[cK hid,cK (by omega)];exact fun h=>⟨h,rfl⟩
 X:=⟨rfl,rfl⟩
 grow:=fun id l o h1 d _=>⟨⟨[],(cY _).symm⟩,o,by simp only[Env.push]; rw[cK (aK h1)]; exact h1,d⟩
 rl:=fun _ _ h=>⟨h,fun _ q=>q⟩
 env:=h.env
theorem au.push{E:Env}{w':World}{o:ab}{l:Option (Nat × Nat)}(H:au E)(h:Ext E.w w')
  (hb:∀ b n,l=some (b,n)→E.w.heap.size≤b∧b<w'.heap.size) (ho:aN (E.push w' o l) E.H.length o) (hlab:o.label=none:=by first|rfl|assumption):au (E.push w' o l) where
 eu:=H.eu
 cu:=fun l k b m hk=>⟨dj (H.cu l k b m hk).1 h.size,(H.cu l k b m hk).2⟩
 cN:=by
  intro i b m l' k n hi hk;simp only[Env.push,eX]at hi;split at hi
  ·exact H.cN i b m l' k n hi hk
  ·rename_i h1
   cases y:i-E.loc.length with
   | zero =>
    rw[y]at hi;simp at hi;have I:=hb b m hi;have N:=(H.cu l' k b n hk).1;omega
   |succ n=>rw[y]at hi; simp at hi
 uniq:=by
  have key:∀(i:Nat) o1 q,(E.push w' o l).H[i]? = some o1→o1.label=some q→E.H[i]? = some o1:=by
   intro i o1 q hi J;simp only[Env.push,eX]at hi;split at hi
   ·exact hi
   ·cases y : i - E.H.length with
    | zero =>
     rw[y]at hi;simp at hi;subst hi;rw[hlab]at J;cases J
    |succ n=>rw[y]at hi; simp at hi
  exact fun i j o1 o2 q hi d h1 B=>H.uniq i j o1 o2 q (key i o1 q hi h1) (key j o2 q d B) h1 B
 fJ:=fun q O=>H.fJ q fun i o1 hi=>O i o1 (by
  simp only[Env.push];rw[cK (aK hi)];exact hi)
 eR:=H.eR.bF (Env.iY H.len h (fun b n e=>(hb b n e).1)).toC
 len:=by simp[Env.push,H.len]
 inj:=by
  intro i j b m n hi d;simp only[Env.push,eX]at hi d;split at hi<;>split at d
  ·exact H.inj i j b m n hi d
  ·rename_i h1 B
   cases hk:j-E.loc.length with
   | zero =>
    rw[hk]at d;simp at d;have I:=hb b n d;have N:=(H.lt i b m hi).1;omega
   |succ n=>rw[hk]at d; simp at d
  ·rename_i h1 B
   cases hk:i-E.loc.length with
   | zero =>
    rw[hk]at hi;simp at hi;have I:=hb b m hi;have N:=(H.lt j b n d).1;omega
   |succ n=>rw[hk]at hi; simp at hi
  ·rename_i h1 B
   have W:i-E.loc.length=0:=by
    cases hk:i-E.loc.length with
    |zero=>rfl
    |succ n=>rw[hk]at hi; simp at hi
   have e2:j-E.loc.length=0:=by
    cases hk:j-E.loc.length with
    |zero=>rfl
    |succ n=>rw[hk]at d; simp at d
   omega
 lt:=by
  intro i b m hi;simp only[Env.push,eX]at hi⊢;split at hi
  ·exact⟨dj (H.lt i b m hi).1 h.size,(H.lt i b m hi).2⟩
  ·cases hk : i - E.loc.length with
   | zero =>
    rw[hk]at hi;simp at hi;have I:=hb b m hi;exact⟨I.2,fun U=>by have:=H.X b U; omega⟩
   |succ n=>rw[hk]at hi; simp at hi
 X:=fun b v=>dj (H.X b v) h.size
 obj:=by
  intro i o' hi;have hle:E.le (E.push w' o l):=Env.iY H.len h (fun b n v=>(hb b n v).1);by_cases M:i<E.H.length
  ·simp only [Env.push] at hi
   rw[cK M]at hi;refine jz (fun a _ V=>bP hle a V) ?_ ?_ ?_ (H.obj i o' hi)
   ·simp only [Env.push]
    rw[cK (by rw[H.len]; exact M)]
   ·intro b n v
    exact h.same b (H.lt i b n v).1
   ·exact fun q _=>⟨rfl,fun k g m hk=>h.same g (H.cu q k g m hk).1⟩
  ·have u := hi
   simp only[Env.push]at u;rw[ia (by omega)]at u;cases hk:i-E.H.length with
   | zero =>
    rw[hk]at u;simp at u;have:i=E.H.length:=by omega
    rw[this,←u];exact ho
   |succ n=>rw[hk]at u; simp at u
theorem Env.iZ{E:Env}{w':World}{id:Nat}{o o':ab}{l:Option (Nat × Nat)}(hid:E.H[id]? = some o)
  (hlen:E.loc.length=E.H.length) (J:E.w.heap.size≤w'.heap.size)
  (M:∀ x,x<E.w.heap.size→(∀ n,E.loc[id]? ≠ some (some (x,n)))→w'.heap[x]? = E.w.heap[x]?)
  (hl:∀ b n,l=some (b,n)→E.w.heap.size≤b∨∃ m,E.loc[id]? = some (some (b,m)))
  (O:(∀ v,o'.aF = some v→o.aF = some v∧E.loc[id]? = some l)∨(∀ v,o'.aF = some v→∀ u,o.aF = some u→u<v))
  (V:∀ v u,o'.aF = some v→o.aF = some u→u≤v) (I:o.born=true→o.aF = none→o'.aF = none) (U:dJ E.w w':=by first|exact⟨rfl,rfl,rfl,by first|exact fun _=>aG _|exact fun _=>eL _ _⟩|assumption|exact Ext.env (by assumption))
  (hmm:o.cZ=none∨o'.cZ=o.cZ∨o'.aF = none:=by first|exact .inl rfl|exact .inr (.inl rfl)|exact .inr (.inr rfl)|exact .inl (ab.v7 (by assumption))|assumption)
  (N:o.born=true→o'.born=true:=by first|exact fun _=>rfl|exact fun h=>h|assumption) :
  E.le { w:=w',H:=E.H.set id o',loc:=E.loc.set id l,X:=E.X } where
 grow:=fun i l1 x h1 d g=>by
  by_cases e:i=id
  ·subst e
   rw[hid]at h1;cases h1;rcases hmm with h|h|h
   ·rw[h]at d; cases d
   ·exact⟨⟨[],(cY _).symm⟩,o',by simp only[]; rw[bB (aK hid)],by rw[h]; exact d⟩
   ·obtain ⟨y, k, q⟩ := g
    simp only[]at k;rw[bB (aK hid)]at k;cases k;rw[h]at q;cases q
  ·exact⟨⟨[],(cY _).symm⟩,x,by simp only[]; rw[aT (Ne.symm e)]; exact h1,d⟩
 past:=fun i ae B=>by
  obtain⟨x,h1,d⟩:=B;by_cases e:i=id
  ·subst e
   rw[hid]at h1;cases h1;refine⟨o',by simp only[]; rw[bB (aK hid)],N d.1,fun v g=>?_⟩;cases hu:o.aF with
   |none=>rw[I d.1 hu]at g; cases g
   |some u=>exact mw (d.2 u hu) (V v u g hu)
  ·exact⟨x,by simp only[]; rw[aT (Ne.symm e)]; exact h1,d⟩
 size:=J
 same:=fun x hx ho=>M x hx (fun n hn=>ho (.inl ⟨id,n,hn⟩))
 own:=fun b hlt ho=>by
  rintro(⟨i,c,hi⟩|hs)
  case inr=>exact ho (.inr hs)
  simp only[dN]at hi;split at hi
  ·split at hi
   ·simp at hi
    rcases hl b c hi with h|⟨m,hm⟩
    ·omega
    ·exact ho (.inl ⟨id,m,hm⟩)
   ·cases hi
  ·exact ho (.inl ⟨i,c,hi⟩)
 live:=fun i ae B W=>by
  obtain⟨x,h1,d⟩:=W;by_cases e:i=id
  ·subst e
   simp only[]at h1;rw[bB (aK hid)]at h1;cases h1;rcases O with g|g
   ·obtain ⟨a1, a2⟩ := g ae d
    refine⟨⟨o,hid,a1⟩,?_⟩;simp only[];rw[bB (by rw[hlen]; exact aK hid),a2]
   ·obtain ⟨y, k, q⟩ := B
    rw[hid]at k;cases k;cases hu:o.aF with
    |none=>rw[I q.1 hu]at d; cases d
    |some u=>have:=g ae d u hu; have:=q.2 u hu; omega
  ·simp only [] at h1 ⊢
   rw[aT (Ne.symm e)]at h1;rw[aT (Ne.symm e)];exact⟨⟨x,h1,d⟩,rfl⟩
 X:=⟨rfl,rfl⟩
 rl:=fun _ _ h=>⟨h,fun _ hq=>hq⟩
 env:=U
theorem au.kf{E:Env}{w':World}{id:Nat}{o o':ab}{l:Option (Nat × Nat)}(H:au E)(hid:E.H[id]? = some o)
  (B:E.w.heap.size≤w'.heap.size)
  (J:∀ x,x<E.w.heap.size→(∀ n,E.loc[id]? ≠ some (some (x,n)))→w'.heap[x]? = E.w.heap[x]?)
  (I:∀ b n,l=some (b,n)→(E.w.heap.size≤b∧b<w'.heap.size)∨∃ m,E.loc[id]? = some (some (b,m)))
  (U:(∀ v,o'.aF = some v→o.aF = some v∧E.loc[id]? = some l)∨(∀ v,o'.aF = some v→∀ u,o.aF = some u→u<v))
  (W:∀ v u,o'.aF = some v→o.aF = some u→u≤v) (O:o.born=true→o.aF = none→o'.aF = none)
  (ho:aN { w:=w',H:=E.H.set id o',loc:=E.loc.set id l,X:=E.X } id o') (V:dJ E.w w':=by first|exact⟨rfl,rfl,rfl,by first|exact fun _=>aG _|exact fun _=>eL _ _⟩|assumption|exact Ext.env (by assumption))
  (hlab:o.label=none:=by first|rfl|assumption) (hlab':o'.label=none:=by first|rfl|assumption)
  (hborn:o.born=true→o'.born=true:=by first|exact fun _=>rfl|exact fun h=>h|assumption) :
  au { w:=w',H:=E.H.set id o',loc:=E.loc.set id l,X:=E.X } where
 eu:=H.eu
 cu:=fun l k b m hk=>⟨dj (H.cu l k b m hk).1 B,(H.cu l k b m hk).2⟩
 cN:=by
  intro i b m l' k n hi hk;simp only[dN]at hi;split at hi
  ·split at hi
   ·simp at hi
    rcases I b m hi with h|⟨m',y⟩
    ·have:=(H.cu l' k b n hk).1; omega
    ·exact H.cN _ _ _ _ _ _ y hk
   ·cases hi
  ·exact H.cN _ _ _ _ _ _ hi hk
 uniq:=by
  have key:∀(i:Nat) o1 q,(E.H.set id o')[i]? = some o1→o1.label=some q→E.H[i]? = some o1:=by
   intro i o1 q hi hl1;rw[dN]at hi;split at hi
   ·split at hi
    ·cases hi
     rw[hlab']at hl1;cases hl1
    ·cases hi
   ·exact hi
  exact fun i j o1 o2 q hi d h1 h2=>H.uniq i j o1 o2 q (key i o1 q hi h1) (key j o2 q d h2) h1 h2
 fJ:=fun q N=>H.fJ q fun i o1 hi=>by
  by_cases e:i=id
  ·subst e
   rw[hid]at hi;cases hi;rw[hlab];exact fun h=>by cases h
  ·exact N i o1 (by show (E.H.set id o')[i]? = _; rw[aT (Ne.symm e)]; exact hi)
 eR:=H.eR.bF (Env.iZ hid H.len B J (fun b n hb=>(I b n hb).imp (fun h=>h.1) (fun h=>h)) U W O V).toC
 len:=by simp[H.len]
 inj:=by
  intro i j b m n hi d;simp only[dN]at hi d;split at hi
  ·rename_i e1
   split at d
   ·rename_i e2; omega
   ·split at hi
    ·simp at hi
     rcases I b m hi with h|⟨m',y⟩
     ·have:=(H.lt j b n d).1; omega
     ·rw[←e1]; exact H.inj _ _ _ _ _ y d
    ·cases hi
  ·split at d
   ·rename_i e2
    split at d
    ·simp at d
     rcases I b n d with h|⟨m',y⟩
     ·have:=(H.lt i b m hi).1; omega
     ·rw[←e2]; exact H.inj _ _ _ _ _ hi y
    ·cases d
   ·exact H.inj i j b m n hi d
 lt:=by
  intro i b m hi;simp only[dN]at hi;split at hi
  ·split at hi
   ·simp at hi
    rcases I b m hi with h|⟨m',y⟩
    ·exact⟨h.2,fun hx=>by have:=H.X b hx; omega⟩
    ·exact⟨dj (H.lt _ _ _ y).1 B,(H.lt _ _ _ y).2⟩
   ·cases hi
  ·exact⟨dj (H.lt i b m hi).1 B,(H.lt i b m hi).2⟩
 X:=fun b hb=>dj (H.X b hb) B
 obj:=by
  intro i x hi;by_cases e:i=id
  ·subst e
   simp only[]at hi;rw[bB (aK hid)]at hi;cases hi;exact ho
  ·have M := hi
   simp only[]at M;rw[aT (Ne.symm e)]at M;have hle:E.le { w:=w',H:=E.H.set id o',loc:=E.loc.set id l,X:=E.X } :=
    Env.iZ hid H.len B J (fun b n hb=>(I b n hb).imp (fun h=>h.1) (fun h=>h)) U W O V
   refine jz (fun a _ hr=>bP hle a hr) ?_ ?_ ?_ (H.obj i x M)
   ·simp only []
    rw[aT (Ne.symm e)]
   ·intro b n hb
    exact J b (H.lt i b n hb).1 (fun m hm=>e (H.inj i id b n m hb hm))
   ·exact fun q _=>⟨rfl,fun k g m hk=>J g (H.cu q k g m hk).1 (fun n N=>H.cN id g n q k m N hk)⟩
theorem au.Ap{E:Env}{w':World}{id l0:Nat}{o o':ab}{r':Nat→List (Option (Option (Nat × Nat)))}(H:au E)(hid:E.H[id]? = some o)(hlab:o.label=some l0)(V:o'.label=some l0)(hver:o'.aF = o.aF)
  (U:E.w.heap.size≤w'.heap.size)
  (W:∀ x,x<E.w.heap.size→(∀ n,E.loc[id]? ≠ some (some (x,n)))→(∀(h m:Nat),(E.X.r l0)[h]? ≠ some (some (some (x,m))))→w'.heap[x]? = E.w.heap[x]?)
  (u:∀ l,l≠l0→r' l=E.X.r l)
  (hnew:∀(h b m:Nat),(r' l0)[h]? = some (some (some (b,m)))→(E.X.r l0)[h]? = some (some (some (b,m)))∨(E.w.heap.size≤b∧b<w'.heap.size∧∀(h' m':Nat),(r' l0)[h']? = some (some (some (b,m')))→h'=h))
  (hrl:∀(h:Nat),h<(E.X.r l0).length→h<(r' l0).length∧∀ q,(r' l0)[h]? = some (some q)→(E.X.r l0)[h]? = some (some q))
  (ho:E.le { w:=w',H:=E.H.set id o',loc:=E.loc,X:=E.X.re r' }→aN { w:=w',H:=E.H.set id o',loc:=E.loc,X:=E.X.re r' } id o') (henv:dJ E.w w') (hmm:o.cZ=none∨(o'.cZ=o.cZ∧∃ t,r' l0=E.X.r l0++t):=by first|exact .inl rfl|assumption) :
  au { w:=w',H:=E.H.set id o',loc:=E.loc,X:=E.X.re r' }∧E.le { w:=w',H:=E.H.set id o',loc:=E.loc,X:=E.X.re r' }:=by
 have J:=aK hid;have N:∀(l h b m:Nat),(r' l)[h]? = some (some (some (b,m)))→(E.X.r l)[h]? = some (some (some (b,m)))∨(l=l0∧E.w.heap.size≤b∧b<w'.heap.size∧∀(h' m':Nat),(r' l0)[h']? = some (some (some (b,m')))→h'=h):=fun l h b m hk=>by
  by_cases e:l=l0
  ·subst e
   rcases hnew h b m hk with h1|⟨h1,d,h3⟩
   ·exact .inl h1
   ·exact .inr ⟨rfl,h1,d,h3⟩
  ·rw [u l e] at hk
   exact .inl hk
 have hle:E.le { w:=w',H:=E.H.set id o',loc:=E.loc,X:=E.X.re r' }:=by
  refine⟨fun i ae hp=>?_,U,fun x hx hx'=>W x hx (fun n M=>hx' (.inl ⟨id,n,M⟩)) fun h m hm=>hx' (.inr ⟨l0,h,m,hm⟩),fun b hb hno=>?_,fun i ae hp k=>?_,⟨rfl,rfl⟩,fun l h hh=>?_,henv,fun i l x h1 d hv=>?_⟩
  rotate_right
  ·by_cases e : i = id
   ·subst e
    rw[hid]at h1;cases h1;have B:l0=l:=by
     have:=ab.j9 d;rw[hlab]at this;cases this;rfl
    subst B;rcases hmm with h|⟨h,ht⟩
    ·rw[h]at d; cases d
    ·exact⟨ht,o',by simp only[]; rw[bB J],by rw[h]; exact d⟩
   ·have B : l ≠ l0 := fun B => e (H.uniq i id x o l h1 hid (ab.j9 d) (by rw [B]; exact hlab))
    exact⟨⟨[],by rw[cY]; exact u l B⟩,x,by simp only[]; rw[aT (Ne.symm e)]; exact h1,d⟩
  ·obtain ⟨x, h1, d⟩ := hp
   by_cases e:i=id
   ·subst e
    rw[hid]at h1;cases h1;exact⟨o',by simp only[]; rw[bB J],ab.vZ V,fun v hv=>d.2 v (by rw[←hver]; exact hv)⟩
   ·exact⟨x,by simp only[]; rw[aT (Ne.symm e)]; exact h1,d⟩
  ·rintro (⟨i, c, hi⟩ | ⟨l, h, m, hm⟩)
   ·exact hno (.inl ⟨i,c,hi⟩)
   ·rcases N l h b m hm with h1 | ⟨_, h1, _⟩
    ·exact hno (.inr ⟨l,h,m,h1⟩)
    ·omega
  ·obtain ⟨x, h1, d⟩ := k
   refine⟨?_,rfl⟩;simp only[]at h1;by_cases e:i=id
   ·subst e
    rw[bB J]at h1;cases h1;exact⟨o,hid,by rw[←hver]; exact d⟩
   ·rw [aT (Ne.symm e)] at h1
    exact⟨x,h1,d⟩
  ·by_cases e : l = l0
   ·subst e
    exact hrl h hh
   ·show h < (r' l).length ∧ _
    rw[u l e];exact⟨hh,fun _ I=>(by rw[show ({ w:=w',H:=E.H.set id o',loc:=E.loc,X:=E.X.re r' }:Env).X.r l=E.X.r l from u l e]at I; exact I)⟩
 refine⟨⟨by simp[H.len],H.inj,fun i b m hi=>⟨dj (H.lt i b m hi).1 U,(H.lt i b m hi).2⟩,fun b hb=>dj (H.X b hb) U,fun i x hi=>?_,H.eR.bF hle.toC,fun l h l' h' b m n h1 d=>?_,fun i b m l h n hi hk=>?_,fun l h b m hk=>?_,fun i j x y l hi hj h1 d=>?_,fun l M h q I=>?_⟩,hle⟩
 ·by_cases e : i = id
  ·subst e
   simp only[]at hi;rw[bB J]at hi;cases hi;exact ho hle
  ·simp only [] at hi
   rw[aT (Ne.symm e)]at hi;refine jz (fun a _ u=>bP hle a u) rfl (fun b n hb=>W b (H.lt i b n hb).1 (fun m hm=>e (H.inj i id b n m hb hm)) fun h m hm=>H.cN i b n l0 h m hb hm) (fun l k=>?_) (H.obj i x hi);have O:l≠l0:=fun B=>e (H.uniq i id x o l hi hid k (by rw[hlab,B]));exact⟨u l O,fun h g m hk=>W g (H.cu l h g m hk).1 (fun n M=>H.cN id g n l h m M hk) fun h' m' hk'=>O (H.eu l h l0 h' g m m' hk hk').1⟩
 ·rcases N l h b m h1 with g1 | ⟨rfl, g1, g2, g3⟩ <;> rcases N l' h' b n d with k1 | ⟨rfl, k1, k2, k3⟩
  ·exact H.eu _ _ _ _ _ _ _ g1 k1
  ·have:=(H.cu _ _ _ _ g1).1; omega
  ·have:=(H.cu _ _ _ _ k1).1; omega
  ·exact⟨rfl,(g3 h' n d).symm⟩
 ·rcases N l h b n hk with g1 | ⟨rfl, g1, g2, g3⟩
  ·exact H.cN _ _ _ _ _ _ hi g1
  ·have:=(H.lt i b m hi).1; omega
 ·rcases N l h b m hk with g1 | ⟨rfl, g1, g2, g3⟩
  ·exact⟨dj (H.cu _ _ _ _ g1).1 U,(H.cu _ _ _ _ g1).2⟩
  ·exact⟨g2,fun hx=>by have:=H.X b hx; omega⟩
 ·have key:∀ (i:Nat) x,(E.H.set id o')[i]? = some x→x.label=some l→∃ y,E.H[i]? = some y∧y.label=some l:=by
   intro i x hi k;by_cases e:i=id
   ·subst e
    rw[bB J]at hi;cases hi;exact⟨o,hid,by rw[hlab,←V,k]⟩
   ·rw [aT (Ne.symm e)] at hi
    exact⟨x,hi,k⟩
  obtain⟨x',a1,a2⟩:=key i x hi h1;obtain⟨y',b1,b2⟩:=key j y hj d;exact H.uniq i j x' y' l a1 b1 a2 b2
 ·have O : l ≠ l0 := fun e => M id o' (by show (E.H.set id o')[id]? = _; rw [bB J]) (by rw [V, e])
  have I:(r' l)[h]? = some (some q):=I;rw[u l O]at I;refine H.fJ l (fun i x hi k=>?_) h q I;by_cases e:i=id
  ·subst e
   rw[hid]at hi;cases hi;exact O (by rw[hlab]at k; cases k; rfl)
  ·exact M i x (by show (E.H.set id o')[i]? = _; rw[aT (Ne.symm e)]; exact hi) k
def gI (r:Nat→List (Option (Option (Nat × Nat)))) (l0:Nat):Nat→List (Option (Option (Nat × Nat))):=fun l=>if l=l0 then r l++[some none] else r l
theorem Aq{r:Nat→List (Option (Option (Nat × Nat)))}{l0 l h:Nat}{q:Option (Option (Nat × Nat))}(d:(gI r l0 l)[h]? = some q):(r l)[h]? = some q∨(l=l0∧h=(r l).length∧q=some none):=by
 unfold gI at d;split at d
 ·rename_i e
  rw[eX]at d;split at d
  ·exact .inl d
  ·rename_i g
   right;cases hk:h-(r l).length with
   | zero =>
    rw[hk]at d;simp at d;exact⟨e,by omega,d.symm⟩
   |succ n=>rw[hk]at d; simp at d
 ·exact .inl d
theorem RZ{r:Nat→List (Option (Option (Nat × Nat)))}{l0 l h:Nat}(d:h<(r l).length):(gI r l0 l)[h]? = (r l)[h]? := by
 unfold gI;split
 ·exact cK d
 ·rfl
theorem au.R0{E:Env}{w':World}{o:ab}{l:Option (Nat × Nat)}{l0:Nat}(H:au E)(h:Ext E.w w')(hb:∀ b n,l=some (b,n)→E.w.heap.size≤b∧b<w'.heap.size)(hlab:o.label=some l0)(N:∀(i:Nat) x,E.H[i]? = some x→x.label≠some l0)
  (ho:aN { w:=w',H:=E.H++[o],loc:=E.loc++[l],X:=E.X.re (gI E.X.r l0) } E.H.length o) :
  au { w:=w',H:=E.H++[o],loc:=E.loc++[l],X:=E.X.re (gI E.X.r l0) }∧E.le { w:=w',H:=E.H++[o],loc:=E.loc++[l],X:=E.X.re (gI E.X.r l0) }:=by
 have O:∀(i:Nat) x,(E.H++[o])[i]? = some x→E.H[i]? = some x∨(i=E.H.length∧x=o):=fun i x hi=>by
  rw[eX]at hi;split at hi
  ·exact .inl hi
  ·right
   cases hk:i-E.H.length with
   |zero=>rw[hk]at hi; simp at hi; exact⟨by omega,hi.symm⟩
   |succ n=>rw[hk]at hi; simp at hi
 have I:∀(i:Nat) x,(E.loc++[l])[i]? = some x→E.loc[i]? = some x∨(i=E.loc.length∧x=l):=fun i x hi=>by
  rw[eX]at hi;split at hi
  ·exact .inl hi
  ·right
   cases hk:i-E.loc.length with
   |zero=>rw[hk]at hi; simp at hi; exact⟨by omega,hi.symm⟩
   |succ n=>rw[hk]at hi; simp at hi
 have v:∀(x k b m:Nat),(gI E.X.r l0 x)[k]? = some (some (some (b,m)))→(E.X.r x)[k]? = some (some (some (b,m))):=fun x k b m hk=>by
  rcases Aq hk with h1|⟨_,_,h1⟩
  ·exact h1
  ·cases h1
 have hle:E.le { w:=w',H:=E.H++[o],loc:=E.loc++[l],X:=E.X.re (gI E.X.r l0) }:=by
  refine⟨fun i ae U=>?_,h.size,fun b J _=>h.same b J,fun b hlt hno'=>?_,fun i ae U V=>?_,⟨rfl,rfl⟩,fun x k hk=>?_,h.env,fun i l x h1 d hv=>⟨⟨[],?_⟩,x,by simp only[]; rw[cK (aK h1)]; exact h1,d⟩⟩
  rotate_right
  ·have e : l ≠ l0 := fun e => N i x h1 (by rw [← e]; exact ab.j9 d)
   rw[cY];exact if_neg e
  ·obtain ⟨x, h1, d⟩ := U
   exact⟨x,by simp only[]; rw[cK (aK h1)]; exact h1,d⟩
  ·rintro (⟨i, c, hi⟩ | ⟨x, k, m, hk⟩)
   ·rcases I i _ hi with h1 | ⟨_, h1⟩
    ·exact hno' (.inl ⟨i,c,h1⟩)
    ·have := hb b c h1.symm
     omega
   ·exact hno' (.inr ⟨x,k,m,v x k b m hk⟩)
  ·obtain ⟨x, h1, d⟩ := U
   have hid:=aK h1;obtain⟨y,u,W⟩:=V;simp only[]at u;rw[cK hid]at u;exact⟨⟨y,u,W⟩,by simp only[]; rw[cK (by rw[H.len]; exact hid)]⟩
  ·have hk':k<(gI E.X.r l0 x).length:=by
    unfold gI;split
    ·simp; omega
    ·exact hk
   refine⟨hk',fun q M=>?_⟩;have M:(gI E.X.r l0 x)[k]? = some (some q):=M
   rwa [RZ hk]at M
 refine⟨⟨by simp[H.len],fun i j b m n hi hj=>?_,fun i b m hi=>?_,fun b J=>dj (H.X b J) h.size,fun i x hi=>?_,H.eR.bF hle.toC,fun x k x' k' b m n h1 d=>H.eu _ _ _ _ _ _ _ (v _ _ _ _ h1) (v _ _ _ _ d),fun i b m x k n hi hk=>?_,fun x k b m hk=>?_,fun i j x y B hi hj h1 d=>?_,fun B hn k q M=>?_⟩,hle⟩
 ·rcases I i _ hi with h1 | ⟨h1, d⟩ <;> rcases I j _ hj with u | ⟨u, W⟩
  ·exact H.inj _ _ _ _ _ h1 u
  ·have:=hb b n W.symm; have:=(H.lt _ _ _ h1).1; omega
  ·have:=hb b m d.symm; have:=(H.lt _ _ _ u).1; omega
  ·omega
 ·rcases I i _ hi with h1 | ⟨h1, d⟩
  ·exact⟨dj (H.lt _ _ _ h1).1 h.size,(H.lt _ _ _ h1).2⟩
  ·have u := hb b m d.symm
   exact⟨u.2,fun hx=>by have:=H.X b hx; omega⟩
 ·rcases O i x hi with h1 | ⟨h1, d⟩
  ·refine jz (fun a _ hr => bP hle a hr) (by simp only []; rw [cK (by rw [H.len]; exact aK h1)]) (fun b n J => h.same b (H.lt i b n J).1) (fun B hl1 => ?_) (H.obj i x h1)
   have hne:B≠l0:=fun e=>N i x h1 (by rw[hl1,e]);exact⟨if_neg hne,fun k g m hk=>h.same g (H.cu _ _ _ _ hk).1⟩
  ·subst h1 d
   exact ho
 ·rcases I i _ hi with h1 | ⟨h1, d⟩
  ·exact H.cN _ _ _ _ _ _ h1 (v _ _ _ _ hk)
  ·have:=hb b m d.symm; have:=(H.cu _ _ _ _ (v _ _ _ _ hk)).1; omega
 ·have h1 := v _ _ _ _ hk
  exact⟨dj (H.cu _ _ _ _ h1).1 h.size,(H.cu _ _ _ _ h1).2⟩
 ·rcases O i x hi with g1 | ⟨g1, rfl⟩ <;> rcases O j y hj with g3 | ⟨g3, rfl⟩
  ·exact H.uniq i j x y B g1 g3 h1 d
  ·rw [hlab] at d
   cases d;exact(N i x g1 h1).elim
  ·rw [hlab] at h1
   cases h1;exact(N j y g3 d).elim
  ·omega
 ·rcases Aq (show (gI E.X.r l0 B)[k]? = some (some q) from M) with g1 | ⟨g1, _⟩
  ·exact H.fJ B (fun i x hi V=>hn i x (by simp only[]; rw[cK (aK hi)]; exact hi) V) k q g1
  ·exact hn E.H.length o (by simp) (by rw[hlab,g1])
theorem Env.pW{E:Env}(H:au E)(id:Nat):E.le { w:=E.w,H:=E.H.set id .dead,loc:=E.loc.set id none,X:=E.X }:=by
 rcases iV id E.H.length with h|h
 ·exact Env.iZ (o:=E.H[id]) (by simp[h]) H.len (aG _) (fun _ _ _=>rfl) (fun _ _ h=>by cases h) (.inl (fun v h=>by simp[ab.aF]at h))
   (fun v u h=>by simp[ab.aF]at h) (fun _ _=>rfl)
 ·rw [Gu h, Gu (by rw [H.len]; exact h)]
  exact Env.le.refl E
theorem au.drop{E:Env}(H:au E)(id:Nat)(hlab:∀ o,E.H[id]? = some o→o.label=none):au { w:=E.w,H:=E.H.set id .dead,loc:=E.loc.set id none,X:=E.X }:=by
 rcases iV id E.H.length with h|h
 ·refine au.kf (o:=E.H[id]) H (by simp [h]) (aG _) (fun _ _ _=>rfl) (fun _ _ h=>by cases h) (.inl (fun v h=>by simp [ab.aF] at h))
   (fun v u h=>by simp[ab.aF]at h) (fun _ _=>rfl) ?_ (hlab:=hlab _ (by simp[h]))
  simp only[aN];rw[bB (by rw[H.len]; exact h)]
 ·rw [Gu h, Gu (by rw [H.len]; exact h)]
  exact H
end Go.AL

namespace Go.AL
variable [Dr]
structure FK where
 off:Nat
 size:Nat
 agg:Bool
def oh:TypeDesc→Bool
 |.struct _ | .array _ _=>true
 |_=>false
def eG(P:Program)(t:TypeId):Option (Nat × Bool) :=
 match P.info? t,P.underlying t with
 |some i,some d=>some (i.size,oh d)
 |_,_=>none
def pX(P:Program)(t:TypeId)(f:Nat):Option FK :=
 match P.underlying t with
 | some (.struct d)=>match d[f]? with
  | some fd=>match eG P fd.type with
   |some (n,a)=>some ⟨fd.offset,n,a⟩
   |none=>none
  |none=>none
 |_=>none
def dS(P:Program)(t:TypeId):Option (List Value) :=
 match P.info? t with
 | some i=>match i.zero with
  |some z=>if z.cells.toList.all dh then some z.cells.toList else none
  |none=>none
 |none=>none
inductive SK where
 |slice (elem size bytes:Nat)
 |array (n elem size:Nat) (agg:Bool)
 |str
 |int (k:IntKind)
 |bool
 |other
def b_(P:Program)(t:TypeId):SK :=
 match P.underlying t with
 | some (.slice e)=>match P.info? e with
  |some i=>.slice e i.size i.bytes
  |none=>.other
 | some (.array n e)=>match eG P e with
  |some (m,a)=>.array n e m a
  |none=>.other
 |some .string=>.str
 |some (.int k)=>.int k
 |some .bool=>.bool
 |_=>.other
def AV.pY:Value→AV
 |.agg cs=>if cs.toList.all dh then .agg (cs.toList.map .lit) else .lit (.agg cs)
 |.tuple cs=>.tuple (cs.toList.map .lit)
 |v=>.lit v
abbrev AV.int(n:Int):AV:=.lit (.int .i64 n)
abbrev AV.bool(b:Bool):AV:=.lit (.bool b)
abbrev AV.str(s:ByteArray):AV:=.lit (.string s)
theorem mM{E:Env}:∀(l:List Value),af E (l.map .lit) l
 | []=>by simp[af]
 |v::l=>by simp[af,rel,mM l]
theorem He(E:Env)(v:Value):rel E (AV.pY v) v:=by
 unfold AV.pY;split
 ·split
  ·rename_i cs h
   simp only[rel];exact⟨cs,rfl,cO.1 h,mM _⟩
  ·simp[rel]
 ·simp only [rel]
  exact⟨_,rfl,mM _⟩
 ·simp[rel]
structure St where
 fr:List AV
 H:List ab
def St.eval(s:St):Operand→AV
 |.tmp t=>s.fr.getD t .undef
 |.const v=>AV.pY v
 |.global g=>.lit (.pointer (some ⟨g,0,none⟩))
 |.func f=>.clo f []
def iE(w:World)(X:XS)(l:List Deferred):Prop:=l.Nodup∧∀ d∈l,∃ D,d={ target:=.collected D,args:=#[] }∧w.heap[D]? = some (.deferred (some []))∧X D∧X.z D
theorem om(w:World)(X:XS):iE w X []:=⟨Rk,fun _ h=>by cases h⟩
theorem wb{w w':World}{X X':XS}{l:List Deferred}(h:iE w X l)(hX:∀ b,X b→X.z b→X' b∧X'.z b)(q:∀ b,X b→X.z b→w'.heap[b]? = w.heap[b]?):iE w' X' l :=
 ⟨h.1,fun d u=>let ⟨D,e,h1,g,k⟩:=h.2 d u; ⟨D,e,by rw[q D g k]; exact h1,hX D g k⟩⟩
theorem we{E E':Env}(HE:au E)(h:E.le E'){l:List Deferred}(hm:iE E.w E.X l):iE E'.w E'.X l :=
 wb hm (fun b h1 d=>⟨by rw[show E'.X.x=E.X.x from h.X.1]; exact h1,by rw[show E'.X.z=E.X.z from h.X.2]; exact d⟩) fun b hb _=>h.same b (HE.X b hb) (HE.mL hb)
structure bN (s:St) (E:Env) (a:Act):Prop where
 H:E.H=s.H
 fr:af E s.fr a.tmps.toList
 defers:iE E.w E.X a.defers
 heap:au E
theorem bN.eval{s:St}{E:Env}{a:Act}(h:bN s E a)(x:Operand):rel E (s.eval x) (a.eval x):=by
 cases x with
 | tmp t =>
  simp only[St.eval,zL];obtain⟨h1,u⟩:=lL.1 h.fr;rcases iV t s.fr.length with d|q
  ·have k : t < a.tmps.toList.length := h1 ▸ d
   have y:s.fr[t]? = some s.fr[t]:=by simp[d]
   have B:a.tmps.toList[t]? = some a.tmps.toList[t]:=bI k;have:=u t _ _ y B;simpa[ch,Array.getD_eq_getD_getElem?,d,show t<a.tmps.size by simpa using k]using this
  ·have : s.fr.getD t .undef = .undef := by simp [ch, ly q]
   rw[this];simp[rel]
 |const v=>exact He E v
 |global g=>simp[St.eval,zL,rel]
 |func f=>simp only[St.eval,zL,rel]; exact⟨#[],rfl,by simp[af]⟩
def gx(agg:Bool)(n:Nat)(cells:List AV):Option AV :=
 if agg then (if n≤cells.length then some (.agg (cells.take n)) else none) else cells[0]?
def kg(k:SK)(x i:AV):Option AV :=
 match i with
 | .lit (.int _ n) =>
  match k,x with
  |.slice _ sz _,.list w rows=>if w=sz∧0≤n∧n<rows.length then (rows[n.toNat]?).map .cptr else none
  |.slice _ sz _,.listF ks rows=>if ks.length=sz∧0≤n∧n<rows.length then some (.cptr (aJ ks (rows.getD n.toNat []))) else none
  |.slice _ sz _,.vec w id ae off m=>if w=sz∧0≤n∧n<m then some (.ptr id ae w (off+n.toNat) 0) else none
  |.array m _ sz _,.ptr id ae w row col=>if 0≤n∧n<m then some (.ptr id ae w row (col+n.toNat*sz)) else none
  |.array m _ sz _,.cptr cells=>if 0≤n∧n<m then some (.cptr ((cells.drop (n.toNat*sz)).take sz)) else none
  |_,_=>none
 |_=>none
def Ar(k:FK)(x:AV):Option AV :=
 if k.size=0 then none else
 match x with
 |.cptr cells=>some (.cptr (cells.drop k.off))
 |.ptr id ae w row col=>some (.ptr id ae w row (col+k.off))
 |_=>none
def Hf(k:IntKind)(a b:Int):Int:=k.wrap (vC k.bits a &&& vC k.bits b).toNat
def Hg(k:IntKind)(a b:Int):Int:=k.wrap (vC k.bits a ||| vC k.bits b).toNat
def Hh(k:IntKind)(a b:Int):Int:=k.wrap (vC k.bits a ^^^ vC k.bits b).toNat
def As(k:IntKind)(a b:Int):Int:=k.wrap (a*2 ^ min b.toNat k.bits)
def dP(k:IntKind)(a b:Int):Int:=a.fdiv (2 ^ min b.toNat k.bits)
def kP(op:BinOp)(k:IntKind)(a b:Int):Option Value :=
 match op with
 |.and=>some (.int k (Hf k a b))
 |.or=>some (.int k (Hg k a b))
 |.xor=>some (.int k (Hh k a b))
 |.add=>some (.int k (k.wrap (a+b)))
 |.sub=>some (.int k (k.wrap (a-b)))
 |.mul=>some (.int k (k.wrap (a*b)))
 |.quo=>if b=0 then none else some (.int k (k.wrap (a.tdiv b)))
 |.rem=>if b=0 then none else some (.int k (a.tmod b))
 |.eql=>some (.bool (a==b))
 |.neq=>some (.bool (a != b))
 |.lss=>some (.bool (a<b))
 |.leq=>some (.bool (a≤b))
 |.gtr=>some (.bool (a>b))
 |.geq=>some (.bool (a ≥ b))
 |_=>none
def Au(op:BinOp)(x y:ByteArray):Option Value :=
 match op with
 |.add=>if ((x.size+y.size:Nat):Int)>IntKind.i64.max then none else some (.string (x++y))
 |.eql=>some (.bool (x.toList==y.toList))
 |.neq=>some (.bool !(x.toList==y.toList))
 |.lss=>some (.bool (lz x.toList y.toList))
 |.leq=>some (.bool (lz x.toList y.toList||x.toList==y.toList))
 |.gtr=>some (.bool !(lz x.toList y.toList||x.toList==y.toList))
 |.geq=>some (.bool !(lz x.toList y.toList))
 |_=>none
def gJ(op:BinOp):Value→Value→Option Value
 | .int k a,.int k' b=>match op with
  |.shl=>if b<0 then none else some (.int k (As k a b))
  |.shr=>if b<0 then none else some (.int k (dP k a b))
  |op=>if k=k' then kP op k a b else none
 |.string a,.string b=>Au op a b
 |_,_=>none
def wg:AV→Option Nat
 |.lit (.string s)=>some s.size
 |.lit (.slice none 0 0)=>some 0
 |.nils=>some 0
 |.emptyS _=>some 0
 |.list _ rows=>some rows.length
 |.listF _ rows=>some rows.length
 |.vec _ _ _ _ n=>some n
 |_=>none
theorem Sem.br{P:Program}{t:TypeId}{d:TypeDesc}(h:P.underlying t=some d)(w:World) :
  (underlying t).run P w=.ok d w:=by simp[underlying,h]
theorem Sem.run_sizeOf{P:Program}{t:TypeId}{i:TypeInfo}(h:P.info? t=some i)(w:World):(sizeOf t).run P w=.ok i.size w:=by
 simp[sizeOf,typeInfo,h]
theorem Sem.mN{P:Program}{t:TypeId}{d:TypeDesc}(h:P.underlying t=some d)(w:World):(isAgg t).run P w=.ok (oh d) w:=by
 simp[isAgg,Sem.br h];cases d<;>rfl
theorem kQ{P:Program}{t:TypeId}{n:Nat}{a:Bool}(h:eG P t=some (n,a)):∃ i d,P.info? t=some i∧P.underlying t=some d∧i.size=n∧oh d=a:=by
 unfold eG at h;split at h
 ·rename_i i d h1 g
  simp at h;exact⟨i,d,h1,g,h.1,h.2⟩
 ·cases h
theorem Hk{P:Program}{t:TypeId}{f:Nat}{k:FK}(h:pX P t f=some k) :
  ∃ d fd,P.underlying t=some (.struct d)∧d[f]? = some fd∧fd.offset=k.off∧eG P fd.type=some (k.size,k.agg):=by
 unfold pX at h;split at h
 ·rename_i d h1
  split at h
  ·rename_i fd g
   split at h
   ·rename_i n a q
    simp at h;subst h;exact⟨d,fd,h1,g,rfl,q⟩
   ·cases h
  ·cases h
 ·cases h
theorem R3{P:Program}(op:BinOp)(t:TypeId)(x y:Value)(v:Value)(h:gJ op x y=some v)(w:World):(binOp op t x y).run P w=.ok v w:=by
 unfold gJ at h;split at h
 ·rename_i k a k' b
  split at h
  ·split at h
   ·cases h
   ·rename_i hb
    cases h;simp only[binOp,Op.shift,if_neg hb,As];rfl
  ·split at h
   ·cases h
   ·rename_i hb
    cases h;simp only[binOp,Op.shift,if_neg hb,dP];rfl
  ·rename_i d g
   split at h
   ·rename_i hk
    subst hk;cases op<;>first|exact absurd rfl d|exact absurd rfl g|skip
    all_goals simp[kP]at h
    all_goals simp[binOp,Op.intArith,Op.intDiv,Op.intCmp,Op.intBits]
    all_goals first
     |exact h
     |(obtain⟨h1,q⟩:=h; simp[h1,q])
   ·cases h
 ·rename_i a b
  cases op<;>simp only[Au]at h<;>(try split at h)<;>simp at h<;>simp only[binOp,Op.stringOp]<;>first
   |(subst h; simp; done)
   |(rename_i u; subst h; rw[if_neg u]; rfl)
 ·cases h
theorem R4{P:Program}(op:BinOp)(t:TypeId)(x y:Operand)(a b:Value)(h:∀ v,gJ op a b≠some v→True)(d:(gJ op a b).isSome=true)(w:World) :
  (eqGuard op t x y a b).run P w=.ok () w:=by
 unfold gJ at d;split at d
 ·cases op<;>simp[eqGuard]<;>rfl
 ·cases op<;>simp[eqGuard]<;>rfl
 ·cases d
theorem R5{E:Env}{x:AV}{c:Value}{n:Nat}(h:wg x=some n)(d:rel E x c) :
  (∃ s,c=.string s∧s.size=n)∨∃ base cap,c=.slice base n cap:=by
 unfold wg at h;split at h
 ·simp only[rel]at d; subst d; simp at h; exact .inl ⟨_,rfl,h⟩
 ·simp only[rel]at d; subst d; simp at h; subst h; exact .inr ⟨_,_,rfl⟩
 ·simp only[rel]at d; obtain⟨b,rfl⟩:=d; simp at h; subst h; exact .inr ⟨_,_,rfl⟩
 ·simp only[rel]at d; obtain⟨b,cap,rfl,_⟩:=d; simp at h; subst h; exact .inr ⟨_,_,rfl⟩
 ·simp only[rel]at d; obtain⟨_,b,cap,rfl,_⟩:=d; simp at h; subst h; exact .inr ⟨_,_,rfl⟩
 ·simp only[rel,dO]at d; obtain⟨b,cap,rfl,_⟩:=d; simp at h; subst h; exact .inr ⟨_,_,rfl⟩
 ·simp only[rel]at d; obtain⟨⟨b,cap,rfl,_⟩,_⟩:=d; simp at h; subst h; exact .inr ⟨_,_,rfl⟩
 ·cases h
end Go.AL

namespace Go.AL
open Go
variable [Dr]
theorem jA(b o n:Nat):(Addr.mk b o none).add n=⟨b,o+n,none⟩:=by
 unfold Addr.add;split
 ·rename_i h; simp[h]
 ·rfl
theorem R6{E:Env}{as:List AV}{b o:Nat}(h:cn E as b o){i:Nat}{a:AV}(hi:as[i]? = some a) :
  ∃ v,E.w.cell? ⟨b,o+i,none⟩=some v∧dh v=true∧rel E a v:=ij.1 h i a hi
theorem pZ{E:Env}{as:List AV}{b o:Nat}(h:cn E as b o)(n:Nat):cn E (as.drop n) b (o+n):=by
 rw[ij]at *;intro i a hi;rw[pG]at hi;obtain⟨v,h1,d,g⟩:=h (n+i) a hi;exact⟨v,by rw[nZ]; exact h1,d,g⟩
theorem wh{E:Env}{as:List AV}{b o:Nat}(h:cn E as b o)(n:Nat):cn E (as.take n) b o:=by
 rw[ij]at *;intro i a hi;rw[lA]at hi;split at hi
 ·exact h i a hi
 ·cases hi
theorem sP:∀(as:List AV) (n:Nat),AV.bq as=true→AV.bq (as.drop n)=true
 | [],n,_=>by simp[AV.bq]
 |a::as,0,h=>by simpa using h
 | a::as,n+1,h=>by
  simp only[AV.bq,aB]at h;simpa using sP as n h.2
theorem wk:∀(as:List AV) (n:Nat),AV.bq as=true→AV.bq (as.take n)=true
 | [],n,_=>by simp[AV.bq]
 |a::as,0,_=>by simp[AV.bq]
 | a::as,n+1,h=>by
  simp only[AV.bq,aB]at h;simp only[zM,AV.bq,aB];exact⟨h.1,wk as n h.2⟩
theorem sQ{E:Env}:∀{as:List AV} {b o:Nat},cn E as b o →
  ∃ vs:List Value,af E as vs∧(∀ x∈vs,dh x=true)∧∀ j v,vs[j]? = some v→E.w.cell? ⟨b,o+j,none⟩=some v
 | [],b,o,_=>⟨[],by simp[af]⟩
 | a::as,b,o,h=>by
  simp only[cn]at h;obtain⟨⟨v,h1,k,q⟩,u⟩:=h;obtain⟨vs,g1,g2,g3⟩:=sQ u;refine⟨v::vs,by simp only[af]; exact⟨q,g1⟩,?_,?_⟩
  ·intro x d
   rcases bV.1 d with rfl|d
   ·exact k
   ·exact g2 x d
  ·intro j x g
   cases j with
   |zero=>simp at g; subst g; exact h1
   |succ j=>have:=g3 j x (by simpa using g); rwa [nZ,sr 1 j]at this
theorem Av{P:Program}{E:Env}{cells:List AV}{b o n:Nat}{agg:Bool}{t:TypeId}{v:AV}(q:eG P t=some (n,agg))
  (g:gx agg n cells=some v) (h:cn E cells b o):∃ c,(loadVar t ⟨b,o,none⟩).run P E.w=.ok c E.w∧rel E v c:=by
 obtain⟨i,d,hi,k,u,ha⟩:=kQ q;unfold gx at g;cases agg with
 | true =>
  simp only[if_true]at g;split at g
  ·rename_i hle
   cases g;obtain⟨vs,g1,g2,g3⟩:=sQ (wh h n);have y:vs.length=n:=by rw[←fI g1]; simp[hle]
   refine⟨.agg vs.toArray,?_,?_⟩
   ·simp only [loadVar, bW, Sem.mN k, bX, ha, if_true, Sem.run_sizeOf hi, u]
    rw[←y,run_loadCells_list (w:=E.w) ⟨b,o,none⟩ vs (fun j v B=>by rw[jA]; exact g3 j v B)];rfl
   ·simp only [rel]
    exact⟨vs.toArray,rfl,by simpa using g2,by simpa using g1⟩
  ·cases g
 | false =>
  simp only[kK,if_false]at g;obtain⟨x,h1,_,I⟩:=R6 h g;refine⟨x,?_,I⟩;simp only[loadVar,bW,Sem.mN k,bX,ha,kK,if_false,run_load];rw[show (⟨b,o,none⟩:Addr)=⟨b,o+0,none⟩ from rfl,h1]
def gK(P:Program)(t:TypeId)(x:AV)(H:List ab):Option AV :=
 match eG P t with
 | some (n,agg) =>
  match x with
  |.cptr cells=>gx agg n cells
  | .ptr id ae w row col=>match H[id]? with
   |some (.box cells)=>if ae=0∧row=0 then gx agg n (cells.drop col) else none
   |some (.vec k v rows)=>if ae=v∧k=w then (match rows[row]? with|some r=>gx agg n (r.drop col)|none=>none) else none
   |_=>none
  |_=>none
 |none=>none
theorem lM{E:Env}{k:Nat}{rs:List (List AV)}{b o:Nat}(h:cz E k rs b o){i:Nat}{r:List AV}(hi:rs[i]? = some r) :
  r.length=k∧cn E r b (o+i*k):=kO.1 h i r hi
theorem Hl{P:Program}{E:Env}(HE:au E){t:TypeId}{x v:AV}{c:Value}(d:gK P t x E.H=some v)(h:rel E x c) :
  ∃ u,(zN t c).run P E.w=.ok u E.w∧rel E v u:=by
 unfold gK at d;split at d
 case h_2=>cases d
 rename_i n agg J;split at d
 ·simp only [rel] at h
  obtain⟨_,b,o,rfl,_,O⟩:=h;obtain⟨u,q,y⟩:=Av J d O;exact⟨u,by simpa[zN,my]using q,y⟩
 ·rename_i id ae w row col
  simp only[rel]at h;split at d
  ·rename_i cells hid
   split at d
   ·rename_i I
    obtain⟨rfl,rfl⟩:=I;obtain⟨b,m,M,rfl⟩:=h.2.2 ⟨_,hid,rfl⟩;obtain⟨U,m',g,_,B⟩:=HE.obj id _ hid;rw[M]at g;cases g;have:=pZ B col;simp only[cP]at this;obtain⟨u,q,y⟩:=Av J d this;exact⟨u,by simpa[zN,my]using q,y⟩
   ·cases d
  ·rename_i k V rows hid
   split at d
   ·rename_i I
    obtain⟨rfl,rfl⟩:=I;split at d
    ·rename_i r N
     obtain⟨b,m,M,rfl⟩:=h.2.2 ⟨_,hid,rfl⟩;rcases HE.obj id _ hid with⟨g,B⟩|⟨U,m',g,_,_,_,B⟩
     ·subst B; simp at N
     ·rw [M] at g
      cases g;have:=pZ (lM B N).2 col;simp only[cP]at this;obtain⟨u,q,y⟩:=Av J d this;exact⟨u,by simpa[zN,my]using q,y⟩
    ·cases d
   ·cases d
  ·cases d
 ·cases d
theorem R7{P:Program}{E:Env}{t:TypeId}{f:Nat}{k:FK}{x v:AV}{c:Value}(hk:pX P t f=some k)
  (g:Ar k x=some v) (h:rel E x c):∃ u,(Rl t c f).run P E.w=.ok u E.w∧rel E v u:=by
 obtain⟨fs,fd,h1,B,N,O⟩:=Hk hk;obtain⟨i,d,hi,hd,U,ha⟩:=kQ O;unfold Ar at g;split at g
 ·cases g
 rename_i I;have y:∀ b o w,(fieldPlace ⟨b,o,none⟩ fd).run P w=.ok ⟨b,o+k.off,none⟩ w:=by
  intro b o w;simp only[fieldPlace,bW,Sem.run_sizeOf hi,bX,U,if_neg I,eY,jA,N]
 split at g
 ·cases g
  simp only[rel]at h;obtain⟨V,b,o,rfl,J,M⟩:=h;refine⟨.pointer (some ⟨b,o+k.off,none⟩),?_,?_⟩
  ·simp[Rl,Sem.br h1,B,my,y]
  ·simp only [rel]
   exact⟨sP _ _ V,b,o+k.off,rfl,J,pZ M _⟩
 ·cases g
  simp only[rel]at h;rename_i id ae w row col;obtain⟨⟨b,o,rfl⟩,W,h6⟩:=h;refine⟨.pointer (some ⟨b,o+k.off,none⟩),?_,?_⟩
  ·simp[Rl,Sem.br h1,B,my,y]
  ·simp only [rel]
   refine⟨⟨_,_,rfl⟩,W,fun hl=>?_⟩;obtain⟨b',n',e1,q⟩:=h6 hl;simp only[agm,aZ,Gv]at q;exact⟨b',n',e1,by simp[q.1,q.2.1,nZ]⟩
 ·cases g
theorem fX{P:Program}{t e sz d:Nat}(h:b_ P t=.slice e sz d):P.underlying t=some (.slice e)∧∃ i,P.info? e=some i∧i.size=sz∧i.bytes=d:=by
 unfold b_ at h;split at h
 ·rename_i e' h1
  split at h
  ·rename_i i g
   cases h;exact⟨h1,i,g,rfl,rfl⟩
  ·cases h
 ·split at h<;>cases h
 all_goals cases h
theorem wm{P:Program}{t n e sz:Nat}{a:Bool}(h:b_ P t=.array n e sz a):P.underlying t=some (.array n e)∧eG P e=some (sz,a):=by
 unfold b_ at h;split at h
 ·split at h<;>cases h
 ·rename_i g e' h1
  split at h
  ·rename_i m k d
   cases h;exact⟨h1,d⟩
  ·cases h
 all_goals cases h
theorem oq{P:Program}{t:Nat}(h:b_ P t=.str):P.underlying t=some .string:=by
 unfold b_ at h;split at h
 ·split at h<;>cases h
 ·split at h<;>cases h
 ·rename_i h1; exact h1
 all_goals cases h
theorem R8{P:Program}{E:Env}(HE:au E){t:TypeId}{x i v:AV}{c d:Value}
  (g:kg (b_ P t) x i=some v) (h:rel E x c) (hi:rel E i d):∃ u,(vD t c d).run P E.w=.ok u E.w∧rel E v u:=by
 unfold kg at g;split at g
 case h_2=>cases g
 rename_i k n;simp only[rel]at hi;subst hi;split at g
 ·rename_i e sz by_ w rows hk
  split at g
  ·rename_i q
   obtain⟨rfl,h0,h1⟩:=q;obtain⟨hu,ii,B,I,_⟩:=fX hk;cases y:rows[n.toNat]? with
   |none=>rw[y]at g; cases g
   | some r =>
    rw[y]at g;simp at g;subst g;simp only[rel]at h;obtain⟨O,base,cap,rfl,hle,hh⟩:=h;rcases hh with rfl|⟨b,o,rfl,J,hr⟩
    ·simp at y
    ·obtain ⟨g1, g2⟩ := lM hr y
     refine⟨.pointer (some ⟨b,o+n.toNat*w,none⟩),?_,?_⟩
     ·simp[vD,asIntOf,Sem.br hu,h0,h1,Sem.run_sizeOf B,I,jA]
     ·simp only [rel]
      exact⟨O r (eM y),b,_,rfl,J,g2⟩
  ·cases g
 ·rename_i e sz by_ ks rows hk
  split at g
  ·rename_i q
   obtain⟨rfl,h0,h1⟩:=q;cases g;obtain⟨hu,ii,B,I,_⟩:=fX hk;have h:=iC.1 h;simp only[rel,dE]at h;obtain⟨O,base,cap,rfl,hle,hh⟩:=h;have hlt:n.toNat<rows.length:=by omega
   have y:(rows.map (aJ ks))[n.toNat]? = some (aJ ks (rows.getD n.toNat [])):=by
    rw[bZ,ch,bI hlt];rfl
   rcases hh with hn|⟨b,o,rfl,J,hr⟩
   ·rw[hn]at y; simp at y
   ·obtain ⟨g1, g2⟩ := lM hr y
    refine⟨.pointer (some ⟨b,o+n.toNat*ks.length,none⟩),?_,?_⟩
    ·simp[vD,asIntOf,Sem.br hu,h0,h1,Sem.run_sizeOf B,I,jA]
    ·simp only [rel]
     exact⟨fy _ _,b,_,rfl,J,g2⟩
  ·cases g
 ·rename_i e sz by_ w id ae off m hk
  split at g
  ·rename_i q
   obtain⟨rfl,h0,h1⟩:=q;cases g;obtain⟨hu,ii,B,I,_⟩:=fX hk;simp only[rel]at h;obtain⟨⟨base,cap,rfl,hle,hb⟩,U,M⟩:=h;obtain⟨b,o,rfl⟩:=hb (by omega);refine⟨.pointer (some ⟨b,o+n.toNat*w,none⟩),?_,?_⟩
   ·simp[vD,asIntOf,Sem.br hu,h0,h1,Sem.run_sizeOf B,I,jA]
   ·simp only [rel]
    refine⟨⟨_,_,rfl⟩,U,fun hl=>?_⟩;obtain⟨g1,g2⟩:=M hl;obtain⟨a,ha,hav⟩:=U;cases N:E.loc[id]? with
    | none =>
     have:=aK ha;rw[←HE.len]at this;rw[bI this]at N;cases N
    | some l =>
     cases l with
     |none=>have:=(g1 N).1; omega
     | some bm =>
      obtain⟨V,m'⟩:=bm;obtain⟨q1,o',q2,q3⟩:=g2 V m' N;simp only[jv,aZ,Gv]at q3;refine⟨V,m',rfl,?_⟩;rw[q3.1.1,q3.1.2.1,q2 (by omega),fh];rfl
  ·cases g
 ·rename_i m e sz a id ae w row col hk
  split at g
  ·rename_i q
   cases g;obtain⟨hu,W⟩:=wm hk;obtain⟨ii,dd,B,I,h4,_⟩:=kQ W;simp only[rel]at h;obtain⟨⟨b,o,rfl⟩,U,M⟩:=h;refine⟨.pointer (some ⟨b,o+n.toNat*sz,none⟩),?_,?_⟩
   ·simp[vD,asIntOf,Sem.br hu,q.1,q.2,Sem.run_sizeOf B,h4,jA,my]
   ·simp only [rel]
    refine⟨⟨_,_,rfl⟩,U,fun hl=>?_⟩;obtain⟨V,n',e1,e2⟩:=M hl;simp only[agm,aZ,Gv]at e2;exact⟨V,n',e1,by simp[e2.1,e2.2.1,nZ]⟩
  ·cases g
 ·rename_i m e sz a cells hk
  split at g
  ·rename_i q
   cases g;obtain⟨hu,W⟩:=wm hk;obtain⟨ii,dd,B,I,h4,_⟩:=kQ W;simp only[rel]at h;obtain⟨O,b,o,rfl,J,M⟩:=h;refine⟨.pointer (some ⟨b,o+n.toNat*sz,none⟩),?_,?_⟩
   ·simp[vD,asIntOf,Sem.br hu,q.1,q.2,Sem.run_sizeOf B,h4,jA,my]
   ·simp only [rel]
    exact⟨wk _ _ (sP _ _ O),b,_,rfl,J,wh (pZ M _) _⟩
  ·cases g
 ·cases g
def jB:AV→Option Int
 |.lit (.int _ n)=>some n
 |_=>none
def fK(len:Nat)(lo hi:Option AV):Option (Nat × Nat) :=
 match (match lo with|none=>some 0|some x=>jB x),(match hi with|none=>some (len:Int)|some x=>jB x)with
 |some l,some h=>if 0≤l∧l≤h∧h≤len then some (l.toNat,h.toNat) else none
 |_,_=>none
theorem p6{E:Env}{x:AV}{c:Value}{n:Int}(h:jB x=some n)(d:rel E x c):∃ k,c=.int k n:=by
 unfold jB at h;split at h
 ·cases h
  simp only[rel]at d;exact⟨_,d⟩
 ·cases h
def Hm:List AV→Option (List G)
 | [.lit (.string s)]=>some [.s s]
 |_=>none
def p7:List (List AV)→Option (List (List G))
 | []=>some []
 | r::rs=>match Hm r,p7 rs with
  |some g,some gs=>some (g::gs)
  |_,_=>none
theorem Aw:∀{rows:List (List AV)} {gs:List (List G)},p7 rows=some gs→gs.map (aJ [.str])=rows
 | [],gs,h=>by
  simp only[p7,aZ]at h;subst h;rfl
 | r::rs,gs,h=>by
  simp only[p7]at h;split at h
  ·rename_i g k h1 d
   cases h;rw[dq,Aw d];unfold Hm at h1;split at h1
   ·cases h1; rfl
   ·cases h1
  ·cases h
def wo(w:Nat)(rows:List (List AV))(l n:Nat):AV:=match w,p7 rows with
 |1,some gs=>.listF [.str] ((gs.drop l).take n)
 |_,_=>.list w ((rows.drop l).take n)
theorem R9{E:Env}{w l n:Nat}{rows:List (List AV)}{c:Value} (h:rel E (.list w ((rows.drop l).take n)) c):rel E (wo w rows l n) c:=by
 unfold wo;split
 ·rename_i gs d
  rw[iC,Gw,Gx,Aw d];exact h
 ·exact h
def kh(P:Program)(t:TypeId)(x:AV)(lo hi mx:Option AV):Option AV :=
 match b_ P t,x with
 | .str,.lit (.string s)=>match mx,fK s.size lo hi with
  |none,some (l,h)=>some (.lit (.string (s.extract l h)))
  |_,_=>none
 | .slice _ sz _,.list w rows=>match mx with
  | none=>match fK rows.length lo hi with
   |some (l,h)=>if w=sz then some (wo w rows l (h-l)) else none
   |none=>none
  |some m=>if hi.isSome∧fK rows.length lo hi=some (0,0)∧jB m=some 0 then some .nils else none
 | .slice _ sz _,.listF ks rows=>match mx with
  | none=>match fK rows.length lo hi with
   |some (l,h)=>if ks.length=sz then some (.listF ks ((rows.drop l).take (h-l))) else none
   |none=>none
  |some m=>if hi.isSome∧fK rows.length lo hi=some (0,0)∧jB m=some 0 then some .nils else none
 | .slice _ sz _,.vec w id ae off n=>match mx with
  | none=>match fK n lo hi with
   |some (l,h)=>if w=sz then some (.vec w id ae (off+l) (h-l)) else none
   |none=>none
  |some m=>if hi.isSome∧fK n lo hi=some (0,0)∧jB m=some 0 then some .nils else none
 | .slice _ _ _,.nils=>match mx with
  |none=>if (fK 0 lo hi).isSome then some .nils else none
  |some _=>none
 | .slice _ _ _,.lit (.slice none 0 0)=>match mx with
  |none=>if (fK 0 lo hi).isSome then some (.lit (.slice none 0 0)) else none
  |some m=>if hi.isSome∧fK 0 lo hi=some (0,0)∧jB m=some 0 then some (.lit (.slice none 0 0)) else none
 |_,_=>none
theorem p8{P:Program}{E:Env}{len cap:Nat}{lo hi:Option AV}{clo q:Option Value}{l h:Nat}(isSlice:Bool)(hb:fK len lo hi=some (l,h))(hle:len≤cap)
  (h1:∀ x,lo=some x→∃ c,clo=some c∧rel E x c) (v:lo=none→clo=none)
  (I:∀ x,hi=some x→∃ c,q=some c∧rel E x c) (B:hi=none→q=none) (w:World) :
  (pH isSlice len cap clo q none).run P w=.ok (l,h,cap) w∧l≤h∧h≤len:=by
 unfold fK at hb;split at hb
 case h_2=>cases hb
 rename_i a b g u;split at hb
 case isFalse=>cases hb
 rename_i d;simp only[aZ,be]at hb;obtain⟨rfl,rfl⟩:=hb;obtain⟨y,c1,c2⟩:=d;refine⟨?_,by omega,by omega⟩;cases hi with
 | none =>
  rw[B rfl];simp at u;subst u;cases lo with
  | none =>
   rw[v rfl];simp at g;subst g;simp[pH]
  | some x =>
   obtain⟨c,rfl,d⟩:=h1 x rfl;obtain⟨k,rfl⟩:=p6 g d;simp[pH,zO,asIntOf,y,c1]
 | some z =>
  obtain⟨c,rfl,d⟩:=I z rfl;obtain⟨k,rfl⟩:=p6 u d;have g1:b≤(cap:Int):=by omega
  have g2:0≤b:=by omega
  cases lo with
  | none =>
   rw[v rfl];simp at g;subst g;simp[pH,zO,asIntOf,g1,g2]
  | some x =>
   obtain⟨c,rfl,d⟩:=h1 x rfl;obtain⟨k',rfl⟩:=p6 g d;have g4:¬ (max b 0<a):=by omega
   simp[pH,zO,asIntOf,g1,g2,y,g4]
theorem Hn{E:Env}{k:Nat}{rows:List (List AV)}{b o:Nat}(h:cz E k rows b o)(l n:Nat) :
  cz E k ((rows.drop l).take n) b (o+l*k):=by
 rw[kO]at *;intro i r hi;rw[lA]at hi;split at hi
 ·rw [pG] at hi
  have:=h (l+i) r hi
  rwa [fh,←nZ]at this
 ·cases hi
def mO(E:Env):Option AV→Option Value→Prop
 |none,none=>True
 |some x,some c=>rel E x c
 |_,_=>False
theorem Ax{E:Env}{lo:Option AV}{clo:Option Value}(h:mO E lo clo):(∀ x,lo=some x→∃ c,clo=some c∧rel E x c)∧(lo=none→clo=none):=by
 cases lo<;>cases clo<;>simp_all[mO]
theorem Ho{E:Env}{w l h cap:Nat}{rows:List (List AV)}{base:Option Addr}(g:eQ rows)(hle:rows.length≤cap)(h1:l≤h)(q:h≤rows.length)
  (u:rows=[]∨∃ b o,base=some ⟨b,o,none⟩∧E.ig b∧cz E w rows b o) :
  rel E (.list w ((rows.drop l).take (h-l))) (.slice (if cap=l then base else base.map (·.add (l*w))) (h-l) (cap-l)):=by
 simp only[rel];have hlen:((rows.drop l).take (h-l)).length=h-l:=by simp; omega
 refine⟨fun r d=>g r (vE (sv d)),_,cap-l,by rw[hlen],by rw[hlen]; omega,?_⟩;rcases Nat.eq_or_lt_of_le h1 with rfl|v
 ·left; simp
 ·right
  rcases u with rfl|⟨b,o,rfl,k,d⟩
  ·simp at q; omega
  ·refine ⟨b, o + l * w, ?_, k, Hn d l (h - l)⟩
   rw[if_neg (by omega)];simp[jA]
theorem R_{E:Env}{w id ae off n l h:Nat}{base:Option Addr}{cap:Nat}(g:rel E (.vec w id ae off n) (.slice base n cap))(h1:l≤h)(U:h≤n) :
  rel E (.vec w id ae (off+l) (h-l)) (.slice (if cap=l then base else base.map (·.add (l*w))) (h-l) (cap-l)):=by
 simp only[rel]at g⊢;obtain⟨⟨u,O,e,hle,hb⟩,y,B⟩:=g;simp only[jv]at e;obtain⟨rfl,_,rfl⟩:=e;refine⟨⟨_,_,rfl,by omega,fun V=>?_⟩,y,fun I=>?_⟩
 ·obtain ⟨b, o, rfl⟩ := hb (by omega)
  rw[if_neg (by omega)];exact⟨b,o+l*w,by simp[jA]⟩
 ·obtain ⟨g1, g2⟩ := B I
  refine⟨fun d=>?_,fun b m d=>?_⟩
  ·obtain ⟨rfl, rfl, u, e⟩ := g1 d
   simp only[jv]at e;refine⟨by omega,by omega,?_⟩;have J:h-l=0:=by omega
   have M:cap-l=0:=by omega
   rw[J,M];exact⟨_,rfl⟩
  ·obtain ⟨W, o, N, k⟩ := g2 b m d
   simp only[jv]at k;obtain⟨rfl,_,rfl⟩:=k;refine⟨by omega,?_⟩;by_cases q:m-off=l
   ·rw [if_pos q]
    exact⟨o,fun v=>by omega,by rw[agn]⟩
   ·rw [if_neg q]
    refine⟨o+l*w,fun v=>?_,by simp[jA,agn]⟩;rw[N (by omega),fh]
theorem wq{P:Program}{E:Env}{len:Nat}{lo hi:Option AV}{m:AV}{clo g:Option Value}{h:Value}
  (hb:fK len lo hi=some (0,0)) (y:hi.isSome=true) (hm:jB m=some 0)
  (h1:∀ x,lo=some x→∃ c,clo=some c∧rel E x c) (q:lo=none→clo=none)
  (B:∀ x,hi=some x→∃ c,g=some c∧rel E x c) (u:rel E m h) (cap:Nat) (w:World) :
  (pH true len cap clo g (some h)).run P w=.ok (0,0,0) w:=by
 obtain⟨k,rfl⟩:=p6 hm u;obtain⟨z,rfl⟩:=pI.1 y;obtain⟨c,rfl,d⟩:=B z rfl;unfold fK at hb;split at hb
 case h_2=>cases hb
 rename_i a b I J;split at hb
 case isFalse=>cases hb
 rename_i M;simp only[aZ,be]at hb;obtain⟨k',rfl⟩:=p6 J d;have ha:a=0:=by omega
 have v:b=0:=by omega
 subst ha; subst v;cases lo with
 | none =>
  rw[q rfl];simp[pH,zO,asIntOf]
 | some x =>
  obtain⟨c,rfl,d⟩:=h1 x rfl;obtain⟨N,rfl⟩:=p6 I d;simp[pH,zO,asIntOf]
theorem R'{P:Program}{E:Env}{t:TypeId}{x v:AV}{lo hi mx:Option AV}{c:Value}{clo chi cmx:Option Value}
  (d:kh P t x lo hi mx=some v) (q:rel E x c) (hlo:mO E lo clo) (hhi:mO E hi chi) (hmx:mO E mx cmx) :
  ∃ u,(lB t c clo chi cmx).run P E.w=.ok u E.w∧rel E v u:=by
 obtain⟨B,y⟩:=Ax hlo;obtain⟨I,J⟩:=Ax hhi;obtain⟨U,M⟩:=Ax hmx;unfold kh at d;split at d
 ·rename_i s hk
  have hu:=oq hk;simp only[rel]at q;subst q;split at d
  ·rename_i l h hb
   cases d;rw[M rfl];obtain⟨g1,g2,g3⟩:=p8 (P:=P) (E:=E) (cap:=s.size) false hb (aG _) B y I J E.w;refine⟨.string (s.extract l h),?_,by simp[rel]⟩;simp[lB,mz,Sem.br hu,g1]
  ·cases d
 ·rename_i e sz O w rows hk
  obtain⟨hu,ii,i1,i2,_⟩:=fX hk;have N:=q;simp only[rel]at q;obtain⟨V,base,cap,rfl,hle,W⟩:=q;split at d
  ·split at d
   ·rename_i l h hb
    split at d
    ·rename_i hw
     subst hw;cases d;rw[M rfl];obtain⟨g1,g2,g3⟩:=p8 (P:=P) (E:=E) (cap:=cap) true hb hle B y I J E.w;refine⟨_,?_,R9 (Ho (cap:=cap) V hle g2 g3 W)⟩;simp[lB,mz,Sem.br hu,g1,Sem.run_sizeOf i1,i2]
    ·cases d
   ·cases d
  ·rename_i m
   split at d
   ·rename_i k
    cases d;obtain⟨cm,rfl,hm⟩:=U m rfl;have g:=wq (P:=P) k.2.1 k.1 k.2.2 B y I hm cap E.w;refine⟨.slice base 0 0,?_,by simp only[rel]; exact⟨base,rfl⟩⟩;simp[lB,mz,Sem.br hu,g,Sem.run_sizeOf i1,i2]
   ·cases d
 ·rename_i e sz O ks rows hk
  obtain⟨hu,ii,i1,i2,_⟩:=fX hk;have N:=iC.1 q;simp only[rel]at N;obtain⟨V,base,cap,rfl,hle,W⟩:=N;simp only[dE]at hle q⊢;split at d
  ·split at d
   ·rename_i l h hb
    split at d
    ·rename_i hw
     subst hw;cases d;rw[M rfl];obtain⟨g1,g2,g3⟩:=p8 (P:=P) (E:=E) (cap:=cap) true hb hle B y I J E.w;have:=Ho (cap:=cap) V (by simpa using hle) g2 (by simpa using g3) W;have e:((rows.map (aJ ks)).drop l).take (h-l)=((rows.drop l).take (h-l)).map (aJ ks):=by rw[Gw,Gx]
     rw[e]at this;refine⟨_,?_,iC.2 this⟩;simp[lB,mz,Sem.br hu,g1,Sem.run_sizeOf i1,i2]
    ·cases d
   ·cases d
  ·rename_i m
   split at d
   ·rename_i k
    cases d;obtain⟨cm,rfl,hm⟩:=U m rfl;have g:=wq (P:=P) k.2.1 k.1 k.2.2 B y I hm cap E.w;refine⟨.slice base 0 0,?_,by simp only[rel]; exact⟨base,rfl⟩⟩;simp[lB,mz,Sem.br hu,g,Sem.run_sizeOf i1,i2]
   ·cases d
 ·rename_i e sz O w id ae off n hk
  obtain⟨hu,ii,i1,i2,_⟩:=fX hk;have N:=q;simp only[rel]at q;obtain⟨⟨base,cap,rfl,hle,_⟩,_,_⟩:=q;split at d
  ·split at d
   ·rename_i l h hb
    split at d
    ·rename_i hw
     subst hw;cases d;rw[M rfl];obtain⟨g1,g2,g3⟩:=p8 (P:=P) (E:=E) (cap:=cap) true hb hle B y I J E.w;refine⟨_,?_,R_ N g2 g3⟩;simp[lB,mz,Sem.br hu,g1,Sem.run_sizeOf i1,i2]
    ·cases d
   ·cases d
  ·rename_i m
   split at d
   ·rename_i k
    cases d;obtain⟨cm,rfl,hm⟩:=U m rfl;have g:=wq (P:=P) k.2.1 k.1 k.2.2 B y I hm cap E.w;refine⟨.slice base 0 0,?_,by simp only[rel]; exact⟨base,rfl⟩⟩;simp[lB,mz,Sem.br hu,g,Sem.run_sizeOf i1,i2]
   ·cases d
 ·rename_i e sz O hk
  obtain⟨hu,ii,i1,i2,_⟩:=fX hk;simp only[rel]at q;obtain⟨base,rfl⟩:=q;split at d
  ·split at d
   ·rename_i hb
    cases d;obtain⟨⟨l,h⟩,hb⟩:=pI.1 hb;rw[M rfl];obtain⟨g1,g2,g3⟩:=p8 (P:=P) (E:=E) (cap:=0) true hb (aG _) B y I J E.w;have:h=0:=by omega
    subst this;have:l=0:=by omega
    subst this;refine⟨.slice base 0 0,?_,by simp only[rel]; exact⟨base,rfl⟩⟩;simp[lB,mz,Sem.br hu,g1,Sem.run_sizeOf i1,i2]
   ·cases d
  ·cases d
 ·rename_i e sz O hk
  obtain⟨hu,ii,i1,i2,_⟩:=fX hk;simp only[rel]at q;subst q;split at d
  ·split at d
   ·rename_i hb
    cases d;obtain⟨⟨l,h⟩,hb⟩:=pI.1 hb;rw[M rfl];obtain⟨g1,g2,g3⟩:=p8 (P:=P) (E:=E) (cap:=0) true hb (aG _) B y I J E.w;have:h=0:=by omega
    subst this;have:l=0:=by omega
    subst this;refine⟨.slice none 0 0,?_,by simp only[rel]⟩;simp[lB,mz,Sem.br hu,g1,Sem.run_sizeOf i1,i2]
   ·cases d
  ·rename_i m
   split at d
   ·rename_i k
    cases d;obtain⟨cm,rfl,hm⟩:=U m rfl;have g:=wq (P:=P) k.2.1 k.1 k.2.2 B y I hm 0 E.w;refine⟨.slice none 0 0,?_,by simp only[rel]⟩;simp[lB,mz,Sem.br hu,g,Sem.run_sizeOf i1,i2]
   ·cases d
 ·cases d
end Go.AL

namespace Go.AL
open Go
variable [Dr]
def kindOk:SK→Value→Bool
 |.int k,.int k' _=>k=k'
 |.str,.string _=>true
 |.bool,.bool _=>true
 |_,_=>false
def mP:Value→Value→Bool
 |.int _ a,.int _ b=>a==b
 |.string a,.string b=>a.toList==b.toList
 |.bool a,.bool b=>a==b
 |_,_=>false
def dm:List Value→List Value→Bool
 | [],[]=>true
 |a::as,b::d=>mP a b&&dm as d
 |_,_=>false
def cA:List SK→List Value→Bool
 | [],[]=>true
 |k::ks,v::vs=>kindOk k v&&cA ks vs
 |_,_=>false
def p9(P:Program)(f:TypeId→Option (List SK)):List Field→Nat→Option (List SK)
 | [],_=>some []
 | x::d,off=>if x.name = "_" ∨ x.offset≠off then none else
  match f x.type,eG P x.type with
  |some ks,some (n,_)=>if n=ks.length then (match p9 P f d (off+n)with|some l=>some (ks++l)|none=>none) else none
  |_,_=>none
def flatK(P:Program):Nat→TypeId→Option (List SK)
 |0,_=>none
 | d+1,t=>match P.underlying t with
  |some (.int k)=>some [.int k]
  |some .string=>some [.str]
  |some .bool=>some [.bool]
  |some (.struct g)=>if P.stoodInHeld t then none else p9 P (fun t=>flatK P d t) g.toList 0
  |_=>none
abbrev sR(P:Program)(d:Nat)(g:List Field)(off:Nat):Option (List SK):=p9 P (fun t=>flatK P d t) g off
theorem Hp:∀(a b c d:List Value),a.length=c.length→dm (a++b) (c++d)=(dm a c&&dm b d)
 | [],b,[],d,_=>by simp[dm]
 | x::a,b,y::c,d,h=>by
  simp only[lC,dm,Hp a b c d (by simpa using h),ago]
 | [],_,_::_,_,h=>by simp at h
 |_::_,_,[],_,h=>by simp at h
theorem p_:∀{ks:List SK} {vs:List Value},cA ks vs=true→ks.length=vs.length
 | [],[],_=>rfl
 |_::ks,_::vs,h=>by simp only[cA,aB]at h; simp[p_ h.2]
 | [],_::_,h=>by simp[cA]at h
 |_::_,[],h=>by simp[cA]at h
theorem wu:∀{a b:List SK} {vs:List Value},cA (a++b) vs=true→cA a (vs.take a.length)=true∧cA b (vs.drop a.length)=true
 | [],b,vs,h=>by simpa[cA]using h
 |k::a,b,[],h=>by simp[cA]at h
 | k::a,b,v::vs,h=>by
  simp only[lC,cA,aB]at h;have:=wu h.2;simp only[cB,zM,cA,aB,agp];exact⟨⟨h.1,this.1⟩,this.2⟩
def isVal(P:Program)(t:TypeId)(x:Value)(vs:List Value):Prop :=
 match P.underlying t with
 |some (.struct _)=>∃ a:Array Value,x=.agg a∧a.toList=vs
 |_=>vs=[x]
theorem Ay{P:Program}{t:TypeId}{n:Nat}{agg:Bool}{ks:List SK}{d:Nat}(u:eG P t=some (n,agg))(hk:flatK P d t=some ks)(h:n=ks.length)
  (cs:Array Value) (off:Nat) (q:cA ks ((cs.toList.drop off).take n)=true) (w:World) :
  ∃ x,(part t cs off).run P w=.ok x w∧isVal P t x ((cs.toList.drop off).take n):=by
 obtain⟨i,d',h1,g,v,y⟩:=kQ u;cases d with
 |zero=>simp[flatK]at hk
 | succ d =>
  unfold flatK at hk;rw[g]at hk;have hlen:=p_ q;cases d' with
  | struct B =>
   refine⟨.agg (cs.extract off (off+n)),?_,?_⟩
   ·simp[part,Sem.mN g,oh,Sem.run_sizeOf h1,v]
   ·simp only [isVal, g]
    refine⟨_,rfl,?_⟩;simp
  | int k =>
   simp at hk;subst hk;simp at h;subst h;have:off<cs.size:=by simp at hlen; omega
   refine⟨cs[off],?_,?_⟩
   ·simp[part,Sem.mN g,oh,this]
   ·simp[isVal,g,Rm,this]
  | string =>
   simp at hk;subst hk;simp at h;subst h;have:off<cs.size:=by simp at hlen; omega
   refine⟨cs[off],?_,?_⟩
   ·simp[part,Sem.mN g,oh,this]
   ·simp[isVal,g,Rm,this]
  | bool =>
   simp at hk;subst hk;simp at h;subst h;have:off<cs.size:=by simp at hlen; omega
   refine⟨cs[off],?_,?_⟩
   ·simp[part,Sem.mN g,oh,this]
   ·simp[isVal,g,Rm,this]
  |_=>simp at hk
theorem Sa{P:Program}{t:TypeId}{d:Array Field}(h:P.underlying t=some (.struct d)):P.underlying t=some (.struct (P.fieldsOf t)):=by
 simp[agq,h]
mutual
theorem Az{P:Program}:∀(d:Nat) (t:TypeId) (ks:List SK),flatK P d t=some ks→∀(D:Nat),d≤D→∀(x y:Value) (vs us:List Value),
  isVal P t x vs→isVal P t y us→cA ks vs=true→cA ks us=true→∀ w,(iW D t x y).run P w=.ok (dm vs us) w
 |0,_,_,hk=>by simp[flatK]at hk
 | d+1,t,ks,hk=>by
  intro D hD x y vs us q u g h w;obtain⟨D,rfl⟩:∃ B,D=B+1:=⟨D-1,by omega⟩
  unfold flatK at hk;cases hu:P.underlying t with
  |none=>rw[hu]at hk; cases hk
  | some I =>
   rw[hu]at hk;cases I with
   | struct v =>
    simp only[]at hk;split at hk
    ·cases hk
    rename_i J;simp only[isVal,hu]at q u;obtain⟨a,rfl,rfl⟩:=q;obtain⟨b,rfl,rfl⟩:=u;have M:P.fieldsOf t=v:=by simp[agq,hu]
    rw[run_equalIn_struct w D t a b (Sa hu) (by simpa using J),M];have:=Hq d v.toList 0 ks hk D (by omega) a b (by simpa using g) (by simpa using h) w;simpa using this
   | int k =>
    simp at hk;subst hk;simp only[isVal,hu]at q u;subst q; subst u;simp only[cA,fH]at g h;unfold kindOk at g h;split at g<;>split at h<;>simp_all[iW,dm,mP,Sem.br hu]
   | string =>
    simp at hk;subst hk;simp only[isVal,hu]at q u;subst q; subst u;simp only[cA,fH]at g h;unfold kindOk at g h;split at g<;>split at h<;>simp_all[iW,dm,mP,Sem.br hu,beq_toListBytes]
   | bool =>
    simp at hk;subst hk;simp only[isVal,hu]at q u;subst q; subst u;simp only[cA,fH]at g h;unfold kindOk at g h;split at g<;>split at h<;>simp_all[iW,dm,mP,Sem.br hu]
   |_=>simp at hk
theorem Hq{P:Program}:∀(d:Nat) (u:List Field) (off:Nat) (ks:List SK),sR P d u off=some ks→∀(D:Nat),d≤D→∀(xs g:Array Value),
  cA ks (xs.toList.drop off)=true→cA ks (g.toList.drop off)=true→∀ w,(Rn D xs g u).run P w=.ok (dm (xs.toList.drop off) (g.toList.drop off)) w
 | d,[],off,ks,hk=>by
  intro D hD xs g J M w;simp[sR,p9]at hk;subst hk;have h1:=p_ J;have h2:=p_ M;have h:xs.toList.drop off=[]:=zP (by rw[←h1]; rfl);have v:g.toList.drop off=[]:=zP (by rw[←h2]; rfl);rw[h,v];simp[Rn,dm]
 | d,f::u,off,ks,hk=>by
  intro D hD xs g J M w;unfold sR p9 at hk;split at hk
  ·cases hk
  rename_i O;split at hk
  case h_2=>cases hk
  rename_i k1 n ag h v;split at hk
  case isFalse=>cases hk
  rename_i N;split at hk
  case h_2=>cases hk
  rename_i l e3;cases hk;have V:f.name ≠ "_" := fun e=>O (.inl e);have hoff:f.offset=off:=by
   by_cases e:f.offset=off
   ·exact e
   ·exact(O (.inr e)).elim
  obtain⟨k,B⟩:=wu J;obtain⟨q,I⟩:=wu M;rw[←N]at k B q I;obtain⟨x,px,vx⟩:=Ay v h N xs off k w;obtain⟨y,py,vy⟩:=Ay v h N g off q w;have he:=Az d f.type k1 h D hD x y _ _ vx vy k q w;have W:=Hq d u (off+n) l e3 D hD xs g (by rw[n4]at B; exact B) (by rw[n4]at I; exact I) w;have U:dm (xs.toList.drop off) (g.toList.drop off) =
    (dm ((xs.toList.drop off).take n) ((g.toList.drop off).take n)&&dm (xs.toList.drop (off+n)) (g.toList.drop (off+n))):=by
   rw[←Hp _ _ _ _ (by rw[←p_ k,←p_ q]),←n4,←n4,sw,sw]
  simp only[Rn,V,ne_eq,not_false_eq_true,if_true,bW,hoff,px,py,bX,he,U];cases dm ((xs.toList.drop off).take n) ((g.toList.drop off).take n)<;>simp[W]
end
def lN:List AV→Option (List Value)
 | []=>some []
 | .lit v::as=>match lN as with
  |some l=>some (v::l)
  |none=>none
 |_=>none
theorem wv{E:Env}:∀{as:List AV} {l vs:List Value},lN as=some l→af E as vs→vs=l
 | [],l,[],h,_=>by simp[lN]at h; exact h.symm
 | [],_,_::_,_,d=>by simp[af]at d
 |_::_,_,[],_,d=>by simp[af]at d
 | a::as,l,v::vs,h,d=>by
  simp only[af]at d;cases a<;>simp only[lN]at h<;>try cases h
  split at h
  ·rename_i u l' g
   cases h;have:=wv g d.2;have h1:=d.1;simp only[rel]at h1;rw[h1,this]
  ·cases h
def lO:Option TypeDesc→Bool
 |some (.struct _)=>true
 |_=>false
def i_(op:BinOp)(b:Bool):Option AV :=
 match op with
 |.eql=>some (.bool b)
 |.neq=>some (.bool !b)
 |_=>none
def lP:Nat:=6
def AA(P:Program)(op:BinOp)(t:TypeId)(d:Bool)(a b:Value):Option AV :=
 match a,b with
 | .bool a,.bool b=>match P.underlying t with
  |some .bool=>i_ op (a==b)
  |_=>none
 | .slice none 0 0,.slice none 0 0=>match P.underlying t with
  |some (.slice _)=>i_ op true
  |_=>none
 |.nilIface,.nilIface=>if d then (match P.underlying t with|some (.interface _)=>i_ op true|_=>none) else none
 |_,_=>none
def fY(P:Program)(op:BinOp)(t:TypeId)(d:Bool)(x y:AV):Option AV :=
 match x,y with
 | .lit a,.lit b=>match gJ op a b with
  |some v=>some (.lit v)
  |none=>AA P op t d a b
 | .agg as,.agg g=>match flatK P lP t,lN as,lN g with
  |some ks,some l,some m=>if P.eqGuardType P.depth t=false∧cA ks l=true∧cA ks m=true∧lO (P.underlying t)=true then i_ op (dm l m) else none
  |_,_,_=>none
 | .emptyS n,.lit (.slice none 0 0)=>match P.underlying t with
  |some (.slice _)=>i_ op n
  |_=>none
 | .listF _ rows,.lit (.slice none 0 0)=>match P.underlying t with
  |some (.slice _)=>if 0<rows.length then i_ op false else none
  |_=>none
 | .vec _ _ _ _ m,.lit (.slice none 0 0)=>match P.underlying t with
  |some (.slice _)=>if 0<m then i_ op false else none
  |_=>none
 | .ifc,.lit .nilIface | .lit .nilIface,.ifc=>match P.underlying t with
  |some (.interface _)=>i_ op false
  |_=>none
 | .sub _ _ j,.lit (.map none)=>match P.underlying t with
  |some (.map _ _)=>i_ op j.isNone
  |_=>none
 |_,_=>none
theorem Hr{P:Program}{t:Nat}{k:IntKind}(h:b_ P t=.int k):P.underlying t=some (.int k):=by
 unfold b_ at h;split at h
 ·split at h<;>cases h
 ·split at h<;>cases h
 ·cases h
 ·rename_i h1; cases h; exact h1
 ·cases h
 ·cases h
theorem ki{P:Program}{op:BinOp}{b:Bool}{v:AV}{t:TypeId}{x y:Operand}{c d:Value}{w:World}(h:i_ op b=some v)
  (g:(eqGuard op t x y c d).run P w=.ok () w) (he:(vF t c d).run P w=.ok b w)
  (hb:∀ op,op=.eql∨op=.neq→(binOp op t c d)=(match op with | .eql=>(do pure (.bool (← vF t c d)))|_=>(do pure (.bool (!(← vF t c d)))))) :
  ∃ u,(do eqGuard op t x y c d; binOp op t c d:Sem Value).run P w=.ok u w∧∀ E,rel E v u:=by
 unfold i_ at h;split at h
 ·cases h
  refine⟨.bool b,?_,fun E=>by simp[rel]⟩;simp only[bW,g,bX,hb .eql (.inl rfl)];simp[he]
 ·cases h
  refine⟨.bool !b,?_,fun E=>by simp[rel]⟩;simp only[bW,g,bX,hb .neq (.inr rfl)];simp[he]
 ·cases h
end Go.AL

namespace Go.AL
open Go
variable [Dr]
theorem kR{P:Program}{t:TypeId}{c d:Value}{b:Bool}{w:World} (h:∀ n,(iW (n+1) t c d).run P w=.ok b w) :
  (vF t c d).run P w=.ok b w:=h 9999
theorem Sb{P:Program}{op:BinOp}{t:TypeId}{x y:Operand} (h:((x matches .const _)||(y matches .const _))=true) (w:World) :
  (eqGuard op t x y .nilIface .nilIface).run P w=.ok () w:=by
 cases x<;>cases y<;>first
  |(cases op<;>rfl)
  |(simp at h; done)
theorem Sc{P:Program}{E:Env}{op:BinOp}{t:TypeId}{x y:Operand}{p q:Value}{v:AV}{k:Bool}
  (B:k=true→((x matches .const _)||(y matches .const _))=true) (h:AA P op t k p q=some v) :
  ∃ u,(do eqGuard op t x y p q; binOp op t p q:Sem Value).run P E.w=.ok u E.w∧rel E v u:=by
 unfold AA at h;split at h
 ·rename_i a b
  split at h
  ·rename_i hu
   obtain⟨u,h1,g⟩:=ki (P:=P) (t:=t) (x:=x) (y:=y) (c:=.bool a) (d:=.bool b) (w:=E.w) h (by cases op<;>simp[eqGuard]<;>rfl)
    (kR fun n=>by simp[iW,Sem.br hu]) (by rintro op (rfl|rfl)<;>rfl)
   exact⟨u,h1,g E⟩
  ·cases h
 ·split at h
  ·rename_i hu
   obtain⟨u,h1,g⟩:=ki (P:=P) (t:=t) (x:=x) (y:=y) (c:=.slice none 0 0) (d:=.slice none 0 0) (w:=E.w) h (by cases op<;>simp[eqGuard]<;>rfl)
    (kR fun n=>by simp[iW,Sem.br hu]) (by rintro op (rfl|rfl)<;>rfl)
   exact⟨u,h1,g E⟩
  ·cases h
 ·split at h
  ·rename_i I
   split at h
   ·rename_i ms hu
    obtain⟨u,h1,g⟩:=ki (P:=P) (t:=t) (x:=x) (y:=y) (c:=.nilIface) (d:=.nilIface) (w:=E.w) h
     (Sb (B I) _)
     (kR fun n=>by simp[iW,Sem.br hu]) (by rintro op (rfl|rfl)<;>rfl)
    exact⟨u,h1,g E⟩
   ·cases h
  ·cases h
 ·cases h
theorem Sd{P:Program}{E:Env}{op:BinOp}{t:TypeId}{x y:Operand}{a b v:AV}{c d:Value}
  {V:Bool} (W:V=true→((x matches .const _)||(y matches .const _))=true) (h:fY P op t V a b=some v) (g:rel E a c) (k:rel E b d) :
  ∃ u,(do eqGuard op t x y c d; binOp op t c d:Sem Value).run P E.w=.ok u E.w∧rel E v u:=by
 unfold fY at h;split at h
 ·rename_i p q
  simp only[rel]at g k;rw[g,k];clear g k c d;split at h
  ·rename_i u hu
   cases h;refine⟨u,?_,by simp[rel]⟩;simp only[bW];rw[R4 op t x y p q (fun _ _=>trivial) (by simp[hu])];simp only[bX];exact R3 op t p q u hu E.w
  ·exact Sc W h
 ·rename_i as bs
  split at h
  case h_2=>cases h
  rename_i ks l m h1 B h3;by_cases M:P.eqGuardType P.depth t=false∧cA ks l=true∧cA ks m=true∧lO (P.underlying t)=true
  case neg=>rw[if_neg M]at h; cases h
  rw[if_pos M]at h;obtain⟨g1,g2,g3,g4⟩:=M;simp only[rel]at g k;obtain⟨xs,rfl,_,g⟩:=g;obtain⟨I,rfl,_,k⟩:=k;have ex:=wv B g;have ey:=wv h3 k;unfold lO at g4;split at g4
  case h_2=>cases g4
  rename_i fs hu;have:=Az lP t ks h1 10000 (by decide) (.agg xs) (.agg I) l m (by simp only[isVal,hu]; exact⟨xs,rfl,ex⟩)
   (by simp only[isVal,hu]; exact⟨I,rfl,ey⟩) g2 g3 E.w
  obtain⟨u,q1,q2⟩:=ki (P:=P) (t:=t) (x:=x) (y:=y) (c:=.agg xs) (d:=.agg I) (w:=E.w) h (run_eqGuard_agg E.w op t x y xs I g1)
   (by simpa[vF,Op.maxDepth]using this) (by rintro op (rfl|rfl)<;>rfl)
  exact⟨u,q1,q2 E⟩
 ·simp only [rel] at g k
  subst k;obtain⟨b,cap,rfl,hb⟩:=g;split at h
  ·rename_i el hu
   obtain⟨u,h1,B⟩:=ki (P:=P) (t:=t) (x:=x) (y:=y) (c:=.slice b 0 cap) (d:=.slice none 0 0) (w:=E.w) h (by cases op<;>simp[eqGuard]<;>rfl)
    (kR fun n=>by cases b<;>simp[iW,Sem.br hu]<;>simpa using hb.symm) (by rintro op (rfl|rfl)<;>rfl)
   exact⟨u,h1,B E⟩
  ·cases h
 ·rename_i ks rows
  simp only[rel,dO,G.rows]at g k;subst k;obtain⟨b,cap,rfl,_,hb⟩:=g;split at h
  ·rename_i el hu
   split at h
   ·rename_i J
    rcases hb with rfl|⟨N,o',rfl,_⟩
    ·simp at J
    obtain⟨u,h1,B⟩:=ki (P:=P) (t:=t) (x:=x) (y:=y) (c:=.slice (some ⟨N,o',none⟩) rows.length cap) (d:=.slice none 0 0) (w:=E.w) h (by cases op<;>simp[eqGuard]<;>rfl)
     (kR fun n=>by simp[iW,Sem.br hu]) (by rintro op (rfl|rfl)<;>rfl)
    exact⟨u,h1,B E⟩
   ·cases h
  ·cases h
 ·rename_i m
  simp only[rel]at g k;subst k;obtain⟨⟨b,cap,rfl,_,hb⟩,_⟩:=g;split at h
  ·rename_i el hu
   split at h
   ·rename_i J
    obtain⟨N,o',rfl⟩:=hb J;obtain⟨u,h1,B⟩:=ki (P:=P) (t:=t) (x:=x) (y:=y) (c:=.slice (some ⟨N,o',none⟩) m cap) (d:=.slice none 0 0) (w:=E.w) h (by cases op<;>simp[eqGuard]<;>rfl)
     (kR fun n=>by simp[iW,Sem.br hu]) (by rintro op (rfl|rfl)<;>rfl)
    exact⟨u,h1,B E⟩
   ·cases h
  ·cases h
 ·simp only [rel] at g k
  subst k;obtain⟨O,U,rfl⟩:=g;split at h
  ·rename_i ms hu
   obtain⟨u,h1,B⟩:=ki (P:=P) (t:=t) (x:=x) (y:=y) (c:=.iface O U) (d:=.nilIface) (w:=E.w) h (by cases op<;>simp[eqGuard]<;>rfl)
    (kR fun n=>by simp[iW,Sem.br hu]) (by rintro op (rfl|rfl)<;>rfl)
   exact⟨u,h1,B E⟩
  ·cases h
 ·simp only [rel] at g k
  subst g;obtain⟨O,U,rfl⟩:=k;split at h
  ·rename_i ms hu
   obtain⟨u,h1,B⟩:=ki (P:=P) (t:=t) (x:=x) (y:=y) (c:=.nilIface) (d:=.iface O U) (w:=E.w) h (by cases op<;>simp[eqGuard]<;>rfl)
    (kR fun n=>by simp[iW,Sem.br hu]) (by rintro op (rfl|rfl)<;>rfl)
   exact⟨u,h1,B E⟩
  ·cases h
 ·rename_i id l jj
  simp only[rel]at g k;subst k;split at h
  ·rename_i kt el hu
   rcases g with⟨rfl,rfl⟩|⟨i,rfl,⟨b,rfl⟩,_⟩
   ·obtain ⟨u,h1,B⟩:=ki (P:=P) (t:=t) (x:=x) (y:=y) (c:=.map none) (d:=.map none) (w:=E.w) h (by cases op<;>simp [eqGuard]<;>rfl)
     (kR fun n=>by simp[iW,Sem.br hu]) (by rintro op (rfl|rfl)<;>rfl)
    exact⟨u,h1,B E⟩
   ·obtain ⟨u,h1,B⟩:=ki (P:=P) (t:=t) (x:=x) (y:=y) (c:=.map (some b)) (d:=.map none) (w:=E.w) h (by cases op<;>simp [eqGuard]<;>rfl)
     (kR fun n=>by simp[iW,Sem.br hu]) (by rintro op (rfl|rfl)<;>rfl)
    exact⟨u,h1,B E⟩
  ·cases h
 ·cases h
def qa(op:UnOp)(x:AV):Option AV :=
 match op,x with
 |.not,.lit (.bool b)=>some (.bool !b)
 |.neg,.lit (.int k n)=>some (.lit (.int k (k.wrap (0-n))))
 |_,_=>none
theorem Se{P:Program}{E:Env}{op:UnOp}{x v:AV}{c:Value}(h:qa op x=some v)(d:rel E x c) :
  ∃ u,(Op.unary op c).run P E.w=.ok u E.w∧rel E v u:=by
 unfold qa at h;split at h
 ·cases h
  simp only[rel]at d;subst d;exact⟨_,rfl,by simp[rel]⟩
 ·cases h
  simp only[rel]at d;subst d;exact⟨_,rfl,by simp[rel]⟩
 ·cases h
def qb(P:Program)(s d:TypeId)(x:AV):Option AV :=
 match P.underlying s,b_ P d,x with
 |some _,.int k,.lit (.int _ n)=>some (.lit (.int k (k.wrap n)))
 |some _,.str,.lit (.string b)=>some (.str b)
 |some _,.str,.lit (.int _ n)=>some (.str (Utf8.encode n))
 |_,_,_=>none
theorem Sf{P:Program}{E:Env}{s d:TypeId}{x v:AV}{c:Value}(h:qb P s d x=some v)(g:rel E x c) :
  ∃ u,(convert s d c).run P E.w=.ok u E.w∧rel E v u:=by
 unfold qb at h;split at h
 ·rename_i k n q y
  cases h;simp only[rel]at g;subst g;refine⟨_,?_,by simp only[rel]; rfl⟩;simp[convert,Sem.br q,Sem.br (Hr y),Conv.intToInt]
 ·rename_i b q y
  cases h;simp only[rel]at g;subst g;refine⟨_,?_,by simp only[rel]; rfl⟩;simp only[convert,bW,Sem.br q,Sem.br (oq y),bX];rfl
 ·rename_i k n q y
  cases h;simp only[rel]at g;subst g;refine⟨_,?_,by simp only[rel]; rfl⟩;simp only[convert,bW,Sem.br q,Sem.br (oq y),bX];rfl
 ·cases h
def mQ(k:SK)(x i:AV):Option AV :=
 match i with
 | .lit (.int _ n) =>
  match k,x with
  |.str,.lit (.string s)=>if 0≤n∧n<s.size then (match s[n.toNat]? with|some b=>some (.lit (.int .u8 b.toNat))|none=>none) else none
  |.array m _ sz agg,.agg cells=>if 0≤n∧n<m then gx agg sz (cells.drop (n.toNat*sz)) else none
  |_,_=>none
 |_=>none
theorem AB{E:Env}:∀{as:List AV} {vs:List Value} (n:Nat),af E as vs→af E (as.drop n) (vs.drop n)
 |_,_,0,h=>by simpa using h
 | [],[],n+1,_=>by simp[af]
 | [],_::_,_,h=>by simp[af]at h
 |_::_,[],_,h=>by simp[af]at h
 |a::as,v::vs,n+1,h=>by simp only[af]at h; simpa using AB n h.2
theorem AD{E:Env}:∀{as:List AV} {vs:List Value} (n:Nat),af E as vs→af E (as.take n) (vs.take n)
 |_,_,0,_=>by simp[af]
 | [],[],n+1,_=>by simp[af]
 | [],_::_,_,h=>by simp[af]at h
 |_::_,[],_,h=>by simp[af]at h
 |a::as,v::vs,n+1,h=>by simp only[af]at h; simp only[zM,af]; exact⟨h.1,AD n h.2⟩
theorem jC{E:Env}:∀{as d:List AV} {vs us:List Value},af E as vs→af E d us→af E (as++d) (vs++us)
 | [],_,[],_,_,h=>by simpa using h
 | [],_,_::_,_,h,_=>by simp[af]at h
 |_::_,_,[],_,h,_=>by simp[af]at h
 |a::as,d,v::vs,us,h,h'=>by simp only[af]at h; simp only[lC,af]; exact⟨h.1,jC h.2 h'⟩
theorem lQ{E:Env}{as:List AV}{vs:List Value}(h:af E as vs){i:Nat}{a:AV}(hi:as[i]? = some a):∃ v,vs[i]? = some v∧rel E a v:=by
 obtain⟨h1,k⟩:=lL.1 h;have g:=aK hi;have d:i<vs.length:=h1▸g;exact⟨vs[i],bI d,k i a _ hi (bI d)⟩
theorem Hs{P:Program}{E:Env}{t:TypeId}{n:Nat}{agg:Bool}{cells:List AV}{cs:Array Value}{off:Nat}{v:AV}(y:eG P t=some (n,agg))
  (h:gx agg n (cells.drop off)=some v) (g:af E cells cs.toList) (h1:∀ x∈cs.toList,dh x=true) :
  ∃ u,(part t cs off).run P E.w=.ok u E.w∧rel E v u:=by
 obtain⟨i,d,hi,k,B,ha⟩:=kQ y;unfold gx at h;cases agg with
 | true =>
  simp only[if_true]at h;split at h
  ·cases h
   refine⟨.agg (cs.extract off (off+n)),?_,?_⟩
   ·simp[part,Sem.mN k,ha,Sem.run_sizeOf hi,B]
   ·simp only [rel]
    have e:(cs.extract off (off+n)).toList=(cs.toList.drop off).take n:=by simp
    refine⟨_,rfl,?_,?_⟩
    ·rw[e]; exact fun x I=>h1 x (vE (sv I))
    ·rw[e]; exact AD n (AB off g)
  ·cases h
 | false =>
  simp only[kK,if_false]at h;rw[pG]at h;obtain⟨u,g1,g2⟩:=lQ g h;refine⟨u,?_,g2⟩;have q:cs[off]? = some u:=by simpa using g1
  simp[part,Sem.mN k,ha,q]
theorem Sg{P:Program}{E:Env}{t:TypeId}{x i v:AV}{c d:Value}(h:mQ (b_ P t) x i=some v)(g:rel E x c)(hi:rel E i d) :
  ∃ u,(Ro t c d).run P E.w=.ok u E.w∧rel E v u:=by
 unfold mQ at h;split at h
 case h_2=>cases h
 rename_i k n;simp only[rel]at hi;subst hi;split at h
 ·rename_i s hk
  have hu:=oq hk;simp only[rel]at g;subst g;split at h
  case isFalse=>cases h
  rename_i q;split at h
  case h_2=>cases h
  rename_i b hb;cases h;refine⟨.int .u8 b.toNat,?_,by simp[rel]⟩;simp[Ro,asIntOf,Sem.br hu,q.1,hb]
 ·rename_i m e sz agg cells hk
  obtain⟨hu,y⟩:=wm hk;obtain⟨ii,M,g1,g2,g3,g4⟩:=kQ y;split at h
  case isFalse=>cases h
  rename_i q;simp only[rel]at g;obtain⟨cs,rfl,h1,B⟩:=g;obtain⟨u,I,J⟩:=Hs y h B h1;refine⟨u,?_,J⟩;simp[Ro,asIntOf,Sem.br hu,q.1,q.2,Sem.run_sizeOf g1,g3,I]
 ·cases h
def AE(k:FK)(x:AV):Option AV :=
 match x with
 |.agg cells=>gx k.agg k.size (cells.drop k.off)
 |_=>none
theorem Si{P:Program}{E:Env}{t:TypeId}{f:Nat}{k:FK}{x v:AV}{c:Value}(hk:pX P t f=some k)(h:AE k x=some v)(d:rel E x c) :
  ∃ u,(agr t c f).run P E.w=.ok u E.w∧rel E v u:=by
 obtain⟨J,fd,h1,g,q,y⟩:=Hk hk;unfold AE at h;split at h
 ·simp only [rel] at d
  obtain⟨cs,rfl,g1,g2⟩:=d;obtain⟨u,B,I⟩:=Hs y h g2 g1;refine⟨u,?_,I⟩;simp[agr,Sem.br h1,g,asAgg,q,B]
 ·cases h
end Go.AL

namespace Go.AL
open Go
variable [Dr]
def ot:AV→Option (List AV)
 |.undef | .tuple _=>none
 |.agg cs=>some cs
 |.lit v=>if dh v then some [.lit v] else none
 |x=>some [x]
theorem AF{E:Env}{x:AV}{cs:List AV}{c:Value}(h:ot x=some cs)(d:rel E x c) :
  af E cs c.cells.toList∧∀ y∈c.cells.toList,dh y=true:=by
 unfold ot at h;split at h
 ·cases h
 ·cases h
 ·cases h
  simp only[rel]at d;obtain⟨a,rfl,h1,g⟩:=d;exact⟨g,h1⟩
 ·rename_i v
  split at h
  ·rename_i h1
   cases h;have B:=d;simp only[rel]at d;subst d;cases c<;>simp[dh]at h1<;>exact⟨by simp[Gy,af,rel],by simp[Gy,dh]⟩
  ·cases h
 ·rename_i h1 g q u
  cases h;have k:dh c=true∧c.cells=#[c]:=by
   cases x<;>simp only[rel]at d
   case sub=>rcases d with⟨_,rfl⟩|⟨_,_,⟨b,rfl⟩,_⟩<;>exact⟨rfl,rfl⟩
   case undef=>exact(h1 rfl).elim
   case lit v=>exact(u v rfl).elim
   case nils=>obtain⟨b,rfl⟩:=d; exact⟨rfl,rfl⟩
   case list=>obtain⟨_,b,cap,rfl,_⟩:=d; exact⟨rfl,rfl⟩
   case listF=>simp only[dO]at d; obtain⟨b,cap,rfl,_⟩:=d; exact⟨rfl,rfl⟩
   case agg as=>exact(q as rfl).elim
   case tuple as=>exact(g as rfl).elim
   case cptr=>obtain⟨_,b,o,rfl,_⟩:=d; exact⟨rfl,rfl⟩
   case ptr=>obtain⟨⟨b,o,rfl⟩,_⟩:=d; exact⟨rfl,rfl⟩
   case vec=>obtain⟨⟨b,o,rfl,_⟩,_⟩:=d; exact⟨rfl,rfl⟩
   case map=>obtain⟨⟨b,rfl⟩,_⟩:=d; exact⟨rfl,rfl⟩
   case clo=>obtain⟨cs,rfl,_⟩:=d; exact⟨rfl,rfl⟩
   case ifc=>obtain⟨t,v,rfl⟩:=d; exact⟨rfl,rfl⟩
   case emptyS=>obtain⟨b,cap,rfl,_⟩:=d; exact⟨rfl,rfl⟩
  rw[k.2];exact⟨by simp only[af]; exact⟨d,trivial⟩,by simpa using k.1⟩
def ow(place:Nat→Option (Nat × Nat))(cells:List AV):List (Nat × AV)→Option (List AV)
 | []=>some cells
 | (i,v)::rest=>match place i,ot v with
  |some (off,size),some cs=>if cs.length=size∧off+cs.length≤cells.length then ow place (cells.take off++cs++cells.drop (off+cs.length)) rest else none
  |_,_=>none
theorem Ht(cs:Array Value):∀(l:List Value) (off k:Nat) (cells:Array Value),off+k+l.length≤cells.size →
  (l.zipIdx k).foldl (fun cs (p : Value × Nat) => cs.setIfInBounds (off + p.2) p.1) cells =
   (cells.toList.take (off+k)++l++cells.toList.drop (off+k+l.length)).toArray
 | [],off,k,cells,_=>by simp
 | v::l,off,k,cells,h=>by
  simp only[List.zipIdx_cons,List.foldl_cons];have h':off+(k+1)+l.length≤(cells.setIfInBounds (off+k) v).size:=by simp at h⊢; omega
  rw[Ht cs l off (k+1) _ h'];congr 1;apply jx;intro i;simp only[Array.toList_setIfInBounds,eX,lD,mA,lA,pG,dN,fi,cB,kL];simp at h;by_cases c1:i<off+k
  ·have d : i < min (off + k) cells.size := by omega
   have g:i<min (off+(k+1)) cells.size:=by omega
   have B:¬ off+k=i:=by omega
   have u:i<off+(k+1):=by omega
   have q:i<min (off+k) cells.size+(l.length+1):=by omega
   have y:i<min (off+(k+1)) cells.size+l.length:=by omega
   simp[d,g,B,u,q,y,c1]
  ·by_cases c2 : i = off + k
   ·subst c2
    have d:¬ off+k<min (off+k) cells.size:=by omega
    have g:off+k<min (off+(k+1)) cells.size:=by omega
    have u:off+k<off+(k+1):=by omega
    have q:off+k<min (off+k) cells.size+(l.length+1):=by omega
    have y:off+k<min (off+(k+1)) cells.size+l.length:=by omega
    have I:off+k-min (off+k) cells.size=0:=by omega
    have J:off+k<cells.size:=by omega
    simp[d,g,u,q,y,I,J]
   ·by_cases M : i < off + k + 1 + l.length
    ·have d : ¬ i < min (off + k) cells.size := by omega
     have g:¬ i<min (off+(k+1)) cells.size:=by omega
     have q:i<min (off+k) cells.size+(l.length+1):=by omega
     have y:i<min (off+(k+1)) cells.size+l.length:=by omega
     have I:i-min (off+k) cells.size=(i-min (off+(k+1)) cells.size)+1:=by omega
     simp[d,g,q,y,I]
    ·have d : ¬ i < min (off + k) cells.size + (l.length + 1) := by omega
     have g:¬ i<min (off+(k+1)) cells.size+l.length:=by omega
     have B:off+k+(l.length+1)+(i-(min (off+k) cells.size+(l.length+1)))=i:=by omega
     have u:off+(k+1)+l.length+(i-(min (off+(k+1)) cells.size+l.length))=i:=by omega
     have q:¬ off+k=i:=by omega
     simp[d,g,B,u,q]
theorem sS{E:Env}{place:Nat→Option (Nat × Nat)}:∀{parts:List (Nat × AV)} {cparts:List (Nat × Value)} {cells:List AV} {cs:Array Value} {out:List AV},
  ow place cells parts=some out→af E cells cs.toList→(∀ x∈cs.toList,dh x=true) →
  parts.map (·.1)=cparts.map (·.1)→af E (parts.map (·.2)) (cparts.map (·.2)) →
  ∃ o,ags place cs cparts=some o∧af E out o.toList∧∀ x∈o.toList,dh x=true
 | [],[],cells,cs,out,h,g,h1,_,_=>by
  simp only[ow,aZ]at h;subst h;exact⟨cs,rfl,g,h1⟩
 | [],_::_,_,_,_,_,_,_,hm,_=>by simp at hm
 |_::_,[],_,_,_,_,_,_,hm,_=>by simp at hm
 | (i,v)::ps,(j,c)::N,cells,cs,out,h,g,h1,hm,k=>by
  simp only[dq,Gz]at hm;obtain⟨rfl,hm⟩:=hm;simp only[dq,af]at k;simp only[ow]at h;split at h
  case h_2=>cases h
  rename_i off size us B I;split at h
  case isFalse=>cases h
  rename_i J;obtain⟨g1,g2⟩:=AF I k.1;have u:=fI g1;have y:=fI g;have O:us.length=c.cells.size:=by simpa using u
  have M:cells.length=cs.size:=by simpa using y
  have q:(c.cells.zipIdx.foldl (fun cs (x:Value × Nat)=>cs.setIfInBounds (off+x.2) x.1) cs) =
    (cs.toList.take off++c.cells.toList++cs.toList.drop (off+c.cells.toList.length)).toArray:=by
   rw[←Array.foldl_toList,Array.toList_zipIdx];have:=Ht cs c.cells.toList off 0 cs (by simp; omega);simpa using this
  simp only[ags,B];rw[if_neg (by simp; omega)];refine sS (cells:=cells.take off++us++cells.drop (off+us.length)) h ?_ ?_ hm k.2
  ·rw [q]
   simp only[];refine jC (jC (AD off g) g1) ?_;rw[u];exact AB _ g
  ·rw [q]
   intro x d;simp only[cS]at d;rcases d with(d|d)|d
   ·exact h1 x (sv d)
   ·exact g2 x d
   ·exact h1 x (vE d)
def Hu(P:Program)(t:TypeId):Option (List (Nat × Nat)) :=
 match P.underlying t with
 |some (.struct d)=>d.toList.mapM fun fd=>(eG P fd.type).map fun p=>(fd.offset,p.1)
 |_=>none
theorem kS{P:Program}{t:TypeId}{z:List Value}(h:dS P t=some z) :
  ∃ i v,P.info? t=some i∧i.zero=some v∧v.cells.toList=z∧∀ x∈z,dh x=true:=by
 unfold dS at h;split at h
 ·rename_i i hi
  split at h
  ·rename_i v d
   split at h
   ·rename_i g
    cases h;exact⟨i,v,hi,d,rfl,cO.1 g⟩
   ·cases h
  ·cases h
 ·cases h
theorem kT{P:Program}{t:TypeId}{i:TypeInfo}{v:Value}(hi:P.info? t=some i)(d:i.zero=some v)(w:World):(zeroValue t).run P w=.ok v w:=by
 simp[zeroValue,typeInfo,hi,d]
theorem Hv{P:Program}{w:World}:∀(g:List Field) (pl:List (Nat × Nat)),(g.mapM fun fd=>(eG P fd.type).map fun p=>(fd.offset,p.1))=some pl →
  (g.mapM fun(f:Field)=>(do pure (f.offset,←sizeOf f.type):Sem (Nat × Nat))).run P w=.ok pl w
 | [],pl,h=>by simp at h; subst h; simp
 | f::g,pl,h=>by
  simp only[Rp,Option.bind_eq_bind,Option.pure_def,Option.bind_eq_some_iff,dM]at h;obtain⟨x,⟨⟨n,a⟩,h1,rfl⟩,l,k,q⟩:=h;cases q;obtain⟨i,d,g1,g2,g3,g4⟩:=kQ h1;have:=Hv (w:=w) g l k;simp only[Rp,bW,Sem.run_sizeOf g1,bX,eY,g3];rw[this];rfl
def AG(P:Program)(t:TypeId)(parts:List (Nat × AV)):Option AV :=
 match dS P t with
 | some z=>match Hu P t with
  |some pl=>(ow (fun i=>pl[i]?) (z.map .lit) parts).map .agg
  | none=>match b_ P t with
   |.array _ _ sz _=>(ow (fun i=>some (i*sz,sz)) (z.map .lit) parts).map .agg
   |_=>none
 |none=>none
theorem Sj{P:Program}{E:Env}{t:TypeId}{parts:List (Nat × AV)}{cparts:List (Nat × Value)}{v:AV}(h:AG P t parts=some v)
  (hm:parts.map (·.1)=cparts.map (·.1)) (g:af E (parts.map (·.2)) (cparts.map (·.2))) :
  ∃ u,(Rq t cparts.toArray).run P E.w=.ok u E.w∧rel E v u:=by
 unfold AG at h;split at h
 case h_2=>cases h
 rename_i z J;obtain⟨i,k,q,z2,z3,z4⟩:=kS J;split at h
 ·rename_i pl d
  unfold Hu at d;split at d
  case h_2=>cases d
  rename_i y hu;simp only[dM]at h;obtain⟨out,ho,rfl⟩:=h;obtain⟨o,g1,g2,g3⟩:=sS (cs:=k.cells) ho (by rw[z3]; exact mM z) (by rw[z3]; exact z4) hm g;refine⟨.agg o,?_,by simp only[rel]; exact⟨o,rfl,g3,g2⟩⟩;have B:(y.mapM fun(f:Field)=>(do pure (f.offset,←sizeOf f.type):Sem (Nat × Nat))).run P E.w=.ok pl.toArray E.w:=by
   have:=Hv (w:=E.w) y.toList pl d;rw[Array.mapM_eq_mapM_toList,Sem.run_map,this];rfl
  simp only[Rq,bW,kT q z2,bX,Sem.br hu];rw[B];simp only[bX];have e:(fun(x:Nat)=>(pl.toArray)[x]?)=fun(i:Nat)=>pl[i]? := by funext i; simp
  rw[e,g1];rfl
 ·split at h
  case h_2=>cases h
  rename_i n e sz O hk;obtain⟨hu,I⟩:=wm hk;obtain⟨U,V,M,W,N,q4⟩:=kQ I;simp only[dM]at h;obtain⟨out,ho,rfl⟩:=h;obtain⟨o,g1,g2,g3⟩:=sS (cs:=k.cells) ho (by rw[z3]; exact mM z) (by rw[z3]; exact z4) hm g;refine⟨.agg o,?_,by simp only[rel]; exact⟨o,rfl,g3,g2⟩⟩;simp only[Rq,bW,kT q z2,bX,Sem.br hu,Sem.run_sizeOf M,N,g1];rfl
def chunk(sz:Nat):Nat→List AV→List (List AV)
 |0,_=>[]
 |n+1,l=>l.take sz::chunk sz n (l.drop sz)
theorem sT(sz:Nat):∀(n:Nat) (l:List AV),(chunk sz n l).length=n
 |0,_=>rfl
 |n+1,l=>by simp[chunk,sT sz n]
theorem AH(sz:Nat):∀(n:Nat) (l:List AV),AV.bq l=true→eQ (chunk sz n l)
 |0,_,_=>by intro r d; simp[chunk]at d
 | n+1,l,h=>by
  intro r d;simp only[chunk,bV]at d;rcases d with rfl|d
  ·exact wk _ _ h
  ·exact AH sz n _ (sP _ _ h) r d
theorem Hw{E:Env}(sz:Nat):∀(n:Nat) (l:List AV) (b o:Nat),l.length=n*sz→cn E l b o→cz E sz (chunk sz n l) b o
 |0,_,_,_,_,_=>by simp[chunk,cz]
 | n+1,l,b,o,d,h=>by
  simp only[chunk,cz];have:sz≤l.length:=by rw[d,fh]; omega
  refine⟨by simp; omega,wh h sz,Hw sz n _ b (o+sz) (by simp[d,fh]) (pZ h sz)⟩
theorem AI{E:Env}{as:List AV}{cs:Array Value}{b:Nat}{el:TypeId}{fr:Nat × Nat}(hb:E.w.heap[b]? = some (.cells cs el fr))(d:af E as cs.toList)
  (h1:∀ x∈cs.toList,dh x=true):cn E as b 0:=by
 rw[ij];intro i a hi;obtain⟨v,g1,g2⟩:=lQ d hi;refine⟨v,?_,h1 v (eM g1),g2⟩;simp only[cP,su,hb];simpa using g1
end Go.AL

namespace Go.AL
open Go
variable [Dr]
theorem wx(v:Value):v.oneCell'=dh v:=by cases v<;>rfl
theorem setRow_size(w:World)(g:Nat)(cs:Array Value):(w.setRow g cs).heap.size=w.heap.size:=by simp[agt]
theorem setRow_other(w:World)(g:Nat)(cs:Array Value)(x:Nat)(h:x≠g):(w.setRow g cs).heap[x]? = w.heap[x]? := by
 simp only[agt];rw[Array.getElem?_modify];split
 ·rename_i e; exact(h e.symm).elim
 ·rfl
structure Src (P:Program) (E:Env) (sz:Nat) (rows:List (List AV)) (xt:TypeId) (x:Value) (news:List Value):Prop where
 len:∀ w,(GA x).run P w=.ok rows.length w
 cells:∀ w,(∀ b o,b<E.w.heap.size→w.cell? ⟨b,o,none⟩=E.w.cell? ⟨b,o,none⟩)→(gH sz rows.length x).run P w=.ok news.toArray w
 rel:af E rows.flatten news
 one:∀ v∈news,dh v=true
 wide:∀ r∈rows,r.length=sz
 closed:eQ rows
 kind:∃ d,P.underlying xt=some d∧∀ k,d≠.int k
theorem Src.length{P:Program}{E:Env}{sz:Nat}{rows:List (List AV)}{xt:TypeId}{x:Value}{news:List Value}(h:Src P E sz rows xt x news):news.length=rows.length*sz:=by
 rw[←fI h.rel];have:∀(l:List (List AV)),(∀ r∈l,r.length=sz)→l.flatten.length=l.length*sz:=by
  intro l d
  induction l with
  |nil=>simp
  |cons a l g=>simp[g (fun r k=>d r (by simp[k])),d a (by simp),fh,sr]
 exact this rows h.wide
theorem wy{E:Env}{k:Nat}:∀{rows:List (List AV)} {b o:Nat},cz E k rows b o→cn E rows.flatten b o
 | [],_,_,_=>by simp[cn]
 | r::rows,b,o,h=>by
  simp only[cz]at h;obtain⟨h1,d,g⟩:=h;have q:=wy g;rw[ij]at *;intro i a hi;simp only[pJ,eX]at hi;split at hi
  ·exact d i a hi
  ·rename_i u
   obtain⟨v,g1,g2,g3⟩:=q (i-r.length) a hi;refine⟨v,?_,g2,g3⟩;rw[←g1];congr 2;omega
theorem wz{E:Env}{k:Nat}:∀{rows:List (List AV)} {b o:Nat},(∀ r∈rows,r.length=k)→cn E rows.flatten b o→cz E k rows b o
 | [],_,_,_,_=>by simp[cz]
 | r::rows,b,o,hk,h=>by
  simp only[cz];have d:=hk r (by simp);refine⟨d,?_,?_⟩
  ·have := wh h r.length
   simpa using this
  ·have := pZ h r.length
   simp at this;rw[d]at this;exact wz (fun x g=>hk x (by simp[g])) this
def kl(sz:Nat)(x:AV)(H:List ab):Option (List (List AV)) :=
 match x with
 |.nils | .lit (.slice none 0 0)=>some []
 |.emptyS _=>some []
 |.list w rows=>if w=sz then some rows else none
 |.listF ks rows=>if ks.length=sz then some (rows.map (aJ ks)) else none
 | .vec w id ae off n=>match H[id]? with
  |some (.vec k v rows)=>if w=sz∧k=w∧v=ae∧off+n≤rows.length then some ((rows.drop off).take n) else none
  |_=>none
 |.lit (.string s)=>if sz=1 then some (s.data.toList.map fun b=>[.lit (.int .u8 b.toNat)]) else none
 |_=>none
theorem Hx{α β:Type}(f:α→β):∀(l:List α),(l.map fun b=>[f b]).flatten=l.map f
 | []=>rfl
 |a::l=>by simp[Hx f l]
theorem wA{P:Program}{E:Env}{sz:Nat}{rows:List (List AV)}{b o cap:Nat}(d:cz E sz rows b o)(hb:b<E.w.heap.size) :
  ∃ news,af E rows.flatten news∧(∀ v∈news,dh v=true) ∧
   ∀ w,(∀ b o,b<E.w.heap.size→w.cell? ⟨b,o,none⟩=E.w.cell? ⟨b,o,none⟩)→(gH sz rows.length (.slice (some ⟨b,o,none⟩) rows.length cap)).run P w=.ok news.toArray w:=by
 obtain⟨vs,g1,g2,g3⟩:=sQ (wy d);refine⟨vs,g1,g2,fun w hw=>?_⟩;refine run_firstCells_some (P:=P) w sz rows.length ⟨b,o,none⟩ rows.length cap vs ?_ ?_
 ·rw [← fI g1]
  have:∀(l:List (List AV)) (o:Nat),cz E sz l b o→l.flatten.length=l.length*sz:=by
   intro l
   induction l with
   |nil=>intros; simp
   | cons a l g =>
    intro o h;simp only[cz]at h;simp[g _ h.2.2,h.1,fh,sr]
  exact this rows o d
 ·intro j v k
  rw[jA,hw b _ hb];exact g3 j v k
theorem Sk{P:Program}{E:Env}(HE:au E){sz:Nat}{x:AV}{c:Value}{rows:List (List AV)}{xt:TypeId}(h:kl sz x E.H=some rows)(g:rel E x c)
  (hk:∃ d,P.underlying xt=some d∧∀ k,d≠.int k):∃ news,Src P E sz rows xt c news:=by
 unfold kl at h;split at h
 ·cases h
  simp only[rel]at g;obtain⟨base,rfl⟩:=g;refine⟨[],⟨fun w=>rfl,fun w _=>?_,by simp[af],by simp,by simp,(by intro r g; cases g),hk⟩⟩;cases base<;>simp[gH,loadCells,loadCellsFrom]
 ·cases h
  simp only[rel]at g;subst g;exact⟨[],⟨fun w=>rfl,fun w _=>by simp[gH],by simp[af],by simp,by simp,(by intro r g; cases g),hk⟩⟩
 ·cases h
  simp only[rel]at g;obtain⟨base,cap,rfl,_⟩:=g;refine⟨[],⟨fun w=>rfl,fun w _=>?_,by simp[af],by simp,by simp,(by intro r g; cases g),hk⟩⟩;cases base<;>simp[gH,loadCells,loadCellsFrom]
 ·rename_i w rows'
  split at h
  case isFalse=>cases h
  rename_i hw;subst hw;cases h;simp only[rel]at g;obtain⟨B,base,cap,rfl,hle,M⟩:=g;rcases M with rfl|⟨b,o,rfl,I,q⟩
  ·refine ⟨[], ⟨fun w => rfl, fun w _ => ?_, by simp [af], by simp, by simp, (by intro r g; cases g), hk⟩⟩
   cases base<;>simp[gH,loadCells,loadCellsFrom]
  ·obtain ⟨news, g1, g2, g3⟩ := wA (P := P) (cap := cap) q I.1
   exact⟨news,⟨fun w=>rfl,g3,g1,g2,fun r g=>by
    obtain⟨i,hi⟩:=mB g;exact(lM q hi).1,B,hk⟩⟩
 ·rename_i ks V
  split at h
  case isFalse=>cases h
  rename_i hw;subst hw;cases h;have g:=iC.1 g;generalize V.map (aJ ks)=rows at g;simp only[rel]at g;obtain⟨B,base,cap,rfl,hle,M⟩:=g;rcases M with rfl|⟨b,o,rfl,I,q⟩
  ·refine ⟨[], ⟨fun w => rfl, fun w _ => ?_, by simp [af], by simp, by simp, (by intro r g; cases g), hk⟩⟩
   cases base<;>simp[gH,loadCells,loadCellsFrom]
  ·obtain ⟨news, g1, g2, g3⟩ := wA (P := P) (cap := cap) q I.1
   exact⟨news,⟨fun w=>rfl,g3,g1,g2,fun r g=>by
    obtain⟨i,hi⟩:=mB g;exact(lM q hi).1,B,hk⟩⟩
 ·rename_i w id ae off n
  split at h
  case h_2=>cases h
  rename_i k v rows' hid;split at h
  case isFalse=>cases h
  rename_i W;obtain⟨rfl,rfl,rfl,hle⟩:=W;cases h;simp only[rel]at g;obtain⟨⟨base,cap,rfl,hcap,_⟩,_,h6⟩:=g;obtain⟨q1,q2⟩:=h6 ⟨_,hid,rfl⟩;have u:((rows'.drop off).take n).length=n:=by simp; omega
  rcases HE.obj id _ hid with⟨y,N⟩|⟨b,m,y,N,e3,e4,e5⟩
  ·obtain ⟨rfl, rfl, base', e⟩ := q1 y
   subst N;refine⟨[],⟨fun w=>by rw[u]; rfl,fun w _=>?_,by simp[af],by simp,by simp,(by intro r g; simp at g),hk⟩⟩;cases base<;>simp[gH,loadCells,loadCellsFrom]
  ·obtain ⟨p1, o, p2, O⟩ := q2 b m y
   simp only[jv]at O;obtain⟨rfl,_,rfl⟩:=O;by_cases hm:off<m
   ·rw [p2 hm]
    have J:=Hn e5 off n;simp only[cP]at J;obtain⟨news,g1,g2,g3⟩:=wA (P:=P) (cap:=m-off) J (HE.lt id b m y).1;rw[u]at g3;refine⟨news,⟨fun w=>by rw[u]; rfl,by rw[u]; exact g3,g1,g2,fun r g=>?_,fun r g=>e4 r (vE (sv g)),hk⟩⟩;obtain⟨i,hi⟩:=mB g;exact(lM J hi).1
   ·have hz : n = 0 := by omega
    subst hz;refine⟨[],⟨fun w=>by rw[u]; rfl,fun w _=>?_,by simp[af],by simp,by simp,(by intro r g; simp at g),hk⟩⟩;simp[gH,loadCells,loadCellsFrom]
 ·rename_i s
  split at h
  case isFalse=>cases h
  rename_i hs;subst hs;cases h;simp only[rel]at g;subst g;refine⟨s.data.toList.map fun b=>.int .u8 b.toNat,⟨fun w=>by simp[GA],fun w _=>?_,?_,?_,?_,?_,hk⟩⟩
  ·simp only [dE, kL, gH]
   have:s.extract 0 s.data.size=s:=by
    have:=ByteArray.extract_zero_size (b:=s);exact this
   rw[this,←Rs];rfl
  ·rw [Hx]
   have:=mM (E:=E) (s.data.toList.map fun b=>.int .u8 b.toNat);rw[List.map_map]at this;exact this
  ·intro v U; simp at U; obtain⟨b,_,rfl⟩:=U; rfl
  ·intro r g; simp at g; obtain⟨b,_,rfl⟩:=g; rfl
  ·intro r g; simp at g; obtain⟨b,_,rfl⟩:=g; simp[AV.bq,AV.closed]
 ·cases h
def qc(P:Program)(t xt:TypeId)(s x:AV)(H:List ab):Option (AV × List ab) :=
 match b_ P t with
 | .slice e sz d =>
  match dS P e,(match b_ P xt with | .slice _ _ _ | .str=>true|_=>false),kl sz x H with
  | some z,true,some new =>
   if z.length=sz∧new.length≤1048576∧d≤1048576 then
    match s with
    |.nils | .lit (.slice none 0 0)=>some (.vec sz H.length 0 0 new.length,H++[.vec sz 0 new])
    | .vec w id ae off n=>match H[id]? with
     | some (.vec k v rows) =>
      if k=w∧w=sz∧v=ae∧off=0∧n=rows.length∧rows.length+new.length≤1048576 then
       some (.vec w id (ae+1) 0 (n+new.length),H.set id (.vec k (ae+1) (rows++new)))
      else none
     |_=>none
    |_=>none
   else none
  |_,_,_=>none
 |_=>none
theorem AJ{P:Program}{w w':World}{t xt ty e:TypeId}{i:TypeInfo}{sz:Nat}{base:Option Addr}{n cap m:Nat}{x:Value}{d:TypeDesc}
  (q:P.underlying t=some (.slice e)) (u:P.underlying xt=some d) (_hd:∀ k,d≠.int k) (hi:P.info? e=some i) (v:i.size=sz)
  (y:(GA x).run P w=.ok m w) (h:n+m≤cap) {news:List Value} (B:(gH sz m x).run P w=.ok news.toArray w)
  (g:(match base with|some a=>storeCells (a.add (n*sz)) news|none=>(pure ():Sem Unit)).run P w=.ok () w') :
  (lE #[t,xt] ty #[.slice base n cap,x]).run P w=.ok (.slice base (n+m) cap) w':=by
 cases base with
 | none =>
  simp at g;subst g;simp[lE,run_underlying q,run_underlying u,sizeOf,typeInfo,hi,v,y,h,B]
 | some a =>
  simp only[]at g;simp[lE,run_underlying q,run_underlying u,sizeOf,typeInfo,hi,v,y,h,B,g]
theorem Hy{P:Program}{w:World}{t xt ty e:TypeId}{i:TypeInfo}{z:Value}{sz:Nat}{base:Option Addr}{n cap m:Nat}{x:Value}{d:TypeDesc}
  (q:P.underlying t=some (.slice e)) (u:P.underlying xt=some d) (N:∀ k,d≠.int k) (hi:P.info? e=some i) (v:i.size=sz) (y:i.zero=some z)
  (B:(GA x).run P w=.ok m w) (g:cap<n+m) {olds news:List Value}
  (ho:(gH sz n (.slice base n cap)).run P w.drew=.ok olds.toArray w.drew)
  (I:(gH sz m x).run P w.drew=.ok news.toArray w.drew)
  (h:n+m≤1048576) (hb:i.bytes≤1048576) :
  ∃ C,n+m≤C∧(lE #[t,xt] ty #[.slice base n cap,x]).run P w =
   .ok (.slice (some ⟨w.heap.size,0,none⟩) (n+m) C) (w.drew.alloc (.cells (olds++news++(vG z.cells (C-(n+m))).toList).toArray e)):=by
 have h1:¬ (n+m≤cap):=by omega
 have J:¬ (9223372036854775807<((n:Int)+(m:Int))):=by omega
 have O:GB (n+m) cap*i.bytes≤281474976710656:=growslice_fits g (by
  have:=agu h hb;omega)
 have M:¬ (281474976710656<GB (n+m) cap*i.bytes):=by omega
 refine⟨grownCap w (n+m) cap e,?_,?_⟩
 ·simp[grownCap,agv]
 ·simp [lE, run_underlying q, run_underlying u, sizeOf, typeInfo, zeroValue, hi, y, v, B, h1, J, M, agw, I, ho, newRow, grownCap]
  congr 2;apply eZ;simp
def cL(E:Env)(v:AV)(H':List ab)(u:Value)(w':World):Prop :=
 ∃ d r',rel { w:=w',H:=H',loc:=d,X:=E.X.re r' } v u∧au { w:=w',H:=H',loc:=d,X:=E.X.re r' }∧E.le { w:=w',H:=H',loc:=d,X:=E.X.re r' }
theorem Hz{E:Env}{as:List AV}{cs:Array Value}{vs tl:List Value}{b:Nat}{el:TypeId}{fr:Nat × Nat}(hb:E.w.heap[b]? = some (.cells cs el fr))(d:af E as vs)
  (g:cs.toList=vs++tl) (h1:∀ x∈vs,dh x=true):cn E as b 0:=by
 rw[ij];intro i a hi;obtain⟨v,g1,g2⟩:=lQ d hi;refine⟨v,?_,h1 v (eM g1),g2⟩;simp only[cP,su,hb];have:cs.toList[i]? = some v:=by rw[g,cK (aK g1)]; exact g1
 simpa using this
theorem Sl{E:Env}{as:List AV}{cs:Array Value}{b:Nat}{el:TypeId}{fr:Nat × Nat}(hb:E.w.heap[b]? = some (.cells cs el fr))(k:cn E as b 0) :
  af E as (cs.toList.take as.length)∧(∀ x∈cs.toList.take as.length,dh x=true)∧as.length≤cs.size:=by
 obtain⟨vs,g1,g2,g3⟩:=sQ k;have q:=fI g1;have g:∀(j:Nat) v,vs[j]? = some v→cs.toList[j]? = some v:=by
  intro j v d;have:=g3 j v d;simpa[su,hb]using this
 have u:vs.length≤cs.size:=by
  rcases Nat.eq_zero_or_pos vs.length with h|h
  ·omega
  ·have := g (vs.length - 1) vs[vs.length - 1] (bI (by omega))
   have:=aK this;simp at this;omega
 have:cs.toList.take as.length=vs:=by
  rw[q];apply jx;intro j;rw[lA];split
  ·rename_i d
   rw[g j vs[j] (bI d),bI d]
  ·rename_i d
   rw[ly (by omega)]
 rw[this];exact⟨g1,g2,by omega⟩
theorem qd{sz:Nat}:∀{l:List (List AV)},(∀ r∈l,r.length=sz)→l.flatten.length=l.length*sz
 | [],_=>by simp
 |a::l,h=>by simp[qd (l:=l) (fun r d=>h r (by simp[d])),h a (by simp),fh,sr]
theorem AK{E:Env}{k:Nat}{rows:List (List AV)}{b o:Nat}(h:cz E k rows b o):∀ r∈rows,r.length=k:=by
 intro r d;obtain⟨i,hi⟩:=mB d;exact(lM h hi).1
theorem HA(w:World)(o:Obj):Ext w (w.drew.alloc o) :=
 ⟨by show w.heap.size ≤ (w.heap.push o).size; simp, fun b hb => by
  show (w.heap.push o)[b]? = _
  simp[vB,agl hb],⟨rfl,rfl,rfl,by first|exact fun _=>aG _|exact fun _=>eL _ _⟩⟩
theorem HB(w:World)(o:Obj):(w.drew.alloc o).heap[w.heap.size]? = some o:=by
 show (w.heap.push o)[w.heap.size]? = _
 simp
theorem AM{E E':Env}{sz m C:Nat}{rows:List (List AV)}{vals:List Value}{rest:List Value}{b:Nat}{e:TypeId}(q:∀ a c,rel E a c→rel E' a c)
  (hb:E'.w.heap[b]? = some (.cells (vals++rest).toArray e (0,0))) (d:af E rows.flatten vals) (h1:∀ x∈vals,dh x=true)
  (hw:∀ r∈rows,r.length=sz) (hlen:rows.length=m) (hC:m≤C) (g:rest.length=(C-m)*sz) :
  isRow E'.w b (C*sz)∧cz E' sz rows b 0:=by
 have h:af E' rows.flatten vals:=by
  rw[lL]at *;exact⟨d.1,fun i a v ha k=>q a v (d.2 i a v ha k)⟩
 refine⟨⟨_,e,hb,?_⟩,wz hw (Hz hb h (by simp; rfl) h1)⟩;have:=fI d;rw[qd hw,hlen]at this;simp only[zQ,fi,←this,g,←fh];congr 1;omega
theorem HC{P:Program}{e:TypeId}{z:List Value}(h:dS P e=some z):∃ i v,P.info? e=some i∧i.zero=some v∧v.cells.toList=z :=
 let ⟨i,v,h1,d,g,_⟩:=kS h
 ⟨i,v,h1,d,g⟩
theorem HD{E:Env}(HE:au E){sz C m:Nat}{new:List (List AV)}{vals rest:List Value}{e:TypeId}(g:af E new.flatten vals)(h1:∀ x∈vals,dh x=true)
  (hw:∀ r∈new,r.length=sz) (u:eQ new) (hm:new.length=m) (hC:m≤C) (q:rest.length=(C-m)*sz) :
  cL E (.vec sz E.H.length 0 0 m) (E.H++[.vec sz 0 new]) (.slice (some ⟨E.w.heap.size,0,none⟩) m C) (E.w.drew.alloc (.cells (vals++rest).toArray e)):=by
 have h:=HA E.w (.cells (vals++rest).toArray e);have hle:=Env.iY (o:=.vec sz 0 new) (l:=some (E.w.heap.size,C)) HE.len h (fun b n hb=>by cases hb; exact aG _);have hblk:=HB E.w (.cells (vals++rest).toArray e);have k:=AM (E':=E.push (E.w.drew.alloc (.cells (vals++rest).toArray e)) (.vec sz 0 new) (some (E.w.heap.size,C))) (fun a c g=>bP hle a g) hblk g h1 hw hm hC q;refine⟨E.loc++[some (E.w.heap.size,C)],E.X.r,?_,au.push HE h (fun b n hb=>?_) ?_,hle⟩
 ·simp only [rel]
  refine⟨⟨_,_,rfl,hC,fun _=>⟨_,_,rfl⟩⟩,⟨.vec sz 0 new,by simp,rfl,fun v y=>by simp[ab.aF]at y; omega⟩,fun _=>⟨fun d=>?_,fun b M d=>?_⟩⟩
  ·rw[←HE.len]at d; simp at d
  ·rw [← HE.len] at d
   simp at d;obtain⟨rfl,rfl⟩:=d;exact⟨by omega,0,fun _=>by simp,by simp⟩
 ·cases hb
  exact⟨aG _,by show _<(E.w.heap.push _).size; simp⟩
 ·simp only [aN]
  right;refine⟨E.w.heap.size,C,?_,k.1,by omega,u,k.2⟩;simp only[Env.push];rw[←HE.len];simp
theorem Sm{E:Env}(HE:au E){sz:Nat}(base:Option Addr) :
  cL E (.vec sz E.H.length 0 0 0) (E.H++[.vec sz 0 []]) (.slice base 0 0) E.w:=by
 have hle:=Env.iY (o:=.vec sz 0 []) (l:=none) HE.len (Ext.refl E.w) (fun b n hb=>by cases hb);refine⟨E.loc++[none],E.X.r,?_,au.push HE (Ext.refl _) (fun b n hb=>by cases hb) ?_,hle⟩
 ·simp only [rel]
  refine⟨⟨_,_,rfl,aG _,fun h=>by omega⟩,⟨.vec sz 0 [],by simp,rfl,fun v g=>by simp[ab.aF]at g; omega⟩,fun _=>⟨fun _=>⟨trivial,trivial,base,rfl⟩,fun b M d=>?_⟩⟩;rw[←HE.len]at d;simp at d
 ·simp only [aN]
  left;refine⟨?_,trivial⟩;simp only[Env.push];rw[←HE.len];simp
theorem AN(P:Program)(a:Addr)(w:World):(storeCells a []).run P w=.ok () w:=rfl
theorem AO{P:Program}{E:Env}{sz:Nat}{rows:List (List AV)}{xt:TypeId}{x:Value}{news:List Value}(h:Src P E sz rows xt x news)(d:rows=[]):news=[]:=by
 have:=h.length;rw[d]at this;simp at this;exact this
theorem HF{P:Program}{E:Env}(HE:au E){t xt ty e:TypeId}{sz v:Nat}{z:List Value}{new:List (List AV)}{base:Option Addr}{k:Value}{news:List Value}
  (hk:b_ P t=.slice e sz v) (V:dS P e=some z) (g:Src P E sz new xt k news) (hb1:new.length≤1048576) (hb2:v≤1048576) (N:z.length=sz) :
  ∃ u w',(lE #[t,xt] ty #[.slice base 0 0,k]).run P E.w=.ok u w'∧cL E (.vec sz E.H.length 0 0 new.length) (E.H++[.vec sz 0 new]) u w':=by
 obtain⟨hu,i,hi,J,hby⟩:=fX hk;obtain⟨i',zv,y,O,U⟩:=HC V;rw[hi]at y;cases y;obtain⟨d,B,I⟩:=g.kind;cases h:new with
 | nil =>
  have W:=AO g h;subst W;subst h;refine⟨.slice base (0+0) 0,E.w,AJ (m:=0) hu B I hi J (g.len E.w) (aG _) (g.cells E.w (fun _ _ _=>rfl)) ?_,Sm HE base⟩;cases base with
  |none=>rfl
  |some a=>exact AN P _ _
 | cons r rs =>
  rw[←h];have hpos:0<new.length:=by rw[h]; simp
  have M:∀ b o,b<E.w.heap.size→E.w.drew.cell? ⟨b,o,none⟩=E.w.cell? ⟨b,o,none⟩:=fun _ _ _=>rfl;obtain⟨C,hC,q⟩:=Hy (P:=P) (w:=E.w) (ty:=ty) (base:=base) (n:=0) (cap:=0) (m:=new.length) (x:=k) (olds:=[]) hu B I hi J O (g.len E.w) (by omega)
   (by cases base<;>simp[gH,loadCells,loadCellsFrom]) (g.cells _ M) (by omega) (by omega)
  simp only[cP,kM]at q;refine⟨_,_,q,HD HE g.rel g.one g.wide g.closed rfl (by omega) ?_⟩;simp only[kL,size_zeroCells];rw[←N,←U];simp
theorem Sn{P:Program}{xt:TypeId}(h:(match b_ P xt with | .slice _ _ _ | .str=>true|_=>false)=true):∃ d,P.underlying xt=some d∧∀ k,d≠.int k:=by
 split at h
 ·rename_i hk
  exact⟨_,(fX hk).1,by simp⟩
 ·rename_i hk
  exact⟨_,oq hk,by simp⟩
 ·cases h
theorem kU{α:Type}{l:List α}{i:Nat}{x:α}(h:l[i]? = some x):l.set i x=l:=by
 apply jx;intro j;rw[dN];split
 ·rename_i e
  subst e;rw[h];split
  ·rfl
  ·rename_i d; exact(d (aK h)).elim
 ·rfl
theorem Sp{P:Program}{E:Env}(HE:au E){t xt ty e id ae:TypeId}{sz by_:Nat}{z:List Value}{rows new:List (List AV)}{c cx:Value}{news:List Value}
  (hk:b_ P t=.slice e sz by_) (hz:dS P e=some z) (g:Src P E sz new xt cx news) (hb1:rows.length+new.length≤1048576) (hb2:by_≤1048576) (hzl:z.length=sz)
  (hid:E.H[id]? = some (.vec sz ae rows)) (k:rel E (.vec sz id ae 0 rows.length) c) :
  ∃ u w',(lE #[t,xt] ty #[c,cx]).run P E.w=.ok u w' ∧
   cL E (.vec sz id (ae+1) 0 (rows.length+new.length)) (E.H.set id (.vec sz (ae+1) (rows++new))) u w':=by
 obtain⟨hu,i,hi,hs,hby⟩:=fX hk;obtain⟨i',zv,hi',hz1,hz2⟩:=HC hz;rw[hi]at hi';cases hi';obtain⟨d,hd1,hd2⟩:=g.kind;simp only[rel]at k;obtain⟨⟨base,cap,rfl,hcap,hbase⟩,hpast,hlive⟩:=k;obtain⟨q1,q2⟩:=hlive ⟨_,hid,rfl⟩;have hlt:=aK hid;have N:(∀ v,(ab.vec sz (ae+1) (rows++new)).aF = some v→∀ u,(ab.vec sz ae rows).aF = some u→u<v):=by
  intro v J u hu; simp[ab.aF]at J hu; omega
 have U:∀ v u,(ab.vec sz (ae+1) (rows++new)).aF = some v→(ab.vec sz ae rows).aF = some u→u≤v:=by
  intro v u J hu; simp[ab.aF]at J hu; omega
 have O:(ab.vec sz ae rows).aF = none→(ab.vec sz (ae+1) (rows++new)).aF = none:=by simp[ab.aF]
 have hpast':∀(w':World) loc',Env.past { w:=w',H:=E.H.set id (.vec sz (ae+1) (rows++new)),loc:=loc',X:=E.X } id (ae+1):=fun w' loc' =>
  ⟨_,bB hlt,rfl,fun v J=>by simp[ab.aF]at J; omega⟩
 have hcells:∀ b o,b<E.w.heap.size→E.w.drew.cell? ⟨b,o,none⟩=E.w.cell? ⟨b,o,none⟩:=fun _ _ _=>rfl;by_cases I:rows.length+new.length≤cap
 ·-- in place
  rcases HE.obj id _ hid with⟨y,V⟩|⟨b,M,y,V,e3,e4,W⟩
  ·obtain ⟨hn0, _, base', ee⟩ := q1 y
   simp only[jv]at ee;obtain⟨rfl,_,rfl⟩:=ee;have hnil:new=[]:=by
    cases new with
    |nil=>rfl
    |cons a l=>simp at I
   have hnews:=AO g hnil;subst hnews;subst hnil;subst V;refine⟨_,E.w,AJ (m:=0) hu hd1 hd2 hi hs (g.len E.w) (aG _) (g.cells E.w (fun _ _ _=>rfl)) ?_,E.loc.set id none,E.X.r,?_,?_,?_⟩
   ·cases base with
    |none=>rfl
    |some a=>exact AN P _ _
   ·simp only [rel]
    refine⟨⟨_,_,rfl,aG _,fun h=>by simp at h⟩,hpast' _ _,fun _=>⟨fun _=>⟨by simp,trivial,base,by simp⟩,fun b M q=>?_⟩⟩;rw[bB (by rw[HE.len]; exact hlt)]at q;cases q
   ·refine au.kf HE hid (aG _) (fun _ _ _ => rfl) (fun _ _ h => by cases h) (.inr N) U (fun _ => O) ?_
    simp only[aN];left;exact⟨by rw[bB (by rw[HE.len]; exact hlt)],by simp⟩
   ·exact Env.iZ hid HE.len (aG _) (fun _ _ _=>rfl) (fun _ _ h=>by cases h) (.inr N) U (fun _=>O)
  ·obtain ⟨_, o, p2, p3⟩ := q2 b M y
   simp only[jv,fS]at p3;obtain⟨rfl,_,rfl⟩:=p3;obtain⟨cur,el,hblk,hsize⟩:=V;have hcurl:=Sl hblk (wy W);have hwide:=AK W;have hflat:=qd hwide;have hnl:=g.length;have hstore:∃ w',(storeCells ((Addr.mk b o none).add (rows.length*sz)) news).run P E.w=.ok () w'∧w'.heap.size=E.w.heap.size∧dJ E.w w'∧(∀ x,x≠b→w'.heap[x]? = E.w.heap[x]?) ∧
     w'.heap[b]? = some (.cells (cur.toList.take (rows.length*sz)++news++cur.toList.drop (rows.length*sz+news.length)).toArray el (0,0)):=by
    by_cases hM:0<cap
    ·rw [p2 hM, jA, pL, cP]
     have hfit2:rows.length*sz+0+news.length≤cur.size:=by
      rw[hnl,hsize,n5,←fh];exact sx _ I
     have hst:=run_storeCells_at P b (rows.length*sz) el news 0 cur E.w hblk hfit2 (fun v J=>by rw[wx]; exact g.one v J);refine⟨_,hst,setRow_size _ _ _,⟨rfl,rfl,rfl,by first|exact fun _=>aG _|exact fun _=>eL _ _⟩,fun x B=>setRow_other _ _ _ _ B,?_⟩;rw[setRow_heap _ _ _ _ _ _ hblk];simp
    ·have h0 : cap = 0 := by omega
     have hn0:new=[]:=by
      cases new with
      |nil=>rfl
      |cons a l=>simp at I; omega
     have:=AO g hn0;subst this;refine⟨E.w,AN P _ _,rfl,⟨rfl,rfl,rfl,by first|exact fun _=>aG _|exact fun _=>eL _ _⟩,fun _ _=>rfl,?_⟩;rw[hblk];simp
   obtain⟨w',hst,hsz,henv,hother,hb'⟩:=hstore;have hloc:E.loc.set id (some (b,cap))=E.loc:=kU y;have hle:E.le { w:=w',H:=E.H.set id (.vec sz (ae+1) (rows++new)),loc:=E.loc.set id (some (b,cap)),X:=E.X } :=
    Env.iZ hid HE.len (by omega) (fun x B hne=>hother x (fun ex=>hne cap (by rw[ex]; exact y))) (fun b' n' h=>by cases h; exact .inr ⟨cap,y⟩) (.inr N) U (fun _=>O)
   refine⟨_,w',AJ (m:=new.length) hu hd1 hd2 hi hs (g.len E.w) I (g.cells E.w (fun _ _ _=>rfl)) hst,E.loc.set id (some (b,cap)),E.X.r,?_,?_,hle⟩
   ·simp only [rel]
    refine⟨⟨_,_,rfl,I,fun _=>⟨b,o,rfl⟩⟩,hpast' _ _,fun _=>⟨fun q=>?_,fun b' M q=>?_⟩⟩
    ·rw[hloc,y]at q; cases q
    ·rw [hloc, y] at q
     simp only[aZ,be]at q;obtain⟨rfl,rfl⟩:=q;exact⟨by omega,o,fun h=>by simpa using p2 (by simpa using h),by simp⟩
   ·refine au.kf HE hid (by omega) (fun x B hne => hother x (fun ex => hne cap (by rw [ex]; exact y))) (fun b' n' h => by cases h; exact .inr ⟨cap, y⟩) (.inr N) U (fun _ => O) ?_
    simp only[aN];right;refine⟨b,cap,by rw[hloc]; exact y,?_,by simpa using I,?_,?_⟩
    ·refine ⟨_, el, hb', ?_⟩
     have hfit2:rows.length*sz+news.length≤cap*sz:=by rw[hnl,←fh]; exact sx _ I
     simp only[zQ,fi,lD,n9,kL,hsize];omega
    ·intro r k
     rcases cS.1 k with h|h
     ·exact e4 r h
     ·exact g.closed r h
    ·have hall:∀ r∈rows++new,r.length=sz:=by
      intro r k;rcases cS.1 k with h|h
      ·exact hwide r h
      ·exact g.wide r h
     refine wz hall (Hz hb' (vs:=cur.toList.take (rows.length*sz)++news) (tl:=cur.toList.drop (rows.length*sz+news.length)) ?_ (by simp) ?_)
     ·rw [vH]
      refine jC ?_ (du hle _ g.rel);have:=du hle _ hcurl.1;rw[hflat]at this;exact this
     ·intro x B
      rcases cS.1 B with h|h
      ·exact hcurl.2.1 x (by rw[hflat]; exact h)
      ·exact g.one x h
 ·-- it moves
  have holds:∃ olds:List Value,af E rows.flatten olds∧(∀ x∈olds,dh x=true)∧(∀ r∈rows,r.length=sz)∧eQ rows ∧
    (gH sz rows.length (.slice base rows.length cap)).run P E.w.drew=.ok olds.toArray E.w.drew:=by
   rcases HE.obj id _ hid with⟨y,V⟩|⟨b,M,y,V,e3,e4,W⟩
   ·subst V
    refine⟨[],by simp[af],by simp,by simp,(fun r k=>by cases k),?_⟩;cases base<;>simp[gH,loadCells,loadCellsFrom]
   ·obtain ⟨_, o, p2, p3⟩ := q2 b M y
    simp only[jv,fS]at p3;obtain⟨rfl,_,rfl⟩:=p3;by_cases hM:0<cap
    ·have ho := p2 hM
     rw[pL]at ho;subst ho;obtain⟨vs,g1,g2,g3⟩:=wA (P:=P) (cap:=cap) W (HE.lt id b cap y).1;exact⟨vs,g1,g2,AK W,e4,g3 _ hcells⟩
    ·have:rows=[]:=by
      cases rows with
      |nil=>rfl
      |cons a l=>simp at hcap; omega
     subst this;exact⟨[],by simp[af],by simp,by simp,fun r k=>by(cases k),by simp[gH,loadCells,loadCellsFrom]⟩
  obtain⟨olds,g1,g2,g3,g4,g5⟩:=holds;obtain⟨C,hC,hrun⟩:=Hy (P:=P) (w:=E.w) (ty:=ty) (base:=base) (n:=rows.length) (cap:=cap) (m:=new.length) (x:=cx) (olds:=olds) hu hd1 hd2 hi hs hz1 (g.len E.w) (by omega)
   g5 (g.cells _ hcells) (by omega) (by omega)
  generalize hrest:(vG zv.cells (C-(rows.length+new.length))).toList=rest at hrun;have hrl:rest.length=(C-(rows.length+new.length))*sz:=by
   rw[←hrest];simp only[kL,size_zeroCells];rw[←hzl,←hz2];simp
  generalize hw':E.w.drew.alloc (.cells (olds++news++rest).toArray e)=w' at hrun;have hext:Ext E.w w':=by rw[←hw']; exact HA _ _
  have hblk:w'.heap[E.w.heap.size]? = some (.cells (olds++news++rest).toArray e (0,0)):=by rw[←hw']; exact HB _ _
  have hltw:E.w.heap.size<w'.heap.size:=(Array.getElem?_eq_some_iff.1 hblk).1;have hle:E.le { w:=w',H:=E.H.set id (.vec sz (ae+1) (rows++new)),loc:=E.loc.set id (some (E.w.heap.size,C)),X:=E.X } :=
   Env.iZ hid HE.len hext.size (fun x B _=>hext.same x B) (fun b n h=>by cases h; exact .inl (aG _)) (.inr N) U (fun _=>O)
  have hall:∀ r∈rows++new,r.length=sz:=by
   intro r k;rcases cS.1 k with h|h
   ·exact g3 r h
   ·exact g.wide r h
  have hlocs:(E.loc.set id (some (E.w.heap.size,C)))[id]? = some (some (E.w.heap.size,C)):=bB (by rw[HE.len]; exact hlt);have hrow:=AM (E:=E) (E':={ w:=w',H:=E.H.set id (.vec sz (ae+1) (rows++new)),loc:=E.loc.set id (some (E.w.heap.size,C)),X:=E.X })
   (rows:=rows++new) (vals:=olds++news) (m:=rows.length+new.length) (fun a c k=>bP hle a k) hblk
   (by rw[vH]; exact jC g1 g.rel)
   (by intro x B; rcases cS.1 B with h|h; exact g2 x h; exact g.one x h) hall (by simp) hC hrl
  refine⟨_,w',hrun,E.loc.set id (some (E.w.heap.size,C)),E.X.r,?_,?_,hle⟩
  ·simp only [rel]
   refine⟨⟨_,_,rfl,hC,fun _=>⟨_,_,rfl⟩⟩,hpast' _ _,fun _=>⟨fun q=>?_,fun b' M q=>?_⟩⟩
   ·rw[hlocs]at q; cases q
   ·rw [hlocs] at q
    simp only[aZ,be]at q;obtain⟨rfl,rfl⟩:=q;exact⟨by omega,0,fun _=>by simp,by simp⟩
  ·refine au.kf HE hid hext.size (fun x B _ => hext.same x B) (fun b n h => by cases h; exact .inl ⟨aG _, hltw⟩) (.inr N) U (fun _ => O) ?_
   simp only[aN];right;refine⟨E.w.heap.size,C,hlocs,hrow.1,by simpa using hC,?_,hrow.2⟩;intro r k;rcases cS.1 k with h|h
   ·exact g4 r h
   ·exact g.closed r h
theorem Sq{P:Program}{E:Env}(HE:au E){t xt ty:TypeId}{s x v:AV}{H':List ab}{c B:Value}(h:qc P t xt s x E.H=some (v,H'))
  (d:rel E s c) (O:rel E x B):∃ u w',(lE #[t,xt] ty #[c,B]).run P E.w=.ok u w'∧cL E v H' u w':=by
 unfold qc at h;split at h
 case h_2=>cases h
 rename_i e sz V hk;split at h
 case h_2=>cases h
 rename_i z new q M J;split at h
 case isFalse=>cases h
 rename_i U;obtain⟨h1,I,y⟩:=U;obtain⟨news,g⟩:=Sk (P:=P) HE J O (Sn M);split at h
 ·cases h
  simp only[rel]at d;obtain⟨base,rfl⟩:=d;exact HF HE hk q g I y h1
 ·cases h
  simp only[rel]at d;subst d;exact HF HE hk q g I y h1
 ·split at h
  case h_2=>cases h
  rename_i k v rows hid;split at h
  case isFalse=>cases h
  rename_i N;obtain⟨rfl,rfl,rfl,rfl,rfl,hb⟩:=N;cases h;exact Sp HE hk q g hb y h1 hid d
 ·cases h
end Go.AL

namespace Go.AL
open Go
variable [Dr]
theorem HG{w w':World}{b off:Nat}{cur:Array Value}{vals:List Value}{el:TypeId}{fr:Nat × Nat}(hblk:w.heap[b]? = some (.cells cur el fr))
  (g:w'.heap[b]? = some (.cells (cur.toList.take off++vals++cur.toList.drop (off+vals.length)).toArray el fr)) (k:off+vals.length≤cur.size) (i:Nat) :
  w'.cell? ⟨b,i,none⟩=if off≤i∧i<off+vals.length then vals[i-off]? else w.cell? ⟨b,i,none⟩:=by
 simp only[su,hblk,g,Option.isSome_none,kK,if_false,List.getElem?_toArray,eX,fi,lD,kL,
  lA,pG]
 have h1:min off cur.size=off:=by omega
 rw[h1];by_cases c1:i<off
 ·have c2 : ¬ (off ≤ i ∧ i < off + vals.length) := by omega
  have d:i<off+vals.length:=by omega
  rw[if_neg c2];simp[c1,d]
 ·by_cases c2 : i < off + vals.length
  ·have d : off ≤ i ∧ i < off + vals.length := by omega
   simp[c1,c2,d]
  ·have d : ¬ (off ≤ i ∧ i < off + vals.length) := by omega
   have h:off+vals.length+(i-(off+vals.length))=i:=by omega
   rw[if_neg c2,if_neg d,h];simp
theorem AP{E E':Env}{b o col:Nat}{cur:Array Value}{as cs:List AV}{vals:List Value}{el:TypeId}{fr:Nat × Nat}(d:∀ a c,rel E a c→rel E' a c)
  (hblk:E.w.heap[b]? = some (.cells cur el fr))
  (q:E'.w.heap[b]? = some (.cells (cur.toList.take (o+col)++vals++cur.toList.drop (o+col+vals.length)).toArray el fr)) (k:o+col+vals.length≤cur.size)
  (g:cn E as b o) (h:af E cs vals) (h1:∀ x∈vals,dh x=true) (u:col+cs.length≤as.length) :
  cn E' (as.take col++cs++as.drop (col+cs.length)) b o:=by
 have hlen:=fI h;rw[ij]at g⊢;intro i a hi;rw[HG hblk q k];simp only[eX,fi,lD,lA,pG]at hi;have hm:min col as.length=col:=by omega
 rw[hm]at hi;by_cases c1:i<col
 ·have c2 : i < col + cs.length := by omega
  rw[if_pos c2,if_pos c1,if_pos c1]at hi;obtain⟨v,g1,g2,g3⟩:=g i a hi;exact⟨v,by rw[if_neg (by omega)]; exact g1,g2,d _ _ g3⟩
 ·by_cases c2 : i < col + cs.length
  ·rw [if_pos c2, if_neg c1] at hi
   obtain⟨v,g1,g2⟩:=lQ h hi;refine⟨v,?_,h1 v (eM g1),d _ _ g2⟩;rw[if_pos (by omega),←g1];congr 1;omega
  ·rw [if_neg c2] at hi
   have:col+cs.length+(i-(col+cs.length))=i:=by omega
   rw[this]at hi;obtain⟨v,g1,g2,g3⟩:=g i a hi;exact⟨v,by rw[if_neg (by omega)]; exact g1,g2,d _ _ g3⟩
theorem Env.lR{E:Env}{w':World}{id b n:Nat}{o o':ab}(HE:au E)(hid:E.H[id]? = some o) (g:E.loc[id]? = some (some (b,n)))
  (k:∀ v,o'.aF = some v→o.aF = some v) (J:w'.heap.size=E.w.heap.size) (y:∀ x,x≠b→w'.heap[x]? = E.w.heap[x]?) (B:dJ E.w w':=by first|exact⟨rfl,rfl,rfl,by first|exact fun _=>aG _|exact fun _=>eL _ _⟩|assumption|exact Ext.env (by assumption)) (hmm:o.cZ=none∨o'.cZ=o.cZ∨o'.aF = none:=by first|exact .inl rfl|exact .inr (.inl rfl)|exact .inr (.inr rfl)|exact .inl (ab.v7 (by assumption))|assumption) (M:o.born=true→o'.born=true:=by first|exact fun _=>rfl|exact fun h=>h|assumption) :
  E.le { w:=w',H:=E.H.set id o',loc:=E.loc,X:=E.X }:=by
 have h:=Env.iZ (w':=w') (o':=o') (l:=some (b,n)) hid HE.len (by omega) (fun x _ I=>y x (fun e=>I n (by rw[e]; exact g))) (fun N O h=>by cases h; exact .inr ⟨n,g⟩)
  (.inl fun v d => ⟨k v d, g⟩) (fun v u d hu => by rw [k v d] at hu; cases hu; exact aG _) (fun _ q => by
   cases d:o'.aF with
   |none=>rfl
   |some v=>rw[k v d]at q; cases q) B hmm
 rwa [kU g]at h
theorem au.set{E:Env}{w':World}{id b n:Nat}{o o':ab}(HE:au E)(hid:E.H[id]? = some o) (d:E.loc[id]? = some (some (b,n)))
  (k:∀ v,o'.aF = some v→o.aF = some v) (J:w'.heap.size=E.w.heap.size) (y:∀ x,x≠b→w'.heap[x]? = E.w.heap[x]?)
  (ho:aN { w:=w',H:=E.H.set id o',loc:=E.loc,X:=E.X } id o') (B:dJ E.w w':=by first|exact⟨rfl,rfl,rfl,by first|exact fun _=>aG _|exact fun _=>eL _ _⟩|assumption|exact Ext.env (by assumption)) (hlab:o.label=none:=by first|rfl|assumption) (M:o'.label=none:=by first|rfl|assumption) (N:o.born=true→o'.born=true:=by first|exact fun _=>rfl|exact fun h=>h|assumption):au { w:=w',H:=E.H.set id o',loc:=E.loc,X:=E.X }:=by
 have h:=au.kf (w':=w') (o':=o') (l:=some (b,n)) HE hid (by omega) (fun x _ I=>y x (fun e=>I n (by rw[e]; exact d))) (fun O U h=>by cases h; exact .inr ⟨n,d⟩)
  (.inl fun v g => ⟨k v g, d⟩) (fun v u g hu => by rw [k v g] at hu; cases hu; exact aG _) (fun _ q => by
   cases g:o'.aF with
   |none=>rfl
   |some v=>rw[k v g]at q; cases q) (by rw[kU d]; exact ho) B
 rwa [kU d]at h
def putCells(as cs:List AV)(col:Nat):List AV:=as.take col++cs++as.drop (col+cs.length)
def qe(P:Program)(t:TypeId)(x v:AV)(H:List ab):Option (List ab) :=
 match eG P t,ot v,x with
 | some (n,_),some cs,.ptr id ae w row col =>
  if cs.length=n then
   match H[id]? with
   |some (.box cells)=>if ae=0∧row=0∧col+n≤cells.length then some (H.set id (.box (putCells cells cs col))) else none
   | some (.vec k u rows) =>
    if ae=u∧k=w∧AV.bq cs=true then
     match rows[row]? with
     |some r=>if col+n≤r.length then some (H.set id (.vec k u (rows.set row (putCells r cs col)))) else none
     |none=>none
    else none
   |_=>none
  else none
 |_,_,_=>none
theorem HH{as cs:List AV}{col:Nat}(h:col+cs.length≤as.length):(putCells as cs col).length=as.length:=by
 simp[putCells]; omega
theorem AQ:∀(a b:List AV),AV.bq (a++b)=(AV.bq a&&AV.bq b)
 | [],b=>by simp[AV.bq]
 |x::a,b=>by simp[AV.bq,AQ a b,ago]
theorem HI{P:Program}{E:Env}(HE:au E){t:TypeId}{x v:AV}{c d:Value}{H':List ab}(h:qe P t x v E.H=some H')(O:rel E x c)(B:rel E v d) :
  ∃ w',(GD t c d).run P E.w=.ok () w'∧au { w:=w',H:=H',loc:=E.loc,X:=E.X }∧E.le { w:=w',H:=H',loc:=E.loc,X:=E.X }:=by
 unfold qe at h;split at h
 case h_2=>cases h
 rename_i n ag cs id ae w row col ht hcs;obtain⟨i,dd,hi,hd,hs,ha⟩:=kQ ht;obtain⟨hrel,h1⟩:=AF hcs B;split at h
 case isFalse=>cases h
 rename_i hn;have hlen:=fI hrel;have hsz:d.cells.size=n:=by rw[←hn,hlen]; simp
 simp only[rel]at O;obtain⟨_,hpast,hlive⟩:=O;split at h
 ·rename_i cells hid
  split at h
  case isFalse=>cases h
  rename_i hc;obtain⟨rfl,rfl,hcol⟩:=hc;cases h;obtain⟨b,m,I,rfl⟩:=hlive ⟨_,hid,rfl⟩;obtain⟨b',m',M,⟨cur,el,hblk,hsize⟩,e3⟩:=HE.obj id _ hid;rw[I]at M;cases M;have g:col+0+d.cells.toList.length≤cur.size:=by rw[hsize]; simp; omega
  have J:=run_storeCells_at P b col el d.cells.toList 0 cur E.w hblk g (fun v B=>by rw[wx]; exact h1 v B);simp only[n5]at J g;generalize y:E.w.setRow b (cur.toList.take col++d.cells.toList++cur.toList.drop (col+d.cells.toList.length)).toArray=w' at J;have U:w'.heap.size=E.w.heap.size:=by rw[←y]; exact setRow_size _ _ _
  have henv:dJ E.w w':=by rw[←y]; exact⟨rfl,rfl,rfl,by first|exact fun _=>aG _|exact fun _=>eL _ _⟩
  have V:∀ x,x≠b→w'.heap[x]? = E.w.heap[x]? := by intro x O; rw[←y]; exact setRow_other _ _ _ _ O
  have N:w'.heap[b]? = some (.cells (cur.toList.take col++d.cells.toList++cur.toList.drop (col+d.cells.toList.length)).toArray el (0,0)):=by
   rw[←y]; exact setRow_heap E.w b cur _ el (0,0) hblk
  have W:∀ v,(ab.box (putCells cells cs col)).aF = some v→(ab.box cells).aF = some v:=fun v B=>by simpa[ab.aF]using B
  have hle:=Env.lR (o':=.box (putCells cells cs col)) HE hid I W U V;refine⟨w',?_,au.set HE hid I W U V ?_,hle⟩
  ·simp only [GD, my, bW, eY, bX, storeVar, Sem.run_sizeOf hi, hs, pL, cP]
   rw[if_neg (by omega)];exact J
  ·simp only [aN]
   refine⟨b,m,I,⟨_,el,N,?_⟩,?_⟩
   ·rw [HH (by omega)]
    simp only[zQ,fi,lD,n9,kL]at g⊢;omega
   ·exact AP (o:=0) (col:=col) (fun a c hr=>bP hle a hr) hblk (by simpa using N) (by simpa using g) e3 hrel h1 (by omega)
 ·rename_i k u rows hid
  split at h
  case isFalse=>cases h
  rename_i hc;obtain⟨rfl,rfl,hclosed⟩:=hc;split at h
  case h_2=>cases h
  rename_i r hrow;split at h
  case isFalse=>cases h
  rename_i hcol;cases h;obtain⟨b,m,I,rfl⟩:=hlive ⟨_,hid,rfl⟩;rcases HE.obj id _ hid with⟨_,M⟩|⟨b',m',M,⟨cur,el,hblk,hsize⟩,e3,e4,e5⟩
  ·subst M; simp at hrow
  rw[I]at M;cases M;have hrlt:=aK hrow;obtain⟨hrk,hrc⟩:=lM e5 hrow;rw[cP]at hrc;have hrow1:(row+1)*k≤m*k:=sx _ (by omega);rw[fh,GF]at hrow1;have g:row*k+col+0+d.cells.toList.length≤cur.size:=by rw[hsize]; simp; omega
  have J:=run_storeCells_at P b (row*k+col) el d.cells.toList 0 cur E.w hblk g (fun v B=>by rw[wx]; exact h1 v B);simp only[n5]at J g;generalize y:E.w.setRow b (cur.toList.take (row*k+col)++d.cells.toList++cur.toList.drop (row*k+col+d.cells.toList.length)).toArray=w' at J;have U:w'.heap.size=E.w.heap.size:=by rw[←y]; exact setRow_size _ _ _
  have henv:dJ E.w w':=by rw[←y]; exact⟨rfl,rfl,rfl,by first|exact fun _=>aG _|exact fun _=>eL _ _⟩
  have V:∀ x,x≠b→w'.heap[x]? = E.w.heap[x]? := by intro x O; rw[←y]; exact setRow_other _ _ _ _ O
  have N:w'.heap[b]? = some (.cells (cur.toList.take (row*k+col)++d.cells.toList++cur.toList.drop (row*k+col+d.cells.toList.length)).toArray el (0,0)):=by
   rw[←y]; exact setRow_heap E.w b cur _ el (0,0) hblk
  have W:∀ v,(ab.vec k ae (rows.set row (putCells r cs col))).aF = some v→(ab.vec k ae rows).aF = some v:=fun v B=>by simpa[ab.aF]using B
  have hle:=Env.lR (o':=.vec k ae (rows.set row (putCells r cs col))) HE hid I W U V;refine⟨w',?_,au.set HE hid I W U V ?_,hle⟩
  ·simp only [GD, my, bW, eY, bX, storeVar, Sem.run_sizeOf hi, hs]
   rw[if_neg (by omega)];exact J
  ·simp only [aN]
   right;refine⟨b,m,I,⟨_,el,N,?_⟩,by simpa using e3,?_,?_⟩
   ·simp only [zQ, fi, lD, n9, kL, hsize] at g ⊢
    omega
   ·intro r' hr'
    rcases List.mem_or_eq_of_mem_set hr' with h'|h'
    ·exact e4 r' h'
    ·rw [h', putCells, AQ, AQ]
     have:=e4 r (eM hrow);simp[wk _ _ this,sP _ _ this,hclosed]
   ·rw [kO] at e5 ⊢
    intro j r' hj;rw[dN]at hj;split at hj
    ·rename_i ej
     subst ej;cases hj;refine⟨by rw[HH (by omega)]; exact hrk,?_⟩;rw[cP];exact AP (fun a c hr=>bP hle a hr) hblk N g hrc hrel h1 (by omega)
    ·rename_i ej
     obtain⟨g1,g2⟩:=e5 j r' hj;refine⟨g1,?_⟩;rw[ij]at g2⊢;intro q a hq;obtain⟨vv,p1,p2,p3⟩:=g2 q a hq;refine⟨vv,?_,p2,bP hle a p3⟩;have hql:=aK hq;rw[HG hblk N g,if_neg]
     ·exact p1
     ·rcases Nat.lt_or_gt_of_ne ej with hlt | hgt
      ·have : (row + 1) * k ≤ j * k := sx _ (by omega)
       rw[fh,GF]at this;simp only[kL];omega
      ·have : (j + 1) * k ≤ row * k := sx _ (by omega)
       rw[fh,GF]at this;omega
 ·cases h
theorem HJ{E:Env}(HE:au E){cells:List AV}{vals:Array Value}{el:TypeId}(g:af E cells vals.toList)(h1:∀ x∈vals.toList,dh x=true) :
  cL E (.ptr E.H.length 0 0 0 0) (E.H++[.box cells]) (.pointer (some ⟨E.w.heap.size,0,none⟩)) { E.w with heap:=E.w.heap.push (.cells vals el) }:=by
 have d:=Ext.push E.w (.cells vals el);have hle:=Env.iY (o:=.box cells) (l:=some (E.w.heap.size,0)) HE.len d (fun b n hb=>by cases hb; exact aG _);have hblk:(E.w.heap.push (.cells vals el))[E.w.heap.size]? = some (.cells vals el (0,0)):=by simp
 have h:af (E.push { E.w with heap:=E.w.heap.push (.cells vals el) } (.box cells) (some (E.w.heap.size,0))) cells vals.toList:=du hle _ g;refine⟨E.loc++[some (E.w.heap.size,0)],E.X.r,?_,au.push HE d (fun b n hb=>?_) ?_,hle⟩
 ·simp only [rel]
  refine⟨⟨_,_,rfl⟩,⟨.box cells,by simp,rfl,fun v k=>by simp⟩,fun _=>⟨E.w.heap.size,0,?_,by simp⟩⟩;rw[←HE.len]; simp
 ·cases hb
  exact⟨aG _,by simp⟩
 ·simp only [aN]
  refine⟨E.w.heap.size,0,?_,⟨vals,el,hblk,?_⟩,AI (cs:=vals) (el:=el) (fr:=(0,0)) hblk h h1⟩
  ·simp only[Env.push]; rw[←HE.len]; simp
  ·have := fI g
   simpa using this.symm
def wB(P:Program)(t:TypeId):Option TypeId:=match dS P t with
 | some [.pointer none,.slice none 0 0]=>match P.underlying t with
  | some (.struct d)=>match d[1]? with
   | some fd=>match P.underlying fd.type with
    | some (.slice e)=>match P.underlying e with
     |some (.int .u8)=>some e
     |_=>none
    |_=>none
   |none=>none
  |_=>none
 |_=>none
theorem Sr{P:Program}{t e:TypeId}(h:wB P t=some e):dS P t=some [.pointer none,.slice none 0 0]:=by
 unfold wB at h;split at h
 ·assumption
 ·cases h
def lS(H:List ab)(l:Nat):Bool:=H.all fun o=>match o.label with
 |some k => !ad k l
 |none=>true
theorem sU{H:List ab}{l:Nat}(h:lS H l=true)(i:Nat)(o:ab)(hi:H[i]? = some o):o.label≠some l:=fun e=>by
 have:=cO.1 h o (eM hi);rw[e]at this;simp at this
theorem Ss{E:Env}(HE:au E){t e:TypeId}(d:lS E.H 0=true) :
  cL E (.ptr E.H.length 0 0 0 0) (E.H++[.er 0 t e vA]) (.pointer (some ⟨E.w.heap.size,0,none⟩)) { E.w with heap:=E.w.heap.push (.cells #[.pointer none,.slice none 0 0] t) }:=by
 have k:=Ext.push E.w (.cells #[.pointer none,.slice none 0 0] t);obtain⟨h1,q⟩:=au.R0 (o:=.er 0 t e vA) (l:=some (E.w.heap.size,0)) (l0:=0) HE k (fun b n hb=>by cases hb; exact⟨aG _,by simp⟩) rfl (sU d) (by
  simp only[aN];refine⟨E.w.heap.size,0,.pointer none,.slice none 0 0,(E.X.r 0).length,none,?_,?_,.inl rfl,?_,?_,⟨rfl,rfl⟩⟩
  ·rw[←HE.len]; simp
  ·simp
  ·simp[gI,XS.re]
  ·intro h' h u
   rcases Aq (show (gI E.X.r 0 0)[h']? = some (some h) from u)with g|⟨_,g,_⟩
   ·exact(HE.fJ 0 (sU d) h' h g).elim
   ·exact g)
 refine⟨E.loc++[some (E.w.heap.size,0)],gI E.X.r 0,?_,h1,q⟩;simp only[rel];refine⟨⟨_,_,rfl⟩,⟨.er 0 t e vA,by simp,rfl,fun v y=>by simp⟩,fun _=>⟨E.w.heap.size,0,?_,by simp⟩⟩;rw[←HE.len]; simp
def ox(P:Program)(t:TypeId)(H:List ab):Option (AV × List ab) :=
 match wB P t with
 |some e=>if lS H 0=true then some (.ptr H.length 0 0 0 0,H++[.er 0 t e vA]) else none
 | none=>match dS P t with
  |some z=>some (.ptr H.length 0 0 0 0,H++[.box (z.map .lit)])
  |none=>none
theorem Su{P:Program}{E:Env}(HE:au E){t:TypeId}{v:AV}{H':List ab}(h:ox P t E.H=some (v,H')) :
  ∃ u w',(zR t true (.tuple #[])).run P E.w=.ok u w'∧cL E v H' u w':=by
 unfold ox at h;split at h
 ·rename_i e he
  split at h
  case isFalse=>cases h
  rename_i B;cases h;obtain⟨i,g,h1,k,d,y⟩:=kS (Sr he);have q:g.cells=#[.pointer none,.slice none 0 0]:=eZ (by simpa using d);refine⟨_,_,?_,Ss HE (t:=t) (e:=e) B⟩;simp[zR,kT h1 k,newVar,newRow,q]
 split at h
 ·rename_i z q
  cases h;obtain⟨i,g,h1,k,d,y⟩:=kS q;refine⟨_,_,?_,HJ HE (vals:=g.cells) (el:=t) (by rw[d]; exact mM z) (by rw[d]; exact y)⟩;simp[zR,kT h1 k,newVar,newRow]
 ·cases h
def zc:Option (List Kd)→Value→AV
 |some ks,.slice none 0 0=>.listF ks []
 |_,v=>.lit v
def dK:List (Option (List Kd))→List Value→List AV
 |_,[]=>[]
 | [],v::z=>.lit v::dK [] z
 |a::m,v::z=>zc a v::dK m z
theorem wC:∀(m:List (Option (List Kd))) (z:List Value),(dK m z).length=z.length
 | [],[]=>rfl
 |_::_,[]=>rfl
 | [],v::z=>by simp[dK,wC [] z]
 |a::m,v::z=>by simp[dK,wC m z]
theorem Sv{E:Env}(a:Option (List Kd))(v:Value):rel E (zc a v) v:=by
 unfold zc;split
 ·simp only [rel, dO]
  exact⟨none,0,rfl,aG _,.inl rfl⟩
 ·simp[rel]
theorem AR{E:Env}:∀(m:List (Option (List Kd))) (z:List Value),af E (dK m z) z
 | [],[]=>by simp[dK,af]
 |_::_,[]=>by simp[dK,af]
 | [],v::z=>by simp only[dK,af]; exact⟨by simp[rel],AR [] z⟩
 |a::m,v::z=>by simp only[dK,af]; exact⟨Sv a v,AR m z⟩
theorem Sw(a:Option (List Kd))(v:Value):(zc a v).closed=true:=by
 unfold zc;split<;>rfl
theorem AS:∀(m:List (Option (List Kd))) (z:List Value),AV.bq (dK m z)=true
 | [],[]=>rfl
 |_::_,[]=>rfl
 | [],v::z=>by simp[dK,AV.bq,AV.closed,AS [] z]
 |a::m,v::z=>by simp[dK,AV.bq,Sw,AS m z]
def mR(P:Program)(t:TypeId)(id:Nat) (m:List (Option (List Kd))) (H:List ab):Option (AV × List ab) :=
 match dS P t,H[id]? with
 |some z,some (.vec k 0 [])=>if k=z.length then some (.ptr id 1 k 0 0,H.set id (.vec k 1 [dK m z])) else none
 |_,_=>none
theorem Sx{E:Env}(HE:au E){id k:Nat}{cells:List AV}{vals:Array Value}{el:TypeId}(hid:E.H[id]? = some (.vec k 0 []))(d:af E cells vals.toList)(h1:∀ x∈vals.toList,dh x=true)(hk:cells.length=k)
  (O:AV.bq cells=true) :
  cL E (.ptr id 1 k 0 0) (E.H.set id (.vec k 1 [cells])) (.pointer (some ⟨E.w.heap.size,0,none⟩)) { E.w with heap:=E.w.heap.push (.cells vals el) }:=by
 have q:=Ext.push E.w (.cells vals el);have M:=aK hid;have B:∀ v,(ab.vec k 1 [cells]).aF = some v→∀ u,(ab.vec k 0 []).aF = some u→u<v:=by
  intro v g u hu;simp[ab.aF]at g hu;omega
 have N:∀ v u,(ab.vec k 1 [cells]).aF = some v→(ab.vec k 0 []).aF = some u→u≤v:=by
  intro v u g hu;simp[ab.aF]at g hu;omega
 have I:(ab.vec k 0 []).aF = none→(ab.vec k 1 [cells]).aF = none:=by simp[ab.aF]
 have hle:E.le { w:={ E.w with heap:=E.w.heap.push (.cells vals el) },H:=E.H.set id (.vec k 1 [cells]),loc:=E.loc.set id (some (E.w.heap.size,1)),X:=E.X } :=
  Env.iZ hid HE.len q.size (fun x y _=>q.same x y) (fun b n h=>by cases h; exact .inl (aG _)) (.inr B) N (fun _=>I)
 have hblk:(E.w.heap.push (.cells vals el))[E.w.heap.size]? = some (.cells vals el (0,0)):=by simp
 have J:(E.loc.set id (some (E.w.heap.size,1)))[id]? = some (some (E.w.heap.size,1)):=bB (by rw[HE.len]; exact M);have U:=du hle _ d;refine⟨E.loc.set id (some (E.w.heap.size,1)),E.X.r,?_,?_,hle⟩
 ·simp only [rel]
  refine⟨⟨_,_,rfl⟩,⟨.vec k 1 [cells],by simp[M],rfl,fun v g=>by simp[ab.aF]at g; omega⟩,fun _=>⟨E.w.heap.size,1,J,by simp⟩⟩
 ·refine au.kf HE hid q.size (fun x y _ => q.same x y) (fun b n h => by cases h; exact .inl ⟨aG _, by simp⟩) (.inr B) N (fun _ => I) ?_
  simp only[aN];right;refine⟨E.w.heap.size,1,J,⟨vals,el,hblk,?_⟩,by simp,?_,?_⟩
  ·have := fI d
   rw[GF,←hk];simpa using this.symm
  ·intro r d
   simp at d;rw[d];exact O
  ·simp only [cz, and_true]
   exact⟨hk,AI (cs:=vals) (el:=el) (fr:=(0,0)) hblk U h1⟩
theorem Sy{P:Program}{E:Env}(HE:au E){t:TypeId}{id:Nat}{m:List (Option (List Kd))}{v:AV}{H':List ab}(h:mR P t id m E.H=some (v,H')) :
  ∃ u w',(zR t true (.tuple #[])).run P E.w=.ok u w'∧cL E v H' u w':=by
 unfold mR at h;split at h
 ·rename_i z k g hid
  split at h
  ·rename_i hk
   cases h;obtain⟨i,q,h1,y,d,B⟩:=kS g;refine⟨_,_,?_,Sx HE (vals:=q.cells) (el:=t) hid (by rw[d]; exact AR m z) (by rw[d]; exact B) (by rw[wC,hk]) (AS m z)⟩;simp[zR,kT h1 y,newVar,newRow]
  ·cases h
 ·cases h
def wD(v:AV)(H:List ab):Option (AV × List ab) :=
 match ot v with
 |some cs=>some (.ptr H.length 0 0 0 0,H++[.box cs])
 |none=>none
theorem Sz{P:Program}{E:Env}(HE:au E){t:TypeId}{x v:AV}{c:Value}{H':List ab}(h:wD x E.H=some (v,H'))(g:rel E x c) :
  ∃ u w',(agx t c).run P E.w=.ok u w'∧cL E v H' u w':=by
 unfold wD at h;split at h
 ·rename_i cs d
  cases h;obtain⟨h1,k⟩:=AF d g;refine⟨_,_,?_,HJ HE (vals:=c.cells) (el:=t) h1 k⟩;simp[agx,newVar,newRow]
 ·cases h
theorem HK{E:Env}(HE:au E){sz n C:Nat}{rows:List (List AV)}{vals rest:List Value}{el:TypeId}(g:af E rows.flatten vals)(h1:∀ x∈vals,dh x=true)
  (hw:∀ r∈rows,r.length=sz) (u:eQ rows) (d:rows.length=n) (hC:n≤C) (q:rest.length=(C-n)*sz) :
  cL E (.vec sz E.H.length 0 0 n) (E.H++[.vec sz 0 rows]) (.slice (some ⟨E.w.heap.size,0,none⟩) n C) { E.w with heap:=E.w.heap.push (.cells (vals++rest).toArray el) }:=by
 have h:=Ext.push E.w (.cells (vals++rest).toArray el);have hle:=Env.iY (o:=.vec sz 0 rows) (l:=some (E.w.heap.size,C)) HE.len h (fun b n hb=>by cases hb; exact aG _);have hblk:(E.w.heap.push (.cells (vals++rest).toArray el))[E.w.heap.size]? = some (.cells (vals++rest).toArray el (0,0)):=by simp
 have k:=AM (E':=E.push { E.w with heap:=E.w.heap.push (.cells (vals++rest).toArray el) } (.vec sz 0 rows) (some (E.w.heap.size,C))) (fun a c g=>bP hle a g) hblk g h1 hw d hC q;refine⟨E.loc++[some (E.w.heap.size,C)],E.X.r,?_,au.push HE h (fun b n hb=>?_) ?_,hle⟩
 ·simp only [rel]
  refine⟨⟨_,_,rfl,hC,fun _=>⟨_,_,rfl⟩⟩,⟨.vec sz 0 rows,by simp,rfl,fun v y=>by simp[ab.aF]at y; omega⟩,fun _=>⟨fun d=>?_,fun b M d=>?_⟩⟩
  ·rw[←HE.len]at d; simp at d
  ·rw [← HE.len] at d
   simp at d;obtain⟨rfl,rfl⟩:=d;exact⟨by omega,0,fun _=>by simp,by simp⟩
 ·cases hb
  exact⟨aG _,by simp⟩
 ·simp only [aN]
  right;refine⟨E.w.heap.size,C,?_,k.1,by omega,u,k.2⟩;simp only[Env.push];rw[←HE.len];simp
theorem range_zero(z:Array Value)(n:Nat)(k:0<z.size):((fU (n*z.size)).map (fun i=>z[i%z.size]!)).toList=(bM n z.toList).flatten:=by
 induction n with
 |zero=>simp
 | succ n g =>
  rw[List.replicate_succ',vH,←g];simp only[pJ,List.flatten_nil,cY];apply jx;intro i;simp only[Rs,Array.toList_range,bZ,eX,dE,List.length_range];by_cases c1:i<n*z.size
  ·have c2 : i < (n + 1) * z.size := by rw [fh]; omega
   simp[c1,c2]
  ·by_cases c2 : i < (n + 1) * z.size
   ·have d : i - n * z.size < z.size := by rw [fh] at c2; omega
    have h:i%z.size=i-n*z.size:=by
     have:i=i-n*z.size+n*z.size:=by omega
     rw[this,Nat.add_mul_mod_self_right,Nat.mod_eq_of_lt d];omega
    simp[c1,c2,h,d]
   ·have d : ¬ (i - n * z.size < z.size) := by rw [fh] at c2; omega
    simp[c1,c2,d]
theorem HL(f:Nat→Value):GG f (fU 0)=#[]:=by apply eZ; simp
def SA:Value→Option Kd
 |.int k _=>some (.int k)
 |.string _=>some .str
 |.bool _=>some .bool
 |_=>none
def AT:List Value→Option (List Kd)
 | []=>some []
 | v::vs=>match SA v,AT vs with
  |some k,some ks=>some (k::ks)
  |_,_=>none
def AU(P:Program)(t:TypeId):Option (List Kd):=match P.underlying t with
 | some (.slice e)=>match P.info? e with
  | some i=>match i.zero with
   |some (.agg cs)=>AT cs.toList
   |some v=>AT [v]
   |none=>none
  |none=>none
 |_=>none
def AW(P:Program):Nat→TypeId→List TypeId
 |0,t=>[t]
 | d+1,t=>match P.underlying t with
  |some (.struct g)=>(g.toList.map fun f=>AW P d f.type).flatten
  |some (.array n e)=>(bM n (AW P d e)).flatten
  |_=>[t]
def lT:List Value→List (Option (List Kd))→List AV
 | [],_=>[]
 | v::vs,ks=>(match v,ks.headD none with
  |.slice none 0 0,some k=>.listF k []
  |v,_=>.lit v)::lT vs ks.tail
def wE(P:Program)(e:TypeId)(z:List Value):List AV:=lT z ((AW P 4 e).map (AU P))
theorem HM:∀(z:List Value) (ks:List (Option (List Kd))),(lT z ks).length=z.length
 | [],_=>rfl
 |_::z,ks=>by simp[lT,HM z]
theorem HN{E:Env}:∀(z:List Value) (ks:List (Option (List Kd))),af E (lT z ks) z
 | [],_=>by simp[lT,af]
 | v::z,ks=>by
  simp only[lT,af];refine⟨?_,HN z _⟩;split
  ·simp only [rel, dO, G.rows]
   exact⟨none,0,rfl,aG _,.inl (by first|rfl|trivial)⟩
  ·simp[rel]
theorem HO:∀(z:List Value) (ks:List (Option (List Kd))),AV.bq (lT z ks)=true
 | [],_=>rfl
 | v::z,ks=>by
  simp only[lT,AV.bq,HO z,fH];split<;>rfl
theorem HP{E:Env}{as:List AV}{z:List Value}(h:af E as z):∀ n:Nat,af E (bM n as).flatten (bM n z).flatten
 |0=>by simp[af]
 | n+1=>by
  simp only[Rt,pJ];exact jC h (HP h n)
def sV(P:Program)(t:TypeId)(l c:AV)(H:List ab):Option (AV × List ab) :=
 match b_ P t,l,c with
 | .slice e sz d,.lit (.int _ l),.lit (.int _ c) =>
  match dS P e with
  | some z=>if z.length=sz∧0<sz∧0≤l∧l≤c∧c≤1048576∧d≤1048576 then
    some (.vec sz H.length 0 0 l.toNat,H++[.vec sz 0 (bM l.toNat (wE P e z))]) else none
  |none=>none
 |_,_,_=>none
theorem wrap_small{n:Int}(h0:0≤n)(h1:n≤1048576):IntKind.i64.wrap n=n:=by
 simp[IntKind.wrap,IntKind.bits,IntKind.signed];omega
theorem sW{E:Env}(z:List Value):∀ n:Nat,af E (bM n (z.map AV.lit)).flatten (bM n z).flatten
 |0=>by simp[af]
 | n+1=>by
  simp only[Rt,pJ];exact jC (mM z) (sW z n)
theorem sX{α:Type}{z:List α}{n:Nat}{x:α}(h:x∈(bM n z).flatten):x∈z:=by
 obtain⟨l,h1,d⟩:=List.mem_flatten.1 h;rw[Ru h1]at d;exact d
theorem AX:∀(z:List Value),AV.bq (z.map .lit)=true
 | []=>rfl
 |v::z=>by simp[AV.bq,AV.closed,AX z]
theorem SB{P:Program}{E:Env}(HE:au E){t:TypeId}{l c v:AV}{cl M:Value}{H':List ab}(h:sV P t l c E.H=some (v,H'))
  (N:rel E l cl) (O:rel E c M):∃ u w',(agy t cl M).run P E.w=.ok u w'∧cL E v H' u w':=by
 unfold sV at h;split at h
 case h_2=>cases h
 rename_i e sz by_ k1 l k2 c hk;simp only[rel]at N O;subst N; subst O;obtain⟨hu,i,hi,hs,hby⟩:=fX hk;split at h
 case h_2=>cases h
 rename_i z hz;split at h
 case isFalse=>cases h
 rename_i V;obtain⟨g1,g2,g3,g4,g5,g6⟩:=V;cases h;obtain⟨i',d,B,hz1,I,hz3⟩:=kS hz;rw[hi]at B;cases B;have wl:IntKind.i64.wrap l=l:=wrap_small g3 (by omega);have wc:IntKind.i64.wrap c=c:=wrap_small (by omega) g5;have hbc:(i.bytes:Int)*c≤1048576*1048576:=by
  have h1:(i.bytes:Int)≤1048576:=by omega
  have g:(0:Int)≤c:=by omega
  exact Int.mul_le_mul h1 g5 g (by omega)
 have hne:¬ (281474976710656<(i.bytes:Int)*c):=by omega
 have hzs:d.cells.size=sz:=by rw[←g1,←I]; simp
 have y:(bM l.toNat z).flatten++(bM (c.toNat-l.toNat) z).flatten=(bM c.toNat z).flatten:=by
  rw[←vH,List.replicate_append_replicate];congr 2;omega
 obtain⟨vals,k⟩:∃ vals,vals=(bM l.toNat z).flatten:=⟨_,rfl⟩
 obtain⟨rest,J⟩:∃ rest,rest=(bM (c.toNat-l.toNat) z).flatten:=⟨_,rfl⟩
 have W:rest.length=(c.toNat-l.toNat)*sz:=by rw[J]; simp[g1]
 rw[←k,←J]at y;refine⟨.slice (some ⟨E.w.heap.size,0,none⟩) l.toNat c.toNat,{ E.w with heap:=E.w.heap.push (.cells (vals++rest).toArray e) },?_,?_⟩
 ·have h1 : ¬ c < 0 := by omega
  have g:¬ l<0:=by omega
  have h3:¬ c<l:=by omega
  simp only[agy,bW,Sem.br hu,bX,asInt,asIntOf,eY,typeInfo,run_program,hi,wl,wc];rw[if_neg (by simp[h1,g,h3,hne])];simp only[bW,run_askRoom,bX,Sem.run_sizeOf hi];rw[y];by_cases h0:c.toNat*i.size=0
  ·have:c.toNat=0:=by
    rcases Rv.1 h0 with h|h
    ·exact h
    ·omega
   rw[if_pos h0];simp only[bW,eY,bX,newRow,this,pL,HL];simp
  ·rw [if_neg h0]
   simp only[bW,kT hi hz1,bX,eY,newRow];have:(GG (fun x=>d.cells[x%d.cells.size]!) (fU (c.toNat*i.size)))=(bM c.toNat z).flatten.toArray:=by
    apply eZ;rw[hs,←hzs,range_zero d.cells c.toNat (by omega),I]
   rw[this];simp
 ·refine HK HE (C := c.toNat) (by rw [k]; exact HP (HN z _) _) (by intro x U; rw [k] at U; exact hz3 x (sX U)) ?_ ?_ (by simp) (by omega) W
  ·intro r q
   have:=Ru q;rw[this];rw[wE,HM]; exact g1
  ·intro r q
   have:=Ru q;rw[this];exact HO z _
def qf(P:Program)(t:TypeId)(n:Nat)(parts:List (Nat × AV)):Option AV :=
 match b_ P t with
 | .slice e sz _=>match dS P e with
  | some z=>if z.length=sz∧0<sz∧n*sz≤1048576 then
    match ow (fun i=>some (i*sz,sz)) (bM n (z.map AV.lit)).flatten parts with
    |some out=>if AV.bq out=true∧out.length=n*sz then some (match n with|0=>.nils|_=>.list sz (chunk sz n out)) else none
    |none=>none
   else none
  |none=>none
 |_=>none
theorem SC{P:Program}{E:Env}(HE:au E){t:TypeId}{n:Nat}{parts:List (Nat × AV)}{cparts:List (Nat × Value)}{v:AV}(h:qf P t n parts=some v)
  (hm:parts.map (·.1)=cparts.map (·.1)) (hv:af E (parts.map (·.2)) (cparts.map (·.2))) :
  ∃ u w',(GJ t n cparts.toArray).run P E.w=.ok u w'∧Ext E.w w'∧rel { E with w:=w' } v u:=by
 unfold qf at h;split at h
 case h_2=>cases h
 rename_i e sz by_ hk;obtain⟨hu,i,hi,k,_⟩:=fX hk;split at h
 case h_2=>cases h
 rename_i z hz;obtain⟨i',q,I,U,J,V⟩:=kS hz;rw[hi]at I;cases I;split at h
 case isFalse=>cases h
 rename_i hc;obtain⟨g1,g2,g3⟩:=hc;split at h
 case h_2=>cases h
 rename_i out O;split at h
 case isFalse=>cases h
 rename_i M;cases h;have W:q.cells.size=sz:=by rw[←g1,←J]; simp
 obtain⟨d,g⟩:∃ d:Array Value,d.toList=(bM n z).flatten:=⟨((bM n z).flatten).toArray,by simp⟩
 obtain⟨o,f1,f2,f3⟩:=sS (E:=E) (cs:=d) O (by rw[g]; exact sW z n) (by rw[g]; intro x y; exact V x (sX y)) hm hv;have B:=Ext.push E.w (.cells o e);have hblk:(E.w.heap.push (.cells o e))[E.w.heap.size]? = some (.cells o e (0,0)):=by simp
 refine⟨.slice (some ⟨E.w.heap.size,0,none⟩) n n,{ E.w with heap:=E.w.heap.push (.cells o e) },?_,B,?_⟩
 ·have hno : ¬ (n * i.size > 2 ^ 24) := by rw [k]; omega
  simp only[GJ,bW,Sem.br hu,bX,Sem.run_sizeOf hi];rw[if_neg hno];by_cases h0:n*i.size=0
  ·have N:n=0:=by
    rcases Rv.1 h0 with h|h
    ·exact h
    ·omega
   have:d=#[]:=by apply eZ; rw[g,N]; rfl
   rw[if_pos h0];rw[this]at f1;simp only[bW,eY,bX,N,pL,HL,k,f1];simp[newRow]
  ·rw [if_neg h0]
   simp only[bW,kT hi U,bX,eY];have:(GG (fun x=>q.cells[x%q.cells.size]!) (fU (n*i.size)))=d:=by
    apply eZ;rw[k,←W,range_zero q.cells n (by omega),J,g]
   rw[this,k,f1];simp[newRow]
 ·have hle : E.le { E with w := { E.w with heap := E.w.heap.push (.cells o e) } } := Env.iD B
  cases n with
  |zero=>simp only[rel]; exact⟨_,rfl⟩
  |succ n =>
  simp only[rel];refine⟨AH sz _ out M.1,some ⟨E.w.heap.size,0,none⟩,n+1,by rw[sT],by rw[sT]; exact aG _,.inr ⟨E.w.heap.size,0,rfl,?_,?_⟩⟩
  ·refine ⟨by simp, ?_, fun y => by have := HE.X _ y; omega⟩
   rintro ho;have:=(HE.wa ho).1;omega
  ·exact Hw sz _ out _ 0 M.2 (AI (cs:=o) (el:=e) (fr:=(0,0)) hblk (du hle _ f2) f3)
end Go.AL

namespace Go.AL
open Go
variable [Dr]
def wF(P:Program)(t:TypeId)(x:AV)(H:List ab):Option (AV × List ab) :=
 match b_ P t,x with
 |.str,.lit (.string s)=>some (.ptr H.length 0 0 0 0,H++[.iter s 0])
 |_,_=>none
theorem SD{E:Env}(HE:au E)(s:ByteArray) :
  cL E (.ptr E.H.length 0 0 0 0) (E.H++[.iter s 0]) (.pointer (some ⟨E.w.heap.size,0,none⟩)) { E.w with heap:=E.w.heap.push (.stringIter s 0) }:=by
 have d:=Ext.push E.w (.stringIter s 0);have hle:=Env.iY (o:=.iter s 0) (l:=some (E.w.heap.size,0)) HE.len d (fun b n hb=>by cases hb; exact aG _);have hblk:(E.w.heap.push (.stringIter s 0))[E.w.heap.size]? = some (.stringIter s 0):=by simp
 refine⟨E.loc++[some (E.w.heap.size,0)],E.X.r,?_,au.push HE d (fun b n hb=>?_) ?_,hle⟩
 ·simp only [rel]
  refine⟨⟨_,_,rfl⟩,⟨.iter s 0,by simp,rfl,fun v g=>by simp⟩,fun _=>⟨E.w.heap.size,0,?_,by simp⟩⟩;rw[←HE.len]; simp
 ·cases hb
  exact⟨aG _,by simp⟩
 ·simp only [aN]
  refine⟨E.w.heap.size,0,?_,hblk⟩;simp only[Env.push]; rw[←HE.len]; simp
theorem SE{P:Program}{E:Env}(HE:au E){t:TypeId}{x v:AV}{c:Value}{H':List ab}(h:wF P t x E.H=some (v,H'))(d:rel E x c) :
  ∃ u w',(Rw t c).run P E.w=.ok u w'∧cL E v H' u w':=by
 unfold wF at h;split at h
 ·rename_i s hk
  cases h;simp only[rel]at d;subst d;refine⟨_,_,?_,SD HE s⟩;simp[Rw,Sem.br (oq hk),newObj];rfl
 ·cases h
def wG(x:AV)(isString:Bool)(H:List ab):Option (AV × List ab) :=
 match x,isString with
 | .ptr id 0 _ 0 0,true=>match H[id]? with
  | some (.iter s pos)=>if pos<s.size then some (.tuple [.lit (.bool true),.lit (goInt pos),.lit (.int .i32 (mC s pos).1)],H.set id (.iter s (pos+(mC s pos).2)))
    else some (.tuple [.lit (.bool false)],H)
  |_=>none
 |_,_=>none
theorem SF{P:Program}{E:Env}(HE:au E){x v:AV}{c:Value}{isString:Bool}{ty:TypeId}{H':List ab}(h:wG x isString E.H=some (v,H'))(M:rel E x c) :
  ∃ u w',(Instr.next c isString ty).run P E.w=.ok u w'∧cL E v H' u w':=by
 unfold wG at h;split at h
 case h_2=>cases h
 rename_i id k;split at h
 case h_2=>cases h
 rename_i s pos hid;have ho:=HE.obj id _ hid;simp only[aN]at ho;obtain⟨b,n,h1,g⟩:=ho;simp only[rel]at M;obtain⟨_,_,N⟩:=M;obtain⟨V,W,g1,g2⟩:=N ⟨_,hid,rfl⟩;rw[h1]at g1;simp only[aZ,be]at g1;obtain⟨rfl,rfl⟩:=g1;have hb:=(HE.lt id b n h1).1;split at h
 ·rename_i d
  cases h;subst g2;have J:({ E.w with heap:=E.w.heap.setIfInBounds b (.stringIter s (pos+(mC s pos).2)) }:World).heap.size=E.w.heap.size:=by simp
  have I:∀ y,y≠b→({ E.w with heap:=E.w.heap.setIfInBounds b (.stringIter s (pos+(mC s pos).2)) }:World).heap[y]? = E.w.heap[y]? := by
   intro y O;simp only[zT];rw[if_neg (fun e=>O e.symm)]
  refine⟨.tuple #[.bool true,goInt pos,.int .i32 (mC s pos).1],{ E.w with heap:=E.w.heap.setIfInBounds b (.stringIter s (pos+(mC s pos).2)) },?_,E.loc,E.X.r,?_,?_,?_⟩
  ·have q : (getObj b).run P E.w = .ok (.stringIter s pos) E.w := by simp [getObj, fV, g]
   have U:(setObj b (.stringIter s (pos+(mC s pos).2))).run P E.w=.ok () { E.w with heap:=E.w.heap.setIfInBounds b (.stringIter s (pos+(mC s pos).2)) }:=by
    simp[setObj,fV,g]
   simp only[Instr.next,pL,n5,bW,q,bX,d,if_true];rw[U];rfl
  ·simp[rel,af]
  ·exact HE.set hid h1 (fun v B=>B) J I (by
    simp only[aN];exact⟨b,n,h1,by simp[hb]⟩)
  ·exact Env.lR HE hid h1 (fun v B=>B) J I
 ·rename_i d
  cases h;subst g2;refine⟨.tuple #[.bool false],E.w,?_,E.loc,E.X.r,by simp[rel,af],by simpa using HE,Env.le.refl E⟩;have q:(getObj b).run P E.w=.ok (.stringIter s pos) E.w:=by simp[getObj,fV,g]
  simp only[Instr.next,pL,n5,bW,q,bX,d,if_false];rfl
end Go.AL

namespace Go.AL
open Go
variable [Dr]
def gL(P:Program)(d:TypeId)(a:AV):Option (List Value) :=
 match flatK P lP d with
 |none=>none
 | some ks=>match a with
  |.lit v=>if cA ks [v]=true∧lO (P.underlying d)=false then some [v] else none
  | .agg as=>match lN as with
   |some l=>if cA ks l=true∧lO (P.underlying d)=true then some l else none
   |none=>none
  |_=>none
def lU(P:Program)(d:TypeId)(l:List Value)(c:Value):Prop:=isVal P d c l∧∃ ks,flatK P lP d=some ks∧cA ks l=true
theorem gM{P:Program}{E:Env}{k:TypeId}{a:AV}{l:List Value}{c:Value}(h:gL P k a=some l)(g:rel E a c):lU P k l c:=by
 unfold gL at h;split at h
 ·cases h
 rename_i ks hk;split at h
 ·split at h
  ·rename_i v d
   cases h;simp only[rel]at g;subst g;refine⟨?_,ks,hk,d.1⟩;unfold isVal;split
   ·rename_i q hu
    rw[hu]at d;exact absurd d.2 (by simp[lO])
   ·rfl
  ·cases h
 ·split at h
  ·rename_i as l' y
   split at h
   ·rename_i d
    cases h;simp only[rel]at g;obtain⟨cs,rfl,_,B⟩:=g;refine⟨?_,ks,hk,d.1⟩;have e:=wv y B;unfold isVal;split
    ·exact⟨cs,rfl,e⟩
    ·rename_i u
     exfalso;have:=d.2;unfold lO at this;split at this
     ·rename_i q hu
      exact u q hu
     ·cases this
   ·cases h
  ·cases h
 ·cases h
theorem HQ{P:Program}:∀(d:Nat) (k:List Field) (off:Nat) (ks:List SK),sR P d k off=some ks→∀(xs:Array Value),cA ks (xs.toList.drop off)=true→∀ w:World,∀ f∈k,f.name ≠ "_" ∧
  ∃ q x vs,flatK P d f.type=some q∧(part f.type xs f.offset).run P w=.ok x w∧isVal P f.type x vs∧cA q vs=true
 |d,[],off,ks,hk,xs,y,w,f,h=>by cases h
 | d,g::k,off,ks,hk,xs,y,w,f,h=>by
  unfold sR p9 at hk;split at hk
  ·cases hk
  rename_i B;split at hk
  case h_2=>cases hk
  rename_i q n W I N;split at hk
  case isFalse=>cases hk
  rename_i J;split at hk
  case h_2=>cases hk
  rename_i l O;cases hk;have M:g.offset=off:=by
   by_cases e:g.offset=off
   ·exact e
   ·exact(B (.inr e)).elim
  obtain⟨u,v⟩:=wu y;rw[←J]at u v;rcases bV.1 h with rfl|h
  ·obtain ⟨x, U, V⟩ := Ay N I J xs off u w
   exact⟨fun e=>B (.inl e),q,x,_,I,by rw[M]; exact U,V,u⟩
  ·exact HQ d k (off+n) l O xs (by rw[n4]at v; exact v) w f h
theorem HR{P:Program}(em:Bool):∀(d:Nat) (t:TypeId) (ks:List SK),flatK P d t=some ks→∀(D:Nat),d≤D→∀(x:Value) (vs:List Value),isVal P t x vs→cA ks vs=true →
  ∀ w,(sB em D t x).run P w=.ok () w
 |0,_,_,hk=>by simp[flatK]at hk
 | d+1,t,ks,hk=>by
  intro D hD x vs h g w;obtain⟨D,rfl⟩:∃ u,D=u+1:=⟨D-1,by omega⟩
  unfold flatK at hk;cases hu:P.underlying t with
  |none=>rw[hu]at hk; cases hk
  | some v =>
   rw[hu]at hk;cases v with
   | struct q =>
    simp only[]at hk;split at hk
    ·cases hk
    simp only[isVal,hu]at h;obtain⟨a,rfl,rfl⟩:=h;have each:=HQ d q.toList 0 ks hk a (by simpa using g) w;have deep:∀ f∈q.toList,f.name ≠ "_" ∧ ∃ x,(part f.type a f.offset).run P w=.ok x w∧(sB em D f.type x).run P w=.ok () w:=fun f B=>by
     obtain⟨h1,I,x,vs,J,M,N,O⟩:=each f B;exact⟨h1,x,M,HR em d f.type I J D (by omega) x vs N O w⟩
    rw[sB];simp only[bW,Sem.br hu,bX];rw[←Array.forIn_toList];clear each hk;generalize q.toList=L at deep
    induction L with
    |nil=>simp
    | cons f L U =>
     obtain⟨V,x,p1,W⟩:=deep f (by simp);simp only[List.forIn_cons,bW,V,ne_eq,not_false_eq_true,if_true,bX,p1,W,eY];exact U (fun y hy=>deep y (by simp[hy]))
   | int k =>
    simp at hk;subst hk;simp only[isVal,hu]at h;subst h;simp only[cA,fH]at g;unfold kindOk at g;split at g<;>simp_all[sB,Sem.br hu]
   | string =>
    simp at hk;subst hk;simp only[isVal,hu]at h;subst h;simp only[cA,fH]at g;unfold kindOk at g;split at g<;>simp_all[sB,Sem.br hu]
   | bool =>
    simp at hk;subst hk;simp only[isVal,hu]at h;subst h;simp only[cA,fH]at g;unfold kindOk at g;split at g<;>simp_all[sB,Sem.br hu]
   |_=>simp at hk
theorem fL{P:Program}{d:TypeId}{l:List Value}{c:Value}(h:lU P d l c)(em:Bool)(w:World):(sB em 10000 d c).run P w=.ok () w:=by
 obtain⟨h1,ks,g,k⟩:=h;exact HR em lP d ks g 10000 (by decide) c l h1 k w
theorem SG{P:Program}{g:TypeId}{l m:List Value}{c d:Value}(h:lU P g l c)(h':lU P g m d)(w:World):(vF g c d).run P w=.ok (dm l m) w:=by
 obtain⟨h1,ks,k,u⟩:=h;obtain⟨v,B,q,y⟩:=h';rw[k]at q;cases q;exact Az lP g ks k 10000 (by decide) c d l m h1 v u y w
def dZ(P:Program)(d:TypeId)(k:List Value):List (AV × AV × Nat)→Nat→Option (Option (Nat × AV))
 | [],_=>some none
 | (k',v,_)::es,i=>match gL P d k' with
  |some l=>bif dm k l then some (some (i,v)) else dZ P d k es (i+1)
  |none=>none
def c5(E:Env)(ms:List MapEntry)(i0:Nat):Option (Nat × AV)→Option (Nat × Value)→Prop
 |none,none=>True
 |some (i,v),some (j,c)=>i=j∧rel E v c∧i0≤i∧∃ e,ms[i-i0]? = some e∧e.val=c
 |_,_=>False
theorem HS{P:Program}{E:Env}{g:TypeId}{k:List Value}{c:Value}(hk:lU P g k c)(w:World):∀(es:List (AV × AV × Nat)) (ms:List MapEntry) (i:Nat) (r:Option (Nat × AV)),
  bC E es ms→dZ P g k es i=some r→∃ r',(Rx g c ms i).run P w=.ok r' w∧c5 E ms i r r'
 | [],[],i,r,_,h=>by
  simp only[dZ,aZ]at h;subst h;exact⟨none,rfl,trivial⟩
 | [],_::_,_,_,d,_=>by simp[bC]at d
 |(_,_,_)::_,[],_,_,d,_=>by simp[bC]at d
 | (k',v,n)::es,e::ms,i,r,d,h=>by
  simp only[bC]at d;obtain⟨h1,y,U,V,W,B⟩:=d;simp only[dZ]at h;split at h
  case h_2=>cases h
  rename_i l I;have he:=SG hk (gM I h1) w;cases u:dm k l with
  | true =>
   rw[u]at h he;cases h;refine⟨some (i,e.val),by simp[Rx,he],rfl,y,aG _,e,by simp,rfl⟩
  | false =>
   rw[u]at h he;obtain⟨r',g1,g2⟩:=HS hk w es ms (i+1) r B h;refine⟨r',by simp[Rx,he,g1],?_⟩;cases r with
   | none=>cases r' with
    |none=>trivial
    |some _=>simp[c5]at g2
   | some p=>cases r' with
    |none=>simp[c5]at g2
    | some q =>
     simp only[c5]at g2⊢;obtain⟨J,M,q3,e',N,O⟩:=g2;refine⟨J,M,by omega,e',?_,O⟩;rw[show p.1-i=(p.1-(i+1))+1 from by omega];simpa using N
theorem HT{P:Program}{E:Env}{O:TypeId}{k:List Value}{c:Value}{d:TypeDesc}(hu:P.underlying O=some d)(hk:lU P O k c):∀(es:List (AV × AV × Nat)) (ms:List MapEntry) (i:Nat) (r:Option (Nat × AV)),
  bC E es ms→dZ P O k es i=some r→(∃ r',vI d c ms i=some r'∧c5 E ms i r r')∨vI d c ms i=none
 | [],[],i,r,_,h=>by
  simp only[dZ,aZ]at h;subst h;exact .inl ⟨none,rfl,trivial⟩
 | [],_::_,_,_,M,_=>by simp[bC]at M
 |(_,_,_)::_,[],_,_,M,_=>by simp[bC]at M
 | (k',v,n)::es,e::ms,i,r,M,h=>by
  simp only[bC]at M;obtain⟨h1,W,h3,h4,h5,h6⟩:=M;simp only[dZ]at h;split at h
  case h_2=>cases h
  rename_i l hl;have V:=gM hl h1;have same:vJ d c e.key=some (dm k l)∨vJ d c e.key=none:=by
   obtain⟨p1,ks,u,B⟩:=hk;obtain⟨I,ks',N,y⟩:=V;rw[u]at N;cases N;unfold lP at u;unfold flatK at u;rw[hu]at u;cases d with
   |struct fs=>right; simp[vJ]
   | int kk =>
    simp at u;subst u;simp only[isVal,hu]at p1 I;subst p1; subst I;simp only[cA,fH]at B y;unfold kindOk at B y;left;split at B<;>split at y<;>simp_all[vJ,dm,mP]
   | string =>
    simp at u;subst u;simp only[isVal,hu]at p1 I;subst p1; subst I;simp only[cA,fH]at B y;unfold kindOk at B y;left;split at B<;>split at y<;>simp_all[vJ,dm,mP,beq_toListBytes]
   | bool =>
    simp at u;subst u;simp only[isVal,hu]at p1 I;subst p1; subst I;simp only[cA,fH]at B y;unfold kindOk at B y;left;split at B<;>split at y<;>simp_all[vJ,dm,mP]
   |_=>simp at u
  rcases same with J|J
  ·cases U : dm k l with
   | true =>
    rw[U]at h J;cases h;exact .inl ⟨some (i,e.val),by simp[vI,J],rfl,W,aG _,e,by simp,rfl⟩
   | false =>
    rw[U]at h J;rcases HT hu hk es ms (i+1) r h6 h with⟨r',g1,g2⟩|g
    ·refine .inl ⟨r', by simp [vI, J, g1], ?_⟩
     cases r with
     | none=>cases r' with
      |none=>trivial
      |some _=>simp[c5]at g2
     | some p=>cases r' with
      |none=>simp[c5]at g2
      | some q =>
       simp only[c5]at g2⊢;obtain⟨I,N,y,e',q4,q5⟩:=g2;refine⟨I,N,by omega,e',?_,q5⟩;rw[show p.1-i=(p.1-(i+1))+1 from by omega];simpa using q4
    ·exact .inr (by simp[vI,J,g])
  ·exact .inr (by simp[vI,J])
theorem gy{P:Program}{E:Env}{q:TypeId}{k:List Value}{c:Value}(hk:lU P q k c)(w:World){es:List (AV × AV × Nat)}{ms:List MapEntry}{r:Option (Nat × AV)}
  (v:bC E es ms) (h:dZ P q k es 0=some r):∃ r',(Ry q c ms).run P w=.ok r' w∧c5 E ms 0 r r':=by
 have hu:∃ d,P.underlying q=some d:=by
  obtain⟨_,ks,u,_⟩:=hk;unfold lP at u;unfold flatK at u;split at u<;>first|exact⟨_,by assumption⟩|cases u
 obtain⟨d,hu⟩:=hu;rcases HT hu hk es ms 0 r v h with⟨r',g1,g2⟩|g
 ·exact⟨r',by simp[Ry,Sem.br hu,g1],g2⟩
 ·obtain ⟨r', g1, g2⟩ := HS hk w es ms 0 r v h
  exact⟨r',by simp[Ry,Sem.br hu,g,g1],g2⟩
def cW(P:Program)(t:TypeId):Option (TypeId × TypeId):=match P.underlying t with
 |some (.map k e)=>some (k,e)
 |_=>none
theorem e_{P:Program}{t k e:TypeId}(h:cW P t=some (k,e)):P.underlying t=some (.map k e):=by
 unfold cW at h;split at h
 ·rename_i h1; cases h; exact h1
 ·cases h
def gz(P:Program)(t:TypeId):Option AV:=match P.info? t with
 | some i=>match i.zero with
  |some z=>some (AV.pY z)
  |none=>none
 |none=>none
theorem qg{P:Program}{t:TypeId}{a:AV}(h:gz P t=some a)(w:World):∃ z,(zeroValue t).run P w=.ok z w∧∀ E,rel E a z:=by
 unfold gz at h;split at h
 ·rename_i i hi
  split at h
  ·rename_i z d
   cases h;exact⟨z,kT hi d w,fun E=>He E z⟩
  ·cases h
 ·cases h
def lV(P:Program)(t:TypeId):Option AV:=match gz P t,AU P t with
 |some (.lit (.slice none 0 0)),some ks=>some (.listF ks [])
 |some z,_=>some z
 |none,_=>none
theorem HU{P:Program}{t:TypeId}{a:AV}(h:lV P t=some a)(w:World):∃ z,(zeroValue t).run P w=.ok z w∧∀ E,rel E a z:=by
 unfold lV at h;split at h
 ·rename_i ks h1 d
  cases h;obtain⟨z,g1,g2⟩:=qg h1 w;refine⟨z,g1,fun E=>?_⟩;have:=g2 E;simp only[rel]at this;subst this;simp only[rel,dO,G.rows];exact⟨none,0,rfl,aG _,.inl (by first|rfl|trivial)⟩
 ·rename_i z h1 _
  cases h;exact qg ‹gz P t=some a› w
 ·cases h
def fB(P:Program)(t:TypeId)(m k:AV)(ok:Bool)(H:List ab):Option AV :=
 match cW P t,m with
 | some (d,g),.map id=>match H[id]? with
  | some (.map es _)=>match gL P d k,lV P g with
   | some h,some z=>match dZ P d h es 0 with
    | some r=>let v:=match r with
      |some (_,v)=>v
      |none=>z
     some (match ok with
      |true=>.tuple [v,.lit (.bool r.isSome)]
      |false=>v)
    |none=>none
   |_,_=>none
  |_=>none
 |_,_=>none
theorem oy{E:Env}(HE:au E){id cl:Nat}{es:List (AV × AV × Nat)}{c:Value}(hid:E.H[id]? = some (.map es cl))(d:rel E (.map id) c) :
  ∃ b n ms,c=.map (some b)∧E.loc[id]? = some (some (b,n))∧E.w.heap[b]? = some (.map ms cl)∧bC E es ms.toList:=by
 have ho:=HE.obj id _ hid;simp only[aN]at ho;obtain⟨b,n,ms,h1,g,h⟩:=ho;simp only[rel]at d;obtain⟨_,_,k⟩:=d;obtain⟨q,u,g1,g2⟩:=k ⟨_,hid,rfl⟩;rw[h1]at g1;simp only[aZ,be]at g1;obtain⟨rfl,rfl⟩:=g1;exact⟨b,n,ms,g2,h1,g,h⟩
theorem HV{P:Program}{E:Env}(HE:au E){t:TypeId}{m k v:AV}{ok:Bool}{c d:Value}(h:fB P t m k ok E.H=some v)(hm:rel E m c)(hk:rel E k d) :
  ∃ u,(j0 t c d ok).run P E.w=.ok u E.w∧rel E v u:=by
 unfold fB at h;split at h
 case h_2=>cases h
 rename_i kt et id y;split at h
 case h_2=>cases h
 rename_i es cl hid;split at h
 case h_2=>cases h
 rename_i kv z M N;split at h
 case h_2=>cases h
 rename_i r O;obtain⟨b,n,ms,rfl,h1,U,V⟩:=oy HE hid hm;have g:=gM M hk;obtain⟨r',g1,g2⟩:=gy g E.w V O;obtain⟨B,W,z2⟩:=HU N E.w;have I:(getObj b).run P E.w=.ok (.map ms cl) E.w:=by simp[getObj,fV,U]
 cases h;cases r with
 | none =>
  cases r' with
  |some _=>simp[c5]at g2
  | none =>
   refine⟨if ok then .tuple #[B,.bool false] else B,?_,?_⟩
   ·simp only[j0,bW,Sem.br (e_ y),bX,I,eY,fL g,g1,W]
   ·cases ok with
    |true=>simp[rel,af,z2 E]
    |false=>simpa using z2 E
 | some p =>
  cases r' with
  |none=>simp[c5]at g2
  | some q =>
   simp only[c5]at g2;obtain⟨q1,J,_,_,_,_⟩:=g2;refine⟨if ok then .tuple #[q.2,.bool true] else q.2,?_,?_⟩
   ·simp only[j0,bW,Sem.br (e_ y),bX,I,eY,fL g,g1]
   ·cases ok with
    |true=>simp[rel,af,J]
    |false=>simpa using J
theorem SH{E:Env}(HE:au E):cL E (.map E.H.length) (E.H++[.map [] 0]) (.map (some E.w.heap.size)) { E.w with heap:=E.w.heap.push (.map #[] 0) }:=by
 have d:=Ext.push E.w (.map #[] 0);have hle:=Env.iY (o:=.map [] 0) (l:=some (E.w.heap.size,0)) HE.len d (fun b n hb=>by cases hb; exact aG _);have hblk:(E.w.heap.push (.map #[] 0))[E.w.heap.size]? = some (.map #[] 0):=by simp
 refine⟨E.loc++[some (E.w.heap.size,0)],E.X.r,?_,au.push HE d (fun b n hb=>?_) ?_,hle⟩
 ·simp only [rel]
  refine⟨⟨_,rfl⟩,⟨.map [] 0,by simp,rfl,fun v g=>ef _⟩,fun _=>⟨E.w.heap.size,0,?_,rfl⟩⟩;rw[←HE.len]; simp
 ·cases hb
  exact⟨aG _,by simp⟩
 ·simp only [aN]
  refine⟨E.w.heap.size,0,#[],?_,hblk,by simp[bC]⟩;simp only[Env.push]; rw[←HE.len]; simp
def oz(id:Nat)(H:List ab):Option (AV × List ab) :=
 match H[id]? with
 |some .dI=>some (.map id,H.set id (.map [] 0))
 |_=>none
theorem AY{id:Nat}{H H':List ab}{v:AV}(h:oz id H=some (v,H')):H[id]? = some .dI∧v=.map id∧H'=H.set id (.map [] 0):=by
 unfold oz at h;split at h
 ·rename_i hid
  cases h;exact⟨hid,rfl,rfl⟩
 ·cases h
theorem HW{id:Nat}{H:List ab}(h:H[id]? = some .dI):oz id H=some (.map id,H.set id (.map [] 0)):=by
 unfold oz;rw[h]
theorem SI{E:Env}(HE:au E){id:Nat}(hid:E.H[id]? = some .dI):cL E (.map id) (E.H.set id (.map [] 0)) (.map (some E.w.heap.size)) { E.w with heap:=E.w.heap.push (.map #[] 0) }:=by
 have d:=Ext.push E.w (.map #[] 0);have B:=aK hid;have k:(ab.dI).born=true→(ab.dI).aF = none→(ab.map [] 0).aF = none:=fun h=>by cases h
 have y:∀ v,(ab.map [] 0).aF = some v→∀ u,(ab.dI).aF = some u→u<v:=fun v _ u hu=>by cases hu
 have I:∀ v u,(ab.map [] 0).aF = some v→(ab.dI).aF = some u→u≤v:=fun v u _ hu=>by cases hu
 have hblk:(E.w.heap.push (.map #[] 0))[E.w.heap.size]? = some (.map #[] 0):=by simp
 have q:(E.loc.set id (some (E.w.heap.size,0)))[id]? = some (some (E.w.heap.size,0)):=bB (by rw[HE.len]; exact B);have hle:E.le { w:={ E.w with heap:=E.w.heap.push (.map #[] 0) },H:=E.H.set id (.map [] 0),loc:=E.loc.set id (some (E.w.heap.size,0)),X:=E.X } :=
  Env.iZ hid HE.len d.size (fun x g _=>d.same x g) (fun b n h=>by cases h; exact .inl (aG _)) (.inr y) I k
 refine⟨E.loc.set id (some (E.w.heap.size,0)),E.X.r,?_,?_,hle⟩
 ·simp only [rel]
  exact⟨⟨_,rfl⟩,⟨.map [] 0,by simp[B],rfl,fun v J=>ef _⟩,fun _=>⟨E.w.heap.size,0,q,rfl⟩⟩
 ·refine au.kf HE hid d.size (fun x g _ => d.same x g) (fun b n h => by cases h; exact .inl ⟨aG _, by simp⟩) (.inr y) I k ?_
  simp only[aN];exact⟨E.w.heap.size,0,#[],q,hblk,by simp[bC]⟩
theorem SJ{P:Program}{E:Env}(HE:au E){t:TypeId}{id:Nat}{v:AV}{H':List ab}(h:oz id E.H=some (v,H')) :
  ∃ u w',(Rz t none).run P E.w=.ok u w'∧cL E v H' u w':=by
 obtain⟨h1,rfl,rfl⟩:=AY h;exact⟨_,_,by simp[Rz,newObj]; rfl,SI HE h1⟩
theorem HX{a b:ByteArray}(h:a.toList=b.toList):a=b:=by
 have h1:(a==b)=true:=by rw[beq_toListBytes,h]; simp
 obtain⟨x⟩:=a;obtain⟨y⟩:=b;have e:x=y:=by simpa using(show (x==y)=true from h1)
 rw[e]
theorem HY:∀{l m:List Value} {ks:List SK},cA ks l=true→cA ks m=true→dm l m=true→l=m
 | [],[],_,_,_,_=>rfl
 | a::l,b::m,ks,h1,d,h=>by
  cases ks with
  |nil=>simp[cA]at h1
  | cons k ks =>
   simp only[cA,aB]at h1 d;simp only[dm,aB]at h;have e:a=b:=by
    have g:=h1.1;have q:=d.1;have u:=h.1;unfold kindOk at g q;split at g<;>split at q<;>simp_all[mP]
    exact HX h.1
   rw[e,HY h1.2 d.2 h.2]
 | [],_::_,_,_,_,h|_::_,[],_,_,_,h=>by simp[dm]at h
theorem HZ{ks:List SK}:∀{l:List Value},cA ks l=true→∀(n:Nat),(l.zip l).all (fun(x,y)=>GL n x y)=true:=by
 intro l
 induction l generalizing ks with
 |nil=>intro _ _; rfl
 | cons a l d =>
  intro h n;cases ks with
  |nil=>simp[cA]at h
  | cons k ks =>
   simp only[cA,aB]at h;simp only[List.zip_cons_cons,List.all_cons,aB];refine⟨?_,d h.2 n⟩;have hk:=h.1;unfold kindOk at hk;split at hk<;>cases n<;>simp_all[GL,beq_toListBytes]
theorem wH{P:Program}{q:TypeId}{l m:List Value}{c d:Value}(h:lU P q l c)(h':lU P q m d)(he:dm l m=true):c=d∧GL 10000 d c=true:=by
 obtain⟨h1,ks,B,k⟩:=h;obtain⟨g,J,u,I⟩:=h';rw[B]at u;cases u;have e:=HY k I he;subst e;unfold isVal at h1 g;split at h1
 ·rename_i v hu
  rw[hu]at g;simp only[]at g;obtain⟨a,rfl,ha⟩:=h1;obtain⟨b,rfl,hb⟩:=g;have:a=b:=by apply eZ; rw[ha,hb]
  subst this;refine⟨rfl,?_⟩;simp only[GL,beq_self_eq_true,Bool.true_and];rw[ha];exact HZ k 9999
 ·rename_i y
  split at g
  ·rename_i v hu
   exact(y v hu).elim
  ·have : c = d := by rw [h1] at g; simpa using g
   subst this;refine⟨rfl,?_⟩;have:=HZ k 10000;rw[h1]at this;simpa using this
def kV(P:Program)(t:TypeId)(m k v:AV)(H:List ab):Option (List ab) :=
 match cW P t,m with
 | some (d,_),.map id=>match H[id]? with
  | some (.map es cl)=>match gL P d k with
   | some g=>if v.closed=true∧k.closed=true then
     match dZ P d g es 0 with
     |some (some (i,_))=>some (H.set id (.map (es.modify i fun e=>(k,v,e.2.2)) cl))
     |some none=>some (H.set id (.map (es++[(k,v,cl)]) (cl+1)))
     |none=>none
    else none
   |none=>none
  |_=>none
 |_,_=>none
theorem dT{E:Env}:∀{es:List (AV × AV × Nat)} {ms:List MapEntry},bC E es ms↔es.length=ms.length∧∀(i:Nat) x e,es[i]? = some x→ms[i]? = some e →
  rel E x.1 e.key∧rel E x.2.1 e.val∧e.born=x.2.2∧x.1.closed=true∧x.2.1.closed=true
 | [],[]=>by simp[bC]
 | [],_::_=>by simp[bC]
 |(_,_,_)::_,[]=>by simp[bC]
 | (k,v,n)::es,e::ms=>by
  simp only[bC,dT (es:=es),cB];constructor
  ·rintro ⟨h1, h, q, u, B, M, I⟩
   refine⟨by omega,fun i x y d g=>?_⟩;cases i with
   |zero=>simp at d g; subst d; subst g; exact⟨h1,h,q,u,B⟩
   |succ i=>exact I i x y (by simpa using d) (by simpa using g)
  ·rintro ⟨h1, h⟩
   obtain⟨J,a2,a3,a4,a5⟩:=h 0 (k,v,n) e rfl rfl;exact⟨J,a2,a3,a4,a5,by omega,fun i x y d g=>h (i+1) x y (by simpa using d) (by simpa using g)⟩
theorem wI{P:Program}{E:Env}(HE:au E){id b n cl cl':Nat}{es es':List (AV × AV × Nat)}{ms ms':Array MapEntry}(hid:E.H[id]? = some (.map es cl)) (d:E.loc[id]? = some (some (b,n)))
  (hb:E.w.heap[b]? = some (.map ms cl)) (q:bC E es' ms'.toList) :
  ∃ w',(setObj b (.map ms' cl')).run P E.w=.ok () w'∧au { w:=w',H:=E.H.set id (.map es' cl'),loc:=E.loc,X:=E.X }∧E.le { w:=w',H:=E.H.set id (.map es' cl'),loc:=E.loc,X:=E.X }:=by
 have u:=(HE.lt id b n d).1;have k:({ E.w with heap:=E.w.heap.setIfInBounds b (.map ms' cl') }:World).heap.size=E.w.heap.size:=by simp
 have h:∀ y,y≠b→({ E.w with heap:=E.w.heap.setIfInBounds b (.map ms' cl') }:World).heap[y]? = E.w.heap[y]? := by
  intro y B;simp only[zT];rw[if_neg (fun e=>B e.symm)]
 refine⟨{ E.w with heap:=E.w.heap.setIfInBounds b (.map ms' cl') },by simp[setObj,fV,hb],?_,?_⟩
 ·have hle : E.le { w := { E.w with heap := E.w.heap.setIfInBounds b (.map ms' cl') }, H := E.H.set id (.map es' cl'), loc := E.loc, X := E.X } := Env.lR HE hid d (fun v g => g) k h
  refine HE.set hid d (fun v g=>g) k h ?_;simp only[aN];refine⟨b,n,ms',d,by simp[u],?_⟩;rw[dT]at q⊢;refine⟨q.1,fun i x e I he=>?_⟩;obtain⟨J,a2,a3,a4,a5⟩:=q.2 i x e I he;exact⟨bP hle _ J,bP hle _ a2,a3,a4,a5⟩
 ·exact Env.lR HE hid d (fun v g=>g) k h
theorem sY{P:Program}{g:TypeId}{k:List Value}:∀{es:List (AV × AV × Nat)} {i j:Nat} {v:AV},dZ P g k es i=some (some (j,v))→i≤j∧∃ x l,es[j-i]? = some x∧gL P g x.1=some l∧dm k l=true
 | [],_,_,_,h=>by simp[dZ]at h
 | (k',q,n)::es,i,j,v,h=>by
  simp only[dZ]at h;split at h
  case h_2=>cases h
  rename_i l u;cases d:dm k l with
  | true =>
   rw[d]at h;cases h;exact⟨aG _,(k',q,n),l,by simp,u,d⟩
  | false =>
   rw[d]at h;obtain⟨h1,x,l',y,B,I⟩:=sY h;refine⟨by omega,x,l',?_,B,I⟩;rw[show j-i=(j-(i+1))+1 from by omega];simpa using y
theorem H5{P:Program}{E:Env}(HE:au E){t:TypeId}{m k v:AV}{c d u:Value}{H':List ab}(h:kV P t m k v E.H=some H')(hm:rel E m c)(hk:rel E k d)(W:rel E v u) :
  ∃ w',(lG t c d u).run P E.w=.ok () w'∧au { w:=w',H:=H',loc:=E.loc,X:=E.X }∧E.le { w:=w',H:=H',loc:=E.loc,X:=E.X }:=by
 unfold kV at h;split at h
 case h_2=>cases h
 rename_i kt et id ht;split at h
 case h_2=>cases h
 rename_i es cl hid;split at h
 case h_2=>cases h
 rename_i kv hkv;split at h
 case isFalse=>cases h
 rename_i J;obtain⟨b,n,ms,rfl,h1,O,U⟩:=oy HE hid hm;have I:=gM hkv hk;have e1:(getObj b).run P E.w=.ok (.map ms cl) E.w:=by simp[getObj,fV,O]
 obtain⟨hlen,N⟩:=dT.1 U;split at h
 ·rename_i i v0 M
  cases h;obtain⟨r',g1,g2⟩:=gy I E.w U M;cases r' with
  |none=>simp[c5]at g2
  | some q =>
   simp only[c5]at g2;obtain⟨q1,q2,_,e',V,q5⟩:=g2;obtain⟨_,x,l,f1,f2,f3⟩:=sY M;simp only[fS]at V f1;obtain⟨a1,a2,a3,a4,a5⟩:=N i x e' f1 V;obtain⟨s1,s2⟩:=wH I (gM f2 a1) f3;have q4':ms[i]? = some e':=by simpa using V
   obtain⟨w',r1,r2,r3⟩:=wI (P:=P) HE (es':=es.modify i fun e=>(k,v,e.2.2)) (ms':=ms.modify i fun e=>{ e with key:=d,val:=u }) (cl':=cl) hid h1 O (by
    rw[dT];refine⟨by simp[hlen],fun j y z g B=>?_⟩;simp only[ib]at g;simp only[j5,ib]at B;obtain⟨y0,hy0,rfl⟩:=dM.1 g;obtain⟨z0,hz0,rfl⟩:=dM.1 B;obtain⟨b1,b2,b3,b4,b5⟩:=N j y0 z0 hy0 hz0;by_cases e:i=j
    ·subst e
     simp only[if_true];exact⟨hk,W,b3,J.2,J.1⟩
    ·simp only [if_neg e]
     exact⟨b1,b2,b3,b4,b5⟩)
   refine⟨w',?_,r2,r3⟩;subst q1;have hst:(pN e'.key d).run P E.w=.ok d E.w:=by simp[pN,s2]
   simp only[lG,bW,Sem.br (e_ ht),bX,e1,fL I,g1,q4',eF,lH,hst];exact r1
 ·rename_i M
  cases h;obtain⟨r',g1,g2⟩:=gy I E.w U M;cases r' with
  |some _=>simp[c5]at g2
  | none =>
   obtain⟨w',r1,r2,r3⟩:=wI (P:=P) HE (es':=es++[(k,v,cl)]) (ms':=ms.push { key:=d,val:=u,born:=cl }) (cl':=cl+1) hid h1 O (by
    rw[dT];refine⟨by simp[hlen],fun j y z g B=>?_⟩;simp only[n_,eX,hlen]at g B;by_cases e:j<ms.toList.length
    ·simp only [if_pos e] at g B
     exact N j y z g B
    ·simp only [if_neg e] at g B
     cases hj:j-ms.toList.length with
     | zero =>
      rw[hj]at g B;simp at g B;subst g; subst B;exact⟨hk,W,rfl,J.2,J.1⟩
     |succ _=>rw[hj]at g; simp at g)
   refine⟨w',?_,r2,r3⟩;simp only[lG,bW,Sem.br (e_ ht),bX,e1,fL I,g1];exact r1
 ·cases h
def sZ(P:Program)(t:TypeId)(m k:AV)(H:List ab):Option (List ab) :=
 match cW P t,m with
 | some (d,_),.map id=>match H[id]? with
  | some (.map es cl)=>match gL P d k with
   | some g=>match dZ P d g es 0 with
    |some (some (i,_))=>some (H.set id (.map (es.eraseIdx i) cl))
    |some none=>some (H.set id (.map es cl))
    |none=>none
   |none=>none
  |_=>none
 |_,_=>none
theorem SL{P:Program}{E:Env}(HE:au E){t ty:TypeId}{tys:Array TypeId}{m k:AV}{c d:Value}{cs:Array Value}{H':List ab}(h:sZ P t m k E.H=some H')(h0:tys[0]? = some t)
  (N:cs[0]? = some c) (O:cs[1]? = some d) (hm:rel E m c) (hk:rel E k d) :
  ∃ w',(RA tys ty cs).run P E.w=.ok (.tuple #[]) w'∧au { w:=w',H:=H',loc:=E.loc,X:=E.X }∧E.le { w:=w',H:=H',loc:=E.loc,X:=E.X }:=by
 unfold sZ at h;split at h
 case h_2=>cases h
 rename_i kt et id U;split at h
 case h_2=>cases h
 rename_i es cl hid;split at h
 case h_2=>cases h
 rename_i kv hkv;obtain⟨b,n,ms,rfl,h1,I,B⟩:=oy HE hid hm;have v:=gM hkv hk;have V:(getObj b).run P E.w=.ok (.map ms cl) E.w:=by simp[getObj,fV,I]
 obtain⟨hlen,M⟩:=dT.1 B;split at h
 ·rename_i i v0 J
  cases h;obtain⟨r',g1,g2⟩:=gy v E.w B J;cases r' with
  |none=>simp[c5]at g2
  | some q =>
   simp only[c5]at g2;obtain⟨q1,q2,_,e',q4,q5⟩:=g2;obtain⟨w',r1,r2,r3⟩:=wI (P:=P) HE (es':=es.eraseIdx i) (ms':=ms.eraseIdxIfInBounds i) (cl':=cl) hid h1 I (by
    rw[dT];have e:(ms.eraseIdxIfInBounds i).toList=ms.toList.eraseIdx i:=by simp
    rw[e];refine⟨by simp[List.length_eraseIdx,hlen],fun j y z g u=>?_⟩;rw[List.getElem?_eraseIdx]at g u;by_cases W:j<i
    ·simp only [if_pos W] at g u
     exact M j y z g u
    ·simp only [if_neg W] at g u
     exact M (j+1) y z g u)
   refine⟨w',?_,r2,r3⟩;subst q1;simp only[RA,h0,N,O,bW,Sem.br (e_ U),bX,V,fL v,g1];rw[r1];rfl
 ·rename_i J
  cases h;obtain⟨r',g1,g2⟩:=gy v E.w B J;cases r' with
  |some _=>simp[c5]at g2
  | none =>
   obtain⟨w',r1,r2,r3⟩:=wI (P:=P) HE (es':=es) (ms':=ms) (cl':=cl) hid h1 I B;refine⟨w',?_,r2,r3⟩;simp only[RA,h0,N,O,bW,Sem.br (e_ U),bX,V,fL v,g1];rw[r1];rfl
 ·cases h
end Go.AL

namespace Go.AL
open Go
variable [Dr]
theorem H6{α:Type}{k:Nat}:∀{l:List (List α)} (n:Nat),(∀ r∈l,r.length=k)→(l.take n).flatten=l.flatten.take (n*k)
 | [],n,_=>by simp
 |r::l,0,_=>by simp
 | r::l,n+1,h=>by
  have d:r.length=k:=h r db;have g:=H6 (l:=l) n (fun x q=>h x (df _ q));have e:(n+1)*k=k+n*k:=by rw[fh]; omega
  simp only[zM,pJ,g,e];rw[List.take_append,d];have u:r.take (k+n*k)=r:=List.take_of_length_le (by omega);have v:k+n*k-k=n*k:=by omega
  rw[u,v]
theorem H7{α:Type}{k:Nat}:∀{l:List (List α)} (n:Nat),(∀ r∈l,r.length=k)→(l.drop n).flatten=l.flatten.drop (n*k)
 | [],n,_=>by simp
 |r::l,0,_=>by simp
 | r::l,n+1,h=>by
  have d:r.length=k:=h r db;have g:=H7 (l:=l) n (fun x q=>h x (df _ q));have e:(n+1)*k=k+n*k:=by rw[fh]; omega
  simp only[agp,pJ,g,e];rw[List.drop_append,d];have u:r.drop (k+n*k)=[]:=List.drop_eq_nil_of_le (by omega);have v:k+n*k-k=n*k:=by omega
  rw[u,v,kM]
theorem SM{P:Program}{E:Env}(HE:au E){id k ae b m off:Nat}{rows news:List (List AV)}{vals:List Value}(hid:E.H[id]? = some (.vec k ae rows)) (u:E.loc[id]? = some (some (b,m)))
  (g:af E news.flatten vals) (h1:∀ x∈vals,dh x=true) (hw:∀ r∈news,r.length=k) (hcl:eQ news) (hle:off+news.length≤rows.length) :
  ∃ w',(storeCells ⟨b,off*k,none⟩ vals).run P E.w=.ok () w'∧au { w:=w',H:=E.H.set id (.vec k ae (rows.take off++news++rows.drop (off+news.length))),loc:=E.loc,X:=E.X } ∧
   E.le { w:=w',H:=E.H.set id (.vec k ae (rows.take off++news++rows.drop (off+news.length))),loc:=E.loc,X:=E.X }:=by
 rcases HE.obj id _ hid with⟨y,_⟩|⟨b',m',y,⟨cur,el,hblk,O⟩,e3,e4,e5⟩
 ·rw[u]at y; cases y
 rw[u]at y;cases y;have q:∀ r∈rows,r.length=k:=AK e5;have hlen:vals.length=news.length*k:=by rw[←fI g,qd hw]
 have hmul:(off+news.length)*k≤rows.length*k:=sx _ hle;rw[fh]at hmul;have hmul2:rows.length*k≤m*k:=sx _ e3;have B:off*k+0+vals.length≤cur.size:=by rw[O]; omega
 have J:=run_storeCells_at P b (off*k) el vals 0 cur E.w hblk B (fun v g=>by rw[wx]; exact h1 v g);simp only[n5]at J B;generalize I:E.w.setRow b (cur.toList.take (off*k)++vals++cur.toList.drop (off*k+vals.length)).toArray=w' at J;have M:w'.heap.size=E.w.heap.size:=by rw[←I]; exact setRow_size _ _ _
 have henv:dJ E.w w':=by rw[←I]; exact⟨rfl,rfl,rfl,by first|exact fun _=>aG _|exact fun _=>eL _ _⟩
 have N:∀ x,x≠b→w'.heap[x]? = E.w.heap[x]? := by intro x hx; rw[←I]; exact setRow_other _ _ _ _ hx
 have W:w'.heap[b]? = some (.cells (cur.toList.take (off*k)++vals++cur.toList.drop (off*k+vals.length)).toArray el (0,0)):=by
  rw[←I]; exact setRow_heap E.w b cur _ el (0,0) hblk
 have U:∀ v,(ab.vec k ae (rows.take off++news++rows.drop (off+news.length))).aF = some v→(ab.vec k ae rows).aF = some v:=fun v g=>by simpa[ab.aF]using g
 have V:=Env.lR (o':=.vec k ae (rows.take off++news++rows.drop (off+news.length))) HE hid u U M N;have hl2:(rows.take off++news++rows.drop (off+news.length)).length=rows.length:=by
  simp only[fi,lD,n9];omega
 refine⟨w',J,au.set HE hid u U M N ?_,V⟩;simp only[aN];right;refine⟨b,m,u,⟨_,el,W,?_⟩,by rw[hl2]; exact e3,?_,?_⟩
 ·simp only [zQ, fi, lD, n9, kL, O] at B ⊢
  omega
 ·intro r d
  simp only[cS]at d;rcases d with(h|h)|h
  ·exact e4 r (sv h)
  ·exact hcl r h
  ·exact e4 r (vE h)
 ·refine wz ?_ ?_
  ·intro r d
   simp only[cS]at d;rcases d with(h|h)|h
   ·exact q r (sv h)
   ·exact hw r h
   ·exact q r (vE h)
  ·rw [vH, vH, H6 off q, H7 _ q]
   have hflat:=wy e5;have hcs:news.flatten.length=news.length*k:=qd hw;have:=AP (E:=E) (E':={ w:=w',H:=E.H.set id (.vec k ae (rows.take off++news++rows.drop (off+news.length))),loc:=E.loc,X:=E.X }) (o:=0) (col:=off*k) (as:=rows.flatten) (cs:=news.flatten)
    (fun a c d=>bP V a d) hblk (by simpa using W) (by simpa using B) hflat g h1 (by rw[qd q,hcs]; omega)
   rw[hcs]at this;rw[show (off+news.length)*k=off*k+news.length*k from fh _ _ _];exact this
def s7(P:Program)(t:TypeId)(x:AV)(H:List ab):Option (List ab) :=
 match b_ P t,x with
 | .slice e sz _,.vec w id ae off n=>match dS P e,H[id]? with
  | some z,some (.vec k v rows)=>if k=w∧w=sz∧v=ae∧z.length=sz∧0<sz∧off+n≤rows.length then
    some (H.set id (.vec k v (rows.take off++bM n (z.map AV.lit)++rows.drop (off+n)))) else none
  |_,_=>none
 |_,_=>none
theorem SN{P:Program}{E:Env}(HE:au E){t ty:TypeId}{tys:Array TypeId}{x:AV}{c:Value}{cs:Array Value}{H':List ab}(h:s7 P t x E.H=some H')(h0:tys[0]? = some t)
  (J:cs[0]? = some c) (q:rel E x c) :
  ∃ w',(RD tys ty cs).run P E.w=.ok (.tuple #[]) w'∧au { w:=w',H:=H',loc:=E.loc,X:=E.X }∧E.le { w:=w',H:=H',loc:=E.loc,X:=E.X }:=by
 unfold s7 at h;split at h
 case h_2=>cases h
 rename_i e sz by_ w id ae off n hk;obtain⟨hu,i,hi,hs,_⟩:=fX hk;split at h
 case h_2=>cases h
 rename_i z k v rows hz hid;split at h
 case isFalse=>cases h
 rename_i hc;obtain⟨rfl,rfl,rfl,V,hpos,hle⟩:=hc;cases h;obtain⟨i',u,M,W,N,hz3⟩:=kS hz;rw[hi]at M;cases M;simp only[rel]at q;obtain⟨⟨base,cap,rfl,hcap,hb⟩,_,O⟩:=q;obtain⟨q1,q2⟩:=O ⟨_,hid,rfl⟩;cases n with
 | zero =>
  refine⟨E.w,?_,?_,?_⟩
  ·simp only [RD, h0, J, bW, Sem.br hu, bX]
   cases base<;>rfl
  ·simp only [agz, cY, n5, sw]
   rw[kU hid];exact HE
  ·simp only [agz, cY, n5, sw]
   rw[kU hid];exact Env.le.refl E
 | succ n =>
  obtain⟨b,o,rfl⟩:=hb (by omega);have g:∃ b m,E.loc[id]? = some (some (b,m)):=by
   rcases HE.obj id _ hid with⟨_,y⟩|⟨B,m',y,_⟩
   ·subst y
    simp at hle
   ·exact⟨B,m',y⟩
  obtain⟨B,m,g⟩:=g;obtain⟨g1,o',g2,g3⟩:=q2 B m g;have ho:=g2 (by omega);subst ho;simp only[jv,aZ,Gv]at g3;obtain⟨⟨rfl,rfl,_⟩,_,_⟩:=g3;have U:(vG u.cells (n+1)).toList=(bM (n+1) z).flatten:=by
   rw[←N];have hzs:0<u.cells.size:=by
    have:u.cells.size=z.length:=by rw[←N]; simp
    omega
   exact range_zero u.cells (n+1) hzs
  have I:∀ r∈bM (n+1) (z.map AV.lit),r=z.map AV.lit:=fun r d=>(RE.1 d).2;obtain⟨w',r1,r2,r3⟩:=SM (P:=P) HE (off:=off) (news:=bM (n+1) (z.map AV.lit)) (vals:=(bM (n+1) z).flatten) hid g (sW z (n+1))
   (fun x q=>hz3 x (sX q)) (fun r d=>by rw[I r d]; simp[V]) (fun r d=>by rw[I r d]; exact AX z) (by simpa using hle)
  simp only[List.length_replicate]at r2 r3;refine⟨w',?_,r2,r3⟩;simp only[RD,h0,J,bW,Sem.br hu,bX,kT hi W,U];rw[r1];rfl
theorem SO{P:Program}{w:World}{t xt ty e:TypeId}{i:TypeInfo}{z:Value}{sz:Nat}{base:Option Addr}{m:Nat}{k k':IntKind}
  (q:P.underlying t=some (.slice e)) (u:P.underlying xt=some (.int k)) (hi:P.info? e=some i) (v:i.size=sz) (y:i.zero=some z) (d:0<sz) (h0:0<m) (hm:m≤1048576) (hb:i.bytes≤1048576) :
  ∃ C,m≤C∧(lE #[t,xt] ty #[.slice base 0 0,.int k' (m:Int)]).run P w =
   .ok (.slice (some ⟨w.heap.size,0,none⟩) m C) (w.drew.alloc (.cells ((vG z.cells m).toList++(vG z.cells (C-m)).toList).toArray e)):=by
 have g:IntKind.i64.wrap (m:Int)=m:=wrap_small (by omega) (by omega);have h1:¬ (m≤0):=by omega
 have B:¬ ((m:Int)<0):=by omega
 have h:m*i.bytes≤1048576*1048576:=agu hm hb;have I:¬ ((281474976710656:Int)<(m:Int)*(i.bytes:Int)):=by
  have:((m*i.bytes:Nat):Int)≤1099511627776:=Int.ofNat_le.2 (mw h (by decide));rw[Int.natCast_mul]at this;omega
 have J:¬ (IntKind.i64.max<(m:Int)):=by
  show ¬ ((9223372036854775807:Int)<(m:Int))
  omega
 have O:GB m 0*i.bytes≤281474976710656:=growslice_fits (by omega) (by omega);have M:¬ (281474976710656<GB m 0*i.bytes):=by omega
 have N:¬ (m*sz=0):=by
  have:=Nat.mul_pos h0 d;omega
 refine⟨grownCap w m 0 e,?_,?_⟩
 ·simp[grownCap,agv]
 ·simp [lE, run_underlying q, run_underlying u, sizeOf, typeInfo, zeroValue, hi, y, v, asInt, asIntOf, g, h1, B, I, J, M, N, agw, newRow, grownCap, gH]
  rw[if_neg (by omega:¬ m=0),if_neg (by omega:¬ (9223372036854775807:Int)<(m:Int))];cases base<;>simp[loadCells,loadCellsFrom]<;>(congr 2; apply eZ; simp)
def oA(P:Program)(t xt:TypeId)(s x:AV)(H:List ab):Option (AV × List ab) :=
 match b_ P t,b_ P xt,s,x with
 | .slice e sz d,.int _,.lit (.slice none 0 0),.lit (.int _ n)=>match dS P e with
  |some z=>if z.length=sz∧0<sz∧d≤1048576∧0<n∧n≤1048576 then some (.vec sz H.length 0 0 n.toNat,H++[.vec sz 0 (bM n.toNat (z.map AV.lit))]) else none
  |none=>none
 |_,_,_,_=>none
theorem SP{P:Program}{E:Env}(HE:au E){t xt ty:TypeId}{s x v:AV}{H':List ab}{c J:Value}(h:oA P t xt s x E.H=some (v,H'))(M:rel E s c)(g:rel E x J) :
  ∃ u w',(lE #[t,xt] ty #[c,J]).run P E.w=.ok u w'∧cL E v H' u w':=by
 unfold oA at h;split at h
 case h_2=>cases h
 rename_i e sz by_ k k' n hk O;split at h
 case h_2=>cases h
 rename_i z hz;split at h
 case isFalse=>cases h
 rename_i hc;obtain⟨h1,h2,h3,h4,h5⟩:=hc;cases h;obtain⟨hu,i,hi,U,hby⟩:=fX hk;obtain⟨i',q,I,V,y,W⟩:=kS hz;rw[hi]at I;cases I;simp only[rel]at M g;subst M;subst g;obtain⟨m,rfl⟩:∃ m:Nat,n=(m:Int):=⟨n.toNat,by omega⟩
 obtain⟨C,g1,g2⟩:=SO (P:=P) (w:=E.w) (ty:=ty) (base:=none) (k':=k') (m:=m) hu (Hr O) hi U V h2 (by omega) (by omega) (by omega);have hzs:0<q.cells.size:=by
  have:q.cells.size=z.length:=by rw[←y]; simp
  omega
 have N:(vG q.cells m).toList=(bM m z).flatten:=by rw[←y]; exact range_zero q.cells m hzs
 rw[N]at g2;have B:∀ r∈bM m (z.map AV.lit),r=z.map AV.lit:=fun r d=>(RE.1 d).2;refine⟨_,_,g2,?_⟩;simp only[Int.toNat_natCast];refine HD HE (sW z m) (fun x g=>W x (sX g)) (fun r d=>by rw[B r d]; simp[h1]) (fun r d=>by rw[B r d]; exact AX z) (by simp) g1 ?_;simp only[kL,size_zeroCells];rw[←h1,←y];simp
end Go.AL

namespace Go.AL
open Go
variable [Dr]
def s8(P:Program)(t:TypeId)(n:Nat)(parts:List (Nat × AV))(H:List ab):Option (AV × List ab) :=
 match qf P t n parts with
 |some (.list sz rows)=>some (.vec sz H.length 0 0 rows.length,H++[.vec sz 0 rows])
 |_=>none
theorem H8(k:Nat):∀(n:Nat) (out:List AV),out.length=n*k→(chunk k n out).flatten=out
 | 0,out,h=>by
  have:out=[]:=zP (by simpa using h);subst this;rfl
 | n+1,out,h=>by
  simp only[chunk,pJ];rw[H8 k n (out.drop k) (by rw[n9,h,agA]; omega)];exact sw k out
theorem H9(k:Nat):∀(n:Nat) (out:List AV),out.length=n*k→∀ r∈chunk k n out,r.length=k
 |0,_,_,r,d=>by simp[chunk]at d
 | n+1,out,h,r,d=>by
  simp only[chunk]at d;rw[agA]at h;rcases bV.1 d with rfl|d
  ·rw [lD]
   omega
  ·exact H9 k n (out.drop k) (by rw[n9]; omega) r d
theorem SQ{P:Program}{E:Env}(HE:au E){t:TypeId}{n:Nat}{parts:List (Nat × AV)}{cparts:List (Nat × Value)}{v:AV}{H':List ab}(h:s8 P t n parts E.H=some (v,H'))
  (hm:parts.map (·.1)=cparts.map (·.1)) (W:af E (parts.map (·.2)) (cparts.map (·.2))) :
  ∃ u w',(GJ t n cparts.toArray).run P E.w=.ok u w'∧cL E v H' u w':=by
 unfold s8 at h;split at h
 case h_2=>cases h
 rename_i k rows0 h0;cases h;unfold qf at h0;split at h0
 case h_2=>cases h0
 rename_i e sz by_ hk;obtain⟨hu,i,hi,B,_⟩:=fX hk;split at h0
 case h_2=>cases h0
 rename_i z hz;obtain⟨i',g,I,N,J,O⟩:=kS hz;rw[hi]at I;cases I;split at h0
 case isFalse=>cases h0
 rename_i hc;obtain⟨g1,g2,g3⟩:=hc;split at h0
 case h_2=>cases h0
 rename_i out M;split at h0
 case isFalse=>cases h0
 rename_i q;have U:g.cells.size=sz:=by rw[←g1,←J]; simp
 obtain⟨d,y⟩:∃ d:Array Value,d.toList=(bM n z).flatten:=⟨((bM n z).flatten).toArray,by simp⟩
 obtain⟨o,f1,f2,f3⟩:=sS (E:=E) (cs:=d) M (by rw[y]; exact sW z n) (by rw[y]; intro x hx; exact O x (sX hx)) hm W;cases n with
 |zero=>cases h0
 |succ n =>
 cases h0;refine⟨.slice (some ⟨E.w.heap.size,0,none⟩) (n+1) (n+1),{ E.w with heap:=E.w.heap.push (.cells (o.toList++[]).toArray e) },?_,?_⟩
 ·have V : ¬ ((n + 1) * i.size > 2 ^ 24) := by rw [B]; omega
  simp only[GJ,bW,Sem.br hu,bX,Sem.run_sizeOf hi];rw[if_neg V];have h0:¬ ((n+1)*i.size=0):=by
   intro h;rcases Rv.1 h with h|h
   ·omega
   ·omega
  rw[if_neg h0];simp only[bW,kT hi N,bX,eY];have:(GG (fun x=>g.cells[x%g.cells.size]!) (fU ((n+1)*i.size)))=d:=by
   apply eZ;rw[B,←U,range_zero g.cells (n+1) (by omega),J,y]
  rw[this,B,f1];simp[newRow]
 ·rw [sT]
  exact HK HE (C:=n+1) (by rw[H8 k (n+1) out q.2]; exact f2) f3 (H9 k (n+1) out q.2) (AH k _ out q.1) (sT ..) (aG _) (by simp)
end Go.AL

namespace Go.AL
open Go
variable [Dr]
def eH (r:Nat→List (Option (Option (Nat × Nat)))) (l0:Nat) (q:Option (Nat × Nat)):Nat→List (Option (Option (Nat × Nat))):=fun l=>if l=l0 then r l++[some q] else r l
def fC (r:Nat→List (Option (Option (Nat × Nat)))) (l0 h:Nat):Nat→List (Option (Option (Nat × Nat))):=fun l=>if l=l0 then (r l).set h none else r l
def gN (r:Nat→List (Option (Option (Nat × Nat)))) (l0:Nat):Nat→List (Option (Option (Nat × Nat))):=fun l=>if l=l0 then (r l).map fun _=>none else r l
theorem SR{r:Nat→List (Option (Option (Nat × Nat)))}{l0 l h:Nat}{q:Option (Nat × Nat)}{x:Option (Option (Nat × Nat))}(d:(eH r l0 q l)[h]? = some x):(r l)[h]? = some x∨(l=l0∧h=(r l).length∧x=some q):=by
 unfold eH at d;split at d
 ·rename_i e
  rw[eX]at d;split at d
  ·exact .inl d
  ·right
   cases hk:h-(r l).length with
   | zero =>
    rw[hk]at d;simp at d;exact⟨e,by omega,d.symm⟩
   |succ n=>rw[hk]at d; simp at d
 ·exact .inl d
theorem H_{r:Nat→List (Option (Option (Nat × Nat)))}{l0 l h:Nat}{q:Option (Nat × Nat)}(d:h<(r l).length):h<(eH r l0 q l).length∧(eH r l0 q l)[h]? = (r l)[h]? := by
 unfold eH;split
 ·exact⟨by simp; omega,cK d⟩
 ·exact⟨d,rfl⟩
theorem SS{r:Nat→List (Option (Option (Nat × Nat)))}{l0 h0 l h:Nat}{q:Option (Nat × Nat)}(d:(fC r l0 h0 l)[h]? = some (some q)):(r l)[h]? = some (some q)∧¬ (l=l0∧h=h0):=by
 unfold fC at d;split at d
 ·rw [dN] at d
  split at d
  ·split at d<;>cases d
  ·rename_i h1
   exact⟨d,fun e=>h1 e.2.symm⟩
 ·rename_i h1
  exact⟨d,fun e=>h1 e.1⟩
theorem AZ{r:Nat→List (Option (Option (Nat × Nat)))}{l0 h0 l h:Nat}(d:¬ (l=l0∧h=h0)):(fC r l0 h0 l)[h]? = (r l)[h]? := by
 unfold fC;split
 ·rename_i e
  exact aT (fun g=>d ⟨e,g.symm⟩)
 ·rfl
theorem SU{r:Nat→List (Option (Option (Nat × Nat)))}{l0 h0 l:Nat}:(fC r l0 h0 l).length=(r l).length:=by
 unfold fC;split<;>simp
theorem im{r:Nat→List (Option (Option (Nat × Nat)))}{l0 l h:Nat}{q:Option (Nat × Nat)}(d:(gN r l0 l)[h]? = some (some q)):(r l)[h]? = some (some q)∧l≠l0:=by
 unfold gN at d;split at d
 ·rw [bZ] at d
  cases g:(r l)[h]? with
  |none=>rw[g]at d; cases d
  |some y=>rw[g]at d; cases d
 ·rename_i e
  exact⟨d,e⟩
theorem Ia{r:Nat→List (Option (Option (Nat × Nat)))}{l0 l:Nat}:(gN r l0 l).length=(r l).length:=by
 unfold gN;split<;>simp
theorem au.attach{E:Env}(H:au E){id j l0:Nat}{o o' oj:ab}{q:Option (Nat × Nat)}(hid:E.H[id]? = some o)(hlab:o.label=some l0)(hlab':o'.label=some l0)(hver:o'.aF = o.aF)(hj:E.H[j]? = some oj)(hlj:oj.label=none)(hq:E.loc[j]? = some q)
  (ho:E.le { w:=E.w,H:=(E.H.set id o').set j .dead,loc:=E.loc.set j none,X:=E.X.re (eH E.X.r l0 q) }→aN { w:=E.w,H:=(E.H.set id o').set j .dead,loc:=E.loc.set j none,X:=E.X.re (eH E.X.r l0 q) } id o')
  (hmm:o.cZ=none∨o'.cZ=o.cZ:=by first|exact .inl rfl|exact .inr rfl|assumption) :
  au { w:=E.w,H:=(E.H.set id o').set j .dead,loc:=E.loc.set j none,X:=E.X.re (eH E.X.r l0 q) }∧E.le { w:=E.w,H:=(E.H.set id o').set j .dead,loc:=E.loc.set j none,X:=E.X.re (eH E.X.r l0 q) }:=by
 have hne:j≠id:=fun e=>by rw[e,hid]at hj; cases hj; rw[hlab]at hlj; cases hlj
 have hlt:=aK hid;have hltj:=aK hj;have O:∀(i:Nat) x,(E.loc.set j none)[i]? = some (some x)→i≠j∧E.loc[i]? = some (some x):=fun i x hi=>by
  rw[dN]at hi;split at hi
  ·split at hi<;>cases hi
  ·rename_i e
   exact⟨Ne.symm e,hi⟩
 have H_old:∀(i:Nat) x,((E.H.set id o').set j .dead)[i]? = some x→(i=j∧x=.dead)∨(i=id∧x=o')∨(i≠j∧i≠id∧E.H[i]? = some x):=fun i x hi=>by
  by_cases e:i=j
  ·subst e
   rw[bB (by simp; exact hltj)]at hi;cases hi;exact .inl ⟨rfl,rfl⟩
  ·rw [aT (Ne.symm e)] at hi
   by_cases u:i=id
   ·subst u
    rw[bB hlt]at hi;cases hi;exact .inr (.inl ⟨rfl,rfl⟩)
   ·rw [aT (Ne.symm u)] at hi
    exact .inr (.inr ⟨e,u,hi⟩)
 have hid':((E.H.set id o').set j .dead)[id]? = some o':=by
  rw[aT hne,bB hlt]
 have U:∀(l h b m:Nat),(eH E.X.r l0 q l)[h]? = some (some (some (b,m)))→(E.X.r l)[h]? = some (some (some (b,m)))∨(l=l0∧h=(E.X.r l).length∧E.loc[j]? = some (some (b,m))):=fun l h b m hk=>by
  rcases SR hk with g|⟨g1,g2,g3⟩
  ·exact .inl g
  ·cases g3
   exact .inr ⟨g1,g2,hq⟩
 have hle:E.le { w:=E.w,H:=(E.H.set id o').set j .dead,loc:=E.loc.set j none,X:=E.X.re (eH E.X.r l0 q) }:=by
  refine⟨fun i ae hp=>?_,aG _,fun _ _ _=>rfl,fun b hb hno=>?_,fun i ae hp B=>?_,⟨rfl,rfl⟩,fun l h hh=>?_,.refl _,fun i l x h1 d V=>?_⟩
  rotate_right
  ·by_cases e : i = j
   ·subst e
    obtain⟨y,J,h4⟩:=V;simp only[]at J;rw[bB (by simp; exact hltj)]at J;cases J;cases h4
   ·by_cases u : i = id
    ·subst u
     rw[hid]at h1;cases h1;have W:l0=l:=by
      have:=ab.j9 d;rw[hlab]at this;cases this;rfl
     subst W;rcases hmm with h|h
     ·rw[h]at d; cases d
     ·exact⟨⟨[some q],if_pos rfl⟩,o',hid',by rw[h]; exact d⟩
    ·have W : l ≠ l0 := fun W => u (H.uniq i id x o l h1 hid (ab.j9 d) (by rw [W]; exact hlab))
     exact⟨⟨[],by rw[cY]; exact if_neg W⟩,x,by simp only[]; rw[aT (Ne.symm e),aT (Ne.symm u)]; exact h1,d⟩
  ·obtain ⟨x, h1, d⟩ := hp
   by_cases e:i=j
   ·subst e
    exact⟨.dead,by simp only[]; rw[bB (by simp; exact hltj)],rfl,fun v V=>by cases V⟩
   ·by_cases u : i = id
    ·subst u
     rw[hid]at h1;cases h1;exact⟨o',hid',ab.vZ hlab',fun v V=>d.2 v (by rw[←hver]; exact V)⟩
    ·exact⟨x,by simp only[]; rw[aT (Ne.symm e),aT (Ne.symm u)]; exact h1,d⟩
  ·rintro (⟨i, c, hi⟩ | ⟨l, h, m, hm⟩)
   ·exact hno (.inl ⟨i,c,(O i _ hi).2⟩)
   ·rcases U l h b m hm with h1 | ⟨_, _, h1⟩
    ·exact hno (.inr ⟨l,h,m,h1⟩)
    ·exact hno (.inl ⟨j,m,h1⟩)
  ·obtain ⟨x, h1, d⟩ := B
   rcases H_old i x h1 with⟨_,rfl⟩|⟨rfl,rfl⟩|⟨N,u,J⟩
   ·cases d
   ·exact⟨⟨o,hid,by rw[←hver]; exact d⟩,by simp only[]; rw[aT hne]⟩
   ·exact⟨⟨x,J,d⟩,by simp only[]; rw[aT (Ne.symm N)]⟩
  ·obtain ⟨g1, g2⟩ := H_ (r := E.X.r) (l0 := l0) (q := q) hh
   exact⟨g1,fun y M=>by
    have M:(eH E.X.r l0 q l)[h]? = some (some y):=M
    rwa [g2]at M⟩
 refine⟨⟨by simp[H.len],fun i k b m n hi hk=>H.inj i k b m n (O i _ hi).2 (O k _ hk).2,fun i b m hi=>H.lt i b m (O i _ hi).2,fun b hb=>H.X b hb,fun i x hi=>?_,H.eR.bF hle.toC,fun l h l' h' b m n h1 d=>?_,fun i b m l h n hi hk=>?_,fun l h b m hk=>?_,fun i k x y l hi hk h1 d=>?_,fun l hn h y M=>?_⟩,hle⟩
 ·rcases H_old i x hi with ⟨rfl, rfl⟩ | ⟨rfl, rfl⟩ | ⟨N, u, J⟩
  ·simp only [aN]
   rw[bB (by rw[H.len]; exact hltj)]
  ·exact ho hle
  ·refine jz (fun a _ hr => bP hle a hr) (by simp only []; rw [aT (Ne.symm N)]) (fun _ _ _ => rfl) (fun l B => ?_) (H.obj i x J)
   have hne2:l≠l0:=fun e=>u (H.uniq i id x o l J hid B (by rw[hlab,e]));exact⟨if_neg hne2,fun _ _ _ _=>rfl⟩
 ·rcases U l h b m h1 with g1 | ⟨g1, g2, g3⟩ <;> rcases U l' h' b n d with I | ⟨I, k2, k3⟩
  ·exact H.eu _ _ _ _ _ _ _ g1 I
  ·exact(H.cN _ _ _ _ _ _ k3 g1).elim
  ·exact(H.cN _ _ _ _ _ _ g3 I).elim
  ·exact⟨by rw[g1,I],by rw[g2,k2,g1,I]⟩
 ·obtain ⟨g0, g1⟩ := O i _ hi
  rcases U l h b n hk with I|⟨I,k2,k3⟩
  ·exact H.cN _ _ _ _ _ _ g1 I
  ·exact g0 (H.inj _ _ _ _ _ g1 k3)
 ·rcases U l h b m hk with I | ⟨I, k2, k3⟩
  ·exact H.cu _ _ _ _ I
  ·exact H.lt _ _ _ k3
 ·have key:∀ (i:Nat) x,((E.H.set id o').set j .dead)[i]? = some x→x.label=some l→∃ y,E.H[i]? = some y∧y.label=some l:=by
   intro i x hi B;rcases H_old i x hi with⟨_,rfl⟩|⟨rfl,rfl⟩|⟨N,u,J⟩
   ·cases B
   ·exact⟨o,hid,by rw[hlab,←hlab',B]⟩
   ·exact⟨x,J,B⟩
  obtain⟨x',a1,a2⟩:=key i x hi h1;obtain⟨y',b1,b2⟩:=key k y hk d;exact H.uniq i k x' y' l a1 b1 a2 b2
 ·have hne2 : l ≠ l0 := fun e => hn id o' hid' (by rw [hlab', e])
  have M:(eH E.X.r l0 q l)[h]? = some (some y):=M;unfold eH at M;rw[if_neg hne2]at M;refine H.fJ l (fun i x hi B=>?_) h y M;by_cases e:i=id
  ·subst e
   rw[hid]at hi;cases hi;exact hne2 (by rw[hlab]at B; cases B; rfl)
  ·by_cases N : i = j
   ·subst N
    rw[hj]at hi;cases hi;rw[hlj]at B;cases B
   ·exact hn i x (by show ((E.H.set id o').set j .dead)[i]? = _; rw[aT (Ne.symm N),aT (Ne.symm e)]; exact hi) B
theorem au.A0{E:Env}(H:au E){id l0 h0:Nat}{o o' ov:ab}{q:Option (Nat × Nat)}(hid:E.H[id]? = some o)(hlab:o.label=some l0)(N:o'.label=some l0)(hver:o'.aF = o.aF)(hlv:ov.label=none) (M:∀ b m,q=some (b,m)→(E.X.r l0)[h0]? = some (some (some (b,m))))
  (ho:E.le { w:=E.w,H:=E.H.set id o'++[ov],loc:=E.loc++[q],X:=E.X.re (fC E.X.r l0 h0) }→aN { w:=E.w,H:=E.H.set id o'++[ov],loc:=E.loc++[q],X:=E.X.re (fC E.X.r l0 h0) } id o'∧aN { w:=E.w,H:=E.H.set id o'++[ov],loc:=E.loc++[q],X:=E.X.re (fC E.X.r l0 h0) } E.H.length ov)
  (hmm:o.cZ=none:=by first|rfl|assumption) :
  au { w:=E.w,H:=E.H.set id o'++[ov],loc:=E.loc++[q],X:=E.X.re (fC E.X.r l0 h0) }∧E.le { w:=E.w,H:=E.H.set id o'++[ov],loc:=E.loc++[q],X:=E.X.re (fC E.X.r l0 h0) }:=by
 have U:=aK hid;have J:∀(i:Nat) x,(E.loc++[q])[i]? = some x→E.loc[i]? = some x∨(i=E.loc.length∧x=q):=fun i x hi=>by
  rw[eX]at hi;split at hi
  ·exact .inl hi
  ·right
   cases hk:i-E.loc.length with
   |zero=>rw[hk]at hi; simp at hi; exact⟨by omega,hi.symm⟩
   |succ n=>rw[hk]at hi; simp at hi
 have O:∀(i:Nat) x,(E.H.set id o'++[ov])[i]? = some x→(i=E.H.length∧x=ov)∨(i=id∧x=o')∨(i≠id∧E.H[i]? = some x):=fun i x hi=>by
  rw[eX]at hi;split at hi
  ·by_cases d : i = id
   ·subst d
    rw[bB U]at hi;cases hi;exact .inr (.inl ⟨rfl,rfl⟩)
   ·rw [aT (Ne.symm d)] at hi
    exact .inr (.inr ⟨d,hi⟩)
  ·left
   cases hk:i-(E.H.set id o').length with
   |zero=>rw[hk]at hi; simp at hi; simp at hk; rename_i h1; simp at h1; exact⟨by omega,hi.symm⟩
   |succ n=>rw[hk]at hi; simp at hi
 have hid':(E.H.set id o'++[ov])[id]? = some o':=by
  rw[cK (by simp; exact U),bB U]
 have B:∀(l h:Nat) y,(fC E.X.r l0 h0 l)[h]? = some (some y)→(E.X.r l)[h]? = some (some y)∧¬ (l=l0∧h=h0):=fun l h y hk=>SS hk;have hle:E.le { w:=E.w,H:=E.H.set id o'++[ov],loc:=E.loc++[q],X:=E.X.re (fC E.X.r l0 h0) }:=by
  refine⟨fun i ae W=>?_,aG _,fun _ _ _=>rfl,fun b hb V=>?_,fun i ae W u=>?_,⟨rfl,rfl⟩,fun l h hh=>?_,.refl _,fun i l x h1 g hv=>?_⟩
  rotate_right
  ·by_cases d : i = id
   ·subst d
    rw[hid]at h1;cases h1;rw[hmm]at g;cases g
   ·have e3 : l ≠ l0 := fun e3 => d (H.uniq i id x o l h1 hid (ab.j9 g) (by rw [e3]; exact hlab))
    exact⟨⟨[],by rw[cY]; exact if_neg e3⟩,x,by simp only[]; rw[cK (by rw[mA]; exact aK h1),aT (Ne.symm d)]; exact h1,g⟩
  ·obtain ⟨x, h1, g⟩ := W
   by_cases d:i=id
   ·subst d
    rw[hid]at h1;cases h1;exact⟨o',hid',ab.vZ N,fun v hv=>g.2 v (by rw[←hver]; exact hv)⟩
   ·exact⟨x,by simp only[]; rw[cK (by simp; exact aK h1),aT (Ne.symm d)]; exact h1,g⟩
  ·rintro (⟨i, c, hi⟩ | ⟨l, h, m, hm⟩)
   ·rcases J i _ hi with h1 | ⟨_, h1⟩
    ·exact V (.inl ⟨i,c,h1⟩)
    ·exact V (.inr ⟨l0,h0,c,M b c h1.symm⟩)
   ·exact V (.inr ⟨l,h,m,(B l h _ hm).1⟩)
  ·obtain ⟨x0, g1, _⟩ := W
   have hii:=aK g1;obtain⟨x,h1,g⟩:=u;have hloc:(E.loc++[q])[i]? = E.loc[i]? := cK (by rw[H.len]; exact hii);rcases O i x h1 with⟨e,rfl⟩|⟨rfl,rfl⟩|⟨d,I⟩
   ·omega
   ·exact⟨⟨o,hid,by rw[←hver]; exact g⟩,hloc⟩
   ·exact⟨⟨x,I,g⟩,hloc⟩
  ·refine ⟨?_, fun y hy => (B l h y hy).1⟩
   show h<(fC E.X.r l0 h0 l).length
   rw[SU];exact hh
 refine⟨⟨by simp[H.len],fun i k b m n hi hk=>?_,fun i b m hi=>?_,fun b hb=>H.X b hb,fun i x hi=>?_,H.eR.bF hle.toC,fun l h l' h' b m n h1 g=>H.eu _ _ _ _ _ _ _ (B l h _ h1).1 (B l' h' _ g).1,fun i b m l h n hi hk=>?_,fun l h b m hk=>H.cu _ _ _ _ (B l h _ hk).1,fun i k x y l hi hk h1 g=>?_,fun l hn h y hy=>?_⟩,hle⟩
 ·rcases J i _ hi with g1 | ⟨g1, g2⟩ <;> rcases J k _ hk with k1 | ⟨k1, k2⟩
  ·exact H.inj _ _ _ _ _ g1 k1
  ·exact(H.cN _ _ _ _ _ _ g1 (M b n k2.symm)).elim
  ·exact(H.cN _ _ _ _ _ _ k1 (M b m g2.symm)).elim
  ·omega
 ·rcases J i _ hi with g1 | ⟨g1, g2⟩
  ·exact H.lt _ _ _ g1
  ·exact H.cu _ _ _ _ (M b m g2.symm)
 ·rcases O i x hi with ⟨rfl, rfl⟩ | ⟨rfl, rfl⟩ | ⟨d, I⟩
  ·exact(ho hle).2
  ·exact(ho hle).1
  ·refine jz (fun a _ hr => bP hle a hr) (by simp only []; rw [cK (by rw [H.len]; exact aK I)]) (fun _ _ _ => rfl) (fun l u => ?_) (H.obj i x I)
   have hne2:l≠l0:=fun e=>d (H.uniq i id x o l I hid u (by rw[hlab,e]));exact⟨if_neg hne2,fun _ _ _ _=>rfl⟩
 ·obtain ⟨r1, r2⟩ := B l h _ hk
  rcases J i _ hi with g1|⟨g1,g2⟩
  ·exact H.cN _ _ _ _ _ _ g1 r1
  ·exact r2 (H.eu _ _ _ _ _ _ _ r1 (M b m g2.symm))
 ·have key:∀ (i:Nat) x,(E.H.set id o'++[ov])[i]? = some x→x.label=some l→∃ y,E.H[i]? = some y∧y.label=some l:=by
   intro i x hi u;rcases O i x hi with⟨_,rfl⟩|⟨rfl,rfl⟩|⟨d,I⟩
   ·rw[hlv]at u; cases u
   ·exact⟨o,hid,by rw[hlab,←N,u]⟩
   ·exact⟨x,I,u⟩
  obtain⟨x',a1,a2⟩:=key i x hi h1;obtain⟨y',b1,b2⟩:=key k y hk g;exact H.uniq i k x' y' l a1 b1 a2 b2
 ·refine H.fJ l (fun i x hi u => ?_) h y (B l h y hy).1
  by_cases e:i=id
  ·subst e
   rw[hid]at hi;cases hi;exact hn i o' hid' (by rw[N,←hlab,u])
  ·exact hn i x (by show (E.H.set id o'++[ov])[i]? = _; rw[cK (by simp; exact aK hi),aT (Ne.symm e)]; exact hi) u
theorem au.SV{E:Env}(H:au E){id l0:Nat}{o o':ab}(hid:E.H[id]? = some o)(hlab:o.label=some l0)(W:o'.label=none)(M:o'.aF = o.aF)
  (ho:E.le { w:=E.w,H:=E.H.set id o',loc:=E.loc,X:=E.X.re (gN E.X.r l0) }→aN { w:=E.w,H:=E.H.set id o',loc:=E.loc,X:=E.X.re (gN E.X.r l0) } id o')
  (hmm:o.cZ=none:=by first|rfl|assumption) (hborn:o'.born=true:=by first|rfl|assumption) :
  au { w:=E.w,H:=E.H.set id o',loc:=E.loc,X:=E.X.re (gN E.X.r l0) }∧E.le { w:=E.w,H:=E.H.set id o',loc:=E.loc,X:=E.X.re (gN E.X.r l0) }:=by
 have N:=aK hid;have B:∀(i:Nat) x,(E.H.set id o')[i]? = some x→(i=id∧x=o')∨(i≠id∧E.H[i]? = some x):=fun i x hi=>by
  by_cases g:i=id
  ·subst g
   rw[bB N]at hi;cases hi;exact .inl ⟨rfl,rfl⟩
  ·rw [aT (Ne.symm g)] at hi
   exact .inr ⟨g,hi⟩
 have hle:E.le { w:=E.w,H:=E.H.set id o',loc:=E.loc,X:=E.X.re (gN E.X.r l0) }:=by
  refine⟨fun i ae U=>?_,aG _,fun _ _ _=>rfl,fun b hb O=>?_,fun i ae U q=>?_,⟨rfl,rfl⟩,fun l h hh=>?_,.refl _,fun i l x h1 d V=>?_⟩
  rotate_right
  ·by_cases g : i = id
   ·subst g
    rw[hid]at h1;cases h1;rw[hmm]at d;cases d
   ·have I : l ≠ l0 := fun I => g (H.uniq i id x o l h1 hid (ab.j9 d) (by rw [I]; exact hlab))
    exact⟨⟨[],by rw[cY]; exact if_neg I⟩,x,by simp only[]; rw[aT (Ne.symm g)]; exact h1,d⟩
  ·obtain ⟨x, h1, d⟩ := U
   by_cases g:i=id
   ·subst g
    rw[hid]at h1;cases h1;exact⟨o',by simp only[]; rw[bB N],hborn,fun v V=>d.2 v (by rw[←M]; exact V)⟩
   ·exact⟨x,by simp only[]; rw[aT (Ne.symm g)]; exact h1,d⟩
  ·rintro (⟨i, c, hi⟩ | ⟨l, h, m, hm⟩)
   ·exact O (.inl ⟨i,c,hi⟩)
   ·exact O (.inr ⟨l,h,m,(im hm).1⟩)
  ·obtain ⟨x, h1, d⟩ := q
   rcases B i x h1 with⟨rfl,rfl⟩|⟨g,u⟩
   ·exact⟨⟨o,hid,by rw[←M]; exact d⟩,rfl⟩
   ·exact⟨⟨x,u,d⟩,rfl⟩
  ·refine ⟨?_, fun y J => (im J).1⟩
   show h<(gN E.X.r l0 l).length
   rw[Ia];exact hh
 refine⟨⟨by simp[H.len],H.inj,H.lt,H.X,fun i x hi=>?_,H.eR.bF hle.toC,fun l h l' h' b m n h1 d=>H.eu _ _ _ _ _ _ _ (im h1).1 (im d).1,fun i b m l h n hi hk=>H.cN _ _ _ _ _ _ hi (im hk).1,fun l h b m hk=>H.cu _ _ _ _ (im hk).1,fun i k x y l hi hk h1 d=>?_,fun l hn h y J=>?_⟩,hle⟩
 ·rcases B i x hi with ⟨rfl, rfl⟩ | ⟨g, u⟩
  ·exact ho hle
  ·refine jz (fun a _ hr => bP hle a hr) rfl (fun _ _ _ => rfl) (fun l q => ?_) (H.obj i x u)
   have hne2:l≠l0:=fun e=>g (H.uniq i id x o l u hid q (by rw[hlab,e]));exact⟨if_neg hne2,fun _ _ _ _=>rfl⟩
 ·have key:∀ (i:Nat) x,(E.H.set id o')[i]? = some x→x.label=some l→E.H[i]? = some x:=by
   intro i x hi q;rcases B i x hi with⟨rfl,rfl⟩|⟨g,u⟩
   ·rw[W]at q; cases q
   ·exact u
  exact H.uniq i k x y l (key i x hi h1) (key k y hk d) h1 d
 ·obtain ⟨g1, g2⟩ := im J
  refine H.fJ l (fun i x hi q=>?_) h y g1;by_cases e:i=id
  ·subst e
   rw[hid]at hi;cases hi;exact g2 (by rw[hlab]at q; cases q; rfl)
  ·exact hn i x (by show (E.H.set id o')[i]? = _; rw[aT (Ne.symm e)]; exact hi) q
theorem wK{E:Env}(HE:au E){id l w cl:Nat}{es:List (AV × Option (List (List AV)) × Nat)}{c:Value}(hid:E.H[id]? = some (.aH l w es cl))(d:rel E (.map id) c) :
  ∃ b n ms,c=.map (some b)∧E.loc[id]? = some (some (b,n))∧E.w.heap[b]? = some (.map ms cl)∧bC E (cC es) ms.toList∧il E l w es ms.toList:=by
 have ho:=HE.obj id _ hid;simp only[aN]at ho;obtain⟨b,n,ms,h1,g,h,k⟩:=ho;simp only[rel]at d;obtain⟨_,_,q⟩:=d;obtain⟨u,v,g1,g2⟩:=q ⟨_,hid,rfl⟩;rw[h1]at g1;simp only[aZ,be]at g1;obtain⟨rfl,rfl⟩:=g1;exact⟨b,n,ms,g2,h1,g,h,k⟩
theorem wL{es:List (AV × Option (List (List AV)) × Nat)}{i:Nat}{x:AV × Option (List (List AV)) × Nat}(h:es[i]? = some x):(cC es)[i]? = some (x.1,.undef,x.2.2):=by
 unfold cC;rw[bZ,h];rfl
def wM(P:Program)(t:TypeId):Option Nat:=match b_ P t with
 |.slice _ w _=>some w
 |_=>none
def mS (es:List (AV × Option (List (List AV)) × Nat)) (i:Nat):Option (AV × List (List AV) × Nat):=match es[i]? with
 |some (key,some rows,n)=>some (key,rows,n)
 |_=>none
def s9(P:Program)(t:TypeId)(m k:AV)(H:List ab):Option (AV × List ab) :=
 match cW P t,m with
 | some (d,g),.map id=>match H[id]? with
  | some (.aH l w es cl)=>match gL P d k,wM P g,gz P g with
   | some h,some w',some (.lit (.slice none 0 0))=>match ad w' w with
    | true=>match dZ P d h (cC es) 0 with
     | some (some (i,_))=>match mS es i with
      |some (key,rows,n)=>some (.vec w H.length 0 0 rows.length,H.set id (.aH l w (es.set i (key,none,n)) cl)++[.vec w 0 rows])
      |none=>none
     |some none=>some (.vec w H.length 0 0 0,H.set id (.aH l w es cl)++[.vec w 0 []])
     |none=>none
    |false=>none
   |_,_,_=>none
  |_=>none
 |_,_=>none
theorem SX{E:Env}{l w i:Nat}{es:List (AV × Option (List (List AV)) × Nat)}{ms:List MapEntry}{x:AV × Option (List (List AV)) × Nat}(B:x.2.1=none)(h:il E l w es ms):il E l w (es.set i x) ms:=by
 obtain⟨I,h1,J⟩:=h;have g:∀(j:Nat) y,(es.set i x)[j]? = some y→y.2.1.isSome=true→es[j]? = some y∧j≠i:=fun j y d k=>by
  rw[dN]at d;split at d
  ·split at d
   ·cases d
    rw[B]at k;cases k
   ·cases d
  ·rename_i v
   exact⟨d,Ne.symm v⟩
 refine⟨I,fun a b y z d M q sz he=>h1 a b y z (g a y d q).1 (g b z M sz).1 q sz he,fun a y rows e d u he=>J a y rows e (g a y d (by rw[u]; rfl)).1 u he⟩
theorem A1{E:Env}{i:Nat}{es:List (AV × Option (List (List AV)) × Nat)}{ms:List MapEntry}{x y:AV × Option (List (List AV)) × Nat}(hi:es[i]? = some x)(h1:y.1=x.1)(d:y.2.2=x.2.2)(h:bC E (cC es) ms):bC E (cC (es.set i y)) ms:=by
 have e:cC (es.set i y)=cC es:=by
  apply jx;intro j;unfold cC;rw[bZ,bZ,dN];split
  ·rename_i e
   subst e;rw[if_pos (aK hi),hi];simp[h1,d]
  ·rfl
 rw[e];exact h
theorem SY{P:Program}{E:Env}(HE:au E){t:TypeId}{m k v:AV}{c d:Value}{H':List ab}(h:s9 P t m k E.H=some (v,H'))(hm:rel E m c)(hk:rel E k d) :
  ∃ u w',(j0 t c d false).run P E.w=.ok u w'∧cL E v H' u w':=by
 unfold s9 at h;split at h
 case h_2=>cases h
 rename_i kt et id ht;split at h
 case h_2=>cases h
 rename_i l w es cl hid;split at h
 case h_2=>cases h
 rename_i kv w' hkv hw' hz;split at h
 case h_2=>cases h
 rename_i hww;have hww:=bt hww;clear hw' hww;obtain⟨b,n,ms,rfl,h1,h2,h3,h4⟩:=wK HE hid hm;have hkv':=gM hkv hk;have e1:(getObj b).run P E.w=.ok (.map ms cl) E.w:=by simp[getObj,fV,h2]
 have hlenH:E.H.length=E.loc.length:=HE.len.symm;split at h
 ·rename_i i v0 hf
  split at h
  case h_2=>cases h
  rename_i key rows bn hat;cases h;have hes:es[i]? = some (key,some rows,bn):=by
   unfold mS at hat;split at hat
   ·rename_i a1 a2 a3 he
    cases hat;exact he
   ·cases hat
  obtain⟨r',g1,g2⟩:=gy hkv' E.w h3 hf;cases r' with
  |none=>simp[c5]at g2
  | some q =>
   simp only[c5]at g2;obtain⟨q1,q2,_,e',q4,q5⟩:=g2;simp only[fS]at q4;have hval:q.2=e'.val:=q5.symm;obtain⟨V,k1,k2⟩:=h4;have hsl:=k2 i _ rows e' hes rfl q4;obtain⟨M,h0,z1,z2,z3⟩:∃(M:Option (Nat × Nat)) (h0:Nat),(∀ b m,M=some (b,m)→(E.X.r l)[h0]? = some (some (some (b,m)))) ∧
     (∀ j y,es[j]? = some y→y.2.1.isSome=true→j≠i→∀ b m,(E.X.r l)[V j]? = some (some (some (b,m)))→V j≠h0) ∧
     ((M=none∧rows=[]∧∃ base,e'.val=.slice base 0 0)∨∃ b m,M=some (b,m)∧e'.val=.slice (some ⟨b,0,none⟩) rows.length m∧isRow E.w b (m*w)∧rows.length≤m∧eQ rows∧cz E w rows b 0):=by
    rcases hsl with⟨s1,s2⟩|⟨O,mm,s1,s2,W,U,s5,s6⟩
    ·exact⟨none,(E.X.r l).length,fun _ _ e=>(by cases e),fun j y _ _ _ b m hb e=>(by rw[e]at hb; have:=aK hb; omega),.inl ⟨rfl,s1,s2⟩⟩
    ·exact⟨some (O,mm),V i,fun _ _ e=>(by cases e; exact s1),fun j y J hsy hne _ _ _ e=>hne (k1 j i _ _ J hes hsy rfl e),.inr ⟨O,mm,rfl,s2,W,U,s5,s6⟩⟩
   obtain⟨r1,r2⟩:=au.A0 HE (id:=id) (l0:=l) (h0:=h0) (o':=.aH l w (es.set i (key,none,bn)) cl) (ov:=.vec w 0 rows) (q:=M) hid rfl rfl rfl rfl z1 fun hle=>by
    refine⟨?_,?_⟩
    ·simp only [aN]
     refine⟨b,n,ms,?_,h2,?_,?_⟩
     ·rw [cK (aK h1)]
      exact h1
     ·exact fA (fun a _ B=>bP hle a B) (A1 hes rfl rfl h3)
     ·obtain ⟨_, k3, k4⟩ := SX (i := i) (x := (key, none, bn)) rfl (show il E l w es ms.toList from ⟨V, k1, k2⟩)
      refine⟨V,fun a b' y z J hz sy sz he=>?_,fun a y rws e J B he=>?_⟩
      all_goals
       have old:∀(j:Nat) y,(es.set i (key,none,bn))[j]? = some y→y.2.1.isSome=true→es[j]? = some y∧j≠i:=fun j y J hsm=>by
        rw[dN]at J;split at J
        ·split at J
         ·cases J
          cases hsm
         ·cases J
        ·rename_i hne
         exact⟨J,Ne.symm hne⟩
      ·exact k1 a b' y z (old a y J sy).1 (old b' z hz sz).1 sy sz he
      ·obtain ⟨o1, o2⟩ := old a y J (by rw [B]; rfl)
       rcases k2 a y rws e o1 B he with N|⟨O,mm,s1,s2,W,U,s5,s6⟩
       ·exact .inl N
       ·refine .inr ⟨O, mm, ?_, s2, W, U, s5, ke (fun a _ B => bP hle a B) rfl s6⟩
        have hne:=z2 a y o1 (by rw[B]; rfl) o2 O mm s1;show (fC E.X.r l h0 l)[V a]? = _
        rw[AZ fun e=>hne e.2];exact s1
    ·simp only [aN]
     have N:(E.loc++[M])[E.H.length]? = some M:=by rw[hlenH]; simp
     rcases z3 with⟨rfl,s1,_⟩|⟨O,mm,rfl,_,W,U,s5,s6⟩
     ·exact .inl ⟨N,s1⟩
     ·exact .inr ⟨O,mm,N,W,U,s5,ke (fun a _ B=>bP hle a B) rfl s6⟩
   refine⟨q.2,E.w,?_,E.loc++[M],fC E.X.r l h0,?_,r1,r2⟩
   ·simp only [j0, bW, Sem.br (e_ ht), bX, e1, eY, fL hkv', g1]
    rfl
   ·have hnew:(E.H.set id (.aH l w (es.set i (key,none,bn)) cl)++[.vec w 0 rows])[E.H.length]? = some (.vec w 0 rows):=by
     rw[ia (by simp)];simp
    have N:(E.loc++[M])[E.H.length]? = some M:=by rw[hlenH]; simp
    rw[hval];simp only[rel];rcases z3 with⟨rfl,s1,base,s2⟩|⟨O,mm,rfl,s2,W,U,s5,s6⟩
    ·subst s1
     refine⟨⟨base,0,by rw[s2]; rfl,aG _,fun h=>by simp at h⟩,⟨_,hnew,rfl,fun v hv=>by cases hv; exact aG _⟩,fun _=>⟨fun _=>⟨by first|rfl|trivial,by first|rfl|trivial,base,s2⟩,fun b' m' I=>?_⟩⟩;rw[N]at I;cases I
    ·refine ⟨⟨_, mm, s2, U, fun _ => ⟨O, 0, rfl⟩⟩, ⟨_, hnew, rfl, fun v hv => by cases hv; exact aG _⟩, fun _ => ⟨fun I => ?_, fun b' m' I => ?_⟩⟩
     ·rw [N] at I
      cases I
     ·rw [N] at I
      cases I;exact⟨by omega,0,fun _=>by simp,by rw[s2,fS]⟩
 ·rename_i hf
  cases h;obtain⟨r',g1,g2⟩:=gy hkv' E.w h3 hf;cases r' with
  |some _=>simp[c5]at g2
  | none =>
   obtain⟨zv,z1,z2⟩:=qg hz E.w;have hzv:zv=.slice none 0 0:=by have:=z2 E; simpa[rel]using this
   obtain⟨r1,r2⟩:=au.A0 HE (id:=id) (l0:=l) (h0:=(E.X.r l).length) (o':=.aH l w es cl) (ov:=.vec w 0 []) (q:=none) hid rfl rfl rfl rfl (fun _ _ e=>by cases e) fun hle=>by
    refine⟨?_,?_⟩
    ·simp only [aN]
     refine⟨b,n,ms,?_,h2,fA (fun a _ B=>bP hle a B) h3,sN (E:=E) (fun h g m hk=>⟨?_,rfl⟩) (fun _ _ _ _ _ b' I _ B=>ke (fun a _ B=>bP hle a B) I B) h4⟩
     ·rw [cK (aK h1)]
      exact h1
     ·show (fC E.X.r l (E.X.r l).length l)[h]? = _
      rw[AZ fun e=>by rw[e.2]at hk; have:=aK hk; omega];exact hk
    ·simp only [aN]
     exact .inl ⟨by rw[hlenH]; simp,by first|rfl|trivial⟩
   refine⟨zv,E.w,?_,E.loc++[none],fC E.X.r l (E.X.r l).length,?_,r1,r2⟩
   ·simp only [j0, bW, Sem.br (e_ ht), bX, e1, eY, fL hkv', g1, z1]
    rfl
   ·have hnew:(E.H.set id (.aH l w es cl)++[.vec w 0 []])[E.H.length]? = some (.vec w 0 []):=by
     rw[ia (by simp)];simp
    have N:(E.loc++[(none:Option (Nat × Nat))])[E.H.length]? = some none:=by rw[hlenH]; simp
    rw[hzv];simp only[rel];refine⟨⟨none,0,rfl,aG _,fun h=>by simp at h⟩,⟨_,hnew,rfl,fun v hv=>by cases hv; exact aG _⟩,fun _=>⟨fun _=>⟨by first|rfl|trivial,by first|rfl|trivial,none,rfl⟩,fun b' m' I=>?_⟩⟩;rw[N]at I;cases I
 ·cases h
theorem A2{es:List (AV × Option (List (List AV)) × Nat)}{i:Nat}{x:AV × Option (List (List AV)) × Nat}{f:AV × Option (List (List AV)) × Nat→AV × Option (List (List AV)) × Nat}(h:es[i]? = some x):es.modify i f=es.set i (f x):=by
 apply jx;intro j;rw[ib,dN];by_cases e:i=j
 ·subst e
  rw[if_pos rfl,if_pos (aK h),h];simp
 ·rw [if_neg e]
  simp[e]
def oB(P:Program)(t:TypeId)(m k v:AV)(H:List ab):Option (List ab) :=
 match cW P t,m,v with
 | some (d,_),.map id,.vec w j ae off n=>match H[id]?,H[j]? with
  | some (.aH l w' es cl),some (.vec h g rows)=>match gL P d k with
   | some q=>if (w=w'∧w=h)∧(ae=g∧off=0)∧n=rows.length∧k.closed=true then
     match dZ P d q (cC es) 0 with
     |some (some (i,_))=>some ((H.set id (.aH l w' (es.modify i fun e=>(k,some rows,e.2.2)) cl)).set j .dead)
     |some none=>some ((H.set id (.aH l w' (es++[(k,some rows,cl)]) (cl+1))).set j .dead)
     |none=>none
    else none
   |none=>none
  |_,_=>none
 |_,_,_=>none
theorem s_{P:Program}{E:Env}(HE:au E){id l w b n cl cl':Nat}{es es':List (AV × Option (List (List AV)) × Nat)}{ms ms':Array MapEntry}(hid:E.H[id]? = some (.aH l w es cl)) (k:E.loc[id]? = some (some (b,n)))
  (hb:E.w.heap[b]? = some (.map ms cl)) (d:bC E (cC es') ms'.toList) (v:il E l w es' ms'.toList) :
  ∃ w',(setObj b (.map ms' cl')).run P E.w=.ok () w'∧au { w:=w',H:=E.H.set id (.aH l w es' cl'),loc:=E.loc,X:=E.X }∧E.le { w:=w',H:=E.H.set id (.aH l w es' cl'),loc:=E.loc,X:=E.X } ∧
   w'.heap[b]? = some (.map ms' cl')∧∀ y,y≠b→w'.heap[y]? = E.w.heap[y]? := by
 have u:=(HE.lt id b n k).1;have B:({ E.w with heap:=E.w.heap.setIfInBounds b (.map ms' cl') }:World).heap.size=E.w.heap.size:=by simp
 have q:∀ y,y≠b→({ E.w with heap:=E.w.heap.setIfInBounds b (.map ms' cl') }:World).heap[y]? = E.w.heap[y]? := by
  intro y M;simp only[zT];rw[if_neg (fun e=>M e.symm)]
 have key:=au.Ap (E:=E) (w':={ E.w with heap:=E.w.heap.setIfInBounds b (.map ms' cl') }) (o':=.aH l w es' cl') (r':=E.X.r) HE hid rfl rfl rfl (by rw[B]; exact aG _) (fun x _ I _=>q x fun e=>I n (by rw[e]; exact k)) (fun _ _=>rfl) (fun _ _ _ h=>.inl h) (fun h N=>⟨N,fun _ O=>O⟩) (fun hle=>by
  simp only[aN];refine⟨b,n,ms',k,by simp[u],fA (fun a _ d=>bP hle a d) d,sN (E:=E) (fun h g m hk=>⟨hk,q g fun e=>HE.cN _ _ _ _ _ _ k (by rw[←e]; exact hk)⟩) (fun _ _ _ _ _ U J _ d=>ke (fun a _ d=>bP hle a d) J d) v⟩) ⟨rfl,rfl,rfl,by first|exact fun _=>aG _|exact fun _=>eL _ _⟩
 rw[XS.RV]at key;exact⟨_,by simp[setObj,fV,hb],key.1,key.2,by simp[u],q⟩
theorem A3{E:Env}(HE:au E){id j l w cl i ae:Nat}{es:List (AV × Option (List (List AV)) × Nat)}{rows:List (List AV)}{key:AV}{bn b n:Nat}{ms:Array MapEntry}{e:MapEntry}(hid:E.H[id]? = some (.aH l w es cl))(B:E.H[j]? = some (.vec w ae rows))
  (hi:es[i]? = some (key,none,bn)) (hloc:E.loc[id]? = some (some (b,n))) (hb:E.w.heap[b]? = some (.map ms cl)) (he:ms.toList[i]? = some e) (u:bC E (cC es) ms.toList) (hsl:il E l w es ms.toList) (hv:rel E (.vec w j ae 0 rows.length) e.val) :
  ∃ loc' r',au { w:=E.w,H:=(E.H.set id (.aH l w (es.set i (key,some rows,bn)) cl)).set j .dead,loc:=loc',X:=E.X.re r' }∧E.le { w:=E.w,H:=(E.H.set id (.aH l w (es.set i (key,some rows,bn)) cl)).set j .dead,loc:=loc',X:=E.X.re r' }:=by
 have M:j≠id:=fun e=>by rw[e,hid]at B; cases B
 have N:=HE.obj j _ B;simp only[rel]at hv;obtain⟨_,_,v3⟩:=hv;obtain⟨v4,v5⟩:=v3 ⟨_,B,rfl⟩;simp only[aN]at N;obtain⟨q,hq⟩:∃ q,E.loc[j]? = some q:=by
  rcases N with⟨h1,_⟩|⟨U,m',h1,_⟩
  ·exact⟨_,h1⟩
  ·exact⟨_,h1⟩
 obtain⟨J,k1,k2⟩:=hsl;have htl:∀ h,h<(E.X.r l).length→(eH E.X.r l q l)[h]? = (E.X.r l)[h]? := fun h d=>(H_ d).2;have hnew:(eH E.X.r l q l)[(E.X.r l).length]? = some (some q):=by
  unfold eH;rw[if_pos rfl];simp
 obtain⟨r1,r2⟩:=au.attach HE (id:=id) (j:=j) (o':=.aH l w (es.set i (key,some rows,bn)) cl) (q:=q) hid rfl rfl rfl B rfl hq fun hle=>by
  simp only[aN];refine⟨b,n,ms,?_,hb,fA (fun a _ u=>bP hle a u) (A1 hi rfl rfl u),?_⟩
  ·rw [aT M]
   exact hloc
  ·-- handles: the I ones, but at i the new one; empty ones take none
   have I:∀(a:Nat) y,(es.set i (key,some rows,bn))[a]? = some y→a≠i→es[a]? = some y:=fun a y g M=>by
    rwa [aT (Ne.symm M)]at g
   have at_i:∀ y,(es.set i (key,some rows,bn))[i]? = some y→y=(key,some rows,bn):=fun y g=>by
    rw[bB (aK hi)]at g;cases g;rfl
   refine⟨fun a=>if a=i then (E.X.r l).length else if J a<(E.X.r l).length then J a else (E.X.r l).length+1+J a,fun a c y z g hz sy sz d=>?_,fun a y rws e' g hr' O=>?_⟩
   ·by_cases k : a = i
    ·by_cases v : c = i
     ·rw[k,v]
     ·simp only [if_pos k, if_neg v] at d
      split at d<;>omega
    ·by_cases v : c = i
     ·simp only [if_neg k, if_pos v] at d
      split at d<;>omega
     ·simp only [if_neg k, if_neg v] at d
      refine k1 a c y z (I a y g k) (I c z hz v) sy sz ?_;split at d<;>split at d<;>omega
   ·by_cases k : a = i
    ·subst k
     have:=at_i y g;subst this;cases hr';rw[he]at O;cases O;rcases N with⟨h1,V⟩|⟨U,m',h1,V,W,h4,h5⟩
     ·obtain ⟨_, _, base, W⟩ := v4 h1
      subst V;exact .inl ⟨rfl,base,W⟩
     ·obtain ⟨h6, o, h7, h8⟩ := v5 U m' h1
      rw[hq]at h1;cases h1;simp only[cP,pL,fS]at h6 h7 h8;by_cases hm:0<m'
      ·have := h7 hm
       subst this;refine .inr ⟨U,m',?_,h8,V,W,h4,ke (fun a _ u=>bP hle a u) rfl h5⟩;simp only[if_true];exact hnew
      ·have hr0 : rows = [] := zP (by omega)
       have hm0:m'=0:=by omega
       subst hr0;subst hm0;exact .inl ⟨rfl,_,h8⟩
    ·rcases k2 a y rws e' (I a y g k) hr' O with hl | ⟨bb, mm, s1, s2, s3, s4, s5, s6⟩
     ·exact .inl hl
     ·refine .inr ⟨bb, mm, ?_, s2, s3, s4, s5, ke (fun a _ u => bP hle a u) rfl s6⟩
      have d:=aK s1;simp only[if_neg k,if_pos d];show (eH E.X.r l q l)[J a]? = _
      rw[htl _ d];exact s1
 exact⟨_,_,r1,r2⟩
theorem SZ{P:Program}{E:Env}(HE:au E){t:TypeId}{m k v:AV}{c d u:Value}{H':List ab}(h:oB P t m k v E.H=some H')(hm:rel E m c)(hk:rel E k d)(hv:rel E v u) :
  ∃ w',(lG t c d u).run P E.w=.ok () w'∧∀ x,cL E .undef H' x w':=by
 unfold oB at h;split at h
 case h_2=>cases h
 rename_i kt et id w j ae off n ht;split at h
 case h_2=>cases h
 rename_i l w' es cl w2 ver' rows hid hj;split at h
 case h_2=>cases h
 rename_i kv hkv;split at h
 case isFalse=>cases h
 rename_i hc;obtain⟨⟨rfl,rfl⟩,⟨rfl,rfl⟩,rfl,hcl⟩:=hc;obtain⟨b,n,ms,rfl,h1,h2,h3,h4⟩:=wK HE hid hm;have hne:j≠id:=fun e=>by rw[e,hid]at hj; cases hj
 have N:=gM hkv hk;have e1:(getObj b).run P E.w=.ok (.map ms cl) E.w:=by simp[getObj,fV,h2]
 obtain⟨hlen,hall⟩:=dT.1 h3;rw[Am]at hlen;split at h
 ·rename_i i v0 hf
  cases h;obtain⟨r',g1,g2⟩:=gy N E.w h3 hf;cases r' with
  |none=>simp[c5]at g2
  | some q =>
   simp only[c5]at g2;obtain⟨q1,q2,_,e',M,q5⟩:=g2;obtain⟨_,x,y,f1,f2,f3⟩:=sY hf;simp only[fS]at M f1;obtain⟨a1,a2,a3,a4,a5⟩:=hall i x e' f1 M;obtain⟨s1,s2⟩:=wH N (gM f2 a1) f3;have q4':ms[i]? = some e':=by simpa using M
   have hlt:i<es.length:=by have:=aK M; omega
   obtain⟨I,hx0⟩:∃ I,es[i]? = some I:=⟨es[i],bI hlt⟩
   have hx:x=(I.1,.undef,I.2.2):=by rw[wL hx0]at f1; cases f1; rfl
   have hkk:(k,(none:Option (List (List AV))),I.2.2)=(k,none,I.2.2):=rfl;have hre:bC E (cC (es.set i (k,none,I.2.2))) (ms.modify i fun e=>{ e with key:=d,val:=u }).toList:=by
    rw[dT];refine⟨by simp[cC,hlen],fun a y z g B=>?_⟩;simp only[j5,ib]at B;obtain⟨z0,V,rfl⟩:=dM.1 B;unfold cC at g;rw[bZ,dN]at g;by_cases e:i=a
    ·subst e
     rw[if_pos rfl,if_pos hlt]at g;cases g;rw[M]at V;cases V;simp only[if_true];refine⟨hk,by simp[rel],?_,hcl,rfl⟩;rw[a3,hx]
    ·rw [if_neg e] at g
     obtain⟨b1,b2,b3,b4,b5⟩:=hall a y z0 (by unfold cC; rw[bZ]; exact g) V;simp only[if_neg e];exact⟨b1,b2,b3,b4,b5⟩
   have hsl2:il E l w (es.set i (k,none,I.2.2)) (ms.modify i fun e=>{ e with key:=d,val:=u }).toList:=by
    obtain⟨hs,k1,k2⟩:=h4;have J:∀(a:Nat) y,(es.set i (k,none,I.2.2))[a]? = some y→y.2.1.isSome=true→es[a]? = some y∧a≠i:=fun a y g hsm=>by
     by_cases ei:i=a
     ·subst ei
      rw[bB hlt]at g;cases g;cases hsm
     ·rw [aT ei] at g
      exact⟨g,Ne.symm ei⟩
    refine⟨hs,fun a c y z g B W sz he=>k1 a c y z (J a y g W).1 (J c z B sz).1 W sz he,fun a y rws e g hr he=>?_⟩;obtain⟨o1,o2⟩:=J a y g (by rw[hr]; rfl);simp only[j5,ib]at he;obtain⟨z0,V,rfl⟩:=dM.1 he;rw[if_neg (Ne.symm o2)];exact k2 a y rws z0 o1 hr V
   obtain⟨w',p1,p2,p3,p4,p5⟩:=s_ (P:=P) HE (cl':=cl) hid h1 h2 hre hsl2;have hst:(pN e'.key d).run P E.w=.ok d E.w:=by simp[pN,s2]
   have hrun:(lG t (.map (some b)) d u).run P E.w=.ok () w':=by
    subst q1;simp only[lG,bW,Sem.br (e_ ht),bX,e1,fL N,g1,q4',eF,lH,hst];exact p1
   have O:({ w:=w',H:=E.H.set id (.aH l w (es.set i (k,none,I.2.2)) cl),loc:=E.loc,X:=E.X }:Env).H[id]? = some (.aH l w (es.set i (k,none,I.2.2)) cl):=by
    simp only[];rw[bB (aK hid)]
   have hjE:({ w:=w',H:=E.H.set id (.aH l w (es.set i (k,none,I.2.2)) cl),loc:=E.loc,X:=E.X }:Env).H[j]? = some (.vec w ae rows):=by
    simp only[];rw[aT (Ne.symm hne)];exact hj
   have U:=p2.obj id _ O;simp only[aN]at U;obtain⟨b2,n2,ms2,o1,o2,o3,o4⟩:=U;rw[h1]at o1;simp only[aZ,be]at o1;obtain⟨rfl,rfl⟩:=o1;rw[p4]at o2;cases o2;obtain⟨loc',r',r1,r2⟩:=A3 p2 (i:=i) (key:=k) (bn:=I.2.2) (e:={ e' with key:=d,val:=u }) O hjE (by rw[bB hlt]) h1 p4 (by
    simp only[j5,ib,M];simp) o3 o4 (bP p3 _ hv)
   refine⟨w',hrun,fun xx=>⟨loc',r',by simp[rel],?_,p3.trans ?_⟩⟩
   ·simpa[oa,A2 hx0]using r1
   ·simpa[oa,A2 hx0]using r2
 ·rename_i hf
  cases h;obtain⟨r',g1,g2⟩:=gy N E.w h3 hf;cases r' with
  |some _=>simp[c5]at g2
  | none =>
   have hml:ms.toList.length=es.length:=by omega
   have hre:bC E (cC (es++[(k,none,cl)])) (ms.push { key:=d,val:=u,born:=cl }).toList:=by
    rw[dT];refine⟨by simp[cC,hlen],fun a y z g B=>?_⟩;unfold cC at g;rw[j6]at g;simp only[n_,eX,dE]at g B;rw[hml]at B;by_cases e:a<es.length
    ·simp only [if_pos e] at g B
     exact hall a y z (by unfold cC; exact g) B
    ·simp only [if_neg e] at g B
     cases hj2:a-es.length with
     | zero =>
      rw[hj2]at g B;simp at g B;subst g; subst B;exact⟨hk,by simp[rel],rfl,hcl,rfl⟩
     |succ _=>rw[hj2]at g; simp at g
   have hsl2:il E l w (es++[(k,none,cl)]) (ms.push { key:=d,val:=u,born:=cl }).toList:=by
    obtain⟨hs,k1,k2⟩:=h4;have J:∀(a:Nat) y,(es++[(k,(none:Option (List (List AV))),cl)])[a]? = some y→y.2.1.isSome=true→es[a]? = some y∧a<es.length:=fun a y g hsm=>by
     rw[eX]at g;split at g
     ·rename_i hh
      exact⟨g,hh⟩
     ·cases hk2 : a - es.length with
      | zero =>
       rw[hk2]at g;simp at g;subst g;cases hsm
      |succ _=>rw[hk2]at g; simp at g
    refine⟨hs,fun a c y z g B W sz he=>k1 a c y z (J a y g W).1 (J c z B sz).1 W sz he,fun a y rws e g hr he=>?_⟩;obtain⟨o1,o2⟩:=J a y g (by rw[hr]; rfl);simp only[n_]at he;rw[cK (by omega)]at he;exact k2 a y rws e o1 hr he
   obtain⟨w',p1,p2,p3,p4,p5⟩:=s_ (P:=P) HE (cl':=cl+1) hid h1 h2 hre hsl2;have hrun:(lG t (.map (some b)) d u).run P E.w=.ok () w':=by
    simp only[lG,bW,Sem.br (e_ ht),bX,e1,fL N,g1];exact p1
   have O:({ w:=w',H:=E.H.set id (.aH l w (es++[(k,none,cl)]) (cl+1)),loc:=E.loc,X:=E.X }:Env).H[id]? = some (.aH l w (es++[(k,none,cl)]) (cl+1)):=by
    simp only[];rw[bB (aK hid)]
   have hjE:({ w:=w',H:=E.H.set id (.aH l w (es++[(k,none,cl)]) (cl+1)),loc:=E.loc,X:=E.X }:Env).H[j]? = some (.vec w ae rows):=by
    simp only[];rw[aT (Ne.symm hne)];exact hj
   have U:=p2.obj id _ O;simp only[aN]at U;obtain⟨b2,n2,ms2,o1,o2,o3,o4⟩:=U;rw[h1]at o1;simp only[aZ,be]at o1;obtain⟨rfl,rfl⟩:=o1;rw[p4]at o2;cases o2;obtain⟨loc',r',r1,r2⟩:=A3 p2 (i:=es.length) (key:=k) (bn:=cl) (e:={ key:=d,val:=u,born:=cl }) O hjE (by simp) h1 p4 (by
    simp only[n_];rw[ia (by omega)];simp[hml]) o3 o4 (bP p3 _ hv)
   have e2:(es++[(k,(none:Option (List (List AV))),cl)]).set es.length (k,some rows,cl)=es++[(k,some rows,cl)]:=by
    rw[List.set_append_right _ _ (aG _),Nat.sub_self];rfl
   refine⟨w',hrun,fun xx=>⟨loc',r',by simp[rel],?_,p3.trans ?_⟩⟩
   ·simpa[oa,e2]using r1
   ·simpa[oa,e2]using r2
 ·cases h
theorem au.Ib{E:Env}(H:au E){id l0:Nat}{o o':ab}(hid:E.H[id]? = some o)(hlab:o.label=none)(J:o'.label=some l0)(M:o'.aF = o.aF)(I:∀(i:Nat) x,E.H[i]? = some x→x.label≠some l0)
  (ho:E.le { w:=E.w,H:=E.H.set id o',loc:=E.loc,X:=E.X }→aN { w:=E.w,H:=E.H.set id o',loc:=E.loc,X:=E.X } id o') :
  au { w:=E.w,H:=E.H.set id o',loc:=E.loc,X:=E.X }∧E.le { w:=E.w,H:=E.H.set id o',loc:=E.loc,X:=E.X }:=by
 have N:=aK hid;have B:∀(i:Nat) x,(E.H.set id o')[i]? = some x→(i=id∧x=o')∨(i≠id∧E.H[i]? = some x):=fun i x hi=>by
  by_cases g:i=id
  ·subst g
   rw[bB N]at hi;cases hi;exact .inl ⟨rfl,rfl⟩
  ·rw [aT (Ne.symm g)] at hi
   exact .inr ⟨g,hi⟩
 have hle:E.le { w:=E.w,H:=E.H.set id o',loc:=E.loc,X:=E.X }:=by
  refine⟨fun i ae O=>?_,aG _,fun _ _ _=>rfl,fun b hb I=>I,fun i ae O q=>?_,⟨rfl,rfl⟩,fun l h W=>⟨W,fun _ hq=>hq⟩,.refl _,fun i l x h1 d U=>⟨⟨[],(cY _).symm⟩,?_⟩⟩
  rotate_right
  ·by_cases g : i = id
   ·subst g
    rw[hid]at h1;cases h1;rw[ab.v7 hlab]at d;cases d
   ·exact⟨x,by simp only[]; rw[aT (Ne.symm g)]; exact h1,d⟩
  ·obtain ⟨x, h1, d⟩ := O
   by_cases g:i=id
   ·subst g
    rw[hid]at h1;cases h1;exact⟨o',by simp only[]; rw[bB N],ab.vZ J,fun v U=>d.2 v (by rw[←M]; exact U)⟩
   ·exact⟨x,by simp only[]; rw[aT (Ne.symm g)]; exact h1,d⟩
  ·obtain ⟨x, h1, d⟩ := q
   rcases B i x h1 with⟨rfl,rfl⟩|⟨g,u⟩
   ·exact⟨⟨o,hid,by rw[←M]; exact d⟩,rfl⟩
   ·exact⟨⟨x,u,d⟩,rfl⟩
 refine⟨⟨by simp[H.len],H.inj,H.lt,H.X,fun i x hi=>?_,H.eR.bF hle.toC,H.eu,H.cN,H.cu,fun i k x y l hi hk h1 d=>?_,fun l hn h y hy=>?_⟩,hle⟩
 ·rcases B i x hi with ⟨rfl, rfl⟩ | ⟨g, u⟩
  ·exact ho hle
  ·exact jz (fun a _ hr=>bP hle a hr) rfl (fun _ _ _=>rfl) (fun l q=>⟨rfl,fun _ _ _ _=>rfl⟩) (H.obj i x u)
 ·rcases B i x hi with ⟨rfl, rfl⟩ | ⟨g, u⟩ <;> rcases B k y hk with ⟨rfl, rfl⟩ | ⟨e4, V⟩
  ·rfl
  ·rw [J] at h1
   cases h1;exact(I k y V d).elim
  ·rw [J] at d
   cases d;exact(I i x u h1).elim
  ·exact H.uniq i k x y l u V h1 d
 ·refine H.fJ l (fun i x hi q => ?_) h y hy
  by_cases e:i=id
  ·subst e
   rw[hid]at hi;cases hi;rw[hlab]at q;cases q
  ·exact hn i x (by show (E.H.set id o')[i]? = _; rw[aT (Ne.symm e)]; exact hi) q
theorem S0{E:Env}(HE:au E){id l w cl:Nat}(hid:E.H[id]? = some (.map [] cl))(d:lS E.H l=true) :
  au { w:=E.w,H:=E.H.set id (.aH l w [] cl),loc:=E.loc,X:=E.X }∧E.le { w:=E.w,H:=E.H.set id (.aH l w [] cl),loc:=E.loc,X:=E.X } :=
 au.Ib HE hid rfl rfl rfl (sU d) fun hle=>by
  have ho:=HE.obj id _ hid;simp only[aN]at ho⊢;obtain⟨b,n,ms,h1,g,h⟩:=ho;refine⟨b,n,ms,h1,g,fA (fun a _ k=>bP hle a k) h,fun _=>0,fun i j x y hi=>by simp at hi,fun i x rows e hi=>by simp at hi⟩
theorem S1{E:Env}(HE:au E){id l w cl i:Nat}{es:List (AV × Option (List (List AV)) × Nat)}{key:AV}{rows:List (List AV)}{bn b n:Nat}{ms:Array MapEntry}{e':MapEntry}(hid:E.H[id]? = some (.aH l w es cl))(hes:es[i]? = some (key,some rows,bn))
  (h1:E.loc[id]? = some (some (b,n))) (h2:E.w.heap[b]? = some (.map ms cl)) (h3:bC E (cC es) ms.toList) (h4:il E l w es ms.toList) (q4:ms.toList[i]? = some e') :
  ∃ loc' r',au { w:=E.w,H:=E.H.set id (.aH l w (es.set i (key,none,bn)) cl)++[.vec w 0 rows],loc:=loc',X:=E.X.re r' }∧E.le { w:=E.w,H:=E.H.set id (.aH l w (es.set i (key,none,bn)) cl)++[.vec w 0 rows],loc:=loc',X:=E.X.re r' } ∧
   rel { w:=E.w,H:=E.H.set id (.aH l w (es.set i (key,none,bn)) cl)++[.vec w 0 rows],loc:=loc',X:=E.X.re r' } (.vec w E.H.length 0 0 rows.length) e'.val:=by
 have hlenH:E.H.length=E.loc.length:=HE.len.symm;obtain⟨V,k1,k2⟩:=h4;have hsl:=k2 i _ rows e' hes rfl q4;obtain⟨g,h0,z1,z2,z3⟩:∃(g:Option (Nat × Nat)) (h0:Nat),(∀ b m,g=some (b,m)→(E.X.r l)[h0]? = some (some (some (b,m)))) ∧
   (∀ j y,es[j]? = some y→y.2.1.isSome=true→j≠i→∀ b m,(E.X.r l)[V j]? = some (some (some (b,m)))→V j≠h0) ∧
   ((g=none∧rows=[]∧∃ base,e'.val=.slice base 0 0)∨∃ b m,g=some (b,m)∧e'.val=.slice (some ⟨b,0,none⟩) rows.length m∧isRow E.w b (m*w)∧rows.length≤m∧eQ rows∧cz E w rows b 0):=by
  rcases hsl with⟨s1,s2⟩|⟨k,mm,s1,s2,M,J,N,O⟩
  ·exact⟨none,(E.X.r l).length,fun _ _ e=>(by cases e),fun j y _ _ _ b m hb e=>(by rw[e]at hb; have:=aK hb; omega),.inl ⟨rfl,s1,s2⟩⟩
  ·exact⟨some (k,mm),V i,fun _ _ e=>(by cases e; exact s1),fun j y d hsy U _ _ _ e=>U (k1 j i _ _ d hes hsy rfl e),.inr ⟨k,mm,rfl,s2,M,J,N,O⟩⟩
 obtain⟨r1,r2⟩:=au.A0 HE (id:=id) (l0:=l) (h0:=h0) (o':=.aH l w (es.set i (key,none,bn)) cl) (ov:=.vec w 0 rows) (q:=g) hid rfl rfl rfl rfl z1 fun hle=>by
  refine⟨?_,?_⟩
  ·simp only [aN]
   refine⟨b,n,ms,?_,h2,?_,?_⟩
   ·rw [cK (aK h1)]
    exact h1
   ·exact fA (fun a _ u=>bP hle a u) (A1 hes rfl rfl h3)
   ·refine ⟨V, fun a W y z d hz sy sz he => ?_, fun a y rws e d u he => ?_⟩
    all_goals
     have old:∀(j:Nat) y,(es.set i (key,none,bn))[j]? = some y→y.2.1.isSome=true→es[j]? = some y∧j≠i:=fun j y d hsm=>by
      rw[dN]at d;split at d
      ·split at d
       ·cases d
        cases hsm
       ·cases d
      ·rename_i U
       exact⟨d,Ne.symm U⟩
    ·exact k1 a W y z (old a y d sy).1 (old W z hz sz).1 sy sz he
    ·obtain ⟨o1, o2⟩ := old a y d (by rw [u]; rfl)
     rcases k2 a y rws e o1 u he with I|⟨k,mm,s1,s2,M,J,N,O⟩
     ·exact .inl I
     ·refine .inr ⟨k, mm, ?_, s2, M, J, N, ke (fun a _ u => bP hle a u) rfl O⟩
      have U:=z2 a y o1 (by rw[u]; rfl) o2 k mm s1;show (fC E.X.r l h0 l)[V a]? = _
      rw[AZ fun e=>U e.2];exact s1
  ·simp only [aN]
   have I:(E.loc++[g])[E.H.length]? = some g:=by rw[hlenH]; simp
   rcases z3 with⟨rfl,s1,_⟩|⟨k,mm,rfl,_,M,J,N,O⟩
   ·exact .inl ⟨I,s1⟩
   ·exact .inr ⟨k,mm,I,M,J,N,ke (fun a _ u=>bP hle a u) rfl O⟩
 refine⟨E.loc++[g],fC E.X.r l h0,r1,r2,?_⟩;have hnew:(E.H.set id (.aH l w (es.set i (key,none,bn)) cl)++[.vec w 0 rows])[E.H.length]? = some (.vec w 0 rows):=by
  rw[ia (by simp)];simp
 have I:(E.loc++[g])[E.H.length]? = some g:=by rw[hlenH]; simp
 simp only[rel];rcases z3 with⟨rfl,s1,base,s2⟩|⟨k,mm,rfl,s2,M,J,N,O⟩
 ·subst s1
  refine⟨⟨base,0,by rw[s2]; rfl,aG _,fun h=>by simp at h⟩,⟨_,hnew,rfl,fun v hv=>by cases hv; exact aG _⟩,fun _=>⟨fun _=>⟨by first|rfl|trivial,by first|rfl|trivial,base,s2⟩,fun W m' B=>?_⟩⟩;rw[I]at B;cases B
 ·refine ⟨⟨_, mm, s2, J, fun _ => ⟨k, 0, rfl⟩⟩, ⟨_, hnew, rfl, fun v hv => by cases hv; exact aG _⟩, fun _ => ⟨fun B => ?_, fun W m' B => ?_⟩⟩
  ·rw [I] at B
   cases B
  ·rw [I] at B
   cases B;exact⟨by omega,0,fun _=>by simp,by rw[s2,fS]⟩
theorem S2{E:Env}(HE:au E)(w:Nat) :
  au { w:=E.w,H:=E.H++[.vec w 0 []],loc:=E.loc++[none],X:=E.X }∧E.le { w:=E.w,H:=E.H++[.vec w 0 []],loc:=E.loc++[none],X:=E.X } ∧
   rel { w:=E.w,H:=E.H++[.vec w 0 []],loc:=E.loc++[none],X:=E.X } (.vec w E.H.length 0 0 0) (.slice none 0 0):=by
 have hle:E.le (E.push E.w (.vec w 0 []) none):=Env.iY HE.len (Ext.refl _) (fun b n h=>by cases h);have d:(E.loc++[(none:Option (Nat × Nat))])[E.H.length]? = some none:=by rw[←HE.len]; simp
 have k:aN (E.push E.w (.vec w 0 []) none) E.H.length (.vec w 0 []):=by
  simp only[aN,Env.push];exact .inl ⟨d,trivial⟩
 refine⟨au.push HE (Ext.refl _) (fun b n h=>by cases h) k,hle,?_⟩;simp only[rel];refine⟨⟨none,0,rfl,aG _,fun h=>by simp at h⟩,⟨.vec w 0 [],by simp,rfl,fun v q=>by cases q; exact aG _⟩,fun _=>⟨fun _=>⟨by first|rfl|trivial,by first|rfl|trivial,none,rfl⟩,fun u m' g=>?_⟩⟩;rw[d]at g;cases g
def gO(P:Program)(t:TypeId)(m k:AV)(H:List ab):Option (AV × List ab) :=
 match cW P t,m with
 | some (d,g),.map id=>match H[id]? with
  | some (.aH l w es cl)=>match gL P d k,wM P g,gz P g with
   | some h,some w',some (.lit (.slice none 0 0))=>match ad w' w&&k.closed with
    | true=>match dZ P d h (cC es) 0 with
     | some (some (i,_))=>match mS es i with
      |some (_,rows,n)=>some (.tuple [.vec w H.length 0 0 rows.length,.lit (goInt n)],H.set id (.aH l w (es.set i (k,none,n)) cl)++[.vec w 0 rows])
      |none=>none
     |some none=>some (.tuple [.vec w H.length 0 0 0,.lit (goInt cl)],H.set id (.aH l w (es++[(k,none,cl)]) (cl+1))++[.vec w 0 []])
     |none=>none
    |false=>none
   |_,_,_=>none
  |_=>none
 |_,_=>none
theorem S3{P:Program}{E:Env}(HE:au E){t:TypeId}{m k v:AV}{c d:Value}{H':List ab}(h:gO P t m k E.H=some (v,H'))(hm:rel E m c)(hk:rel E k d) :
  ∃ u w',(zU t c d).run P E.w=.ok u w'∧cL E v H' u w':=by
 unfold gO at h;split at h
 case h_2=>cases h
 rename_i kt et id ht;split at h
 case h_2=>cases h
 rename_i l w es cl hid;split at h
 case h_2=>cases h
 rename_i kv w' hkv hw' B;split at h
 case h_2=>cases h
 rename_i hww;simp only[aB]at hww;have hcl:=hww.2;clear hw' hww;obtain⟨b,n,ms,rfl,h1,h2,h3,h4⟩:=wK HE hid hm;have J:=gM hkv hk;have e1:(getObj b).run P E.w=.ok (.map ms cl) E.w:=by simp[getObj,fV,h2]
 obtain⟨hlen,hall⟩:=dT.1 h3;rw[Am]at hlen;have hidE:∀(w':World) es' cl',({ w:=w',H:=E.H.set id (.aH l w es' cl'),loc:=E.loc,X:=E.X }:Env).H[id]? = some (.aH l w es' cl'):=fun w' es' cl'=>by
  simp only[];rw[bB (aK hid)]
 split at h
 ·rename_i i v0 V
  split at h
  case h_2=>cases h
  rename_i key rows bn U;cases h;have hes:es[i]? = some (key,some rows,bn):=by
   unfold mS at U;split at U
   ·rename_i a1 a2 a3 he
    cases U;exact he
   ·cases U
  have hlt:=aK hes;obtain⟨r',g1,g2⟩:=gy J E.w h3 V;cases r' with
  |none=>simp[c5]at g2
  | some q =>
   simp only[c5]at g2;obtain⟨q1,q2,_,e',N,q5⟩:=g2;obtain⟨_,x,y,f1,f2,f3⟩:=sY V;simp only[fS]at N f1;obtain⟨a1,a2,a3,a4,a5⟩:=hall i x e' f1 N;obtain⟨s1,s2⟩:=wH J (gM f2 a1) f3;have q4':ms[i]? = some e':=by simpa using N
   have hx:x=(key,.undef,bn):=by rw[wL hes]at f1; cases f1; rfl
   have hre:bC E (cC (es.set i (k,some rows,bn))) (ms.modify i fun e=>{ e with key:=d }).toList:=by
    rw[dT];refine⟨by simp[cC,hlen],fun a y z g B=>?_⟩;simp only[j5,ib]at B;obtain⟨z0,M,rfl⟩:=dM.1 B;unfold cC at g;rw[bZ,dN]at g;by_cases e:i=a
    ·subst e
     rw[if_pos rfl,if_pos hlt]at g;cases g;rw[N]at M;cases M;simp only[if_true];refine⟨hk,by simp[rel],?_,hcl,rfl⟩;rw[a3,hx]
    ·rw [if_neg e] at g
     obtain⟨b1,b2,b3,b4,b5⟩:=hall a y z0 (by unfold cC; rw[bZ]; exact g) M;simp only[if_neg e];exact⟨b1,b2,b3,b4,b5⟩
   have hsl2:il E l w (es.set i (k,some rows,bn)) (ms.modify i fun e=>{ e with key:=d }).toList:=by
    obtain⟨hs,k1,k2⟩:=h4;have I:∀(a:Nat) y,(es.set i (k,some rows,bn))[a]? = some y→∃ z,es[a]? = some z∧z.2.1=y.2.1:=fun a y g=>by
     by_cases ei:i=a
     ·subst ei
      rw[bB hlt]at g;cases g;exact⟨_,hes,rfl⟩
     ·rw [aT ei] at g
      exact⟨y,g,rfl⟩
    refine⟨hs,fun a c y z g B W sz he=>?_,fun a y rws e g hr he=>?_⟩
    ·obtain ⟨y', hy', ey⟩ := I a y g
     obtain⟨z',hz',ez⟩:=I c z B;exact k1 a c y' z' hy' hz' (by rw[ey]; exact W) (by rw[ez]; exact sz) he
    ·obtain ⟨y', hy', ey⟩ := I a y g
     simp only[j5,ib]at he;obtain⟨z0,M,rfl⟩:=dM.1 he;have:=k2 a y' rws z0 hy' (by rw[ey]; exact hr) M;split<;>exact this
   obtain⟨O,p1,p2,p3,p4,p5⟩:=s_ (P:=P) HE (cl':=cl) hid h1 h2 hre hsl2;have hobj:=p2.obj id _ (hidE O _ _);simp only[aN]at hobj;obtain⟨b2,n2,ms2,o1,o2,o3,o4⟩:=hobj;rw[h1]at o1;simp only[aZ,be]at o1;obtain⟨rfl,rfl⟩:=o1;rw[p4]at o2;cases o2;obtain⟨loc',r',r1,r2,r3⟩:=S1 p2 (i:=i) (key:=k) (rows:=rows) (bn:=bn) (e':={ e' with key:=d }) (hidE O _ _) (by rw[bB hlt]) h1 p4 o3 o4 (by
    simp only[j5,ib,N];simp)
   simp only[oa,mA]at r1 r2 r3;refine⟨.tuple #[e'.val,goInt bn],O,?_,loc',r',?_,r1,p3.trans r2⟩
   ·have hst : (pN e'.key d).run P E.w = .ok d E.w := by simp [pN, s2]
    subst q1;simp only[zU,bW,Sem.br (e_ ht),bX,e1,fL J,g1,q4',eF,lH,hst];rw[p1];simp only[bX,eY];rw[a3,hx,←q5]
   ·simp only [rel]
    refine⟨_,rfl,?_⟩;simp only[af,and_true];exact⟨r3,by simp[rel]⟩
 ·rename_i V
  cases h;obtain⟨r',g1,g2⟩:=gy J E.w h3 V;cases r' with
  |some _=>simp[c5]at g2
  | none =>
   obtain⟨zv,z1,z2⟩:=qg B E.w;have hzv:zv=.slice none 0 0:=by have:=z2 E; simpa[rel]using this
   have hml:ms.toList.length=es.length:=by omega
   have hre:bC E (cC (es++[(k,none,cl)])) (ms.push { key:=d,val:=zv,born:=cl }).toList:=by
    rw[dT];refine⟨by simp[cC,hlen],fun a y z g B=>?_⟩;unfold cC at g;rw[j6]at g;simp only[n_,eX,dE]at g B;rw[hml]at B;by_cases e:a<es.length
    ·simp only [if_pos e] at g B
     exact hall a y z (by unfold cC; exact g) B
    ·simp only [if_neg e] at g B
     cases hj2:a-es.length with
     | zero =>
      rw[hj2]at g B;simp at g B;subst g; subst B;exact⟨hk,by simp[rel],rfl,hcl,rfl⟩
     |succ _=>rw[hj2]at g; simp at g
   have hsl2:il E l w (es++[(k,none,cl)]) (ms.push { key:=d,val:=zv,born:=cl }).toList:=by
    obtain⟨hs,k1,k2⟩:=h4;have I:∀(a:Nat) y,(es++[(k,(none:Option (List (List AV))),cl)])[a]? = some y→y.2.1.isSome=true→es[a]? = some y∧a<es.length:=fun a y g hsm=>by
     rw[eX]at g;split at g
     ·rename_i hh
      exact⟨g,hh⟩
     ·cases hk2 : a - es.length with
      | zero =>
       rw[hk2]at g;simp at g;subst g;cases hsm
      |succ _=>rw[hk2]at g; simp at g
    refine⟨hs,fun a c y z g B W sz he=>k1 a c y z (I a y g W).1 (I c z B sz).1 W sz he,fun a y rws e g hr he=>?_⟩;obtain⟨o1,o2⟩:=I a y g (by rw[hr]; rfl);simp only[n_]at he;rw[cK (by omega)]at he;exact k2 a y rws e o1 hr he
   obtain⟨O,p1,p2,p3,p4,p5⟩:=s_ (P:=P) HE (cl':=cl+1) hid h1 h2 hre hsl2;obtain⟨r1,r2,r3⟩:=S2 p2 w;simp only[mA]at r3;refine⟨.tuple #[zv,goInt cl],O,?_,E.loc++[none],E.X.r,?_,r1,p3.trans r2⟩
   ·simp only [zU, bW, Sem.br (e_ ht), bX, e1, fL J, g1, z1]
    rw[p1];rfl
   ·simp only [rel]
    refine⟨_,rfl,?_⟩;simp only[af,and_true];rw[hzv];exact⟨r3,by simp[rel]⟩
 ·cases h
def oC (es:List (AV × Option (List (List AV)) × Nat)) (st:Int):Option Nat:=es.findIdx? fun x=>(x.2.2:Int)==st
def jD(m s v:AV)(H:List ab):Option (List ab) :=
 match m,s,v with
 | .map id,.lit (.int .i64 st),.vec w j ae off n=>match H[id]?,H[j]? with
  | some (.aH l w' es cl),some (.vec g d rows)=>if (w=w'∧w=g)∧(ae=d∧off=0)∧n=rows.length then
    match oC es st with
    | some i=>match es[i]? with
     |some (key,_,bn)=>some ((H.set id (.aH l w' (es.set i (key,some rows,bn)) cl)).set j .dead)
     |none=>none
    |none=>none
   else none
  |_,_=>none
 |_,_,_=>none
theorem Ic{E:Env}{st:Int}:∀{es:List (AV × Option (List (List AV)) × Nat)} {ms:List MapEntry},bC E (cC es) ms→ms.findIdx? (fun e=>(e.born:Int)==st)=oC es st
 | [],[],_=>rfl
 | [],_::_,h=>by simp[cC,bC]at h
 |_::_,[],h=>by simp[cC,bC]at h
 | x::es,e::ms,h=>by
  have h':bC E ((x.1,.undef,x.2.2)::cC es) (e::ms):=h;simp only[bC]at h';obtain⟨_,_,g,_,_,k⟩:=h';have d:=Ic (st:=st) k;unfold oC at d⊢;simp only[GM,g,d]
theorem S4{P:Program}{E:Env}(HE:au E){t:TypeId}{m s v:AV}{c d u:Value}{H':List ab}(h:jD m s v E.H=some H')(hm:rel E m c)(J:rel E s d)(hv:rel E v u) :
  ∃ w',(vL t c d u).run P E.w=.ok () w'∧∀ x,cL E .undef H' x w':=by
 unfold jD at h;split at h
 case h_2=>cases h
 rename_i id st w j ae off n;split at h
 case h_2=>cases h
 rename_i l w' es cl w2 ver' rows hid M;split at h
 case isFalse=>cases h
 rename_i hc;obtain⟨⟨rfl,rfl⟩,⟨rfl,rfl⟩,rfl⟩:=hc;split at h
 case h_2=>cases h
 rename_i i hi;split at h
 case h_2=>cases h
 rename_i key k bn hes;cases h;obtain⟨b,n,ms,rfl,h1,h2,h3,h4⟩:=wK HE hid hm;have hne:j≠id:=fun e=>by rw[e,hid]at M; cases M
 have e1:(getObj b).run P E.w=.ok (.map ms cl) E.w:=by simp[getObj,fV,h2]
 obtain⟨hlen,W⟩:=dT.1 h3;rw[Am]at hlen;have I:=aK hes;obtain⟨e',q4⟩:∃ e',ms.toList[i]? = some e':=⟨ms.toList[i]'(by omega),bI _⟩
 have hfind:ms.findIdx? (fun e=>(e.born:Int)==st)=some i:=by
  have e0:ms=ms.toList.toArray:=by simp
  rw[e0,agB,Ic h3,hi]
 have hre:bC E (cC (es.set i (key,none,bn))) (ms.modify i fun e=>{ e with val:=u }).toList:=by
  rw[dT];refine⟨by simp[cC,hlen],fun a y z g B=>?_⟩;simp only[j5,ib]at B;obtain⟨z0,q,rfl⟩:=dM.1 B;unfold cC at g;rw[bZ,dN]at g;by_cases e:i=a
  ·subst e
   rw[if_pos rfl,if_pos I]at g;cases g;obtain⟨b1,N,O,U,b5⟩:=W i _ z0 (wL hes) q;simp only[if_true];exact⟨b1,by simp[rel],O,U,rfl⟩
  ·rw [if_neg e] at g
   obtain⟨b1,N,O,U,b5⟩:=W a y z0 (by unfold cC; rw[bZ]; exact g) q;simp only[if_neg e];exact⟨b1,N,O,U,b5⟩
 have hsl2:il E l w (es.set i (key,none,bn)) (ms.modify i fun e=>{ e with val:=u }).toList:=by
  obtain⟨J,k1,k2⟩:=h4;have k:∀(a:Nat) y,(es.set i (key,none,bn))[a]? = some y→y.2.1.isSome=true→es[a]? = some y∧a≠i:=fun a y g hsm=>by
   by_cases V:i=a
   ·subst V
    rw[bB I]at g;cases g;cases hsm
   ·rw [aT V] at g
    exact⟨g,Ne.symm V⟩
  refine⟨J,fun a c y z g B sy sz he=>k1 a c y z (k a y g sy).1 (k c z B sz).1 sy sz he,fun a y rws e g hr he=>?_⟩;obtain⟨o1,o2⟩:=k a y g (by rw[hr]; rfl);simp only[j5,ib]at he;obtain⟨z0,q,rfl⟩:=dM.1 he;rw[if_neg (Ne.symm o2)];exact k2 a y rws z0 o1 hr q
 obtain⟨w',p1,p2,p3,p4,p5⟩:=s_ (P:=P) HE (cl':=cl) hid h1 h2 hre hsl2;have hd:d=.int .i64 st:=by simpa[rel]using J
 have hrun:(vL t (.map (some b)) d u).run P E.w=.ok () w':=by
  subst hd;simp only[vL,asInt,asIntOf,bW,bX,e1,eY,hfind];exact p1
 have hidE:({ w:=w',H:=E.H.set id (.aH l w (es.set i (key,none,bn)) cl),loc:=E.loc,X:=E.X }:Env).H[id]? = some (.aH l w (es.set i (key,none,bn)) cl):=by
  simp only[];rw[bB (aK hid)]
 have hjE:({ w:=w',H:=E.H.set id (.aH l w (es.set i (key,none,bn)) cl),loc:=E.loc,X:=E.X }:Env).H[j]? = some (.vec w ae rows):=by
  simp only[];rw[aT (Ne.symm hne)];exact M
 have hobj:=p2.obj id _ hidE;simp only[aN]at hobj;obtain⟨N,n2,ms2,o1,o2,o3,o4⟩:=hobj;rw[h1]at o1;simp only[aZ,be]at o1;obtain⟨rfl,rfl⟩:=o1;rw[p4]at o2;cases o2;obtain⟨loc',r',r1,r2⟩:=A3 p2 (i:=i) (key:=key) (bn:=bn) (e:={ e' with val:=u }) hidE hjE (by rw[bB I]) h1 p4 (by
  simp only[j5,ib,q4];simp) o3 o4 (bP p3 _ hv)
 refine⟨w',hrun,fun xx=>⟨loc',r',by simp[rel],?_,p3.trans ?_⟩⟩
 ·simpa[oa]using r1
 ·simpa[oa]using r2
end Go.AL

namespace Go.AL
open Go
variable [Dr]
theorem S5{r:List (Option (Option (Nat × Nat)))}(h:∀(i:Nat) q,r[i]? ≠ some (some q)):dR r=[]:=by
 unfold dR;rw[List.filterMap_eq_nil_iff];intro x d;obtain⟨i,hi,e⟩:=n3 d;cases x with
 |none=>rfl
 |some q=>exact absurd (by rw[bI hi,e]) (h i q)
theorem Ie{E:Env}(HE:au E){id l cl:Nat}(hid:E.H[id]? = some (.map [] cl))(d:lS E.H l=true) :
  au { w:=E.w,H:=E.H.set id (.mm l [] [] cl),loc:=E.loc,X:=E.X }∧E.le { w:=E.w,H:=E.H.set id (.mm l [] [] cl),loc:=E.loc,X:=E.X } :=
 au.Ib HE hid rfl rfl rfl (sU d) fun hle=>by
  have ho:=HE.obj id _ hid;simp only[aN]at ho⊢;obtain⟨b,n,ms,h1,g,h⟩:=ho;have k:=S5 (HE.fJ l (sU d));refine⟨b,n,ms,h1,g,fA (fun a _ q=>bP hle a q) h,?_,fun i x e u=>by simp at u,fun j m b hm=>by simp at hm⟩;show (dR (E.X.r l)).length=0
  rw[k];rfl
theorem A4{E:Env}(HE:au E){id l cl:Nat}{es:List (AV × Option Nat × Nat)}{ms:List (List (AV × AV × Nat) × Nat)}{c:Value}(hid:E.H[id]? = some (.mm l es ms cl))(g:rel E (.map id) c) :
  ∃ b n d,c=.map (some b)∧E.loc[id]? = some (some (b,n))∧E.w.heap[b]? = some (.map d cl)∧bC E (e9 es) d.toList∧v_ E l es ms d.toList:=by
 have ho:=HE.obj id _ hid;simp only[aN]at ho;obtain⟨b,n,d,h1,h,k,q⟩:=ho;simp only[rel]at g;obtain⟨_,_,u⟩:=g;obtain⟨v,y,g1,g2⟩:=u ⟨_,hid,rfl⟩;rw[h1]at g1;simp only[aZ,be]at g1;obtain⟨rfl,rfl⟩:=g1;exact⟨b,n,d,g2,h1,h,k,q⟩
theorem If{E:Env}(HE:au E){id l cl i:Nat}{es:List (AV × Option Nat × Nat)}{ms:List (List (AV × AV × Nat) × Nat)}{m:List (AV × AV × Nat) × Nat}{c:Value}(hid:E.H[id]? = some (.mm l es ms cl))(hm:ms[i]? = some m) (g:rel E (.sub id l (some i)) c) :
  ∃ b d,c=.map (some b)∧(dR (E.X.r l))[i]? = some b∧E.w.heap[b]? = some (.map d m.2)∧bC E m.1 d.toList:=by
 have ho:=HE.obj id _ hid;simp only[aN]at ho;obtain⟨_,_,d,_,_,_,_,_,k⟩:=ho;simp only[rel]at g;rcases g with⟨h,_⟩|⟨u,h1,_,_,q⟩
 ·cases h
 cases h1;obtain⟨_,b,g1,g2⟩:=q ⟨_,hid,rfl⟩;obtain⟨mm,g3,g4⟩:=k i m b hm g1;exact⟨b,mm,g2,g1,g3,g4⟩
def oD(P:Program)(t:TypeId)(m k:AV)(H:List ab):Option AV :=
 match cW P t,m with
 | some (d,g),.map id=>match H[id]? with
  | some (.mm l es _ _)=>match gL P d k,gz P g with
   | some h,some (.lit (.map none))=>match dZ P d h (e9 es) 0 with
    |some (some (i,_))=>(es[i]?).map fun x=>.sub id l x.2.1
    |some none=>some (.sub id l none)
    |none=>none
   |_,_=>none
  |_=>none
 |_,_=>none
theorem S6{P:Program}{E:Env}(HE:au E){t:TypeId}{m k v:AV}{c d:Value}(h:oD P t m k E.H=some v)(hm:rel E m c)(hk:rel E k d) :
  ∃ u,(j0 t c d false).run P E.w=.ok u E.w∧rel E v u:=by
 unfold oD at h;split at h
 case h_2=>cases h
 rename_i kt et id I;split at h
 case h_2=>cases h
 rename_i l es ms cl hid;split at h
 case h_2=>cases h
 rename_i kv O W;obtain⟨b,n,U,rfl,h1,h2,J,_,hmm,_⟩:=A4 HE hid hm;have g:=gM O hk;obtain⟨zv,z1,z2⟩:=qg W E.w;have V:zv=.map none:=by simpa[rel]using z2 E
 subst V;have M:(getObj b).run P E.w=.ok (.map U cl) E.w:=by simp[getObj,fV,h2]
 split at h
 ·rename_i i v0 y
  obtain⟨r',g1,g2⟩:=gy g E.w J y;cases r' with
  |none=>simp[c5]at g2
  | some q =>
   simp only[c5]at g2;obtain⟨q1,_,_,e,q4,q5⟩:=g2;obtain⟨x,hx,rfl⟩:=dM.1 h;refine⟨q.2,?_,?_⟩
   ·simp only [j0, bW, Sem.br (e_ I), bX, M, eY, fL g, g1]
    rfl
   ·rw [← q5]
    simp only[rel];rcases hmm i x e hx (by simpa using q4)with⟨B,a2⟩|⟨j,N,B,a2,a3⟩
    ·exact .inl ⟨B,a2⟩
    ·exact .inr ⟨j,B,⟨N,a3⟩,⟨_,hid,rfl,fun v _=>ef v⟩,fun _=>⟨⟨_,hid,rfl⟩,N,a2,a3⟩⟩
 ·rename_i y
  obtain⟨r',g1,g2⟩:=gy g E.w J y;cases h;cases r' with
  |some _=>simp[c5]at g2
  | none =>
   refine⟨.map none,?_,by simp[rel]⟩;simp only[j0,bW,Sem.br (e_ I),bX,M,eY,fL g,g1,z1];rfl
 ·cases h
def qh(P:Program)(t:TypeId)(m k:AV)(ok:Bool)(H:List ab):Option AV :=
 match cW P t,m with
 | some (d,g),.sub id l (some i)=>match H[id]? with
  | some (.mm l' _ ms _)=>match ad l l',ms[i]?,gL P d k,lV P g with
   | true,some mm,some h,some z=>match dZ P d h mm.1 0 with
    | some r=>let v:=match r with
      |some (_,v)=>v
      |none=>z
     some (match ok with
      |true=>.tuple [v,.lit (.bool r.isSome)]
      |false=>v)
    |none=>none
   |_,_,_,_=>none
  |_=>none
 |_,_=>none
theorem S7{P:Program}{E:Env}(HE:au E){t:TypeId}{m k v:AV}{ok:Bool}{c d:Value}(h:qh P t m k ok E.H=some v)(hm:rel E m c)(hk:rel E k d) :
  ∃ u,(j0 t c d ok).run P E.w=.ok u E.w∧rel E v u:=by
 unfold qh at h;split at h
 case h_2=>cases h
 rename_i kt et id l i B;split at h
 case h_2=>cases h
 rename_i l' es ms cl hid;split at h
 case h_2=>cases h
 rename_i mm kv z y hmm N U;have y:=bt y;subst y;split at h
 case h_2=>cases h
 rename_i r V;obtain⟨b,O,rfl,_,W,h3⟩:=If HE hid hmm hm;have g:=gM N hk;obtain⟨r',g1,g2⟩:=gy g E.w h3 V;obtain⟨I,z1,z2⟩:=HU U E.w;have J:(getObj b).run P E.w=.ok (.map O mm.2) E.w:=by simp[getObj,fV,W]
 cases h;cases r with
 | none =>
  cases r' with
  |some _=>simp[c5]at g2
  | none =>
   refine⟨if ok then .tuple #[I,.bool false] else I,?_,?_⟩
   ·simp only[j0,bW,Sem.br (e_ B),bX,J,eY,fL g,g1,z1]
   ·cases ok with
    |true=>simp[rel,af,z2 E]
    |false=>simpa using z2 E
 | some p =>
  cases r' with
  |none=>simp[c5]at g2
  | some q =>
   simp only[c5]at g2;obtain⟨q1,M,_,_,_,_⟩:=g2;refine⟨if ok then .tuple #[q.2,.bool true] else q.2,?_,?_⟩
   ·simp only[j0,bW,Sem.br (e_ B),bX,J,eY,fL g,g1]
   ·cases ok with
    |true=>simp[rel,af,M]
    |false=>simpa using M
theorem Ig:∀{r:List (Option (Option (Nat × Nat)))},(∀(h h' b m n:Nat),r[h]? = some (some (some (b,m)))→r[h']? = some (some (some (b,n)))→h=h')→(dR r).Nodup
 | [],_=>Rk
 | x::r,H=>by
  have d:=Ig (r:=r) fun h h' b m n h1 g=>by
   have:=H (h+1) (h'+1) b m n (by simpa using h1) (by simpa using g);omega
  match x,H with
  |none,_=>exact d
  |some none,_=>exact d
  | some (some (b,m)),H =>
   show (b::dR r).Nodup
   refine List.nodup_cons.2 ⟨fun hm=>?_,d⟩;obtain⟨i,n,hi⟩:=v8 hm;have:=H 0 (i+1) b m n rfl (by simpa using hi);omega
theorem S8{E:Env}(HE:au E){l i j b:Nat} (h1:(dR (E.X.r l))[i]? = some b) (d:(dR (E.X.r l))[j]? = some b):i=j :=
 (List.getElem?_inj (aK h1) (Ig fun h h' b m n g k=>(HE.eu l h l h' b m n g k).2)).1 (by rw[h1,d])
def ja(P:Program)(t:TypeId)(m k:AV)(ok:Bool)(H:List ab):Option AV :=
 match m with
 |.sub id l j=>qh P t (.sub id l j) k ok H
 | .map id=>match ok with
  |false=>oD P t (.map id) k H
  |true=>none
 |_=>none
theorem S9{P:Program}{E:Env}(HE:au E){t:TypeId}{m k v:AV}{ok:Bool}{c d:Value}(h:ja P t m k ok E.H=some v)(hm:rel E m c)(hk:rel E k d) :
  ∃ u,(j0 t c d ok).run P E.w=.ok u E.w∧rel E v u:=by
 unfold ja at h;split at h
 ·exact S7 HE h hm hk
 ·split at h
  ·exact S6 HE h hm hk
  ·cases h
 ·cases h
theorem Ih{P:Program}{t:TypeId}{m k v:AV}{ok:Bool}{H H2:List ab}(g:∀(i l:Nat) es ms (cl:Nat),H[i]? = some (ab.mm l es ms cl)→H2[i]? = some (ab.mm l es ms cl))(h:ja P t m k ok H=some v):ja P t m k ok H2=some v∧fB P t m k ok H2=none:=by
 unfold ja at h⊢;unfold fB;split at h
 ·rename_i id l j
  refine⟨?_,by split<;>first|rfl|(rename_i e; cases e)⟩;unfold qh at h⊢;split at h
  case h_2=>cases h
  rename_i q u i y;split at h
  case h_2=>cases h
  rename_i l' es ms cl hid;simp only[g _ _ _ _ _ hid];exact h
 ·rename_i id
  split at h
  case h_2=>cases h
  cases d:cW P t with
  | none =>
   simp only[oD,d]at h;cases h
  | some p =>
   simp only[oD,d]at h⊢;split at h
   case h_2=>cases h
   rename_i hid;simp only[g _ _ _ _ _ hid];exact⟨h,trivial⟩
 ·cases h
theorem S_{P:Program}{t:TypeId}{m k:AV}{ok:Bool}{H H2:List ab}(h1:∀ id,m=.map id→H2[id]? = H[id]?)(d:∀ id l j,m=.sub id l j→H2[id]? = H[id]?):ja P t m k ok H2=ja P t m k ok H:=by
 unfold ja;cases m<;>try rfl
 ·rename_i id
  cases ok with
  |true=>rfl
  | false =>
   unfold oD;cases cW P t with
   |none=>rfl
   |some p=>simp only[h1 id rfl]
 ·rename_i id l j
  unfold qh;cases cW P t with
  |none=>rfl
  | some p =>
   cases j with
   |none=>rfl
   |some j=>simp only[d id l (some j) rfl]
theorem Ii{P:Program}{E:Env}(HE:au E){id l cl i b:Nat}{es:List (AV × Option Nat × Nat)}{ms:List (List (AV × AV × Nat) × Nat)}{m m':List (AV × AV × Nat) × Nat}{J mes':Array MapEntry}(hid:E.H[id]? = some (.mm l es ms cl))(hm:ms[i]? = some m)
  (hb:(dR (E.X.r l))[i]? = some b) (U:E.w.heap[b]? = some (.map J m.2)) (d:bC E m'.1 mes'.toList) :
  ∃ w',(setObj b (.map mes' m'.2)).run P E.w=.ok () w'∧au { w:=w',H:=E.H.set id (.mm l es (ms.set i m') cl),loc:=E.loc,X:=E.X }∧E.le { w:=w',H:=E.H.set id (.mm l es (ms.set i m') cl),loc:=E.loc,X:=E.X }:=by
 obtain⟨h,u,v⟩:=v8 (eM hb);have M:=(HE.cu l h b u v).1;have N:({ E.w with heap:=E.w.heap.setIfInBounds b (.map mes' m'.2) }:World).heap.size=E.w.heap.size:=by simp
 have q:∀ y,y≠b→({ E.w with heap:=E.w.heap.setIfInBounds b (.map mes' m'.2) }:World).heap[y]? = E.w.heap[y]? := by
  intro y V;simp only[zT];rw[if_neg (fun e=>V e.symm)]
 have key:=au.Ap (w':={ E.w with heap:=E.w.heap.setIfInBounds b (.map mes' m'.2) }) (r':=E.X.r) (o':=.mm l es (ms.set i m') cl) HE hid rfl rfl rfl (agC N.symm) (fun x _ _ W=>q x fun e=>by
   subst e;exact W h u v) (fun _ _=>rfl) (fun _ _ _ hk=>.inl hk) (fun _ hk=>⟨hk,fun _ hq=>hq⟩) (fun hle=>?_) ⟨rfl,rfl,rfl,fun _=>aG _⟩ (.inr ⟨rfl,[],(cY _).symm⟩)
 ·exact⟨_,by simp[setObj,fV,U],key.1,key.2⟩
 ·have ho := HE.obj id _ hid
  simp only[aN]at ho⊢;obtain⟨b0,n,I,g1,g2,g3,g4,g5,g6⟩:=ho;have O:b0≠b:=fun e=>HE.cN id b0 n l h u g1 (by rw[e]; exact v);refine⟨b0,n,I,g1,?_,fA (fun a _ d=>bP hle a d) g3,?_,g5,fun j mj B k g=>?_⟩
  ·rw [← g2]
   exact q b0 O
  ·show (dR (E.X.r l)).length = _
   rw[mA];exact g4
  ·have g : (dR (E.X.r l))[j]? = some B := g
   by_cases e:i=j
   ·subst e
    rw[bB (aK hm)]at k;cases k;rw[hb]at g;cases g;exact⟨mes',by simp[M],fA (fun a _ d=>bP hle a d) d⟩
   ·rw [aT e] at k
    obtain⟨mm,k1,k2⟩:=g6 j mj B k g;refine⟨mm,?_,fA (fun a _ d=>bP hle a d) k2⟩;rw[←k1];exact q B fun e2=>e (S8 HE hb (by rw[←e2]; exact g))
def ta(P:Program)(t:TypeId)(m k v:AV)(H:List ab):Option (List ab) :=
 match cW P t,m with
 | some (q,_),.sub id l (some i0)=>match H[id]? with
  | some (.mm l' g d h)=>match ad l l',d[i0]?,gL P q k with
   | true,some mm,some u=>if v.closed=true∧k.closed=true then
     match dZ P q u mm.1 0 with
     |some (some (i,_))=>some (H.set id (.mm l g (d.set i0 (mm.1.modify i fun e=>(k,v,e.2.2),mm.2)) h))
     |some none=>some (H.set id (.mm l g (d.set i0 (mm.1++[(k,v,mm.2)],mm.2+1)) h))
     |none=>none
    else none
   |_,_,_=>none
  |_=>none
 |_,_=>none
theorem S'{P:Program}{E:Env}(HE:au E){t:TypeId}{m k v:AV}{c d u:Value}{H':List ab}(h:ta P t m k v E.H=some H')(hm:rel E m c)(hk:rel E k d)(hv:rel E v u) :
  ∃ w',(lG t c d u).run P E.w=.ok () w'∧au { w:=w',H:=H',loc:=E.loc,X:=E.X }∧E.le { w:=w',H:=H',loc:=E.loc,X:=E.X }:=by
 unfold ta at h;split at h
 case h_2=>cases h
 rename_i kt et id l i0 ht;split at h
 case h_2=>cases h
 rename_i l' oes oms ocl hid;split at h
 case h_2=>cases h
 rename_i mm kv O hmm hkv;have O:=bt O;subst O;obtain⟨es,cl⟩:=mm;split at h
 case isFalse=>cases h
 rename_i J;obtain⟨b,ms,rfl,h1,U,V⟩:=If HE hid hmm hm;have I:=gM hkv hk;have e1:(getObj b).run P E.w=.ok (.map ms cl) E.w:=by simp[getObj,fV,U]
 obtain⟨hlen,N⟩:=dT.1 V;split at h
 ·rename_i i v0 M
  cases h;obtain⟨r',g1,g2⟩:=gy I E.w V M;cases r' with
  |none=>simp[c5]at g2
  | some q =>
   simp only[c5]at g2;obtain⟨q1,q2,_,e',W,q5⟩:=g2;obtain⟨_,x,l,f1,f2,f3⟩:=sY M;simp only[fS]at W f1;obtain⟨a1,a2,a3,a4,a5⟩:=N i x e' f1 W;obtain⟨s1,s2⟩:=wH I (gM f2 a1) f3;have q4':ms[i]? = some e':=by simpa using W
   obtain⟨w',r1,r2,r3⟩:=Ii (P:=P) HE (m':=(es.modify i fun e=>(k,v,e.2.2),cl)) (mes':=ms.modify i fun e=>{ e with key:=d,val:=u }) hid hmm h1 U (by
    rw[dT];refine⟨by simp[hlen],fun j y z g B=>?_⟩;simp only[ib]at g;simp only[j5,ib]at B;obtain⟨y0,hy0,rfl⟩:=dM.1 g;obtain⟨z0,hz0,rfl⟩:=dM.1 B;obtain⟨b1,b2,b3,b4,b5⟩:=N j y0 z0 hy0 hz0;by_cases e:i=j
    ·subst e
     simp only[if_true];exact⟨hk,hv,b3,J.2,J.1⟩
    ·simp only [if_neg e]
     exact⟨b1,b2,b3,b4,b5⟩)
   refine⟨w',?_,r2,r3⟩;subst q1;have hst:(pN e'.key d).run P E.w=.ok d E.w:=by simp[pN,s2]
   simp only[lG,bW,Sem.br (e_ ht),bX,e1,fL I,g1,q4',eF,lH,hst];exact r1
 ·rename_i M
  cases h;obtain⟨r',g1,g2⟩:=gy I E.w V M;cases r' with
  |some _=>simp[c5]at g2
  | none =>
   obtain⟨w',r1,r2,r3⟩:=Ii (P:=P) HE (m':=(es++[(k,v,cl)],cl+1)) (mes':=ms.push { key:=d,val:=u,born:=cl }) hid hmm h1 U (by
    rw[dT];refine⟨by simp[hlen],fun j y z g B=>?_⟩;simp only[n_,eX,hlen]at g B;by_cases e:j<ms.toList.length
    ·simp only [if_pos e] at g B
     exact N j y z g B
    ·simp only [if_neg e] at g B
     cases hj:j-ms.toList.length with
     | zero =>
      rw[hj]at g B;simp at g B;subst g; subst B;exact⟨hk,hv,rfl,J.2,J.1⟩
     |succ _=>rw[hj]at g; simp at g)
   refine⟨w',?_,r2,r3⟩;simp only[lG,bW,Sem.br (e_ ht),bX,e1,fL I,g1];exact r1
 ·cases h
theorem Ij{P:Program}{E:Env}(HE:au E){id l b n cl cl':Nat}{es es':List (AV × Option Nat × Nat)}{ms:List (List (AV × AV × Nat) × Nat)}{v mes':Array MapEntry}(hid:E.H[id]? = some (.mm l es ms cl)) (g:E.loc[id]? = some (some (b,n)))
  (hb:E.w.heap[b]? = some (.map v cl)) (d:bC E (e9 es') mes'.toList)
  (hmm:∀(i:Nat) x e,es'[i]? = some x→mes'.toList[i]? = some e→(x.2.1=none∧e.val=.map none)∨∃ j b,x.2.1=some j∧(dR (E.X.r l))[j]? = some b∧e.val=.map (some b)) :
  ∃ w',(setObj b (.map mes' cl')).run P E.w=.ok () w'∧au { w:=w',H:=E.H.set id (.mm l es' ms cl'),loc:=E.loc,X:=E.X }∧E.le { w:=w',H:=E.H.set id (.mm l es' ms cl'),loc:=E.loc,X:=E.X }:=by
 have B:=(HE.lt id b n g).1;have I:({ E.w with heap:=E.w.heap.setIfInBounds b (.map mes' cl') }:World).heap.size=E.w.heap.size:=by simp
 have k:∀ y,y≠b→({ E.w with heap:=E.w.heap.setIfInBounds b (.map mes' cl') }:World).heap[y]? = E.w.heap[y]? := by
  intro y J;simp only[zT];rw[if_neg (fun e=>J e.symm)]
 have key:=au.Ap (w':={ E.w with heap:=E.w.heap.setIfInBounds b (.map mes' cl') }) (r':=E.X.r) (o':=.mm l es' ms cl') HE hid rfl rfl rfl (agC I.symm) (fun x _ M _=>k x fun e=>by
   subst e;exact M n g) (fun _ _=>rfl) (fun _ _ _ hk=>.inl hk) (fun _ hk=>⟨hk,fun _ N=>N⟩) (fun hle=>?_) ⟨rfl,rfl,rfl,fun _=>aG _⟩ (.inr ⟨rfl,[],(cY _).symm⟩)
 ·exact⟨_,by simp[setObj,fV,hb],key.1,key.2⟩
 ·have ho := HE.obj id _ hid
  simp only[aN]at ho⊢;obtain⟨b0,n0,mes0,g1,g2,g3,g4,g5,g6⟩:=ho;refine⟨b,n,mes',g,by simp[B],fA (fun a _ d=>bP hle a d) d,g4,hmm,fun j O u U q=>?_⟩;obtain⟨mm,V,W⟩:=g6 j O u U q;obtain⟨h,mc,hh⟩:=v8 (eM q);refine⟨mm,?_,fA (fun a _ d=>bP hle a d) W⟩;rw[←V];exact k u fun e2=>HE.cN id b n l h mc g (by rw[←e2]; exact hh)
def iF(P:Program)(t:TypeId)(m k:AV)(H:List ab):Option (AV × List ab) :=
 match cW P t,m with
 | some (d,g),.map id=>match H[id]? with
  | some (.mm l es ms cl)=>match gL P d k,gz P g,k.closed with
   | some h,some (.lit (.map none)),true=>match dZ P d h (e9 es) 0 with
    |some none=>some (.tuple [.sub id l none,.lit (goInt cl)],H.set id (.mm l (es++[(k,none,cl)]) ms (cl+1)))
    |_=>none
   |_,_,_=>none
  |_=>none
 |_,_=>none
theorem Ta{P:Program}{E:Env}(HE:au E){t:TypeId}{m k v:AV}{c d:Value}{H':List ab}(h:iF P t m k E.H=some (v,H'))(hm:rel E m c)(hk:rel E k d) :
  ∃ u w',(zU t c d).run P E.w=.ok u w'∧cL E v H' u w':=by
 unfold iF at h;split at h
 case h_2=>cases h
 rename_i kt et id ht;split at h
 case h_2=>cases h
 rename_i l es ms cl hid;split at h
 case h_2=>cases h
 rename_i kv W q hcl;obtain⟨b,n,N,rfl,h1,O,U,h4,h5,h6⟩:=A4 HE hid hm;have M:=gM W hk;have J:(getObj b).run P E.w=.ok (.map N cl) E.w:=by simp[getObj,fV,O]
 obtain⟨hlen,V⟩:=dT.1 U;rw[Hd]at hlen;split at h
 case h_2=>cases h
 rename_i hf;cases h;obtain⟨r',g1,g2⟩:=gy M E.w U hf;cases r' with
 |some _=>simp[c5]at g2
 | none =>
  obtain⟨zv,z1,z2⟩:=qg q E.w;have hzv:zv=.map none:=by have:=z2 E; simpa[rel]using this
  subst hzv;have hre:bC E (e9 (es++[(k,none,cl)])) (N.push { key:=d,val:=.map none,born:=cl }).toList:=by
   rw[dT];refine⟨by simp[e9,hlen],fun a y z g q=>?_⟩;unfold e9 at g;rw[j6]at g;simp only[n_,eX,dE]at g q;rw[←hlen]at q;by_cases e:a<es.length
   ·simp only [if_pos e] at g q
    exact V a y z (by unfold e9; exact g) q
   ·simp only [if_neg e] at g q
    cases I:a-es.length with
    | zero =>
     rw[I]at g q;simp at g q;subst g; subst q;exact⟨hk,by simp[rel],rfl,hcl,rfl⟩
    |succ _=>rw[I]at g; simp at g
  obtain⟨w1,p1,p2,p3⟩:=Ij (P:=P) HE (cl':=cl+1) hid h1 O hre (fun i x e B he=>by
   simp only[n_,eX]at B he;rw[←hlen]at he;by_cases J:i<es.length
   ·simp only [if_pos J] at B he
    exact h5 i x e B he
   ·simp only [if_neg J] at B he
    cases I:i-es.length with
    | zero =>
     rw[I]at B he;simp at B he;subst B; subst he;exact .inl ⟨rfl,rfl⟩
    |succ _=>rw[I]at B; simp at B)
  refine⟨.tuple #[.map none,goInt cl],w1,?_,E.loc,E.X.r,?_,p2,p3⟩
  ·simp only [zU, bW, Sem.br (e_ ht), bX, J, fL M, g1, z1]
   rw[p1];rfl
  ·simp only [rel]
   refine⟨_,rfl,?_⟩;simp[af,rel]
def oE(es:List (AV × Option Nat × Nat))(st:Int):Option Nat:=es.findIdx? fun x=>(x.2.2:Int)==st
theorem Ik{E:Env}{st:Int}:∀{es:List (AV × Option Nat × Nat)} {ms:List MapEntry},bC E (e9 es) ms→ms.findIdx? (fun e=>(e.born:Int)==st)=oE es st
 | [],[],_=>rfl
 | [],_::_,h=>by simp[e9,bC]at h
 |_::_,[],h=>by simp[e9,bC]at h
 | x::es,e::ms,h=>by
  have h':bC E ((x.1,.undef,x.2.2)::e9 es) (e::ms):=h;simp only[bC]at h';obtain⟨_,_,g,_,_,k⟩:=h';have d:=Ik (st:=st) k;unfold oE at d⊢;simp only[GM,g,d]
theorem Tb{E:Env}(HE:au E){id j l cl clk:Nat}{es:List (AV × Option Nat × Nat)}{ms:List (List (AV × AV × Nat) × Nat)}{v:List (AV × AV × Nat)}{u:Value}(hid:E.H[id]? = some (.mm l es ms cl))(B:E.H[j]? = some (.map v clk))(hu:rel E (.map j) u) :
  ∃ d I r',u=.map (some d)∧(∃ t,r' l=E.X.r l++t)∧(dR (r' l))[ms.length]? = some d∧(∀ i,i≠j→I[i]? = E.loc[i]?) ∧
   au { w:=E.w,H:=(E.H.set id (.mm l es (ms++[(v,clk)]) cl)).set j .dead,loc:=I,X:=E.X.re r' }∧E.le { w:=E.w,H:=(E.H.set id (.mm l es (ms++[(v,clk)]) cl)).set j .dead,loc:=I,X:=E.X.re r' }:=by
 obtain⟨d,n,O,rfl,h1,V,W⟩:=oy HE B hu;have ho:=HE.obj id _ hid;simp only[aN]at ho;obtain⟨b0,n0,N,g1,g2,g3,g4,g5,g6⟩:=ho;have U:j≠id:=fun e=>by rw[e,hid]at B; cases B
 have J:eH E.X.r l (some (d,n)) l=E.X.r l++[some (some (d,n))]:=if_pos rfl;have y:dR (eH E.X.r l (some (d,n)) l)=dR (E.X.r l)++[d]:=by
  rw[J,Ai];rfl
 have key:=au.attach HE (o':=.mm l es (ms++[(v,clk)]) cl) hid rfl rfl rfl B rfl h1 (fun hle=>?_) (.inr rfl)
 ·refine ⟨d, E.loc.set j none, eH E.X.r l (some (d, n)), rfl, ⟨_, J⟩, ?_, fun i hi => aT (Ne.symm hi), key.1, key.2⟩
  rw[y,←g4];simp
 ·simp only [aN]
  refine⟨b0,n0,N,by rw[aT U]; exact g1,g2,fA (fun a _ q=>bP hle a q) g3,?_,fun i x e hx he=>?_,fun i mi bi k g=>?_⟩
  ·show (dR (eH E.X.r l (some (d, n)) l)).length = _
   rw[y];simp[g4]
  ·rcases g5 i x e hx he with h | ⟨M, b', a1, a2, a3⟩
   ·exact .inl h
   ·refine .inr ⟨M, b', a1, ?_, a3⟩
    show (dR (eH E.X.r l (some (d,n)) l))[M]? = _
    rw[y,cK (aK a2)];exact a2
  ·have g : (dR (eH E.X.r l (some (d, n)) l))[i]? = some bi := g
   rw[y]at g;rw[eX]at k g;by_cases e:i<ms.length
   ·rw [if_pos e] at k
    rw[if_pos (by omega)]at g;obtain⟨mm,k1,k2⟩:=g6 i mi bi k g;exact⟨mm,k1,fA (fun a _ q=>bP hle a q) k2⟩
   ·rw [if_neg e] at k
    rw[if_neg (by omega),g4]at g;cases hk:i-ms.length with
    | zero =>
     rw[hk]at k g;simp at k g;subst k g;exact⟨O,V,fA (fun a _ q=>bP hle a q) W⟩
    |succ _=>rw[hk]at k; simp at k
def km(m s v:AV)(H:List ab):Option (List ab) :=
 match m,s,v with
 | .map id,.lit (.int .i64 st),.map j=>match H[id]?,H[j]? with
  | some (.mm l es ms cl),some (.map d clk)=>match oE es st with
   | some i=>match es[i]? with
    |some (key,none,bn)=>some ((H.set id (.mm l (es.set i (key,some ms.length,bn)) (ms++[(d,clk)]) cl)).set j .dead)
    |_=>none
   |none=>none
  |_,_=>none
 |_,_,_=>none
theorem Tc{P:Program}{E:Env}(HE:au E){t:TypeId}{m s v:AV}{c d u:Value}{H':List ab}(h:km m s v E.H=some H')(hm:rel E m c)(hs:rel E s d)(hv:rel E v u) :
  ∃ w',(vL t c d u).run P E.w=.ok () w'∧∀ x,cL E .undef H' x w':=by
 unfold km at h;split at h
 case h_2=>cases h
 rename_i id st j;split at h
 case h_2=>cases h
 rename_i l es ms cl k clk hid U;split at h
 case h_2=>cases h
 rename_i i hi;split at h
 case h_2=>cases h
 rename_i key bn hes;cases h;obtain⟨b,n,g,rfl,h1,h2,h3,h4,h5,h6⟩:=A4 HE hid hm;have O:j≠id:=fun e=>by rw[e,hid]at U; cases U
 have e1:(getObj b).run P E.w=.ok (.map g cl) E.w:=by simp[getObj,fV,h2]
 obtain⟨hlen,hall⟩:=dT.1 h3;rw[Hd]at hlen;have hlt:=aK hes;obtain⟨e',q4⟩:∃ e',g.toList[i]? = some e':=⟨g.toList[i]'(by omega),bI _⟩
 have hfind:g.findIdx? (fun e=>(e.born:Int)==st)=some i:=by
  have e0:g=g.toList.toArray:=by simp
  rw[e0,agB,Ik h3,hi]
 obtain⟨M,B,r',rfl,⟨tt,ht⟩,hlv,hloc,HE1,I⟩:=Tb HE hid U hv;have hd:d=.int .i64 st:=by simpa[rel]using hs
 have hidE:({ w:=E.w,H:=(E.H.set id (.mm l es (ms++[(k,clk)]) cl)).set j .dead,loc:=B,X:=E.X.re r' }:Env).H[id]? = some (.mm l es (ms++[(k,clk)]) cl):=by
  simp only[];rw[aT O,bB (aK hid)]
 have hre:bC { w:=E.w,H:=(E.H.set id (.mm l es (ms++[(k,clk)]) cl)).set j .dead,loc:=B,X:=E.X.re r' } (e9 (es.set i (key,some ms.length,bn))) (g.modify i fun e=>{ e with val:=.map (some M) }).toList:=by
  rw[dT];refine⟨by simp[e9,hlen],fun a y z q hz=>?_⟩;simp only[j5,ib]at hz;obtain⟨z0,J,rfl⟩:=dM.1 hz;unfold e9 at q;rw[bZ,dN]at q;by_cases e:i=a
  ·subst e
   rw[if_pos rfl,if_pos hlt]at q;cases q;obtain⟨b1,b2,V,W,b5⟩:=hall i (key,.undef,bn) z0 (by unfold e9; rw[bZ,hes]; rfl) J;simp only[if_true];exact⟨bP I _ b1,by simp[rel],V,W,rfl⟩
  ·rw [if_neg e] at q
   obtain⟨b1,b2,V,W,b5⟩:=hall a y z0 (by unfold e9; rw[bZ]; exact q) J;simp only[if_neg e];exact⟨bP I _ b1,bP I _ b2,V,W,b5⟩
 obtain⟨w',p1,p2,p3⟩:=Ij (P:=P) HE1 (cl':=cl) (es':=es.set i (key,some ms.length,bn)) (mes':=g.modify i fun e=>{ e with val:=.map (some M) }) hidE (by
  show B[id]? = _
  rw[hloc id (Ne.symm O)];exact h1) h2 hre (fun a x e N he=>by
  simp only[j5,ib]at he;obtain⟨z0,J,rfl⟩:=dM.1 he;by_cases e:i=a
  ·subst e
   rw[bB hlt]at N;cases N;exact .inr ⟨ms.length,M,rfl,hlv,by simp⟩
  ·rw [aT e] at N
   simp only[if_neg e];rcases h5 a x z0 N J with h|⟨i',b',a1,a2,a3⟩
   ·exact .inl h
   ·refine .inr ⟨i', b', a1, ?_, a3⟩
    show (dR (r' l))[i']? = _
    rw[ht,Ai,cK (aK a2)];exact a2)
 have hH:((E.H.set id (.mm l es (ms++[(k,clk)]) cl)).set j .dead).set id (.mm l (es.set i (key,some ms.length,bn)) (ms++[(k,clk)]) cl)=(E.H.set id (.mm l (es.set i (key,some ms.length,bn)) (ms++[(k,clk)]) cl)).set j .dead:=by
  rw[List.set_comm _ _ O,oa]
 rw[hH]at p2 p3;have hrun:(vL t (.map (some b)) d (.map (some M))).run P E.w=.ok () w':=by
  subst hd;simp only[vL,asInt,asIntOf,bW,bX,e1,eY,hfind];exact p1
 exact⟨w',hrun,fun xx=>⟨B,r',by simp[rel],p2,I.trans p3⟩⟩
end Go.AL
