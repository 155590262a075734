/-
 What is proved here: basic facts of an abstract logic for the model's programs: abstract values,what they say of the model's values in a world,and that this survives what a call may do. No program in sight; no condition.
-/
import Derived.Calls
import Derived.Orders
import Derived.OrdersIn
import Derived.RangeFuncNested
import Derived.RangeFuncLeaves
import Derived.Laws.Sem
import Derived.Laws.Cells
import Derived.Laws.StructEq
import Derived.Laws.AppendOwn
import Derived.Laws.CopyRow
set_option linter.all false
open Array renaming getElem?_push→yL,length_toList→mE,toList_map→VC,ext'→fO,range→gW,map→Ki,getElem?_setIfInBounds→C_,toList_modify→lK,toList_push→qJ
open BitVec renaming ofInt→yM
open Bool renaming and_true→eS,and_eq_true→az,false_eq_true→lG,and_assoc→alI
open ByteArray renaming empty→yJ
open Go.Act renaming eval→C2
open Go.Addr.mk renaming injEq→J_
open Go.Builtin renaming lenOf→Kc,firstCells→iN,append_→nS,zeroCells→yQ,nextslicecap→Ke,delete_→VL,clear_→VN
open Go.Instr renaming loadAt→C4,sureAddr→pb,fieldAt→Vv,indexAt→yN,sliceBounds→sw,sliceBound→C5,sliceAt→nR,slice→pc,index→Vz,field→alL,fill→alM,build→VB,storeAt→Kg,alloc→C9,box→alR,makeSlice→alS,buildSlice→Kk,range→VG,checkKey→vn,findAsking→VH,findNow→yS,sameNow→yT,findKey→VJ,lookup→lI,makeMap→VK,sameBits→Kl,mapUpdate→nT,keyThatStays→sB,mapEntry→Da,entryStore→yU
open Go.Op renaming bytesLess→mD,equalIn→kh,eqFields→Vy,equal→yP
open Go.Program renaming fieldsOf→alK
open Go.Question renaming cut→alP,forced→alQ
open Go.Result renaming andThen_ok→b_
open Go.Sem renaming run_bind→bY,run_pure→fN,run→gX
open Go.Utf8 renaming decode→ph
open Go.Value renaming cells→Ka
open Go.Value.pointer renaming injEq→alG
open Go.Value.slice renaming injEq→kQ
open Go.World renaming cell?→vh,setRow→alN
open List renaming length_cons→cn,append_nil→dh,getElem?_append_left→cT,length_map→cD,getElem?_map→bU,getElem_of_mem→mC,getElem?_eq_getElem→bf,mem_of_getElem?→eZ,getElem?_eq_none→nQ,getElem?_append_right→iM,getElem?_append→fM,getElem?_set_self→bC,getElem?_set_ne→aZ,getElem?_set→eC,set_eq_of_length_le→J8,all_eq_true→dB,nodup_nil→J9,getD_eq_getElem?_getD→bz,getElem?_drop→qG,getElem?_take→o_,take_succ_cons→C3,mem_cons→bN,map_cons→dj,map_take→Vw,map_drop→J',mem_of_mem_drop→yO,mem_of_mem_take→vj,cons_append→lH,drop_succ_cons→alJ,take_one→Vx,eq_nil_of_length_eq_zero→C6,drop_drop→qI,take_append_drop→vk,ext_getElem?→kR,length_take→jq,length_set→pd,length_append→eD,mem_append→cQ,mapM_cons→VA,flatten_cons→sx,getElem?_of_mem→pe,size_toArray→C8,nil_append→ki,length_drop→pg,flatten_append→yR,replicate→cd,replicate_succ→VD,eq_of_mem_replicate→VE,getElem?_modify→jr,mem_cons_self→cU,mem_cons_of_mem→dw,replicate_zero→alT,mem_replicate→VO,set_set→qK,map_append→iP,findIdx?_cons→Km,findIdx?_toArray→alV
open List.cons renaming injEq→C7
open Nat renaming add_assoc→qF,add_comm→yK,add_mul→f_,le_refl→aD,le_add_right→fq,le_trans→o9,lt_of_lt_of_le→dP,zero_le→fg,ne_of_lt→alF,lt_or_ge→kg,zero_add→di,sub_sub→alH,mul_le_mul→alO,sub_zero→gU,zero_mul→sA,add_zero→mG,mul_le_mul_right→vl,one_mul→Kh,beq→ab,mul_eq_zero→VF,succ_mul→alU,eq_of_beq_eq_true→bk,le_of_eq→alW
open Option renaming map_eq_some_iff→ef,isSome_iff_exists→qH,map_some→eg,getD_some→ga
open Option.some renaming injEq→aY
open Prod.mk renaming injEq→a8
namespace Go.AL
inductive Kd where
 |int (k:IntKind)
 |str
 |bool
 |list (ks:List Kd)
 deriving Inhabited
inductive G where
 |i (n:Int)
 |s (b:ByteArray)
 |t (x:Bool)
 |l (rows:List (List G))
instance:Inhabited G:=⟨.i 0⟩
def G.int:G→Int
 |.i n=>n
 |_=>0
def G.str:G→ByteArray
 |.s b=>b
 |_=>yJ
def G.bool:G→Bool
 |.t x=>x
 |_=>false
def G.rows:G→List (List G)
 |.l rows=>rows
 |_=>[]
inductive AV where
 |undef
 |lit (v:Value)
 |nils
 |list (k:Nat) (rows:List (List AV))
 |listF (ks:List Kd) (rows:List (List G))
 |agg (cells:List AV)
 |tuple (vs:List AV)
 |cptr (cells:List AV)
 |ptr (id ae k row col:Nat)
 |vec (k id ae off n:Nat)
 |map (id:Nat)
 |clo (f:FuncId) (caps:List AV)
 |ifc
 |emptyS (isNil:Bool)
 |sub (id l:Nat) (j:Option Nat)
 deriving Inhabited
def jt:Kd→G→AV
 |.int k,g=>.lit (.int k g.int)
 |.str,g=>.lit (.string g.str)
 |.bool,g=>.lit (.bool g.bool)
 |.list ks,g=>.listF ks g.rows
def aH:List Kd→List G→List AV
 | [],_=>[]
 |k::ks,g=>jt k (g.headD default)::aH ks g.tail
theorem qR:∀(ks:List Kd) (g:List G),(aH ks g).length=ks.length
 | [],_=>rfl
 |_::ks,g=>by simp[aH,qR ks]
inductive ad where
 |dead
 |box (cells:List AV)
 |vec (k ae:Nat) (rows:List (List AV))
 |map (es:List (AV × AV × Nat)) (clock:Nat)
 |iter (s:ByteArray) (pos:Nat)
 |fh (l:Nat) (T B:TypeId) (s:ByteArray)
 |aX (l k:Nat) (es:List (AV × Option (List (List AV)) × Nat)) (clock:Nat)
 |mm (l:Nat) (es:List (AV × Option Nat × Nat)) (ms:List (List (AV × AV × Nat) × Nat)) (clock:Nat)
 |eo
 deriving Inhabited
def ad.born:ad→Bool
 |.eo=>false
 |_=>true
def ad.label:ad→Option Nat
 |.fh l _ _ _=>some l
 |.aX l _ _ _=>some l
 |.mm l _ _ _=>some l
 |_=>none
def ad.dy:ad→Option Nat
 |.mm l _ _ _=>some l
 |_=>none
theorem ad.lO{o:ad}{l:Nat}(h:o.dy=some l):o.label=some l:=by
 cases o<;>first|exact h|cases h
theorem ad.Dn{o:ad}{l:Nat}(h:o.dy=some l):o.born=true:=by
 cases o<;>first|rfl|cases h
theorem ad.zf{o:ad}{l:Nat}(h:o.label=some l):o.born=true:=by
 cases o<;>first|rfl|cases h
theorem ad.zg{o:ad}(h:o.label=none):o.dy=none:=by
 cases o<;>first|rfl|cases h
def ad.aG : ad→Option Nat
 |.dead=>none
 |.box _=>some 0
 |.vec _ v _=>some v
 |.map _ _=>some 0
 |.iter _ _=>some 0
 |.fh ..=>some 0
 |.aX ..=>some 0
 |.mm ..=>some 0
 |.eo=>none
theorem ad.Dp{o:ad}{v:Nat}(h:o.aG = some v):o.born=true:=by
 cases o<;>first|rfl|cases h
structure XS where
 x:Nat→Prop
 z:Nat→Prop
 r:Nat→List (Option (Option (Nat × Nat)))
instance:CoeFun XS fun _=>Nat→Prop:=⟨XS.x⟩
def XS.or(X:XS)(p:Nat→Prop):XS:=⟨fun b=>X b∨p b,X.z,X.r⟩
def XS.re(X:XS) (r:Nat→List (Option (Option (Nat × Nat)))):XS:=⟨X.x,X.z,r⟩
@[simp] theorem XS.V_ (X:XS):X.re X.r=X:=rfl
@[simp] theorem XS.ams (X:XS) (r):(X.re r).x=X.x:=rfl
@[simp] theorem XS.amt (X:XS) (r):(X.re r).z=X.z:=rfl
@[simp] theorem XS.amu (X:XS) (r):(X.re r).r=r:=rfl
@[simp] theorem XS.amv (X:XS) (r r'):(X.re r).re r'=X.re r':=rfl
theorem XS.KD{X X':XS}(h:X'.x=X.x∧X'.z=X.z)(r):X'.re r=X.re r:=by
 unfold XS.re;rw[h.1,h.2]
def dY:Nat→List (Option (Option (Nat × Nat))):=fun _=>[]
def vw:List (Nat × Array Value):=[]
class Dr where
 d:Bool
abbrev vz:Dr:=⟨true⟩
variable [Dr]
def Wa:Bool:=Dr.d
structure Env where
 w:World
 H:List ad
 loc:List (Option (Nat × Nat))
 X:XS
def Env.sat(E:Env)(b:Nat):Prop:=∃(l h m:Nat),(E.X.r l)[h]? = some (some (some (b,m)))
def Env.own(E:Env)(b:Nat):Prop:=(∃(id:Nat) (c:Nat),E.loc[id]? = some (some (b,c)))∨E.sat b
def Env.ju(E:Env)(b:Nat):Prop:=b<E.w.heap.size∧¬ E.own b∧¬ E.X b
def Env.live(E:Env)(id ae:Nat):Prop:=∃ o,E.H[id]? = some o∧o.aG = some ae
def Env.past(E:Env)(id ae:Nat):Prop:=∃ o,E.H[id]? = some o∧o.born=true∧∀ v,o.aG = some v→ae≤v
def eI (r:List (Option (Option (Nat × Nat)))):List Nat:=r.filterMap fun x=>match x with
 |some (some (b,_))=>some b
 |_=>none
theorem Dq (r t:List (Option (Option (Nat × Nat)))):eI (r++t)=eI r++eI t:=List.filterMap_append
def Env.KE(E:Env)(id l i:Nat)(c:Value):Prop:=(∃ o,E.H[id]? = some o∧o.dy=some l)∧∃ b,(eI (E.X.r l))[i]? = some b∧c=.map (some b)
def dJ:Value→Bool
 |.agg _ | .tuple _=>false
 |_=>true
mutual
def AV.closed:AV→Bool
 |.undef | .lit _ | .nils | .list _ _ | .listF _ _ | .cptr _ | .ifc | .emptyS _=>true
 |.agg cs | .tuple cs | .clo _ cs=>AV.br cs
 |.ptr .. | .vec .. | .map _ | .sub ..=>false
def AV.br:List AV→Bool
 | []=>true
 |a::as=>a.closed&&AV.br as
end
theorem gb:∀(ks:List Kd) (g:List G),AV.br (aH ks g)=true
 | [],_=>rfl
 | k::ks,g=>by
  simp only[aH,AV.br,gb ks,eS];cases k<;>rfl
mutual
def eF(E:Env):Kd→G→Value→Prop
 |.int k,g,c=>c=.int k g.int
 |.str,g,c=>c=.string g.str
 |.bool,g,c=>c=.bool g.bool
 | .list ks,g,c=>∃ base cap,c=.slice base g.rows.length cap∧g.rows.length≤cap ∧
   (g.rows=[]∨∃ b o,base=some ⟨b,o,none⟩∧E.ju b∧∀(i:Nat) (r:List G),g.rows[i]? = some r→lP E ks r b (o+i*ks.length))
def lP(E:Env):List Kd→List G→Nat→Nat→Prop
 | [],_,_,_=>True
 |k::ks,g,b,o=>(∃ v,E.w.cell? ⟨b,o,none⟩=some v∧dJ v=true∧eF E k (g.headD default) v)∧lP E ks g.tail b (o+1)
end
def ft(rows:List (List AV)):Prop:=∀ r∈rows,AV.br r=true
mutual
def rel(E:Env):AV→Value→Prop
 |.undef,_=>True
 |.lit v,c=>c=v
 |.nils,c=>∃ base,c=.slice base 0 0
 | .list k rows,c=>ft rows∧∃ base cap,c=.slice base rows.length cap∧rows.length≤cap ∧
   (rows=[]∨∃ b o,base=some ⟨b,o,none⟩∧E.ju b∧cL E k rows b o)
 |.listF ks rows,c=>eF E (.list ks) (.l rows) c
 |.agg cells,c=>∃ cs:Array Value,c=.agg cs∧(∀ x∈cs.toList,dJ x=true)∧af E cells cs.toList
 |.tuple vs,c=>∃ cs:Array Value,c=.tuple cs∧af E vs cs.toList
 |.cptr cells,c=>AV.br cells=true∧∃ b o,c=.pointer (some ⟨b,o,none⟩)∧E.ju b∧cw E cells b o
 | .ptr id ae k row col,c=>(∃ b o,c=.pointer (some ⟨b,o,none⟩))∧E.past id ae∧(E.live id ae→∃ b n,E.loc[id]? = some (some (b,n)) ∧
   c=.pointer (some ⟨b,row*k+col,none⟩))
 | .vec k id ae off n,c=>(∃ base cap,c=.slice base n cap∧n≤cap∧(0<n→∃ b o,base=some ⟨b,o,none⟩))∧E.past id ae∧(E.live id ae →
   (E.loc[id]? = some none→n=0∧off=0∧∃ base,c=.slice base 0 0) ∧
   (∀ b m,E.loc[id]? = some (some (b,m))→off+n≤m∧∃ o,(off<m→o=off*k)∧c=.slice (some ⟨b,o,none⟩) n (m-off)))
 |.map id,c=>(∃ b,c=.map (some b))∧E.past id 0∧(E.live id 0→∃ b n,E.loc[id]? = some (some (b,n))∧c=.map (some b))
 |.clo f caps,c=>∃ cs:Array Value,c=.func (.func f) #[] cs∧af E caps cs.toList
 |.ifc,c=>∃ t v,c=.iface t v
 |.emptyS n,c=>∃ base cap,c=.slice base 0 cap∧base.isNone=n
 |.sub id l j,c=>(j=none∧c=.map none)∨∃ i,j=some i∧(∃ b,c=.map (some b))∧E.past id 0∧(E.live id 0→E.KE id l i c)
def af(E:Env):List AV→List Value→Prop
 | [],[]=>True
 |a::as,v::vs=>rel E a v∧af E as vs
 |_,_=>False
def cw(E:Env):List AV→Nat→Nat→Prop
 | [],_,_=>True
 |a::as,b,o=>(∃ v,E.w.cell? ⟨b,o,none⟩=some v∧dJ v=true∧rel E a v)∧cw E as b (o+1)
def cL(E:Env)(k:Nat):List (List AV)→Nat→Nat→Prop
 | [],_,_=>True
 |r::rs,b,o=>r.length=k∧cw E r b o∧cL E k rs b (o+k)
end
theorem gG{E:Env}:∀{as:List AV} {vs:List Value},af E as vs→as.length=vs.length
 | [],[],_=>rfl
 |_::_,_::_,h=>by simp only[af]at h; simp[gG h.2]
 | [],_::_,h=>by simp[af]at h
 |_::_,[],h=>by simp[af]at h
theorem n_{E:Env}:∀{as:List AV} {vs:List Value},
  af E as vs↔as.length=vs.length∧∀(i:Nat) a v,as[i]? = some a→vs[i]? = some v→rel E a v
 | [],[]=>by simp[af]
 | [],_::_=>by simp[af]
 |_::_,[]=>by simp[af]
 | a::as,v::vs=>by
  simp only[af,n_ (as:=as),cn];constructor
  ·rintro ⟨h1, q, B⟩
   refine⟨by omega,fun i x y d k=>?_⟩;cases i with
   |zero=>simp at d k; subst d; subst k; exact h1
   |succ i=>exact B i x y (by simpa using d) (by simpa using k)
  ·rintro ⟨h1, q⟩
   exact⟨q 0 a v rfl rfl,by omega,fun i x y d k=>q (i+1) x y (by simpa using d) (by simpa using k)⟩
theorem jv{E:Env}:∀{as:List AV} {b o:Nat},
  cw E as b o↔∀(i:Nat) a,as[i]? = some a→∃ v,E.w.cell? ⟨b,o+i,none⟩=some v∧dJ v=true∧rel E a v
 | [],b,o=>by simp[cw]
 | a::as,b,o=>by
  simp only[cw,jv (as:=as)];constructor
  ·rintro ⟨h1, k⟩ i x d
   cases i with
   |zero=>simp at d; subst d; exact h1
   |succ i=>have:=k i x (by simpa using d); rwa [qF,yK 1 i]at this
  ·intro h
   refine⟨h 0 a rfl,fun i x d=>?_⟩;have:=h (i+1) x (by simpa using d)
   rwa [qF,yK 1 i]
theorem mO{E:Env}{k:Nat}:∀{rs:List (List AV)} {b o:Nat},
  cL E k rs b o↔∀(i:Nat) r,rs[i]? = some r→r.length=k∧cw E r b (o+i*k)
 | [],b,o=>by simp[cL]
 | r::rs,b,o=>by
  simp only[cL,mO (rs:=rs)];constructor
  ·rintro ⟨h0, h1, q⟩ i x d
   cases i with
   |zero=>simp at d; subst d; simpa using⟨h0,h1⟩
   | succ i =>
    have:=q i x (by simpa using d)
    rwa [qF,show k+i*k=(i+1)*k from by rw[f_]; omega]at this
  ·intro h
   have h0:=h 0 r rfl;refine⟨h0.1,by simpa using h0.2,fun i x d=>?_⟩;have:=h (i+1) x (by simpa using d)
   rwa [qF,show k+i*k=(i+1)*k from by rw[f_]; omega]
def ep(w w':World):Prop:=w'.os=w.os∧w'.output=w.output∧w'.tape=w.tape∧(Wa=true→w.drawn≤w'.drawn)
theorem ep.refl(w:World):ep w w:=⟨rfl,rfl,rfl,by first|exact fun _=>aD _|exact fun _=>fq _ _⟩
theorem ep.trans{w w' d:World}(h:ep w w')(h':ep w' d):ep w d:=⟨h'.1.trans h.1,h'.2.1.trans h.2.1,h'.2.2.1.trans h.2.2.1,fun t=>o9 (h.2.2.2 t) (h'.2.2.2 t)⟩
structure Env.le (E E':Env):Prop where
 past:∀ id ae,E.past id ae→E'.past id ae
 size:E.w.heap.size≤E'.w.heap.size
 same:∀ b,b<E.w.heap.size→¬ E.own b→E'.w.heap[b]? = E.w.heap[b]?
 own:∀ b,b<E.w.heap.size→¬ E.own b→¬ E'.own b
 live:∀ id ae,E.past id ae→E'.live id ae→E.live id ae∧E'.loc[id]? = E.loc[id]?
 X:E'.X.x=E.X.x∧E'.X.z=E.X.z
 rl:∀ l h,h<(E.X.r l).length→h<(E'.X.r l).length∧∀ q,(E'.X.r l)[h]? = some (some q)→(E.X.r l)[h]? = some (some q)
 env:ep E.w E'.w
 grow:∀ id l o,E.H[id]? = some o→o.dy=some l→E'.live id 0→(∃ t,E'.X.r l=E.X.r l++t)∧∃ o',E'.H[id]? = some o'∧o'.dy=some l
theorem Env.le.refl(E:Env):E.le E:=⟨fun _ _ h=>h,aD _,fun _ _ _=>rfl,fun _ _ h=>h,fun _ _ _ h=>⟨h,rfl⟩,⟨rfl,rfl⟩,fun _ _ h=>⟨h,fun _ d=>d⟩,⟨rfl,rfl,rfl,by first|exact fun _=>aD _|exact fun _=>fq _ _⟩,fun _ _ o h1 k _=>⟨⟨[],(dh _).symm⟩,o,h1,k⟩⟩
theorem Env.le.ok{E E':Env}(h:E.le E')(b:Nat)(hb:E.ju b):E'.ju b :=
 ⟨dP hb.1 h.size,h.own b hb.1 hb.2.1,by rw[show E'.X.x=E.X.x from h.X.1]; exact hb.2.2⟩
theorem Env.le.trans{E E' J:Env}(h:E.le E')(h':E'.le J):E.le J where
 past:=fun id ae d=>h'.past id ae (h.past id ae d)
 size:=o9 h.size h'.size
 same:=fun b hb ho=>by rw[h'.same b (dP hb h.size) (h.own b hb ho),h.same b hb ho]
 own:=fun b hb ho=>h'.own b (dP hb h.size) (h.own b hb ho)
 live:=fun id ae hid V=>by
  obtain⟨k,a2⟩:=h'.live id ae (h.past id ae hid) V;obtain⟨b1,B⟩:=h.live id ae hid k;exact⟨b1,by rw[a2,B]⟩
 X:=⟨by rw[h'.X.1,h.X.1],by rw[h'.X.2,h.X.2]⟩
 rl:=fun l i hi=>by
  obtain⟨k,a2⟩:=h.rl l i hi;obtain⟨b1,B⟩:=h'.rl l i k;exact⟨b1,fun q W=>a2 q (B q W)⟩
 env:=h.env.trans h'.env
 grow:=fun id l o h1 M I=>by
  have d:E.past id 0:=⟨o,h1,ad.Dn M,fun v I=>fg _⟩
  obtain⟨N,_⟩:=h'.live id 0 (h.past id 0 d) I;obtain⟨⟨t,ht⟩,o',g1,g2⟩:=h.grow id l o h1 M N;obtain⟨⟨t',O⟩,U,g3,g4⟩:=h'.grow id l o' g1 g2 I;exact⟨⟨t++t',by rw[O,ht,List.append_assoc]⟩,U,g3,g4⟩
theorem World.sH{w w':World}{b o:Nat}(h:w'.heap[b]? = w.heap[b]?):w'.cell? ⟨b,o,none⟩=w.cell? ⟨b,o,none⟩:=by
 simp[vh,h]
structure Env.bH (E E':Env):Prop where
 ok:∀ b,E.ju b→E'.ju b∧E'.w.heap[b]? = E.w.heap[b]?
theorem Env.le.toC{E E':Env}(h:E.le E'):E.bH E':=⟨fun b hb=>⟨h.ok b hb,h.same b hb.1 hb.2.1⟩⟩
mutual
theorem KF{E E':Env}(h:E.bH E'):∀(k:Kd) {g:G} {c:Value},eF E k g c→eF E' k g c
 |.int k,g,c,hr=>by simpa only[eF]using hr
 |.str,g,c,hr=>by simpa only[eF]using hr
 |.bool,g,c,hr=>by simpa only[eF]using hr
 | .list ks,g,c,hr=>by
  simp only[eF]at hr⊢;obtain⟨base,cap,B,hle,q⟩:=hr;refine⟨base,cap,B,hle,?_⟩;rcases q with hn|⟨b,o,hb,bF,d⟩
  ·exact .inl hn
  ·exact .inr ⟨b,o,hb,(h.ok b bF).1,fun i r hi=>KG h ks (h.ok b bF).2 (d i r hi)⟩
theorem KG{E E':Env}(h:E.bH E'):∀(ks:List Kd) {g:List G} {b o:Nat},E'.w.heap[b]? = E.w.heap[b]? → lP E ks g b o→lP E' ks g b o
 | [],_,_,_,_,_=>by simp[lP]
 | k::ks,g,b,o,hb,hr=>by
  simp only[lP]at hr⊢;obtain⟨⟨v,h1,d,q⟩,B⟩:=hr;exact⟨⟨v,by rw[World.sH hb]; exact h1,d,KF h k q⟩,KG h ks hb B⟩
end
mutual
theorem dZ{E E':Env}(h:E.bH E'):∀(a:AV) {c:Value},a.closed=true→rel E a c→rel E' a c
 |.undef,_,_,_=>by simp[rel]
 |.lit v,c,_,hr=>by simpa only[rel]using hr
 |.nils,c,_,hr=>by simpa only[rel]using hr
 | .list k rows,c,_,hr=>by
  simp only[rel]at hr⊢;obtain⟨B,base,cap,d,hle,J⟩:=hr;refine⟨B,base,cap,d,hle,?_⟩;rcases J with rfl|⟨b,o,hb,bF,I⟩
  ·exact .inl rfl
  ·exact .inr ⟨b,o,hb,(h.ok b bF).1,lQ h rows B (h.ok b bF).2 I⟩
 | .listF ks rows,c,_,hr=>by
  simp only[rel]at hr⊢;exact KF h _ hr
 | .agg cells,c,d,hr=>by
  simp only[rel]at hr⊢;obtain⟨cs,e,h1,q⟩:=hr;exact⟨cs,e,h1,pz h cells (by simpa only[AV.closed]using d) q⟩
 | .tuple cells,c,d,hr=>by
  simp only[rel]at hr⊢;obtain⟨cs,e,q⟩:=hr;exact⟨cs,e,pz h cells (by simpa only[AV.closed]using d) q⟩
 | .cptr cells,c,d,hr=>by
  simp only[rel]at hr⊢;obtain⟨B,b,o,e,bF,q⟩:=hr;exact⟨B,b,o,e,(h.ok b bF).1,sI h cells B (h.ok b bF).2 q⟩
 |.ptr ..,_,d,_=>by simp[AV.closed]at d
 |.vec ..,_,d,_=>by simp[AV.closed]at d
 |.map _,_,d,_=>by simp[AV.closed]at d
 |.sub ..,_,d,_=>by simp[AV.closed]at d
 | .clo f caps,c,d,hr=>by
  simp only[rel]at hr⊢;obtain⟨cs,e,q⟩:=hr;exact⟨cs,e,pz h caps (by simpa only[AV.closed]using d) q⟩
 |.ifc,c,_,hr=>by simpa only[rel]using hr
 |.emptyS n,c,_,hr=>by simpa only[rel]using hr
theorem pz{E E':Env}(h:E.bH E'):∀(as:List AV) {vs:List Value},AV.br as=true→af E as vs→af E' as vs
 | [],[],_,_=>by simp[af]
 | [],_::_,_,hr=>by simp[af]at hr
 |_::_,[],_,hr=>by simp[af]at hr
 | a::as,v::vs,d,hr=>by
  simp only[AV.br,az]at d;simp only[af]at hr⊢;exact⟨dZ h a d.1 hr.1,pz h as d.2 hr.2⟩
theorem sI{E E':Env}(h:E.bH E'):∀(as:List AV) {b o:Nat},AV.br as=true→E'.w.heap[b]? = E.w.heap[b]? → cw E as b o→cw E' as b o
 | [],_,_,_,_,_=>by simp[cw]
 | a::as,b,o,d,hb,hr=>by
  simp only[AV.br,az]at d;simp only[cw]at hr⊢;obtain⟨⟨v,h1,k,q⟩,B⟩:=hr;exact⟨⟨v,by rw[World.sH hb]; exact h1,k,dZ h a d.1 q⟩,sI h as d.2 hb B⟩
theorem lQ{E E':Env}(h:E.bH E'){k:Nat}:∀(rs:List (List AV)) {b o:Nat},ft rs→E'.w.heap[b]? = E.w.heap[b]? → cL E k rs b o→cL E' k rs b o
 | [],_,_,_,_,_=>by simp[cL]
 | r::rs,b,o,d,hb,hr=>by
  simp only[cL]at hr⊢;exact⟨hr.1,sI h r (d r (by simp)) hb hr.2.1,lQ h rs (fun x q=>d x (by simp[q])) hb hr.2.2⟩
end
mutual
theorem bI{E E':Env}(h:E.le E'):∀(a:AV) {c:Value},rel E a c→rel E' a c
 |.undef,_,_=>by simp[rel]
 |.lit v,c,hr=>by simpa only[rel]using hr
 |.nils,c,hr=>by simpa only[rel]using hr
 |.list k rows,c,hr=>dZ h.toC _ (by simp[AV.closed]) hr
 |.listF ks rows,c,hr=>dZ h.toC _ (by simp[AV.closed]) hr
 | .agg cells,c,hr=>by
  simp only[rel]at hr⊢;obtain⟨cs,e,h1,d⟩:=hr;exact⟨cs,e,h1,dK h cells d⟩
 | .tuple cells,c,hr=>by
  simp only[rel]at hr⊢;obtain⟨cs,e,d⟩:=hr;exact⟨cs,e,dK h cells d⟩
 |.cptr cells,c,hr=>dZ h.toC _ (by simp[AV.closed]) hr
 | .ptr id ae k row col,c,hr=>by
  simp only[rel]at hr⊢;refine⟨hr.1,h.past _ _ hr.2.1,fun q=>?_⟩;obtain⟨h1,d⟩:=h.live id ae hr.2.1 q;rw[d];exact hr.2.2 h1
 | .vec k id ae off n,c,hr=>by
  simp only[rel]at hr⊢;refine⟨hr.1,h.past _ _ hr.2.1,fun q=>?_⟩;obtain⟨h1,d⟩:=h.live id ae hr.2.1 q;rw[d];exact hr.2.2 h1
 | .map id,c,hr=>by
  simp only[rel]at hr⊢;refine⟨hr.1,h.past _ _ hr.2.1,fun q=>?_⟩;obtain⟨h1,d⟩:=h.live id 0 hr.2.1 q;rw[d];exact hr.2.2 h1
 | .clo f caps,c,hr=>by
  simp only[rel]at hr⊢;obtain⟨cs,e,d⟩:=hr;exact⟨cs,e,dK h caps d⟩
 |.ifc,c,hr=>by simpa only[rel]using hr
 |.emptyS n,c,hr=>by simpa only[rel]using hr
 | .sub id l j,c,hr=>by
  simp only[rel]at hr⊢;rcases hr with hr|⟨i,h1,d,B,J⟩
  ·exact .inl hr
  ·refine .inr ⟨i, h1, d, h.past _ _ B, fun q => ?_⟩
   obtain⟨g1,_⟩:=h.live id 0 B q;obtain⟨⟨o,M,N⟩,b,I,O⟩:=J g1;obtain⟨⟨t,U⟩,ho⟩:=h.grow id l o M N q;refine⟨ho,b,?_,O⟩;rw[U,Dq,cT (List.getElem?_eq_some_iff.1 I).1];exact I
theorem dK{E E':Env}(h:E.le E'):∀(as:List AV) {vs:List Value},af E as vs→af E' as vs
 | [],[],_=>by simp[af]
 | [],_::_,hr=>by simp[af]at hr
 |_::_,[],hr=>by simp[af]at hr
 | a::as,v::vs,hr=>by
  simp only[af]at hr⊢;exact⟨bI h a hr.1,dK h as hr.2⟩
end
theorem Wb{E:Env}(k:Kd)(g:G)(c:Value):rel E (jt k g) c↔eF E k g c:=by
 cases k with
 |int k=>simp only[jt,rel,eF]
 |str=>simp only[jt,rel,eF]
 |bool=>simp only[jt,rel,eF]
 |list ks=>simp only[jt,rel,eF,G.rows]
theorem Ds{E:Env}:∀(ks:List Kd) (g:List G) (b o:Nat),cw E (aH ks g) b o↔lP E ks g b o
 | [],_,_,_=>by simp[aH,cw,lP]
 |k::ks,g,b,o=>by simp only[aH,cw,lP,Ds ks,Wb]
theorem jx{E:Env}{ks:List Kd}{rows:List (List G)}{c:Value}:rel E (.listF ks rows) c↔rel E (.list ks.length (rows.map (aH ks))) c:=by
 simp only[rel,eF,G.rows,cD,List.map_eq_nil_iff];have d:ft (rows.map (aH ks)):=by
  intro r hr;obtain⟨g,_,rfl⟩:=List.mem_map.1 hr;exact gb ks g
 have hr:∀ b o,(∀(i:Nat) (r:List G),rows[i]? = some r→lP E ks r b (o+i*ks.length))↔cL E ks.length (rows.map (aH ks)) b o:=by
  intro b o;rw[mO];constructor
  ·intro h i r hi
   simp only[bU,ef]at hi;obtain⟨g,hg,rfl⟩:=hi;exact⟨qR ks g,(Ds ks g _ _).2 (h i g hg)⟩
  ·intro h i g hg
   exact(Ds ks g _ _).1 (h i (aH ks g) (by simp[hg])).2
 simp only[hr,d,true_and]
end Go.AL

namespace Go.AL
variable [Dr]
def isRow(w:World)(b n:Nat):Prop:=∃ cs el,w.heap[b]? = some (.cells cs el (0,0))∧cs.size=n
def bD(E:Env):List (AV × AV × Nat)→List MapEntry→Prop
 | [],[]=>True
 |(k,v,n)::es,e::ms=>rel E k e.key∧rel E v e.val∧e.born=n∧k.closed=true∧v.closed=true∧bD E es ms
 |_,_=>False
def Dt(w:World)(B:TypeId)(s:ByteArray)(v:Value):Option (Nat × Nat)→Prop
 |none=>v=.slice none 0 0∧s.data.toList=[]
 | some (g,m)=>v=.slice (some ⟨g,0,none⟩) s.data.toList.length m∧∃ cs fz,w.heap[g]? = some (.cells cs B fz)∧fz.2≤s.data.toList.length∧cs.size=m∧s.data.toList.length≤m∧m≤9223372036854775807 ∧
   cs.toList.take s.data.toList.length=s.data.toList.map fun b=>Value.int .u8 (b.toNat:Int)
theorem Du{w w':World}{B:TypeId}{s:ByteArray}{v:Value}{q:Option (Nat × Nat)}(h:∀ g m,q=some (g,m)→w'.heap[g]? = w.heap[g]?)(hr:Dt w B s v q):Dt w' B s v q:=by
 cases q with
 |none=>exact hr
 | some d =>
  obtain⟨g,m⟩:=d;obtain⟨h1,cs,fz,k,I⟩:=hr;exact⟨h1,cs,fz,by rw[h g m rfl]; exact k,I⟩
def fP:AV→AV × AV
 |.tuple [a,v]=>(a,v)
 |k=>(k,.undef)
def cG (es:List (AV × Option (List (List AV)) × Nat)):List (AV × AV × Nat):=es.map fun x=>((fP x.1).1,(fP x.1).2,x.2.2)
theorem Dv (es:List (AV × Option (List (List AV)) × Nat)):(cG es).length=es.length:=by simp[cG]
def Dw(E:Env)(l k:Nat)(rows:List (List AV))(h:Nat)(v:Value):Prop :=
 (rows = [] ∧ ∃ base, v = .slice base 0 0) ∨
  ∃ b m,(E.X.r l)[h]? = some (some (some (b,m)))∧v=.slice (some ⟨b,0,none⟩) rows.length m∧isRow E.w b (m*k)∧rows.length≤m∧ft rows∧cL E k rows b 0
def jy(E:Env)(l k:Nat) (es:List (AV × Option (List (List AV)) × Nat)) (ms:List MapEntry):Prop :=
 ∃ d:Nat→Nat,(∀(i j:Nat) x y,es[i]? = some x→es[j]? = some y→x.2.1.isSome=true→y.2.1.isSome=true→d i=d j→i=j) ∧
  ∀(i:Nat) x rows e,es[i]? = some x→x.2.1=some rows→ms[i]? = some e→Dw E l k rows (d i) e.val
theorem Wc{E E':Env}{l k h:Nat}{rows:List (List AV)}{v:Value} (hg:∀ b m,(E.X.r l)[h]? = some (some (some (b,m)))→(E'.X.r l)[h]? = some (some (some (b,m)))∧E'.w.heap[b]? = E.w.heap[b]?)
  (q:∀ b,E'.w.heap[b]? = E.w.heap[b]? → ft rows→cL E k rows b 0→cL E' k rows b 0) (hr:Dw E l k rows h v):Dw E' l k rows h v:=by
 rcases hr with hr|⟨b,m,h1,B,⟨cs,el,I,J⟩,M,d,N⟩
 ·exact .inl hr
 ·obtain ⟨g1, g2⟩ := hg b m h1
  exact .inr ⟨b,m,g1,B,⟨cs,el,by rw[g2]; exact I,J⟩,M,d,q b g2 d N⟩
theorem vA{E E':Env}{l k:Nat}{es:List (AV × Option (List (List AV)) × Nat)}{ms:List MapEntry} (hg:∀(h b m:Nat),(E.X.r l)[h]? = some (some (some (b,m)))→(E'.X.r l)[h]? = some (some (some (b,m)))∧E'.w.heap[b]? = E.w.heap[b]?)
  (I:∀(i:Nat) x rows,es[i]? = some x→x.2.1=some rows→∀ b,E'.w.heap[b]? = E.w.heap[b]? → ft rows→cL E k rows b 0→cL E' k rows b 0) (hr:jy E l k es ms):jy E' l k es ms:=by
 obtain⟨q,h1,J⟩:=hr;exact⟨q,h1,fun i x rows e B d he=>Wc (hg (q i)) (I i x rows B d) (J i x rows e B d he)⟩
theorem zh{r:List (Option (Option (Nat × Nat)))}{b:Nat}(h:b∈eI r):∃(i m:Nat),r[i]? = some (some (some (b,m))):=by
 unfold eI at h;obtain⟨x,d,hb⟩:=List.mem_filterMap.1 h;obtain⟨i,hi,e⟩:=mC d;split at hb
 ·rename_i k m
  cases hb;exact⟨i,m,by rw[bf hi,e]⟩
 ·cases hb
def fQ(es:List (AV × Option Nat × Nat)):List (AV × AV × Nat):=es.map fun x=>(x.1,.undef,x.2.2)
theorem KH(es:List (AV × Option Nat × Nat)):(fQ es).length=es.length:=by simp[fQ]
def zi(E:Env)(l:Nat)(es:List (AV × Option Nat × Nat)) (ms:List (List (AV × AV × Nat) × Nat)) (d:List MapEntry):Prop :=
 (eI (E.X.r l)).length = ms.length ∧
  (∀(i:Nat) x e,es[i]? = some x→d[i]? = some e→(x.2.1=none∧e.val=.map none)∨∃ j b,x.2.1=some j∧(eI (E.X.r l))[j]? = some b∧e.val=.map (some b)) ∧
  ∀(j:Nat) m b,ms[j]? = some m→(eI (E.X.r l))[j]? = some b→∃ mm,E.w.heap[b]? = some (.map mm m.2)∧bD E m.1 mm.toList
theorem Dx{E E':Env}{l:Nat}{es:List (AV × Option Nat × Nat)}{ms:List (List (AV × AV × Nat) × Nat)}{d:List MapEntry}(hr:E'.X.r l=E.X.r l) (hg:∀(h b m:Nat),(E.X.r l)[h]? = some (some (some (b,m)))→E'.w.heap[b]? = E.w.heap[b]?)
  (k:∀ m∈ms,∀ q,bD E m.1 q→bD E' m.1 q) (h:zi E l es ms d):zi E' l es ms d:=by
 obtain⟨h1,B,I⟩:=h;refine⟨by rw[hr]; exact h1,fun i x e J he=>by rw[hr]; exact B i x e J he,fun j m b hm hb=>?_⟩;rw[hr]at hb;obtain⟨mm,M,N⟩:=I j m b hm hb;obtain⟨i,n,hi⟩:=zh (eZ hb);exact⟨mm,by rw[hg i b n hi]; exact M,k m (eZ hm) _ N⟩
def aN(E:Env)(id:Nat):ad→Prop
 |.dead=>E.loc[id]? = some none
 |.eo=>E.loc[id]? = some none
 |.box cells=>∃ b n,E.loc[id]? = some (some (b,n))∧isRow E.w b cells.length∧cw E cells b 0
 | .vec k _ rows=>(E.loc[id]? = some none∧rows=[]) ∨
   ∃ b m,E.loc[id]? = some (some (b,m))∧isRow E.w b (m*k)∧rows.length≤m∧ft rows∧cL E k rows b 0
 |.map es clock=>∃ b n ms,E.loc[id]? = some (some (b,n))∧E.w.heap[b]? = some (.map ms clock)∧bD E es ms.toList
 |.iter s pos=>∃ b n,E.loc[id]? = some (some (b,n))∧E.w.heap[b]? = some (.stringIter s pos)
 | .fh l T B s=>∃ (b n:Nat) (p v:Value) (h:Nat) (q:Option (Nat × Nat)),E.loc[id]? = some (some (b,n))∧E.w.heap[b]? = some (.cells #[p,v] T (0,0))∧(p=.pointer none∨p=.pointer (some ⟨b,0,none⟩))∧(E.X.r l)[h]? = some (some q) ∧
   (∀(h':Nat) I,(E.X.r l)[h']? = some (some I)→h'=h)∧Dt E.w B s v q
 |.aX l k es clock=>∃ b n ms,E.loc[id]? = some (some (b,n))∧E.w.heap[b]? = some (.map ms clock)∧bD E (cG es) ms.toList∧jy E l k es ms.toList
 |.mm l es ms clock=>∃ b n d,E.loc[id]? = some (some (b,n))∧E.w.heap[b]? = some (.map d clock)∧bD E (fQ es) d.toList∧zi E l es ms d.toList
def qS(E:Env):Prop:=∀ p∈vw,E.ju p.1∧∃ t f,E.w.heap[p.1]? = some (.cells p.2 t f)
theorem qS.bH{E E':Env}(H:qS E)(h:E.bH E'):qS E':=fun p d=>by
 obtain⟨h1,t,f,k⟩:=H p d;exact⟨(h.ok _ h1).1,t,f,by rw[(h.ok _ h1).2]; exact k⟩
structure aq (E:Env):Prop where
 len:E.loc.length=E.H.length
 inj:∀(i j b m n:Nat),E.loc[i]? = some (some (b,m))→E.loc[j]? = some (some (b,n))→i=j
 lt:∀(i b m:Nat),E.loc[i]? = some (some (b,m))→b<E.w.heap.size∧¬ E.X b
 X:∀ b,E.X b→b<E.w.heap.size
 obj:∀(i:Nat) o,E.H[i]? = some o→aN E i o
 fH:qS E
 e9:∀(l h l' h' b m n:Nat),(E.X.r l)[h]? = some (some (some (b,m)))→(E.X.r l')[h']? = some (some (some (b,n)))→l=l'∧h=h'
 cY:∀(i b m l h n:Nat),E.loc[i]? = some (some (b,m))→(E.X.r l)[h]? ≠ some (some (some (b,n)))
 ct:∀(l h b m:Nat),(E.X.r l)[h]? = some (some (some (b,m)))→b<E.w.heap.size∧¬ E.X b
 uniq:∀(i j:Nat) o o' (l:Nat),E.H[i]? = some o→E.H[j]? = some o'→o.label=some l→o'.label=some l→i=j
 gH:∀(l:Nat),(∀(i:Nat) o,E.H[i]? = some o→o.label≠some l)→∀(h:Nat) q,(E.X.r l)[h]? ≠ some (some q)
theorem aq.pA{E:Env}(H:aq E){b:Nat}(d:E.X b):¬ E.own b:=by
 rintro(⟨i,c,hi⟩|⟨l,h,m,hi⟩)
 ·exact(H.lt i b c hi).2 d
 ·exact(H.ct l h b m hi).2 d
theorem aq.zk{E:Env}(H:aq E){b:Nat}(ho:E.own b):b<E.w.heap.size∧¬ E.X b:=by
 rcases ho with⟨i,c,hi⟩|⟨l,h,m,hi⟩
 ·exact H.lt i b c hi
 ·exact H.ct l h b m hi
structure Ext (w w':World):Prop where
 size:w.heap.size≤w'.heap.size
 same:∀ b,b<w.heap.size→w'.heap[b]? = w.heap[b]?
 env:ep w w'
theorem Ext.refl(w:World):Ext w w:=⟨aD _,fun _ _=>rfl,⟨rfl,rfl,rfl,by first|exact fun _=>aD _|exact fun _=>fq _ _⟩⟩
theorem Ext.trans{w w' d:World}(h:Ext w w')(h':Ext w' d):Ext w d :=
 ⟨o9 h.size h'.size,fun b hb=>by rw[h'.same b (dP hb h.size),h.same b hb],h.env.trans h'.env⟩
theorem Ext.push(w:World)(o:Obj):Ext w { w with heap:=w.heap.push o } :=
 ⟨by simp,fun b hb=>by simp[yL,alF hb],⟨rfl,rfl,rfl,by first|exact fun _=>aD _|exact fun _=>fq _ _⟩⟩
theorem Ext.drawn(w:World)(n:Nat)(h:w.drawn≤n:=by exact Nat.le_succ _):Ext w { w with drawn:=n }:=⟨aD _,fun _ _=>rfl,⟨rfl,rfl,rfl,fun _=>h⟩⟩
theorem Env.jQ{E:Env}{w':World}(h:Ext E.w w'):E.le { E with w:=w' } where
 past:=fun _ _ h=>h
 size:=h.size
 same:=fun b hb _=>h.same b hb
 own:=fun _ _ ho=>ho
 live:=fun _ _ _ d=>⟨d,rfl⟩
 X:=⟨rfl,rfl⟩
 rl:=fun _ _ h=>⟨h,fun _ k=>k⟩
 env:=h.env
 grow:=fun _ _ o h1 q _=>⟨⟨[],(dh _).symm⟩,o,h1,q⟩
theorem sJ{w w':World}{b n:Nat}(h:w'.heap[b]? = w.heap[b]?)(hr:isRow w b n):isRow w' b n:=by
 unfold isRow at *; rw[h]; exact hr
theorem vB{E E':Env}{b:Nat}(d:∀ a c,rel E a c→rel E' a c)(hb:E'.w.heap[b]? = E.w.heap[b]?){as:List AV}{o:Nat}
  (h:cw E as b o):cw E' as b o:=by
 rw[jv]at *;intro i a hi;obtain⟨v,h1,k,q⟩:=h i a hi;exact⟨v,by rw[World.sH hb]; exact h1,k,d _ _ q⟩
theorem kS{E E':Env}{b k:Nat}(d:∀ a c,rel E a c→rel E' a c)(hb:E'.w.heap[b]? = E.w.heap[b]?){rs:List (List AV)}{o:Nat}
  (h:cL E k rs b o):cL E' k rs b o:=by
 rw[mO]at *;intro i r hi;exact⟨(h i r hi).1,vB d hb (h i r hi).2⟩
theorem gd{E E':Env}(d:∀ a c,rel E a c→rel E' a c):∀{es:List (AV × AV × Nat)} {ms:List MapEntry},bD E es ms→bD E' es ms
 | [],[],_=>by simp[bD]
 | [],_::_,h=>by simp[bD]at h
 |(_,_,_)::_,[],h=>by simp[bD]at h
 | (k,v,n)::es,e::ms,h=>by
  simp only[bD]at h⊢;exact⟨d _ _ h.1,d _ _ h.2.1,h.2.2.1,h.2.2.2.1,h.2.2.2.2.1,gd d h.2.2.2.2.2⟩
theorem kT{E E':Env}{i:Nat}{o:ad}(N:∀ a c,rel E a c→rel E' a c)(J:E'.loc[i]? = E.loc[i]?)
  (hb:∀ b n,E.loc[i]? = some (some (b,n))→E'.w.heap[b]? = E.w.heap[b]?)
  (hg:∀ l,o.label=some l→E'.X.r l=E.X.r l∧∀(h g m:Nat),(E.X.r l)[h]? = some (some (some (g,m)))→E'.w.heap[g]? = E.w.heap[g]?) (h:aN E i o):aN E' i o:=by
 cases o with
 |dead=>simp only[aN]at *; rw[J]; exact h
 |eo=>simp only[aN]at *; rw[J]; exact h
 | box cells =>
  simp only[aN]at *;obtain⟨b,n,h1,d,I⟩:=h;exact⟨b,n,by rw[J,h1],sJ (hb b n h1) d,vB N (hb b n h1) I⟩
 | vec k ae rows =>
  simp only[aN]at *;rcases h with⟨h1,d⟩|⟨b,m,h1,d,I,M,O⟩
  ·exact .inl ⟨by rw[J,h1],d⟩
  ·exact .inr ⟨b,m,by rw[J,h1],sJ (hb b m h1) d,I,M,kS N (hb b m h1) O⟩
 | map es clock =>
  simp only[aN]at *;obtain⟨b,n,ms,h1,d,I⟩:=h;exact⟨b,n,ms,by rw[J,h1],by rw[hb b n h1,d],gd N I⟩
 | iter s pos =>
  simp only[aN]at *;obtain⟨b,n,h1,d⟩:=h;exact⟨b,n,by rw[J,h1],by rw[hb b n h1,d]⟩
 | fh l T B s =>
  simp only[aN]at *;obtain⟨b,n,p,v,k,q,h1,d,I,M,O,W⟩:=h;obtain⟨g1,g2⟩:=hg l rfl;exact⟨b,n,p,v,k,q,by rw[J,h1],by rw[hb b n h1,d],I,by rw[g1,M],by rw[g1]; exact O,Du (fun g m e=>g2 k g m (by rw[M,e])) W⟩
 | aX l k es clock =>
  simp only[aN]at *;obtain⟨b,n,ms,h1,d,I,M⟩:=h;obtain⟨g1,g2⟩:=hg l rfl;exact⟨b,n,ms,by rw[J,h1],by rw[hb b n h1,d],gd N I,vA (fun h g m hk=>⟨by rw[g1]; exact hk,g2 h g m hk⟩) (fun _ _ _ _ _ b U _ hr=>kS N U hr) M⟩
 | mm l es ms clock =>
  simp only[aN]at *;obtain⟨b,n,V,h1,d,I,M⟩:=h;obtain⟨g1,g2⟩:=hg l rfl;exact⟨b,n,V,by rw[J,h1],by rw[hb b n h1,d],gd N I,Dx g1 g2 (fun _ _ _=>gd N) M⟩
theorem aq.ext{E:Env}{w':World}(H:aq E)(h:Ext E.w w'):aq { E with w:=w' } where
 len:=H.len
 inj:=H.inj
 lt:=fun i b m hi=>⟨dP (H.lt i b m hi).1 h.size,(H.lt i b m hi).2⟩
 X:=fun b hb=>dP (H.X b hb) h.size
 obj:=fun i o hi=>kT (fun a _ hr=>bI (Env.jQ h) a hr) rfl (fun b n hb=>h.same b (H.lt i b n hb).1) (fun l _=>⟨rfl,fun k g m hk=>h.same g (H.ct l k g m hk).1⟩) (H.obj i o hi)
 fH:=H.fH.bH (Env.jQ h).toC
 e9:=H.e9
 cY:=H.cY
 ct:=fun l k b m hk=>⟨dP (H.ct l k b m hk).1 h.size,(H.ct l k b m hk).2⟩
 uniq:=H.uniq
 gH:=H.gH
def Env.push(E:Env)(w':World)(o:ad)(l:Option (Nat × Nat)):Env:={ w:=w',H:=E.H++[o],loc:=E.loc++[l],X:=E.X }
theorem aK{α:Type}{l:List α}{i:Nat}{x:α}(h:l[i]? = some x):i<l.length:=by
 rcases kg i l.length with h'|h'
 ·exact h'
 ·rw[nQ h']at h; cases h
theorem amw{α:Type}(l:List α)(x:α)(i:Nat)(h:i<l.length):(l++[x])[i]? = l[i]? := by
 rw[cT h]
theorem Env.kl{E:Env}{w':World}{o:ad}{l:Option (Nat × Nat)}(J:E.loc.length=E.H.length)(h:Ext E.w w')
  (hb:∀ b n,l=some (b,n)→E.w.heap.size≤b):E.le (E.push w' o l) where
 past:=fun id ae k=>by
  obtain⟨x,h1,d⟩:=k;exact⟨x,by simp only[Env.push]; rw[cT (aK h1)]; exact h1,d⟩
 size:=h.size
 same:=fun b hb _=>h.same b hb
 own:=fun b I ho=>by
  rintro(⟨id,c,hid⟩|q)
  case inr=>exact ho (.inr q)
  simp only[Env.push]at hid;by_cases hi:id<E.loc.length
  ·rw [cT hi] at hid
   exact ho (.inl ⟨id,c,hid⟩)
  ·rw [iM (by omega)] at hid
   cases hk:id-E.loc.length with
   | zero =>
    rw[hk]at hid;simp at hid;have:=hb b c hid;omega
   |succ n=>rw[hk]at hid; simp at hid
 live:=fun id ae k=>by
  obtain⟨x,h1,d⟩:=k;have hid:=aK h1;simp only[Env.live,Env.push];rw[cT hid,cT (by omega)];exact fun h=>⟨h,rfl⟩
 X:=⟨rfl,rfl⟩
 grow:=fun id l o h1 d _=>⟨⟨[],(dh _).symm⟩,o,by simp only[Env.push]; rw[cT (aK h1)]; exact h1,d⟩
 rl:=fun _ _ h=>⟨h,fun _ B=>B⟩
 env:=h.env
theorem aq.push{E:Env}{w':World}{o:ad}{l:Option (Nat × Nat)}(H:aq E)(h:Ext E.w w')
  (hb:∀ b n,l=some (b,n)→E.w.heap.size≤b∧b<w'.heap.size) (ho:aN (E.push w' o l) E.H.length o) (hlab:o.label=none:=by first|rfl|assumption):aq (E.push w' o l) where
 e9:=H.e9
 ct:=fun l k b m hk=>⟨dP (H.ct l k b m hk).1 h.size,(H.ct l k b m hk).2⟩
 cY:=by
  intro i b m l' k n hi hk;simp only[Env.push,fM]at hi;split at hi
  ·exact H.cY i b m l' k n hi hk
  ·rename_i h1
   cases I:i-E.loc.length with
   | zero =>
    rw[I]at hi;simp at hi;have M:=hb b m hi;have U:=(H.ct l' k b n hk).1;omega
   |succ n=>rw[I]at hi; simp at hi
 uniq:=by
  have key:∀(i:Nat) o1 l1,(E.push w' o l).H[i]? = some o1→o1.label=some l1→E.H[i]? = some o1:=by
   intro i o1 l1 hi N;simp only[Env.push,fM]at hi;split at hi
   ·exact hi
   ·cases I : i - E.H.length with
    | zero =>
     rw[I]at hi;simp at hi;subst hi;rw[hlab]at N;cases N
    |succ n=>rw[I]at hi; simp at hi
  exact fun i j o1 o2 l1 hi d h1 J=>H.uniq i j o1 o2 l1 (key i o1 l1 hi h1) (key j o2 l1 d J) h1 J
 gH:=fun l1 hn=>H.gH l1 fun i o1 hi=>hn i o1 (by
  simp only[Env.push];rw[cT (aK hi)];exact hi)
 fH:=H.fH.bH (Env.kl H.len h (fun b n e=>(hb b n e).1)).toC
 len:=by simp[Env.push,H.len]
 inj:=by
  intro i j b m n hi d;simp only[Env.push,fM]at hi d;split at hi<;>split at d
  ·exact H.inj i j b m n hi d
  ·rename_i h1 J
   cases hk:j-E.loc.length with
   | zero =>
    rw[hk]at d;simp at d;have M:=hb b n d;have U:=(H.lt i b m hi).1;omega
   |succ n=>rw[hk]at d; simp at d
  ·rename_i h1 J
   cases hk:i-E.loc.length with
   | zero =>
    rw[hk]at hi;simp at hi;have M:=hb b m hi;have U:=(H.lt j b n d).1;omega
   |succ n=>rw[hk]at hi; simp at hi
  ·rename_i h1 J
   have W:i-E.loc.length=0:=by
    cases hk:i-E.loc.length with
    |zero=>rfl
    |succ n=>rw[hk]at hi; simp at hi
   have e2:j-E.loc.length=0:=by
    cases hk:j-E.loc.length with
    |zero=>rfl
    |succ n=>rw[hk]at d; simp at d
   omega
 lt:=by
  intro i b m hi;simp only[Env.push,fM]at hi⊢;split at hi
  ·exact⟨dP (H.lt i b m hi).1 h.size,(H.lt i b m hi).2⟩
  ·cases hk : i - E.loc.length with
   | zero =>
    rw[hk]at hi;simp at hi;have M:=hb b m hi;exact⟨M.2,fun V=>by have:=H.X b V; omega⟩
   |succ n=>rw[hk]at hi; simp at hi
 X:=fun b B=>dP (H.X b B) h.size
 obj:=by
  intro i o' hi;have hle:E.le (E.push w' o l):=Env.kl H.len h (fun b n B=>(hb b n B).1);by_cases O:i<E.H.length
  ·simp only [Env.push] at hi
   rw[cT O]at hi;refine kT (fun a _ hr=>bI hle a hr) ?_ ?_ ?_ (H.obj i o' hi)
   ·simp only [Env.push]
    rw[cT (by rw[H.len]; exact O)]
   ·intro b n B
    exact h.same b (H.lt i b n B).1
   ·exact fun l1 _=>⟨rfl,fun k g m hk=>h.same g (H.ct l1 k g m hk).1⟩
  ·have q := hi
   simp only[Env.push]at q;rw[iM (by omega)]at q;cases hk:i-E.H.length with
   | zero =>
    rw[hk]at q;simp at q;have:i=E.H.length:=by omega
    rw[this,←q];exact ho
   |succ n=>rw[hk]at q; simp at q
theorem Env.km{E:Env}{w':World}{id:Nat}{o o':ad}{l:Option (Nat × Nat)}(hid:E.H[id]? = some o)
  (hlen:E.loc.length=E.H.length) (M:E.w.heap.size≤w'.heap.size)
  (N:∀ x,x<E.w.heap.size→(∀ n,E.loc[id]? ≠ some (some (x,n)))→w'.heap[x]? = E.w.heap[x]?)
  (hl:∀ b n,l=some (b,n)→E.w.heap.size≤b∨∃ m,E.loc[id]? = some (some (b,m)))
  (U:(∀ v,o'.aG = some v→o.aG = some v∧E.loc[id]? = some l)∨(∀ v,o'.aG = some v→∀ u,o.aG = some u→u<v))
  (W:∀ v u,o'.aG = some v→o.aG = some u→u≤v) (J:o.born=true→o.aG = none→o'.aG = none) (V:ep E.w w':=by first|exact⟨rfl,rfl,rfl,by first|exact fun _=>aD _|exact fun _=>fq _ _⟩|assumption|exact Ext.env (by assumption))
  (hmm:o.dy=none∨o'.dy=o.dy∨o'.aG = none:=by first|exact .inl rfl|exact .inr (.inl rfl)|exact .inr (.inr rfl)|exact .inl (ad.zg (by assumption))|assumption)
  (O:o.born=true→o'.born=true:=by first|exact fun _=>rfl|exact fun h=>h|assumption) :
  E.le { w:=w',H:=E.H.set id o',loc:=E.loc.set id l,X:=E.X } where
 grow:=fun i l1 x h1 d k=>by
  by_cases e:i=id
  ·subst e
   rw[hid]at h1;cases h1;rcases hmm with h|h|h
   ·rw[h]at d; cases d
   ·exact⟨⟨[],(dh _).symm⟩,o',by simp only[]; rw[bC (aK hid)],by rw[h]; exact d⟩
   ·obtain ⟨y, q, B⟩ := k
    simp only[]at q;rw[bC (aK hid)]at q;cases q;rw[h]at B;cases B
  ·exact⟨⟨[],(dh _).symm⟩,x,by simp only[]; rw[aZ (Ne.symm e)]; exact h1,d⟩
 past:=fun i ae I=>by
  obtain⟨x,h1,d⟩:=I;by_cases e:i=id
  ·subst e
   rw[hid]at h1;cases h1;refine⟨o',by simp only[]; rw[bC (aK hid)],O d.1,fun v k=>?_⟩;cases hu:o.aG with
   |none=>rw[J d.1 hu]at k; cases k
   |some u=>exact o9 (d.2 u hu) (W v u k hu)
  ·exact⟨x,by simp only[]; rw[aZ (Ne.symm e)]; exact h1,d⟩
 size:=M
 same:=fun x hx ho=>N x hx (fun n hn=>ho (.inl ⟨id,n,hn⟩))
 own:=fun b hlt ho=>by
  rintro(⟨i,c,hi⟩|hs)
  case inr=>exact ho (.inr hs)
  simp only[eC]at hi;split at hi
  ·split at hi
   ·simp at hi
    rcases hl b c hi with h|⟨m,hm⟩
    ·omega
    ·exact ho (.inl ⟨id,m,hm⟩)
   ·cases hi
  ·exact ho (.inl ⟨i,c,hi⟩)
 live:=fun i ae I hl'=>by
  obtain⟨x,h1,d⟩:=hl';by_cases e:i=id
  ·subst e
   simp only[]at h1;rw[bC (aK hid)]at h1;cases h1;rcases U with k|k
   ·obtain ⟨a1, a2⟩ := k ae d
    refine⟨⟨o,hid,a1⟩,?_⟩;simp only[];rw[bC (by rw[hlen]; exact aK hid),a2]
   ·obtain ⟨y, q, B⟩ := I
    rw[hid]at q;cases q;cases hu:o.aG with
    |none=>rw[J B.1 hu]at d; cases d
    |some u=>have:=k ae d u hu; have:=B.2 u hu; omega
  ·simp only [] at h1 ⊢
   rw[aZ (Ne.symm e)]at h1;rw[aZ (Ne.symm e)];exact⟨⟨x,h1,d⟩,rfl⟩
 X:=⟨rfl,rfl⟩
 rl:=fun _ _ h=>⟨h,fun _ hq=>hq⟩
 env:=V
theorem aq.lR{E:Env}{w':World}{id:Nat}{o o':ad}{l:Option (Nat × Nat)}(H:aq E)(hid:E.H[id]? = some o)
  (B:E.w.heap.size≤w'.heap.size)
  (J:∀ x,x<E.w.heap.size→(∀ n,E.loc[id]? ≠ some (some (x,n)))→w'.heap[x]? = E.w.heap[x]?)
  (I:∀ b n,l=some (b,n)→(E.w.heap.size≤b∧b<w'.heap.size)∨∃ m,E.loc[id]? = some (some (b,m)))
  (O:(∀ v,o'.aG = some v→o.aG = some v∧E.loc[id]? = some l)∨(∀ v,o'.aG = some v→∀ u,o.aG = some u→u<v))
  (V:∀ v u,o'.aG = some v→o.aG = some u→u≤v) (N:o.born=true→o.aG = none→o'.aG = none)
  (ho:aN { w:=w',H:=E.H.set id o',loc:=E.loc.set id l,X:=E.X } id o') (U:ep E.w w':=by first|exact⟨rfl,rfl,rfl,by first|exact fun _=>aD _|exact fun _=>fq _ _⟩|assumption|exact Ext.env (by assumption))
  (hlab:o.label=none:=by first|rfl|assumption) (hlab':o'.label=none:=by first|rfl|assumption)
  (hborn:o.born=true→o'.born=true:=by first|exact fun _=>rfl|exact fun h=>h|assumption) :
  aq { w:=w',H:=E.H.set id o',loc:=E.loc.set id l,X:=E.X } where
 e9:=H.e9
 ct:=fun l k b m hk=>⟨dP (H.ct l k b m hk).1 B,(H.ct l k b m hk).2⟩
 cY:=by
  intro i b m l' k n hi hk;simp only[eC]at hi;split at hi
  ·split at hi
   ·simp at hi
    rcases I b m hi with h|⟨m',q⟩
    ·have:=(H.ct l' k b n hk).1; omega
    ·exact H.cY _ _ _ _ _ _ q hk
   ·cases hi
  ·exact H.cY _ _ _ _ _ _ hi hk
 uniq:=by
  have key:∀(i:Nat) o1 l1,(E.H.set id o')[i]? = some o1→o1.label=some l1→E.H[i]? = some o1:=by
   intro i o1 l1 hi W;rw[eC]at hi;split at hi
   ·split at hi
    ·cases hi
     rw[hlab']at W;cases W
    ·cases hi
   ·exact hi
  exact fun i j o1 o2 l1 hi d h1 h2=>H.uniq i j o1 o2 l1 (key i o1 l1 hi h1) (key j o2 l1 d h2) h1 h2
 gH:=fun l1 hn=>H.gH l1 fun i o1 hi=>by
  by_cases e:i=id
  ·subst e
   rw[hid]at hi;cases hi;rw[hlab];exact fun h=>by cases h
  ·exact hn i o1 (by show (E.H.set id o')[i]? = _; rw[aZ (Ne.symm e)]; exact hi)
 fH:=H.fH.bH (Env.km hid H.len B J (fun b n hb=>(I b n hb).imp (fun h=>h.1) (fun h=>h)) O V N U).toC
 len:=by simp[H.len]
 inj:=by
  intro i j b m n hi d;simp only[eC]at hi d;split at hi
  ·rename_i e1
   split at d
   ·rename_i e2; omega
   ·split at hi
    ·simp at hi
     rcases I b m hi with h|⟨m',q⟩
     ·have:=(H.lt j b n d).1; omega
     ·rw[←e1]; exact H.inj _ _ _ _ _ q d
    ·cases hi
  ·split at d
   ·rename_i e2
    split at d
    ·simp at d
     rcases I b n d with h|⟨m',q⟩
     ·have:=(H.lt i b m hi).1; omega
     ·rw[←e2]; exact H.inj _ _ _ _ _ hi q
    ·cases d
   ·exact H.inj i j b m n hi d
 lt:=by
  intro i b m hi;simp only[eC]at hi;split at hi
  ·split at hi
   ·simp at hi
    rcases I b m hi with h|⟨m',q⟩
    ·exact⟨h.2,fun hx=>by have:=H.X b hx; omega⟩
    ·exact⟨dP (H.lt _ _ _ q).1 B,(H.lt _ _ _ q).2⟩
   ·cases hi
  ·exact⟨dP (H.lt i b m hi).1 B,(H.lt i b m hi).2⟩
 X:=fun b hb=>dP (H.X b hb) B
 obj:=by
  intro i x hi;by_cases e:i=id
  ·subst e
   simp only[]at hi;rw[bC (aK hid)]at hi;cases hi;exact ho
  ·have M := hi
   simp only[]at M;rw[aZ (Ne.symm e)]at M;have hle:E.le { w:=w',H:=E.H.set id o',loc:=E.loc.set id l,X:=E.X } :=
    Env.km hid H.len B J (fun b n hb=>(I b n hb).imp (fun h=>h.1) (fun h=>h)) O V N U
   refine kT (fun a _ hr=>bI hle a hr) ?_ ?_ ?_ (H.obj i x M)
   ·simp only []
    rw[aZ (Ne.symm e)]
   ·intro b n hb
    exact J b (H.lt i b n hb).1 (fun m hm=>e (H.inj i id b n m hb hm))
   ·exact fun l1 _=>⟨rfl,fun k g m hk=>J g (H.ct l1 k g m hk).1 (fun n hn=>H.cY id g n l1 k m hn hk)⟩
theorem aq.Dy{E:Env}{w':World}{id l0:Nat}{o o':ad}{r':Nat→List (Option (Option (Nat × Nat)))}(H:aq E)(hid:E.H[id]? = some o)(hlab:o.label=some l0)(O:o'.label=some l0)(hver:o'.aG = o.aG)
  (N:E.w.heap.size≤w'.heap.size)
  (U:∀ x,x<E.w.heap.size→(∀ n,E.loc[id]? ≠ some (some (x,n)))→(∀(h m:Nat),(E.X.r l0)[h]? ≠ some (some (some (x,m))))→w'.heap[x]? = E.w.heap[x]?)
  (hr:∀ l,l≠l0→r' l=E.X.r l)
  (hnew:∀(h b m:Nat),(r' l0)[h]? = some (some (some (b,m)))→(E.X.r l0)[h]? = some (some (some (b,m)))∨(E.w.heap.size≤b∧b<w'.heap.size∧∀(h' m':Nat),(r' l0)[h']? = some (some (some (b,m')))→h'=h))
  (hrl:∀(h:Nat),h<(E.X.r l0).length→h<(r' l0).length∧∀ q,(r' l0)[h]? = some (some q)→(E.X.r l0)[h]? = some (some q))
  (ho:E.le { w:=w',H:=E.H.set id o',loc:=E.loc,X:=E.X.re r' }→aN { w:=w',H:=E.H.set id o',loc:=E.loc,X:=E.X.re r' } id o') (henv:ep E.w w') (hmm:o.dy=none∨(o'.dy=o.dy∧∃ t,r' l0=E.X.r l0++t):=by first|exact .inl rfl|assumption) :
  aq { w:=w',H:=E.H.set id o',loc:=E.loc,X:=E.X.re r' }∧E.le { w:=w',H:=E.H.set id o',loc:=E.loc,X:=E.X.re r' }:=by
 have J:=aK hid;have M:∀(l h b m:Nat),(r' l)[h]? = some (some (some (b,m)))→(E.X.r l)[h]? = some (some (some (b,m)))∨(l=l0∧E.w.heap.size≤b∧b<w'.heap.size∧∀(h' m':Nat),(r' l0)[h']? = some (some (some (b,m')))→h'=h):=fun l h b m hk=>by
  by_cases e:l=l0
  ·subst e
   rcases hnew h b m hk with h1|⟨h1,d,h3⟩
   ·exact .inl h1
   ·exact .inr ⟨rfl,h1,d,h3⟩
  ·rw [hr l e] at hk
   exact .inl hk
 have hle:E.le { w:=w',H:=E.H.set id o',loc:=E.loc,X:=E.X.re r' }:=by
  refine⟨fun i ae hp=>?_,N,fun x V hx'=>U x V (fun n hn=>hx' (.inl ⟨id,n,hn⟩)) fun h m hm=>hx' (.inr ⟨l0,h,m,hm⟩),fun b hb hno=>?_,fun i ae hp k=>?_,⟨rfl,rfl⟩,fun l h hh=>?_,henv,fun i l x h1 d hv=>?_⟩
  rotate_right
  ·by_cases e : i = id
   ·subst e
    rw[hid]at h1;cases h1;have B:l0=l:=by
     have:=ad.lO d;rw[hlab]at this;cases this;rfl
    subst B;rcases hmm with h|⟨h,ht⟩
    ·rw[h]at d; cases d
    ·exact⟨ht,o',by simp only[]; rw[bC J],by rw[h]; exact d⟩
   ·have B : l ≠ l0 := fun B => e (H.uniq i id x o l h1 hid (ad.lO d) (by rw [B]; exact hlab))
    exact⟨⟨[],by rw[dh]; exact hr l B⟩,x,by simp only[]; rw[aZ (Ne.symm e)]; exact h1,d⟩
  ·obtain ⟨x, h1, d⟩ := hp
   by_cases e:i=id
   ·subst e
    rw[hid]at h1;cases h1;exact⟨o',by simp only[]; rw[bC J],ad.zf O,fun v hv=>d.2 v (by rw[←hver]; exact hv)⟩
   ·exact⟨x,by simp only[]; rw[aZ (Ne.symm e)]; exact h1,d⟩
  ·rintro (⟨i, c, hi⟩ | ⟨l, h, m, hm⟩)
   ·exact hno (.inl ⟨i,c,hi⟩)
   ·rcases M l h b m hm with h1 | ⟨_, h1, _⟩
    ·exact hno (.inr ⟨l,h,m,h1⟩)
    ·omega
  ·obtain ⟨x, h1, d⟩ := k
   refine⟨?_,rfl⟩;simp only[]at h1;by_cases e:i=id
   ·subst e
    rw[bC J]at h1;cases h1;exact⟨o,hid,by rw[←hver]; exact d⟩
   ·rw [aZ (Ne.symm e)] at h1
    exact⟨x,h1,d⟩
  ·by_cases e : l = l0
   ·subst e
    exact hrl h hh
   ·show h < (r' l).length ∧ _
    rw[hr l e];exact⟨hh,fun _ I=>(by rw[show ({ w:=w',H:=E.H.set id o',loc:=E.loc,X:=E.X.re r' }:Env).X.r l=E.X.r l from hr l e]at I; exact I)⟩
 refine⟨⟨by simp[H.len],H.inj,fun i b m hi=>⟨dP (H.lt i b m hi).1 N,(H.lt i b m hi).2⟩,fun b hb=>dP (H.X b hb) N,fun i x hi=>?_,H.fH.bH hle.toC,fun l h l' h' b m n h1 d=>?_,fun i b m l h n hi hk=>?_,fun l h b m hk=>?_,fun i j x y l hi hj h1 d=>?_,fun l hn h q I=>?_⟩,hle⟩
 ·by_cases e : i = id
  ·subst e
   simp only[]at hi;rw[bC J]at hi;cases hi;exact ho hle
  ·simp only [] at hi
   rw[aZ (Ne.symm e)]at hi;refine kT (fun a _ hr=>bI hle a hr) rfl (fun b n hb=>U b (H.lt i b n hb).1 (fun m hm=>e (H.inj i id b n m hb hm)) fun h m hm=>H.cY i b n l0 h m hb hm) (fun l k=>?_) (H.obj i x hi);have aA:l≠l0:=fun B=>e (H.uniq i id x o l hi hid k (by rw[hlab,B]));exact⟨hr l aA,fun h g m hk=>U g (H.ct l h g m hk).1 (fun n hn=>H.cY id g n l h m hn hk) fun h' m' hk'=>aA (H.e9 l h l0 h' g m m' hk hk').1⟩
 ·rcases M l h b m h1 with g1 | ⟨rfl, g1, g2, g3⟩ <;> rcases M l' h' b n d with W | ⟨rfl, W, k2, k3⟩
  ·exact H.e9 _ _ _ _ _ _ _ g1 W
  ·have:=(H.ct _ _ _ _ g1).1; omega
  ·have:=(H.ct _ _ _ _ W).1; omega
  ·exact⟨rfl,(g3 h' n d).symm⟩
 ·rcases M l h b n hk with g1 | ⟨rfl, g1, g2, g3⟩
  ·exact H.cY _ _ _ _ _ _ hi g1
  ·have:=(H.lt i b m hi).1; omega
 ·rcases M l h b m hk with g1 | ⟨rfl, g1, g2, g3⟩
  ·exact⟨dP (H.ct _ _ _ _ g1).1 N,(H.ct _ _ _ _ g1).2⟩
  ·exact⟨g2,fun V=>by have:=H.X b V; omega⟩
 ·have key:∀ (i:Nat) x,(E.H.set id o')[i]? = some x→x.label=some l→∃ y,E.H[i]? = some y∧y.label=some l:=by
   intro i x hi k;by_cases e:i=id
   ·subst e
    rw[bC J]at hi;cases hi;exact⟨o,hid,by rw[hlab,←O,k]⟩
   ·rw [aZ (Ne.symm e)] at hi
    exact⟨x,hi,k⟩
  obtain⟨x',a1,a2⟩:=key i x hi h1;obtain⟨y',b1,b2⟩:=key j y hj d;exact H.uniq i j x' y' l a1 b1 a2 b2
 ·have aA : l ≠ l0 := fun e => hn id o' (by show (E.H.set id o')[id]? = _; rw [bC J]) (by rw [O, e])
  have I:(r' l)[h]? = some (some q):=I;rw[hr l aA]at I;refine H.gH l (fun i x hi k=>?_) h q I;by_cases e:i=id
  ·subst e
   rw[hid]at hi;cases hi;exact aA (by rw[hlab]at k; cases k; rfl)
  ·exact hn i x (by show (E.H.set id o')[i]? = _; rw[aZ (Ne.symm e)]; exact hi) k
def iS (r:Nat→List (Option (Option (Nat × Nat)))) (l0:Nat):Nat→List (Option (Option (Nat × Nat))):=fun l=>if l=l0 then r l++[some none] else r l
theorem Dz{r:Nat→List (Option (Option (Nat × Nat)))}{l0 l h:Nat}{q:Option (Option (Nat × Nat))}(d:(iS r l0 l)[h]? = some q):(r l)[h]? = some q∨(l=l0∧h=(r l).length∧q=some none):=by
 unfold iS at d;split at d
 ·rename_i e
  rw[fM]at d;split at d
  ·exact .inl d
  ·rename_i k
   right;cases hk:h-(r l).length with
   | zero =>
    rw[hk]at d;simp at d;exact⟨e,by omega,d.symm⟩
   |succ n=>rw[hk]at d; simp at d
 ·exact .inl d
theorem Wd{r:Nat→List (Option (Option (Nat × Nat)))}{l0 l h:Nat}(d:h<(r l).length):(iS r l0 l)[h]? = (r l)[h]? := by
 unfold iS;split
 ·exact cT d
 ·rfl
theorem aq.We{E:Env}{w':World}{o:ad}{l:Option (Nat × Nat)}{l0:Nat}(H:aq E)(h:Ext E.w w')(hb:∀ b n,l=some (b,n)→E.w.heap.size≤b∧b<w'.heap.size)(hlab:o.label=some l0)(O:∀(i:Nat) x,E.H[i]? = some x→x.label≠some l0)
  (ho:aN { w:=w',H:=E.H++[o],loc:=E.loc++[l],X:=E.X.re (iS E.X.r l0) } E.H.length o) :
  aq { w:=w',H:=E.H++[o],loc:=E.loc++[l],X:=E.X.re (iS E.X.r l0) }∧E.le { w:=w',H:=E.H++[o],loc:=E.loc++[l],X:=E.X.re (iS E.X.r l0) }:=by
 have U:∀(i:Nat) x,(E.H++[o])[i]? = some x→E.H[i]? = some x∨(i=E.H.length∧x=o):=fun i x hi=>by
  rw[fM]at hi;split at hi
  ·exact .inl hi
  ·right
   cases hk:i-E.H.length with
   |zero=>rw[hk]at hi; simp at hi; exact⟨by omega,hi.symm⟩
   |succ n=>rw[hk]at hi; simp at hi
 have J:∀(i:Nat) x,(E.loc++[l])[i]? = some x→E.loc[i]? = some x∨(i=E.loc.length∧x=l):=fun i x hi=>by
  rw[fM]at hi;split at hi
  ·exact .inl hi
  ·right
   cases hk:i-E.loc.length with
   |zero=>rw[hk]at hi; simp at hi; exact⟨by omega,hi.symm⟩
   |succ n=>rw[hk]at hi; simp at hi
 have I:∀(x k b m:Nat),(iS E.X.r l0 x)[k]? = some (some (some (b,m)))→(E.X.r x)[k]? = some (some (some (b,m))):=fun x k b m hk=>by
  rcases Dz hk with h1|⟨_,_,h1⟩
  ·exact h1
  ·cases h1
 have hle:E.le { w:=w',H:=E.H++[o],loc:=E.loc++[l],X:=E.X.re (iS E.X.r l0) }:=by
  refine⟨fun i ae V=>?_,h.size,fun b M _=>h.same b M,fun b hlt hno'=>?_,fun i ae V W=>?_,⟨rfl,rfl⟩,fun x k hk=>?_,h.env,fun i l x h1 d hv=>⟨⟨[],?_⟩,x,by simp only[]; rw[cT (aK h1)]; exact h1,d⟩⟩
  rotate_right
  ·have e : l ≠ l0 := fun e => O i x h1 (by rw [← e]; exact ad.lO d)
   rw[dh];exact if_neg e
  ·obtain ⟨x, h1, d⟩ := V
   exact⟨x,by simp only[]; rw[cT (aK h1)]; exact h1,d⟩
  ·rintro (⟨i, c, hi⟩ | ⟨x, k, m, hk⟩)
   ·rcases J i _ hi with h1 | ⟨_, h1⟩
    ·exact hno' (.inl ⟨i,c,h1⟩)
    ·have := hb b c h1.symm
     omega
   ·exact hno' (.inr ⟨x,k,m,I x k b m hk⟩)
  ·obtain ⟨x, h1, d⟩ := V
   have hid:=aK h1;obtain⟨y,B,h4⟩:=W;simp only[]at B;rw[cT hid]at B;exact⟨⟨y,B,h4⟩,by simp only[]; rw[cT (by rw[H.len]; exact hid)]⟩
  ·have hk':k<(iS E.X.r l0 x).length:=by
    unfold iS;split
    ·simp; omega
    ·exact hk
   refine⟨hk',fun q N=>?_⟩;have N:(iS E.X.r l0 x)[k]? = some (some q):=N
   rwa [Wd hk]at N
 refine⟨⟨by simp[H.len],fun i j b m n hi hj=>?_,fun i b m hi=>?_,fun b M=>dP (H.X b M) h.size,fun i x hi=>?_,H.fH.bH hle.toC,fun x k x' k' b m n h1 d=>H.e9 _ _ _ _ _ _ _ (I _ _ _ _ h1) (I _ _ _ _ d),fun i b m x k n hi hk=>?_,fun x k b m hk=>?_,fun i j x y l1 hi hj h1 d=>?_,fun l1 hn k q N=>?_⟩,hle⟩
 ·rcases J i _ hi with h1 | ⟨h1, d⟩ <;> rcases J j _ hj with B | ⟨B, h4⟩
  ·exact H.inj _ _ _ _ _ h1 B
  ·have:=hb b n h4.symm; have:=(H.lt _ _ _ h1).1; omega
  ·have:=hb b m d.symm; have:=(H.lt _ _ _ B).1; omega
  ·omega
 ·rcases J i _ hi with h1 | ⟨h1, d⟩
  ·exact⟨dP (H.lt _ _ _ h1).1 h.size,(H.lt _ _ _ h1).2⟩
  ·have B := hb b m d.symm
   exact⟨B.2,fun hx=>by have:=H.X b hx; omega⟩
 ·rcases U i x hi with h1 | ⟨h1, d⟩
  ·refine kT (fun a _ hr => bI hle a hr) (by simp only []; rw [cT (by rw [H.len]; exact aK h1)]) (fun b n M => h.same b (H.lt i b n M).1) (fun l1 hl1 => ?_) (H.obj i x h1)
   have aA:l1≠l0:=fun e=>O i x h1 (by rw[hl1,e]);exact⟨if_neg aA,fun k g m hk=>h.same g (H.ct _ _ _ _ hk).1⟩
  ·subst h1 d
   exact ho
 ·rcases J i _ hi with h1 | ⟨h1, d⟩
  ·exact H.cY _ _ _ _ _ _ h1 (I _ _ _ _ hk)
  ·have:=hb b m d.symm; have:=(H.ct _ _ _ _ (I _ _ _ _ hk)).1; omega
 ·have h1 := I _ _ _ _ hk
  exact⟨dP (H.ct _ _ _ _ h1).1 h.size,(H.ct _ _ _ _ h1).2⟩
 ·rcases U i x hi with g1 | ⟨g1, rfl⟩ <;> rcases U j y hj with g3 | ⟨g3, rfl⟩
  ·exact H.uniq i j x y l1 g1 g3 h1 d
  ·rw [hlab] at d
   cases d;exact(O i x g1 h1).elim
  ·rw [hlab] at h1
   cases h1;exact(O j y g3 d).elim
  ·omega
 ·rcases Dz (show (iS E.X.r l0 l1)[k]? = some (some q) from N) with g1 | ⟨g1, _⟩
  ·exact H.gH l1 (fun i x hi W=>hn i x (by simp only[]; rw[cT (aK hi)]; exact hi) W) k q g1
  ·exact hn E.H.length o (by simp) (by rw[hlab,g1])
theorem Env.sK{E:Env}(H:aq E)(id:Nat):E.le { w:=E.w,H:=E.H.set id .dead,loc:=E.loc.set id none,X:=E.X }:=by
 rcases kg id E.H.length with h|h
 ·exact Env.km (o:=E.H[id]) (by simp[h]) H.len (aD _) (fun _ _ _=>rfl) (fun _ _ h=>by cases h) (.inl (fun v h=>by simp[ad.aG]at h))
   (fun v u h=>by simp[ad.aG]at h) (fun _ _=>rfl)
 ·rw [J8 h, J8 (by rw [H.len]; exact h)]
  exact Env.le.refl E
theorem aq.drop{E:Env}(H:aq E)(id:Nat)(hlab:∀ o,E.H[id]? = some o→o.label=none):aq { w:=E.w,H:=E.H.set id .dead,loc:=E.loc.set id none,X:=E.X }:=by
 rcases kg id E.H.length with h|h
 ·refine aq.lR (o:=E.H[id]) H (by simp [h]) (aD _) (fun _ _ _=>rfl) (fun _ _ h=>by cases h) (.inl (fun v h=>by simp [ad.aG] at h))
   (fun v u h=>by simp[ad.aG]at h) (fun _ _=>rfl) ?_ (hlab:=hlab _ (by simp[h]))
  simp only[aN];rw[bC (by rw[H.len]; exact h)]
 ·rw [J8 h, J8 (by rw [H.len]; exact h)]
  exact H
end Go.AL

namespace Go.AL
variable [Dr]
structure FK where
 off:Nat
 size:Nat
 agg:Bool
def qT:TypeDesc→Bool
 |.struct _ | .array _ _=>true
 |_=>false
def e_(P:Program)(t:TypeId):Option (Nat × Bool) :=
 match P.info? t,P.underlying t with
 |some i,some d=>some (i.size,qT d)
 |_,_=>none
def sL(P:Program)(t:TypeId)(f:Nat):Option FK :=
 match P.underlying t with
 | some (.struct d)=>match d[f]? with
  | some fd=>match e_ P fd.type with
   |some (n,a)=>some ⟨fd.offset,n,a⟩
   |none=>none
  |none=>none
 |_=>none
def eJ(P:Program)(t:TypeId):Option (List Value) :=
 match P.info? t with
 | some i=>match i.zero with
  |some z=>if z.cells.toList.all dJ then some z.cells.toList else none
  |none=>none
 |none=>none
inductive SK where
 |slice (elem size bytes:Nat)
 |array (n elem size:Nat) (agg:Bool)
 |str
 |int (k:IntKind)
 |bool
 |other
def cg(P:Program)(t:TypeId):SK :=
 match P.underlying t with
 | some (.slice e)=>match P.info? e with
  |some i=>.slice e i.size i.bytes
  |none=>.other
 | some (.array n e)=>match e_ P e with
  |some (m,a)=>.array n e m a
  |none=>.other
 |some .string=>.str
 |some (.int k)=>.int k
 |some .bool=>.bool
 |_=>.other
def AV.sM:Value→AV
 |.agg cs=>if cs.toList.all dJ then .agg (cs.toList.map .lit) else .lit (.agg cs)
 |.tuple cs=>.tuple (cs.toList.map .lit)
 |v=>.lit v
abbrev AV.int(n:Int):AV:=.lit (.int .i64 n)
abbrev AV.bool(b:Bool):AV:=.lit (.bool b)
abbrev AV.str(s:ByteArray):AV:=.lit (.string s)
theorem pB{E:Env}:∀(l:List Value),af E (l.map .lit) l
 | []=>by simp[af]
 |v::l=>by simp[af,rel,pB l]
theorem KJ(E:Env)(v:Value):rel E (AV.sM v) v:=by
 unfold AV.sM;split
 ·split
  ·rename_i cs h
   simp only[rel];exact⟨cs,rfl,dB.1 h,pB _⟩
  ·simp[rel]
 ·simp only [rel]
  exact⟨_,rfl,pB _⟩
 ·simp[rel]
structure St where
 fr:List AV
 H:List ad
def St.eval(s:St):Operand→AV
 |.tmp t=>s.fr.getD t .undef
 |.const v=>AV.sM v
 |.global g=>.lit (.pointer (some ⟨g,0,none⟩))
 |.func f=>.clo f []
def jR(w:World)(X:XS)(l:List Deferred):Prop:=l.Nodup∧∀ d∈l,∃ D,d={ target:=.collected D,args:=#[] }∧w.heap[D]? = some (.deferred (some []))∧X D∧X.z D
theorem qU(w:World)(X:XS):jR w X []:=⟨J9,fun _ h=>by cases h⟩
theorem zl{w w':World}{X X':XS}{l:List Deferred}(h:jR w X l)(hX:∀ b,X b→X.z b→X' b∧X'.z b)(B:∀ b,X b→X.z b→w'.heap[b]? = w.heap[b]?):jR w' X' l :=
 ⟨h.1,fun d I=>let ⟨D,e,h1,k,q⟩:=h.2 d I; ⟨D,e,by rw[B D k q]; exact h1,hX D k q⟩⟩
theorem zm{E E':Env}(HE:aq E)(h:E.le E'){l:List Deferred}(hm:jR E.w E.X l):jR E'.w E'.X l :=
 zl hm (fun b h1 d=>⟨by rw[show E'.X.x=E.X.x from h.X.1]; exact h1,by rw[show E'.X.z=E.X.z from h.X.2]; exact d⟩) fun b hb _=>h.same b (HE.X b hb) (HE.pA hb)
structure bQ (s:St) (E:Env) (a:Act):Prop where
 H:E.H=s.H
 fr:af E s.fr a.tmps.toList
 defers:jR E.w E.X a.defers
 heap:aq E
theorem bQ.eval{s:St}{E:Env}{a:Act}(h:bQ s E a)(x:Operand):rel E (s.eval x) (a.eval x):=by
 cases x with
 | tmp t =>
  simp only[St.eval,C2];obtain⟨h1,B⟩:=n_.1 h.fr;rcases kg t s.fr.length with d|q
  ·have k : t < a.tmps.toList.length := h1 ▸ d
   have I:s.fr[t]? = some s.fr[t]:=by simp[d]
   have J:a.tmps.toList[t]? = some a.tmps.toList[t]:=bf k;have:=B t _ _ I J;simpa[bz,Array.getD_eq_getD_getElem?,d,show t<a.tmps.size by simpa using k]using this
  ·have : s.fr.getD t .undef = .undef := by simp [bz, nQ q]
   rw[this];simp[rel]
 |const v=>exact KJ E v
 |global g=>simp[St.eval,C2,rel]
 |func f=>simp only[St.eval,C2,rel]; exact⟨#[],rfl,by simp[af]⟩
def gf(agg:Bool)(n:Nat)(cells:List AV):Option AV :=
 if agg then (if n≤cells.length then some (.agg (cells.take n)) else none) else cells[0]?
def kn(k:SK)(x i:AV):Option AV :=
 match i with
 | .lit (.int _ n) =>
  match k,x with
  |.slice _ sz _,.list w rows=>if w=sz∧0≤n∧n<rows.length then (rows[n.toNat]?).map .cptr else none
  |.slice _ sz _,.listF ks rows=>if ks.length=sz∧0≤n∧n<rows.length then some (.cptr (aH ks (rows.getD n.toNat []))) else none
  |.slice _ sz _,.vec w id ae off m=>if w=sz∧0≤n∧n<m then some (.ptr id ae w (off+n.toNat) 0) else none
  |.array m _ sz _,.ptr id ae w row col=>if 0≤n∧n<m then some (.ptr id ae w row (col+n.toNat*sz)) else none
  |.array m _ sz _,.cptr cells=>if 0≤n∧n<m then some (.cptr ((cells.drop (n.toNat*sz)).take sz)) else none
  |_,_=>none
 |_=>none
def DA(k:FK)(x:AV):Option AV :=
 if k.size=0 then none else
 match x with
 |.cptr cells=>some (.cptr (cells.drop k.off))
 |.ptr id ae w row col=>some (.ptr id ae w row (col+k.off))
 |_=>none
def KK(k:IntKind)(a b:Int):Int:=k.wrap (yM k.bits a &&& yM k.bits b).toNat
def KL(k:IntKind)(a b:Int):Int:=k.wrap (yM k.bits a ||| yM k.bits b).toNat
def KM(k:IntKind)(a b:Int):Int:=k.wrap (yM k.bits a ^^^ yM k.bits b).toNat
def DB(k:IntKind)(a b:Int):Int:=k.wrap (a*2 ^ min b.toNat k.bits)
def kp(k:IntKind)(a b:Int):Int:=a.fdiv (2 ^ min b.toNat k.bits)
def mP(op:BinOp)(k:IntKind)(a b:Int):Option Value :=
 match op with
 |.and=>some (.int k (KK k a b))
 |.or=>some (.int k (KL k a b))
 |.xor=>some (.int k (KM k a b))
 |.add=>some (.int k (k.wrap (a+b)))
 |.sub=>some (.int k (k.wrap (a-b)))
 |.mul=>some (.int k (k.wrap (a*b)))
 |.quo=>if b=0 then none else some (.int k (k.wrap (a.tdiv b)))
 |.rem=>if b=0 then none else some (.int k (a.tmod b))
 |.eql=>some (.bool (a==b))
 |.neq=>some (.bool (a != b))
 |.lss=>some (.bool (a<b))
 |.leq=>some (.bool (a≤b))
 |.gtr=>some (.bool (a>b))
 |.geq=>some (.bool (a ≥ b))
 |_=>none
def DC(op:BinOp)(x y:ByteArray):Option Value :=
 match op with
 |.add=>if ((x.size+y.size:Nat):Int)>IntKind.i64.max then none else some (.string (x++y))
 |.eql=>some (.bool (x.toList==y.toList))
 |.neq=>some (.bool !(x.toList==y.toList))
 |.lss=>some (.bool (mD x.toList y.toList))
 |.leq=>some (.bool (mD x.toList y.toList||x.toList==y.toList))
 |.gtr=>some (.bool !(mD x.toList y.toList||x.toList==y.toList))
 |.geq=>some (.bool !(mD x.toList y.toList))
 |_=>none
def iT(op:BinOp):Value→Value→Option Value
 | .int k a,.int k' b=>match op with
  |.shl=>if b<0 then none else some (.int k (DB k a b))
  |.shr=>if b<0 then none else some (.int k (kp k a b))
  |op=>if k=k' then mP op k a b else none
 |.string a,.string b=>DC op a b
 |_,_=>none
def zn:AV→Option Nat
 |.lit (.string s)=>some s.size
 |.lit (.slice none 0 0)=>some 0
 |.nils=>some 0
 |.emptyS _=>some 0
 |.list _ rows=>some rows.length
 |.listF _ rows=>some rows.length
 |.vec _ _ _ _ n=>some n
 |_=>none
theorem Sem.bu{P:Program}{t:TypeId}{d:TypeDesc}(h:P.underlying t=some d)(w:World) :
  (underlying t).run P w=.ok d w:=by simp[underlying,h]
theorem Sem.run_sizeOf{P:Program}{t:TypeId}{i:TypeInfo}(h:P.info? t=some i)(w:World):(sizeOf t).run P w=.ok i.size w:=by
 simp[sizeOf,typeInfo,h]
theorem Sem.pC{P:Program}{t:TypeId}{d:TypeDesc}(h:P.underlying t=some d)(w:World):(isAgg t).run P w=.ok (qT d) w:=by
 simp[isAgg,Sem.bu h];cases d<;>rfl
theorem mQ{P:Program}{t:TypeId}{n:Nat}{a:Bool}(h:e_ P t=some (n,a)):∃ i d,P.info? t=some i∧P.underlying t=some d∧i.size=n∧qT d=a:=by
 unfold e_ at h;split at h
 ·rename_i i d h1 k
  simp at h;exact⟨i,d,h1,k,h.1,h.2⟩
 ·cases h
theorem KN{P:Program}{t:TypeId}{f:Nat}{k:FK}(h:sL P t f=some k) :
  ∃ d fd,P.underlying t=some (.struct d)∧d[f]? = some fd∧fd.offset=k.off∧e_ P fd.type=some (k.size,k.agg):=by
 unfold sL at h;split at h
 ·rename_i d h1
  split at h
  ·rename_i fd q
   split at h
   ·rename_i n a B
    simp at h;subst h;exact⟨d,fd,h1,q,rfl,B⟩
   ·cases h
  ·cases h
 ·cases h
theorem Wf{P:Program}(op:BinOp)(t:TypeId)(x y:Value)(v:Value)(h:iT op x y=some v)(w:World):(binOp op t x y).run P w=.ok v w:=by
 unfold iT at h;split at h
 ·rename_i k a k' b
  split at h
  ·split at h
   ·cases h
   ·rename_i hb
    cases h;simp only[binOp,Op.shift,if_neg hb,DB];rfl
  ·split at h
   ·cases h
   ·rename_i hb
    cases h;simp only[binOp,Op.shift,if_neg hb,kp];rfl
  ·rename_i d q
   split at h
   ·rename_i hk
    subst hk;cases op<;>first|exact absurd rfl d|exact absurd rfl q|skip
    all_goals simp[mP]at h
    all_goals simp[binOp,Op.intArith,Op.intDiv,Op.intCmp,Op.intBits]
    all_goals first
     |exact h
     |(obtain⟨h1,B⟩:=h; simp[h1,B])
   ·cases h
 ·rename_i a b
  cases op<;>simp only[DC]at h<;>(try split at h)<;>simp at h<;>simp only[binOp,Op.stringOp]<;>first
   |(subst h; simp; done)
   |(rename_i I; subst h; rw[if_neg I]; rfl)
 ·cases h
theorem Wg{P:Program}(op:BinOp)(t:TypeId)(x y:Operand)(a b:Value)(h:∀ v,iT op a b≠some v→True)(d:(iT op a b).isSome=true)(w:World) :
  (eqGuard op t x y a b).run P w=.ok () w:=by
 unfold iT at d;split at d
 ·cases op<;>simp[eqGuard]<;>rfl
 ·cases op<;>simp[eqGuard]<;>rfl
 ·cases d
theorem Wh{E:Env}{x:AV}{c:Value}{n:Nat}(h:zn x=some n)(hr:rel E x c) :
  (∃ s,c=.string s∧s.size=n)∨∃ base cap,c=.slice base n cap:=by
 unfold zn at h;split at h
 ·simp only[rel]at hr; subst hr; simp at h; exact .inl ⟨_,rfl,h⟩
 ·simp only[rel]at hr; subst hr; simp at h; subst h; exact .inr ⟨_,_,rfl⟩
 ·simp only[rel]at hr; obtain⟨b,rfl⟩:=hr; simp at h; subst h; exact .inr ⟨_,_,rfl⟩
 ·simp only[rel]at hr; obtain⟨b,cap,rfl,_⟩:=hr; simp at h; subst h; exact .inr ⟨_,_,rfl⟩
 ·simp only[rel]at hr; obtain⟨_,b,cap,rfl,_⟩:=hr; simp at h; subst h; exact .inr ⟨_,_,rfl⟩
 ·simp only[rel,eF]at hr; obtain⟨b,cap,rfl,_⟩:=hr; simp at h; subst h; exact .inr ⟨_,_,rfl⟩
 ·simp only[rel]at hr; obtain⟨⟨b,cap,rfl,_⟩,_⟩:=hr; simp at h; subst h; exact .inr ⟨_,_,rfl⟩
 ·cases h
end Go.AL

namespace Go.AL
open Go
variable [Dr]
theorem kU(b o n:Nat):(Addr.mk b o none).add n=⟨b,o+n,none⟩:=by
 unfold Addr.add;split
 ·rename_i h; simp[h]
 ·rfl
theorem Wi{E:Env}{as:List AV}{b o:Nat}(h:cw E as b o){i:Nat}{a:AV}(hi:as[i]? = some a) :
  ∃ v,E.w.cell? ⟨b,o+i,none⟩=some v∧dJ v=true∧rel E a v:=jv.1 h i a hi
theorem sN{E:Env}{as:List AV}{b o:Nat}(h:cw E as b o)(n:Nat):cw E (as.drop n) b (o+n):=by
 rw[jv]at *;intro i a hi;rw[qG]at hi;obtain⟨v,h1,d,k⟩:=h (n+i) a hi;exact⟨v,by rw[qF]; exact h1,d,k⟩
theorem zo{E:Env}{as:List AV}{b o:Nat}(h:cw E as b o)(n:Nat):cw E (as.take n) b o:=by
 rw[jv]at *;intro i a hi;rw[o_]at hi;split at hi
 ·exact h i a hi
 ·cases hi
theorem vC:∀(as:List AV) (n:Nat),AV.br as=true→AV.br (as.drop n)=true
 | [],n,_=>by simp[AV.br]
 |a::as,0,h=>by simpa using h
 | a::as,n+1,h=>by
  simp only[AV.br,az]at h;simpa using vC as n h.2
theorem zp:∀(as:List AV) (n:Nat),AV.br as=true→AV.br (as.take n)=true
 | [],n,_=>by simp[AV.br]
 |a::as,0,_=>by simp[AV.br]
 | a::as,n+1,h=>by
  simp only[AV.br,az]at h;simp only[C3,AV.br,az];exact⟨h.1,zp as n h.2⟩
theorem vD{E:Env}:∀{as:List AV} {b o:Nat},cw E as b o →
  ∃ vs:List Value,af E as vs∧(∀ x∈vs,dJ x=true)∧∀ j v,vs[j]? = some v→E.w.cell? ⟨b,o+j,none⟩=some v
 | [],b,o,_=>⟨[],by simp[af]⟩
 | a::as,b,o,h=>by
  simp only[cw]at h;obtain⟨⟨v,h1,q,B⟩,I⟩:=h;obtain⟨vs,g1,g2,g3⟩:=vD I;refine⟨v::vs,by simp only[af]; exact⟨B,g1⟩,?_,?_⟩
  ·intro x d
   rcases bN.1 d with rfl|d
   ·exact q
   ·exact g2 x d
  ·intro j x k
   cases j with
   |zero=>simp at k; subst k; exact h1
   |succ j=>have:=g3 j x (by simpa using k); rwa [qF,yK 1 j]at this
theorem DD{P:Program}{E:Env}{cells:List AV}{b o n:Nat}{agg:Bool}{t:TypeId}{v:AV}(B:e_ P t=some (n,agg))
  (k:gf agg n cells=some v) (hr:cw E cells b o):∃ c,(loadVar t ⟨b,o,none⟩).run P E.w=.ok c E.w∧rel E v c:=by
 obtain⟨i,d,hi,q,I,ha⟩:=mQ B;unfold gf at k;cases agg with
 | true =>
  simp only[if_true]at k;split at k
  ·rename_i hle
   cases k;obtain⟨vs,g1,g2,g3⟩:=vD (zo hr n);have J:vs.length=n:=by rw[←gG g1]; simp[hle]
   refine⟨.agg vs.toArray,?_,?_⟩
   ·simp only [loadVar, bY, Sem.pC q, b_, ha, if_true, Sem.run_sizeOf hi, I]
    rw[←J,run_loadCells_list (w:=E.w) ⟨b,o,none⟩ vs (fun j v M=>by rw[kU]; exact g3 j v M)];rfl
   ·simp only [rel]
    exact⟨vs.toArray,rfl,by simpa using g2,by simpa using g1⟩
  ·cases k
 | false =>
  simp only[lG,if_false]at k;obtain⟨x,h1,_,N⟩:=Wi hr k;refine⟨x,?_,N⟩;simp only[loadVar,bY,Sem.pC q,b_,ha,lG,if_false,run_load];rw[show (⟨b,o,none⟩:Addr)=⟨b,o+0,none⟩ from rfl,h1]
def g_(P:Program)(t:TypeId)(x:AV)(H:List ad):Option AV :=
 match e_ P t with
 | some (n,agg) =>
  match x with
  |.cptr cells=>gf agg n cells
  | .ptr id ae w row col=>match H[id]? with
   |some (.box cells)=>if ae=0∧row=0 then gf agg n (cells.drop col) else none
   |some (.vec k v rows)=>if ae=v∧k=w then (match rows[row]? with|some r=>gf agg n (r.drop col)|none=>none) else none
   |_=>none
  |_=>none
 |none=>none
theorem mR{E:Env}{k:Nat}{rs:List (List AV)}{b o:Nat}(h:cL E k rs b o){i:Nat}{r:List AV}(hi:rs[i]? = some r) :
  r.length=k∧cw E r b (o+i*k):=mO.1 h i r hi
theorem KO{P:Program}{E:Env}(HE:aq E){t:TypeId}{x v:AV}{c:Value}(d:g_ P t x E.H=some v)(hr:rel E x c) :
  ∃ u,(C4 t c).run P E.w=.ok u E.w∧rel E v u:=by
 unfold g_ at d;split at d
 case h_2=>cases d
 rename_i n agg N;split at d
 ·simp only [rel] at hr
  obtain⟨_,b,o,rfl,_,V⟩:=hr;obtain⟨u,B,I⟩:=DD N d V;exact⟨u,by simpa[C4,pb]using B,I⟩
 ·rename_i id ae w row col
  simp only[rel]at hr;split at d
  ·rename_i cells hid
   split at d
   ·rename_i M
    obtain⟨rfl,rfl⟩:=M;obtain⟨b,m,O,rfl⟩:=hr.2.2 ⟨_,hid,rfl⟩;obtain⟨W,m',q,_,J⟩:=HE.obj id _ hid;rw[O]at q;cases q;have:=sN J col;simp only[di]at this;obtain⟨u,B,I⟩:=DD N d this;exact⟨u,by simpa[C4,pb]using B,I⟩
   ·cases d
  ·rename_i k v' rows hid
   split at d
   ·rename_i M
    obtain⟨rfl,rfl⟩:=M;split at d
    ·rename_i r U
     obtain⟨b,m,O,rfl⟩:=hr.2.2 ⟨_,hid,rfl⟩;rcases HE.obj id _ hid with⟨q,J⟩|⟨W,m',q,_,_,_,J⟩
     ·subst J; simp at U
     ·rw [O] at q
      cases q;have:=sN (mR J U).2 col;simp only[di]at this;obtain⟨u,B,I⟩:=DD N d this;exact⟨u,by simpa[C4,pb]using B,I⟩
    ·cases d
   ·cases d
  ·cases d
 ·cases d
theorem Wj{P:Program}{E:Env}{t:TypeId}{f:Nat}{k:FK}{x v:AV}{c:Value}(hk:sL P t f=some k)
  (q:DA k x=some v) (hr:rel E x c):∃ u,(Vv t c f).run P E.w=.ok u E.w∧rel E v u:=by
 obtain⟨fs,fd,h1,J,O,U⟩:=KN hk;obtain⟨i,d,hi,hd,V,ha⟩:=mQ U;unfold DA at q;split at q
 ·cases q
 rename_i M;have I:∀ b o w,(fieldPlace ⟨b,o,none⟩ fd).run P w=.ok ⟨b,o+k.off,none⟩ w:=by
  intro b o w;simp only[fieldPlace,bY,Sem.run_sizeOf hi,b_,V,if_neg M,fN,kU,O]
 split at q
 ·cases q
  simp only[rel]at hr;obtain⟨W,b,o,rfl,bF,N⟩:=hr;refine⟨.pointer (some ⟨b,o+k.off,none⟩),?_,?_⟩
  ·simp[Vv,Sem.bu h1,J,pb,I]
  ·simp only [rel]
   exact⟨vC _ _ W,b,o+k.off,rfl,bF,sN N _⟩
 ·cases q
  simp only[rel]at hr;rename_i id ae w row col;obtain⟨⟨b,o,rfl⟩,h5,h6⟩:=hr;refine⟨.pointer (some ⟨b,o+k.off,none⟩),?_,?_⟩
  ·simp[Vv,Sem.bu h1,J,pb,I]
  ·simp only [rel]
   refine⟨⟨_,_,rfl⟩,h5,fun hl=>?_⟩;obtain⟨b',n',e1,B⟩:=h6 hl;simp only[alG,aY,J_]at B;exact⟨b',n',e1,by simp[B.1,B.2.1,qF]⟩
 ·cases q
theorem hG{P:Program}{t e sz bT:Nat}(h:cg P t=.slice e sz bT):P.underlying t=some (.slice e)∧∃ i,P.info? e=some i∧i.size=sz∧i.bytes=bT:=by
 unfold cg at h;split at h
 ·rename_i e' h1
  split at h
  ·rename_i i d
   cases h;exact⟨h1,i,d,rfl,rfl⟩
  ·cases h
 ·split at h<;>cases h
 all_goals cases h
theorem zq{P:Program}{t n e sz:Nat}{a:Bool}(h:cg P t=.array n e sz a):P.underlying t=some (.array n e)∧e_ P e=some (sz,a):=by
 unfold cg at h;split at h
 ·split at h<;>cases h
 ·rename_i k e' h1
  split at h
  ·rename_i m q d
   cases h;exact⟨h1,d⟩
  ·cases h
 all_goals cases h
theorem qV{P:Program}{t:Nat}(h:cg P t=.str):P.underlying t=some .string:=by
 unfold cg at h;split at h
 ·split at h<;>cases h
 ·split at h<;>cases h
 ·rename_i h1; exact h1
 all_goals cases h
theorem Wk{P:Program}{E:Env}(HE:aq E){t:TypeId}{x i v:AV}{c d:Value}
  (q:kn (cg P t) x i=some v) (B:rel E x c) (hi:rel E i d):∃ u,(yN t c d).run P E.w=.ok u E.w∧rel E v u:=by
 unfold kn at q;split at q
 case h_2=>cases q
 rename_i k n;simp only[rel]at hi;subst hi;split at q
 ·rename_i e sz bT w rows hk
  split at q
  ·rename_i I
   obtain⟨rfl,h0,h1⟩:=I;obtain⟨hu,ii,M,N,_⟩:=hG hk;cases J:rows[n.toNat]? with
   |none=>rw[J]at q; cases q
   | some r =>
    rw[J]at q;simp at q;subst q;simp only[rel]at B;obtain⟨V,base,cap,rfl,hle,hh⟩:=B;rcases hh with rfl|⟨b,o,rfl,bF,hr⟩
    ·simp at J
    ·obtain ⟨g1, g2⟩ := mR hr J
     refine⟨.pointer (some ⟨b,o+n.toNat*w,none⟩),?_,?_⟩
     ·simp[yN,asIntOf,Sem.bu hu,h0,h1,Sem.run_sizeOf M,N,kU]
     ·simp only [rel]
      exact⟨V r (eZ J),b,_,rfl,bF,g2⟩
  ·cases q
 ·rename_i e sz bT ks rows hk
  split at q
  ·rename_i I
   obtain⟨rfl,h0,h1⟩:=I;cases q;obtain⟨hu,ii,M,N,_⟩:=hG hk;have B:=jx.1 B;simp only[rel,cD]at B;obtain⟨V,base,cap,rfl,hle,hh⟩:=B;have hlt:n.toNat<rows.length:=by omega
   have J:(rows.map (aH ks))[n.toNat]? = some (aH ks (rows.getD n.toNat [])):=by
    rw[bU,bz,bf hlt];rfl
   rcases hh with hn|⟨b,o,rfl,bF,hr⟩
   ·rw[hn]at J; simp at J
   ·obtain ⟨g1, g2⟩ := mR hr J
    refine⟨.pointer (some ⟨b,o+n.toNat*ks.length,none⟩),?_,?_⟩
    ·simp[yN,asIntOf,Sem.bu hu,h0,h1,Sem.run_sizeOf M,N,kU]
    ·simp only [rel]
     exact⟨gb _ _,b,_,rfl,bF,g2⟩
  ·cases q
 ·rename_i e sz bT w id ae off m hk
  split at q
  ·rename_i I
   obtain⟨rfl,h0,h1⟩:=I;cases q;obtain⟨hu,ii,M,N,_⟩:=hG hk;simp only[rel]at B;obtain⟨⟨base,cap,rfl,hle,hb⟩,W,O⟩:=B;obtain⟨b,o,rfl⟩:=hb (by omega);refine⟨.pointer (some ⟨b,o+n.toNat*w,none⟩),?_,?_⟩
   ·simp[yN,asIntOf,Sem.bu hu,h0,h1,Sem.run_sizeOf M,N,kU]
   ·simp only [rel]
    refine⟨⟨_,_,rfl⟩,W,fun hl=>?_⟩;obtain⟨g1,g2⟩:=O hl;obtain⟨a,ha,hav⟩:=W;cases U:E.loc[id]? with
    | none =>
     have:=aK ha;rw[←HE.len]at this;rw[bf this]at U;cases U
    | some l =>
     cases l with
     |none=>have:=(g1 U).1; omega
     | some bm =>
      obtain⟨b',m'⟩:=bm;obtain⟨q1,o',q2,q3⟩:=g2 b' m' U;simp only[kQ,aY,J_]at q3;refine⟨b',m',rfl,?_⟩;rw[q3.1.1,q3.1.2.1,q2 (by omega),f_];rfl
  ·cases q
 ·rename_i m e sz a id ae w row col hk
  split at q
  ·rename_i I
   cases q;obtain⟨hu,hvk⟩:=zq hk;obtain⟨ii,dd,M,N,h4,_⟩:=mQ hvk;simp only[rel]at B;obtain⟨⟨b,o,rfl⟩,W,O⟩:=B;refine⟨.pointer (some ⟨b,o+n.toNat*sz,none⟩),?_,?_⟩
   ·simp[yN,asIntOf,Sem.bu hu,I.1,I.2,Sem.run_sizeOf M,h4,kU,pb]
   ·simp only [rel]
    refine⟨⟨_,_,rfl⟩,W,fun hl=>?_⟩;obtain⟨b',n',e1,e2⟩:=O hl;simp only[alG,aY,J_]at e2;exact⟨b',n',e1,by simp[e2.1,e2.2.1,qF]⟩
  ·cases q
 ·rename_i m e sz a cells hk
  split at q
  ·rename_i I
   cases q;obtain⟨hu,hvk⟩:=zq hk;obtain⟨ii,dd,M,N,h4,_⟩:=mQ hvk;simp only[rel]at B;obtain⟨V,b,o,rfl,bF,O⟩:=B;refine⟨.pointer (some ⟨b,o+n.toNat*sz,none⟩),?_,?_⟩
   ·simp[yN,asIntOf,Sem.bu hu,I.1,I.2,Sem.run_sizeOf M,h4,kU,pb]
   ·simp only [rel]
    exact⟨zp _ _ (vC _ _ V),b,_,rfl,bF,zo (sN O _) _⟩
  ·cases q
 ·cases q
def kV:AV→Option Int
 |.lit (.int _ n)=>some n
 |_=>none
def gI(len:Nat)(lo hi:Option AV):Option (Nat × Nat) :=
 match (match lo with|none=>some 0|some x=>kV x),(match hi with|none=>some (len:Int)|some x=>kV x)with
 |some l,some h=>if 0≤l∧l≤h∧h≤len then some (l.toNat,h.toNat) else none
 |_,_=>none
theorem sO{E:Env}{x:AV}{c:Value}{n:Int}(h:kV x=some n)(hr:rel E x c):∃ k,c=.int k n:=by
 unfold kV at h;split at h
 ·cases h
  simp only[rel]at hr;exact⟨_,hr⟩
 ·cases h
def KP:List AV→Option (List G)
 | [.lit (.string s)]=>some [.s s]
 |_=>none
def sP:List (List AV)→Option (List (List G))
 | []=>some []
 | r::rs=>match KP r,sP rs with
  |some g,some gs=>some (g::gs)
  |_,_=>none
theorem DE:∀{rows:List (List AV)} {gs:List (List G)},sP rows=some gs→gs.map (aH [.str])=rows
 | [],gs,h=>by
  simp only[sP,aY]at h;subst h;rfl
 | r::rs,gs,h=>by
  simp only[sP]at h;split at h
  ·rename_i g k h1 d
   cases h;rw[dj,DE d];unfold KP at h1;split at h1
   ·cases h1; rfl
   ·cases h1
  ·cases h
def zt(w:Nat)(rows:List (List AV))(l n:Nat):AV:=match w,sP rows with
 |1,some gs=>.listF [.str] ((gs.drop l).take n)
 |_,_=>.list w ((rows.drop l).take n)
theorem Wl{E:Env}{w l n:Nat}{rows:List (List AV)}{c:Value} (h:rel E (.list w ((rows.drop l).take n)) c):rel E (zt w rows l n) c:=by
 unfold zt;split
 ·rename_i gs hg
  rw[jx,Vw,J',DE hg];exact h
 ·exact h
def lS(P:Program)(t:TypeId)(x:AV)(lo hi mx:Option AV):Option AV :=
 match cg P t,x with
 | .str,.lit (.string s)=>match mx,gI s.size lo hi with
  |none,some (l,h)=>some (.lit (.string (s.extract l h)))
  |_,_=>none
 | .slice _ sz _,.list w rows=>match mx with
  | none=>match gI rows.length lo hi with
   |some (l,h)=>if w=sz then some (zt w rows l (h-l)) else none
   |none=>none
  |some m=>if hi.isSome∧gI rows.length lo hi=some (0,0)∧kV m=some 0 then some .nils else none
 | .slice _ sz _,.listF ks rows=>match mx with
  | none=>match gI rows.length lo hi with
   |some (l,h)=>if ks.length=sz then some (.listF ks ((rows.drop l).take (h-l))) else none
   |none=>none
  |some m=>if hi.isSome∧gI rows.length lo hi=some (0,0)∧kV m=some 0 then some .nils else none
 | .slice _ sz _,.vec w id ae off n=>match mx with
  | none=>match gI n lo hi with
   |some (l,h)=>if w=sz then some (.vec w id ae (off+l) (h-l)) else none
   |none=>none
  |some m=>if hi.isSome∧gI n lo hi=some (0,0)∧kV m=some 0 then some .nils else none
 | .slice _ _ _,.nils=>match mx with
  |none=>if (gI 0 lo hi).isSome then some .nils else none
  |some _=>none
 | .slice _ _ _,.lit (.slice none 0 0)=>match mx with
  |none=>if (gI 0 lo hi).isSome then some (.lit (.slice none 0 0)) else none
  |some m=>if hi.isSome∧gI 0 lo hi=some (0,0)∧kV m=some 0 then some (.lit (.slice none 0 0)) else none
 |_,_=>none
theorem sQ{P:Program}{E:Env}{len cap:Nat}{lo hi:Option AV}{clo B:Option Value}{l h:Nat}(isSlice:Bool)(hb:gI len lo hi=some (l,h))(hle:len≤cap)
  (h1:∀ x,lo=some x→∃ c,clo=some c∧rel E x c) (J:lo=none→clo=none)
  (O:∀ x,hi=some x→∃ c,B=some c∧rel E x c) (N:hi=none→B=none) (w:World) :
  (sw isSlice len cap clo B none).run P w=.ok (l,h,cap) w∧l≤h∧h≤len:=by
 unfold gI at hb;split at hb
 case h_2=>cases hb
 rename_i a b q I;split at hb
 case isFalse=>cases hb
 rename_i d;simp only[aY,a8]at hb;obtain⟨rfl,rfl⟩:=hb;obtain⟨M,c1,c2⟩:=d;refine⟨?_,by omega,by omega⟩;cases hi with
 | none =>
  rw[N rfl];simp at I;subst I;cases lo with
  | none =>
   rw[J rfl];simp at q;subst q;simp[sw]
  | some x =>
   obtain⟨c,rfl,d⟩:=h1 x rfl;obtain⟨k,rfl⟩:=sO q d;simp[sw,C5,asIntOf,M,c1]
 | some z =>
  obtain⟨c,rfl,d⟩:=O z rfl;obtain⟨k,rfl⟩:=sO I d;have g1:b≤(cap:Int):=by omega
  have g2:0≤b:=by omega
  cases lo with
  | none =>
   rw[J rfl];simp at q;subst q;simp[sw,C5,asIntOf,g1,g2]
  | some x =>
   obtain⟨c,rfl,d⟩:=h1 x rfl;obtain⟨k',rfl⟩:=sO q d;have g4:¬ (max b 0<a):=by omega
   simp[sw,C5,asIntOf,g1,g2,M,g4]
theorem KQ{E:Env}{k:Nat}{rows:List (List AV)}{b o:Nat}(h:cL E k rows b o)(l n:Nat) :
  cL E k ((rows.drop l).take n) b (o+l*k):=by
 rw[mO]at *;intro i r hi;rw[o_]at hi;split at hi
 ·rw [qG] at hi
  have:=h (l+i) r hi
  rwa [f_,←qF]at this
 ·cases hi
def pD(E:Env):Option AV→Option Value→Prop
 |none,none=>True
 |some x,some c=>rel E x c
 |_,_=>False
theorem DF{E:Env}{lo:Option AV}{clo:Option Value}(h:pD E lo clo):(∀ x,lo=some x→∃ c,clo=some c∧rel E x c)∧(lo=none→clo=none):=by
 cases lo<;>cases clo<;>simp_all[pD]
theorem KR{E:Env}{w l h cap:Nat}{rows:List (List AV)}{base:Option Addr}(d:ft rows)(hle:rows.length≤cap)(h1:l≤h)(k:h≤rows.length)
  (q:rows=[]∨∃ b o,base=some ⟨b,o,none⟩∧E.ju b∧cL E w rows b o) :
  rel E (.list w ((rows.drop l).take (h-l))) (.slice (if cap=l then base else base.map (·.add (l*w))) (h-l) (cap-l)):=by
 simp only[rel];have hlen:((rows.drop l).take (h-l)).length=h-l:=by simp; omega
 refine⟨fun r hr=>d r (yO (vj hr)),_,cap-l,by rw[hlen],by rw[hlen]; omega,?_⟩;rcases Nat.eq_or_lt_of_le h1 with rfl|B
 ·left; simp
 ·right
  rcases q with rfl|⟨b,o,rfl,bF,hr⟩
  ·simp at k; omega
  ·refine ⟨b, o + l * w, ?_, bF, KQ hr l (h - l)⟩
   rw[if_neg (by omega)];simp[kU]
theorem Wm{E:Env}{w id ae off n l h:Nat}{base:Option Addr}{cap:Nat}(hr:rel E (.vec w id ae off n) (.slice base n cap))(h1:l≤h)(h2:h≤n) :
  rel E (.vec w id ae (off+l) (h-l)) (.slice (if cap=l then base else base.map (·.add (l*w))) (h-l) (cap-l)):=by
 simp only[rel]at hr⊢;obtain⟨⟨B,W,e,hle,hb⟩,J,M⟩:=hr;simp only[kQ]at e;obtain⟨rfl,_,rfl⟩:=e;refine⟨⟨_,_,rfl,by omega,fun hp=>?_⟩,J,fun N=>?_⟩
 ·obtain ⟨b, o, rfl⟩ := hb (by omega)
  rw[if_neg (by omega)];exact⟨b,o+l*w,by simp[kU]⟩
 ·obtain ⟨g1, g2⟩ := M N
  refine⟨fun d=>?_,fun b m d=>?_⟩
  ·obtain ⟨rfl, rfl, B, e⟩ := g1 d
   simp only[kQ]at e;refine⟨by omega,by omega,?_⟩;have O:h-l=0:=by omega
   have U:cap-l=0:=by omega
   rw[O,U];exact⟨_,rfl⟩
  ·obtain ⟨q1, o, V, k⟩ := g2 b m d
   simp only[kQ]at k;obtain⟨rfl,_,rfl⟩:=k;refine⟨by omega,?_⟩;by_cases q:m-off=l
   ·rw [if_pos q]
    exact⟨o,fun I=>by omega,by rw[alH]⟩
   ·rw [if_neg q]
    refine⟨o+l*w,fun I=>?_,by simp[kU,alH]⟩;rw[V (by omega),f_]
theorem zu{P:Program}{E:Env}{len:Nat}{lo hi:Option AV}{m:AV}{clo q:Option Value}{B:Value}
  (hb:gI len lo hi=some (0,0)) (N:hi.isSome=true) (hm:kV m=some 0)
  (h1:∀ x,lo=some x→∃ c,clo=some c∧rel E x c) (I:lo=none→clo=none)
  (O:∀ x,hi=some x→∃ c,q=some c∧rel E x c) (J:rel E m B) (cap:Nat) (w:World) :
  (sw true len cap clo q (some B)).run P w=.ok (0,0,0) w:=by
 obtain⟨k,rfl⟩:=sO hm J;obtain⟨z,rfl⟩:=qH.1 N;obtain⟨c,rfl,d⟩:=O z rfl;unfold gI at hb;split at hb
 case h_2=>cases hb
 rename_i a b U V;split at hb
 case isFalse=>cases hb
 rename_i W;simp only[aY,a8]at hb;obtain⟨k',rfl⟩:=sO V d;have ha:a=0:=by omega
 have M:b=0:=by omega
 subst ha; subst M;cases lo with
 | none =>
  rw[I rfl];simp[sw,C5,asIntOf]
 | some x =>
  obtain⟨c,rfl,d⟩:=h1 x rfl;obtain⟨k'',rfl⟩:=sO U d;simp[sw,C5,asIntOf]
theorem Wn{P:Program}{E:Env}{t:TypeId}{x v:AV}{lo hi mx:Option AV}{c:Value}{clo W cmx:Option Value}
  (d:lS P t x lo hi mx=some v) (q:rel E x c) (hlo:pD E lo clo) (hhi:pD E hi W) (hmx:pD E mx cmx) :
  ∃ u,(nR t c clo W cmx).run P E.w=.ok u E.w∧rel E v u:=by
 obtain⟨l1,B⟩:=DF hlo;obtain⟨l2,I⟩:=DF hhi;obtain⟨N,J⟩:=DF hmx;unfold lS at d;split at d
 ·rename_i s hk
  have hu:=qV hk;simp only[rel]at q;subst q;split at d
  ·rename_i l h hb
   cases d;rw[J rfl];obtain⟨g1,g2,g3⟩:=sQ (P:=P) (E:=E) (cap:=s.size) false hb (aD _) l1 B l2 I E.w;refine⟨.string (s.extract l h),?_,by simp[rel]⟩;simp[nR,pc,Sem.bu hu,g1]
  ·cases d
 ·rename_i e sz bT w rows hk
  obtain⟨hu,ii,i1,i2,_⟩:=hG hk;have M:=q;simp only[rel]at q;obtain⟨O,base,cap,rfl,hle,U⟩:=q;split at d
  ·split at d
   ·rename_i l h hb
    split at d
    ·rename_i hw
     subst hw;cases d;rw[J rfl];obtain⟨g1,g2,g3⟩:=sQ (P:=P) (E:=E) (cap:=cap) true hb hle l1 B l2 I E.w;refine⟨_,?_,Wl (KR (cap:=cap) O hle g2 g3 U)⟩;simp[nR,pc,Sem.bu hu,g1,Sem.run_sizeOf i1,i2]
    ·cases d
   ·cases d
  ·rename_i m
   split at d
   ·rename_i k
    cases d;obtain⟨V,rfl,hm⟩:=N m rfl;have g:=zu (P:=P) k.2.1 k.1 k.2.2 l1 B l2 hm cap E.w;refine⟨.slice base 0 0,?_,by simp only[rel]; exact⟨base,rfl⟩⟩;simp[nR,pc,Sem.bu hu,g,Sem.run_sizeOf i1,i2]
   ·cases d
 ·rename_i e sz bT ks rows hk
  obtain⟨hu,ii,i1,i2,_⟩:=hG hk;have M:=jx.1 q;simp only[rel]at M;obtain⟨O,base,cap,rfl,hle,U⟩:=M;simp only[cD]at hle q⊢;split at d
  ·split at d
   ·rename_i l h hb
    split at d
    ·rename_i hw
     subst hw;cases d;rw[J rfl];obtain⟨g1,g2,g3⟩:=sQ (P:=P) (E:=E) (cap:=cap) true hb hle l1 B l2 I E.w;have:=KR (cap:=cap) O (by simpa using hle) g2 (by simpa using g3) U;have e:((rows.map (aH ks)).drop l).take (h-l)=((rows.drop l).take (h-l)).map (aH ks):=by rw[Vw,J']
     rw[e]at this;refine⟨_,?_,jx.2 this⟩;simp[nR,pc,Sem.bu hu,g1,Sem.run_sizeOf i1,i2]
    ·cases d
   ·cases d
  ·rename_i m
   split at d
   ·rename_i k
    cases d;obtain⟨V,rfl,hm⟩:=N m rfl;have g:=zu (P:=P) k.2.1 k.1 k.2.2 l1 B l2 hm cap E.w;refine⟨.slice base 0 0,?_,by simp only[rel]; exact⟨base,rfl⟩⟩;simp[nR,pc,Sem.bu hu,g,Sem.run_sizeOf i1,i2]
   ·cases d
 ·rename_i e sz bT w id ae off n hk
  obtain⟨hu,ii,i1,i2,_⟩:=hG hk;have M:=q;simp only[rel]at q;obtain⟨⟨base,cap,rfl,hle,_⟩,_,_⟩:=q;split at d
  ·split at d
   ·rename_i l h hb
    split at d
    ·rename_i hw
     subst hw;cases d;rw[J rfl];obtain⟨g1,g2,g3⟩:=sQ (P:=P) (E:=E) (cap:=cap) true hb hle l1 B l2 I E.w;refine⟨_,?_,Wm M g2 g3⟩;simp[nR,pc,Sem.bu hu,g1,Sem.run_sizeOf i1,i2]
    ·cases d
   ·cases d
  ·rename_i m
   split at d
   ·rename_i k
    cases d;obtain⟨V,rfl,hm⟩:=N m rfl;have g:=zu (P:=P) k.2.1 k.1 k.2.2 l1 B l2 hm cap E.w;refine⟨.slice base 0 0,?_,by simp only[rel]; exact⟨base,rfl⟩⟩;simp[nR,pc,Sem.bu hu,g,Sem.run_sizeOf i1,i2]
   ·cases d
 ·rename_i e sz bT hk
  obtain⟨hu,ii,i1,i2,_⟩:=hG hk;simp only[rel]at q;obtain⟨base,rfl⟩:=q;split at d
  ·split at d
   ·rename_i hb
    cases d;obtain⟨⟨l,h⟩,hb⟩:=qH.1 hb;rw[J rfl];obtain⟨g1,g2,g3⟩:=sQ (P:=P) (E:=E) (cap:=0) true hb (aD _) l1 B l2 I E.w;have:h=0:=by omega
    subst this;have:l=0:=by omega
    subst this;refine⟨.slice base 0 0,?_,by simp only[rel]; exact⟨base,rfl⟩⟩;simp[nR,pc,Sem.bu hu,g1,Sem.run_sizeOf i1,i2]
   ·cases d
  ·cases d
 ·rename_i e sz bT hk
  obtain⟨hu,ii,i1,i2,_⟩:=hG hk;simp only[rel]at q;subst q;split at d
  ·split at d
   ·rename_i hb
    cases d;obtain⟨⟨l,h⟩,hb⟩:=qH.1 hb;rw[J rfl];obtain⟨g1,g2,g3⟩:=sQ (P:=P) (E:=E) (cap:=0) true hb (aD _) l1 B l2 I E.w;have:h=0:=by omega
    subst this;have:l=0:=by omega
    subst this;refine⟨.slice none 0 0,?_,by simp only[rel]⟩;simp[nR,pc,Sem.bu hu,g1,Sem.run_sizeOf i1,i2]
   ·cases d
  ·rename_i m
   split at d
   ·rename_i k
    cases d;obtain⟨V,rfl,hm⟩:=N m rfl;have g:=zu (P:=P) k.2.1 k.1 k.2.2 l1 B l2 hm 0 E.w;refine⟨.slice none 0 0,?_,by simp only[rel]⟩;simp[nR,pc,Sem.bu hu,g,Sem.run_sizeOf i1,i2]
   ·cases d
 ·cases d
end Go.AL

namespace Go.AL
open Go
variable [Dr]
def kindOk:SK→Value→Bool
 |.int k,.int k' _=>k=k'
 |.str,.string _=>true
 |.bool,.bool _=>true
 |_,_=>false
def pE:Value→Value→Bool
 |.int _ a,.int _ b=>a==b
 |.string a,.string b=>a.toList==b.toList
 |.bool a,.bool b=>a==b
 |_,_=>false
def dQ:List Value→List Value→Bool
 | [],[]=>true
 |a::as,b::d=>pE a b&&dQ as d
 |_,_=>false
def cM:List SK→List Value→Bool
 | [],[]=>true
 |k::ks,v::vs=>kindOk k v&&cM ks vs
 |_,_=>false
def sR(P:Program)(f:TypeId→Option (List SK)):List Field→Nat→Option (List SK)
 | [],_=>some []
 | x::d,off=>if x.name = "_" ∨ x.offset≠off then none else
  match f x.type,e_ P x.type with
  |some ks,some (n,_)=>if n=ks.length then (match sR P f d (off+n)with|some l=>some (ks++l)|none=>none) else none
  |_,_=>none
def flatK(P:Program):Nat→TypeId→Option (List SK)
 |0,_=>none
 | d+1,t=>match P.underlying t with
  |some (.int k)=>some [.int k]
  |some .string=>some [.str]
  |some .bool=>some [.bool]
  |some (.struct q)=>if P.stoodInHeld t then none else sR P (fun t=>flatK P d t) q.toList 0
  |_=>none
abbrev vE(P:Program)(d:Nat)(k:List Field)(off:Nat):Option (List SK):=sR P (fun t=>flatK P d t) k off
theorem KS:∀(a b c d:List Value),a.length=c.length→dQ (a++b) (c++d)=(dQ a c&&dQ b d)
 | [],b,[],d,_=>by simp[dQ]
 | x::a,b,y::c,d,h=>by
  simp only[lH,dQ,KS a b c d (by simpa using h),alI]
 | [],_,_::_,_,h=>by simp at h
 |_::_,_,[],_,h=>by simp at h
theorem sS:∀{ks:List SK} {vs:List Value},cM ks vs=true→ks.length=vs.length
 | [],[],_=>rfl
 |_::ks,_::vs,h=>by simp only[cM,az]at h; simp[sS h.2]
 | [],_::_,h=>by simp[cM]at h
 |_::_,[],h=>by simp[cM]at h
theorem zw:∀{a b:List SK} {vs:List Value},cM (a++b) vs=true→cM a (vs.take a.length)=true∧cM b (vs.drop a.length)=true
 | [],b,vs,h=>by simpa[cM]using h
 |k::a,b,[],h=>by simp[cM]at h
 | k::a,b,v::vs,h=>by
  simp only[lH,cM,az]at h;have:=zw h.2;simp only[cn,C3,cM,az,alJ];exact⟨⟨h.1,this.1⟩,this.2⟩
def isVal(P:Program)(t:TypeId)(x:Value)(vs:List Value):Prop :=
 match P.underlying t with
 |some (.struct _)=>∃ a:Array Value,x=.agg a∧a.toList=vs
 |_=>vs=[x]
theorem DG{P:Program}{t:TypeId}{n:Nat}{agg:Bool}{ks:List SK}{d:Nat}(B:e_ P t=some (n,agg))(hk:flatK P d t=some ks)(hn:n=ks.length)
  (cs:Array Value) (off:Nat) (bF:cM ks ((cs.toList.drop off).take n)=true) (w:World) :
  ∃ x,(part t cs off).run P w=.ok x w∧isVal P t x ((cs.toList.drop off).take n):=by
 obtain⟨i,d',h1,q,I,J⟩:=mQ B;cases d with
 |zero=>simp[flatK]at hk
 | succ d =>
  unfold flatK at hk;rw[q]at hk;have hlen:=sS bF;cases d' with
  | struct M =>
   refine⟨.agg (cs.extract off (off+n)),?_,?_⟩
   ·simp[part,Sem.pC q,qT,Sem.run_sizeOf h1,I]
   ·simp only [isVal, q]
    refine⟨_,rfl,?_⟩;simp
  | int k =>
   simp at hk;subst hk;simp at hn;subst hn;have:off<cs.size:=by simp at hlen; omega
   refine⟨cs[off],?_,?_⟩
   ·simp[part,Sem.pC q,qT,this]
   ·simp[isVal,q,Vx,this]
  | string =>
   simp at hk;subst hk;simp at hn;subst hn;have:off<cs.size:=by simp at hlen; omega
   refine⟨cs[off],?_,?_⟩
   ·simp[part,Sem.pC q,qT,this]
   ·simp[isVal,q,Vx,this]
  | bool =>
   simp at hk;subst hk;simp at hn;subst hn;have:off<cs.size:=by simp at hlen; omega
   refine⟨cs[off],?_,?_⟩
   ·simp[part,Sem.pC q,qT,this]
   ·simp[isVal,q,Vx,this]
  |_=>simp at hk
theorem Wo{P:Program}{t:TypeId}{d:Array Field}(h:P.underlying t=some (.struct d)):P.underlying t=some (.struct (P.fieldsOf t)):=by
 simp[alK,h]
mutual
theorem DH{P:Program}:∀(d:Nat) (t:TypeId) (ks:List SK),flatK P d t=some ks→∀(D:Nat),d≤D→∀(x y:Value) (vs us:List Value),
  isVal P t x vs→isVal P t y us→cM ks vs=true→cM ks us=true→∀ w,(kh D t x y).run P w=.ok (dQ vs us) w
 |0,_,_,hk=>by simp[flatK]at hk
 | d+1,t,ks,hk=>by
  intro D hD x y vs us I J q B w;obtain⟨D,rfl⟩:∃ N,D=N+1:=⟨D-1,by omega⟩
  unfold flatK at hk;cases hu:P.underlying t with
  |none=>rw[hu]at hk; cases hk
  | some O =>
   rw[hu]at hk;cases O with
   | struct M =>
    simp only[]at hk;split at hk
    ·cases hk
    rename_i U;simp only[isVal,hu]at I J;obtain⟨a,rfl,rfl⟩:=I;obtain⟨b,rfl,rfl⟩:=J;have V:P.fieldsOf t=M:=by simp[alK,hu]
    rw[run_equalIn_struct w D t a b (Wo hu) (by simpa using U),V];have:=KT d M.toList 0 ks hk D (by omega) a b (by simpa using q) (by simpa using B) w;simpa using this
   | int k =>
    simp at hk;subst hk;simp only[isVal,hu]at I J;subst I; subst J;simp only[cM,eS]at q B;unfold kindOk at q B;split at q<;>split at B<;>simp_all[kh,dQ,pE,Sem.bu hu]
   | string =>
    simp at hk;subst hk;simp only[isVal,hu]at I J;subst I; subst J;simp only[cM,eS]at q B;unfold kindOk at q B;split at q<;>split at B<;>simp_all[kh,dQ,pE,Sem.bu hu,beq_toListBytes]
   | bool =>
    simp at hk;subst hk;simp only[isVal,hu]at I J;subst I; subst J;simp only[cM,eS]at q B;unfold kindOk at q B;split at q<;>split at B<;>simp_all[kh,dQ,pE,Sem.bu hu]
   |_=>simp at hk
theorem KT{P:Program}:∀(d:Nat) (J:List Field) (off:Nat) (ks:List SK),vE P d J off=some ks→∀(D:Nat),d≤D→∀(xs k:Array Value),
  cM ks (xs.toList.drop off)=true→cM ks (k.toList.drop off)=true→∀ w,(Vy D xs k J).run P w=.ok (dQ (xs.toList.drop off) (k.toList.drop off)) w
 | d,[],off,ks,hk=>by
  intro D hD xs k U V w;simp[vE,sR]at hk;subst hk;have h1:=sS U;have h2:=sS V;have q:xs.toList.drop off=[]:=C6 (by rw[←h1]; rfl);have M:k.toList.drop off=[]:=C6 (by rw[←h2]; rfl);rw[q,M];simp[Vy,dQ]
 | d,f::J,off,ks,hk=>by
  intro D hD xs k U V w;unfold vE sR at hk;split at hk
  ·cases hk
  rename_i W;split at hk
  case h_2=>cases hk
  rename_i k1 n ag q M;split at hk
  case isFalse=>cases hk
  rename_i hn;split at hk
  case h_2=>cases hk
  rename_i l e3;cases hk;have hname:f.name ≠ "_" := fun e=>W (.inl e);have hoff:f.offset=off:=by
   by_cases e:f.offset=off
   ·exact e
   ·exact(W (.inr e)).elim
  obtain⟨B,N⟩:=zw U;obtain⟨I,O⟩:=zw V;rw[←hn]at B N I O;obtain⟨x,px,vx⟩:=DG M q hn xs off B w;obtain⟨y,py,vy⟩:=DG M q hn k off I w;have he:=DH d f.type k1 q D hD x y _ _ vx vy B I w;have hrest:=KT d J (off+n) l e3 D hD xs k (by rw[qI]at N; exact N) (by rw[qI]at O; exact O) w;have hsplit:dQ (xs.toList.drop off) (k.toList.drop off) =
    (dQ ((xs.toList.drop off).take n) ((k.toList.drop off).take n)&&dQ (xs.toList.drop (off+n)) (k.toList.drop (off+n))):=by
   rw[←KS _ _ _ _ (by rw[←sS B,←sS I]),←qI,←qI,vk,vk]
  simp only[Vy,hname,ne_eq,not_false_eq_true,if_true,bY,hoff,px,py,b_,he,hsplit];cases dQ ((xs.toList.drop off).take n) ((k.toList.drop off).take n)<;>simp[hrest]
end
def oa:List AV→Option (List Value)
 | []=>some []
 | .lit v::as=>match oa as with
  |some l=>some (v::l)
  |none=>none
 |_=>none
theorem zx{E:Env}:∀{as:List AV} {l vs:List Value},oa as=some l→af E as vs→vs=l
 | [],l,[],h,_=>by simp[oa]at h; exact h.symm
 | [],_,_::_,_,hr=>by simp[af]at hr
 |_::_,_,[],_,hr=>by simp[af]at hr
 | a::as,l,v::vs,h,hr=>by
  simp only[af]at hr;cases a<;>simp only[oa]at h<;>try cases h
  split at h
  ·rename_i u l' d
   cases h;have:=zx d hr.2;have h1:=hr.1;simp only[rel]at h1;rw[h1,this]
  ·cases h
def ob:Option TypeDesc→Bool
 |some (.struct _)=>true
 |_=>false
def kq(op:BinOp)(b:Bool):Option AV :=
 match op with
 |.eql=>some (.bool b)
 |.neq=>some (.bool !b)
 |_=>none
def od:Nat:=6
def DI(P:Program)(op:BinOp)(t:TypeId)(d:Bool)(a b:Value):Option AV :=
 match a,b with
 | .bool a,.bool b=>match P.underlying t with
  |some .bool=>kq op (a==b)
  |_=>none
 | .slice none 0 0,.slice none 0 0=>match P.underlying t with
  |some (.slice _)=>kq op true
  |_=>none
 |.nilIface,.nilIface=>if d then (match P.underlying t with|some (.interface _)=>kq op true|_=>none) else none
 |_,_=>none
def hZ(P:Program)(op:BinOp)(t:TypeId)(d:Bool)(x y:AV):Option AV :=
 match x,y with
 | .lit a,.lit b=>match iT op a b with
  |some v=>some (.lit v)
  |none=>DI P op t d a b
 | .agg as,.agg k=>match flatK P od t,oa as,oa k with
  |some ks,some l,some m=>if P.eqGuardType P.depth t=false∧cM ks l=true∧cM ks m=true∧ob (P.underlying t)=true then kq op (dQ l m) else none
  |_,_,_=>none
 | .emptyS n,.lit (.slice none 0 0)=>match P.underlying t with
  |some (.slice _)=>kq op n
  |_=>none
 | .listF _ rows,.lit (.slice none 0 0)=>match P.underlying t with
  |some (.slice _)=>if 0<rows.length then kq op false else none
  |_=>none
 | .vec _ _ _ _ m,.lit (.slice none 0 0)=>match P.underlying t with
  |some (.slice _)=>if 0<m then kq op false else none
  |_=>none
 | .ifc,.lit .nilIface | .lit .nilIface,.ifc=>match P.underlying t with
  |some (.interface _)=>kq op false
  |_=>none
 | .sub _ _ j,.lit (.map none)=>match P.underlying t with
  |some (.map _ _)=>kq op j.isNone
  |_=>none
 |_,_=>none
theorem KU{P:Program}{t:Nat}{k:IntKind}(h:cg P t=.int k):P.underlying t=some (.int k):=by
 unfold cg at h;split at h
 ·split at h<;>cases h
 ·split at h<;>cases h
 ·cases h
 ·rename_i h1; cases h; exact h1
 ·cases h
 ·cases h
theorem lT{P:Program}{op:BinOp}{b:Bool}{v:AV}{t:TypeId}{x y:Operand}{c d:Value}{w:World}(h:kq op b=some v)
  (hg:(eqGuard op t x y c d).run P w=.ok () w) (he:(yP t c d).run P w=.ok b w)
  (hb:∀ op,op=.eql∨op=.neq→(binOp op t c d)=(match op with | .eql=>(do pure (.bool (← yP t c d)))|_=>(do pure (.bool (!(← yP t c d)))))) :
  ∃ u,(do eqGuard op t x y c d; binOp op t c d:Sem Value).run P w=.ok u w∧∀ E,rel E v u:=by
 unfold kq at h;split at h
 ·cases h
  refine⟨.bool b,?_,fun E=>by simp[rel]⟩;simp only[bY,hg,b_,hb .eql (.inl rfl)];simp[he]
 ·cases h
  refine⟨.bool !b,?_,fun E=>by simp[rel]⟩;simp only[bY,hg,b_,hb .neq (.inr rfl)];simp[he]
 ·cases h
end Go.AL

namespace Go.AL
open Go
variable [Dr]
theorem mS{P:Program}{t:TypeId}{c d:Value}{b:Bool}{w:World} (h:∀ n,(kh (n+1) t c d).run P w=.ok b w) :
  (yP t c d).run P w=.ok b w:=h 9999
theorem Wp{P:Program}{op:BinOp}{t:TypeId}{x y:Operand} (h:((x matches .const _)||(y matches .const _))=true) (w:World) :
  (eqGuard op t x y .nilIface .nilIface).run P w=.ok () w:=by
 cases x<;>cases y<;>first
  |(cases op<;>rfl)
  |(simp at h; done)
theorem Wq{P:Program}{E:Env}{op:BinOp}{t:TypeId}{x y:Operand}{p q:Value}{v:AV}{B:Bool}
  (I:B=true→((x matches .const _)||(y matches .const _))=true) (h:DI P op t B p q=some v) :
  ∃ u,(do eqGuard op t x y p q; binOp op t p q:Sem Value).run P E.w=.ok u E.w∧rel E v u:=by
 unfold DI at h;split at h
 ·rename_i a b
  split at h
  ·rename_i hu
   obtain⟨u,h1,k⟩:=lT (P:=P) (t:=t) (x:=x) (y:=y) (c:=.bool a) (d:=.bool b) (w:=E.w) h (by cases op<;>simp[eqGuard]<;>rfl)
    (mS fun n=>by simp[kh,Sem.bu hu]) (by rintro op (rfl|rfl)<;>rfl)
   exact⟨u,h1,k E⟩
  ·cases h
 ·split at h
  ·rename_i hu
   obtain⟨u,h1,k⟩:=lT (P:=P) (t:=t) (x:=x) (y:=y) (c:=.slice none 0 0) (d:=.slice none 0 0) (w:=E.w) h (by cases op<;>simp[eqGuard]<;>rfl)
    (mS fun n=>by simp[kh,Sem.bu hu]) (by rintro op (rfl|rfl)<;>rfl)
   exact⟨u,h1,k E⟩
  ·cases h
 ·split at h
  ·rename_i J
   split at h
   ·rename_i ms hu
    obtain⟨u,h1,k⟩:=lT (P:=P) (t:=t) (x:=x) (y:=y) (c:=.nilIface) (d:=.nilIface) (w:=E.w) h
     (Wp (I J) _)
     (mS fun n=>by simp[kh,Sem.bu hu]) (by rintro op (rfl|rfl)<;>rfl)
    exact⟨u,h1,k E⟩
   ·cases h
  ·cases h
 ·cases h
theorem Wr{P:Program}{E:Env}{op:BinOp}{t:TypeId}{x y:Operand}{a b v:AV}{c d:Value}
  {W:Bool} (hkk:W=true→((x matches .const _)||(y matches .const _))=true) (h:hZ P op t W a b=some v) (k:rel E a c) (B:rel E b d) :
  ∃ u,(do eqGuard op t x y c d; binOp op t c d:Sem Value).run P E.w=.ok u E.w∧rel E v u:=by
 unfold hZ at h;split at h
 ·rename_i p q
  simp only[rel]at k B;rw[k,B];clear k B c d;split at h
  ·rename_i u hu
   cases h;refine⟨u,?_,by simp[rel]⟩;simp only[bY];rw[Wg op t x y p q (fun _ _=>trivial) (by simp[hu])];simp only[b_];exact Wf op t p q u hu E.w
  ·exact Wq hkk h
 ·rename_i as bs
  split at h
  case h_2=>cases h
  rename_i ks l m h1 I h3;by_cases N:P.eqGuardType P.depth t=false∧cM ks l=true∧cM ks m=true∧ob (P.underlying t)=true
  case neg=>rw[if_neg N]at h; cases h
  rw[if_pos N]at h;obtain⟨g1,g2,g3,g4⟩:=N;simp only[rel]at k B;obtain⟨xs,rfl,_,k⟩:=k;obtain⟨J,rfl,_,B⟩:=B;have ex:=zx I k;have ey:=zx h3 B;unfold ob at g4;split at g4
  case h_2=>cases g4
  rename_i fs hu;have:=DH od t ks h1 10000 (by decide) (.agg xs) (.agg J) l m (by simp only[isVal,hu]; exact⟨xs,rfl,ex⟩)
   (by simp only[isVal,hu]; exact⟨J,rfl,ey⟩) g2 g3 E.w
  obtain⟨u,q1,q2⟩:=lT (P:=P) (t:=t) (x:=x) (y:=y) (c:=.agg xs) (d:=.agg J) (w:=E.w) h (run_eqGuard_agg E.w op t x y xs J g1)
   (by simpa[yP,Op.maxDepth]using this) (by rintro op (rfl|rfl)<;>rfl)
  exact⟨u,q1,q2 E⟩
 ·simp only [rel] at k B
  subst B;obtain⟨b,cap,rfl,hb⟩:=k;split at h
  ·rename_i el hu
   obtain⟨u,h1,I⟩:=lT (P:=P) (t:=t) (x:=x) (y:=y) (c:=.slice b 0 cap) (d:=.slice none 0 0) (w:=E.w) h (by cases op<;>simp[eqGuard]<;>rfl)
    (mS fun n=>by cases b<;>simp[kh,Sem.bu hu]<;>simpa using hb.symm) (by rintro op (rfl|rfl)<;>rfl)
   exact⟨u,h1,I E⟩
  ·cases h
 ·rename_i ks rows
  simp only[rel,eF,G.rows]at k B;subst B;obtain⟨b,cap,rfl,_,hb⟩:=k;split at h
  ·rename_i el hu
   split at h
   ·rename_i M
    rcases hb with rfl|⟨O,o',rfl,_⟩
    ·simp at M
    obtain⟨u,h1,I⟩:=lT (P:=P) (t:=t) (x:=x) (y:=y) (c:=.slice (some ⟨O,o',none⟩) rows.length cap) (d:=.slice none 0 0) (w:=E.w) h (by cases op<;>simp[eqGuard]<;>rfl)
     (mS fun n=>by simp[kh,Sem.bu hu]) (by rintro op (rfl|rfl)<;>rfl)
    exact⟨u,h1,I E⟩
   ·cases h
  ·cases h
 ·rename_i m
  simp only[rel]at k B;subst B;obtain⟨⟨b,cap,rfl,_,hb⟩,_⟩:=k;split at h
  ·rename_i el hu
   split at h
   ·rename_i M
    obtain⟨O,o',rfl⟩:=hb M;obtain⟨u,h1,I⟩:=lT (P:=P) (t:=t) (x:=x) (y:=y) (c:=.slice (some ⟨O,o',none⟩) m cap) (d:=.slice none 0 0) (w:=E.w) h (by cases op<;>simp[eqGuard]<;>rfl)
     (mS fun n=>by simp[kh,Sem.bu hu]) (by rintro op (rfl|rfl)<;>rfl)
    exact⟨u,h1,I E⟩
   ·cases h
  ·cases h
 ·simp only [rel] at k B
  subst B;obtain⟨U,V,rfl⟩:=k;split at h
  ·rename_i ms hu
   obtain⟨u,h1,I⟩:=lT (P:=P) (t:=t) (x:=x) (y:=y) (c:=.iface U V) (d:=.nilIface) (w:=E.w) h (by cases op<;>simp[eqGuard]<;>rfl)
    (mS fun n=>by simp[kh,Sem.bu hu]) (by rintro op (rfl|rfl)<;>rfl)
   exact⟨u,h1,I E⟩
  ·cases h
 ·simp only [rel] at k B
  subst k;obtain⟨U,V,rfl⟩:=B;split at h
  ·rename_i ms hu
   obtain⟨u,h1,I⟩:=lT (P:=P) (t:=t) (x:=x) (y:=y) (c:=.nilIface) (d:=.iface U V) (w:=E.w) h (by cases op<;>simp[eqGuard]<;>rfl)
    (mS fun n=>by simp[kh,Sem.bu hu]) (by rintro op (rfl|rfl)<;>rfl)
   exact⟨u,h1,I E⟩
  ·cases h
 ·rename_i id l jj
  simp only[rel]at k B;subst B;split at h
  ·rename_i kt el hu
   rcases k with⟨rfl,rfl⟩|⟨i,rfl,⟨b,rfl⟩,_⟩
   ·obtain ⟨u,h1,I⟩:=lT (P:=P) (t:=t) (x:=x) (y:=y) (c:=.map none) (d:=.map none) (w:=E.w) h (by cases op<;>simp [eqGuard]<;>rfl)
     (mS fun n=>by simp[kh,Sem.bu hu]) (by rintro op (rfl|rfl)<;>rfl)
    exact⟨u,h1,I E⟩
   ·obtain ⟨u,h1,I⟩:=lT (P:=P) (t:=t) (x:=x) (y:=y) (c:=.map (some b)) (d:=.map none) (w:=E.w) h (by cases op<;>simp [eqGuard]<;>rfl)
     (mS fun n=>by simp[kh,Sem.bu hu]) (by rintro op (rfl|rfl)<;>rfl)
    exact⟨u,h1,I E⟩
  ·cases h
 ·cases h
def sT(op:UnOp)(x:AV):Option AV :=
 match op,x with
 |.not,.lit (.bool b)=>some (.bool !b)
 |.neg,.lit (.int k n)=>some (.lit (.int k (k.wrap (0-n))))
 |_,_=>none
theorem Ws{P:Program}{E:Env}{op:UnOp}{x v:AV}{c:Value}(h:sT op x=some v)(d:rel E x c) :
  ∃ u,(Op.unary op c).run P E.w=.ok u E.w∧rel E v u:=by
 unfold sT at h;split at h
 ·cases h
  simp only[rel]at d;subst d;exact⟨_,rfl,by simp[rel]⟩
 ·cases h
  simp only[rel]at d;subst d;exact⟨_,rfl,by simp[rel]⟩
 ·cases h
def sU(P:Program)(s d:TypeId)(x:AV):Option AV :=
 match P.underlying s,cg P d,x with
 |some _,.int k,.lit (.int _ n)=>some (.lit (.int k (k.wrap n)))
 |some _,.str,.lit (.string b)=>some (.str b)
 |some _,.str,.lit (.int _ n)=>some (.str (Utf8.encode n))
 |_,_,_=>none
theorem Wt{P:Program}{E:Env}{s d:TypeId}{x v:AV}{c:Value}(h:sU P s d x=some v)(q:rel E x c) :
  ∃ u,(convert s d c).run P E.w=.ok u E.w∧rel E v u:=by
 unfold sU at h;split at h
 ·rename_i k n B I
  cases h;simp only[rel]at q;subst q;refine⟨_,?_,by simp only[rel]; rfl⟩;simp[convert,Sem.bu B,Sem.bu (KU I),Conv.intToInt]
 ·rename_i b B I
  cases h;simp only[rel]at q;subst q;refine⟨_,?_,by simp only[rel]; rfl⟩;simp only[convert,bY,Sem.bu B,Sem.bu (qV I),b_];rfl
 ·rename_i k n B I
  cases h;simp only[rel]at q;subst q;refine⟨_,?_,by simp only[rel]; rfl⟩;simp only[convert,bY,Sem.bu B,Sem.bu (qV I),b_];rfl
 ·cases h
def pF(k:SK)(x i:AV):Option AV :=
 match i with
 | .lit (.int _ n) =>
  match k,x with
  |.str,.lit (.string s)=>if 0≤n∧n<s.size then (match s[n.toNat]? with|some b=>some (.lit (.int .u8 b.toNat))|none=>none) else none
  |.array m _ sz agg,.agg cells=>if 0≤n∧n<m then gf agg sz (cells.drop (n.toNat*sz)) else none
  |_,_=>none
 |_=>none
theorem DJ{E:Env}:∀{as:List AV} {vs:List Value} (n:Nat),af E as vs→af E (as.drop n) (vs.drop n)
 |_,_,0,h=>by simpa using h
 | [],[],n+1,_=>by simp[af]
 | [],_::_,_,h=>by simp[af]at h
 |_::_,[],_,h=>by simp[af]at h
 |a::as,v::vs,n+1,h=>by simp only[af]at h; simpa using DJ n h.2
theorem DK{E:Env}:∀{as:List AV} {vs:List Value} (n:Nat),af E as vs→af E (as.take n) (vs.take n)
 |_,_,0,_=>by simp[af]
 | [],[],n+1,_=>by simp[af]
 | [],_::_,_,h=>by simp[af]at h
 |_::_,[],_,h=>by simp[af]at h
 |a::as,v::vs,n+1,h=>by simp only[af]at h; simp only[C3,af]; exact⟨h.1,DK n h.2⟩
theorem kW{E:Env}:∀{as d:List AV} {vs us:List Value},af E as vs→af E d us→af E (as++d) (vs++us)
 | [],_,[],_,_,h=>by simpa using h
 | [],_,_::_,_,h,_=>by simp[af]at h
 |_::_,_,[],_,h,_=>by simp[af]at h
 |a::as,d,v::vs,us,h,h'=>by simp only[af]at h; simp only[lH,af]; exact⟨h.1,kW h.2 h'⟩
theorem oe{E:Env}{as:List AV}{vs:List Value}(h:af E as vs){i:Nat}{a:AV}(hi:as[i]? = some a):∃ v,vs[i]? = some v∧rel E a v:=by
 obtain⟨h1,q⟩:=n_.1 h;have k:=aK hi;have d:i<vs.length:=h1▸k;exact⟨vs[i],bf d,q i a _ hi (bf d)⟩
theorem KV{P:Program}{E:Env}{t:TypeId}{n:Nat}{agg:Bool}{cells:List AV}{cs:Array Value}{off:Nat}{v:AV}(B:e_ P t=some (n,agg))
  (h:gf agg n (cells.drop off)=some v) (hr:af E cells cs.toList) (h1:∀ x∈cs.toList,dJ x=true) :
  ∃ u,(part t cs off).run P E.w=.ok u E.w∧rel E v u:=by
 obtain⟨i,d,hi,k,I,ha⟩:=mQ B;unfold gf at h;cases agg with
 | true =>
  simp only[if_true]at h;split at h
  ·cases h
   refine⟨.agg (cs.extract off (off+n)),?_,?_⟩
   ·simp[part,Sem.pC k,ha,Sem.run_sizeOf hi,I]
   ·simp only [rel]
    have e:(cs.extract off (off+n)).toList=(cs.toList.drop off).take n:=by simp
    refine⟨_,rfl,?_,?_⟩
    ·rw[e]; exact fun x J=>h1 x (yO (vj J))
    ·rw[e]; exact DK n (DJ off hr)
  ·cases h
 | false =>
  simp only[lG,if_false]at h;rw[qG]at h;obtain⟨u,g1,g2⟩:=oe hr h;refine⟨u,?_,g2⟩;have q:cs[off]? = some u:=by simpa using g1
  simp[part,Sem.pC k,ha,q]
theorem Wu{P:Program}{E:Env}{t:TypeId}{x i v:AV}{c d:Value}(h:pF (cg P t) x i=some v)(q:rel E x c)(hi:rel E i d) :
  ∃ u,(Vz t c d).run P E.w=.ok u E.w∧rel E v u:=by
 unfold pF at h;split at h
 case h_2=>cases h
 rename_i k n;simp only[rel]at hi;subst hi;split at h
 ·rename_i s hk
  have hu:=qV hk;simp only[rel]at q;subst q;split at h
  case isFalse=>cases h
  rename_i B;split at h
  case h_2=>cases h
  rename_i b hb;cases h;refine⟨.int .u8 b.toNat,?_,by simp[rel]⟩;simp[Vz,asIntOf,Sem.bu hu,B.1,hb]
 ·rename_i m e sz agg cells hk
  obtain⟨hu,I⟩:=zq hk;obtain⟨ii,dd,g1,g2,g3,g4⟩:=mQ I;split at h
  case isFalse=>cases h
  rename_i B;simp only[rel]at q;obtain⟨cs,rfl,h1,J⟩:=q;obtain⟨u,M,N⟩:=KV I h J h1;refine⟨u,?_,N⟩;simp[Vz,asIntOf,Sem.bu hu,B.1,B.2,Sem.run_sizeOf g1,g3,M]
 ·cases h
def DL(k:FK)(x:AV):Option AV :=
 match x with
 |.agg cells=>gf k.agg k.size (cells.drop k.off)
 |_=>none
theorem Wv{P:Program}{E:Env}{t:TypeId}{f:Nat}{k:FK}{x v:AV}{c:Value}(hk:sL P t f=some k)(h:DL k x=some v)(d:rel E x c) :
  ∃ u,(alL t c f).run P E.w=.ok u E.w∧rel E v u:=by
 obtain⟨N,fd,h1,q,B,I⟩:=KN hk;unfold DL at h;split at h
 ·simp only [rel] at d
  obtain⟨cs,rfl,g1,g2⟩:=d;obtain⟨u,J,M⟩:=KV I h g2 g1;refine⟨u,?_,M⟩;simp[alL,Sem.bu h1,q,asAgg,B,J]
 ·cases h
end Go.AL

namespace Go.AL
open Go
variable [Dr]
def qW:AV→Option (List AV)
 |.undef | .tuple _=>none
 |.agg cs=>some cs
 |.lit v=>if dJ v then some [.lit v] else none
 |x=>some [x]
theorem DM{E:Env}{x:AV}{cs:List AV}{c:Value}(h:qW x=some cs)(hr:rel E x c) :
  af E cs c.cells.toList∧∀ y∈c.cells.toList,dJ y=true:=by
 unfold qW at h;split at h
 ·cases h
 ·cases h
 ·cases h
  simp only[rel]at hr;obtain⟨a,rfl,h1,d⟩:=hr;exact⟨d,h1⟩
 ·rename_i v
  split at h
  ·rename_i h1
   cases h;have I:=hr;simp only[rel]at hr;subst hr;cases c<;>simp[dJ]at h1<;>exact⟨by simp[Ka,af,rel],by simp[Ka,dJ]⟩
  ·cases h
 ·rename_i h1 d q B
  cases h;have k:dJ c=true∧c.cells=#[c]:=by
   cases x<;>simp only[rel]at hr
   case sub=>rcases hr with⟨_,rfl⟩|⟨_,_,⟨b,rfl⟩,_⟩<;>exact⟨rfl,rfl⟩
   case undef=>exact(h1 rfl).elim
   case lit v=>exact(B v rfl).elim
   case nils=>obtain⟨b,rfl⟩:=hr; exact⟨rfl,rfl⟩
   case list=>obtain⟨_,b,cap,rfl,_⟩:=hr; exact⟨rfl,rfl⟩
   case listF=>simp only[eF]at hr; obtain⟨b,cap,rfl,_⟩:=hr; exact⟨rfl,rfl⟩
   case agg as=>exact(q as rfl).elim
   case tuple as=>exact(d as rfl).elim
   case cptr=>obtain⟨_,b,o,rfl,_⟩:=hr; exact⟨rfl,rfl⟩
   case ptr=>obtain⟨⟨b,o,rfl⟩,_⟩:=hr; exact⟨rfl,rfl⟩
   case vec=>obtain⟨⟨b,o,rfl,_⟩,_⟩:=hr; exact⟨rfl,rfl⟩
   case map=>obtain⟨⟨b,rfl⟩,_⟩:=hr; exact⟨rfl,rfl⟩
   case clo=>obtain⟨cs,rfl,_⟩:=hr; exact⟨rfl,rfl⟩
   case ifc=>obtain⟨t,v,rfl⟩:=hr; exact⟨rfl,rfl⟩
   case emptyS=>obtain⟨b,cap,rfl,_⟩:=hr; exact⟨rfl,rfl⟩
  rw[k.2];exact⟨by simp only[af]; exact⟨hr,trivial⟩,by simpa using k.1⟩
def qX(place:Nat→Option (Nat × Nat))(cells:List AV):List (Nat × AV)→Option (List AV)
 | []=>some cells
 | (i,v)::rest=>match place i,qW v with
  |some (off,size),some cs=>if cs.length=size∧off+cs.length≤cells.length then qX place (cells.take off++cs++cells.drop (off+cs.length)) rest else none
  |_,_=>none
theorem KW(cs:Array Value):∀(l:List Value) (off k:Nat) (cells:Array Value),off+k+l.length≤cells.size →
  (l.zipIdx k).foldl (fun cs (p : Value × Nat) => cs.setIfInBounds (off + p.2) p.1) cells =
   (cells.toList.take (off+k)++l++cells.toList.drop (off+k+l.length)).toArray
 | [],off,k,cells,_=>by simp
 | v::l,off,k,cells,h=>by
  simp only[List.zipIdx_cons,List.foldl_cons];have h':off+(k+1)+l.length≤(cells.setIfInBounds (off+k) v).size:=by simp at h⊢; omega
  rw[KW cs l off (k+1) _ h'];congr 1;apply kR;intro i;simp only[Array.toList_setIfInBounds,fM,jq,pd,o_,qG,eC,eD,cn,mE];simp at h;by_cases c1:i<off+k
  ·have d : i < min (off + k) cells.size := by omega
   have q:i<min (off+(k+1)) cells.size:=by omega
   have M:¬ off+k=i:=by omega
   have I:i<off+(k+1):=by omega
   have B:i<min (off+k) cells.size+(l.length+1):=by omega
   have J:i<min (off+(k+1)) cells.size+l.length:=by omega
   simp[d,q,M,I,B,J,c1]
  ·by_cases c2 : i = off + k
   ·subst c2
    have d:¬ off+k<min (off+k) cells.size:=by omega
    have q:off+k<min (off+(k+1)) cells.size:=by omega
    have I:off+k<off+(k+1):=by omega
    have B:off+k<min (off+k) cells.size+(l.length+1):=by omega
    have J:off+k<min (off+(k+1)) cells.size+l.length:=by omega
    have N:off+k-min (off+k) cells.size=0:=by omega
    have O:off+k<cells.size:=by omega
    simp[d,q,I,B,J,N,O]
   ·by_cases U : i < off + k + 1 + l.length
    ·have d : ¬ i < min (off + k) cells.size := by omega
     have q:¬ i<min (off+(k+1)) cells.size:=by omega
     have B:i<min (off+k) cells.size+(l.length+1):=by omega
     have J:i<min (off+(k+1)) cells.size+l.length:=by omega
     have N:i-min (off+k) cells.size=(i-min (off+(k+1)) cells.size)+1:=by omega
     simp[d,q,B,J,N]
    ·have d : ¬ i < min (off + k) cells.size + (l.length + 1) := by omega
     have q:¬ i<min (off+(k+1)) cells.size+l.length:=by omega
     have M:off+k+(l.length+1)+(i-(min (off+k) cells.size+(l.length+1)))=i:=by omega
     have I:off+(k+1)+l.length+(i-(min (off+(k+1)) cells.size+l.length))=i:=by omega
     have B:¬ off+k=i:=by omega
     simp[d,q,M,I,B]
theorem vF{E:Env}{place:Nat→Option (Nat × Nat)}:∀{parts:List (Nat × AV)} {cparts:List (Nat × Value)} {cells:List AV} {cs:Array Value} {out:List AV},
  qX place cells parts=some out→af E cells cs.toList→(∀ x∈cs.toList,dJ x=true) →
  parts.map (·.1)=cparts.map (·.1)→af E (parts.map (·.2)) (cparts.map (·.2)) →
  ∃ o,alM place cs cparts=some o∧af E out o.toList∧∀ x∈o.toList,dJ x=true
 | [],[],cells,cs,out,h,hr,h1,_,_=>by
  simp only[qX,aY]at h;subst h;exact⟨cs,rfl,hr,h1⟩
 | [],_::_,_,_,_,_,_,_,hm,_=>by simp at hm
 |_::_,[],_,_,_,_,_,_,hm,_=>by simp at hm
 | (i,v)::ps,(j,c)::U,cells,cs,out,h,hr,h1,hm,k=>by
  simp only[dj,C7]at hm;obtain⟨rfl,hm⟩:=hm;simp only[dj,af]at k;simp only[qX]at h;split at h
  case h_2=>cases h
  rename_i off size us J M;split at h
  case isFalse=>cases h
  rename_i N;obtain⟨g1,g2⟩:=DM M k.1;have B:=gG g1;have I:=gG hr;have V:us.length=c.cells.size:=by simpa using B
  have O:cells.length=cs.size:=by simpa using I
  have q:(c.cells.zipIdx.foldl (fun cs (x:Value × Nat)=>cs.setIfInBounds (off+x.2) x.1) cs) =
    (cs.toList.take off++c.cells.toList++cs.toList.drop (off+c.cells.toList.length)).toArray:=by
   rw[←Array.foldl_toList,Array.toList_zipIdx];have:=KW cs c.cells.toList off 0 cs (by simp; omega);simpa using this
  simp only[alM,J];rw[if_neg (by simp; omega)];refine vF (cells:=cells.take off++us++cells.drop (off+us.length)) h ?_ ?_ hm k.2
  ·rw [q]
   simp only[];refine kW (kW (DK off hr) g1) ?_;rw[B];exact DJ _ hr
  ·rw [q]
   intro x d;simp only[cQ]at d;rcases d with(d|d)|d
   ·exact h1 x (vj d)
   ·exact g2 x d
   ·exact h1 x (yO d)
def KX(P:Program)(t:TypeId):Option (List (Nat × Nat)) :=
 match P.underlying t with
 |some (.struct d)=>d.toList.mapM fun fd=>(e_ P fd.type).map fun p=>(fd.offset,p.1)
 |_=>none
theorem mT{P:Program}{t:TypeId}{z:List Value}(h:eJ P t=some z) :
  ∃ i v,P.info? t=some i∧i.zero=some v∧v.cells.toList=z∧∀ x∈z,dJ x=true:=by
 unfold eJ at h;split at h
 ·rename_i i hi
  split at h
  ·rename_i v d
   split at h
   ·rename_i k
    cases h;exact⟨i,v,hi,d,rfl,dB.1 k⟩
   ·cases h
  ·cases h
 ·cases h
theorem mU{P:Program}{t:TypeId}{i:TypeInfo}{v:Value}(hi:P.info? t=some i)(d:i.zero=some v)(w:World):(zeroValue t).run P w=.ok v w:=by
 simp[zeroValue,typeInfo,hi,d]
theorem KY{P:Program}{w:World}:∀(k:List Field) (pl:List (Nat × Nat)),(k.mapM fun fd=>(e_ P fd.type).map fun p=>(fd.offset,p.1))=some pl →
  (k.mapM fun(f:Field)=>(do pure (f.offset,←sizeOf f.type):Sem (Nat × Nat))).run P w=.ok pl w
 | [],pl,h=>by simp at h; subst h; simp
 | f::k,pl,h=>by
  simp only[VA,Option.bind_eq_bind,Option.pure_def,Option.bind_eq_some_iff,ef]at h;obtain⟨x,⟨⟨n,a⟩,h1,rfl⟩,l,q,B⟩:=h;cases B;obtain⟨i,d,g1,g2,g3,g4⟩:=mQ h1;have:=KY (w:=w) k l q;simp only[VA,bY,Sem.run_sizeOf g1,b_,fN,g3];rw[this];rfl
def DN(P:Program)(t:TypeId)(parts:List (Nat × AV)):Option AV :=
 match eJ P t with
 | some z=>match KX P t with
  |some pl=>(qX (fun i=>pl[i]?) (z.map .lit) parts).map .agg
  | none=>match cg P t with
   |.array _ _ sz _=>(qX (fun i=>some (i*sz,sz)) (z.map .lit) parts).map .agg
   |_=>none
 |none=>none
theorem Ww{P:Program}{E:Env}{t:TypeId}{parts:List (Nat × AV)}{cparts:List (Nat × Value)}{v:AV}(h:DN P t parts=some v)
  (hm:parts.map (·.1)=cparts.map (·.1)) (k:af E (parts.map (·.2)) (cparts.map (·.2))) :
  ∃ u,(VB t cparts.toArray).run P E.w=.ok u E.w∧rel E v u:=by
 unfold DN at h;split at h
 case h_2=>cases h
 rename_i z N;obtain⟨i,q,B,z2,z3,z4⟩:=mT N;split at h
 ·rename_i pl d
  unfold KX at d;split at d
  case h_2=>cases d
  rename_i I hu;simp only[ef]at h;obtain⟨out,ho,rfl⟩:=h;obtain⟨o,g1,g2,g3⟩:=vF (cs:=q.cells) ho (by rw[z3]; exact pB z) (by rw[z3]; exact z4) hm k;refine⟨.agg o,?_,by simp only[rel]; exact⟨o,rfl,g3,g2⟩⟩;have J:(I.mapM fun(f:Field)=>(do pure (f.offset,←sizeOf f.type):Sem (Nat × Nat))).run P E.w=.ok pl.toArray E.w:=by
   have:=KY (w:=E.w) I.toList pl d;rw[Array.mapM_eq_mapM_toList,Sem.run_map,this];rfl
  simp only[VB,bY,mU B z2,b_,Sem.bu hu];rw[J];simp only[b_];have e:(fun(x:Nat)=>(pl.toArray)[x]?)=fun(i:Nat)=>pl[i]? := by funext i; simp
  rw[e,g1];rfl
 ·split at h
  case h_2=>cases h
  rename_i n e sz V hk;obtain⟨hu,M⟩:=zq hk;obtain⟨W,de,O,q2,U,q4⟩:=mQ M;simp only[ef]at h;obtain⟨out,ho,rfl⟩:=h;obtain⟨o,g1,g2,g3⟩:=vF (cs:=q.cells) ho (by rw[z3]; exact pB z) (by rw[z3]; exact z4) hm k;refine⟨.agg o,?_,by simp only[rel]; exact⟨o,rfl,g3,g2⟩⟩;simp only[VB,bY,mU B z2,b_,Sem.bu hu,Sem.run_sizeOf O,U,g1];rfl
def chunk(sz:Nat):Nat→List AV→List (List AV)
 |0,_=>[]
 |n+1,l=>l.take sz::chunk sz n (l.drop sz)
theorem vG(sz:Nat):∀(n:Nat) (l:List AV),(chunk sz n l).length=n
 |0,_=>rfl
 |n+1,l=>by simp[chunk,vG sz n]
theorem DO(sz:Nat):∀(n:Nat) (l:List AV),AV.br l=true→ft (chunk sz n l)
 |0,_,_=>by intro r hr; simp[chunk]at hr
 | n+1,l,h=>by
  intro r hr;simp only[chunk,bN]at hr;rcases hr with rfl|hr
  ·exact zp _ _ h
  ·exact DO sz n _ (vC _ _ h) r hr
theorem KZ{E:Env}(sz:Nat):∀(n:Nat) (l:List AV) (b o:Nat),l.length=n*sz→cw E l b o→cL E sz (chunk sz n l) b o
 |0,_,_,_,_,_=>by simp[chunk,cL]
 | n+1,l,b,o,d,h=>by
  simp only[chunk,cL];have:sz≤l.length:=by rw[d,f_]; omega
  refine⟨by simp; omega,zo h sz,KZ sz n _ b (o+sz) (by simp[d,f_]) (sN h sz)⟩
theorem DP{E:Env}{as:List AV}{cs:Array Value}{b:Nat}{el:TypeId}{fr:Nat × Nat}(hb:E.w.heap[b]? = some (.cells cs el fr))(hr:af E as cs.toList)
  (h1:∀ x∈cs.toList,dJ x=true):cw E as b 0:=by
 rw[jv];intro i a hi;obtain⟨v,g1,g2⟩:=oe hr hi;refine⟨v,?_,h1 v (eZ g1),g2⟩;simp only[di,vh,hb];simpa using g1
end Go.AL

namespace Go.AL
open Go
variable [Dr]
theorem zy(v:Value):v.oneCell'=dJ v:=by cases v<;>rfl
theorem setRow_size(w:World)(g:Nat)(cs:Array Value):(w.setRow g cs).heap.size=w.heap.size:=by simp[alN]
theorem setRow_other(w:World)(g:Nat)(cs:Array Value)(x:Nat)(h:x≠g):(w.setRow g cs).heap[x]? = w.heap[x]? := by
 simp only[alN];rw[Array.getElem?_modify];split
 ·rename_i e; exact(h e.symm).elim
 ·rfl
structure Src (P:Program) (E:Env) (sz:Nat) (rows:List (List AV)) (xt:TypeId) (x:Value) (news:List Value):Prop where
 len:∀ w,(Kc x).run P w=.ok rows.length w
 cells:∀ w,(∀ b o,b<E.w.heap.size→w.cell? ⟨b,o,none⟩=E.w.cell? ⟨b,o,none⟩)→(iN sz rows.length x).run P w=.ok news.toArray w
 rel:af E rows.flatten news
 one:∀ v∈news,dJ v=true
 wide:∀ r∈rows,r.length=sz
 closed:ft rows
 kind:∃ d,P.underlying xt=some d∧∀ k,d≠.int k
theorem Src.length{P:Program}{E:Env}{sz:Nat}{rows:List (List AV)}{xt:TypeId}{x:Value}{news:List Value}(h:Src P E sz rows xt x news):news.length=rows.length*sz:=by
 rw[←gG h.rel];have:∀(l:List (List AV)),(∀ r∈l,r.length=sz)→l.flatten.length=l.length*sz:=by
  intro l d
  induction l with
  |nil=>simp
  |cons a l k=>simp[k (fun r hr=>d r (by simp[hr])),d a (by simp),f_,yK]
 exact this rows h.wide
theorem zz{E:Env}{k:Nat}:∀{rows:List (List AV)} {b o:Nat},cL E k rows b o→cw E rows.flatten b o
 | [],_,_,_=>by simp[cw]
 | r::rows,b,o,h=>by
  simp only[cL]at h;obtain⟨h1,d,q⟩:=h;have B:=zz q;rw[jv]at *;intro i a hi;simp only[sx,fM]at hi;split at hi
  ·exact d i a hi
  ·rename_i I
   obtain⟨v,g1,g2,g3⟩:=B (i-r.length) a hi;refine⟨v,?_,g2,g3⟩;rw[←g1];congr 2;omega
theorem zA{E:Env}{k:Nat}:∀{rows:List (List AV)} {b o:Nat},(∀ r∈rows,r.length=k)→cw E rows.flatten b o→cL E k rows b o
 | [],_,_,_,_=>by simp[cL]
 | r::rows,b,o,hk,h=>by
  simp only[cL];have hr:=hk r (by simp);refine⟨hr,?_,?_⟩
  ·have := zo h r.length
   simpa using this
  ·have := sN h r.length
   simp at this;rw[hr]at this;exact zA (fun x d=>hk x (by simp[d])) this
def lU(sz:Nat)(x:AV)(H:List ad):Option (List (List AV)) :=
 match x with
 |.nils | .lit (.slice none 0 0)=>some []
 |.emptyS _=>some []
 |.list w rows=>if w=sz then some rows else none
 |.listF ks rows=>if ks.length=sz then some (rows.map (aH ks)) else none
 | .vec w id ae off n=>match H[id]? with
  |some (.vec k v rows)=>if w=sz∧k=w∧v=ae∧off+n≤rows.length then some ((rows.drop off).take n) else none
  |_=>none
 |.lit (.string s)=>if sz=1 then some (s.data.toList.map fun b=>[.lit (.int .u8 b.toNat)]) else none
 |_=>none
theorem K3{α β:Type}(f:α→β):∀(l:List α),(l.map fun b=>[f b]).flatten=l.map f
 | []=>rfl
 |a::l=>by simp[K3 f l]
theorem zB{P:Program}{E:Env}{sz:Nat}{rows:List (List AV)}{b o cap:Nat}(hr:cL E sz rows b o)(hb:b<E.w.heap.size) :
  ∃ news,af E rows.flatten news∧(∀ v∈news,dJ v=true) ∧
   ∀ w,(∀ b o,b<E.w.heap.size→w.cell? ⟨b,o,none⟩=E.w.cell? ⟨b,o,none⟩)→(iN sz rows.length (.slice (some ⟨b,o,none⟩) rows.length cap)).run P w=.ok news.toArray w:=by
 obtain⟨vs,g1,g2,g3⟩:=vD (zz hr);refine⟨vs,g1,g2,fun w hw=>?_⟩;refine run_firstCells_some (P:=P) w sz rows.length ⟨b,o,none⟩ rows.length cap vs ?_ ?_
 ·rw [← gG g1]
  have:∀(l:List (List AV)) (o:Nat),cL E sz l b o→l.flatten.length=l.length*sz:=by
   intro l
   induction l with
   |nil=>intros; simp
   | cons a l d =>
    intro o h;simp only[cL]at h;simp[d _ h.2.2,h.1,f_,yK]
  exact this rows o hr
 ·intro j v k
  rw[kU,hw b _ hb];exact g3 j v k
theorem Wx{P:Program}{E:Env}(HE:aq E){sz:Nat}{x:AV}{c:Value}{rows:List (List AV)}{xt:TypeId}(h:lU sz x E.H=some rows)(hr:rel E x c)
  (hk:∃ d,P.underlying xt=some d∧∀ k,d≠.int k):∃ news,Src P E sz rows xt c news:=by
 unfold lU at h;split at h
 ·cases h
  simp only[rel]at hr;obtain⟨base,rfl⟩:=hr;refine⟨[],⟨fun w=>rfl,fun w _=>?_,by simp[af],by simp,by simp,(by intro r hr; cases hr),hk⟩⟩;cases base<;>simp[iN,loadCells,loadCellsFrom]
 ·cases h
  simp only[rel]at hr;subst hr;exact⟨[],⟨fun w=>rfl,fun w _=>by simp[iN],by simp[af],by simp,by simp,(by intro r hr; cases hr),hk⟩⟩
 ·cases h
  simp only[rel]at hr;obtain⟨base,cap,rfl,_⟩:=hr;refine⟨[],⟨fun w=>rfl,fun w _=>?_,by simp[af],by simp,by simp,(by intro r hr; cases hr),hk⟩⟩;cases base<;>simp[iN,loadCells,loadCellsFrom]
 ·rename_i w rows'
  split at h
  case isFalse=>cases h
  rename_i hw;subst hw;cases h;simp only[rel]at hr;obtain⟨I,base,cap,rfl,hle,M⟩:=hr;rcases M with rfl|⟨b,o,rfl,bF,q⟩
  ·refine ⟨[], ⟨fun w => rfl, fun w _ => ?_, by simp [af], by simp, by simp, (by intro r hr; cases hr), hk⟩⟩
   cases base<;>simp[iN,loadCells,loadCellsFrom]
  ·obtain ⟨news, g1, g2, g3⟩ := zB (P := P) (cap := cap) q bF.1
   exact⟨news,⟨fun w=>rfl,g3,g1,g2,fun r hr=>by
    obtain⟨i,hi⟩:=pe hr;exact(mR q hi).1,I,hk⟩⟩
 ·rename_i ks V
  split at h
  case isFalse=>cases h
  rename_i hw;subst hw;cases h;have hr:=jx.1 hr;generalize V.map (aH ks)=rows at hr;simp only[rel]at hr;obtain⟨I,base,cap,rfl,hle,M⟩:=hr;rcases M with rfl|⟨b,o,rfl,bF,q⟩
  ·refine ⟨[], ⟨fun w => rfl, fun w _ => ?_, by simp [af], by simp, by simp, (by intro r hr; cases hr), hk⟩⟩
   cases base<;>simp[iN,loadCells,loadCellsFrom]
  ·obtain ⟨news, g1, g2, g3⟩ := zB (P := P) (cap := cap) q bF.1
   exact⟨news,⟨fun w=>rfl,g3,g1,g2,fun r hr=>by
    obtain⟨i,hi⟩:=pe hr;exact(mR q hi).1,I,hk⟩⟩
 ·rename_i w id ae off n
  split at h
  case h_2=>cases h
  rename_i k v rows' hid;split at h
  case isFalse=>cases h
  rename_i W;obtain⟨rfl,rfl,rfl,hle⟩:=W;cases h;simp only[rel]at hr;obtain⟨⟨base,cap,rfl,hcap,_⟩,_,h6⟩:=hr;obtain⟨q1,q2⟩:=h6 ⟨_,hid,rfl⟩;have hn:((rows'.drop off).take n).length=n:=by simp; omega
  rcases HE.obj id _ hid with⟨B,N⟩|⟨b,m,B,N,e3,e4,e5⟩
  ·obtain ⟨rfl, rfl, base', e⟩ := q1 B
   subst N;refine⟨[],⟨fun w=>by rw[hn]; rfl,fun w _=>?_,by simp[af],by simp,by simp,(by intro r hr; simp at hr),hk⟩⟩;cases base<;>simp[iN,loadCells,loadCellsFrom]
  ·obtain ⟨p1, o, p2, O⟩ := q2 b m B
   simp only[kQ]at O;obtain⟨rfl,_,rfl⟩:=O;by_cases hm:off<m
   ·rw [p2 hm]
    have J:=KQ e5 off n;simp only[di]at J;obtain⟨news,g1,g2,g3⟩:=zB (P:=P) (cap:=m-off) J (HE.lt id b m B).1;rw[hn]at g3;refine⟨news,⟨fun w=>by rw[hn]; rfl,by rw[hn]; exact g3,g1,g2,fun r hr=>?_,fun r hr=>e4 r (yO (vj hr)),hk⟩⟩;obtain⟨i,hi⟩:=pe hr;exact(mR J hi).1
   ·have hz : n = 0 := by omega
    subst hz;refine⟨[],⟨fun w=>by rw[hn]; rfl,fun w _=>?_,by simp[af],by simp,by simp,(by intro r hr; simp at hr),hk⟩⟩;simp[iN,loadCells,loadCellsFrom]
 ·rename_i s
  split at h
  case isFalse=>cases h
  rename_i hs;subst hs;cases h;simp only[rel]at hr;subst hr;refine⟨s.data.toList.map fun b=>.int .u8 b.toNat,⟨fun w=>by simp[Kc],fun w _=>?_,?_,?_,?_,?_,hk⟩⟩
  ·simp only [cD, mE, iN]
   have:s.extract 0 s.data.size=s:=by
    have:=ByteArray.extract_zero_size (b:=s);exact this
   rw[this,←VC];rfl
  ·rw [K3]
   have:=pB (E:=E) (s.data.toList.map fun b=>.int .u8 b.toNat);rw[List.map_map]at this;exact this
  ·intro v U; simp at U; obtain⟨b,_,rfl⟩:=U; rfl
  ·intro r hr; simp at hr; obtain⟨b,_,rfl⟩:=hr; rfl
  ·intro r hr; simp at hr; obtain⟨b,_,rfl⟩:=hr; simp[AV.br,AV.closed]
 ·cases h
def sV(P:Program)(t xt:TypeId)(s x:AV)(H:List ad):Option (AV × List ad) :=
 match cg P t with
 | .slice e sz bT =>
  match eJ P e,(match cg P xt with | .slice _ _ _ | .str=>true|_=>false),lU sz x H with
  | some z,true,some new =>
   if z.length=sz∧new.length≤1048576∧bT≤1048576 then
    match s with
    |.nils | .lit (.slice none 0 0)=>some (.vec sz H.length 0 0 new.length,H++[.vec sz 0 new])
    | .vec w id ae off n=>match H[id]? with
     | some (.vec k v rows) =>
      if k=w∧w=sz∧v=ae∧off=0∧n=rows.length∧rows.length+new.length≤1048576 then
       some (.vec w id (ae+1) 0 (n+new.length),H.set id (.vec k (ae+1) (rows++new)))
      else none
     |_=>none
    |_=>none
   else none
  |_,_,_=>none
 |_=>none
theorem DQ{P:Program}{w w':World}{t xt ty e:TypeId}{i:TypeInfo}{sz:Nat}{base:Option Addr}{n cap m:Nat}{x:Value}{d:TypeDesc}
  (I:P.underlying t=some (.slice e)) (J:P.underlying xt=some d) (_hd:∀ k,d≠.int k) (hi:P.info? e=some i) (M:i.size=sz)
  (N:(Kc x).run P w=.ok m w) (B:n+m≤cap) {news:List Value} (hn:(iN sz m x).run P w=.ok news.toArray w)
  (q:(match base with|some a=>storeCells (a.add (n*sz)) news|none=>(pure ():Sem Unit)).run P w=.ok () w') :
  (nS #[t,xt] ty #[.slice base n cap,x]).run P w=.ok (.slice base (n+m) cap) w':=by
 cases base with
 | none =>
  simp at q;subst q;simp[nS,run_underlying I,run_underlying J,sizeOf,typeInfo,hi,M,N,B,hn]
 | some a =>
  simp only[]at q;simp[nS,run_underlying I,run_underlying J,sizeOf,typeInfo,hi,M,N,B,hn,q]
theorem K4{P:Program}{w:World}{t xt ty e:TypeId}{i:TypeInfo}{z:Value}{sz:Nat}{base:Option Addr}{n cap m:Nat}{x:Value}{d:TypeDesc}
  (I:P.underlying t=some (.slice e)) (J:P.underlying xt=some d) (W:∀ k,d≠.int k) (hi:P.info? e=some i) (M:i.size=sz) (N:i.zero=some z)
  (O:(Kc x).run P w=.ok m w) (q:cap<n+m) {olds news:List Value}
  (ho:(iN sz n (.slice base n cap)).run P w.drew=.ok olds.toArray w.drew)
  (hn:(iN sz m x).run P w.drew=.ok news.toArray w.drew)
  (B:n+m≤1048576) (hb:i.bytes≤1048576) :
  ∃ C,n+m≤C∧(nS #[t,xt] ty #[.slice base n cap,x]).run P w =
   .ok (.slice (some ⟨w.heap.size,0,none⟩) (n+m) C) (w.drew.alloc (.cells (olds++news++(yQ z.cells (C-(n+m))).toList).toArray e)):=by
 have h1:¬ (n+m≤cap):=by omega
 have U:¬ (9223372036854775807<((n:Int)+(m:Int))):=by omega
 have h3:Ke (n+m) cap*i.bytes≤281474976710656:=growslice_fits q (by
  have:=alO B hb;omega)
 have V:¬ (281474976710656<Ke (n+m) cap*i.bytes):=by omega
 refine⟨grownCap w (n+m) cap e,?_,?_⟩
 ·simp[grownCap,alP]
 ·simp [nS, run_underlying I, run_underlying J, sizeOf, typeInfo, zeroValue, hi, N, M, O, h1, U, V, alQ, hn, ho, newRow, grownCap]
  congr 2;apply fO;simp
def cZ(E:Env)(v:AV)(H':List ad)(u:Value)(w':World):Prop :=
 ∃ d r',rel { w:=w',H:=H',loc:=d,X:=E.X.re r' } v u∧aq { w:=w',H:=H',loc:=d,X:=E.X.re r' }∧E.le { w:=w',H:=H',loc:=d,X:=E.X.re r' }
theorem K5{E:Env}{as:List AV}{cs:Array Value}{vs tl:List Value}{b:Nat}{el:TypeId}{fr:Nat × Nat}(hb:E.w.heap[b]? = some (.cells cs el fr))(hr:af E as vs)
  (d:cs.toList=vs++tl) (h1:∀ x∈vs,dJ x=true):cw E as b 0:=by
 rw[jv];intro i a hi;obtain⟨v,g1,g2⟩:=oe hr hi;refine⟨v,?_,h1 v (eZ g1),g2⟩;simp only[di,vh,hb];have:cs.toList[i]? = some v:=by rw[d,cT (aK g1)]; exact g1
 simpa using this
theorem Wy{E:Env}{as:List AV}{cs:Array Value}{b:Nat}{el:TypeId}{fr:Nat × Nat}(hb:E.w.heap[b]? = some (.cells cs el fr))(hr:cw E as b 0) :
  af E as (cs.toList.take as.length)∧(∀ x∈cs.toList.take as.length,dJ x=true)∧as.length≤cs.size:=by
 obtain⟨vs,g1,g2,g3⟩:=vD hr;have q:=gG g1;have k:∀(j:Nat) v,vs[j]? = some v→cs.toList[j]? = some v:=by
  intro j v d;have:=g3 j v d;simpa[vh,hb]using this
 have B:vs.length≤cs.size:=by
  rcases Nat.eq_zero_or_pos vs.length with h|h
  ·omega
  ·have := k (vs.length - 1) vs[vs.length - 1] (bf (by omega))
   have:=aK this;simp at this;omega
 have:cs.toList.take as.length=vs:=by
  rw[q];apply kR;intro j;rw[o_];split
  ·rename_i d
   rw[k j vs[j] (bf d),bf d]
  ·rename_i d
   rw[nQ (by omega)]
 rw[this];exact⟨g1,g2,by omega⟩
theorem sW{sz:Nat}:∀{l:List (List AV)},(∀ r∈l,r.length=sz)→l.flatten.length=l.length*sz
 | [],_=>by simp
 |a::l,h=>by simp[sW (l:=l) (fun r hr=>h r (by simp[hr])),h a (by simp),f_,yK]
theorem DR{E:Env}{k:Nat}{rows:List (List AV)}{b o:Nat}(h:cL E k rows b o):∀ r∈rows,r.length=k:=by
 intro r hr;obtain⟨i,hi⟩:=pe hr;exact(mR h hi).1
theorem K6(w:World)(o:Obj):Ext w (w.drew.alloc o) :=
 ⟨by show w.heap.size ≤ (w.heap.push o).size; simp, fun b hb => by
  show (w.heap.push o)[b]? = _
  simp[yL,alF hb],⟨rfl,rfl,rfl,by first|exact fun _=>aD _|exact fun _=>fq _ _⟩⟩
theorem K7(w:World)(o:Obj):(w.drew.alloc o).heap[w.heap.size]? = some o:=by
 show (w.heap.push o)[w.heap.size]? = _
 simp
theorem DS{E E':Env}{sz m C:Nat}{rows:List (List AV)}{vals:List Value}{rest:List Value}{b:Nat}{e:TypeId}(B:∀ a c,rel E a c→rel E' a c)
  (hb:E'.w.heap[b]? = some (.cells (vals++rest).toArray e (0,0))) (hr:af E rows.flatten vals) (h1:∀ x∈vals,dJ x=true)
  (hw:∀ r∈rows,r.length=sz) (hlen:rows.length=m) (hC:m≤C) (d:rest.length=(C-m)*sz) :
  isRow E'.w b (C*sz)∧cL E' sz rows b 0:=by
 have k:af E' rows.flatten vals:=by
  rw[n_]at *;exact⟨hr.1,fun i a v ha q=>B a v (hr.2 i a v ha q)⟩
 refine⟨⟨_,e,hb,?_⟩,zA hw (K5 hb k (by simp; rfl) h1)⟩;have:=gG hr;rw[sW hw,hlen]at this;simp only[C8,eD,←this,d,←f_];congr 1;omega
theorem K8{P:Program}{e:TypeId}{z:List Value}(h:eJ P e=some z):∃ i v,P.info? e=some i∧i.zero=some v∧v.cells.toList=z :=
 let ⟨i,v,h1,d,k,_⟩:=mT h
 ⟨i,v,h1,d,k⟩
theorem K9{E:Env}(HE:aq E){sz C m:Nat}{new:List (List AV)}{vals rest:List Value}{e:TypeId}(hr:af E new.flatten vals)(h1:∀ x∈vals,dJ x=true)
  (hw:∀ r∈new,r.length=sz) (B:ft new) (hm:new.length=m) (hC:m≤C) (q:rest.length=(C-m)*sz) :
  cZ E (.vec sz E.H.length 0 0 m) (E.H++[.vec sz 0 new]) (.slice (some ⟨E.w.heap.size,0,none⟩) m C) (E.w.drew.alloc (.cells (vals++rest).toArray e)):=by
 have d:=K6 E.w (.cells (vals++rest).toArray e);have hle:=Env.kl (o:=.vec sz 0 new) (l:=some (E.w.heap.size,C)) HE.len d (fun b n hb=>by cases hb; exact aD _);have hblk:=K7 E.w (.cells (vals++rest).toArray e);have k:=DS (E':=E.push (E.w.drew.alloc (.cells (vals++rest).toArray e)) (.vec sz 0 new) (some (E.w.heap.size,C))) (fun a c hr=>bI hle a hr) hblk hr h1 hw hm hC q;refine⟨E.loc++[some (E.w.heap.size,C)],E.X.r,?_,aq.push HE d (fun b n hb=>?_) ?_,hle⟩
 ·simp only [rel]
  refine⟨⟨_,_,rfl,hC,fun _=>⟨_,_,rfl⟩⟩,⟨.vec sz 0 new,by simp,rfl,fun v I=>by simp[ad.aG]at I; omega⟩,fun _=>⟨fun hn=>?_,fun b M hn=>?_⟩⟩
  ·rw[←HE.len]at hn; simp at hn
  ·rw [← HE.len] at hn
   simp at hn;obtain⟨rfl,rfl⟩:=hn;exact⟨by omega,0,fun _=>by simp,by simp⟩
 ·cases hb
  exact⟨aD _,by show _<(E.w.heap.push _).size; simp⟩
 ·simp only [aN]
  right;refine⟨E.w.heap.size,C,?_,k.1,by omega,B,k.2⟩;simp only[Env.push];rw[←HE.len];simp
theorem Wz{E:Env}(HE:aq E){sz:Nat}(base:Option Addr) :
  cZ E (.vec sz E.H.length 0 0 0) (E.H++[.vec sz 0 []]) (.slice base 0 0) E.w:=by
 have hle:=Env.kl (o:=.vec sz 0 []) (l:=none) HE.len (Ext.refl E.w) (fun b n hb=>by cases hb);refine⟨E.loc++[none],E.X.r,?_,aq.push HE (Ext.refl _) (fun b n hb=>by cases hb) ?_,hle⟩
 ·simp only [rel]
  refine⟨⟨_,_,rfl,aD _,fun h=>by omega⟩,⟨.vec sz 0 [],by simp,rfl,fun v d=>by simp[ad.aG]at d; omega⟩,fun _=>⟨fun _=>⟨trivial,trivial,base,rfl⟩,fun b M hn=>?_⟩⟩;rw[←HE.len]at hn;simp at hn
 ·simp only [aN]
  left;refine⟨?_,trivial⟩;simp only[Env.push];rw[←HE.len];simp
theorem DT(P:Program)(a:Addr)(w:World):(storeCells a []).run P w=.ok () w:=rfl
theorem DU{P:Program}{E:Env}{sz:Nat}{rows:List (List AV)}{xt:TypeId}{x:Value}{news:List Value}(h:Src P E sz rows xt x news)(hr:rows=[]):news=[]:=by
 have:=h.length;rw[hr]at this;simp at this;exact this
theorem K_{P:Program}{E:Env}(HE:aq E){t xt ty e:TypeId}{sz bT:Nat}{z:List Value}{new:List (List AV)}{base:Option Addr}{B:Value}{news:List Value}
  (hk:cg P t=.slice e sz bT) (hz:eJ P e=some z) (k:Src P E sz new xt B news) (hb1:new.length≤1048576) (hb2:bT≤1048576) (V:z.length=sz) :
  ∃ u w',(nS #[t,xt] ty #[.slice base 0 0,B]).run P E.w=.ok u w'∧cZ E (.vec sz E.H.length 0 0 new.length) (E.H++[.vec sz 0 new]) u w':=by
 obtain⟨hu,i,hi,O,hby⟩:=hG hk;obtain⟨i',zv,J,W,hz2⟩:=K8 hz;rw[hi]at J;cases J;obtain⟨d,M,N⟩:=k.kind;cases q:new with
 | nil =>
  have hn:=DU k q;subst hn;subst q;refine⟨.slice base (0+0) 0,E.w,DQ (m:=0) hu M N hi O (k.len E.w) (aD _) (k.cells E.w (fun _ _ _=>rfl)) ?_,Wz HE base⟩;cases base with
  |none=>rfl
  |some a=>exact DT P _ _
 | cons r rs =>
  rw[←q];have hpos:0<new.length:=by rw[q]; simp
  have U:∀ b o,b<E.w.heap.size→E.w.drew.cell? ⟨b,o,none⟩=E.w.cell? ⟨b,o,none⟩:=fun _ _ _=>rfl;obtain⟨C,hC,I⟩:=K4 (P:=P) (w:=E.w) (ty:=ty) (base:=base) (n:=0) (cap:=0) (m:=new.length) (x:=B) (olds:=[]) hu M N hi O W (k.len E.w) (by omega)
   (by cases base<;>simp[iN,loadCells,loadCellsFrom]) (k.cells _ U) (by omega) (by omega)
  simp only[di,ki]at I;refine⟨_,_,I,K9 HE k.rel k.one k.wide k.closed rfl (by omega) ?_⟩;simp only[mE,size_zeroCells];rw[←V,←hz2];simp
theorem WA{P:Program}{xt:TypeId}(h:(match cg P xt with | .slice _ _ _ | .str=>true|_=>false)=true):∃ d,P.underlying xt=some d∧∀ k,d≠.int k:=by
 split at h
 ·rename_i hk
  exact⟨_,(hG hk).1,by simp⟩
 ·rename_i hk
  exact⟨_,qV hk,by simp⟩
 ·cases h
theorem mV{α:Type}{l:List α}{i:Nat}{x:α}(h:l[i]? = some x):l.set i x=l:=by
 apply kR;intro j;rw[eC];split
 ·rename_i e
  subst e;rw[h];split
  ·rfl
  ·rename_i d; exact(d (aK h)).elim
 ·rfl
theorem WB{P:Program}{E:Env}(HE:aq E){t xt ty e id ae:TypeId}{sz bT:Nat}{z:List Value}{rows new:List (List AV)}{c cx:Value}{news:List Value}
  (hk:cg P t=.slice e sz bT) (hz:eJ P e=some z) (k:Src P E sz new xt cx news) (hb1:rows.length+new.length≤1048576) (hb2:bT≤1048576) (hzl:z.length=sz)
  (hid:E.H[id]? = some (.vec sz ae rows)) (hr:rel E (.vec sz id ae 0 rows.length) c) :
  ∃ u w',(nS #[t,xt] ty #[c,cx]).run P E.w=.ok u w' ∧
   cZ E (.vec sz id (ae+1) 0 (rows.length+new.length)) (E.H.set id (.vec sz (ae+1) (rows++new))) u w':=by
 obtain⟨hu,i,hi,hs,hby⟩:=hG hk;obtain⟨i',zv,hi',hz1,hz2⟩:=K8 hz;rw[hi]at hi';cases hi';obtain⟨d,hd1,hd2⟩:=k.kind;simp only[rel]at hr;obtain⟨⟨base,cap,rfl,hcap,hbase⟩,hpast,hlive⟩:=hr;obtain⟨q1,q2⟩:=hlive ⟨_,hid,rfl⟩;have hlt:=aK hid;have N:(∀ v,(ad.vec sz (ae+1) (rows++new)).aG = some v→∀ u,(ad.vec sz ae rows).aG = some u→u<v):=by
  intro v J u hu; simp[ad.aG]at J hu; omega
 have U:∀ v u,(ad.vec sz (ae+1) (rows++new)).aG = some v→(ad.vec sz ae rows).aG = some u→u≤v:=by
  intro v u J hu; simp[ad.aG]at J hu; omega
 have O:(ad.vec sz ae rows).aG = none→(ad.vec sz (ae+1) (rows++new)).aG = none:=by simp[ad.aG]
 have hpast':∀(w':World) loc',Env.past { w:=w',H:=E.H.set id (.vec sz (ae+1) (rows++new)),loc:=loc',X:=E.X } id (ae+1):=fun w' loc' =>
  ⟨_,bC hlt,rfl,fun v J=>by simp[ad.aG]at J; omega⟩
 have hcells:∀ b o,b<E.w.heap.size→E.w.drew.cell? ⟨b,o,none⟩=E.w.cell? ⟨b,o,none⟩:=fun _ _ _=>rfl;by_cases I:rows.length+new.length≤cap
 ·-- in place
  rcases HE.obj id _ hid with⟨q,V⟩|⟨b,M,q,V,e3,e4,W⟩
  ·obtain ⟨hn0, _, base', ee⟩ := q1 q
   simp only[kQ]at ee;obtain⟨rfl,_,rfl⟩:=ee;have hnil:new=[]:=by
    cases new with
    |nil=>rfl
    |cons a l=>simp at I
   have hnews:=DU k hnil;subst hnews;subst hnil;subst V;refine⟨_,E.w,DQ (m:=0) hu hd1 hd2 hi hs (k.len E.w) (aD _) (k.cells E.w (fun _ _ _=>rfl)) ?_,E.loc.set id none,E.X.r,?_,?_,?_⟩
   ·cases base with
    |none=>rfl
    |some a=>exact DT P _ _
   ·simp only [rel]
    refine⟨⟨_,_,rfl,aD _,fun h=>by simp at h⟩,hpast' _ _,fun _=>⟨fun _=>⟨by simp,trivial,base,by simp⟩,fun b M hn=>?_⟩⟩;rw[bC (by rw[HE.len]; exact hlt)]at hn;cases hn
   ·refine aq.lR HE hid (aD _) (fun _ _ _ => rfl) (fun _ _ h => by cases h) (.inr N) U (fun _ => O) ?_
    simp only[aN];left;exact⟨by rw[bC (by rw[HE.len]; exact hlt)],by simp⟩
   ·exact Env.km hid HE.len (aD _) (fun _ _ _=>rfl) (fun _ _ h=>by cases h) (.inr N) U (fun _=>O)
  ·obtain ⟨_, o, p2, p3⟩ := q2 b M q
   simp only[kQ,gU]at p3;obtain⟨rfl,_,rfl⟩:=p3;obtain⟨cur,el,hblk,hsize⟩:=V;have hcurl:=Wy hblk (zz W);have hwide:=DR W;have hflat:=sW hwide;have hnl:=k.length;have hstore:∃ w',(storeCells ((Addr.mk b o none).add (rows.length*sz)) news).run P E.w=.ok () w'∧w'.heap.size=E.w.heap.size∧ep E.w w'∧(∀ x,x≠b→w'.heap[x]? = E.w.heap[x]?) ∧
     w'.heap[b]? = some (.cells (cur.toList.take (rows.length*sz)++news++cur.toList.drop (rows.length*sz+news.length)).toArray el (0,0)):=by
    by_cases hM:0<cap
    ·rw [p2 hM, kU, sA, di]
     have hfit2:rows.length*sz+0+news.length≤cur.size:=by
      rw[hnl,hsize,mG,←f_];exact vl _ I
     have hst:=run_storeCells_at P b (rows.length*sz) el news 0 cur E.w hblk hfit2 (fun v J=>by rw[zy]; exact k.one v J);refine⟨_,hst,setRow_size _ _ _,⟨rfl,rfl,rfl,by first|exact fun _=>aD _|exact fun _=>fq _ _⟩,fun x B=>setRow_other _ _ _ _ B,?_⟩;rw[setRow_heap _ _ _ _ _ _ hblk];simp
    ·have h0 : cap = 0 := by omega
     have hn0:new=[]:=by
      cases new with
      |nil=>rfl
      |cons a l=>simp at I; omega
     have:=DU k hn0;subst this;refine⟨E.w,DT P _ _,rfl,⟨rfl,rfl,rfl,by first|exact fun _=>aD _|exact fun _=>fq _ _⟩,fun _ _=>rfl,?_⟩;rw[hblk];simp
   obtain⟨w',hst,hsz,henv,hother,hb'⟩:=hstore;have hloc:E.loc.set id (some (b,cap))=E.loc:=mV q;have hle:E.le { w:=w',H:=E.H.set id (.vec sz (ae+1) (rows++new)),loc:=E.loc.set id (some (b,cap)),X:=E.X } :=
    Env.km hid HE.len (by omega) (fun x B aA=>hother x (fun ex=>aA cap (by rw[ex]; exact q))) (fun b' n' h=>by cases h; exact .inr ⟨cap,q⟩) (.inr N) U (fun _=>O)
   refine⟨_,w',DQ (m:=new.length) hu hd1 hd2 hi hs (k.len E.w) I (k.cells E.w (fun _ _ _=>rfl)) hst,E.loc.set id (some (b,cap)),E.X.r,?_,?_,hle⟩
   ·simp only [rel]
    refine⟨⟨_,_,rfl,I,fun _=>⟨b,o,rfl⟩⟩,hpast' _ _,fun _=>⟨fun hn=>?_,fun b' M hn=>?_⟩⟩
    ·rw[hloc,q]at hn; cases hn
    ·rw [hloc, q] at hn
     simp only[aY,a8]at hn;obtain⟨rfl,rfl⟩:=hn;exact⟨by omega,o,fun h=>by simpa using p2 (by simpa using h),by simp⟩
   ·refine aq.lR HE hid (by omega) (fun x B aA => hother x (fun ex => aA cap (by rw [ex]; exact q))) (fun b' n' h => by cases h; exact .inr ⟨cap, q⟩) (.inr N) U (fun _ => O) ?_
    simp only[aN];right;refine⟨b,cap,by rw[hloc]; exact q,?_,by simpa using I,?_,?_⟩
    ·refine ⟨_, el, hb', ?_⟩
     have hfit2:rows.length*sz+news.length≤cap*sz:=by rw[hnl,←f_]; exact vl _ I
     simp only[C8,eD,jq,pg,mE,hsize];omega
    ·intro r hr
     rcases cQ.1 hr with h|h
     ·exact e4 r h
     ·exact k.closed r h
    ·have hall:∀ r∈rows++new,r.length=sz:=by
      intro r hr;rcases cQ.1 hr with h|h
      ·exact hwide r h
      ·exact k.wide r h
     refine zA hall (K5 hb' (vs:=cur.toList.take (rows.length*sz)++news) (tl:=cur.toList.drop (rows.length*sz+news.length)) ?_ (by simp) ?_)
     ·rw [yR]
      refine kW ?_ (dK hle _ k.rel);have:=dK hle _ hcurl.1;rw[hflat]at this;exact this
     ·intro x B
      rcases cQ.1 B with h|h
      ·exact hcurl.2.1 x (by rw[hflat]; exact h)
      ·exact k.one x h
 ·-- it moves
  have holds:∃ olds:List Value,af E rows.flatten olds∧(∀ x∈olds,dJ x=true)∧(∀ r∈rows,r.length=sz)∧ft rows ∧
    (iN sz rows.length (.slice base rows.length cap)).run P E.w.drew=.ok olds.toArray E.w.drew:=by
   rcases HE.obj id _ hid with⟨q,V⟩|⟨b,M,q,V,e3,e4,W⟩
   ·subst V
    refine⟨[],by simp[af],by simp,by simp,(fun r hr=>by cases hr),?_⟩;cases base<;>simp[iN,loadCells,loadCellsFrom]
   ·obtain ⟨_, o, p2, p3⟩ := q2 b M q
    simp only[kQ,gU]at p3;obtain⟨rfl,_,rfl⟩:=p3;by_cases hM:0<cap
    ·have ho := p2 hM
     rw[sA]at ho;subst ho;obtain⟨vs,g1,g2,g3⟩:=zB (P:=P) (cap:=cap) W (HE.lt id b cap q).1;exact⟨vs,g1,g2,DR W,e4,g3 _ hcells⟩
    ·have:rows=[]:=by
      cases rows with
      |nil=>rfl
      |cons a l=>simp at hcap; omega
     subst this;exact⟨[],by simp[af],by simp,by simp,fun r hr=>by(cases hr),by simp[iN,loadCells,loadCellsFrom]⟩
  obtain⟨olds,g1,g2,g3,g4,g5⟩:=holds;obtain⟨C,hC,hrun⟩:=K4 (P:=P) (w:=E.w) (ty:=ty) (base:=base) (n:=rows.length) (cap:=cap) (m:=new.length) (x:=cx) (olds:=olds) hu hd1 hd2 hi hs hz1 (k.len E.w) (by omega)
   g5 (k.cells _ hcells) (by omega) (by omega)
  generalize hrest:(yQ zv.cells (C-(rows.length+new.length))).toList=rest at hrun;have hrl:rest.length=(C-(rows.length+new.length))*sz:=by
   rw[←hrest];simp only[mE,size_zeroCells];rw[←hzl,←hz2];simp
  generalize hw':E.w.drew.alloc (.cells (olds++news++rest).toArray e)=w' at hrun;have hext:Ext E.w w':=by rw[←hw']; exact K6 _ _
  have hblk:w'.heap[E.w.heap.size]? = some (.cells (olds++news++rest).toArray e (0,0)):=by rw[←hw']; exact K7 _ _
  have hltw:E.w.heap.size<w'.heap.size:=(Array.getElem?_eq_some_iff.1 hblk).1;have hle:E.le { w:=w',H:=E.H.set id (.vec sz (ae+1) (rows++new)),loc:=E.loc.set id (some (E.w.heap.size,C)),X:=E.X } :=
   Env.km hid HE.len hext.size (fun x B _=>hext.same x B) (fun b n h=>by cases h; exact .inl (aD _)) (.inr N) U (fun _=>O)
  have hall:∀ r∈rows++new,r.length=sz:=by
   intro r hr;rcases cQ.1 hr with h|h
   ·exact g3 r h
   ·exact k.wide r h
  have hlocs:(E.loc.set id (some (E.w.heap.size,C)))[id]? = some (some (E.w.heap.size,C)):=bC (by rw[HE.len]; exact hlt);have hrow:=DS (E:=E) (E':={ w:=w',H:=E.H.set id (.vec sz (ae+1) (rows++new)),loc:=E.loc.set id (some (E.w.heap.size,C)),X:=E.X })
   (rows:=rows++new) (vals:=olds++news) (m:=rows.length+new.length) (fun a c hr=>bI hle a hr) hblk
   (by rw[yR]; exact kW g1 k.rel)
   (by intro x B; rcases cQ.1 B with h|h; exact g2 x h; exact k.one x h) hall (by simp) hC hrl
  refine⟨_,w',hrun,E.loc.set id (some (E.w.heap.size,C)),E.X.r,?_,?_,hle⟩
  ·simp only [rel]
   refine⟨⟨_,_,rfl,hC,fun _=>⟨_,_,rfl⟩⟩,hpast' _ _,fun _=>⟨fun hn=>?_,fun b' M hn=>?_⟩⟩
   ·rw[hlocs]at hn; cases hn
   ·rw [hlocs] at hn
    simp only[aY,a8]at hn;obtain⟨rfl,rfl⟩:=hn;exact⟨by omega,0,fun _=>by simp,by simp⟩
  ·refine aq.lR HE hid hext.size (fun x B _ => hext.same x B) (fun b n h => by cases h; exact .inl ⟨aD _, hltw⟩) (.inr N) U (fun _ => O) ?_
   simp only[aN];right;refine⟨E.w.heap.size,C,hlocs,hrow.1,by simpa using hC,?_,hrow.2⟩;intro r hr;rcases cQ.1 hr with h|h
   ·exact g4 r h
   ·exact k.closed r h
theorem WC{P:Program}{E:Env}(HE:aq E){t xt ty:TypeId}{s x v:AV}{H':List ad}{c J:Value}(h:sV P t xt s x E.H=some (v,H'))
  (d:rel E s c) (V:rel E x J):∃ u w',(nS #[t,xt] ty #[c,J]).run P E.w=.ok u w'∧cZ E v H' u w':=by
 unfold sV at h;split at h
 case h_2=>cases h
 rename_i e sz bT hk;split at h
 case h_2=>cases h
 rename_i z new B O N;split at h
 case isFalse=>cases h
 rename_i W;obtain⟨h1,M,I⟩:=W;obtain⟨news,q⟩:=Wx (P:=P) HE N V (WA O);split at h
 ·cases h
  simp only[rel]at d;obtain⟨base,rfl⟩:=d;exact K_ HE hk B q M I h1
 ·cases h
  simp only[rel]at d;subst d;exact K_ HE hk B q M I h1
 ·split at h
  case h_2=>cases h
  rename_i k v rows hid;split at h
  case isFalse=>cases h
  rename_i U;obtain⟨rfl,rfl,rfl,rfl,rfl,hb⟩:=U;cases h;exact WB HE hk B q hb I h1 hid d
 ·cases h
end Go.AL

namespace Go.AL
open Go
variable [Dr]
theorem La{w w':World}{b off:Nat}{cur:Array Value}{vals:List Value}{el:TypeId}{fr:Nat × Nat}(hblk:w.heap[b]? = some (.cells cur el fr))
  (k:w'.heap[b]? = some (.cells (cur.toList.take off++vals++cur.toList.drop (off+vals.length)).toArray el fr)) (B:off+vals.length≤cur.size) (i:Nat) :
  w'.cell? ⟨b,i,none⟩=if off≤i∧i<off+vals.length then vals[i-off]? else w.cell? ⟨b,i,none⟩:=by
 simp only[vh,hblk,k,Option.isSome_none,lG,if_false,List.getElem?_toArray,fM,eD,jq,mE,
  o_,qG]
 have h1:min off cur.size=off:=by omega
 rw[h1];by_cases c1:i<off
 ·have c2 : ¬ (off ≤ i ∧ i < off + vals.length) := by omega
  have d:i<off+vals.length:=by omega
  rw[if_neg c2];simp[c1,d]
 ·by_cases c2 : i < off + vals.length
  ·have d : off ≤ i ∧ i < off + vals.length := by omega
   simp[c1,c2,d]
  ·have d : ¬ (off ≤ i ∧ i < off + vals.length) := by omega
   have q:off+vals.length+(i-(off+vals.length))=i:=by omega
   rw[if_neg c2,if_neg d,q];simp
theorem DV{E E':Env}{b o col:Nat}{cur:Array Value}{as cs:List AV}{vals:List Value}{el:TypeId}{fr:Nat × Nat}(d:∀ a c,rel E a c→rel E' a c)
  (hblk:E.w.heap[b]? = some (.cells cur el fr))
  (B:E'.w.heap[b]? = some (.cells (cur.toList.take (o+col)++vals++cur.toList.drop (o+col+vals.length)).toArray el fr)) (q:o+col+vals.length≤cur.size)
  (hr:cw E as b o) (k:af E cs vals) (h1:∀ x∈vals,dJ x=true) (I:col+cs.length≤as.length) :
  cw E' (as.take col++cs++as.drop (col+cs.length)) b o:=by
 have hlen:=gG k;rw[jv]at hr⊢;intro i a hi;rw[La hblk B q];simp only[fM,eD,jq,o_,qG]at hi;have hm:min col as.length=col:=by omega
 rw[hm]at hi;by_cases c1:i<col
 ·have c2 : i < col + cs.length := by omega
  rw[if_pos c2,if_pos c1,if_pos c1]at hi;obtain⟨v,g1,g2,g3⟩:=hr i a hi;exact⟨v,by rw[if_neg (by omega)]; exact g1,g2,d _ _ g3⟩
 ·by_cases c2 : i < col + cs.length
  ·rw [if_pos c2, if_neg c1] at hi
   obtain⟨v,g1,g2⟩:=oe k hi;refine⟨v,?_,h1 v (eZ g1),d _ _ g2⟩;rw[if_pos (by omega),←g1];congr 1;omega
  ·rw [if_neg c2] at hi
   have:col+cs.length+(i-(col+cs.length))=i:=by omega
   rw[this]at hi;obtain⟨v,g1,g2,g3⟩:=hr i a hi;exact⟨v,by rw[if_neg (by omega)]; exact g1,g2,d _ _ g3⟩
theorem Env.og{E:Env}{w':World}{id b n:Nat}{o o':ad}(HE:aq E)(hid:E.H[id]? = some o) (k:E.loc[id]? = some (some (b,n)))
  (q:∀ v,o'.aG = some v→o.aG = some v) (J:w'.heap.size=E.w.heap.size) (B:∀ x,x≠b→w'.heap[x]? = E.w.heap[x]?) (I:ep E.w w':=by first|exact⟨rfl,rfl,rfl,by first|exact fun _=>aD _|exact fun _=>fq _ _⟩|assumption|exact Ext.env (by assumption)) (hmm:o.dy=none∨o'.dy=o.dy∨o'.aG = none:=by first|exact .inl rfl|exact .inr (.inl rfl)|exact .inr (.inr rfl)|exact .inl (ad.zg (by assumption))|assumption) (M:o.born=true→o'.born=true:=by first|exact fun _=>rfl|exact fun h=>h|assumption) :
  E.le { w:=w',H:=E.H.set id o',loc:=E.loc,X:=E.X }:=by
 have h:=Env.km (w':=w') (o':=o') (l:=some (b,n)) hid HE.len (by omega) (fun x _ aA=>B x (fun e=>aA n (by rw[e]; exact k))) (fun N O h=>by cases h; exact .inr ⟨n,k⟩)
  (.inl fun v d => ⟨q v d, k⟩) (fun v u d hu => by rw [q v d] at hu; cases hu; exact aD _) (fun _ hn => by
   cases d:o'.aG with
   |none=>rfl
   |some v=>rw[q v d]at hn; cases hn) I hmm
 rwa [mV k]at h
theorem aq.set{E:Env}{w':World}{id b n:Nat}{o o':ad}(HE:aq E)(hid:E.H[id]? = some o) (d:E.loc[id]? = some (some (b,n)))
  (q:∀ v,o'.aG = some v→o.aG = some v) (J:w'.heap.size=E.w.heap.size) (B:∀ x,x≠b→w'.heap[x]? = E.w.heap[x]?)
  (ho:aN { w:=w',H:=E.H.set id o',loc:=E.loc,X:=E.X } id o') (I:ep E.w w':=by first|exact⟨rfl,rfl,rfl,by first|exact fun _=>aD _|exact fun _=>fq _ _⟩|assumption|exact Ext.env (by assumption)) (hlab:o.label=none:=by first|rfl|assumption) (M:o'.label=none:=by first|rfl|assumption) (N:o.born=true→o'.born=true:=by first|exact fun _=>rfl|exact fun h=>h|assumption):aq { w:=w',H:=E.H.set id o',loc:=E.loc,X:=E.X }:=by
 have h:=aq.lR (w':=w') (o':=o') (l:=some (b,n)) HE hid (by omega) (fun x _ aA=>B x (fun e=>aA n (by rw[e]; exact d))) (fun O U h=>by cases h; exact .inr ⟨n,d⟩)
  (.inl fun v k => ⟨q v k, d⟩) (fun v u k hu => by rw [q v k] at hu; cases hu; exact aD _) (fun _ hn => by
   cases k:o'.aG with
   |none=>rfl
   |some v=>rw[q v k]at hn; cases hn) (by rw[mV d]; exact ho) I
 rwa [mV d]at h
def putCells(as cs:List AV)(col:Nat):List AV:=as.take col++cs++as.drop (col+cs.length)
def sX(P:Program)(t:TypeId)(x v:AV)(H:List ad):Option (List ad) :=
 match e_ P t,qW v,x with
 | some (n,_),some cs,.ptr id ae w row col =>
  if cs.length=n then
   match H[id]? with
   |some (.box cells)=>if ae=0∧row=0∧col+n≤cells.length then some (H.set id (.box (putCells cells cs col))) else none
   | some (.vec k u rows) =>
    if ae=u∧k=w∧AV.br cs=true then
     match rows[row]? with
     |some r=>if col+n≤r.length then some (H.set id (.vec k u (rows.set row (putCells r cs col)))) else none
     |none=>none
    else none
   |_=>none
  else none
 |_,_,_=>none
theorem Lb{as cs:List AV}{col:Nat}(h:col+cs.length≤as.length):(putCells as cs col).length=as.length:=by
 simp[putCells]; omega
theorem DW:∀(a b:List AV),AV.br (a++b)=(AV.br a&&AV.br b)
 | [],b=>by simp[AV.br]
 |x::a,b=>by simp[AV.br,DW a b,alI]
theorem Lc{P:Program}{E:Env}(HE:aq E){t:TypeId}{x v:AV}{c d:Value}{H':List ad}(h:sX P t x v E.H=some H')(V:rel E x c)(J:rel E v d) :
  ∃ w',(Kg t c d).run P E.w=.ok () w'∧aq { w:=w',H:=H',loc:=E.loc,X:=E.X }∧E.le { w:=w',H:=H',loc:=E.loc,X:=E.X }:=by
 unfold sX at h;split at h
 case h_2=>cases h
 rename_i n ag cs id ae w row col ht hcs;obtain⟨i,dd,hi,hd,hs,ha⟩:=mQ ht;obtain⟨hrel,h1⟩:=DM hcs J;split at h
 case isFalse=>cases h
 rename_i hn;have hlen:=gG hrel;have hsz:d.cells.size=n:=by rw[←hn,hlen]; simp
 simp only[rel]at V;obtain⟨_,hpast,hlive⟩:=V;split at h
 ·rename_i cells hid
  split at h
  case isFalse=>cases h
  rename_i hc;obtain⟨rfl,rfl,hcol⟩:=hc;cases h;obtain⟨b,m,M,rfl⟩:=hlive ⟨_,hid,rfl⟩;obtain⟨b',m',O,⟨cur,el,hblk,hsize⟩,e3⟩:=HE.obj id _ hid;rw[M]at O;cases O;have B:col+0+d.cells.toList.length≤cur.size:=by rw[hsize]; simp; omega
  have N:=run_storeCells_at P b col el d.cells.toList 0 cur E.w hblk B (fun v J=>by rw[zy]; exact h1 v J);simp only[mG]at N B;generalize I:E.w.setRow b (cur.toList.take col++d.cells.toList++cur.toList.drop (col+d.cells.toList.length)).toArray=w' at N;have W:w'.heap.size=E.w.heap.size:=by rw[←I]; exact setRow_size _ _ _
  have henv:ep E.w w':=by rw[←I]; exact⟨rfl,rfl,rfl,by first|exact fun _=>aD _|exact fun _=>fq _ _⟩
  have hother:∀ x,x≠b→w'.heap[x]? = E.w.heap[x]? := by intro x V; rw[←I]; exact setRow_other _ _ _ _ V
  have U:w'.heap[b]? = some (.cells (cur.toList.take col++d.cells.toList++cur.toList.drop (col+d.cells.toList.length)).toArray el (0,0)):=by
   rw[←I]; exact setRow_heap E.w b cur _ el (0,0) hblk
  have hver:∀ v,(ad.box (putCells cells cs col)).aG = some v→(ad.box cells).aG = some v:=fun v J=>by simpa[ad.aG]using J
  have hle:=Env.og (o':=.box (putCells cells cs col)) HE hid M hver W hother;refine⟨w',?_,aq.set HE hid M hver W hother ?_,hle⟩
  ·simp only [Kg, pb, bY, fN, b_, storeVar, Sem.run_sizeOf hi, hs, sA, di]
   rw[if_neg (by omega)];exact N
  ·simp only [aN]
   refine⟨b,m,M,⟨_,el,U,?_⟩,?_⟩
   ·rw [Lb (by omega)]
    simp only[C8,eD,jq,pg,mE]at B⊢;omega
   ·exact DV (o:=0) (col:=col) (fun a c hr=>bI hle a hr) hblk (by simpa using U) (by simpa using B) e3 hrel h1 (by omega)
 ·rename_i k u rows hid
  split at h
  case isFalse=>cases h
  rename_i hc;obtain⟨rfl,rfl,hclosed⟩:=hc;split at h
  case h_2=>cases h
  rename_i r hrow;split at h
  case isFalse=>cases h
  rename_i hcol;cases h;obtain⟨b,m,M,rfl⟩:=hlive ⟨_,hid,rfl⟩;rcases HE.obj id _ hid with⟨_,O⟩|⟨b',m',O,⟨cur,el,hblk,hsize⟩,e3,e4,e5⟩
  ·subst O; simp at hrow
  rw[M]at O;cases O;have hrlt:=aK hrow;obtain⟨hrk,hrc⟩:=mR e5 hrow;rw[di]at hrc;have hrow1:(row+1)*k≤m*k:=vl _ (by omega);rw[f_,Kh]at hrow1;have B:row*k+col+0+d.cells.toList.length≤cur.size:=by rw[hsize]; simp; omega
  have N:=run_storeCells_at P b (row*k+col) el d.cells.toList 0 cur E.w hblk B (fun v J=>by rw[zy]; exact h1 v J);simp only[mG]at N B;generalize I:E.w.setRow b (cur.toList.take (row*k+col)++d.cells.toList++cur.toList.drop (row*k+col+d.cells.toList.length)).toArray=w' at N;have W:w'.heap.size=E.w.heap.size:=by rw[←I]; exact setRow_size _ _ _
  have henv:ep E.w w':=by rw[←I]; exact⟨rfl,rfl,rfl,by first|exact fun _=>aD _|exact fun _=>fq _ _⟩
  have hother:∀ x,x≠b→w'.heap[x]? = E.w.heap[x]? := by intro x V; rw[←I]; exact setRow_other _ _ _ _ V
  have U:w'.heap[b]? = some (.cells (cur.toList.take (row*k+col)++d.cells.toList++cur.toList.drop (row*k+col+d.cells.toList.length)).toArray el (0,0)):=by
   rw[←I]; exact setRow_heap E.w b cur _ el (0,0) hblk
  have hver:∀ v,(ad.vec k ae (rows.set row (putCells r cs col))).aG = some v→(ad.vec k ae rows).aG = some v:=fun v J=>by simpa[ad.aG]using J
  have hle:=Env.og (o':=.vec k ae (rows.set row (putCells r cs col))) HE hid M hver W hother;refine⟨w',?_,aq.set HE hid M hver W hother ?_,hle⟩
  ·simp only [Kg, pb, bY, fN, b_, storeVar, Sem.run_sizeOf hi, hs]
   rw[if_neg (by omega)];exact N
  ·simp only [aN]
   right;refine⟨b,m,M,⟨_,el,U,?_⟩,by simpa using e3,?_,?_⟩
   ·simp only [C8, eD, jq, pg, mE, hsize] at B ⊢
    omega
   ·intro r' hr'
    rcases List.mem_or_eq_of_mem_set hr' with h'|h'
    ·exact e4 r' h'
    ·rw [h', putCells, DW, DW]
     have:=e4 r (eZ hrow);simp[zp _ _ this,vC _ _ this,hclosed]
   ·rw [mO] at e5 ⊢
    intro j r' hj;rw[eC]at hj;split at hj
    ·rename_i ej
     subst ej;cases hj;refine⟨by rw[Lb (by omega)]; exact hrk,?_⟩;rw[di];exact DV (fun a c hr=>bI hle a hr) hblk U B hrc hrel h1 (by omega)
    ·rename_i ej
     obtain⟨g1,g2⟩:=e5 j r' hj;refine⟨g1,?_⟩;rw[jv]at g2⊢;intro q a hq;obtain⟨vv,p1,p2,p3⟩:=g2 q a hq;refine⟨vv,?_,p2,bI hle a p3⟩;have hql:=aK hq;rw[La hblk U B,if_neg]
     ·exact p1
     ·rcases Nat.lt_or_gt_of_ne ej with hlt | hgt
      ·have : (row + 1) * k ≤ j * k := vl _ (by omega)
       rw[f_,Kh]at this;simp only[mE];omega
      ·have : (j + 1) * k ≤ row * k := vl _ (by omega)
       rw[f_,Kh]at this;omega
 ·cases h
theorem Ld{E:Env}(HE:aq E){cells:List AV}{vals:Array Value}{el:TypeId}(hr:af E cells vals.toList)(h1:∀ x∈vals.toList,dJ x=true) :
  cZ E (.ptr E.H.length 0 0 0 0) (E.H++[.box cells]) (.pointer (some ⟨E.w.heap.size,0,none⟩)) { E.w with heap:=E.w.heap.push (.cells vals el) }:=by
 have d:=Ext.push E.w (.cells vals el);have hle:=Env.kl (o:=.box cells) (l:=some (E.w.heap.size,0)) HE.len d (fun b n hb=>by cases hb; exact aD _);have hblk:(E.w.heap.push (.cells vals el))[E.w.heap.size]? = some (.cells vals el (0,0)):=by simp
 have k:af (E.push { E.w with heap:=E.w.heap.push (.cells vals el) } (.box cells) (some (E.w.heap.size,0))) cells vals.toList:=dK hle _ hr;refine⟨E.loc++[some (E.w.heap.size,0)],E.X.r,?_,aq.push HE d (fun b n hb=>?_) ?_,hle⟩
 ·simp only [rel]
  refine⟨⟨_,_,rfl⟩,⟨.box cells,by simp,rfl,fun v q=>by simp⟩,fun _=>⟨E.w.heap.size,0,?_,by simp⟩⟩;rw[←HE.len]; simp
 ·cases hb
  exact⟨aD _,by simp⟩
 ·simp only [aN]
  refine⟨E.w.heap.size,0,?_,⟨vals,el,hblk,?_⟩,DP (cs:=vals) (el:=el) (fr:=(0,0)) hblk k h1⟩
  ·simp only[Env.push]; rw[←HE.len]; simp
  ·have := gG hr
   simpa using this.symm
def zC(P:Program)(t:TypeId):Option TypeId:=match eJ P t with
 | some [.pointer none,.slice none 0 0]=>match P.underlying t with
  | some (.struct d)=>match d[1]? with
   | some fd=>match P.underlying fd.type with
    | some (.slice e)=>match P.underlying e with
     |some (.int .u8)=>some e
     |_=>none
    |_=>none
   |none=>none
  |_=>none
 |_=>none
theorem WD{P:Program}{t e:TypeId}(h:zC P t=some e):eJ P t=some [.pointer none,.slice none 0 0]:=by
 unfold zC at h;split at h
 ·assumption
 ·cases h
def lV(H:List ad)(l:Nat):Bool:=H.all fun o=>match o.label with
 |some k => !ab k l
 |none=>true
theorem sY{H:List ad}{l:Nat}(h:lV H l=true)(i:Nat)(o:ad)(hi:H[i]? = some o):o.label≠some l:=fun e=>by
 have:=dB.1 h o (eZ hi);rw[e]at this;simp at this
theorem WE{E:Env}(HE:aq E){t e:TypeId}(d:lV E.H 0=true) :
  cZ E (.ptr E.H.length 0 0 0 0) (E.H++[.fh 0 t e yJ]) (.pointer (some ⟨E.w.heap.size,0,none⟩)) { E.w with heap:=E.w.heap.push (.cells #[.pointer none,.slice none 0 0] t) }:=by
 have q:=Ext.push E.w (.cells #[.pointer none,.slice none 0 0] t);obtain⟨h1,B⟩:=aq.We (o:=.fh 0 t e yJ) (l:=some (E.w.heap.size,0)) (l0:=0) HE q (fun b n hb=>by cases hb; exact⟨aD _,by simp⟩) rfl (sY d) (by
  simp only[aN];refine⟨E.w.heap.size,0,.pointer none,.slice none 0 0,(E.X.r 0).length,none,?_,?_,.inl rfl,?_,?_,⟨rfl,rfl⟩⟩
  ·rw[←HE.len]; simp
  ·simp
  ·simp[iS,XS.re]
  ·intro h' k I
   rcases Dz (show (iS E.X.r 0 0)[h']? = some (some k) from I)with g|⟨_,g,_⟩
   ·exact(HE.gH 0 (sY d) h' k g).elim
   ·exact g)
 refine⟨E.loc++[some (E.w.heap.size,0)],iS E.X.r 0,?_,h1,B⟩;simp only[rel];refine⟨⟨_,_,rfl⟩,⟨.fh 0 t e yJ,by simp,rfl,fun v J=>by simp⟩,fun _=>⟨E.w.heap.size,0,?_,by simp⟩⟩;rw[←HE.len]; simp
def qY(P:Program)(t:TypeId)(H:List ad):Option (AV × List ad) :=
 match zC P t with
 |some e=>if lV H 0=true then some (.ptr H.length 0 0 0 0,H++[.fh 0 t e yJ]) else none
 | none=>match eJ P t with
  |some z=>some (.ptr H.length 0 0 0 0,H++[.box (z.map .lit)])
  |none=>none
theorem WG{P:Program}{E:Env}(HE:aq E){t:TypeId}{v:AV}{H':List ad}(h:qY P t E.H=some (v,H')) :
  ∃ u w',(C9 t true (.tuple #[])).run P E.w=.ok u w'∧cZ E v H' u w':=by
 unfold qY at h;split at h
 ·rename_i e he
  split at h
  case isFalse=>cases h
  rename_i J;cases h;obtain⟨i,k,h1,q,d,I⟩:=mT (WD he);have B:k.cells=#[.pointer none,.slice none 0 0]:=fO (by simpa using d);refine⟨_,_,?_,WE HE (t:=t) (e:=e) J⟩;simp[C9,mU h1 q,newVar,newRow,B]
 split at h
 ·rename_i z B
  cases h;obtain⟨i,k,h1,q,d,I⟩:=mT B;refine⟨_,_,?_,Ld HE (vals:=k.cells) (el:=t) (by rw[d]; exact pB z) (by rw[d]; exact I)⟩;simp[C9,mU h1 q,newVar,newRow]
 ·cases h
def zc:Option (List Kd)→Value→AV
 |some ks,.slice none 0 0=>.listF ks []
 |_,v=>.lit v
def er:List (Option (List Kd))→List Value→List AV
 |_,[]=>[]
 | [],v::z=>.lit v::er [] z
 |a::m,v::z=>zc a v::er m z
theorem zF:∀(m:List (Option (List Kd))) (z:List Value),(er m z).length=z.length
 | [],[]=>rfl
 |_::_,[]=>rfl
 | [],v::z=>by simp[er,zF [] z]
 |a::m,v::z=>by simp[er,zF m z]
theorem WH{E:Env}(a:Option (List Kd))(v:Value):rel E (zc a v) v:=by
 unfold zc;split
 ·simp only [rel, eF]
  exact⟨none,0,rfl,aD _,.inl rfl⟩
 ·simp[rel]
theorem DX{E:Env}:∀(m:List (Option (List Kd))) (z:List Value),af E (er m z) z
 | [],[]=>by simp[er,af]
 |_::_,[]=>by simp[er,af]
 | [],v::z=>by simp only[er,af]; exact⟨by simp[rel],DX [] z⟩
 |a::m,v::z=>by simp only[er,af]; exact⟨WH a v,DX m z⟩
theorem WI(a:Option (List Kd))(v:Value):(zc a v).closed=true:=by
 unfold zc;split<;>rfl
theorem DY:∀(m:List (Option (List Kd))) (z:List Value),AV.br (er m z)=true
 | [],[]=>rfl
 |_::_,[]=>rfl
 | [],v::z=>by simp[er,AV.br,AV.closed,DY [] z]
 |a::m,v::z=>by simp[er,AV.br,WI,DY m z]
def pG(P:Program)(t:TypeId)(id:Nat) (m:List (Option (List Kd))) (H:List ad):Option (AV × List ad) :=
 match eJ P t,H[id]? with
 |some z,some (.vec k 0 [])=>if k=z.length then some (.ptr id 1 k 0 0,H.set id (.vec k 1 [er m z])) else none
 |_,_=>none
theorem WJ{E:Env}(HE:aq E){id k:Nat}{cells:List AV}{vals:Array Value}{el:TypeId}(hid:E.H[id]? = some (.vec k 0 []))(hr:af E cells vals.toList)(h1:∀ x∈vals.toList,dJ x=true)(hk:cells.length=k)
  (U:AV.br cells=true) :
  cZ E (.ptr id 1 k 0 0) (E.H.set id (.vec k 1 [cells])) (.pointer (some ⟨E.w.heap.size,0,none⟩)) { E.w with heap:=E.w.heap.push (.cells vals el) }:=by
 have q:=Ext.push E.w (.cells vals el);have N:=aK hid;have I:∀ v,(ad.vec k 1 [cells]).aG = some v→∀ u,(ad.vec k 0 []).aG = some u→u<v:=by
  intro v d u hu;simp[ad.aG]at d hu;omega
 have O:∀ v u,(ad.vec k 1 [cells]).aG = some v→(ad.vec k 0 []).aG = some u→u≤v:=by
  intro v u d hu;simp[ad.aG]at d hu;omega
 have J:(ad.vec k 0 []).aG = none→(ad.vec k 1 [cells]).aG = none:=by simp[ad.aG]
 have hle:E.le { w:={ E.w with heap:=E.w.heap.push (.cells vals el) },H:=E.H.set id (.vec k 1 [cells]),loc:=E.loc.set id (some (E.w.heap.size,1)),X:=E.X } :=
  Env.km hid HE.len q.size (fun x B _=>q.same x B) (fun b n h=>by cases h; exact .inl (aD _)) (.inr I) O (fun _=>J)
 have hblk:(E.w.heap.push (.cells vals el))[E.w.heap.size]? = some (.cells vals el (0,0)):=by simp
 have M:(E.loc.set id (some (E.w.heap.size,1)))[id]? = some (some (E.w.heap.size,1)):=bC (by rw[HE.len]; exact N);have V:=dK hle _ hr;refine⟨E.loc.set id (some (E.w.heap.size,1)),E.X.r,?_,?_,hle⟩
 ·simp only [rel]
  refine⟨⟨_,_,rfl⟩,⟨.vec k 1 [cells],by simp[N],rfl,fun v d=>by simp[ad.aG]at d; omega⟩,fun _=>⟨E.w.heap.size,1,M,by simp⟩⟩
 ·refine aq.lR HE hid q.size (fun x B _ => q.same x B) (fun b n h => by cases h; exact .inl ⟨aD _, by simp⟩) (.inr I) O (fun _ => J) ?_
  simp only[aN];right;refine⟨E.w.heap.size,1,M,⟨vals,el,hblk,?_⟩,by simp,?_,?_⟩
  ·have := gG hr
   rw[Kh,←hk];simpa using this.symm
  ·intro r hr
   simp at hr;rw[hr];exact U
  ·simp only [cL, and_true]
   exact⟨hk,DP (cs:=vals) (el:=el) (fr:=(0,0)) hblk V h1⟩
theorem WK{P:Program}{E:Env}(HE:aq E){t:TypeId}{id:Nat}{m:List (Option (List Kd))}{v:AV}{H':List ad}(h:pG P t id m E.H=some (v,H')) :
  ∃ u w',(C9 t true (.tuple #[])).run P E.w=.ok u w'∧cZ E v H' u w':=by
 unfold pG at h;split at h
 ·rename_i z k q hid
  split at h
  ·rename_i hk
   cases h;obtain⟨i,B,h1,I,d,J⟩:=mT q;refine⟨_,_,?_,WJ HE (vals:=B.cells) (el:=t) hid (by rw[d]; exact DX m z) (by rw[d]; exact J) (by rw[zF,hk]) (DY m z)⟩;simp[C9,mU h1 I,newVar,newRow]
  ·cases h
 ·cases h
def zG(v:AV)(H:List ad):Option (AV × List ad) :=
 match qW v with
 |some cs=>some (.ptr H.length 0 0 0 0,H++[.box cs])
 |none=>none
theorem WL{P:Program}{E:Env}(HE:aq E){t:TypeId}{x v:AV}{c:Value}{H':List ad}(h:zG x E.H=some (v,H'))(k:rel E x c) :
  ∃ u w',(alR t c).run P E.w=.ok u w'∧cZ E v H' u w':=by
 unfold zG at h;split at h
 ·rename_i cs d
  cases h;obtain⟨h1,q⟩:=DM d k;refine⟨_,_,?_,Ld HE (vals:=c.cells) (el:=t) h1 q⟩;simp[alR,newVar,newRow]
 ·cases h
theorem Le{E:Env}(HE:aq E){sz n C:Nat}{rows:List (List AV)}{vals rest:List Value}{el:TypeId}(hr:af E rows.flatten vals)(h1:∀ x∈vals,dJ x=true)
  (hw:∀ r∈rows,r.length=sz) (B:ft rows) (hn:rows.length=n) (hC:n≤C) (q:rest.length=(C-n)*sz) :
  cZ E (.vec sz E.H.length 0 0 n) (E.H++[.vec sz 0 rows]) (.slice (some ⟨E.w.heap.size,0,none⟩) n C) { E.w with heap:=E.w.heap.push (.cells (vals++rest).toArray el) }:=by
 have d:=Ext.push E.w (.cells (vals++rest).toArray el);have hle:=Env.kl (o:=.vec sz 0 rows) (l:=some (E.w.heap.size,C)) HE.len d (fun b n hb=>by cases hb; exact aD _);have hblk:(E.w.heap.push (.cells (vals++rest).toArray el))[E.w.heap.size]? = some (.cells (vals++rest).toArray el (0,0)):=by simp
 have k:=DS (E':=E.push { E.w with heap:=E.w.heap.push (.cells (vals++rest).toArray el) } (.vec sz 0 rows) (some (E.w.heap.size,C))) (fun a c hr=>bI hle a hr) hblk hr h1 hw hn hC q;refine⟨E.loc++[some (E.w.heap.size,C)],E.X.r,?_,aq.push HE d (fun b n hb=>?_) ?_,hle⟩
 ·simp only [rel]
  refine⟨⟨_,_,rfl,hC,fun _=>⟨_,_,rfl⟩⟩,⟨.vec sz 0 rows,by simp,rfl,fun v I=>by simp[ad.aG]at I; omega⟩,fun _=>⟨fun hn=>?_,fun b M hn=>?_⟩⟩
  ·rw[←HE.len]at hn; simp at hn
  ·rw [← HE.len] at hn
   simp at hn;obtain⟨rfl,rfl⟩:=hn;exact⟨by omega,0,fun _=>by simp,by simp⟩
 ·cases hb
  exact⟨aD _,by simp⟩
 ·simp only [aN]
  right;refine⟨E.w.heap.size,C,?_,k.1,by omega,B,k.2⟩;simp only[Env.push];rw[←HE.len];simp
theorem range_zero(z:Array Value)(n:Nat)(B:0<z.size):((gW (n*z.size)).map (fun i=>z[i%z.size]!)).toList=(cd n z.toList).flatten:=by
 induction n with
 |zero=>simp
 | succ n k =>
  rw[List.replicate_succ',yR,←k];simp only[sx,List.flatten_nil,dh];apply kR;intro i;simp only[VC,Array.toList_range,bU,fM,cD,List.length_range];by_cases c1:i<n*z.size
  ·have c2 : i < (n + 1) * z.size := by rw [f_]; omega
   simp[c1,c2]
  ·by_cases c2 : i < (n + 1) * z.size
   ·have d : i - n * z.size < z.size := by rw [f_] at c2; omega
    have q:i%z.size=i-n*z.size:=by
     have:i=i-n*z.size+n*z.size:=by omega
     rw[this,Nat.add_mul_mod_self_right,Nat.mod_eq_of_lt d];omega
    simp[c1,c2,q,d]
   ·have d : ¬ (i - n * z.size < z.size) := by rw [f_] at c2; omega
    simp[c1,c2,d]
theorem Lf(f:Nat→Value):Ki f (gW 0)=#[]:=by apply fO; simp
def WM:Value→Option Kd
 |.int k _=>some (.int k)
 |.string _=>some .str
 |.bool _=>some .bool
 |_=>none
def DZ:List Value→Option (List Kd)
 | []=>some []
 | v::vs=>match WM v,DZ vs with
  |some k,some ks=>some (k::ks)
  |_,_=>none
def D0(P:Program)(t:TypeId):Option (List Kd):=match P.underlying t with
 | some (.slice e)=>match P.info? e with
  | some i=>match i.zero with
   |some (.agg cs)=>DZ cs.toList
   |some v=>DZ [v]
   |none=>none
  |none=>none
 |_=>none
def D1(P:Program):Nat→TypeId→List TypeId
 |0,t=>[t]
 | d+1,t=>match P.underlying t with
  |some (.struct k)=>(k.toList.map fun f=>D1 P d f.type).flatten
  |some (.array n e)=>(cd n (D1 P d e)).flatten
  |_=>[t]
def oh:List Value→List (Option (List Kd))→List AV
 | [],_=>[]
 | v::vs,ks=>(match v,ks.headD none with
  |.slice none 0 0,some k=>.listF k []
  |v,_=>.lit v)::oh vs ks.tail
def zH(P:Program)(e:TypeId)(z:List Value):List AV:=oh z ((D1 P 4 e).map (D0 P))
theorem Lg:∀(z:List Value) (ks:List (Option (List Kd))),(oh z ks).length=z.length
 | [],_=>rfl
 |_::z,ks=>by simp[oh,Lg z]
theorem Lh{E:Env}:∀(z:List Value) (ks:List (Option (List Kd))),af E (oh z ks) z
 | [],_=>by simp[oh,af]
 | v::z,ks=>by
  simp only[oh,af];refine⟨?_,Lh z _⟩;split
  ·simp only [rel, eF, G.rows]
   exact⟨none,0,rfl,aD _,.inl (by first|rfl|trivial)⟩
  ·simp[rel]
theorem Li:∀(z:List Value) (ks:List (Option (List Kd))),AV.br (oh z ks)=true
 | [],_=>rfl
 | v::z,ks=>by
  simp only[oh,AV.br,Li z,eS];split<;>rfl
theorem Lj{E:Env}{as:List AV}{z:List Value}(h:af E as z):∀ n:Nat,af E (cd n as).flatten (cd n z).flatten
 |0=>by simp[af]
 | n+1=>by
  simp only[VD,sx];exact kW h (Lj h n)
def vH(P:Program)(t:TypeId)(l c:AV)(H:List ad):Option (AV × List ad) :=
 match cg P t,l,c with
 | .slice e sz bT,.lit (.int _ l),.lit (.int _ c) =>
  match eJ P e with
  | some z=>if z.length=sz∧0<sz∧0≤l∧l≤c∧c≤1048576∧bT≤1048576 then
    some (.vec sz H.length 0 0 l.toNat,H++[.vec sz 0 (cd l.toNat (zH P e z))]) else none
  |none=>none
 |_,_,_=>none
theorem wrap_small{n:Int}(h0:0≤n)(h1:n≤1048576):IntKind.i64.wrap n=n:=by
 simp[IntKind.wrap,IntKind.bits,IntKind.signed];omega
theorem vI{E:Env}(z:List Value):∀ n:Nat,af E (cd n (z.map AV.lit)).flatten (cd n z).flatten
 |0=>by simp[af]
 | n+1=>by
  simp only[VD,sx];exact kW (pB z) (vI z n)
theorem vJ{α:Type}{z:List α}{n:Nat}{x:α}(h:x∈(cd n z).flatten):x∈z:=by
 obtain⟨l,h1,d⟩:=List.mem_flatten.1 h;rw[VE h1]at d;exact d
theorem D2:∀(z:List Value),AV.br (z.map .lit)=true
 | []=>rfl
 |v::z=>by simp[AV.br,AV.closed,D2 z]
theorem WN{P:Program}{E:Env}(HE:aq E){t:TypeId}{l c v:AV}{cl N:Value}{H':List ad}(h:vH P t l c E.H=some (v,H'))
  (O:rel E l cl) (U:rel E c N):∃ u w',(alS t cl N).run P E.w=.ok u w'∧cZ E v H' u w':=by
 unfold vH at h;split at h
 case h_2=>cases h
 rename_i e sz bT k1 l k2 c hk;simp only[rel]at O U;subst O; subst U;obtain⟨hu,i,hi,hs,hby⟩:=hG hk;split at h
 case h_2=>cases h
 rename_i z hz;split at h
 case isFalse=>cases h
 rename_i W;obtain⟨g1,g2,g3,g4,g5,g6⟩:=W;cases h;obtain⟨i',d,I,hz1,J,hz3⟩:=mT hz;rw[hi]at I;cases I;have wl:IntKind.i64.wrap l=l:=wrap_small g3 (by omega);have wc:IntKind.i64.wrap c=c:=wrap_small (by omega) g5;have hbc:(i.bytes:Int)*c≤1048576*1048576:=by
  have h1:(i.bytes:Int)≤1048576:=by omega
  have k:(0:Int)≤c:=by omega
  exact Int.mul_le_mul h1 g5 k (by omega)
 have aA:¬ (281474976710656<(i.bytes:Int)*c):=by omega
 have hzs:d.cells.size=sz:=by rw[←g1,←J]; simp
 have B:(cd l.toNat z).flatten++(cd (c.toNat-l.toNat) z).flatten=(cd c.toNat z).flatten:=by
  rw[←yR,List.replicate_append_replicate];congr 2;omega
 obtain⟨vals,q⟩:∃ vals,vals=(cd l.toNat z).flatten:=⟨_,rfl⟩
 obtain⟨rest,M⟩:∃ rest,rest=(cd (c.toNat-l.toNat) z).flatten:=⟨_,rfl⟩
 have hrest:rest.length=(c.toNat-l.toNat)*sz:=by rw[M]; simp[g1]
 rw[←q,←M]at B;refine⟨.slice (some ⟨E.w.heap.size,0,none⟩) l.toNat c.toNat,{ E.w with heap:=E.w.heap.push (.cells (vals++rest).toArray e) },?_,?_⟩
 ·have h1 : ¬ c < 0 := by omega
  have k:¬ l<0:=by omega
  have h3:¬ c<l:=by omega
  simp only[alS,bY,Sem.bu hu,b_,asInt,asIntOf,fN,typeInfo,run_program,hi,wl,wc];rw[if_neg (by simp[h1,k,h3,aA])];simp only[bY,run_askRoom,b_,Sem.run_sizeOf hi];rw[B];by_cases h0:c.toNat*i.size=0
  ·have:c.toNat=0:=by
    rcases VF.1 h0 with h|h
    ·exact h
    ·omega
   rw[if_pos h0];simp only[bY,fN,b_,newRow,this,sA,Lf];simp
  ·rw [if_neg h0]
   simp only[bY,mU hi hz1,b_,fN,newRow];have:(Ki (fun x=>d.cells[x%d.cells.size]!) (gW (c.toNat*i.size)))=(cd c.toNat z).flatten.toArray:=by
    apply fO;rw[hs,←hzs,range_zero d.cells c.toNat (by omega),J]
   rw[this];simp
 ·refine Le HE (C := c.toNat) (by rw [q]; exact Lj (Lh z _) _) (by intro x V; rw [q] at V; exact hz3 x (vJ V)) ?_ ?_ (by simp) (by omega) hrest
  ·intro r hr
   have:=VE hr;rw[this];rw[zH,Lg]; exact g1
  ·intro r hr
   have:=VE hr;rw[this];exact Li z _
def sZ(P:Program)(t:TypeId)(n:Nat)(parts:List (Nat × AV)):Option AV :=
 match cg P t with
 | .slice e sz _=>match eJ P e with
  | some z=>if z.length=sz∧0<sz∧n*sz≤1048576 then
    match qX (fun i=>some (i*sz,sz)) (cd n (z.map AV.lit)).flatten parts with
    |some out=>if AV.br out=true∧out.length=n*sz then some (match n with|0=>.nils|_=>.list sz (chunk sz n out)) else none
    |none=>none
   else none
  |none=>none
 |_=>none
theorem WO{P:Program}{E:Env}(HE:aq E){t:TypeId}{n:Nat}{parts:List (Nat × AV)}{cparts:List (Nat × Value)}{v:AV}(h:sZ P t n parts=some v)
  (hm:parts.map (·.1)=cparts.map (·.1)) (hv:af E (parts.map (·.2)) (cparts.map (·.2))) :
  ∃ u w',(Kk t n cparts.toArray).run P E.w=.ok u w'∧Ext E.w w'∧rel { E with w:=w' } v u:=by
 unfold sZ at h;split at h
 case h_2=>cases h
 rename_i e sz bT hk;obtain⟨hu,i,hi,q,_⟩:=hG hk;split at h
 case h_2=>cases h
 rename_i z hz;obtain⟨i',B,M,W,N,hz3⟩:=mT hz;rw[hi]at M;cases M;split at h
 case isFalse=>cases h
 rename_i hc;obtain⟨g1,g2,g3⟩:=hc;split at h
 case h_2=>cases h
 rename_i out V;split at h
 case isFalse=>cases h
 rename_i O;cases h;have hzs:B.cells.size=sz:=by rw[←g1,←N]; simp
 obtain⟨d,k⟩:∃ d:Array Value,d.toList=(cd n z).flatten:=⟨((cd n z).flatten).toArray,by simp⟩
 obtain⟨o,f1,f2,f3⟩:=vF (E:=E) (cs:=d) V (by rw[k]; exact vI z n) (by rw[k]; intro x I; exact hz3 x (vJ I)) hm hv;have J:=Ext.push E.w (.cells o e);have hblk:(E.w.heap.push (.cells o e))[E.w.heap.size]? = some (.cells o e (0,0)):=by simp
 refine⟨.slice (some ⟨E.w.heap.size,0,none⟩) n n,{ E.w with heap:=E.w.heap.push (.cells o e) },?_,J,?_⟩
 ·have hno : ¬ (n * i.size > 2 ^ 24) := by rw [q]; omega
  simp only[Kk,bY,Sem.bu hu,b_,Sem.run_sizeOf hi];rw[if_neg hno];by_cases h0:n*i.size=0
  ·have U:n=0:=by
    rcases VF.1 h0 with h|h
    ·exact h
    ·omega
   have:d=#[]:=by apply fO; rw[k,U]; rfl
   rw[if_pos h0];rw[this]at f1;simp only[bY,fN,b_,U,sA,Lf,q,f1];simp[newRow]
  ·rw [if_neg h0]
   simp only[bY,mU hi W,b_,fN];have:(Ki (fun x=>B.cells[x%B.cells.size]!) (gW (n*i.size)))=d:=by
    apply fO;rw[q,←hzs,range_zero B.cells n (by omega),N,k]
   rw[this,q,f1];simp[newRow]
 ·have hle : E.le { E with w := { E.w with heap := E.w.heap.push (.cells o e) } } := Env.jQ J
  cases n with
  |zero=>simp only[rel]; exact⟨_,rfl⟩
  |succ n =>
  simp only[rel];refine⟨DO sz _ out O.1,some ⟨E.w.heap.size,0,none⟩,n+1,by rw[vG],by rw[vG]; exact aD _,.inr ⟨E.w.heap.size,0,rfl,?_,?_⟩⟩
  ·refine ⟨by simp, ?_, fun I => by have := HE.X _ I; omega⟩
   rintro ho;have:=(HE.zk ho).1;omega
  ·exact KZ sz _ out _ 0 O.2 (DP (cs:=o) (el:=e) (fr:=(0,0)) hblk (dK hle _ f2) f3)
end Go.AL

namespace Go.AL
open Go
variable [Dr]
def zI(P:Program)(t:TypeId)(x:AV)(H:List ad):Option (AV × List ad) :=
 match cg P t,x with
 |.str,.lit (.string s)=>some (.ptr H.length 0 0 0 0,H++[.iter s 0])
 |_,_=>none
theorem WQ{E:Env}(HE:aq E)(s:ByteArray) :
  cZ E (.ptr E.H.length 0 0 0 0) (E.H++[.iter s 0]) (.pointer (some ⟨E.w.heap.size,0,none⟩)) { E.w with heap:=E.w.heap.push (.stringIter s 0) }:=by
 have d:=Ext.push E.w (.stringIter s 0);have hle:=Env.kl (o:=.iter s 0) (l:=some (E.w.heap.size,0)) HE.len d (fun b n hb=>by cases hb; exact aD _);have hblk:(E.w.heap.push (.stringIter s 0))[E.w.heap.size]? = some (.stringIter s 0):=by simp
 refine⟨E.loc++[some (E.w.heap.size,0)],E.X.r,?_,aq.push HE d (fun b n hb=>?_) ?_,hle⟩
 ·simp only [rel]
  refine⟨⟨_,_,rfl⟩,⟨.iter s 0,by simp,rfl,fun v k=>by simp⟩,fun _=>⟨E.w.heap.size,0,?_,by simp⟩⟩;rw[←HE.len]; simp
 ·cases hb
  exact⟨aD _,by simp⟩
 ·simp only [aN]
  refine⟨E.w.heap.size,0,?_,hblk⟩;simp only[Env.push]; rw[←HE.len]; simp
theorem WR{P:Program}{E:Env}(HE:aq E){t:TypeId}{x v:AV}{c:Value}{H':List ad}(h:zI P t x E.H=some (v,H'))(d:rel E x c) :
  ∃ u w',(VG t c).run P E.w=.ok u w'∧cZ E v H' u w':=by
 unfold zI at h;split at h
 ·rename_i s hk
  cases h;simp only[rel]at d;subst d;refine⟨_,_,?_,WQ HE s⟩;simp[VG,Sem.bu (qV hk),newObj];rfl
 ·cases h
def zJ(x:AV)(isString:Bool)(H:List ad):Option (AV × List ad) :=
 match x,isString with
 | .ptr id 0 _ 0 0,true=>match H[id]? with
  | some (.iter s pos)=>if pos<s.size then some (.tuple [.lit (.bool true),.lit (goInt pos),.lit (.int .i32 (ph s pos).1)],H.set id (.iter s (pos+(ph s pos).2)))
    else some (.tuple [.lit (.bool false)],H)
  |_=>none
 |_,_=>none
theorem WS{P:Program}{E:Env}(HE:aq E){x v:AV}{c:Value}{isString:Bool}{ty:TypeId}{H':List ad}(h:zJ x isString E.H=some (v,H'))(N:rel E x c) :
  ∃ u w',(Instr.next c isString ty).run P E.w=.ok u w'∧cZ E v H' u w':=by
 unfold zJ at h;split at h
 case h_2=>cases h
 rename_i id k;split at h
 case h_2=>cases h
 rename_i s pos hid;have ho:=HE.obj id _ hid;simp only[aN]at ho;obtain⟨b,n,h1,q⟩:=ho;simp only[rel]at N;obtain⟨_,_,O⟩:=N;obtain⟨W,n',g1,g2⟩:=O ⟨_,hid,rfl⟩;rw[h1]at g1;simp only[aY,a8]at g1;obtain⟨rfl,rfl⟩:=g1;have hb:=(HE.lt id b n h1).1;split at h
 ·rename_i d
  cases h;subst g2;have M:({ E.w with heap:=E.w.heap.setIfInBounds b (.stringIter s (pos+(ph s pos).2)) }:World).heap.size=E.w.heap.size:=by simp
  have J:∀ y,y≠b→({ E.w with heap:=E.w.heap.setIfInBounds b (.stringIter s (pos+(ph s pos).2)) }:World).heap[y]? = E.w.heap[y]? := by
   intro y U;simp only[C_];rw[if_neg (fun e=>U e.symm)]
  refine⟨.tuple #[.bool true,goInt pos,.int .i32 (ph s pos).1],{ E.w with heap:=E.w.heap.setIfInBounds b (.stringIter s (pos+(ph s pos).2)) },?_,E.loc,E.X.r,?_,?_,?_⟩
  ·have B : (getObj b).run P E.w = .ok (.stringIter s pos) E.w := by simp [getObj, gX, q]
   have V:(setObj b (.stringIter s (pos+(ph s pos).2))).run P E.w=.ok () { E.w with heap:=E.w.heap.setIfInBounds b (.stringIter s (pos+(ph s pos).2)) }:=by
    simp[setObj,gX,q]
   simp only[Instr.next,sA,mG,bY,B,b_,d,if_true];rw[V];rfl
  ·simp[rel,af]
  ·exact HE.set hid h1 (fun v I=>I) M J (by
    simp only[aN];exact⟨b,n,h1,by simp[hb]⟩)
  ·exact Env.og HE hid h1 (fun v I=>I) M J
 ·rename_i d
  cases h;subst g2;refine⟨.tuple #[.bool false],E.w,?_,E.loc,E.X.r,by simp[rel,af],by simpa using HE,Env.le.refl E⟩;have B:(getObj b).run P E.w=.ok (.stringIter s pos) E.w:=by simp[getObj,gX,q]
  simp only[Instr.next,sA,mG,bY,B,b_,d,if_false];rfl
end Go.AL

namespace Go.AL
open Go
variable [Dr]
def h_(P:Program)(d:TypeId)(a:AV):Option (List Value) :=
 match flatK P od d with
 |none=>none
 | some ks=>match a with
  |.lit v=>if cM ks [v]=true∧ob (P.underlying d)=false then some [v] else none
  | .agg as=>match oa as with
   |some l=>if cM ks l=true∧ob (P.underlying d)=true then some l else none
   |none=>none
  |_=>none
def om(P:Program)(d:TypeId)(l:List Value)(c:Value):Prop:=isVal P d c l∧∃ ks,flatK P od d=some ks∧cM ks l=true
theorem iU{P:Program}{E:Env}{k:TypeId}{a:AV}{l:List Value}{c:Value}(h:h_ P k a=some l)(hr:rel E a c):om P k l c:=by
 unfold h_ at h;split at h
 ·cases h
 rename_i ks hk;split at h
 ·split at h
  ·rename_i v d
   cases h;simp only[rel]at hr;subst hr;refine⟨?_,ks,hk,d.1⟩;unfold isVal;split
   ·rename_i q hu
    rw[hu]at d;exact absurd d.2 (by simp[ob])
   ·rfl
  ·cases h
 ·split at h
  ·rename_i as l' I
   split at h
   ·rename_i d
    cases h;simp only[rel]at hr;obtain⟨cs,rfl,_,J⟩:=hr;refine⟨?_,ks,hk,d.1⟩;have e:=zx I J;unfold isVal;split
    ·exact⟨cs,rfl,e⟩
    ·rename_i B
     exfalso;have:=d.2;unfold ob at this;split at this
     ·rename_i q hu
      exact B q hu
     ·cases this
   ·cases h
  ·cases h
 ·cases h
theorem Lk{P:Program}:∀(d:Nat) (q:List Field) (off:Nat) (ks:List SK),vE P d q off=some ks→∀(xs:Array Value),cM ks (xs.toList.drop off)=true→∀ w:World,∀ f∈q,f.name ≠ "_" ∧
  ∃ B x vs,flatK P d f.type=some B∧(part f.type xs f.offset).run P w=.ok x w∧isVal P f.type x vs∧cM B vs=true
 |d,[],off,ks,hk,xs,M,w,f,k=>by cases k
 | d,g::q,off,ks,hk,xs,M,w,f,k=>by
  unfold vE sR at hk;split at hk
  ·cases hk
  rename_i N;split at hk
  case h_2=>cases hk
  rename_i B n ag O V;split at hk
  case isFalse=>cases hk
  rename_i hn;split at hk
  case h_2=>cases hk
  rename_i l W;cases hk;have U:g.offset=off:=by
   by_cases e:g.offset=off
   ·exact e
   ·exact(N (.inr e)).elim
  obtain⟨I,J⟩:=zw M;rw[←hn]at I J;rcases bN.1 k with rfl|k
  ·obtain ⟨x, px, vx⟩ := DG V O hn xs off I w
   exact⟨fun e=>N (.inl e),B,x,_,O,by rw[U]; exact px,vx,I⟩
  ·exact Lk d q (off+n) l W xs (by rw[qI]at J; exact J) w f k
theorem Ll{P:Program}(em:Bool):∀(d:Nat) (t:TypeId) (ks:List SK),flatK P d t=some ks→∀(D:Nat),d≤D→∀(x:Value) (vs:List Value),isVal P t x vs→cM ks vs=true →
  ∀ w,(vn em D t x).run P w=.ok () w
 |0,_,_,hk=>by simp[flatK]at hk
 | d+1,t,ks,hk=>by
  intro D hD x vs B q w;obtain⟨D,rfl⟩:∃ J,D=J+1:=⟨D-1,by omega⟩
  unfold flatK at hk;cases hu:P.underlying t with
  |none=>rw[hu]at hk; cases hk
  | some M =>
   rw[hu]at hk;cases M with
   | struct I =>
    simp only[]at hk;split at hk
    ·cases hk
    simp only[isVal,hu]at B;obtain⟨a,rfl,rfl⟩:=B;have each:=Lk d I.toList 0 ks hk a (by simpa using q) w;have deep:∀ f∈I.toList,f.name ≠ "_" ∧ ∃ x,(part f.type a f.offset).run P w=.ok x w∧(vn em D f.type x).run P w=.ok () w:=fun f N=>by
     obtain⟨h1,O,x,vs,U,V,W,h5⟩:=each f N;exact⟨h1,x,V,Ll em d f.type O U D (by omega) x vs W h5 w⟩
    rw[vn];simp only[bY,Sem.bu hu,b_];rw[←Array.forIn_toList];clear each hk;generalize I.toList=L at deep
    induction L with
    |nil=>simp
    | cons f L ih =>
     obtain⟨hn,x,p1,p2⟩:=deep f (by simp);simp only[List.forIn_cons,bY,hn,ne_eq,not_false_eq_true,if_true,b_,p1,p2,fN];exact ih (fun y hy=>deep y (by simp[hy]))
   | int k =>
    simp at hk;subst hk;simp only[isVal,hu]at B;subst B;simp only[cM,eS]at q;unfold kindOk at q;split at q<;>simp_all[vn,Sem.bu hu]
   | string =>
    simp at hk;subst hk;simp only[isVal,hu]at B;subst B;simp only[cM,eS]at q;unfold kindOk at q;split at q<;>simp_all[vn,Sem.bu hu]
   | bool =>
    simp at hk;subst hk;simp only[isVal,hu]at B;subst B;simp only[cM,eS]at q;unfold kindOk at q;split at q<;>simp_all[vn,Sem.bu hu]
   |_=>simp at hk
theorem gJ{P:Program}{d:TypeId}{l:List Value}{c:Value}(h:om P d l c)(em:Bool)(w:World):(vn em 10000 d c).run P w=.ok () w:=by
 obtain⟨h1,ks,k,q⟩:=h;exact Ll em od d ks k 10000 (by decide) c l h1 q w
theorem WT{P:Program}{k:TypeId}{l m:List Value}{c d:Value}(h:om P k l c)(h':om P k m d)(w:World):(yP k c d).run P w=.ok (dQ l m) w:=by
 obtain⟨h1,ks,q,I⟩:=h;obtain⟨J,N,B,M⟩:=h';rw[q]at B;cases B;exact DH od k ks q 10000 (by decide) c d l m h1 J I M w
def eU(P:Program)(d:TypeId)(k:List Value):List (AV × AV × Nat)→Nat→Option (Option (Nat × AV))
 | [],_=>some none
 | (k',v,_)::es,i=>match h_ P d k' with
  |some l=>bif dQ k l then some (some (i,v)) else eU P d k es (i+1)
  |none=>none
def dz(E:Env)(ms:List MapEntry)(i0:Nat):Option (Nat × AV)→Option (Nat × Value)→Prop
 |none,none=>True
 |some (i,v),some (j,c)=>i=j∧rel E v c∧i0≤i∧∃ e,ms[i-i0]? = some e∧e.val=c
 |_,_=>False
theorem Lm{P:Program}{E:Env}{d:TypeId}{k:List Value}{c:Value}(hk:om P d k c)(w:World):∀(es:List (AV × AV × Nat)) (ms:List MapEntry) (i:Nat) (r:Option (Nat × AV)),
  bD E es ms→eU P d k es i=some r→∃ r',(VH d c ms i).run P w=.ok r' w∧dz E ms i r r'
 | [],[],i,r,_,h=>by
  simp only[eU,aY]at h;subst h;exact⟨none,rfl,trivial⟩
 | [],_::_,_,_,hr,_=>by simp[bD]at hr
 |(_,_,_)::_,[],_,_,hr,_=>by simp[bD]at hr
 | (k',v,n)::es,e::ms,i,r,hr,h=>by
  simp only[bD]at hr;obtain⟨h1,I,W,h4,h5,J⟩:=hr;simp only[eU]at h;split at h
  case h_2=>cases h
  rename_i l M;have he:=WT hk (iU M h1) w;cases B:dQ k l with
  | true =>
   rw[B]at h he;cases h;refine⟨some (i,e.val),by simp[VH,he],rfl,I,aD _,e,by simp,rfl⟩
  | false =>
   rw[B]at h he;obtain⟨r',g1,g2⟩:=Lm hk w es ms (i+1) r J h;refine⟨r',by simp[VH,he,g1],?_⟩;cases r with
   | none=>cases r' with
    |none=>trivial
    |some _=>simp[dz]at g2
   | some p=>cases r' with
    |none=>simp[dz]at g2
    | some q =>
     simp only[dz]at g2⊢;obtain⟨N,O,q3,e',U,V⟩:=g2;refine⟨N,O,by omega,e',?_,V⟩;rw[show p.1-i=(p.1-(i+1))+1 from by omega];simpa using U
theorem Ln{P:Program}{E:Env}{U:TypeId}{k:List Value}{c:Value}{d:TypeDesc}(hu:P.underlying U=some d)(hk:om P U k c):∀(es:List (AV × AV × Nat)) (ms:List MapEntry) (i:Nat) (r:Option (Nat × AV)),
  bD E es ms→eU P U k es i=some r→(∃ r',yS d c ms i=some r'∧dz E ms i r r')∨yS d c ms i=none
 | [],[],i,r,_,h=>by
  simp only[eU,aY]at h;subst h;exact .inl ⟨none,rfl,trivial⟩
 | [],_::_,_,_,hr,_=>by simp[bD]at hr
 |(_,_,_)::_,[],_,_,hr,_=>by simp[bD]at hr
 | (k',v,n)::es,e::ms,i,r,hr,h=>by
  simp only[bD]at hr;obtain⟨h1,h2,h3,h4,h5,h6⟩:=hr;simp only[eU]at h;split at h
  case h_2=>cases h
  rename_i l hl;have W:=iU hl h1;have same:yT d c e.key=some (dQ k l)∨yT d c e.key=none:=by
   obtain⟨p1,ks,B,J⟩:=hk;obtain⟨M,ks',O,I⟩:=W;rw[B]at O;cases O;unfold od at B;unfold flatK at B;rw[hu]at B;cases d with
   |struct fs=>right; simp[yT]
   | int kk =>
    simp at B;subst B;simp only[isVal,hu]at p1 M;subst p1; subst M;simp only[cM,eS]at J I;unfold kindOk at J I;left;split at J<;>split at I<;>simp_all[yT,dQ,pE]
   | string =>
    simp at B;subst B;simp only[isVal,hu]at p1 M;subst p1; subst M;simp only[cM,eS]at J I;unfold kindOk at J I;left;split at J<;>split at I<;>simp_all[yT,dQ,pE,beq_toListBytes]
   | bool =>
    simp at B;subst B;simp only[isVal,hu]at p1 M;subst p1; subst M;simp only[cM,eS]at J I;unfold kindOk at J I;left;split at J<;>split at I<;>simp_all[yT,dQ,pE]
   |_=>simp at B
  rcases same with N|N
  ·cases V : dQ k l with
   | true =>
    rw[V]at h N;cases h;exact .inl ⟨some (i,e.val),by simp[yS,N],rfl,h2,aD _,e,by simp,rfl⟩
   | false =>
    rw[V]at h N;rcases Ln hu hk es ms (i+1) r h6 h with⟨r',g1,g2⟩|g
    ·refine .inl ⟨r', by simp [yS, N, g1], ?_⟩
     cases r with
     | none=>cases r' with
      |none=>trivial
      |some _=>simp[dz]at g2
     | some p=>cases r' with
      |none=>simp[dz]at g2
      | some q =>
       simp only[dz]at g2⊢;obtain⟨M,O,I,e',q4,q5⟩:=g2;refine⟨M,O,by omega,e',?_,q5⟩;rw[show p.1-i=(p.1-(i+1))+1 from by omega];simpa using q4
    ·exact .inr (by simp[yS,N,g])
  ·exact .inr (by simp[yS,N])
theorem iz{P:Program}{E:Env}{q:TypeId}{k:List Value}{c:Value}(hk:om P q k c)(w:World){es:List (AV × AV × Nat)}{ms:List MapEntry}{r:Option (Nat × AV)}
  (hr:bD E es ms) (h:eU P q k es 0=some r):∃ r',(VJ q c ms).run P w=.ok r' w∧dz E ms 0 r r':=by
 have hu:∃ d,P.underlying q=some d:=by
  obtain⟨_,ks,B,_⟩:=hk;unfold od at B;unfold flatK at B;split at B<;>first|exact⟨_,by assumption⟩|cases B
 obtain⟨d,hu⟩:=hu;rcases Ln hu hk es ms 0 r hr h with⟨r',g1,g2⟩|g
 ·exact⟨r',by simp[VJ,Sem.bu hu,g1],g2⟩
 ·obtain ⟨r', g1, g2⟩ := Lm hk w es ms 0 r hr h
  exact⟨r',by simp[VJ,Sem.bu hu,g,g1],g2⟩
def dx(P:Program)(t:TypeId):Option (TypeId × TypeId):=match P.underlying t with
 |some (.map k e)=>some (k,e)
 |_=>none
theorem fR{P:Program}{t k e:TypeId}(h:dx P t=some (k,e)):P.underlying t=some (.map k e):=by
 unfold dx at h;split at h
 ·rename_i h1; cases h; exact h1
 ·cases h
def iA(P:Program)(t:TypeId):Option AV:=match P.info? t with
 | some i=>match i.zero with
  |some z=>some (AV.sM z)
  |none=>none
 |none=>none
theorem s7{P:Program}{t:TypeId}{a:AV}(h:iA P t=some a)(w:World):∃ z,(zeroValue t).run P w=.ok z w∧∀ E,rel E a z:=by
 unfold iA at h;split at h
 ·rename_i i hi
  split at h
  ·rename_i z d
   cases h;exact⟨z,mU hi d w,fun E=>KJ E z⟩
  ·cases h
 ·cases h
def oq(P:Program)(t:TypeId):Option AV:=match iA P t,D0 P t with
 |some (.lit (.slice none 0 0)),some ks=>some (.listF ks [])
 |some z,_=>some z
 |none,_=>none
theorem Lo{P:Program}{t:TypeId}{a:AV}(h:oq P t=some a)(w:World):∃ z,(zeroValue t).run P w=.ok z w∧∀ E,rel E a z:=by
 unfold oq at h;split at h
 ·rename_i ks h1 d
  cases h;obtain⟨z,g1,g2⟩:=s7 h1 w;refine⟨z,g1,fun E=>?_⟩;have:=g2 E;simp only[rel]at this;subst this;simp only[rel,eF,G.rows];exact⟨none,0,rfl,aD _,.inl (by first|rfl|trivial)⟩
 ·rename_i z h1 _
  cases h;exact s7 ‹iA P t=some a› w
 ·cases h
def gu(P:Program)(t:TypeId)(m k:AV)(ok:Bool)(H:List ad):Option AV :=
 match dx P t,m with
 | some (d,q),.map id=>match H[id]? with
  | some (.map es _)=>match h_ P d k,oq P q with
   | some B,some z=>match eU P d B es 0 with
    | some r=>let v:=match r with
      |some (_,v)=>v
      |none=>z
     some (match ok with
      |true=>.tuple [v,.lit (.bool r.isSome)]
      |false=>v)
    |none=>none
   |_,_=>none
  |_=>none
 |_,_=>none
theorem qZ{E:Env}(HE:aq E){id cl:Nat}{es:List (AV × AV × Nat)}{c:Value}(hid:E.H[id]? = some (.map es cl))(hr:rel E (.map id) c) :
  ∃ b n ms,c=.map (some b)∧E.loc[id]? = some (some (b,n))∧E.w.heap[b]? = some (.map ms cl)∧bD E es ms.toList:=by
 have ho:=HE.obj id _ hid;simp only[aN]at ho;obtain⟨b,n,ms,h1,d,k⟩:=ho;simp only[rel]at hr;obtain⟨_,_,q⟩:=hr;obtain⟨B,I,g1,g2⟩:=q ⟨_,hid,rfl⟩;rw[h1]at g1;simp only[aY,a8]at g1;obtain⟨rfl,rfl⟩:=g1;exact⟨b,n,ms,g2,h1,d,k⟩
theorem Lp{P:Program}{E:Env}(HE:aq E){t:TypeId}{m k v:AV}{ok:Bool}{c d:Value}(h:gu P t m k ok E.H=some v)(hm:rel E m c)(hk:rel E k d) :
  ∃ u,(lI t c d ok).run P E.w=.ok u E.w∧rel E v u:=by
 unfold gu at h;split at h
 case h_2=>cases h
 rename_i kt et id I;split at h
 case h_2=>cases h
 rename_i es cl hid;split at h
 case h_2=>cases h
 rename_i kv z O U;split at h
 case h_2=>cases h
 rename_i r hr;obtain⟨b,n,ms,rfl,h1,V,W⟩:=qZ HE hid hm;have B:=iU O hk;obtain⟨r',g1,g2⟩:=iz B E.w W hr;obtain⟨J,z1,z2⟩:=Lo U E.w;have M:(getObj b).run P E.w=.ok (.map ms cl) E.w:=by simp[getObj,gX,V]
 cases h;cases r with
 | none =>
  cases r' with
  |some _=>simp[dz]at g2
  | none =>
   refine⟨if ok then .tuple #[J,.bool false] else J,?_,?_⟩
   ·simp only[lI,bY,Sem.bu (fR I),b_,M,fN,gJ B,g1,z1]
   ·cases ok with
    |true=>simp[rel,af,z2 E]
    |false=>simpa using z2 E
 | some p =>
  cases r' with
  |none=>simp[dz]at g2
  | some q =>
   simp only[dz]at g2;obtain⟨q1,N,_,_,_,_⟩:=g2;refine⟨if ok then .tuple #[q.2,.bool true] else q.2,?_,?_⟩
   ·simp only[lI,bY,Sem.bu (fR I),b_,M,fN,gJ B,g1]
   ·cases ok with
    |true=>simp[rel,af,N]
    |false=>simpa using N
theorem WU{E:Env}(HE:aq E):cZ E (.map E.H.length) (E.H++[.map [] 0]) (.map (some E.w.heap.size)) { E.w with heap:=E.w.heap.push (.map #[] 0) }:=by
 have d:=Ext.push E.w (.map #[] 0);have hle:=Env.kl (o:=.map [] 0) (l:=some (E.w.heap.size,0)) HE.len d (fun b n hb=>by cases hb; exact aD _);have hblk:(E.w.heap.push (.map #[] 0))[E.w.heap.size]? = some (.map #[] 0):=by simp
 refine⟨E.loc++[some (E.w.heap.size,0)],E.X.r,?_,aq.push HE d (fun b n hb=>?_) ?_,hle⟩
 ·simp only [rel]
  refine⟨⟨_,rfl⟩,⟨.map [] 0,by simp,rfl,fun v k=>fg _⟩,fun _=>⟨E.w.heap.size,0,?_,rfl⟩⟩;rw[←HE.len]; simp
 ·cases hb
  exact⟨aD _,by simp⟩
 ·simp only [aN]
  refine⟨E.w.heap.size,0,#[],?_,hblk,by simp[bD]⟩;simp only[Env.push]; rw[←HE.len]; simp
def q_(id:Nat)(H:List ad):Option (AV × List ad) :=
 match H[id]? with
 |some .eo=>some (.map id,H.set id (.map [] 0))
 |_=>none
theorem D3{id:Nat}{H H':List ad}{v:AV}(h:q_ id H=some (v,H')):H[id]? = some .eo∧v=.map id∧H'=H.set id (.map [] 0):=by
 unfold q_ at h;split at h
 ·rename_i hid
  cases h;exact⟨hid,rfl,rfl⟩
 ·cases h
theorem Lq{id:Nat}{H:List ad}(h:H[id]? = some .eo):q_ id H=some (.map id,H.set id (.map [] 0)):=by
 unfold q_;rw[h]
theorem WV{E:Env}(HE:aq E){id:Nat}(hid:E.H[id]? = some .eo):cZ E (.map id) (E.H.set id (.map [] 0)) (.map (some E.w.heap.size)) { E.w with heap:=E.w.heap.push (.map #[] 0) }:=by
 have d:=Ext.push E.w (.map #[] 0);have J:=aK hid;have q:(ad.eo).born=true→(ad.eo).aG = none→(ad.map [] 0).aG = none:=fun h=>by cases h
 have I:∀ v,(ad.map [] 0).aG = some v→∀ u,(ad.eo).aG = some u→u<v:=fun v _ u hu=>by cases hu
 have M:∀ v u,(ad.map [] 0).aG = some v→(ad.eo).aG = some u→u≤v:=fun v u _ hu=>by cases hu
 have hblk:(E.w.heap.push (.map #[] 0))[E.w.heap.size]? = some (.map #[] 0):=by simp
 have B:(E.loc.set id (some (E.w.heap.size,0)))[id]? = some (some (E.w.heap.size,0)):=bC (by rw[HE.len]; exact J);have hle:E.le { w:={ E.w with heap:=E.w.heap.push (.map #[] 0) },H:=E.H.set id (.map [] 0),loc:=E.loc.set id (some (E.w.heap.size,0)),X:=E.X } :=
  Env.km hid HE.len d.size (fun x k _=>d.same x k) (fun b n h=>by cases h; exact .inl (aD _)) (.inr I) M q
 refine⟨E.loc.set id (some (E.w.heap.size,0)),E.X.r,?_,?_,hle⟩
 ·simp only [rel]
  exact⟨⟨_,rfl⟩,⟨.map [] 0,by simp[J],rfl,fun v N=>fg _⟩,fun _=>⟨E.w.heap.size,0,B,rfl⟩⟩
 ·refine aq.lR HE hid d.size (fun x k _ => d.same x k) (fun b n h => by cases h; exact .inl ⟨aD _, by simp⟩) (.inr I) M q ?_
  simp only[aN];exact⟨E.w.heap.size,0,#[],B,hblk,by simp[bD]⟩
theorem WW{P:Program}{E:Env}(HE:aq E){t:TypeId}{id:Nat}{v:AV}{H':List ad}(h:q_ id E.H=some (v,H')) :
  ∃ u w',(VK t none).run P E.w=.ok u w'∧cZ E v H' u w':=by
 obtain⟨h1,rfl,rfl⟩:=D3 h;exact⟨_,_,by simp[VK,newObj]; rfl,WV HE h1⟩
theorem Lr{a b:ByteArray}(h:a.toList=b.toList):a=b:=by
 have h1:(a==b)=true:=by rw[beq_toListBytes,h]; simp
 obtain⟨x⟩:=a;obtain⟨y⟩:=b;have e:x=y:=by simpa using(show (x==y)=true from h1)
 rw[e]
theorem Ls:∀{l m:List Value} {ks:List SK},cM ks l=true→cM ks m=true→dQ l m=true→l=m
 | [],[],_,_,_,_=>rfl
 | a::l,b::m,ks,h1,d,h=>by
  cases ks with
  |nil=>simp[cM]at h1
  | cons k ks =>
   simp only[cM,az]at h1 d;simp only[dQ,az]at h;have e:a=b:=by
    have q:=h1.1;have B:=d.1;have I:=h.1;unfold kindOk at q B;split at q<;>split at B<;>simp_all[pE]
    exact Lr h.1
   rw[e,Ls h1.2 d.2 h.2]
 | [],_::_,_,_,_,h|_::_,[],_,_,_,h=>by simp[dQ]at h
theorem Lt{ks:List SK}:∀{l:List Value},cM ks l=true→∀(n:Nat),(l.zip l).all (fun(x,y)=>Kl n x y)=true:=by
 intro l
 induction l generalizing ks with
 |nil=>intro _ _; rfl
 | cons a l d =>
  intro h n;cases ks with
  |nil=>simp[cM]at h
  | cons k ks =>
   simp only[cM,az]at h;simp only[List.zip_cons_cons,List.all_cons,az];refine⟨?_,d h.2 n⟩;have hk:=h.1;unfold kindOk at hk;split at hk<;>cases n<;>simp_all[Kl,beq_toListBytes]
theorem zK{P:Program}{B:TypeId}{l m:List Value}{c d:Value}(h:om P B l c)(h':om P B m d)(he:dQ l m=true):c=d∧Kl 10000 d c=true:=by
 obtain⟨h1,ks,N,q⟩:=h;obtain⟨k,U,I,O⟩:=h';rw[N]at I;cases I;have e:=Ls q O he;subst e;unfold isVal at h1 k;split at h1
 ·rename_i J hu
  rw[hu]at k;simp only[]at k;obtain⟨a,rfl,ha⟩:=h1;obtain⟨b,rfl,hb⟩:=k;have:a=b:=by apply fO; rw[ha,hb]
  subst this;refine⟨rfl,?_⟩;simp only[Kl,beq_self_eq_true,Bool.true_and];rw[ha];exact Lt q 9999
 ·rename_i M
  split at k
  ·rename_i J hu
   exact(M J hu).elim
  ·have : c = d := by rw [h1] at k; simpa using k
   subst this;refine⟨rfl,?_⟩;have:=Lt q 10000;rw[h1]at this;simpa using this
def mW(P:Program)(t:TypeId)(m k v:AV)(H:List ad):Option (List ad) :=
 match dx P t,m with
 | some (d,_),.map id=>match H[id]? with
  | some (.map es cl)=>match h_ P d k with
   | some q=>if v.closed=true∧k.closed=true then
     match eU P d q es 0 with
     |some (some (i,_))=>some (H.set id (.map (es.modify i fun e=>(k,v,e.2.2)) cl))
     |some none=>some (H.set id (.map (es++[(k,v,cl)]) (cl+1)))
     |none=>none
    else none
   |none=>none
  |_=>none
 |_,_=>none
theorem eG{E:Env}:∀{es:List (AV × AV × Nat)} {ms:List MapEntry},bD E es ms↔es.length=ms.length∧∀(i:Nat) x e,es[i]? = some x→ms[i]? = some e →
  rel E x.1 e.key∧rel E x.2.1 e.val∧e.born=x.2.2∧x.1.closed=true∧x.2.1.closed=true
 | [],[]=>by simp[bD]
 | [],_::_=>by simp[bD]
 |(_,_,_)::_,[]=>by simp[bD]
 | (k,v,n)::es,e::ms=>by
  simp only[bD,eG (es:=es),cn];constructor
  ·rintro ⟨h1, B, I, J, M, U, N⟩
   refine⟨by omega,fun i x y d q=>?_⟩;cases i with
   |zero=>simp at d q; subst d; subst q; exact⟨h1,B,I,J,M⟩
   |succ i=>exact N i x y (by simpa using d) (by simpa using q)
  ·rintro ⟨h1, B⟩
   obtain⟨O,a2,a3,a4,a5⟩:=B 0 (k,v,n) e rfl rfl;exact⟨O,a2,a3,a4,a5,by omega,fun i x y d q=>B (i+1) x y (by simpa using d) (by simpa using q)⟩
theorem zL{P:Program}{E:Env}(HE:aq E){id b n cl cl':Nat}{es es':List (AV × AV × Nat)}{ms ms':Array MapEntry}(hid:E.H[id]? = some (.map es cl)) (d:E.loc[id]? = some (some (b,n)))
  (hb:E.w.heap[b]? = some (.map ms cl)) (hr:bD E es' ms'.toList) :
  ∃ w',(setObj b (.map ms' cl')).run P E.w=.ok () w'∧aq { w:=w',H:=E.H.set id (.map es' cl'),loc:=E.loc,X:=E.X }∧E.le { w:=w',H:=E.H.set id (.map es' cl'),loc:=E.loc,X:=E.X }:=by
 have I:=(HE.lt id b n d).1;have B:({ E.w with heap:=E.w.heap.setIfInBounds b (.map ms' cl') }:World).heap.size=E.w.heap.size:=by simp
 have q:∀ y,y≠b→({ E.w with heap:=E.w.heap.setIfInBounds b (.map ms' cl') }:World).heap[y]? = E.w.heap[y]? := by
  intro y J;simp only[C_];rw[if_neg (fun e=>J e.symm)]
 refine⟨{ E.w with heap:=E.w.heap.setIfInBounds b (.map ms' cl') },by simp[setObj,gX,hb],?_,?_⟩
 ·have hle : E.le { w := { E.w with heap := E.w.heap.setIfInBounds b (.map ms' cl') }, H := E.H.set id (.map es' cl'), loc := E.loc, X := E.X } := Env.og HE hid d (fun v k => k) B q
  refine HE.set hid d (fun v k=>k) B q ?_;simp only[aN];refine⟨b,n,ms',d,by simp[I],?_⟩;rw[eG]at hr⊢;refine⟨hr.1,fun i x e M he=>?_⟩;obtain⟨N,a2,a3,a4,a5⟩:=hr.2 i x e M he;exact⟨bI hle _ N,bI hle _ a2,a3,a4,a5⟩
 ·exact Env.og HE hid d (fun v k=>k) B q
theorem vK{P:Program}{q:TypeId}{k:List Value}:∀{es:List (AV × AV × Nat)} {i j:Nat} {v:AV},eU P q k es i=some (some (j,v))→i≤j∧∃ x l,es[j-i]? = some x∧h_ P q x.1=some l∧dQ k l=true
 | [],_,_,_,h=>by simp[eU]at h
 | (k',B,n)::es,i,j,v,h=>by
  simp only[eU]at h;split at h
  case h_2=>cases h
  rename_i l I;cases d:dQ k l with
  | true =>
   rw[d]at h;cases h;exact⟨aD _,(k',B,n),l,by simp,I,d⟩
  | false =>
   rw[d]at h;obtain⟨h1,x,l',J,M,N⟩:=vK h;refine⟨by omega,x,l',?_,M,N⟩;rw[show j-i=(j-(i+1))+1 from by omega];simpa using J
theorem Lu{P:Program}{E:Env}(HE:aq E){t:TypeId}{m k v:AV}{c d u:Value}{H':List ad}(h:mW P t m k v E.H=some H')(hm:rel E m c)(hk:rel E k d)(hv:rel E v u) :
  ∃ w',(nT t c d u).run P E.w=.ok () w'∧aq { w:=w',H:=H',loc:=E.loc,X:=E.X }∧E.le { w:=w',H:=H',loc:=E.loc,X:=E.X }:=by
 unfold mW at h;split at h
 case h_2=>cases h
 rename_i kt et id ht;split at h
 case h_2=>cases h
 rename_i es cl hid;split at h
 case h_2=>cases h
 rename_i kv hkv;split at h
 case isFalse=>cases h
 rename_i M;obtain⟨b,n,ms,rfl,h1,U,V⟩:=qZ HE hid hm;have J:=iU hkv hk;have e1:(getObj b).run P E.w=.ok (.map ms cl) E.w:=by simp[getObj,gX,U]
 obtain⟨hlen,O⟩:=eG.1 V;split at h
 ·rename_i i v0 N
  cases h;obtain⟨r',g1,g2⟩:=iz J E.w V N;cases r' with
  |none=>simp[dz]at g2
  | some q =>
   simp only[dz]at g2;obtain⟨q1,q2,_,e',W,q5⟩:=g2;obtain⟨_,x,l,f1,f2,f3⟩:=vK N;simp only[gU]at W f1;obtain⟨a1,a2,a3,a4,a5⟩:=O i x e' f1 W;obtain⟨s1,s2⟩:=zK J (iU f2 a1) f3;have q4':ms[i]? = some e':=by simpa using W
   obtain⟨w',r1,r2,r3⟩:=zL (P:=P) HE (es':=es.modify i fun e=>(k,v,e.2.2)) (ms':=ms.modify i fun e=>{ e with key:=d,val:=u }) (cl':=cl) hid h1 U (by
    rw[eG];refine⟨by simp[hlen],fun j y z B I=>?_⟩;simp only[jr]at B;simp only[lK,jr]at I;obtain⟨y0,hy0,rfl⟩:=ef.1 B;obtain⟨z0,hz0,rfl⟩:=ef.1 I;obtain⟨b1,b2,b3,b4,b5⟩:=O j y0 z0 hy0 hz0;by_cases e:i=j
    ·subst e
     simp only[if_true];exact⟨hk,hv,b3,M.2,M.1⟩
    ·simp only [if_neg e]
     exact⟨b1,b2,b3,b4,b5⟩)
   refine⟨w',?_,r2,r3⟩;subst q1;have hst:(sB e'.key d).run P E.w=.ok d E.w:=by simp[sB,s2]
   simp only[nT,bY,Sem.bu (fR ht),b_,e1,gJ J,g1,q4',eg,ga,hst];exact r1
 ·rename_i N
  cases h;obtain⟨r',g1,g2⟩:=iz J E.w V N;cases r' with
  |some _=>simp[dz]at g2
  | none =>
   obtain⟨w',r1,r2,r3⟩:=zL (P:=P) HE (es':=es++[(k,v,cl)]) (ms':=ms.push { key:=d,val:=u,born:=cl }) (cl':=cl+1) hid h1 U (by
    rw[eG];refine⟨by simp[hlen],fun j y z B I=>?_⟩;simp only[qJ,fM,hlen]at B I;by_cases e:j<ms.toList.length
    ·simp only [if_pos e] at B I
     exact O j y z B I
    ·simp only [if_neg e] at B I
     cases hj:j-ms.toList.length with
     | zero =>
      rw[hj]at B I;simp at B I;subst B; subst I;exact⟨hk,hv,rfl,M.2,M.1⟩
     |succ _=>rw[hj]at B; simp at B)
   refine⟨w',?_,r2,r3⟩;simp only[nT,bY,Sem.bu (fR ht),b_,e1,gJ J,g1];exact r1
 ·cases h
def vL(P:Program)(t:TypeId)(m k:AV)(H:List ad):Option (List ad) :=
 match dx P t,m with
 | some (d,_),.map id=>match H[id]? with
  | some (.map es cl)=>match h_ P d k with
   | some q=>match eU P d q es 0 with
    |some (some (i,_))=>some (H.set id (.map (es.eraseIdx i) cl))
    |some none=>some (H.set id (.map es cl))
    |none=>none
   |none=>none
  |_=>none
 |_,_=>none
theorem WX{P:Program}{E:Env}(HE:aq E){t ty:TypeId}{tys:Array TypeId}{m k:AV}{c d:Value}{cs:Array Value}{H':List ad}(h:vL P t m k E.H=some H')(h0:tys[0]? = some t)
  (V:cs[0]? = some c) (W:cs[1]? = some d) (hm:rel E m c) (hk:rel E k d) :
  ∃ w',(VL tys ty cs).run P E.w=.ok (.tuple #[]) w'∧aq { w:=w',H:=H',loc:=E.loc,X:=E.X }∧E.le { w:=w',H:=H',loc:=E.loc,X:=E.X }:=by
 unfold vL at h;split at h
 case h_2=>cases h
 rename_i kt et id ht;split at h
 case h_2=>cases h
 rename_i es cl hid;split at h
 case h_2=>cases h
 rename_i kv hkv;obtain⟨b,n,ms,rfl,h1,N,M⟩:=qZ HE hid hm;have J:=iU hkv hk;have e1:(getObj b).run P E.w=.ok (.map ms cl) E.w:=by simp[getObj,gX,N]
 obtain⟨hlen,U⟩:=eG.1 M;split at h
 ·rename_i i v0 O
  cases h;obtain⟨r',g1,g2⟩:=iz J E.w M O;cases r' with
  |none=>simp[dz]at g2
  | some q =>
   simp only[dz]at g2;obtain⟨q1,q2,_,e',q4,q5⟩:=g2;obtain⟨w',r1,r2,r3⟩:=zL (P:=P) HE (es':=es.eraseIdx i) (ms':=ms.eraseIdxIfInBounds i) (cl':=cl) hid h1 N (by
    rw[eG];have e:(ms.eraseIdxIfInBounds i).toList=ms.toList.eraseIdx i:=by simp
    rw[e];refine⟨by simp[List.length_eraseIdx,hlen],fun j y z B I=>?_⟩;rw[List.getElem?_eraseIdx]at B I;by_cases hj:j<i
    ·simp only [if_pos hj] at B I
     exact U j y z B I
    ·simp only [if_neg hj] at B I
     exact U (j+1) y z B I)
   refine⟨w',?_,r2,r3⟩;subst q1;simp only[VL,h0,V,W,bY,Sem.bu (fR ht),b_,e1,gJ J,g1];rw[r1];rfl
 ·rename_i O
  cases h;obtain⟨r',g1,g2⟩:=iz J E.w M O;cases r' with
  |some _=>simp[dz]at g2
  | none =>
   obtain⟨w',r1,r2,r3⟩:=zL (P:=P) HE (es':=es) (ms':=ms) (cl':=cl) hid h1 N M;refine⟨w',?_,r2,r3⟩;simp only[VL,h0,V,W,bY,Sem.bu (fR ht),b_,e1,gJ J,g1];rw[r1];rfl
 ·cases h
end Go.AL

namespace Go.AL
open Go
variable [Dr]
theorem Lv{α:Type}{k:Nat}:∀{l:List (List α)} (n:Nat),(∀ r∈l,r.length=k)→(l.take n).flatten=l.flatten.take (n*k)
 | [],n,_=>by simp
 |r::l,0,_=>by simp
 | r::l,n+1,h=>by
  have hr:r.length=k:=h r cU;have d:=Lv (l:=l) n (fun x q=>h x (dw _ q));have e:(n+1)*k=k+n*k:=by rw[f_]; omega
  simp only[C3,sx,d,e];rw[List.take_append,hr];have B:r.take (k+n*k)=r:=List.take_of_length_le (by omega);have I:k+n*k-k=n*k:=by omega
  rw[B,I]
theorem Lw{α:Type}{k:Nat}:∀{l:List (List α)} (n:Nat),(∀ r∈l,r.length=k)→(l.drop n).flatten=l.flatten.drop (n*k)
 | [],n,_=>by simp
 |r::l,0,_=>by simp
 | r::l,n+1,h=>by
  have hr:r.length=k:=h r cU;have d:=Lw (l:=l) n (fun x q=>h x (dw _ q));have e:(n+1)*k=k+n*k:=by rw[f_]; omega
  simp only[alJ,sx,d,e];rw[List.drop_append,hr];have B:r.drop (k+n*k)=[]:=List.drop_eq_nil_of_le (by omega);have I:k+n*k-k=n*k:=by omega
  rw[B,I,ki]
theorem WY{P:Program}{E:Env}(HE:aq E){id k ae b m off:Nat}{rows news:List (List AV)}{vals:List Value}(hid:E.H[id]? = some (.vec k ae rows)) (B:E.loc[id]? = some (some (b,m)))
  (d:af E news.flatten vals) (h1:∀ x∈vals,dJ x=true) (hw:∀ r∈news,r.length=k) (hcl:ft news) (hle:off+news.length≤rows.length) :
  ∃ w',(storeCells ⟨b,off*k,none⟩ vals).run P E.w=.ok () w'∧aq { w:=w',H:=E.H.set id (.vec k ae (rows.take off++news++rows.drop (off+news.length))),loc:=E.loc,X:=E.X } ∧
   E.le { w:=w',H:=E.H.set id (.vec k ae (rows.take off++news++rows.drop (off+news.length))),loc:=E.loc,X:=E.X }:=by
 rcases HE.obj id _ hid with⟨I,_⟩|⟨b',m',I,⟨cur,el,hblk,V⟩,e3,e4,e5⟩
 ·rw[B]at I; cases I
 rw[B]at I;cases I;have q:∀ r∈rows,r.length=k:=DR e5;have hlen:vals.length=news.length*k:=by rw[←gG d,sW hw]
 have hmul:(off+news.length)*k≤rows.length*k:=vl _ hle;rw[f_]at hmul;have hmul2:rows.length*k≤m*k:=vl _ e3;have J:off*k+0+vals.length≤cur.size:=by rw[V]; omega
 have N:=run_storeCells_at P b (off*k) el vals 0 cur E.w hblk J (fun v d=>by rw[zy]; exact h1 v d);simp only[mG]at N J;generalize M:E.w.setRow b (cur.toList.take (off*k)++vals++cur.toList.drop (off*k+vals.length)).toArray=w' at N;have O:w'.heap.size=E.w.heap.size:=by rw[←M]; exact setRow_size _ _ _
 have henv:ep E.w w':=by rw[←M]; exact⟨rfl,rfl,rfl,by first|exact fun _=>aD _|exact fun _=>fq _ _⟩
 have U:∀ x,x≠b→w'.heap[x]? = E.w.heap[x]? := by intro x hx; rw[←M]; exact setRow_other _ _ _ _ hx
 have hb':w'.heap[b]? = some (.cells (cur.toList.take (off*k)++vals++cur.toList.drop (off*k+vals.length)).toArray el (0,0)):=by
  rw[←M]; exact setRow_heap E.w b cur _ el (0,0) hblk
 have W:∀ v,(ad.vec k ae (rows.take off++news++rows.drop (off+news.length))).aG = some v→(ad.vec k ae rows).aG = some v:=fun v d=>by simpa[ad.aG]using d
 have hle':=Env.og (o':=.vec k ae (rows.take off++news++rows.drop (off+news.length))) HE hid B W O U;have hl2:(rows.take off++news++rows.drop (off+news.length)).length=rows.length:=by
  simp only[eD,jq,pg];omega
 refine⟨w',N,aq.set HE hid B W O U ?_,hle'⟩;simp only[aN];right;refine⟨b,m,B,⟨_,el,hb',?_⟩,by rw[hl2]; exact e3,?_,?_⟩
 ·simp only [C8, eD, jq, pg, mE, V] at J ⊢
  omega
 ·intro r hr
  simp only[cQ]at hr;rcases hr with(h|h)|h
  ·exact e4 r (vj h)
  ·exact hcl r h
  ·exact e4 r (yO h)
 ·refine zA ?_ ?_
  ·intro r hr
   simp only[cQ]at hr;rcases hr with(h|h)|h
   ·exact q r (vj h)
   ·exact hw r h
   ·exact q r (yO h)
  ·rw [yR, yR, Lv off q, Lw _ q]
   have hflat:=zz e5;have hcs:news.flatten.length=news.length*k:=sW hw;have:=DV (E:=E) (E':={ w:=w',H:=E.H.set id (.vec k ae (rows.take off++news++rows.drop (off+news.length))),loc:=E.loc,X:=E.X }) (o:=0) (col:=off*k) (as:=rows.flatten) (cs:=news.flatten)
    (fun a c hr=>bI hle' a hr) hblk (by simpa using hb') (by simpa using J) hflat d h1 (by rw[sW q,hcs]; omega)
   rw[hcs]at this;rw[show (off+news.length)*k=off*k+news.length*k from f_ _ _ _];exact this
def vM(P:Program)(t:TypeId)(x:AV)(H:List ad):Option (List ad) :=
 match cg P t,x with
 | .slice e sz _,.vec w id ae off n=>match eJ P e,H[id]? with
  | some z,some (.vec k v rows)=>if k=w∧w=sz∧v=ae∧z.length=sz∧0<sz∧off+n≤rows.length then
    some (H.set id (.vec k v (rows.take off++cd n (z.map AV.lit)++rows.drop (off+n)))) else none
  |_,_=>none
 |_,_=>none
theorem WZ{P:Program}{E:Env}(HE:aq E){t ty:TypeId}{tys:Array TypeId}{x:AV}{c:Value}{cs:Array Value}{H':List ad}(h:vM P t x E.H=some H')(h0:tys[0]? = some t)
  (N:cs[0]? = some c) (q:rel E x c) :
  ∃ w',(VN tys ty cs).run P E.w=.ok (.tuple #[]) w'∧aq { w:=w',H:=H',loc:=E.loc,X:=E.X }∧E.le { w:=w',H:=H',loc:=E.loc,X:=E.X }:=by
 unfold vM at h;split at h
 case h_2=>cases h
 rename_i e sz bT w id ae off n hk;obtain⟨hu,i,hi,hs,_⟩:=hG hk;split at h
 case h_2=>cases h
 rename_i z k v rows hz hid;split at h
 case isFalse=>cases h
 rename_i hc;obtain⟨rfl,rfl,rfl,hzl,hpos,hle⟩:=hc;cases h;obtain⟨i',B,O,hz1,U,hz3⟩:=mT hz;rw[hi]at O;cases O;simp only[rel]at q;obtain⟨⟨base,cap,rfl,hcap,hb⟩,_,V⟩:=q;obtain⟨q1,q2⟩:=V ⟨_,hid,rfl⟩;cases n with
 | zero =>
  refine⟨E.w,?_,?_,?_⟩
  ·simp only [VN, h0, N, bY, Sem.bu hu, b_]
   cases base<;>rfl
  ·simp only [alT, dh, mG, vk]
   rw[mV hid];exact HE
  ·simp only [alT, dh, mG, vk]
   rw[mV hid];exact Env.le.refl E
 | succ n =>
  obtain⟨b,o,rfl⟩:=hb (by omega);have d:∃ b m,E.loc[id]? = some (some (b,m)):=by
   rcases HE.obj id _ hid with⟨_,I⟩|⟨J,m',I,_⟩
   ·subst I
    simp at hle
   ·exact⟨J,m',I⟩
  obtain⟨J,m,d⟩:=d;obtain⟨g1,o',g2,g3⟩:=q2 J m d;have ho:=g2 (by omega);subst ho;simp only[kQ,aY,J_]at g3;obtain⟨⟨rfl,rfl,_⟩,_,_⟩:=g3;have W:(yQ B.cells (n+1)).toList=(cd (n+1) z).flatten:=by
   rw[←U];have hzs:0<B.cells.size:=by
    have:B.cells.size=z.length:=by rw[←U]; simp
    omega
   exact range_zero B.cells (n+1) hzs
  have M:∀ r∈cd (n+1) (z.map AV.lit),r=z.map AV.lit:=fun r hr=>(VO.1 hr).2;obtain⟨w',r1,r2,r3⟩:=WY (P:=P) HE (off:=off) (news:=cd (n+1) (z.map AV.lit)) (vals:=(cd (n+1) z).flatten) hid d (vI z (n+1))
   (fun x q=>hz3 x (vJ q)) (fun r hr=>by rw[M r hr]; simp[hzl]) (fun r hr=>by rw[M r hr]; exact D2 z) (by simpa using hle)
  simp only[List.length_replicate]at r2 r3;refine⟨w',?_,r2,r3⟩;simp only[VN,h0,N,bY,Sem.bu hu,b_,mU hi hz1,W];rw[r1];rfl
theorem W0{P:Program}{w:World}{t xt ty e:TypeId}{i:TypeInfo}{z:Value}{sz:Nat}{base:Option Addr}{m:Nat}{k k':IntKind}
  (I:P.underlying t=some (.slice e)) (J:P.underlying xt=some (.int k)) (hi:P.info? e=some i) (M:i.size=sz) (N:i.zero=some z) (d:0<sz) (h0:0<m) (hm:m≤1048576) (hb:i.bytes≤1048576) :
  ∃ C,m≤C∧(nS #[t,xt] ty #[.slice base 0 0,.int k' (m:Int)]).run P w =
   .ok (.slice (some ⟨w.heap.size,0,none⟩) m C) (w.drew.alloc (.cells ((yQ z.cells m).toList++(yQ z.cells (C-m)).toList).toArray e)):=by
 have q:IntKind.i64.wrap (m:Int)=m:=wrap_small (by omega) (by omega);have h1:¬ (m≤0):=by omega
 have O:¬ ((m:Int)<0):=by omega
 have B:m*i.bytes≤1048576*1048576:=alO hm hb;have U:¬ ((281474976710656:Int)<(m:Int)*(i.bytes:Int)):=by
  have:((m*i.bytes:Nat):Int)≤1099511627776:=Int.ofNat_le.2 (o9 B (by decide));rw[Int.natCast_mul]at this;omega
 have V:¬ (IntKind.i64.max<(m:Int)):=by
  show ¬ ((9223372036854775807:Int)<(m:Int))
  omega
 have h5:Ke m 0*i.bytes≤281474976710656:=growslice_fits (by omega) (by omega);have W:¬ (281474976710656<Ke m 0*i.bytes):=by omega
 have h7:¬ (m*sz=0):=by
  have:=Nat.mul_pos h0 d;omega
 refine⟨grownCap w m 0 e,?_,?_⟩
 ·simp[grownCap,alP]
 ·simp [nS, run_underlying I, run_underlying J, sizeOf, typeInfo, zeroValue, hi, N, M, asInt, asIntOf, q, h1, O, U, V, W, h7, alQ, newRow, grownCap, iN]
  rw[if_neg (by omega:¬ m=0),if_neg (by omega:¬ (9223372036854775807:Int)<(m:Int))];cases base<;>simp[loadCells,loadCellsFrom]<;>(congr 2; apply fO; simp)
def ra(P:Program)(t xt:TypeId)(s x:AV)(H:List ad):Option (AV × List ad) :=
 match cg P t,cg P xt,s,x with
 | .slice e sz bT,.int _,.lit (.slice none 0 0),.lit (.int _ n)=>match eJ P e with
  |some z=>if z.length=sz∧0<sz∧bT≤1048576∧0<n∧n≤1048576 then some (.vec sz H.length 0 0 n.toNat,H++[.vec sz 0 (cd n.toNat (z.map AV.lit))]) else none
  |none=>none
 |_,_,_,_=>none
theorem W1{P:Program}{E:Env}(HE:aq E){t xt ty:TypeId}{s x v:AV}{H':List ad}{c M:Value}(h:ra P t xt s x E.H=some (v,H'))(N:rel E s c)(d:rel E x M) :
  ∃ u w',(nS #[t,xt] ty #[c,M]).run P E.w=.ok u w'∧cZ E v H' u w':=by
 unfold ra at h;split at h
 case h_2=>cases h
 rename_i e sz bT k k' n hk U;split at h
 case h_2=>cases h
 rename_i z hz;split at h
 case isFalse=>cases h
 rename_i hc;obtain⟨h1,h2,h3,h4,h5⟩:=hc;cases h;obtain⟨hu,i,hi,V,hby⟩:=hG hk;obtain⟨i',q,J,W,B,hz3⟩:=mT hz;rw[hi]at J;cases J;simp only[rel]at N d;subst N;subst d;obtain⟨m,rfl⟩:∃ m:Nat,n=(m:Int):=⟨n.toNat,by omega⟩
 obtain⟨C,g1,g2⟩:=W0 (P:=P) (w:=E.w) (ty:=ty) (base:=none) (k':=k') (m:=m) hu (KU U) hi V W h2 (by omega) (by omega) (by omega);have hzs:0<q.cells.size:=by
  have:q.cells.size=z.length:=by rw[←B]; simp
  omega
 have O:(yQ q.cells m).toList=(cd m z).flatten:=by rw[←B]; exact range_zero q.cells m hzs
 rw[O]at g2;have I:∀ r∈cd m (z.map AV.lit),r=z.map AV.lit:=fun r hr=>(VO.1 hr).2;refine⟨_,_,g2,?_⟩;simp only[Int.toNat_natCast];refine K9 HE (vI z m) (fun x d=>hz3 x (vJ d)) (fun r hr=>by rw[I r hr]; simp[h1]) (fun r hr=>by rw[I r hr]; exact D2 z) (by simp) g1 ?_;simp only[mE,size_zeroCells];rw[←h1,←B];simp
end Go.AL

namespace Go.AL
open Go
variable [Dr]
def vN(P:Program)(t:TypeId)(n:Nat)(parts:List (Nat × AV))(H:List ad):Option (AV × List ad) :=
 match sZ P t n parts with
 |some (.list sz rows)=>some (.vec sz H.length 0 0 rows.length,H++[.vec sz 0 rows])
 |_=>none
theorem Lx(k:Nat):∀(n:Nat) (out:List AV),out.length=n*k→(chunk k n out).flatten=out
 | 0,out,h=>by
  have:out=[]:=C6 (by simpa using h);subst this;rfl
 | n+1,out,h=>by
  simp only[chunk,sx];rw[Lx k n (out.drop k) (by rw[pg,h,alU]; omega)];exact vk k out
theorem Ly(k:Nat):∀(n:Nat) (out:List AV),out.length=n*k→∀ r∈chunk k n out,r.length=k
 |0,_,_,r,hr=>by simp[chunk]at hr
 | n+1,out,h,r,hr=>by
  simp only[chunk]at hr;rw[alU]at h;rcases bN.1 hr with rfl|hr
  ·rw [jq]
   omega
  ·exact Ly k n (out.drop k) (by rw[pg]; omega) r hr
theorem W2{P:Program}{E:Env}(HE:aq E){t:TypeId}{n:Nat}{parts:List (Nat × AV)}{cparts:List (Nat × Value)}{v:AV}{H':List ad}(h:vN P t n parts E.H=some (v,H'))
  (hm:parts.map (·.1)=cparts.map (·.1)) (hv:af E (parts.map (·.2)) (cparts.map (·.2))) :
  ∃ u w',(Kk t n cparts.toArray).run P E.w=.ok u w'∧cZ E v H' u w':=by
 unfold vN at h;split at h
 case h_2=>cases h
 rename_i q rows0 h0;cases h;unfold sZ at h0;split at h0
 case h_2=>cases h0
 rename_i e sz bT hk;obtain⟨hu,i,hi,J,_⟩:=hG hk;split at h0
 case h_2=>cases h0
 rename_i z hz;obtain⟨i',k,M,U,N,V⟩:=mT hz;rw[hi]at M;cases M;split at h0
 case isFalse=>cases h0
 rename_i hc;obtain⟨g1,g2,g3⟩:=hc;split at h0
 case h_2=>cases h0
 rename_i out O;split at h0
 case isFalse=>cases h0
 rename_i B;have W:k.cells.size=sz:=by rw[←g1,←N]; simp
 obtain⟨d,I⟩:∃ d:Array Value,d.toList=(cd n z).flatten:=⟨((cd n z).flatten).toArray,by simp⟩
 obtain⟨o,f1,f2,f3⟩:=vF (E:=E) (cs:=d) O (by rw[I]; exact vI z n) (by rw[I]; intro x hx; exact V x (vJ hx)) hm hv;cases n with
 |zero=>cases h0
 |succ n =>
 cases h0;refine⟨.slice (some ⟨E.w.heap.size,0,none⟩) (n+1) (n+1),{ E.w with heap:=E.w.heap.push (.cells (o.toList++[]).toArray e) },?_,?_⟩
 ·have hno : ¬ ((n + 1) * i.size > 2 ^ 24) := by rw [J]; omega
  simp only[Kk,bY,Sem.bu hu,b_,Sem.run_sizeOf hi];rw[if_neg hno];have h0:¬ ((n+1)*i.size=0):=by
   intro h;rcases VF.1 h with h|h
   ·omega
   ·omega
  rw[if_neg h0];simp only[bY,mU hi U,b_,fN];have:(Ki (fun x=>k.cells[x%k.cells.size]!) (gW ((n+1)*i.size)))=d:=by
   apply fO;rw[J,←W,range_zero k.cells (n+1) (by omega),N,I]
  rw[this,J,f1];simp[newRow]
 ·rw [vG]
  exact Le HE (C:=n+1) (by rw[Lx q (n+1) out B.2]; exact f2) f3 (Ly q (n+1) out B.2) (DO q _ out B.1) (vG ..) (aD _) (by simp)
end Go.AL

namespace Go.AL
open Go
variable [Dr]
def fu (r:Nat→List (Option (Option (Nat × Nat)))) (l0:Nat) (q:Option (Nat × Nat)):Nat→List (Option (Option (Nat × Nat))):=fun l=>if l=l0 then r l++[some q] else r l
def gv (r:Nat→List (Option (Option (Nat × Nat)))) (l0 h:Nat):Nat→List (Option (Option (Nat × Nat))):=fun l=>if l=l0 then (r l).set h none else r l
def iB (r:Nat→List (Option (Option (Nat × Nat)))) (l0:Nat):Nat→List (Option (Option (Nat × Nat))):=fun l=>if l=l0 then (r l).map fun _=>none else r l
theorem W3{r:Nat→List (Option (Option (Nat × Nat)))}{l0 l h:Nat}{q:Option (Nat × Nat)}{x:Option (Option (Nat × Nat))}(d:(fu r l0 q l)[h]? = some x):(r l)[h]? = some x∨(l=l0∧h=(r l).length∧x=some q):=by
 unfold fu at d;split at d
 ·rename_i e
  rw[fM]at d;split at d
  ·exact .inl d
  ·right
   cases hk:h-(r l).length with
   | zero =>
    rw[hk]at d;simp at d;exact⟨e,by omega,d.symm⟩
   |succ n=>rw[hk]at d; simp at d
 ·exact .inl d
theorem Lz{r:Nat→List (Option (Option (Nat × Nat)))}{l0 l h:Nat}{q:Option (Nat × Nat)}(d:h<(r l).length):h<(fu r l0 q l).length∧(fu r l0 q l)[h]? = (r l)[h]? := by
 unfold fu;split
 ·exact⟨by simp; omega,cT d⟩
 ·exact⟨d,rfl⟩
theorem W4{r:Nat→List (Option (Option (Nat × Nat)))}{l0 h0 l h:Nat}{q:Option (Nat × Nat)}(d:(gv r l0 h0 l)[h]? = some (some q)):(r l)[h]? = some (some q)∧¬ (l=l0∧h=h0):=by
 unfold gv at d;split at d
 ·rw [eC] at d
  split at d
  ·split at d<;>cases d
  ·rename_i h1
   exact⟨d,fun e=>h1 e.2.symm⟩
 ·rename_i h1
  exact⟨d,fun e=>h1 e.1⟩
theorem D4{r:Nat→List (Option (Option (Nat × Nat)))}{l0 h0 l h:Nat}(aA:¬ (l=l0∧h=h0)):(gv r l0 h0 l)[h]? = (r l)[h]? := by
 unfold gv;split
 ·rename_i e
  exact aZ (fun d=>aA ⟨e,d.symm⟩)
 ·rfl
theorem W5{r:Nat→List (Option (Option (Nat × Nat)))}{l0 h0 l:Nat}:(gv r l0 h0 l).length=(r l).length:=by
 unfold gv;split<;>simp
theorem iV{r:Nat→List (Option (Option (Nat × Nat)))}{l0 l h:Nat}{q:Option (Nat × Nat)}(d:(iB r l0 l)[h]? = some (some q)):(r l)[h]? = some (some q)∧l≠l0:=by
 unfold iB at d;split at d
 ·rw [bU] at d
  cases k:(r l)[h]? with
  |none=>rw[k]at d; cases d
  |some y=>rw[k]at d; cases d
 ·rename_i e
  exact⟨d,e⟩
theorem LA{r:Nat→List (Option (Option (Nat × Nat)))}{l0 l:Nat}:(iB r l0 l).length=(r l).length:=by
 unfold iB;split<;>simp
theorem aq.attach{E:Env}(H:aq E){id j l0:Nat}{o o' oj:ad}{q:Option (Nat × Nat)}(hid:E.H[id]? = some o)(hlab:o.label=some l0)(hlab':o'.label=some l0)(hver:o'.aG = o.aG)(hj:E.H[j]? = some oj)(hlj:oj.label=none)(hq:E.loc[j]? = some q)
  (ho:E.le { w:=E.w,H:=(E.H.set id o').set j .dead,loc:=E.loc.set j none,X:=E.X.re (fu E.X.r l0 q) }→aN { w:=E.w,H:=(E.H.set id o').set j .dead,loc:=E.loc.set j none,X:=E.X.re (fu E.X.r l0 q) } id o')
  (hmm:o.dy=none∨o'.dy=o.dy:=by first|exact .inl rfl|exact .inr rfl|assumption) :
  aq { w:=E.w,H:=(E.H.set id o').set j .dead,loc:=E.loc.set j none,X:=E.X.re (fu E.X.r l0 q) }∧E.le { w:=E.w,H:=(E.H.set id o').set j .dead,loc:=E.loc.set j none,X:=E.X.re (fu E.X.r l0 q) }:=by
 have aA:j≠id:=fun e=>by rw[e,hid]at hj; cases hj; rw[hlab]at hlj; cases hlj
 have hlt:=aK hid;have hltj:=aK hj;have U:∀(i:Nat) x,(E.loc.set j none)[i]? = some (some x)→i≠j∧E.loc[i]? = some (some x):=fun i x hi=>by
  rw[eC]at hi;split at hi
  ·split at hi<;>cases hi
  ·rename_i e
   exact⟨Ne.symm e,hi⟩
 have H_old:∀(i:Nat) x,((E.H.set id o').set j .dead)[i]? = some x→(i=j∧x=.dead)∨(i=id∧x=o')∨(i≠j∧i≠id∧E.H[i]? = some x):=fun i x hi=>by
  by_cases e:i=j
  ·subst e
   rw[bC (by simp; exact hltj)]at hi;cases hi;exact .inl ⟨rfl,rfl⟩
  ·rw [aZ (Ne.symm e)] at hi
   by_cases B:i=id
   ·subst B
    rw[bC hlt]at hi;cases hi;exact .inr (.inl ⟨rfl,rfl⟩)
   ·rw [aZ (Ne.symm B)] at hi
    exact .inr (.inr ⟨e,B,hi⟩)
 have hid':((E.H.set id o').set j .dead)[id]? = some o':=by
  rw[aZ aA,bC hlt]
 have V:∀(l h b m:Nat),(fu E.X.r l0 q l)[h]? = some (some (some (b,m)))→(E.X.r l)[h]? = some (some (some (b,m)))∨(l=l0∧h=(E.X.r l).length∧E.loc[j]? = some (some (b,m))):=fun l h b m hk=>by
  rcases W3 hk with g|⟨g1,g2,g3⟩
  ·exact .inl g
  ·cases g3
   exact .inr ⟨g1,g2,hq⟩
 have hle:E.le { w:=E.w,H:=(E.H.set id o').set j .dead,loc:=E.loc.set j none,X:=E.X.re (fu E.X.r l0 q) }:=by
  refine⟨fun i ae hp=>?_,aD _,fun _ _ _=>rfl,fun b hb hno=>?_,fun i ae hp I=>?_,⟨rfl,rfl⟩,fun l h hh=>?_,.refl _,fun i l x h1 d W=>?_⟩
  rotate_right
  ·by_cases e : i = j
   ·subst e
    obtain⟨y,M,h4⟩:=W;simp only[]at M;rw[bC (by simp; exact hltj)]at M;cases M;cases h4
   ·by_cases B : i = id
    ·subst B
     rw[hid]at h1;cases h1;have e3:l0=l:=by
      have:=ad.lO d;rw[hlab]at this;cases this;rfl
     subst e3;rcases hmm with h|h
     ·rw[h]at d; cases d
     ·exact⟨⟨[some q],if_pos rfl⟩,o',hid',by rw[h]; exact d⟩
    ·have e3 : l ≠ l0 := fun e3 => B (H.uniq i id x o l h1 hid (ad.lO d) (by rw [e3]; exact hlab))
     exact⟨⟨[],by rw[dh]; exact if_neg e3⟩,x,by simp only[]; rw[aZ (Ne.symm e),aZ (Ne.symm B)]; exact h1,d⟩
  ·obtain ⟨x, h1, d⟩ := hp
   by_cases e:i=j
   ·subst e
    exact⟨.dead,by simp only[]; rw[bC (by simp; exact hltj)],rfl,fun v W=>by cases W⟩
   ·by_cases B : i = id
    ·subst B
     rw[hid]at h1;cases h1;exact⟨o',hid',ad.zf hlab',fun v W=>d.2 v (by rw[←hver]; exact W)⟩
    ·exact⟨x,by simp only[]; rw[aZ (Ne.symm e),aZ (Ne.symm B)]; exact h1,d⟩
  ·rintro (⟨i, c, hi⟩ | ⟨l, h, m, hm⟩)
   ·exact hno (.inl ⟨i,c,(U i _ hi).2⟩)
   ·rcases V l h b m hm with h1 | ⟨_, _, h1⟩
    ·exact hno (.inr ⟨l,h,m,h1⟩)
    ·exact hno (.inl ⟨j,m,h1⟩)
  ·obtain ⟨x, h1, d⟩ := I
   rcases H_old i x h1 with⟨_,rfl⟩|⟨rfl,rfl⟩|⟨O,B,M⟩
   ·cases d
   ·exact⟨⟨o,hid,by rw[←hver]; exact d⟩,by simp only[]; rw[aZ aA]⟩
   ·exact⟨⟨x,M,d⟩,by simp only[]; rw[aZ (Ne.symm O)]⟩
  ·obtain ⟨g1, g2⟩ := Lz (r := E.X.r) (l0 := l0) (q := q) hh
   exact⟨g1,fun y N=>by
    have N:(fu E.X.r l0 q l)[h]? = some (some y):=N
    rwa [g2]at N⟩
 refine⟨⟨by simp[H.len],fun i k b m n hi hk=>H.inj i k b m n (U i _ hi).2 (U k _ hk).2,fun i b m hi=>H.lt i b m (U i _ hi).2,fun b hb=>H.X b hb,fun i x hi=>?_,H.fH.bH hle.toC,fun l h l' h' b m n h1 d=>?_,fun i b m l h n hi hk=>?_,fun l h b m hk=>?_,fun i k x y l hi hk h1 d=>?_,fun l hn h y N=>?_⟩,hle⟩
 ·rcases H_old i x hi with ⟨rfl, rfl⟩ | ⟨rfl, rfl⟩ | ⟨O, B, M⟩
  ·simp only [aN]
   rw[bC (by rw[H.len]; exact hltj)]
  ·exact ho hle
  ·refine kT (fun a _ hr => bI hle a hr) (by simp only []; rw [aZ (Ne.symm O)]) (fun _ _ _ => rfl) (fun l I => ?_) (H.obj i x M)
   have hne2:l≠l0:=fun e=>B (H.uniq i id x o l M hid I (by rw[hlab,e]));exact⟨if_neg hne2,fun _ _ _ _=>rfl⟩
 ·rcases V l h b m h1 with g1 | ⟨g1, g2, g3⟩ <;> rcases V l' h' b n d with J | ⟨J, k2, k3⟩
  ·exact H.e9 _ _ _ _ _ _ _ g1 J
  ·exact(H.cY _ _ _ _ _ _ k3 g1).elim
  ·exact(H.cY _ _ _ _ _ _ g3 J).elim
  ·exact⟨by rw[g1,J],by rw[g2,k2,g1,J]⟩
 ·obtain ⟨g0, g1⟩ := U i _ hi
  rcases V l h b n hk with J|⟨J,k2,k3⟩
  ·exact H.cY _ _ _ _ _ _ g1 J
  ·exact g0 (H.inj _ _ _ _ _ g1 k3)
 ·rcases V l h b m hk with J | ⟨J, k2, k3⟩
  ·exact H.ct _ _ _ _ J
  ·exact H.lt _ _ _ k3
 ·have key:∀ (i:Nat) x,((E.H.set id o').set j .dead)[i]? = some x→x.label=some l→∃ y,E.H[i]? = some y∧y.label=some l:=by
   intro i x hi I;rcases H_old i x hi with⟨_,rfl⟩|⟨rfl,rfl⟩|⟨O,B,M⟩
   ·cases I
   ·exact⟨o,hid,by rw[hlab,←hlab',I]⟩
   ·exact⟨x,M,I⟩
  obtain⟨x',a1,a2⟩:=key i x hi h1;obtain⟨y',b1,b2⟩:=key k y hk d;exact H.uniq i k x' y' l a1 b1 a2 b2
 ·have hne2 : l ≠ l0 := fun e => hn id o' hid' (by rw [hlab', e])
  have N:(fu E.X.r l0 q l)[h]? = some (some y):=N;unfold fu at N;rw[if_neg hne2]at N;refine H.gH l (fun i x hi I=>?_) h y N;by_cases e:i=id
  ·subst e
   rw[hid]at hi;cases hi;exact hne2 (by rw[hlab]at I; cases I; rfl)
  ·by_cases O : i = j
   ·subst O
    rw[hj]at hi;cases hi;rw[hlj]at I;cases I
   ·exact hn i x (by show ((E.H.set id o').set j .dead)[i]? = _; rw[aZ (Ne.symm O),aZ (Ne.symm e)]; exact hi) I
theorem aq.D5{E:Env}(H:aq E){id l0 h0:Nat}{o o' ov:ad}{q:Option (Nat × Nat)}(hid:E.H[id]? = some o)(hlab:o.label=some l0)(U:o'.label=some l0)(hver:o'.aG = o.aG)(hlv:ov.label=none) (O:∀ b m,q=some (b,m)→(E.X.r l0)[h0]? = some (some (some (b,m))))
  (ho:E.le { w:=E.w,H:=E.H.set id o'++[ov],loc:=E.loc++[q],X:=E.X.re (gv E.X.r l0 h0) }→aN { w:=E.w,H:=E.H.set id o'++[ov],loc:=E.loc++[q],X:=E.X.re (gv E.X.r l0 h0) } id o'∧aN { w:=E.w,H:=E.H.set id o'++[ov],loc:=E.loc++[q],X:=E.X.re (gv E.X.r l0 h0) } E.H.length ov)
  (hmm:o.dy=none:=by first|rfl|assumption) :
  aq { w:=E.w,H:=E.H.set id o'++[ov],loc:=E.loc++[q],X:=E.X.re (gv E.X.r l0 h0) }∧E.le { w:=E.w,H:=E.H.set id o'++[ov],loc:=E.loc++[q],X:=E.X.re (gv E.X.r l0 h0) }:=by
 have W:=aK hid;have N:∀(i:Nat) x,(E.loc++[q])[i]? = some x→E.loc[i]? = some x∨(i=E.loc.length∧x=q):=fun i x hi=>by
  rw[fM]at hi;split at hi
  ·exact .inl hi
  ·right
   cases hk:i-E.loc.length with
   |zero=>rw[hk]at hi; simp at hi; exact⟨by omega,hi.symm⟩
   |succ n=>rw[hk]at hi; simp at hi
 have V:∀(i:Nat) x,(E.H.set id o'++[ov])[i]? = some x→(i=E.H.length∧x=ov)∨(i=id∧x=o')∨(i≠id∧E.H[i]? = some x):=fun i x hi=>by
  rw[fM]at hi;split at hi
  ·by_cases d : i = id
   ·subst d
    rw[bC W]at hi;cases hi;exact .inr (.inl ⟨rfl,rfl⟩)
   ·rw [aZ (Ne.symm d)] at hi
    exact .inr (.inr ⟨d,hi⟩)
  ·left
   cases hk:i-(E.H.set id o').length with
   |zero=>rw[hk]at hi; simp at hi; simp at hk; rename_i h1; simp at h1; exact⟨by omega,hi.symm⟩
   |succ n=>rw[hk]at hi; simp at hi
 have hid':(E.H.set id o'++[ov])[id]? = some o':=by
  rw[cT (by simp; exact W),bC W]
 have J:∀(l h:Nat) y,(gv E.X.r l0 h0 l)[h]? = some (some y)→(E.X.r l)[h]? = some (some y)∧¬ (l=l0∧h=h0):=fun l h y hk=>W4 hk;have hle:E.le { w:=E.w,H:=E.H.set id o'++[ov],loc:=E.loc++[q],X:=E.X.re (gv E.X.r l0 h0) }:=by
  refine⟨fun i ae hp=>?_,aD _,fun _ _ _=>rfl,fun b hb hno=>?_,fun i ae hp I=>?_,⟨rfl,rfl⟩,fun l h hh=>?_,.refl _,fun i l x h1 B hv=>?_⟩
  rotate_right
  ·by_cases d : i = id
   ·subst d
    rw[hid]at h1;cases h1;rw[hmm]at B;cases B
   ·have e3 : l ≠ l0 := fun e3 => d (H.uniq i id x o l h1 hid (ad.lO B) (by rw [e3]; exact hlab))
    exact⟨⟨[],by rw[dh]; exact if_neg e3⟩,x,by simp only[]; rw[cT (by rw[pd]; exact aK h1),aZ (Ne.symm d)]; exact h1,B⟩
  ·obtain ⟨x, h1, B⟩ := hp
   by_cases d:i=id
   ·subst d
    rw[hid]at h1;cases h1;exact⟨o',hid',ad.zf U,fun v hv=>B.2 v (by rw[←hver]; exact hv)⟩
   ·exact⟨x,by simp only[]; rw[cT (by simp; exact aK h1),aZ (Ne.symm d)]; exact h1,B⟩
  ·rintro (⟨i, c, hi⟩ | ⟨l, h, m, hm⟩)
   ·rcases N i _ hi with h1 | ⟨_, h1⟩
    ·exact hno (.inl ⟨i,c,h1⟩)
    ·exact hno (.inr ⟨l0,h0,c,O b c h1.symm⟩)
   ·exact hno (.inr ⟨l,h,m,(J l h _ hm).1⟩)
  ·obtain ⟨x0, g1, _⟩ := hp
   have hii:=aK g1;obtain⟨x,h1,B⟩:=I;have hloc:(E.loc++[q])[i]? = E.loc[i]? := cT (by rw[H.len]; exact hii);rcases V i x h1 with⟨e,rfl⟩|⟨rfl,rfl⟩|⟨d,M⟩
   ·omega
   ·exact⟨⟨o,hid,by rw[←hver]; exact B⟩,hloc⟩
   ·exact⟨⟨x,M,B⟩,hloc⟩
  ·refine ⟨?_, fun y hy => (J l h y hy).1⟩
   show h<(gv E.X.r l0 h0 l).length
   rw[W5];exact hh
 refine⟨⟨by simp[H.len],fun i k b m n hi hk=>?_,fun i b m hi=>?_,fun b hb=>H.X b hb,fun i x hi=>?_,H.fH.bH hle.toC,fun l h l' h' b m n h1 B=>H.e9 _ _ _ _ _ _ _ (J l h _ h1).1 (J l' h' _ B).1,fun i b m l h n hi hk=>?_,fun l h b m hk=>H.ct _ _ _ _ (J l h _ hk).1,fun i k x y l hi hk h1 B=>?_,fun l hn h y hy=>?_⟩,hle⟩
 ·rcases N i _ hi with g1 | ⟨g1, g2⟩ <;> rcases N k _ hk with k1 | ⟨k1, k2⟩
  ·exact H.inj _ _ _ _ _ g1 k1
  ·exact(H.cY _ _ _ _ _ _ g1 (O b n k2.symm)).elim
  ·exact(H.cY _ _ _ _ _ _ k1 (O b m g2.symm)).elim
  ·omega
 ·rcases N i _ hi with g1 | ⟨g1, g2⟩
  ·exact H.lt _ _ _ g1
  ·exact H.ct _ _ _ _ (O b m g2.symm)
 ·rcases V i x hi with ⟨rfl, rfl⟩ | ⟨rfl, rfl⟩ | ⟨d, M⟩
  ·exact(ho hle).2
  ·exact(ho hle).1
  ·refine kT (fun a _ hr => bI hle a hr) (by simp only []; rw [cT (by rw [H.len]; exact aK M)]) (fun _ _ _ => rfl) (fun l I => ?_) (H.obj i x M)
   have hne2:l≠l0:=fun e=>d (H.uniq i id x o l M hid I (by rw[hlab,e]));exact⟨if_neg hne2,fun _ _ _ _=>rfl⟩
 ·obtain ⟨r1, r2⟩ := J l h _ hk
  rcases N i _ hi with g1|⟨g1,g2⟩
  ·exact H.cY _ _ _ _ _ _ g1 r1
  ·exact r2 (H.e9 _ _ _ _ _ _ _ r1 (O b m g2.symm))
 ·have key:∀ (i:Nat) x,(E.H.set id o'++[ov])[i]? = some x→x.label=some l→∃ y,E.H[i]? = some y∧y.label=some l:=by
   intro i x hi I;rcases V i x hi with⟨_,rfl⟩|⟨rfl,rfl⟩|⟨d,M⟩
   ·rw[hlv]at I; cases I
   ·exact⟨o,hid,by rw[hlab,←U,I]⟩
   ·exact⟨x,M,I⟩
  obtain⟨x',a1,a2⟩:=key i x hi h1;obtain⟨y',b1,b2⟩:=key k y hk B;exact H.uniq i k x' y' l a1 b1 a2 b2
 ·refine H.gH l (fun i x hi I => ?_) h y (J l h y hy).1
  by_cases e:i=id
  ·subst e
   rw[hid]at hi;cases hi;exact hn i o' hid' (by rw[U,←hlab,I])
  ·exact hn i x (by show (E.H.set id o'++[ov])[i]? = _; rw[cT (by simp; exact aK hi),aZ (Ne.symm e)]; exact hi) I
theorem aq.LB{E:Env}(H:aq E){id l0:Nat}{o o':ad}(hid:E.H[id]? = some o)(hlab:o.label=some l0)(hlab':o'.label=none)(O:o'.aG = o.aG)
  (ho:E.le { w:=E.w,H:=E.H.set id o',loc:=E.loc,X:=E.X.re (iB E.X.r l0) }→aN { w:=E.w,H:=E.H.set id o',loc:=E.loc,X:=E.X.re (iB E.X.r l0) } id o')
  (hmm:o.dy=none:=by first|rfl|assumption) (hborn:o'.born=true:=by first|rfl|assumption) :
  aq { w:=E.w,H:=E.H.set id o',loc:=E.loc,X:=E.X.re (iB E.X.r l0) }∧E.le { w:=E.w,H:=E.H.set id o',loc:=E.loc,X:=E.X.re (iB E.X.r l0) }:=by
 have U:=aK hid;have J:∀(i:Nat) x,(E.H.set id o')[i]? = some x→(i=id∧x=o')∨(i≠id∧E.H[i]? = some x):=fun i x hi=>by
  by_cases q:i=id
  ·subst q
   rw[bC U]at hi;cases hi;exact .inl ⟨rfl,rfl⟩
  ·rw [aZ (Ne.symm q)] at hi
   exact .inr ⟨q,hi⟩
 have hle:E.le { w:=E.w,H:=E.H.set id o',loc:=E.loc,X:=E.X.re (iB E.X.r l0) }:=by
  refine⟨fun i ae W=>?_,aD _,fun _ _ _=>rfl,fun b hb V=>?_,fun i ae W B=>?_,⟨rfl,rfl⟩,fun l h hh=>?_,.refl _,fun i l x h1 d hv=>?_⟩
  rotate_right
  ·by_cases q : i = id
   ·subst q
    rw[hid]at h1;cases h1;rw[hmm]at d;cases d
   ·have M : l ≠ l0 := fun M => q (H.uniq i id x o l h1 hid (ad.lO d) (by rw [M]; exact hlab))
    exact⟨⟨[],by rw[dh]; exact if_neg M⟩,x,by simp only[]; rw[aZ (Ne.symm q)]; exact h1,d⟩
  ·obtain ⟨x, h1, d⟩ := W
   by_cases q:i=id
   ·subst q
    rw[hid]at h1;cases h1;exact⟨o',by simp only[]; rw[bC U],hborn,fun v hv=>d.2 v (by rw[←O]; exact hv)⟩
   ·exact⟨x,by simp only[]; rw[aZ (Ne.symm q)]; exact h1,d⟩
  ·rintro (⟨i, c, hi⟩ | ⟨l, h, m, hm⟩)
   ·exact V (.inl ⟨i,c,hi⟩)
   ·exact V (.inr ⟨l,h,m,(iV hm).1⟩)
  ·obtain ⟨x, h1, d⟩ := B
   rcases J i x h1 with⟨rfl,rfl⟩|⟨q,I⟩
   ·exact⟨⟨o,hid,by rw[←O]; exact d⟩,rfl⟩
   ·exact⟨⟨x,I,d⟩,rfl⟩
  ·refine ⟨?_, fun y N => (iV N).1⟩
   show h<(iB E.X.r l0 l).length
   rw[LA];exact hh
 refine⟨⟨by simp[H.len],H.inj,H.lt,H.X,fun i x hi=>?_,H.fH.bH hle.toC,fun l h l' h' b m n h1 d=>H.e9 _ _ _ _ _ _ _ (iV h1).1 (iV d).1,fun i b m l h n hi hk=>H.cY _ _ _ _ _ _ hi (iV hk).1,fun l h b m hk=>H.ct _ _ _ _ (iV hk).1,fun i k x y l hi hk h1 d=>?_,fun l hn h y N=>?_⟩,hle⟩
 ·rcases J i x hi with ⟨rfl, rfl⟩ | ⟨q, I⟩
  ·exact ho hle
  ·refine kT (fun a _ hr => bI hle a hr) rfl (fun _ _ _ => rfl) (fun l B => ?_) (H.obj i x I)
   have hne2:l≠l0:=fun e=>q (H.uniq i id x o l I hid B (by rw[hlab,e]));exact⟨if_neg hne2,fun _ _ _ _=>rfl⟩
 ·have key:∀ (i:Nat) x,(E.H.set id o')[i]? = some x→x.label=some l→E.H[i]? = some x:=by
   intro i x hi B;rcases J i x hi with⟨rfl,rfl⟩|⟨q,I⟩
   ·rw[hlab']at B; cases B
   ·exact I
  exact H.uniq i k x y l (key i x hi h1) (key k y hk d) h1 d
 ·obtain ⟨g1, g2⟩ := iV N
  refine H.gH l (fun i x hi B=>?_) h y g1;by_cases e:i=id
  ·subst e
   rw[hid]at hi;cases hi;exact g2 (by rw[hlab]at B; cases B; rfl)
  ·exact hn i x (by show (E.H.set id o')[i]? = _; rw[aZ (Ne.symm e)]; exact hi) B
theorem zM{E:Env}(HE:aq E){id l w cl:Nat}{es:List (AV × Option (List (List AV)) × Nat)}{c:Value}(hid:E.H[id]? = some (.aX l w es cl))(hr:rel E (.map id) c) :
  ∃ b n ms,c=.map (some b)∧E.loc[id]? = some (some (b,n))∧E.w.heap[b]? = some (.map ms cl)∧bD E (cG es) ms.toList∧jy E l w es ms.toList:=by
 have ho:=HE.obj id _ hid;simp only[aN]at ho;obtain⟨b,n,ms,h1,d,k,q⟩:=ho;simp only[rel]at hr;obtain⟨_,_,B⟩:=hr;obtain⟨I,J,g1,g2⟩:=B ⟨_,hid,rfl⟩;rw[h1]at g1;simp only[aY,a8]at g1;obtain⟨rfl,rfl⟩:=g1;exact⟨b,n,ms,g2,h1,d,k,q⟩
theorem D6{P:Program}{d:TypeId}{k:AV}{q:List Value}(h:h_ P d k=some q):fP k=(k,.undef):=by
 unfold h_ at h;split at h
 ·cases h
 ·split at h
  ·rfl
  ·rfl
  ·cases h
theorem vO{es:List (AV × Option (List (List AV)) × Nat)}{i:Nat}{x:AV × Option (List (List AV)) × Nat}(h:es[i]? = some x):(cG es)[i]? = some ((fP x.1).1,(fP x.1).2,x.2.2):=by
 unfold cG;rw[bU,h];rfl
def zN(P:Program)(t:TypeId):Option Nat:=match cg P t with
 |.slice _ w _=>some w
 |_=>none
def pH (es:List (AV × Option (List (List AV)) × Nat)) (i:Nat):Option (AV × List (List AV) × Nat):=match es[i]? with
 |some (key,some rows,n)=>some (key,rows,n)
 |_=>none
def vP(P:Program)(t:TypeId)(m k:AV)(H:List ad):Option (AV × List ad) :=
 match dx P t,m with
 | some (d,q),.map id=>match H[id]? with
  | some (.aX l w es cl)=>match h_ P d k,zN P q,iA P q with
   | some B,some w',some (.lit (.slice none 0 0))=>match ab w' w with
    | true=>match eU P d B (cG es) 0 with
     | some (some (i,_))=>match pH es i with
      |some (key,rows,n)=>some (.vec w H.length 0 0 rows.length,H.set id (.aX l w (es.set i (key,none,n)) cl)++[.vec w 0 rows])
      |none=>none
     |some none=>some (.vec w H.length 0 0 0,H.set id (.aX l w es cl)++[.vec w 0 []])
     |none=>none
    |false=>none
   |_,_,_=>none
  |_=>none
 |_,_=>none
theorem W6{E:Env}{l w i:Nat}{es:List (AV × Option (List (List AV)) × Nat)}{ms:List MapEntry}{x:AV × Option (List (List AV)) × Nat}(I:x.2.1=none)(h:jy E l w es ms):jy E l w (es.set i x) ms:=by
 obtain⟨J,h1,M⟩:=h;have k:∀(j:Nat) y,(es.set i x)[j]? = some y→y.2.1.isSome=true→es[j]? = some y∧j≠i:=fun j y d q=>by
  rw[eC]at d;split at d
  ·split at d
   ·cases d
    rw[I]at q;cases q
   ·cases d
  ·rename_i aA
   exact⟨d,Ne.symm aA⟩
 refine⟨J,fun a b y z d N B sz he=>h1 a b y z (k a y d B).1 (k b z N sz).1 B sz he,fun a y rows e d hr he=>M a y rows e (k a y d (by rw[hr]; rfl)).1 hr he⟩
theorem D7{E:Env}{i:Nat}{es:List (AV × Option (List (List AV)) × Nat)}{ms:List MapEntry}{x y:AV × Option (List (List AV)) × Nat}(hi:es[i]? = some x)(h1:y.1=x.1)(d:y.2.2=x.2.2)(h:bD E (cG es) ms):bD E (cG (es.set i y)) ms:=by
 have e:cG (es.set i y)=cG es:=by
  apply kR;intro j;unfold cG;rw[bU,bU,eC];split
  ·rename_i e
   subst e;rw[if_pos (aK hi),hi];simp[h1,d]
  ·rfl
 rw[e];exact h
theorem W7{P:Program}{E:Env}(HE:aq E){t:TypeId}{m k v:AV}{c d:Value}{H':List ad}(h:vP P t m k E.H=some (v,H'))(hm:rel E m c)(hk:rel E k d) :
  ∃ u w',(lI t c d false).run P E.w=.ok u w'∧cZ E v H' u w':=by
 unfold vP at h;split at h
 case h_2=>cases h
 rename_i kt et id ht;split at h
 case h_2=>cases h
 rename_i l w es cl hid;split at h
 case h_2=>cases h
 rename_i kv w' hkv hw' hz;split at h
 case h_2=>cases h
 rename_i hww;have hww:=bk hww;clear hw' hww;obtain⟨b,n,ms,rfl,h1,h2,h3,h4⟩:=zM HE hid hm;have hkv':=iU hkv hk;have hpk:=D6 hkv;have e1:(getObj b).run P E.w=.ok (.map ms cl) E.w:=by simp[getObj,gX,h2]
 have hlenH:E.H.length=E.loc.length:=HE.len.symm;split at h
 ·rename_i i v0 hf
  split at h
  case h_2=>cases h
  rename_i key rows bn hat;cases h;have hes:es[i]? = some (key,some rows,bn):=by
   unfold pH at hat;split at hat
   ·rename_i a1 a2 a3 he
    cases hat;exact he
   ·cases hat
  obtain⟨r',g1,g2⟩:=iz hkv' E.w h3 hf;cases r' with
  |none=>simp[dz]at g2
  | some q =>
   simp only[dz]at g2;obtain⟨q1,q2,_,e',q4,q5⟩:=g2;simp only[gU]at q4;have hval:q.2=e'.val:=q5.symm;obtain⟨U,k1,k2⟩:=h4;have hsl:=k2 i _ rows e' hes rfl q4;obtain⟨J,h0,z1,z2,z3⟩:∃(J:Option (Nat × Nat)) (h0:Nat),(∀ b m,J=some (b,m)→(E.X.r l)[h0]? = some (some (some (b,m)))) ∧
     (∀ j y,es[j]? = some y→y.2.1.isSome=true→j≠i→∀ b m,(E.X.r l)[U j]? = some (some (some (b,m)))→U j≠h0) ∧
     ((J=none∧rows=[]∧∃ base,e'.val=.slice base 0 0)∨∃ b m,J=some (b,m)∧e'.val=.slice (some ⟨b,0,none⟩) rows.length m∧isRow E.w b (m*w)∧rows.length≤m∧ft rows∧cL E w rows b 0):=by
    rcases hsl with⟨s1,s2⟩|⟨N,mm,s1,s2,V,O,W,s6⟩
    ·exact⟨none,(E.X.r l).length,fun _ _ e=>(by cases e),fun j y _ _ _ b m hb e=>(by rw[e]at hb; have:=aK hb; omega),.inl ⟨rfl,s1,s2⟩⟩
    ·exact⟨some (N,mm),U i,fun _ _ e=>(by cases e; exact s1),fun j y I hsy aA _ _ _ e=>aA (k1 j i _ _ I hes hsy rfl e),.inr ⟨N,mm,rfl,s2,V,O,W,s6⟩⟩
   obtain⟨r1,r2⟩:=aq.D5 HE (id:=id) (l0:=l) (h0:=h0) (o':=.aX l w (es.set i (key,none,bn)) cl) (ov:=.vec w 0 rows) (q:=J) hid rfl rfl rfl rfl z1 fun hle=>by
    refine⟨?_,?_⟩
    ·simp only [aN]
     refine⟨b,n,ms,?_,h2,?_,?_⟩
     ·rw [cT (aK h1)]
      exact h1
     ·exact gd (fun a _ hr=>bI hle a hr) (D7 hes rfl rfl h3)
     ·obtain ⟨_, k3, k4⟩ := W6 (i := i) (x := (key, none, bn)) rfl (show jy E l w es ms.toList from ⟨U, k1, k2⟩)
      refine⟨U,fun a b' y z I hz sy sz he=>?_,fun a y rws e I hr he=>?_⟩
      all_goals
       have old:∀(j:Nat) y,(es.set i (key,none,bn))[j]? = some y→y.2.1.isSome=true→es[j]? = some y∧j≠i:=fun j y I hsm=>by
        rw[eC]at I;split at I
        ·split at I
         ·cases I
          cases hsm
         ·cases I
        ·rename_i aA
         exact⟨I,Ne.symm aA⟩
      ·exact k1 a b' y z (old a y I sy).1 (old b' z hz sz).1 sy sz he
      ·obtain ⟨o1, o2⟩ := old a y I (by rw [hr]; rfl)
       rcases k2 a y rws e o1 hr he with M|⟨N,mm,s1,s2,V,O,W,s6⟩
       ·exact .inl M
       ·refine .inr ⟨N, mm, ?_, s2, V, O, W, kS (fun a _ hr => bI hle a hr) rfl s6⟩
        have aA:=z2 a y o1 (by rw[hr]; rfl) o2 N mm s1;show (gv E.X.r l h0 l)[U a]? = _
        rw[D4 fun e=>aA e.2];exact s1
    ·simp only [aN]
     have M:(E.loc++[J])[E.H.length]? = some J:=by rw[hlenH]; simp
     rcases z3 with⟨rfl,s1,_⟩|⟨N,mm,rfl,_,V,O,W,s6⟩
     ·exact .inl ⟨M,s1⟩
     ·exact .inr ⟨N,mm,M,V,O,W,kS (fun a _ hr=>bI hle a hr) rfl s6⟩
   refine⟨q.2,E.w,?_,E.loc++[J],gv E.X.r l h0,?_,r1,r2⟩
   ·simp only [lI, bY, Sem.bu (fR ht), b_, e1, fN, gJ hkv', g1]
    rfl
   ·have hnew:(E.H.set id (.aX l w (es.set i (key,none,bn)) cl)++[.vec w 0 rows])[E.H.length]? = some (.vec w 0 rows):=by
     rw[iM (by simp)];simp
    have M:(E.loc++[J])[E.H.length]? = some J:=by rw[hlenH]; simp
    rw[hval];simp only[rel];rcases z3 with⟨rfl,s1,base,s2⟩|⟨N,mm,rfl,s2,V,O,W,s6⟩
    ·subst s1
     refine⟨⟨base,0,by rw[s2]; rfl,aD _,fun h=>by simp at h⟩,⟨_,hnew,rfl,fun v hv=>by cases hv; exact aD _⟩,fun _=>⟨fun _=>⟨by first|rfl|trivial,by first|rfl|trivial,base,s2⟩,fun b' m' B=>?_⟩⟩;rw[M]at B;cases B
    ·refine ⟨⟨_, mm, s2, O, fun _ => ⟨N, 0, rfl⟩⟩, ⟨_, hnew, rfl, fun v hv => by cases hv; exact aD _⟩, fun _ => ⟨fun B => ?_, fun b' m' B => ?_⟩⟩
     ·rw [M] at B
      cases B
     ·rw [M] at B
      cases B;exact⟨by omega,0,fun _=>by simp,by rw[s2,gU]⟩
 ·rename_i hf
  cases h;obtain⟨r',g1,g2⟩:=iz hkv' E.w h3 hf;cases r' with
  |some _=>simp[dz]at g2
  | none =>
   obtain⟨zv,z1,z2⟩:=s7 hz E.w;have hzv:zv=.slice none 0 0:=by have:=z2 E; simpa[rel]using this
   obtain⟨r1,r2⟩:=aq.D5 HE (id:=id) (l0:=l) (h0:=(E.X.r l).length) (o':=.aX l w es cl) (ov:=.vec w 0 []) (q:=none) hid rfl rfl rfl rfl (fun _ _ e=>by cases e) fun hle=>by
    refine⟨?_,?_⟩
    ·simp only [aN]
     refine⟨b,n,ms,?_,h2,gd (fun a _ hr=>bI hle a hr) h3,vA (E:=E) (fun h g m hk=>⟨?_,rfl⟩) (fun _ _ _ _ _ b' B _ hr=>kS (fun a _ hr=>bI hle a hr) B hr) h4⟩
     ·rw [cT (aK h1)]
      exact h1
     ·show (gv E.X.r l (E.X.r l).length l)[h]? = _
      rw[D4 fun e=>by rw[e.2]at hk; have:=aK hk; omega];exact hk
    ·simp only [aN]
     exact .inl ⟨by rw[hlenH]; simp,by first|rfl|trivial⟩
   refine⟨zv,E.w,?_,E.loc++[none],gv E.X.r l (E.X.r l).length,?_,r1,r2⟩
   ·simp only [lI, bY, Sem.bu (fR ht), b_, e1, fN, gJ hkv', g1, z1]
    rfl
   ·have hnew:(E.H.set id (.aX l w es cl)++[.vec w 0 []])[E.H.length]? = some (.vec w 0 []):=by
     rw[iM (by simp)];simp
    have M:(E.loc++[(none:Option (Nat × Nat))])[E.H.length]? = some none:=by rw[hlenH]; simp
    rw[hzv];simp only[rel];refine⟨⟨none,0,rfl,aD _,fun h=>by simp at h⟩,⟨_,hnew,rfl,fun v hv=>by cases hv; exact aD _⟩,fun _=>⟨fun _=>⟨by first|rfl|trivial,by first|rfl|trivial,none,rfl⟩,fun b' m' B=>?_⟩⟩;rw[M]at B;cases B
 ·cases h
theorem D8{es:List (AV × Option (List (List AV)) × Nat)}{i:Nat}{x:AV × Option (List (List AV)) × Nat}{f:AV × Option (List (List AV)) × Nat→AV × Option (List (List AV)) × Nat}(h:es[i]? = some x):es.modify i f=es.set i (f x):=by
 apply kR;intro j;rw[jr,eC];by_cases e:i=j
 ·subst e
  rw[if_pos rfl,if_pos (aK h),h];simp
 ·rw [if_neg e]
  simp[e]
def rb(P:Program)(t:TypeId)(m k v:AV)(H:List ad):Option (List ad) :=
 match dx P t,m,v with
 | some (d,_),.map id,.vec w j ae off n=>match H[id]?,H[j]? with
  | some (.aX l w' es cl),some (.vec B q rows)=>match h_ P d k with
   | some I=>if (w=w'∧w=B)∧(ae=q∧off=0)∧n=rows.length∧k.closed=true then
     match eU P d I (cG es) 0 with
     |some (some (i,_))=>some ((H.set id (.aX l w' (es.modify i fun e=>(k,some rows,e.2.2)) cl)).set j .dead)
     |some none=>some ((H.set id (.aX l w' (es++[(k,some rows,cl)]) (cl+1))).set j .dead)
     |none=>none
    else none
   |none=>none
  |_,_=>none
 |_,_,_=>none
theorem vQ{P:Program}{E:Env}(HE:aq E){id l w b n cl cl':Nat}{es es':List (AV × Option (List (List AV)) × Nat)}{ms ms':Array MapEntry}(hid:E.H[id]? = some (.aX l w es cl)) (d:E.loc[id]? = some (some (b,n)))
  (hb:E.w.heap[b]? = some (.map ms cl)) (hr:bD E (cG es') ms'.toList) (B:jy E l w es' ms'.toList) :
  ∃ w',(setObj b (.map ms' cl')).run P E.w=.ok () w'∧aq { w:=w',H:=E.H.set id (.aX l w es' cl'),loc:=E.loc,X:=E.X }∧E.le { w:=w',H:=E.H.set id (.aX l w es' cl'),loc:=E.loc,X:=E.X } ∧
   w'.heap[b]? = some (.map ms' cl')∧∀ y,y≠b→w'.heap[y]? = E.w.heap[y]? := by
 have q:=(HE.lt id b n d).1;have I:({ E.w with heap:=E.w.heap.setIfInBounds b (.map ms' cl') }:World).heap.size=E.w.heap.size:=by simp
 have k:∀ y,y≠b→({ E.w with heap:=E.w.heap.setIfInBounds b (.map ms' cl') }:World).heap[y]? = E.w.heap[y]? := by
  intro y M;simp only[C_];rw[if_neg (fun e=>M e.symm)]
 have key:=aq.Dy (E:=E) (w':={ E.w with heap:=E.w.heap.setIfInBounds b (.map ms' cl') }) (o':=.aX l w es' cl') (r':=E.X.r) HE hid rfl rfl rfl (by rw[I]; exact aD _) (fun x _ aA _=>k x fun e=>aA n (by rw[e]; exact d)) (fun _ _=>rfl) (fun _ _ _ h=>.inl h) (fun h N=>⟨N,fun _ O=>O⟩) (fun hle=>by
  simp only[aN];refine⟨b,n,ms',d,by simp[q],gd (fun a _ hr=>bI hle a hr) hr,vA (E:=E) (fun h g m hk=>⟨hk,k g fun e=>HE.cY _ _ _ _ _ _ d (by rw[←e]; exact hk)⟩) (fun _ _ _ _ _ U J _ hr=>kS (fun a _ hr=>bI hle a hr) J hr) B⟩) ⟨rfl,rfl,rfl,by first|exact fun _=>aD _|exact fun _=>fq _ _⟩
 rw[XS.V_]at key;exact⟨_,by simp[setObj,gX,hb],key.1,key.2,by simp[q],k⟩
theorem D9{E:Env}(HE:aq E){id j l w cl i ae:Nat}{es:List (AV × Option (List (List AV)) × Nat)}{rows:List (List AV)}{key:AV}{bn b n:Nat}{ms:Array MapEntry}{e:MapEntry}(hid:E.H[id]? = some (.aX l w es cl))(J:E.H[j]? = some (.vec w ae rows))
  (hi:es[i]? = some (key,none,bn)) (hloc:E.loc[id]? = some (some (b,n))) (hb:E.w.heap[b]? = some (.map ms cl)) (he:ms.toList[i]? = some e) (hr:bD E (cG es) ms.toList) (hsl:jy E l w es ms.toList) (hv:rel E (.vec w j ae 0 rows.length) e.val) :
  ∃ loc' r',aq { w:=E.w,H:=(E.H.set id (.aX l w (es.set i (key,some rows,bn)) cl)).set j .dead,loc:=loc',X:=E.X.re r' }∧E.le { w:=E.w,H:=(E.H.set id (.aX l w (es.set i (key,some rows,bn)) cl)).set j .dead,loc:=loc',X:=E.X.re r' }:=by
 have aA:j≠id:=fun e=>by rw[e,hid]at J; cases J
 have O:=HE.obj j _ J;simp only[rel]at hv;obtain⟨_,_,v3⟩:=hv;obtain⟨v4,v5⟩:=v3 ⟨_,J,rfl⟩;simp only[aN]at O;obtain⟨q,hq⟩:∃ q,E.loc[j]? = some q:=by
  rcases O with⟨h1,_⟩|⟨V,m',h1,_⟩
  ·exact⟨_,h1⟩
  ·exact⟨_,h1⟩
 obtain⟨N,k1,k2⟩:=hsl;have htl:∀ h,h<(E.X.r l).length→(fu E.X.r l q l)[h]? = (E.X.r l)[h]? := fun h d=>(Lz d).2;have hnew:(fu E.X.r l q l)[(E.X.r l).length]? = some (some q):=by
  unfold fu;rw[if_pos rfl];simp
 obtain⟨r1,r2⟩:=aq.attach HE (id:=id) (j:=j) (o':=.aX l w (es.set i (key,some rows,bn)) cl) (q:=q) hid rfl rfl rfl J rfl hq fun hle=>by
  simp only[aN];refine⟨b,n,ms,?_,hb,gd (fun a _ hr=>bI hle a hr) (D7 hi rfl rfl hr),?_⟩
  ·rw [aZ aA]
   exact hloc
  ·-- handles: the M ones, but at i the new one; empty ones take none
   have M:∀(a:Nat) y,(es.set i (key,some rows,bn))[a]? = some y→a≠i→es[a]? = some y:=fun a y k aA=>by
    rwa [aZ (Ne.symm aA)]at k
   have at_i:∀ y,(es.set i (key,some rows,bn))[i]? = some y→y=(key,some rows,bn):=fun y k=>by
    rw[bC (aK hi)]at k;cases k;rfl
   refine⟨fun a=>if a=i then (E.X.r l).length else if N a<(E.X.r l).length then N a else (E.X.r l).length+1+N a,fun a c y z k hz sy sz d=>?_,fun a y rws e' k hr' U=>?_⟩
   ·by_cases B : a = i
    ·by_cases I : c = i
     ·rw[B,I]
     ·simp only [if_pos B, if_neg I] at d
      split at d<;>omega
    ·by_cases I : c = i
     ·simp only [if_neg B, if_pos I] at d
      split at d<;>omega
     ·simp only [if_neg B, if_neg I] at d
      refine k1 a c y z (M a y k B) (M c z hz I) sy sz ?_;split at d<;>split at d<;>omega
   ·by_cases B : a = i
    ·subst B
     have:=at_i y k;subst this;cases hr';rw[he]at U;cases U;rcases O with⟨h1,W⟩|⟨V,m',h1,W,h3,h4,h5⟩
     ·obtain ⟨_, _, base, h3⟩ := v4 h1
      subst W;exact .inl ⟨rfl,base,h3⟩
     ·obtain ⟨h6, o, h7, h8⟩ := v5 V m' h1
      rw[hq]at h1;cases h1;simp only[di,sA,gU]at h6 h7 h8;by_cases hm:0<m'
      ·have := h7 hm
       subst this;refine .inr ⟨V,m',?_,h8,W,h3,h4,kS (fun a _ hr=>bI hle a hr) rfl h5⟩;simp only[if_true];exact hnew
      ·have hr0 : rows = [] := C6 (by omega)
       have hm0:m'=0:=by omega
       subst hr0;subst hm0;exact .inl ⟨rfl,_,h8⟩
    ·rcases k2 a y rws e' (M a y k B) hr' U with hl | ⟨bb, mm, s1, s2, s3, s4, s5, s6⟩
     ·exact .inl hl
     ·refine .inr ⟨bb, mm, ?_, s2, s3, s4, s5, kS (fun a _ hr => bI hle a hr) rfl s6⟩
      have d:=aK s1;simp only[if_neg B,if_pos d];show (fu E.X.r l q l)[N a]? = _
      rw[htl _ d];exact s1
 exact⟨_,_,r1,r2⟩
theorem W8{P:Program}{E:Env}(HE:aq E){t:TypeId}{m k v:AV}{c d u:Value}{H':List ad}(h:rb P t m k v E.H=some H')(hm:rel E m c)(hk:rel E k d)(hv:rel E v u) :
  ∃ w',(nT t c d u).run P E.w=.ok () w'∧∀ x,cZ E .undef H' x w':=by
 unfold rb at h;split at h
 case h_2=>cases h
 rename_i kt et id w j ae off n ht;split at h
 case h_2=>cases h
 rename_i l w' es cl w2 ver' rows hid hj;split at h
 case h_2=>cases h
 rename_i kv hkv;split at h
 case isFalse=>cases h
 rename_i hc;obtain⟨⟨rfl,rfl⟩,⟨rfl,rfl⟩,rfl,hcl⟩:=hc;obtain⟨b,n,ms,rfl,h1,h2,h3,h4⟩:=zM HE hid hm;have aA:j≠id:=fun e=>by rw[e,hid]at hj; cases hj
 have U:=iU hkv hk;have M:=D6 hkv;have e1:(getObj b).run P E.w=.ok (.map ms cl) E.w:=by simp[getObj,gX,h2]
 obtain⟨hlen,hall⟩:=eG.1 h3;rw[Dv]at hlen;split at h
 ·rename_i i v0 hf
  cases h;obtain⟨r',g1,g2⟩:=iz U E.w h3 hf;cases r' with
  |none=>simp[dz]at g2
  | some q =>
   simp only[dz]at g2;obtain⟨q1,q2,_,e',O,q5⟩:=g2;obtain⟨_,x,y,f1,f2,f3⟩:=vK hf;simp only[gU]at O f1;obtain⟨a1,a2,a3,a4,a5⟩:=hall i x e' f1 O;obtain⟨s1,s2⟩:=zK U (iU f2 a1) f3;have q4':ms[i]? = some e':=by simpa using O
   have hlt:i<es.length:=by have:=aK O; omega
   obtain⟨J,hx0⟩:∃ J,es[i]? = some J:=⟨es[i],bf hlt⟩
   have hx:x=((fP J.1).1,(fP J.1).2,J.2.2):=by rw[vO hx0]at f1; cases f1; rfl
   have hkk:(k,(none:Option (List (List AV))),J.2.2)=(k,none,J.2.2):=rfl;have hre:bD E (cG (es.set i (k,none,J.2.2))) (ms.modify i fun e=>{ e with key:=d,val:=u }).toList:=by
    rw[eG];refine⟨by simp[cG,hlen],fun a y z B I=>?_⟩;simp only[lK,jr]at I;obtain⟨z0,hz0,rfl⟩:=ef.1 I;unfold cG at B;rw[bU,eC]at B;by_cases e:i=a
    ·subst e
     rw[if_pos rfl,if_pos hlt]at B;cases B;rw[O]at hz0;cases hz0;simp only[if_true];refine⟨by simpa[M]using hk,by simp[M,rel],?_,by simpa[M]using hcl,by simp[M,AV.closed]⟩;rw[a3,hx]
    ·rw [if_neg e] at B
     obtain⟨b1,b2,b3,b4,b5⟩:=hall a y z0 (by unfold cG; rw[bU]; exact B) hz0;simp only[if_neg e];exact⟨b1,b2,b3,b4,b5⟩
   have hsl2:jy E l w (es.set i (k,none,J.2.2)) (ms.modify i fun e=>{ e with key:=d,val:=u }).toList:=by
    obtain⟨hs,k1,k2⟩:=h4;have N:∀(a:Nat) y,(es.set i (k,none,J.2.2))[a]? = some y→y.2.1.isSome=true→es[a]? = some y∧a≠i:=fun a y B hsm=>by
     by_cases ei:i=a
     ·subst ei
      rw[bC hlt]at B;cases B;cases hsm
     ·rw [aZ ei] at B
      exact⟨B,Ne.symm ei⟩
    refine⟨hs,fun a c y z B I sy sz he=>k1 a c y z (N a y B sy).1 (N c z I sz).1 sy sz he,fun a y rws e B hr he=>?_⟩;obtain⟨o1,o2⟩:=N a y B (by rw[hr]; rfl);simp only[lK,jr]at he;obtain⟨z0,hz0,rfl⟩:=ef.1 he;rw[if_neg (Ne.symm o2)];exact k2 a y rws z0 o1 hr hz0
   obtain⟨w',p1,p2,p3,p4,p5⟩:=vQ (P:=P) HE (cl':=cl) hid h1 h2 hre hsl2;have hst:(sB e'.key d).run P E.w=.ok d E.w:=by simp[sB,s2]
   have hrun:(nT t (.map (some b)) d u).run P E.w=.ok () w':=by
    subst q1;simp only[nT,bY,Sem.bu (fR ht),b_,e1,gJ U,g1,q4',eg,ga,hst];exact p1
   have V:({ w:=w',H:=E.H.set id (.aX l w (es.set i (k,none,J.2.2)) cl),loc:=E.loc,X:=E.X }:Env).H[id]? = some (.aX l w (es.set i (k,none,J.2.2)) cl):=by
    simp only[];rw[bC (aK hid)]
   have hjE:({ w:=w',H:=E.H.set id (.aX l w (es.set i (k,none,J.2.2)) cl),loc:=E.loc,X:=E.X }:Env).H[j]? = some (.vec w ae rows):=by
    simp only[];rw[aZ (Ne.symm aA)];exact hj
   have W:=p2.obj id _ V;simp only[aN]at W;obtain⟨b2,n2,ms2,o1,o2,o3,o4⟩:=W;rw[h1]at o1;simp only[aY,a8]at o1;obtain⟨rfl,rfl⟩:=o1;rw[p4]at o2;cases o2;obtain⟨loc',r',r1,r2⟩:=D9 p2 (i:=i) (key:=k) (bn:=J.2.2) (e:={ e' with key:=d,val:=u }) V hjE (by rw[bC hlt]) h1 p4 (by
    simp only[lK,jr,O];simp) o3 o4 (bI p3 _ hv)
   refine⟨w',hrun,fun xx=>⟨loc',r',by simp[rel],?_,p3.trans ?_⟩⟩
   ·simpa[qK,D8 hx0]using r1
   ·simpa[qK,D8 hx0]using r2
 ·rename_i hf
  cases h;obtain⟨r',g1,g2⟩:=iz U E.w h3 hf;cases r' with
  |some _=>simp[dz]at g2
  | none =>
   have hml:ms.toList.length=es.length:=by omega
   have hre:bD E (cG (es++[(k,none,cl)])) (ms.push { key:=d,val:=u,born:=cl }).toList:=by
    rw[eG];refine⟨by simp[cG,hlen],fun a y z B I=>?_⟩;unfold cG at B;rw[iP]at B;simp only[qJ,fM,cD]at B I;rw[hml]at I;by_cases e:a<es.length
    ·simp only [if_pos e] at B I
     exact hall a y z (by unfold cG; exact B) I
    ·simp only [if_neg e] at B I
     cases hj2:a-es.length with
     | zero =>
      rw[hj2]at B I;simp at B I;subst B; subst I;exact⟨by simpa[M]using hk,by simp[M,rel],rfl,by simpa[M]using hcl,by simp[M,AV.closed]⟩
     |succ _=>rw[hj2]at B; simp at B
   have hsl2:jy E l w (es++[(k,none,cl)]) (ms.push { key:=d,val:=u,born:=cl }).toList:=by
    obtain⟨hs,k1,k2⟩:=h4;have N:∀(a:Nat) y,(es++[(k,(none:Option (List (List AV))),cl)])[a]? = some y→y.2.1.isSome=true→es[a]? = some y∧a<es.length:=fun a y B hsm=>by
     rw[fM]at B;split at B
     ·rename_i hh
      exact⟨B,hh⟩
     ·cases hk2 : a - es.length with
      | zero =>
       rw[hk2]at B;simp at B;subst B;cases hsm
      |succ _=>rw[hk2]at B; simp at B
    refine⟨hs,fun a c y z B I sy sz he=>k1 a c y z (N a y B sy).1 (N c z I sz).1 sy sz he,fun a y rws e B hr he=>?_⟩;obtain⟨o1,o2⟩:=N a y B (by rw[hr]; rfl);simp only[qJ]at he;rw[cT (by omega)]at he;exact k2 a y rws e o1 hr he
   obtain⟨w',p1,p2,p3,p4,p5⟩:=vQ (P:=P) HE (cl':=cl+1) hid h1 h2 hre hsl2;have hrun:(nT t (.map (some b)) d u).run P E.w=.ok () w':=by
    simp only[nT,bY,Sem.bu (fR ht),b_,e1,gJ U,g1];exact p1
   have V:({ w:=w',H:=E.H.set id (.aX l w (es++[(k,none,cl)]) (cl+1)),loc:=E.loc,X:=E.X }:Env).H[id]? = some (.aX l w (es++[(k,none,cl)]) (cl+1)):=by
    simp only[];rw[bC (aK hid)]
   have hjE:({ w:=w',H:=E.H.set id (.aX l w (es++[(k,none,cl)]) (cl+1)),loc:=E.loc,X:=E.X }:Env).H[j]? = some (.vec w ae rows):=by
    simp only[];rw[aZ (Ne.symm aA)];exact hj
   have W:=p2.obj id _ V;simp only[aN]at W;obtain⟨b2,n2,ms2,o1,o2,o3,o4⟩:=W;rw[h1]at o1;simp only[aY,a8]at o1;obtain⟨rfl,rfl⟩:=o1;rw[p4]at o2;cases o2;obtain⟨loc',r',r1,r2⟩:=D9 p2 (i:=es.length) (key:=k) (bn:=cl) (e:={ key:=d,val:=u,born:=cl }) V hjE (by simp) h1 p4 (by
    simp only[qJ];rw[iM (by omega)];simp[hml]) o3 o4 (bI p3 _ hv)
   have e2:(es++[(k,(none:Option (List (List AV))),cl)]).set es.length (k,some rows,cl)=es++[(k,some rows,cl)]:=by
    rw[List.set_append_right _ _ (aD _),Nat.sub_self];rfl
   refine⟨w',hrun,fun xx=>⟨loc',r',by simp[rel],?_,p3.trans ?_⟩⟩
   ·simpa[qK,e2]using r1
   ·simpa[qK,e2]using r2
 ·cases h
theorem aq.D_{E:Env}(H:aq E){id l0:Nat}{o o':ad}(hid:E.H[id]? = some o)(hlab:o.label=none)(N:o'.label=some l0)(O:o'.aG = o.aG)(M:∀(i:Nat) x,E.H[i]? = some x→x.label≠some l0)
  (ho:E.le { w:=E.w,H:=E.H.set id o',loc:=E.loc,X:=E.X }→aN { w:=E.w,H:=E.H.set id o',loc:=E.loc,X:=E.X } id o') :
  aq { w:=E.w,H:=E.H.set id o',loc:=E.loc,X:=E.X }∧E.le { w:=E.w,H:=E.H.set id o',loc:=E.loc,X:=E.X }:=by
 have U:=aK hid;have J:∀(i:Nat) x,(E.H.set id o')[i]? = some x→(i=id∧x=o')∨(i≠id∧E.H[i]? = some x):=fun i x hi=>by
  by_cases q:i=id
  ·subst q
   rw[bC U]at hi;cases hi;exact .inl ⟨rfl,rfl⟩
  ·rw [aZ (Ne.symm q)] at hi
   exact .inr ⟨q,hi⟩
 have hle:E.le { w:=E.w,H:=E.H.set id o',loc:=E.loc,X:=E.X }:=by
  refine⟨fun i ae V=>?_,aD _,fun _ _ _=>rfl,fun b hb M=>M,fun i ae V B=>?_,⟨rfl,rfl⟩,fun l h hh=>⟨hh,fun _ hq=>hq⟩,.refl _,fun i l x h1 d W=>⟨⟨[],(dh _).symm⟩,?_⟩⟩
  rotate_right
  ·by_cases q : i = id
   ·subst q
    rw[hid]at h1;cases h1;rw[ad.zg hlab]at d;cases d
   ·exact⟨x,by simp only[]; rw[aZ (Ne.symm q)]; exact h1,d⟩
  ·obtain ⟨x, h1, d⟩ := V
   by_cases q:i=id
   ·subst q
    rw[hid]at h1;cases h1;exact⟨o',by simp only[]; rw[bC U],ad.zf N,fun v W=>d.2 v (by rw[←O]; exact W)⟩
   ·exact⟨x,by simp only[]; rw[aZ (Ne.symm q)]; exact h1,d⟩
  ·obtain ⟨x, h1, d⟩ := B
   rcases J i x h1 with⟨rfl,rfl⟩|⟨q,I⟩
   ·exact⟨⟨o,hid,by rw[←O]; exact d⟩,rfl⟩
   ·exact⟨⟨x,I,d⟩,rfl⟩
 refine⟨⟨by simp[H.len],H.inj,H.lt,H.X,fun i x hi=>?_,H.fH.bH hle.toC,H.e9,H.cY,H.ct,fun i k x y l hi hk h1 d=>?_,fun l hn h y hy=>?_⟩,hle⟩
 ·rcases J i x hi with ⟨rfl, rfl⟩ | ⟨q, I⟩
  ·exact ho hle
  ·exact kT (fun a _ hr=>bI hle a hr) rfl (fun _ _ _=>rfl) (fun l B=>⟨rfl,fun _ _ _ _=>rfl⟩) (H.obj i x I)
 ·rcases J i x hi with ⟨rfl, rfl⟩ | ⟨q, I⟩ <;> rcases J k y hk with ⟨rfl, rfl⟩ | ⟨e4, h5⟩
  ·rfl
  ·rw [N] at h1
   cases h1;exact(M k y h5 d).elim
  ·rw [N] at d
   cases d;exact(M i x I h1).elim
  ·exact H.uniq i k x y l I h5 h1 d
 ·refine H.gH l (fun i x hi B => ?_) h y hy
  by_cases e:i=id
  ·subst e
   rw[hid]at hi;cases hi;rw[hlab]at B;cases B
  ·exact hn i x (by show (E.H.set id o')[i]? = _; rw[aZ (Ne.symm e)]; exact hi) B
theorem W9{E:Env}(HE:aq E){id l w cl:Nat}(hid:E.H[id]? = some (.map [] cl))(d:lV E.H l=true) :
  aq { w:=E.w,H:=E.H.set id (.aX l w [] cl),loc:=E.loc,X:=E.X }∧E.le { w:=E.w,H:=E.H.set id (.aX l w [] cl),loc:=E.loc,X:=E.X } :=
 aq.D_ HE hid rfl rfl rfl (sY d) fun hle=>by
  have ho:=HE.obj id _ hid;simp only[aN]at ho⊢;obtain⟨b,n,ms,h1,k,q⟩:=ho;refine⟨b,n,ms,h1,k,gd (fun a _ hr=>bI hle a hr) q,fun _=>0,fun i j x y hi=>by simp at hi,fun i x rows e hi=>by simp at hi⟩
theorem W_{E:Env}(HE:aq E){id l w cl:Nat}{k:List (AV × AV × Nat)}{es:List (AV × Option (List (List AV)) × Nat)}(hid:E.H[id]? = some (.map k cl))(he:cG es=k)(hn:∀ x∈es,x.2.1=none)(q:lV E.H l=true) :
  aq { w:=E.w,H:=E.H.set id (.aX l w es cl),loc:=E.loc,X:=E.X }∧E.le { w:=E.w,H:=E.H.set id (.aX l w es cl),loc:=E.loc,X:=E.X } :=
 aq.D_ HE hid rfl rfl rfl (sY q) fun hle=>by
  have ho:=HE.obj id _ hid;simp only[aN]at ho⊢;obtain⟨b,n,ms,h1,B,I⟩:=ho;refine⟨b,n,ms,h1,B,gd (fun a _ hr=>bI hle a hr) (by rw[he]; exact I),fun i=>i,fun i j x y hi J d=>?_,fun i x rows e hi d=>?_⟩
  ·rw [hn x (eZ hi)] at d
   cases d
  ·rw [hn x (eZ hi)] at d
   cases d
theorem Xa{E:Env}(HE:aq E){id l w cl i:Nat}{es:List (AV × Option (List (List AV)) × Nat)}{key:AV}{rows:List (List AV)}{bn b n:Nat}{ms:Array MapEntry}{e':MapEntry}(hid:E.H[id]? = some (.aX l w es cl))(hes:es[i]? = some (key,some rows,bn))
  (h1:E.loc[id]? = some (some (b,n))) (h2:E.w.heap[b]? = some (.map ms cl)) (h3:bD E (cG es) ms.toList) (h4:jy E l w es ms.toList) (q4:ms.toList[i]? = some e') :
  ∃ loc' r',aq { w:=E.w,H:=E.H.set id (.aX l w (es.set i (key,none,bn)) cl)++[.vec w 0 rows],loc:=loc',X:=E.X.re r' }∧E.le { w:=E.w,H:=E.H.set id (.aX l w (es.set i (key,none,bn)) cl)++[.vec w 0 rows],loc:=loc',X:=E.X.re r' } ∧
   rel { w:=E.w,H:=E.H.set id (.aX l w (es.set i (key,none,bn)) cl)++[.vec w 0 rows],loc:=loc',X:=E.X.re r' } (.vec w E.H.length 0 0 rows.length) e'.val:=by
 have hlenH:E.H.length=E.loc.length:=HE.len.symm;obtain⟨V,k1,k2⟩:=h4;have hsl:=k2 i _ rows e' hes rfl q4;obtain⟨k,h0,z1,z2,z3⟩:∃(k:Option (Nat × Nat)) (h0:Nat),(∀ b m,k=some (b,m)→(E.X.r l)[h0]? = some (some (some (b,m)))) ∧
   (∀ j y,es[j]? = some y→y.2.1.isSome=true→j≠i→∀ b m,(E.X.r l)[V j]? = some (some (some (b,m)))→V j≠h0) ∧
   ((k=none∧rows=[]∧∃ base,e'.val=.slice base 0 0)∨∃ b m,k=some (b,m)∧e'.val=.slice (some ⟨b,0,none⟩) rows.length m∧isRow E.w b (m*w)∧rows.length≤m∧ft rows∧cL E w rows b 0):=by
  rcases hsl with⟨s1,s2⟩|⟨B,mm,s1,s2,N,M,O,U⟩
  ·exact⟨none,(E.X.r l).length,fun _ _ e=>(by cases e),fun j y _ _ _ b m hb e=>(by rw[e]at hb; have:=aK hb; omega),.inl ⟨rfl,s1,s2⟩⟩
  ·exact⟨some (B,mm),V i,fun _ _ e=>(by cases e; exact s1),fun j y d hsy aA _ _ _ e=>aA (k1 j i _ _ d hes hsy rfl e),.inr ⟨B,mm,rfl,s2,N,M,O,U⟩⟩
 obtain⟨r1,r2⟩:=aq.D5 HE (id:=id) (l0:=l) (h0:=h0) (o':=.aX l w (es.set i (key,none,bn)) cl) (ov:=.vec w 0 rows) (q:=k) hid rfl rfl rfl rfl z1 fun hle=>by
  refine⟨?_,?_⟩
  ·simp only [aN]
   refine⟨b,n,ms,?_,h2,?_,?_⟩
   ·rw [cT (aK h1)]
    exact h1
   ·exact gd (fun a _ hr=>bI hle a hr) (D7 hes rfl rfl h3)
   ·refine ⟨V, fun a W y z d hz sy sz he => ?_, fun a y rws e d hr he => ?_⟩
    all_goals
     have old:∀(j:Nat) y,(es.set i (key,none,bn))[j]? = some y→y.2.1.isSome=true→es[j]? = some y∧j≠i:=fun j y d hsm=>by
      rw[eC]at d;split at d
      ·split at d
       ·cases d
        cases hsm
       ·cases d
      ·rename_i aA
       exact⟨d,Ne.symm aA⟩
    ·exact k1 a W y z (old a y d sy).1 (old W z hz sz).1 sy sz he
    ·obtain ⟨o1, o2⟩ := old a y d (by rw [hr]; rfl)
     rcases k2 a y rws e o1 hr he with J|⟨B,mm,s1,s2,N,M,O,U⟩
     ·exact .inl J
     ·refine .inr ⟨B, mm, ?_, s2, N, M, O, kS (fun a _ hr => bI hle a hr) rfl U⟩
      have aA:=z2 a y o1 (by rw[hr]; rfl) o2 B mm s1;show (gv E.X.r l h0 l)[V a]? = _
      rw[D4 fun e=>aA e.2];exact s1
  ·simp only [aN]
   have J:(E.loc++[k])[E.H.length]? = some k:=by rw[hlenH]; simp
   rcases z3 with⟨rfl,s1,_⟩|⟨B,mm,rfl,_,N,M,O,U⟩
   ·exact .inl ⟨J,s1⟩
   ·exact .inr ⟨B,mm,J,N,M,O,kS (fun a _ hr=>bI hle a hr) rfl U⟩
 refine⟨E.loc++[k],gv E.X.r l h0,r1,r2,?_⟩;have hnew:(E.H.set id (.aX l w (es.set i (key,none,bn)) cl)++[.vec w 0 rows])[E.H.length]? = some (.vec w 0 rows):=by
  rw[iM (by simp)];simp
 have J:(E.loc++[k])[E.H.length]? = some k:=by rw[hlenH]; simp
 simp only[rel];rcases z3 with⟨rfl,s1,base,s2⟩|⟨B,mm,rfl,s2,N,M,O,U⟩
 ·subst s1
  refine⟨⟨base,0,by rw[s2]; rfl,aD _,fun h=>by simp at h⟩,⟨_,hnew,rfl,fun v hv=>by cases hv; exact aD _⟩,fun _=>⟨fun _=>⟨by first|rfl|trivial,by first|rfl|trivial,base,s2⟩,fun W m' I=>?_⟩⟩;rw[J]at I;cases I
 ·refine ⟨⟨_, mm, s2, M, fun _ => ⟨B, 0, rfl⟩⟩, ⟨_, hnew, rfl, fun v hv => by cases hv; exact aD _⟩, fun _ => ⟨fun I => ?_, fun W m' I => ?_⟩⟩
  ·rw [J] at I
   cases I
  ·rw [J] at I
   cases I;exact⟨by omega,0,fun _=>by simp,by rw[s2,gU]⟩
theorem Xb{E:Env}(HE:aq E)(w:Nat) :
  aq { w:=E.w,H:=E.H++[.vec w 0 []],loc:=E.loc++[none],X:=E.X }∧E.le { w:=E.w,H:=E.H++[.vec w 0 []],loc:=E.loc++[none],X:=E.X } ∧
   rel { w:=E.w,H:=E.H++[.vec w 0 []],loc:=E.loc++[none],X:=E.X } (.vec w E.H.length 0 0 0) (.slice none 0 0):=by
 have hle:E.le (E.push E.w (.vec w 0 []) none):=Env.kl HE.len (Ext.refl _) (fun b n h=>by cases h);have d:(E.loc++[(none:Option (Nat × Nat))])[E.H.length]? = some none:=by rw[←HE.len]; simp
 have q:aN (E.push E.w (.vec w 0 []) none) E.H.length (.vec w 0 []):=by
  simp only[aN,Env.push];exact .inl ⟨d,trivial⟩
 refine⟨aq.push HE (Ext.refl _) (fun b n h=>by cases h) q,hle,?_⟩;simp only[rel];refine⟨⟨none,0,rfl,aD _,fun h=>by simp at h⟩,⟨.vec w 0 [],by simp,rfl,fun v B=>by cases B; exact aD _⟩,fun _=>⟨fun _=>⟨by first|rfl|trivial,by first|rfl|trivial,none,rfl⟩,fun I m' k=>?_⟩⟩;rw[d]at k;cases k
def iW(P:Program)(t:TypeId)(m k:AV)(H:List ad):Option (AV × List ad) :=
 match dx P t,m with
 | some (d,q),.map id=>match H[id]? with
  | some (.aX l w es cl)=>match h_ P d k,zN P q,iA P q with
   | some B,some w',some (.lit (.slice none 0 0))=>match ab w' w&&k.closed with
    | true=>match eU P d B (cG es) 0 with
     | some (some (i,_))=>match pH es i with
      |some (_,rows,n)=>some (.tuple [.vec w H.length 0 0 rows.length,.lit (goInt n)],H.set id (.aX l w (es.set i (k,none,n)) cl)++[.vec w 0 rows])
      |none=>none
     |some none=>some (.tuple [.vec w H.length 0 0 0,.lit (goInt cl)],H.set id (.aX l w (es++[(k,none,cl)]) (cl+1))++[.vec w 0 []])
     |none=>none
    |false=>none
   |_,_,_=>none
  |_=>none
 |_,_=>none
theorem Xc{P:Program}{E:Env}(HE:aq E){t:TypeId}{m k v:AV}{c d:Value}{H':List ad}(h:iW P t m k E.H=some (v,H'))(hm:rel E m c)(hk:rel E k d) :
  ∃ u w',(Da t c d).run P E.w=.ok u w'∧cZ E v H' u w':=by
 unfold iW at h;split at h
 case h_2=>cases h
 rename_i kt et id ht;split at h
 case h_2=>cases h
 rename_i l w es cl hid;split at h
 case h_2=>cases h
 rename_i kv w' hkv hw' I;split at h
 case h_2=>cases h
 rename_i hww;simp only[az]at hww;have hcl:=hww.2;clear hw' hww;obtain⟨b,n,ms,rfl,h1,h2,h3,h4⟩:=zM HE hid hm;have N:=iU hkv hk;have J:=D6 hkv;have e1:(getObj b).run P E.w=.ok (.map ms cl) E.w:=by simp[getObj,gX,h2]
 obtain⟨hlen,hall⟩:=eG.1 h3;rw[Dv]at hlen;have hidE:∀(w':World) es' cl',({ w:=w',H:=E.H.set id (.aX l w es' cl'),loc:=E.loc,X:=E.X }:Env).H[id]? = some (.aX l w es' cl'):=fun w' es' cl'=>by
  simp only[];rw[bC (aK hid)]
 split at h
 ·rename_i i v0 hf
  split at h
  case h_2=>cases h
  rename_i key rows bn W;cases h;have hes:es[i]? = some (key,some rows,bn):=by
   unfold pH at W;split at W
   ·rename_i a1 a2 a3 he
    cases W;exact he
   ·cases W
  have hlt:=aK hes;obtain⟨r',g1,g2⟩:=iz N E.w h3 hf;cases r' with
  |none=>simp[dz]at g2
  | some q =>
   simp only[dz]at g2;obtain⟨q1,q2,_,e',U,q5⟩:=g2;obtain⟨_,x,y,f1,f2,f3⟩:=vK hf;simp only[gU]at U f1;obtain⟨a1,a2,a3,a4,a5⟩:=hall i x e' f1 U;obtain⟨s1,s2⟩:=zK N (iU f2 a1) f3;have q4':ms[i]? = some e':=by simpa using U
   have hx:x=((fP key).1,(fP key).2,bn):=by rw[vO hes]at f1; cases f1; rfl
   have hre:bD E (cG (es.set i (k,some rows,bn))) (ms.modify i fun e=>{ e with key:=d }).toList:=by
    rw[eG];refine⟨by simp[cG,hlen],fun a y z B I=>?_⟩;simp only[lK,jr]at I;obtain⟨z0,O,rfl⟩:=ef.1 I;unfold cG at B;rw[bU,eC]at B;by_cases e:i=a
    ·subst e
     rw[if_pos rfl,if_pos hlt]at B;cases B;rw[U]at O;cases O;simp only[if_true];refine⟨by simpa[J]using hk,by simp[J,rel],?_,by simpa[J]using hcl,by simp[J,AV.closed]⟩;rw[a3,hx]
    ·rw [if_neg e] at B
     obtain⟨b1,b2,b3,b4,b5⟩:=hall a y z0 (by unfold cG; rw[bU]; exact B) O;simp only[if_neg e];exact⟨b1,b2,b3,b4,b5⟩
   have hsl2:jy E l w (es.set i (k,some rows,bn)) (ms.modify i fun e=>{ e with key:=d }).toList:=by
    obtain⟨hs,k1,k2⟩:=h4;have M:∀(a:Nat) y,(es.set i (k,some rows,bn))[a]? = some y→∃ z,es[a]? = some z∧z.2.1=y.2.1:=fun a y B=>by
     by_cases ei:i=a
     ·subst ei
      rw[bC hlt]at B;cases B;exact⟨_,hes,rfl⟩
     ·rw [aZ ei] at B
      exact⟨y,B,rfl⟩
    refine⟨hs,fun a c y z B I sy sz he=>?_,fun a y rws e B hr he=>?_⟩
    ·obtain ⟨y', hy', ey⟩ := M a y B
     obtain⟨z',hz',ez⟩:=M c z I;exact k1 a c y' z' hy' hz' (by rw[ey]; exact sy) (by rw[ez]; exact sz) he
    ·obtain ⟨y', hy', ey⟩ := M a y B
     simp only[lK,jr]at he;obtain⟨z0,O,rfl⟩:=ef.1 he;have:=k2 a y' rws z0 hy' (by rw[ey]; exact hr) O;split<;>exact this
   obtain⟨V,p1,p2,p3,p4,p5⟩:=vQ (P:=P) HE (cl':=cl) hid h1 h2 hre hsl2;have hobj:=p2.obj id _ (hidE V _ _);simp only[aN]at hobj;obtain⟨b2,n2,ms2,o1,o2,o3,o4⟩:=hobj;rw[h1]at o1;simp only[aY,a8]at o1;obtain⟨rfl,rfl⟩:=o1;rw[p4]at o2;cases o2;obtain⟨loc',r',r1,r2,r3⟩:=Xa p2 (i:=i) (key:=k) (rows:=rows) (bn:=bn) (e':={ e' with key:=d }) (hidE V _ _) (by rw[bC hlt]) h1 p4 o3 o4 (by
    simp only[lK,jr,U];simp)
   simp only[qK,pd]at r1 r2 r3;refine⟨.tuple #[e'.val,goInt bn],V,?_,loc',r',?_,r1,p3.trans r2⟩
   ·have hst : (sB e'.key d).run P E.w = .ok d E.w := by simp [sB, s2]
    subst q1;simp only[Da,bY,Sem.bu (fR ht),b_,e1,gJ N,g1,q4',eg,ga,hst];rw[p1];simp only[b_,fN];rw[a3,hx,←q5]
   ·simp only [rel]
    refine⟨_,rfl,?_⟩;simp only[af,and_true];exact⟨r3,by simp[rel]⟩
 ·rename_i hf
  cases h;obtain⟨r',g1,g2⟩:=iz N E.w h3 hf;cases r' with
  |some _=>simp[dz]at g2
  | none =>
   obtain⟨zv,z1,z2⟩:=s7 I E.w;have hzv:zv=.slice none 0 0:=by have:=z2 E; simpa[rel]using this
   have hml:ms.toList.length=es.length:=by omega
   have hre:bD E (cG (es++[(k,none,cl)])) (ms.push { key:=d,val:=zv,born:=cl }).toList:=by
    rw[eG];refine⟨by simp[cG,hlen],fun a y z B I=>?_⟩;unfold cG at B;rw[iP]at B;simp only[qJ,fM,cD]at B I;rw[hml]at I;by_cases e:a<es.length
    ·simp only [if_pos e] at B I
     exact hall a y z (by unfold cG; exact B) I
    ·simp only [if_neg e] at B I
     cases hj2:a-es.length with
     | zero =>
      rw[hj2]at B I;simp at B I;subst B; subst I;exact⟨by simpa[J]using hk,by simp[J,rel],rfl,by simpa[J]using hcl,by simp[J,AV.closed]⟩
     |succ _=>rw[hj2]at B; simp at B
   have hsl2:jy E l w (es++[(k,none,cl)]) (ms.push { key:=d,val:=zv,born:=cl }).toList:=by
    obtain⟨hs,k1,k2⟩:=h4;have M:∀(a:Nat) y,(es++[(k,(none:Option (List (List AV))),cl)])[a]? = some y→y.2.1.isSome=true→es[a]? = some y∧a<es.length:=fun a y B hsm=>by
     rw[fM]at B;split at B
     ·rename_i hh
      exact⟨B,hh⟩
     ·cases hk2 : a - es.length with
      | zero =>
       rw[hk2]at B;simp at B;subst B;cases hsm
      |succ _=>rw[hk2]at B; simp at B
    refine⟨hs,fun a c y z B I sy sz he=>k1 a c y z (M a y B sy).1 (M c z I sz).1 sy sz he,fun a y rws e B hr he=>?_⟩;obtain⟨o1,o2⟩:=M a y B (by rw[hr]; rfl);simp only[qJ]at he;rw[cT (by omega)]at he;exact k2 a y rws e o1 hr he
   obtain⟨V,p1,p2,p3,p4,p5⟩:=vQ (P:=P) HE (cl':=cl+1) hid h1 h2 hre hsl2;obtain⟨r1,r2,r3⟩:=Xb p2 w;simp only[pd]at r3;refine⟨.tuple #[zv,goInt cl],V,?_,E.loc++[none],E.X.r,?_,r1,p3.trans r2⟩
   ·simp only [Da, bY, Sem.bu (fR ht), b_, e1, gJ N, g1, z1]
    rw[p1];rfl
   ·simp only [rel]
    refine⟨_,rfl,?_⟩;simp only[af,and_true];rw[hzv];exact⟨r3,by simp[rel]⟩
 ·cases h
def rf (es:List (AV × Option (List (List AV)) × Nat)) (st:Int):Option Nat:=es.findIdx? fun x=>(x.2.2:Int)==st
def plainKey:AV→Bool
 |.tuple _=>false
 |_=>true
theorem Xd{k:AV}(h:plainKey k=true):fP k=(k,.undef):=by
 cases k<;>first|rfl|cases h
def kX(m s v:AV)(H:List ad):Option (List ad) :=
 match m,s,v with
 | .map id,.lit (.int .i64 st),.vec w j ae off n=>match H[id]?,H[j]? with
  | some (.aX l w' es cl),some (.vec k d rows)=>if (w=w'∧w=k)∧(ae=d∧off=0)∧n=rows.length then
    match rf es st with
    | some i=>match es[i]? with
     | some (key,_,bn)=>match plainKey (fP key).1 with
      |true=>some ((H.set id (.aX l w' (es.set i ((fP key).1,some rows,bn)) cl)).set j .dead)
      |false=>none
     |none=>none
    |none=>none
   else none
  |_,_=>none
 |_,_,_=>none
theorem LC{E:Env}{st:Int}:∀{es:List (AV × Option (List (List AV)) × Nat)} {ms:List MapEntry},bD E (cG es) ms→ms.findIdx? (fun e=>(e.born:Int)==st)=rf es st
 | [],[],_=>rfl
 | [],_::_,h=>by simp[cG,bD]at h
 |_::_,[],h=>by simp[cG,bD]at h
 | x::es,e::ms,h=>by
  have h':bD E (((fP x.1).1,(fP x.1).2,x.2.2)::cG es) (e::ms):=h;simp only[bD]at h';obtain⟨_,_,k,_,_,q⟩:=h';have d:=LC (st:=st) q;unfold rf at d⊢;simp only[Km,k,d]
theorem Xe{P:Program}{E:Env}(HE:aq E){t:TypeId}{m s v:AV}{c d u:Value}{H':List ad}(h:kX m s v E.H=some H')(hm:rel E m c)(O:rel E s d)(hv:rel E v u) :
  ∃ w',(yU t c d u).run P E.w=.ok () w'∧∀ x,cZ E .undef H' x w':=by
 unfold kX at h;split at h
 case h_2=>cases h
 rename_i id st w j ae off n;split at h
 case h_2=>cases h
 rename_i l w' es cl w2 ver' rows hid U;split at h
 case isFalse=>cases h
 rename_i hc;obtain⟨⟨rfl,rfl⟩,⟨rfl,rfl⟩,rfl⟩:=hc;split at h
 case h_2=>cases h
 rename_i i hi;split at h
 case h_2=>cases h
 rename_i key0 B bn hes;split at h
 case h_2=>cases h
 rename_i hpl;cases h;have q:=Xd hpl;obtain⟨key,M⟩:∃ key,key=(fP key0).1:=⟨_,rfl⟩
 rw[←M]at q⊢;obtain⟨b,n,ms,rfl,h1,h2,h3,h4⟩:=zM HE hid hm;have aA:j≠id:=fun e=>by rw[e,hid]at U; cases U
 have e1:(getObj b).run P E.w=.ok (.map ms cl) E.w:=by simp[getObj,gX,h2]
 obtain⟨hlen,hall⟩:=eG.1 h3;rw[Dv]at hlen;have N:=aK hes;obtain⟨e',q4⟩:∃ e',ms.toList[i]? = some e':=⟨ms.toList[i]'(by omega),bf _⟩
 have hfind:ms.findIdx? (fun e=>(e.born:Int)==st)=some i:=by
  have e0:ms=ms.toList.toArray:=by simp
  rw[e0,alV,LC h3,hi]
 have hre:bD E (cG (es.set i (key,none,bn))) (ms.modify i fun e=>{ e with val:=u }).toList:=by
  rw[eG];refine⟨by simp[cG,hlen],fun a y z k J=>?_⟩;simp only[lK,jr]at J;obtain⟨z0,I,rfl⟩:=ef.1 J;unfold cG at k;rw[bU,eC]at k;by_cases e:i=a
  ·subst e
   rw[if_pos rfl,if_pos N]at k;cases k;obtain⟨b1,V,W,b4,b5⟩:=hall i _ z0 (vO hes) I;simp only[if_true];exact⟨by simpa only[q,←M]using b1,by simp[q,rel],W,by simpa only[q,←M]using b4,by simp[q,AV.closed]⟩
  ·rw [if_neg e] at k
   obtain⟨b1,V,W,b4,b5⟩:=hall a y z0 (by unfold cG; rw[bU]; exact k) I;simp only[if_neg e];exact⟨b1,V,W,b4,b5⟩
 have hsl2:jy E l w (es.set i (key,none,bn)) (ms.modify i fun e=>{ e with val:=u }).toList:=by
  obtain⟨O,k1,k2⟩:=h4;have B:∀(a:Nat) y,(es.set i (key,none,bn))[a]? = some y→y.2.1.isSome=true→es[a]? = some y∧a≠i:=fun a y k hsm=>by
   by_cases ei:i=a
   ·subst ei
    rw[bC N]at k;cases k;cases hsm
   ·rw [aZ ei] at k
    exact⟨k,Ne.symm ei⟩
  refine⟨O,fun a c y z k J sy sz he=>k1 a c y z (B a y k sy).1 (B c z J sz).1 sy sz he,fun a y rws e k hr he=>?_⟩;obtain⟨o1,o2⟩:=B a y k (by rw[hr]; rfl);simp only[lK,jr]at he;obtain⟨z0,I,rfl⟩:=ef.1 he;rw[if_neg (Ne.symm o2)];exact k2 a y rws z0 o1 hr I
 obtain⟨w',p1,p2,p3,p4,p5⟩:=vQ (P:=P) HE (cl':=cl) hid h1 h2 hre hsl2;have hd:d=.int .i64 st:=by simpa[rel]using O
 have hrun:(yU t (.map (some b)) d u).run P E.w=.ok () w':=by
  subst hd;simp only[yU,asInt,asIntOf,bY,b_,e1,fN,hfind];exact p1
 have hidE:({ w:=w',H:=E.H.set id (.aX l w (es.set i (key,none,bn)) cl),loc:=E.loc,X:=E.X }:Env).H[id]? = some (.aX l w (es.set i (key,none,bn)) cl):=by
  simp only[];rw[bC (aK hid)]
 have hjE:({ w:=w',H:=E.H.set id (.aX l w (es.set i (key,none,bn)) cl),loc:=E.loc,X:=E.X }:Env).H[j]? = some (.vec w ae rows):=by
  simp only[];rw[aZ (Ne.symm aA)];exact U
 have hobj:=p2.obj id _ hidE;simp only[aN]at hobj;obtain⟨V,n2,ms2,o1,o2,o3,o4⟩:=hobj;rw[h1]at o1;simp only[aY,a8]at o1;obtain⟨rfl,rfl⟩:=o1;rw[p4]at o2;cases o2;obtain⟨loc',r',r1,r2⟩:=D9 p2 (i:=i) (key:=key) (bn:=bn) (e:={ e' with val:=u }) hidE hjE (by rw[bC N]) h1 p4 (by
  simp only[lK,jr,q4];simp) o3 o4 (bI p3 _ hv)
 refine⟨w',hrun,fun xx=>⟨loc',r',by simp[rel],?_,p3.trans ?_⟩⟩
 ·simpa[qK]using r1
 ·simpa[qK]using r2
end Go.AL

namespace Go.AL
open Go
variable [Dr]
theorem Xf{r:List (Option (Option (Nat × Nat)))}(h:∀(i:Nat) q,r[i]? ≠ some (some q)):eI r=[]:=by
 unfold eI;rw[List.filterMap_eq_nil_iff];intro x d;obtain⟨i,hi,e⟩:=mC d;cases x with
 |none=>rfl
 |some q=>exact absurd (by rw[bf hi,e]) (h i q)
theorem LD{E:Env}(HE:aq E){id l cl:Nat}(hid:E.H[id]? = some (.map [] cl))(d:lV E.H l=true) :
  aq { w:=E.w,H:=E.H.set id (.mm l [] [] cl),loc:=E.loc,X:=E.X }∧E.le { w:=E.w,H:=E.H.set id (.mm l [] [] cl),loc:=E.loc,X:=E.X } :=
 aq.D_ HE hid rfl rfl rfl (sY d) fun hle=>by
  have ho:=HE.obj id _ hid;simp only[aN]at ho⊢;obtain⟨b,n,ms,h1,k,q⟩:=ho;have B:=Xf (HE.gH l (sY d));refine⟨b,n,ms,h1,k,gd (fun a _ hr=>bI hle a hr) q,?_,fun i x e I=>by simp at I,fun j m b hm=>by simp at hm⟩;show (eI (E.X.r l)).length=0
  rw[B];rfl
theorem Ea{E:Env}(HE:aq E){id l cl:Nat}{es:List (AV × Option Nat × Nat)}{ms:List (List (AV × AV × Nat) × Nat)}{c:Value}(hid:E.H[id]? = some (.mm l es ms cl))(hr:rel E (.map id) c) :
  ∃ b n d,c=.map (some b)∧E.loc[id]? = some (some (b,n))∧E.w.heap[b]? = some (.map d cl)∧bD E (fQ es) d.toList∧zi E l es ms d.toList:=by
 have ho:=HE.obj id _ hid;simp only[aN]at ho;obtain⟨b,n,d,h1,k,q,B⟩:=ho;simp only[rel]at hr;obtain⟨_,_,I⟩:=hr;obtain⟨J,M,g1,g2⟩:=I ⟨_,hid,rfl⟩;rw[h1]at g1;simp only[aY,a8]at g1;obtain⟨rfl,rfl⟩:=g1;exact⟨b,n,d,g2,h1,k,q,B⟩
theorem LF{E:Env}(HE:aq E){id l cl i:Nat}{es:List (AV × Option Nat × Nat)}{ms:List (List (AV × AV × Nat) × Nat)}{m:List (AV × AV × Nat) × Nat}{c:Value}(hid:E.H[id]? = some (.mm l es ms cl))(hm:ms[i]? = some m) (hr:rel E (.sub id l (some i)) c) :
  ∃ b d,c=.map (some b)∧(eI (E.X.r l))[i]? = some b∧E.w.heap[b]? = some (.map d m.2)∧bD E m.1 d.toList:=by
 have ho:=HE.obj id _ hid;simp only[aN]at ho;obtain⟨_,_,d,_,_,_,_,_,k⟩:=ho;simp only[rel]at hr;rcases hr with⟨h,_⟩|⟨B,h1,_,_,q⟩
 ·cases h
 cases h1;obtain⟨_,b,g1,g2⟩:=q ⟨_,hid,rfl⟩;obtain⟨mm,g3,g4⟩:=k i m b hm g1;exact⟨b,mm,g2,g1,g3,g4⟩
def rh(P:Program)(t:TypeId)(m k:AV)(H:List ad):Option AV :=
 match dx P t,m with
 | some (d,q),.map id=>match H[id]? with
  | some (.mm l es _ _)=>match h_ P d k,iA P q with
   | some B,some (.lit (.map none))=>match eU P d B (fQ es) 0 with
    |some (some (i,_))=>(es[i]?).map fun x=>.sub id l x.2.1
    |some none=>some (.sub id l none)
    |none=>none
   |_,_=>none
  |_=>none
 |_,_=>none
theorem Xg{P:Program}{E:Env}(HE:aq E){t:TypeId}{m k v:AV}{c d:Value}(h:rh P t m k E.H=some v)(hm:rel E m c)(hk:rel E k d) :
  ∃ u,(lI t c d false).run P E.w=.ok u E.w∧rel E v u:=by
 unfold rh at h;split at h
 case h_2=>cases h
 rename_i kt et id M;split at h
 case h_2=>cases h
 rename_i l es ms cl hid;split at h
 case h_2=>cases h
 rename_i kv V hz;obtain⟨b,n,W,rfl,h1,h2,N,_,hmm,_⟩:=Ea HE hid hm;have B:=iU V hk;obtain⟨zv,z1,z2⟩:=s7 hz E.w;have hzv:zv=.map none:=by simpa[rel]using z2 E
 subst hzv;have O:(getObj b).run P E.w=.ok (.map W cl) E.w:=by simp[getObj,gX,h2]
 split at h
 ·rename_i i v0 I
  obtain⟨r',g1,g2⟩:=iz B E.w N I;cases r' with
  |none=>simp[dz]at g2
  | some q =>
   simp only[dz]at g2;obtain⟨q1,_,_,e,q4,q5⟩:=g2;obtain⟨x,hx,rfl⟩:=ef.1 h;refine⟨q.2,?_,?_⟩
   ·simp only [lI, bY, Sem.bu (fR M), b_, O, fN, gJ B, g1]
    rfl
   ·rw [← q5]
    simp only[rel];rcases hmm i x e hx (by simpa using q4)with⟨J,a2⟩|⟨j,U,J,a2,a3⟩
    ·exact .inl ⟨J,a2⟩
    ·exact .inr ⟨j,J,⟨U,a3⟩,⟨_,hid,rfl,fun v _=>fg v⟩,fun _=>⟨⟨_,hid,rfl⟩,U,a2,a3⟩⟩
 ·rename_i I
  obtain⟨r',g1,g2⟩:=iz B E.w N I;cases h;cases r' with
  |some _=>simp[dz]at g2
  | none =>
   refine⟨.map none,?_,by simp[rel]⟩;simp only[lI,bY,Sem.bu (fR M),b_,O,fN,gJ B,g1,z1];rfl
 ·cases h
def s8(P:Program)(t:TypeId)(m k:AV)(ok:Bool)(H:List ad):Option AV :=
 match dx P t,m with
 | some (d,q),.sub id l (some i)=>match H[id]? with
  | some (.mm l' _ ms _)=>match ab l l',ms[i]?,h_ P d k,oq P q with
   | true,some mm,some B,some z=>match eU P d B mm.1 0 with
    | some r=>let v:=match r with
      |some (_,v)=>v
      |none=>z
     some (match ok with
      |true=>.tuple [v,.lit (.bool r.isSome)]
      |false=>v)
    |none=>none
   |_,_,_,_=>none
  |_=>none
 |_,_=>none
theorem Xh{P:Program}{E:Env}(HE:aq E){t:TypeId}{m k v:AV}{ok:Bool}{c d:Value}(h:s8 P t m k ok E.H=some v)(hm:rel E m c)(hk:rel E k d) :
  ∃ u,(lI t c d ok).run P E.w=.ok u E.w∧rel E v u:=by
 unfold s8 at h;split at h
 case h_2=>cases h
 rename_i kt et id l i J;split at h
 case h_2=>cases h
 rename_i l' es ms cl hid;split at h
 case h_2=>cases h
 rename_i mm kv z I hmm U W;have I:=bk I;subst I;split at h
 case h_2=>cases h
 rename_i r hr;obtain⟨b,V,rfl,_,h2,h3⟩:=LF HE hid hmm hm;have B:=iU U hk;obtain⟨r',g1,g2⟩:=iz B E.w h3 hr;obtain⟨M,z1,z2⟩:=Lo W E.w;have N:(getObj b).run P E.w=.ok (.map V mm.2) E.w:=by simp[getObj,gX,h2]
 cases h;cases r with
 | none =>
  cases r' with
  |some _=>simp[dz]at g2
  | none =>
   refine⟨if ok then .tuple #[M,.bool false] else M,?_,?_⟩
   ·simp only[lI,bY,Sem.bu (fR J),b_,N,fN,gJ B,g1,z1]
   ·cases ok with
    |true=>simp[rel,af,z2 E]
    |false=>simpa using z2 E
 | some p =>
  cases r' with
  |none=>simp[dz]at g2
  | some q =>
   simp only[dz]at g2;obtain⟨q1,O,_,_,_,_⟩:=g2;refine⟨if ok then .tuple #[q.2,.bool true] else q.2,?_,?_⟩
   ·simp only[lI,bY,Sem.bu (fR J),b_,N,fN,gJ B,g1]
   ·cases ok with
    |true=>simp[rel,af,O]
    |false=>simpa using O
theorem LG:∀{r:List (Option (Option (Nat × Nat)))},(∀(h h' b m n:Nat),r[h]? = some (some (some (b,m)))→r[h']? = some (some (some (b,n)))→h=h')→(eI r).Nodup
 | [],_=>J9
 | x::r,H=>by
  have d:=LG (r:=r) fun h h' b m n h1 k=>by
   have:=H (h+1) (h'+1) b m n (by simpa using h1) (by simpa using k);omega
  match x,H with
  |none,_=>exact d
  |some none,_=>exact d
  | some (some (b,m)),H =>
   show (b::eI r).Nodup
   refine List.nodup_cons.2 ⟨fun hm=>?_,d⟩;obtain⟨i,n,hi⟩:=zh hm;have:=H 0 (i+1) b m n rfl (by simpa using hi);omega
theorem Xi{E:Env}(HE:aq E){l i j b:Nat} (h1:(eI (E.X.r l))[i]? = some b) (d:(eI (E.X.r l))[j]? = some b):i=j :=
 (List.getElem?_inj (aK h1) (LG fun h h' b m n k q=>(HE.e9 l h l h' b m n k q).2)).1 (by rw[h1,d])
def kr(P:Program)(t:TypeId)(m k:AV)(ok:Bool)(H:List ad):Option AV :=
 match m with
 |.sub id l j=>s8 P t (.sub id l j) k ok H
 | .map id=>match ok with
  |false=>rh P t (.map id) k H
  |true=>none
 |_=>none
theorem Xj{P:Program}{E:Env}(HE:aq E){t:TypeId}{m k v:AV}{ok:Bool}{c d:Value}(h:kr P t m k ok E.H=some v)(hm:rel E m c)(hk:rel E k d) :
  ∃ u,(lI t c d ok).run P E.w=.ok u E.w∧rel E v u:=by
 unfold kr at h;split at h
 ·exact Xh HE h hm hk
 ·split at h
  ·exact Xg HE h hm hk
  ·cases h
 ·cases h
theorem LH{P:Program}{t:TypeId}{m k v:AV}{ok:Bool}{H H2:List ad}(hg:∀(i l:Nat) es ms (cl:Nat),H[i]? = some (ad.mm l es ms cl)→H2[i]? = some (ad.mm l es ms cl))(h:kr P t m k ok H=some v):kr P t m k ok H2=some v∧gu P t m k ok H2=none:=by
 unfold kr at h⊢;unfold gu;split at h
 ·rename_i id l j
  refine⟨?_,by split<;>first|rfl|(rename_i e; cases e)⟩;unfold s8 at h⊢;split at h
  case h_2=>cases h
  rename_i q B i I;split at h
  case h_2=>cases h
  rename_i l' es ms cl hid;simp only[hg _ _ _ _ _ hid];exact h
 ·rename_i id
  split at h
  case h_2=>cases h
  cases d:dx P t with
  | none =>
   simp only[rh,d]at h;cases h
  | some p =>
   simp only[rh,d]at h⊢;split at h
   case h_2=>cases h
   rename_i hid;simp only[hg _ _ _ _ _ hid];exact⟨h,trivial⟩
 ·cases h
theorem Xk{P:Program}{t:TypeId}{m k:AV}{ok:Bool}{H H2:List ad}(h1:∀ id,m=.map id→H2[id]? = H[id]?)(d:∀ id l j,m=.sub id l j→H2[id]? = H[id]?):kr P t m k ok H2=kr P t m k ok H:=by
 unfold kr;cases m<;>try rfl
 ·rename_i id
  cases ok with
  |true=>rfl
  | false =>
   unfold rh;cases dx P t with
   |none=>rfl
   |some p=>simp only[h1 id rfl]
 ·rename_i id l j
  unfold s8;cases dx P t with
  |none=>rfl
  | some p =>
   cases j with
   |none=>rfl
   |some j=>simp only[d id l (some j) rfl]
theorem LI{P:Program}{E:Env}(HE:aq E){id l cl i b:Nat}{es:List (AV × Option Nat × Nat)}{ms:List (List (AV × AV × Nat) × Nat)}{m m':List (AV × AV × Nat) × Nat}{N mes':Array MapEntry}(hid:E.H[id]? = some (.mm l es ms cl))(hm:ms[i]? = some m)
  (hb:(eI (E.X.r l))[i]? = some b) (V:E.w.heap[b]? = some (.map N m.2)) (hr:bD E m'.1 mes'.toList) :
  ∃ w',(setObj b (.map mes' m'.2)).run P E.w=.ok () w'∧aq { w:=w',H:=E.H.set id (.mm l es (ms.set i m') cl),loc:=E.loc,X:=E.X }∧E.le { w:=w',H:=E.H.set id (.mm l es (ms.set i m') cl),loc:=E.loc,X:=E.X }:=by
 obtain⟨h,B,I⟩:=zh (eZ hb);have O:=(HE.ct l h b B I).1;have U:({ E.w with heap:=E.w.heap.setIfInBounds b (.map mes' m'.2) }:World).heap.size=E.w.heap.size:=by simp
 have q:∀ y,y≠b→({ E.w with heap:=E.w.heap.setIfInBounds b (.map mes' m'.2) }:World).heap[y]? = E.w.heap[y]? := by
  intro y W;simp only[C_];rw[if_neg (fun e=>W e.symm)]
 have key:=aq.Dy (w':={ E.w with heap:=E.w.heap.setIfInBounds b (.map mes' m'.2) }) (r':=E.X.r) (o':=.mm l es (ms.set i m') cl) HE hid rfl rfl rfl (alW U.symm) (fun x _ _ hx=>q x fun e=>by
   subst e;exact hx h B I) (fun _ _=>rfl) (fun _ _ _ hk=>.inl hk) (fun _ hk=>⟨hk,fun _ hq=>hq⟩) (fun hle=>?_) ⟨rfl,rfl,rfl,fun _=>aD _⟩ (.inr ⟨rfl,[],(dh _).symm⟩)
 ·exact⟨_,by simp[setObj,gX,V],key.1,key.2⟩
 ·have ho := HE.obj id _ hid
  simp only[aN]at ho⊢;obtain⟨b0,n,M,g1,g2,g3,g4,g5,g6⟩:=ho;have aA:b0≠b:=fun e=>HE.cY id b0 n l h B g1 (by rw[e]; exact I);refine⟨b0,n,M,g1,?_,gd (fun a _ hr=>bI hle a hr) g3,?_,g5,fun j mj J k d=>?_⟩
  ·rw [← g2]
   exact q b0 aA
  ·show (eI (E.X.r l)).length = _
   rw[pd];exact g4
  ·have d : (eI (E.X.r l))[j]? = some J := d
   by_cases e:i=j
   ·subst e
    rw[bC (aK hm)]at k;cases k;rw[hb]at d;cases d;exact⟨mes',by simp[O],gd (fun a _ hr=>bI hle a hr) hr⟩
   ·rw [aZ e] at k
    obtain⟨mm,k1,k2⟩:=g6 j mj J k d;refine⟨mm,?_,gd (fun a _ hr=>bI hle a hr) k2⟩;rw[←k1];exact q J fun e2=>e (Xi HE hb (by rw[←e2]; exact d))
def vR(P:Program)(t:TypeId)(m k v:AV)(H:List ad):Option (List ad) :=
 match dx P t,m with
 | some (I,_),.sub id l (some i0)=>match H[id]? with
  | some (.mm l' q d B)=>match ab l l',d[i0]?,h_ P I k with
   | true,some mm,some J=>if v.closed=true∧k.closed=true then
     match eU P I J mm.1 0 with
     |some (some (i,_))=>some (H.set id (.mm l q (d.set i0 (mm.1.modify i fun e=>(k,v,e.2.2),mm.2)) B))
     |some none=>some (H.set id (.mm l q (d.set i0 (mm.1++[(k,v,mm.2)],mm.2+1)) B))
     |none=>none
    else none
   |_,_,_=>none
  |_=>none
 |_,_=>none
theorem Xl{P:Program}{E:Env}(HE:aq E){t:TypeId}{m k v:AV}{c d u:Value}{H':List ad}(h:vR P t m k v E.H=some H')(hm:rel E m c)(hk:rel E k d)(hv:rel E v u) :
  ∃ w',(nT t c d u).run P E.w=.ok () w'∧aq { w:=w',H:=H',loc:=E.loc,X:=E.X }∧E.le { w:=w',H:=H',loc:=E.loc,X:=E.X }:=by
 unfold vR at h;split at h
 case h_2=>cases h
 rename_i kt et id l i0 ht;split at h
 case h_2=>cases h
 rename_i l' oes oms ocl hid;split at h
 case h_2=>cases h
 rename_i mm kv U hmm hkv;have U:=bk U;subst U;obtain⟨es,cl⟩:=mm;split at h
 case isFalse=>cases h
 rename_i M;obtain⟨b,ms,rfl,h1,V,W⟩:=LF HE hid hmm hm;have J:=iU hkv hk;have e1:(getObj b).run P E.w=.ok (.map ms cl) E.w:=by simp[getObj,gX,V]
 obtain⟨hlen,O⟩:=eG.1 W;split at h
 ·rename_i i v0 N
  cases h;obtain⟨r',g1,g2⟩:=iz J E.w W N;cases r' with
  |none=>simp[dz]at g2
  | some q =>
   simp only[dz]at g2;obtain⟨q1,q2,_,e',q4,q5⟩:=g2;obtain⟨_,x,l,f1,f2,f3⟩:=vK N;simp only[gU]at q4 f1;obtain⟨a1,a2,a3,a4,a5⟩:=O i x e' f1 q4;obtain⟨s1,s2⟩:=zK J (iU f2 a1) f3;have q4':ms[i]? = some e':=by simpa using q4
   obtain⟨w',r1,r2,r3⟩:=LI (P:=P) HE (m':=(es.modify i fun e=>(k,v,e.2.2),cl)) (mes':=ms.modify i fun e=>{ e with key:=d,val:=u }) hid hmm h1 V (by
    rw[eG];refine⟨by simp[hlen],fun j y z B I=>?_⟩;simp only[jr]at B;simp only[lK,jr]at I;obtain⟨y0,hy0,rfl⟩:=ef.1 B;obtain⟨z0,hz0,rfl⟩:=ef.1 I;obtain⟨b1,b2,b3,b4,b5⟩:=O j y0 z0 hy0 hz0;by_cases e:i=j
    ·subst e
     simp only[if_true];exact⟨hk,hv,b3,M.2,M.1⟩
    ·simp only [if_neg e]
     exact⟨b1,b2,b3,b4,b5⟩)
   refine⟨w',?_,r2,r3⟩;subst q1;have hst:(sB e'.key d).run P E.w=.ok d E.w:=by simp[sB,s2]
   simp only[nT,bY,Sem.bu (fR ht),b_,e1,gJ J,g1,q4',eg,ga,hst];exact r1
 ·rename_i N
  cases h;obtain⟨r',g1,g2⟩:=iz J E.w W N;cases r' with
  |some _=>simp[dz]at g2
  | none =>
   obtain⟨w',r1,r2,r3⟩:=LI (P:=P) HE (m':=(es++[(k,v,cl)],cl+1)) (mes':=ms.push { key:=d,val:=u,born:=cl }) hid hmm h1 V (by
    rw[eG];refine⟨by simp[hlen],fun j y z B I=>?_⟩;simp only[qJ,fM,hlen]at B I;by_cases e:j<ms.toList.length
    ·simp only [if_pos e] at B I
     exact O j y z B I
    ·simp only [if_neg e] at B I
     cases hj:j-ms.toList.length with
     | zero =>
      rw[hj]at B I;simp at B I;subst B; subst I;exact⟨hk,hv,rfl,M.2,M.1⟩
     |succ _=>rw[hj]at B; simp at B)
   refine⟨w',?_,r2,r3⟩;simp only[nT,bY,Sem.bu (fR ht),b_,e1,gJ J,g1];exact r1
 ·cases h
theorem LJ{P:Program}{E:Env}(HE:aq E){id l b n cl cl':Nat}{es es':List (AV × Option Nat × Nat)}{ms:List (List (AV × AV × Nat) × Nat)}{I mes':Array MapEntry}(hid:E.H[id]? = some (.mm l es ms cl)) (d:E.loc[id]? = some (some (b,n)))
  (hb:E.w.heap[b]? = some (.map I cl)) (hr:bD E (fQ es') mes'.toList)
  (hmm:∀(i:Nat) x e,es'[i]? = some x→mes'.toList[i]? = some e→(x.2.1=none∧e.val=.map none)∨∃ j b,x.2.1=some j∧(eI (E.X.r l))[j]? = some b∧e.val=.map (some b)) :
  ∃ w',(setObj b (.map mes' cl')).run P E.w=.ok () w'∧aq { w:=w',H:=E.H.set id (.mm l es' ms cl'),loc:=E.loc,X:=E.X }∧E.le { w:=w',H:=E.H.set id (.mm l es' ms cl'),loc:=E.loc,X:=E.X }:=by
 have J:=(HE.lt id b n d).1;have M:({ E.w with heap:=E.w.heap.setIfInBounds b (.map mes' cl') }:World).heap.size=E.w.heap.size:=by simp
 have k:∀ y,y≠b→({ E.w with heap:=E.w.heap.setIfInBounds b (.map mes' cl') }:World).heap[y]? = E.w.heap[y]? := by
  intro y N;simp only[C_];rw[if_neg (fun e=>N e.symm)]
 have key:=aq.Dy (w':={ E.w with heap:=E.w.heap.setIfInBounds b (.map mes' cl') }) (r':=E.X.r) (o':=.mm l es' ms cl') HE hid rfl rfl rfl (alW M.symm) (fun x _ O _=>k x fun e=>by
   subst e;exact O n d) (fun _ _=>rfl) (fun _ _ _ hk=>.inl hk) (fun _ hk=>⟨hk,fun _ U=>U⟩) (fun hle=>?_) ⟨rfl,rfl,rfl,fun _=>aD _⟩ (.inr ⟨rfl,[],(dh _).symm⟩)
 ·exact⟨_,by simp[setObj,gX,hb],key.1,key.2⟩
 ·have ho := HE.obj id _ hid
  simp only[aN]at ho⊢;obtain⟨b0,n0,mes0,g1,g2,g3,g4,g5,g6⟩:=ho;refine⟨b,n,mes',d,by simp[J],gd (fun a _ hr=>bI hle a hr) hr,g4,hmm,fun j V B W q=>?_⟩;obtain⟨mm,k1,k2⟩:=g6 j V B W q;obtain⟨h,mc,hh⟩:=zh (eZ q);refine⟨mm,?_,gd (fun a _ hr=>bI hle a hr) k2⟩;rw[←k1];exact k B fun e2=>HE.cY id b n l h mc d (by rw[←e2]; exact hh)
def jS(P:Program)(t:TypeId)(m k:AV)(H:List ad):Option (AV × List ad) :=
 match dx P t,m with
 | some (d,q),.map id=>match H[id]? with
  | some (.mm l es ms cl)=>match h_ P d k,iA P q,k.closed with
   | some B,some (.lit (.map none)),true=>match eU P d B (fQ es) 0 with
    |some none=>some (.tuple [.sub id l none,.lit (goInt cl)],H.set id (.mm l (es++[(k,none,cl)]) ms (cl+1)))
    |_=>none
   |_,_,_=>none
  |_=>none
 |_,_=>none
theorem Xm{P:Program}{E:Env}(HE:aq E){t:TypeId}{m k v:AV}{c d:Value}{H':List ad}(h:jS P t m k E.H=some (v,H'))(hm:rel E m c)(hk:rel E k d) :
  ∃ u w',(Da t c d).run P E.w=.ok u w'∧cZ E v H' u w':=by
 unfold jS at h;split at h
 case h_2=>cases h
 rename_i kt et id ht;split at h
 case h_2=>cases h
 rename_i l es ms cl hid;split at h
 case h_2=>cases h
 rename_i kv hkv B hcl;obtain⟨b,n,O,rfl,h1,U,V,h4,h5,h6⟩:=Ea HE hid hm;have N:=iU hkv hk;have M:(getObj b).run P E.w=.ok (.map O cl) E.w:=by simp[getObj,gX,U]
 obtain⟨hlen,W⟩:=eG.1 V;rw[KH]at hlen;split at h
 case h_2=>cases h
 rename_i hf;cases h;obtain⟨r',g1,g2⟩:=iz N E.w V hf;cases r' with
 |some _=>simp[dz]at g2
 | none =>
  obtain⟨zv,z1,z2⟩:=s7 B E.w;have hzv:zv=.map none:=by have:=z2 E; simpa[rel]using this
  subst hzv;have hre:bD E (fQ (es++[(k,none,cl)])) (O.push { key:=d,val:=.map none,born:=cl }).toList:=by
   rw[eG];refine⟨by simp[fQ,hlen],fun a y z q B=>?_⟩;unfold fQ at q;rw[iP]at q;simp only[qJ,fM,cD]at q B;rw[←hlen]at B;by_cases e:a<es.length
   ·simp only [if_pos e] at q B
    exact W a y z (by unfold fQ; exact q) B
   ·simp only [if_neg e] at q B
    cases J:a-es.length with
    | zero =>
     rw[J]at q B;simp at q B;subst q; subst B;exact⟨hk,by simp[rel],rfl,hcl,rfl⟩
    |succ _=>rw[J]at q; simp at q
  obtain⟨w1,p1,p2,p3⟩:=LJ (P:=P) HE (cl':=cl+1) hid h1 U hre (fun i x e I he=>by
   simp only[qJ,fM]at I he;rw[←hlen]at he;by_cases M:i<es.length
   ·simp only [if_pos M] at I he
    exact h5 i x e I he
   ·simp only [if_neg M] at I he
    cases J:i-es.length with
    | zero =>
     rw[J]at I he;simp at I he;subst I; subst he;exact .inl ⟨rfl,rfl⟩
    |succ _=>rw[J]at I; simp at I)
  refine⟨.tuple #[.map none,goInt cl],w1,?_,E.loc,E.X.r,?_,p2,p3⟩
  ·simp only [Da, bY, Sem.bu (fR ht), b_, M, gJ N, g1, z1]
   rw[p1];rfl
  ·simp only [rel]
   refine⟨_,rfl,?_⟩;simp[af,rel]
def rj(es:List (AV × Option Nat × Nat))(st:Int):Option Nat:=es.findIdx? fun x=>(x.2.2:Int)==st
theorem LK{E:Env}{st:Int}:∀{es:List (AV × Option Nat × Nat)} {ms:List MapEntry},bD E (fQ es) ms→ms.findIdx? (fun e=>(e.born:Int)==st)=rj es st
 | [],[],_=>rfl
 | [],_::_,h=>by simp[fQ,bD]at h
 |_::_,[],h=>by simp[fQ,bD]at h
 | x::es,e::ms,h=>by
  have h':bD E ((x.1,.undef,x.2.2)::fQ es) (e::ms):=h;simp only[bD]at h';obtain⟨_,_,k,_,_,q⟩:=h';have d:=LK (st:=st) q;unfold rj at d⊢;simp only[Km,k,d]
theorem Xn{E:Env}(HE:aq E){id j l cl B:Nat}{es:List (AV × Option Nat × Nat)}{ms:List (List (AV × AV × Nat) × Nat)}{I:List (AV × AV × Nat)}{u:Value}(hid:E.H[id]? = some (.mm l es ms cl))(M:E.H[j]? = some (.map I B))(hu:rel E (.map j) u) :
  ∃ d N r',u=.map (some d)∧(∃ t,r' l=E.X.r l++t)∧(eI (r' l))[ms.length]? = some d∧(∀ i,i≠j→N[i]? = E.loc[i]?) ∧
   aq { w:=E.w,H:=(E.H.set id (.mm l es (ms++[(I,B)]) cl)).set j .dead,loc:=N,X:=E.X.re r' }∧E.le { w:=E.w,H:=(E.H.set id (.mm l es (ms++[(I,B)]) cl)).set j .dead,loc:=N,X:=E.X.re r' }:=by
 obtain⟨d,n,W,rfl,h1,h2,h3⟩:=qZ HE M hu;have ho:=HE.obj id _ hid;simp only[aN]at ho;obtain⟨b0,n0,V,g1,g2,g3,g4,g5,g6⟩:=ho;have aA:j≠id:=fun e=>by rw[e,hid]at M; cases M
 have O:fu E.X.r l (some (d,n)) l=E.X.r l++[some (some (d,n))]:=if_pos rfl;have J:eI (fu E.X.r l (some (d,n)) l)=eI (E.X.r l)++[d]:=by
  rw[O,Dq];rfl
 have key:=aq.attach HE (o':=.mm l es (ms++[(I,B)]) cl) hid rfl rfl rfl M rfl h1 (fun hle=>?_) (.inr rfl)
 ·refine ⟨d, E.loc.set j none, fu E.X.r l (some (d, n)), rfl, ⟨_, O⟩, ?_, fun i hi => aZ (Ne.symm hi), key.1, key.2⟩
  rw[J,←g4];simp
 ·simp only [aN]
  refine⟨b0,n0,V,by rw[aZ aA]; exact g1,g2,gd (fun a _ hr=>bI hle a hr) g3,?_,fun i x e hx he=>?_,fun i mi bi q k=>?_⟩
  ·show (eI (fu E.X.r l (some (d, n)) l)).length = _
   rw[J];simp[g4]
  ·rcases g5 i x e hx he with h | ⟨U, b', a1, a2, a3⟩
   ·exact .inl h
   ·refine .inr ⟨U, b', a1, ?_, a3⟩
    show (eI (fu E.X.r l (some (d,n)) l))[U]? = _
    rw[J,cT (aK a2)];exact a2
  ·have k : (eI (fu E.X.r l (some (d, n)) l))[i]? = some bi := k
   rw[J]at k;rw[fM]at q k;by_cases e:i<ms.length
   ·rw [if_pos e] at q
    rw[if_pos (by omega)]at k;obtain⟨mm,k1,k2⟩:=g6 i mi bi q k;exact⟨mm,k1,gd (fun a _ hr=>bI hle a hr) k2⟩
   ·rw [if_neg e] at q
    rw[if_neg (by omega),g4]at k;cases hk:i-ms.length with
    | zero =>
     rw[hk]at q k;simp at q k;subst q k;exact⟨W,h2,gd (fun a _ hr=>bI hle a hr) h3⟩
    |succ _=>rw[hk]at q; simp at q
def lW(m s v:AV)(H:List ad):Option (List ad) :=
 match m,s,v with
 | .map id,.lit (.int .i64 st),.map j=>match H[id]?,H[j]? with
  | some (.mm l es ms cl),some (.map d k)=>match rj es st with
   | some i=>match es[i]? with
    |some (key,none,bn)=>some ((H.set id (.mm l (es.set i (key,some ms.length,bn)) (ms++[(d,k)]) cl)).set j .dead)
    |_=>none
   |none=>none
  |_,_=>none
 |_,_,_=>none
theorem Xo{P:Program}{E:Env}(HE:aq E){t:TypeId}{m s v:AV}{c d u:Value}{H':List ad}(h:lW m s v E.H=some H')(hm:rel E m c)(hs:rel E s d)(hv:rel E v u) :
  ∃ w',(yU t c d u).run P E.w=.ok () w'∧∀ x,cZ E .undef H' x w':=by
 unfold lW at h;split at h
 case h_2=>cases h
 rename_i id st j;split at h
 case h_2=>cases h
 rename_i l es ms cl q B hid V;split at h
 case h_2=>cases h
 rename_i i hi;split at h
 case h_2=>cases h
 rename_i key bn hes;cases h;obtain⟨b,n,k,rfl,h1,h2,h3,h4,h5,h6⟩:=Ea HE hid hm;have aA:j≠id:=fun e=>by rw[e,hid]at V; cases V
 have e1:(getObj b).run P E.w=.ok (.map k cl) E.w:=by simp[getObj,gX,h2]
 obtain⟨hlen,hall⟩:=eG.1 h3;rw[KH]at hlen;have hlt:=aK hes;obtain⟨e',q4⟩:∃ e',k.toList[i]? = some e':=⟨k.toList[i]'(by omega),bf _⟩
 have hfind:k.findIdx? (fun e=>(e.born:Int)==st)=some i:=by
  have e0:k=k.toList.toArray:=by simp
  rw[e0,alV,LK h3,hi]
 obtain⟨O,J,r',rfl,⟨tt,ht⟩,hlv,hloc,HE1,M⟩:=Xn HE hid V hv;have hd:d=.int .i64 st:=by simpa[rel]using hs
 have hidE:({ w:=E.w,H:=(E.H.set id (.mm l es (ms++[(q,B)]) cl)).set j .dead,loc:=J,X:=E.X.re r' }:Env).H[id]? = some (.mm l es (ms++[(q,B)]) cl):=by
  simp only[];rw[aZ aA,bC (aK hid)]
 have hre:bD { w:=E.w,H:=(E.H.set id (.mm l es (ms++[(q,B)]) cl)).set j .dead,loc:=J,X:=E.X.re r' } (fQ (es.set i (key,some ms.length,bn))) (k.modify i fun e=>{ e with val:=.map (some O) }).toList:=by
  rw[eG];refine⟨by simp[fQ,hlen],fun a y z I hz=>?_⟩;simp only[lK,jr]at hz;obtain⟨z0,N,rfl⟩:=ef.1 hz;unfold fQ at I;rw[bU,eC]at I;by_cases e:i=a
  ·subst e
   rw[if_pos rfl,if_pos hlt]at I;cases I;obtain⟨b1,b2,W,b4,b5⟩:=hall i (key,.undef,bn) z0 (by unfold fQ; rw[bU,hes]; rfl) N;simp only[if_true];exact⟨bI M _ b1,by simp[rel],W,b4,rfl⟩
  ·rw [if_neg e] at I
   obtain⟨b1,b2,W,b4,b5⟩:=hall a y z0 (by unfold fQ; rw[bU]; exact I) N;simp only[if_neg e];exact⟨bI M _ b1,bI M _ b2,W,b4,b5⟩
 obtain⟨w',p1,p2,p3⟩:=LJ (P:=P) HE1 (cl':=cl) (es':=es.set i (key,some ms.length,bn)) (mes':=k.modify i fun e=>{ e with val:=.map (some O) }) hidE (by
  show J[id]? = _
  rw[hloc id (Ne.symm aA)];exact h1) h2 hre (fun a x e U he=>by
  simp only[lK,jr]at he;obtain⟨z0,N,rfl⟩:=ef.1 he;by_cases e:i=a
  ·subst e
   rw[bC hlt]at U;cases U;exact .inr ⟨ms.length,O,rfl,hlv,by simp⟩
  ·rw [aZ e] at U
   simp only[if_neg e];rcases h5 a x z0 U N with h|⟨i',b',a1,a2,a3⟩
   ·exact .inl h
   ·refine .inr ⟨i', b', a1, ?_, a3⟩
    show (eI (r' l))[i']? = _
    rw[ht,Dq,cT (aK a2)];exact a2)
 have hH:((E.H.set id (.mm l es (ms++[(q,B)]) cl)).set j .dead).set id (.mm l (es.set i (key,some ms.length,bn)) (ms++[(q,B)]) cl)=(E.H.set id (.mm l (es.set i (key,some ms.length,bn)) (ms++[(q,B)]) cl)).set j .dead:=by
  rw[List.set_comm _ _ aA,qK]
 rw[hH]at p2 p3;have hrun:(yU t (.map (some b)) d (.map (some O))).run P E.w=.ok () w':=by
  subst hd;simp only[yU,asInt,asIntOf,bY,b_,e1,fN,hfind];exact p1
 exact⟨w',hrun,fun xx=>⟨J,r',by simp[rel],p2,M.trans p3⟩⟩
end Go.AL
