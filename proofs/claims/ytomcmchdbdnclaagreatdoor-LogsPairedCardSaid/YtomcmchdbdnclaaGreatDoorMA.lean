/-
 What is proved: basic facts of an abstract logic for the model's programs. No condition.
-/
import Derived.Calls
import Derived.Orders
import Derived.OrdersIn
import Derived.RangeFuncNested
import Derived.RangeFuncLeaves
import Derived.Laws.Sem
import Derived.Laws.Cells
import Derived.Laws.StructEq
import Derived.Laws.AppendOwn
import Derived.Laws.CopyRow
set_option linter.all false
open Array renaming getElem?_push->Wd,length_toList->jK,toList_map->Wl,ext'->ic,range->iL,map->K9
open BitVec renaming ofInt->zP
open Bool renaming and_true->gD,and_eq_true->ax,false_eq_true->kV,and_assoc->alE
open ByteArray renaming empty->zO
open Go.Act renaming eval->DY
open Go.Addr.mk renaming injEq->D0
open Go.Builtin renaming lenOf->K7,firstCells->jk,append_->og,zeroCells->zT,nextslicecap->K8
open Go.Instr renaming loadAt->wC,sureAddr->lE,fieldAt->We,indexAt->wD,sliceBounds->s_,sliceBound->D2,sliceAt->oe,slice->pn,index->Wh,field->alG,fill->alH,build->Wk,storeAt->tb,alloc->D5,box->alJ,makeSlice->alK,buildSlice->La
open Go.Op renaming bytesLess->pk,equalIn->kZ,eqFields->Wg,equal->zR
open Go.Program renaming fieldsOf->alF
open Go.Result renaming andThen_ok->bT
open Go.Sem renaming run_bind->bS,run_pure->ft
open Go.Value renaming cells->K4
open Go.Value.pointer renaming injEq->alC
open Go.Value.slice renaming injEq->kX
open Go.World renaming cell?->s9,setRow->alI
open List renaming length_cons->bG,append_nil->cB,getElem?_append_left->cK,getElem?_eq_some_iff->KY,length_map->bN,getElem?_map->bB,getElem?_eq_getElem->bx,mem_of_getElem?->dJ,getElem?_eq_none->nh,getElem?_append_right->iJ,getElem?_append->fE,getElem?_set_self->bf,getElem?_set_ne->aQ,getElem?_set->dv,set_eq_of_length_le->KZ,all_eq_true->da,getD_eq_getElem?_getD->bP,getElem?_drop->qU,getElem?_take->nk,take_succ_cons->DZ,mem_cons->bC,map_cons->bX,map_take->K3,map_drop->D1,mem_of_mem_drop->zQ,mem_of_mem_take->wE,cons_append->kY,take_one->Wf,eq_nil_of_length_eq_zero->ta,drop_drop->qV,take_append_drop->wF,ext_getElem?->iK,length_take->lF,length_append->en,mem_append->cw,mapM_cons->Wj,flatten_cons->jl,getElem?_of_mem->wG,size_toArray->zV,length_drop->pq,flatten_append->nl,replicate->bQ,replicate_succ->K_,eq_of_mem_replicate->Wm
open List.cons renaming injEq->K5
open Nat renaming add_assoc->qT,add_comm->s8,add_mul->fM,le_refl->aB,le_add_right->fV,le_trans->lD,lt_of_lt_of_le->dM,zero_le->dX,ne_of_lt->alB,lt_or_ge->kU,zero_add->cn,sub_sub->alD,sub_zero->fF,zero_mul->po,add_zero->mq,mul_le_mul_right->oh,one_mul->wH,mul_eq_zero->Wn
open Option renaming map_eq_some_iff->dI,isSome_iff_exists->D3
open Option.some renaming injEq->aM
open Prod.mk renaming injEq->aU
namespace Go.AL
inductive Kd where
 |int (k:IntKind)
 |str
 |bool
 |list (ks:List Kd)
 deriving Inhabited
inductive G where
 |i (n:Int)
 |s (b:ByteArray)
 |t (x:Bool)
 |l (rows:List (List G))
instance:Inhabited G:=⟨.i 0⟩
def G.int:G->Int
 |.i n=>n
 |_=>0
def G.str:G->ByteArray
 |.s b=>b
 |_=>zO
def G.bool:G->Bool
 |.t x=>x
 |_=>false
def G.rows:G->List (List G)
 |.l rows=>rows
 |_=>[]
inductive AV where
 |undef
 |lit (v:Value)
 |nils
 |list (k:Nat) (rows:List (List AV))
 |listF (ks:List Kd) (rows:List (List G))
 |agg (cells:List AV)
 |tuple (vs:List AV)
 |cptr (cells:List AV)
 |ptr (id ver k row col:Nat)
 |vec (k id ver off n:Nat)
 |map (id:Nat)
 |clo (f:FuncId) (caps:List AV)
 |ifc
 |emptyS (isNil:Bool)
 |sub (id l:Nat) (j:Option Nat)
 |svec (id l j n:Nat)
 |sptr (id l j k row col:Nat)
 deriving Inhabited
def jM:Kd->G->AV
 |.int k,g=>.lit (.int k g.int)
 |.str,g=>.lit (.string g.str)
 |.bool,g=>.lit (.bool g.bool)
 |.list ks,g=>.listF ks g.rows
def aD:List Kd->List G->List AV
 | [],_=>[]
 |k::ks,g=>jM k (g.headD default)::aD ks g.tail
theorem rh:∀(ks:List Kd) (g:List G),(aD ks g).length=ks.length
 | [],_=>rfl
 |_::ks,g=>by simp[aD,rh ks]
inductive ab where
 |dead
 |box (cells:List AV)
 |vec (k ver:Nat) (rows:List (List AV))
 |map (es:List (AV × AV × Nat)) (clock:Nat)
 |iter (s:ByteArray) (pos:Nat)
 |fN (l:Nat) (T B:TypeId) (s:ByteArray)
 |aJ (l k:Nat) (es:List (AV × Option (List (List AV)) × Nat)) (clock:Nat)
 |mm (l:Nat) (es:List (AV × Option Nat × Nat)) (ms:List (List (AV × AV × Nat) × Nat)) (clock:Nat)
 |eP
 |b_ (l k n:Nat) (ms:List (List (List AV)))
 |bp (l k:Nat) (es:List (AV × (Option (List (List AV)) × Option (List (List AV))) × Nat)) (clock:Nat)
 deriving Inhabited
def ab.born:ab->Bool
 |.eP=>false
 |_=>true
def ab.label:ab->Option Nat
 |.fN l _ _ _=>some l
 |.aJ l _ _ _=>some l
 |.mm l _ _ _=>some l
 |.b_ l _ _ _=>some l
 |.bp l _ _ _=>some l
 |_=>none
def ab.dc:ab->Option Nat
 |.mm l _ _ _=>some l
 |.b_ l _ _ _=>some l
 |_=>none
theorem ab.mz{o:ab}{l:Nat}(h:o.dc=some l):o.label=some l:=by
 cases o<;>first|exact h|cases h
theorem ab.Ej{o:ab}{l:Nat}(h:o.dc=some l):o.born=true:=by
 cases o<;>first|rfl|cases h
theorem ab.Av{o:ab}{l:Nat}(h:o.label=some l):o.born=true:=by
 cases o<;>first|rfl|cases h
theorem ab.Aw{o:ab}(h:o.label=none):o.dc=none:=by
 cases o<;>first|rfl|cases h
def ab.aF : ab->Option Nat
 |.dead=>none
 |.box _=>some 0
 |.vec _ v _=>some v
 |.map _ _=>some 0
 |.iter _ _=>some 0
 |.fN ..=>some 0
 |.aJ ..=>some 0
 |.mm ..=>some 0
 |.b_ ..=>some 0
 |.bp ..=>some 0
 |.eP=>none
theorem ab.Ek{o:ab}{v:Nat}(h:o.aF = some v):o.born=true:=by
 cases o<;>first|rfl|cases h
structure XS where
 x:Nat->Prop
 z:Nat->Prop
 r:Nat->List (Option (Option (Nat × Nat)))
instance:CoeFun XS fun _=>Nat->Prop:=⟨XS.x⟩
def XS.or(X:XS)(p:Nat->Prop):XS:=⟨fun b=>X b\/p b,X.z,X.r⟩
def XS.re(X:XS) (r:Nat->List (Option (Option (Nat × Nat)))):XS:=⟨X.x,X.z,r⟩
@[simp] theorem XS.El (X:XS):X.re X.r=X:=rfl
@[simp] theorem XS.ame (X:XS) (r):(X.re r).x=X.x:=rfl
@[simp] theorem XS.amf (X:XS) (r):(X.re r).z=X.z:=rfl
@[simp] theorem XS.amg (X:XS) (r):(X.re r).r=r:=rfl
@[simp] theorem XS.amh (X:XS) (r r'):(X.re r).re r'=X.re r':=rfl
theorem XS.Lu{X X':XS}(h:X'.x=X.x/\X'.z=X.z)(r):X'.re r=X.re r:=by
 unfold XS.re;rw[h.1,h.2]
def dZ:Nat->List (Option (Option (Nat × Nat))):=fun _=>[]
def wQ:List (Nat × Array Value):=[]
class Dr where
 d:Bool
abbrev wR:Dr:=⟨true⟩
variable [Dr]
def WZ:Bool:=Dr.d
structure Env where
 w:World
 H:List ab
 loc:List (Option (Nat × Nat))
 X:XS
def Env.sat(E:Env)(b:Nat):Prop:=∃(l h m:Nat),(E.X.r l)[h]? = some (some (some (b,m)))
def Env.own(E:Env)(b:Nat):Prop:=(∃(id:Nat) (c:Nat),E.loc[id]? = some (some (b,c)))\/E.sat b
def Env.jN(E:Env)(b:Nat):Prop:=b<E.w.heap.size/\¬ E.own b/\¬ E.X b
def Env.live(E:Env)(id ver:Nat):Prop:=∃ o,E.H[id]? = some o/\o.aF = some ver
def Env.past(E:Env)(id ver:Nat):Prop:=∃ o,E.H[id]? = some o/\o.born=true/\∀ v,o.aF = some v->ver<=v
def db (r:List (Option (Option (Nat × Nat)))):List Nat:=r.filterMap fun x=>match x with
 |some (some (b,_))=>some b
 |_=>none
theorem wS (r t:List (Option (Option (Nat × Nat)))):db (r++t)=db r++db t:=List.filterMap_append
def Env.tu(E:Env)(id l j:Nat)(p:Nat->Prop):Prop:=(∃ o,E.H[id]? = some o/\o.dc=some l)/\∃ b,(db (E.X.r l))[j]? = some b/\p b
def Env.Lv(E:Env)(id l i:Nat)(c:Value):Prop:=(∃ o,E.H[id]? = some o/\o.dc=some l)/\∃ b,(db (E.X.r l))[i]? = some b/\c=.map (some b)
def dm:Value->Bool
 |.agg _ | .tuple _=>false
 |_=>true
mutual
def AV.closed:AV->Bool
 |.undef | .lit _ | .nils | .list _ _ | .listF _ _ | .cptr _ | .ifc | .emptyS _=>true
 |.agg cs | .tuple cs | .clo _ cs=>AV.bu cs
 |.ptr .. | .vec .. | .map _ | .sub .. | .svec .. | .sptr ..=>false
def AV.bu:List AV->Bool
 | []=>true
 |a::as=>a.closed&&AV.bu as
end
theorem fW:∀(ks:List Kd) (g:List G),AV.bu (aD ks g)=true
 | [],_=>rfl
 | k::ks,g=>by
  simp only[aD,AV.bu,fW ks,gD];cases k<;>rfl
mutual
def eo(E:Env):Kd->G->Value->Prop
 |.int k,g,c=>c=.int k g.int
 |.str,g,c=>c=.string g.str
 |.bool,g,c=>c=.bool g.bool
 | .list ks,g,c=>∃ base cap,c=.slice base g.rows.length cap/\g.rows.length<=cap /\
   (g.rows=[]\/∃ b o,base=some ⟨b,o,none⟩/\E.jN b/\∀(i:Nat) (r:List G),g.rows[i]? = some r->mC E ks r b (o+i*ks.length))
def mC(E:Env):List Kd->List G->Nat->Nat->Prop
 | [],_,_,_=>True
 |k::ks,g,b,o=>(∃ v,E.w.cell? ⟨b,o,none⟩=some v/\dm v=true/\eo E k (g.headD default) v)/\mC E ks g.tail b (o+1)
end
def eD(rows:List (List AV)):Prop:=∀ r∈rows,AV.bu r=true
mutual
def rel(E:Env):AV->Value->Prop
 |.undef,_=>True
 |.lit v,c=>c=v
 |.nils,c=>∃ base,c=.slice base 0 0
 | .list k rows,c=>eD rows/\∃ base cap,c=.slice base rows.length cap/\rows.length<=cap /\
   (rows=[]\/∃ b o,base=some ⟨b,o,none⟩/\E.jN b/\cy E k rows b o)
 |.listF ks rows,c=>eo E (.list ks) (.l rows) c
 |.agg cells,c=>∃ cs:Array Value,c=.agg cs/\(∀ x∈cs.toList,dm x=true)/\ae E cells cs.toList
 |.tuple vs,c=>∃ cs:Array Value,c=.tuple cs/\ae E vs cs.toList
 |.cptr cells,c=>AV.bu cells=true/\∃ b o,c=.pointer (some ⟨b,o,none⟩)/\E.jN b/\cu E cells b o
 | .ptr id ver k row col,c=>(∃ b o,c=.pointer (some ⟨b,o,none⟩))/\E.past id ver/\(E.live id ver->∃ b n,E.loc[id]? = some (some (b,n)) /\
   c=.pointer (some ⟨b,row*k+col,none⟩))
 | .vec k id ver off n,c=>(∃ base cap,c=.slice base n cap/\n<=cap/\(0<n->∃ b o,base=some ⟨b,o,none⟩))/\E.past id ver/\(E.live id ver ->
   (E.loc[id]? = some none->n=0/\off=0/\∃ base,c=.slice base 0 0) /\
   (∀ b m,E.loc[id]? = some (some (b,m))->off+n<=m/\∃ o,(off<m->o=off*k)/\c=.slice (some ⟨b,o,none⟩) n (m-off)))
 |.map id,c=>(∃ b,c=.map (some b))/\E.past id 0/\(E.live id 0->∃ b n,E.loc[id]? = some (some (b,n))/\c=.map (some b))
 |.clo f caps,c=>∃ cs:Array Value,c=.func (.func f) #[] cs/\ae E caps cs.toList
 |.ifc,c=>∃ t v,c=.iface t v
 |.emptyS n,c=>∃ base cap,c=.slice base 0 cap/\base.isNone=n
 |.sub id l j,c=>(j=none/\c=.map none)\/∃ i,j=some i/\(∃ b,c=.map (some b))/\E.past id 0/\(E.live id 0->E.Lv id l i c)
 |.svec id l j n,c=>(∃ base cap,c=.slice base n cap/\n<=cap/\(0<n->∃ b o,base=some ⟨b,o,none⟩))/\E.past id 0/\(E.live id 0->E.tu id l j fun b=>∃ m,n<=m/\c=.slice (some ⟨b,0,none⟩) n m)
 |.sptr id l j k row col,c=>(∃ b o,c=.pointer (some ⟨b,o,none⟩))/\E.past id 0/\(E.live id 0->E.tu id l j fun b=>c=.pointer (some ⟨b,row*k+col,none⟩))
def ae(E:Env):List AV->List Value->Prop
 | [],[]=>True
 |a::as,v::vs=>rel E a v/\ae E as vs
 |_,_=>False
def cu(E:Env):List AV->Nat->Nat->Prop
 | [],_,_=>True
 |a::as,b,o=>(∃ v,E.w.cell? ⟨b,o,none⟩=some v/\dm v=true/\rel E a v)/\cu E as b (o+1)
def cy(E:Env)(k:Nat):List (List AV)->Nat->Nat->Prop
 | [],_,_=>True
 |r::rs,b,o=>r.length=k/\cu E r b o/\cy E k rs b (o+k)
end
theorem jn{E:Env}:∀{as:List AV} {vs:List Value},ae E as vs->as.length=vs.length
 | [],[],_=>rfl
 |_::_,_::_,h=>by simp only[ae]at h; simp[jn h.2]
 | [],_::_,h=>by simp[ae]at h
 |_::_,[],h=>by simp[ae]at h
theorem ow{E:Env}:∀{as:List AV} {vs:List Value},
  ae E as vs↔as.length=vs.length/\∀(i:Nat) a v,as[i]? = some a->vs[i]? = some v->rel E a v
 | [],[]=>by simp[ae]
 | [],_::_=>by simp[ae]
 |_::_,[]=>by simp[ae]
 | a::as,v::vs=>by
  simp only[ae,ow (as:=as),bG];constructor
  ·rintro ⟨h1, k, q⟩
   refine⟨by omega,fun i x y d g=>?_⟩;cases i with
   |zero=>simp at d g; subst d; subst g; exact h1
   |succ i=>exact q i x y (by simpa using d) (by simpa using g)
  ·rintro ⟨h1, k⟩
   exact⟨k 0 a v rfl rfl,by omega,fun i x y d g=>k (i+1) x y (by simpa using d) (by simpa using g)⟩
theorem jo{E:Env}:∀{as:List AV} {b o:Nat},
  cu E as b o↔∀(i:Nat) a,as[i]? = some a->∃ v,E.w.cell? ⟨b,o+i,none⟩=some v/\dm v=true/\rel E a v
 | [],b,o=>by simp[cu]
 | a::as,b,o=>by
  simp only[cu,jo (as:=as)];constructor
  ·rintro ⟨h1, g⟩ i x d
   cases i with
   |zero=>simp at d; subst d; exact h1
   |succ i=>have:=g i x (by simpa using d); rwa [qT,s8 1 i]at this
  ·intro h
   refine⟨h 0 a rfl,fun i x d=>?_⟩;have:=h (i+1) x (by simpa using d)
   rwa [qT,s8 1 i]
theorem mD{E:Env}{k:Nat}:∀{rs:List (List AV)} {b o:Nat},
  cy E k rs b o↔∀(i:Nat) r,rs[i]? = some r->r.length=k/\cu E r b (o+i*k)
 | [],b,o=>by simp[cy]
 | r::rs,b,o=>by
  simp only[cy,mD (rs:=rs)];constructor
  ·rintro ⟨h0, h1, g⟩ i x d
   cases i with
   |zero=>simp at d; subst d; simpa using⟨h0,h1⟩
   | succ i =>
    have:=g i x (by simpa using d)
    rwa [qT,show k+i*k=(i+1)*k from by rw[fM]; omega]at this
  ·intro h
   have h0:=h 0 r rfl;refine⟨h0.1,by simpa using h0.2,fun i x d=>?_⟩;have:=h (i+1) x (by simpa using d)
   rwa [qT,show k+i*k=(i+1)*k from by rw[fM]; omega]
def eE(w w':World):Prop:=w'.os=w.os/\w'.output=w.output/\w'.tape=w.tape/\(WZ=true->w.drawn<=w'.drawn)
theorem eE.refl(w:World):eE w w:=⟨rfl,rfl,rfl,by first|exact fun _=>aB _|exact fun _=>fV _ _⟩
theorem eE.trans{w w' d:World}(h:eE w w')(h':eE w' d):eE w d:=⟨h'.1.trans h.1,h'.2.1.trans h.2.1,h'.2.2.1.trans h.2.2.1,fun t=>lD (h.2.2.2 t) (h'.2.2.2 t)⟩
structure Env.le (E E':Env):Prop where
 past:∀ id ver,E.past id ver->E'.past id ver
 size:E.w.heap.size<=E'.w.heap.size
 same:∀ b,b<E.w.heap.size->¬ E.own b->E'.w.heap[b]? = E.w.heap[b]?
 own:∀ b,b<E.w.heap.size->¬ E.own b->¬ E'.own b
 live:∀ id ver,E.past id ver->E'.live id ver->E.live id ver/\E'.loc[id]? = E.loc[id]?
 X:E'.X.x=E.X.x/\E'.X.z=E.X.z
 rl:∀ l h,h<(E.X.r l).length->h<(E'.X.r l).length/\∀ q,(E'.X.r l)[h]? = some (some q)->(E.X.r l)[h]? = some (some q)
 env:eE E.w E'.w
 grow:∀ id l o,E.H[id]? = some o->o.dc=some l->E'.live id 0->(∃ t,E'.X.r l=E.X.r l++t)/\∃ o',E'.H[id]? = some o'/\o'.dc=some l
theorem Env.le.refl(E:Env):E.le E:=⟨fun _ _ h=>h,aB _,fun _ _ _=>rfl,fun _ _ h=>h,fun _ _ _ h=>⟨h,rfl⟩,⟨rfl,rfl⟩,fun _ _ h=>⟨h,fun _ d=>d⟩,⟨rfl,rfl,rfl,by first|exact fun _=>aB _|exact fun _=>fV _ _⟩,fun _ _ o h1 g _=>⟨⟨[],(cB _).symm⟩,o,h1,g⟩⟩
theorem Env.le.ok{E E':Env}(h:E.le E')(b:Nat)(hb:E.jN b):E'.jN b :=
 ⟨dM hb.1 h.size,h.own b hb.1 hb.2.1,by rw[show E'.X.x=E.X.x from h.X.1]; exact hb.2.2⟩
theorem Env.le.trans{E E' y:Env}(h:E.le E')(h':E'.le y):E.le y where
 past:=fun id ver d=>h'.past id ver (h.past id ver d)
 size:=lD h.size h'.size
 same:=fun b hb ho=>by rw[h'.same b (dM hb h.size) (h.own b hb ho),h.same b hb ho]
 own:=fun b hb ho=>h'.own b (dM hb h.size) (h.own b hb ho)
 live:=fun id ver hid U=>by
  obtain⟨g,a2⟩:=h'.live id ver (h.past id ver hid) U;obtain⟨b1,k⟩:=h.live id ver hid g;exact⟨b1,by rw[a2,k]⟩
 X:=⟨by rw[h'.X.1,h.X.1],by rw[h'.X.2,h.X.2]⟩
 rl:=fun l i hi=>by
  obtain⟨g,a2⟩:=h.rl l i hi;obtain⟨b1,k⟩:=h'.rl l i g;exact⟨b1,fun q V=>a2 q (k q V)⟩
 env:=h.env.trans h'.env
 grow:=fun id l o h1 I u=>by
  have d:E.past id 0:=⟨o,h1,ab.Ej I,fun v u=>dX _⟩
  obtain⟨M,_⟩:=h'.live id 0 (h.past id 0 d) u;obtain⟨⟨t,W⟩,o',g1,g2⟩:=h.grow id l o h1 I M;obtain⟨⟨t',N⟩,O,g3,g4⟩:=h'.grow id l o' g1 g2 u;exact⟨⟨t++t',by rw[N,W,List.append_assoc]⟩,O,g3,g4⟩
theorem World.tv{w w':World}{b o:Nat}(h:w'.heap[b]? = w.heap[b]?):w'.cell? ⟨b,o,none⟩=w.cell? ⟨b,o,none⟩:=by
 simp[s9,h]
structure Env.bE (E E':Env):Prop where
 ok:∀ b,E.jN b->E'.jN b/\E'.w.heap[b]? = E.w.heap[b]?
theorem Env.le.toC{E E':Env}(h:E.le E'):E.bE E':=⟨fun b hb=>⟨h.ok b hb,h.same b hb.1 hb.2.1⟩⟩
mutual
theorem Lw{E E':Env}(h:E.bE E'):∀(k:Kd) {g:G} {c:Value},eo E k g c->eo E' k g c
 |.int k,g,c,hr=>by simpa only[eo]using hr
 |.str,g,c,hr=>by simpa only[eo]using hr
 |.bool,g,c,hr=>by simpa only[eo]using hr
 | .list ks,g,c,hr=>by
  simp only[eo]at hr|-;obtain⟨base,cap,v,hle,u⟩:=hr;refine⟨base,cap,v,hle,?_⟩;rcases u with y|⟨b,o,hb,d,q⟩
  ·exact .inl y
  ·exact .inr ⟨b,o,hb,(h.ok b d).1,fun i r hi=>Lx h ks (h.ok b d).2 (q i r hi)⟩
theorem Lx{E E':Env}(h:E.bE E'):∀(ks:List Kd) {g:List G} {b o:Nat},E'.w.heap[b]? = E.w.heap[b]? -> mC E ks g b o->mC E' ks g b o
 | [],_,_,_,_,_=>by simp[mC]
 | k::ks,g,b,o,hb,hr=>by
  simp only[mC]at hr|-;obtain⟨⟨v,h1,d,q⟩,u⟩:=hr;exact⟨⟨v,by rw[World.tv hb]; exact h1,d,Lw h k q⟩,Lx h ks hb u⟩
end
mutual
theorem eQ{E E':Env}(h:E.bE E'):∀(a:AV) {c:Value},a.closed=true->rel E a c->rel E' a c
 |.undef,_,_,_=>by simp[rel]
 |.lit v,c,_,hr=>by simpa only[rel]using hr
 |.nils,c,_,hr=>by simpa only[rel]using hr
 | .list k rows,c,_,hr=>by
  simp only[rel]at hr|-;obtain⟨q,base,cap,d,hle,I⟩:=hr;refine⟨q,base,cap,d,hle,?_⟩;rcases I with rfl|⟨b,o,hb,u,y⟩
  ·exact .inl rfl
  ·exact .inr ⟨b,o,hb,(h.ok b u).1,jO h rows q (h.ok b u).2 y⟩
 | .listF ks rows,c,_,hr=>by
  simp only[rel]at hr|-;exact Lw h _ hr
 | .agg cells,c,d,hr=>by
  simp only[rel]at hr|-;obtain⟨cs,e,h1,g⟩:=hr;exact⟨cs,e,h1,pz h cells (by simpa only[AV.closed]using d) g⟩
 | .tuple cells,c,d,hr=>by
  simp only[rel]at hr|-;obtain⟨cs,e,g⟩:=hr;exact⟨cs,e,pz h cells (by simpa only[AV.closed]using d) g⟩
 | .cptr cells,c,d,hr=>by
  simp only[rel]at hr|-;obtain⟨q,b,o,e,u,g⟩:=hr;exact⟨q,b,o,e,(h.ok b u).1,tw h cells q (h.ok b u).2 g⟩
 |.ptr ..,_,d,_=>by simp[AV.closed]at d
 |.vec ..,_,d,_=>by simp[AV.closed]at d
 |.map _,_,d,_=>by simp[AV.closed]at d
 |.sub ..,_,d,_=>by simp[AV.closed]at d
 |.svec ..,_,d,_=>by simp[AV.closed]at d
 |.sptr ..,_,d,_=>by simp[AV.closed]at d
 | .clo f caps,c,d,hr=>by
  simp only[rel]at hr|-;obtain⟨cs,e,g⟩:=hr;exact⟨cs,e,pz h caps (by simpa only[AV.closed]using d) g⟩
 |.ifc,c,_,hr=>by simpa only[rel]using hr
 |.emptyS n,c,_,hr=>by simpa only[rel]using hr
theorem pz{E E':Env}(h:E.bE E'):∀(as:List AV) {vs:List Value},AV.bu as=true->ae E as vs->ae E' as vs
 | [],[],_,_=>by simp[ae]
 | [],_::_,_,hr=>by simp[ae]at hr
 |_::_,[],_,hr=>by simp[ae]at hr
 | a::as,v::vs,d,hr=>by
  simp only[AV.bu,ax]at d;simp only[ae]at hr|-;exact⟨eQ h a d.1 hr.1,pz h as d.2 hr.2⟩
theorem tw{E E':Env}(h:E.bE E'):∀(as:List AV) {b o:Nat},AV.bu as=true->E'.w.heap[b]? = E.w.heap[b]? -> cu E as b o->cu E' as b o
 | [],_,_,_,_,_=>by simp[cu]
 | a::as,b,o,d,hb,hr=>by
  simp only[AV.bu,ax]at d;simp only[cu]at hr|-;obtain⟨⟨v,h1,g,k⟩,q⟩:=hr;exact⟨⟨v,by rw[World.tv hb]; exact h1,g,eQ h a d.1 k⟩,tw h as d.2 hb q⟩
theorem jO{E E':Env}(h:E.bE E'){k:Nat}:∀(rs:List (List AV)) {b o:Nat},eD rs->E'.w.heap[b]? = E.w.heap[b]? -> cy E k rs b o->cy E' k rs b o
 | [],_,_,_,_,_=>by simp[cy]
 | r::rs,b,o,d,hb,hr=>by
  simp only[cy]at hr|-;exact⟨hr.1,tw h r (d r (by simp)) hb hr.2.1,jO h rs (fun x g=>d x (by simp[g])) hb hr.2.2⟩
end
theorem Env.Ly{E E':Env}(h:E.le E'){id l j:Nat}{p:Nat->Prop}(k:E.past id 0)(hr:E.live id 0->E.tu id l j p)(d:E'.live id 0):E'.tu id l j p:=by
 obtain⟨g1,_⟩:=h.live id 0 k d;obtain⟨⟨o,q,u⟩,b,g,v⟩:=hr g1;obtain⟨⟨t,y⟩,ho⟩:=h.grow id l o q u d;refine⟨ho,b,?_,v⟩;rw[y,wS,cK (KY.1 g).1];exact g
mutual
theorem bg{E E':Env}(h:E.le E'):∀(a:AV) {c:Value},rel E a c->rel E' a c
 |.undef,_,_=>by simp[rel]
 |.lit v,c,hr=>by simpa only[rel]using hr
 |.nils,c,hr=>by simpa only[rel]using hr
 |.list k rows,c,hr=>eQ h.toC _ (by simp[AV.closed]) hr
 |.listF ks rows,c,hr=>eQ h.toC _ (by simp[AV.closed]) hr
 | .agg cells,c,hr=>by
  simp only[rel]at hr|-;obtain⟨cs,e,h1,d⟩:=hr;exact⟨cs,e,h1,dw h cells d⟩
 | .tuple cells,c,hr=>by
  simp only[rel]at hr|-;obtain⟨cs,e,d⟩:=hr;exact⟨cs,e,dw h cells d⟩
 |.cptr cells,c,hr=>eQ h.toC _ (by simp[AV.closed]) hr
 | .ptr id ver k row col,c,hr=>by
  simp only[rel]at hr|-;refine⟨hr.1,h.past _ _ hr.2.1,fun g=>?_⟩;obtain⟨h1,d⟩:=h.live id ver hr.2.1 g;rw[d];exact hr.2.2 h1
 | .vec k id ver off n,c,hr=>by
  simp only[rel]at hr|-;refine⟨hr.1,h.past _ _ hr.2.1,fun g=>?_⟩;obtain⟨h1,d⟩:=h.live id ver hr.2.1 g;rw[d];exact hr.2.2 h1
 | .map id,c,hr=>by
  simp only[rel]at hr|-;refine⟨hr.1,h.past _ _ hr.2.1,fun g=>?_⟩;obtain⟨h1,d⟩:=h.live id 0 hr.2.1 g;rw[d];exact hr.2.2 h1
 | .clo f caps,c,hr=>by
  simp only[rel]at hr|-;obtain⟨cs,e,d⟩:=hr;exact⟨cs,e,dw h caps d⟩
 |.ifc,c,hr=>by simpa only[rel]using hr
 |.emptyS n,c,hr=>by simpa only[rel]using hr
 | .sub id l j,c,hr=>by
  simp only[rel]at hr|-;rcases hr with hr|⟨i,h1,d,q,y⟩
  ·exact .inl hr
  ·refine .inr ⟨i, h1, d, h.past _ _ q, fun g => ?_⟩
   obtain⟨g1,_⟩:=h.live id 0 q g;obtain⟨⟨o,I,M⟩,b,u,N⟩:=y g1;obtain⟨⟨t,O⟩,ho⟩:=h.grow id l o I M g;refine⟨ho,b,?_,N⟩;rw[O,wS,cK (KY.1 u).1];exact u
 | .svec id l j n,c,hr=>by
  simp only[rel]at hr|-;exact⟨hr.1,h.past _ _ hr.2.1,fun g=>Env.Ly h hr.2.1 hr.2.2 g⟩
 | .sptr id l j k row col,c,hr=>by
  simp only[rel]at hr|-;exact⟨hr.1,h.past _ _ hr.2.1,fun g=>Env.Ly h hr.2.1 hr.2.2 g⟩
theorem dw{E E':Env}(h:E.le E'):∀(as:List AV) {vs:List Value},ae E as vs->ae E' as vs
 | [],[],_=>by simp[ae]
 | [],_::_,hr=>by simp[ae]at hr
 |_::_,[],hr=>by simp[ae]at hr
 | a::as,v::vs,hr=>by
  simp only[ae]at hr|-;exact⟨bg h a hr.1,dw h as hr.2⟩
end
theorem W0{E:Env}(k:Kd)(g:G)(c:Value):rel E (jM k g) c↔eo E k g c:=by
 cases k with
 |int k=>simp only[jM,rel,eo]
 |str=>simp only[jM,rel,eo]
 |bool=>simp only[jM,rel,eo]
 |list ks=>simp only[jM,rel,eo,G.rows]
theorem Em{E:Env}:∀(ks:List Kd) (g:List G) (b o:Nat),cu E (aD ks g) b o↔mC E ks g b o
 | [],_,_,_=>by simp[aD,cu,mC]
 |k::ks,g,b,o=>by simp only[aD,cu,mC,Em ks,W0]
theorem jq{E:Env}{ks:List Kd}{rows:List (List G)}{c:Value}:rel E (.listF ks rows) c↔rel E (.list ks.length (rows.map (aD ks))) c:=by
 simp only[rel,eo,G.rows,bN,List.map_eq_nil_iff];have k:eD (rows.map (aD ks)):=by
  intro r hr;obtain⟨g,_,rfl⟩:=List.mem_map.1 hr;exact fW ks g
 have hr:∀ b o,(∀(i:Nat) (r:List G),rows[i]? = some r->mC E ks r b (o+i*ks.length))↔cy E ks.length (rows.map (aD ks)) b o:=by
  intro b o;rw[mD];constructor
  ·intro h i r hi
   simp only[bB,dI]at hi;obtain⟨g,d,rfl⟩:=hi;exact⟨rh ks g,(Em ks g _ _).2 (h i g d)⟩
  ·intro h i g d
   exact(Em ks g _ _).1 (h i (aD ks g) (by simp[d])).2
 simp only[hr,k,true_and]
end Go.AL

namespace Go.AL
variable [Dr]
def isRow(w:World)(b n:Nat):Prop:=∃ cs el,w.heap[b]? = some (.cells cs el (0,0))/\cs.size=n
def bt(E:Env):List (AV × AV × Nat)->List MapEntry->Prop
 | [],[]=>True
 |(k,v,n)::es,e::ms=>rel E k e.key/\rel E v e.val/\e.born=n/\k.closed=true/\v.closed=true/\bt E es ms
 |_,_=>False
def En(w:World)(B:TypeId)(s:ByteArray)(v:Value):Option (Nat × Nat)->Prop
 |none=>v=.slice none 0 0/\s.data.toList=[]
 | some (g,m)=>v=.slice (some ⟨g,0,none⟩) s.data.toList.length m/\∃ cs fz,w.heap[g]? = some (.cells cs B fz)/\fz.2<=s.data.toList.length/\cs.size=m/\s.data.toList.length<=m/\m<=9223372036854775807 /\
   cs.toList.take s.data.toList.length=s.data.toList.map fun b=>Value.int .u8 (b.toNat:Int)
theorem Eo{w w':World}{B:TypeId}{s:ByteArray}{v:Value}{q:Option (Nat × Nat)}(h:∀ g m,q=some (g,m)->w'.heap[g]? = w.heap[g]?)(hr:En w B s v q):En w' B s v q:=by
 cases q with
 |none=>exact hr
 | some d =>
  obtain⟨g,m⟩:=d;obtain⟨h1,cs,fz,k,u⟩:=hr;exact⟨h1,cs,fz,by rw[h g m rfl]; exact k,u⟩
def gj:AV->AV × AV
 |.tuple [a,v]=>(a,v)
 |k=>(k,.undef)
def cL (es:List (AV × Option (List (List AV)) × Nat)):List (AV × AV × Nat):=es.map fun x=>((gj x.1).1,(gj x.1).2,x.2.2)
theorem Ep (es:List (AV × Option (List (List AV)) × Nat)):(cL es).length=es.length:=by simp[cL]
def Ax(E:Env)(l k:Nat)(rows:List (List AV))(h:Nat)(v:Value):Prop :=
 (rows = [] /\ ∃ base, v = .slice base 0 0) \/
  ∃ b m,(E.X.r l)[h]? = some (some (some (b,m)))/\v=.slice (some ⟨b,0,none⟩) rows.length m/\isRow E.w b (m*k)/\rows.length<=m/\eD rows/\cy E k rows b 0
def jP(E:Env)(l k:Nat) (es:List (AV × Option (List (List AV)) × Nat)) (ms:List MapEntry):Prop :=
 ∃ d:Nat->Nat,(∀(i j:Nat) x y,es[i]? = some x->es[j]? = some y->x.2.1.isSome=true->y.2.1.isSome=true->d i=d j->i=j) /\
  ∀(i:Nat) x rows e,es[i]? = some x->x.2.1=some rows->ms[i]? = some e->Ax E l k rows (d i) e.val
theorem Lz{E E':Env}{l k h:Nat}{rows:List (List AV)}{v:Value} (g:∀ b m,(E.X.r l)[h]? = some (some (some (b,m)))->(E'.X.r l)[h]? = some (some (some (b,m)))/\E'.w.heap[b]? = E.w.heap[b]?)
  (q:∀ b,E'.w.heap[b]? = E.w.heap[b]? -> eD rows->cy E k rows b 0->cy E' k rows b 0) (hr:Ax E l k rows h v):Ax E' l k rows h v:=by
 rcases hr with hr|⟨b,m,h1,u,⟨cs,el,y,I⟩,M,d,N⟩
 ·exact .inl hr
 ·obtain ⟨g1, g2⟩ := g b m h1
  exact .inr ⟨b,m,g1,u,⟨cs,el,by rw[g2]; exact y,I⟩,M,d,q b g2 d N⟩
theorem wT{E E':Env}{l k:Nat}{es:List (AV × Option (List (List AV)) × Nat)}{ms:List MapEntry} (u:∀(h b m:Nat),(E.X.r l)[h]? = some (some (some (b,m)))->(E'.X.r l)[h]? = some (some (some (b,m)))/\E'.w.heap[b]? = E.w.heap[b]?)
  (v:∀(i:Nat) x rows,es[i]? = some x->x.2.1=some rows->∀ b,E'.w.heap[b]? = E.w.heap[b]? -> eD rows->cy E k rows b 0->cy E' k rows b 0) (hr:jP E l k es ms):jP E' l k es ms:=by
 obtain⟨g,h1,y⟩:=hr;exact⟨g,h1,fun i x rows e q d he=>Lz (u (g i)) (v i x rows q d) (y i x rows e q d he)⟩
theorem pD{r:List (Option (Option (Nat × Nat)))}{b:Nat}(h:b∈db r):∃(i m:Nat),r[i]? = some (some (some (b,m))):=by
 unfold db at h;obtain⟨x,d,hb⟩:=List.mem_filterMap.1 h;obtain⟨i,hi,e⟩:=List.getElem_of_mem d;split at hb
 ·rename_i g m
  cases hb;exact⟨i,m,by rw[bx hi,e]⟩
 ·cases hb
def gk(es:List (AV × Option Nat × Nat)):List (AV × AV × Nat):=es.map fun x=>(x.1,.undef,x.2.2)
theorem LA(es:List (AV × Option Nat × Nat)):(gk es).length=es.length:=by simp[gk]
def Ay(E:Env)(l:Nat)(es:List (AV × Option Nat × Nat)) (ms:List (List (AV × AV × Nat) × Nat)) (d:List MapEntry):Prop :=
 (db (E.X.r l)).length = ms.length /\
  (∀(i:Nat) x e,es[i]? = some x->d[i]? = some e->(x.2.1=none/\e.val=.map none)\/∃ j b,x.2.1=some j/\(db (E.X.r l))[j]? = some b/\e.val=.map (some b)) /\
  ∀(j:Nat) m b,ms[j]? = some m->(db (E.X.r l))[j]? = some b->∃ mm,E.w.heap[b]? = some (.map mm m.2)/\bt E m.1 mm.toList
theorem Er{E E':Env}{l:Nat}{es:List (AV × Option Nat × Nat)}{ms:List (List (AV × AV × Nat) × Nat)}{d:List MapEntry}(hr:E'.X.r l=E.X.r l) (g:∀(h b m:Nat),(E.X.r l)[h]? = some (some (some (b,m)))->E'.w.heap[b]? = E.w.heap[b]?)
  (k:∀ m∈ms,∀ q,bt E m.1 q->bt E' m.1 q) (h:Ay E l es ms d):Ay E' l es ms d:=by
 obtain⟨h1,u,v⟩:=h;refine⟨by rw[hr]; exact h1,fun i x e y he=>by rw[hr]; exact u i x e y he,fun j m b hm hb=>?_⟩;rw[hr]at hb;obtain⟨mm,I,M⟩:=v j m b hm hb;obtain⟨i,n,hi⟩:=pD (dJ hb);exact⟨mm,by rw[g i b n hi]; exact I,k m (dJ hm) _ M⟩
def Es(E:Env)(l k n:Nat) (ms:List (List (List AV))) (cs:List Value):Prop :=
 (db (E.X.r l)).length = ms.length /\ ms.length <= n /\ n <= cs.length /\
  ∀(i:Nat) rows b,ms[i]? = some rows->(db (E.X.r l))[i]? = some b->∃ m,cs[i]? = some (.slice (some ⟨b,0,none⟩) rows.length m)/\isRow E.w b (m*k)/\rows.length<=m/\eD rows/\cy E k rows b 0
theorem Et{E E':Env}{l k n:Nat}{ms:List (List (List AV))}{cs:List Value}(hr:E'.X.r l=E.X.r l) (g:∀(h b m:Nat),(E.X.r l)[h]? = some (some (some (b,m)))->E'.w.heap[b]? = E.w.heap[b]?)
  (q:∀ rows∈ms,∀ b,E'.w.heap[b]? = E.w.heap[b]? -> eD rows->cy E k rows b 0->cy E' k rows b 0) (h:Es E l k n ms cs):Es E' l k n ms cs:=by
 obtain⟨h1,u,v,y⟩:=h;refine⟨by rw[hr]; exact h1,u,v,fun i rows b hi hb=>?_⟩;rw[hr]at hb;obtain⟨m,I,⟨c,el,M,N⟩,O,d,U⟩:=y i rows b hi hb;obtain⟨j,n,V⟩:=pD (dJ hb);have e:=g j b n V;exact⟨m,I,⟨c,el,by rw[e]; exact M,N⟩,O,d,q rows (dJ hi) b e d U⟩
def fv (es:List (AV × (Option (List (List AV)) × Option (List (List AV))) × Nat)):List (AV × AV × Nat):=es.map fun x=>(x.1,.undef,x.2.2)
theorem W1 (es:List (AV × (Option (List (List AV)) × Option (List (List AV))) × Nat)):(fv es).length=es.length:=by simp[fv]
def fX(s:Bool) (x:AV × (Option (List (List AV)) × Option (List (List AV))) × Nat):AV × Option (List (List AV)) × Nat:=(x.1,(bif s then x.2.1.2 else x.2.1.1),x.2.2)
def pE(s:Bool):Value->Value
 |.agg cs=>(cs[bif s then 1 else 0]?).getD default
 |v=>v
def nt(E:Env)(l k:Nat) (es:List (AV × (Option (List (List AV)) × Option (List (List AV))) × Nat)) (ms:List MapEntry):Prop :=
 (∀ e∈ms,∃ a b,e.val=.agg #[a,b]/\dm a=true/\dm b=true) /\
 ∃ d:Bool->Nat->Nat,(∀ s s' (i j:Nat) x y,es[i]? = some x->es[j]? = some y->(fX s x).2.1.isSome=true->(fX s' y).2.1.isSome=true->d s i=d s' j->s=s'/\i=j) /\
  ∀ s (i:Nat) x rows e,es[i]? = some x->(fX s x).2.1=some rows->ms[i]? = some e->Ax E l k rows (d s i) (pE s e.val)
theorem Az{E E':Env}{l k:Nat}{es:List (AV × (Option (List (List AV)) × Option (List (List AV))) × Nat)}{ms:List MapEntry} (v:∀(h b m:Nat),(E.X.r l)[h]? = some (some (some (b,m)))->(E'.X.r l)[h]? = some (some (some (b,m)))/\E'.w.heap[b]? = E.w.heap[b]?)
  (y:∀ s (i:Nat) x rows,es[i]? = some x->(fX s x).2.1=some rows->∀ b,E'.w.heap[b]? = E.w.heap[b]? -> eD rows->cy E k rows b 0->cy E' k rows b 0) (hr:nt E l k es ms):nt E' l k es ms:=by
 obtain⟨u,g,h1,I⟩:=hr;exact⟨u,g,h1,fun s i x rows e q d he=>Lz (v (g s i)) (y s i x rows q d) (I s i x rows e q d he)⟩
def aI(E:Env)(id:Nat):ab->Prop
 |.dead=>E.loc[id]? = some none
 |.eP=>E.loc[id]? = some none
 |.box cells=>∃ b n,E.loc[id]? = some (some (b,n))/\isRow E.w b cells.length/\cu E cells b 0
 | .vec k _ rows=>(E.loc[id]? = some none/\rows=[]) \/
   ∃ b m,E.loc[id]? = some (some (b,m))/\isRow E.w b (m*k)/\rows.length<=m/\eD rows/\cy E k rows b 0
 |.map es clock=>∃ b n ms,E.loc[id]? = some (some (b,n))/\E.w.heap[b]? = some (.map ms clock)/\bt E es ms.toList
 |.iter s pos=>∃ b n,E.loc[id]? = some (some (b,n))/\E.w.heap[b]? = some (.stringIter s pos)
 | .fN l T B s=>∃ (b n:Nat) (p v:Value) (h:Nat) (q:Option (Nat × Nat)),E.loc[id]? = some (some (b,n))/\E.w.heap[b]? = some (.cells #[p,v] T (0,0))/\(p=.pointer none\/p=.pointer (some ⟨b,0,none⟩))/\(E.X.r l)[h]? = some (some q) /\
   (∀(h':Nat) g,(E.X.r l)[h']? = some (some g)->h'=h)/\En E.w B s v q
 |.aJ l k es clock=>∃ b n ms,E.loc[id]? = some (some (b,n))/\E.w.heap[b]? = some (.map ms clock)/\bt E (cL es) ms.toList/\jP E l k es ms.toList
 |.mm l es ms clock=>∃ b n d,E.loc[id]? = some (some (b,n))/\E.w.heap[b]? = some (.map d clock)/\bt E (gk es) d.toList/\Ay E l es ms d.toList
 |.b_ l k n ms=>∃ b m cs el,E.loc[id]? = some (some (b,m))/\E.w.heap[b]? = some (.cells cs el (0,0))/\Es E l k n ms cs.toList
 |.bp l k es clock=>∃ b n ms,E.loc[id]? = some (some (b,n))/\E.w.heap[b]? = some (.map ms clock)/\bt E (fv es) ms.toList/\nt E l k es ms.toList
def rj(E:Env):Prop:=∀ p∈wQ,E.jN p.1/\∃ t f,E.w.heap[p.1]? = some (.cells p.2 t f)
theorem rj.bE{E E':Env}(H:rj E)(h:E.bE E'):rj E':=fun p d=>by
 obtain⟨h1,t,f,g⟩:=H p d;exact⟨(h.ok _ h1).1,t,f,by rw[(h.ok _ h1).2]; exact g⟩
structure al (E:Env):Prop where
 len:E.loc.length=E.H.length
 inj:∀(i j b m n:Nat),E.loc[i]? = some (some (b,m))->E.loc[j]? = some (some (b,n))->i=j
 lt:∀(i b m:Nat),E.loc[i]? = some (some (b,m))->b<E.w.heap.size/\¬ E.X b
 X:∀ b,E.X b->b<E.w.heap.size
 obj:∀(i:Nat) o,E.H[i]? = some o->aI E i o
 fY:rj E
 ff:∀(l h l' h' b m n:Nat),(E.X.r l)[h]? = some (some (some (b,m)))->(E.X.r l')[h']? = some (some (some (b,n)))->l=l'/\h=h'
 cQ:∀(i b m l h n:Nat),E.loc[i]? = some (some (b,m))->(E.X.r l)[h]? ≠ some (some (some (b,n)))
 cr:∀(l h b m:Nat),(E.X.r l)[h]? = some (some (some (b,m)))->b<E.w.heap.size/\¬ E.X b
 uniq:∀(i j:Nat) o o' (l:Nat),E.H[i]? = some o->E.H[j]? = some o'->o.label=some l->o'.label=some l->i=j
 gR:∀(l:Nat),(∀(i:Nat) o,E.H[i]? = some o->o.label≠some l)->∀(h:Nat) q,(E.X.r l)[h]? ≠ some (some q)
theorem al.Eu{E:Env}(H:al E){b:Nat}(d:E.X b):¬ E.own b:=by
 rintro(⟨i,c,hi⟩|⟨l,h,m,hi⟩)
 ·exact(H.lt i b c hi).2 d
 ·exact(H.cr l h b m hi).2 d
theorem al.AA{E:Env}(H:al E){b:Nat}(ho:E.own b):b<E.w.heap.size/\¬ E.X b:=by
 rcases ho with⟨i,c,hi⟩|⟨l,h,m,hi⟩
 ·exact H.lt i b c hi
 ·exact H.cr l h b m hi
structure Ext (w w':World):Prop where
 size:w.heap.size<=w'.heap.size
 same:∀ b,b<w.heap.size->w'.heap[b]? = w.heap[b]?
 env:eE w w'
theorem Ext.refl(w:World):Ext w w:=⟨aB _,fun _ _=>rfl,⟨rfl,rfl,rfl,by first|exact fun _=>aB _|exact fun _=>fV _ _⟩⟩
theorem Ext.trans{w w' d:World}(h:Ext w w')(h':Ext w' d):Ext w d :=
 ⟨lD h.size h'.size,fun b hb=>by rw[h'.same b (dM hb h.size),h.same b hb],h.env.trans h'.env⟩
theorem Ext.push(w:World)(o:Obj):Ext w { w with heap:=w.heap.push o } :=
 ⟨by simp,fun b hb=>by simp[Wd,alB hb],⟨rfl,rfl,rfl,by first|exact fun _=>aB _|exact fun _=>fV _ _⟩⟩
theorem Ext.drawn(w:World)(n:Nat)(h:w.drawn<=n:=by exact Nat.le_succ _):Ext w { w with drawn:=n }:=⟨aB _,fun _ _=>rfl,⟨rfl,rfl,rfl,fun _=>h⟩⟩
theorem Env.kl{E:Env}{w':World}(h:Ext E.w w'):E.le { E with w:=w' } where
 past:=fun _ _ h=>h
 size:=h.size
 same:=fun b hb _=>h.same b hb
 own:=fun _ _ ho=>ho
 live:=fun _ _ _ d=>⟨d,rfl⟩
 X:=⟨rfl,rfl⟩
 rl:=fun _ _ h=>⟨h,fun _ g=>g⟩
 env:=h.env
 grow:=fun _ _ o h1 k _=>⟨⟨[],(cB _).symm⟩,o,h1,k⟩
theorem tx{w w':World}{b n:Nat}(h:w'.heap[b]? = w.heap[b]?)(hr:isRow w b n):isRow w' b n:=by
 unfold isRow at *; rw[h]; exact hr
theorem AB{E E':Env}{b:Nat}(d:∀ a c,rel E a c->rel E' a c)(hb:E'.w.heap[b]? = E.w.heap[b]?){as:List AV}{o:Nat}
  (h:cu E as b o):cu E' as b o:=by
 rw[jo]at *;intro i a hi;obtain⟨v,h1,g,k⟩:=h i a hi;exact⟨v,by rw[World.tv hb]; exact h1,g,d _ _ k⟩
theorem fO{E E':Env}{b k:Nat}(d:∀ a c,rel E a c->rel E' a c)(hb:E'.w.heap[b]? = E.w.heap[b]?){rs:List (List AV)}{o:Nat}
  (h:cy E k rs b o):cy E' k rs b o:=by
 rw[mD]at *;intro i r hi;exact⟨(h i r hi).1,AB d hb (h i r hi).2⟩
theorem fw{E E':Env}(d:∀ a c,rel E a c->rel E' a c):∀{es:List (AV × AV × Nat)} {ms:List MapEntry},bt E es ms->bt E' es ms
 | [],[],_=>by simp[bt]
 | [],_::_,h=>by simp[bt]at h
 |(_,_,_)::_,[],h=>by simp[bt]at h
 | (k,v,n)::es,e::ms,h=>by
  simp only[bt]at h|-;exact⟨d _ _ h.1,d _ _ h.2.1,h.2.2.1,h.2.2.2.1,h.2.2.2.2.1,fw d h.2.2.2.2.2⟩
theorem lK{E E':Env}{i:Nat}{o:ab}(I:∀ a c,rel E a c->rel E' a c)(y:E'.loc[i]? = E.loc[i]?)
  (hb:∀ b n,E.loc[i]? = some (some (b,n))->E'.w.heap[b]? = E.w.heap[b]?)
  (O:∀ l,o.label=some l->E'.X.r l=E.X.r l/\∀(h g m:Nat),(E.X.r l)[h]? = some (some (some (g,m)))->E'.w.heap[g]? = E.w.heap[g]?) (h:aI E i o):aI E' i o:=by
 cases o with
 |dead=>simp only[aI]at *; rw[y]; exact h
 |eP=>simp only[aI]at *; rw[y]; exact h
 | box cells =>
  simp only[aI]at *;obtain⟨b,n,h1,d,u⟩:=h;exact⟨b,n,by rw[y,h1],tx (hb b n h1) d,AB I (hb b n h1) u⟩
 | vec k ver rows =>
  simp only[aI]at *;rcases h with⟨h1,d⟩|⟨b,m,h1,d,u,M,U⟩
  ·exact .inl ⟨by rw[y,h1],d⟩
  ·exact .inr ⟨b,m,by rw[y,h1],tx (hb b m h1) d,u,M,fO I (hb b m h1) U⟩
 | map es clock =>
  simp only[aI]at *;obtain⟨b,n,ms,h1,d,u⟩:=h;exact⟨b,n,ms,by rw[y,h1],by rw[hb b n h1,d],fw I u⟩
 | iter s pos =>
  simp only[aI]at *;obtain⟨b,n,h1,d⟩:=h;exact⟨b,n,by rw[y,h1],by rw[hb b n h1,d]⟩
 | fN l T B s =>
  simp only[aI]at *;obtain⟨b,n,p,v,k,q,h1,d,u,M,U,W⟩:=h;obtain⟨g1,g2⟩:=O l rfl;exact⟨b,n,p,v,k,q,by rw[y,h1],by rw[hb b n h1,d],u,by rw[g1,M],by rw[g1]; exact U,Eo (fun g m e=>g2 k g m (by rw[M,e])) W⟩
 | aJ l k es clock =>
  simp only[aI]at *;obtain⟨b,n,ms,h1,d,u,M⟩:=h;obtain⟨g1,g2⟩:=O l rfl;exact⟨b,n,ms,by rw[y,h1],by rw[hb b n h1,d],fw I u,wT (fun h g m hk=>⟨by rw[g1]; exact hk,g2 h g m hk⟩) (fun _ _ _ _ _ b N _ hr=>fO I N hr) M⟩
 | mm l es ms clock =>
  simp only[aI]at *;obtain⟨b,n,V,h1,d,u,M⟩:=h;obtain⟨g1,g2⟩:=O l rfl;exact⟨b,n,V,by rw[y,h1],by rw[hb b n h1,d],fw I u,Er g1 g2 (fun _ _ _=>fw I) M⟩
 | b_ l k n ms =>
  simp only[aI]at *;obtain⟨b,m,cs,el,h1,d,u⟩:=h;obtain⟨g1,g2⟩:=O l rfl;exact⟨b,m,cs,el,by rw[y,h1],by rw[hb b m h1,d],Et g1 g2 (fun _ _ b N _ hr=>fO I N hr) u⟩
 | bp l k es clock =>
  simp only[aI]at *;obtain⟨b,n,ms,h1,d,u,M⟩:=h;obtain⟨g1,g2⟩:=O l rfl;exact⟨b,n,ms,by rw[y,h1],by rw[hb b n h1,d],fw I u,Az (fun h g m hk=>⟨by rw[g1]; exact hk,g2 h g m hk⟩) (fun _ _ _ _ _ _ b N _ hr=>fO I N hr) M⟩
theorem al.ext{E:Env}{w':World}(H:al E)(h:Ext E.w w'):al { E with w:=w' } where
 len:=H.len
 inj:=H.inj
 lt:=fun i b m hi=>⟨dM (H.lt i b m hi).1 h.size,(H.lt i b m hi).2⟩
 X:=fun b hb=>dM (H.X b hb) h.size
 obj:=fun i o hi=>lK (fun a _ hr=>bg (Env.kl h) a hr) rfl (fun b n hb=>h.same b (H.lt i b n hb).1) (fun l _=>⟨rfl,fun k g m hk=>h.same g (H.cr l k g m hk).1⟩) (H.obj i o hi)
 fY:=H.fY.bE (Env.kl h).toC
 ff:=H.ff
 cQ:=H.cQ
 cr:=fun l k b m hk=>⟨dM (H.cr l k b m hk).1 h.size,(H.cr l k b m hk).2⟩
 uniq:=H.uniq
 gR:=H.gR
def Env.push(E:Env)(w':World)(o:ab)(l:Option (Nat × Nat)):Env:={ w:=w',H:=E.H++[o],loc:=E.loc++[l],X:=E.X }
theorem aG{α:Type}{l:List α}{i:Nat}{x:α}(h:l[i]? = some x):i<l.length:=by
 rcases kU i l.length with h'|h'
 ·exact h'
 ·rw[nh h']at h; cases h
theorem ami{α:Type}(l:List α)(x:α)(i:Nat)(h:i<l.length):(l++[x])[i]? = l[i]? := by
 rw[cK h]
theorem Env.k9{E:Env}{w':World}{o:ab}{l:Option (Nat × Nat)}(v:E.loc.length=E.H.length)(h:Ext E.w w')
  (hb:∀ b n,l=some (b,n)->E.w.heap.size<=b):E.le (E.push w' o l) where
 past:=fun id ver g=>by
  obtain⟨x,h1,d⟩:=g;exact⟨x,by simp only[Env.push]; rw[cK (aG h1)]; exact h1,d⟩
 size:=h.size
 same:=fun b hb _=>h.same b hb
 own:=fun b u ho=>by
  rintro(⟨id,c,hid⟩|k)
  case inr=>exact ho (.inr k)
  simp only[Env.push]at hid;by_cases hi:id<E.loc.length
  ·rw [cK hi] at hid
   exact ho (.inl ⟨id,c,hid⟩)
  ·rw [iJ (by omega)] at hid
   cases hk:id-E.loc.length with
   | zero =>
    rw[hk]at hid;simp at hid;have:=hb b c hid;omega
   |succ n=>rw[hk]at hid; simp at hid
 live:=fun id ver g=>by
  obtain⟨x,h1,d⟩:=g;have hid:=aG h1;simp only[Env.live,Env.push];rw[cK hid,cK (by omega)];exact fun h=>⟨h,rfl⟩
 X:=⟨rfl,rfl⟩
 grow:=fun id l o h1 d _=>⟨⟨[],(cB _).symm⟩,o,by simp only[Env.push]; rw[cK (aG h1)]; exact h1,d⟩
 rl:=fun _ _ h=>⟨h,fun _ q=>q⟩
 env:=h.env
theorem al.push{E:Env}{w':World}{o:ab}{l:Option (Nat × Nat)}(H:al E)(h:Ext E.w w')
  (hb:∀ b n,l=some (b,n)->E.w.heap.size<=b/\b<w'.heap.size) (ho:aI (E.push w' o l) E.H.length o) (hlab:o.label=none:=by first|rfl|assumption):al (E.push w' o l) where
 ff:=H.ff
 cr:=fun l k b m hk=>⟨dM (H.cr l k b m hk).1 h.size,(H.cr l k b m hk).2⟩
 cQ:=by
  intro i b m l' k n hi hk;simp only[Env.push,fE]at hi;split at hi
  ·exact H.cQ i b m l' k n hi hk
  ·rename_i h1
   cases y:i-E.loc.length with
   | zero =>
    rw[y]at hi;simp at hi;have M:=hb b m hi;have U:=(H.cr l' k b n hk).1;omega
   |succ n=>rw[y]at hi; simp at hi
 uniq:=by
  have key:∀(i:Nat) o1 q,(E.push w' o l).H[i]? = some o1->o1.label=some q->E.H[i]? = some o1:=by
   intro i o1 q hi N;simp only[Env.push,fE]at hi;split at hi
   ·exact hi
   ·cases y : i - E.H.length with
    | zero =>
     rw[y]at hi;simp at hi;subst hi;rw[hlab]at N;cases N
    |succ n=>rw[y]at hi; simp at hi
  exact fun i j o1 o2 q hi d h1 I=>H.uniq i j o1 o2 q (key i o1 q hi h1) (key j o2 q d I) h1 I
 gR:=fun q V=>H.gR q fun i o1 hi=>V i o1 (by
  simp only[Env.push];rw[cK (aG hi)];exact hi)
 fY:=H.fY.bE (Env.k9 H.len h (fun b n e=>(hb b n e).1)).toC
 len:=by simp[Env.push,H.len]
 inj:=by
  intro i j b m n hi d;simp only[Env.push,fE]at hi d;split at hi<;>split at d
  ·exact H.inj i j b m n hi d
  ·rename_i h1 I
   cases hk:j-E.loc.length with
   | zero =>
    rw[hk]at d;simp at d;have M:=hb b n d;have U:=(H.lt i b m hi).1;omega
   |succ n=>rw[hk]at d; simp at d
  ·rename_i h1 I
   cases hk:i-E.loc.length with
   | zero =>
    rw[hk]at hi;simp at hi;have M:=hb b m hi;have U:=(H.lt j b n d).1;omega
   |succ n=>rw[hk]at hi; simp at hi
  ·rename_i h1 I
   have e1:i-E.loc.length=0:=by
    cases hk:i-E.loc.length with
    |zero=>rfl
    |succ n=>rw[hk]at hi; simp at hi
   have e2:j-E.loc.length=0:=by
    cases hk:j-E.loc.length with
    |zero=>rfl
    |succ n=>rw[hk]at d; simp at d
   omega
 lt:=by
  intro i b m hi;simp only[Env.push,fE]at hi|-;split at hi
  ·exact⟨dM (H.lt i b m hi).1 h.size,(H.lt i b m hi).2⟩
  ·cases hk : i - E.loc.length with
   | zero =>
    rw[hk]at hi;simp at hi;have M:=hb b m hi;exact⟨M.2,fun W=>by have:=H.X b W; omega⟩
   |succ n=>rw[hk]at hi; simp at hi
 X:=fun b v=>dM (H.X b v) h.size
 obj:=by
  intro i o' hi;have hle:E.le (E.push w' o l):=Env.k9 H.len h (fun b n v=>(hb b n v).1);by_cases O:i<E.H.length
  ·simp only [Env.push] at hi
   rw[cK O]at hi;refine lK (fun a _ hr=>bg hle a hr) ?_ ?_ ?_ (H.obj i o' hi)
   ·simp only [Env.push]
    rw[cK (by rw[H.len]; exact O)]
   ·intro b n v
    exact h.same b (H.lt i b n v).1
   ·exact fun q _=>⟨rfl,fun k g m hk=>h.same g (H.cr q k g m hk).1⟩
  ·have u := hi
   simp only[Env.push]at u;rw[iJ (by omega)]at u;cases hk:i-E.H.length with
   | zero =>
    rw[hk]at u;simp at u;have:i=E.H.length:=by omega
    rw[this,<-u];exact ho
   |succ n=>rw[hk]at u; simp at u
theorem Env.k_{E:Env}{w':World}{id:Nat}{o o':ab}{l:Option (Nat × Nat)}(hid:E.H[id]? = some o)
  (hlen:E.loc.length=E.H.length) (N:E.w.heap.size<=w'.heap.size)
  (O:∀ x,x<E.w.heap.size->(∀ n,E.loc[id]? ≠ some (some (x,n)))->w'.heap[x]? = E.w.heap[x]?)
  (hl:∀ b n,l=some (b,n)->E.w.heap.size<=b\/∃ m,E.loc[id]? = some (some (b,m)))
  (V:(∀ v,o'.aF = some v->o.aF = some v/\E.loc[id]? = some l)\/(∀ v,o'.aF = some v->∀ u,o.aF = some u->u<v))
  (hup:∀ v u,o'.aF = some v->o.aF = some u->u<=v) (M:o.born=true->o.aF = none->o'.aF = none) (W:eE E.w w':=by first|exact⟨rfl,rfl,rfl,by first|exact fun _=>aB _|exact fun _=>fV _ _⟩|assumption|exact Ext.env (by assumption))
  (hmm:o.dc=none\/o'.dc=o.dc\/o'.aF = none:=by first|exact .inl rfl|exact .inr (.inl rfl)|exact .inr (.inr rfl)|exact .inl (ab.Aw (by assumption))|assumption)
  (U:o.born=true->o'.born=true:=by first|exact fun _=>rfl|exact fun h=>h|assumption) :
  E.le { w:=w',H:=E.H.set id o',loc:=E.loc.set id l,X:=E.X } where
 grow:=fun i l1 x h1 d g=>by
  by_cases e:i=id
  ·subst e
   rw[hid]at h1;cases h1;rcases hmm with h|h|h
   ·rw[h]at d; cases d
   ·exact⟨⟨[],(cB _).symm⟩,o',by simp only[]; rw[bf (aG hid)],by rw[h]; exact d⟩
   ·obtain ⟨y, k, q⟩ := g
    simp only[]at k;rw[bf (aG hid)]at k;cases k;rw[h]at q;cases q
  ·exact⟨⟨[],(cB _).symm⟩,x,by simp only[]; rw[aQ (Ne.symm e)]; exact h1,d⟩
 past:=fun i ver I=>by
  obtain⟨x,h1,d⟩:=I;by_cases e:i=id
  ·subst e
   rw[hid]at h1;cases h1;refine⟨o',by simp only[]; rw[bf (aG hid)],U d.1,fun v g=>?_⟩;cases hu:o.aF with
   |none=>rw[M d.1 hu]at g; cases g
   |some u=>exact lD (d.2 u hu) (hup v u g hu)
  ·exact⟨x,by simp only[]; rw[aQ (Ne.symm e)]; exact h1,d⟩
 size:=N
 same:=fun x hx ho=>O x hx (fun n hn=>ho (.inl ⟨id,n,hn⟩))
 own:=fun b hlt ho=>by
  rintro(⟨i,c,hi⟩|hs)
  case inr=>exact ho (.inr hs)
  simp only[dv]at hi;split at hi
  ·split at hi
   ·simp at hi
    rcases hl b c hi with h|⟨m,hm⟩
    ·omega
    ·exact ho (.inl ⟨id,m,hm⟩)
   ·cases hi
  ·exact ho (.inl ⟨i,c,hi⟩)
 live:=fun i ver I hl'=>by
  obtain⟨x,h1,d⟩:=hl';by_cases e:i=id
  ·subst e
   simp only[]at h1;rw[bf (aG hid)]at h1;cases h1;rcases V with g|g
   ·obtain ⟨a1, a2⟩ := g ver d
    refine⟨⟨o,hid,a1⟩,?_⟩;simp only[];rw[bf (by rw[hlen]; exact aG hid),a2]
   ·obtain ⟨y, k, q⟩ := I
    rw[hid]at k;cases k;cases hu:o.aF with
    |none=>rw[M q.1 hu]at d; cases d
    |some u=>have:=g ver d u hu; have:=q.2 u hu; omega
  ·simp only [] at h1 |-
   rw[aQ (Ne.symm e)]at h1;rw[aQ (Ne.symm e)];exact⟨⟨x,h1,d⟩,rfl⟩
 X:=⟨rfl,rfl⟩
 rl:=fun _ _ h=>⟨h,fun _ hq=>hq⟩
 env:=W
theorem al.mE{E:Env}{w':World}{id:Nat}{o o':ab}{l:Option (Nat × Nat)}(H:al E)(hid:E.H[id]? = some o)
  (I:E.w.heap.size<=w'.heap.size)
  (N:∀ x,x<E.w.heap.size->(∀ n,E.loc[id]? ≠ some (some (x,n)))->w'.heap[x]? = E.w.heap[x]?)
  (M:∀ b n,l=some (b,n)->(E.w.heap.size<=b/\b<w'.heap.size)\/∃ m,E.loc[id]? = some (some (b,m)))
  (W:(∀ v,o'.aF = some v->o.aF = some v/\E.loc[id]? = some l)\/(∀ v,o'.aF = some v->∀ u,o.aF = some u->u<v))
  (hup:∀ v u,o'.aF = some v->o.aF = some u->u<=v) (V:o.born=true->o.aF = none->o'.aF = none)
  (ho:aI { w:=w',H:=E.H.set id o',loc:=E.loc.set id l,X:=E.X } id o') (henv:eE E.w w':=by first|exact⟨rfl,rfl,rfl,by first|exact fun _=>aB _|exact fun _=>fV _ _⟩|assumption|exact Ext.env (by assumption))
  (hlab:o.label=none:=by first|rfl|assumption) (hlab':o'.label=none:=by first|rfl|assumption)
  (hborn:o.born=true->o'.born=true:=by first|exact fun _=>rfl|exact fun h=>h|assumption) :
  al { w:=w',H:=E.H.set id o',loc:=E.loc.set id l,X:=E.X } where
 ff:=H.ff
 cr:=fun l k b m hk=>⟨dM (H.cr l k b m hk).1 I,(H.cr l k b m hk).2⟩
 cQ:=by
  intro i b m l' k n hi hk;simp only[dv]at hi;split at hi
  ·split at hi
   ·simp at hi
    rcases M b m hi with h|⟨m',y⟩
    ·have:=(H.cr l' k b n hk).1; omega
    ·exact H.cQ _ _ _ _ _ _ y hk
   ·cases hi
  ·exact H.cQ _ _ _ _ _ _ hi hk
 uniq:=by
  have key:∀(i:Nat) o1 q,(E.H.set id o')[i]? = some o1->o1.label=some q->E.H[i]? = some o1:=by
   intro i o1 q hi hl1;rw[dv]at hi;split at hi
   ·split at hi
    ·cases hi
     rw[hlab']at hl1;cases hl1
    ·cases hi
   ·exact hi
  exact fun i j o1 o2 q hi d h1 h2=>H.uniq i j o1 o2 q (key i o1 q hi h1) (key j o2 q d h2) h1 h2
 gR:=fun q U=>H.gR q fun i o1 hi=>by
  by_cases e:i=id
  ·subst e
   rw[hid]at hi;cases hi;rw[hlab];exact fun h=>by cases h
  ·exact U i o1 (by show (E.H.set id o')[i]? = _; rw[aQ (Ne.symm e)]; exact hi)
 fY:=H.fY.bE (Env.k_ hid H.len I N (fun b n hb=>(M b n hb).imp (fun h=>h.1) (fun h=>h)) W hup V henv).toC
 len:=by simp[H.len]
 inj:=by
  intro i j b m n hi d;simp only[dv]at hi d;split at hi
  ·rename_i e1
   split at d
   ·rename_i e2; omega
   ·split at hi
    ·simp at hi
     rcases M b m hi with h|⟨m',y⟩
     ·have:=(H.lt j b n d).1; omega
     ·rw[<-e1]; exact H.inj _ _ _ _ _ y d
    ·cases hi
  ·split at d
   ·rename_i e2
    split at d
    ·simp at d
     rcases M b n d with h|⟨m',y⟩
     ·have:=(H.lt i b m hi).1; omega
     ·rw[<-e2]; exact H.inj _ _ _ _ _ hi y
    ·cases d
   ·exact H.inj i j b m n hi d
 lt:=by
  intro i b m hi;simp only[dv]at hi;split at hi
  ·split at hi
   ·simp at hi
    rcases M b m hi with h|⟨m',y⟩
    ·exact⟨h.2,fun hx=>by have:=H.X b hx; omega⟩
    ·exact⟨dM (H.lt _ _ _ y).1 I,(H.lt _ _ _ y).2⟩
   ·cases hi
  ·exact⟨dM (H.lt i b m hi).1 I,(H.lt i b m hi).2⟩
 X:=fun b hb=>dM (H.X b hb) I
 obj:=by
  intro i x hi;by_cases e:i=id
  ·subst e
   simp only[]at hi;rw[bf (aG hid)]at hi;cases hi;exact ho
  ·have O := hi
   simp only[]at O;rw[aQ (Ne.symm e)]at O;have hle:E.le { w:=w',H:=E.H.set id o',loc:=E.loc.set id l,X:=E.X } :=
    Env.k_ hid H.len I N (fun b n hb=>(M b n hb).imp (fun h=>h.1) (fun h=>h)) W hup V henv
   refine lK (fun a _ hr=>bg hle a hr) ?_ ?_ ?_ (H.obj i x O)
   ·simp only []
    rw[aQ (Ne.symm e)]
   ·intro b n hb
    exact N b (H.lt i b n hb).1 (fun m hm=>e (H.inj i id b n m hb hm))
   ·exact fun q _=>⟨rfl,fun k g m hk=>N g (H.cr q k g m hk).1 (fun n U=>H.cQ id g n q k m U hk)⟩
theorem al.tz{E:Env}{w':World}{id l0:Nat}{o o':ab}{r':Nat->List (Option (Option (Nat × Nat)))}(H:al E)(hid:E.H[id]? = some o)(hlab:o.label=some l0)(W:o'.label=some l0)(hver:o'.aF = o.aF)
  (V:E.w.heap.size<=w'.heap.size)
  (hsame:∀ x,x<E.w.heap.size->(∀ n,E.loc[id]? ≠ some (some (x,n)))->(∀(h m:Nat),(E.X.r l0)[h]? ≠ some (some (some (x,m))))->w'.heap[x]? = E.w.heap[x]?)
  (hr:∀ l,l≠l0->r' l=E.X.r l)
  (hnew:∀(h b m:Nat),(r' l0)[h]? = some (some (some (b,m)))->(E.X.r l0)[h]? = some (some (some (b,m)))\/(E.w.heap.size<=b/\b<w'.heap.size/\∀(h' m':Nat),(r' l0)[h']? = some (some (some (b,m')))->h'=h))
  (hrl:∀(h:Nat),h<(E.X.r l0).length->h<(r' l0).length/\∀ q,(r' l0)[h]? = some (some q)->(E.X.r l0)[h]? = some (some q))
  (ho:E.le { w:=w',H:=E.H.set id o',loc:=E.loc,X:=E.X.re r' }->aI { w:=w',H:=E.H.set id o',loc:=E.loc,X:=E.X.re r' } id o') (henv:eE E.w w') (hmm:o.dc=none\/(o'.dc=o.dc/\∃ t,r' l0=E.X.r l0++t):=by first|exact .inl rfl|assumption) :
  al { w:=w',H:=E.H.set id o',loc:=E.loc,X:=E.X.re r' }/\E.le { w:=w',H:=E.H.set id o',loc:=E.loc,X:=E.X.re r' }:=by
 have M:=aG hid;have O:∀(l h b m:Nat),(r' l)[h]? = some (some (some (b,m)))->(E.X.r l)[h]? = some (some (some (b,m)))\/(l=l0/\E.w.heap.size<=b/\b<w'.heap.size/\∀(h' m':Nat),(r' l0)[h']? = some (some (some (b,m')))->h'=h):=fun l h b m hk=>by
  by_cases e:l=l0
  ·subst e
   rcases hnew h b m hk with h1|⟨h1,d,h3⟩
   ·exact .inl h1
   ·exact .inr ⟨rfl,h1,d,h3⟩
  ·rw [hr l e] at hk
   exact .inl hk
 have hle:E.le { w:=w',H:=E.H.set id o',loc:=E.loc,X:=E.X.re r' }:=by
  refine⟨fun i ver hp=>?_,V,fun x hx hx'=>hsame x hx (fun n N=>hx' (.inl ⟨id,n,N⟩)) fun h m hm=>hx' (.inr ⟨l0,h,m,hm⟩),fun b hb hno=>?_,fun i ver hp k=>?_,⟨rfl,rfl⟩,fun l h hh=>?_,henv,fun i l x h1 d hv=>?_⟩
  rotate_right
  ·by_cases e : i = id
   ·subst e
    rw[hid]at h1;cases h1;have u:l0=l:=by
     have:=ab.mz d;rw[hlab]at this;cases this;rfl
    subst u;rcases hmm with h|⟨h,ht⟩
    ·rw[h]at d; cases d
    ·exact⟨ht,o',by simp only[]; rw[bf M],by rw[h]; exact d⟩
   ·have u : l ≠ l0 := fun u => e (H.uniq i id x o l h1 hid (ab.mz d) (by rw [u]; exact hlab))
    exact⟨⟨[],by rw[cB]; exact hr l u⟩,x,by simp only[]; rw[aQ (Ne.symm e)]; exact h1,d⟩
  ·obtain ⟨x, h1, d⟩ := hp
   by_cases e:i=id
   ·subst e
    rw[hid]at h1;cases h1;exact⟨o',by simp only[]; rw[bf M],ab.Av W,fun v hv=>d.2 v (by rw[<-hver]; exact hv)⟩
   ·exact⟨x,by simp only[]; rw[aQ (Ne.symm e)]; exact h1,d⟩
  ·rintro (⟨i, c, hi⟩ | ⟨l, h, m, hm⟩)
   ·exact hno (.inl ⟨i,c,hi⟩)
   ·rcases O l h b m hm with h1 | ⟨_, h1, _⟩
    ·exact hno (.inr ⟨l,h,m,h1⟩)
    ·omega
  ·obtain ⟨x, h1, d⟩ := k
   refine⟨?_,rfl⟩;simp only[]at h1;by_cases e:i=id
   ·subst e
    rw[bf M]at h1;cases h1;exact⟨o,hid,by rw[<-hver]; exact d⟩
   ·rw [aQ (Ne.symm e)] at h1
    exact⟨x,h1,d⟩
  ·by_cases e : l = l0
   ·subst e
    exact hrl h hh
   ·show h < (r' l).length /\ _
    rw[hr l e];exact⟨hh,fun _ I=>(by rw[show ({ w:=w',H:=E.H.set id o',loc:=E.loc,X:=E.X.re r' }:Env).X.r l=E.X.r l from hr l e]at I; exact I)⟩
 refine⟨⟨by simp[H.len],H.inj,fun i b m hi=>⟨dM (H.lt i b m hi).1 V,(H.lt i b m hi).2⟩,fun b hb=>dM (H.X b hb) V,fun i x hi=>?_,H.fY.bE hle.toC,fun l h l' h' b m n h1 d=>?_,fun i b m l h n hi hk=>?_,fun l h b m hk=>?_,fun i j x y l hi hj h1 d=>?_,fun l N h q I=>?_⟩,hle⟩
 ·by_cases e : i = id
  ·subst e
   simp only[]at hi;rw[bf M]at hi;cases hi;exact ho hle
  ·simp only [] at hi
   rw[aQ (Ne.symm e)]at hi;refine lK (fun a _ hr=>bg hle a hr) rfl (fun b n hb=>hsame b (H.lt i b n hb).1 (fun m hm=>e (H.inj i id b n m hb hm)) fun h m hm=>H.cQ i b n l0 h m hb hm) (fun l k=>?_) (H.obj i x hi);have U:l≠l0:=fun u=>e (H.uniq i id x o l hi hid k (by rw[hlab,u]));exact⟨hr l U,fun h g m hk=>hsame g (H.cr l h g m hk).1 (fun n N=>H.cQ id g n l h m N hk) fun h' m' hk'=>U (H.ff l h l0 h' g m m' hk hk').1⟩
 ·rcases O l h b m h1 with g1 | ⟨rfl, g1, g2, g3⟩ <;> rcases O l' h' b n d with k1 | ⟨rfl, k1, k2, k3⟩
  ·exact H.ff _ _ _ _ _ _ _ g1 k1
  ·have:=(H.cr _ _ _ _ g1).1; omega
  ·have:=(H.cr _ _ _ _ k1).1; omega
  ·exact⟨rfl,(g3 h' n d).symm⟩
 ·rcases O l h b n hk with g1 | ⟨rfl, g1, g2, g3⟩
  ·exact H.cQ _ _ _ _ _ _ hi g1
  ·have:=(H.lt i b m hi).1; omega
 ·rcases O l h b m hk with g1 | ⟨rfl, g1, g2, g3⟩
  ·exact⟨dM (H.cr _ _ _ _ g1).1 V,(H.cr _ _ _ _ g1).2⟩
  ·exact⟨g2,fun hx=>by have:=H.X b hx; omega⟩
 ·have key:∀ (i:Nat) x,(E.H.set id o')[i]? = some x->x.label=some l->∃ y,E.H[i]? = some y/\y.label=some l:=by
   intro i x hi k;by_cases e:i=id
   ·subst e
    rw[bf M]at hi;cases hi;exact⟨o,hid,by rw[hlab,<-W,k]⟩
   ·rw [aQ (Ne.symm e)] at hi
    exact⟨x,hi,k⟩
  obtain⟨x',a1,a2⟩:=key i x hi h1;obtain⟨y',b1,b2⟩:=key j y hj d;exact H.uniq i j x' y' l a1 b1 a2 b2
 ·have U : l ≠ l0 := fun e => N id o' (by show (E.H.set id o')[id]? = _; rw [bf M]) (by rw [W, e])
  have I:(r' l)[h]? = some (some q):=I;rw[hr l U]at I;refine H.gR l (fun i x hi k=>?_) h q I;by_cases e:i=id
  ·subst e
   rw[hid]at hi;cases hi;exact U (by rw[hlab]at k; cases k; rfl)
  ·exact N i x (by show (E.H.set id o')[i]? = _; rw[aQ (Ne.symm e)]; exact hi) k
def jr (r:Nat->List (Option (Option (Nat × Nat)))) (l0:Nat):Nat->List (Option (Option (Nat × Nat))):=fun l=>if l=l0 then r l++[some none] else r l
theorem Ev{r:Nat->List (Option (Option (Nat × Nat)))}{l0 l h:Nat}{q:Option (Option (Nat × Nat))}(d:(jr r l0 l)[h]? = some q):(r l)[h]? = some q\/(l=l0/\h=(r l).length/\q=some none):=by
 unfold jr at d;split at d
 ·rename_i e
  rw[fE]at d;split at d
  ·exact .inl d
  ·rename_i g
   right;cases hk:h-(r l).length with
   | zero =>
    rw[hk]at d;simp at d;exact⟨e,by omega,d.symm⟩
   |succ n=>rw[hk]at d; simp at d
 ·exact .inl d
theorem W2{r:Nat->List (Option (Option (Nat × Nat)))}{l0 l h:Nat}(d:h<(r l).length):(jr r l0 l)[h]? = (r l)[h]? := by
 unfold jr;split
 ·exact cK d
 ·rfl
theorem al.W3{E:Env}{w':World}{o:ab}{l:Option (Nat × Nat)}{l0:Nat}(H:al E)(h:Ext E.w w')(hb:∀ b n,l=some (b,n)->E.w.heap.size<=b/\b<w'.heap.size)(hlab:o.label=some l0)(U:∀(i:Nat) x,E.H[i]? = some x->x.label≠some l0)
  (ho:aI { w:=w',H:=E.H++[o],loc:=E.loc++[l],X:=E.X.re (jr E.X.r l0) } E.H.length o) :
  al { w:=w',H:=E.H++[o],loc:=E.loc++[l],X:=E.X.re (jr E.X.r l0) }/\E.le { w:=w',H:=E.H++[o],loc:=E.loc++[l],X:=E.X.re (jr E.X.r l0) }:=by
 have V:∀(i:Nat) x,(E.H++[o])[i]? = some x->E.H[i]? = some x\/(i=E.H.length/\x=o):=fun i x hi=>by
  rw[fE]at hi;split at hi
  ·exact .inl hi
  ·right
   cases hk:i-E.H.length with
   |zero=>rw[hk]at hi; simp at hi; exact⟨by omega,hi.symm⟩
   |succ n=>rw[hk]at hi; simp at hi
 have M:∀(i:Nat) x,(E.loc++[l])[i]? = some x->E.loc[i]? = some x\/(i=E.loc.length/\x=l):=fun i x hi=>by
  rw[fE]at hi;split at hi
  ·exact .inl hi
  ·right
   cases hk:i-E.loc.length with
   |zero=>rw[hk]at hi; simp at hi; exact⟨by omega,hi.symm⟩
   |succ n=>rw[hk]at hi; simp at hi
 have v:∀(x k b m:Nat),(jr E.X.r l0 x)[k]? = some (some (some (b,m)))->(E.X.r x)[k]? = some (some (some (b,m))):=fun x k b m hk=>by
  rcases Ev hk with h1|⟨_,_,h1⟩
  ·exact h1
  ·cases h1
 have hle:E.le { w:=w',H:=E.H++[o],loc:=E.loc++[l],X:=E.X.re (jr E.X.r l0) }:=by
  refine⟨fun i ver W=>?_,h.size,fun b N _=>h.same b N,fun b hlt hno'=>?_,fun i ver W hl=>?_,⟨rfl,rfl⟩,fun x k hk=>?_,h.env,fun i l x h1 d hv=>⟨⟨[],?_⟩,x,by simp only[]; rw[cK (aG h1)]; exact h1,d⟩⟩
  rotate_right
  ·have e : l ≠ l0 := fun e => U i x h1 (by rw [<- e]; exact ab.mz d)
   rw[cB];exact if_neg e
  ·obtain ⟨x, h1, d⟩ := W
   exact⟨x,by simp only[]; rw[cK (aG h1)]; exact h1,d⟩
  ·rintro (⟨i, c, hi⟩ | ⟨x, k, m, hk⟩)
   ·rcases M i _ hi with h1 | ⟨_, h1⟩
    ·exact hno' (.inl ⟨i,c,h1⟩)
    ·have := hb b c h1.symm
     omega
   ·exact hno' (.inr ⟨x,k,m,v x k b m hk⟩)
  ·obtain ⟨x, h1, d⟩ := W
   have hid:=aG h1;obtain⟨y,u,h4⟩:=hl;simp only[]at u;rw[cK hid]at u;exact⟨⟨y,u,h4⟩,by simp only[]; rw[cK (by rw[H.len]; exact hid)]⟩
  ·have hk':k<(jr E.X.r l0 x).length:=by
    unfold jr;split
    ·simp; omega
    ·exact hk
   refine⟨hk',fun q O=>?_⟩;have O:(jr E.X.r l0 x)[k]? = some (some q):=O
   rwa [W2 hk]at O
 refine⟨⟨by simp[H.len],fun i j b m n hi hj=>?_,fun i b m hi=>?_,fun b N=>dM (H.X b N) h.size,fun i x hi=>?_,H.fY.bE hle.toC,fun x k x' k' b m n h1 d=>H.ff _ _ _ _ _ _ _ (v _ _ _ _ h1) (v _ _ _ _ d),fun i b m x k n hi hk=>?_,fun x k b m hk=>?_,fun i j x y I hi hj h1 d=>?_,fun I hn k q O=>?_⟩,hle⟩
 ·rcases M i _ hi with h1 | ⟨h1, d⟩ <;> rcases M j _ hj with u | ⟨u, h4⟩
  ·exact H.inj _ _ _ _ _ h1 u
  ·have:=hb b n h4.symm; have:=(H.lt _ _ _ h1).1; omega
  ·have:=hb b m d.symm; have:=(H.lt _ _ _ u).1; omega
  ·omega
 ·rcases M i _ hi with h1 | ⟨h1, d⟩
  ·exact⟨dM (H.lt _ _ _ h1).1 h.size,(H.lt _ _ _ h1).2⟩
  ·have u := hb b m d.symm
   exact⟨u.2,fun hx=>by have:=H.X b hx; omega⟩
 ·rcases V i x hi with h1 | ⟨h1, d⟩
  ·refine lK (fun a _ hr => bg hle a hr) (by simp only []; rw [cK (by rw [H.len]; exact aG h1)]) (fun b n N => h.same b (H.lt i b n N).1) (fun I hl1 => ?_) (H.obj i x h1)
   have hne:I≠l0:=fun e=>U i x h1 (by rw[hl1,e]);exact⟨if_neg hne,fun k g m hk=>h.same g (H.cr _ _ _ _ hk).1⟩
  ·subst h1 d
   exact ho
 ·rcases M i _ hi with h1 | ⟨h1, d⟩
  ·exact H.cQ _ _ _ _ _ _ h1 (v _ _ _ _ hk)
  ·have:=hb b m d.symm; have:=(H.cr _ _ _ _ (v _ _ _ _ hk)).1; omega
 ·have h1 := v _ _ _ _ hk
  exact⟨dM (H.cr _ _ _ _ h1).1 h.size,(H.cr _ _ _ _ h1).2⟩
 ·rcases V i x hi with g1 | ⟨g1, rfl⟩ <;> rcases V j y hj with g3 | ⟨g3, rfl⟩
  ·exact H.uniq i j x y I g1 g3 h1 d
  ·rw [hlab] at d
   cases d;exact(U i x g1 h1).elim
  ·rw [hlab] at h1
   cases h1;exact(U j y g3 d).elim
  ·omega
 ·rcases Ev (show (jr E.X.r l0 I)[k]? = some (some q) from O) with g1 | ⟨g1, _⟩
  ·exact H.gR I (fun i x hi hl=>hn i x (by simp only[]; rw[cK (aG hi)]; exact hi) hl) k q g1
  ·exact hn E.H.length o (by simp) (by rw[hlab,g1])
theorem Env.wU{E:Env}(H:al E)(id:Nat):E.le { w:=E.w,H:=E.H.set id .dead,loc:=E.loc.set id none,X:=E.X }:=by
 rcases kU id E.H.length with h|h
 ·exact Env.k_ (o:=E.H[id]) (by simp[h]) H.len (aB _) (fun _ _ _=>rfl) (fun _ _ h=>by cases h) (.inl (fun v h=>by simp[ab.aF]at h))
   (fun v u h=>by simp[ab.aF]at h) (fun _ _=>rfl)
 ·rw [KZ h, KZ (by rw [H.len]; exact h)]
  exact Env.le.refl E
theorem al.drop{E:Env}(H:al E)(id:Nat)(hlab:∀ o,E.H[id]? = some o->o.label=none):al { w:=E.w,H:=E.H.set id .dead,loc:=E.loc.set id none,X:=E.X }:=by
 rcases kU id E.H.length with h|h
 ·refine al.mE (o:=E.H[id]) H (by simp [h]) (aB _) (fun _ _ _=>rfl) (fun _ _ h=>by cases h) (.inl (fun v h=>by simp [ab.aF] at h))
   (fun v u h=>by simp[ab.aF]at h) (fun _ _=>rfl) ?_ (hlab:=hlab _ (by simp[h]))
  simp only[aI];rw[bf (by rw[H.len]; exact h)]
 ·rw [KZ h, KZ (by rw [H.len]; exact h)]
  exact H
end Go.AL

namespace Go.AL
variable [Dr]
structure FK where
 off:Nat
 size:Nat
 agg:Bool
def rk:TypeDesc->Bool
 |.struct _ | .array _ _=>true
 |_=>false
def fP(P:Program)(t:TypeId):Option (Nat × Bool) :=
 match P.info? t,P.underlying t with
 |some i,some d=>some (i.size,rk d)
 |_,_=>none
def tA(P:Program)(t:TypeId)(f:Nat):Option FK :=
 match P.underlying t with
 | some (.struct d)=>match d[f]? with
  | some fd=>match fP P fd.type with
   |some (n,a)=>some ⟨fd.offset,n,a⟩
   |none=>none
  |none=>none
 |_=>none
def eR(P:Program)(t:TypeId):Option (List Value) :=
 match P.info? t with
 | some i=>match i.zero with
  |some z=>if z.cells.toList.all dm then some z.cells.toList else none
  |none=>none
 |none=>none
inductive SK where
 |slice (elem size bytes:Nat)
 |array (n elem size:Nat) (agg:Bool)
 |str
 |int (k:IntKind)
 |bool
 |other
def cD(P:Program)(t:TypeId):SK :=
 match P.underlying t with
 | some (.slice e)=>match P.info? e with
  |some i=>.slice e i.size i.bytes
  |none=>.other
 | some (.array n e)=>match fP P e with
  |some (m,a)=>.array n e m a
  |none=>.other
 |some .string=>.str
 |some (.int k)=>.int k
 |some .bool=>.bool
 |_=>.other
def AV.tC:Value->AV
 |.agg cs=>if cs.toList.all dm then .agg (cs.toList.map .lit) else .lit (.agg cs)
 |.tuple cs=>.tuple (cs.toList.map .lit)
 |v=>.lit v
abbrev AV.int(n:Int):AV:=.lit (.int .i64 n)
abbrev AV.bool(b:Bool):AV:=.lit (.bool b)
abbrev AV.str(s:ByteArray):AV:=.lit (.string s)
theorem pF{E:Env}:∀(l:List Value),ae E (l.map .lit) l
 | []=>by simp[ae]
 |v::l=>by simp[ae,rel,pF l]
theorem LB(E:Env)(v:Value):rel E (AV.tC v) v:=by
 unfold AV.tC;split
 ·split
  ·rename_i cs h
   simp only[rel];exact⟨cs,rfl,da.1 h,pF _⟩
  ·simp[rel]
 ·simp only [rel]
  exact⟨_,rfl,pF _⟩
 ·simp[rel]
structure St where
 fr:List AV
 H:List ab
def St.eval(s:St):Operand->AV
 |.tmp t=>s.fr.getD t .undef
 |.const v=>AV.tC v
 |.global g=>.lit (.pointer (some ⟨g,0,none⟩))
 |.func f=>.clo f []
def nv(w:World)(X:XS)(l:List Deferred):Prop:=l.Nodup/\∀ d∈l,∃ D,d={ target:=.collected D,args:=#[] }/\w.heap[D]? = some (.deferred (some []))/\X D/\X.z D
theorem Ew(w:World)(X:XS):nv w X []:=⟨List.nodup_nil,fun _ h=>by cases h⟩
theorem LC{w w':World}{X X':XS}{l:List Deferred}(h:nv w X l)(hX:∀ b,X b->X.z b->X' b/\X'.z b)(q:∀ b,X b->X.z b->w'.heap[b]? = w.heap[b]?):nv w' X' l :=
 ⟨h.1,fun d u=>let ⟨D,e,h1,g,k⟩:=h.2 d u; ⟨D,e,by rw[q D g k]; exact h1,hX D g k⟩⟩
theorem Ex{E E':Env}(HE:al E)(h:E.le E'){l:List Deferred}(hm:nv E.w E.X l):nv E'.w E'.X l :=
 LC hm (fun b h1 d=>⟨by rw[show E'.X.x=E.X.x from h.X.1]; exact h1,by rw[show E'.X.z=E.X.z from h.X.2]; exact d⟩) fun b hb _=>h.same b (HE.X b hb) (HE.Eu hb)
structure df (s:St) (E:Env) (a:Act):Prop where
 H:E.H=s.H
 fr:ae E s.fr a.tmps.toList
 defers:nv E.w E.X a.defers
 heap:al E
theorem df.eval{s:St}{E:Env}{a:Act}(h:df s E a)(x:Operand):rel E (s.eval x) (a.eval x):=by
 cases x with
 | tmp t =>
  simp only[St.eval,DY];obtain⟨h1,u⟩:=ow.1 h.fr;rcases kU t s.fr.length with d|q
  ·have k : t < a.tmps.toList.length := h1 ▸ d
   have y:s.fr[t]? = some s.fr[t]:=by simp[d]
   have I:a.tmps.toList[t]? = some a.tmps.toList[t]:=bx k;have:=u t _ _ y I;simpa[bP,Array.getD_eq_getD_getElem?,d,show t<a.tmps.size by simpa using k]using this
  ·have : s.fr.getD t .undef = .undef := by simp [bP, nh q]
   rw[this];simp[rel]
 |const v=>exact LB E v
 |global g=>simp[St.eval,DY,rel]
 |func f=>simp only[St.eval,DY,rel]; exact⟨#[],rfl,by simp[ae]⟩
def iN(agg:Bool)(n:Nat)(cells:List AV):Option AV :=
 if agg then (if n<=cells.length then some (.agg (cells.take n)) else none) else cells[0]?
def jt(k:SK)(x i:AV):Option AV :=
 match i with
 | .lit (.int _ n) =>
  match k,x with
  |.slice _ sz _,.list w rows=>if w=sz/\0<=n/\n<rows.length then (rows[n.toNat]?).map .cptr else none
  |.slice _ sz _,.listF ks rows=>if ks.length=sz/\0<=n/\n<rows.length then some (.cptr (aD ks (rows.getD n.toNat []))) else none
  |.slice _ sz _,.vec w id ver off m=>if w=sz/\0<=n/\n<m then some (.ptr id ver w (off+n.toNat) 0) else none
  |.slice _ sz _,.svec id l j m=>if 0<=n/\n<m then some (.sptr id l j sz n.toNat 0) else none
  |.array m _ sz _,.ptr id ver w row col=>if 0<=n/\n<m then some (.ptr id ver w row (col+n.toNat*sz)) else none
  |.array m _ sz _,.cptr cells=>if 0<=n/\n<m then some (.cptr ((cells.drop (n.toNat*sz)).take sz)) else none
  |_,_=>none
 |_=>none
def Ey(k:FK)(x:AV):Option AV :=
 if k.size=0 then none else
 match x with
 |.cptr cells=>some (.cptr (cells.drop k.off))
 |.ptr id ver w row col=>some (.ptr id ver w row (col+k.off))
 |_=>none
def LD(k:IntKind)(a b:Int):Int:=k.wrap (zP k.bits a &&& zP k.bits b).toNat
def LF(k:IntKind)(a b:Int):Int:=k.wrap (zP k.bits a ||| zP k.bits b).toNat
def LG(k:IntKind)(a b:Int):Int:=k.wrap (zP k.bits a ^^^ zP k.bits b).toNat
def Ez(k:IntKind)(a b:Int):Int:=k.wrap (a*2 ^ min b.toNat k.bits)
def tD(k:IntKind)(a b:Int):Int:=a.fdiv (2 ^ min b.toNat k.bits)
def pG(op:BinOp)(k:IntKind)(a b:Int):Option Value :=
 match op with
 |.and=>some (.int k (LD k a b))
 |.or=>some (.int k (LF k a b))
 |.xor=>some (.int k (LG k a b))
 |.add=>some (.int k (k.wrap (a+b)))
 |.sub=>some (.int k (k.wrap (a-b)))
 |.mul=>some (.int k (k.wrap (a*b)))
 |.quo=>if b=0 then none else some (.int k (k.wrap (a.tdiv b)))
 |.rem=>if b=0 then none else some (.int k (a.tmod b))
 |.eql=>some (.bool (a==b))
 |.neq=>some (.bool (a != b))
 |.lss=>some (.bool (a<b))
 |.leq=>some (.bool (a<=b))
 |.gtr=>some (.bool (a>b))
 |.geq=>some (.bool (a ≥ b))
 |_=>none
def EA(op:BinOp)(x y:ByteArray):Option Value :=
 match op with
 |.add=>if ((x.size+y.size:Nat):Int)>IntKind.i64.max then none else some (.string (x++y))
 |.eql=>some (.bool (x.toList==y.toList))
 |.neq=>some (.bool !(x.toList==y.toList))
 |.lss=>some (.bool (pk x.toList y.toList))
 |.leq=>some (.bool (pk x.toList y.toList||x.toList==y.toList))
 |.gtr=>some (.bool !(pk x.toList y.toList||x.toList==y.toList))
 |.geq=>some (.bool !(pk x.toList y.toList))
 |_=>none
def km(op:BinOp):Value->Value->Option Value
 | .int k a,.int k' b=>match op with
  |.shl=>if b<0 then none else some (.int k (Ez k a b))
  |.shr=>if b<0 then none else some (.int k (tD k a b))
  |op=>if k=k' then pG op k a b else none
 |.string a,.string b=>EA op a b
 |_,_=>none
def AD:AV->Option Nat
 |.lit (.string s)=>some s.size
 |.lit (.slice none 0 0)=>some 0
 |.nils=>some 0
 |.emptyS _=>some 0
 |.list _ rows=>some rows.length
 |.listF _ rows=>some rows.length
 |.vec _ _ _ _ n=>some n
 |_=>none
theorem Sem.bk{P:Program}{t:TypeId}{d:TypeDesc}(h:P.underlying t=some d)(w:World) :
  (underlying t).run P w=.ok d w:=by simp[underlying,h]
theorem Sem.run_sizeOf{P:Program}{t:TypeId}{i:TypeInfo}(h:P.info? t=some i)(w:World):(sizeOf t).run P w=.ok i.size w:=by
 simp[sizeOf,typeInfo,h]
theorem Sem.pH{P:Program}{t:TypeId}{d:TypeDesc}(h:P.underlying t=some d)(w:World):(isAgg t).run P w=.ok (rk d) w:=by
 simp[isAgg,Sem.bk h];cases d<;>rfl
theorem lL{P:Program}{t:TypeId}{n:Nat}{a:Bool}(h:fP P t=some (n,a)):∃ i d,P.info? t=some i/\P.underlying t=some d/\i.size=n/\rk d=a:=by
 unfold fP at h;split at h
 ·rename_i i d h1 g
  simp at h;exact⟨i,d,h1,g,h.1,h.2⟩
 ·cases h
theorem LH{P:Program}{t:TypeId}{f:Nat}{k:FK}(h:tA P t f=some k) :
  ∃ d fd,P.underlying t=some (.struct d)/\d[f]? = some fd/\fd.offset=k.off/\fP P fd.type=some (k.size,k.agg):=by
 unfold tA at h;split at h
 ·rename_i d h1
  split at h
  ·rename_i fd g
   split at h
   ·rename_i n a q
    simp at h;subst h;exact⟨d,fd,h1,g,rfl,q⟩
   ·cases h
  ·cases h
 ·cases h
theorem W4{P:Program}(op:BinOp)(t:TypeId)(x y:Value)(v:Value)(h:km op x y=some v)(w:World):(binOp op t x y).run P w=.ok v w:=by
 unfold km at h;split at h
 ·rename_i k a k' b
  split at h
  ·split at h
   ·cases h
   ·rename_i hb
    cases h;simp only[binOp,Op.shift,if_neg hb,Ez];rfl
  ·split at h
   ·cases h
   ·rename_i hb
    cases h;simp only[binOp,Op.shift,if_neg hb,tD];rfl
  ·rename_i d g
   split at h
   ·rename_i hk
    subst hk;cases op<;>first|exact absurd rfl d|exact absurd rfl g|skip
    all_goals simp[pG]at h
    all_goals simp[binOp,Op.intArith,Op.intDiv,Op.intCmp,Op.intBits]
    all_goals first
     |exact h
     |(obtain⟨h1,q⟩:=h; simp[h1,q])
   ·cases h
 ·rename_i a b
  cases op<;>simp only[EA]at h<;>(try split at h)<;>simp at h<;>simp only[binOp,Op.stringOp]<;>first
   |(subst h; simp; done)
   |(rename_i u; subst h; rw[if_neg u]; rfl)
 ·cases h
theorem W5{P:Program}(op:BinOp)(t:TypeId)(x y:Operand)(a b:Value)(h:∀ v,km op a b≠some v->True)(d:(km op a b).isSome=true)(w:World) :
  (eqGuard op t x y a b).run P w=.ok () w:=by
 unfold km at d;split at d
 ·cases op<;>simp[eqGuard]<;>rfl
 ·cases op<;>simp[eqGuard]<;>rfl
 ·cases d
theorem W6{E:Env}{x:AV}{c:Value}{n:Nat}(h:AD x=some n)(hr:rel E x c) :
  (∃ s,c=.string s/\s.size=n)\/∃ base cap,c=.slice base n cap:=by
 unfold AD at h;split at h
 ·simp only[rel]at hr; subst hr; simp at h; exact .inl ⟨_,rfl,h⟩
 ·simp only[rel]at hr; subst hr; simp at h; subst h; exact .inr ⟨_,_,rfl⟩
 ·simp only[rel]at hr; obtain⟨b,rfl⟩:=hr; simp at h; subst h; exact .inr ⟨_,_,rfl⟩
 ·simp only[rel]at hr; obtain⟨b,cap,rfl,_⟩:=hr; simp at h; subst h; exact .inr ⟨_,_,rfl⟩
 ·simp only[rel]at hr; obtain⟨_,b,cap,rfl,_⟩:=hr; simp at h; subst h; exact .inr ⟨_,_,rfl⟩
 ·simp only[rel,eo]at hr; obtain⟨b,cap,rfl,_⟩:=hr; simp at h; subst h; exact .inr ⟨_,_,rfl⟩
 ·simp only[rel]at hr; obtain⟨⟨b,cap,rfl,_⟩,_⟩:=hr; simp at h; subst h; exact .inr ⟨_,_,rfl⟩
 ·cases h
end Go.AL

namespace Go.AL
open Go
variable [Dr]
theorem lf(b o n:Nat):(Addr.mk b o none).add n=⟨b,o+n,none⟩:=by
 unfold Addr.add;split
 ·rename_i h; simp[h]
 ·rfl
theorem W7{E:Env}{as:List AV}{b o:Nat}(h:cu E as b o){i:Nat}{a:AV}(hi:as[i]? = some a) :
  ∃ v,E.w.cell? ⟨b,o+i,none⟩=some v/\dm v=true/\rel E a v:=jo.1 h i a hi
theorem rm{E:Env}{as:List AV}{b o:Nat}(h:cu E as b o)(n:Nat):cu E (as.drop n) b (o+n):=by
 rw[jo]at *;intro i a hi;rw[qU]at hi;obtain⟨v,h1,d,g⟩:=h (n+i) a hi;exact⟨v,by rw[qT]; exact h1,d,g⟩
theorem AE{E:Env}{as:List AV}{b o:Nat}(h:cu E as b o)(n:Nat):cu E (as.take n) b o:=by
 rw[jo]at *;intro i a hi;rw[nk]at hi;split at hi
 ·exact h i a hi
 ·cases hi
theorem tF:∀(as:List AV) (n:Nat),AV.bu as=true->AV.bu (as.drop n)=true
 | [],n,_=>by simp[AV.bu]
 |a::as,0,h=>by simpa using h
 | a::as,n+1,h=>by
  simp only[AV.bu,ax]at h;simpa using tF as n h.2
theorem wV:∀(as:List AV) (n:Nat),AV.bu as=true->AV.bu (as.take n)=true
 | [],n,_=>by simp[AV.bu]
 |a::as,0,_=>by simp[AV.bu]
 | a::as,n+1,h=>by
  simp only[AV.bu,ax]at h;simp only[DZ,AV.bu,ax];exact⟨h.1,wV as n h.2⟩
theorem wW{E:Env}:∀{as:List AV} {b o:Nat},cu E as b o ->
  ∃ vs:List Value,ae E as vs/\(∀ x∈vs,dm x=true)/\∀ j v,vs[j]? = some v->E.w.cell? ⟨b,o+j,none⟩=some v
 | [],b,o,_=>⟨[],by simp[ae]⟩
 | a::as,b,o,h=>by
  simp only[cu]at h;obtain⟨⟨v,h1,k,q⟩,u⟩:=h;obtain⟨vs,g1,g2,g3⟩:=wW u;refine⟨v::vs,by simp only[ae]; exact⟨q,g1⟩,?_,?_⟩
  ·intro x d
   rcases bC.1 d with rfl|d
   ·exact k
   ·exact g2 x d
  ·intro j x g
   cases j with
   |zero=>simp at g; subst g; exact h1
   |succ j=>have:=g3 j x (by simpa using g); rwa [qT,s8 1 j]at this
theorem wX{P:Program}{E:Env}{cells:List AV}{b o n:Nat}{agg:Bool}{t:TypeId}{v:AV}(q:fP P t=some (n,agg))
  (g:iN agg n cells=some v) (hr:cu E cells b o):∃ c,(loadVar t ⟨b,o,none⟩).run P E.w=.ok c E.w/\rel E v c:=by
 obtain⟨i,d,hi,k,u,ha⟩:=lL q;unfold iN at g;cases agg with
 | true =>
  simp only[if_true]at g;split at g
  ·rename_i hle
   cases g;obtain⟨vs,g1,g2,g3⟩:=wW (AE hr n);have y:vs.length=n:=by rw[<-jn g1]; simp[hle]
   refine⟨.agg vs.toArray,?_,?_⟩
   ·simp only [loadVar, bS, Sem.pH k, bT, ha, if_true, Sem.run_sizeOf hi, u]
    rw[<-y,run_loadCells_list (w:=E.w) ⟨b,o,none⟩ vs (fun j v I=>by rw[lf]; exact g3 j v I)];rfl
   ·simp only [rel]
    exact⟨vs.toArray,rfl,by simpa using g2,by simpa using g1⟩
  ·cases g
 | false =>
  simp only[kV,if_false]at g;obtain⟨x,h1,_,M⟩:=W7 hr g;refine⟨x,?_,M⟩;simp only[loadVar,bS,Sem.pH k,bT,ha,kV,if_false,run_load];rw[show (⟨b,o,none⟩:Addr)=⟨b,o+0,none⟩ from rfl,h1]
def lM(P:Program)(t:TypeId)(x:AV)(H:List ab):Option AV :=
 match fP P t with
 | some (n,agg) =>
  match x with
  |.cptr cells=>iN agg n cells
  | .ptr id ver w row col=>match H[id]? with
   |some (.box cells)=>if ver=0/\row=0 then iN agg n (cells.drop col) else none
   |some (.vec k v rows)=>if ver=v/\k=w then (match rows[row]? with|some r=>iN agg n (r.drop col)|none=>none) else none
   |some (.b_ l _ _ ms)=>if ver=0/\w=1/\col=0 then (match ms[row]? with|some rows=>iN agg n [.svec id l row rows.length]|none=>none) else none
   |_=>none
  | .sptr id l j w row col=>match H[id]? with
   |some (.b_ l' k _ ms)=>if l=l'/\k=w then (match ms[j]? with|some rows=>(match rows[row]? with|some r=>iN agg n (r.drop col)|none=>none)|none=>none) else none
   |_=>none
  |_=>none
 |none=>none
theorem lN{E:Env}{k:Nat}{rs:List (List AV)}{b o:Nat}(h:cy E k rs b o){i:Nat}{r:List AV}(hi:rs[i]? = some r) :
  r.length=k/\cu E r b (o+i*k):=mD.1 h i r hi
theorem LI{P:Program}{E:Env}(HE:al E){t:TypeId}{x v:AV}{c:Value}(d:lM P t x E.H=some v)(hr:rel E x c) :
  ∃ u,(wC t c).run P E.w=.ok u E.w/\rel E v u:=by
 unfold lM at d;split at d
 case h_2=>cases d
 rename_i n agg O;split at d
 ·simp only [rel] at hr
  obtain⟨_,b,o,rfl,_,h2⟩:=hr;obtain⟨u,q,y⟩:=wX O d h2;exact⟨u,by simpa[wC,lE]using q,y⟩
 ·rename_i id ver w row col
  simp only[rel]at hr;split at d
  ·rename_i cells hid
   split at d
   ·rename_i N
    obtain⟨rfl,rfl⟩:=N;obtain⟨b,m,U,rfl⟩:=hr.2.2 ⟨_,hid,rfl⟩;obtain⟨V,m',g,_,I⟩:=HE.obj id _ hid;rw[U]at g;cases g;have:=rm I col;simp only[cn]at this;obtain⟨u,q,y⟩:=wX O d this;exact⟨u,by simpa[wC,lE]using q,y⟩
   ·cases d
  ·rename_i k v' rows hid
   split at d
   ·rename_i N
    obtain⟨rfl,rfl⟩:=N;split at d
    ·rename_i r M
     obtain⟨b,m,U,rfl⟩:=hr.2.2 ⟨_,hid,rfl⟩;rcases HE.obj id _ hid with⟨g,I⟩|⟨V,m',g,_,_,_,I⟩
     ·subst I; simp at M
     ·rw [U] at g
      cases g;have:=rm (lN I M).2 col;simp only[cn]at this;obtain⟨u,q,y⟩:=wX O d this;exact⟨u,by simpa[wC,lE]using q,y⟩
    ·cases d
   ·cases d
  ·rename_i l k m ms hid
   split at d
   ·rename_i N
    obtain⟨rfl,rfl,rfl⟩:=N;split at d
    ·rename_i rows M
     obtain⟨b,m,U,rfl⟩:=hr.2.2 ⟨_,hid,rfl⟩;have ho:=HE.obj id _ hid;simp only[aI]at ho;obtain⟨V,m',cs,el,g,I,e4,_,_,W⟩:=ho;rw[U]at g;cases g;have hlt:row<(db (E.X.r l)).length:=by rw[e4]; exact(KY.1 M).1
     obtain⟨m2,q1,⟨cur,el2,q2,q3⟩,q4,_,_⟩:=W row rows _ M (bx hlt);have hc:cu E [.svec id l row rows.length] b (row*1+0):=by
      simp only[cu,and_true];refine⟨.slice (some ⟨(db (E.X.r l))[row],0,none⟩) rows.length m2,?_,rfl,?_⟩
      ·simp only [s9, I]
       simpa using q1
      ·simp only [rel]
       exact⟨⟨_,m2,rfl,q4,fun _=>⟨_,_,rfl⟩⟩,⟨_,hid,rfl,fun v _=>dX v⟩,fun _=>⟨⟨_,hid,rfl⟩,_,bx hlt,m2,q4,rfl⟩⟩
     obtain⟨u,q,y⟩:=wX O d hc;exact⟨u,by simpa[wC,lE]using q,y⟩
    ·cases d
   ·cases d
  ·cases d
 ·rename_i id l j w row col
  simp only[rel]at hr;split at d
  ·rename_i l' k m ms hid
   split at d
   ·rename_i N
    obtain⟨rfl,rfl⟩:=N;split at d
    ·rename_i rows hj
     split at d
     ·rename_i r M
      obtain⟨_,b,g1,rfl⟩:=hr.2.2 ⟨_,hid,rfl⟩;have ho:=HE.obj id _ hid;simp only[aI]at ho;obtain⟨V,m',cs,el,g,I,e4,_,_,W⟩:=ho;obtain⟨m2,_,_,_,_,q6⟩:=W j rows b hj g1;have:=rm (lN q6 M).2 col;simp only[cn]at this;obtain⟨u,q,y⟩:=wX O d this;exact⟨u,by simpa[wC,lE]using q,y⟩
     ·cases d
    ·cases d
   ·cases d
  ·cases d
 ·cases d
theorem W8{P:Program}{E:Env}{t:TypeId}{f:Nat}{k:FK}{x v:AV}{c:Value}(hk:tA P t f=some k)
  (g:Ey k x=some v) (hr:rel E x c):∃ u,(We t c f).run P E.w=.ok u E.w/\rel E v u:=by
 obtain⟨fs,fd,h1,I,U,V⟩:=LH hk;obtain⟨i,d,hi,hd,W,ha⟩:=lL V;unfold Ey at g;split at g
 ·cases g
 rename_i M;have y:∀ b o w,(fieldPlace ⟨b,o,none⟩ fd).run P w=.ok ⟨b,o+k.off,none⟩ w:=by
  intro b o w;simp only[fieldPlace,bS,Sem.run_sizeOf hi,bT,W,if_neg M,ft,lf,U]
 split at g
 ·cases g
  simp only[rel]at hr;obtain⟨hc,b,o,rfl,N,O⟩:=hr;refine⟨.pointer (some ⟨b,o+k.off,none⟩),?_,?_⟩
  ·simp[We,Sem.bk h1,I,lE,y]
  ·simp only [rel]
   exact⟨tF _ _ hc,b,o+k.off,rfl,N,rm O _⟩
 ·cases g
  simp only[rel]at hr;rename_i id ver w row col;obtain⟨⟨b,o,rfl⟩,h5,h6⟩:=hr;refine⟨.pointer (some ⟨b,o+k.off,none⟩),?_,?_⟩
  ·simp[We,Sem.bk h1,I,lE,y]
  ·simp only [rel]
   refine⟨⟨_,_,rfl⟩,h5,fun hl=>?_⟩;obtain⟨b',n',e1,q⟩:=h6 hl;simp only[alC,aM,D0]at q;exact⟨b',n',e1,by simp[q.1,q.2.1,qT]⟩
 ·cases g
theorem ig{P:Program}{t e sz d:Nat}(h:cD P t=.slice e sz d):P.underlying t=some (.slice e)/\∃ i,P.info? e=some i/\i.size=sz/\i.bytes=d:=by
 unfold cD at h;split at h
 ·rename_i e' h1
  split at h
  ·rename_i i g
   cases h;exact⟨h1,i,g,rfl,rfl⟩
  ·cases h
 ·split at h<;>cases h
 all_goals cases h
theorem AF{P:Program}{t n e sz:Nat}{a:Bool}(h:cD P t=.array n e sz a):P.underlying t=some (.array n e)/\fP P e=some (sz,a):=by
 unfold cD at h;split at h
 ·split at h<;>cases h
 ·rename_i g e' h1
  split at h
  ·rename_i m k d
   cases h;exact⟨h1,d⟩
  ·cases h
 all_goals cases h
theorem rq{P:Program}{t:Nat}(h:cD P t=.str):P.underlying t=some .string:=by
 unfold cD at h;split at h
 ·split at h<;>cases h
 ·split at h<;>cases h
 ·rename_i h1; exact h1
 all_goals cases h
theorem W9{P:Program}{E:Env}(HE:al E){t:TypeId}{x i v:AV}{c d:Value}
  (g:jt (cD P t) x i=some v) (q:rel E x c) (hi:rel E i d):∃ u,(wD t c d).run P E.w=.ok u E.w/\rel E v u:=by
 unfold jt at g;split at g
 case h_2=>cases g
 rename_i k n;simp only[rel]at hi;subst hi;split at g
 ·rename_i e sz by_ w rows hk
  split at g
  ·rename_i y
   obtain⟨rfl,h0,h1⟩:=y;obtain⟨hu,ii,I,N,_⟩:=ig hk;cases M:rows[n.toNat]? with
   |none=>rw[M]at g; cases g
   | some r =>
    rw[M]at g;simp at g;subst g;simp only[rel]at q;obtain⟨hcl,base,cap,rfl,hle,hh⟩:=q;rcases hh with rfl|⟨b,o,rfl,W,hr⟩
    ·simp at M
    ·obtain ⟨g1, g2⟩ := lN hr M
     refine⟨.pointer (some ⟨b,o+n.toNat*w,none⟩),?_,?_⟩
     ·simp[wD,asIntOf,Sem.bk hu,h0,h1,Sem.run_sizeOf I,N,lf]
     ·simp only [rel]
      exact⟨hcl r (dJ M),b,_,rfl,W,g2⟩
  ·cases g
 ·rename_i e sz by_ ks rows hk
  split at g
  ·rename_i y
   obtain⟨rfl,h0,h1⟩:=y;cases g;obtain⟨hu,ii,I,N,_⟩:=ig hk;have q:=jq.1 q;simp only[rel,bN]at q;obtain⟨hcl,base,cap,rfl,hle,hh⟩:=q;have hlt:n.toNat<rows.length:=by omega
   have M:(rows.map (aD ks))[n.toNat]? = some (aD ks (rows.getD n.toNat [])):=by
    rw[bB,bP,bx hlt];rfl
   rcases hh with hn|⟨b,o,rfl,W,hr⟩
   ·rw[hn]at M; simp at M
   ·obtain ⟨g1, g2⟩ := lN hr M
    refine⟨.pointer (some ⟨b,o+n.toNat*ks.length,none⟩),?_,?_⟩
    ·simp[wD,asIntOf,Sem.bk hu,h0,h1,Sem.run_sizeOf I,N,lf]
    ·simp only [rel]
     exact⟨fW _ _,b,_,rfl,W,g2⟩
  ·cases g
 ·rename_i e sz by_ w id ver off m hk
  split at g
  ·rename_i y
   obtain⟨rfl,h0,h1⟩:=y;cases g;obtain⟨hu,ii,I,N,_⟩:=ig hk;simp only[rel]at q;obtain⟨⟨base,cap,rfl,hle,hb⟩,U,O⟩:=q;obtain⟨b,o,rfl⟩:=hb (by omega);refine⟨.pointer (some ⟨b,o+n.toNat*w,none⟩),?_,?_⟩
   ·simp[wD,asIntOf,Sem.bk hu,h0,h1,Sem.run_sizeOf I,N,lf]
   ·simp only [rel]
    refine⟨⟨_,_,rfl⟩,U,fun hl=>?_⟩;obtain⟨g1,g2⟩:=O hl;obtain⟨a,ha,hav⟩:=U;cases hloc:E.loc[id]? with
    | none =>
     have:=aG ha;rw[<-HE.len]at this;rw[bx this]at hloc;cases hloc
    | some l =>
     cases l with
     |none=>have:=(g1 hloc).1; omega
     | some bm =>
      obtain⟨V,m'⟩:=bm;obtain⟨q1,o',q2,q3⟩:=g2 V m' hloc;simp only[kX,aM,D0]at q3;refine⟨V,m',rfl,?_⟩;rw[q3.1.1,q3.1.2.1,q2 (by omega),fM];rfl
  ·cases g
 ·rename_i e sz by_ id l j m hk
  split at g
  ·rename_i y
   obtain⟨h0,h1⟩:=y;cases g;obtain⟨hu,ii,I,N,_⟩:=ig hk;simp only[rel]at q;obtain⟨⟨base,cap,rfl,hle,hb⟩,U,O⟩:=q;obtain⟨b,o,rfl⟩:=hb (by omega);refine⟨.pointer (some ⟨b,o+n.toNat*sz,none⟩),?_,?_⟩
   ·simp[wD,asIntOf,Sem.bk hu,h0,h1,Sem.run_sizeOf I,N,lf]
   ·simp only [rel]
    refine⟨⟨_,_,rfl⟩,U,fun hl=>?_⟩;obtain⟨g1,V,g2,m',g3,g4⟩:=O hl;simp only[kX,aM,D0]at g4;exact⟨g1,V,g2,by simp[g4.1.1,g4.1.2.1]⟩
  ·cases g
 ·rename_i m e sz a id ver w row col hk
  split at g
  ·rename_i y
   cases g;obtain⟨hu,hvk⟩:=AF hk;obtain⟨ii,dd,I,N,h4,_⟩:=lL hvk;simp only[rel]at q;obtain⟨⟨b,o,rfl⟩,U,O⟩:=q;refine⟨.pointer (some ⟨b,o+n.toNat*sz,none⟩),?_,?_⟩
   ·simp[wD,asIntOf,Sem.bk hu,y.1,y.2,Sem.run_sizeOf I,h4,lf,lE]
   ·simp only [rel]
    refine⟨⟨_,_,rfl⟩,U,fun hl=>?_⟩;obtain⟨V,n',e1,e2⟩:=O hl;simp only[alC,aM,D0]at e2;exact⟨V,n',e1,by simp[e2.1,e2.2.1,qT]⟩
  ·cases g
 ·rename_i m e sz a cells hk
  split at g
  ·rename_i y
   cases g;obtain⟨hu,hvk⟩:=AF hk;obtain⟨ii,dd,I,N,h4,_⟩:=lL hvk;simp only[rel]at q;obtain⟨hcl,b,o,rfl,W,O⟩:=q;refine⟨.pointer (some ⟨b,o+n.toNat*sz,none⟩),?_,?_⟩
   ·simp[wD,asIntOf,Sem.bk hu,y.1,y.2,Sem.run_sizeOf I,h4,lf,lE]
   ·simp only [rel]
    exact⟨wV _ _ (tF _ _ hcl),b,_,rfl,W,AE (rm O _) _⟩
  ·cases g
 ·cases g
def lO:AV->Option Int
 |.lit (.int _ n)=>some n
 |_=>none
def ij(len:Nat)(lo hi:Option AV):Option (Nat × Nat) :=
 match (match lo with|none=>some 0|some x=>lO x),(match hi with|none=>some (len:Int)|some x=>lO x)with
 |some l,some h=>if 0<=l/\l<=h/\h<=len then some (l.toNat,h.toNat) else none
 |_,_=>none
theorem tG{E:Env}{x:AV}{c:Value}{n:Int}(h:lO x=some n)(hr:rel E x c):∃ k,c=.int k n:=by
 unfold lO at h;split at h
 ·cases h
  simp only[rel]at hr;exact⟨_,hr⟩
 ·cases h
def LJ:List AV->Option (List G)
 | [.lit (.string s)]=>some [.s s]
 |_=>none
def tH:List (List AV)->Option (List (List G))
 | []=>some []
 | r::rs=>match LJ r,tH rs with
  |some g,some gs=>some (g::gs)
  |_,_=>none
theorem EB:∀{rows:List (List AV)} {gs:List (List G)},tH rows=some gs->gs.map (aD [.str])=rows
 | [],gs,h=>by
  simp only[tH,aM]at h;subst h;rfl
 | r::rs,gs,h=>by
  simp only[tH]at h;split at h
  ·rename_i g k h1 d
   cases h;rw[bX,EB d];unfold LJ at h1;split at h1
   ·cases h1; rfl
   ·cases h1
  ·cases h
def AG(w:Nat)(rows:List (List AV))(l n:Nat):AV:=match w,tH rows with
 |1,some gs=>.listF [.str] ((gs.drop l).take n)
 |_,_=>.list w ((rows.drop l).take n)
theorem W_{E:Env}{w l n:Nat}{rows:List (List AV)}{c:Value} (h:rel E (.list w ((rows.drop l).take n)) c):rel E (AG w rows l n) c:=by
 unfold AG;split
 ·rename_i gs d
  rw[jq,K3,D1,EB d];exact h
 ·exact h
def mF(P:Program)(t:TypeId)(x:AV)(lo hi mx:Option AV):Option AV :=
 match cD P t,x with
 | .str,.lit (.string s)=>match mx,ij s.size lo hi with
  |none,some (l,h)=>some (.lit (.string (s.extract l h)))
  |_,_=>none
 | .slice _ sz _,.list w rows=>match mx with
  | none=>match ij rows.length lo hi with
   |some (l,h)=>if w=sz then some (AG w rows l (h-l)) else none
   |none=>none
  |some m=>if hi.isSome/\ij rows.length lo hi=some (0,0)/\lO m=some 0 then some .nils else none
 | .slice _ sz _,.listF ks rows=>match mx with
  | none=>match ij rows.length lo hi with
   |some (l,h)=>if ks.length=sz then some (.listF ks ((rows.drop l).take (h-l))) else none
   |none=>none
  |some m=>if hi.isSome/\ij rows.length lo hi=some (0,0)/\lO m=some 0 then some .nils else none
 | .slice _ sz _,.vec w id ver off n=>match mx with
  | none=>match ij n lo hi with
   |some (l,h)=>if w=sz then some (.vec w id ver (off+l) (h-l)) else none
   |none=>none
  |some m=>if hi.isSome/\ij n lo hi=some (0,0)/\lO m=some 0 then some .nils else none
 | .slice _ _ _,.nils=>match mx with
  |none=>if (ij 0 lo hi).isSome then some .nils else none
  |some _=>none
 | .slice _ _ _,.lit (.slice none 0 0)=>match mx with
  |none=>if (ij 0 lo hi).isSome then some (.lit (.slice none 0 0)) else none
  |some m=>if hi.isSome/\ij 0 lo hi=some (0,0)/\lO m=some 0 then some (.lit (.slice none 0 0)) else none
 |_,_=>none
theorem tJ{P:Program}{E:Env}{len cap:Nat}{lo hi:Option AV}{clo q:Option Value}{l h:Nat}(isSlice:Bool)(hb:ij len lo hi=some (l,h))(hle:len<=cap)
  (h1:∀ x,lo=some x->∃ c,clo=some c/\rel E x c) (v:lo=none->clo=none)
  (M:∀ x,hi=some x->∃ c,q=some c/\rel E x c) (I:hi=none->q=none) (w:World) :
  (s_ isSlice len cap clo q none).run P w=.ok (l,h,cap) w/\l<=h/\h<=len:=by
 unfold ij at hb;split at hb
 case h_2=>cases hb
 rename_i a b g u;split at hb
 case isFalse=>cases hb
 rename_i d;simp only[aM,aU]at hb;obtain⟨rfl,rfl⟩:=hb;obtain⟨y,c1,c2⟩:=d;refine⟨?_,by omega,by omega⟩;cases hi with
 | none =>
  rw[I rfl];simp at u;subst u;cases lo with
  | none =>
   rw[v rfl];simp at g;subst g;simp[s_]
  | some x =>
   obtain⟨c,rfl,d⟩:=h1 x rfl;obtain⟨k,rfl⟩:=tG g d;simp[s_,D2,asIntOf,y,c1]
 | some z =>
  obtain⟨c,rfl,d⟩:=M z rfl;obtain⟨k,rfl⟩:=tG u d;have g1:b<=(cap:Int):=by omega
  have g2:0<=b:=by omega
  cases lo with
  | none =>
   rw[v rfl];simp at g;subst g;simp[s_,D2,asIntOf,g1,g2]
  | some x =>
   obtain⟨c,rfl,d⟩:=h1 x rfl;obtain⟨k',rfl⟩:=tG g d;have g4:¬ (max b 0<a):=by omega
   simp[s_,D2,asIntOf,g1,g2,y,g4]
theorem LK{E:Env}{k:Nat}{rows:List (List AV)}{b o:Nat}(h:cy E k rows b o)(l n:Nat) :
  cy E k ((rows.drop l).take n) b (o+l*k):=by
 rw[mD]at *;intro i r hi;rw[nk]at hi;split at hi
 ·rw [qU] at hi
  have:=h (l+i) r hi
  rwa [fM,<-qT]at this
 ·cases hi
def pI(E:Env):Option AV->Option Value->Prop
 |none,none=>True
 |some x,some c=>rel E x c
 |_,_=>False
theorem EC{E:Env}{lo:Option AV}{clo:Option Value}(h:pI E lo clo):(∀ x,lo=some x->∃ c,clo=some c/\rel E x c)/\(lo=none->clo=none):=by
 cases lo<;>cases clo<;>simp_all[pI]
theorem LL{E:Env}{w l h cap:Nat}{rows:List (List AV)}{base:Option Addr}(d:eD rows)(hle:rows.length<=cap)(h1:l<=h)(k:h<=rows.length)
  (q:rows=[]\/∃ b o,base=some ⟨b,o,none⟩/\E.jN b/\cy E w rows b o) :
  rel E (.list w ((rows.drop l).take (h-l))) (.slice (if cap=l then base else base.map (·.add (l*w))) (h-l) (cap-l)):=by
 simp only[rel];have hlen:((rows.drop l).take (h-l)).length=h-l:=by simp; omega
 refine⟨fun r hr=>d r (zQ (wE hr)),_,cap-l,by rw[hlen],by rw[hlen]; omega,?_⟩;rcases Nat.eq_or_lt_of_le h1 with rfl|u
 ·left; simp
 ·right
  rcases q with rfl|⟨b,o,rfl,g,hr⟩
  ·simp at k; omega
  ·refine ⟨b, o + l * w, ?_, g, LK hr l (h - l)⟩
   rw[if_neg (by omega)];simp[lf]
theorem Xa{E:Env}{w id ver off n l h:Nat}{base:Option Addr}{cap:Nat}(hr:rel E (.vec w id ver off n) (.slice base n cap))(h1:l<=h)(V:h<=n) :
  rel E (.vec w id ver (off+l) (h-l)) (.slice (if cap=l then base else base.map (·.add (l*w))) (h-l) (cap-l)):=by
 simp only[rel]at hr|-;obtain⟨⟨q,U,e,hle,hb⟩,v,y⟩:=hr;simp only[kX]at e;obtain⟨rfl,_,rfl⟩:=e;refine⟨⟨_,_,rfl,by omega,fun W=>?_⟩,v,fun I=>?_⟩
 ·obtain ⟨b, o, rfl⟩ := hb (by omega)
  rw[if_neg (by omega)];exact⟨b,o+l*w,by simp[lf]⟩
 ·obtain ⟨g1, g2⟩ := y I
  refine⟨fun d=>?_,fun b m d=>?_⟩
  ·obtain ⟨rfl, rfl, q, e⟩ := g1 d
   simp only[kX]at e;refine⟨by omega,by omega,?_⟩;have M:h-l=0:=by omega
   have N:cap-l=0:=by omega
   rw[M,N];exact⟨_,rfl⟩
  ·obtain ⟨q1, o, O, g⟩ := g2 b m d
   simp only[kX]at g;obtain⟨rfl,_,rfl⟩:=g;refine⟨by omega,?_⟩;by_cases k:m-off=l
   ·rw [if_pos k]
    exact⟨o,fun u=>by omega,by rw[alD]⟩
   ·rw [if_neg k]
    refine⟨o+l*w,fun u=>?_,by simp[lf,alD]⟩;rw[O (by omega),fM]
theorem AH{P:Program}{E:Env}{len:Nat}{lo hi:Option AV}{m:AV}{clo g:Option Value}{q:Value}
  (hb:ij len lo hi=some (0,0)) (I:hi.isSome=true) (hm:lO m=some 0)
  (h1:∀ x,lo=some x->∃ c,clo=some c/\rel E x c) (u:lo=none->clo=none)
  (M:∀ x,hi=some x->∃ c,g=some c/\rel E x c) (v:rel E m q) (cap:Nat) (w:World) :
  (s_ true len cap clo g (some q)).run P w=.ok (0,0,0) w:=by
 obtain⟨k,rfl⟩:=tG hm v;obtain⟨z,rfl⟩:=D3.1 I;obtain⟨c,rfl,d⟩:=M z rfl;unfold ij at hb;split at hb
 case h_2=>cases hb
 rename_i a b N O;split at hb
 case isFalse=>cases hb
 rename_i U;simp only[aM,aU]at hb;obtain⟨k',rfl⟩:=tG O d;have ha:a=0:=by omega
 have y:b=0:=by omega
 subst ha; subst y;cases lo with
 | none =>
  rw[u rfl];simp[s_,D2,asIntOf]
 | some x =>
  obtain⟨c,rfl,d⟩:=h1 x rfl;obtain⟨V,rfl⟩:=tG N d;simp[s_,D2,asIntOf]
theorem Xb{P:Program}{E:Env}{t:TypeId}{x v:AV}{lo hi mx:Option AV}{c:Value}{clo chi cmx:Option Value}
  (d:mF P t x lo hi mx=some v) (q:rel E x c) (hlo:pI E lo clo) (hhi:pI E hi chi) (hmx:pI E mx cmx) :
  ∃ u,(oe t c clo chi cmx).run P E.w=.ok u E.w/\rel E v u:=by
 obtain⟨I,y⟩:=EC hlo;obtain⟨M,N⟩:=EC hhi;obtain⟨W,O⟩:=EC hmx;unfold mF at d;split at d
 ·rename_i s hk
  have hu:=rq hk;simp only[rel]at q;subst q;split at d
  ·rename_i l h hb
   cases d;rw[O rfl];obtain⟨g1,g2,g3⟩:=tJ (P:=P) (E:=E) (cap:=s.size) false hb (aB _) I y M N E.w;refine⟨.string (s.extract l h),?_,by simp[rel]⟩;simp[oe,pn,Sem.bk hu,g1]
  ·cases d
 ·rename_i e sz V w rows hk
  obtain⟨hu,ii,i1,i2,_⟩:=ig hk;have U:=q;simp only[rel]at q;obtain⟨hcl,base,cap,rfl,hle,hh⟩:=q;split at d
  ·split at d
   ·rename_i l h hb
    split at d
    ·rename_i hw
     subst hw;cases d;rw[O rfl];obtain⟨g1,g2,g3⟩:=tJ (P:=P) (E:=E) (cap:=cap) true hb hle I y M N E.w;refine⟨_,?_,W_ (LL (cap:=cap) hcl hle g2 g3 hh)⟩;simp[oe,pn,Sem.bk hu,g1,Sem.run_sizeOf i1,i2]
    ·cases d
   ·cases d
  ·rename_i m
   split at d
   ·rename_i k
    cases d;obtain⟨cm,rfl,hm⟩:=W m rfl;have g:=AH (P:=P) k.2.1 k.1 k.2.2 I y M hm cap E.w;refine⟨.slice base 0 0,?_,by simp only[rel]; exact⟨base,rfl⟩⟩;simp[oe,pn,Sem.bk hu,g,Sem.run_sizeOf i1,i2]
   ·cases d
 ·rename_i e sz V ks rows hk
  obtain⟨hu,ii,i1,i2,_⟩:=ig hk;have U:=jq.1 q;simp only[rel]at U;obtain⟨hcl,base,cap,rfl,hle,hh⟩:=U;simp only[bN]at hle q|-;split at d
  ·split at d
   ·rename_i l h hb
    split at d
    ·rename_i hw
     subst hw;cases d;rw[O rfl];obtain⟨g1,g2,g3⟩:=tJ (P:=P) (E:=E) (cap:=cap) true hb hle I y M N E.w;have:=LL (cap:=cap) hcl (by simpa using hle) g2 (by simpa using g3) hh;have e:((rows.map (aD ks)).drop l).take (h-l)=((rows.drop l).take (h-l)).map (aD ks):=by rw[K3,D1]
     rw[e]at this;refine⟨_,?_,jq.2 this⟩;simp[oe,pn,Sem.bk hu,g1,Sem.run_sizeOf i1,i2]
    ·cases d
   ·cases d
  ·rename_i m
   split at d
   ·rename_i k
    cases d;obtain⟨cm,rfl,hm⟩:=W m rfl;have g:=AH (P:=P) k.2.1 k.1 k.2.2 I y M hm cap E.w;refine⟨.slice base 0 0,?_,by simp only[rel]; exact⟨base,rfl⟩⟩;simp[oe,pn,Sem.bk hu,g,Sem.run_sizeOf i1,i2]
   ·cases d
 ·rename_i e sz V w id ver off n hk
  obtain⟨hu,ii,i1,i2,_⟩:=ig hk;have U:=q;simp only[rel]at q;obtain⟨⟨base,cap,rfl,hle,_⟩,_,_⟩:=q;split at d
  ·split at d
   ·rename_i l h hb
    split at d
    ·rename_i hw
     subst hw;cases d;rw[O rfl];obtain⟨g1,g2,g3⟩:=tJ (P:=P) (E:=E) (cap:=cap) true hb hle I y M N E.w;refine⟨_,?_,Xa U g2 g3⟩;simp[oe,pn,Sem.bk hu,g1,Sem.run_sizeOf i1,i2]
    ·cases d
   ·cases d
  ·rename_i m
   split at d
   ·rename_i k
    cases d;obtain⟨cm,rfl,hm⟩:=W m rfl;have g:=AH (P:=P) k.2.1 k.1 k.2.2 I y M hm cap E.w;refine⟨.slice base 0 0,?_,by simp only[rel]; exact⟨base,rfl⟩⟩;simp[oe,pn,Sem.bk hu,g,Sem.run_sizeOf i1,i2]
   ·cases d
 ·rename_i e sz V hk
  obtain⟨hu,ii,i1,i2,_⟩:=ig hk;simp only[rel]at q;obtain⟨base,rfl⟩:=q;split at d
  ·split at d
   ·rename_i hb
    cases d;obtain⟨⟨l,h⟩,hb⟩:=D3.1 hb;rw[O rfl];obtain⟨g1,g2,g3⟩:=tJ (P:=P) (E:=E) (cap:=0) true hb (aB _) I y M N E.w;have:h=0:=by omega
    subst this;have:l=0:=by omega
    subst this;refine⟨.slice base 0 0,?_,by simp only[rel]; exact⟨base,rfl⟩⟩;simp[oe,pn,Sem.bk hu,g1,Sem.run_sizeOf i1,i2]
   ·cases d
  ·cases d
 ·rename_i e sz V hk
  obtain⟨hu,ii,i1,i2,_⟩:=ig hk;simp only[rel]at q;subst q;split at d
  ·split at d
   ·rename_i hb
    cases d;obtain⟨⟨l,h⟩,hb⟩:=D3.1 hb;rw[O rfl];obtain⟨g1,g2,g3⟩:=tJ (P:=P) (E:=E) (cap:=0) true hb (aB _) I y M N E.w;have:h=0:=by omega
    subst this;have:l=0:=by omega
    subst this;refine⟨.slice none 0 0,?_,by simp only[rel]⟩;simp[oe,pn,Sem.bk hu,g1,Sem.run_sizeOf i1,i2]
   ·cases d
  ·rename_i m
   split at d
   ·rename_i k
    cases d;obtain⟨cm,rfl,hm⟩:=W m rfl;have g:=AH (P:=P) k.2.1 k.1 k.2.2 I y M hm 0 E.w;refine⟨.slice none 0 0,?_,by simp only[rel]⟩;simp[oe,pn,Sem.bk hu,g,Sem.run_sizeOf i1,i2]
   ·cases d
 ·cases d
end Go.AL

namespace Go.AL
open Go
variable [Dr]
def kindOk:SK->Value->Bool
 |.int k,.int k' _=>k=k'
 |.str,.string _=>true
 |.bool,.bool _=>true
 |_,_=>false
def pJ:Value->Value->Bool
 |.int _ a,.int _ b=>a==b
 |.string a,.string b=>a.toList==b.toList
 |.bool a,.bool b=>a==b
 |_,_=>false
def dN:List Value->List Value->Bool
 | [],[]=>true
 |a::as,b::d=>pJ a b&&dN as d
 |_,_=>false
def cR:List SK->List Value->Bool
 | [],[]=>true
 |k::ks,v::vs=>kindOk k v&&cR ks vs
 |_,_=>false
def tK(P:Program)(f:TypeId->Option (List SK)):List Field->Nat->Option (List SK)
 | [],_=>some []
 | x::d,off=>if x.name = "_" \/ x.offset≠off then none else
  match f x.type,fP P x.type with
  |some ks,some (n,_)=>if n=ks.length then (match tK P f d (off+n)with|some l=>some (ks++l)|none=>none) else none
  |_,_=>none
def flatK(P:Program):Nat->TypeId->Option (List SK)
 |0,_=>none
 | d+1,t=>match P.underlying t with
  |some (.int k)=>some [.int k]
  |some .string=>some [.str]
  |some .bool=>some [.bool]
  |some (.struct g)=>if P.stoodInHeld t then none else tK P (fun t=>flatK P d t) g.toList 0
  |_=>none
abbrev wY(P:Program)(d:Nat)(g:List Field)(off:Nat):Option (List SK):=tK P (fun t=>flatK P d t) g off
theorem LM:∀(a b c d:List Value),a.length=c.length->dN (a++b) (c++d)=(dN a c&&dN b d)
 | [],b,[],d,_=>by simp[dN]
 | x::a,b,y::c,d,h=>by
  simp only[kY,dN,LM a b c d (by simpa using h),alE]
 | [],_,_::_,_,h=>by simp at h
 |_::_,_,[],_,h=>by simp at h
theorem tL:∀{ks:List SK} {vs:List Value},cR ks vs=true->ks.length=vs.length
 | [],[],_=>rfl
 |_::ks,_::vs,h=>by simp only[cR,ax]at h; simp[tL h.2]
 | [],_::_,h=>by simp[cR]at h
 |_::_,[],h=>by simp[cR]at h
theorem AI:∀{a b:List SK} {vs:List Value},cR (a++b) vs=true->cR a (vs.take a.length)=true/\cR b (vs.drop a.length)=true
 | [],b,vs,h=>by simpa[cR]using h
 |k::a,b,[],h=>by simp[cR]at h
 | k::a,b,v::vs,h=>by
  simp only[kY,cR,ax]at h;have:=AI h.2;simp only[bG,DZ,cR,ax,List.drop_succ_cons];exact⟨⟨h.1,this.1⟩,this.2⟩
def isVal(P:Program)(t:TypeId)(x:Value)(vs:List Value):Prop :=
 match P.underlying t with
 |some (.struct _)=>∃ a:Array Value,x=.agg a/\a.toList=vs
 |_=>vs=[x]
theorem ED{P:Program}{t:TypeId}{n:Nat}{agg:Bool}{ks:List SK}{d:Nat}(v:fP P t=some (n,agg))(hk:flatK P d t=some ks)(q:n=ks.length)
  (cs:Array Value) (off:Nat) (u:cR ks ((cs.toList.drop off).take n)=true) (w:World) :
  ∃ x,(part t cs off).run P w=.ok x w/\isVal P t x ((cs.toList.drop off).take n):=by
 obtain⟨i,d',h1,g,y,I⟩:=lL v;cases d with
 |zero=>simp[flatK]at hk
 | succ d =>
  unfold flatK at hk;rw[g]at hk;have hlen:=tL u;cases d' with
  | struct M =>
   refine⟨.agg (cs.extract off (off+n)),?_,?_⟩
   ·simp[part,Sem.pH g,rk,Sem.run_sizeOf h1,y]
   ·simp only [isVal, g]
    refine⟨_,rfl,?_⟩;simp
  | int k =>
   simp at hk;subst hk;simp at q;subst q;have:off<cs.size:=by simp at hlen; omega
   refine⟨cs[off],?_,?_⟩
   ·simp[part,Sem.pH g,rk,this]
   ·simp[isVal,g,Wf,this]
  | string =>
   simp at hk;subst hk;simp at q;subst q;have:off<cs.size:=by simp at hlen; omega
   refine⟨cs[off],?_,?_⟩
   ·simp[part,Sem.pH g,rk,this]
   ·simp[isVal,g,Wf,this]
  | bool =>
   simp at hk;subst hk;simp at q;subst q;have:off<cs.size:=by simp at hlen; omega
   refine⟨cs[off],?_,?_⟩
   ·simp[part,Sem.pH g,rk,this]
   ·simp[isVal,g,Wf,this]
  |_=>simp at hk
theorem Xc{P:Program}{t:TypeId}{d:Array Field}(h:P.underlying t=some (.struct d)):P.underlying t=some (.struct (P.fieldsOf t)):=by
 simp[alF,h]
mutual
theorem EE{P:Program}:∀(d:Nat) (t:TypeId) (ks:List SK),flatK P d t=some ks->∀(D:Nat),d<=D->∀(x y:Value) (vs us:List Value),
  isVal P t x vs->isVal P t y us->cR ks vs=true->cR ks us=true->∀ w,(kZ D t x y).run P w=.ok (dN vs us) w
 |0,_,_,hk=>by simp[flatK]at hk
 | d+1,t,ks,hk=>by
  intro D hD x y vs us u v g q w;obtain⟨D,rfl⟩:∃ M,D=M+1:=⟨D-1,by omega⟩
  unfold flatK at hk;cases hu:P.underlying t with
  |none=>rw[hu]at hk; cases hk
  | some N =>
   rw[hu]at hk;cases N with
   | struct I =>
    simp only[]at hk;split at hk
    ·cases hk
    rename_i O;simp only[isVal,hu]at u v;obtain⟨a,rfl,rfl⟩:=u;obtain⟨b,rfl,rfl⟩:=v;have U:P.fieldsOf t=I:=by simp[alF,hu]
    rw[run_equalIn_struct w D t a b (Xc hu) (by simpa using O),U];have:=LN d I.toList 0 ks hk D (by omega) a b (by simpa using g) (by simpa using q) w;simpa using this
   | int k =>
    simp at hk;subst hk;simp only[isVal,hu]at u v;subst u; subst v;simp only[cR,gD]at g q;unfold kindOk at g q;split at g<;>split at q<;>simp_all[kZ,dN,pJ,Sem.bk hu]
   | string =>
    simp at hk;subst hk;simp only[isVal,hu]at u v;subst u; subst v;simp only[cR,gD]at g q;unfold kindOk at g q;split at g<;>split at q<;>simp_all[kZ,dN,pJ,Sem.bk hu,beq_toListBytes]
   | bool =>
    simp at hk;subst hk;simp only[isVal,hu]at u v;subst u; subst v;simp only[cR,gD]at g q;unfold kindOk at g q;split at g<;>split at q<;>simp_all[kZ,dN,pJ,Sem.bk hu]
   |_=>simp at hk
theorem LN{P:Program}:∀(d:Nat) (v:List Field) (off:Nat) (ks:List SK),wY P d v off=some ks->∀(D:Nat),d<=D->∀(xs g:Array Value),
  cR ks (xs.toList.drop off)=true->cR ks (g.toList.drop off)=true->∀ w,(Wg D xs g v).run P w=.ok (dN (xs.toList.drop off) (g.toList.drop off)) w
 | d,[],off,ks,hk=>by
  intro D hD xs g O U w;simp[wY,tK]at hk;subst hk;have h1:=tL O;have h2:=tL U;have k:xs.toList.drop off=[]:=ta (by rw[<-h1]; rfl);have I:g.toList.drop off=[]:=ta (by rw[<-h2]; rfl);rw[k,I];simp[Wg,dN]
 | d,f::v,off,ks,hk=>by
  intro D hD xs g O U w;unfold wY tK at hk;split at hk
  ·cases hk
  rename_i W;split at hk
  case h_2=>cases hk
  rename_i k1 n ag k I;split at hk
  case isFalse=>cases hk
  rename_i V;split at hk
  case h_2=>cases hk
  rename_i l e3;cases hk;have hname:f.name ≠ "_" := fun e=>W (.inl e);have hoff:f.offset=off:=by
   by_cases e:f.offset=off
   ·exact e
   ·exact(W (.inr e)).elim
  obtain⟨q,M⟩:=AI O;obtain⟨u,N⟩:=AI U;rw[<-V]at q M u N;obtain⟨x,px,vx⟩:=ED I k V xs off q w;obtain⟨y,py,vy⟩:=ED I k V g off u w;have he:=EE d f.type k1 k D hD x y _ _ vx vy q u w;have hrest:=LN d v (off+n) l e3 D hD xs g (by rw[qV]at M; exact M) (by rw[qV]at N; exact N) w;have hsplit:dN (xs.toList.drop off) (g.toList.drop off) =
    (dN ((xs.toList.drop off).take n) ((g.toList.drop off).take n)&&dN (xs.toList.drop (off+n)) (g.toList.drop (off+n))):=by
   rw[<-LM _ _ _ _ (by rw[<-tL q,<-tL u]),<-qV,<-qV,wF,wF]
  simp only[Wg,hname,ne_eq,not_false_eq_true,if_true,bS,hoff,px,py,bT,he,hsplit];cases dN ((xs.toList.drop off).take n) ((g.toList.drop off).take n)<;>simp[hrest]
end
def ox:List AV->Option (List Value)
 | []=>some []
 | .lit v::as=>match ox as with
  |some l=>some (v::l)
  |none=>none
 |_=>none
theorem AJ{E:Env}:∀{as:List AV} {l vs:List Value},ox as=some l->ae E as vs->vs=l
 | [],l,[],h,_=>by simp[ox]at h; exact h.symm
 | [],_,_::_,_,hr=>by simp[ae]at hr
 |_::_,_,[],_,hr=>by simp[ae]at hr
 | a::as,l,v::vs,h,hr=>by
  simp only[ae]at hr;cases a<;>simp only[ox]at h<;>try cases h
  split at h
  ·rename_i u l' d
   cases h;have:=AJ d hr.2;have h1:=hr.1;simp only[rel]at h1;rw[h1,this]
  ·cases h
def oy:Option TypeDesc->Bool
 |some (.struct _)=>true
 |_=>false
def lg(op:BinOp)(b:Bool):Option AV :=
 match op with
 |.eql=>some (.bool b)
 |.neq=>some (.bool !b)
 |_=>none
def oz:Nat:=6
def EF(P:Program)(op:BinOp)(t:TypeId)(d:Bool)(a b:Value):Option AV :=
 match a,b with
 | .bool a,.bool b=>match P.underlying t with
  |some .bool=>lg op (a==b)
  |_=>none
 | .slice none 0 0,.slice none 0 0=>match P.underlying t with
  |some (.slice _)=>lg op true
  |_=>none
 |.nilIface,.nilIface=>if d then (match P.underlying t with|some (.interface _)=>lg op true|_=>none) else none
 |_,_=>none
def kn(P:Program)(op:BinOp)(t:TypeId)(d:Bool)(x y:AV):Option AV :=
 match x,y with
 | .lit a,.lit b=>match km op a b with
  |some v=>some (.lit v)
  |none=>EF P op t d a b
 | .agg as,.agg g=>match flatK P oz t,ox as,ox g with
  |some ks,some l,some m=>if P.eqGuardType P.depth t=false/\cR ks l=true/\cR ks m=true/\oy (P.underlying t)=true then lg op (dN l m) else none
  |_,_,_=>none
 | .emptyS n,.lit (.slice none 0 0)=>match P.underlying t with
  |some (.slice _)=>lg op n
  |_=>none
 | .listF _ rows,.lit (.slice none 0 0)=>match P.underlying t with
  |some (.slice _)=>if 0<rows.length then lg op false else none
  |_=>none
 | .vec _ _ _ _ m,.lit (.slice none 0 0)=>match P.underlying t with
  |some (.slice _)=>if 0<m then lg op false else none
  |_=>none
 | .ifc,.lit .nilIface | .lit .nilIface,.ifc=>match P.underlying t with
  |some (.interface _)=>lg op false
  |_=>none
 | .sub _ _ j,.lit (.map none)=>match P.underlying t with
  |some (.map _ _)=>lg op j.isNone
  |_=>none
 |_,_=>none
theorem LO{P:Program}{t:Nat}{k:IntKind}(h:cD P t=.int k):P.underlying t=some (.int k):=by
 unfold cD at h;split at h
 ·split at h<;>cases h
 ·split at h<;>cases h
 ·cases h
 ·rename_i h1; cases h; exact h1
 ·cases h
 ·cases h
theorem mG{P:Program}{op:BinOp}{b:Bool}{v:AV}{t:TypeId}{x y:Operand}{c d:Value}{w:World}(h:lg op b=some v)
  (g:(eqGuard op t x y c d).run P w=.ok () w) (he:(zR t c d).run P w=.ok b w)
  (hb:∀ op,op=.eql\/op=.neq->(binOp op t c d)=(match op with | .eql=>(do pure (.bool (<- zR t c d)))|_=>(do pure (.bool (!(<- zR t c d)))))) :
  ∃ u,(do eqGuard op t x y c d; binOp op t c d:Sem Value).run P w=.ok u w/\∀ E,rel E v u:=by
 unfold lg at h;split at h
 ·cases h
  refine⟨.bool b,?_,fun E=>by simp[rel]⟩;simp only[bS,g,bT,hb .eql (.inl rfl)];simp[he]
 ·cases h
  refine⟨.bool !b,?_,fun E=>by simp[rel]⟩;simp only[bS,g,bT,hb .neq (.inr rfl)];simp[he]
 ·cases h
end Go.AL

namespace Go.AL
open Go
variable [Dr]
theorem nw{P:Program}{t:TypeId}{c d:Value}{b:Bool}{w:World} (h:∀ n,(kZ (n+1) t c d).run P w=.ok b w) :
  (zR t c d).run P w=.ok b w:=h 9999
theorem Xd{P:Program}{op:BinOp}{t:TypeId}{x y:Operand} (h:((x matches .const _)||(y matches .const _))=true) (w:World) :
  (eqGuard op t x y .nilIface .nilIface).run P w=.ok () w:=by
 cases x<;>cases y<;>first
  |(cases op<;>rfl)
  |(simp at h; done)
theorem Xe{P:Program}{E:Env}{op:BinOp}{t:TypeId}{x y:Operand}{p q:Value}{v:AV}{k:Bool}
  (I:k=true->((x matches .const _)||(y matches .const _))=true) (h:EF P op t k p q=some v) :
  ∃ u,(do eqGuard op t x y p q; binOp op t p q:Sem Value).run P E.w=.ok u E.w/\rel E v u:=by
 unfold EF at h;split at h
 ·rename_i a b
  split at h
  ·rename_i hu
   obtain⟨u,h1,g⟩:=mG (P:=P) (t:=t) (x:=x) (y:=y) (c:=.bool a) (d:=.bool b) (w:=E.w) h (by cases op<;>simp[eqGuard]<;>rfl)
    (nw fun n=>by simp[kZ,Sem.bk hu]) (by rintro op (rfl|rfl)<;>rfl)
   exact⟨u,h1,g E⟩
  ·cases h
 ·split at h
  ·rename_i hu
   obtain⟨u,h1,g⟩:=mG (P:=P) (t:=t) (x:=x) (y:=y) (c:=.slice none 0 0) (d:=.slice none 0 0) (w:=E.w) h (by cases op<;>simp[eqGuard]<;>rfl)
    (nw fun n=>by simp[kZ,Sem.bk hu]) (by rintro op (rfl|rfl)<;>rfl)
   exact⟨u,h1,g E⟩
  ·cases h
 ·split at h
  ·rename_i M
   split at h
   ·rename_i ms hu
    obtain⟨u,h1,g⟩:=mG (P:=P) (t:=t) (x:=x) (y:=y) (c:=.nilIface) (d:=.nilIface) (w:=E.w) h
     (Xd (I M) _)
     (nw fun n=>by simp[kZ,Sem.bk hu]) (by rintro op (rfl|rfl)<;>rfl)
    exact⟨u,h1,g E⟩
   ·cases h
  ·cases h
 ·cases h
theorem Xf{P:Program}{E:Env}{op:BinOp}{t:TypeId}{x y:Operand}{a b v:AV}{c d:Value}
  {kk:Bool} (hkk:kk=true->((x matches .const _)||(y matches .const _))=true) (h:kn P op t kk a b=some v) (g:rel E a c) (k:rel E b d) :
  ∃ u,(do eqGuard op t x y c d; binOp op t c d:Sem Value).run P E.w=.ok u E.w/\rel E v u:=by
 unfold kn at h;split at h
 ·rename_i p q
  simp only[rel]at g k;rw[g,k];clear g k c d;split at h
  ·rename_i u hu
   cases h;refine⟨u,?_,by simp[rel]⟩;simp only[bS];rw[W5 op t x y p q (fun _ _=>trivial) (by simp[hu])];simp only[bT];exact W4 op t p q u hu E.w
  ·exact Xe hkk h
 ·rename_i as bs
  split at h
  case h_2=>cases h
  rename_i ks l m h1 I h3;by_cases O:P.eqGuardType P.depth t=false/\cR ks l=true/\cR ks m=true/\oy (P.underlying t)=true
  case neg=>rw[if_neg O]at h; cases h
  rw[if_pos O]at h;obtain⟨g1,g2,g3,g4⟩:=O;simp only[rel]at g k;obtain⟨xs,rfl,_,g⟩:=g;obtain⟨M,rfl,_,k⟩:=k;have ex:=AJ I g;have ey:=AJ h3 k;unfold oy at g4;split at g4
  case h_2=>cases g4
  rename_i fs hu;have:=EE oz t ks h1 10000 (by decide) (.agg xs) (.agg M) l m (by simp only[isVal,hu]; exact⟨xs,rfl,ex⟩)
   (by simp only[isVal,hu]; exact⟨M,rfl,ey⟩) g2 g3 E.w
  obtain⟨u,q1,q2⟩:=mG (P:=P) (t:=t) (x:=x) (y:=y) (c:=.agg xs) (d:=.agg M) (w:=E.w) h (run_eqGuard_agg E.w op t x y xs M g1)
   (by simpa[zR,Op.maxDepth]using this) (by rintro op (rfl|rfl)<;>rfl)
  exact⟨u,q1,q2 E⟩
 ·simp only [rel] at g k
  subst k;obtain⟨b,cap,rfl,hb⟩:=g;split at h
  ·rename_i el hu
   obtain⟨u,h1,I⟩:=mG (P:=P) (t:=t) (x:=x) (y:=y) (c:=.slice b 0 cap) (d:=.slice none 0 0) (w:=E.w) h (by cases op<;>simp[eqGuard]<;>rfl)
    (nw fun n=>by cases b<;>simp[kZ,Sem.bk hu]<;>simpa using hb.symm) (by rintro op (rfl|rfl)<;>rfl)
   exact⟨u,h1,I E⟩
  ·cases h
 ·rename_i ks rows
  simp only[rel,eo,G.rows]at g k;subst k;obtain⟨b,cap,rfl,_,hb⟩:=g;split at h
  ·rename_i el hu
   split at h
   ·rename_i N
    rcases hb with rfl|⟨U,o',rfl,_⟩
    ·simp at N
    obtain⟨u,h1,I⟩:=mG (P:=P) (t:=t) (x:=x) (y:=y) (c:=.slice (some ⟨U,o',none⟩) rows.length cap) (d:=.slice none 0 0) (w:=E.w) h (by cases op<;>simp[eqGuard]<;>rfl)
     (nw fun n=>by simp[kZ,Sem.bk hu]) (by rintro op (rfl|rfl)<;>rfl)
    exact⟨u,h1,I E⟩
   ·cases h
  ·cases h
 ·rename_i m
  simp only[rel]at g k;subst k;obtain⟨⟨b,cap,rfl,_,hb⟩,_⟩:=g;split at h
  ·rename_i el hu
   split at h
   ·rename_i N
    obtain⟨U,o',rfl⟩:=hb N;obtain⟨u,h1,I⟩:=mG (P:=P) (t:=t) (x:=x) (y:=y) (c:=.slice (some ⟨U,o',none⟩) m cap) (d:=.slice none 0 0) (w:=E.w) h (by cases op<;>simp[eqGuard]<;>rfl)
     (nw fun n=>by simp[kZ,Sem.bk hu]) (by rintro op (rfl|rfl)<;>rfl)
    exact⟨u,h1,I E⟩
   ·cases h
  ·cases h
 ·simp only [rel] at g k
  subst k;obtain⟨V,W,rfl⟩:=g;split at h
  ·rename_i ms hu
   obtain⟨u,h1,I⟩:=mG (P:=P) (t:=t) (x:=x) (y:=y) (c:=.iface V W) (d:=.nilIface) (w:=E.w) h (by cases op<;>simp[eqGuard]<;>rfl)
    (nw fun n=>by simp[kZ,Sem.bk hu]) (by rintro op (rfl|rfl)<;>rfl)
   exact⟨u,h1,I E⟩
  ·cases h
 ·simp only [rel] at g k
  subst g;obtain⟨V,W,rfl⟩:=k;split at h
  ·rename_i ms hu
   obtain⟨u,h1,I⟩:=mG (P:=P) (t:=t) (x:=x) (y:=y) (c:=.nilIface) (d:=.iface V W) (w:=E.w) h (by cases op<;>simp[eqGuard]<;>rfl)
    (nw fun n=>by simp[kZ,Sem.bk hu]) (by rintro op (rfl|rfl)<;>rfl)
   exact⟨u,h1,I E⟩
  ·cases h
 ·rename_i id l jj
  simp only[rel]at g k;subst k;split at h
  ·rename_i kt el hu
   rcases g with⟨rfl,rfl⟩|⟨i,rfl,⟨b,rfl⟩,_⟩
   ·obtain ⟨u,h1,I⟩:=mG (P:=P) (t:=t) (x:=x) (y:=y) (c:=.map none) (d:=.map none) (w:=E.w) h (by cases op<;>simp [eqGuard]<;>rfl)
     (nw fun n=>by simp[kZ,Sem.bk hu]) (by rintro op (rfl|rfl)<;>rfl)
    exact⟨u,h1,I E⟩
   ·obtain ⟨u,h1,I⟩:=mG (P:=P) (t:=t) (x:=x) (y:=y) (c:=.map (some b)) (d:=.map none) (w:=E.w) h (by cases op<;>simp [eqGuard]<;>rfl)
     (nw fun n=>by simp[kZ,Sem.bk hu]) (by rintro op (rfl|rfl)<;>rfl)
    exact⟨u,h1,I E⟩
  ·cases h
 ·cases h
def tM(op:UnOp)(x:AV):Option AV :=
 match op,x with
 |.not,.lit (.bool b)=>some (.bool !b)
 |.neg,.lit (.int k n)=>some (.lit (.int k (k.wrap (0-n))))
 |_,_=>none
theorem Xg{P:Program}{E:Env}{op:UnOp}{x v:AV}{c:Value}(h:tM op x=some v)(d:rel E x c) :
  ∃ u,(Op.unary op c).run P E.w=.ok u E.w/\rel E v u:=by
 unfold tM at h;split at h
 ·cases h
  simp only[rel]at d;subst d;exact⟨_,rfl,by simp[rel]⟩
 ·cases h
  simp only[rel]at d;subst d;exact⟨_,rfl,by simp[rel]⟩
 ·cases h
def tN(P:Program)(s d:TypeId)(x:AV):Option AV :=
 match P.underlying s,cD P d,x with
 |some _,.int k,.lit (.int _ n)=>some (.lit (.int k (k.wrap n)))
 |some _,.str,.lit (.string b)=>some (.str b)
 |some _,.str,.lit (.int _ n)=>some (.str (Utf8.encode n))
 |_,_,_=>none
theorem Xh{P:Program}{E:Env}{s d:TypeId}{x v:AV}{c:Value}(h:tN P s d x=some v)(g:rel E x c) :
  ∃ u,(convert s d c).run P E.w=.ok u E.w/\rel E v u:=by
 unfold tN at h;split at h
 ·rename_i k n q y
  cases h;simp only[rel]at g;subst g;refine⟨_,?_,by simp only[rel]; rfl⟩;simp[convert,Sem.bk q,Sem.bk (LO y),Conv.intToInt]
 ·rename_i b q y
  cases h;simp only[rel]at g;subst g;refine⟨_,?_,by simp only[rel]; rfl⟩;simp only[convert,bS,Sem.bk q,Sem.bk (rq y),bT];rfl
 ·rename_i k n q y
  cases h;simp only[rel]at g;subst g;refine⟨_,?_,by simp only[rel]; rfl⟩;simp only[convert,bS,Sem.bk q,Sem.bk (rq y),bT];rfl
 ·cases h
def pK(k:SK)(x i:AV):Option AV :=
 match i with
 | .lit (.int _ n) =>
  match k,x with
  |.str,.lit (.string s)=>if 0<=n/\n<s.size then (match s[n.toNat]? with|some b=>some (.lit (.int .u8 b.toNat))|none=>none) else none
  |.array m _ sz agg,.agg cells=>if 0<=n/\n<m then iN agg sz (cells.drop (n.toNat*sz)) else none
  |_,_=>none
 |_=>none
theorem EG{E:Env}:∀{as:List AV} {vs:List Value} (n:Nat),ae E as vs->ae E (as.drop n) (vs.drop n)
 |_,_,0,h=>by simpa using h
 | [],[],n+1,_=>by simp[ae]
 | [],_::_,_,h=>by simp[ae]at h
 |_::_,[],_,h=>by simp[ae]at h
 |a::as,v::vs,n+1,h=>by simp only[ae]at h; simpa using EG n h.2
theorem EH{E:Env}:∀{as:List AV} {vs:List Value} (n:Nat),ae E as vs->ae E (as.take n) (vs.take n)
 |_,_,0,_=>by simp[ae]
 | [],[],n+1,_=>by simp[ae]
 | [],_::_,_,h=>by simp[ae]at h
 |_::_,[],_,h=>by simp[ae]at h
 |a::as,v::vs,n+1,h=>by simp only[ae]at h; simp only[DZ,ae]; exact⟨h.1,EH n h.2⟩
theorem ny{E:Env}:∀{as d:List AV} {vs us:List Value},ae E as vs->ae E d us->ae E (as++d) (vs++us)
 | [],_,[],_,_,h=>by simpa using h
 | [],_,_::_,_,h,_=>by simp[ae]at h
 |_::_,_,[],_,h,_=>by simp[ae]at h
 |a::as,d,v::vs,us,h,h'=>by simp only[ae]at h; simp only[kY,ae]; exact⟨h.1,ny h.2 h'⟩
theorem oA{E:Env}{as:List AV}{vs:List Value}(h:ae E as vs){i:Nat}{a:AV}(hi:as[i]? = some a):∃ v,vs[i]? = some v/\rel E a v:=by
 obtain⟨h1,k⟩:=ow.1 h;have g:=aG hi;have d:i<vs.length:=h1▸g;exact⟨vs[i],bx d,k i a _ hi (bx d)⟩
theorem LP{P:Program}{E:Env}{t:TypeId}{n:Nat}{agg:Bool}{cells:List AV}{cs:Array Value}{off:Nat}{v:AV}(q:fP P t=some (n,agg))
  (h:iN agg n (cells.drop off)=some v) (hr:ae E cells cs.toList) (h1:∀ x∈cs.toList,dm x=true) :
  ∃ u,(part t cs off).run P E.w=.ok u E.w/\rel E v u:=by
 obtain⟨i,d,hi,g,y,ha⟩:=lL q;unfold iN at h;cases agg with
 | true =>
  simp only[if_true]at h;split at h
  ·cases h
   refine⟨.agg (cs.extract off (off+n)),?_,?_⟩
   ·simp[part,Sem.pH g,ha,Sem.run_sizeOf hi,y]
   ·simp only [rel]
    have e:(cs.extract off (off+n)).toList=(cs.toList.drop off).take n:=by simp
    refine⟨_,rfl,?_,?_⟩
    ·rw[e]; exact fun x I=>h1 x (zQ (wE I))
    ·rw[e]; exact EH n (EG off hr)
  ·cases h
 | false =>
  simp only[kV,if_false]at h;rw[qU]at h;obtain⟨u,g1,g2⟩:=oA hr h;refine⟨u,?_,g2⟩;have k:cs[off]? = some u:=by simpa using g1
  simp[part,Sem.pH g,ha,k]
theorem Xi{P:Program}{E:Env}{t:TypeId}{x i v:AV}{c d:Value}(h:pK (cD P t) x i=some v)(g:rel E x c)(hi:rel E i d) :
  ∃ u,(Wh t c d).run P E.w=.ok u E.w/\rel E v u:=by
 unfold pK at h;split at h
 case h_2=>cases h
 rename_i k n;simp only[rel]at hi;subst hi;split at h
 ·rename_i s hk
  have hu:=rq hk;simp only[rel]at g;subst g;split at h
  case isFalse=>cases h
  rename_i q;split at h
  case h_2=>cases h
  rename_i b hb;cases h;refine⟨.int .u8 b.toNat,?_,by simp[rel]⟩;simp[Wh,asIntOf,Sem.bk hu,q.1,hb]
 ·rename_i m e sz agg cells hk
  obtain⟨hu,y⟩:=AF hk;obtain⟨ii,O,g1,g2,g3,g4⟩:=lL y;split at h
  case isFalse=>cases h
  rename_i q;simp only[rel]at g;obtain⟨cs,rfl,h1,I⟩:=g;obtain⟨u,M,N⟩:=LP y h I h1;refine⟨u,?_,N⟩;simp[Wh,asIntOf,Sem.bk hu,q.1,q.2,Sem.run_sizeOf g1,g3,M]
 ·cases h
def EI(k:FK)(x:AV):Option AV :=
 match x with
 |.agg cells=>iN k.agg k.size (cells.drop k.off)
 |_=>none
theorem Xj{P:Program}{E:Env}{t:TypeId}{f:Nat}{k:FK}{x v:AV}{c:Value}(hk:tA P t f=some k)(h:EI k x=some v)(d:rel E x c) :
  ∃ u,(alG t c f).run P E.w=.ok u E.w/\rel E v u:=by
 obtain⟨N,fd,h1,g,q,y⟩:=LH hk;unfold EI at h;split at h
 ·simp only [rel] at d
  obtain⟨cs,rfl,g1,g2⟩:=d;obtain⟨u,I,M⟩:=LP y h g2 g1;refine⟨u,?_,M⟩;simp[alG,Sem.bk h1,g,asAgg,q,I]
 ·cases h
end Go.AL

namespace Go.AL
open Go
variable [Dr]
def nz:AV->Option (List AV)
 |.undef | .tuple _=>none
 |.agg cs=>some cs
 |.lit v=>if dm v then some [.lit v] else none
 |x=>some [x]
theorem AK{E:Env}{x:AV}{cs:List AV}{c:Value}(h:nz x=some cs)(hr:rel E x c) :
  ae E cs c.cells.toList/\∀ y∈c.cells.toList,dm y=true:=by
 unfold nz at h;split at h
 ·cases h
 ·cases h
 ·cases h
  simp only[rel]at hr;obtain⟨a,rfl,h1,d⟩:=hr;exact⟨d,h1⟩
 ·rename_i v
  split at h
  ·rename_i h1
   cases h;have u:=hr;simp only[rel]at hr;subst hr;cases c<;>simp[dm]at h1<;>exact⟨by simp[K4,ae,rel],by simp[K4,dm]⟩
  ·cases h
 ·rename_i h1 d k q
  cases h;have g:dm c=true/\c.cells=#[c]:=by
   cases x<;>simp only[rel]at hr
   case sub=>rcases hr with⟨_,rfl⟩|⟨_,_,⟨b,rfl⟩,_⟩<;>exact⟨rfl,rfl⟩
   case undef=>exact(h1 rfl).elim
   case lit v=>exact(q v rfl).elim
   case nils=>obtain⟨b,rfl⟩:=hr; exact⟨rfl,rfl⟩
   case list=>obtain⟨_,b,cap,rfl,_⟩:=hr; exact⟨rfl,rfl⟩
   case listF=>simp only[eo]at hr; obtain⟨b,cap,rfl,_⟩:=hr; exact⟨rfl,rfl⟩
   case agg as=>exact(k as rfl).elim
   case tuple as=>exact(d as rfl).elim
   case cptr=>obtain⟨_,b,o,rfl,_⟩:=hr; exact⟨rfl,rfl⟩
   case ptr=>obtain⟨⟨b,o,rfl⟩,_⟩:=hr; exact⟨rfl,rfl⟩
   case vec=>obtain⟨⟨b,o,rfl,_⟩,_⟩:=hr; exact⟨rfl,rfl⟩
   case map=>obtain⟨⟨b,rfl⟩,_⟩:=hr; exact⟨rfl,rfl⟩
   case clo=>obtain⟨cs,rfl,_⟩:=hr; exact⟨rfl,rfl⟩
   case ifc=>obtain⟨t,v,rfl⟩:=hr; exact⟨rfl,rfl⟩
   case emptyS=>obtain⟨b,cap,rfl,_⟩:=hr; exact⟨rfl,rfl⟩
   case svec=>obtain⟨⟨b,o,rfl,_⟩,_⟩:=hr; exact⟨rfl,rfl⟩
   case sptr=>obtain⟨⟨b,o,rfl⟩,_⟩:=hr; exact⟨rfl,rfl⟩
  rw[g.2];exact⟨by simp only[ae]; exact⟨hr,trivial⟩,by simpa using g.1⟩
def rr(place:Nat->Option (Nat × Nat))(cells:List AV):List (Nat × AV)->Option (List AV)
 | []=>some cells
 | (i,v)::rest=>match place i,nz v with
  |some (off,size),some cs=>if cs.length=size/\off+cs.length<=cells.length then rr place (cells.take off++cs++cells.drop (off+cs.length)) rest else none
  |_,_=>none
theorem LQ(cs:Array Value):∀(l:List Value) (off k:Nat) (cells:Array Value),off+k+l.length<=cells.size ->
  (l.zipIdx k).foldl (fun cs (p : Value × Nat) => cs.setIfInBounds (off + p.2) p.1) cells =
   (cells.toList.take (off+k)++l++cells.toList.drop (off+k+l.length)).toArray
 | [],off,k,cells,_=>by simp
 | v::l,off,k,cells,h=>by
  simp only[List.zipIdx_cons,List.foldl_cons];have h':off+(k+1)+l.length<=(cells.setIfInBounds (off+k) v).size:=by simp at h|-; omega
  rw[LQ cs l off (k+1) _ h'];congr 1;apply iK;intro i;simp only[Array.toList_setIfInBounds,fE,lF,List.length_set,nk,qU,dv,en,bG,jK];simp at h;by_cases c1:i<off+k
  ·have d : i < min (off + k) cells.size := by omega
   have g:i<min (off+(k+1)) cells.size:=by omega
   have I:¬ off+k=i:=by omega
   have u:i<off+(k+1):=by omega
   have q:i<min (off+k) cells.size+(l.length+1):=by omega
   have y:i<min (off+(k+1)) cells.size+l.length:=by omega
   simp[d,g,I,u,q,y,c1]
  ·by_cases c2 : i = off + k
   ·subst c2
    have d:¬ off+k<min (off+k) cells.size:=by omega
    have g:off+k<min (off+(k+1)) cells.size:=by omega
    have u:off+k<off+(k+1):=by omega
    have q:off+k<min (off+k) cells.size+(l.length+1):=by omega
    have y:off+k<min (off+(k+1)) cells.size+l.length:=by omega
    have M:off+k-min (off+k) cells.size=0:=by omega
    have N:off+k<cells.size:=by omega
    simp[d,g,u,q,y,M,N]
   ·by_cases O : i < off + k + 1 + l.length
    ·have d : ¬ i < min (off + k) cells.size := by omega
     have g:¬ i<min (off+(k+1)) cells.size:=by omega
     have q:i<min (off+k) cells.size+(l.length+1):=by omega
     have y:i<min (off+(k+1)) cells.size+l.length:=by omega
     have M:i-min (off+k) cells.size=(i-min (off+(k+1)) cells.size)+1:=by omega
     simp[d,g,q,y,M]
    ·have d : ¬ i < min (off + k) cells.size + (l.length + 1) := by omega
     have g:¬ i<min (off+(k+1)) cells.size+l.length:=by omega
     have I:off+k+(l.length+1)+(i-(min (off+k) cells.size+(l.length+1)))=i:=by omega
     have u:off+(k+1)+l.length+(i-(min (off+(k+1)) cells.size+l.length))=i:=by omega
     have q:¬ off+k=i:=by omega
     simp[d,g,I,u,q]
theorem wZ{E:Env}{place:Nat->Option (Nat × Nat)}:∀{parts:List (Nat × AV)} {cparts:List (Nat × Value)} {cells:List AV} {cs:Array Value} {out:List AV},
  rr place cells parts=some out->ae E cells cs.toList->(∀ x∈cs.toList,dm x=true) ->
  parts.map (·.1)=cparts.map (·.1)->ae E (parts.map (·.2)) (cparts.map (·.2)) ->
  ∃ o,alH place cs cparts=some o/\ae E out o.toList/\∀ x∈o.toList,dm x=true
 | [],[],cells,cs,out,h,hr,h1,_,_=>by
  simp only[rr,aM]at h;subst h;exact⟨cs,rfl,hr,h1⟩
 | [],_::_,_,_,_,_,_,_,hm,_=>by simp at hm
 |_::_,[],_,_,_,_,_,_,hm,_=>by simp at hm
 | (i,v)::ps,(j,c)::O,cells,cs,out,h,hr,h1,hm,g=>by
  simp only[bX,K5]at hm;obtain⟨rfl,hm⟩:=hm;simp only[bX,ae]at g;simp only[rr]at h;split at h
  case h_2=>cases h
  rename_i off size us y I;split at h
  case isFalse=>cases h
  rename_i M;obtain⟨g1,g2⟩:=AK I g.1;have q:=jn g1;have u:=jn hr;have U:us.length=c.cells.size:=by simpa using q
  have N:cells.length=cs.size:=by simpa using u
  have k:(c.cells.zipIdx.foldl (fun cs (x:Value × Nat)=>cs.setIfInBounds (off+x.2) x.1) cs) =
    (cs.toList.take off++c.cells.toList++cs.toList.drop (off+c.cells.toList.length)).toArray:=by
   rw[<-Array.foldl_toList,Array.toList_zipIdx];have:=LQ cs c.cells.toList off 0 cs (by simp; omega);simpa using this
  simp only[alH,y];rw[if_neg (by simp; omega)];refine wZ (cells:=cells.take off++us++cells.drop (off+us.length)) h ?_ ?_ hm g.2
  ·rw [k]
   simp only[];refine ny (ny (EH off hr) g1) ?_;rw[q];exact EG _ hr
  ·rw [k]
   intro x d;simp only[cw]at d;rcases d with(d|d)|d
   ·exact h1 x (wE d)
   ·exact g2 x d
   ·exact h1 x (zQ d)
def LR(P:Program)(t:TypeId):Option (List (Nat × Nat)) :=
 match P.underlying t with
 |some (.struct d)=>d.toList.mapM fun fd=>(fP P fd.type).map fun p=>(fd.offset,p.1)
 |_=>none
theorem nC{P:Program}{t:TypeId}{z:List Value}(h:eR P t=some z) :
  ∃ i v,P.info? t=some i/\i.zero=some v/\v.cells.toList=z/\∀ x∈z,dm x=true:=by
 unfold eR at h;split at h
 ·rename_i i hi
  split at h
  ·rename_i v d
   split at h
   ·rename_i g
    cases h;exact⟨i,v,hi,d,rfl,da.1 g⟩
   ·cases h
  ·cases h
 ·cases h
theorem nD{P:Program}{t:TypeId}{i:TypeInfo}{v:Value}(hi:P.info? t=some i)(d:i.zero=some v)(w:World):(zeroValue t).run P w=.ok v w:=by
 simp[zeroValue,typeInfo,hi,d]
theorem LS{P:Program}{w:World}:∀(g:List Field) (pl:List (Nat × Nat)),(g.mapM fun fd=>(fP P fd.type).map fun p=>(fd.offset,p.1))=some pl ->
  (g.mapM fun(f:Field)=>(do pure (f.offset,<-sizeOf f.type):Sem (Nat × Nat))).run P w=.ok pl w
 | [],pl,h=>by simp at h; subst h; simp
 | f::g,pl,h=>by
  simp only[Wj,Option.bind_eq_bind,Option.pure_def,Option.bind_eq_some_iff,dI]at h;obtain⟨x,⟨⟨n,a⟩,h1,rfl⟩,l,k,q⟩:=h;cases q;obtain⟨i,d,g1,g2,g3,g4⟩:=lL h1;have:=LS (w:=w) g l k;simp only[Wj,bS,Sem.run_sizeOf g1,bT,ft,g3];rw[this];rfl
def EJ(P:Program)(t:TypeId)(parts:List (Nat × AV)):Option AV :=
 match eR P t with
 | some z=>match LR P t with
  |some pl=>(rr (fun i=>pl[i]?) (z.map .lit) parts).map .agg
  | none=>match cD P t with
   |.array _ _ sz _=>(rr (fun i=>some (i*sz,sz)) (z.map .lit) parts).map .agg
   |_=>none
 |none=>none
theorem Xk{P:Program}{E:Env}{t:TypeId}{parts:List (Nat × AV)}{cparts:List (Nat × Value)}{v:AV}(h:EJ P t parts=some v)
  (hm:parts.map (·.1)=cparts.map (·.1)) (g:ae E (parts.map (·.2)) (cparts.map (·.2))) :
  ∃ u,(Wk t cparts.toArray).run P E.w=.ok u E.w/\rel E v u:=by
 unfold EJ at h;split at h
 case h_2=>cases h
 rename_i z N;obtain⟨i,k,q,z2,z3,z4⟩:=nC N;split at h
 ·rename_i pl d
  unfold LR at d;split at d
  case h_2=>cases d
  rename_i y hu;simp only[dI]at h;obtain⟨out,ho,rfl⟩:=h;obtain⟨o,g1,g2,g3⟩:=wZ (cs:=k.cells) ho (by rw[z3]; exact pF z) (by rw[z3]; exact z4) hm g;refine⟨.agg o,?_,by simp only[rel]; exact⟨o,rfl,g3,g2⟩⟩;have I:(y.mapM fun(f:Field)=>(do pure (f.offset,<-sizeOf f.type):Sem (Nat × Nat))).run P E.w=.ok pl.toArray E.w:=by
   have:=LS (w:=E.w) y.toList pl d;rw[Array.mapM_eq_mapM_toList,Sem.run_map,this];rfl
  simp only[Wk,bS,nD q z2,bT,Sem.bk hu];rw[I];simp only[bT];have e:(fun(x:Nat)=>(pl.toArray)[x]?)=fun(i:Nat)=>pl[i]? := by funext i; simp
  rw[e,g1];rfl
 ·split at h
  case h_2=>cases h
  rename_i n e sz V hk;obtain⟨hu,M⟩:=AF hk;obtain⟨W,de,O,q2,U,q4⟩:=lL M;simp only[dI]at h;obtain⟨out,ho,rfl⟩:=h;obtain⟨o,g1,g2,g3⟩:=wZ (cs:=k.cells) ho (by rw[z3]; exact pF z) (by rw[z3]; exact z4) hm g;refine⟨.agg o,?_,by simp only[rel]; exact⟨o,rfl,g3,g2⟩⟩;simp only[Wk,bS,nD q z2,bT,Sem.bk hu,Sem.run_sizeOf O,U,g1];rfl
def chunk(sz:Nat):Nat->List AV->List (List AV)
 |0,_=>[]
 |n+1,l=>l.take sz::chunk sz n (l.drop sz)
theorem w5(sz:Nat):∀(n:Nat) (l:List AV),(chunk sz n l).length=n
 |0,_=>rfl
 |n+1,l=>by simp[chunk,w5 sz n]
theorem EK(sz:Nat):∀(n:Nat) (l:List AV),AV.bu l=true->eD (chunk sz n l)
 |0,_,_=>by intro r hr; simp[chunk]at hr
 | n+1,l,h=>by
  intro r hr;simp only[chunk,bC]at hr;rcases hr with rfl|hr
  ·exact wV _ _ h
  ·exact EK sz n _ (tF _ _ h) r hr
theorem LU{E:Env}(sz:Nat):∀(n:Nat) (l:List AV) (b o:Nat),l.length=n*sz->cu E l b o->cy E sz (chunk sz n l) b o
 |0,_,_,_,_,_=>by simp[chunk,cy]
 | n+1,l,b,o,d,h=>by
  simp only[chunk,cy];have:sz<=l.length:=by rw[d,fM]; omega
  refine⟨by simp; omega,AE h sz,LU sz n _ b (o+sz) (by simp[d,fM]) (rm h sz)⟩
theorem EL{E:Env}{as:List AV}{cs:Array Value}{b:Nat}{el:TypeId}{fr:Nat × Nat}(hb:E.w.heap[b]? = some (.cells cs el fr))(hr:ae E as cs.toList)
  (h1:∀ x∈cs.toList,dm x=true):cu E as b 0:=by
 rw[jo];intro i a hi;obtain⟨v,g1,g2⟩:=oA hr hi;refine⟨v,?_,h1 v (dJ g1),g2⟩;simp only[cn,s9,hb];simpa using g1
end Go.AL

namespace Go.AL
open Go
variable [Dr]
theorem tO(v:Value):v.oneCell'=dm v:=by cases v<;>rfl
theorem setRow_size(w:World)(g:Nat)(cs:Array Value):(w.setRow g cs).heap.size=w.heap.size:=by simp[alI]
theorem setRow_other(w:World)(g:Nat)(cs:Array Value)(x:Nat)(h:x≠g):(w.setRow g cs).heap[x]? = w.heap[x]? := by
 simp only[alI];rw[Array.getElem?_modify];split
 ·rename_i e; exact(h e.symm).elim
 ·rfl
structure Src (P:Program) (E:Env) (sz:Nat) (rows:List (List AV)) (xt:TypeId) (x:Value) (news:List Value):Prop where
 len:∀ w,(K7 x).run P w=.ok rows.length w
 cells:∀ w,(∀ b o,b<E.w.heap.size->w.cell? ⟨b,o,none⟩=E.w.cell? ⟨b,o,none⟩)->(jk sz rows.length x).run P w=.ok news.toArray w
 rel:ae E rows.flatten news
 one:∀ v∈news,dm v=true
 wide:∀ r∈rows,r.length=sz
 closed:eD rows
 kind:∃ d,P.underlying xt=some d/\∀ k,d≠.int k
theorem Src.length{P:Program}{E:Env}{sz:Nat}{rows:List (List AV)}{xt:TypeId}{x:Value}{news:List Value}(h:Src P E sz rows xt x news):news.length=rows.length*sz:=by
 rw[<-jn h.rel];have:∀(l:List (List AV)),(∀ r∈l,r.length=sz)->l.flatten.length=l.length*sz:=by
  intro l d
  induction l with
  |nil=>simp
  |cons a l g=>simp[g (fun r hr=>d r (by simp[hr])),d a (by simp),fM,s8]
 exact this rows h.wide
theorem AM{E:Env}{k:Nat}:∀{rows:List (List AV)} {b o:Nat},cy E k rows b o->cu E rows.flatten b o
 | [],_,_,_=>by simp[cu]
 | r::rows,b,o,h=>by
  simp only[cy]at h;obtain⟨h1,d,g⟩:=h;have q:=AM g;rw[jo]at *;intro i a hi;simp only[jl,fE]at hi;split at hi
  ·exact d i a hi
  ·rename_i u
   obtain⟨v,g1,g2,g3⟩:=q (i-r.length) a hi;refine⟨v,?_,g2,g3⟩;rw[<-g1];congr 2;omega
theorem AN{E:Env}{k:Nat}:∀{rows:List (List AV)} {b o:Nat},(∀ r∈rows,r.length=k)->cu E rows.flatten b o->cy E k rows b o
 | [],_,_,_,_=>by simp[cy]
 | r::rows,b,o,hk,h=>by
  simp only[cy];have hr:=hk r (by simp);refine⟨hr,?_,?_⟩
  ·have := AE h r.length
   simpa using this
  ·have := rm h r.length
   simp at this;rw[hr]at this;exact AN (fun x d=>hk x (by simp[d])) this
def mH(sz:Nat)(x:AV)(H:List ab):Option (List (List AV)) :=
 match x with
 |.nils | .lit (.slice none 0 0)=>some []
 |.emptyS _=>some []
 |.list w rows=>if w=sz then some rows else none
 |.listF ks rows=>if ks.length=sz then some (rows.map (aD ks)) else none
 | .vec w id ver off n=>match H[id]? with
  |some (.vec k v rows)=>if w=sz/\k=w/\v=ver/\off+n<=rows.length then some ((rows.drop off).take n) else none
  |_=>none
 |.lit (.string s)=>if sz=1 then some (s.data.toList.map fun b=>[.lit (.int .u8 b.toNat)]) else none
 |_=>none
theorem LV{α β:Type}(f:α->β):∀(l:List α),(l.map fun b=>[f b]).flatten=l.map f
 | []=>rfl
 |a::l=>by simp[LV f l]
theorem AO{P:Program}{E:Env}{sz:Nat}{rows:List (List AV)}{b o cap:Nat}(hr:cy E sz rows b o)(hb:b<E.w.heap.size) :
  ∃ news,ae E rows.flatten news/\(∀ v∈news,dm v=true) /\
   ∀ w,(∀ b o,b<E.w.heap.size->w.cell? ⟨b,o,none⟩=E.w.cell? ⟨b,o,none⟩)->(jk sz rows.length (.slice (some ⟨b,o,none⟩) rows.length cap)).run P w=.ok news.toArray w:=by
 obtain⟨vs,g1,g2,g3⟩:=wW (AM hr);refine⟨vs,g1,g2,fun w hw=>?_⟩;refine run_firstCells_some (P:=P) w sz rows.length ⟨b,o,none⟩ rows.length cap vs ?_ ?_
 ·rw [<- jn g1]
  have:∀(l:List (List AV)) (o:Nat),cy E sz l b o->l.flatten.length=l.length*sz:=by
   intro l
   induction l with
   |nil=>intros; simp
   | cons a l d =>
    intro o h;simp only[cy]at h;simp[d _ h.2.2,h.1,fM,s8]
  exact this rows o hr
 ·intro j v g
  rw[lf,hw b _ hb];exact g3 j v g
theorem Xl{P:Program}{E:Env}(HE:al E){sz:Nat}{x:AV}{c:Value}{rows:List (List AV)}{xt:TypeId}(h:mH sz x E.H=some rows)(hr:rel E x c)
  (hk:∃ d,P.underlying xt=some d/\∀ k,d≠.int k):∃ news,Src P E sz rows xt c news:=by
 unfold mH at h;split at h
 ·cases h
  simp only[rel]at hr;obtain⟨base,rfl⟩:=hr;refine⟨[],⟨fun w=>rfl,fun w _=>?_,by simp[ae],by simp,by simp,(by intro r hr; cases hr),hk⟩⟩;cases base<;>simp[jk,loadCells,loadCellsFrom]
 ·cases h
  simp only[rel]at hr;subst hr;exact⟨[],⟨fun w=>rfl,fun w _=>by simp[jk],by simp[ae],by simp,by simp,(by intro r hr; cases hr),hk⟩⟩
 ·cases h
  simp only[rel]at hr;obtain⟨base,cap,rfl,_⟩:=hr;refine⟨[],⟨fun w=>rfl,fun w _=>?_,by simp[ae],by simp,by simp,(by intro r hr; cases hr),hk⟩⟩;cases base<;>simp[jk,loadCells,loadCellsFrom]
 ·rename_i w rows'
  split at h
  case isFalse=>cases h
  rename_i hw;subst hw;cases h;simp only[rel]at hr;obtain⟨y,base,cap,rfl,hle,N⟩:=hr;rcases N with rfl|⟨b,o,rfl,I,g⟩
  ·refine ⟨[], ⟨fun w => rfl, fun w _ => ?_, by simp [ae], by simp, by simp, (by intro r hr; cases hr), hk⟩⟩
   cases base<;>simp[jk,loadCells,loadCellsFrom]
  ·obtain ⟨news, g1, g2, g3⟩ := AO (P := P) (cap := cap) g I.1
   exact⟨news,⟨fun w=>rfl,g3,g1,g2,fun r hr=>by
    obtain⟨i,hi⟩:=wG hr;exact(lN g hi).1,y,hk⟩⟩
 ·rename_i ks W
  split at h
  case isFalse=>cases h
  rename_i hw;subst hw;cases h;have hr:=jq.1 hr;generalize W.map (aD ks)=rows at hr;simp only[rel]at hr;obtain⟨y,base,cap,rfl,hle,N⟩:=hr;rcases N with rfl|⟨b,o,rfl,I,g⟩
  ·refine ⟨[], ⟨fun w => rfl, fun w _ => ?_, by simp [ae], by simp, by simp, (by intro r hr; cases hr), hk⟩⟩
   cases base<;>simp[jk,loadCells,loadCellsFrom]
  ·obtain ⟨news, g1, g2, g3⟩ := AO (P := P) (cap := cap) g I.1
   exact⟨news,⟨fun w=>rfl,g3,g1,g2,fun r hr=>by
    obtain⟨i,hi⟩:=wG hr;exact(lN g hi).1,y,hk⟩⟩
 ·rename_i w id ver off n
  split at h
  case h_2=>cases h
  rename_i k v rows' hid;split at h
  case isFalse=>cases h
  rename_i hc;obtain⟨rfl,rfl,rfl,hle⟩:=hc;cases h;simp only[rel]at hr;obtain⟨⟨base,cap,rfl,hcap,_⟩,_,h6⟩:=hr;obtain⟨q1,q2⟩:=h6 ⟨_,hid,rfl⟩;have q:((rows'.drop off).take n).length=n:=by simp; omega
  rcases HE.obj id _ hid with⟨u,O⟩|⟨b,m,u,O,e3,e4,e5⟩
  ·obtain ⟨rfl, rfl, base', e⟩ := q1 u
   subst O;refine⟨[],⟨fun w=>by rw[q]; rfl,fun w _=>?_,by simp[ae],by simp,by simp,(by intro r hr; simp at hr),hk⟩⟩;cases base<;>simp[jk,loadCells,loadCellsFrom]
  ·obtain ⟨p1, o, p2, U⟩ := q2 b m u
   simp only[kX]at U;obtain⟨rfl,_,rfl⟩:=U;by_cases hm:off<m
   ·rw [p2 hm]
    have M:=LK e5 off n;simp only[cn]at M;obtain⟨news,g1,g2,g3⟩:=AO (P:=P) (cap:=m-off) M (HE.lt id b m u).1;rw[q]at g3;refine⟨news,⟨fun w=>by rw[q]; rfl,by rw[q]; exact g3,g1,g2,fun r hr=>?_,fun r hr=>e4 r (zQ (wE hr)),hk⟩⟩;obtain⟨i,hi⟩:=wG hr;exact(lN M hi).1
   ·have hz : n = 0 := by omega
    subst hz;refine⟨[],⟨fun w=>by rw[q]; rfl,fun w _=>?_,by simp[ae],by simp,by simp,(by intro r hr; simp at hr),hk⟩⟩;simp[jk,loadCells,loadCellsFrom]
 ·rename_i s
  split at h
  case isFalse=>cases h
  rename_i hs;subst hs;cases h;simp only[rel]at hr;subst hr;refine⟨s.data.toList.map fun b=>.int .u8 b.toNat,⟨fun w=>by simp[K7],fun w _=>?_,?_,?_,?_,?_,hk⟩⟩
  ·simp only [bN, jK, jk]
   have:s.extract 0 s.data.size=s:=by
    have:=ByteArray.extract_zero_size (b:=s);exact this
   rw[this,<-Wl];rfl
  ·rw [LV]
   have:=pF (E:=E) (s.data.toList.map fun b=>.int .u8 b.toNat);rw[List.map_map]at this;exact this
  ·intro v V; simp at V; obtain⟨b,_,rfl⟩:=V; rfl
  ·intro r hr; simp at hr; obtain⟨b,_,rfl⟩:=hr; rfl
  ·intro r hr; simp at hr; obtain⟨b,_,rfl⟩:=hr; simp[AV.bu,AV.closed]
 ·cases h
def tP(P:Program)(t xt:TypeId)(s x:AV)(H:List ab):Option (AV × List ab) :=
 match cD P t with
 | .slice e sz d =>
  match eR P e,(match cD P xt with | .slice _ _ _ | .str=>true|_=>false),mH sz x H with
  | some z,true,some new =>
   if z.length=sz/\new.length<=1048576/\d<=1048576 then
    match s with
    |.nils | .lit (.slice none 0 0)=>some (.vec sz H.length 0 0 new.length,H++[.vec sz 0 new])
    | .vec w id ver off n=>match H[id]? with
     | some (.vec k v rows) =>
      if k=w/\w=sz/\v=ver/\off=0/\n=rows.length/\rows.length+new.length<=1048576 then
       some (.vec w id (ver+1) 0 (n+new.length),H.set id (.vec k (ver+1) (rows++new)))
      else none
     |_=>none
    |_=>none
   else none
  |_,_,_=>none
 |_=>none
theorem EM{P:Program}{w w':World}{t xt ty e:TypeId}{i:TypeInfo}{sz:Nat}{base:Option Addr}{n cap m:Nat}{x:Value}{d:TypeDesc}
  (u:P.underlying t=some (.slice e)) (v:P.underlying xt=some d) (_hd:∀ k,d≠.int k) (hi:P.info? e=some i) (y:i.size=sz)
  (I:(K7 x).run P w=.ok m w) (q:n+m<=cap) {news:List Value} (M:(jk sz m x).run P w=.ok news.toArray w)
  (g:(match base with|some a=>storeCells (a.add (n*sz)) news|none=>(pure ():Sem Unit)).run P w=.ok () w') :
  (og #[t,xt] ty #[.slice base n cap,x]).run P w=.ok (.slice base (n+m) cap) w':=by
 cases base with
 | none =>
  simp at g;subst g;simp[og,run_underlying u,run_underlying v,sizeOf,typeInfo,hi,y,I,q,M]
 | some a =>
  simp only[]at g;simp[og,run_underlying u,run_underlying v,sizeOf,typeInfo,hi,y,I,q,M,g]
theorem LW{P:Program}{w:World}{t xt ty e:TypeId}{i:TypeInfo}{z:Value}{sz:Nat}{base:Option Addr}{n cap m:Nat}{x:Value}{d:TypeDesc}
  (u:P.underlying t=some (.slice e)) (v:P.underlying xt=some d) (V:∀ k,d≠.int k) (hi:P.info? e=some i) (y:i.size=sz) (I:i.zero=some z)
  (M:(K7 x).run P w=.ok m w) (g:cap<n+m) {olds news:List Value}
  (ho:(jk sz n (.slice base n cap)).run P w.drew=.ok olds.toArray w.drew)
  (N:(jk sz m x).run P w.drew=.ok news.toArray w.drew)
  (q:n+m<=1048576) (hb:i.bytes<=1048576) :
  ∃ C,n+m<=C/\(og #[t,xt] ty #[.slice base n cap,x]).run P w =
   .ok (.slice (some ⟨w.heap.size,0,none⟩) (n+m) C) (w.drew.alloc (.cells (olds++news++(zT z.cells (C-(n+m))).toList).toArray e)):=by
 have h1:¬ (n+m<=cap):=by omega
 have O:¬ (9223372036854775807<((n:Int)+(m:Int))):=by omega
 have W:K8 (n+m) cap*i.bytes<=281474976710656:=growslice_fits g (by
  have:=Nat.mul_le_mul q hb;omega)
 have U:¬ (281474976710656<K8 (n+m) cap*i.bytes):=by omega
 refine⟨grownCap w (n+m) cap e,?_,?_⟩
 ·simp[grownCap,Question.cut]
 ·simp [og, run_underlying u, run_underlying v, sizeOf, typeInfo, zeroValue, hi, I, y, M, h1, O, U, Question.forced, N, ho, newRow, grownCap]
  congr 2;apply ic;simp
def cM(E:Env)(v:AV)(H':List ab)(u:Value)(w':World):Prop :=
 ∃ d r',rel { w:=w',H:=H',loc:=d,X:=E.X.re r' } v u/\al { w:=w',H:=H',loc:=d,X:=E.X.re r' }/\E.le { w:=w',H:=H',loc:=d,X:=E.X.re r' }
theorem LX{E:Env}{as:List AV}{cs:Array Value}{vs tl:List Value}{b:Nat}{el:TypeId}{fr:Nat × Nat}(hb:E.w.heap[b]? = some (.cells cs el fr))(hr:ae E as vs)
  (d:cs.toList=vs++tl) (h1:∀ x∈vs,dm x=true):cu E as b 0:=by
 rw[jo];intro i a hi;obtain⟨v,g1,g2⟩:=oA hr hi;refine⟨v,?_,h1 v (dJ g1),g2⟩;simp only[cn,s9,hb];have:cs.toList[i]? = some v:=by rw[d,cK (aG g1)]; exact g1
 simpa using this
theorem Xm{E:Env}{as:List AV}{cs:Array Value}{b:Nat}{el:TypeId}{fr:Nat × Nat}(hb:E.w.heap[b]? = some (.cells cs el fr))(hr:cu E as b 0) :
  ae E as (cs.toList.take as.length)/\(∀ x∈cs.toList.take as.length,dm x=true)/\as.length<=cs.size:=by
 obtain⟨vs,g1,g2,g3⟩:=wW hr;have k:=jn g1;have g:∀(j:Nat) v,vs[j]? = some v->cs.toList[j]? = some v:=by
  intro j v d;have:=g3 j v d;simpa[s9,hb]using this
 have q:vs.length<=cs.size:=by
  rcases Nat.eq_zero_or_pos vs.length with h|h
  ·omega
  ·have := g (vs.length - 1) vs[vs.length - 1] (bx (by omega))
   have:=aG this;simp at this;omega
 have:cs.toList.take as.length=vs:=by
  rw[k];apply iK;intro j;rw[nk];split
  ·rename_i d
   rw[g j vs[j] (bx d),bx d]
  ·rename_i d
   rw[nh (by omega)]
 rw[this];exact⟨g1,g2,by omega⟩
theorem tQ{sz:Nat}:∀{l:List (List AV)},(∀ r∈l,r.length=sz)->l.flatten.length=l.length*sz
 | [],_=>by simp
 |a::l,h=>by simp[tQ (l:=l) (fun r hr=>h r (by simp[hr])),h a (by simp),fM,s8]
theorem EN{E:Env}{k:Nat}{rows:List (List AV)}{b o:Nat}(h:cy E k rows b o):∀ r∈rows,r.length=k:=by
 intro r hr;obtain⟨i,hi⟩:=wG hr;exact(lN h hi).1
theorem LY(w:World)(o:Obj):Ext w (w.drew.alloc o) :=
 ⟨by show w.heap.size <= (w.heap.push o).size; simp, fun b hb => by
  show (w.heap.push o)[b]? = _
  simp[Wd,alB hb],⟨rfl,rfl,rfl,by first|exact fun _=>aB _|exact fun _=>fV _ _⟩⟩
theorem LZ(w:World)(o:Obj):(w.drew.alloc o).heap[w.heap.size]? = some o:=by
 show (w.heap.push o)[w.heap.size]? = _
 simp
theorem EO{E E':Env}{sz m C:Nat}{rows:List (List AV)}{vals:List Value}{rest:List Value}{b:Nat}{e:TypeId}(q:∀ a c,rel E a c->rel E' a c)
  (hb:E'.w.heap[b]? = some (.cells (vals++rest).toArray e (0,0))) (hr:ae E rows.flatten vals) (h1:∀ x∈vals,dm x=true)
  (hw:∀ r∈rows,r.length=sz) (hlen:rows.length=m) (hC:m<=C) (d:rest.length=(C-m)*sz) :
  isRow E'.w b (C*sz)/\cy E' sz rows b 0:=by
 have g:ae E' rows.flatten vals:=by
  rw[ow]at *;exact⟨hr.1,fun i a v ha k=>q a v (hr.2 i a v ha k)⟩
 refine⟨⟨_,e,hb,?_⟩,AN hw (LX hb g (by simp; rfl) h1)⟩;have:=jn hr;rw[tQ hw,hlen]at this;simp only[zV,en,<-this,d,<-fM];congr 1;omega
theorem L1{P:Program}{e:TypeId}{z:List Value}(h:eR P e=some z):∃ i v,P.info? e=some i/\i.zero=some v/\v.cells.toList=z :=
 let ⟨i,v,h1,d,g,_⟩:=nC h
 ⟨i,v,h1,d,g⟩
theorem L2{E:Env}(HE:al E){sz C m:Nat}{new:List (List AV)}{vals rest:List Value}{e:TypeId}(hr:ae E new.flatten vals)(h1:∀ x∈vals,dm x=true)
  (hw:∀ r∈new,r.length=sz) (u:eD new) (hm:new.length=m) (hC:m<=C) (q:rest.length=(C-m)*sz) :
  cM E (.vec sz E.H.length 0 0 m) (E.H++[.vec sz 0 new]) (.slice (some ⟨E.w.heap.size,0,none⟩) m C) (E.w.drew.alloc (.cells (vals++rest).toArray e)):=by
 have g:=LY E.w (.cells (vals++rest).toArray e);have hle:=Env.k9 (o:=.vec sz 0 new) (l:=some (E.w.heap.size,C)) HE.len g (fun b n hb=>by cases hb; exact aB _);have hblk:=LZ E.w (.cells (vals++rest).toArray e);have k:=EO (E':=E.push (E.w.drew.alloc (.cells (vals++rest).toArray e)) (.vec sz 0 new) (some (E.w.heap.size,C))) (fun a c hr=>bg hle a hr) hblk hr h1 hw hm hC q;refine⟨E.loc++[some (E.w.heap.size,C)],E.X.r,?_,al.push HE g (fun b n hb=>?_) ?_,hle⟩
 ·simp only [rel]
  refine⟨⟨_,_,rfl,hC,fun _=>⟨_,_,rfl⟩⟩,⟨.vec sz 0 new,by simp,rfl,fun v y=>by simp[ab.aF]at y; omega⟩,fun _=>⟨fun d=>?_,fun b M d=>?_⟩⟩
  ·rw[<-HE.len]at d; simp at d
  ·rw [<- HE.len] at d
   simp at d;obtain⟨rfl,rfl⟩:=d;exact⟨by omega,0,fun _=>by simp,by simp⟩
 ·cases hb
  exact⟨aB _,by show _<(E.w.heap.push _).size; simp⟩
 ·simp only [aI]
  right;refine⟨E.w.heap.size,C,?_,k.1,by omega,u,k.2⟩;simp only[Env.push];rw[<-HE.len];simp
theorem Xn{E:Env}(HE:al E){sz:Nat}(base:Option Addr) :
  cM E (.vec sz E.H.length 0 0 0) (E.H++[.vec sz 0 []]) (.slice base 0 0) E.w:=by
 have hle:=Env.k9 (o:=.vec sz 0 []) (l:=none) HE.len (Ext.refl E.w) (fun b n hb=>by cases hb);refine⟨E.loc++[none],E.X.r,?_,al.push HE (Ext.refl _) (fun b n hb=>by cases hb) ?_,hle⟩
 ·simp only [rel]
  refine⟨⟨_,_,rfl,aB _,fun h=>by omega⟩,⟨.vec sz 0 [],by simp,rfl,fun v g=>by simp[ab.aF]at g; omega⟩,fun _=>⟨fun _=>⟨trivial,trivial,base,rfl⟩,fun b M d=>?_⟩⟩;rw[<-HE.len]at d;simp at d
 ·simp only [aI]
  left;refine⟨?_,trivial⟩;simp only[Env.push];rw[<-HE.len];simp
theorem EP(P:Program)(a:Addr)(w:World):(storeCells a []).run P w=.ok () w:=rfl
theorem ER{P:Program}{E:Env}{sz:Nat}{rows:List (List AV)}{xt:TypeId}{x:Value}{news:List Value}(h:Src P E sz rows xt x news)(hr:rows=[]):news=[]:=by
 have:=h.length;rw[hr]at this;simp at this;exact this
theorem L3{P:Program}{E:Env}(HE:al E){t xt ty e:TypeId}{sz y:Nat}{z:List Value}{new:List (List AV)}{base:Option Addr}{q:Value}{news:List Value}
  (hk:cD P t=.slice e sz y) (hz:eR P e=some z) (g:Src P E sz new xt q news) (hb1:new.length<=1048576) (hb2:y<=1048576) (V:z.length=sz) :
  ∃ u w',(og #[t,xt] ty #[.slice base 0 0,q]).run P E.w=.ok u w'/\cM E (.vec sz E.H.length 0 0 new.length) (E.H++[.vec sz 0 new]) u w':=by
 obtain⟨hu,i,hi,O,hby⟩:=ig hk;obtain⟨i',zv,I,W,hz2⟩:=L1 hz;rw[hi]at I;cases I;obtain⟨d,M,N⟩:=g.kind;cases k:new with
 | nil =>
  have hn:=ER g k;subst hn;subst k;refine⟨.slice base (0+0) 0,E.w,EM (m:=0) hu M N hi O (g.len E.w) (aB _) (g.cells E.w (fun _ _ _=>rfl)) ?_,Xn HE base⟩;cases base with
  |none=>rfl
  |some a=>exact EP P _ _
 | cons r rs =>
  rw[<-k];have hpos:0<new.length:=by rw[k]; simp
  have U:∀ b o,b<E.w.heap.size->E.w.drew.cell? ⟨b,o,none⟩=E.w.cell? ⟨b,o,none⟩:=fun _ _ _=>rfl;obtain⟨C,hC,v⟩:=LW (P:=P) (w:=E.w) (ty:=ty) (base:=base) (n:=0) (cap:=0) (m:=new.length) (x:=q) (olds:=[]) hu M N hi O W (g.len E.w) (by omega)
   (by cases base<;>simp[jk,loadCells,loadCellsFrom]) (g.cells _ U) (by omega) (by omega)
  simp only[cn,List.nil_append]at v;refine⟨_,_,v,L2 HE g.rel g.one g.wide g.closed rfl (by omega) ?_⟩;simp only[jK,size_zeroCells];rw[<-V,<-hz2];simp
theorem Xo{P:Program}{xt:TypeId}(h:(match cD P xt with | .slice _ _ _ | .str=>true|_=>false)=true):∃ d,P.underlying xt=some d/\∀ k,d≠.int k:=by
 split at h
 ·rename_i hk
  exact⟨_,(ig hk).1,by simp⟩
 ·rename_i hk
  exact⟨_,rq hk,by simp⟩
 ·cases h
theorem nE{α:Type}{l:List α}{i:Nat}{x:α}(h:l[i]? = some x):l.set i x=l:=by
 apply iK;intro j;rw[dv];split
 ·rename_i e
  subst e;rw[h];split
  ·rfl
  ·rename_i d; exact(d (aG h)).elim
 ·rfl
theorem Xp{P:Program}{E:Env}(HE:al E){t xt ty e id ver:TypeId}{sz by_:Nat}{z:List Value}{rows new:List (List AV)}{c cx:Value}{news:List Value}
  (hk:cD P t=.slice e sz by_) (hz:eR P e=some z) (g:Src P E sz new xt cx news) (hb1:rows.length+new.length<=1048576) (hb2:by_<=1048576) (hzl:z.length=sz)
  (hid:E.H[id]? = some (.vec sz ver rows)) (hr:rel E (.vec sz id ver 0 rows.length) c) :
  ∃ u w',(og #[t,xt] ty #[c,cx]).run P E.w=.ok u w' /\
   cM E (.vec sz id (ver+1) 0 (rows.length+new.length)) (E.H.set id (.vec sz (ver+1) (rows++new))) u w':=by
 obtain⟨hu,i,hi,hs,hby⟩:=ig hk;obtain⟨i',zv,hi',hz1,hz2⟩:=L1 hz;rw[hi]at hi';cases hi';obtain⟨d,hd1,hd2⟩:=g.kind;simp only[rel]at hr;obtain⟨⟨base,cap,rfl,hcap,hbase⟩,hpast,hlive⟩:=hr;obtain⟨q1,q2⟩:=hlive ⟨_,hid,rfl⟩;have hlt:=aG hid;have O:(∀ v,(ab.vec sz (ver+1) (rows++new)).aF = some v->∀ u,(ab.vec sz ver rows).aF = some u->u<v):=by
  intro v N u hu; simp[ab.aF]at N hu; omega
 have V:∀ v u,(ab.vec sz (ver+1) (rows++new)).aF = some v->(ab.vec sz ver rows).aF = some u->u<=v:=by
  intro v u N hu; simp[ab.aF]at N hu; omega
 have U:(ab.vec sz ver rows).aF = none->(ab.vec sz (ver+1) (rows++new)).aF = none:=by simp[ab.aF]
 have hpast':∀(w':World) loc',Env.past { w:=w',H:=E.H.set id (.vec sz (ver+1) (rows++new)),loc:=loc',X:=E.X } id (ver+1):=fun w' loc' =>
  ⟨_,bf hlt,rfl,fun v N=>by simp[ab.aF]at N; omega⟩
 have hcells:∀ b o,b<E.w.heap.size->E.w.drew.cell? ⟨b,o,none⟩=E.w.cell? ⟨b,o,none⟩:=fun _ _ _=>rfl;by_cases I:rows.length+new.length<=cap
 ·-- in place
  rcases HE.obj id _ hid with⟨q,W⟩|⟨b,M,q,W,e3,e4,e5⟩
  ·obtain ⟨hn0, _, base', ee⟩ := q1 q
   simp only[kX]at ee;obtain⟨rfl,_,rfl⟩:=ee;have hnil:new=[]:=by
    cases new with
    |nil=>rfl
    |cons a l=>simp at I
   have hnews:=ER g hnil;subst hnews;subst hnil;subst W;refine⟨_,E.w,EM (m:=0) hu hd1 hd2 hi hs (g.len E.w) (aB _) (g.cells E.w (fun _ _ _=>rfl)) ?_,E.loc.set id none,E.X.r,?_,?_,?_⟩
   ·cases base with
    |none=>rfl
    |some a=>exact EP P _ _
   ·simp only [rel]
    refine⟨⟨_,_,rfl,aB _,fun h=>by simp at h⟩,hpast' _ _,fun _=>⟨fun _=>⟨by simp,trivial,base,by simp⟩,fun b M k=>?_⟩⟩;rw[bf (by rw[HE.len]; exact hlt)]at k;cases k
   ·refine al.mE HE hid (aB _) (fun _ _ _ => rfl) (fun _ _ h => by cases h) (.inr O) V (fun _ => U) ?_
    simp only[aI];left;exact⟨by rw[bf (by rw[HE.len]; exact hlt)],by simp⟩
   ·exact Env.k_ hid HE.len (aB _) (fun _ _ _=>rfl) (fun _ _ h=>by cases h) (.inr O) V (fun _=>U)
  ·obtain ⟨_, o, p2, p3⟩ := q2 b M q
   simp only[kX,fF]at p3;obtain⟨rfl,_,rfl⟩:=p3;obtain⟨cur,el,hblk,hsize⟩:=W;have hcurl:=Xm hblk (AM e5);have hwide:=EN e5;have hflat:=tQ hwide;have hnl:=g.length;have hstore:∃ w',(storeCells ((Addr.mk b o none).add (rows.length*sz)) news).run P E.w=.ok () w'/\w'.heap.size=E.w.heap.size/\eE E.w w'/\(∀ x,x≠b->w'.heap[x]? = E.w.heap[x]?) /\
     w'.heap[b]? = some (.cells (cur.toList.take (rows.length*sz)++news++cur.toList.drop (rows.length*sz+news.length)).toArray el (0,0)):=by
    by_cases hM:0<cap
    ·rw [p2 hM, lf, po, cn]
     have hfit2:rows.length*sz+0+news.length<=cur.size:=by
      rw[hnl,hsize,mq,<-fM];exact oh _ I
     have hst:=run_storeCells_at P b (rows.length*sz) el news 0 cur E.w hblk hfit2 (fun v N=>by rw[tO]; exact g.one v N);refine⟨_,hst,setRow_size _ _ _,⟨rfl,rfl,rfl,by first|exact fun _=>aB _|exact fun _=>fV _ _⟩,fun x y=>setRow_other _ _ _ _ y,?_⟩;rw[setRow_heap _ _ _ _ _ _ hblk];simp
    ·have h0 : cap = 0 := by omega
     have hn0:new=[]:=by
      cases new with
      |nil=>rfl
      |cons a l=>simp at I; omega
     have:=ER g hn0;subst this;refine⟨E.w,EP P _ _,rfl,⟨rfl,rfl,rfl,by first|exact fun _=>aB _|exact fun _=>fV _ _⟩,fun _ _=>rfl,?_⟩;rw[hblk];simp
   obtain⟨w',hst,hsz,henv,hother,hb'⟩:=hstore;have hloc:E.loc.set id (some (b,cap))=E.loc:=nE q;have hle:E.le { w:=w',H:=E.H.set id (.vec sz (ver+1) (rows++new)),loc:=E.loc.set id (some (b,cap)),X:=E.X } :=
    Env.k_ hid HE.len (by omega) (fun x y hne=>hother x (fun ex=>hne cap (by rw[ex]; exact q))) (fun b' n' h=>by cases h; exact .inr ⟨cap,q⟩) (.inr O) V (fun _=>U)
   refine⟨_,w',EM (m:=new.length) hu hd1 hd2 hi hs (g.len E.w) I (g.cells E.w (fun _ _ _=>rfl)) hst,E.loc.set id (some (b,cap)),E.X.r,?_,?_,hle⟩
   ·simp only [rel]
    refine⟨⟨_,_,rfl,I,fun _=>⟨b,o,rfl⟩⟩,hpast' _ _,fun _=>⟨fun k=>?_,fun b' M k=>?_⟩⟩
    ·rw[hloc,q]at k; cases k
    ·rw [hloc, q] at k
     simp only[aM,aU]at k;obtain⟨rfl,rfl⟩:=k;exact⟨by omega,o,fun h=>by simpa using p2 (by simpa using h),by simp⟩
   ·refine al.mE HE hid (by omega) (fun x y hne => hother x (fun ex => hne cap (by rw [ex]; exact q))) (fun b' n' h => by cases h; exact .inr ⟨cap, q⟩) (.inr O) V (fun _ => U) ?_
    simp only[aI];right;refine⟨b,cap,by rw[hloc]; exact q,?_,by simpa using I,?_,?_⟩
    ·refine ⟨_, el, hb', ?_⟩
     have hfit2:rows.length*sz+news.length<=cap*sz:=by rw[hnl,<-fM]; exact oh _ I
     simp only[zV,en,lF,pq,jK,hsize];omega
    ·intro r hr
     rcases cw.1 hr with h|h
     ·exact e4 r h
     ·exact g.closed r h
    ·have hall:∀ r∈rows++new,r.length=sz:=by
      intro r hr;rcases cw.1 hr with h|h
      ·exact hwide r h
      ·exact g.wide r h
     refine AN hall (LX hb' (vs:=cur.toList.take (rows.length*sz)++news) (tl:=cur.toList.drop (rows.length*sz+news.length)) ?_ (by simp) ?_)
     ·rw [nl]
      refine ny ?_ (dw hle _ g.rel);have:=dw hle _ hcurl.1;rw[hflat]at this;exact this
     ·intro x y
      rcases cw.1 y with h|h
      ·exact hcurl.2.1 x (by rw[hflat]; exact h)
      ·exact g.one x h
 ·-- it moves
  have holds:∃ olds:List Value,ae E rows.flatten olds/\(∀ x∈olds,dm x=true)/\(∀ r∈rows,r.length=sz)/\eD rows /\
    (jk sz rows.length (.slice base rows.length cap)).run P E.w.drew=.ok olds.toArray E.w.drew:=by
   rcases HE.obj id _ hid with⟨q,W⟩|⟨b,M,q,W,e3,e4,e5⟩
   ·subst W
    refine⟨[],by simp[ae],by simp,by simp,(fun r hr=>by cases hr),?_⟩;cases base<;>simp[jk,loadCells,loadCellsFrom]
   ·obtain ⟨_, o, p2, p3⟩ := q2 b M q
    simp only[kX,fF]at p3;obtain⟨rfl,_,rfl⟩:=p3;by_cases hM:0<cap
    ·have ho := p2 hM
     rw[po]at ho;subst ho;obtain⟨vs,g1,g2,g3⟩:=AO (P:=P) (cap:=cap) e5 (HE.lt id b cap q).1;exact⟨vs,g1,g2,EN e5,e4,g3 _ hcells⟩
    ·have:rows=[]:=by
      cases rows with
      |nil=>rfl
      |cons a l=>simp at hcap; omega
     subst this;exact⟨[],by simp[ae],by simp,by simp,fun r hr=>by(cases hr),by simp[jk,loadCells,loadCellsFrom]⟩
  obtain⟨olds,g1,g2,g3,g4,g5⟩:=holds;obtain⟨C,hC,hrun⟩:=LW (P:=P) (w:=E.w) (ty:=ty) (base:=base) (n:=rows.length) (cap:=cap) (m:=new.length) (x:=cx) (olds:=olds) hu hd1 hd2 hi hs hz1 (g.len E.w) (by omega)
   g5 (g.cells _ hcells) (by omega) (by omega)
  generalize hrest:(zT zv.cells (C-(rows.length+new.length))).toList=rest at hrun;have hrl:rest.length=(C-(rows.length+new.length))*sz:=by
   rw[<-hrest];simp only[jK,size_zeroCells];rw[<-hzl,<-hz2];simp
  generalize hw':E.w.drew.alloc (.cells (olds++news++rest).toArray e)=w' at hrun;have hext:Ext E.w w':=by rw[<-hw']; exact LY _ _
  have hblk:w'.heap[E.w.heap.size]? = some (.cells (olds++news++rest).toArray e (0,0)):=by rw[<-hw']; exact LZ _ _
  have hltw:E.w.heap.size<w'.heap.size:=(Array.getElem?_eq_some_iff.1 hblk).1;have hle:E.le { w:=w',H:=E.H.set id (.vec sz (ver+1) (rows++new)),loc:=E.loc.set id (some (E.w.heap.size,C)),X:=E.X } :=
   Env.k_ hid HE.len hext.size (fun x y _=>hext.same x y) (fun b n h=>by cases h; exact .inl (aB _)) (.inr O) V (fun _=>U)
  have hall:∀ r∈rows++new,r.length=sz:=by
   intro r hr;rcases cw.1 hr with h|h
   ·exact g3 r h
   ·exact g.wide r h
  have hlocs:(E.loc.set id (some (E.w.heap.size,C)))[id]? = some (some (E.w.heap.size,C)):=bf (by rw[HE.len]; exact hlt);have hrow:=EO (E:=E) (E':={ w:=w',H:=E.H.set id (.vec sz (ver+1) (rows++new)),loc:=E.loc.set id (some (E.w.heap.size,C)),X:=E.X })
   (rows:=rows++new) (vals:=olds++news) (m:=rows.length+new.length) (fun a c hr=>bg hle a hr) hblk
   (by rw[nl]; exact ny g1 g.rel)
   (by intro x y; rcases cw.1 y with h|h; exact g2 x h; exact g.one x h) hall (by simp) hC hrl
  refine⟨_,w',hrun,E.loc.set id (some (E.w.heap.size,C)),E.X.r,?_,?_,hle⟩
  ·simp only [rel]
   refine⟨⟨_,_,rfl,hC,fun _=>⟨_,_,rfl⟩⟩,hpast' _ _,fun _=>⟨fun k=>?_,fun b' M k=>?_⟩⟩
   ·rw[hlocs]at k; cases k
   ·rw [hlocs] at k
    simp only[aM,aU]at k;obtain⟨rfl,rfl⟩:=k;exact⟨by omega,0,fun _=>by simp,by simp⟩
  ·refine al.mE HE hid hext.size (fun x y _ => hext.same x y) (fun b n h => by cases h; exact .inl ⟨aB _, hltw⟩) (.inr O) V (fun _ => U) ?_
   simp only[aI];right;refine⟨E.w.heap.size,C,hlocs,hrow.1,by simpa using hC,?_,hrow.2⟩;intro r hr;rcases cw.1 hr with h|h
   ·exact g4 r h
   ·exact g.closed r h
theorem Xq{P:Program}{E:Env}(HE:al E){t xt ty:TypeId}{s x v:AV}{H':List ab}{c I:Value}(h:tP P t xt s x E.H=some (v,H'))
  (d:rel E s c) (V:rel E x I):∃ u w',(og #[t,xt] ty #[c,I]).run P E.w=.ok u w'/\cM E v H' u w':=by
 unfold tP at h;split at h
 case h_2=>cases h
 rename_i e sz by_ hk;split at h
 case h_2=>cases h
 rename_i z new q O N;split at h
 case isFalse=>cases h
 rename_i W;obtain⟨h1,M,y⟩:=W;obtain⟨news,g⟩:=Xl (P:=P) HE N V (Xo O);split at h
 ·cases h
  simp only[rel]at d;obtain⟨base,rfl⟩:=d;exact L3 HE hk q g M y h1
 ·cases h
  simp only[rel]at d;subst d;exact L3 HE hk q g M y h1
 ·split at h
  case h_2=>cases h
  rename_i k v rows hid;split at h
  case isFalse=>cases h
  rename_i U;obtain⟨rfl,rfl,rfl,rfl,rfl,hb⟩:=U;cases h;exact Xp HE hk q g hb y h1 hid d
 ·cases h
end Go.AL

namespace Go.AL
open Go
variable [Dr]
theorem ES{w w':World}{b off:Nat}{cur:Array Value}{vals:List Value}{el:TypeId}{fr:Nat × Nat}(hblk:w.heap[b]? = some (.cells cur el fr))
  (g:w'.heap[b]? = some (.cells (cur.toList.take off++vals++cur.toList.drop (off+vals.length)).toArray el fr)) (q:off+vals.length<=cur.size) (i:Nat) :
  w'.cell? ⟨b,i,none⟩=if off<=i/\i<off+vals.length then vals[i-off]? else w.cell? ⟨b,i,none⟩:=by
 simp only[s9,hblk,g,Option.isSome_none,kV,if_false,List.getElem?_toArray,fE,en,lF,jK,
  nk,qU]
 have h1:min off cur.size=off:=by omega
 rw[h1];by_cases c1:i<off
 ·have c2 : ¬ (off <= i /\ i < off + vals.length) := by omega
  have d:i<off+vals.length:=by omega
  rw[if_neg c2];simp[c1,d]
 ·by_cases c2 : i < off + vals.length
  ·have d : off <= i /\ i < off + vals.length := by omega
   simp[c1,c2,d]
  ·have d : ¬ (off <= i /\ i < off + vals.length) := by omega
   have k:off+vals.length+(i-(off+vals.length))=i:=by omega
   rw[if_neg c2,if_neg d,k];simp
theorem AP{E E':Env}{b o col:Nat}{cur:Array Value}{as cs:List AV}{vals:List Value}{el:TypeId}{fr:Nat × Nat}(d:∀ a c,rel E a c->rel E' a c)
  (hblk:E.w.heap[b]? = some (.cells cur el fr))
  (q:E'.w.heap[b]? = some (.cells (cur.toList.take (o+col)++vals++cur.toList.drop (o+col+vals.length)).toArray el fr)) (k:o+col+vals.length<=cur.size)
  (hr:cu E as b o) (g:ae E cs vals) (h1:∀ x∈vals,dm x=true) (u:col+cs.length<=as.length) :
  cu E' (as.take col++cs++as.drop (col+cs.length)) b o:=by
 have hlen:=jn g;rw[jo]at hr|-;intro i a hi;rw[ES hblk q k];simp only[fE,en,lF,nk,qU]at hi;have hm:min col as.length=col:=by omega
 rw[hm]at hi;by_cases c1:i<col
 ·have c2 : i < col + cs.length := by omega
  rw[if_pos c2,if_pos c1,if_pos c1]at hi;obtain⟨v,g1,g2,g3⟩:=hr i a hi;exact⟨v,by rw[if_neg (by omega)]; exact g1,g2,d _ _ g3⟩
 ·by_cases c2 : i < col + cs.length
  ·rw [if_pos c2, if_neg c1] at hi
   obtain⟨v,g1,g2⟩:=oA g hi;refine⟨v,?_,h1 v (dJ g1),d _ _ g2⟩;rw[if_pos (by omega),<-g1];congr 1;omega
  ·rw [if_neg c2] at hi
   have:col+cs.length+(i-(col+cs.length))=i:=by omega
   rw[this]at hi;obtain⟨v,g1,g2,g3⟩:=hr i a hi;exact⟨v,by rw[if_neg (by omega)]; exact g1,g2,d _ _ g3⟩
theorem Env.oB{E:Env}{w':World}{id b n:Nat}{o o':ab}(HE:al E)(hid:E.H[id]? = some o) (g:E.loc[id]? = some (some (b,n)))
  (k:∀ v,o'.aF = some v->o.aF = some v) (N:w'.heap.size=E.w.heap.size) (y:∀ x,x≠b->w'.heap[x]? = E.w.heap[x]?) (I:eE E.w w':=by first|exact⟨rfl,rfl,rfl,by first|exact fun _=>aB _|exact fun _=>fV _ _⟩|assumption|exact Ext.env (by assumption)) (hmm:o.dc=none\/o'.dc=o.dc\/o'.aF = none:=by first|exact .inl rfl|exact .inr (.inl rfl)|exact .inr (.inr rfl)|exact .inl (ab.Aw (by assumption))|assumption) (O:o.born=true->o'.born=true:=by first|exact fun _=>rfl|exact fun h=>h|assumption) :
  E.le { w:=w',H:=E.H.set id o',loc:=E.loc,X:=E.X }:=by
 have h:=Env.k_ (w':=w') (o':=o') (l:=some (b,n)) hid HE.len (by omega) (fun x _ M=>y x (fun e=>M n (by rw[e]; exact g))) (fun U V h=>by cases h; exact .inr ⟨n,g⟩)
  (.inl fun v d => ⟨k v d, g⟩) (fun v u d hu => by rw [k v d] at hu; cases hu; exact aB _) (fun _ q => by
   cases d:o'.aF with
   |none=>rfl
   |some v=>rw[k v d]at q; cases q) I hmm
 rwa [nE g]at h
theorem al.set{E:Env}{w':World}{id b n:Nat}{o o':ab}(HE:al E)(hid:E.H[id]? = some o) (d:E.loc[id]? = some (some (b,n)))
  (k:∀ v,o'.aF = some v->o.aF = some v) (N:w'.heap.size=E.w.heap.size) (y:∀ x,x≠b->w'.heap[x]? = E.w.heap[x]?)
  (ho:aI { w:=w',H:=E.H.set id o',loc:=E.loc,X:=E.X } id o') (I:eE E.w w':=by first|exact⟨rfl,rfl,rfl,by first|exact fun _=>aB _|exact fun _=>fV _ _⟩|assumption|exact Ext.env (by assumption)) (hlab:o.label=none:=by first|rfl|assumption) (O:o'.label=none:=by first|rfl|assumption) (U:o.born=true->o'.born=true:=by first|exact fun _=>rfl|exact fun h=>h|assumption):al { w:=w',H:=E.H.set id o',loc:=E.loc,X:=E.X }:=by
 have h:=al.mE (w':=w') (o':=o') (l:=some (b,n)) HE hid (by omega) (fun x _ M=>y x (fun e=>M n (by rw[e]; exact d))) (fun V W h=>by cases h; exact .inr ⟨n,d⟩)
  (.inl fun v g => ⟨k v g, d⟩) (fun v u g hu => by rw [k v g] at hu; cases hu; exact aB _) (fun _ q => by
   cases g:o'.aF with
   |none=>rfl
   |some v=>rw[k v g]at q; cases q) (by rw[nE d]; exact ho) I
 rwa [nE d]at h
def putCells(as cs:List AV)(col:Nat):List AV:=as.take col++cs++as.drop (col+cs.length)
def nF(P:Program)(t:TypeId)(x v:AV)(H:List ab):Option (List ab) :=
 match fP P t,nz v,x with
 | some (n,_),some cs,.ptr id ver w row col =>
  if cs.length=n then
   match H[id]? with
   |some (.box cells)=>if ver=0/\row=0/\col+n<=cells.length then some (H.set id (.box (putCells cells cs col))) else none
   | some (.vec k u rows) =>
    if ver=u/\k=w/\AV.bu cs=true then
     match rows[row]? with
     |some r=>if col+n<=r.length then some (H.set id (.vec k u (rows.set row (putCells r cs col)))) else none
     |none=>none
    else none
   |_=>none
  else none
 |_,_,_=>none
theorem ET{as cs:List AV}{col:Nat}(h:col+cs.length<=as.length):(putCells as cs col).length=as.length:=by
 simp[putCells]; omega
theorem w6:∀(a b:List AV),AV.bu (a++b)=(AV.bu a&&AV.bu b)
 | [],b=>by simp[AV.bu]
 |x::a,b=>by simp[AV.bu,w6 a b,alE]
theorem L4{P:Program}{E:Env}(HE:al E){t:TypeId}{x v:AV}{c d:Value}{H':List ab}(h:nF P t x v E.H=some H')(V:rel E x c)(I:rel E v d) :
  ∃ w',(tb t c d).run P E.w=.ok () w'/\al { w:=w',H:=H',loc:=E.loc,X:=E.X }/\E.le { w:=w',H:=H',loc:=E.loc,X:=E.X }:=by
 unfold nF at h;split at h
 case h_2=>cases h
 rename_i n ag cs id ver w row col ht hcs;obtain⟨i,dd,hi,hd,hs,ha⟩:=lL ht;obtain⟨hrel,h1⟩:=AK hcs I;split at h
 case isFalse=>cases h
 rename_i hn;have hlen:=jn hrel;have hsz:d.cells.size=n:=by rw[<-hn,hlen]; simp
 simp only[rel]at V;obtain⟨_,hpast,hlive⟩:=V;split at h
 ·rename_i cells hid
  split at h
  case isFalse=>cases h
  rename_i hc;obtain⟨rfl,rfl,hcol⟩:=hc;cases h;obtain⟨b,m,M,rfl⟩:=hlive ⟨_,hid,rfl⟩;obtain⟨b',m',O,⟨cur,el,hblk,hsize⟩,e3⟩:=HE.obj id _ hid;rw[M]at O;cases O;have g:col+0+d.cells.toList.length<=cur.size:=by rw[hsize]; simp; omega
  have N:=run_storeCells_at P b col el d.cells.toList 0 cur E.w hblk g (fun v I=>by rw[tO]; exact h1 v I);simp only[mq]at N g;generalize y:E.w.setRow b (cur.toList.take col++d.cells.toList++cur.toList.drop (col+d.cells.toList.length)).toArray=w' at N;have W:w'.heap.size=E.w.heap.size:=by rw[<-y]; exact setRow_size _ _ _
  have henv:eE E.w w':=by rw[<-y]; exact⟨rfl,rfl,rfl,by first|exact fun _=>aB _|exact fun _=>fV _ _⟩
  have hother:∀ x,x≠b->w'.heap[x]? = E.w.heap[x]? := by intro x V; rw[<-y]; exact setRow_other _ _ _ _ V
  have U:w'.heap[b]? = some (.cells (cur.toList.take col++d.cells.toList++cur.toList.drop (col+d.cells.toList.length)).toArray el (0,0)):=by
   rw[<-y]; exact setRow_heap E.w b cur _ el (0,0) hblk
  have hver:∀ v,(ab.box (putCells cells cs col)).aF = some v->(ab.box cells).aF = some v:=fun v I=>by simpa[ab.aF]using I
  have hle:=Env.oB (o':=.box (putCells cells cs col)) HE hid M hver W hother;refine⟨w',?_,al.set HE hid M hver W hother ?_,hle⟩
  ·simp only [tb, lE, bS, ft, bT, storeVar, Sem.run_sizeOf hi, hs, po, cn]
   rw[if_neg (by omega)];exact N
  ·simp only [aI]
   refine⟨b,m,M,⟨_,el,U,?_⟩,?_⟩
   ·rw [ET (by omega)]
    simp only[zV,en,lF,pq,jK]at g|-;omega
   ·exact AP (o:=0) (col:=col) (fun a c hr=>bg hle a hr) hblk (by simpa using U) (by simpa using g) e3 hrel h1 (by omega)
 ·rename_i k u rows hid
  split at h
  case isFalse=>cases h
  rename_i hc;obtain⟨rfl,rfl,hclosed⟩:=hc;split at h
  case h_2=>cases h
  rename_i r hrow;split at h
  case isFalse=>cases h
  rename_i hcol;cases h;obtain⟨b,m,M,rfl⟩:=hlive ⟨_,hid,rfl⟩;rcases HE.obj id _ hid with⟨_,O⟩|⟨b',m',O,⟨cur,el,hblk,hsize⟩,e3,e4,e5⟩
  ·subst O; simp at hrow
  rw[M]at O;cases O;have hrlt:=aG hrow;obtain⟨hrk,hrc⟩:=lN e5 hrow;rw[cn]at hrc;have hrow1:(row+1)*k<=m*k:=oh _ (by omega);rw[fM,wH]at hrow1;have g:row*k+col+0+d.cells.toList.length<=cur.size:=by rw[hsize]; simp; omega
  have N:=run_storeCells_at P b (row*k+col) el d.cells.toList 0 cur E.w hblk g (fun v I=>by rw[tO]; exact h1 v I);simp only[mq]at N g;generalize y:E.w.setRow b (cur.toList.take (row*k+col)++d.cells.toList++cur.toList.drop (row*k+col+d.cells.toList.length)).toArray=w' at N;have W:w'.heap.size=E.w.heap.size:=by rw[<-y]; exact setRow_size _ _ _
  have henv:eE E.w w':=by rw[<-y]; exact⟨rfl,rfl,rfl,by first|exact fun _=>aB _|exact fun _=>fV _ _⟩
  have hother:∀ x,x≠b->w'.heap[x]? = E.w.heap[x]? := by intro x V; rw[<-y]; exact setRow_other _ _ _ _ V
  have U:w'.heap[b]? = some (.cells (cur.toList.take (row*k+col)++d.cells.toList++cur.toList.drop (row*k+col+d.cells.toList.length)).toArray el (0,0)):=by
   rw[<-y]; exact setRow_heap E.w b cur _ el (0,0) hblk
  have hver:∀ v,(ab.vec k ver (rows.set row (putCells r cs col))).aF = some v->(ab.vec k ver rows).aF = some v:=fun v I=>by simpa[ab.aF]using I
  have hle:=Env.oB (o':=.vec k ver (rows.set row (putCells r cs col))) HE hid M hver W hother;refine⟨w',?_,al.set HE hid M hver W hother ?_,hle⟩
  ·simp only [tb, lE, bS, ft, bT, storeVar, Sem.run_sizeOf hi, hs]
   rw[if_neg (by omega)];exact N
  ·simp only [aI]
   right;refine⟨b,m,M,⟨_,el,U,?_⟩,by simpa using e3,?_,?_⟩
   ·simp only [zV, en, lF, pq, jK, hsize] at g |-
    omega
   ·intro r' hr'
    rcases List.mem_or_eq_of_mem_set hr' with h'|h'
    ·exact e4 r' h'
    ·rw [h', putCells, w6, w6]
     have:=e4 r (dJ hrow);simp[wV _ _ this,tF _ _ this,hclosed]
   ·rw [mD] at e5 |-
    intro j r' hj;rw[dv]at hj;split at hj
    ·rename_i ej
     subst ej;cases hj;refine⟨by rw[ET (by omega)]; exact hrk,?_⟩;rw[cn];exact AP (fun a c hr=>bg hle a hr) hblk U g hrc hrel h1 (by omega)
    ·rename_i ej
     obtain⟨g1,g2⟩:=e5 j r' hj;refine⟨g1,?_⟩;rw[jo]at g2|-;intro q a hq;obtain⟨vv,p1,p2,p3⟩:=g2 q a hq;refine⟨vv,?_,p2,bg hle a p3⟩;have hql:=aG hq;rw[ES hblk U g,if_neg]
     ·exact p1
     ·rcases Nat.lt_or_gt_of_ne ej with hlt | hgt
      ·have : (row + 1) * k <= j * k := oh _ (by omega)
       rw[fM,wH]at this;simp only[jK];omega
      ·have : (j + 1) * k <= row * k := oh _ (by omega)
       rw[fM,wH]at this;omega
 ·cases h
theorem L5{E:Env}(HE:al E){cells:List AV}{vals:Array Value}{el:TypeId}(hr:ae E cells vals.toList)(h1:∀ x∈vals.toList,dm x=true) :
  cM E (.ptr E.H.length 0 0 0 0) (E.H++[.box cells]) (.pointer (some ⟨E.w.heap.size,0,none⟩)) { E.w with heap:=E.w.heap.push (.cells vals el) }:=by
 have d:=Ext.push E.w (.cells vals el);have hle:=Env.k9 (o:=.box cells) (l:=some (E.w.heap.size,0)) HE.len d (fun b n hb=>by cases hb; exact aB _);have hblk:(E.w.heap.push (.cells vals el))[E.w.heap.size]? = some (.cells vals el (0,0)):=by simp
 have g:ae (E.push { E.w with heap:=E.w.heap.push (.cells vals el) } (.box cells) (some (E.w.heap.size,0))) cells vals.toList:=dw hle _ hr;refine⟨E.loc++[some (E.w.heap.size,0)],E.X.r,?_,al.push HE d (fun b n hb=>?_) ?_,hle⟩
 ·simp only [rel]
  refine⟨⟨_,_,rfl⟩,⟨.box cells,by simp,rfl,fun v k=>by simp⟩,fun _=>⟨E.w.heap.size,0,?_,by simp⟩⟩;rw[<-HE.len]; simp
 ·cases hb
  exact⟨aB _,by simp⟩
 ·simp only [aI]
  refine⟨E.w.heap.size,0,?_,⟨vals,el,hblk,?_⟩,EL (cs:=vals) (el:=el) (fr:=(0,0)) hblk g h1⟩
  ·simp only[Env.push]; rw[<-HE.len]; simp
  ·have := jn hr
   simpa using this.symm
def AQ(P:Program)(t:TypeId):Option TypeId:=match eR P t with
 | some [.pointer none,.slice none 0 0]=>match P.underlying t with
  | some (.struct d)=>match d[1]? with
   | some fd=>match P.underlying fd.type with
    | some (.slice e)=>match P.underlying e with
     |some (.int .u8)=>some e
     |_=>none
    |_=>none
   |none=>none
  |_=>none
 |_=>none
theorem Xr{P:Program}{t e:TypeId}(h:AQ P t=some e):eR P t=some [.pointer none,.slice none 0 0]:=by
 unfold AQ at h;split at h
 ·assumption
 ·cases h
def jQ(H:List ab)(l:Nat):Bool:=H.all fun o=>match o.label with
 |some k => !Nat.beq k l
 |none=>true
theorem oC{H:List ab}{l:Nat}(h:jQ H l=true)(i:Nat)(o:ab)(hi:H[i]? = some o):o.label≠some l:=fun e=>by
 have:=da.1 h o (dJ hi);rw[e]at this;simp at this
theorem Xs{E:Env}(HE:al E){t e:TypeId}(d:jQ E.H 0=true) :
  cM E (.ptr E.H.length 0 0 0 0) (E.H++[.fN 0 t e zO]) (.pointer (some ⟨E.w.heap.size,0,none⟩)) { E.w with heap:=E.w.heap.push (.cells #[.pointer none,.slice none 0 0] t) }:=by
 have q:=Ext.push E.w (.cells #[.pointer none,.slice none 0 0] t);obtain⟨h1,u⟩:=al.W3 (o:=.fN 0 t e zO) (l:=some (E.w.heap.size,0)) (l0:=0) HE q (fun b n hb=>by cases hb; exact⟨aB _,by simp⟩) rfl (oC d) (by
  simp only[aI];refine⟨E.w.heap.size,0,.pointer none,.slice none 0 0,(E.X.r 0).length,none,?_,?_,.inl rfl,?_,?_,⟨rfl,rfl⟩⟩
  ·rw[<-HE.len]; simp
  ·simp
  ·simp[jr,XS.re]
  ·intro h' k y
   rcases Ev (show (jr E.X.r 0 0)[h']? = some (some k) from y)with g|⟨_,g,_⟩
   ·exact(HE.gR 0 (oC d) h' k g).elim
   ·exact g)
 refine⟨E.loc++[some (E.w.heap.size,0)],jr E.X.r 0,?_,h1,u⟩;simp only[rel];refine⟨⟨_,_,rfl⟩,⟨.fN 0 t e zO,by simp,rfl,fun v I=>by simp⟩,fun _=>⟨E.w.heap.size,0,?_,by simp⟩⟩;rw[<-HE.len]; simp
def ru(P:Program)(t:TypeId)(H:List ab):Option (AV × List ab) :=
 match AQ P t with
 |some e=>if jQ H 0=true then some (.ptr H.length 0 0 0 0,H++[.fN 0 t e zO]) else none
 | none=>match eR P t with
  |some z=>some (.ptr H.length 0 0 0 0,H++[.box (z.map .lit)])
  |none=>none
theorem Xt{P:Program}{E:Env}(HE:al E){t:TypeId}{v:AV}{H':List ab}(h:ru P t E.H=some (v,H')) :
  ∃ u w',(D5 t true (.tuple #[])).run P E.w=.ok u w'/\cM E v H' u w':=by
 unfold ru at h;split at h
 ·rename_i e he
  split at h
  case isFalse=>cases h
  rename_i I;cases h;obtain⟨i,g,h1,k,d,y⟩:=nC (Xr he);have q:g.cells=#[.pointer none,.slice none 0 0]:=ic (by simpa using d);refine⟨_,_,?_,Xs HE (t:=t) (e:=e) I⟩;simp[D5,nD h1 k,newVar,newRow,q]
 split at h
 ·rename_i z q
  cases h;obtain⟨i,g,h1,k,d,y⟩:=nC q;refine⟨_,_,?_,L5 HE (vals:=g.cells) (el:=t) (by rw[d]; exact pF z) (by rw[d]; exact y)⟩;simp[D5,nD h1 k,newVar,newRow]
 ·cases h
def zc:Option (List Kd)->Value->AV
 |some ks,.slice none 0 0=>.listF ks []
 |_,v=>.lit v
def er:List (Option (List Kd))->List Value->List AV
 |_,[]=>[]
 | [],v::z=>.lit v::er [] z
 |a::m,v::z=>zc a v::er m z
theorem AR:∀(m:List (Option (List Kd))) (z:List Value),(er m z).length=z.length
 | [],[]=>rfl
 |_::_,[]=>rfl
 | [],v::z=>by simp[er,AR [] z]
 |a::m,v::z=>by simp[er,AR m z]
theorem Xu{E:Env}(a:Option (List Kd))(v:Value):rel E (zc a v) v:=by
 unfold zc;split
 ·simp only [rel, eo]
  exact⟨none,0,rfl,aB _,.inl rfl⟩
 ·simp[rel]
theorem EU{E:Env}:∀(m:List (Option (List Kd))) (z:List Value),ae E (er m z) z
 | [],[]=>by simp[er,ae]
 |_::_,[]=>by simp[er,ae]
 | [],v::z=>by simp only[er,ae]; exact⟨by simp[rel],EU [] z⟩
 |a::m,v::z=>by simp only[er,ae]; exact⟨Xu a v,EU m z⟩
theorem Xv(a:Option (List Kd))(v:Value):(zc a v).closed=true:=by
 unfold zc;split<;>rfl
theorem EW:∀(m:List (Option (List Kd))) (z:List Value),AV.bu (er m z)=true
 | [],[]=>rfl
 |_::_,[]=>rfl
 | [],v::z=>by simp[er,AV.bu,AV.closed,EW [] z]
 |a::m,v::z=>by simp[er,AV.bu,Xv,EW m z]
def pL(P:Program)(t:TypeId)(id:Nat) (m:List (Option (List Kd))) (H:List ab):Option (AV × List ab) :=
 match eR P t,H[id]? with
 |some z,some (.vec k 0 [])=>if k=z.length then some (.ptr id 1 k 0 0,H.set id (.vec k 1 [er m z])) else none
 |_,_=>none
theorem Xw{E:Env}(HE:al E){id k:Nat}{cells:List AV}{vals:Array Value}{el:TypeId}(hid:E.H[id]? = some (.vec k 0 []))(hr:ae E cells vals.toList)(h1:∀ x∈vals.toList,dm x=true)(hk:cells.length=k)
  (U:AV.bu cells=true) :
  cM E (.ptr id 1 k 0 0) (E.H.set id (.vec k 1 [cells])) (.pointer (some ⟨E.w.heap.size,0,none⟩)) { E.w with heap:=E.w.heap.push (.cells vals el) }:=by
 have g:=Ext.push E.w (.cells vals el);have N:=aG hid;have y:∀ v,(ab.vec k 1 [cells]).aF = some v->∀ u,(ab.vec k 0 []).aF = some u->u<v:=by
  intro v d u hu;simp[ab.aF]at d hu;omega
 have O:∀ v u,(ab.vec k 1 [cells]).aF = some v->(ab.vec k 0 []).aF = some u->u<=v:=by
  intro v u d hu;simp[ab.aF]at d hu;omega
 have I:(ab.vec k 0 []).aF = none->(ab.vec k 1 [cells]).aF = none:=by simp[ab.aF]
 have hle:E.le { w:={ E.w with heap:=E.w.heap.push (.cells vals el) },H:=E.H.set id (.vec k 1 [cells]),loc:=E.loc.set id (some (E.w.heap.size,1)),X:=E.X } :=
  Env.k_ hid HE.len g.size (fun x q _=>g.same x q) (fun b n h=>by cases h; exact .inl (aB _)) (.inr y) O (fun _=>I)
 have hblk:(E.w.heap.push (.cells vals el))[E.w.heap.size]? = some (.cells vals el (0,0)):=by simp
 have M:(E.loc.set id (some (E.w.heap.size,1)))[id]? = some (some (E.w.heap.size,1)):=bf (by rw[HE.len]; exact N);have V:=dw hle _ hr;refine⟨E.loc.set id (some (E.w.heap.size,1)),E.X.r,?_,?_,hle⟩
 ·simp only [rel]
  refine⟨⟨_,_,rfl⟩,⟨.vec k 1 [cells],by simp[N],rfl,fun v d=>by simp[ab.aF]at d; omega⟩,fun _=>⟨E.w.heap.size,1,M,by simp⟩⟩
 ·refine al.mE HE hid g.size (fun x q _ => g.same x q) (fun b n h => by cases h; exact .inl ⟨aB _, by simp⟩) (.inr y) O (fun _ => I) ?_
  simp only[aI];right;refine⟨E.w.heap.size,1,M,⟨vals,el,hblk,?_⟩,by simp,?_,?_⟩
  ·have := jn hr
   rw[wH,<-hk];simpa using this.symm
  ·intro r hr
   simp at hr;rw[hr];exact U
  ·simp only [cy, and_true]
   exact⟨hk,EL (cs:=vals) (el:=el) (fr:=(0,0)) hblk V h1⟩
theorem Xx{P:Program}{E:Env}(HE:al E){t:TypeId}{id:Nat}{m:List (Option (List Kd))}{v:AV}{H':List ab}(h:pL P t id m E.H=some (v,H')) :
  ∃ u w',(D5 t true (.tuple #[])).run P E.w=.ok u w'/\cM E v H' u w':=by
 unfold pL at h;split at h
 ·rename_i z k g hid
  split at h
  ·rename_i hk
   cases h;obtain⟨i,q,h1,y,d,I⟩:=nC g;refine⟨_,_,?_,Xw HE (vals:=q.cells) (el:=t) hid (by rw[d]; exact EU m z) (by rw[d]; exact I) (by rw[AR,hk]) (EW m z)⟩;simp[D5,nD h1 y,newVar,newRow]
  ·cases h
 ·cases h
def AS(v:AV)(H:List ab):Option (AV × List ab) :=
 match nz v with
 |some cs=>some (.ptr H.length 0 0 0 0,H++[.box cs])
 |none=>none
theorem Xy{P:Program}{E:Env}(HE:al E){t:TypeId}{x v:AV}{c:Value}{H':List ab}(h:AS x E.H=some (v,H'))(g:rel E x c) :
  ∃ u w',(alJ t c).run P E.w=.ok u w'/\cM E v H' u w':=by
 unfold AS at h;split at h
 ·rename_i cs d
  cases h;obtain⟨h1,k⟩:=AK d g;refine⟨_,_,?_,L5 HE (vals:=c.cells) (el:=t) h1 k⟩;simp[alJ,newVar,newRow]
 ·cases h
theorem L6{E:Env}(HE:al E){sz n C:Nat}{rows:List (List AV)}{vals rest:List Value}{el:TypeId}(hr:ae E rows.flatten vals)(h1:∀ x∈vals,dm x=true)
  (hw:∀ r∈rows,r.length=sz) (u:eD rows) (d:rows.length=n) (hC:n<=C) (q:rest.length=(C-n)*sz) :
  cM E (.vec sz E.H.length 0 0 n) (E.H++[.vec sz 0 rows]) (.slice (some ⟨E.w.heap.size,0,none⟩) n C) { E.w with heap:=E.w.heap.push (.cells (vals++rest).toArray el) }:=by
 have g:=Ext.push E.w (.cells (vals++rest).toArray el);have hle:=Env.k9 (o:=.vec sz 0 rows) (l:=some (E.w.heap.size,C)) HE.len g (fun b n hb=>by cases hb; exact aB _);have hblk:(E.w.heap.push (.cells (vals++rest).toArray el))[E.w.heap.size]? = some (.cells (vals++rest).toArray el (0,0)):=by simp
 have k:=EO (E':=E.push { E.w with heap:=E.w.heap.push (.cells (vals++rest).toArray el) } (.vec sz 0 rows) (some (E.w.heap.size,C))) (fun a c hr=>bg hle a hr) hblk hr h1 hw d hC q;refine⟨E.loc++[some (E.w.heap.size,C)],E.X.r,?_,al.push HE g (fun b n hb=>?_) ?_,hle⟩
 ·simp only [rel]
  refine⟨⟨_,_,rfl,hC,fun _=>⟨_,_,rfl⟩⟩,⟨.vec sz 0 rows,by simp,rfl,fun v y=>by simp[ab.aF]at y; omega⟩,fun _=>⟨fun d=>?_,fun b M d=>?_⟩⟩
  ·rw[<-HE.len]at d; simp at d
  ·rw [<- HE.len] at d
   simp at d;obtain⟨rfl,rfl⟩:=d;exact⟨by omega,0,fun _=>by simp,by simp⟩
 ·cases hb
  exact⟨aB _,by simp⟩
 ·simp only [aI]
  right;refine⟨E.w.heap.size,C,?_,k.1,by omega,u,k.2⟩;simp only[Env.push];rw[<-HE.len];simp
theorem range_zero(z:Array Value)(n:Nat)(q:0<z.size):((iL (n*z.size)).map (fun i=>z[i%z.size]!)).toList=(bQ n z.toList).flatten:=by
 induction n with
 |zero=>simp
 | succ n g =>
  rw[List.replicate_succ',nl,<-g];simp only[jl,List.flatten_nil,cB];apply iK;intro i;simp only[Wl,Array.toList_range,bB,fE,bN,List.length_range];by_cases c1:i<n*z.size
  ·have c2 : i < (n + 1) * z.size := by rw [fM]; omega
   simp[c1,c2]
  ·by_cases c2 : i < (n + 1) * z.size
   ·have d : i - n * z.size < z.size := by rw [fM] at c2; omega
    have k:i%z.size=i-n*z.size:=by
     have:i=i-n*z.size+n*z.size:=by omega
     rw[this,Nat.add_mul_mod_self_right,Nat.mod_eq_of_lt d];omega
    simp[c1,c2,k,d]
   ·have d : ¬ (i - n * z.size < z.size) := by rw [fM] at c2; omega
    simp[c1,c2,d]
theorem L7(f:Nat->Value):K9 f (iL 0)=#[]:=by apply ic; simp
def L8:Value->Option Kd
 |.int k _=>some (.int k)
 |.string _=>some .str
 |.bool _=>some .bool
 |_=>none
def EX:List Value->Option (List Kd)
 | []=>some []
 | v::vs=>match L8 v,EX vs with
  |some k,some ks=>some (k::ks)
  |_,_=>none
def w7(P:Program)(t:TypeId):Option (List Kd):=match P.underlying t with
 | some (.slice e)=>match P.info? e with
  | some i=>match i.zero with
   |some (.agg cs)=>EX cs.toList
   |some v=>EX [v]
   |none=>none
  |none=>none
 |_=>none
def AT(P:Program):Nat->TypeId->List TypeId
 |0,t=>[t]
 | d+1,t=>match P.underlying t with
  |some (.struct g)=>(g.toList.map fun f=>AT P d f.type).flatten
  |some (.array n e)=>(bQ n (AT P d e)).flatten
  |_=>[t]
def nH:List Value->List (Option (List Kd))->List AV
 | [],_=>[]
 | v::vs,ks=>(match v,ks.headD none with
  |.slice none 0 0,some k=>.listF k []
  |v,_=>.lit v)::nH vs ks.tail
def Xz:AV->Option Kd
 |.listF k _=>some (.list k)
 |.lit v=>L8 v
 |_=>none
def L9:List AV->Option (List Kd)
 | []=>some []
 | v::vs=>match Xz v,L9 vs with
  |some k,some ks=>some (k::ks)
  |_,_=>none
def XA(P:Program)(t:TypeId):Option (List Kd):=match w7 P t with
 |some ks=>some ks
 | none=>match P.underlying t with
  | some (.slice e)=>match P.info? e with
   | some i=>match i.zero with
    |some (.agg cs)=>L9 (nH cs.toList ((AT P 4 e).map (w7 P)))
    |_=>none
   |none=>none
  |_=>none
def AU(P:Program)(e:TypeId)(z:List Value):List AV:=nH z ((AT P 4 e).map (XA P))
theorem L_:∀(z:List Value) (ks:List (Option (List Kd))),(nH z ks).length=z.length
 | [],_=>rfl
 |_::z,ks=>by simp[nH,L_ z]
theorem Ma{E:Env}:∀(z:List Value) (ks:List (Option (List Kd))),ae E (nH z ks) z
 | [],_=>by simp[nH,ae]
 | v::z,ks=>by
  simp only[nH,ae];refine⟨?_,Ma z _⟩;split
  ·simp only [rel, eo, G.rows]
   exact⟨none,0,rfl,aB _,.inl (by first|rfl|trivial)⟩
  ·simp[rel]
theorem Mb:∀(z:List Value) (ks:List (Option (List Kd))),AV.bu (nH z ks)=true
 | [],_=>rfl
 | v::z,ks=>by
  simp only[nH,AV.bu,Mb z,gD];split<;>rfl
theorem Mc{E:Env}{as:List AV}{z:List Value}(h:ae E as z):∀ n:Nat,ae E (bQ n as).flatten (bQ n z).flatten
 |0=>by simp[ae]
 | n+1=>by
  simp only[K_,jl];exact ny h (Mc h n)
def w8(P:Program)(t:TypeId)(l c:AV)(H:List ab):Option (AV × List ab) :=
 match cD P t,l,c with
 | .slice e sz d,.lit (.int _ l),.lit (.int _ c) =>
  match eR P e with
  | some z=>if z.length=sz/\0<sz/\0<=l/\l<=c/\c<=1048576/\d<=1048576 then
    some (.vec sz H.length 0 0 l.toNat,H++[.vec sz 0 (bQ l.toNat (AU P e z))]) else none
  |none=>none
 |_,_,_=>none
theorem wrap_small{n:Int}(h0:0<=n)(h1:n<=1048576):IntKind.i64.wrap n=n:=by
 simp[IntKind.wrap,IntKind.bits,IntKind.signed];omega
theorem w9{E:Env}(z:List Value):∀ n:Nat,ae E (bQ n (z.map AV.lit)).flatten (bQ n z).flatten
 |0=>by simp[ae]
 | n+1=>by
  simp only[K_,jl];exact ny (pF z) (w9 z n)
theorem w_{α:Type}{z:List α}{n:Nat}{x:α}(h:x∈(bQ n z).flatten):x∈z:=by
 obtain⟨l,h1,d⟩:=List.mem_flatten.1 h;rw[Wm h1]at d;exact d
theorem EY:∀(z:List Value),AV.bu (z.map .lit)=true
 | []=>rfl
 |v::z=>by simp[AV.bu,AV.closed,EY z]
theorem XB{P:Program}{E:Env}(HE:al E){t:TypeId}{l c v:AV}{cl N:Value}{H':List ab}(h:w8 P t l c E.H=some (v,H'))
  (O:rel E l cl) (U:rel E c N):∃ u w',(alK t cl N).run P E.w=.ok u w'/\cM E v H' u w':=by
 unfold w8 at h;split at h
 case h_2=>cases h
 rename_i e sz by_ k1 l k2 c hk;simp only[rel]at O U;subst O; subst U;obtain⟨hu,i,hi,hs,hby⟩:=ig hk;split at h
 case h_2=>cases h
 rename_i z hz;split at h
 case isFalse=>cases h
 rename_i W;obtain⟨g1,g2,g3,g4,g5,g6⟩:=W;cases h;obtain⟨i',d,y,hz1,I,hz3⟩:=nC hz;rw[hi]at y;cases y;have wl:IntKind.i64.wrap l=l:=wrap_small g3 (by omega);have wc:IntKind.i64.wrap c=c:=wrap_small (by omega) g5;have hbc:(i.bytes:Int)*c<=1048576*1048576:=by
  have h1:(i.bytes:Int)<=1048576:=by omega
  have g:(0:Int)<=c:=by omega
  exact Int.mul_le_mul h1 g5 g (by omega)
 have hne:¬ (281474976710656<(i.bytes:Int)*c):=by omega
 have hzs:d.cells.size=sz:=by rw[<-g1,<-I]; simp
 have q:(bQ l.toNat z).flatten++(bQ (c.toNat-l.toNat) z).flatten=(bQ c.toNat z).flatten:=by
  rw[<-nl,List.replicate_append_replicate];congr 2;omega
 obtain⟨vals,k⟩:∃ vals,vals=(bQ l.toNat z).flatten:=⟨_,rfl⟩
 obtain⟨rest,M⟩:∃ rest,rest=(bQ (c.toNat-l.toNat) z).flatten:=⟨_,rfl⟩
 have hrest:rest.length=(c.toNat-l.toNat)*sz:=by rw[M]; simp[g1]
 rw[<-k,<-M]at q;refine⟨.slice (some ⟨E.w.heap.size,0,none⟩) l.toNat c.toNat,{ E.w with heap:=E.w.heap.push (.cells (vals++rest).toArray e) },?_,?_⟩
 ·have h1 : ¬ c < 0 := by omega
  have g:¬ l<0:=by omega
  have h3:¬ c<l:=by omega
  simp only[alK,bS,Sem.bk hu,bT,asInt,asIntOf,ft,typeInfo,run_program,hi,wl,wc];rw[if_neg (by simp[h1,g,h3,hne])];simp only[bS,run_askRoom,bT,Sem.run_sizeOf hi];rw[q];by_cases h0:c.toNat*i.size=0
  ·have:c.toNat=0:=by
    rcases Wn.1 h0 with h|h
    ·exact h
    ·omega
   rw[if_pos h0];simp only[bS,ft,bT,newRow,this,po,L7];simp
  ·rw [if_neg h0]
   simp only[bS,nD hi hz1,bT,ft,newRow];have:(K9 (fun x=>d.cells[x%d.cells.size]!) (iL (c.toNat*i.size)))=(bQ c.toNat z).flatten.toArray:=by
    apply ic;rw[hs,<-hzs,range_zero d.cells c.toNat (by omega),I]
   rw[this];simp
 ·refine L6 HE (C := c.toNat) (by rw [k]; exact Mc (Ma z _) _) (by intro x V; rw [k] at V; exact hz3 x (w_ V)) ?_ ?_ (by simp) (by omega) hrest
  ·intro r hr
   have:=Wm hr;rw[this];rw[AU,L_]; exact g1
  ·intro r hr
   have:=Wm hr;rw[this];exact Mb z _
def tR(P:Program)(t:TypeId)(n:Nat)(parts:List (Nat × AV)):Option AV :=
 match cD P t with
 | .slice e sz _=>match eR P e with
  | some z=>if z.length=sz/\0<sz/\n*sz<=1048576 then
    match rr (fun i=>some (i*sz,sz)) (bQ n (z.map AV.lit)).flatten parts with
    |some out=>if AV.bu out=true/\out.length=n*sz then some (match n with|0=>.nils|_=>.list sz (chunk sz n out)) else none
    |none=>none
   else none
  |none=>none
 |_=>none
theorem XC{P:Program}{E:Env}(HE:al E){t:TypeId}{n:Nat}{parts:List (Nat × AV)}{cparts:List (Nat × Value)}{v:AV}(h:tR P t n parts=some v)
  (hm:parts.map (·.1)=cparts.map (·.1)) (hv:ae E (parts.map (·.2)) (cparts.map (·.2))) :
  ∃ u w',(La t n cparts.toArray).run P E.w=.ok u w'/\Ext E.w w'/\rel { E with w:=w' } v u:=by
 unfold tR at h;split at h
 case h_2=>cases h
 rename_i e sz by_ hk;obtain⟨hu,i,hi,k,_⟩:=ig hk;split at h
 case h_2=>cases h
 rename_i z hz;obtain⟨i',q,M,W,N,hz3⟩:=nC hz;rw[hi]at M;cases M;split at h
 case isFalse=>cases h
 rename_i hc;obtain⟨g1,g2,g3⟩:=hc;split at h
 case h_2=>cases h
 rename_i out V;split at h
 case isFalse=>cases h
 rename_i O;cases h;have hzs:q.cells.size=sz:=by rw[<-g1,<-N]; simp
 obtain⟨d,g⟩:∃ d:Array Value,d.toList=(bQ n z).flatten:=⟨((bQ n z).flatten).toArray,by simp⟩
 obtain⟨o,f1,f2,f3⟩:=wZ (E:=E) (cs:=d) V (by rw[g]; exact w9 z n) (by rw[g]; intro x y; exact hz3 x (w_ y)) hm hv;have I:=Ext.push E.w (.cells o e);have hblk:(E.w.heap.push (.cells o e))[E.w.heap.size]? = some (.cells o e (0,0)):=by simp
 refine⟨.slice (some ⟨E.w.heap.size,0,none⟩) n n,{ E.w with heap:=E.w.heap.push (.cells o e) },?_,I,?_⟩
 ·have hno : ¬ (n * i.size > 2 ^ 24) := by rw [k]; omega
  simp only[La,bS,Sem.bk hu,bT,Sem.run_sizeOf hi];rw[if_neg hno];by_cases h0:n*i.size=0
  ·have U:n=0:=by
    rcases Wn.1 h0 with h|h
    ·exact h
    ·omega
   have:d=#[]:=by apply ic; rw[g,U]; rfl
   rw[if_pos h0];rw[this]at f1;simp only[bS,ft,bT,U,po,L7,k,f1];simp[newRow]
  ·rw [if_neg h0]
   simp only[bS,nD hi W,bT,ft];have:(K9 (fun x=>q.cells[x%q.cells.size]!) (iL (n*i.size)))=d:=by
    apply ic;rw[k,<-hzs,range_zero q.cells n (by omega),N,g]
   rw[this,k,f1];simp[newRow]
 ·have hle : E.le { E with w := { E.w with heap := E.w.heap.push (.cells o e) } } := Env.kl I
  cases n with
  |zero=>simp only[rel]; exact⟨_,rfl⟩
  |succ n =>
  simp only[rel];refine⟨EK sz _ out O.1,some ⟨E.w.heap.size,0,none⟩,n+1,by rw[w5],by rw[w5]; exact aB _,.inr ⟨E.w.heap.size,0,rfl,?_,?_⟩⟩
  ·refine ⟨by simp, ?_, fun y => by have := HE.X _ y; omega⟩
   rintro ho;have:=(HE.AA ho).1;omega
  ·exact LU sz _ out _ 0 O.2 (EL (cs:=o) (el:=e) (fr:=(0,0)) hblk (dw hle _ f2) f3)
end Go.AL
