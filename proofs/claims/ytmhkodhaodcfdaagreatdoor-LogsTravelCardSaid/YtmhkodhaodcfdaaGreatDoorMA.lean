/-
 What is proved here: basic facts of an abstract logic for the model's programs: abstract values,what they say of the model's values in a world,and that this survives what a call may do. No program in sight; no condition.
-/
import Derived.Calls
import Derived.Orders
import Derived.OrdersIn
import Derived.RangeFuncNested
import Derived.RangeFuncLeaves
import Derived.Laws.Sem
import Derived.Laws.Cells
import Derived.Laws.StructEq
import Derived.Laws.AppendOwn
import Derived.Laws.CopyRow
set_option linter.all false
open Array renaming getElem?_push->JP,length_toList->lx,toList_map->JX,ext'->g_,range->EY,map->JZ
open BitVec renaming ofInt->AP
open Bool renaming and_true->gu,and_eq_true->aE,false_eq_true->me,and_assoc->ajM
open ByteArray renaming empty->uy
open Go renaming Value->ak,TypeId->aD,World->a6,Program->ai,Operand->bX
open Go.Act renaming eval->JS
open Go.Addr.mk renaming injEq->ET
open Go.Builtin renaming lenOf->JV,firstCells->jP,append_->nk,zeroCells->AU,nextslicecap->JY
open Go.Instr renaming loadAt->xe,sureAddr->mf,fieldAt->SU,indexAt->xf,sliceBounds->uA,sliceBound->EU,sliceAt->po,slice->qE,index->SY,field->ajQ,fill->ajR,build->S1,storeAt->uC,alloc->AY,box->ajT,makeSlice->ajU,buildSlice->J0
open Go.Op renaming bytesLess->fA,equalIn->jO,eqFields->AR,equal->AT
open Go.Program renaming fieldsOf->ajN
open Go.Result renaming andThen_ok->bY
open Go.Sem renaming run_bind->cg,run_pure->e_
open Go.Value renaming cells->JU
open Go.Value.pointer renaming injEq->ajK
open Go.Value.slice renaming injEq->lv
open Go.World renaming cell?->qD,setRow->ajS
open List renaming length_cons->bW,append_nil->fe,getElem?_append_left->dr,getElem?_eq_some_iff->xd,length_map->fJ,getElem?_map->cX,getElem?_eq_getElem->cn,mem_of_getElem?->eC,getElem?_eq_none->JQ,getElem?_append_right->jz,getElem?_append->fy,getElem?_set_self->bK,getElem?_set_ne->bc,getElem?_set->eU,set_eq_of_length_le->JR,all_eq_true->cq,getD_eq_getElem?_getD->eh,getElem?_drop->sA,getElem?_take->om,take_succ_cons->ES,mem_cons->cf,map_cons->eM,map_take->SV,map_drop->JT,mem_of_mem_drop->uB,mem_of_mem_take->oq,cons_append->kK,take_one->SW,eq_nil_of_length_eq_zero->ot,drop_drop->pq,take_append_drop->ng,ext_getElem?->ou,length_take->iy,length_append->dG,mem_append->cN,mapM_cons->S0,flatten_cons->xh,getElem?_of_mem->JW,size_toArray->AW,length_drop->qG,flatten_append->AX,replicate->dz,replicate_succ->S2,eq_of_mem_replicate->S3
open List.cons renaming injEq->SZ
open Nat renaming add_assoc->sx,add_comm->xc,add_mul->fZ,le_refl->aY,le_add_right->gv,le_trans->oh,lt_of_lt_of_le->eF,zero_le->fO,ne_of_lt->ajJ,lt_or_ge->kJ,zero_add->eo,sub_sub->ajL,sub_zero->ff,zero_mul->pr,add_zero->np,mul_le_mul_right->qF,one_mul->xk,mul_eq_zero->S4
open Option renaming map_eq_some_iff->eG,isSome_iff_exists->AQ
open Option.some renaming injEq->a_
open Prod.mk renaming injEq->bk
open Std.Legacy.Range renaming forIn_eq_forIn_range'->ajO,size->ajP
namespace Go.AL
section
universe u
def iN{c:Prop}{h:Decidable c}(n:¬c){α:Sort u}{t e:α}:(ite c t e)=e:=if_neg n
def iP{c:Prop}{h:Decidable c}(n:c){α:Sort u}{t e:α}:(ite c t e)=t:=if_pos n
def dT{p:Prop}[Decidable p]:(decide p=true)=p:=decide_eq_true_eq
def dF{p:Prop}{_:Decidable p}:decide p=false↔¬p:=decide_eq_false_iff_not
def dE{p:Prop}[h:Decidable p]:p->decide p=true:=decide_eq_true
def cT{α:Sort u}{a b:α}:cond true a b=a:=rfl
def cF{α:Sort u}{a b:α}:cond false a b=b:=rfl
end
inductive Kd where
 |int (k:IntKind)
 |str
 |bool
 |list (ks:List Kd)
 deriving Inhabited
inductive G where
 |i (n:Int)
 |s (b:ByteArray)
 |t (x:Bool)
 |l (rZ:List (List G))
instance:Inhabited G:=⟨.i 0⟩
def G.iV:G->Int
 |.i n=>n
 |_=>0
def G.sV:G->ByteArray
 |.s b=>b
 |_=>uy
def G.bV:G->Bool
 |.t x=>x
 |_=>false
def G.rZ:G->List (List G)
 |.l rZ=>rZ
 |_=>[]
inductive AV where
 |undef
 |lit (v:ak)
 |nils
 |list (k:Nat) (rZ:List (List AV))
 |listF (ks:List Kd) (rZ:List (List G))
 |agg (cells:List AV)
 |tuple (vs:List AV)
 |cptr (cells:List AV)
 |ptr (id al k row col:Nat)
 |vQ (k id al oF n:Nat)
 |map (id:Nat)
 |clo (f:FuncId) (caps:List AV)
 |ifc
 |emptyS (isNil:Bool)
 |sub (id l:Nat) (j:Option Nat)
 |svec (id l j n:Nat)
 |sptr (id l j k row col:Nat)
 deriving Inhabited
def lD:Kd->G->AV
 |.int k,g=>.lit (.int k g.iV)
 |.str,g=>.lit (.string g.sV)
 |.bool,g=>.lit (.bool g.bV)
 |.list ks,g=>.listF ks g.rZ
def a8:List Kd->List G->List AV
 | [],_=>[]
 |k::ks,g=>lD k (g.headD default)::a8 ks g.tail
def xu:∀(ks:List Kd) (g:List G),(a8 ks g).length=ks.length
 | [],_=>rfl
 |_::ks,g=>by simp[a8,xu ks]
inductive ah where
 |dead
 |box (cells:List AV)
 |vQ (k al:Nat) (rZ:List (List AV))
 |map (es:List (AV × AV × Nat)) (clock:Nat)
 |iter (s:ByteArray) (pos:Nat)
 |cD (l:Nat) (T B:aD) (s:ByteArray)
 |br (l k:Nat) (es:List (AV × Option (List (List AV)) × Nat)) (clock:Nat)
 |mm (l:Nat) (es:List (AV × Option Nat × Nat)) (ms:List (List (AV × AV × Nat) × Nat)) (clock:Nat)
 |dP
 |cM (l k n:Nat) (ms:List (List (List AV)))
 |bM (l k:Nat) (es:List (AV × (Option (List (List AV)) × Option (List (List AV))) × Nat)) (clock:Nat)
 deriving Inhabited
def ah.born:ah->Bool
 |.dP=>false
 |_=>true
def ah.label:ah->Option Nat
 |.cD l _ _ _=>some l
 |.br l _ _ _=>some l
 |.mm l _ _ _=>some l
 |.cM l _ _ _=>some l
 |.bM l _ _ _=>some l
 |_=>none
def ah.dM:ah->Option Nat
 |.mm l _ _ _=>some l
 |.cM l _ _ _=>some l
 |_=>none
def ah.nz{o:ah}{l:Nat}(h:o.dM=some l):o.label=some l:=by
 cases o<;>first|exact h|cases h
def ah.Fp{o:ah}{l:Nat}(h:o.dM=some l):o.born=true:=by
 cases o<;>first|rfl|cases h
def ah.Ba{o:ah}{l:Nat}(h:o.label=some l):o.born=true:=by
 cases o<;>first|rfl|cases h
def ah.Bb{o:ah}(h:o.label=none):o.dM=none:=by
 cases o<;>first|rfl|cases h
def ah.aU : ah->Option Nat
 |.dead=>none
 |.box _=>some 0
 |.vQ _ v _=>some v
 |.map _ _=>some 0
 |.iter _ _=>some 0
 |.cD ..=>some 0
 |.br ..=>some 0
 |.mm ..=>some 0
 |.cM ..=>some 0
 |.bM ..=>some 0
 |.dP=>none
def ah.Fq{o:ah}{v:Nat}(h:o.aU = some v):o.born=true:=by
 cases o<;>first|rfl|cases h
structure XS where
 x:Nat->Prop
 z:Nat->Prop
 r:Nat->List (Option (Option (Nat × Nat)))
instance:CoeFun XS fun _=>Nat->Prop:=⟨XS.x⟩
def XS.or(X:XS)(p:Nat->Prop):XS:=⟨fun b=>X b\/p b,X.z,X.r⟩
def XS.re(X:XS) (r:Nat->List (Option (Option (Nat × Nat)))):XS:=⟨X.x,X.z,r⟩
@[simp] theorem XS.Fs (X:XS):X.re X.r=X:=rfl
@[simp] theorem XS.akA (X:XS) (r):(X.re r).x=X.x:=rfl
@[simp] theorem XS.akB (X:XS) (r):(X.re r).z=X.z:=rfl
@[simp] theorem XS.akC (X:XS) (r):(X.re r).r=r:=rfl
@[simp] theorem XS.akD (X:XS) (r a):(X.re r).re a=X.re a:=rfl
def XS.Kh{X a:XS}(h:a.x=X.x/\a.z=X.z)(r):a.re r=X.re r:=by
 unfold XS.re;rw[h.1,h.2]
def iB:Nat->List (Option (Option (Nat × Nat))):=fun _=>[]
def uM:List (Nat × Array ak):=[(1,((List.range 20).map fun i=>Value.int .u64 ((10 ^ i:Nat):Int)).toArray)]
class Dr where
 d:Bool
abbrev xv:Dr:=⟨true⟩
abbrev Tt:Dr:=⟨false⟩
variable [Dr]
def qN:Bool:=Dr.d
structure ae where
 w:a6
 H:List ah
 ad:List (Option (Nat × Nat))
 X:XS
def ae.sat(E:ae)(b:Nat):Prop:=∃(l h m:Nat),(E.X.r l)[h]? = some (some (some (b,m)))
def ae.bN(E:ae)(b:Nat):Prop:=(∃(id:Nat) (c:Nat),E.ad[id]? = some (some (b,c)))\/E.sat b
def ae.jQ(E:ae)(b:Nat):Prop:=b<E.w.heap.size/\¬ E.bN b/\¬ E.X b
def ae.live(E:ae)(id al:Nat):Prop:=∃ o,E.H[id]? = some o/\o.aU = some al
def ae.bu(E:ae)(id al:Nat):Prop:=∃ o,E.H[id]? = some o/\o.born=true/\∀ v,o.aU = some v->al<=v
def dI (r:List (Option (Option (Nat × Nat)))):List Nat:=r.filterMap fun x=>match x with
 |some (some (b,_))=>some b
 |_=>none
def xw (r t:List (Option (Option (Nat × Nat)))):dI (r++t)=dI r++dI t:=List.filterMap_append
def ae.uN(E:ae)(id l j:Nat)(p:Nat->Prop):Prop:=(∃ o,E.H[id]? = some o/\o.dM=some l)/\∃ b,(dI (E.X.r l))[j]? = some b/\p b
def ae.Ki(E:ae)(id l i:Nat)(c:ak):Prop:=(∃ o,E.H[id]? = some o/\o.dM=some l)/\∃ b,(dI (E.X.r l))[i]? = some b/\c=.map (some b)
def dU:ak->Bool
 |.agg _ | .tuple _=>false
 |_=>true
mutual
def AV.closed:AV->Bool
 |.undef | .lit _ | .nils | .list _ _ | .listF _ _ | .cptr _ | .ifc | .emptyS _=>true
 |.agg a | .tuple a | .clo _ a=>AV.cb a
 |.ptr .. | .vQ .. | .map _ | .sub .. | .svec .. | .sptr ..=>false
def AV.cb:List AV->Bool
 | []=>true
 |a::as=>a.closed&&AV.cb as
end
def gI:∀(ks:List Kd) (g:List G),AV.cb (a8 ks g)=true
 | [],_=>rfl
 | k::ks,g=>by
  simp only[a8,AV.cb,gI ks,gu];cases k<;>rfl
mutual
def eX(E:ae):Kd->G->ak->Prop
 |.int k,g,c=>c=.int k g.iV
 |.str,g,c=>c=.string g.sV
 |.bool,g,c=>c=.bool g.bV
 | .list ks,g,c=>∃ aN cap,c=.slice aN g.rZ.length cap/\g.rZ.length<=cap /\
   (g.rZ=[]\/∃ b o,aN=some ⟨b,o,none⟩/\E.jQ b/\∀(i:Nat) (r:List G),g.rZ[i]? = some r->lE E ks r b (o+i*ks.length))
def lE(E:ae):List Kd->List G->Nat->Nat->Prop
 | [],_,_,_=>True
 |k::ks,g,b,o=>(∃ v,E.w.cell? ⟨b,o,none⟩=some v/\dU v=true/\eX E k (g.headD default) v)/\lE E ks g.tail b (o+1)
end
def fg(rZ:List (List AV)):Prop:=∀ r∈rZ,AV.cb r=true
mutual
def ab(E:ae):AV->ak->Prop
 |.undef,_=>True
 |.lit v,c=>c=v
 |.nils,c=>∃ aN,c=.slice aN 0 0
 | .list k rZ,c=>fg rZ/\∃ aN cap,c=.slice aN rZ.length cap/\rZ.length<=cap /\
   (rZ=[]\/∃ b o,aN=some ⟨b,o,none⟩/\E.jQ b/\da E k rZ b o)
 |.listF ks rZ,c=>eX E (.list ks) (.l rZ) c
 |.agg cells,c=>∃ a:Array ak,c=.agg a/\(∀ x∈a.toList,dU x=true)/\ar E cells a.toList
 |.tuple g,c=>∃ a:Array ak,c=.tuple a/\ar E g a.toList
 |.cptr cells,c=>AV.cb cells=true/\∃ b o,c=.pointer (some ⟨b,o,none⟩)/\E.jQ b/\cY E cells b o
 | .ptr id al k row d,c=>(∃ b o,c=.pointer (some ⟨b,o,none⟩))/\E.bu id al/\(E.live id al->∃ b n,E.ad[id]? = some (some (b,n)) /\
   c=.pointer (some ⟨b,row*k+d,none⟩))
 | .vQ k id al oF n,c=>(∃ aN cap,c=.slice aN n cap/\n<=cap/\(0<n->∃ b o,aN=some ⟨b,o,none⟩))/\E.bu id al/\(E.live id al ->
   (E.ad[id]? = some none->n=0/\oF=0/\∃ aN,c=.slice aN 0 0) /\
   (∀ b m,E.ad[id]? = some (some (b,m))->oF+n<=m/\∃ o,(oF<m->o=oF*k)/\c=.slice (some ⟨b,o,none⟩) n (m-oF)))
 |.map id,c=>(∃ b,c=.map (some b))/\E.bu id 0/\(E.live id 0->∃ b n,E.ad[id]? = some (some (b,n))/\c=.map (some b))
 |.clo f caps,c=>∃ a:Array ak,c=.func (.func f) #[] a/\ar E caps a.toList
 |.ifc,c=>∃ t v,c=.iface t v
 |.emptyS n,c=>∃ aN cap,c=.slice aN 0 cap/\aN.isNone=n
 |.sub id l j,c=>(j=none/\c=.map none)\/∃ i,j=some i/\(∃ b,c=.map (some b))/\E.bu id 0/\(E.live id 0->E.Ki id l i c)
 |.svec id l j n,c=>(∃ aN cap,c=.slice aN n cap/\n<=cap/\(0<n->∃ b o,aN=some ⟨b,o,none⟩))/\E.bu id 0/\(E.live id 0->E.uN id l j fun b=>∃ m,n<=m/\c=.slice (some ⟨b,0,none⟩) n m)
 |.sptr id l j k row d,c=>(∃ b o,c=.pointer (some ⟨b,o,none⟩))/\E.bu id 0/\(E.live id 0->E.uN id l j fun b=>c=.pointer (some ⟨b,row*k+d,none⟩))
def ar(E:ae):List AV->List ak->Prop
 | [],[]=>True
 |a::as,v::b=>ab E a v/\ar E as b
 |_,_=>False
def cY(E:ae):List AV->Nat->Nat->Prop
 | [],_,_=>True
 |a::as,b,o=>(∃ v,E.w.cell? ⟨b,o,none⟩=some v/\dU v=true/\ab E a v)/\cY E as b (o+1)
def da(E:ae)(k:Nat):List (List AV)->Nat->Nat->Prop
 | [],_,_=>True
 |r::rs,b,o=>r.length=k/\cY E r b o/\da E k rs b (o+k)
end
def iC{E:ae}:∀{as:List AV} {a:List ak},ar E as a->as.length=a.length
 | [],[],_=>rfl
 |_::_,_::_,h=>by simp only[ar]at h; simp[iC h.2]
 | [],_::_,h=>by simp[ar]at h
 |_::_,[],h=>by simp[ar]at h
def sI{E:ae}:∀{as:List AV} {g:List ak},
  ar E as g↔as.length=g.length/\∀(i:Nat) a v,as[i]? = some a->g[i]? = some v->ab E a v
 | [],[]=>by simp[ar]
 | [],_::_=>by simp[ar]
 |_::_,[]=>by simp[ar]
 | a::as,v::g=>by
  simp only[ar,sI (as:=as),bW];constructor
  ·rintro ⟨k, h, q⟩
   refine⟨by omega,fun i x y b d=>?_⟩;cases i with
   |zero=>simp at b d; subst b; subst d; exact k
   |succ i=>exact q i x y (by simpa using b) (by simpa using d)
  ·rintro ⟨k, h⟩
   exact⟨h 0 a v rfl rfl,by omega,fun i x y b d=>h (i+1) x y (by simpa using b) (by simpa using d)⟩
def kg{E:ae}:∀{as:List AV} {b o:Nat},
  cY E as b o↔∀(i:Nat) a,as[i]? = some a->∃ v,E.w.cell? ⟨b,o+i,none⟩=some v/\dU v=true/\ab E a v
 | [],b,o=>by simp[cY]
 | a::as,b,o=>by
  simp only[cY,kg (as:=as)];constructor
  ·rintro ⟨g, k⟩ i x d
   cases i with
   |zero=>simp at d; subst d; exact g
   |succ i=>have:=k i x (by simpa using d); rwa [sx,xc 1 i]at this
  ·intro h
   refine⟨h 0 a rfl,fun i x d=>?_⟩;have:=h (i+1) x (by simpa using d)
   rwa [sx,xc 1 i]
def ox{E:ae}{k:Nat}:∀{rs:List (List AV)} {b o:Nat},
  da E k rs b o↔∀(i:Nat) r,rs[i]? = some r->r.length=k/\cY E r b (o+i*k)
 | [],b,o=>by simp[da]
 | r::rs,b,o=>by
  simp only[da,ox (rs:=rs)];constructor
  ·rintro ⟨d, g, q⟩ i x a
   cases i with
   |zero=>simp at a; subst a; simpa using⟨d,g⟩
   | succ i =>
    have:=q i x (by simpa using a)
    rwa [sx,show k+i*k=(i+1)*k from by rw[fZ]; omega]at this
  ·intro h
   have d:=h 0 r rfl;refine⟨d.1,by simpa using d.2,fun i x a=>?_⟩;have:=h (i+1) x (by simpa using a)
   rwa [sx,show k+i*k=(i+1)*k from by rw[fZ]; omega]
def eO(w w':a6):Prop:=w'.os=w.os/\w'.output=w.output/\w'.tape=w.tape/\(qN=true->w.drawn<=w'.drawn)
def eO.refl(w:a6):eO w w:=⟨rfl,rfl,rfl,by first|exact fun _=>aY _|exact fun _=>gv _ _⟩
def eO.trans{w w' a:a6}(h:eO w w')(h':eO w' a):eO w a:=⟨h'.1.trans h.1,h'.2.1.trans h.2.1,h'.2.2.1.trans h.2.2.1,fun t=>oh (h.2.2.2 t) (h'.2.2.2 t)⟩
structure ae.le (E E':ae):Prop where
 bu:∀ id al,E.bu id al->E'.bu id al
 size:E.w.heap.size<=E'.w.heap.size
 same:∀ b,b<E.w.heap.size->¬ E.bN b->E'.w.heap[b]? = E.w.heap[b]?
 bN:∀ b,b<E.w.heap.size->¬ E.bN b->¬ E'.bN b
 live:∀ id al,E.bu id al->E'.live id al->E.live id al/\E'.ad[id]? = E.ad[id]?
 X:E'.X.x=E.X.x/\E'.X.z=E.X.z
 rl:∀ l h,h<(E.X.r l).length->h<(E'.X.r l).length/\∀ q,(E'.X.r l)[h]? = some (some q)->(E.X.r l)[h]? = some (some q)
 env:eO E.w E'.w
 grow:∀ id l o,E.H[id]? = some o->o.dM=some l->E'.live id 0->(∃ t,E'.X.r l=E.X.r l++t)/\∃ o',E'.H[id]? = some o'/\o'.dM=some l
def ae.le.refl(E:ae):E.le E:=⟨fun _ _ h=>h,aY _,fun _ _ _=>rfl,fun _ _ h=>h,fun _ _ _ h=>⟨h,rfl⟩,⟨rfl,rfl⟩,fun _ _ h=>⟨h,fun _ a=>a⟩,⟨rfl,rfl,rfl,by first|exact fun _=>aY _|exact fun _=>gv _ _⟩,fun _ _ o b d _=>⟨⟨[],(fe _).symm⟩,o,b,d⟩⟩
def ae.le.ok{E E':ae}(h:E.le E')(b:Nat)(a:E.jQ b):E'.jQ b :=
 ⟨eF a.1 h.size,h.bN b a.1 a.2.1,by rw[show E'.X.x=E.X.x from h.X.1]; exact a.2.2⟩
def ae.le.trans{E E' B:ae}(h:E.le E')(h':E'.le B):E.le B where
 bu:=fun id al g=>h'.bu id al (h.bu id al g)
 size:=oh h.size h'.size
 same:=fun b a d=>by rw[h'.same b (eF a h.size) (h.bN b a d),h.same b a d]
 bN:=fun b a d=>h'.bN b (eF a h.size) (h.bN b a d)
 live:=fun id al F U=>by
  obtain⟨k,w⟩:=h'.live id al (h.bu id al F) U;obtain⟨y,z⟩:=h.live id al F k;exact⟨y,by rw[w,z]⟩
 X:=⟨by rw[h'.X.1,h.X.1],by rw[h'.X.2,h.X.2]⟩
 rl:=fun l i hi=>by
  obtain⟨k,w⟩:=h.rl l i hi;obtain⟨y,z⟩:=h'.rl l i k;exact⟨y,fun q V=>w q (z q V)⟩
 env:=h.env.trans h'.env
 grow:=fun id l o I J A=>by
  have g:E.bu id 0:=⟨o,I,ah.Fp J,fun v A=>fO _⟩
  obtain⟨M,_⟩:=h'.live id 0 (h.bu id 0 g) A;obtain⟨⟨t,W⟩,o',Y,g2⟩:=h.grow id l o I J M;obtain⟨⟨t',N⟩,O,g3,g4⟩:=h'.grow id l o' Y g2 A;exact⟨⟨t++t',by rw[N,W,List.append_assoc]⟩,O,g3,g4⟩
def World.uO{w w':a6}{b o:Nat}(h:w'.heap[b]? = w.heap[b]?):w'.cell? ⟨b,o,none⟩=w.cell? ⟨b,o,none⟩:=by
 simp[qD,h]
structure ae.bZ (E E':ae):Prop where
 ok:∀ b,E.jQ b->E'.jQ b/\E'.w.heap[b]? = E.w.heap[b]?
def ae.le.toC{E E':ae}(h:E.le E'):E.bZ E':=⟨fun b a=>⟨h.ok b a,h.same b a.1 a.2.1⟩⟩
mutual
def Kj{E E':ae}(h:E.bZ E'):∀(k:Kd) {g:G} {c:ak},eX E k g c->eX E' k g c
 |.int k,g,c,a=>by simpa only[eX]using a
 |.str,g,c,a=>by simpa only[eX]using a
 |.bool,g,c,a=>by simpa only[eX]using a
 | .list ks,g,c,a=>by
  simp only[eX]at a|-;obtain⟨aN,cap,w,v,t⟩:=a;refine⟨aN,cap,w,v,?_⟩;rcases t with y|⟨b,o,z,d,q⟩
  ·exact .inl y
  ·exact .inr ⟨b,o,z,(h.ok b d).1,fun i r hi=>Kk h ks (h.ok b d).2 (q i r hi)⟩
def Kk{E E':ae}(h:E.bZ E'):∀(ks:List Kd) {g:List G} {b o:Nat},E'.w.heap[b]? = E.w.heap[b]? -> lE E ks g b o->lE E' ks g b o
 | [],_,_,_,_,_=>by simp[lE]
 | k::ks,g,b,o,a,d=>by
  simp only[lE]at d|-;obtain⟨⟨v,q,t,y⟩,z⟩:=d;exact⟨⟨v,by rw[World.uO a]; exact q,t,Kj h k y⟩,Kk h ks a z⟩
end
mutual
def gy{E E':ae}(h:E.bZ E'):∀(a:AV) {c:ak},a.closed=true->ab E a c->ab E' a c
 |.undef,_,_,_=>by simp[ab]
 |.lit v,c,_,d=>by simpa only[ab]using d
 |.nils,c,_,d=>by simpa only[ab]using d
 | .list k rZ,c,_,d=>by
  simp only[ab]at d|-;obtain⟨t,aN,cap,g,B,A⟩:=d;refine⟨t,aN,cap,g,B,?_⟩;rcases A with rfl|⟨b,o,F,w,z⟩
  ·exact .inl rfl
  ·exact .inr ⟨b,o,F,(h.ok b w).1,kh h rZ t (h.ok b w).2 z⟩
 | .listF ks rZ,c,_,d=>by
  simp only[ab]at d|-;exact Kj h _ d
 | .agg cells,c,g,d=>by
  simp only[ab]at d|-;obtain⟨y,e,I,q⟩:=d;exact⟨y,e,I,sJ h cells (by simpa only[AV.closed]using g) q⟩
 | .tuple cells,c,g,d=>by
  simp only[ab]at d|-;obtain⟨y,e,q⟩:=d;exact⟨y,e,sJ h cells (by simpa only[AV.closed]using g) q⟩
 | .cptr cells,c,g,d=>by
  simp only[ab]at d|-;obtain⟨t,b,o,e,w,q⟩:=d;exact⟨t,b,o,e,(h.ok b w).1,uP h cells t (h.ok b w).2 q⟩
 |.ptr ..,_,g,_=>by simp[AV.closed]at g
 |.vQ ..,_,g,_=>by simp[AV.closed]at g
 |.map _,_,g,_=>by simp[AV.closed]at g
 |.sub ..,_,g,_=>by simp[AV.closed]at g
 |.svec ..,_,g,_=>by simp[AV.closed]at g
 |.sptr ..,_,g,_=>by simp[AV.closed]at g
 | .clo f caps,c,g,d=>by
  simp only[ab]at d|-;obtain⟨y,e,q⟩:=d;exact⟨y,e,sJ h caps (by simpa only[AV.closed]using g) q⟩
 |.ifc,c,_,d=>by simpa only[ab]using d
 |.emptyS n,c,_,d=>by simpa only[ab]using d
def sJ{E E':ae}(h:E.bZ E'):∀(as:List AV) {d:List ak},AV.cb as=true->ar E as d->ar E' as d
 | [],[],_,_=>by simp[ar]
 | [],_::_,_,b=>by simp[ar]at b
 |_::_,[],_,b=>by simp[ar]at b
 | a::as,v::d,g,b=>by
  simp only[AV.cb,aE]at g;simp only[ar]at b|-;exact⟨gy h a g.1 b.1,sJ h as g.2 b.2⟩
def uP{E E':ae}(h:E.bZ E'):∀(as:List AV) {b o:Nat},AV.cb as=true->E'.w.heap[b]? = E.w.heap[b]? -> cY E as b o->cY E' as b o
 | [],_,_,_,_,_=>by simp[cY]
 | a::as,b,o,d,g,k=>by
  simp only[AV.cb,aE]at d;simp only[cY]at k|-;obtain⟨⟨v,q,t,y⟩,z⟩:=k;exact⟨⟨v,by rw[World.uO g]; exact q,t,gy h a d.1 y⟩,uP h as d.2 g z⟩
def kh{E E':ae}(h:E.bZ E'){k:Nat}:∀(rs:List (List AV)) {b o:Nat},fg rs->E'.w.heap[b]? = E.w.heap[b]? -> da E k rs b o->da E' k rs b o
 | [],_,_,_,_,_=>by simp[da]
 | r::rs,b,o,d,g,a=>by
  simp only[da]at a|-;exact⟨a.1,uP h r (d r (by simp)) g a.2.1,kh h rs (fun x q=>d x (by simp[q])) g a.2.2⟩
end
def ae.Kl{E E':ae}(h:E.le E'){id l j:Nat}{p:Nat->Prop}(g:E.bu id 0)(k:E.live id 0->E.uN id l j p)(a:E'.live id 0):E'.uN id l j p:=by
 obtain⟨q,_⟩:=h.live id 0 g a;obtain⟨⟨o,v,w⟩,b,d,y⟩:=k q;obtain⟨⟨t,z⟩,A⟩:=h.grow id l o v w a;refine⟨A,b,?_,y⟩;rw[z,xw,dr (xd.1 d).1];exact d
mutual
def bG{E E':ae}(h:E.le E'):∀(a:AV) {c:ak},ab E a c->ab E' a c
 |.undef,_,_=>by simp[ab]
 |.lit v,c,d=>by simpa only[ab]using d
 |.nils,c,d=>by simpa only[ab]using d
 |.list k rZ,c,d=>gy h.toC _ (by simp[AV.closed]) d
 |.listF ks rZ,c,d=>gy h.toC _ (by simp[AV.closed]) d
 | .agg cells,c,d=>by
  simp only[ab]at d|-;obtain⟨y,e,w,g⟩:=d;exact⟨y,e,w,dX h cells g⟩
 | .tuple cells,c,d=>by
  simp only[ab]at d|-;obtain⟨y,e,g⟩:=d;exact⟨y,e,dX h cells g⟩
 |.cptr cells,c,d=>gy h.toC _ (by simp[AV.closed]) d
 | .ptr id al k row B,c,d=>by
  simp only[ab]at d|-;refine⟨d.1,h.bu _ _ d.2.1,fun q=>?_⟩;obtain⟨w,g⟩:=h.live id al d.2.1 q;rw[g];exact d.2.2 w
 | .vQ k id al oF n,c,d=>by
  simp only[ab]at d|-;refine⟨d.1,h.bu _ _ d.2.1,fun q=>?_⟩;obtain⟨w,g⟩:=h.live id al d.2.1 q;rw[g];exact d.2.2 w
 | .map id,c,d=>by
  simp only[ab]at d|-;refine⟨d.1,h.bu _ _ d.2.1,fun q=>?_⟩;obtain⟨w,g⟩:=h.live id 0 d.2.1 q;rw[g];exact d.2.2 w
 | .clo f caps,c,d=>by
  simp only[ab]at d|-;obtain⟨y,e,g⟩:=d;exact⟨y,e,dX h caps g⟩
 |.ifc,c,d=>by simpa only[ab]using d
 |.emptyS n,c,d=>by simpa only[ab]using d
 | .sub id l j,c,d=>by
  simp only[ab]at d|-;rcases d with d|⟨i,w,g,z,F⟩
  ·exact .inl d
  ·refine .inr ⟨i, w, g, h.bu _ _ z, fun q => ?_⟩
   obtain⟨I,_⟩:=h.live id 0 z q;obtain⟨⟨o,J,M⟩,b,A,N⟩:=F I;obtain⟨⟨t,O⟩,U⟩:=h.grow id l o J M q;refine⟨U,b,?_,N⟩;rw[O,xw,dr (xd.1 A).1];exact A
 | .svec id l j n,c,d=>by
  simp only[ab]at d|-;exact⟨d.1,h.bu _ _ d.2.1,fun q=>ae.Kl h d.2.1 d.2.2 q⟩
 | .sptr id l j k row B,c,d=>by
  simp only[ab]at d|-;exact⟨d.1,h.bu _ _ d.2.1,fun q=>ae.Kl h d.2.1 d.2.2 q⟩
def dX{E E':ae}(h:E.le E'):∀(as:List AV) {d:List ak},ar E as d->ar E' as d
 | [],[],_=>by simp[ar]
 | [],_::_,b=>by simp[ar]at b
 |_::_,[],b=>by simp[ar]at b
 | a::as,v::d,b=>by
  simp only[ar]at b|-;exact⟨bG h a b.1,dX h as b.2⟩
end
def Tu{E:ae}(k:Kd)(g:G)(c:ak):ab E (lD k g) c↔eX E k g c:=by
 cases k with
 |int k=>simp only[lD,ab,eX]
 |str=>simp only[lD,ab,eX]
 |bool=>simp only[lD,ab,eX]
 |list ks=>simp only[lD,ab,eX,G.rZ]
def Ft{E:ae}:∀(ks:List Kd) (g:List G) (b o:Nat),cY E (a8 ks g) b o↔lE E ks g b o
 | [],_,_,_=>by simp[a8,cY,lE]
 |k::ks,g,b,o=>by simp only[a8,cY,lE,Ft ks,Tu]
def ki{E:ae}{ks:List Kd}{rZ:List (List G)}{c:ak}:ab E (.listF ks rZ) c↔ab E (.list ks.length (rZ.map (a8 ks))) c:=by
 simp only[ab,eX,G.rZ,fJ,List.map_eq_nil_iff];have k:fg (rZ.map (a8 ks)):=by
  intro r a;obtain⟨g,_,rfl⟩:=List.mem_map.1 a;exact gI ks g
 have a:∀ b o,(∀(i:Nat) (r:List G),rZ[i]? = some r->lE E ks r b (o+i*ks.length))↔da E ks.length (rZ.map (a8 ks)) b o:=by
  intro b o;rw[ox];constructor
  ·intro h i r hi
   simp only[cX,eG]at hi;obtain⟨g,d,rfl⟩:=hi;exact⟨xu ks g,(Ft ks g _ _).2 (h i g d)⟩
  ·intro h i g d
   exact(Ft ks g _ _).1 (h i (a8 ks g) (by simp[d])).2
 simp only[a,k,true_and]
end Go.AL

namespace Go.AL
variable [Dr]
def isRow(w:a6)(b n:Nat):Prop:=∃ a d,w.heap[b]? = some (.cells a d (0,0))/\a.size=n
def bO(E:ae):List (AV × AV × Nat)->List MapEntry->Prop
 | [],[]=>True
 |(k,v,n)::a,e::b=>ab E k e.key/\ab E v e.val/\e.born=n/\k.closed=true/\v.closed=true/\bO E a b
 |_,_=>False
def Bc(w:a6)(B:aD)(s:ByteArray)(v:ak):Option (Nat × Nat)->Prop
 |none=>v=.slice none 0 0/\s.data.toList=[]
 | some (g,m)=>v=.slice (some ⟨g,0,none⟩) s.data.toList.length m/\∃ a fz,w.heap[g]? = some (.cells a B fz)/\fz.2<=s.data.toList.length/\a.size=m/\s.data.toList.length<=m/\m<=9223372036854775807 /\
   a.toList.take s.data.toList.length=s.data.toList.map fun b=>Value.int .u8 (b.toNat:Int)
def Fu{w w':a6}{B:aD}{s:ByteArray}{v:ak}{q:Option (Nat × Nat)}(h:∀ g m,q=some (g,m)->w'.heap[g]? = w.heap[g]?)(a:Bc w B s v q):Bc w' B s v q:=by
 cases q with
 |none=>exact a
 | some b =>
  obtain⟨g,m⟩:=b;obtain⟨d,k,fz,t,y⟩:=a;exact⟨d,k,fz,by rw[h g m rfl]; exact t,y⟩
def gJ:AV->AV × AV
 |.tuple [a,v]=>(a,v)
 |k=>(k,.undef)
def dh (a:List (AV × Option (List (List AV)) × Nat)):List (AV × AV × Nat):=a.map fun x=>((gJ x.1).1,(gJ x.1).2,x.2.2)
def Fv (a:List (AV × Option (List (List AV)) × Nat)):(dh a).length=a.length:=by simp[dh]
def Bd(E:ae)(l k:Nat)(rZ:List (List AV))(h:Nat)(v:ak):Prop :=
 (rZ = [] /\ ∃ aN, v = .slice aN 0 0) \/
  ∃ b m,(E.X.r l)[h]? = some (some (some (b,m)))/\v=.slice (some ⟨b,0,none⟩) rZ.length m/\isRow E.w b (m*k)/\rZ.length<=m/\fg rZ/\da E k rZ b 0
def kj(E:ae)(l k:Nat) (a:List (AV × Option (List (List AV)) × Nat)) (d:List MapEntry):Prop :=
 ∃ b:Nat->Nat,(∀(i j:Nat) x y,a[i]? = some x->a[j]? = some y->x.2.1.isSome=true->y.2.1.isSome=true->b i=b j->i=j) /\
  ∀(i:Nat) x rZ e,a[i]? = some x->x.2.1=some rZ->d[i]? = some e->Bd E l k rZ (b i) e.val
def Km{E E':ae}{l k h:Nat}{rZ:List (List AV)}{v:ak} (q:∀ b m,(E.X.r l)[h]? = some (some (some (b,m)))->(E'.X.r l)[h]? = some (some (some (b,m)))/\E'.w.heap[b]? = E.w.heap[b]?)
  (t:∀ b,E'.w.heap[b]? = E.w.heap[b]? -> fg rZ->da E k rZ b 0->da E' k rZ b 0) (a:Bd E l k rZ h v):Bd E' l k rZ h v:=by
 rcases a with a|⟨b,m,y,z,⟨A,B,F,I⟩,J,d,M⟩
 ·exact .inl a
 ·obtain ⟨N, g⟩ := q b m y
  exact .inr ⟨b,m,N,z,⟨A,B,by rw[g]; exact F,I⟩,J,d,t b g d M⟩
def xy{E E':ae}{l k:Nat}{a:List (AV × Option (List (List AV)) × Nat)}{g:List MapEntry} (v:∀(h b m:Nat),(E.X.r l)[h]? = some (some (some (b,m)))->(E'.X.r l)[h]? = some (some (some (b,m)))/\E'.w.heap[b]? = E.w.heap[b]?)
  (y:∀(i:Nat) x rZ,a[i]? = some x->x.2.1=some rZ->∀ b,E'.w.heap[b]? = E.w.heap[b]? -> fg rZ->da E k rZ b 0->da E' k rZ b 0) (z:kj E l k a g):kj E' l k a g:=by
 obtain⟨q,A,B⟩:=z;exact⟨q,A,fun i x rZ e t d he=>Km (v (q i)) (y i x rZ t d) (B i x rZ e t d he)⟩
def qO{r:List (Option (Option (Nat × Nat)))}{b:Nat}(h:b∈dI r):∃(i m:Nat),r[i]? = some (some (some (b,m))):=by
 unfold dI at h;obtain⟨x,d,a⟩:=List.mem_filterMap.1 h;obtain⟨i,hi,e⟩:=List.getElem_of_mem d;split at a
 ·rename_i g m
  cases a;exact⟨i,m,by rw[cn hi,e]⟩
 ·cases a
def gK(a:List (AV × Option Nat × Nat)):List (AV × AV × Nat):=a.map fun x=>(x.1,.undef,x.2.2)
def Kn(a:List (AV × Option Nat × Nat)):(gK a).length=a.length:=by simp[gK]
def Be(E:ae)(l:Nat)(g:List (AV × Option Nat × Nat)) (a:List (List (AV × AV × Nat) × Nat)) (d:List MapEntry):Prop :=
 (dI (E.X.r l)).length = a.length /\
  (∀(i:Nat) x e,g[i]? = some x->d[i]? = some e->(x.2.1=none/\e.val=.map none)\/∃ j b,x.2.1=some j/\(dI (E.X.r l))[j]? = some b/\e.val=.map (some b)) /\
  ∀(j:Nat) m b,a[j]? = some m->(dI (E.X.r l))[j]? = some b->∃ mm,E.w.heap[b]? = some (.map mm m.2)/\bO E m.1 mm.toList
def Fw{E E':ae}{l:Nat}{t:List (AV × Option Nat × Nat)}{a:List (List (AV × AV × Nat) × Nat)}{k:List MapEntry}(d:E'.X.r l=E.X.r l) (v:∀(h b m:Nat),(E.X.r l)[h]? = some (some (some (b,m)))->E'.w.heap[b]? = E.w.heap[b]?)
  (y:∀ m∈a,∀ q,bO E m.1 q->bO E' m.1 q) (h:Be E l t a k):Be E' l t a k:=by
 obtain⟨z,A,B⟩:=h;refine⟨by rw[d]; exact z,fun i x e F he=>by rw[d]; exact A i x e F he,fun j m b hm g=>?_⟩;rw[d]at g;obtain⟨mm,I,J⟩:=B j m b hm g;obtain⟨i,n,hi⟩:=qO (eC g);exact⟨mm,by rw[v i b n hi]; exact I,y m (eC hm) _ J⟩
def Fx(E:ae)(l k n:Nat) (a:List (List (List AV))) (d:List ak):Prop :=
 (dI (E.X.r l)).length = a.length /\ a.length <= n /\ n <= d.length /\
  ∀(i:Nat) rZ b,a[i]? = some rZ->(dI (E.X.r l))[i]? = some b->∃ m,d[i]? = some (.slice (some ⟨b,0,none⟩) rZ.length m)/\isRow E.w b (m*k)/\rZ.length<=m/\fg rZ/\da E k rZ b 0
def Fy{E E':ae}{l k n:Nat}{a:List (List (List AV))}{g:List ak}(q:E'.X.r l=E.X.r l) (v:∀(h b m:Nat),(E.X.r l)[h]? = some (some (some (b,m)))->E'.w.heap[b]? = E.w.heap[b]?)
  (y:∀ rZ∈a,∀ b,E'.w.heap[b]? = E.w.heap[b]? -> fg rZ->da E k rZ b 0->da E' k rZ b 0) (h:Fx E l k n a g):Fx E' l k n a g:=by
 obtain⟨z,A,B,F⟩:=h;refine⟨by rw[q]; exact z,A,B,fun i rZ b hi d=>?_⟩;rw[q]at d;obtain⟨m,I,⟨c,J,M,N⟩,O,t,U⟩:=F i rZ b hi d;obtain⟨j,n,V⟩:=qO (eC d);have e:=v j b n V;exact⟨m,I,⟨c,J,by rw[e]; exact M,N⟩,O,t,y rZ (eC hi) b e t U⟩
def fK (a:List (AV × (Option (List (List AV)) × Option (List (List AV))) × Nat)):List (AV × AV × Nat):=a.map fun x=>(x.1,.undef,x.2.2)
def Tv (a:List (AV × (Option (List (List AV)) × Option (List (List AV))) × Nat)):(fK a).length=a.length:=by simp[fK]
def gz(s:Bool) (x:AV × (Option (List (List AV)) × Option (List (List AV))) × Nat):AV × Option (List (List AV)) × Nat:=(x.1,(bif s then x.2.1.2 else x.2.1.1),x.2.2)
def qP(s:Bool):ak->ak
 |.agg a=>(a[bif s then 1 else 0]?).getD default
 |v=>v
def oy(E:ae)(l k:Nat) (d:List (AV × (Option (List (List AV)) × Option (List (List AV))) × Nat)) (h:List MapEntry):Prop :=
 (∀ e∈h,∃ a b,e.val=.agg #[a,b]/\dU a=true/\dU b=true) /\
 ∃ g:Bool->Nat->Nat,(∀ s s' (i j:Nat) x y,d[i]? = some x->d[j]? = some y->(gz s x).2.1.isSome=true->(gz s' y).2.1.isSome=true->g s i=g s' j->s=s'/\i=j) /\
  ∀ s (i:Nat) x rZ e,d[i]? = some x->(gz s x).2.1=some rZ->h[i]? = some e->Bd E l k rZ (g s i) (qP s e.val)
def Bf{E E':ae}{l k:Nat}{a:List (AV × (Option (List (List AV)) × Option (List (List AV))) × Nat)}{g:List MapEntry} (y:∀(h b m:Nat),(E.X.r l)[h]? = some (some (some (b,m)))->(E'.X.r l)[h]? = some (some (some (b,m)))/\E'.w.heap[b]? = E.w.heap[b]?)
  (z:∀ s (i:Nat) x rZ,a[i]? = some x->(gz s x).2.1=some rZ->∀ b,E'.w.heap[b]? = E.w.heap[b]? -> fg rZ->da E k rZ b 0->da E' k rZ b 0) (A:oy E l k a g):oy E' l k a g:=by
 obtain⟨v,q,B,F⟩:=A;exact⟨v,q,B,fun s i x rZ e t d he=>Km (y (q s i)) (z s i x rZ t d) (F s i x rZ e t d he)⟩
def aV(E:ae)(id:Nat):ah->Prop
 |.dead=>E.ad[id]? = some none
 |.dP=>E.ad[id]? = some none
 |.box cells=>∃ b n,E.ad[id]? = some (some (b,n))/\isRow E.w b cells.length/\cY E cells b 0
 | .vQ k _ rZ=>(E.ad[id]? = some none/\rZ=[]) \/
   ∃ b m,E.ad[id]? = some (some (b,m))/\isRow E.w b (m*k)/\rZ.length<=m/\fg rZ/\da E k rZ b 0
 |.map d g=>∃ b n a,E.ad[id]? = some (some (b,n))/\E.w.heap[b]? = some (.map a g)/\bO E d a.toList
 |.iter s pos=>∃ b n,E.ad[id]? = some (some (b,n))/\E.w.heap[b]? = some (.stringIter s pos)
 | .cD l T B s=>∃ (b n:Nat) (p v:ak) (h:Nat) (q:Option (Nat × Nat)),E.ad[id]? = some (some (b,n))/\E.w.heap[b]? = some (.cells #[p,v] T (0,0))/\(p=.pointer none\/p=.pointer (some ⟨b,0,none⟩))/\(E.X.r l)[h]? = some (some q) /\
   (∀(h':Nat) q',(E.X.r l)[h']? = some (some q')->h'=h)/\Bc E.w B s v q
 |.br l k d g=>∃ b n a,E.ad[id]? = some (some (b,n))/\E.w.heap[b]? = some (.map a g)/\bO E (dh d) a.toList/\kj E l k d a.toList
 |.mm l d a g=>∃ b n t,E.ad[id]? = some (some (b,n))/\E.w.heap[b]? = some (.map t g)/\bO E (gK d) t.toList/\Be E l d a t.toList
 |.cM l k n a=>∃ b m y z,E.ad[id]? = some (some (b,m))/\E.w.heap[b]? = some (.cells y z (0,0))/\Fx E l k n a y.toList
 |.bM l k d g=>∃ b n a,E.ad[id]? = some (some (b,n))/\E.w.heap[b]? = some (.map a g)/\bO E (fK d) a.toList/\oy E l k d a.toList
def uQ(E:ae):Prop:=∀ p∈uM,E.jQ p.1/\∃ t f,E.w.heap[p.1]? = some (.cells p.2 t f)
def uQ.bZ{E E':ae}(H:uQ E)(h:E.bZ E'):uQ E':=fun p b=>by
 obtain⟨a,t,f,d⟩:=H p b;exact⟨(h.ok _ a).1,t,f,by rw[(h.ok _ a).2]; exact d⟩
structure aG (E:ae):Prop where
 len:E.ad.length=E.H.length
 inj:∀(i j b m n:Nat),E.ad[i]? = some (some (b,m))->E.ad[j]? = some (some (b,n))->i=j
 lt:∀(i b m:Nat),E.ad[i]? = some (some (b,m))->b<E.w.heap.size/\¬ E.X b
 X:∀ b,E.X b->b<E.w.heap.size
 obj:∀(i:Nat) o,E.H[i]? = some o->aV E i o
 gL:uQ E
 fC:∀(l h l' h' b m n:Nat),(E.X.r l)[h]? = some (some (some (b,m)))->(E.X.r l')[h']? = some (some (some (b,n)))->l=l'/\h=h'
 dm:∀(i b m l h n:Nat),E.ad[i]? = some (some (b,m))->(E.X.r l)[h]? ≠ some (some (some (b,n)))
 cS:∀(l h b m:Nat),(E.X.r l)[h]? = some (some (some (b,m)))->b<E.w.heap.size/\¬ E.X b
 uniq:∀(i j:Nat) o o' (l:Nat),E.H[i]? = some o->E.H[j]? = some o'->o.label=some l->o'.label=some l->i=j
 iD:∀(l:Nat),(∀(i:Nat) o,E.H[i]? = some o->o.label≠some l)->∀(h:Nat) q,(E.X.r l)[h]? ≠ some (some q)
def aG.xz{E:ae}(H:aG E){b:Nat}(a:E.X b):¬ E.bN b:=by
 rintro(⟨i,c,hi⟩|⟨l,h,m,hi⟩)
 ·exact(H.lt i b c hi).2 a
 ·exact(H.cS l h b m hi).2 a
def aG.Bg{E:ae}(H:aG E){b:Nat}(a:E.bN b):b<E.w.heap.size/\¬ E.X b:=by
 rcases a with⟨i,c,hi⟩|⟨l,h,m,hi⟩
 ·exact H.lt i b c hi
 ·exact H.cS l h b m hi
structure Ext (w w':a6):Prop where
 size:w.heap.size<=w'.heap.size
 same:∀ b,b<w.heap.size->w'.heap[b]? = w.heap[b]?
 env:eO w w'
def Ext.refl(w:a6):Ext w w:=⟨aY _,fun _ _=>rfl,⟨rfl,rfl,rfl,by first|exact fun _=>aY _|exact fun _=>gv _ _⟩⟩
def Ext.trans{w w' a:a6}(h:Ext w w')(h':Ext w' a):Ext w a :=
 ⟨oh h.size h'.size,fun b d=>by rw[h'.same b (eF d h.size),h.same b d],h.env.trans h'.env⟩
def Ext.push(w:a6)(o:Obj):Ext w { w with heap:=w.heap.push o } :=
 ⟨by simp,fun b a=>by simp[JP,ajJ a],⟨rfl,rfl,rfl,by first|exact fun _=>aY _|exact fun _=>gv _ _⟩⟩
def Ext.drawn(w:a6)(n:Nat)(h:w.drawn<=n:=by exact Nat.le_succ _):Ext w { w with drawn:=n }:=⟨aY _,fun _ _=>rfl,⟨rfl,rfl,rfl,fun _=>h⟩⟩
def ae.iE{E:ae}{w':a6}(h:Ext E.w w'):E.le { E with w:=w' } where
 bu:=fun _ _ h=>h
 size:=h.size
 same:=fun b a _=>h.same b a
 bN:=fun _ _ d=>d
 live:=fun _ _ _ g=>⟨g,rfl⟩
 X:=⟨rfl,rfl⟩
 rl:=fun _ _ h=>⟨h,fun _ k=>k⟩
 env:=h.env
 grow:=fun _ _ o q t _=>⟨⟨[],(fe _).symm⟩,o,q,t⟩
def uR{w w':a6}{b n:Nat}(h:w'.heap[b]? = w.heap[b]?)(a:isRow w b n):isRow w' b n:=by
 unfold isRow at *; rw[h]; exact a
def Bh{E E':ae}{b:Nat}(d:∀ a c,ab E a c->ab E' a c)(g:E'.w.heap[b]? = E.w.heap[b]?){as:List AV}{o:Nat}
  (h:cY E as b o):cY E' as b o:=by
 rw[kg]at *;intro i a hi;obtain⟨v,k,q,t⟩:=h i a hi;exact⟨v,by rw[World.uO g]; exact k,q,d _ _ t⟩
def ga{E E':ae}{b k:Nat}(d:∀ a c,ab E a c->ab E' a c)(g:E'.w.heap[b]? = E.w.heap[b]?){rs:List (List AV)}{o:Nat}
  (h:da E k rs b o):da E' k rs b o:=by
 rw[ox]at *;intro i r hi;exact⟨(h i r hi).1,Bh d g (h i r hi).2⟩
def fL{E E':ae}(b:∀ a c,ab E a c->ab E' a c):∀{d:List (AV × AV × Nat)} {g:List MapEntry},bO E d g->bO E' d g
 | [],[],_=>by simp[bO]
 | [],_::_,h=>by simp[bO]at h
 |(_,_,_)::_,[],h=>by simp[bO]at h
 | (k,v,n)::d,e::g,h=>by
  simp only[bO]at h|-;exact⟨b _ _ h.1,b _ _ h.2.1,h.2.2.1,h.2.2.2.1,h.2.2.2.2.1,fL b h.2.2.2.2.2⟩
def mo{E E':ae}{i:Nat}{o:ah}(F:∀ a c,ab E a c->ab E' a c)(z:E'.ad[i]? = E.ad[i]?)
  (A:∀ b n,E.ad[i]? = some (some (b,n))->E'.w.heap[b]? = E.w.heap[b]?)
  (U:∀ l,o.label=some l->E'.X.r l=E.X.r l/\∀(h g m:Nat),(E.X.r l)[h]? = some (some (some (g,m)))->E'.w.heap[g]? = E.w.heap[g]?) (h:aV E i o):aV E' i o:=by
 cases o with
 |dead=>simp only[aV]at *; rw[z]; exact h
 |dP=>simp only[aV]at *; rw[z]; exact h
 | box cells =>
  simp only[aV]at *;obtain⟨b,n,d,t,y⟩:=h;exact⟨b,n,by rw[z,d],uR (A b n d) t,Bh F (A b n d) y⟩
 | vQ k al rZ =>
  simp only[aV]at *;rcases h with⟨d,t⟩|⟨b,m,d,t,y,I,h5⟩
  ·exact .inl ⟨by rw[z,d],t⟩
  ·exact .inr ⟨b,m,by rw[z,d],uR (A b m d) t,y,I,ga F (A b m d) h5⟩
 | map es Y =>
  simp only[aV]at *;obtain⟨b,n,N,d,t,y⟩:=h;exact⟨b,n,N,by rw[z,d],by rw[A b n d,t],fL F y⟩
 | iter s pos =>
  simp only[aV]at *;obtain⟨b,n,d,t⟩:=h;exact⟨b,n,by rw[z,d],by rw[A b n d,t]⟩
 | cD l T B s =>
  simp only[aV]at *;obtain⟨b,n,p,v,k,q,d,t,y,I,h5,h6⟩:=h;obtain⟨J,M⟩:=U l rfl;exact⟨b,n,p,v,k,q,by rw[z,d],by rw[A b n d,t],y,by rw[J,I],by rw[J]; exact h5,Fu (fun g m e=>M k g m (by rw[I,e])) h6⟩
 | br l k es Y =>
  simp only[aV]at *;obtain⟨b,n,N,d,t,y,I⟩:=h;obtain⟨J,M⟩:=U l rfl;exact⟨b,n,N,by rw[z,d],by rw[A b n d,t],fL F y,xy (fun h g m V=>⟨by rw[J]; exact V,M h g m V⟩) (fun _ _ _ _ _ b O _ W=>ga F O W) I⟩
 | mm l es N Y =>
  simp only[aV]at *;obtain⟨b,n,mes,d,t,y,I⟩:=h;obtain⟨J,M⟩:=U l rfl;exact⟨b,n,mes,by rw[z,d],by rw[A b n d,t],fL F y,Fw J M (fun _ _ _=>fL F) I⟩
 | cM l k n N =>
  simp only[aV]at *;obtain⟨b,m,cs,el,d,t,y⟩:=h;obtain⟨J,M⟩:=U l rfl;exact⟨b,m,cs,el,by rw[z,d],by rw[A b m d,t],Fy J M (fun _ _ b O _ W=>ga F O W) y⟩
 | bM l k es Y =>
  simp only[aV]at *;obtain⟨b,n,N,d,t,y,I⟩:=h;obtain⟨J,M⟩:=U l rfl;exact⟨b,n,N,by rw[z,d],by rw[A b n d,t],fL F y,Bf (fun h g m V=>⟨by rw[J]; exact V,M h g m V⟩) (fun _ _ _ _ _ _ b O _ W=>ga F O W) I⟩
def aG.ext{E:ae}{w':a6}(H:aG E)(h:Ext E.w w'):aG { E with w:=w' } where
 len:=H.len
 inj:=H.inj
 lt:=fun i b m hi=>⟨eF (H.lt i b m hi).1 h.size,(H.lt i b m hi).2⟩
 X:=fun b q=>eF (H.X b q) h.size
 obj:=fun i o hi=>mo (fun a _ t=>bG (ae.iE h) a t) rfl (fun b n q=>h.same b (H.lt i b n q).1) (fun l _=>⟨rfl,fun k g m d=>h.same g (H.cS l k g m d).1⟩) (H.obj i o hi)
 gL:=H.gL.bZ (ae.iE h).toC
 fC:=H.fC
 dm:=H.dm
 cS:=fun l k b m d=>⟨eF (H.cS l k b m d).1 h.size,(H.cS l k b m d).2⟩
 uniq:=H.uniq
 iD:=H.iD
def ae.push(E:ae)(w':a6)(o:ah)(l:Option (Nat × Nat)):ae:={ w:=w',H:=E.H++[o],ad:=E.ad++[l],X:=E.X }
def aX{α:Type}{l:List α}{i:Nat}{x:α}(h:l[i]? = some x):i<l.length:=by
 rcases kJ i l.length with h'|h'
 ·exact h'
 ·rw[JQ h']at h; cases h
def akE{α:Type}(l:List α)(x:α)(i:Nat)(h:i<l.length):(l++[x])[i]? = l[i]? := by
 rw[dr h]
def ae.lF{E:ae}{w':a6}{o:ah}{l:Option (Nat × Nat)}(B:E.ad.length=E.H.length)(h:Ext E.w w')
  (k:∀ b n,l=some (b,n)->E.w.heap.size<=b):E.le (E.push w' o l) where
 bu:=fun id al q=>by
  obtain⟨x,d,g⟩:=q;exact⟨x,by simp only[ae.push]; rw[dr (aX d)]; exact d,g⟩
 size:=h.size
 same:=fun b k _=>h.same b k
 bN:=fun b A t=>by
  rintro(⟨id,c,a⟩|y)
  case inr=>exact t (.inr y)
  simp only[ae.push]at a;by_cases hi:id<E.ad.length
  ·rw [dr hi] at a
   exact t (.inl ⟨id,c,a⟩)
  ·rw [jz (by omega)] at a
   cases v:id-E.ad.length with
   | zero =>
    rw[v]at a;simp at a;have:=k b c a;omega
   |succ n=>rw[v]at a; simp at a
 live:=fun id al q=>by
  obtain⟨x,d,g⟩:=q;have a:=aX d;simp only[ae.live,ae.push];rw[dr a,dr (by omega)];exact fun h=>⟨h,rfl⟩
 X:=⟨rfl,rfl⟩
 grow:=fun id l o d g _=>⟨⟨[],(fe _).symm⟩,o,by simp only[ae.push]; rw[dr (aX d)]; exact d,g⟩
 rl:=fun _ _ h=>⟨h,fun _ z=>z⟩
 env:=h.env
def aG.push{E:ae}{w':a6}{o:ah}{l:Option (Nat × Nat)}(H:aG E)(h:Ext E.w w')
  (v:∀ b n,l=some (b,n)->E.w.heap.size<=b/\b<w'.heap.size) (O:aV (E.push w' o l) E.H.length o) (hlab:o.label=none:=by first|rfl|assumption):aG (E.push w' o l) where
 fC:=H.fC
 cS:=fun l k b m d=>⟨eF (H.cS l k b m d).1 h.size,(H.cS l k b m d).2⟩
 dm:=by
  intro i b m l' k n hi d;simp only[ae.push,fy]at hi;split at hi
  ·exact H.dm i b m l' k n hi d
  ·rename_i y
   cases A:i-E.ad.length with
   | zero =>
    rw[A]at hi;simp at hi;have F:=v b m hi;have M:=(H.cS l' k b n d).1;omega
   |succ n=>rw[A]at hi; simp at hi
 uniq:=by
  have key:∀(i:Nat) o1 l1,(E.push w' o l).H[i]? = some o1->o1.label=some l1->E.H[i]? = some o1:=by
   intro i o1 l1 hi I;simp only[ae.push,fy]at hi;split at hi
   ·exact hi
   ·cases A : i - E.H.length with
    | zero =>
     rw[A]at hi;simp at hi;subst hi;rw[hlab]at I;cases I
    |succ n=>rw[A]at hi; simp at hi
  exact fun i j o1 o2 l1 hi q y B=>H.uniq i j o1 o2 l1 (key i o1 l1 hi y) (key j o2 l1 q B) y B
 iD:=fun l1 U=>H.iD l1 fun i o1 hi=>U i o1 (by
  simp only[ae.push];rw[dr (aX hi)];exact hi)
 gL:=H.gL.bZ (ae.lF H.len h (fun b n e=>(v b n e).1)).toC
 len:=by simp[ae.push,H.len]
 inj:=by
  intro i j b m n hi q;simp only[ae.push,fy]at hi q;split at hi<;>split at q
  ·exact H.inj i j b m n hi q
  ·rename_i y B
   cases d:j-E.ad.length with
   | zero =>
    rw[d]at q;simp at q;have F:=v b n q;have M:=(H.lt i b m hi).1;omega
   |succ n=>rw[d]at q; simp at q
  ·rename_i y B
   cases d:i-E.ad.length with
   | zero =>
    rw[d]at hi;simp at hi;have F:=v b m hi;have M:=(H.lt j b n q).1;omega
   |succ n=>rw[d]at hi; simp at hi
  ·rename_i y B
   have Y:i-E.ad.length=0:=by
    cases d:i-E.ad.length with
    |zero=>rfl
    |succ n=>rw[d]at hi; simp at hi
   have e2:j-E.ad.length=0:=by
    cases d:j-E.ad.length with
    |zero=>rfl
    |succ n=>rw[d]at q; simp at q
   omega
 lt:=by
  intro i b m hi;simp only[ae.push,fy]at hi|-;split at hi
  ·exact⟨eF (H.lt i b m hi).1 h.size,(H.lt i b m hi).2⟩
  ·cases d : i - E.ad.length with
   | zero =>
    rw[d]at hi;simp at hi;have F:=v b m hi;exact⟨F.2,fun V=>by have:=H.X b V; omega⟩
   |succ n=>rw[d]at hi; simp at hi
 X:=fun b z=>eF (H.X b z) h.size
 obj:=by
  intro i o' hi;have N:E.le (E.push w' o l):=ae.lF H.len h (fun b n z=>(v b n z).1);by_cases J:i<E.H.length
  ·simp only [ae.push] at hi
   rw[dr J]at hi;refine mo (fun a _ W=>bG N a W) ?_ ?_ ?_ (H.obj i o' hi)
   ·simp only [ae.push]
    rw[dr (by rw[H.len]; exact J)]
   ·intro b n z
    exact h.same b (H.lt i b n z).1
   ·exact fun l1 _=>⟨rfl,fun k g m d=>h.same g (H.cS l1 k g m d).1⟩
  ·have t := hi
   simp only[ae.push]at t;rw[jz (by omega)]at t;cases d:i-E.H.length with
   | zero =>
    rw[d]at t;simp at t;have:i=E.H.length:=by omega
    rw[this,<-t];exact O
   |succ n=>rw[d]at t; simp at t
def ae.lG{E:ae}{w':a6}{id:Nat}{o o':ah}{l:Option (Nat × Nat)}(g:E.H[id]? = some o)
  (N:E.ad.length=E.H.length) (I:E.w.heap.size<=w'.heap.size)
  (J:∀ x,x<E.w.heap.size->(∀ n,E.ad[id]? ≠ some (some (x,n)))->w'.heap[x]? = E.w.heap[x]?)
  (Y:∀ b n,l=some (b,n)->E.w.heap.size<=b\/∃ m,E.ad[id]? = some (some (b,m)))
  (O:(∀ v,o'.aU = some v->o.aU = some v/\E.ad[id]? = some l)\/(∀ v,o'.aU = some v->∀ u,o.aU = some u->u<v))
  (V:∀ v u,o'.aU = some v->o.aU = some u->u<=v) (F:o.born=true->o.aU = none->o'.aU = none) (U:eO E.w w':=by first|exact⟨rfl,rfl,rfl,by first|exact fun _=>aY _|exact fun _=>gv _ _⟩|assumption|exact Ext.env (by assumption))
  (hmm:o.dM=none\/o'.dM=o.dM\/o'.aU = none:=by first|exact .inl rfl|exact .inr (.inl rfl)|exact .inr (.inr rfl)|exact .inl (ah.Bb (by assumption))|assumption)
  (M:o.born=true->o'.born=true:=by first|exact fun _=>rfl|exact fun h=>h|assumption) :
  E.le { w:=w',H:=E.H.set id o',ad:=E.ad.set id l,X:=E.X } where
 grow:=fun i l1 x d a k=>by
  by_cases e:i=id
  ·subst e
   rw[g]at d;cases d;rcases hmm with h|h|h
   ·rw[h]at a; cases a
   ·exact⟨⟨[],(fe _).symm⟩,o',by simp only[]; rw[bK (aX g)],by rw[h]; exact a⟩
   ·obtain ⟨y, t, z⟩ := k
    simp only[]at t;rw[bK (aX g)]at t;cases t;rw[h]at z;cases z
  ·exact⟨⟨[],(fe _).symm⟩,x,by simp only[]; rw[bc (Ne.symm e)]; exact d,a⟩
 bu:=fun i al B=>by
  obtain⟨x,d,a⟩:=B;by_cases e:i=id
  ·subst e
   rw[g]at d;cases d;refine⟨o',by simp only[]; rw[bK (aX g)],M a.1,fun v k=>?_⟩;cases q:o.aU with
   |none=>rw[F a.1 q]at k; cases k
   |some u=>exact oh (a.2 u q) (V v u k q)
  ·exact⟨x,by simp only[]; rw[bc (Ne.symm e)]; exact d,a⟩
 size:=I
 same:=fun x hx A=>J x hx (fun n hn=>A (.inl ⟨id,n,hn⟩))
 bN:=fun b hlt A=>by
  rintro(⟨i,c,hi⟩|hs)
  case inr=>exact A (.inr hs)
  simp only[eU]at hi;split at hi
  ·split at hi
   ·simp at hi
    rcases Y b c hi with h|⟨m,hm⟩
    ·omega
    ·exact A (.inl ⟨id,m,hm⟩)
   ·cases hi
  ·exact A (.inl ⟨i,c,hi⟩)
 live:=fun i al B W=>by
  obtain⟨x,d,a⟩:=W;by_cases e:i=id
  ·subst e
   simp only[]at d;rw[bK (aX g)]at d;cases d;rcases O with k|k
   ·obtain ⟨a1, a2⟩ := k al a
    refine⟨⟨o,g,a1⟩,?_⟩;simp only[];rw[bK (by rw[N]; exact aX g),a2]
   ·obtain ⟨y, t, z⟩ := B
    rw[g]at t;cases t;cases q:o.aU with
    |none=>rw[F z.1 q]at a; cases a
    |some u=>have:=k al a u q; have:=z.2 u q; omega
  ·simp only [] at d |-
   rw[bc (Ne.symm e)]at d;rw[bc (Ne.symm e)];exact⟨⟨x,d,a⟩,rfl⟩
 X:=⟨rfl,rfl⟩
 rl:=fun _ _ h=>⟨h,fun _ hq=>hq⟩
 env:=U
def aG.nA{E:ae}{w':a6}{id:Nat}{o o':ah}{l:Option (Nat × Nat)}(H:aG E)(F:E.H[id]? = some o)
  (z:E.w.heap.size<=w'.heap.size)
  (B:∀ x,x<E.w.heap.size->(∀ n,E.ad[id]? ≠ some (some (x,n)))->w'.heap[x]? = E.w.heap[x]?)
  (A:∀ b n,l=some (b,n)->(E.w.heap.size<=b/\b<w'.heap.size)\/∃ m,E.ad[id]? = some (some (b,m)))
  (N:(∀ v,o'.aU = some v->o.aU = some v/\E.ad[id]? = some l)\/(∀ v,o'.aU = some v->∀ u,o.aU = some u->u<v))
  (U:∀ v u,o'.aU = some v->o.aU = some u->u<=v) (M:o.born=true->o.aU = none->o'.aU = none)
  (ho:aV { w:=w',H:=E.H.set id o',ad:=E.ad.set id l,X:=E.X } id o') (O:eO E.w w':=by first|exact⟨rfl,rfl,rfl,by first|exact fun _=>aY _|exact fun _=>gv _ _⟩|assumption|exact Ext.env (by assumption))
  (hlab:o.label=none:=by first|rfl|assumption) (hlab':o'.label=none:=by first|rfl|assumption)
  (hborn:o.born=true->o'.born=true:=by first|exact fun _=>rfl|exact fun h=>h|assumption) :
  aG { w:=w',H:=E.H.set id o',ad:=E.ad.set id l,X:=E.X } where
 fC:=H.fC
 cS:=fun l k b m q=>⟨eF (H.cS l k b m q).1 z,(H.cS l k b m q).2⟩
 dm:=by
  intro i b m l' k n hi q;simp only[eU]at hi;split at hi
  ·split at hi
   ·simp at hi
    rcases A b m hi with h|⟨m',t⟩
    ·have:=(H.cS l' k b n q).1; omega
    ·exact H.dm _ _ _ _ _ _ t q
   ·cases hi
  ·exact H.dm _ _ _ _ _ _ hi q
 uniq:=by
  have key:∀(i:Nat) o1 l1,(E.H.set id o')[i]? = some o1->o1.label=some l1->E.H[i]? = some o1:=by
   intro i o1 l1 hi V;rw[eU]at hi;split at hi
   ·split at hi
    ·cases hi
     rw[hlab']at V;cases V
    ·cases hi
   ·exact hi
  exact fun i j o1 o2 l1 hi d W Y=>H.uniq i j o1 o2 l1 (key i o1 l1 hi W) (key j o2 l1 d Y) W Y
 iD:=fun l1 J=>H.iD l1 fun i o1 hi=>by
  by_cases e:i=id
  ·subst e
   rw[F]at hi;cases hi;rw[hlab];exact fun h=>by cases h
  ·exact J i o1 (by show (E.H.set id o')[i]? = _; rw[bc (Ne.symm e)]; exact hi)
 gL:=H.gL.bZ (ae.lG F H.len z B (fun b n y=>(A b n y).imp (fun h=>h.1) (fun h=>h)) N U M O).toC
 len:=by simp[H.len]
 inj:=by
  intro i j b m n hi d;simp only[eU]at hi d;split at hi
  ·rename_i e1
   split at d
   ·rename_i e2; omega
   ·split at hi
    ·simp at hi
     rcases A b m hi with h|⟨m',t⟩
     ·have:=(H.lt j b n d).1; omega
     ·rw[<-e1]; exact H.inj _ _ _ _ _ t d
    ·cases hi
  ·split at d
   ·rename_i e2
    split at d
    ·simp at d
     rcases A b n d with h|⟨m',t⟩
     ·have:=(H.lt i b m hi).1; omega
     ·rw[<-e2]; exact H.inj _ _ _ _ _ hi t
    ·cases d
   ·exact H.inj i j b m n hi d
 lt:=by
  intro i b m hi;simp only[eU]at hi;split at hi
  ·split at hi
   ·simp at hi
    rcases A b m hi with h|⟨m',t⟩
    ·exact⟨h.2,fun hx=>by have:=H.X b hx; omega⟩
    ·exact⟨eF (H.lt _ _ _ t).1 z,(H.lt _ _ _ t).2⟩
   ·cases hi
  ·exact⟨eF (H.lt i b m hi).1 z,(H.lt i b m hi).2⟩
 X:=fun b y=>eF (H.X b y) z
 obj:=by
  intro i x hi;by_cases e:i=id
  ·subst e
   simp only[]at hi;rw[bK (aX F)]at hi;cases hi;exact ho
  ·have I := hi
   simp only[]at I;rw[bc (Ne.symm e)]at I;have hle:E.le { w:=w',H:=E.H.set id o',ad:=E.ad.set id l,X:=E.X } :=
    ae.lG F H.len z B (fun b n y=>(A b n y).imp (fun h=>h.1) (fun h=>h)) N U M O
   refine mo (fun a _ hr=>bG hle a hr) ?_ ?_ ?_ (H.obj i x I)
   ·simp only []
    rw[bc (Ne.symm e)]
   ·intro b n y
    exact B b (H.lt i b n y).1 (fun m hm=>e (H.inj i id b n m y hm))
   ·exact fun l1 _=>⟨rfl,fun k g m q=>B g (H.cS l1 k g m q).1 (fun n J=>H.dm id g n l1 k m J q)⟩
def aG.qQ{E:ae}{w':a6}{id k:Nat}{o o':ah}{r':Nat->List (Option (Option (Nat × Nat)))}(H:aG E)(I:E.H[id]? = some o)(hlab:o.label=some k)(hlab':o'.label=some k)(hver:o'.aU = o.aU)
  (hsize:E.w.heap.size<=w'.heap.size)
  (hsame:∀ x,x<E.w.heap.size->(∀ n,E.ad[id]? ≠ some (some (x,n)))->(∀(h m:Nat),(E.X.r k)[h]? ≠ some (some (some (x,m))))->w'.heap[x]? = E.w.heap[x]?)
  (J:∀ l,l≠k->r' l=E.X.r l)
  (hnew:∀(h b m:Nat),(r' k)[h]? = some (some (some (b,m)))->(E.X.r k)[h]? = some (some (some (b,m)))\/(E.w.heap.size<=b/\b<w'.heap.size/\∀(h' m':Nat),(r' k)[h']? = some (some (some (b,m')))->h'=h))
  (hrl:∀(h:Nat),h<(E.X.r k).length->h<(r' k).length/\∀ q,(r' k)[h]? = some (some q)->(E.X.r k)[h]? = some (some q))
  (ho:E.le { w:=w',H:=E.H.set id o',ad:=E.ad,X:=E.X.re r' }->aV { w:=w',H:=E.H.set id o',ad:=E.ad,X:=E.X.re r' } id o') (henv:eO E.w w') (hmm:o.dM=none\/(o'.dM=o.dM/\∃ t,r' k=E.X.r k++t):=by first|exact .inl rfl|assumption) :
  aG { w:=w',H:=E.H.set id o',ad:=E.ad,X:=E.X.re r' }/\E.le { w:=w',H:=E.H.set id o',ad:=E.ad,X:=E.X.re r' }:=by
 have O:=aX I;have W:∀(l h b m:Nat),(r' l)[h]? = some (some (some (b,m)))->(E.X.r l)[h]? = some (some (some (b,m)))\/(l=k/\E.w.heap.size<=b/\b<w'.heap.size/\∀(h' m':Nat),(r' k)[h']? = some (some (some (b,m')))->h'=h):=fun l h b m A=>by
  by_cases e:l=k
  ·subst e
   rcases hnew h b m A with d|⟨d,z,h3⟩
   ·exact .inl d
   ·exact .inr ⟨rfl,d,z,h3⟩
  ·rw [J l e] at A
   exact .inl A
 have hle:E.le { w:=w',H:=E.H.set id o',ad:=E.ad,X:=E.X.re r' }:=by
  refine⟨fun i al hp=>?_,hsize,fun x hx hx'=>hsame x hx (fun n U=>hx' (.inl ⟨id,n,U⟩)) fun h m hm=>hx' (.inr ⟨k,h,m,hm⟩),fun b V hno=>?_,fun i al hp B=>?_,⟨rfl,rfl⟩,fun l h hh=>?_,henv,fun i l x d z hv=>?_⟩
  rotate_right
  ·by_cases e : i = id
   ·subst e
    rw[I]at d;cases d;have M:k=l:=by
     have:=ah.nz z;rw[hlab]at this;cases this;rfl
    subst M;rcases hmm with h|⟨h,ht⟩
    ·rw[h]at z; cases z
    ·exact⟨ht,o',by simp only[]; rw[bK O],by rw[h]; exact z⟩
   ·have M : l ≠ k := fun M => e (H.uniq i id x o l d I (ah.nz z) (by rw [M]; exact hlab))
    exact⟨⟨[],by rw[fe]; exact J l M⟩,x,by simp only[]; rw[bc (Ne.symm e)]; exact d,z⟩
  ·obtain ⟨x, d, z⟩ := hp
   by_cases e:i=id
   ·subst e
    rw[I]at d;cases d;exact⟨o',by simp only[]; rw[bK O],ah.Ba hlab',fun v hv=>z.2 v (by rw[<-hver]; exact hv)⟩
   ·exact⟨x,by simp only[]; rw[bc (Ne.symm e)]; exact d,z⟩
  ·rintro (⟨i, c, hi⟩ | ⟨l, h, m, hm⟩)
   ·exact hno (.inl ⟨i,c,hi⟩)
   ·rcases W l h b m hm with d | ⟨_, d, _⟩
    ·exact hno (.inr ⟨l,h,m,d⟩)
    ·omega
  ·obtain ⟨x, d, z⟩ := B
   refine⟨?_,rfl⟩;simp only[]at d;by_cases e:i=id
   ·subst e
    rw[bK O]at d;cases d;exact⟨o,I,by rw[<-hver]; exact z⟩
   ·rw [bc (Ne.symm e)] at d
    exact⟨x,d,z⟩
  ·by_cases e : l = k
   ·subst e
    exact hrl h hh
   ·show h < (r' l).length /\ _
    rw[J l e];exact⟨hh,fun _ N=>(by rw[show ({ w:=w',H:=E.H.set id o',ad:=E.ad,X:=E.X.re r' }:ae).X.r l=E.X.r l from J l e]at N; exact N)⟩
 refine⟨⟨by simp[H.len],H.inj,fun i b m hi=>⟨eF (H.lt i b m hi).1 hsize,(H.lt i b m hi).2⟩,fun b V=>eF (H.X b V) hsize,fun i x hi=>?_,H.gL.bZ hle.toC,fun l h l' h' b m n d z=>?_,fun i b m l h n hi A=>?_,fun l h b m A=>?_,fun i j x y l hi hj d z=>?_,fun l U h q N=>?_⟩,hle⟩
 ·by_cases e : i = id
  ·subst e
   simp only[]at hi;rw[bK O]at hi;cases hi;exact ho hle
  ·simp only [] at hi
   rw[bc (Ne.symm e)]at hi;refine mo (fun a _ J=>bG hle a J) rfl (fun b n V=>hsame b (H.lt i b n V).1 (fun m hm=>e (H.inj i id b n m V hm)) fun h m hm=>H.dm i b n k h m V hm) (fun l B=>?_) (H.obj i x hi);have Y:l≠k:=fun M=>e (H.uniq i id x o l hi I B (by rw[hlab,M]));exact⟨J l Y,fun h g m A=>hsame g (H.cS l h g m A).1 (fun n U=>H.dm id g n l h m U A) fun h' m' hk'=>Y (H.fC l h k h' g m m' A hk').1⟩
 ·rcases W l h b m d with F | ⟨rfl, F, g2, g3⟩ <;> rcases W l' h' b n z with k1 | ⟨rfl, k1, k2, k3⟩
  ·exact H.fC _ _ _ _ _ _ _ F k1
  ·have:=(H.cS _ _ _ _ F).1; omega
  ·have:=(H.cS _ _ _ _ k1).1; omega
  ·exact⟨rfl,(g3 h' n z).symm⟩
 ·rcases W l h b n A with F | ⟨rfl, F, g2, g3⟩
  ·exact H.dm _ _ _ _ _ _ hi F
  ·have:=(H.lt i b m hi).1; omega
 ·rcases W l h b m A with F | ⟨rfl, F, g2, g3⟩
  ·exact⟨eF (H.cS _ _ _ _ F).1 hsize,(H.cS _ _ _ _ F).2⟩
  ·exact⟨g2,fun hx=>by have:=H.X b hx; omega⟩
 ·have key:∀ (i:Nat) x,(E.H.set id o')[i]? = some x->x.label=some l->∃ y,E.H[i]? = some y/\y.label=some l:=by
   intro i x hi B;by_cases e:i=id
   ·subst e
    rw[bK O]at hi;cases hi;exact⟨o,I,by rw[hlab,<-hlab',B]⟩
   ·rw [bc (Ne.symm e)] at hi
    exact⟨x,hi,B⟩
  obtain⟨x',a1,a2⟩:=key i x hi d;obtain⟨y',b1,b2⟩:=key j y hj z;exact H.uniq i j x' y' l a1 b1 a2 b2
 ·have Y : l ≠ k := fun e => U id o' (by show (E.H.set id o')[id]? = _; rw [bK O]) (by rw [hlab', e])
  have N:(r' l)[h]? = some (some q):=N;rw[J l Y]at N;refine H.iD l (fun i x hi B=>?_) h q N;by_cases e:i=id
  ·subst e
   rw[I]at hi;cases hi;exact Y (by rw[hlab]at B; cases B; rfl)
  ·exact U i x (by show (E.H.set id o')[i]? = _; rw[bc (Ne.symm e)]; exact hi) B
def jR (r:Nat->List (Option (Option (Nat × Nat)))) (a:Nat):Nat->List (Option (Option (Nat × Nat))):=fun l=>if l=a then r l++[some none] else r l
def Fz{r:Nat->List (Option (Option (Nat × Nat)))}{b l h:Nat}{q:Option (Option (Nat × Nat))}(a:(jR r b l)[h]? = some q):(r l)[h]? = some q\/(l=b/\h=(r l).length/\q=some none):=by
 unfold jR at a;split at a
 ·rename_i e
  rw[fy]at a;split at a
  ·exact .inl a
  ·rename_i g
   right;cases d:h-(r l).length with
   | zero =>
    rw[d]at a;simp at a;exact⟨e,by omega,a.symm⟩
   |succ n=>rw[d]at a; simp at a
 ·exact .inl a
def Tw{r:Nat->List (Option (Option (Nat × Nat)))}{a l h:Nat}(b:h<(r l).length):(jR r a l)[h]? = (r l)[h]? := by
 unfold jR;split
 ·exact dr b
 ·rfl
def aG.Tx{E:ae}{w':a6}{o:ah}{l:Option (Nat × Nat)}{l0:Nat}(H:aG E)(h:Ext E.w w')(J:∀ b n,l=some (b,n)->E.w.heap.size<=b/\b<w'.heap.size)(hlab:o.label=some l0)(N:∀(i:Nat) x,E.H[i]? = some x->x.label≠some l0)
  (ho:aV { w:=w',H:=E.H++[o],ad:=E.ad++[l],X:=E.X.re (jR E.X.r l0) } E.H.length o) :
  aG { w:=w',H:=E.H++[o],ad:=E.ad++[l],X:=E.X.re (jR E.X.r l0) }/\E.le { w:=w',H:=E.H++[o],ad:=E.ad++[l],X:=E.X.re (jR E.X.r l0) }:=by
 have O:∀(i:Nat) x,(E.H++[o])[i]? = some x->E.H[i]? = some x\/(i=E.H.length/\x=o):=fun i x hi=>by
  rw[fy]at hi;split at hi
  ·exact .inl hi
  ·right
   cases v:i-E.H.length with
   |zero=>rw[v]at hi; simp at hi; exact⟨by omega,hi.symm⟩
   |succ n=>rw[v]at hi; simp at hi
 have F:∀(i:Nat) x,(E.ad++[l])[i]? = some x->E.ad[i]? = some x\/(i=E.ad.length/\x=l):=fun i x hi=>by
  rw[fy]at hi;split at hi
  ·exact .inl hi
  ·right
   cases v:i-E.ad.length with
   |zero=>rw[v]at hi; simp at hi; exact⟨by omega,hi.symm⟩
   |succ n=>rw[v]at hi; simp at hi
 have B:∀(x k b m:Nat),(jR E.X.r l0 x)[k]? = some (some (some (b,m)))->(E.X.r x)[k]? = some (some (some (b,m))):=fun x k b m v=>by
  rcases Fz v with d|⟨_,_,d⟩
  ·exact d
  ·cases d
 have U:E.le { w:=w',H:=E.H++[o],ad:=E.ad++[l],X:=E.X.re (jR E.X.r l0) }:=by
  refine⟨fun i al V=>?_,h.size,fun b I _=>h.same b I,fun b hlt hno'=>?_,fun i al V W=>?_,⟨rfl,rfl⟩,fun x k v=>?_,h.env,fun i l x d t hv=>⟨⟨[],?_⟩,x,by simp only[]; rw[dr (aX d)]; exact d,t⟩⟩
  rotate_right
  ·have e : l ≠ l0 := fun e => N i x d (by rw [<- e]; exact ah.nz t)
   rw[fe];exact iN e
  ·obtain ⟨x, d, t⟩ := V
   exact⟨x,by simp only[]; rw[dr (aX d)]; exact d,t⟩
  ·rintro (⟨i, c, hi⟩ | ⟨x, k, m, v⟩)
   ·rcases F i _ hi with d | ⟨_, d⟩
    ·exact hno' (.inl ⟨i,c,d⟩)
    ·have := J b c d.symm
     omega
   ·exact hno' (.inr ⟨x,k,m,B x k b m v⟩)
  ·obtain ⟨x, d, t⟩ := V
   have hid:=aX d;obtain⟨y,z,Y⟩:=W;simp only[]at z;rw[dr hid]at z;exact⟨⟨y,z,Y⟩,by simp only[]; rw[dr (by rw[H.len]; exact hid)]⟩
  ·have hk':k<(jR E.X.r l0 x).length:=by
    unfold jR;split
    ·simp; omega
    ·exact v
   refine⟨hk',fun q M=>?_⟩;have M:(jR E.X.r l0 x)[k]? = some (some q):=M
   rwa [Tw v]at M
 refine⟨⟨by simp[H.len],fun i j b m n hi hj=>?_,fun i b m hi=>?_,fun b I=>eF (H.X b I) h.size,fun i x hi=>?_,H.gL.bZ U.toC,fun x k x' k' b m n d t=>H.fC _ _ _ _ _ _ _ (B _ _ _ _ d) (B _ _ _ _ t),fun i b m x k n hi v=>?_,fun x k b m v=>?_,fun i j x y l1 hi hj d t=>?_,fun l1 hn k q M=>?_⟩,U⟩
 ·rcases F i _ hi with d | ⟨d, t⟩ <;> rcases F j _ hj with z | ⟨z, Y⟩
  ·exact H.inj _ _ _ _ _ d z
  ·have:=J b n Y.symm; have:=(H.lt _ _ _ d).1; omega
  ·have:=J b m t.symm; have:=(H.lt _ _ _ z).1; omega
  ·omega
 ·rcases F i _ hi with d | ⟨d, t⟩
  ·exact⟨eF (H.lt _ _ _ d).1 h.size,(H.lt _ _ _ d).2⟩
  ·have z := J b m t.symm
   exact⟨z.2,fun hx=>by have:=H.X b hx; omega⟩
 ·rcases O i x hi with d | ⟨d, t⟩
  ·refine mo (fun a _ hr => bG U a hr) (by simp only []; rw [dr (by rw [H.len]; exact aX d)]) (fun b n I => h.same b (H.lt i b n I).1) (fun l1 hl1 => ?_) (H.obj i x d)
   have hne:l1≠l0:=fun e=>N i x d (by rw[hl1,e]);exact⟨iN hne,fun k g m v=>h.same g (H.cS _ _ _ _ v).1⟩
  ·subst d t
   exact ho
 ·rcases F i _ hi with d | ⟨d, t⟩
  ·exact H.dm _ _ _ _ _ _ d (B _ _ _ _ v)
  ·have:=J b m t.symm; have:=(H.cS _ _ _ _ (B _ _ _ _ v)).1; omega
 ·have d := B _ _ _ _ v
  exact⟨eF (H.cS _ _ _ _ d).1 h.size,(H.cS _ _ _ _ d).2⟩
 ·rcases O i x hi with A | ⟨A, rfl⟩ <;> rcases O j y hj with g3 | ⟨g3, rfl⟩
  ·exact H.uniq i j x y l1 A g3 d t
  ·rw [hlab] at t
   cases t;exact(N i x A d).elim
  ·rw [hlab] at d
   cases d;exact(N j y g3 t).elim
  ·omega
 ·rcases Fz (show (jR E.X.r l0 l1)[k]? = some (some q) from M) with A | ⟨A, _⟩
  ·exact H.iD l1 (fun i x hi W=>hn i x (by simp only[]; rw[dr (aX hi)]; exact hi) W) k q A
  ·exact hn E.H.length o (by simp) (by rw[hlab,A])
def ae.Bi{E:ae}(H:aG E)(id:Nat):E.le { w:=E.w,H:=E.H.set id .dead,ad:=E.ad.set id none,X:=E.X }:=by
 rcases kJ id E.H.length with h|h
 ·exact ae.lG (o:=E.H[id]) (by simp[h]) H.len (aY _) (fun _ _ _=>rfl) (fun _ _ h=>by cases h) (.inl (fun v h=>by simp[ah.aU]at h))
   (fun v u h=>by simp[ah.aU]at h) (fun _ _=>rfl)
 ·rw [JR h, JR (by rw [H.len]; exact h)]
  exact ae.le.refl E
def aG.drop{E:ae}(H:aG E)(id:Nat)(hlab:∀ o,E.H[id]? = some o->o.label=none):aG { w:=E.w,H:=E.H.set id .dead,ad:=E.ad.set id none,X:=E.X }:=by
 rcases kJ id E.H.length with h|h
 ·refine aG.nA (o:=E.H[id]) H (by simp [h]) (aY _) (fun _ _ _=>rfl) (fun _ _ h=>by cases h) (.inl (fun v h=>by simp [ah.aU] at h))
   (fun v u h=>by simp[ah.aU]at h) (fun _ _=>rfl) ?_ (hlab:=hlab _ (by simp[h]))
  simp only[aV];rw[bK (by rw[H.len]; exact h)]
 ·rw [JR h, JR (by rw [H.len]; exact h)]
  exact H
end Go.AL

namespace Go.AL
variable [Dr]
structure FK where
 oF:Nat
 size:Nat
 agg:Bool
def qR:TypeDesc->Bool
 |.struct _ | .array _ _=>true
 |_=>false
def eI(P:ai)(t:aD):Option (Nat × Bool) :=
 match P.info? t,P.underlying t with
 |some i,some d=>some (i.size,qR d)
 |_,_=>none
def uS(P:ai)(t:aD)(f:Nat):Option FK :=
 match P.underlying t with
 | some (.struct d)=>match d[f]? with
  | some b=>match eI P b.type with
   |some (n,a)=>some ⟨b.offset,n,a⟩
   |none=>none
  |none=>none
 |_=>none
def fl(P:ai)(t:aD):Option (List ak) :=
 match P.info? t with
 | some i=>match i.zero with
  |some z=>if z.cells.toList.all dU then some z.cells.toList else none
  |none=>none
 |none=>none
inductive SK where
 |slice (elem size bytes:Nat)
 |array (n elem size:Nat) (agg:Bool)
 |str
 |int (k:IntKind)
 |bool
 |other
def cI(P:ai)(t:aD):SK :=
 match P.underlying t with
 | some (.slice e)=>match P.info? e with
  |some i=>.slice e i.size i.bytes
  |none=>.other
 | some (.array n e)=>match eI P e with
  |some (m,a)=>.array n e m a
  |none=>.other
 |some .string=>.str
 |some (.int k)=>.int k
 |some .bool=>.bool
 |_=>.other
def AV.uT:ak->AV
 |.agg a=>if a.toList.all dU then .agg (a.toList.map .lit) else .lit (.agg a)
 |.tuple a=>.tuple (a.toList.map .lit)
 |v=>.lit v
abbrev AV.int(n:Int):AV:=.lit (.int .i64 n)
abbrev AV.bool(b:Bool):AV:=.lit (.bool b)
abbrev AV.str(s:ByteArray):AV:=.lit (.string s)
def oz{E:ae}:∀(l:List ak),ar E (l.map .lit) l
 | []=>by simp[ar]
 |v::l=>by simp[ar,ab,oz l]
def Ko(E:ae)(v:ak):ab E (AV.uT v) v:=by
 unfold AV.uT;split
 ·split
  ·rename_i a h
   simp only[ab];exact⟨a,rfl,cq.1 h,oz _⟩
  ·simp[ab]
 ·simp only [ab]
  exact⟨_,rfl,oz _⟩
 ·simp[ab]
structure St where
 fr:List AV
 H:List ah
def St.eval(s:St):bX->AV
 |.tmp t=>s.fr.getD t .undef
 |.const v=>AV.uT v
 |.global g=>.lit (.pointer (some ⟨g,0,none⟩))
 |.func f=>.clo f []
def mq(w:a6)(X:XS)(l:List Deferred):Prop:=l.Nodup/\∀ d∈l,∃ D,d={ target:=.collected D,args:=#[] }/\w.heap[D]? = some (.deferred (some []))/\X D/\X.z D
def uU(w:a6)(X:XS):mq w X []:=⟨List.nodup_nil,fun _ h=>by cases h⟩
def FA{w w':a6}{X a:XS}{l:List Deferred}(h:mq w X l)(q:∀ b,X b->X.z b->a b/\a.z b)(t:∀ b,X b->X.z b->w'.heap[b]? = w.heap[b]?):mq w' a l :=
 ⟨h.1,fun d v=>let ⟨D,e,y,g,k⟩:=h.2 d v; ⟨D,e,by rw[t D g k]; exact y,q D g k⟩⟩
def FB{E E':ae}(HE:aG E)(h:E.le E'){l:List Deferred}(hm:mq E.w E.X l):mq E'.w E'.X l :=
 FA hm (fun b d g=>⟨by rw[show E'.X.x=E.X.x from h.X.1]; exact d,by rw[show E'.X.z=E.X.z from h.X.2]; exact g⟩) fun b a _=>h.same b (HE.X b a) (HE.xz a)
structure c9 (s:St) (E:ae) (a:Act):Prop where
 H:E.H=s.H
 fr:ar E s.fr a.tmps.toList
 defers:mq E.w E.X a.defers
 heap:aG E
def c9.eval{s:St}{E:ae}{a:Act}(h:c9 s E a)(x:bX):ab E (s.eval x) (a.eval x):=by
 cases x with
 | tmp t =>
  simp only[St.eval,JS];obtain⟨q,w⟩:=sI.1 h.fr;rcases kJ t s.fr.length with b|k
  ·have d : t < a.tmps.toList.length := q ▸ b
   have y:s.fr[t]? = some s.fr[t]:=by simp[b]
   have z:a.tmps.toList[t]? = some a.tmps.toList[t]:=cn d;have:=w t _ _ y z;simpa[eh,Array.getD_eq_getD_getElem?,b,show t<a.tmps.size by simpa using d]using this
  ·have : s.fr.getD t .undef = .undef := by simp [eh, JQ k]
   rw[this];simp[ab]
 |const v=>exact Ko E v
 |global g=>simp[St.eval,JS,ab]
 |func f=>simp only[St.eval,JS,ab]; exact⟨#[],rfl,by simp[ar]⟩
def iQ(agg:Bool)(n:Nat)(cells:List AV):Option AV :=
 if agg then (if n<=cells.length then some (.agg (cells.take n)) else none) else cells[0]?
def jS(k:SK)(x i:AV):Option AV :=
 match i with
 | .lit (.int _ n) =>
  match k,x with
  |.slice _ sz _,.list w rZ=>if w=sz/\0<=n/\n<rZ.length then (rZ[n.toNat]?).map .cptr else none
  |.slice _ sz _,.listF ks rZ=>if ks.length=sz/\0<=n/\n<rZ.length then some (.cptr (a8 ks (rZ.getD n.toNat []))) else none
  |.slice _ sz _,.vQ w id al oF m=>if w=sz/\0<=n/\n<m then some (.ptr id al w (oF+n.toNat) 0) else none
  |.slice _ sz _,.svec id l j m=>if 0<=n/\n<m then some (.sptr id l j sz n.toNat 0) else none
  |.array m _ sz _,.ptr id al w row a=>if 0<=n/\n<m then some (.ptr id al w row (a+n.toNat*sz)) else none
  |.array m _ sz _,.cptr cells=>if 0<=n/\n<m then some (.cptr ((cells.drop (n.toNat*sz)).take sz)) else none
  |_,_=>none
 |_=>none
def FC(k:FK)(x:AV):Option AV :=
 if k.size=0 then none else
 match x with
 |.cptr cells=>some (.cptr (cells.drop k.oF))
 |.ptr id al w row a=>some (.ptr id al w row (a+k.oF))
 |_=>none
def FD(k:IntKind)(a b:Int):Int:=k.wrap (AP k.bits a &&& AP k.bits b).toNat
def Kp(k:IntKind)(a b:Int):Int:=k.wrap (AP k.bits a ||| AP k.bits b).toNat
def Kr(k:IntKind)(a b:Int):Int:=k.wrap (AP k.bits a ^^^ AP k.bits b).toNat
def FE(k:IntKind)(a b:Int):Int:=k.wrap (a*2 ^ min b.toNat k.bits)
def FF(k:IntKind)(a b:Int):Int:=a.fdiv (2 ^ min b.toNat k.bits)
def nB(op:BinOp)(k:IntKind)(a b:Int):Option ak :=
 match op with
 |.and=>some (.int k (FD k a b))
 |.or=>some (.int k (Kp k a b))
 |.xor=>some (.int k (Kr k a b))
 |.add=>some (.int k (k.wrap (a+b)))
 |.sub=>some (.int k (k.wrap (a-b)))
 |.mul=>some (.int k (k.wrap (a*b)))
 |.quo=>if b=0 then none else some (.int k (k.wrap (a.tdiv b)))
 |.rem=>if b=0 then none else some (.int k (a.tmod b))
 |.eql=>some (.bool (a==b))
 |.neq=>some (.bool (a != b))
 |.lss=>some (.bool (a<b))
 |.leq=>some (.bool (a<=b))
 |.gtr=>some (.bool (a>b))
 |.geq=>some (.bool (a ≥ b))
 |_=>none
def FG(op:BinOp)(x y:ByteArray):Option ak :=
 match op with
 |.add=>if ((x.size+y.size:Nat):Int)>IntKind.i64.max then none else some (.string (x++y))
 |.eql=>some (.bool (x.toList==y.toList))
 |.neq=>some (.bool !(x.toList==y.toList))
 |.lss=>some (.bool (fA x.toList y.toList))
 |.leq=>some (.bool (fA x.toList y.toList||x.toList==y.toList))
 |.gtr=>some (.bool !(fA x.toList y.toList||x.toList==y.toList))
 |.geq=>some (.bool !(fA x.toList y.toList))
 |_=>none
def jC(op:BinOp):ak->ak->Option ak
 | .int k a,.int d b=>match op with
  |.shl=>if b<0 then none else some (.int k (FE k a b))
  |.shr=>if b<0 then none else some (.int k (FF k a b))
  |op=>if k=d then nB op k a b else none
 |.string a,.string b=>FG op a b
 |_,_=>none
def Bj:AV->Option Nat
 |.lit (.string s)=>some s.size
 |.lit (.slice none 0 0)=>some 0
 |.nils=>some 0
 |.emptyS _=>some 0
 |.list _ rZ=>some rZ.length
 |.listF _ rZ=>some rZ.length
 |.vQ _ _ _ _ n=>some n
 |_=>none
def Sem.bH{P:ai}{t:aD}{d:TypeDesc}(h:P.underlying t=some d)(w:a6) :
  (underlying t).run P w=.ok d w:=by simp[underlying,h]
def Sem.run_sizeOf{P:ai}{t:aD}{i:TypeInfo}(h:P.info? t=some i)(w:a6):(sizeOf t).run P w=.ok i.size w:=by
 simp[sizeOf,typeInfo,h]
def Sem.pH{P:ai}{t:aD}{d:TypeDesc}(h:P.underlying t=some d)(w:a6):(isAgg t).run P w=.ok (qR d) w:=by
 simp[isAgg,Sem.bH h];cases d<;>rfl
def kO{P:ai}{t:aD}{n:Nat}{a:Bool}(h:eI P t=some (n,a)):∃ i d,P.info? t=some i/\P.underlying t=some d/\i.size=n/\qR d=a:=by
 unfold eI at h;split at h
 ·rename_i i d b g
  simp at h;exact⟨i,d,b,g,h.1,h.2⟩
 ·cases h
def Ks{P:ai}{t:aD}{f:Nat}{k:FK}(h:uS P t f=some k) :
  ∃ d b,P.underlying t=some (.struct d)/\d[f]? = some b/\b.offset=k.oF/\eI P b.type=some (k.size,k.agg):=by
 unfold uS at h;split at h
 ·rename_i d g
  split at h
  ·rename_i b q
   split at h
   ·rename_i n a v
    simp at h;subst h;exact⟨d,b,g,q,rfl,v⟩
   ·cases h
  ·cases h
 ·cases h
def Ty{P:ai}(op:BinOp)(t:aD)(x y:ak)(v:ak)(h:jC op x y=some v)(w:a6):(binOp op t x y).run P w=.ok v w:=by
 unfold jC at h;split at h
 ·rename_i k a I b
  split at h
  ·split at h
   ·cases h
   ·rename_i d
    cases h;simp only[binOp,Op.shift,iN d,FE];rfl
  ·split at h
   ·cases h
   ·rename_i d
    cases h;simp only[binOp,Op.shift,iN d,FF];rfl
  ·rename_i g q
   split at h
   ·rename_i z
    subst z;cases op<;>first|exact absurd rfl g|exact absurd rfl q|skip
    all_goals simp[nB]at h
    all_goals simp[binOp,Op.intArith,Op.intDiv,Op.intCmp,Op.intBits]
    all_goals first
     |exact h
     |(obtain⟨A,B⟩:=h; simp[A,B])
   ·cases h
 ·rename_i a b
  cases op<;>simp only[FG]at h<;>(try split at h)<;>simp at h<;>simp only[binOp,Op.stringOp]<;>first
   |(subst h; simp; done)
   |(rename_i F; subst h; rw[iN F]; rfl)
 ·cases h
def Tz{P:ai}(op:BinOp)(t:aD)(x y:bX)(a b:ak)(h:∀ v,jC op a b≠some v->True)(d:(jC op a b).isSome=true)(w:a6) :
  (eqGuard op t x y a b).run P w=.ok () w:=by
 unfold jC at d;split at d
 ·cases op<;>simp[eqGuard]<;>rfl
 ·cases op<;>simp[eqGuard]<;>rfl
 ·cases d
def TA{E:ae}{x:AV}{c:ak}{n:Nat}(h:Bj x=some n)(a:ab E x c) :
  (∃ s,c=.string s/\s.size=n)\/∃ aN cap,c=.slice aN n cap:=by
 unfold Bj at h;split at h
 ·simp only[ab]at a; subst a; simp at h; exact .inl ⟨_,rfl,h⟩
 ·simp only[ab]at a; subst a; simp at h; subst h; exact .inr ⟨_,_,rfl⟩
 ·simp only[ab]at a; obtain⟨b,rfl⟩:=a; simp at h; subst h; exact .inr ⟨_,_,rfl⟩
 ·simp only[ab]at a; obtain⟨b,cap,rfl,_⟩:=a; simp at h; subst h; exact .inr ⟨_,_,rfl⟩
 ·simp only[ab]at a; obtain⟨_,b,cap,rfl,_⟩:=a; simp at h; subst h; exact .inr ⟨_,_,rfl⟩
 ·simp only[ab,eX]at a; obtain⟨b,cap,rfl,_⟩:=a; simp at h; subst h; exact .inr ⟨_,_,rfl⟩
 ·simp only[ab]at a; obtain⟨⟨b,cap,rfl,_⟩,_⟩:=a; simp at h; subst h; exact .inr ⟨_,_,rfl⟩
 ·cases h
end Go.AL

namespace Go.AL
open Go
variable [Dr]
def lH(b o n:Nat):(Addr.mk b o none).add n=⟨b,o+n,none⟩:=by
 unfold Addr.add;split
 ·rename_i h; simp[h]
 ·rfl
def TB{E:ae}{as:List AV}{b o:Nat}(h:cY E as b o){i:Nat}{a:AV}(hi:as[i]? = some a) :
  ∃ v,E.w.cell? ⟨b,o+i,none⟩=some v/\dU v=true/\ab E a v:=kg.1 h i a hi
def sK{E:ae}{as:List AV}{b o:Nat}(h:cY E as b o)(n:Nat):cY E (as.drop n) b (o+n):=by
 rw[kg]at *;intro i a hi;rw[sA]at hi;obtain⟨v,d,g,k⟩:=h (n+i) a hi;exact⟨v,by rw[sx]; exact d,g,k⟩
def Bk{E:ae}{as:List AV}{b o:Nat}(h:cY E as b o)(n:Nat):cY E (as.take n) b o:=by
 rw[kg]at *;intro i a hi;rw[om]at hi;split at hi
 ·exact h i a hi
 ·cases hi
def uV:∀(as:List AV) (n:Nat),AV.cb as=true->AV.cb (as.drop n)=true
 | [],n,_=>by simp[AV.cb]
 |a::as,0,h=>by simpa using h
 | a::as,n+1,h=>by
  simp only[AV.cb,aE]at h;simpa using uV as n h.2
def xA:∀(as:List AV) (n:Nat),AV.cb as=true->AV.cb (as.take n)=true
 | [],n,_=>by simp[AV.cb]
 |a::as,0,_=>by simp[AV.cb]
 | a::as,n+1,h=>by
  simp only[AV.cb,aE]at h;simp only[ES,AV.cb,aE];exact⟨h.1,xA as n h.2⟩
def Bl{E:ae}:∀{as:List AV} {b o:Nat},cY E as b o ->
  ∃ d:List ak,ar E as d/\(∀ x∈d,dU x=true)/\∀ j v,d[j]? = some v->E.w.cell? ⟨b,o+j,none⟩=some v
 | [],b,o,_=>⟨[],by simp[ar]⟩
 | a::as,b,o,h=>by
  simp only[cY]at h;obtain⟨⟨v,q,t,y⟩,z⟩:=h;obtain⟨d,A,B,F⟩:=Bl z;refine⟨v::d,by simp only[ar]; exact⟨y,A⟩,?_,?_⟩
  ·intro x g
   rcases cf.1 g with rfl|g
   ·exact t
   ·exact B x g
  ·intro j x k
   cases j with
   |zero=>simp at k; subst k; exact q
   |succ j=>have:=F j x (by simpa using k); rwa [sx,xc 1 j]at this
def xB{P:ai}{E:ae}{cells:List AV}{b o n:Nat}{agg:Bool}{t:aD}{v:AV}(A:eI P t=some (n,agg))
  (a:iQ agg n cells=some v) (h:cY E cells b o):∃ c,(loadVar t ⟨b,o,none⟩).run P E.w=.ok c E.w/\ab E v c:=by
 obtain⟨i,d,hi,k,B,q⟩:=kO A;unfold iQ at a;cases agg with
 | true =>
  simp only[if_true]at a;split at a
  ·rename_i z
   cases a;obtain⟨g,y,F,I⟩:=Bl (Bk h n);have J:g.length=n:=by rw[<-iC y]; simp[z]
   refine⟨.agg g.toArray,?_,?_⟩
   ·simp only [loadVar, cg, Sem.pH k, bY, q, if_true, Sem.run_sizeOf hi, B]
    rw[<-J,run_loadCells_list (w:=E.w) ⟨b,o,none⟩ g (fun j v M=>by rw[lH]; exact I j v M)];rfl
   ·simp only [ab]
    exact⟨g.toArray,rfl,by simpa using F,by simpa using y⟩
  ·cases a
 | false =>
  simp only[me,if_false]at a;obtain⟨x,N,_,O⟩:=TB h a;refine⟨x,?_,O⟩;simp only[loadVar,cg,Sem.pH k,bY,q,me,if_false,run_load];rw[show (⟨b,o,none⟩:Addr)=⟨b,o+0,none⟩ from rfl,N]
def kP(P:ai)(t:aD)(x:AV)(H:List ah):Option AV :=
 match eI P t with
 | some (n,agg) =>
  match x with
  |.cptr cells=>iQ agg n cells
  | .ptr id al w row a=>match H[id]? with
   |some (.box cells)=>if al=0/\row=0 then iQ agg n (cells.drop a) else none
   |some (.vQ k v rZ)=>if al=v/\k=w then (match rZ[row]? with|some r=>iQ agg n (r.drop a)|none=>none) else none
   |some (.cM l _ _ b)=>if al=0/\w=1/\a=0 then (match b[row]? with|some rZ=>iQ agg n [.svec id l row rZ.length]|none=>none) else none
   |_=>none
  | .sptr id l j w row a=>match H[id]? with
   |some (.cM l' k _ b)=>if l=l'/\k=w then (match b[j]? with|some rZ=>(match rZ[row]? with|some r=>iQ agg n (r.drop a)|none=>none)|none=>none) else none
   |_=>none
  |_=>none
 |none=>none
def oA{E:ae}{k:Nat}{rs:List (List AV)}{b o:Nat}(h:da E k rs b o){i:Nat}{r:List AV}(hi:rs[i]? = some r) :
  r.length=k/\cY E r b (o+i*k):=ox.1 h i r hi
def Kt{P:ai}{E:ae}(HE:aG E){t:aD}{x v:AV}{c:ak}(a:kP P t x E.H=some v)(y:ab E x c) :
  ∃ u,(xe t c).run P E.w=.ok u E.w/\ab E v u:=by
 unfold kP at a;split at a
 case h_2=>cases a
 rename_i n agg F;split at a
 ·simp only [ab] at y
  obtain⟨_,b,o,rfl,_,h2⟩:=y;obtain⟨u,h,q⟩:=xB F a h2;exact⟨u,by simpa[xe,mf]using h,q⟩
 ·rename_i id al w row M
  simp only[ab]at y;split at a
  ·rename_i cells d
   split at a
   ·rename_i B
    obtain⟨rfl,rfl⟩:=B;obtain⟨b,m,I,rfl⟩:=y.2.2 ⟨_,d,rfl⟩;obtain⟨O,m',g,_,z⟩:=HE.obj id _ d;rw[I]at g;cases g;have:=sK z M;simp only[eo]at this;obtain⟨u,h,q⟩:=xB F a this;exact⟨u,by simpa[xe,mf]using h,q⟩
   ·cases a
  ·rename_i k v' rZ d
   split at a
   ·rename_i B
    obtain⟨rfl,rfl⟩:=B;split at a
    ·rename_i r A
     obtain⟨b,m,I,rfl⟩:=y.2.2 ⟨_,d,rfl⟩;rcases HE.obj id _ d with⟨g,z⟩|⟨O,m',g,_,_,_,z⟩
     ·subst z; simp at A
     ·rw [I] at g
      cases g;have:=sK (oA z A).2 M;simp only[eo]at this;obtain⟨u,h,q⟩:=xB F a this;exact⟨u,by simpa[xe,mf]using h,q⟩
    ·cases a
   ·cases a
  ·rename_i l k m ms d
   split at a
   ·rename_i B
    obtain⟨rfl,rfl,rfl⟩:=B;split at a
    ·rename_i rZ A
     obtain⟨b,m,I,rfl⟩:=y.2.2 ⟨_,d,rfl⟩;have J:=HE.obj id _ d;simp only[aV]at J;obtain⟨O,m',cs,el,g,z,W,_,_,U⟩:=J;rw[I]at g;cases g;have V:row<(dI (E.X.r l)).length:=by rw[W]; exact(xd.1 A).1
     obtain⟨N,q1,⟨cur,el2,q2,q3⟩,Y,_,_⟩:=U row rZ _ A (cn V);have hc:cY E [.svec id l row rZ.length] b (row*1+0):=by
      simp only[cY,and_true];refine⟨.slice (some ⟨(dI (E.X.r l))[row],0,none⟩) rZ.length N,?_,rfl,?_⟩
      ·simp only [qD, z]
       simpa using q1
      ·simp only [ab]
       exact⟨⟨_,N,rfl,Y,fun _=>⟨_,_,rfl⟩⟩,⟨_,d,rfl,fun v _=>fO v⟩,fun _=>⟨⟨_,d,rfl⟩,_,cn V,N,Y,rfl⟩⟩
     obtain⟨u,h,q⟩:=xB F a hc;exact⟨u,by simpa[xe,mf]using h,q⟩
    ·cases a
   ·cases a
  ·cases a
 ·rename_i id l j w row M
  simp only[ab]at y;split at a
  ·rename_i l' k m ms d
   split at a
   ·rename_i B
    obtain⟨rfl,rfl⟩:=B;split at a
    ·rename_i rZ hj
     split at a
     ·rename_i r A
      obtain⟨_,b,g1,rfl⟩:=y.2.2 ⟨_,d,rfl⟩;have J:=HE.obj id _ d;simp only[aV]at J;obtain⟨O,m',cs,el,g,z,W,_,_,U⟩:=J;obtain⟨N,_,_,_,_,q6⟩:=U j rZ b hj g1;have:=sK (oA q6 A).2 M;simp only[eo]at this;obtain⟨u,h,q⟩:=xB F a this;exact⟨u,by simpa[xe,mf]using h,q⟩
     ·cases a
    ·cases a
   ·cases a
  ·cases a
 ·cases a
def TC{P:ai}{E:ae}{t:aD}{f:Nat}{k:FK}{x v:AV}{c:ak}(I:uS P t f=some k)
  (a:FC k x=some v) (g:ab E x c):∃ u,(SU t c f).run P E.w=.ok u E.w/\ab E v u:=by
 obtain⟨fs,J,y,z,M,N⟩:=Ks I;obtain⟨i,d,hi,hd,O,ha⟩:=kO N;unfold FC at a;split at a
 ·cases a
 rename_i A;have q:∀ b o w,(fieldPlace ⟨b,o,none⟩ J).run P w=.ok ⟨b,o+k.oF,none⟩ w:=by
  intro b o w;simp only[fieldPlace,cg,Sem.run_sizeOf hi,bY,O,iN A,e_,lH,M]
 split at a
 ·cases a
  simp only[ab]at g;obtain⟨U,b,o,rfl,B,F⟩:=g;refine⟨.pointer (some ⟨b,o+k.oF,none⟩),?_,?_⟩
  ·simp[SU,Sem.bH y,z,mf,q]
  ·simp only [ab]
   exact⟨uV _ _ U,b,o+k.oF,rfl,B,sK F _⟩
 ·cases a
  simp only[ab]at g;rename_i id al w row col;obtain⟨⟨b,o,rfl⟩,V,W⟩:=g;refine⟨.pointer (some ⟨b,o+k.oF,none⟩),?_,?_⟩
  ·simp[SU,Sem.bH y,z,mf,q]
  ·simp only [ab]
   refine⟨⟨_,_,rfl⟩,V,fun X=>?_⟩;obtain⟨Y,n',e1,h⟩:=W X;simp only[ajK,a_,ET]at h;exact⟨Y,n',e1,by simp[h.1,h.2.1,sx]⟩
 ·cases a
def iR{P:ai}{t e sz a:Nat}(h:cI P t=.slice e sz a):P.underlying t=some (.slice e)/\∃ i,P.info? e=some i/\i.size=sz/\i.bytes=a:=by
 unfold cI at h;split at h
 ·rename_i g b
  split at h
  ·rename_i i d
   cases h;exact⟨b,i,d,rfl,rfl⟩
  ·cases h
 ·split at h<;>cases h
 all_goals cases h
def Bm{P:ai}{t n e sz:Nat}{a:Bool}(h:cI P t=.array n e sz a):P.underlying t=some (.array n e)/\eI P e=some (sz,a):=by
 unfold cI at h;split at h
 ·split at h<;>cases h
 ·rename_i g k b
  split at h
  ·rename_i m q d
   cases h;exact⟨b,d⟩
  ·cases h
 all_goals cases h
def sL{P:ai}{t:Nat}(h:cI P t=.str):P.underlying t=some .string:=by
 unfold cI at h;split at h
 ·split at h<;>cases h
 ·split at h<;>cases h
 ·rename_i a; exact a
 all_goals cases h
def TD{P:ai}{E:ae}(HE:aG E){t:aD}{x i v:AV}{c d:ak}
  (g:jS (cI P t) x i=some v) (h:ab E x c) (hi:ab E i d):∃ u,(xf t c d).run P E.w=.ok u E.w/\ab E v u:=by
 unfold jS at g;split at g
 case h_2=>cases g
 rename_i k n;simp only[ab]at hi;subst hi;split at g
 ·rename_i e sz by_ w rZ y
  split at g
  ·rename_i q
   obtain⟨rfl,I,J⟩:=q;obtain⟨z,W,A,F,_⟩:=iR y;cases B:rZ[n.toNat]? with
   |none=>rw[B]at g; cases g
   | some r =>
    rw[B]at g;simp at g;subst g;simp only[ab]at h;obtain⟨hcl,aN,cap,rfl,hle,hh⟩:=h;rcases hh with rfl|⟨b,o,rfl,V,hr⟩
    ·simp at B
    ·obtain ⟨X, M⟩ := oA hr B
     refine⟨.pointer (some ⟨b,o+n.toNat*w,none⟩),?_,?_⟩
     ·simp[xf,asIntOf,Sem.bH z,I,J,Sem.run_sizeOf A,F,lH]
     ·simp only [ab]
      exact⟨hcl r (eC B),b,_,rfl,V,M⟩
  ·cases g
 ·rename_i e sz by_ ks rZ y
  split at g
  ·rename_i q
   obtain⟨rfl,I,J⟩:=q;cases g;obtain⟨z,W,A,F,_⟩:=iR y;have h:=ki.1 h;simp only[ab,fJ]at h;obtain⟨hcl,aN,cap,rfl,hle,hh⟩:=h;have hlt:n.toNat<rZ.length:=by omega
   have B:(rZ.map (a8 ks))[n.toNat]? = some (a8 ks (rZ.getD n.toNat [])):=by
    rw[cX,eh,cn hlt];rfl
   rcases hh with hn|⟨b,o,rfl,V,hr⟩
   ·rw[hn]at B; simp at B
   ·obtain ⟨X, M⟩ := oA hr B
    refine⟨.pointer (some ⟨b,o+n.toNat*ks.length,none⟩),?_,?_⟩
    ·simp[xf,asIntOf,Sem.bH z,I,J,Sem.run_sizeOf A,F,lH]
    ·simp only [ab]
     exact⟨gI _ _,b,_,rfl,V,M⟩
  ·cases g
 ·rename_i e sz by_ w id al oF m y
  split at g
  ·rename_i q
   obtain⟨rfl,I,J⟩:=q;cases g;obtain⟨z,W,A,F,_⟩:=iR y;simp only[ab]at h;obtain⟨⟨aN,cap,rfl,hle,hb⟩,O,N⟩:=h;obtain⟨b,o,rfl⟩:=hb (by omega);refine⟨.pointer (some ⟨b,o+n.toNat*w,none⟩),?_,?_⟩
   ·simp[xf,asIntOf,Sem.bH z,I,J,Sem.run_sizeOf A,F,lH]
   ·simp only [ab]
    refine⟨⟨_,_,rfl⟩,O,fun Y=>?_⟩;obtain⟨X,M⟩:=N Y;obtain⟨a,ha,hav⟩:=O;cases hloc:E.ad[id]? with
    | none =>
     have:=aX ha;rw[<-HE.len]at this;rw[cn this]at hloc;cases hloc
    | some l =>
     cases l with
     |none=>have:=(X hloc).1; omega
     | some bm =>
      obtain⟨U,m'⟩:=bm;obtain⟨q1,o',q2,q3⟩:=M U m' hloc;simp only[lv,a_,ET]at q3;refine⟨U,m',rfl,?_⟩;rw[q3.1.1,q3.1.2.1,q2 (by omega),fZ];rfl
  ·cases g
 ·rename_i e sz by_ id l j m y
  split at g
  ·rename_i q
   obtain⟨I,J⟩:=q;cases g;obtain⟨z,W,A,F,_⟩:=iR y;simp only[ab]at h;obtain⟨⟨aN,cap,rfl,hle,hb⟩,O,N⟩:=h;obtain⟨b,o,rfl⟩:=hb (by omega);refine⟨.pointer (some ⟨b,o+n.toNat*sz,none⟩),?_,?_⟩
   ·simp[xf,asIntOf,Sem.bH z,I,J,Sem.run_sizeOf A,F,lH]
   ·simp only [ab]
    refine⟨⟨_,_,rfl⟩,O,fun Y=>?_⟩;obtain⟨X,U,M,m',g3,g4⟩:=N Y;simp only[lv,a_,ET]at g4;exact⟨X,U,M,by simp[g4.1.1,g4.1.2.1]⟩
  ·cases g
 ·rename_i m e sz a id al w row col y
  split at g
  ·rename_i q
   cases g;obtain⟨z,hvk⟩:=Bm y;obtain⟨W,dd,A,F,h4,_⟩:=kO hvk;simp only[ab]at h;obtain⟨⟨b,o,rfl⟩,O,N⟩:=h;refine⟨.pointer (some ⟨b,o+n.toNat*sz,none⟩),?_,?_⟩
   ·simp[xf,asIntOf,Sem.bH z,q.1,q.2,Sem.run_sizeOf A,h4,lH,mf]
   ·simp only [ab]
    refine⟨⟨_,_,rfl⟩,O,fun Y=>?_⟩;obtain⟨U,n',e1,e2⟩:=N Y;simp only[ajK,a_,ET]at e2;exact⟨U,n',e1,by simp[e2.1,e2.2.1,sx]⟩
  ·cases g
 ·rename_i m e sz a cells y
  split at g
  ·rename_i q
   cases g;obtain⟨z,hvk⟩:=Bm y;obtain⟨W,dd,A,F,h4,_⟩:=kO hvk;simp only[ab]at h;obtain⟨hcl,b,o,rfl,V,N⟩:=h;refine⟨.pointer (some ⟨b,o+n.toNat*sz,none⟩),?_,?_⟩
   ·simp[xf,asIntOf,Sem.bH z,q.1,q.2,Sem.run_sizeOf A,h4,lH,mf]
   ·simp only [ab]
    exact⟨xA _ _ (uV _ _ hcl),b,_,rfl,V,Bk (sK N _) _⟩
  ·cases g
 ·cases g
def kQ:AV->Option Int
 |.lit (.int _ n)=>some n
 |_=>none
def hZ(len:Nat)(lo hi:Option AV):Option (Nat × Nat) :=
 match (match lo with|none=>some 0|some x=>kQ x),(match hi with|none=>some (len:Int)|some x=>kQ x)with
 |some l,some h=>if 0<=l/\l<=h/\h<=len then some (l.toNat,h.toNat) else none
 |_,_=>none
def uW{E:ae}{x:AV}{c:ak}{n:Int}(h:kQ x=some n)(a:ab E x c):∃ k,c=.int k n:=by
 unfold kQ at h;split at h
 ·cases h
  simp only[ab]at a;exact⟨_,a⟩
 ·cases h
def Ku:List AV->Option (List G)
 | [.lit (.string s)]=>some [.s s]
 |_=>none
def uX:List (List AV)->Option (List (List G))
 | []=>some []
 | r::rs=>match Ku r,uX rs with
  |some g,some a=>some (g::a)
  |_,_=>none
def FH:∀{rZ:List (List AV)} {a:List (List G)},uX rZ=some a->a.map (a8 [.str])=rZ
 | [],a,h=>by
  simp only[uX,a_]at h;subst h;rfl
 | r::rs,a,h=>by
  simp only[uX]at h;split at h
  ·rename_i g k b d
   cases h;rw[eM,FH d];unfold Ku at b;split at b
   ·cases b; rfl
   ·cases b
  ·cases h
def Bn(w:Nat)(rZ:List (List AV))(l n:Nat):AV:=match w,uX rZ with
 |1,some a=>.listF [.str] ((a.drop l).take n)
 |_,_=>.list w ((rZ.drop l).take n)
def TE{E:ae}{w l n:Nat}{rZ:List (List AV)}{c:ak} (h:ab E (.list w ((rZ.drop l).take n)) c):ab E (Bn w rZ l n) c:=by
 unfold Bn;split
 ·rename_i b a
  rw[ki,SV,JT,FH a];exact h
 ·exact h
def kl(P:ai)(t:aD)(x:AV)(lo hi mx:Option AV):Option AV :=
 match cI P t,x with
 | .str,.lit (.string s)=>match mx,hZ s.size lo hi with
  |none,some (l,h)=>some (.lit (.string (s.extract l h)))
  |_,_=>none
 | .slice _ sz _,.list w rZ=>match mx with
  | none=>match hZ rZ.length lo hi with
   |some (l,h)=>if w=sz then some (Bn w rZ l (h-l)) else none
   |none=>none
  |some m=>if hi.isSome/\hZ rZ.length lo hi=some (0,0)/\kQ m=some 0 then some .nils else none
 | .slice _ sz _,.listF ks rZ=>match mx with
  | none=>match hZ rZ.length lo hi with
   |some (l,h)=>if ks.length=sz then some (.listF ks ((rZ.drop l).take (h-l))) else none
   |none=>none
  |some m=>if hi.isSome/\hZ rZ.length lo hi=some (0,0)/\kQ m=some 0 then some .nils else none
 | .slice _ sz _,.vQ w id al oF n=>match mx with
  | none=>match hZ n lo hi with
   |some (l,h)=>if w=sz then some (.vQ w id al (oF+l) (h-l)) else none
   |none=>none
  |some m=>if hi.isSome/\hZ n lo hi=some (0,0)/\kQ m=some 0 then some .nils else none
 | .slice _ _ _,.nils=>match mx with
  |none=>if (hZ 0 lo hi).isSome then some .nils else none
  |some _=>none
 | .slice _ _ _,.lit (.slice none 0 0)=>match mx with
  |none=>if (hZ 0 lo hi).isSome then some (.lit (.slice none 0 0)) else none
  |some m=>if hi.isSome/\hZ 0 lo hi=some (0,0)/\kQ m=some 0 then some (.lit (.slice none 0 0)) else none
 |_,_=>none
def uY{P:ai}{E:ae}{len cap:Nat}{lo hi:Option AV}{clo t:Option ak}{l h:Nat}(J:Bool)(d:hZ len lo hi=some (l,h))(V:len<=cap)
  (A:∀ x,lo=some x->∃ c,clo=some c/\ab E x c) (y:lo=none->clo=none)
  (N:∀ x,hi=some x->∃ c,t=some c/\ab E x c) (M:hi=none->t=none) (w:a6) :
  (uA J len cap clo t none).run P w=.ok (l,h,cap) w/\l<=h/\h<=len:=by
 unfold hZ at d;split at d
 case h_2=>cases d
 rename_i a b q v;split at d
 case isFalse=>cases d
 rename_i g;simp only[a_,bk]at d;obtain⟨rfl,rfl⟩:=d;obtain⟨B,O,W⟩:=g;refine⟨?_,by omega,by omega⟩;cases hi with
 | none =>
  rw[M rfl];simp at v;subst v;cases lo with
  | none =>
   rw[y rfl];simp at q;subst q;simp[uA]
  | some x =>
   obtain⟨c,rfl,g⟩:=A x rfl;obtain⟨k,rfl⟩:=uW q g;simp[uA,EU,asIntOf,B,O]
 | some z =>
  obtain⟨c,rfl,g⟩:=N z rfl;obtain⟨k,rfl⟩:=uW v g;have F:b<=(cap:Int):=by omega
  have I:0<=b:=by omega
  cases lo with
  | none =>
   rw[y rfl];simp at q;subst q;simp[uA,EU,asIntOf,F,I]
  | some x =>
   obtain⟨c,rfl,g⟩:=A x rfl;obtain⟨X,rfl⟩:=uW q g;have U:¬ (max b 0<a):=by omega
   simp[uA,EU,asIntOf,F,I,B,U]
def Kv{E:ae}{k:Nat}{rZ:List (List AV)}{b o:Nat}(h:da E k rZ b o)(l n:Nat) :
  da E k ((rZ.drop l).take n) b (o+l*k):=by
 rw[ox]at *;intro i r hi;rw[om]at hi;split at hi
 ·rw [sA] at hi
  have:=h (l+i) r hi
  rwa [fZ,<-sx]at this
 ·cases hi
def qS(E:ae):Option AV->Option ak->Prop
 |none,none=>True
 |some x,some c=>ab E x c
 |_,_=>False
def FI{E:ae}{lo:Option AV}{clo:Option ak}(h:qS E lo clo):(∀ x,lo=some x->∃ c,clo=some c/\ab E x c)/\(lo=none->clo=none):=by
 cases lo<;>cases clo<;>simp_all[qS]
def Kw{E:ae}{w l h cap:Nat}{rZ:List (List AV)}{aN:Option Addr}(g:fg rZ)(y:rZ.length<=cap)(q:l<=h)(t:h<=rZ.length)
  (v:rZ=[]\/∃ b o,aN=some ⟨b,o,none⟩/\E.jQ b/\da E w rZ b o) :
  ab E (.list w ((rZ.drop l).take (h-l))) (.slice (if cap=l then aN else aN.map (·.add (l*w))) (h-l) (cap-l)):=by
 simp only[ab];have d:((rZ.drop l).take (h-l)).length=h-l:=by simp; omega
 refine⟨fun r a=>g r (uB (oq a)),_,cap-l,by rw[d],by rw[d]; omega,?_⟩;rcases Nat.eq_or_lt_of_le q with rfl|z
 ·left; simp
 ·right
  rcases v with rfl|⟨b,o,rfl,k,a⟩
  ·simp at t; omega
  ·refine ⟨b, o + l * w, ?_, k, Kv a l (h - l)⟩
   rw[iN (by omega)];simp[lH]
def TF{E:ae}{w id al oF n l h:Nat}{aN:Option Addr}{cap:Nat}(d:ab E (.vQ w id al oF n) (.slice aN n cap))(U:l<=h)(V:h<=n) :
  ab E (.vQ w id al (oF+l) (h-l)) (.slice (if cap=l then aN else aN.map (·.add (l*w))) (h-l) (cap-l)):=by
 simp only[ab]at d|-;obtain⟨⟨q,N,e,O,v⟩,y,z⟩:=d;simp only[lv]at e;obtain⟨rfl,_,rfl⟩:=e;refine⟨⟨_,_,rfl,by omega,fun W=>?_⟩,y,fun A=>?_⟩
 ·obtain ⟨b, o, rfl⟩ := v (by omega)
  rw[iN (by omega)];exact⟨b,o+l*w,by simp[lH]⟩
 ·obtain ⟨B, F⟩ := z A
  refine⟨fun a=>?_,fun b m a=>?_⟩
  ·obtain ⟨rfl, rfl, q, e⟩ := B a
   simp only[lv]at e;refine⟨by omega,by omega,?_⟩;have I:h-l=0:=by omega
   have J:cap-l=0:=by omega
   rw[I,J];exact⟨_,rfl⟩
  ·obtain ⟨X, o, M, g⟩ := F b m a
   simp only[lv]at g;obtain⟨rfl,_,rfl⟩:=g;refine⟨by omega,?_⟩;by_cases k:m-oF=l
   ·rw [iP k]
    exact⟨o,fun t=>by omega,by rw[ajL]⟩
   ·rw [iN k]
    refine⟨o+l*w,fun t=>?_,by simp[lH,ajL]⟩;rw[M (by omega),fZ]
def Bo{P:ai}{E:ae}{len:Nat}{lo hi:Option AV}{m:AV}{clo h:Option ak}{q:ak}
  (d:hZ len lo hi=some (0,0)) (A:hi.isSome=true) (hm:kQ m=some 0)
  (B:∀ x,lo=some x->∃ c,clo=some c/\ab E x c) (t:lo=none->clo=none)
  (F:∀ x,hi=some x->∃ c,h=some c/\ab E x c) (v:ab E m q) (cap:Nat) (w:a6) :
  (uA true len cap clo h (some q)).run P w=.ok (0,0,0) w:=by
 obtain⟨k,rfl⟩:=uW hm v;obtain⟨z,rfl⟩:=AQ.1 A;obtain⟨c,rfl,g⟩:=F z rfl;unfold hZ at d;split at d
 case h_2=>cases d
 rename_i a b I J;split at d
 case isFalse=>cases d
 rename_i N;simp only[a_,bk]at d;obtain⟨U,rfl⟩:=uW J g;have M:a=0:=by omega
 have y:b=0:=by omega
 subst M; subst y;cases lo with
 | none =>
  rw[t rfl];simp[uA,EU,asIntOf]
 | some x =>
  obtain⟨c,rfl,g⟩:=B x rfl;obtain⟨O,rfl⟩:=uW I g;simp[uA,EU,asIntOf]
def TG{P:ai}{E:ae}{t:aD}{x v:AV}{lo hi mx:Option AV}{c:ak}{clo chi cmx:Option ak}
  (a:kl P t x lo hi mx=some v) (q:ab E x c) (hlo:qS E lo clo) (hhi:qS E hi chi) (hmx:qS E mx cmx) :
  ∃ u,(po t c clo chi cmx).run P E.w=.ok u E.w/\ab E v u:=by
 obtain⟨l1,F⟩:=FI hlo;obtain⟨l2,N⟩:=FI hhi;obtain⟨X,O⟩:=FI hmx;unfold kl at a;split at a
 ·rename_i s A
  have b:=sL A;simp only[ab]at q;subst q;split at a
  ·rename_i l h d
   cases a;rw[O rfl];obtain⟨B,J,M⟩:=uY (P:=P) (E:=E) (cap:=s.size) false d (aY _) l1 F l2 N E.w;refine⟨.string (s.extract l h),?_,by simp[ab]⟩;simp[po,qE,Sem.bH b,B]
  ·cases a
 ·rename_i e sz W w rZ A
  obtain⟨b,Y,y,z,_⟩:=iR A;have U:=q;simp only[ab]at q;obtain⟨hcl,aN,cap,rfl,I,hh⟩:=q;split at a
  ·split at a
   ·rename_i l h d
    split at a
    ·rename_i V
     subst V;cases a;rw[O rfl];obtain⟨B,J,M⟩:=uY (P:=P) (E:=E) (cap:=cap) true d I l1 F l2 N E.w;refine⟨_,?_,TE (Kw (cap:=cap) hcl I J M hh)⟩;simp[po,qE,Sem.bH b,B,Sem.run_sizeOf y,z]
    ·cases a
   ·cases a
  ·rename_i m
   split at a
   ·rename_i k
    cases a;obtain⟨cm,rfl,hm⟩:=X m rfl;have g:=Bo (P:=P) k.2.1 k.1 k.2.2 l1 F l2 hm cap E.w;refine⟨.slice aN 0 0,?_,by simp only[ab]; exact⟨aN,rfl⟩⟩;simp[po,qE,Sem.bH b,g,Sem.run_sizeOf y,z]
   ·cases a
 ·rename_i e sz W ks rZ A
  obtain⟨b,Y,y,z,_⟩:=iR A;have U:=ki.1 q;simp only[ab]at U;obtain⟨hcl,aN,cap,rfl,I,hh⟩:=U;simp only[fJ]at I q|-;split at a
  ·split at a
   ·rename_i l h d
    split at a
    ·rename_i V
     subst V;cases a;rw[O rfl];obtain⟨B,J,M⟩:=uY (P:=P) (E:=E) (cap:=cap) true d I l1 F l2 N E.w;have:=Kw (cap:=cap) hcl (by simpa using I) J (by simpa using M) hh;have e:((rZ.map (a8 ks)).drop l).take (h-l)=((rZ.drop l).take (h-l)).map (a8 ks):=by rw[SV,JT]
     rw[e]at this;refine⟨_,?_,ki.2 this⟩;simp[po,qE,Sem.bH b,B,Sem.run_sizeOf y,z]
    ·cases a
   ·cases a
  ·rename_i m
   split at a
   ·rename_i k
    cases a;obtain⟨cm,rfl,hm⟩:=X m rfl;have g:=Bo (P:=P) k.2.1 k.1 k.2.2 l1 F l2 hm cap E.w;refine⟨.slice aN 0 0,?_,by simp only[ab]; exact⟨aN,rfl⟩⟩;simp[po,qE,Sem.bH b,g,Sem.run_sizeOf y,z]
   ·cases a
 ·rename_i e sz W w id al oF n A
  obtain⟨b,Y,y,z,_⟩:=iR A;have U:=q;simp only[ab]at q;obtain⟨⟨aN,cap,rfl,I,_⟩,_,_⟩:=q;split at a
  ·split at a
   ·rename_i l h d
    split at a
    ·rename_i V
     subst V;cases a;rw[O rfl];obtain⟨B,J,M⟩:=uY (P:=P) (E:=E) (cap:=cap) true d I l1 F l2 N E.w;refine⟨_,?_,TF U J M⟩;simp[po,qE,Sem.bH b,B,Sem.run_sizeOf y,z]
    ·cases a
   ·cases a
  ·rename_i m
   split at a
   ·rename_i k
    cases a;obtain⟨cm,rfl,hm⟩:=X m rfl;have g:=Bo (P:=P) k.2.1 k.1 k.2.2 l1 F l2 hm cap E.w;refine⟨.slice aN 0 0,?_,by simp only[ab]; exact⟨aN,rfl⟩⟩;simp[po,qE,Sem.bH b,g,Sem.run_sizeOf y,z]
   ·cases a
 ·rename_i e sz W A
  obtain⟨b,Y,y,z,_⟩:=iR A;simp only[ab]at q;obtain⟨aN,rfl⟩:=q;split at a
  ·split at a
   ·rename_i d
    cases a;obtain⟨⟨l,h⟩,d⟩:=AQ.1 d;rw[O rfl];obtain⟨B,J,M⟩:=uY (P:=P) (E:=E) (cap:=0) true d (aY _) l1 F l2 N E.w;have:h=0:=by omega
    subst this;have:l=0:=by omega
    subst this;refine⟨.slice aN 0 0,?_,by simp only[ab]; exact⟨aN,rfl⟩⟩;simp[po,qE,Sem.bH b,B,Sem.run_sizeOf y,z]
   ·cases a
  ·cases a
 ·rename_i e sz W A
  obtain⟨b,Y,y,z,_⟩:=iR A;simp only[ab]at q;subst q;split at a
  ·split at a
   ·rename_i d
    cases a;obtain⟨⟨l,h⟩,d⟩:=AQ.1 d;rw[O rfl];obtain⟨B,J,M⟩:=uY (P:=P) (E:=E) (cap:=0) true d (aY _) l1 F l2 N E.w;have:h=0:=by omega
    subst this;have:l=0:=by omega
    subst this;refine⟨.slice none 0 0,?_,by simp only[ab]⟩;simp[po,qE,Sem.bH b,B,Sem.run_sizeOf y,z]
   ·cases a
  ·rename_i m
   split at a
   ·rename_i k
    cases a;obtain⟨cm,rfl,hm⟩:=X m rfl;have g:=Bo (P:=P) k.2.1 k.1 k.2.2 l1 F l2 hm 0 E.w;refine⟨.slice none 0 0,?_,by simp only[ab]⟩;simp[po,qE,Sem.bH b,g,Sem.run_sizeOf y,z]
   ·cases a
 ·cases a
end Go.AL

namespace Go.AL
open Go
variable [Dr]
def kindOk:SK->ak->Bool
 |.int k,.int a _=>k=a
 |.str,.string _=>true
 |.bool,.bool _=>true
 |_,_=>false
def qT:ak->ak->Bool
 |.int _ a,.int _ b=>a==b
 |.string a,.string b=>a.toList==b.toList
 |.bool a,.bool b=>a==b
 |_,_=>false
def eJ:List ak->List ak->Bool
 | [],[]=>true
 |a::as,b::d=>qT a b&&eJ as d
 |_,_=>false
def dt:List SK->List ak->Bool
 | [],[]=>true
 |k::ks,v::a=>kindOk k v&&dt ks a
 |_,_=>false
def sM(P:ai)(f:aD->Option (List SK)):List Field->Nat->Option (List SK)
 | [],_=>some []
 | x::a,oF=>if x.name = "_" \/ x.offset≠oF then none else
  match f x.type,eI P x.type with
  |some ks,some (n,_)=>if n=ks.length then (match sM P f a (oF+n)with|some l=>some (ks++l)|none=>none) else none
  |_,_=>none
def uZ(e n m:Nat):List Field:=(List.range' 0 m).map fun i=>⟨"a", e,i*n,false, "", "", i⟩
def iS(P:ai):Nat->aD->Option (List SK)
 |0,_=>none
 | d+1,t=>match P.underlying t with
  |some (.int k)=>some [.int k]
  |some .string=>some [.str]
  |some .bool=>some [.bool]
  |some (.struct a)=>if P.stoodInHeld t then none else sM P (fun t=>iS P d t) a.toList 0
  | some (.array m e)=>match eI P e with
   |some (n,_)=>sM P (fun t=>iS P d t) (uZ e n m) 0
   |none=>none
  |_=>none
abbrev xC(P:ai)(d:Nat)(a:List Field)(oF:Nat):Option (List SK):=sM P (fun t=>iS P d t) a oF
def Kx:∀(a b c d:List ak),a.length=c.length->eJ (a++b) (c++d)=(eJ a c&&eJ b d)
 | [],b,[],d,_=>by simp[eJ]
 | x::a,b,y::c,d,h=>by
  simp only[kK,eJ,Kx a b c d (by simpa using h),ajM]
 | [],_,_::_,_,h=>by simp at h
 |_::_,_,[],_,h=>by simp at h
def u6:∀{ks:List SK} {a:List ak},dt ks a=true->ks.length=a.length
 | [],[],_=>rfl
 |_::ks,_::a,h=>by simp only[dt,aE]at h; simp[u6 h.2]
 | [],_::_,h=>by simp[dt]at h
 |_::_,[],h=>by simp[dt]at h
def Bp:∀{a b:List SK} {d:List ak},dt (a++b) d=true->dt a (d.take a.length)=true/\dt b (d.drop a.length)=true
 | [],b,d,h=>by simpa[dt]using h
 |k::a,b,[],h=>by simp[dt]at h
 | k::a,b,v::d,h=>by
  simp only[kK,dt,aE]at h;have:=Bp h.2;simp only[bW,ES,dt,aE,List.drop_succ_cons];exact⟨⟨h.1,this.1⟩,this.2⟩
def fa(P:ai)(t:aD)(x:ak)(b:List ak):Prop :=
 match P.underlying t with
 |some (.struct _)=>∃ a:Array ak,x=.agg a/\a.toList=b
 |some (.array _ _)=>∃ a:Array ak,x=.agg a/\a.toList=b
 |_=>b=[x]
def FJ{P:ai}{t:aD}{n:Nat}{agg:Bool}{ks:List SK}{d:Nat}(A:eI P t=some (n,agg))(g:iS P d t=some ks)(h:n=ks.length)
  (a:Array ak) (oF:Nat) (z:dt ks ((a.toList.drop oF).take n)=true) (w:a6) :
  ∃ x,(part t a oF).run P w=.ok x w/\fa P t x ((a.toList.drop oF).take n):=by
 obtain⟨i,B,v,b,y,F⟩:=kO A;cases d with
 |zero=>simp[iS]at g
 | succ d =>
  unfold iS at g;rw[b]at g;have q:=u6 z;cases B with
  | struct I =>
   refine⟨.agg (a.extract oF (oF+n)),?_,?_⟩
   ·simp[part,Sem.pH b,qR,Sem.run_sizeOf v,y]
   ·simp only [fa, b]
    refine⟨_,rfl,?_⟩;simp
  | array m e =>
   refine⟨.agg (a.extract oF (oF+n)),?_,?_⟩
   ·simp[part,Sem.pH b,qR,Sem.run_sizeOf v,y]
   ·simp only [fa, b]
    refine⟨_,rfl,?_⟩;simp
  | int k =>
   simp at g;subst g;simp at h;subst h;have:oF<a.size:=by simp at q; omega
   refine⟨a[oF],?_,?_⟩
   ·simp[part,Sem.pH b,qR,this]
   ·simp[fa,b,SW,this]
  | string =>
   simp at g;subst g;simp at h;subst h;have:oF<a.size:=by simp at q; omega
   refine⟨a[oF],?_,?_⟩
   ·simp[part,Sem.pH b,qR,this]
   ·simp[fa,b,SW,this]
  | bool =>
   simp at g;subst g;simp at h;subst h;have:oF<a.size:=by simp at q; omega
   refine⟨a[oF],?_,?_⟩
   ·simp[part,Sem.pH b,qR,this]
   ·simp[fa,b,SW,this]
  |_=>simp at g
def TH{P:ai}{t:aD}{a:Array Field}(h:P.underlying t=some (.struct a)):P.underlying t=some (.struct (P.fieldsOf t)):=by
 simp[ajN,h]
def TI{P:ai}(w:a6)(d:Nat)(t:aD)(m e:Nat)(i:TypeInfo)(g h:Array ak)(q:P.underlying t=some (.array m e))(v:P.info? e=some i) :
  (jO (d+1) t (.agg g) (.agg h)).run P w=(AR d g h (uZ e i.size m)).run P w:=by
 simp only[jO,cg,Sem.bH q,bY,Sem.run_sizeOf v,ajO,ajP,ff,Nat.add_sub_cancel,Nat.div_one];unfold uZ;generalize 0=k;clear q
 induction m generalizing w k with
 |zero=>simp[AR]
 | succ m y =>
  simp only[List.range'_succ,List.forIn_cons,eM,AR,cg];rw[iP (by decide)];simp only[cg];generalize (part e g (k*i.size)).run P w=r1;cases r1 with
  | ok a z =>
   simp only[bY];generalize (part e h (k*i.size)).run P z=r2;cases r2 with
   | ok b A =>
    simp only[bY];generalize (jO d e a b).run P A=r3;cases r3 with
    | ok r B =>
     cases r
     ·simp only[bY,Bool.not_false,if_true,e_]
     ·simp only [bY, Bool.not_true, me, if_false, e_]
      exact y B _
    |_=>rfl
   |_=>rfl
  |_=>rfl
mutual
def FL{P:ai}:∀(d:Nat) (t:aD) (ks:List SK),iS P d t=some ks->∀(D:Nat),d<=D->∀(x y:ak) (F I:List ak),
  fa P t x F->fa P t y I->dt ks F=true->dt ks I=true->∀ w,(jO D t x y).run P w=.ok (eJ F I) w
 |0,_,_,h=>by simp[iS]at h
 | d+1,t,ks,h=>by
  intro D hD x y F I A B v z w;obtain⟨D,rfl⟩:∃ M,D=M+1:=⟨D-1,by omega⟩
  unfold iS at h;cases q:P.underlying t with
  |none=>rw[q]at h; cases h
  | some N =>
   rw[q]at h;cases N with
   | struct J =>
    simp only[]at h;split at h
    ·cases h
    rename_i O;simp only[fa,q]at A B;obtain⟨a,rfl,rfl⟩:=A;obtain⟨b,rfl,rfl⟩:=B;have U:P.fieldsOf t=J:=by simp[ajN,q]
    rw[run_equalIn_struct w D t a b (TH q) (by simpa using O),U];have:=FM d J.toList 0 ks h D (by omega) a b (by simpa using v) (by simpa using z) w;simpa using this
   | array m e =>
    simp only[]at h;split at h
    case h_2=>cases h
    rename_i n g V;simp only[fa,q]at A B;obtain⟨a,rfl,rfl⟩:=A;obtain⟨b,rfl,rfl⟩:=B;obtain⟨i,X,W,Y,rfl,h4⟩:=kO V;rw[TI w D t m e i a b q W];have:=FM d (uZ e i.size m) 0 ks h D (by omega) a b (by simpa using v) (by simpa using z) w;simpa using this
   | int k =>
    simp at h;subst h;simp only[fa,q]at A B;subst A; subst B;simp only[dt,gu]at v z;unfold kindOk at v z;split at v<;>split at z<;>simp_all[jO,eJ,qT,Sem.bH q]
   | string =>
    simp at h;subst h;simp only[fa,q]at A B;subst A; subst B;simp only[dt,gu]at v z;unfold kindOk at v z;split at v<;>split at z<;>simp_all[jO,eJ,qT,Sem.bH q,beq_toListBytes]
   | bool =>
    simp at h;subst h;simp only[fa,q]at A B;subst A; subst B;simp only[dt,gu]at v z;unfold kindOk at v z;split at v<;>split at z<;>simp_all[jO,eJ,qT,Sem.bH q]
   |_=>simp at h
def FM{P:ai}:∀(d:Nat) (t:List Field) (oF:Nat) (ks:List SK),xC P d t oF=some ks->∀(D:Nat),d<=D->∀(b g:Array ak),
  dt ks (b.toList.drop oF)=true->dt ks (g.toList.drop oF)=true->∀ w,(AR D b g t).run P w=.ok (eJ (b.toList.drop oF) (g.toList.drop oF)) w
 | d,[],oF,ks,a=>by
  intro D hD b g B F w;simp[xC,sM]at a;subst a;have V:=u6 B;have W:=u6 F;have h:b.toList.drop oF=[]:=ot (by rw[<-V]; rfl);have v:g.toList.drop oF=[]:=ot (by rw[<-W]; rfl);rw[h,v];simp[AR,eJ]
 | d,f::t,oF,ks,a=>by
  intro D hD b g B F w;unfold xC sM at a;split at a
  ·cases a
  rename_i J;split at a
  case h_2=>cases a
  rename_i X n ag h v;split at a
  case isFalse=>cases a
  rename_i I;split at a
  case h_2=>cases a
  rename_i l Y;cases a;have N:f.name ≠ "_" := fun e=>J (.inl e);have U:f.offset=oF:=by
   by_cases e:f.offset=oF
   ·exact e
   ·exact(J (.inr e)).elim
  obtain⟨k,z⟩:=Bp B;obtain⟨q,A⟩:=Bp F;rw[<-I]at k z q A;obtain⟨x,px,vx⟩:=FJ v h I b oF k w;obtain⟨y,py,vy⟩:=FJ v h I g oF q w;have he:=FL d f.type X h D hD x y _ _ vx vy k q w;have O:=FM d t (oF+n) l Y D hD b g (by rw[pq]at z; exact z) (by rw[pq]at A; exact A) w;have M:eJ (b.toList.drop oF) (g.toList.drop oF) =
    (eJ ((b.toList.drop oF).take n) ((g.toList.drop oF).take n)&&eJ (b.toList.drop (oF+n)) (g.toList.drop (oF+n))):=by
   rw[<-Kx _ _ _ _ (by rw[<-u6 k,<-u6 q]),<-pq,<-pq,ng,ng]
  simp only[AR,N,ne_eq,not_false_eq_true,if_true,cg,U,px,py,bY,he,M];cases eJ ((b.toList.drop oF).take n) ((g.toList.drop oF).take n)<;>simp[O]
end
def pI:List AV->Option (List ak)
 | []=>some []
 | .lit v::as=>match pI as with
  |some l=>some (v::l)
  |none=>none
 |_=>none
def Bq{E:ae}:∀{as:List AV} {l d:List ak},pI as=some l->ar E as d->d=l
 | [],l,[],h,_=>by simp[pI]at h; exact h.symm
 | [],_,_::_,_,b=>by simp[ar]at b
 |_::_,_,[],_,b=>by simp[ar]at b
 | a::as,l,v::d,h,b=>by
  simp only[ar]at b;cases a<;>simp only[pI]at h<;>try cases h
  split at h
  ·rename_i u l' k
   cases h;have:=Bq k b.2;have g:=b.1;simp only[ab]at g;rw[g,this]
  ·cases h
def oB:Option TypeDesc->Bool
 |some (.struct _)=>true
 |some (.array _ _)=>true
 |_=>false
def lJ(op:BinOp)(b:Bool):Option AV :=
 match op with
 |.eql=>some (.bool b)
 |.neq=>some (.bool !b)
 |_=>none
def pJ:Nat:=6
def FN(P:ai)(op:BinOp)(t:aD)(d:Bool)(a b:ak):Option AV :=
 match a,b with
 | .bool a,.bool b=>match P.underlying t with
  |some .bool=>lJ op (a==b)
  |_=>none
 | .slice none 0 0,.slice none 0 0=>match P.underlying t with
  |some (.slice _)=>lJ op true
  |_=>none
 |.nilIface,.nilIface=>if d then (match P.underlying t with|some (.interface _)=>lJ op true|_=>none) else none
 |_,_=>none
def iF(P:ai)(op:BinOp)(t:aD)(d:Bool)(x y:AV):Option AV :=
 match x,y with
 | .lit a,.lit b=>match jC op a b with
  |some v=>some (.lit v)
  |none=>FN P op t d a b
 | .agg as,.agg g=>match iS P pJ t,pI as,pI g with
  |some ks,some l,some m=>if P.eqGuardType P.depth t=false/\dt ks l=true/\dt ks m=true/\oB (P.underlying t)=true then lJ op (eJ l m) else none
  |_,_,_=>none
 | .emptyS n,.lit (.slice none 0 0)=>match P.underlying t with
  |some (.slice _)=>lJ op n
  |_=>none
 | .listF _ rZ,.lit (.slice none 0 0)=>match P.underlying t with
  |some (.slice _)=>if 0<rZ.length then lJ op false else none
  |_=>none
 | .vQ _ _ _ _ m,.lit (.slice none 0 0)=>match P.underlying t with
  |some (.slice _)=>if 0<m then lJ op false else none
  |_=>none
 | .ifc,.lit .nilIface | .lit .nilIface,.ifc=>match P.underlying t with
  |some (.interface _)=>lJ op false
  |_=>none
 | .sub _ _ j,.lit (.map none)=>match P.underlying t with
  |some (.map _ _)=>lJ op j.isNone
  |_=>none
 |_,_=>none
def Ky{P:ai}{t:Nat}{k:IntKind}(h:cI P t=.int k):P.underlying t=some (.int k):=by
 unfold cI at h;split at h
 ·split at h<;>cases h
 ·split at h<;>cases h
 ·cases h
 ·rename_i a; cases h; exact a
 ·cases h
 ·cases h
def nC{P:ai}{op:BinOp}{b:Bool}{v:AV}{t:aD}{x y:bX}{c d:ak}{w:a6}(h:lJ op b=some v)
  (a:(eqGuard op t x y c d).run P w=.ok () w) (he:(AT t c d).run P w=.ok b w)
  (g:∀ op,op=.eql\/op=.neq->(binOp op t c d)=(match op with | .eql=>(do pure (.bool (<- AT t c d)))|_=>(do pure (.bool (!(<- AT t c d)))))) :
  ∃ u,(do eqGuard op t x y c d; binOp op t c d:Sem ak).run P w=.ok u w/\∀ E,ab E v u:=by
 unfold lJ at h;split at h
 ·cases h
  refine⟨.bool b,?_,fun E=>by simp[ab]⟩;simp only[cg,a,bY,g .eql (.inl rfl)];simp[he]
 ·cases h
  refine⟨.bool !b,?_,fun E=>by simp[ab]⟩;simp only[cg,a,bY,g .neq (.inr rfl)];simp[he]
 ·cases h
end Go.AL

namespace Go.AL
open Go
variable [Dr]
def oC{P:ai}{t:aD}{c d:ak}{b:Bool}{w:a6} (h:∀ n,(jO (n+1) t c d).run P w=.ok b w) :
  (AT t c d).run P w=.ok b w:=h 9999
def TJ{P:ai}{op:BinOp}{t:aD}{x y:bX} (h:((x matches .const _)||(y matches .const _))=true) (w:a6) :
  (eqGuard op t x y .nilIface .nilIface).run P w=.ok () w:=by
 cases x<;>cases y<;>first
  |(cases op<;>rfl)
  |(simp at h; done)
def TK{P:ai}{E:ae}{op:BinOp}{t:aD}{x y:bX}{p q:ak}{v:AV}{A:Bool}
  (B:A=true->((x matches .const _)||(y matches .const _))=true) (h:FN P op t A p q=some v) :
  ∃ u,(do eqGuard op t x y p q; binOp op t p q:Sem ak).run P E.w=.ok u E.w/\ab E v u:=by
 unfold FN at h;split at h
 ·rename_i a b
  split at h
  ·rename_i g
   obtain⟨u,k,z⟩:=nC (P:=P) (t:=t) (x:=x) (y:=y) (c:=.bool a) (d:=.bool b) (w:=E.w) h (by cases op<;>simp[eqGuard]<;>rfl)
    (oC fun n=>by simp[jO,Sem.bH g]) (by rintro op (rfl|rfl)<;>rfl)
   exact⟨u,k,z E⟩
  ·cases h
 ·split at h
  ·rename_i g
   obtain⟨u,k,z⟩:=nC (P:=P) (t:=t) (x:=x) (y:=y) (c:=.slice none 0 0) (d:=.slice none 0 0) (w:=E.w) h (by cases op<;>simp[eqGuard]<;>rfl)
    (oC fun n=>by simp[jO,Sem.bH g]) (by rintro op (rfl|rfl)<;>rfl)
   exact⟨u,k,z E⟩
  ·cases h
 ·split at h
  ·rename_i F
   split at h
   ·rename_i I g
    obtain⟨u,k,z⟩:=nC (P:=P) (t:=t) (x:=x) (y:=y) (c:=.nilIface) (d:=.nilIface) (w:=E.w) h
     (TJ (B F) _)
     (oC fun n=>by simp[jO,Sem.bH g]) (by rintro op (rfl|rfl)<;>rfl)
    exact⟨u,k,z E⟩
   ·cases h
  ·cases h
 ·cases h
def TL{P:ai}{E:ae}{op:BinOp}{t:aD}{x y:bX}{a b v:AV}{c d:ak}
  {kk:Bool} (hkk:kk=true->((x matches .const _)||(y matches .const _))=true) (h:iF P op t kk a b=some v) (g:ab E a c) (k:ab E b d) :
  ∃ u,(do eqGuard op t x y c d; binOp op t c d:Sem ak).run P E.w=.ok u E.w/\ab E v u:=by
 unfold iF at h;split at h
 ·rename_i p q
  simp only[ab]at g k;rw[g,k];clear g k c d;split at h
  ·rename_i u A
   cases h;refine⟨u,?_,by simp[ab]⟩;simp only[cg];rw[Tz op t x y p q (fun _ _=>trivial) (by simp[A])];simp only[bY];exact Ty op t p q u A E.w
  ·exact TK hkk h
 ·rename_i as bs
  split at h
  case h_2=>cases h
  rename_i ks l m B F h3;by_cases O:P.eqGuardType P.depth t=false/\dt ks l=true/\dt ks m=true/\oB (P.underlying t)=true
  case neg=>rw[iN O]at h; cases h
  rw[iP O]at h;obtain⟨g1,g2,g3,U⟩:=O;simp only[ab]at g k;obtain⟨J,rfl,_,g⟩:=g;obtain⟨M,rfl,_,k⟩:=k;have ex:=Bq F g;have ey:=Bq h3 k;have hi:∀ z:Array ak,fa P t (.agg z) z.toList:=fun z=>by
   unfold oB at U;split at U
   ·rename_i A; simp only[fa,A]; exact⟨z,rfl,rfl⟩
   ·rename_i A; simp only[fa,A]; exact⟨z,rfl,rfl⟩
   ·cases U
  have:=FL pJ t ks B 10000 (by decide) (.agg J) (.agg M) l m (ex▸hi J) (ey▸hi M) g2 g3 E.w;obtain⟨u,q1,q2⟩:=nC (P:=P) (t:=t) (x:=x) (y:=y) (c:=.agg J) (d:=.agg M) (w:=E.w) h (run_eqGuard_agg E.w op t x y J M g1)
   (by simpa[AT,Op.maxDepth]using this) (by rintro op (rfl|rfl)<;>rfl)
  exact⟨u,q1,q2 E⟩
 ·simp only [ab] at g k
  subst k;obtain⟨b,cap,rfl,I⟩:=g;split at h
  ·rename_i V A
   obtain⟨u,B,F⟩:=nC (P:=P) (t:=t) (x:=x) (y:=y) (c:=.slice b 0 cap) (d:=.slice none 0 0) (w:=E.w) h (by cases op<;>simp[eqGuard]<;>rfl)
    (oC fun n=>by cases b<;>simp[jO,Sem.bH A]<;>simpa using I.symm) (by rintro op (rfl|rfl)<;>rfl)
   exact⟨u,B,F E⟩
  ·cases h
 ·rename_i ks rZ
  simp only[ab,eX,G.rZ]at g k;subst k;obtain⟨b,cap,rfl,_,I⟩:=g;split at h
  ·rename_i V A
   split at h
   ·rename_i N
    rcases I with rfl|⟨W,o',rfl,_⟩
    ·simp at N
    obtain⟨u,B,F⟩:=nC (P:=P) (t:=t) (x:=x) (y:=y) (c:=.slice (some ⟨W,o',none⟩) rZ.length cap) (d:=.slice none 0 0) (w:=E.w) h (by cases op<;>simp[eqGuard]<;>rfl)
     (oC fun n=>by simp[jO,Sem.bH A]) (by rintro op (rfl|rfl)<;>rfl)
    exact⟨u,B,F E⟩
   ·cases h
  ·cases h
 ·rename_i m
  simp only[ab]at g k;subst k;obtain⟨⟨b,cap,rfl,_,I⟩,_⟩:=g;split at h
  ·rename_i V A
   split at h
   ·rename_i N
    obtain⟨W,o',rfl⟩:=I N;obtain⟨u,B,F⟩:=nC (P:=P) (t:=t) (x:=x) (y:=y) (c:=.slice (some ⟨W,o',none⟩) m cap) (d:=.slice none 0 0) (w:=E.w) h (by cases op<;>simp[eqGuard]<;>rfl)
     (oC fun n=>by simp[jO,Sem.bH A]) (by rintro op (rfl|rfl)<;>rfl)
    exact⟨u,B,F E⟩
   ·cases h
  ·cases h
 ·simp only [ab] at g k
  subst k;obtain⟨X,Y,rfl⟩:=g;split at h
  ·rename_i ms A
   obtain⟨u,B,F⟩:=nC (P:=P) (t:=t) (x:=x) (y:=y) (c:=.iface X Y) (d:=.nilIface) (w:=E.w) h (by cases op<;>simp[eqGuard]<;>rfl)
    (oC fun n=>by simp[jO,Sem.bH A]) (by rintro op (rfl|rfl)<;>rfl)
   exact⟨u,B,F E⟩
  ·cases h
 ·simp only [ab] at g k
  subst g;obtain⟨X,Y,rfl⟩:=k;split at h
  ·rename_i ms A
   obtain⟨u,B,F⟩:=nC (P:=P) (t:=t) (x:=x) (y:=y) (c:=.nilIface) (d:=.iface X Y) (w:=E.w) h (by cases op<;>simp[eqGuard]<;>rfl)
    (oC fun n=>by simp[jO,Sem.bH A]) (by rintro op (rfl|rfl)<;>rfl)
   exact⟨u,B,F E⟩
  ·cases h
 ·rename_i id l jj
  simp only[ab]at g k;subst k;split at h
  ·rename_i kt V A
   rcases g with⟨rfl,rfl⟩|⟨i,rfl,⟨b,rfl⟩,_⟩
   ·obtain ⟨u,B,F⟩:=nC (P:=P) (t:=t) (x:=x) (y:=y) (c:=.map none) (d:=.map none) (w:=E.w) h (by cases op<;>simp [eqGuard]<;>rfl)
     (oC fun n=>by simp[jO,Sem.bH A]) (by rintro op (rfl|rfl)<;>rfl)
    exact⟨u,B,F E⟩
   ·obtain ⟨u,B,F⟩:=nC (P:=P) (t:=t) (x:=x) (y:=y) (c:=.map (some b)) (d:=.map none) (w:=E.w) h (by cases op<;>simp [eqGuard]<;>rfl)
     (oC fun n=>by simp[jO,Sem.bH A]) (by rintro op (rfl|rfl)<;>rfl)
    exact⟨u,B,F E⟩
  ·cases h
 ·cases h
def u7(op:UnOp)(x:AV):Option AV :=
 match op,x with
 |.not,.lit (.bool b)=>some (.bool !b)
 |.neg,.lit (.int k n)=>some (.lit (.int k (k.wrap (0-n))))
 |_,_=>none
def TM{P:ai}{E:ae}{op:UnOp}{x v:AV}{c:ak}(h:u7 op x=some v)(a:ab E x c) :
  ∃ u,(Op.unary op c).run P E.w=.ok u E.w/\ab E v u:=by
 unfold u7 at h;split at h
 ·cases h
  simp only[ab]at a;subst a;exact⟨_,rfl,by simp[ab]⟩
 ·cases h
  simp only[ab]at a;subst a;exact⟨_,rfl,by simp[ab]⟩
 ·cases h
def u_(P:ai)(s d:aD)(x:AV):Option AV :=
 match P.underlying s,cI P d,x with
 |some _,.int k,.lit (.int _ n)=>some (.lit (.int k (k.wrap n)))
 |some _,.str,.lit (.string b)=>some (.str b)
 |some _,.str,.lit (.int _ n)=>some (.str (Utf8.encode n))
 |_,_,_=>none
def TN{P:ai}{E:ae}{s d:aD}{x v:AV}{c:ak}(h:u_ P s d x=some v)(a:ab E x c) :
  ∃ u,(convert s d c).run P E.w=.ok u E.w/\ab E v u:=by
 unfold u_ at h;split at h
 ·rename_i k n g q
  cases h;simp only[ab]at a;subst a;refine⟨_,?_,by simp only[ab]; rfl⟩;simp[convert,Sem.bH g,Sem.bH (Ky q),Conv.intToInt]
 ·rename_i b g q
  cases h;simp only[ab]at a;subst a;refine⟨_,?_,by simp only[ab]; rfl⟩;simp only[convert,cg,Sem.bH g,Sem.bH (sL q),bY];rfl
 ·rename_i k n g q
  cases h;simp only[ab]at a;subst a;refine⟨_,?_,by simp only[ab]; rfl⟩;simp only[convert,cg,Sem.bH g,Sem.bH (sL q),bY];rfl
 ·cases h
def qU(k:SK)(x i:AV):Option AV :=
 match i with
 | .lit (.int _ n) =>
  match k,x with
  |.str,.lit (.string s)=>if 0<=n/\n<s.size then (match s[n.toNat]? with|some b=>some (.lit (.int .u8 b.toNat))|none=>none) else none
  |.array m _ sz agg,.agg cells=>if 0<=n/\n<m then iQ agg sz (cells.drop (n.toNat*sz)) else none
  |_,_=>none
 |_=>none
def FO{E:ae}:∀{as:List AV} {b:List ak} (n:Nat),ar E as b->ar E (as.drop n) (b.drop n)
 |_,_,0,h=>by simpa using h
 | [],[],n+1,_=>by simp[ar]
 | [],_::_,_,h=>by simp[ar]at h
 |_::_,[],_,h=>by simp[ar]at h
 |a::as,v::b,n+1,h=>by simp only[ar]at h; simpa using FO n h.2
def FP{E:ae}:∀{as:List AV} {b:List ak} (n:Nat),ar E as b->ar E (as.take n) (b.take n)
 |_,_,0,_=>by simp[ar]
 | [],[],n+1,_=>by simp[ar]
 | [],_::_,_,h=>by simp[ar]at h
 |_::_,[],_,h=>by simp[ar]at h
 |a::as,v::b,n+1,h=>by simp only[ar]at h; simp only[ES,ar]; exact⟨h.1,FP n h.2⟩
def nD{E:ae}:∀{as b:List AV} {d g:List ak},ar E as d->ar E b g->ar E (as++b) (d++g)
 | [],_,[],_,_,h=>by simpa using h
 | [],_,_::_,_,h,_=>by simp[ar]at h
 |_::_,_,[],_,h,_=>by simp[ar]at h
 |a::as,b,v::d,g,h,h'=>by simp only[ar]at h; simp only[kK,ar]; exact⟨h.1,nD h.2 h'⟩
def pK{E:ae}{as:List AV}{b:List ak}(h:ar E as b){i:Nat}{a:AV}(hi:as[i]? = some a):∃ v,b[i]? = some v/\ab E a v:=by
 obtain⟨k,q⟩:=sI.1 h;have g:=aX hi;have d:i<b.length:=k▸g;exact⟨b[i],cn d,q i a _ hi (cn d)⟩
def Kz{P:ai}{E:ae}{t:aD}{n:Nat}{agg:Bool}{cells:List AV}{a:Array ak}{oF:Nat}{v:AV}(y:eI P t=some (n,agg))
  (h:iQ agg n (cells.drop oF)=some v) (b:ar E cells a.toList) (z:∀ x∈a.toList,dU x=true) :
  ∃ u,(part t a oF).run P E.w=.ok u E.w/\ab E v u:=by
 obtain⟨i,d,hi,g,A,k⟩:=kO y;unfold iQ at h;cases agg with
 | true =>
  simp only[if_true]at h;split at h
  ·cases h
   refine⟨.agg (a.extract oF (oF+n)),?_,?_⟩
   ·simp[part,Sem.pH g,k,Sem.run_sizeOf hi,A]
   ·simp only [ab]
    have e:(a.extract oF (oF+n)).toList=(a.toList.drop oF).take n:=by simp
    refine⟨_,rfl,?_,?_⟩
    ·rw[e]; exact fun x B=>z x (uB (oq B))
    ·rw[e]; exact FP n (FO oF b)
  ·cases h
 | false =>
  simp only[me,if_false]at h;rw[sA]at h;obtain⟨u,F,I⟩:=pK b h;refine⟨u,?_,I⟩;have q:a[oF]? = some u:=by simpa using F
  simp[part,Sem.pH g,k,q]
def TO{P:ai}{E:ae}{t:aD}{x i v:AV}{c d:ak}(h:qU (cI P t) x i=some v)(a:ab E x c)(hi:ab E i d) :
  ∃ u,(SY t c d).run P E.w=.ok u E.w/\ab E v u:=by
 unfold qU at h;split at h
 case h_2=>cases h
 rename_i k n;simp only[ab]at hi;subst hi;split at h
 ·rename_i s q
  have y:=sL q;simp only[ab]at a;subst a;split at h
  case isFalse=>cases h
  rename_i g;split at h
  case h_2=>cases h
  rename_i b A;cases h;refine⟨.int .u8 b.toNat,?_,by simp[ab]⟩;simp[SY,asIntOf,Sem.bH y,g.1,A]
 ·rename_i m e sz agg cells q
  obtain⟨y,z⟩:=Bm q;obtain⟨O,U,B,V,F,W⟩:=kO z;split at h
  case isFalse=>cases h
  rename_i g;simp only[ab]at a;obtain⟨X,rfl,I,J⟩:=a;obtain⟨u,M,N⟩:=Kz z h J I;refine⟨u,?_,N⟩;simp[SY,asIntOf,Sem.bH y,g.1,g.2,Sem.run_sizeOf B,F,M]
 ·cases h
def FQ(k:FK)(x:AV):Option AV :=
 match x with
 |.agg cells=>iQ k.agg k.size (cells.drop k.oF)
 |_=>none
def TP{P:ai}{E:ae}{t:aD}{f:Nat}{k:FK}{x v:AV}{c:ak}(b:uS P t f=some k)(h:FQ k x=some v)(a:ab E x c) :
  ∃ u,(ajQ t c f).run P E.w=.ok u E.w/\ab E v u:=by
 obtain⟨I,J,d,g,q,y⟩:=Ks b;unfold FQ at h;split at h
 ·simp only [ab] at a
  obtain⟨M,rfl,z,A⟩:=a;obtain⟨u,B,F⟩:=Kz y h A z;refine⟨u,?_,F⟩;simp[ajQ,Sem.bH d,g,asAgg,q,B]
 ·cases h
end Go.AL

namespace Go.AL
open Go
variable [Dr]
def nE:AV->Option (List AV)
 |.undef | .tuple _=>none
 |.agg a=>some a
 |.lit v=>if dU v then some [.lit v] else none
 |x=>some [x]
def Br{E:ae}{x:AV}{k:List AV}{c:ak}(h:nE x=some k)(d:ab E x c) :
  ar E k c.cells.toList/\∀ y∈c.cells.toList,dU y=true:=by
 unfold nE at h;split at h
 ·cases h
 ·cases h
 ·cases h
  simp only[ab]at d;obtain⟨a,rfl,g,q⟩:=d;exact⟨q,g⟩
 ·rename_i v
  split at h
  ·rename_i g
   cases h;have B:=d;simp only[ab]at d;subst d;cases c<;>simp[dU]at g<;>exact⟨by simp[JU,ar,ab],by simp[JU,dU]⟩
  ·cases h
 ·rename_i g q z A
  cases h;have w:dU c=true/\c.cells=#[c]:=by
   cases x<;>simp only[ab]at d
   case sub=>rcases d with⟨_,rfl⟩|⟨_,_,⟨b,rfl⟩,_⟩<;>exact⟨rfl,rfl⟩
   case undef=>exact(g rfl).elim
   case lit v=>exact(A v rfl).elim
   case nils=>obtain⟨b,rfl⟩:=d; exact⟨rfl,rfl⟩
   case list=>obtain⟨_,b,cap,rfl,_⟩:=d; exact⟨rfl,rfl⟩
   case listF=>simp only[eX]at d; obtain⟨b,cap,rfl,_⟩:=d; exact⟨rfl,rfl⟩
   case agg as=>exact(z as rfl).elim
   case tuple as=>exact(q as rfl).elim
   case cptr=>obtain⟨_,b,o,rfl,_⟩:=d; exact⟨rfl,rfl⟩
   case ptr=>obtain⟨⟨b,o,rfl⟩,_⟩:=d; exact⟨rfl,rfl⟩
   case vQ=>obtain⟨⟨b,o,rfl,_⟩,_⟩:=d; exact⟨rfl,rfl⟩
   case map=>obtain⟨⟨b,rfl⟩,_⟩:=d; exact⟨rfl,rfl⟩
   case clo=>obtain⟨k,rfl,_⟩:=d; exact⟨rfl,rfl⟩
   case ifc=>obtain⟨t,v,rfl⟩:=d; exact⟨rfl,rfl⟩
   case emptyS=>obtain⟨b,cap,rfl,_⟩:=d; exact⟨rfl,rfl⟩
   case svec=>obtain⟨⟨b,o,rfl,_⟩,_⟩:=d; exact⟨rfl,rfl⟩
   case sptr=>obtain⟨⟨b,o,rfl⟩,_⟩:=d; exact⟨rfl,rfl⟩
  rw[w.2];exact⟨by simp only[ar]; exact⟨d,trivial⟩,by simpa using w.1⟩
def sN(b:Nat->Option (Nat × Nat))(cells:List AV):List (Nat × AV)->Option (List AV)
 | []=>some cells
 | (i,v)::rest=>match b i,nE v with
  |some (oF,size),some a=>if a.length=size/\oF+a.length<=cells.length then sN b (cells.take oF++a++cells.drop (oF+a.length)) rest else none
  |_,_=>none
def KA(t:Array ak):∀(l:List ak) (oF k:Nat) (cells:Array ak),oF+k+l.length<=cells.size ->
  (l.zipIdx k).foldl (fun t (p : ak × Nat) => t.setIfInBounds (oF + p.2) p.1) cells =
   (cells.toList.take (oF+k)++l++cells.toList.drop (oF+k+l.length)).toArray
 | [],oF,k,cells,_=>by simp
 | v::l,oF,k,cells,h=>by
  simp only[List.zipIdx_cons,List.foldl_cons];have h':oF+(k+1)+l.length<=(cells.setIfInBounds (oF+k) v).size:=by simp at h|-; omega
  rw[KA t l oF (k+1) _ h'];congr 1;apply ou;intro i;simp only[Array.toList_setIfInBounds,fy,iy,List.length_set,om,sA,eU,dG,bW,lx];simp at h;by_cases z:i<oF+k
  ·have a : i < min (oF + k) cells.size := by omega
   have b:i<min (oF+(k+1)) cells.size:=by omega
   have w:¬ oF+k=i:=by omega
   have g:i<oF+(k+1):=by omega
   have d:i<min (oF+k) cells.size+(l.length+1):=by omega
   have q:i<min (oF+(k+1)) cells.size+l.length:=by omega
   simp[a,b,w,g,d,q,z]
  ·by_cases A : i = oF + k
   ·subst A
    have a:¬ oF+k<min (oF+k) cells.size:=by omega
    have b:oF+k<min (oF+(k+1)) cells.size:=by omega
    have g:oF+k<oF+(k+1):=by omega
    have d:oF+k<min (oF+k) cells.size+(l.length+1):=by omega
    have q:oF+k<min (oF+(k+1)) cells.size+l.length:=by omega
    have y:oF+k-min (oF+k) cells.size=0:=by omega
    have B:oF+k<cells.size:=by omega
    simp[a,b,g,d,q,y,B]
   ·by_cases c3 : i < oF + k + 1 + l.length
    ·have a : ¬ i < min (oF + k) cells.size := by omega
     have b:¬ i<min (oF+(k+1)) cells.size:=by omega
     have d:i<min (oF+k) cells.size+(l.length+1):=by omega
     have q:i<min (oF+(k+1)) cells.size+l.length:=by omega
     have y:i-min (oF+k) cells.size=(i-min (oF+(k+1)) cells.size)+1:=by omega
     simp[a,b,d,q,y]
    ·have a : ¬ i < min (oF + k) cells.size + (l.length + 1) := by omega
     have b:¬ i<min (oF+(k+1)) cells.size+l.length:=by omega
     have w:oF+k+(l.length+1)+(i-(min (oF+k) cells.size+(l.length+1)))=i:=by omega
     have g:oF+(k+1)+l.length+(i-(min (oF+(k+1)) cells.size+l.length))=i:=by omega
     have d:¬ oF+k=i:=by omega
     simp[a,b,w,g,d]
def xD{E:ae}{t:Nat->Option (Nat × Nat)}:∀{parts:List (Nat × AV)} {g:List (Nat × ak)} {cells:List AV} {cs:Array ak} {out:List AV},
  sN t cells parts=some out->ar E cells cs.toList->(∀ x∈cs.toList,dU x=true) ->
  parts.map (·.1)=g.map (·.1)->ar E (parts.map (·.2)) (g.map (·.2)) ->
  ∃ o,ajR t cs g=some o/\ar E out o.toList/\∀ x∈o.toList,dU x=true
 | [],[],cells,cs,out,h,b,d,_,_=>by
  simp only[sN,a_]at h;subst h;exact⟨cs,rfl,b,d⟩
 | [],_::_,_,_,_,_,_,_,hm,_=>by simp at hm
 |_::_,[],_,_,_,_,_,_,hm,_=>by simp at hm
 | (i,v)::ps,(j,c)::N,cells,cs,out,h,b,d,hm,k=>by
  simp only[eM,SZ]at hm;obtain⟨rfl,hm⟩:=hm;simp only[eM,ar]at k;simp only[sN]at h;split at h
  case h_2=>cases h
  rename_i oF size q B F;split at h
  case isFalse=>cases h
  rename_i J;obtain⟨y,I⟩:=Br F k.1;have z:=iC y;have A:=iC b;have O:q.length=c.cells.size:=by simpa using z
  have M:cells.length=cs.size:=by simpa using A
  have w:(c.cells.zipIdx.foldl (fun cs (x:ak × Nat)=>cs.setIfInBounds (oF+x.2) x.1) cs) =
    (cs.toList.take oF++c.cells.toList++cs.toList.drop (oF+c.cells.toList.length)).toArray:=by
   rw[<-Array.foldl_toList,Array.toList_zipIdx];have:=KA cs c.cells.toList oF 0 cs (by simp; omega);simpa using this
  simp only[ajR,B];rw[iN (by simp; omega)];refine xD (cells:=cells.take oF++q++cells.drop (oF+q.length)) h ?_ ?_ hm k.2
  ·rw [w]
   simp only[];refine nD (nD (FP oF b) y) ?_;rw[z];exact FO _ b
  ·rw [w]
   intro x a;simp only[cN]at a;rcases a with(a|a)|a
   ·exact d x (oq a)
   ·exact I x a
   ·exact d x (uB a)
def KB(P:ai)(t:aD):Option (List (Nat × Nat)) :=
 match P.underlying t with
 |some (.struct b)=>b.toList.mapM fun a=>(eI P a.type).map fun p=>(a.offset,p.1)
 |_=>none
def nF{P:ai}{t:aD}{z:List ak}(h:fl P t=some z) :
  ∃ i v,P.info? t=some i/\i.zero=some v/\v.cells.toList=z/\∀ x∈z,dU x=true:=by
 unfold fl at h;split at h
 ·rename_i i hi
  split at h
  ·rename_i v a
   split at h
   ·rename_i b
    cases h;exact⟨i,v,hi,a,rfl,cq.1 b⟩
   ·cases h
  ·cases h
 ·cases h
def nG{P:ai}{t:aD}{i:TypeInfo}{v:ak}(hi:P.info? t=some i)(a:i.zero=some v)(w:a6):(zeroValue t).run P w=.ok v w:=by
 simp[zeroValue,typeInfo,hi,a]
def KC{P:ai}{w:a6}:∀(b:List Field) (g:List (Nat × Nat)),(b.mapM fun k=>(eI P k.type).map fun p=>(k.offset,p.1))=some g ->
  (b.mapM fun(f:Field)=>(do pure (f.offset,<-sizeOf f.type):Sem (Nat × Nat))).run P w=.ok g w
 | [],g,h=>by simp at h; subst h; simp
 | f::b,g,h=>by
  simp only[S0,Option.bind_eq_bind,Option.pure_def,Option.bind_eq_some_iff,eG]at h;obtain⟨x,⟨⟨n,a⟩,q,rfl⟩,l,t,v⟩:=h;cases v;obtain⟨i,d,y,A,z,B⟩:=kO q;have:=KC (w:=w) b l t;simp only[S0,cg,Sem.run_sizeOf y,bY,e_,z];rw[this];rfl
def FR(P:ai)(t:aD)(parts:List (Nat × AV)):Option AV :=
 match fl P t with
 | some z=>match KB P t with
  |some a=>(sN (fun i=>a[i]?) (z.map .lit) parts).map .agg
  | none=>match cI P t with
   |.array _ _ sz _=>(sN (fun i=>some (i*sz,sz)) (z.map .lit) parts).map .agg
   |_=>none
 |none=>none
def TQ{P:ai}{E:ae}{t:aD}{parts:List (Nat × AV)}{cparts:List (Nat × ak)}{v:AV}(h:FR P t parts=some v)
  (hm:parts.map (·.1)=cparts.map (·.1)) (B:ar E (parts.map (·.2)) (cparts.map (·.2))) :
  ∃ u,(S1 t cparts.toArray).run P E.w=.ok u E.w/\ab E v u:=by
 unfold FR at h;split at h
 case h_2=>cases h
 rename_i z V;obtain⟨i,F,I,J,b,M⟩:=nF V;split at h
 ·rename_i d a
  unfold KB at a;split at a
  case h_2=>cases a
  rename_i N g;simp only[eG]at h;obtain⟨out,k,rfl⟩:=h;obtain⟨o,q,y,A⟩:=xD (cs:=F.cells) k (by rw[b]; exact oz z) (by rw[b]; exact M) hm B;refine⟨.agg o,?_,by simp only[ab]; exact⟨o,rfl,A,y⟩⟩;have O:(N.mapM fun(f:Field)=>(do pure (f.offset,<-sizeOf f.type):Sem (Nat × Nat))).run P E.w=.ok d.toArray E.w:=by
   have:=KC (w:=E.w) N.toList d a;rw[Array.mapM_eq_mapM_toList,Sem.run_map,this];rfl
  simp only[S1,cg,nG I J,bY,Sem.bH g];rw[O];simp only[bY];have e:(fun(x:Nat)=>(d.toArray)[x]?)=fun(i:Nat)=>d[i]? := by funext i; simp
  rw[e,q];rfl
 ·split at h
  case h_2=>cases h
  rename_i n e sz ag W;obtain⟨g,U⟩:=Bm W;obtain⟨ie,de,X,q2,Y,q4⟩:=kO U;simp only[eG]at h;obtain⟨out,k,rfl⟩:=h;obtain⟨o,q,y,A⟩:=xD (cs:=F.cells) k (by rw[b]; exact oz z) (by rw[b]; exact M) hm B;refine⟨.agg o,?_,by simp only[ab]; exact⟨o,rfl,A,y⟩⟩;simp only[S1,cg,nG I J,bY,Sem.bH g,Sem.run_sizeOf X,Y,q];rfl
def chunk(sz:Nat):Nat->List AV->List (List AV)
 |0,_=>[]
 |n+1,l=>l.take sz::chunk sz n (l.drop sz)
def xE(sz:Nat):∀(n:Nat) (l:List AV),(chunk sz n l).length=n
 |0,_=>rfl
 |n+1,l=>by simp[chunk,xE sz n]
def FT(sz:Nat):∀(n:Nat) (l:List AV),AV.cb l=true->fg (chunk sz n l)
 |0,_,_=>by intro r a; simp[chunk]at a
 | n+1,l,h=>by
  intro r a;simp only[chunk,cf]at a;rcases a with rfl|a
  ·exact xA _ _ h
  ·exact FT sz n _ (uV _ _ h) r a
def KD{E:ae}(sz:Nat):∀(n:Nat) (l:List AV) (b o:Nat),l.length=n*sz->cY E l b o->da E sz (chunk sz n l) b o
 |0,_,_,_,_,_=>by simp[chunk,da]
 | n+1,l,b,o,a,h=>by
  simp only[chunk,da];have:sz<=l.length:=by rw[a,fZ]; omega
  refine⟨by simp; omega,Bk h sz,KD sz n _ b (o+sz) (by simp[a,fZ]) (sK h sz)⟩
def Bs{E:ae}{as:List AV}{cs:Array ak}{b:Nat}{el:aD}{fr:Nat × Nat}(g:E.w.heap[b]? = some (.cells cs el fr))(h:ar E as cs.toList)
  (k:∀ x∈cs.toList,dU x=true):cY E as b 0:=by
 rw[kg];intro i a hi;obtain⟨v,d,q⟩:=pK h hi;refine⟨v,?_,k v (eC d),q⟩;simp only[eo,qD,g];simpa using d
end Go.AL

namespace Go.AL
open Go
variable [Dr]
def ve(v:ak):v.oneCell'=dU v:=by cases v<;>rfl
def setRow_size(w:a6)(g:Nat)(a:Array ak):(w.setRow g a).heap.size=w.heap.size:=by simp[ajS]
def setRow_other(w:a6)(g:Nat)(a:Array ak)(x:Nat)(h:x≠g):(w.setRow g a).heap[x]? = w.heap[x]? := by
 simp only[ajS];rw[Array.getElem?_modify];split
 ·rename_i e; exact(h e.symm).elim
 ·rfl
structure Src (P:ai) (E:ae) (sz:Nat) (rZ:List (List AV)) (xt:aD) (x:ak) (news:List ak):Prop where
 len:∀ w,(JV x).run P w=.ok rZ.length w
 cells:∀ w,(∀ b o,b<E.w.heap.size->w.cell? ⟨b,o,none⟩=E.w.cell? ⟨b,o,none⟩)->(jP sz rZ.length x).run P w=.ok news.toArray w
 ab:ar E rZ.flatten news
 one:∀ v∈news,dU v=true
 wide:∀ r∈rZ,r.length=sz
 closed:fg rZ
 kind:∃ d,P.underlying xt=some d/\∀ k,d≠.int k
def Src.length{P:ai}{E:ae}{sz:Nat}{rZ:List (List AV)}{xt:aD}{x:ak}{news:List ak}(h:Src P E sz rZ xt x news):news.length=rZ.length*sz:=by
 rw[<-iC h.ab];have:∀(l:List (List AV)),(∀ r∈l,r.length=sz)->l.flatten.length=l.length*sz:=by
  intro l b
  induction l with
  |nil=>simp
  |cons a l d=>simp[d (fun r g=>b r (by simp[g])),b a (by simp),fZ,xc]
 exact this rZ h.wide
def Bt{E:ae}{k:Nat}:∀{rZ:List (List AV)} {b o:Nat},da E k rZ b o->cY E rZ.flatten b o
 | [],_,_,_=>by simp[cY]
 | r::rZ,b,o,h=>by
  simp only[da]at h;obtain⟨A,d,g⟩:=h;have q:=Bt g;rw[kg]at *;intro i a hi;simp only[xh,fy]at hi;split at hi
  ·exact d i a hi
  ·rename_i z
   obtain⟨v,t,w,y⟩:=q (i-r.length) a hi;refine⟨v,?_,w,y⟩;rw[<-t];congr 2;omega
def Bu{E:ae}{k:Nat}:∀{rZ:List (List AV)} {b o:Nat},(∀ r∈rZ,r.length=k)->cY E rZ.flatten b o->da E k rZ b o
 | [],_,_,_,_=>by simp[da]
 | r::rZ,b,o,a,h=>by
  simp only[da];have d:=a r (by simp);refine⟨d,?_,?_⟩
  ·have := Bk h r.length
   simpa using this
  ·have := sK h r.length
   simp at this;rw[d]at this;exact Bu (fun x g=>a x (by simp[g])) this
def nH(sz:Nat)(x:AV)(H:List ah):Option (List (List AV)) :=
 match x with
 |.nils | .lit (.slice none 0 0)=>some []
 |.emptyS _=>some []
 |.list w rZ=>if w=sz then some rZ else none
 |.listF ks rZ=>if ks.length=sz then some (rZ.map (a8 ks)) else none
 | .vQ w id al oF n=>match H[id]? with
  |some (.vQ k v rZ)=>if w=sz/\k=w/\v=al/\oF+n<=rZ.length then some ((rZ.drop oF).take n) else none
  |_=>none
 |.lit (.string s)=>if sz=1 then some (s.data.toList.map fun b=>[.lit (.int .u8 b.toNat)]) else none
 |_=>none
def KE{α β:Type}(f:α->β):∀(l:List α),(l.map fun b=>[f b]).flatten=l.map f
 | []=>rfl
 |a::l=>by simp[KE f l]
def Bv{P:ai}{E:ae}{sz:Nat}{rZ:List (List AV)}{b o cap:Nat}(d:da E sz rZ b o)(q:b<E.w.heap.size) :
  ∃ news,ar E rZ.flatten news/\(∀ v∈news,dU v=true) /\
   ∀ w,(∀ b o,b<E.w.heap.size->w.cell? ⟨b,o,none⟩=E.w.cell? ⟨b,o,none⟩)->(jP sz rZ.length (.slice (some ⟨b,o,none⟩) rZ.length cap)).run P w=.ok news.toArray w:=by
 obtain⟨g,k,t,y⟩:=Bl (Bt d);refine⟨g,k,t,fun w z=>?_⟩;refine run_firstCells_some (P:=P) w sz rZ.length ⟨b,o,none⟩ rZ.length cap g ?_ ?_
 ·rw [<- iC k]
  have:∀(l:List (List AV)) (o:Nat),da E sz l b o->l.flatten.length=l.length*sz:=by
   intro l
   induction l with
   |nil=>intros; simp
   | cons a l A =>
    intro o h;simp only[da]at h;simp[A _ h.2.2,h.1,fZ,xc]
  exact this rZ o d
 ·intro j v B
  rw[lH,z b _ q];exact y j v B
def TR{P:ai}{E:ae}(HE:aG E){sz:Nat}{x:AV}{c:ak}{rZ:List (List AV)}{xt:aD}(h:nH sz x E.H=some rZ)(a:ab E x c)
  (g:∃ d,P.underlying xt=some d/\∀ k,d≠.int k):∃ news,Src P E sz rZ xt c news:=by
 unfold nH at h;split at h
 ·cases h
  simp only[ab]at a;obtain⟨aN,rfl⟩:=a;refine⟨[],⟨fun w=>rfl,fun w _=>?_,by simp[ar],by simp,by simp,(by intro r a; cases a),g⟩⟩;cases aN<;>simp[jP,loadCells,loadCellsFrom]
 ·cases h
  simp only[ab]at a;subst a;exact⟨[],⟨fun w=>rfl,fun w _=>by simp[jP],by simp[ar],by simp,by simp,(by intro r a; cases a),g⟩⟩
 ·cases h
  simp only[ab]at a;obtain⟨aN,cap,rfl,_⟩:=a;refine⟨[],⟨fun w=>rfl,fun w _=>?_,by simp[ar],by simp,by simp,(by intro r a; cases a),g⟩⟩;cases aN<;>simp[jP,loadCells,loadCellsFrom]
 ·rename_i w O
  split at h
  case isFalse=>cases h
  rename_i M;subst M;cases h;simp only[ab]at a;obtain⟨F,aN,cap,rfl,U,N⟩:=a;rcases N with rfl|⟨b,o,rfl,I,t⟩
  ·refine ⟨[], ⟨fun w => rfl, fun w _ => ?_, by simp [ar], by simp, by simp, (by intro r a; cases a), g⟩⟩
   cases aN<;>simp[jP,loadCells,loadCellsFrom]
  ·obtain ⟨news, y, z, q⟩ := Bv (P := P) (cap := cap) t I.1
   exact⟨news,⟨fun w=>rfl,q,y,z,fun r a=>by
    obtain⟨i,hi⟩:=JW a;exact(oA t hi).1,F,g⟩⟩
 ·rename_i ks rows0
  split at h
  case isFalse=>cases h
  rename_i M;subst M;cases h;have a:=ki.1 a;generalize rows0.map (a8 ks)=rZ at a;simp only[ab]at a;obtain⟨F,aN,cap,rfl,U,N⟩:=a;rcases N with rfl|⟨b,o,rfl,I,t⟩
  ·refine ⟨[], ⟨fun w => rfl, fun w _ => ?_, by simp [ar], by simp, by simp, (by intro r a; cases a), g⟩⟩
   cases aN<;>simp[jP,loadCells,loadCellsFrom]
  ·obtain ⟨news, y, z, q⟩ := Bv (P := P) (cap := cap) t I.1
   exact⟨news,⟨fun w=>rfl,q,y,z,fun r a=>by
    obtain⟨i,hi⟩:=JW a;exact(oA t hi).1,F,g⟩⟩
 ·rename_i w id al oF n
  split at h
  case h_2=>cases h
  rename_i k v O V;split at h
  case isFalse=>cases h
  rename_i hc;obtain⟨rfl,rfl,rfl,U⟩:=hc;cases h;simp only[ab]at a;obtain⟨⟨aN,cap,rfl,hcap,_⟩,_,h6⟩:=a;obtain⟨q1,q2⟩:=h6 ⟨_,V,rfl⟩;have A:((O.drop oF).take n).length=n:=by simp; omega
  rcases HE.obj id _ V with⟨B,W⟩|⟨b,m,B,W,e3,e4,e5⟩
  ·obtain ⟨rfl, rfl, base', e⟩ := q1 B
   subst W;refine⟨[],⟨fun w=>by rw[A]; rfl,fun w _=>?_,by simp[ar],by simp,by simp,(by intro r a; simp at a),g⟩⟩;cases aN<;>simp[jP,loadCells,loadCellsFrom]
  ·obtain ⟨p1, o, p2, X⟩ := q2 b m B
   simp only[lv]at X;obtain⟨rfl,_,rfl⟩:=X;by_cases hm:oF<m
   ·rw [p2 hm]
    have J:=Kv e5 oF n;simp only[eo]at J;obtain⟨news,y,z,q⟩:=Bv (P:=P) (cap:=m-oF) J (HE.lt id b m B).1;rw[A]at q;refine⟨news,⟨fun w=>by rw[A]; rfl,by rw[A]; exact q,y,z,fun r a=>?_,fun r a=>e4 r (uB (oq a)),g⟩⟩;obtain⟨i,hi⟩:=JW a;exact(oA J hi).1
   ·have hz : n = 0 := by omega
    subst hz;refine⟨[],⟨fun w=>by rw[A]; rfl,fun w _=>?_,by simp[ar],by simp,by simp,(by intro r a; simp at a),g⟩⟩;simp[jP,loadCells,loadCellsFrom]
 ·rename_i s
  split at h
  case isFalse=>cases h
  rename_i hs;subst hs;cases h;simp only[ab]at a;subst a;refine⟨s.data.toList.map fun b=>.int .u8 b.toNat,⟨fun w=>by simp[JV],fun w _=>?_,?_,?_,?_,?_,g⟩⟩
  ·simp only [fJ, lx, jP]
   have:s.extract 0 s.data.size=s:=by
    have:=ByteArray.extract_zero_size (b:=s);exact this
   rw[this,<-JX];rfl
  ·rw [KE]
   have:=oz (E:=E) (s.data.toList.map fun b=>.int .u8 b.toNat);rw[List.map_map]at this;exact this
  ·intro v Y; simp at Y; obtain⟨b,_,rfl⟩:=Y; rfl
  ·intro r a; simp at a; obtain⟨b,_,rfl⟩:=a; rfl
  ·intro r a; simp at a; obtain⟨b,_,rfl⟩:=a; simp[AV.cb,AV.closed]
 ·cases h
def vf(P:ai)(t xt:aD)(s x:AV)(H:List ah):Option (AV × List ah) :=
 match cI P t with
 | .slice e sz b =>
  match fl P e,(match cI P xt with | .slice _ _ _ | .str=>true|_=>false),nH sz x H with
  | some z,true,some a =>
   if z.length=sz/\a.length<=1048576/\b<=1048576 then
    match s with
    |.nils | .lit (.slice none 0 0)=>some (.vQ sz H.length 0 0 a.length,H++[.vQ sz 0 a])
    | .vQ w id al oF n=>match H[id]? with
     | some (.vQ k v rZ) =>
      if k=w/\w=sz/\v=al/\oF=0/\n=rZ.length/\rZ.length+a.length<=1048576 then
       some (.vQ w id (al+1) 0 (n+a.length),H.set id (.vQ k (al+1) (rZ++a)))
      else none
     |_=>none
    |_=>none
   else none
  |_,_,_=>none
 |_=>none
def FU{P:ai}{w w':a6}{t xt ty e:aD}{i:TypeInfo}{sz:Nat}{aN:Option Addr}{n cap m:Nat}{x:ak}{d:TypeDesc}
  (h:P.underlying t=some (.slice e)) (q:P.underlying xt=some d) (_hd:∀ k,d≠.int k) (hi:P.info? e=some i) (v:i.size=sz)
  (y:(JV x).run P w=.ok m w) (g:n+m<=cap) {news:List ak} (z:(jP sz m x).run P w=.ok news.toArray w)
  (b:(match aN with|some a=>storeCells (a.add (n*sz)) news|none=>(pure ():Sem Unit)).run P w=.ok () w') :
  (nk #[t,xt] ty #[.slice aN n cap,x]).run P w=.ok (.slice aN (n+m) cap) w':=by
 cases aN with
 | none =>
  simp at b;subst b;simp[nk,run_underlying h,run_underlying q,sizeOf,typeInfo,hi,v,y,g,z]
 | some a =>
  simp only[]at b;simp[nk,run_underlying h,run_underlying q,sizeOf,typeInfo,hi,v,y,g,z,b]
def KF{P:ai}{w:a6}{t xt ty e:aD}{i:TypeInfo}{z:ak}{sz:Nat}{aN:Option Addr}{n cap m:Nat}{x:ak}{d:TypeDesc}
  (g:P.underlying t=some (.slice e)) (h:P.underlying xt=some d) (N:∀ k,d≠.int k) (hi:P.info? e=some i) (q:i.size=sz) (v:i.zero=some z)
  (y:(JV x).run P w=.ok m w) (a:cap<n+m) {olds news:List ak}
  (A:(jP sz n (.slice aN n cap)).run P w.drew=.ok olds.toArray w.drew)
  (B:(jP sz m x).run P w.drew=.ok news.toArray w.drew)
  (b:n+m<=1048576) (F:i.bytes<=1048576) :
  ∃ C,n+m<=C/\(nk #[t,xt] ty #[.slice aN n cap,x]).run P w =
   .ok (.slice (some ⟨w.heap.size,0,none⟩) (n+m) C) (w.drew.alloc (.cells (olds++news++(AU z.cells (C-(n+m))).toList).toArray e)):=by
 have I:¬ (n+m<=cap):=by omega
 have J:¬ (9223372036854775807<((n:Int)+(m:Int))):=by omega
 have O:JY (n+m) cap*i.bytes<=281474976710656:=growslice_fits a (by
  have:=Nat.mul_le_mul b F;omega)
 have M:¬ (281474976710656<JY (n+m) cap*i.bytes):=by omega
 refine⟨grownCap w (n+m) cap e,?_,?_⟩
 ·simp[grownCap,Question.cut]
 ·simp [nk, run_underlying g, run_underlying h, sizeOf, typeInfo, zeroValue, hi, v, q, y, I, J, M, Question.forced, B, A, newRow, grownCap]
  congr 2;apply g_;simp
def di(E:ae)(v:AV)(H':List ah)(u:ak)(w':a6):Prop :=
 ∃ a b,ab { w:=w',H:=H',ad:=a,X:=E.X.re b } v u/\aG { w:=w',H:=H',ad:=a,X:=E.X.re b }/\E.le { w:=w',H:=H',ad:=a,X:=E.X.re b }
def KG{E:ae}{as:List AV}{d:Array ak}{vs tl:List ak}{b:Nat}{h:aD}{fr:Nat × Nat}(k:E.w.heap[b]? = some (.cells d h fr))(q:ar E as vs)
  (t:d.toList=vs++tl) (y:∀ x∈vs,dU x=true):cY E as b 0:=by
 rw[kg];intro i a hi;obtain⟨v,g,z⟩:=pK q hi;refine⟨v,?_,y v (eC g),z⟩;simp only[eo,qD,k];have:d.toList[i]? = some v:=by rw[t,dr (aX g)]; exact g
 simpa using this
def TS{E:ae}{as:List AV}{d:Array ak}{b:Nat}{t:aD}{fr:Nat × Nat}(y:E.w.heap[b]? = some (.cells d t fr))(z:cY E as b 0) :
  ar E as (d.toList.take as.length)/\(∀ x∈d.toList.take as.length,dU x=true)/\as.length<=d.size:=by
 obtain⟨a,q,A,B⟩:=Bl z;have F:=iC q;have k:∀(j:Nat) v,a[j]? = some v->d.toList[j]? = some v:=by
  intro j v g;have:=B j v g;simpa[qD,y]using this
 have I:a.length<=d.size:=by
  rcases Nat.eq_zero_or_pos a.length with h|h
  ·omega
  ·have := k (a.length - 1) a[a.length - 1] (cn (by omega))
   have:=aX this;simp at this;omega
 have:d.toList.take as.length=a:=by
  rw[F];apply ou;intro j;rw[om];split
  ·rename_i g
   rw[k j a[j] (cn g),cn g]
  ·rename_i g
   rw[JQ (by omega)]
 rw[this];exact⟨q,A,by omega⟩
def vg{sz:Nat}:∀{l:List (List AV)},(∀ r∈l,r.length=sz)->l.flatten.length=l.length*sz
 | [],_=>by simp
 |a::l,h=>by simp[vg (l:=l) (fun r b=>h r (by simp[b])),h a (by simp),fZ,xc]
def FV{E:ae}{k:Nat}{rZ:List (List AV)}{b o:Nat}(h:da E k rZ b o):∀ r∈rZ,r.length=k:=by
 intro r a;obtain⟨i,hi⟩:=JW a;exact(oA h hi).1
def KH(w:a6)(o:Obj):Ext w (w.drew.alloc o) :=
 ⟨by show w.heap.size <= (w.heap.push o).size; simp, fun b a => by
  show (w.heap.push o)[b]? = _
  simp[JP,ajJ a],⟨rfl,rfl,rfl,by first|exact fun _=>aY _|exact fun _=>gv _ _⟩⟩
def KJ(w:a6)(o:Obj):(w.drew.alloc o).heap[w.heap.size]? = some o:=by
 show (w.heap.push o)[w.heap.size]? = _
 simp
def FW{E E':ae}{sz m C:Nat}{rZ:List (List AV)}{vals:List ak}{rest:List ak}{b:Nat}{e:aD}(z:∀ a c,ab E a c->ab E' a c)
  (g:E'.w.heap[b]? = some (.cells (vals++rest).toArray e (0,0))) (d:ar E rZ.flatten vals) (A:∀ x∈vals,dU x=true)
  (h:∀ r∈rZ,r.length=sz) (q:rZ.length=m) (hC:m<=C) (k:rest.length=(C-m)*sz) :
  isRow E'.w b (C*sz)/\da E' sz rZ b 0:=by
 have t:ar E' rZ.flatten vals:=by
  rw[sI]at *;exact⟨d.1,fun i a v B y=>z a v (d.2 i a v B y)⟩
 refine⟨⟨_,e,g,?_⟩,Bu h (KG g t (by simp; rfl) A)⟩;have:=iC d;rw[vg h,q]at this;simp only[AW,dG,<-this,k,<-fZ];congr 1;omega
def KK{P:ai}{e:aD}{z:List ak}(h:fl P e=some z):∃ i v,P.info? e=some i/\i.zero=some v/\v.cells.toList=z :=
 let ⟨i,v,a,b,d,_⟩:=nF h
 ⟨i,v,a,b,d⟩
def KL{E:ae}(HE:aG E){sz C m:Nat}{d:List (List AV)}{g rest:List ak}{e:aD}(k:ar E d.flatten g)(I:∀ x∈g,dU x=true)
  (J:∀ r∈d,r.length=sz) (F:fg d) (hm:d.length=m) (hC:m<=C) (A:rest.length=(C-m)*sz) :
  di E (.vQ sz E.H.length 0 0 m) (E.H++[.vQ sz 0 d]) (.slice (some ⟨E.w.heap.size,0,none⟩) m C) (E.w.drew.alloc (.cells (g++rest).toArray e)):=by
 have t:=KH E.w (.cells (g++rest).toArray e);have z:=ae.lF (o:=.vQ sz 0 d) (l:=some (E.w.heap.size,C)) HE.len t (fun b n q=>by cases q; exact aY _);have B:=KJ E.w (.cells (g++rest).toArray e);have y:=FW (E':=E.push (E.w.drew.alloc (.cells (g++rest).toArray e)) (.vQ sz 0 d) (some (E.w.heap.size,C))) (fun a c k=>bG z a k) B k I J hm hC A;refine⟨E.ad++[some (E.w.heap.size,C)],E.X.r,?_,aG.push HE t (fun b n q=>?_) ?_,z⟩
 ·simp only [ab]
  refine⟨⟨_,_,rfl,hC,fun _=>⟨_,_,rfl⟩⟩,⟨.vQ sz 0 d,by simp,rfl,fun v N=>by simp[ah.aU]at N; omega⟩,fun _=>⟨fun h=>?_,fun b M h=>?_⟩⟩
  ·rw[<-HE.len]at h; simp at h
  ·rw [<- HE.len] at h
   simp at h;obtain⟨rfl,rfl⟩:=h;exact⟨by omega,0,fun _=>by simp,by simp⟩
 ·cases q
  exact⟨aY _,by show _<(E.w.heap.push _).size; simp⟩
 ·simp only [aV]
  right;refine⟨E.w.heap.size,C,?_,y.1,by omega,F,y.2⟩;simp only[ae.push];rw[<-HE.len];simp
def TT{E:ae}(HE:aG E){sz:Nat}(aN:Option Addr) :
  di E (.vQ sz E.H.length 0 0 0) (E.H++[.vQ sz 0 []]) (.slice aN 0 0) E.w:=by
 have g:=ae.lF (o:=.vQ sz 0 []) (l:=none) HE.len (Ext.refl E.w) (fun b n a=>by cases a);refine⟨E.ad++[none],E.X.r,?_,aG.push HE (Ext.refl _) (fun b n a=>by cases a) ?_,g⟩
 ·simp only [ab]
  refine⟨⟨_,_,rfl,aY _,fun h=>by omega⟩,⟨.vQ sz 0 [],by simp,rfl,fun v k=>by simp[ah.aU]at k; omega⟩,fun _=>⟨fun _=>⟨trivial,trivial,aN,rfl⟩,fun b M d=>?_⟩⟩;rw[<-HE.len]at d;simp at d
 ·simp only [aV]
  left;refine⟨?_,trivial⟩;simp only[ae.push];rw[<-HE.len];simp
def FX(P:ai)(a:Addr)(w:a6):(storeCells a []).run P w=.ok () w:=rfl
def FY{P:ai}{E:ae}{sz:Nat}{rZ:List (List AV)}{xt:aD}{x:ak}{news:List ak}(h:Src P E sz rZ xt x news)(a:rZ=[]):news=[]:=by
 have:=h.length;rw[a]at this;simp at this;exact this
def KM{P:ai}{E:ae}(HE:aG E){t xt ty e:aD}{sz y:Nat}{z:List ak}{h:List (List AV)}{aN:Option Addr}{q:ak}{news:List ak}
  (V:cI P t=.slice e sz y) (W:fl P e=some z) (g:Src P E sz h xt q news) (hb1:h.length<=1048576) (hb2:y<=1048576) (N:z.length=sz) :
  ∃ u w',(nk #[t,xt] ty #[.slice aN 0 0,q]).run P E.w=.ok u w'/\di E (.vQ sz E.H.length 0 0 h.length) (E.H++[.vQ sz 0 h]) u w':=by
 obtain⟨I,i,hi,J,hby⟩:=iR V;obtain⟨i',zv,A,O,U⟩:=KK W;rw[hi]at A;cases A;obtain⟨d,B,F⟩:=g.kind;cases k:h with
 | nil =>
  have X:=FY g k;subst X;subst k;refine⟨.slice aN (0+0) 0,E.w,FU (m:=0) I B F hi J (g.len E.w) (aY _) (g.cells E.w (fun _ _ _=>rfl)) ?_,TT HE aN⟩;cases aN with
  |none=>rfl
  |some a=>exact FX P _ _
 | cons r rs =>
  rw[<-k];have Y:0<h.length:=by rw[k]; simp
  have M:∀ b o,b<E.w.heap.size->E.w.drew.cell? ⟨b,o,none⟩=E.w.cell? ⟨b,o,none⟩:=fun _ _ _=>rfl;obtain⟨C,hC,v⟩:=KF (P:=P) (w:=E.w) (ty:=ty) (aN:=aN) (n:=0) (cap:=0) (m:=h.length) (x:=q) (olds:=[]) I B F hi J O (g.len E.w) (by omega)
   (by cases aN<;>simp[jP,loadCells,loadCellsFrom]) (g.cells _ M) (by omega) (by omega)
  simp only[eo,List.nil_append]at v;refine⟨_,_,v,KL HE g.ab g.one g.wide g.closed rfl (by omega) ?_⟩;simp only[lx,size_zeroCells];rw[<-N,<-U];simp
def TU{P:ai}{xt:aD}(h:(match cI P xt with | .slice _ _ _ | .str=>true|_=>false)=true):∃ d,P.underlying xt=some d/\∀ k,d≠.int k:=by
 split at h
 ·rename_i a
  exact⟨_,(iR a).1,by simp⟩
 ·rename_i a
  exact⟨_,sL a,by simp⟩
 ·cases h
def pL{α:Type}{l:List α}{i:Nat}{x:α}(h:l[i]? = some x):l.set i x=l:=by
 apply ou;intro j;rw[eU];split
 ·rename_i e
  subst e;rw[h];split
  ·rfl
  ·rename_i a; exact(a (aX h)).elim
 ·rfl
def TV{P:ai}{E:ae}(HE:aG E){t xt ty e id al:aD}{sz by_:Nat}{z:List ak}{rZ g:List (List AV)}{c cx:ak}{news:List ak}
  (hk:cI P t=.slice e sz by_) (hz:fl P e=some z) (k:Src P E sz g xt cx news) (hb1:rZ.length+g.length<=1048576) (hb2:by_<=1048576) (hzl:z.length=sz)
  (F:E.H[id]? = some (.vQ sz al rZ)) (q:ab E (.vQ sz id al 0 rZ.length) c) :
  ∃ u w',(nk #[t,xt] ty #[c,cx]).run P E.w=.ok u w' /\
   di E (.vQ sz id (al+1) 0 (rZ.length+g.length)) (E.H.set id (.vQ sz (al+1) (rZ++g))) u w':=by
 obtain⟨O,i,hi,hs,hby⟩:=iR hk;obtain⟨i',zv,hi',hz1,hz2⟩:=KK hz;rw[hi]at hi';cases hi';obtain⟨d,hd1,hd2⟩:=k.kind;simp only[ab]at q;obtain⟨⟨aN,cap,rfl,hcap,hbase⟩,hpast,hlive⟩:=q;obtain⟨q1,q2⟩:=hlive ⟨_,F,rfl⟩;have hlt:=aX F;have V:(∀ v,(ah.vQ sz (al+1) (rZ++g)).aU = some v->∀ u,(ah.vQ sz al rZ).aU = some u->u<v):=by
  intro v U u O; simp[ah.aU]at U O; omega
 have Y:∀ v u,(ah.vQ sz (al+1) (rZ++g)).aU = some v->(ah.vQ sz al rZ).aU = some u->u<=v:=by
  intro v u U O; simp[ah.aU]at U O; omega
 have W:(ah.vQ sz al rZ).aU = none->(ah.vQ sz (al+1) (rZ++g)).aU = none:=by simp[ah.aU]
 have hpast':∀(w':a6) loc',ae.bu { w:=w',H:=E.H.set id (.vQ sz (al+1) (rZ++g)),ad:=loc',X:=E.X } id (al+1):=fun w' loc' =>
  ⟨_,bK hlt,rfl,fun v U=>by simp[ah.aU]at U; omega⟩
 have hcells:∀ b o,b<E.w.heap.size->E.w.drew.cell? ⟨b,o,none⟩=E.w.cell? ⟨b,o,none⟩:=fun _ _ _=>rfl;by_cases J:rZ.length+g.length<=cap
 ·-- in place
  rcases HE.obj id _ F with⟨A,e2⟩|⟨b,M,A,e2,e3,e4,e5⟩
  ·obtain ⟨hn0, _, base', ee⟩ := q1 A
   simp only[lv]at ee;obtain⟨rfl,_,rfl⟩:=ee;have hnil:g=[]:=by
    cases g with
    |nil=>rfl
    |cons a l=>simp at J
   have hnews:=FY k hnil;subst hnews;subst hnil;subst e2;refine⟨_,E.w,FU (m:=0) O hd1 hd2 hi hs (k.len E.w) (aY _) (k.cells E.w (fun _ _ _=>rfl)) ?_,E.ad.set id none,E.X.r,?_,?_,?_⟩
   ·cases aN with
    |none=>rfl
    |some a=>exact FX P _ _
   ·simp only [ab]
    refine⟨⟨_,_,rfl,aY _,fun h=>by simp at h⟩,hpast' _ _,fun _=>⟨fun _=>⟨by simp,trivial,aN,by simp⟩,fun b M y=>?_⟩⟩;rw[bK (by rw[HE.len]; exact hlt)]at y;cases y
   ·refine aG.nA HE F (aY _) (fun _ _ _ => rfl) (fun _ _ h => by cases h) (.inr V) Y (fun _ => W) ?_
    simp only[aV];left;exact⟨by rw[bK (by rw[HE.len]; exact hlt)],by simp⟩
   ·exact ae.lG F HE.len (aY _) (fun _ _ _=>rfl) (fun _ _ h=>by cases h) (.inr V) Y (fun _=>W)
  ·obtain ⟨_, o, p2, p3⟩ := q2 b M A
   simp only[lv,ff]at p3;obtain⟨rfl,_,rfl⟩:=p3;obtain⟨cur,el,N,hsize⟩:=e2;have hcurl:=TS N (Bt e5);have hwide:=FV e5;have hflat:=vg hwide;have hnl:=k.length;have hstore:∃ w',(storeCells ((Addr.mk b o none).add (rZ.length*sz)) news).run P E.w=.ok () w'/\w'.heap.size=E.w.heap.size/\eO E.w w'/\(∀ x,x≠b->w'.heap[x]? = E.w.heap[x]?) /\
     w'.heap[b]? = some (.cells (cur.toList.take (rZ.length*sz)++news++cur.toList.drop (rZ.length*sz+news.length)).toArray el (0,0)):=by
    by_cases hM:0<cap
    ·rw [p2 hM, lH, pr, eo]
     have hfit2:rZ.length*sz+0+news.length<=cur.size:=by
      rw[hnl,hsize,np,<-fZ];exact qF _ J
     have hst:=run_storeCells_at P b (rZ.length*sz) el news 0 cur E.w N hfit2 (fun v U=>by rw[ve]; exact k.one v U);refine⟨_,hst,setRow_size _ _ _,⟨rfl,rfl,rfl,by first|exact fun _=>aY _|exact fun _=>gv _ _⟩,fun x B=>setRow_other _ _ _ _ B,?_⟩;rw[setRow_heap _ _ _ _ _ _ N];simp
    ·have h0 : cap = 0 := by omega
     have hn0:g=[]:=by
      cases g with
      |nil=>rfl
      |cons a l=>simp at J; omega
     have:=FY k hn0;subst this;refine⟨E.w,FX P _ _,rfl,⟨rfl,rfl,rfl,by first|exact fun _=>aY _|exact fun _=>gv _ _⟩,fun _ _=>rfl,?_⟩;rw[N];simp
   obtain⟨w',hst,hsz,henv,hother,hb'⟩:=hstore;have hloc:E.ad.set id (some (b,cap))=E.ad:=pL A;have hle:E.le { w:=w',H:=E.H.set id (.vQ sz (al+1) (rZ++g)),ad:=E.ad.set id (some (b,cap)),X:=E.X } :=
    ae.lG F HE.len (by omega) (fun x B hne=>hother x (fun ex=>hne cap (by rw[ex]; exact A))) (fun b' n' h=>by cases h; exact .inr ⟨cap,A⟩) (.inr V) Y (fun _=>W)
   refine⟨_,w',FU (m:=g.length) O hd1 hd2 hi hs (k.len E.w) J (k.cells E.w (fun _ _ _=>rfl)) hst,E.ad.set id (some (b,cap)),E.X.r,?_,?_,hle⟩
   ·simp only [ab]
    refine⟨⟨_,_,rfl,J,fun _=>⟨b,o,rfl⟩⟩,hpast' _ _,fun _=>⟨fun y=>?_,fun b' M y=>?_⟩⟩
    ·rw[hloc,A]at y; cases y
    ·rw [hloc, A] at y
     simp only[a_,bk]at y;obtain⟨rfl,rfl⟩:=y;exact⟨by omega,o,fun h=>by simpa using p2 (by simpa using h),by simp⟩
   ·refine aG.nA HE F (by omega) (fun x B hne => hother x (fun ex => hne cap (by rw [ex]; exact A))) (fun b' n' h => by cases h; exact .inr ⟨cap, A⟩) (.inr V) Y (fun _ => W) ?_
    simp only[aV];right;refine⟨b,cap,by rw[hloc]; exact A,?_,by simpa using J,?_,?_⟩
    ·refine ⟨_, el, hb', ?_⟩
     have hfit2:rZ.length*sz+news.length<=cap*sz:=by rw[hnl,<-fZ]; exact qF _ J
     simp only[AW,dG,iy,qG,lx,hsize];omega
    ·intro r q
     rcases cN.1 q with h|h
     ·exact e4 r h
     ·exact k.closed r h
    ·have hall:∀ r∈rZ++g,r.length=sz:=by
      intro r q;rcases cN.1 q with h|h
      ·exact hwide r h
      ·exact k.wide r h
     refine Bu hall (KG hb' (vs:=cur.toList.take (rZ.length*sz)++news) (tl:=cur.toList.drop (rZ.length*sz+news.length)) ?_ (by simp) ?_)
     ·rw [AX]
      refine nD ?_ (dX hle _ k.ab);have:=dX hle _ hcurl.1;rw[hflat]at this;exact this
     ·intro x B
      rcases cN.1 B with h|h
      ·exact hcurl.2.1 x (by rw[hflat]; exact h)
      ·exact k.one x h
 ·-- it moves
  have holds:∃ I:List ak,ar E rZ.flatten I/\(∀ x∈I,dU x=true)/\(∀ r∈rZ,r.length=sz)/\fg rZ /\
    (jP sz rZ.length (.slice aN rZ.length cap)).run P E.w.drew=.ok I.toArray E.w.drew:=by
   rcases HE.obj id _ F with⟨A,e2⟩|⟨b,M,A,e2,e3,e4,e5⟩
   ·subst e2
    refine⟨[],by simp[ar],by simp,by simp,(fun r q=>by cases q),?_⟩;cases aN<;>simp[jP,loadCells,loadCellsFrom]
   ·obtain ⟨_, o, p2, p3⟩ := q2 b M A
    simp only[lv,ff]at p3;obtain⟨rfl,_,rfl⟩:=p3;by_cases hM:0<cap
    ·have ho := p2 hM
     rw[pr]at ho;subst ho;obtain⟨vs,g1,g2,g3⟩:=Bv (P:=P) (cap:=cap) e5 (HE.lt id b cap A).1;exact⟨vs,g1,g2,FV e5,e4,g3 _ hcells⟩
    ·have:rZ=[]:=by
      cases rZ with
      |nil=>rfl
      |cons a l=>simp at hcap; omega
     subst this;exact⟨[],by simp[ar],by simp,by simp,fun r q=>by(cases q),by simp[jP,loadCells,loadCellsFrom]⟩
  obtain⟨I,g1,g2,g3,g4,g5⟩:=holds;obtain⟨C,hC,hrun⟩:=KF (P:=P) (w:=E.w) (ty:=ty) (aN:=aN) (n:=rZ.length) (cap:=cap) (m:=g.length) (x:=cx) (olds:=I) O hd1 hd2 hi hs hz1 (k.len E.w) (by omega)
   g5 (k.cells _ hcells) (by omega) (by omega)
  generalize hrest:(AU zv.cells (C-(rZ.length+g.length))).toList=rest at hrun;have hrl:rest.length=(C-(rZ.length+g.length))*sz:=by
   rw[<-hrest];simp only[lx,size_zeroCells];rw[<-hzl,<-hz2];simp
  generalize hw':E.w.drew.alloc (.cells (I++news++rest).toArray e)=w' at hrun;have hext:Ext E.w w':=by rw[<-hw']; exact KH _ _
  have N:w'.heap[E.w.heap.size]? = some (.cells (I++news++rest).toArray e (0,0)):=by rw[<-hw']; exact KJ _ _
  have hltw:E.w.heap.size<w'.heap.size:=(Array.getElem?_eq_some_iff.1 N).1;have hle:E.le { w:=w',H:=E.H.set id (.vQ sz (al+1) (rZ++g)),ad:=E.ad.set id (some (E.w.heap.size,C)),X:=E.X } :=
   ae.lG F HE.len hext.size (fun x B _=>hext.same x B) (fun b n h=>by cases h; exact .inl (aY _)) (.inr V) Y (fun _=>W)
  have hall:∀ r∈rZ++g,r.length=sz:=by
   intro r q;rcases cN.1 q with h|h
   ·exact g3 r h
   ·exact k.wide r h
  have hlocs:(E.ad.set id (some (E.w.heap.size,C)))[id]? = some (some (E.w.heap.size,C)):=bK (by rw[HE.len]; exact hlt);have hrow:=FW (E:=E) (E':={ w:=w',H:=E.H.set id (.vQ sz (al+1) (rZ++g)),ad:=E.ad.set id (some (E.w.heap.size,C)),X:=E.X })
   (rZ:=rZ++g) (vals:=I++news) (m:=rZ.length+g.length) (fun a c q=>bG hle a q) N
   (by rw[AX]; exact nD g1 k.ab)
   (by intro x B; rcases cN.1 B with h|h; exact g2 x h; exact k.one x h) hall (by simp) hC hrl
  refine⟨_,w',hrun,E.ad.set id (some (E.w.heap.size,C)),E.X.r,?_,?_,hle⟩
  ·simp only [ab]
   refine⟨⟨_,_,rfl,hC,fun _=>⟨_,_,rfl⟩⟩,hpast' _ _,fun _=>⟨fun y=>?_,fun b' M y=>?_⟩⟩
   ·rw[hlocs]at y; cases y
   ·rw [hlocs] at y
    simp only[a_,bk]at y;obtain⟨rfl,rfl⟩:=y;exact⟨by omega,0,fun _=>by simp,by simp⟩
  ·refine aG.nA HE F hext.size (fun x B _ => hext.same x B) (fun b n h => by cases h; exact .inl ⟨aY _, hltw⟩) (.inr V) Y (fun _ => W) ?_
   simp only[aV];right;refine⟨E.w.heap.size,C,hlocs,hrow.1,by simpa using hC,?_,hrow.2⟩;intro r q;rcases cN.1 q with h|h
   ·exact g4 r h
   ·exact k.closed r h
def TW{P:ai}{E:ae}(HE:aG E){t xt ty:aD}{s x v:AV}{H':List ah}{c A:ak}(h:vf P t xt s x E.H=some (v,H'))
  (a:ab E s c) (N:ab E x A):∃ u w',(nk #[t,xt] ty #[c,A]).run P E.w=.ok u w'/\di E v H' u w':=by
 unfold vf at h;split at h
 case h_2=>cases h
 rename_i e sz V d;split at h
 case h_2=>cases h
 rename_i z W g I F;split at h
 case isFalse=>cases h
 rename_i O;obtain⟨q,B,y⟩:=O;obtain⟨news,b⟩:=TR (P:=P) HE F N (TU I);split at h
 ·cases h
  simp only[ab]at a;obtain⟨aN,rfl⟩:=a;exact KM HE d g b B y q
 ·cases h
  simp only[ab]at a;subst a;exact KM HE d g b B y q
 ·split at h
  case h_2=>cases h
  rename_i k v rZ J;split at h
  case isFalse=>cases h
  rename_i M;obtain⟨rfl,rfl,rfl,rfl,rfl,U⟩:=M;cases h;exact TV HE d g b U y q J a
 ·cases h
end Go.AL

namespace Go.AL
open Go
variable [Dr]
def FZ{w w':a6}{b oF:Nat}{d:Array ak}{a:List ak}{h:aD}{fr:Nat × Nat}(q:w.heap[b]? = some (.cells d h fr))
  (t:w'.heap[b]? = some (.cells (d.toList.take oF++a++d.toList.drop (oF+a.length)).toArray h fr)) (z:oF+a.length<=d.size) (i:Nat) :
  w'.cell? ⟨b,i,none⟩=if oF<=i/\i<oF+a.length then a[i-oF]? else w.cell? ⟨b,i,none⟩:=by
 simp only[qD,q,t,Option.isSome_none,me,if_false,List.getElem?_toArray,fy,dG,iy,lx,
  om,sA]
 have v:min oF d.size=oF:=by omega
 rw[v];by_cases k:i<oF
 ·have g : ¬ (oF <= i /\ i < oF + a.length) := by omega
  have c3:i<oF+a.length:=by omega
  rw[iN g];simp[k,c3]
 ·by_cases g : i < oF + a.length
  ·have c3 : oF <= i /\ i < oF + a.length := by omega
   simp[k,g,c3]
  ·have c3 : ¬ (oF <= i /\ i < oF + a.length) := by omega
   have y:oF+a.length+(i-(oF+a.length))=i:=by omega
   rw[iN g,iN c3,y];simp
def Bw{E E':ae}{b o col:Nat}{k:Array ak}{as cs:List AV}{g:List ak}{F:aD}{fr:Nat × Nat}(t:∀ a c,ab E a c->ab E' a c)
  (I:E.w.heap[b]? = some (.cells k F fr))
  (M:E'.w.heap[b]? = some (.cells (k.toList.take (o+col)++g++k.toList.drop (o+col+g.length)).toArray F fr)) (J:o+col+g.length<=k.size)
  (y:cY E as b o) (B:ar E cs g) (N:∀ x∈g,dU x=true) (O:col+cs.length<=as.length) :
  cY E' (as.take col++cs++as.drop (col+cs.length)) b o:=by
 have U:=iC B;rw[kg]at y|-;intro i a hi;rw[FZ I M J];simp only[fy,dG,iy,om,sA]at hi;have hm:min col as.length=col:=by omega
 rw[hm]at hi;by_cases z:i<col
 ·have q : i < col + cs.length := by omega
  rw[iP q,iP z,iP z]at hi;obtain⟨v,d,h,A⟩:=y i a hi;exact⟨v,by rw[iN (by omega)]; exact d,h,t _ _ A⟩
 ·by_cases q : i < col + cs.length
  ·rw [iP q, iN z] at hi
   obtain⟨v,d,h⟩:=pK B hi;refine⟨v,?_,N v (eC d),t _ _ h⟩;rw[iP (by omega),<-d];congr 1;omega
  ·rw [iN q] at hi
   have:col+cs.length+(i-(col+cs.length))=i:=by omega
   rw[this]at hi;obtain⟨v,d,h,A⟩:=y i a hi;exact⟨v,by rw[iN (by omega)]; exact d,h,t _ _ A⟩
def ae.pM{E:ae}{w':a6}{id b n:Nat}{o o':ah}(HE:aG E)(z:E.H[id]? = some o) (d:E.ad[id]? = some (some (b,n)))
  (g:∀ v,o'.aU = some v->o.aU = some v) (F:w'.heap.size=E.w.heap.size) (t:∀ x,x≠b->w'.heap[x]? = E.w.heap[x]?) (y:eO E.w w':=by first|exact⟨rfl,rfl,rfl,by first|exact fun _=>aY _|exact fun _=>gv _ _⟩|assumption|exact Ext.env (by assumption)) (A:o.dM=none\/o'.dM=o.dM\/o'.aU = none:=by first|exact .inl rfl|exact .inr (.inl rfl)|exact .inr (.inr rfl)|exact .inl (ah.Bb (by assumption))|assumption) (I:o.born=true->o'.born=true:=by first|exact fun _=>rfl|exact fun h=>h|assumption) :
  E.le { w:=w',H:=E.H.set id o',ad:=E.ad,X:=E.X }:=by
 have h:=ae.lG (w':=w') (o':=o') (l:=some (b,n)) z HE.len (by omega) (fun x _ B=>t x (fun e=>B n (by rw[e]; exact d))) (fun J M h=>by cases h; exact .inr ⟨n,d⟩)
  (.inl fun v a => ⟨g v a, d⟩) (fun v u a k => by rw [g v a] at k; cases k; exact aY _) (fun _ q => by
   cases a:o'.aU with
   |none=>rfl
   |some v=>rw[g v a]at q; cases q) y A
 rwa [pL d]at h
def aG.set{E:ae}{w':a6}{id b n:Nat}{o o':ah}(HE:aG E)(z:E.H[id]? = some o) (a:E.ad[id]? = some (some (b,n)))
  (g:∀ v,o'.aU = some v->o.aU = some v) (F:w'.heap.size=E.w.heap.size) (t:∀ x,x≠b->w'.heap[x]? = E.w.heap[x]?)
  (B:aV { w:=w',H:=E.H.set id o',ad:=E.ad,X:=E.X } id o') (y:eO E.w w':=by first|exact⟨rfl,rfl,rfl,by first|exact fun _=>aY _|exact fun _=>gv _ _⟩|assumption|exact Ext.env (by assumption)) (hlab:o.label=none:=by first|rfl|assumption) (I:o'.label=none:=by first|rfl|assumption) (J:o.born=true->o'.born=true:=by first|exact fun _=>rfl|exact fun h=>h|assumption):aG { w:=w',H:=E.H.set id o',ad:=E.ad,X:=E.X }:=by
 have h:=aG.nA (w':=w') (o':=o') (l:=some (b,n)) HE z (by omega) (fun x _ A=>t x (fun e=>A n (by rw[e]; exact a))) (fun M N h=>by cases h; exact .inr ⟨n,a⟩)
  (.inl fun v d => ⟨g v d, a⟩) (fun v u d k => by rw [g v d] at k; cases k; exact aY _) (fun _ q => by
   cases d:o'.aU with
   |none=>rfl
   |some v=>rw[g v d]at q; cases q) (by rw[pL a]; exact B) y
 rwa [pL a]at h
def putCells(as b:List AV)(a:Nat):List AV:=as.take a++b++as.drop (a+b.length)
def lK(P:ai)(t:aD)(x v:AV)(H:List ah):Option (List ah) :=
 match eI P t,nE v,x with
 | some (n,_),some b,.ptr id al w row a =>
  if b.length=n then
   match H[id]? with
   |some (.box cells)=>if al=0/\row=0/\a+n<=cells.length then some (H.set id (.box (putCells cells b a))) else none
   | some (.vQ k u rZ) =>
    if al=u/\k=w/\AV.cb b=true then
     match rZ[row]? with
     |some r=>if a+n<=r.length then some (H.set id (.vQ k u (rZ.set row (putCells r b a)))) else none
     |none=>none
    else none
   |_=>none
  else none
 |_,_,_=>none
def F0{as b:List AV}{a:Nat}(h:a+b.length<=as.length):(putCells as b a).length=as.length:=by
 simp[putCells]; omega
def xF:∀(a b:List AV),AV.cb (a++b)=(AV.cb a&&AV.cb b)
 | [],b=>by simp[AV.cb]
 |x::a,b=>by simp[AV.cb,xF a b,ajM]
def KN{P:ai}{E:ae}(HE:aG E){t:aD}{x v:AV}{c d:ak}{H':List ah}(h:lK P t x v E.H=some H')(W:ab E x c)(F:ab E v d) :
  ∃ w',(uC t c d).run P E.w=.ok () w'/\aG { w:=w',H:=H',ad:=E.ad,X:=E.X }/\E.le { w:=w',H:=H',ad:=E.ad,X:=E.X }:=by
 unfold lK at h;split at h
 case h_2=>cases h
 rename_i n ag cs id al w row g ht hcs;obtain⟨i,dd,hi,hd,hs,ha⟩:=kO ht;obtain⟨hrel,h1⟩:=Br hcs F;split at h
 case isFalse=>cases h
 rename_i hn;have hlen:=iC hrel;have hsz:d.cells.size=n:=by rw[<-hn,hlen]; simp
 simp only[ab]at W;obtain⟨_,hpast,hlive⟩:=W;split at h
 ·rename_i cells A
  split at h
  case isFalse=>cases h
  rename_i hc;obtain⟨rfl,rfl,hcol⟩:=hc;cases h;obtain⟨b,m,I,rfl⟩:=hlive ⟨_,A,rfl⟩;obtain⟨b',m',O,⟨y,J,M,hsize⟩,e3⟩:=HE.obj id _ A;rw[I]at O;cases O;have z:g+0+d.cells.toList.length<=y.size:=by rw[hsize]; simp; omega
  have N:=run_storeCells_at P b g J d.cells.toList 0 y E.w M z (fun v F=>by rw[ve]; exact h1 v F);simp only[np]at N z;generalize B:E.w.setRow b (y.toList.take g++d.cells.toList++y.toList.drop (g+d.cells.toList.length)).toArray=w' at N;have Y:w'.heap.size=E.w.heap.size:=by rw[<-B]; exact setRow_size _ _ _
  have henv:eO E.w w':=by rw[<-B]; exact⟨rfl,rfl,rfl,by first|exact fun _=>aY _|exact fun _=>gv _ _⟩
  have hother:∀ x,x≠b->w'.heap[x]? = E.w.heap[x]? := by intro x W; rw[<-B]; exact setRow_other _ _ _ _ W
  have U:w'.heap[b]? = some (.cells (y.toList.take g++d.cells.toList++y.toList.drop (g+d.cells.toList.length)).toArray J (0,0)):=by
   rw[<-B]; exact setRow_heap E.w b y _ J (0,0) M
  have hver:∀ v,(ah.box (putCells cells cs g)).aU = some v->(ah.box cells).aU = some v:=fun v F=>by simpa[ah.aU]using F
  have V:=ae.pM (o':=.box (putCells cells cs g)) HE A I hver Y hother;refine⟨w',?_,aG.set HE A I hver Y hother ?_,V⟩
  ·simp only [uC, mf, cg, e_, bY, storeVar, Sem.run_sizeOf hi, hs, pr, eo]
   rw[iN (by omega)];exact N
  ·simp only [aV]
   refine⟨b,m,I,⟨_,J,U,?_⟩,?_⟩
   ·rw [F0 (by omega)]
    simp only[AW,dG,iy,qG,lx]at z|-;omega
   ·exact Bw (o:=0) (col:=g) (fun a c hr=>bG V a hr) M (by simpa using U) (by simpa using z) e3 hrel h1 (by omega)
 ·rename_i k u rZ A
  split at h
  case isFalse=>cases h
  rename_i hc;obtain⟨rfl,rfl,hclosed⟩:=hc;split at h
  case h_2=>cases h
  rename_i r hrow;split at h
  case isFalse=>cases h
  rename_i hcol;cases h;obtain⟨b,m,I,rfl⟩:=hlive ⟨_,A,rfl⟩;rcases HE.obj id _ A with⟨_,O⟩|⟨b',m',O,⟨y,J,M,hsize⟩,e3,e4,e5⟩
  ·subst O; simp at hrow
  rw[I]at O;cases O;have hrlt:=aX hrow;obtain⟨hrk,hrc⟩:=oA e5 hrow;rw[eo]at hrc;have hrow1:(row+1)*k<=m*k:=qF _ (by omega);rw[fZ,xk]at hrow1;have z:row*k+g+0+d.cells.toList.length<=y.size:=by rw[hsize]; simp; omega
  have N:=run_storeCells_at P b (row*k+g) J d.cells.toList 0 y E.w M z (fun v F=>by rw[ve]; exact h1 v F);simp only[np]at N z;generalize B:E.w.setRow b (y.toList.take (row*k+g)++d.cells.toList++y.toList.drop (row*k+g+d.cells.toList.length)).toArray=w' at N;have Y:w'.heap.size=E.w.heap.size:=by rw[<-B]; exact setRow_size _ _ _
  have henv:eO E.w w':=by rw[<-B]; exact⟨rfl,rfl,rfl,by first|exact fun _=>aY _|exact fun _=>gv _ _⟩
  have hother:∀ x,x≠b->w'.heap[x]? = E.w.heap[x]? := by intro x W; rw[<-B]; exact setRow_other _ _ _ _ W
  have U:w'.heap[b]? = some (.cells (y.toList.take (row*k+g)++d.cells.toList++y.toList.drop (row*k+g+d.cells.toList.length)).toArray J (0,0)):=by
   rw[<-B]; exact setRow_heap E.w b y _ J (0,0) M
  have hver:∀ v,(ah.vQ k al (rZ.set row (putCells r cs g))).aU = some v->(ah.vQ k al rZ).aU = some v:=fun v F=>by simpa[ah.aU]using F
  have V:=ae.pM (o':=.vQ k al (rZ.set row (putCells r cs g))) HE A I hver Y hother;refine⟨w',?_,aG.set HE A I hver Y hother ?_,V⟩
  ·simp only [uC, mf, cg, e_, bY, storeVar, Sem.run_sizeOf hi, hs]
   rw[iN (by omega)];exact N
  ·simp only [aV]
   right;refine⟨b,m,I,⟨_,J,U,?_⟩,by simpa using e3,?_,?_⟩
   ·simp only [AW, dG, iy, qG, lx, hsize] at z |-
    omega
   ·intro r' hr'
    rcases List.mem_or_eq_of_mem_set hr' with h'|h'
    ·exact e4 r' h'
    ·rw [h', putCells, xF, xF]
     have:=e4 r (eC hrow);simp[xA _ _ this,uV _ _ this,hclosed]
   ·rw [ox] at e5 |-
    intro j r' hj;rw[eU]at hj;split at hj
    ·rename_i ej
     subst ej;cases hj;refine⟨by rw[F0 (by omega)]; exact hrk,?_⟩;rw[eo];exact Bw (fun a c hr=>bG V a hr) M U z hrc hrel h1 (by omega)
    ·rename_i ej
     obtain⟨g1,g2⟩:=e5 j r' hj;refine⟨g1,?_⟩;rw[kg]at g2|-;intro q a hq;obtain⟨vv,p1,p2,p3⟩:=g2 q a hq;refine⟨vv,?_,p2,bG V a p3⟩;have hql:=aX hq;rw[FZ M U z,iN]
     ·exact p1
     ·rcases Nat.lt_or_gt_of_ne ej with hlt | hgt
      ·have : (row + 1) * k <= j * k := qF _ (by omega)
       rw[fZ,xk]at this;simp only[lx];omega
      ·have : (j + 1) * k <= row * k := qF _ (by omega)
       rw[fZ,xk]at this;omega
 ·cases h
def KO{E:ae}(HE:aG E){cells:List AV}{vals:Array ak}{el:aD}(k:ar E cells vals.toList)(t:∀ x∈vals.toList,dU x=true) :
  di E (.ptr E.H.length 0 0 0 0) (E.H++[.box cells]) (.pointer (some ⟨E.w.heap.size,0,none⟩)) { E.w with heap:=E.w.heap.push (.cells vals el) }:=by
 have d:=Ext.push E.w (.cells vals el);have h:=ae.lF (o:=.box cells) (l:=some (E.w.heap.size,0)) HE.len d (fun b n a=>by cases a; exact aY _);have g:(E.w.heap.push (.cells vals el))[E.w.heap.size]? = some (.cells vals el (0,0)):=by simp
 have q:ar (E.push { E.w with heap:=E.w.heap.push (.cells vals el) } (.box cells) (some (E.w.heap.size,0))) cells vals.toList:=dX h _ k;refine⟨E.ad++[some (E.w.heap.size,0)],E.X.r,?_,aG.push HE d (fun b n a=>?_) ?_,h⟩
 ·simp only [ab]
  refine⟨⟨_,_,rfl⟩,⟨.box cells,by simp,rfl,fun v y=>by simp⟩,fun _=>⟨E.w.heap.size,0,?_,by simp⟩⟩;rw[<-HE.len]; simp
 ·cases a
  exact⟨aY _,by simp⟩
 ·simp only [aV]
  refine⟨E.w.heap.size,0,?_,⟨vals,el,g,?_⟩,Bs (cs:=vals) (el:=el) (fr:=(0,0)) g q t⟩
  ·simp only[ae.push]; rw[<-HE.len]; simp
  ·have := iC k
   simpa using this.symm
def Bx(P:ai)(t:aD):Option aD:=match fl P t with
 | some [.pointer none,.slice none 0 0]=>match P.underlying t with
  | some (.struct a)=>match a[1]? with
   | some b=>match P.underlying b.type with
    | some (.slice e)=>match P.underlying e with
     |some (.int .u8)=>some e
     |_=>none
    |_=>none
   |none=>none
  |_=>none
 |_=>none
def TX{P:ai}{t e:aD}(h:Bx P t=some e):fl P t=some [.pointer none,.slice none 0 0]:=by
 unfold Bx at h;split at h
 ·assumption
 ·cases h
def km(H:List ah)(l:Nat):Bool:=H.all fun o=>match o.label with
 |some k => !Nat.beq k l
 |none=>true
def pN{H:List ah}{l:Nat}(h:km H l=true)(i:Nat)(o:ah)(hi:H[i]? = some o):o.label≠some l:=fun e=>by
 have:=cq.1 h o (eC hi);rw[e]at this;simp at this
def TY{E:ae}(HE:aG E){t e:aD}(a:km E.H 0=true) :
  di E (.ptr E.H.length 0 0 0 0) (E.H++[.cD 0 t e uy]) (.pointer (some ⟨E.w.heap.size,0,none⟩)) { E.w with heap:=E.w.heap.push (.cells #[.pointer none,.slice none 0 0] t) }:=by
 have d:=Ext.push E.w (.cells #[.pointer none,.slice none 0 0] t);obtain⟨h,k⟩:=aG.Tx (o:=.cD 0 t e uy) (l:=some (E.w.heap.size,0)) (l0:=0) HE d (fun b n q=>by cases q; exact⟨aY _,by simp⟩) rfl (pN a) (by
  simp only[aV];refine⟨E.w.heap.size,0,.pointer none,.slice none 0 0,(E.X.r 0).length,none,?_,?_,.inl rfl,?_,?_,⟨rfl,rfl⟩⟩
  ·rw[<-HE.len]; simp
  ·simp
  ·simp[jR,XS.re]
  ·intro h' q' y
   rcases Fz (show (jR E.X.r 0 0)[h']? = some (some q') from y)with g|⟨_,g,_⟩
   ·exact(HE.iD 0 (pN a) h' q' g).elim
   ·exact g)
 refine⟨E.ad++[some (E.w.heap.size,0)],jR E.X.r 0,?_,h,k⟩;simp only[ab];refine⟨⟨_,_,rfl⟩,⟨.cD 0 t e uy,by simp,rfl,fun v z=>by simp⟩,fun _=>⟨E.w.heap.size,0,?_,by simp⟩⟩;rw[<-HE.len]; simp
def sO(P:ai)(t:aD)(H:List ah):Option (AV × List ah) :=
 match Bx P t with
 |some e=>if km H 0=true then some (.ptr H.length 0 0 0 0,H++[.cD 0 t e uy]) else none
 | none=>match fl P t with
  |some z=>some (.ptr H.length 0 0 0 0,H++[.box (z.map .lit)])
  |none=>none
def TZ{P:ai}{E:ae}(HE:aG E){t:aD}{v:AV}{H':List ah}(h:sO P t E.H=some (v,H')) :
  ∃ u w',(AY t true (.tuple #[])).run P E.w=.ok u w'/\di E v H' u w':=by
 unfold sO at h;split at h
 ·rename_i e he
  split at h
  case isFalse=>cases h
  rename_i y;cases h;obtain⟨i,b,d,g,a,q⟩:=nF (TX he);have k:b.cells=#[.pointer none,.slice none 0 0]:=g_ (by simpa using a);refine⟨_,_,?_,TY HE (t:=t) (e:=e) y⟩;simp[AY,nG d g,newVar,newRow,k]
 split at h
 ·rename_i z k
  cases h;obtain⟨i,b,d,g,a,q⟩:=nF k;refine⟨_,_,?_,KO HE (vals:=b.cells) (el:=t) (by rw[a]; exact oz z) (by rw[a]; exact q)⟩;simp[AY,nG d g,newVar,newRow]
 ·cases h
def zc:Option (List Kd)->ak->AV
 |some ks,.slice none 0 0=>.listF ks []
 |_,v=>.lit v
def jD:List (Option (List Kd))->List ak->List AV
 |_,[]=>[]
 | [],v::z=>.lit v::jD [] z
 |a::m,v::z=>zc a v::jD m z
def By:∀(m:List (Option (List Kd))) (z:List ak),(jD m z).length=z.length
 | [],[]=>rfl
 |_::_,[]=>rfl
 | [],v::z=>by simp[jD,By [] z]
 |a::m,v::z=>by simp[jD,By m z]
def T0{E:ae}(a:Option (List Kd))(v:ak):ab E (zc a v) v:=by
 unfold zc;split
 ·simp only [ab, eX]
  exact⟨none,0,rfl,aY _,.inl rfl⟩
 ·simp[ab]
def F1{E:ae}:∀(m:List (Option (List Kd))) (z:List ak),ar E (jD m z) z
 | [],[]=>by simp[jD,ar]
 |_::_,[]=>by simp[jD,ar]
 | [],v::z=>by simp only[jD,ar]; exact⟨by simp[ab],F1 [] z⟩
 |a::m,v::z=>by simp only[jD,ar]; exact⟨T0 a v,F1 m z⟩
def T3(a:Option (List Kd))(v:ak):(zc a v).closed=true:=by
 unfold zc;split<;>rfl
def F2:∀(m:List (Option (List Kd))) (z:List ak),AV.cb (jD m z)=true
 | [],[]=>rfl
 |_::_,[]=>rfl
 | [],v::z=>by simp[jD,AV.cb,AV.closed,F2 [] z]
 |a::m,v::z=>by simp[jD,AV.cb,T3,F2 m z]
def qV(P:ai)(t:aD)(id:Nat) (m:List (Option (List Kd))) (H:List ah):Option (AV × List ah) :=
 match fl P t,H[id]? with
 |some z,some (.vQ k 0 [])=>if k=z.length then some (.ptr id 1 k 0 0,H.set id (.vQ k 1 [jD m z])) else none
 |some z,some .dP=>some (.ptr id 0 0 0 0,H.set id (.box (z.map .lit)))
 |_,_=>none
def T4{E:ae}(HE:aG E){id k:Nat}{cells:List AV}{vals:Array ak}{el:aD}(q:E.H[id]? = some (.vQ k 0 []))(a:ar E cells vals.toList)(V:∀ x∈vals.toList,dU x=true)(N:cells.length=k)
  (O:AV.cb cells=true) :
  di E (.ptr id 1 k 0 0) (E.H.set id (.vQ k 1 [cells])) (.pointer (some ⟨E.w.heap.size,0,none⟩)) { E.w with heap:=E.w.heap.push (.cells vals el) }:=by
 have g:=Ext.push E.w (.cells vals el);have I:=aX q;have z:∀ v,(ah.vQ k 1 [cells]).aU = some v->∀ u,(ah.vQ k 0 []).aU = some u->u<v:=by
  intro v d u t;simp[ah.aU]at d t;omega
 have J:∀ v u,(ah.vQ k 1 [cells]).aU = some v->(ah.vQ k 0 []).aU = some u->u<=v:=by
  intro v u d t;simp[ah.aU]at d t;omega
 have A:(ah.vQ k 0 []).aU = none->(ah.vQ k 1 [cells]).aU = none:=by simp[ah.aU]
 have M:E.le { w:={ E.w with heap:=E.w.heap.push (.cells vals el) },H:=E.H.set id (.vQ k 1 [cells]),ad:=E.ad.set id (some (E.w.heap.size,1)),X:=E.X } :=
  ae.lG q HE.len g.size (fun x y _=>g.same x y) (fun b n h=>by cases h; exact .inl (aY _)) (.inr z) J (fun _=>A)
 have F:(E.w.heap.push (.cells vals el))[E.w.heap.size]? = some (.cells vals el (0,0)):=by simp
 have B:(E.ad.set id (some (E.w.heap.size,1)))[id]? = some (some (E.w.heap.size,1)):=bK (by rw[HE.len]; exact I);have U:=dX M _ a;refine⟨E.ad.set id (some (E.w.heap.size,1)),E.X.r,?_,?_,M⟩
 ·simp only [ab]
  refine⟨⟨_,_,rfl⟩,⟨.vQ k 1 [cells],by simp[I],rfl,fun v d=>by simp[ah.aU]at d; omega⟩,fun _=>⟨E.w.heap.size,1,B,by simp⟩⟩
 ·refine aG.nA HE q g.size (fun x y _ => g.same x y) (fun b n h => by cases h; exact .inl ⟨aY _, by simp⟩) (.inr z) J (fun _ => A) ?_
  simp only[aV];right;refine⟨E.w.heap.size,1,B,⟨vals,el,F,?_⟩,by simp,?_,?_⟩
  ·have := iC a
   rw[xk,<-N];simpa using this.symm
  ·intro r a
   simp at a;rw[a];exact O
  ·simp only [da, and_true]
   exact⟨N,Bs (cs:=vals) (el:=el) (fr:=(0,0)) F U V⟩
def T5{E:ae}(HE:aG E){id:Nat}{cells:List AV}{vals:Array ak}{el:aD}(d:E.H[id]? = some .dP)(I:ar E cells vals.toList)(M:∀ x∈vals.toList,dU x=true) :
  di E (.ptr id 0 0 0 0) (E.H.set id (.box cells)) (.pointer (some ⟨E.w.heap.size,0,none⟩)) { E.w with heap:=E.w.heap.push (.cells vals el) }:=by
 have a:=Ext.push E.w (.cells vals el);have A:=aX d;have q:(ah.dP).born=true->(ah.dP).aU = none->(ah.box cells).aU = none:=fun h=>by cases h
 have y:∀ v,(ah.box cells).aU = some v->∀ u,(ah.dP).aU = some u->u<v:=fun v _ u g=>by cases g
 have B:∀ v u,(ah.box cells).aU = some v->(ah.dP).aU = some u->u<=v:=fun v u _ g=>by cases g
 have z:(E.w.heap.push (.cells vals el))[E.w.heap.size]? = some (.cells vals el (0,0)):=by simp
 have t:(E.ad.set id (some (E.w.heap.size,0)))[id]? = some (some (E.w.heap.size,0)):=bK (by rw[HE.len]; exact A);have F:E.le { w:={ E.w with heap:=E.w.heap.push (.cells vals el) },H:=E.H.set id (.box cells),ad:=E.ad.set id (some (E.w.heap.size,0)),X:=E.X } :=
  ae.lG d HE.len a.size (fun x k _=>a.same x k) (fun b n h=>by cases h; exact .inl (aY _)) (.inr y) B q
 have J:=dX F _ I;refine⟨E.ad.set id (some (E.w.heap.size,0)),E.X.r,?_,?_,F⟩
 ·simp only [ab]
  refine⟨⟨_,_,rfl⟩,⟨.box cells,by simp[A],rfl,fun v N=>by simp⟩,fun _=>⟨E.w.heap.size,0,t,by simp⟩⟩
 ·refine aG.nA HE d a.size (fun x k _ => a.same x k) (fun b n h => by cases h; exact .inl ⟨aY _, by simp⟩) (.inr y) B q ?_
  simp only[aV];refine⟨E.w.heap.size,0,t,⟨vals,el,z,?_⟩,Bs (cs:=vals) (el:=el) (fr:=(0,0)) z J M⟩;have:=iC I;simpa using this.symm
def T6{P:ai}{E:ae}(HE:aG E){t:aD}{id:Nat}{m:List (Option (List Kd))}{v:AV}{H':List ah}(h:qV P t id m E.H=some (v,H')) :
  ∃ u w',(AY t true (.tuple #[])).run P E.w=.ok u w'/\di E v H' u w':=by
 unfold qV at h;split at h
 ·rename_i z k d b
  split at h
  ·rename_i B
   cases h;obtain⟨i,g,q,y,a,A⟩:=nF d;refine⟨_,_,?_,T4 HE (vals:=g.cells) (el:=t) b (by rw[a]; exact F1 m z) (by rw[a]; exact A) (by rw[By,B]) (F2 m z)⟩;simp[AY,nG q y,newVar,newRow]
  ·cases h
 ·rename_i z d b
  cases h;obtain⟨i,g,q,y,a,A⟩:=nF d;refine⟨_,_,?_,T5 HE (vals:=g.cells) (el:=t) b (by rw[a]; exact oz z) (by rw[a]; exact A)⟩;simp[AY,nG q y,newVar,newRow]
 ·cases h
def Bz(v:AV)(H:List ah):Option (AV × List ah) :=
 match nE v with
 |some a=>some (.ptr H.length 0 0 0 0,H++[.box a])
 |none=>none
def T7{P:ai}{E:ae}(HE:aG E){t:aD}{x v:AV}{c:ak}{H':List ah}(h:Bz x E.H=some (v,H'))(b:ab E x c) :
  ∃ u w',(ajT t c).run P E.w=.ok u w'/\di E v H' u w':=by
 unfold Bz at h;split at h
 ·rename_i k a
  cases h;obtain⟨d,g⟩:=Br a b;refine⟨_,_,?_,KO HE (vals:=c.cells) (el:=t) d g⟩;simp[ajT,newVar,newRow]
 ·cases h
def KP{E:ae}(HE:aG E){sz n C:Nat}{rZ:List (List AV)}{g rest:List ak}{h:aD}(k:ar E rZ.flatten g)(I:∀ x∈g,dU x=true)
  (J:∀ r∈rZ,r.length=sz) (F:fg rZ) (d:rZ.length=n) (hC:n<=C) (A:rest.length=(C-n)*sz) :
  di E (.vQ sz E.H.length 0 0 n) (E.H++[.vQ sz 0 rZ]) (.slice (some ⟨E.w.heap.size,0,none⟩) n C) { E.w with heap:=E.w.heap.push (.cells (g++rest).toArray h) }:=by
 have t:=Ext.push E.w (.cells (g++rest).toArray h);have z:=ae.lF (o:=.vQ sz 0 rZ) (l:=some (E.w.heap.size,C)) HE.len t (fun b n q=>by cases q; exact aY _);have B:(E.w.heap.push (.cells (g++rest).toArray h))[E.w.heap.size]? = some (.cells (g++rest).toArray h (0,0)):=by simp
 have y:=FW (E':=E.push { E.w with heap:=E.w.heap.push (.cells (g++rest).toArray h) } (.vQ sz 0 rZ) (some (E.w.heap.size,C))) (fun a c k=>bG z a k) B k I J d hC A;refine⟨E.ad++[some (E.w.heap.size,C)],E.X.r,?_,aG.push HE t (fun b n q=>?_) ?_,z⟩
 ·simp only [ab]
  refine⟨⟨_,_,rfl,hC,fun _=>⟨_,_,rfl⟩⟩,⟨.vQ sz 0 rZ,by simp,rfl,fun v N=>by simp[ah.aU]at N; omega⟩,fun _=>⟨fun d=>?_,fun b M d=>?_⟩⟩
  ·rw[<-HE.len]at d; simp at d
  ·rw [<- HE.len] at d
   simp at d;obtain⟨rfl,rfl⟩:=d;exact⟨by omega,0,fun _=>by simp,by simp⟩
 ·cases q
  exact⟨aY _,by simp⟩
 ·simp only [aV]
  right;refine⟨E.w.heap.size,C,?_,y.1,by omega,F,y.2⟩;simp only[ae.push];rw[<-HE.len];simp
def range_zero(z:Array ak)(n:Nat)(h:0<z.size):((EY (n*z.size)).map (fun i=>z[i%z.size]!)).toList=(dz n z.toList).flatten:=by
 induction n with
 |zero=>simp
 | succ n d =>
  rw[List.replicate_succ',AX,<-d];simp only[xh,List.flatten_nil,fe];apply ou;intro i;simp only[JX,Array.toList_range,cX,fy,fJ,List.length_range];by_cases b:i<n*z.size
  ·have a : i < (n + 1) * z.size := by rw [fZ]; omega
   simp[b,a]
  ·by_cases a : i < (n + 1) * z.size
   ·have c3 : i - n * z.size < z.size := by rw [fZ] at a; omega
    have g:i%z.size=i-n*z.size:=by
     have:i=i-n*z.size+n*z.size:=by omega
     rw[this,Nat.add_mul_mod_self_right,Nat.mod_eq_of_lt c3];omega
    simp[b,a,g,c3]
   ·have c3 : ¬ (i - n * z.size < z.size) := by rw [fZ] at a; omega
    simp[b,a,c3]
def KQ(f:Nat->ak):JZ f (EY 0)=#[]:=by apply g_; simp
def KR:ak->Option Kd
 |.int k _=>some (.int k)
 |.string _=>some .str
 |.bool _=>some .bool
 |_=>none
def F3:List ak->Option (List Kd)
 | []=>some []
 | v::a=>match KR v,F3 a with
  |some k,some ks=>some (k::ks)
  |_,_=>none
def xG(P:ai)(t:aD):Option (List Kd):=match P.underlying t with
 | some (.slice e)=>match P.info? e with
  | some i=>match i.zero with
   |some (.agg a)=>F3 a.toList
   |some v=>F3 [v]
   |none=>none
  |none=>none
 |_=>none
def BA(P:ai):Nat->aD->List aD
 |0,t=>[t]
 | d+1,t=>match P.underlying t with
  |some (.struct a)=>(a.toList.map fun f=>BA P d f.type).flatten
  |some (.array n e)=>(dz n (BA P d e)).flatten
  |_=>[t]
def oD:List ak->List (Option (List Kd))->List AV
 | [],_=>[]
 | v::a,ks=>(match v,ks.headD none with
  |.slice none 0 0,some k=>.listF k []
  |v,_=>.lit v)::oD a ks.tail
def T8:AV->Option Kd
 |.listF k _=>some (.list k)
 |.lit v=>KR v
 |_=>none
def KS:List AV->Option (List Kd)
 | []=>some []
 | v::a=>match T8 v,KS a with
  |some k,some ks=>some (k::ks)
  |_,_=>none
def T9(P:ai)(t:aD):Option (List Kd):=match xG P t with
 |some ks=>some ks
 | none=>match P.underlying t with
  | some (.slice e)=>match P.info? e with
   | some i=>match i.zero with
    |some (.agg a)=>KS (oD a.toList ((BA P 4 e).map (xG P)))
    |_=>none
   |none=>none
  |_=>none
def BB(P:ai)(e:aD)(z:List ak):List AV:=oD z ((BA P 4 e).map (T9 P))
def KT:∀(z:List ak) (ks:List (Option (List Kd))),(oD z ks).length=z.length
 | [],_=>rfl
 |_::z,ks=>by simp[oD,KT z]
def KU{E:ae}:∀(z:List ak) (ks:List (Option (List Kd))),ar E (oD z ks) z
 | [],_=>by simp[oD,ar]
 | v::z,ks=>by
  simp only[oD,ar];refine⟨?_,KU z _⟩;split
  ·simp only [ab, eX, G.rZ]
   exact⟨none,0,rfl,aY _,.inl (by first|rfl|trivial)⟩
  ·simp[ab]
def KV:∀(z:List ak) (ks:List (Option (List Kd))),AV.cb (oD z ks)=true
 | [],_=>rfl
 | v::z,ks=>by
  simp only[oD,AV.cb,KV z,gu];split<;>rfl
def KW{E:ae}{as:List AV}{z:List ak}(h:ar E as z):∀ n:Nat,ar E (dz n as).flatten (dz n z).flatten
 |0=>by simp[ar]
 | n+1=>by
  simp only[S2,xh];exact nD h (KW h n)
def xH(P:ai)(t:aD)(l c:AV)(H:List ah):Option (AV × List ah) :=
 match cI P t,l,c with
 | .slice e sz a,.lit (.int _ l),.lit (.int _ c) =>
  match fl P e with
  | some z=>if z.length=sz/\0<sz/\0<=l/\l<=c/\c<=1048576/\a<=1048576 then
    some (.vQ sz H.length 0 0 l.toNat,H++[.vQ sz 0 (dz l.toNat (BB P e z))]) else none
  |none=>none
 |_,_,_=>none
def wrap_small{n:Int}(a:0<=n)(b:n<=1048576):IntKind.i64.wrap n=n:=by
 simp[IntKind.wrap,IntKind.bits,IntKind.signed];omega
def xI{E:ae}(z:List ak):∀ n:Nat,ar E (dz n (z.map AV.lit)).flatten (dz n z).flatten
 |0=>by simp[ar]
 | n+1=>by
  simp only[S2,xh];exact nD (oz z) (xI z n)
def xJ{α:Type}{z:List α}{n:Nat}{x:α}(h:x∈(dz n z).flatten):x∈z:=by
 obtain⟨l,b,a⟩:=List.mem_flatten.1 h;rw[S3 b]at a;exact a
def F4:∀(z:List ak),AV.cb (z.map .lit)=true
 | []=>rfl
 |v::z=>by simp[AV.cb,AV.closed,F4 z]
def T_{P:ai}{E:ae}(HE:aG E){t:aD}{l c v:AV}{cl M:ak}{H':List ah}(h:xH P t l c E.H=some (v,H'))
  (N:ab E l cl) (O:ab E c M):∃ u w',(ajU t cl M).run P E.w=.ok u w'/\di E v H' u w':=by
 unfold xH at h;split at h
 case h_2=>cases h
 rename_i e sz by_ k1 l k2 c hk;simp only[ab]at N O;subst N; subst O;obtain⟨hu,i,hi,hs,hby⟩:=iR hk;split at h
 case h_2=>cases h
 rename_i z hz;split at h
 case isFalse=>cases h
 rename_i W;obtain⟨d,g2,g3,g4,U,g6⟩:=W;cases h;obtain⟨i',a,F,Y,I,hz3⟩:=nF hz;rw[hi]at F;cases F;have wl:IntKind.i64.wrap l=l:=wrap_small g3 (by omega);have wc:IntKind.i64.wrap c=c:=wrap_small (by omega) U;have hbc:(i.bytes:Int)*c<=1048576*1048576:=by
  have g:(i.bytes:Int)<=1048576:=by omega
  have k:(0:Int)<=c:=by omega
  exact Int.mul_le_mul g U k (by omega)
 have hne:¬ (281474976710656<(i.bytes:Int)*c):=by omega
 have hzs:a.cells.size=sz:=by rw[<-d,<-I]; simp
 have B:(dz l.toNat z).flatten++(dz (c.toNat-l.toNat) z).flatten=(dz c.toNat z).flatten:=by
  rw[<-AX,List.replicate_append_replicate];congr 2;omega
 obtain⟨b,q⟩:∃ b,b=(dz l.toNat z).flatten:=⟨_,rfl⟩
 obtain⟨rest,J⟩:∃ rest,rest=(dz (c.toNat-l.toNat) z).flatten:=⟨_,rfl⟩
 have X:rest.length=(c.toNat-l.toNat)*sz:=by rw[J]; simp[d]
 rw[<-q,<-J]at B;refine⟨.slice (some ⟨E.w.heap.size,0,none⟩) l.toNat c.toNat,{ E.w with heap:=E.w.heap.push (.cells (b++rest).toArray e) },?_,?_⟩
 ·have g : ¬ c < 0 := by omega
  have k:¬ l<0:=by omega
  have h3:¬ c<l:=by omega
  simp only[ajU,cg,Sem.bH hu,bY,asInt,asIntOf,e_,typeInfo,run_program,hi,wl,wc];rw[iN (by simp[g,k,h3,hne])];simp only[cg,run_askRoom,bY,Sem.run_sizeOf hi];rw[B];by_cases y:c.toNat*i.size=0
  ·have:c.toNat=0:=by
    rcases S4.1 y with h|h
    ·exact h
    ·omega
   rw[iP y];simp only[cg,e_,bY,newRow,this,pr,KQ];simp
  ·rw [iN y]
   simp only[cg,nG hi Y,bY,e_,newRow];have:(JZ (fun x=>a.cells[x%a.cells.size]!) (EY (c.toNat*i.size)))=(dz c.toNat z).flatten.toArray:=by
    apply g_;rw[hs,<-hzs,range_zero a.cells c.toNat (by omega),I]
   rw[this];simp
 ·refine KP HE (C := c.toNat) (by rw [q]; exact KW (KU z _) _) (by intro x V; rw [q] at V; exact hz3 x (xJ V)) ?_ ?_ (by simp) (by omega) X
  ·intro r A
   have:=S3 A;rw[this];rw[BB,KT]; exact d
  ·intro r A
   have:=S3 A;rw[this];exact KV z _
def vh(P:ai)(t:aD)(n:Nat)(parts:List (Nat × AV)):Option AV :=
 match cI P t with
 | .slice e sz _=>match fl P e with
  | some z=>if z.length=sz/\0<sz/\n*sz<=1048576 then
    match sN (fun i=>some (i*sz,sz)) (dz n (z.map AV.lit)).flatten parts with
    |some out=>if AV.cb out=true/\out.length=n*sz then some (match n with|0=>.nils|_=>.list sz (chunk sz n out)) else none
    |none=>none
   else none
  |none=>none
 |_=>none
def Ua{P:ai}{E:ae}(HE:aG E){t:aD}{n:Nat}{parts:List (Nat × AV)}{cparts:List (Nat × ak)}{v:AV}(h:vh P t n parts=some v)
  (hm:parts.map (·.1)=cparts.map (·.1)) (hv:ar E (parts.map (·.2)) (cparts.map (·.2))) :
  ∃ u w',(J0 t n cparts.toArray).run P E.w=.ok u w'/\Ext E.w w'/\ab { E with w:=w' } v u:=by
 unfold vh at h;split at h
 case h_2=>cases h
 rename_i e sz by_ hk;obtain⟨hu,i,hi,d,_⟩:=iR hk;split at h
 case h_2=>cases h
 rename_i z hz;obtain⟨i',g,B,O,F,U⟩:=nF hz;rw[hi]at B;cases B;split at h
 case isFalse=>cases h
 rename_i hc;obtain⟨g1,g2,g3⟩:=hc;split at h
 case h_2=>cases h
 rename_i out M;split at h
 case isFalse=>cases h
 rename_i I;cases h;have V:g.cells.size=sz:=by rw[<-g1,<-F]; simp
 obtain⟨a,b⟩:∃ a:Array ak,a.toList=(dz n z).flatten:=⟨((dz n z).flatten).toArray,by simp⟩
 obtain⟨o,k,f2,f3⟩:=xD (E:=E) (cs:=a) M (by rw[b]; exact xI z n) (by rw[b]; intro x q; exact U x (xJ q)) hm hv;have A:=Ext.push E.w (.cells o e);have N:(E.w.heap.push (.cells o e))[E.w.heap.size]? = some (.cells o e (0,0)):=by simp
 refine⟨.slice (some ⟨E.w.heap.size,0,none⟩) n n,{ E.w with heap:=E.w.heap.push (.cells o e) },?_,A,?_⟩
 ·have W : ¬ (n * i.size > 2 ^ 24) := by rw [d]; omega
  simp only[J0,cg,Sem.bH hu,bY,Sem.run_sizeOf hi];rw[iN W];by_cases y:n*i.size=0
  ·have J:n=0:=by
    rcases S4.1 y with h|h
    ·exact h
    ·omega
   have:a=#[]:=by apply g_; rw[b,J]; rfl
   rw[iP y];rw[this]at k;simp only[cg,e_,bY,J,pr,KQ,d,k];simp[newRow]
  ·rw [iN y]
   simp only[cg,nG hi O,bY,e_];have:(JZ (fun x=>g.cells[x%g.cells.size]!) (EY (n*i.size)))=a:=by
    apply g_;rw[d,<-V,range_zero g.cells n (by omega),F,b]
   rw[this,d,k];simp[newRow]
 ·have Y : E.le { E with w := { E.w with heap := E.w.heap.push (.cells o e) } } := ae.iE A
  cases n with
  |zero=>simp only[ab]; exact⟨_,rfl⟩
  |succ n =>
  simp only[ab];refine⟨FT sz _ out I.1,some ⟨E.w.heap.size,0,none⟩,n+1,by rw[xE],by rw[xE]; exact aY _,.inr ⟨E.w.heap.size,0,rfl,?_,?_⟩⟩
  ·refine ⟨by simp, ?_, fun q => by have := HE.X _ q; omega⟩
   rintro ho;have:=(HE.Bg ho).1;omega
  ·exact KD sz _ out _ 0 I.2 (Bs (cs:=o) (el:=e) (fr:=(0,0)) N (dX Y _ f2) f3)
end Go.AL
