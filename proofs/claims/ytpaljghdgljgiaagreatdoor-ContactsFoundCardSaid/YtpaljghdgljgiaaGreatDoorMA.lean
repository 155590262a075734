/-
 What is proved here: basic facts of an abstract logic for the model's programs: abstract values,what they say of the model's values in a world,and that this survives what a call may do. No program in sight; no condition.
-/
import Derived.Calls
import Derived.Orders
import Derived.OrdersIn
import Derived.RangeFuncNested
import Derived.RangeFuncLeaves
import Derived.Laws.Sem
import Derived.Laws.Cells
import Derived.Laws.StructEq
import Derived.Laws.AppendOwn
import Derived.Laws.CopyRow
set_option linter.all false
open Array renaming getElem?_push->TI,length_toList->iw,toList_map->TQ,ext'->jb,range->jA,map->JQ
open BitVec renaming ofInt->Ba
open Bool renaming and_true->gW,and_eq_true->aL,false_eq_true->lk,and_assoc->aj8
open ByteArray renaming empty->A'
open Go renaming Value->al,TypeId->aD,World->ba,Program->aj,Operand->ct
open Go.Act renaming eval->E8
open Go.Addr.mk renaming injEq->E_
open Go.Builtin renaming lenOf->JO,firstCells->j8,append_->pJ,zeroCells->Be,nextslicecap->JP
open Go.Instr renaming loadAt->xO,sureAddr->mI,fieldAt->TJ,indexAt->xP,sliceBounds->uA,sliceBound->Fa,sliceAt->pH,slice->qC,index->TM,field->aka,fill->akb,build->TO,storeAt->uC,alloc->Ff,box->akd,makeSlice->ake,buildSlice->JS
open Go.Op renaming bytesLess->lj,equalIn->j6,eqFields->Bc,equal->Bd
open Go.Program renaming fieldsOf->aj9
open Go.Result renaming andThen_ok->b_
open Go.Sem renaming run_bind->cf,run_pure->fp
open Go.Value renaming cells->JM
open Go.Value.pointer renaming injEq->aj6
open Go.Value.slice renaming injEq->l6
open Go.World renaming cell?->uz,setRow->akc
open List renaming length_cons->cd,append_nil->dJ,getElem?_append_left->di,getElem?_eq_some_iff->JH,length_map->c9,getElem?_map->bW,getElem?_eq_getElem->bY,mem_of_getElem?->eO,getElem?_eq_none->oG,getElem?_append_right->ja,getElem?_append->gj,getElem?_set_self->bB,getElem?_set_ne->bf,getElem?_set->ef,set_eq_of_length_le->JI,all_eq_true->dK,getD_eq_getElem?_getD->cu,getElem?_drop->sI,getElem?_take->oH,take_succ_cons->E9,mem_cons->cq,map_cons->dx,map_take->JJ,map_drop->JK,mem_of_mem_drop->Bb,mem_of_mem_take->xQ,cons_append->l7,take_one->TK,eq_nil_of_length_eq_zero->uB,drop_drop->sJ,take_append_drop->xS,ext_getElem?->jz,length_take->j7,length_append->fX,mem_append->c_,mapM_cons->TN,flatten_cons->pI,getElem?_of_mem->xT,size_toArray->Bf,length_drop->pK,flatten_append->Bg,replicate->cC,replicate_succ->TR,eq_of_mem_replicate->TS
open List.cons renaming injEq->JN
open Nat renaming add_assoc->sH,add_comm->xN,add_mul->gv,le_refl->aQ,le_add_right->gX,le_trans->kJ,lt_of_lt_of_le->eQ,zero_le->eR,ne_of_lt->aj5,lt_or_ge->l5,zero_add->cP,sub_sub->aj7,sub_zero->fL,zero_mul->qD,add_zero->nJ,mul_le_mul_right->qE,one_mul->xU,mul_eq_zero->TT
open Option renaming map_eq_some_iff->eM,isSome_iff_exists->Fb
open Option.some renaming injEq->be
open Prod.mk renaming injEq->bo
open Std.Legacy.Range renaming forIn_eq_forIn_range'->aj_,size->aj'
namespace Go.AL
section
universe u
theorem iN{c:Prop}{h:Decidable c}(n:¬c){α:Sort u}{t e:α}:(ite c t e)=e:=if_neg n
theorem iP{c:Prop}{h:Decidable c}(n:c){α:Sort u}{t e:α}:(ite c t e)=t:=if_pos n
theorem dT{p:Prop}[Decidable p]:(decide p=true)=p:=decide_eq_true_eq
theorem dF{p:Prop}{_:Decidable p}:decide p=false↔¬p:=decide_eq_false_iff_not
theorem dE{p:Prop}[h:Decidable p]:p->decide p=true:=decide_eq_true
theorem cT{α:Sort u}{a b:α}:cond true a b=a:=rfl
theorem cF{α:Sort u}{a b:α}:cond false a b=b:=rfl
end
inductive Kd where
 |int (k:IntKind)
 |str
 |bool
 |list (ks:List Kd)
 deriving Inhabited
inductive G where
 |i (n:Int)
 |s (b:ByteArray)
 |t (x:Bool)
 |l (rZ:List (List G))
instance:Inhabited G:=⟨.i 0⟩
def G.iV:G->Int
 |.i n=>n
 |_=>0
def G.sV:G->ByteArray
 |.s b=>b
 |_=>A'
def G.bV:G->Bool
 |.t x=>x
 |_=>false
def G.rZ:G->List (List G)
 |.l rZ=>rZ
 |_=>[]
inductive AV where
 |undef
 |lit (v:al)
 |nils
 |list (k:Nat) (rZ:List (List AV))
 |listF (ks:List Kd) (rZ:List (List G))
 |agg (cells:List AV)
 |tuple (vs:List AV)
 |cptr (cells:List AV)
 |ptr (id ak k row col:Nat)
 |vQ (k id ak oF n:Nat)
 |map (id:Nat)
 |clo (f:FuncId) (caps:List AV)
 |ifc
 |emptyS (isNil:Bool)
 |sub (id l:Nat) (j:Option Nat)
 |svec (id l j n:Nat)
 |sptr (id l j k row col:Nat)
 deriving Inhabited
def kL:Kd->G->AV
 |.int k,g=>.lit (.int k g.iV)
 |.str,g=>.lit (.string g.sV)
 |.bool,g=>.lit (.bool g.bV)
 |.list ks,g=>.listF ks g.rZ
def aT:List Kd->List G->List AV
 | [],_=>[]
 |k::ks,g=>kL k (g.headD default)::aT ks g.tail
theorem sS:∀(ks:List Kd) (g:List G),(aT ks g).length=ks.length
 | [],_=>rfl
 |_::ks,g=>by simp[aT,sS ks]
inductive ai where
 |dead
 |box (cells:List AV)
 |vQ (k ak:Nat) (rZ:List (List AV))
 |map (es:List (AV × AV × Nat)) (clock:Nat)
 |iter (s:ByteArray) (pos:Nat)
 |gx (l:Nat) (T B:aD) (s:ByteArray)
 |a7 (l k:Nat) (es:List (AV × Option (List (List AV)) × Nat)) (clock:Nat)
 |mm (l:Nat) (es:List (AV × Option Nat × Nat)) (ms:List (List (AV × AV × Nat) × Nat)) (clock:Nat)
 |fA
 |cM (l k n:Nat) (ms:List (List (List AV)))
 |bH (l k:Nat) (es:List (AV × (Option (List (List AV)) × Option (List (List AV))) × Nat)) (clock:Nat)
 deriving Inhabited
def ai.born:ai->Bool
 |.fA=>false
 |_=>true
def ai.label:ai->Option Nat
 |.gx l _ _ _=>some l
 |.a7 l _ _ _=>some l
 |.mm l _ _ _=>some l
 |.cM l _ _ _=>some l
 |.bH l _ _ _=>some l
 |_=>none
def ai.dR:ai->Option Nat
 |.mm l _ _ _=>some l
 |.cM l _ _ _=>some l
 |_=>none
theorem ai.nP{o:ai}{l:Nat}(h:o.dR=some l):o.label=some l:=by
 cases o<;>first|exact h|cases h
theorem ai.Fq{o:ai}{l:Nat}(h:o.dR=some l):o.born=true:=by
 cases o<;>first|rfl|cases h
theorem ai.Bw{o:ai}{l:Nat}(h:o.label=some l):o.born=true:=by
 cases o<;>first|rfl|cases h
theorem ai.Bx{o:ai}(h:o.label=none):o.dR=none:=by
 cases o<;>first|rfl|cases h
def ai.aU : ai->Option Nat
 |.dead=>none
 |.box _=>some 0
 |.vQ _ v _=>some v
 |.map _ _=>some 0
 |.iter _ _=>some 0
 |.gx ..=>some 0
 |.a7 ..=>some 0
 |.mm ..=>some 0
 |.cM ..=>some 0
 |.bH ..=>some 0
 |.fA=>none
theorem ai.Fs{o:ai}{v:Nat}(h:o.aU = some v):o.born=true:=by
 cases o<;>first|rfl|cases h
structure XS where
 x:Nat->Prop
 z:Nat->Prop
 r:Nat->List (Option (Option (Nat × Nat)))
instance:CoeFun XS fun _=>Nat->Prop:=⟨XS.x⟩
def XS.or(X:XS)(p:Nat->Prop):XS:=⟨fun b=>X b\/p b,X.z,X.r⟩
def XS.re(X:XS) (r:Nat->List (Option (Option (Nat × Nat)))):XS:=⟨X.x,X.z,r⟩
@[simp] theorem XS.Ft (X:XS):X.re X.r=X:=rfl
@[simp] theorem XS.akS (X:XS) (r):(X.re r).x=X.x:=rfl
@[simp] theorem XS.akT (X:XS) (r):(X.re r).z=X.z:=rfl
@[simp] theorem XS.akU (X:XS) (r):(X.re r).r=r:=rfl
@[simp] theorem XS.akV (X:XS) (r d):(X.re r).re d=X.re d:=rfl
theorem XS.Kh{X d:XS}(h:d.x=X.x/\d.z=X.z)(r):d.re r=X.re r:=by
 unfold XS.re;rw[h.1,h.2]
def fe:Nat->List (Option (Option (Nat × Nat))):=fun _=>[]
def x9:List (Nat × Array al):=[]
class Dr where
 d:Bool
abbrev x_:Dr:=⟨true⟩
variable [Dr]
def Um:Bool:=Dr.d
structure af where
 w:ba
 H:List ai
 ae:List (Option (Nat × Nat))
 X:XS
def af.sat(E:af)(b:Nat):Prop:=∃(l h m:Nat),(E.X.r l)[h]? = some (some (some (b,m)))
def af.ab(E:af)(b:Nat):Prop:=(∃(id:Nat) (c:Nat),E.ae[id]? = some (some (b,c)))\/E.sat b
def af.kM(E:af)(b:Nat):Prop:=b<E.w.heap.size/\¬ E.ab b/\¬ E.X b
def af.live(E:af)(id ak:Nat):Prop:=∃ o,E.H[id]? = some o/\o.aU = some ak
def af.bu(E:af)(id ak:Nat):Prop:=∃ o,E.H[id]? = some o/\o.born=true/\∀ v,o.aU = some v->ak<=v
def dQ (r:List (Option (Option (Nat × Nat)))):List Nat:=r.filterMap fun x=>match x with
 |some (some (b,_))=>some b
 |_=>none
theorem ya (r t:List (Option (Option (Nat × Nat)))):dQ (r++t)=dQ r++dQ t:=List.filterMap_append
def af.uO(E:af)(id l j:Nat)(p:Nat->Prop):Prop:=(∃ o,E.H[id]? = some o/\o.dR=some l)/\∃ b,(dQ (E.X.r l))[j]? = some b/\p b
def af.Ki(E:af)(id l i:Nat)(c:al):Prop:=(∃ o,E.H[id]? = some o/\o.dR=some l)/\∃ b,(dQ (E.X.r l))[i]? = some b/\c=.map (some b)
def dW:al->Bool
 |.agg _ | .tuple _=>false
 |_=>true
mutual
def AV.closed:AV->Bool
 |.undef | .lit _ | .nils | .list _ _ | .listF _ _ | .cptr _ | .ifc | .emptyS _=>true
 |.agg cs | .tuple cs | .clo _ cs=>AV.bK cs
 |.ptr .. | .vQ .. | .map _ | .sub .. | .svec .. | .sptr ..=>false
def AV.bK:List AV->Bool
 | []=>true
 |a::as=>a.closed&&AV.bK as
end
theorem gJ:∀(ks:List Kd) (g:List G),AV.bK (aT ks g)=true
 | [],_=>rfl
 | k::ks,g=>by
  simp only[aT,AV.bK,gJ ks,gW];cases k<;>rfl
mutual
def fk(E:af):Kd->G->al->Prop
 |.int k,g,c=>c=.int k g.iV
 |.str,g,c=>c=.string g.sV
 |.bool,g,c=>c=.bool g.bV
 | .list ks,g,c=>∃ aN cap,c=.slice aN g.rZ.length cap/\g.rZ.length<=cap /\
   (g.rZ=[]\/∃ b o,aN=some ⟨b,o,none⟩/\E.kM b/\∀(i:Nat) (r:List G),g.rZ[i]? = some r->nQ E ks r b (o+i*ks.length))
def nQ(E:af):List Kd->List G->Nat->Nat->Prop
 | [],_,_,_=>True
 |k::ks,g,b,o=>(∃ v,E.w.cell? ⟨b,o,none⟩=some v/\dW v=true/\fk E k (g.headD default) v)/\nQ E ks g.tail b (o+1)
end
def fq(rZ:List (List AV)):Prop:=∀ r∈rZ,AV.bK r=true
mutual
def ad(E:af):AV->al->Prop
 |.undef,_=>True
 |.lit v,c=>c=v
 |.nils,c=>∃ aN,c=.slice aN 0 0
 | .list k rZ,c=>fq rZ/\∃ aN cap,c=.slice aN rZ.length cap/\rZ.length<=cap /\
   (rZ=[]\/∃ b o,aN=some ⟨b,o,none⟩/\E.kM b/\cX E k rZ b o)
 |.listF ks rZ,c=>fk E (.list ks) (.l rZ) c
 |.agg cells,c=>∃ cs:Array al,c=.agg cs/\(∀ x∈cs.toList,dW x=true)/\aw E cells cs.toList
 |.tuple g,c=>∃ cs:Array al,c=.tuple cs/\aw E g cs.toList
 |.cptr cells,c=>AV.bK cells=true/\∃ b o,c=.pointer (some ⟨b,o,none⟩)/\E.kM b/\cU E cells b o
 | .ptr id ak k row d,c=>(∃ b o,c=.pointer (some ⟨b,o,none⟩))/\E.bu id ak/\(E.live id ak->∃ b n,E.ae[id]? = some (some (b,n)) /\
   c=.pointer (some ⟨b,row*k+d,none⟩))
 | .vQ k id ak oF n,c=>(∃ aN cap,c=.slice aN n cap/\n<=cap/\(0<n->∃ b o,aN=some ⟨b,o,none⟩))/\E.bu id ak/\(E.live id ak ->
   (E.ae[id]? = some none->n=0/\oF=0/\∃ aN,c=.slice aN 0 0) /\
   (∀ b m,E.ae[id]? = some (some (b,m))->oF+n<=m/\∃ o,(oF<m->o=oF*k)/\c=.slice (some ⟨b,o,none⟩) n (m-oF)))
 |.map id,c=>(∃ b,c=.map (some b))/\E.bu id 0/\(E.live id 0->∃ b n,E.ae[id]? = some (some (b,n))/\c=.map (some b))
 |.clo f caps,c=>∃ cs:Array al,c=.func (.func f) #[] cs/\aw E caps cs.toList
 |.ifc,c=>∃ t v,c=.iface t v
 |.emptyS n,c=>∃ aN cap,c=.slice aN 0 cap/\aN.isNone=n
 |.sub id l j,c=>(j=none/\c=.map none)\/∃ i,j=some i/\(∃ b,c=.map (some b))/\E.bu id 0/\(E.live id 0->E.Ki id l i c)
 |.svec id l j n,c=>(∃ aN cap,c=.slice aN n cap/\n<=cap/\(0<n->∃ b o,aN=some ⟨b,o,none⟩))/\E.bu id 0/\(E.live id 0->E.uO id l j fun b=>∃ m,n<=m/\c=.slice (some ⟨b,0,none⟩) n m)
 |.sptr id l j k row d,c=>(∃ b o,c=.pointer (some ⟨b,o,none⟩))/\E.bu id 0/\(E.live id 0->E.uO id l j fun b=>c=.pointer (some ⟨b,row*k+d,none⟩))
def aw(E:af):List AV->List al->Prop
 | [],[]=>True
 |a::as,v::d=>ad E a v/\aw E as d
 |_,_=>False
def cU(E:af):List AV->Nat->Nat->Prop
 | [],_,_=>True
 |a::as,b,o=>(∃ v,E.w.cell? ⟨b,o,none⟩=some v/\dW v=true/\ad E a v)/\cU E as b (o+1)
def cX(E:af)(k:Nat):List (List AV)->Nat->Nat->Prop
 | [],_,_=>True
 |r::rs,b,o=>r.length=k/\cU E r b o/\cX E k rs b (o+k)
end
theorem ka{E:af}:∀{as:List AV} {d:List al},aw E as d->as.length=d.length
 | [],[],_=>rfl
 |_::_,_::_,h=>by simp only[aw]at h; simp[ka h.2]
 | [],_::_,h=>by simp[aw]at h
 |_::_,[],h=>by simp[aw]at h
theorem pO{E:af}:∀{as:List AV} {h:List al},
  aw E as h↔as.length=h.length/\∀(i:Nat) a v,as[i]? = some a->h[i]? = some v->ad E a v
 | [],[]=>by simp[aw]
 | [],_::_=>by simp[aw]
 |_::_,[]=>by simp[aw]
 | a::as,v::h=>by
  simp only[aw,pO (as:=as),cd];constructor
  ·rintro ⟨h1, k, q⟩
   refine⟨by omega,fun i x y d g=>?_⟩;cases i with
   |zero=>simp at d g; subst d; subst g; exact h1
   |succ i=>exact q i x y (by simpa using d) (by simpa using g)
  ·rintro ⟨h1, k⟩
   exact⟨k 0 a v rfl rfl,by omega,fun i x y d g=>k (i+1) x y (by simpa using d) (by simpa using g)⟩
theorem ke{E:af}:∀{as:List AV} {b o:Nat},
  cU E as b o↔∀(i:Nat) a,as[i]? = some a->∃ v,E.w.cell? ⟨b,o+i,none⟩=some v/\dW v=true/\ad E a v
 | [],b,o=>by simp[cU]
 | a::as,b,o=>by
  simp only[cU,ke (as:=as)];constructor
  ·rintro ⟨h1, g⟩ i x d
   cases i with
   |zero=>simp at d; subst d; exact h1
   |succ i=>have:=g i x (by simpa using d); rwa [sH,xN 1 i]at this
  ·intro h
   refine⟨h 0 a rfl,fun i x d=>?_⟩;have:=h (i+1) x (by simpa using d)
   rwa [sH,xN 1 i]
theorem nR{E:af}{k:Nat}:∀{rs:List (List AV)} {b o:Nat},
  cX E k rs b o↔∀(i:Nat) r,rs[i]? = some r->r.length=k/\cU E r b (o+i*k)
 | [],b,o=>by simp[cX]
 | r::rs,b,o=>by
  simp only[cX,nR (rs:=rs)];constructor
  ·rintro ⟨h0, h1, g⟩ i x d
   cases i with
   |zero=>simp at d; subst d; simpa using⟨h0,h1⟩
   | succ i =>
    have:=g i x (by simpa using d)
    rwa [sH,show k+i*k=(i+1)*k from by rw[gv]; omega]at this
  ·intro h
   have h0:=h 0 r rfl;refine⟨h0.1,by simpa using h0.2,fun i x d=>?_⟩;have:=h (i+1) x (by simpa using d)
   rwa [sH,show k+i*k=(i+1)*k from by rw[gv]; omega]
def ft(w w':ba):Prop:=w'.os=w.os/\w'.output=w.output/\w'.tape=w.tape/\(Um=true->w.drawn<=w'.drawn)
theorem ft.refl(w:ba):ft w w:=⟨rfl,rfl,rfl,by first|exact fun _=>aQ _|exact fun _=>gX _ _⟩
theorem ft.trans{w w' d:ba}(h:ft w w')(h':ft w' d):ft w d:=⟨h'.1.trans h.1,h'.2.1.trans h.2.1,h'.2.2.1.trans h.2.2.1,fun t=>kJ (h.2.2.2 t) (h'.2.2.2 t)⟩
structure af.le (E E':af):Prop where
 bu:∀ id ak,E.bu id ak->E'.bu id ak
 size:E.w.heap.size<=E'.w.heap.size
 same:∀ b,b<E.w.heap.size->¬ E.ab b->E'.w.heap[b]? = E.w.heap[b]?
 ab:∀ b,b<E.w.heap.size->¬ E.ab b->¬ E'.ab b
 live:∀ id ak,E.bu id ak->E'.live id ak->E.live id ak/\E'.ae[id]? = E.ae[id]?
 X:E'.X.x=E.X.x/\E'.X.z=E.X.z
 rl:∀ l h,h<(E.X.r l).length->h<(E'.X.r l).length/\∀ q,(E'.X.r l)[h]? = some (some q)->(E.X.r l)[h]? = some (some q)
 env:ft E.w E'.w
 grow:∀ id l o,E.H[id]? = some o->o.dR=some l->E'.live id 0->(∃ t,E'.X.r l=E.X.r l++t)/\∃ o',E'.H[id]? = some o'/\o'.dR=some l
theorem af.le.refl(E:af):E.le E:=⟨fun _ _ h=>h,aQ _,fun _ _ _=>rfl,fun _ _ h=>h,fun _ _ _ h=>⟨h,rfl⟩,⟨rfl,rfl⟩,fun _ _ h=>⟨h,fun _ d=>d⟩,⟨rfl,rfl,rfl,by first|exact fun _=>aQ _|exact fun _=>gX _ _⟩,fun _ _ o h1 g _=>⟨⟨[],(dJ _).symm⟩,o,h1,g⟩⟩
theorem af.le.ok{E E':af}(h:E.le E')(b:Nat)(hb:E.kM b):E'.kM b :=
 ⟨eQ hb.1 h.size,h.ab b hb.1 hb.2.1,by rw[show E'.X.x=E.X.x from h.X.1]; exact hb.2.2⟩
theorem af.le.trans{E E' N:af}(h:E.le E')(h':E'.le N):E.le N where
 bu:=fun id ak d=>h'.bu id ak (h.bu id ak d)
 size:=kJ h.size h'.size
 same:=fun b hb ho=>by rw[h'.same b (eQ hb h.size) (h.ab b hb ho),h.same b hb ho]
 ab:=fun b hb ho=>h'.ab b (eQ hb h.size) (h.ab b hb ho)
 live:=fun id ak O hl=>by
  obtain⟨g,k⟩:=h'.live id ak (h.bu id ak O) hl;obtain⟨y,I⟩:=h.live id ak O g;exact⟨y,by rw[k,I]⟩
 X:=⟨by rw[h'.X.1,h.X.1],by rw[h'.X.2,h.X.2]⟩
 rl:=fun l i hi=>by
  obtain⟨g,k⟩:=h.rl l i hi;obtain⟨y,I⟩:=h'.rl l i g;exact⟨y,fun q hq=>k q (I q hq)⟩
 env:=h.env.trans h'.env
 grow:=fun id l o h1 U M=>by
  have d:E.bu id 0:=⟨o,h1,ai.Fq U,fun v M=>eR _⟩
  obtain⟨V,_⟩:=h'.live id 0 (h.bu id 0 d) M;obtain⟨⟨t,ht⟩,o',g1,g2⟩:=h.grow id l o h1 U V;obtain⟨⟨t',W⟩,o'',g3,g4⟩:=h'.grow id l o' g1 g2 M;exact⟨⟨t++t',by rw[W,ht,List.append_assoc]⟩,o'',g3,g4⟩
theorem World.uP{w w':ba}{b o:Nat}(h:w'.heap[b]? = w.heap[b]?):w'.cell? ⟨b,o,none⟩=w.cell? ⟨b,o,none⟩:=by
 simp[uz,h]
structure af.bT (E E':af):Prop where
 ok:∀ b,E.kM b->E'.kM b/\E'.w.heap[b]? = E.w.heap[b]?
theorem af.le.toC{E E':af}(h:E.le E'):E.bT E':=⟨fun b hb=>⟨h.ok b hb,h.same b hb.1 hb.2.1⟩⟩
mutual
theorem Kj{E E':af}(h:E.bT E'):∀(k:Kd) {g:G} {c:al},fk E k g c->fk E' k g c
 |.int k,g,c,d=>by simpa only[fk]using d
 |.str,g,c,d=>by simpa only[fk]using d
 |.bool,g,c,d=>by simpa only[fk]using d
 | .list ks,g,c,d=>by
  simp only[fk]at d|-;obtain⟨aN,cap,M,I,y⟩:=d;refine⟨aN,cap,M,I,?_⟩;rcases y with N|⟨b,o,hb,q,v⟩
  ·exact .inl N
  ·exact .inr ⟨b,o,hb,(h.ok b q).1,fun i r hi=>Kk h ks (h.ok b q).2 (v i r hi)⟩
theorem Kk{E E':af}(h:E.bT E'):∀(ks:List Kd) {g:List G} {b o:Nat},E'.w.heap[b]? = E.w.heap[b]? -> nQ E ks g b o->nQ E' ks g b o
 | [],_,_,_,_,_=>by simp[nQ]
 | k::ks,g,b,o,hb,d=>by
  simp only[nQ]at d|-;obtain⟨⟨v,h1,q,y⟩,I⟩:=d;exact⟨⟨v,by rw[World.uP hb]; exact h1,q,Kj h k y⟩,Kk h ks hb I⟩
end
mutual
theorem fB{E E':af}(h:E.bT E'):∀(a:AV) {c:al},a.closed=true->ad E a c->ad E' a c
 |.undef,_,_,_=>by simp[ad]
 |.lit v,c,_,d=>by simpa only[ad]using d
 |.nils,c,_,d=>by simpa only[ad]using d
 | .list k rZ,c,_,d=>by
  simp only[ad]at d|-;obtain⟨y,aN,cap,g,O,N⟩:=d;refine⟨y,aN,cap,g,O,?_⟩;rcases N with rfl|⟨b,o,hb,I,M⟩
  ·exact .inl rfl
  ·exact .inr ⟨b,o,hb,(h.ok b I).1,kN h rZ y (h.ok b I).2 M⟩
 | .listF ks rZ,c,_,d=>by
  simp only[ad]at d|-;exact Kj h _ d
 | .agg cells,c,g,d=>by
  simp only[ad]at d|-;obtain⟨cs,e,h1,q⟩:=d;exact⟨cs,e,h1,qJ h cells (by simpa only[AV.closed]using g) q⟩
 | .tuple cells,c,g,d=>by
  simp only[ad]at d|-;obtain⟨cs,e,q⟩:=d;exact⟨cs,e,qJ h cells (by simpa only[AV.closed]using g) q⟩
 | .cptr cells,c,g,d=>by
  simp only[ad]at d|-;obtain⟨y,b,o,e,I,q⟩:=d;exact⟨y,b,o,e,(h.ok b I).1,uQ h cells y (h.ok b I).2 q⟩
 |.ptr ..,_,g,_=>by simp[AV.closed]at g
 |.vQ ..,_,g,_=>by simp[AV.closed]at g
 |.map _,_,g,_=>by simp[AV.closed]at g
 |.sub ..,_,g,_=>by simp[AV.closed]at g
 |.svec ..,_,g,_=>by simp[AV.closed]at g
 |.sptr ..,_,g,_=>by simp[AV.closed]at g
 | .clo f caps,c,g,d=>by
  simp only[ad]at d|-;obtain⟨cs,e,q⟩:=d;exact⟨cs,e,qJ h caps (by simpa only[AV.closed]using g) q⟩
 |.ifc,c,_,d=>by simpa only[ad]using d
 |.emptyS n,c,_,d=>by simpa only[ad]using d
theorem qJ{E E':af}(h:E.bT E'):∀(as:List AV) {g:List al},AV.bK as=true->aw E as g->aw E' as g
 | [],[],_,_=>by simp[aw]
 | [],_::_,_,d=>by simp[aw]at d
 |_::_,[],_,d=>by simp[aw]at d
 | a::as,v::g,k,d=>by
  simp only[AV.bK,aL]at k;simp only[aw]at d|-;exact⟨fB h a k.1 d.1,qJ h as k.2 d.2⟩
theorem uQ{E E':af}(h:E.bT E'):∀(as:List AV) {b o:Nat},AV.bK as=true->E'.w.heap[b]? = E.w.heap[b]? -> cU E as b o->cU E' as b o
 | [],_,_,_,_,_=>by simp[cU]
 | a::as,b,o,d,hb,g=>by
  simp only[AV.bK,aL]at d;simp only[cU]at g|-;obtain⟨⟨v,h1,k,q⟩,y⟩:=g;exact⟨⟨v,by rw[World.uP hb]; exact h1,k,fB h a d.1 q⟩,uQ h as d.2 hb y⟩
theorem kN{E E':af}(h:E.bT E'){k:Nat}:∀(rs:List (List AV)) {b o:Nat},fq rs->E'.w.heap[b]? = E.w.heap[b]? -> cX E k rs b o->cX E' k rs b o
 | [],_,_,_,_,_=>by simp[cX]
 | r::rs,b,o,g,hb,d=>by
  simp only[cX]at d|-;exact⟨d.1,uQ h r (g r (by simp)) hb d.2.1,kN h rs (fun x q=>g x (by simp[q])) hb d.2.2⟩
end
theorem af.Kl{E E':af}(h:E.le E'){id l j:Nat}{p:Nat->Prop}(k:E.bu id 0)(q:E.live id 0->E.uO id l j p)(d:E'.live id 0):E'.uO id l j p:=by
 obtain⟨v,_⟩:=h.live id 0 k d;obtain⟨⟨o,y,I⟩,b,g,M⟩:=q v;obtain⟨⟨t,N⟩,ho⟩:=h.grow id l o y I d;refine⟨ho,b,?_,M⟩;rw[N,ya,di (JH.1 g).1];exact g
mutual
theorem bD{E E':af}(h:E.le E'):∀(a:AV) {c:al},ad E a c->ad E' a c
 |.undef,_,_=>by simp[ad]
 |.lit v,c,d=>by simpa only[ad]using d
 |.nils,c,d=>by simpa only[ad]using d
 |.list k rZ,c,d=>fB h.toC _ (by simp[AV.closed]) d
 |.listF ks rZ,c,d=>fB h.toC _ (by simp[AV.closed]) d
 | .agg cells,c,d=>by
  simp only[ad]at d|-;obtain⟨cs,e,h1,g⟩:=d;exact⟨cs,e,h1,en h cells g⟩
 | .tuple cells,c,d=>by
  simp only[ad]at d|-;obtain⟨cs,e,g⟩:=d;exact⟨cs,e,en h cells g⟩
 |.cptr cells,c,d=>fB h.toC _ (by simp[AV.closed]) d
 | .ptr id ak k row M,c,d=>by
  simp only[ad]at d|-;refine⟨d.1,h.bu _ _ d.2.1,fun q=>?_⟩;obtain⟨h1,g⟩:=h.live id ak d.2.1 q;rw[g];exact d.2.2 h1
 | .vQ k id ak oF n,c,d=>by
  simp only[ad]at d|-;refine⟨d.1,h.bu _ _ d.2.1,fun q=>?_⟩;obtain⟨h1,g⟩:=h.live id ak d.2.1 q;rw[g];exact d.2.2 h1
 | .map id,c,d=>by
  simp only[ad]at d|-;refine⟨d.1,h.bu _ _ d.2.1,fun q=>?_⟩;obtain⟨h1,g⟩:=h.live id 0 d.2.1 q;rw[g];exact d.2.2 h1
 | .clo f caps,c,d=>by
  simp only[ad]at d|-;obtain⟨cs,e,g⟩:=d;exact⟨cs,e,en h caps g⟩
 |.ifc,c,d=>by simpa only[ad]using d
 |.emptyS n,c,d=>by simpa only[ad]using d
 | .sub id l j,c,d=>by
  simp only[ad]at d|-;rcases d with d|⟨i,h1,g,y,N⟩
  ·exact .inl d
  ·refine .inr ⟨i, h1, g, h.bu _ _ y, fun q => ?_⟩
   obtain⟨O,_⟩:=h.live id 0 y q;obtain⟨⟨o,U,V⟩,b,I,W⟩:=N O;obtain⟨⟨t,ht⟩,ho⟩:=h.grow id l o U V q;refine⟨ho,b,?_,W⟩;rw[ht,ya,di (JH.1 I).1];exact I
 | .svec id l j n,c,d=>by
  simp only[ad]at d|-;exact⟨d.1,h.bu _ _ d.2.1,fun q=>af.Kl h d.2.1 d.2.2 q⟩
 | .sptr id l j k row M,c,d=>by
  simp only[ad]at d|-;exact⟨d.1,h.bu _ _ d.2.1,fun q=>af.Kl h d.2.1 d.2.2 q⟩
theorem en{E E':af}(h:E.le E'):∀(as:List AV) {g:List al},aw E as g->aw E' as g
 | [],[],_=>by simp[aw]
 | [],_::_,d=>by simp[aw]at d
 |_::_,[],d=>by simp[aw]at d
 | a::as,v::g,d=>by
  simp only[aw]at d|-;exact⟨bD h a d.1,en h as d.2⟩
end
theorem Un{E:af}(k:Kd)(g:G)(c:al):ad E (kL k g) c↔fk E k g c:=by
 cases k with
 |int k=>simp only[kL,ad,fk]
 |str=>simp only[kL,ad,fk]
 |bool=>simp only[kL,ad,fk]
 |list ks=>simp only[kL,ad,fk,G.rZ]
theorem Fu{E:af}:∀(ks:List Kd) (g:List G) (b o:Nat),cU E (aT ks g) b o↔nQ E ks g b o
 | [],_,_,_=>by simp[aT,cU,nQ]
 |k::ks,g,b,o=>by simp only[aT,cU,nQ,Fu ks,Un]
theorem kf{E:af}{ks:List Kd}{rZ:List (List G)}{c:al}:ad E (.listF ks rZ) c↔ad E (.list ks.length (rZ.map (aT ks))) c:=by
 simp only[ad,fk,G.rZ,c9,List.map_eq_nil_iff];have q:fq (rZ.map (aT ks)):=by
  intro r d;obtain⟨g,_,rfl⟩:=List.mem_map.1 d;exact gJ ks g
 have d:∀ b o,(∀(i:Nat) (r:List G),rZ[i]? = some r->nQ E ks r b (o+i*ks.length))↔cX E ks.length (rZ.map (aT ks)) b o:=by
  intro b o;rw[nR];constructor
  ·intro h i r hi
   simp only[bW,eM]at hi;obtain⟨g,k,rfl⟩:=hi;exact⟨sS ks g,(Fu ks g _ _).2 (h i g k)⟩
  ·intro h i g k
   exact(Fu ks g _ _).1 (h i (aT ks g) (by simp[k])).2
 simp only[d,q,true_and]
end Go.AL

namespace Go.AL
variable [Dr]
def isRow(w:ba)(b n:Nat):Prop:=∃ cs d,w.heap[b]? = some (.cells cs d (0,0))/\cs.size=n
def bI(E:af):List (AV × AV × Nat)->List MapEntry->Prop
 | [],[]=>True
 |(k,v,n)::d,e::g=>ad E k e.key/\ad E v e.val/\e.born=n/\k.closed=true/\v.closed=true/\bI E d g
 |_,_=>False
def Fv(w:ba)(B:aD)(s:ByteArray)(v:al):Option (Nat × Nat)->Prop
 |none=>v=.slice none 0 0/\s.data.toList=[]
 | some (g,m)=>v=.slice (some ⟨g,0,none⟩) s.data.toList.length m/\∃ cs fz,w.heap[g]? = some (.cells cs B fz)/\fz.2<=s.data.toList.length/\cs.size=m/\s.data.toList.length<=m/\m<=9223372036854775807 /\
   cs.toList.take s.data.toList.length=s.data.toList.map fun b=>Value.int .u8 (b.toNat:Int)
theorem Fw{w w':ba}{B:aD}{s:ByteArray}{v:al}{q:Option (Nat × Nat)}(h:∀ g m,q=some (g,m)->w'.heap[g]? = w.heap[g]?)(d:Fv w B s v q):Fv w' B s v q:=by
 cases q with
 |none=>exact d
 | some k =>
  obtain⟨g,m⟩:=k;obtain⟨h1,cs,fz,y,I⟩:=d;exact⟨h1,cs,fz,by rw[h g m rfl]; exact y,I⟩
def gY:AV->AV × AV
 |.tuple [a,v]=>(a,v)
 |k=>(k,.undef)
def df (d:List (AV × Option (List (List AV)) × Nat)):List (AV × AV × Nat):=d.map fun x=>((gY x.1).1,(gY x.1).2,x.2.2)
theorem Fx (d:List (AV × Option (List (List AV)) × Nat)):(df d).length=d.length:=by simp[df]
def By(E:af)(l k:Nat)(rZ:List (List AV))(h:Nat)(v:al):Prop :=
 (rZ = [] /\ ∃ aN, v = .slice aN 0 0) \/
  ∃ b m,(E.X.r l)[h]? = some (some (some (b,m)))/\v=.slice (some ⟨b,0,none⟩) rZ.length m/\isRow E.w b (m*k)/\rZ.length<=m/\fq rZ/\cX E k rZ b 0
def kO(E:af)(l k:Nat) (d:List (AV × Option (List (List AV)) × Nat)) (h:List MapEntry):Prop :=
 ∃ g:Nat->Nat,(∀(i j:Nat) x y,d[i]? = some x->d[j]? = some y->x.2.1.isSome=true->y.2.1.isSome=true->g i=g j->i=j) /\
  ∀(i:Nat) x rZ e,d[i]? = some x->x.2.1=some rZ->h[i]? = some e->By E l k rZ (g i) e.val
theorem Km{E E':af}{l k h:Nat}{rZ:List (List AV)}{v:al} (y:∀ b m,(E.X.r l)[h]? = some (some (some (b,m)))->(E'.X.r l)[h]? = some (some (some (b,m)))/\E'.w.heap[b]? = E.w.heap[b]?)
  (I:∀ b,E'.w.heap[b]? = E.w.heap[b]? -> fq rZ->cX E k rZ b 0->cX E' k rZ b 0) (d:By E l k rZ h v):By E' l k rZ h v:=by
 rcases d with d|⟨b,m,h1,M,⟨cs,N,O,U⟩,V,g,W⟩
 ·exact .inl d
 ·obtain ⟨g1, q⟩ := y b m h1
  exact .inr ⟨b,m,g1,M,⟨cs,N,by rw[q]; exact O,U⟩,V,g,I b q g W⟩
theorem yb{E E':af}{l k:Nat}{d:List (AV × Option (List (List AV)) × Nat)}{q:List MapEntry} (I:∀(h b m:Nat),(E.X.r l)[h]? = some (some (some (b,m)))->(E'.X.r l)[h]? = some (some (some (b,m)))/\E'.w.heap[b]? = E.w.heap[b]?)
  (M:∀(i:Nat) x rZ,d[i]? = some x->x.2.1=some rZ->∀ b,E'.w.heap[b]? = E.w.heap[b]? -> fq rZ->cX E k rZ b 0->cX E' k rZ b 0) (N:kO E l k d q):kO E' l k d q:=by
 obtain⟨v,h1,O⟩:=N;exact⟨v,h1,fun i x rZ e y g he=>Km (I (v i)) (M i x rZ y g) (O i x rZ e y g he)⟩
theorem qK{r:List (Option (Option (Nat × Nat)))}{b:Nat}(h:b∈dQ r):∃(i m:Nat),r[i]? = some (some (some (b,m))):=by
 unfold dQ at h;obtain⟨x,d,hb⟩:=List.mem_filterMap.1 h;obtain⟨i,hi,e⟩:=List.getElem_of_mem d;split at hb
 ·rename_i g m
  cases hb;exact⟨i,m,by rw[bY hi,e]⟩
 ·cases hb
def g_(d:List (AV × Option Nat × Nat)):List (AV × AV × Nat):=d.map fun x=>(x.1,.undef,x.2.2)
theorem Kn(d:List (AV × Option Nat × Nat)):(g_ d).length=d.length:=by simp[g_]
def Bz(E:af)(l:Nat)(h:List (AV × Option Nat × Nat)) (d:List (List (AV × AV × Nat) × Nat)) (g:List MapEntry):Prop :=
 (dQ (E.X.r l)).length = d.length /\
  (∀(i:Nat) x e,h[i]? = some x->g[i]? = some e->(x.2.1=none/\e.val=.map none)\/∃ j b,x.2.1=some j/\(dQ (E.X.r l))[j]? = some b/\e.val=.map (some b)) /\
  ∀(j:Nat) m b,d[j]? = some m->(dQ (E.X.r l))[j]? = some b->∃ mm,E.w.heap[b]? = some (.map mm m.2)/\bI E m.1 mm.toList
theorem Fy{E E':af}{l:Nat}{v:List (AV × Option Nat × Nat)}{d:List (List (AV × AV × Nat) × Nat)}{k:List MapEntry}(g:E'.X.r l=E.X.r l) (y:∀(h b m:Nat),(E.X.r l)[h]? = some (some (some (b,m)))->E'.w.heap[b]? = E.w.heap[b]?)
  (I:∀ m∈d,∀ q,bI E m.1 q->bI E' m.1 q) (h:Bz E l v d k):Bz E' l v d k:=by
 obtain⟨h1,M,N⟩:=h;refine⟨by rw[g]; exact h1,fun i x e O he=>by rw[g]; exact M i x e O he,fun j m b hm hb=>?_⟩;rw[g]at hb;obtain⟨mm,U,V⟩:=N j m b hm hb;obtain⟨i,n,hi⟩:=qK (eO hb);exact⟨mm,by rw[y i b n hi]; exact U,I m (eO hm) _ V⟩
def Fz(E:af)(l k n:Nat) (d:List (List (List AV))) (cs:List al):Prop :=
 (dQ (E.X.r l)).length = d.length /\ d.length <= n /\ n <= cs.length /\
  ∀(i:Nat) rZ b,d[i]? = some rZ->(dQ (E.X.r l))[i]? = some b->∃ m,cs[i]? = some (.slice (some ⟨b,0,none⟩) rZ.length m)/\isRow E.w b (m*k)/\rZ.length<=m/\fq rZ/\cX E k rZ b 0
theorem FA{E E':af}{l k n:Nat}{d:List (List (List AV))}{cs:List al}(g:E'.X.r l=E.X.r l) (v:∀(h b m:Nat),(E.X.r l)[h]? = some (some (some (b,m)))->E'.w.heap[b]? = E.w.heap[b]?)
  (y:∀ rZ∈d,∀ b,E'.w.heap[b]? = E.w.heap[b]? -> fq rZ->cX E k rZ b 0->cX E' k rZ b 0) (h:Fz E l k n d cs):Fz E' l k n d cs:=by
 obtain⟨h1,I,M,N⟩:=h;refine⟨by rw[g]; exact h1,I,M,fun i rZ b hi hb=>?_⟩;rw[g]at hb;obtain⟨m,O,⟨c,U,V,W⟩,q4,q,q6⟩:=N i rZ b hi hb;obtain⟨j,n,hj⟩:=qK (eO hb);have e:=v j b n hj;exact⟨m,O,⟨c,U,by rw[e]; exact V,W⟩,q4,q,y rZ (eO hi) b e q q6⟩
def fY (d:List (AV × (Option (List (List AV)) × Option (List (List AV))) × Nat)):List (AV × AV × Nat):=d.map fun x=>(x.1,.undef,x.2.2)
theorem Uo (d:List (AV × (Option (List (List AV)) × Option (List (List AV))) × Nat)):(fY d).length=d.length:=by simp[fY]
def gK(s:Bool) (x:AV × (Option (List (List AV)) × Option (List (List AV))) × Nat):AV × Option (List (List AV)) × Nat:=(x.1,(bif s then x.2.1.2 else x.2.1.1),x.2.2)
def qL(s:Bool):al->al
 |.agg cs=>(cs[bif s then 1 else 0]?).getD default
 |v=>v
def oN(E:af)(l k:Nat) (d:List (AV × (Option (List (List AV)) × Option (List (List AV))) × Nat)) (h:List MapEntry):Prop :=
 (∀ e∈h,∃ a b,e.val=.agg #[a,b]/\dW a=true/\dW b=true) /\
 ∃ g:Bool->Nat->Nat,(∀ s s' (i j:Nat) x y,d[i]? = some x->d[j]? = some y->(gK s x).2.1.isSome=true->(gK s' y).2.1.isSome=true->g s i=g s' j->s=s'/\i=j) /\
  ∀ s (i:Nat) x rZ e,d[i]? = some x->(gK s x).2.1=some rZ->h[i]? = some e->By E l k rZ (g s i) (qL s e.val)
theorem BA{E E':af}{l k:Nat}{d:List (AV × (Option (List (List AV)) × Option (List (List AV))) × Nat)}{q:List MapEntry} (M:∀(h b m:Nat),(E.X.r l)[h]? = some (some (some (b,m)))->(E'.X.r l)[h]? = some (some (some (b,m)))/\E'.w.heap[b]? = E.w.heap[b]?)
  (N:∀ s (i:Nat) x rZ,d[i]? = some x->(gK s x).2.1=some rZ->∀ b,E'.w.heap[b]? = E.w.heap[b]? -> fq rZ->cX E k rZ b 0->cX E' k rZ b 0) (O:oN E l k d q):oN E' l k d q:=by
 obtain⟨I,v,h1,U⟩:=O;exact⟨I,v,h1,fun s i x rZ e y g he=>Km (M (v s i)) (N s i x rZ y g) (U s i x rZ e y g he)⟩
def aY(E:af)(id:Nat):ai->Prop
 |.dead=>E.ae[id]? = some none
 |.fA=>E.ae[id]? = some none
 |.box cells=>∃ b n,E.ae[id]? = some (some (b,n))/\isRow E.w b cells.length/\cU E cells b 0
 | .vQ k _ rZ=>(E.ae[id]? = some none/\rZ=[]) \/
   ∃ b m,E.ae[id]? = some (some (b,m))/\isRow E.w b (m*k)/\rZ.length<=m/\fq rZ/\cX E k rZ b 0
 |.map g y=>∃ b n d,E.ae[id]? = some (some (b,n))/\E.w.heap[b]? = some (.map d y)/\bI E g d.toList
 |.iter s pos=>∃ b n,E.ae[id]? = some (some (b,n))/\E.w.heap[b]? = some (.stringIter s pos)
 | .gx l T B s=>∃ (b n:Nat) (p v:al) (h:Nat) (q:Option (Nat × Nat)),E.ae[id]? = some (some (b,n))/\E.w.heap[b]? = some (.cells #[p,v] T (0,0))/\(p=.pointer none\/p=.pointer (some ⟨b,0,none⟩))/\(E.X.r l)[h]? = some (some q) /\
   (∀(h':Nat) M,(E.X.r l)[h']? = some (some M)->h'=h)/\Fv E.w B s v q
 |.a7 l k g y=>∃ b n d,E.ae[id]? = some (some (b,n))/\E.w.heap[b]? = some (.map d y)/\bI E (df g) d.toList/\kO E l k g d.toList
 |.mm l g d y=>∃ b n I,E.ae[id]? = some (some (b,n))/\E.w.heap[b]? = some (.map I y)/\bI E (g_ g) I.toList/\Bz E l g d I.toList
 |.cM l k n d=>∃ b m cs N,E.ae[id]? = some (some (b,m))/\E.w.heap[b]? = some (.cells cs N (0,0))/\Fz E l k n d cs.toList
 |.bH l k g y=>∃ b n d,E.ae[id]? = some (some (b,n))/\E.w.heap[b]? = some (.map d y)/\bI E (fY g) d.toList/\oN E l k g d.toList
def sT(E:af):Prop:=∀ p∈x9,E.kM p.1/\∃ t f,E.w.heap[p.1]? = some (.cells p.2 t f)
theorem sT.bT{E E':af}(H:sT E)(h:E.bT E'):sT E':=fun p d=>by
 obtain⟨h1,t,f,g⟩:=H p d;exact⟨(h.ok _ h1).1,t,f,by rw[(h.ok _ h1).2]; exact g⟩
structure aI (E:af):Prop where
 len:E.ae.length=E.H.length
 inj:∀(i j b m n:Nat),E.ae[i]? = some (some (b,m))->E.ae[j]? = some (some (b,n))->i=j
 lt:∀(i b m:Nat),E.ae[i]? = some (some (b,m))->b<E.w.heap.size/\¬ E.X b
 X:∀ b,E.X b->b<E.w.heap.size
 obj:∀(i:Nat) o,E.H[i]? = some o->aY E i o
 gL:sT E
 fM:∀(l h l' h' b m n:Nat),(E.X.r l)[h]? = some (some (some (b,m)))->(E.X.r l')[h']? = some (some (some (b,n)))->l=l'/\h=h'
 dm:∀(i b m l h n:Nat),E.ae[i]? = some (some (b,m))->(E.X.r l)[h]? ≠ some (some (some (b,n)))
 cQ:∀(l h b m:Nat),(E.X.r l)[h]? = some (some (some (b,m)))->b<E.w.heap.size/\¬ E.X b
 uniq:∀(i j:Nat) o o' (l:Nat),E.H[i]? = some o->E.H[j]? = some o'->o.label=some l->o'.label=some l->i=j
 iO:∀(l:Nat),(∀(i:Nat) o,E.H[i]? = some o->o.label≠some l)->∀(h:Nat) q,(E.X.r l)[h]? ≠ some (some q)
theorem aI.FB{E:af}(H:aI E){b:Nat}(d:E.X b):¬ E.ab b:=by
 rintro(⟨i,c,hi⟩|⟨l,h,m,hi⟩)
 ·exact(H.lt i b c hi).2 d
 ·exact(H.cQ l h b m hi).2 d
theorem aI.BB{E:af}(H:aI E){b:Nat}(ho:E.ab b):b<E.w.heap.size/\¬ E.X b:=by
 rcases ho with⟨i,c,hi⟩|⟨l,h,m,hi⟩
 ·exact H.lt i b c hi
 ·exact H.cQ l h b m hi
structure Ext (w w':ba):Prop where
 size:w.heap.size<=w'.heap.size
 same:∀ b,b<w.heap.size->w'.heap[b]? = w.heap[b]?
 env:ft w w'
theorem Ext.refl(w:ba):Ext w w:=⟨aQ _,fun _ _=>rfl,⟨rfl,rfl,rfl,by first|exact fun _=>aQ _|exact fun _=>gX _ _⟩⟩
theorem Ext.trans{w w' d:ba}(h:Ext w w')(h':Ext w' d):Ext w d :=
 ⟨kJ h.size h'.size,fun b hb=>by rw[h'.same b (eQ hb h.size),h.same b hb],h.env.trans h'.env⟩
theorem Ext.push(w:ba)(o:Obj):Ext w { w with heap:=w.heap.push o } :=
 ⟨by simp,fun b hb=>by simp[TI,aj5 hb],⟨rfl,rfl,rfl,by first|exact fun _=>aQ _|exact fun _=>gX _ _⟩⟩
theorem Ext.drawn(w:ba)(n:Nat)(h:w.drawn<=n:=by exact Nat.le_succ _):Ext w { w with drawn:=n }:=⟨aQ _,fun _ _=>rfl,⟨rfl,rfl,rfl,fun _=>h⟩⟩
theorem af.lr{E:af}{w':ba}(h:Ext E.w w'):E.le { E with w:=w' } where
 bu:=fun _ _ h=>h
 size:=h.size
 same:=fun b hb _=>h.same b hb
 ab:=fun _ _ ho=>ho
 live:=fun _ _ _ d=>⟨d,rfl⟩
 X:=⟨rfl,rfl⟩
 rl:=fun _ _ h=>⟨h,fun _ g=>g⟩
 env:=h.env
 grow:=fun _ _ o h1 k _=>⟨⟨[],(dJ _).symm⟩,o,h1,k⟩
theorem uR{w w':ba}{b n:Nat}(h:w'.heap[b]? = w.heap[b]?)(d:isRow w b n):isRow w' b n:=by
 unfold isRow at *; rw[h]; exact d
theorem BC{E E':af}{b:Nat}(d:∀ a c,ad E a c->ad E' a c)(hb:E'.w.heap[b]? = E.w.heap[b]?){as:List AV}{o:Nat}
  (h:cU E as b o):cU E' as b o:=by
 rw[ke]at *;intro i a hi;obtain⟨v,h1,g,k⟩:=h i a hi;exact⟨v,by rw[World.uP hb]; exact h1,g,d _ _ k⟩
theorem gy{E E':af}{b k:Nat}(d:∀ a c,ad E a c->ad E' a c)(hb:E'.w.heap[b]? = E.w.heap[b]?){rs:List (List AV)}{o:Nat}
  (h:cX E k rs b o):cX E' k rs b o:=by
 rw[nR]at *;intro i r hi;exact⟨(h i r hi).1,BC d hb (h i r hi).2⟩
theorem fZ{E E':af}(d:∀ a c,ad E a c->ad E' a c):∀{g:List (AV × AV × Nat)} {q:List MapEntry},bI E g q->bI E' g q
 | [],[],_=>by simp[bI]
 | [],_::_,h=>by simp[bI]at h
 |(_,_,_)::_,[],h=>by simp[bI]at h
 | (k,v,n)::g,e::q,h=>by
  simp only[bI]at h|-;exact⟨d _ _ h.1,d _ _ h.2.1,h.2.2.1,h.2.2.2.1,h.2.2.2.2.1,fZ d h.2.2.2.2.2⟩
theorem mO{E E':af}{i:Nat}{o:ai}(M:∀ a c,ad E a c->ad E' a c)(I:E'.ae[i]? = E.ae[i]?)
  (hb:∀ b n,E.ae[i]? = some (some (b,n))->E'.w.heap[b]? = E.w.heap[b]?)
  (hg:∀ l,o.label=some l->E'.X.r l=E.X.r l/\∀(h g m:Nat),(E.X.r l)[h]? = some (some (some (g,m)))->E'.w.heap[g]? = E.w.heap[g]?) (h:aY E i o):aY E' i o:=by
 cases o with
 |dead=>simp only[aY]at *; rw[I]; exact h
 |fA=>simp only[aY]at *; rw[I]; exact h
 | box cells =>
  simp only[aY]at *;obtain⟨b,n,h1,d,y⟩:=h;exact⟨b,n,by rw[I,h1],uR (hb b n h1) d,BC M (hb b n h1) y⟩
 | vQ k ak rZ =>
  simp only[aY]at *;rcases h with⟨h1,d⟩|⟨b,m,h1,d,y,N,h5⟩
  ·exact .inl ⟨by rw[I,h1],d⟩
  ·exact .inr ⟨b,m,by rw[I,h1],uR (hb b m h1) d,y,N,gy M (hb b m h1) h5⟩
 | map es clock =>
  simp only[aY]at *;obtain⟨b,n,V,h1,d,y⟩:=h;exact⟨b,n,V,by rw[I,h1],by rw[hb b n h1,d],fZ M y⟩
 | iter s pos =>
  simp only[aY]at *;obtain⟨b,n,h1,d⟩:=h;exact⟨b,n,by rw[I,h1],by rw[hb b n h1,d]⟩
 | gx l T B s =>
  simp only[aY]at *;obtain⟨b,n,p,v,k,q,h1,d,y,N,h5,h6⟩:=h;obtain⟨O,U⟩:=hg l rfl;exact⟨b,n,p,v,k,q,by rw[I,h1],by rw[hb b n h1,d],y,by rw[O,N],by rw[O]; exact h5,Fw (fun g m e=>U k g m (by rw[N,e])) h6⟩
 | a7 l k es clock =>
  simp only[aY]at *;obtain⟨b,n,V,h1,d,y,N⟩:=h;obtain⟨O,U⟩:=hg l rfl;exact⟨b,n,V,by rw[I,h1],by rw[hb b n h1,d],fZ M y,yb (fun h g m hk=>⟨by rw[O]; exact hk,U h g m hk⟩) (fun _ _ _ _ _ b W _ hr=>gy M W hr) N⟩
 | mm l es V clock =>
  simp only[aY]at *;obtain⟨b,n,mes,h1,d,y,N⟩:=h;obtain⟨O,U⟩:=hg l rfl;exact⟨b,n,mes,by rw[I,h1],by rw[hb b n h1,d],fZ M y,Fy O U (fun _ _ _=>fZ M) N⟩
 | cM l k n V =>
  simp only[aY]at *;obtain⟨b,m,cs,el,h1,d,y⟩:=h;obtain⟨O,U⟩:=hg l rfl;exact⟨b,m,cs,el,by rw[I,h1],by rw[hb b m h1,d],FA O U (fun _ _ b W _ hr=>gy M W hr) y⟩
 | bH l k es clock =>
  simp only[aY]at *;obtain⟨b,n,V,h1,d,y,N⟩:=h;obtain⟨O,U⟩:=hg l rfl;exact⟨b,n,V,by rw[I,h1],by rw[hb b n h1,d],fZ M y,BA (fun h g m hk=>⟨by rw[O]; exact hk,U h g m hk⟩) (fun _ _ _ _ _ _ b W _ hr=>gy M W hr) N⟩
theorem aI.ext{E:af}{w':ba}(H:aI E)(h:Ext E.w w'):aI { E with w:=w' } where
 len:=H.len
 inj:=H.inj
 lt:=fun i b m hi=>⟨eQ (H.lt i b m hi).1 h.size,(H.lt i b m hi).2⟩
 X:=fun b hb=>eQ (H.X b hb) h.size
 obj:=fun i o hi=>mO (fun a _ q=>bD (af.lr h) a q) rfl (fun b n hb=>h.same b (H.lt i b n hb).1) (fun l _=>⟨rfl,fun k g m d=>h.same g (H.cQ l k g m d).1⟩) (H.obj i o hi)
 gL:=H.gL.bT (af.lr h).toC
 fM:=H.fM
 dm:=H.dm
 cQ:=fun l k b m d=>⟨eQ (H.cQ l k b m d).1 h.size,(H.cQ l k b m d).2⟩
 uniq:=H.uniq
 iO:=H.iO
def af.push(E:af)(w':ba)(o:ai)(l:Option (Nat × Nat)):af:={ w:=w',H:=E.H++[o],ae:=E.ae++[l],X:=E.X }
theorem aV{α:Type}{l:List α}{i:Nat}{x:α}(h:l[i]? = some x):i<l.length:=by
 rcases l5 i l.length with h'|h'
 ·exact h'
 ·rw[oG h']at h; cases h
theorem akW{α:Type}(l:List α)(x:α)(i:Nat)(h:i<l.length):(l++[x])[i]? = l[i]? := by
 rw[di h]
theorem af.ma{E:af}{w':ba}{o:ai}{l:Option (Nat × Nat)}(M:E.ae.length=E.H.length)(h:Ext E.w w')
  (hb:∀ b n,l=some (b,n)->E.w.heap.size<=b):E.le (E.push w' o l) where
 bu:=fun id ak k=>by
  obtain⟨x,h1,g⟩:=k;exact⟨x,by simp only[af.push]; rw[di (aV h1)]; exact h1,g⟩
 size:=h.size
 same:=fun b hb _=>h.same b hb
 ab:=fun b I ho=>by
  rintro(⟨id,c,d⟩|v)
  case inr=>exact ho (.inr v)
  simp only[af.push]at d;by_cases hi:id<E.ae.length
  ·rw [di hi] at d
   exact ho (.inl ⟨id,c,d⟩)
  ·rw [ja (by omega)] at d
   cases q:id-E.ae.length with
   | zero =>
    rw[q]at d;simp at d;have:=hb b c d;omega
   |succ n=>rw[q]at d; simp at d
 live:=fun id ak k=>by
  obtain⟨x,h1,g⟩:=k;have d:=aV h1;simp only[af.live,af.push];rw[di d,di (by omega)];exact fun h=>⟨h,rfl⟩
 X:=⟨rfl,rfl⟩
 grow:=fun id l o h1 g _=>⟨⟨[],(dJ _).symm⟩,o,by simp only[af.push]; rw[di (aV h1)]; exact h1,g⟩
 rl:=fun _ _ h=>⟨h,fun _ y=>y⟩
 env:=h.env
theorem aI.push{E:af}{w':ba}{o:ai}{l:Option (Nat × Nat)}(H:aI E)(h:Ext E.w w')
  (hb:∀ b n,l=some (b,n)->E.w.heap.size<=b/\b<w'.heap.size) (ho:aY (E.push w' o l) E.H.length o) (hlab:o.label=none:=by first|rfl|assumption):aI (E.push w' o l) where
 fM:=H.fM
 cQ:=fun l k b m d=>⟨eQ (H.cQ l k b m d).1 h.size,(H.cQ l k b m d).2⟩
 dm:=by
  intro i b m l' k n hi d;simp only[af.push,gj]at hi;split at hi
  ·exact H.dm i b m l' k n hi d
  ·rename_i h1
   cases M:i-E.ae.length with
   | zero =>
    rw[M]at hi;simp at hi;have O:=hb b m hi;have W:=(H.cQ l' k b n d).1;omega
   |succ n=>rw[M]at hi; simp at hi
 uniq:=by
  have key:∀(i:Nat) o1 v,(E.push w' o l).H[i]? = some o1->o1.label=some v->E.H[i]? = some o1:=by
   intro i o1 v hi U;simp only[af.push,gj]at hi;split at hi
   ·exact hi
   ·cases M : i - E.H.length with
    | zero =>
     rw[M]at hi;simp at hi;subst hi;rw[hlab]at U;cases U
    |succ n=>rw[M]at hi; simp at hi
  exact fun i j o1 o2 v hi q h1 N=>H.uniq i j o1 o2 v (key i o1 v hi h1) (key j o2 v q N) h1 N
 iO:=fun v hn=>H.iO v fun i o1 hi=>hn i o1 (by
  simp only[af.push];rw[di (aV hi)];exact hi)
 gL:=H.gL.bT (af.ma H.len h (fun b n e=>(hb b n e).1)).toC
 len:=by simp[af.push,H.len]
 inj:=by
  intro i j b m n hi q;simp only[af.push,gj]at hi q;split at hi<;>split at q
  ·exact H.inj i j b m n hi q
  ·rename_i h1 N
   cases d:j-E.ae.length with
   | zero =>
    rw[d]at q;simp at q;have O:=hb b n q;have W:=(H.lt i b m hi).1;omega
   |succ n=>rw[d]at q; simp at q
  ·rename_i h1 N
   cases d:i-E.ae.length with
   | zero =>
    rw[d]at hi;simp at hi;have O:=hb b m hi;have W:=(H.lt j b n q).1;omega
   |succ n=>rw[d]at hi; simp at hi
  ·rename_i h1 N
   have e1:i-E.ae.length=0:=by
    cases d:i-E.ae.length with
    |zero=>rfl
    |succ n=>rw[d]at hi; simp at hi
   have e2:j-E.ae.length=0:=by
    cases d:j-E.ae.length with
    |zero=>rfl
    |succ n=>rw[d]at q; simp at q
   omega
 lt:=by
  intro i b m hi;simp only[af.push,gj]at hi|-;split at hi
  ·exact⟨eQ (H.lt i b m hi).1 h.size,(H.lt i b m hi).2⟩
  ·cases d : i - E.ae.length with
   | zero =>
    rw[d]at hi;simp at hi;have O:=hb b m hi;exact⟨O.2,fun hx=>by have:=H.X b hx; omega⟩
   |succ n=>rw[d]at hi; simp at hi
 X:=fun b I=>eQ (H.X b I) h.size
 obj:=by
  intro i o' hi;have hle:E.le (E.push w' o l):=af.ma H.len h (fun b n I=>(hb b n I).1);by_cases V:i<E.H.length
  ·simp only [af.push] at hi
   rw[di V]at hi;refine mO (fun a _ hr=>bD hle a hr) ?_ ?_ ?_ (H.obj i o' hi)
   ·simp only [af.push]
    rw[di (by rw[H.len]; exact V)]
   ·intro b n I
    exact h.same b (H.lt i b n I).1
   ·exact fun v _=>⟨rfl,fun k g m d=>h.same g (H.cQ v k g m d).1⟩
  ·have y := hi
   simp only[af.push]at y;rw[ja (by omega)]at y;cases d:i-E.H.length with
   | zero =>
    rw[d]at y;simp at y;have:i=E.H.length:=by omega
    rw[this,<-y];exact ho
   |succ n=>rw[d]at y; simp at y
theorem af.me{E:af}{w':ba}{id:Nat}{o o':ai}{l:Option (Nat × Nat)}(g:E.H[id]? = some o)
  (hlen:E.ae.length=E.H.length) (U:E.w.heap.size<=w'.heap.size)
  (V:∀ x,x<E.w.heap.size->(∀ n,E.ae[id]? ≠ some (some (x,n)))->w'.heap[x]? = E.w.heap[x]?)
  (hl:∀ b n,l=some (b,n)->E.w.heap.size<=b\/∃ m,E.ae[id]? = some (some (b,m)))
  (hver:(∀ v,o'.aU = some v->o.aU = some v/\E.ae[id]? = some l)\/(∀ v,o'.aU = some v->∀ u,o.aU = some u->u<v))
  (hup:∀ v u,o'.aU = some v->o.aU = some u->u<=v) (O:o.born=true->o.aU = none->o'.aU = none) (henv:ft E.w w':=by first|exact⟨rfl,rfl,rfl,by first|exact fun _=>aQ _|exact fun _=>gX _ _⟩|assumption|exact Ext.env (by assumption))
  (hmm:o.dR=none\/o'.dR=o.dR\/o'.aU = none:=by first|exact .inl rfl|exact .inr (.inl rfl)|exact .inr (.inr rfl)|exact .inl (ai.Bx (by assumption))|assumption)
  (W:o.born=true->o'.born=true:=by first|exact fun _=>rfl|exact fun h=>h|assumption) :
  E.le { w:=w',H:=E.H.set id o',ae:=E.ae.set id l,X:=E.X } where
 grow:=fun i l1 x h1 d k=>by
  by_cases e:i=id
  ·subst e
   rw[g]at h1;cases h1;rcases hmm with h|h|h
   ·rw[h]at d; cases d
   ·exact⟨⟨[],(dJ _).symm⟩,o',by simp only[]; rw[bB (aV g)],by rw[h]; exact d⟩
   ·obtain ⟨y, I, M⟩ := k
    simp only[]at I;rw[bB (aV g)]at I;cases I;rw[h]at M;cases M
  ·exact⟨⟨[],(dJ _).symm⟩,x,by simp only[]; rw[bf (Ne.symm e)]; exact h1,d⟩
 bu:=fun i ak N=>by
  obtain⟨x,h1,d⟩:=N;by_cases e:i=id
  ·subst e
   rw[g]at h1;cases h1;refine⟨o',by simp only[]; rw[bB (aV g)],W d.1,fun v k=>?_⟩;cases q:o.aU with
   |none=>rw[O d.1 q]at k; cases k
   |some u=>exact kJ (d.2 u q) (hup v u k q)
  ·exact⟨x,by simp only[]; rw[bf (Ne.symm e)]; exact h1,d⟩
 size:=U
 same:=fun x hx ho=>V x hx (fun n hn=>ho (.inl ⟨id,n,hn⟩))
 ab:=fun b hlt ho=>by
  rintro(⟨i,c,hi⟩|hs)
  case inr=>exact ho (.inr hs)
  simp only[ef]at hi;split at hi
  ·split at hi
   ·simp at hi
    rcases hl b c hi with h|⟨m,hm⟩
    ·omega
    ·exact ho (.inl ⟨id,m,hm⟩)
   ·cases hi
  ·exact ho (.inl ⟨i,c,hi⟩)
 live:=fun i ak N hl'=>by
  obtain⟨x,h1,d⟩:=hl';by_cases e:i=id
  ·subst e
   simp only[]at h1;rw[bB (aV g)]at h1;cases h1;rcases hver with k|k
   ·obtain ⟨a1, a2⟩ := k ak d
    refine⟨⟨o,g,a1⟩,?_⟩;simp only[];rw[bB (by rw[hlen]; exact aV g),a2]
   ·obtain ⟨y, I, M⟩ := N
    rw[g]at I;cases I;cases q:o.aU with
    |none=>rw[O M.1 q]at d; cases d
    |some u=>have:=k ak d u q; have:=M.2 u q; omega
  ·simp only [] at h1 |-
   rw[bf (Ne.symm e)]at h1;rw[bf (Ne.symm e)];exact⟨⟨x,h1,d⟩,rfl⟩
 X:=⟨rfl,rfl⟩
 rl:=fun _ _ h=>⟨h,fun _ hq=>hq⟩
 env:=henv
theorem aI.nS{E:af}{w':ba}{id:Nat}{o o':ai}{l:Option (Nat × Nat)}(H:aI E)(U:E.H[id]? = some o)
  (M:E.w.heap.size<=w'.heap.size)
  (O:∀ x,x<E.w.heap.size->(∀ n,E.ae[id]? ≠ some (some (x,n)))->w'.heap[x]? = E.w.heap[x]?)
  (N:∀ b n,l=some (b,n)->(E.w.heap.size<=b/\b<w'.heap.size)\/∃ m,E.ae[id]? = some (some (b,m)))
  (hver:(∀ v,o'.aU = some v->o.aU = some v/\E.ae[id]? = some l)\/(∀ v,o'.aU = some v->∀ u,o.aU = some u->u<v))
  (hup:∀ v u,o'.aU = some v->o.aU = some u->u<=v) (hdead:o.born=true->o.aU = none->o'.aU = none)
  (ho:aY { w:=w',H:=E.H.set id o',ae:=E.ae.set id l,X:=E.X } id o') (henv:ft E.w w':=by first|exact⟨rfl,rfl,rfl,by first|exact fun _=>aQ _|exact fun _=>gX _ _⟩|assumption|exact Ext.env (by assumption))
  (hlab:o.label=none:=by first|rfl|assumption) (hlab':o'.label=none:=by first|rfl|assumption)
  (hborn:o.born=true->o'.born=true:=by first|exact fun _=>rfl|exact fun h=>h|assumption) :
  aI { w:=w',H:=E.H.set id o',ae:=E.ae.set id l,X:=E.X } where
 fM:=H.fM
 cQ:=fun l k b m y=>⟨eQ (H.cQ l k b m y).1 M,(H.cQ l k b m y).2⟩
 dm:=by
  intro i b m l' k n hi y;simp only[ef]at hi;split at hi
  ·split at hi
   ·simp at hi
    rcases N b m hi with h|⟨m',I⟩
    ·have:=(H.cQ l' k b n y).1; omega
    ·exact H.dm _ _ _ _ _ _ I y
   ·cases hi
  ·exact H.dm _ _ _ _ _ _ hi y
 uniq:=by
  have key:∀(i:Nat) o1 q,(E.H.set id o')[i]? = some o1->o1.label=some q->E.H[i]? = some o1:=by
   intro i o1 q hi hl1;rw[ef]at hi;split at hi
   ·split at hi
    ·cases hi
     rw[hlab']at hl1;cases hl1
    ·cases hi
   ·exact hi
  exact fun i j o1 o2 q hi d h1 h2=>H.uniq i j o1 o2 q (key i o1 q hi h1) (key j o2 q d h2) h1 h2
 iO:=fun q W=>H.iO q fun i o1 hi=>by
  by_cases e:i=id
  ·subst e
   rw[U]at hi;cases hi;rw[hlab];exact fun h=>by cases h
  ·exact W i o1 (by show (E.H.set id o')[i]? = _; rw[bf (Ne.symm e)]; exact hi)
 gL:=H.gL.bT (af.me U H.len M O (fun b n hb=>(N b n hb).imp (fun h=>h.1) (fun h=>h)) hver hup hdead henv).toC
 len:=by simp[H.len]
 inj:=by
  intro i j b m n hi d;simp only[ef]at hi d;split at hi
  ·rename_i e1
   split at d
   ·rename_i e2; omega
   ·split at hi
    ·simp at hi
     rcases N b m hi with h|⟨m',I⟩
     ·have:=(H.lt j b n d).1; omega
     ·rw[<-e1]; exact H.inj _ _ _ _ _ I d
    ·cases hi
  ·split at d
   ·rename_i e2
    split at d
    ·simp at d
     rcases N b n d with h|⟨m',I⟩
     ·have:=(H.lt i b m hi).1; omega
     ·rw[<-e2]; exact H.inj _ _ _ _ _ hi I
    ·cases d
   ·exact H.inj i j b m n hi d
 lt:=by
  intro i b m hi;simp only[ef]at hi;split at hi
  ·split at hi
   ·simp at hi
    rcases N b m hi with h|⟨m',I⟩
    ·exact⟨h.2,fun hx=>by have:=H.X b hx; omega⟩
    ·exact⟨eQ (H.lt _ _ _ I).1 M,(H.lt _ _ _ I).2⟩
   ·cases hi
  ·exact⟨eQ (H.lt i b m hi).1 M,(H.lt i b m hi).2⟩
 X:=fun b hb=>eQ (H.X b hb) M
 obj:=by
  intro i x hi;by_cases e:i=id
  ·subst e
   simp only[]at hi;rw[bB (aV U)]at hi;cases hi;exact ho
  ·have V := hi
   simp only[]at V;rw[bf (Ne.symm e)]at V;have hle:E.le { w:=w',H:=E.H.set id o',ae:=E.ae.set id l,X:=E.X } :=
    af.me U H.len M O (fun b n hb=>(N b n hb).imp (fun h=>h.1) (fun h=>h)) hver hup hdead henv
   refine mO (fun a _ hr=>bD hle a hr) ?_ ?_ ?_ (H.obj i x V)
   ·simp only []
    rw[bf (Ne.symm e)]
   ·intro b n hb
    exact O b (H.lt i b n hb).1 (fun m hm=>e (H.inj i id b n m hb hm))
   ·exact fun q _=>⟨rfl,fun k g m y=>O g (H.cQ q k g m y).1 (fun n W=>H.dm id g n q k m W y)⟩
theorem aI.uS{E:af}{w':ba}{id d:Nat}{o o':ai}{r':Nat->List (Option (Option (Nat × Nat)))}(H:aI E)(O:E.H[id]? = some o)(hlab:o.label=some d)(hlab':o'.label=some d)(hver:o'.aU = o.aU)
  (hsize:E.w.heap.size<=w'.heap.size)
  (hsame:∀ x,x<E.w.heap.size->(∀ n,E.ae[id]? ≠ some (some (x,n)))->(∀(h m:Nat),(E.X.r d)[h]? ≠ some (some (some (x,m))))->w'.heap[x]? = E.w.heap[x]?)
  (U:∀ l,l≠d->r' l=E.X.r l)
  (hnew:∀(h b m:Nat),(r' d)[h]? = some (some (some (b,m)))->(E.X.r d)[h]? = some (some (some (b,m)))\/(E.w.heap.size<=b/\b<w'.heap.size/\∀(h' m':Nat),(r' d)[h']? = some (some (some (b,m')))->h'=h))
  (hrl:∀(h:Nat),h<(E.X.r d).length->h<(r' d).length/\∀ q,(r' d)[h]? = some (some q)->(E.X.r d)[h]? = some (some q))
  (ho:E.le { w:=w',H:=E.H.set id o',ae:=E.ae,X:=E.X.re r' }->aY { w:=w',H:=E.H.set id o',ae:=E.ae,X:=E.X.re r' } id o') (henv:ft E.w w') (hmm:o.dR=none\/(o'.dR=o.dR/\∃ t,r' d=E.X.r d++t):=by first|exact .inl rfl|assumption) :
  aI { w:=w',H:=E.H.set id o',ae:=E.ae,X:=E.X.re r' }/\E.le { w:=w',H:=E.H.set id o',ae:=E.ae,X:=E.X.re r' }:=by
 have hlt:=aV O;have rcase:∀(l h b m:Nat),(r' l)[h]? = some (some (some (b,m)))->(E.X.r l)[h]? = some (some (some (b,m)))\/(l=d/\E.w.heap.size<=b/\b<w'.heap.size/\∀(h' m':Nat),(r' d)[h']? = some (some (some (b,m')))->h'=h):=fun l h b m I=>by
  by_cases e:l=d
  ·subst e
   rcases hnew h b m I with h1|⟨h1,k,h3⟩
   ·exact .inl h1
   ·exact .inr ⟨rfl,h1,k,h3⟩
  ·rw [U l e] at I
   exact .inl I
 have hle:E.le { w:=w',H:=E.H.set id o',ae:=E.ae,X:=E.X.re r' }:=by
  refine⟨fun i ak hp=>?_,hsize,fun x hx hx'=>hsame x hx (fun n hn=>hx' (.inl ⟨id,n,hn⟩)) fun h m hm=>hx' (.inr ⟨d,h,m,hm⟩),fun b hb hno=>?_,fun i ak hp M=>?_,⟨rfl,rfl⟩,fun l h hh=>?_,henv,fun i l x h1 k hv=>?_⟩
  rotate_right
  ·by_cases e : i = id
   ·subst e
    rw[O]at h1;cases h1;have V:d=l:=by
     have:=ai.nP k;rw[hlab]at this;cases this;rfl
    subst V;rcases hmm with h|⟨h,ht⟩
    ·rw[h]at k; cases k
    ·exact⟨ht,o',by simp only[]; rw[bB hlt],by rw[h]; exact k⟩
   ·have V : l ≠ d := fun V => e (H.uniq i id x o l h1 O (ai.nP k) (by rw [V]; exact hlab))
    exact⟨⟨[],by rw[dJ]; exact U l V⟩,x,by simp only[]; rw[bf (Ne.symm e)]; exact h1,k⟩
  ·obtain ⟨x, h1, k⟩ := hp
   by_cases e:i=id
   ·subst e
    rw[O]at h1;cases h1;exact⟨o',by simp only[]; rw[bB hlt],ai.Bw hlab',fun v hv=>k.2 v (by rw[<-hver]; exact hv)⟩
   ·exact⟨x,by simp only[]; rw[bf (Ne.symm e)]; exact h1,k⟩
  ·rintro (⟨i, c, hi⟩ | ⟨l, h, m, hm⟩)
   ·exact hno (.inl ⟨i,c,hi⟩)
   ·rcases rcase l h b m hm with h1 | ⟨_, h1, _⟩
    ·exact hno (.inr ⟨l,h,m,h1⟩)
    ·omega
  ·obtain ⟨x, h1, k⟩ := M
   refine⟨?_,rfl⟩;simp only[]at h1;by_cases e:i=id
   ·subst e
    rw[bB hlt]at h1;cases h1;exact⟨o,O,by rw[<-hver]; exact k⟩
   ·rw [bf (Ne.symm e)] at h1
    exact⟨x,h1,k⟩
  ·by_cases e : l = d
   ·subst e
    exact hrl h hh
   ·show h < (r' l).length /\ _
    rw[U l e];exact⟨hh,fun _ W=>(by rw[show ({ w:=w',H:=E.H.set id o',ae:=E.ae,X:=E.X.re r' }:af).X.r l=E.X.r l from U l e]at W; exact W)⟩
 refine⟨⟨by simp[H.len],H.inj,fun i b m hi=>⟨eQ (H.lt i b m hi).1 hsize,(H.lt i b m hi).2⟩,fun b hb=>eQ (H.X b hb) hsize,fun i x hi=>?_,H.gL.bT hle.toC,fun l h l' h' b m n h1 k=>?_,fun i b m l h n hi I=>?_,fun l h b m I=>?_,fun i j x y l hi hj h1 k=>?_,fun l hn h q W=>?_⟩,hle⟩
 ·by_cases e : i = id
  ·subst e
   simp only[]at hi;rw[bB hlt]at hi;cases hi;exact ho hle
  ·simp only [] at hi
   rw[bf (Ne.symm e)]at hi;refine mO (fun a _ U=>bD hle a U) rfl (fun b n hb=>hsame b (H.lt i b n hb).1 (fun m hm=>e (H.inj i id b n m hb hm)) fun h m hm=>H.dm i b n d h m hb hm) (fun l M=>?_) (H.obj i x hi);have hne:l≠d:=fun V=>e (H.uniq i id x o l hi O M (by rw[hlab,V]));exact⟨U l hne,fun h g m I=>hsame g (H.cQ l h g m I).1 (fun n hn=>H.dm id g n l h m hn I) fun h' m' hk'=>hne (H.fM l h d h' g m m' I hk').1⟩
 ·rcases rcase l h b m h1 with N | ⟨rfl, N, g2, g3⟩ <;> rcases rcase l' h' b n k with k1 | ⟨rfl, k1, k2, k3⟩
  ·exact H.fM _ _ _ _ _ _ _ N k1
  ·have:=(H.cQ _ _ _ _ N).1; omega
  ·have:=(H.cQ _ _ _ _ k1).1; omega
  ·exact⟨rfl,(g3 h' n k).symm⟩
 ·rcases rcase l h b n I with N | ⟨rfl, N, g2, g3⟩
  ·exact H.dm _ _ _ _ _ _ hi N
  ·have:=(H.lt i b m hi).1; omega
 ·rcases rcase l h b m I with N | ⟨rfl, N, g2, g3⟩
  ·exact⟨eQ (H.cQ _ _ _ _ N).1 hsize,(H.cQ _ _ _ _ N).2⟩
  ·exact⟨g2,fun hx=>by have:=H.X b hx; omega⟩
 ·have key:∀ (i:Nat) x,(E.H.set id o')[i]? = some x->x.label=some l->∃ y,E.H[i]? = some y/\y.label=some l:=by
   intro i x hi M;by_cases e:i=id
   ·subst e
    rw[bB hlt]at hi;cases hi;exact⟨o,O,by rw[hlab,<-hlab',M]⟩
   ·rw [bf (Ne.symm e)] at hi
    exact⟨x,hi,M⟩
  obtain⟨x',a1,a2⟩:=key i x hi h1;obtain⟨y',b1,b2⟩:=key j y hj k;exact H.uniq i j x' y' l a1 b1 a2 b2
 ·have hne : l ≠ d := fun e => hn id o' (by show (E.H.set id o')[id]? = _; rw [bB hlt]) (by rw [hlab', e])
  have W:(r' l)[h]? = some (some q):=W;rw[U l hne]at W;refine H.iO l (fun i x hi M=>?_) h q W;by_cases e:i=id
  ·subst e
   rw[O]at hi;cases hi;exact hne (by rw[hlab]at M; cases M; rfl)
  ·exact hn i x (by show (E.H.set id o')[i]? = _; rw[bf (Ne.symm e)]; exact hi) M
def kg (r:Nat->List (Option (Option (Nat × Nat)))) (d:Nat):Nat->List (Option (Option (Nat × Nat))):=fun l=>if l=d then r l++[some none] else r l
theorem FC{r:Nat->List (Option (Option (Nat × Nat)))}{g l h:Nat}{q:Option (Option (Nat × Nat))}(d:(kg r g l)[h]? = some q):(r l)[h]? = some q\/(l=g/\h=(r l).length/\q=some none):=by
 unfold kg at d;split at d
 ·rename_i e
  rw[gj]at d;split at d
  ·exact .inl d
  ·rename_i v
   right;cases k:h-(r l).length with
   | zero =>
    rw[k]at d;simp at d;exact⟨e,by omega,d.symm⟩
   |succ n=>rw[k]at d; simp at d
 ·exact .inl d
theorem Up{r:Nat->List (Option (Option (Nat × Nat)))}{d l h:Nat}(g:h<(r l).length):(kg r d l)[h]? = (r l)[h]? := by
 unfold kg;split
 ·exact di g
 ·rfl
theorem aI.Uq{E:af}{w':ba}{o:ai}{l:Option (Nat × Nat)}{l0:Nat}(H:aI E)(h:Ext E.w w')(hb:∀ b n,l=some (b,n)->E.w.heap.size<=b/\b<w'.heap.size)(hlab:o.label=some l0)(hno:∀(i:Nat) x,E.H[i]? = some x->x.label≠some l0)
  (ho:aY { w:=w',H:=E.H++[o],ae:=E.ae++[l],X:=E.X.re (kg E.X.r l0) } E.H.length o) :
  aI { w:=w',H:=E.H++[o],ae:=E.ae++[l],X:=E.X.re (kg E.X.r l0) }/\E.le { w:=w',H:=E.H++[o],ae:=E.ae++[l],X:=E.X.re (kg E.X.r l0) }:=by
 have old:∀(i:Nat) x,(E.H++[o])[i]? = some x->E.H[i]? = some x\/(i=E.H.length/\x=o):=fun i x hi=>by
  rw[gj]at hi;split at hi
  ·exact .inl hi
  ·right
   cases v:i-E.H.length with
   |zero=>rw[v]at hi; simp at hi; exact⟨by omega,hi.symm⟩
   |succ n=>rw[v]at hi; simp at hi
 have U:∀(i:Nat) x,(E.ae++[l])[i]? = some x->E.ae[i]? = some x\/(i=E.ae.length/\x=l):=fun i x hi=>by
  rw[gj]at hi;split at hi
  ·exact .inl hi
  ·right
   cases v:i-E.ae.length with
   |zero=>rw[v]at hi; simp at hi; exact⟨by omega,hi.symm⟩
   |succ n=>rw[v]at hi; simp at hi
 have N:∀(x k b m:Nat),(kg E.X.r l0 x)[k]? = some (some (some (b,m)))->(E.X.r x)[k]? = some (some (some (b,m))):=fun x k b m v=>by
  rcases FC v with h1|⟨_,_,h1⟩
  ·exact h1
  ·cases h1
 have hle:E.le { w:=w',H:=E.H++[o],ae:=E.ae++[l],X:=E.X.re (kg E.X.r l0) }:=by
  refine⟨fun i ak hp=>?_,h.size,fun b V _=>h.same b V,fun b hlt hno'=>?_,fun i ak hp hl=>?_,⟨rfl,rfl⟩,fun x k v=>?_,h.env,fun i l x h1 d hv=>⟨⟨[],?_⟩,x,by simp only[]; rw[di (aV h1)]; exact h1,d⟩⟩
  rotate_right
  ·have e : l ≠ l0 := fun e => hno i x h1 (by rw [<- e]; exact ai.nP d)
   rw[dJ];exact iN e
  ·obtain ⟨x, h1, d⟩ := hp
   exact⟨x,by simp only[]; rw[di (aV h1)]; exact h1,d⟩
  ·rintro (⟨i, c, hi⟩ | ⟨x, k, m, v⟩)
   ·rcases U i _ hi with h1 | ⟨_, h1⟩
    ·exact hno' (.inl ⟨i,c,h1⟩)
    ·have := hb b c h1.symm
     omega
   ·exact hno' (.inr ⟨x,k,m,N x k b m v⟩)
  ·obtain ⟨x, h1, d⟩ := hp
   have hid:=aV h1;obtain⟨y,I,h4⟩:=hl;simp only[]at I;rw[di hid]at I;exact⟨⟨y,I,h4⟩,by simp only[]; rw[di (by rw[H.len]; exact hid)]⟩
  ·have hk':k<(kg E.X.r l0 x).length:=by
    unfold kg;split
    ·simp; omega
    ·exact v
   refine⟨hk',fun q W=>?_⟩;have W:(kg E.X.r l0 x)[k]? = some (some q):=W
   rwa [Up v]at W
 refine⟨⟨by simp[H.len],fun i j b m n hi hj=>?_,fun i b m hi=>?_,fun b V=>eQ (H.X b V) h.size,fun i x hi=>?_,H.gL.bT hle.toC,fun x k x' k' b m n h1 d=>H.fM _ _ _ _ _ _ _ (N _ _ _ _ h1) (N _ _ _ _ d),fun i b m x k n hi v=>?_,fun x k b m v=>?_,fun i j x y O hi hj h1 d=>?_,fun O hn k q W=>?_⟩,hle⟩
 ·rcases U i _ hi with h1 | ⟨h1, d⟩ <;> rcases U j _ hj with I | ⟨I, h4⟩
  ·exact H.inj _ _ _ _ _ h1 I
  ·have:=hb b n h4.symm; have:=(H.lt _ _ _ h1).1; omega
  ·have:=hb b m d.symm; have:=(H.lt _ _ _ I).1; omega
  ·omega
 ·rcases U i _ hi with h1 | ⟨h1, d⟩
  ·exact⟨eQ (H.lt _ _ _ h1).1 h.size,(H.lt _ _ _ h1).2⟩
  ·have I := hb b m d.symm
   exact⟨I.2,fun hx=>by have:=H.X b hx; omega⟩
 ·rcases old i x hi with h1 | ⟨h1, d⟩
  ·refine mO (fun a _ hr => bD hle a hr) (by simp only []; rw [di (by rw [H.len]; exact aV h1)]) (fun b n V => h.same b (H.lt i b n V).1) (fun O hl1 => ?_) (H.obj i x h1)
   have hne:O≠l0:=fun e=>hno i x h1 (by rw[hl1,e]);exact⟨iN hne,fun k g m v=>h.same g (H.cQ _ _ _ _ v).1⟩
  ·subst h1 d
   exact ho
 ·rcases U i _ hi with h1 | ⟨h1, d⟩
  ·exact H.dm _ _ _ _ _ _ h1 (N _ _ _ _ v)
  ·have:=hb b m d.symm; have:=(H.cQ _ _ _ _ (N _ _ _ _ v)).1; omega
 ·have h1 := N _ _ _ _ v
  exact⟨eQ (H.cQ _ _ _ _ h1).1 h.size,(H.cQ _ _ _ _ h1).2⟩
 ·rcases old i x hi with M | ⟨M, rfl⟩ <;> rcases old j y hj with g3 | ⟨g3, rfl⟩
  ·exact H.uniq i j x y O M g3 h1 d
  ·rw [hlab] at d
   cases d;exact(hno i x M h1).elim
  ·rw [hlab] at h1
   cases h1;exact(hno j y g3 d).elim
  ·omega
 ·rcases FC (show (kg E.X.r l0 O)[k]? = some (some q) from W) with M | ⟨M, _⟩
  ·exact H.iO O (fun i x hi hl=>hn i x (by simp only[]; rw[di (aV hi)]; exact hi) hl) k q M
  ·exact hn E.H.length o (by simp) (by rw[hlab,M])
theorem af.yc{E:af}(H:aI E)(id:Nat):E.le { w:=E.w,H:=E.H.set id .dead,ae:=E.ae.set id none,X:=E.X }:=by
 rcases l5 id E.H.length with h|h
 ·exact af.me (o:=E.H[id]) (by simp[h]) H.len (aQ _) (fun _ _ _=>rfl) (fun _ _ h=>by cases h) (.inl (fun v h=>by simp[ai.aU]at h))
   (fun v u h=>by simp[ai.aU]at h) (fun _ _=>rfl)
 ·rw [JI h, JI (by rw [H.len]; exact h)]
  exact af.le.refl E
theorem aI.drop{E:af}(H:aI E)(id:Nat)(hlab:∀ o,E.H[id]? = some o->o.label=none):aI { w:=E.w,H:=E.H.set id .dead,ae:=E.ae.set id none,X:=E.X }:=by
 rcases l5 id E.H.length with h|h
 ·refine aI.nS (o:=E.H[id]) H (by simp [h]) (aQ _) (fun _ _ _=>rfl) (fun _ _ h=>by cases h) (.inl (fun v h=>by simp [ai.aU] at h))
   (fun v u h=>by simp[ai.aU]at h) (fun _ _=>rfl) ?_ (hlab:=hlab _ (by simp[h]))
  simp only[aY];rw[bB (by rw[H.len]; exact h)]
 ·rw [JI h, JI (by rw [H.len]; exact h)]
  exact H
end Go.AL

namespace Go.AL
variable [Dr]
structure FK where
 oF:Nat
 size:Nat
 agg:Bool
def qM:TypeDesc->Bool
 |.struct _ | .array _ _=>true
 |_=>false
def gk(P:aj)(t:aD):Option (Nat × Bool) :=
 match P.info? t,P.underlying t with
 |some i,some d=>some (i.size,qM d)
 |_,_=>none
def uT(P:aj)(t:aD)(f:Nat):Option FK :=
 match P.underlying t with
 | some (.struct g)=>match g[f]? with
  | some d=>match gk P d.type with
   |some (n,a)=>some ⟨d.offset,n,a⟩
   |none=>none
  |none=>none
 |_=>none
def fC(P:aj)(t:aD):Option (List al) :=
 match P.info? t with
 | some i=>match i.zero with
  |some z=>if z.cells.toList.all dW then some z.cells.toList else none
  |none=>none
 |none=>none
inductive SK where
 |slice (elem size bytes:Nat)
 |array (n elem size:Nat) (agg:Bool)
 |str
 |int (k:IntKind)
 |bool
 |other
def cZ(P:aj)(t:aD):SK :=
 match P.underlying t with
 | some (.slice e)=>match P.info? e with
  |some i=>.slice e i.size i.bytes
  |none=>.other
 | some (.array n e)=>match gk P e with
  |some (m,a)=>.array n e m a
  |none=>.other
 |some .string=>.str
 |some (.int k)=>.int k
 |some .bool=>.bool
 |_=>.other
def AV.uU:al->AV
 |.agg cs=>if cs.toList.all dW then .agg (cs.toList.map .lit) else .lit (.agg cs)
 |.tuple cs=>.tuple (cs.toList.map .lit)
 |v=>.lit v
abbrev AV.int(n:Int):AV:=.lit (.int .i64 n)
abbrev AV.bool(b:Bool):AV:=.lit (.bool b)
abbrev AV.str(s:ByteArray):AV:=.lit (.string s)
theorem qN{E:af}:∀(l:List al),aw E (l.map .lit) l
 | []=>by simp[aw]
 |v::l=>by simp[aw,ad,qN l]
theorem Ko(E:af)(v:al):ad E (AV.uU v) v:=by
 unfold AV.uU;split
 ·split
  ·rename_i cs h
   simp only[ad];exact⟨cs,rfl,dK.1 h,qN _⟩
  ·simp[ad]
 ·simp only [ad]
  exact⟨_,rfl,qN _⟩
 ·simp[ad]
structure St where
 fr:List AV
 H:List ai
def St.eval(s:St):ct->AV
 |.tmp t=>s.fr.getD t .undef
 |.const v=>AV.uU v
 |.global g=>.lit (.pointer (some ⟨g,0,none⟩))
 |.func f=>.clo f []
def oO(w:ba)(X:XS)(l:List Deferred):Prop:=l.Nodup/\∀ d∈l,∃ D,d={ target:=.collected D,args:=#[] }/\w.heap[D]? = some (.deferred (some []))/\X D/\X.z D
theorem FD(w:ba)(X:XS):oO w X []:=⟨List.nodup_nil,fun _ h=>by cases h⟩
theorem Kp{w w':ba}{X X':XS}{l:List Deferred}(h:oO w X l)(hX:∀ b,X b->X.z b->X' b/\X'.z b)(q:∀ b,X b->X.z b->w'.heap[b]? = w.heap[b]?):oO w' X' l :=
 ⟨h.1,fun d v=>let ⟨D,e,h1,g,k⟩:=h.2 d v; ⟨D,e,by rw[q D g k]; exact h1,hX D g k⟩⟩
theorem FE{E E':af}(HE:aI E)(h:E.le E'){l:List Deferred}(hm:oO E.w E.X l):oO E'.w E'.X l :=
 Kp hm (fun b h1 d=>⟨by rw[show E'.X.x=E.X.x from h.X.1]; exact h1,by rw[show E'.X.z=E.X.z from h.X.2]; exact d⟩) fun b hb _=>h.same b (HE.X b hb) (HE.FB hb)
structure dS (s:St) (E:af) (a:Act):Prop where
 H:E.H=s.H
 fr:aw E s.fr a.tmps.toList
 defers:oO E.w E.X a.defers
 heap:aI E
theorem dS.eval{s:St}{E:af}{a:Act}(h:dS s E a)(x:ct):ad E (s.eval x) (a.eval x):=by
 cases x with
 | tmp t =>
  simp only[St.eval,E8];obtain⟨h1,y⟩:=pO.1 h.fr;rcases l5 t s.fr.length with d|q
  ·have k : t < a.tmps.toList.length := h1 ▸ d
   have I:s.fr[t]? = some s.fr[t]:=by simp[d]
   have M:a.tmps.toList[t]? = some a.tmps.toList[t]:=bY k;have:=y t _ _ I M;simpa[cu,Array.getD_eq_getD_getElem?,d,show t<a.tmps.size by simpa using k]using this
  ·have : s.fr.getD t .undef = .undef := by simp [cu, oG q]
   rw[this];simp[ad]
 |const v=>exact Ko E v
 |global g=>simp[St.eval,E8,ad]
 |func f=>simp only[St.eval,E8,ad]; exact⟨#[],rfl,by simp[aw]⟩
def jB(agg:Bool)(n:Nat)(cells:List AV):Option AV :=
 if agg then (if n<=cells.length then some (.agg (cells.take n)) else none) else cells[0]?
def kh(k:SK)(x i:AV):Option AV :=
 match i with
 | .lit (.int _ n) =>
  match k,x with
  |.slice _ sz _,.list w rZ=>if w=sz/\0<=n/\n<rZ.length then (rZ[n.toNat]?).map .cptr else none
  |.slice _ sz _,.listF ks rZ=>if ks.length=sz/\0<=n/\n<rZ.length then some (.cptr (aT ks (rZ.getD n.toNat []))) else none
  |.slice _ sz _,.vQ w id ak oF m=>if w=sz/\0<=n/\n<m then some (.ptr id ak w (oF+n.toNat) 0) else none
  |.slice _ sz _,.svec id l j m=>if 0<=n/\n<m then some (.sptr id l j sz n.toNat 0) else none
  |.array m _ sz _,.ptr id ak w row d=>if 0<=n/\n<m then some (.ptr id ak w row (d+n.toNat*sz)) else none
  |.array m _ sz _,.cptr cells=>if 0<=n/\n<m then some (.cptr ((cells.drop (n.toNat*sz)).take sz)) else none
  |_,_=>none
 |_=>none
def FF(k:FK)(x:AV):Option AV :=
 if k.size=0 then none else
 match x with
 |.cptr cells=>some (.cptr (cells.drop k.oF))
 |.ptr id ak w row d=>some (.ptr id ak w row (d+k.oF))
 |_=>none
def Kq(k:IntKind)(a b:Int):Int:=k.wrap (Ba k.bits a &&& Ba k.bits b).toNat
def Kr(k:IntKind)(a b:Int):Int:=k.wrap (Ba k.bits a ||| Ba k.bits b).toNat
def Ks(k:IntKind)(a b:Int):Int:=k.wrap (Ba k.bits a ^^^ Ba k.bits b).toNat
def FG(k:IntKind)(a b:Int):Int:=k.wrap (a*2 ^ min b.toNat k.bits)
def uV(k:IntKind)(a b:Int):Int:=a.fdiv (2 ^ min b.toNat k.bits)
def qO(op:BinOp)(k:IntKind)(a b:Int):Option al :=
 match op with
 |.and=>some (.int k (Kq k a b))
 |.or=>some (.int k (Kr k a b))
 |.xor=>some (.int k (Ks k a b))
 |.add=>some (.int k (k.wrap (a+b)))
 |.sub=>some (.int k (k.wrap (a-b)))
 |.mul=>some (.int k (k.wrap (a*b)))
 |.quo=>if b=0 then none else some (.int k (k.wrap (a.tdiv b)))
 |.rem=>if b=0 then none else some (.int k (a.tmod b))
 |.eql=>some (.bool (a==b))
 |.neq=>some (.bool (a != b))
 |.lss=>some (.bool (a<b))
 |.leq=>some (.bool (a<=b))
 |.gtr=>some (.bool (a>b))
 |.geq=>some (.bool (a ≥ b))
 |_=>none
def FH(op:BinOp)(x y:ByteArray):Option al :=
 match op with
 |.add=>if ((x.size+y.size:Nat):Int)>IntKind.i64.max then none else some (.string (x++y))
 |.eql=>some (.bool (x.toList==y.toList))
 |.neq=>some (.bool !(x.toList==y.toList))
 |.lss=>some (.bool (lj x.toList y.toList))
 |.leq=>some (.bool (lj x.toList y.toList||x.toList==y.toList))
 |.gtr=>some (.bool !(lj x.toList y.toList||x.toList==y.toList))
 |.geq=>some (.bool !(lj x.toList y.toList))
 |_=>none
def ls(op:BinOp):al->al->Option al
 | .int k a,.int d b=>match op with
  |.shl=>if b<0 then none else some (.int k (FG k a b))
  |.shr=>if b<0 then none else some (.int k (uV k a b))
  |op=>if k=d then qO op k a b else none
 |.string a,.string b=>FH op a b
 |_,_=>none
def BD:AV->Option Nat
 |.lit (.string s)=>some s.size
 |.lit (.slice none 0 0)=>some 0
 |.nils=>some 0
 |.emptyS _=>some 0
 |.list _ rZ=>some rZ.length
 |.listF _ rZ=>some rZ.length
 |.vQ _ _ _ _ n=>some n
 |_=>none
theorem Sem.bE{P:aj}{t:aD}{d:TypeDesc}(h:P.underlying t=some d)(w:ba) :
  (underlying t).run P w=.ok d w:=by simp[underlying,h]
theorem Sem.run_sizeOf{P:aj}{t:aD}{i:TypeInfo}(h:P.info? t=some i)(w:ba):(sizeOf t).run P w=.ok i.size w:=by
 simp[sizeOf,typeInfo,h]
theorem Sem.pP{P:aj}{t:aD}{d:TypeDesc}(h:P.underlying t=some d)(w:ba):(isAgg t).run P w=.ok (qM d) w:=by
 simp[isAgg,Sem.bE h];cases d<;>rfl
theorem lu{P:aj}{t:aD}{n:Nat}{a:Bool}(h:gk P t=some (n,a)):∃ i d,P.info? t=some i/\P.underlying t=some d/\i.size=n/\qM d=a:=by
 unfold gk at h;split at h
 ·rename_i i d h1 g
  simp at h;exact⟨i,d,h1,g,h.1,h.2⟩
 ·cases h
theorem Kt{P:aj}{t:aD}{f:Nat}{k:FK}(h:uT P t f=some k) :
  ∃ g d,P.underlying t=some (.struct g)/\g[f]? = some d/\d.offset=k.oF/\gk P d.type=some (k.size,k.agg):=by
 unfold uT at h;split at h
 ·rename_i g h1
  split at h
  ·rename_i d q
   split at h
   ·rename_i n a v
    simp at h;subst h;exact⟨g,d,h1,q,rfl,v⟩
   ·cases h
  ·cases h
 ·cases h
theorem Ur{P:aj}(op:BinOp)(t:aD)(x y:al)(v:al)(h:ls op x y=some v)(w:ba):(binOp op t x y).run P w=.ok v w:=by
 unfold ls at h;split at h
 ·rename_i k a N b
  split at h
  ·split at h
   ·cases h
   ·rename_i hb
    cases h;simp only[binOp,Op.shift,iN hb,FG];rfl
  ·split at h
   ·cases h
   ·rename_i hb
    cases h;simp only[binOp,Op.shift,iN hb,uV];rfl
  ·rename_i d g
   split at h
   ·rename_i q
    subst q;cases op<;>first|exact absurd rfl d|exact absurd rfl g|skip
    all_goals simp[qO]at h
    all_goals simp[binOp,Op.intArith,Op.intDiv,Op.intCmp,Op.intBits]
    all_goals first
     |exact h
     |(obtain⟨h1,I⟩:=h; simp[h1,I])
   ·cases h
 ·rename_i a b
  cases op<;>simp only[FH]at h<;>(try split at h)<;>simp at h<;>simp only[binOp,Op.stringOp]<;>first
   |(subst h; simp; done)
   |(rename_i M; subst h; rw[iN M]; rfl)
 ·cases h
theorem Us{P:aj}(op:BinOp)(t:aD)(x y:ct)(a b:al)(h:∀ v,ls op a b≠some v->True)(d:(ls op a b).isSome=true)(w:ba) :
  (eqGuard op t x y a b).run P w=.ok () w:=by
 unfold ls at d;split at d
 ·cases op<;>simp[eqGuard]<;>rfl
 ·cases op<;>simp[eqGuard]<;>rfl
 ·cases d
theorem Ut{E:af}{x:AV}{c:al}{n:Nat}(h:BD x=some n)(d:ad E x c) :
  (∃ s,c=.string s/\s.size=n)\/∃ aN cap,c=.slice aN n cap:=by
 unfold BD at h;split at h
 ·simp only[ad]at d; subst d; simp at h; exact .inl ⟨_,rfl,h⟩
 ·simp only[ad]at d; subst d; simp at h; subst h; exact .inr ⟨_,_,rfl⟩
 ·simp only[ad]at d; obtain⟨b,rfl⟩:=d; simp at h; subst h; exact .inr ⟨_,_,rfl⟩
 ·simp only[ad]at d; obtain⟨b,cap,rfl,_⟩:=d; simp at h; subst h; exact .inr ⟨_,_,rfl⟩
 ·simp only[ad]at d; obtain⟨_,b,cap,rfl,_⟩:=d; simp at h; subst h; exact .inr ⟨_,_,rfl⟩
 ·simp only[ad,fk]at d; obtain⟨b,cap,rfl,_⟩:=d; simp at h; subst h; exact .inr ⟨_,_,rfl⟩
 ·simp only[ad]at d; obtain⟨⟨b,cap,rfl,_⟩,_⟩:=d; simp at h; subst h; exact .inr ⟨_,_,rfl⟩
 ·cases h
end Go.AL

namespace Go.AL
open Go
variable [Dr]
theorem mf(b o n:Nat):(Addr.mk b o none).add n=⟨b,o+n,none⟩:=by
 unfold Addr.add;split
 ·rename_i h; simp[h]
 ·rfl
theorem Uu{E:af}{as:List AV}{b o:Nat}(h:cU E as b o){i:Nat}{a:AV}(hi:as[i]? = some a) :
  ∃ v,E.w.cell? ⟨b,o+i,none⟩=some v/\dW v=true/\ad E a v:=ke.1 h i a hi
theorem sU{E:af}{as:List AV}{b o:Nat}(h:cU E as b o)(n:Nat):cU E (as.drop n) b (o+n):=by
 rw[ke]at *;intro i a hi;rw[sI]at hi;obtain⟨v,h1,d,g⟩:=h (n+i) a hi;exact⟨v,by rw[sH]; exact h1,d,g⟩
theorem BE{E:af}{as:List AV}{b o:Nat}(h:cU E as b o)(n:Nat):cU E (as.take n) b o:=by
 rw[ke]at *;intro i a hi;rw[oH]at hi;split at hi
 ·exact h i a hi
 ·cases hi
theorem uW:∀(as:List AV) (n:Nat),AV.bK as=true->AV.bK (as.drop n)=true
 | [],n,_=>by simp[AV.bK]
 |a::as,0,h=>by simpa using h
 | a::as,n+1,h=>by
  simp only[AV.bK,aL]at h;simpa using uW as n h.2
theorem yd:∀(as:List AV) (n:Nat),AV.bK as=true->AV.bK (as.take n)=true
 | [],n,_=>by simp[AV.bK]
 |a::as,0,_=>by simp[AV.bK]
 | a::as,n+1,h=>by
  simp only[AV.bK,aL]at h;simp only[E9,AV.bK,aL];exact⟨h.1,yd as n h.2⟩
theorem ye{E:af}:∀{as:List AV} {b o:Nat},cU E as b o ->
  ∃ d:List al,aw E as d/\(∀ x∈d,dW x=true)/\∀ j v,d[j]? = some v->E.w.cell? ⟨b,o+j,none⟩=some v
 | [],b,o,_=>⟨[],by simp[aw]⟩
 | a::as,b,o,h=>by
  simp only[cU]at h;obtain⟨⟨v,h1,q,y⟩,I⟩:=h;obtain⟨d,M,N,O⟩:=ye I;refine⟨v::d,by simp only[aw]; exact⟨y,M⟩,?_,?_⟩
  ·intro x g
   rcases cq.1 g with rfl|g
   ·exact q
   ·exact N x g
  ·intro j x k
   cases j with
   |zero=>simp at k; subst k; exact h1
   |succ j=>have:=O j x (by simpa using k); rwa [sH,xN 1 j]at this
theorem yf{P:aj}{E:af}{cells:List AV}{b o n:Nat}{agg:Bool}{t:aD}{v:AV}(M:gk P t=some (n,agg))
  (g:jB agg n cells=some v) (k:cU E cells b o):∃ c,(loadVar t ⟨b,o,none⟩).run P E.w=.ok c E.w/\ad E v c:=by
 obtain⟨i,d,hi,q,N,ha⟩:=lu M;unfold jB at g;cases agg with
 | true =>
  simp only[if_true]at g;split at g
  ·rename_i I
   cases g;obtain⟨h,y,O,U⟩:=ye (BE k n);have V:h.length=n:=by rw[<-ka y]; simp[I]
   refine⟨.agg h.toArray,?_,?_⟩
   ·simp only [loadVar, cf, Sem.pP q, b_, ha, if_true, Sem.run_sizeOf hi, N]
    rw[<-V,run_loadCells_list (w:=E.w) ⟨b,o,none⟩ h (fun j v W=>by rw[mf]; exact U j v W)];rfl
   ·simp only [ad]
    exact⟨h.toArray,rfl,by simpa using O,by simpa using y⟩
  ·cases g
 | false =>
  simp only[lk,if_false]at g;obtain⟨x,h1,_,h3⟩:=Uu k g;refine⟨x,?_,h3⟩;simp only[loadVar,cf,Sem.pP q,b_,ha,lk,if_false,run_load];rw[show (⟨b,o,none⟩:Addr)=⟨b,o+0,none⟩ from rfl,h1]
def mP(P:aj)(t:aD)(x:AV)(H:List ai):Option AV :=
 match gk P t with
 | some (n,agg) =>
  match x with
  |.cptr cells=>jB agg n cells
  | .ptr id ak w row d=>match H[id]? with
   |some (.box cells)=>if ak=0/\row=0 then jB agg n (cells.drop d) else none
   |some (.vQ k v rZ)=>if ak=v/\k=w then (match rZ[row]? with|some r=>jB agg n (r.drop d)|none=>none) else none
   |some (.cM l _ _ g)=>if ak=0/\w=1/\d=0 then (match g[row]? with|some rZ=>jB agg n [.svec id l row rZ.length]|none=>none) else none
   |_=>none
  | .sptr id l j w row d=>match H[id]? with
   |some (.cM l' k _ g)=>if l=l'/\k=w then (match g[j]? with|some rZ=>(match rZ[row]? with|some r=>jB agg n (r.drop d)|none=>none)|none=>none) else none
   |_=>none
  |_=>none
 |none=>none
theorem nT{E:af}{k:Nat}{rs:List (List AV)}{b o:Nat}(h:cX E k rs b o){i:Nat}{r:List AV}(hi:rs[i]? = some r) :
  r.length=k/\cU E r b (o+i*k):=nR.1 h i r hi
theorem Ku{P:aj}{E:af}(HE:aI E){t:aD}{x v:AV}{c:al}(d:mP P t x E.H=some v)(I:ad E x c) :
  ∃ u,(xO t c).run P E.w=.ok u E.w/\ad E v u:=by
 unfold mP at d;split at d
 case h_2=>cases d
 rename_i n agg U;split at d
 ·simp only [ad] at I
  obtain⟨_,b,o,rfl,_,h2⟩:=I;obtain⟨u,q,y⟩:=yf U d h2;exact⟨u,by simpa[xO,mI]using q,y⟩
 ·rename_i id ak w row W
  simp only[ad]at I;split at d
  ·rename_i cells g
   split at d
   ·rename_i O
    obtain⟨rfl,rfl⟩:=O;obtain⟨b,m,V,rfl⟩:=I.2.2 ⟨_,g,rfl⟩;obtain⟨b',m',h,_,M⟩:=HE.obj id _ g;rw[V]at h;cases h;have:=sU M W;simp only[cP]at this;obtain⟨u,q,y⟩:=yf U d this;exact⟨u,by simpa[xO,mI]using q,y⟩
   ·cases d
  ·rename_i k v' rZ g
   split at d
   ·rename_i O
    obtain⟨rfl,rfl⟩:=O;split at d
    ·rename_i r N
     obtain⟨b,m,V,rfl⟩:=I.2.2 ⟨_,g,rfl⟩;rcases HE.obj id _ g with⟨h,M⟩|⟨b',m',h,_,_,_,M⟩
     ·subst M; simp at N
     ·rw [V] at h
      cases h;have:=sU (nT M N).2 W;simp only[cP]at this;obtain⟨u,q,y⟩:=yf U d this;exact⟨u,by simpa[xO,mI]using q,y⟩
    ·cases d
   ·cases d
  ·rename_i l k m ms g
   split at d
   ·rename_i O
    obtain⟨rfl,rfl,rfl⟩:=O;split at d
    ·rename_i rZ N
     obtain⟨b,m,V,rfl⟩:=I.2.2 ⟨_,g,rfl⟩;have ho:=HE.obj id _ g;simp only[aY]at ho;obtain⟨b',m',cs,el,h,M,e4,_,_,e7⟩:=ho;rw[V]at h;cases h;have hlt:row<(dQ (E.X.r l)).length:=by rw[e4]; exact(JH.1 N).1
     obtain⟨m2,q1,⟨cur,el2,q2,q3⟩,q4,_,_⟩:=e7 row rZ _ N (bY hlt);have hc:cU E [.svec id l row rZ.length] b (row*1+0):=by
      simp only[cU,and_true];refine⟨.slice (some ⟨(dQ (E.X.r l))[row],0,none⟩) rZ.length m2,?_,rfl,?_⟩
      ·simp only [uz, M]
       simpa using q1
      ·simp only [ad]
       exact⟨⟨_,m2,rfl,q4,fun _=>⟨_,_,rfl⟩⟩,⟨_,g,rfl,fun v _=>eR v⟩,fun _=>⟨⟨_,g,rfl⟩,_,bY hlt,m2,q4,rfl⟩⟩
     obtain⟨u,q,y⟩:=yf U d hc;exact⟨u,by simpa[xO,mI]using q,y⟩
    ·cases d
   ·cases d
  ·cases d
 ·rename_i id l j w row W
  simp only[ad]at I;split at d
  ·rename_i l' k m ms g
   split at d
   ·rename_i O
    obtain⟨rfl,rfl⟩:=O;split at d
    ·rename_i rZ hj
     split at d
     ·rename_i r N
      obtain⟨_,b,g1,rfl⟩:=I.2.2 ⟨_,g,rfl⟩;have ho:=HE.obj id _ g;simp only[aY]at ho;obtain⟨b',m',cs,el,h,M,e4,_,_,e7⟩:=ho;obtain⟨m2,_,_,_,_,q6⟩:=e7 j rZ b hj g1;have:=sU (nT q6 N).2 W;simp only[cP]at this;obtain⟨u,q,y⟩:=yf U d this;exact⟨u,by simpa[xO,mI]using q,y⟩
     ·cases d
    ·cases d
   ·cases d
  ·cases d
 ·cases d
theorem Uv{P:aj}{E:af}{t:aD}{f:Nat}{k:FK}{x v:AV}{c:al}(U:uT P t f=some k)
  (g:FF k x=some v) (h:ad E x c):∃ u,(TJ t c f).run P E.w=.ok u E.w/\ad E v u:=by
 obtain⟨fs,V,h1,I,W,h4⟩:=Kt U;obtain⟨i,d,hi,hd,hs,ha⟩:=lu h4;unfold FF at g;split at g
 ·cases g
 rename_i M;have y:∀ b o w,(fieldPlace ⟨b,o,none⟩ V).run P w=.ok ⟨b,o+k.oF,none⟩ w:=by
  intro b o w;simp only[fieldPlace,cf,Sem.run_sizeOf hi,b_,hs,iN M,fp,mf,W]
 split at g
 ·cases g
  simp only[ad]at h;obtain⟨hc,b,o,rfl,N,O⟩:=h;refine⟨.pointer (some ⟨b,o+k.oF,none⟩),?_,?_⟩
  ·simp[TJ,Sem.bE h1,I,mI,y]
  ·simp only [ad]
   exact⟨uW _ _ hc,b,o+k.oF,rfl,N,sU O _⟩
 ·cases g
  simp only[ad]at h;rename_i id ak w row col;obtain⟨⟨b,o,rfl⟩,h5,h6⟩:=h;refine⟨.pointer (some ⟨b,o+k.oF,none⟩),?_,?_⟩
  ·simp[TJ,Sem.bE h1,I,mI,y]
  ·simp only [ad]
   refine⟨⟨_,_,rfl⟩,h5,fun hl=>?_⟩;obtain⟨b',n',e1,q⟩:=h6 hl;simp only[aj6,be,E_]at q;exact⟨b',n',e1,by simp[q.1,q.2.1,sH]⟩
 ·cases g
theorem je{P:aj}{t e sz d:Nat}(h:cZ P t=.slice e sz d):P.underlying t=some (.slice e)/\∃ i,P.info? e=some i/\i.size=sz/\i.bytes=d:=by
 unfold cZ at h;split at h
 ·rename_i k h1
  split at h
  ·rename_i i g
   cases h;exact⟨h1,i,g,rfl,rfl⟩
  ·cases h
 ·split at h<;>cases h
 all_goals cases h
theorem BF{P:aj}{t n e sz:Nat}{a:Bool}(h:cZ P t=.array n e sz a):P.underlying t=some (.array n e)/\gk P e=some (sz,a):=by
 unfold cZ at h;split at h
 ·split at h<;>cases h
 ·rename_i g k h1
  split at h
  ·rename_i m q d
   cases h;exact⟨h1,d⟩
  ·cases h
 all_goals cases h
theorem sW{P:aj}{t:Nat}(h:cZ P t=.str):P.underlying t=some .string:=by
 unfold cZ at h;split at h
 ·split at h<;>cases h
 ·split at h<;>cases h
 ·rename_i h1; exact h1
 all_goals cases h
theorem Uw{P:aj}{E:af}(HE:aI E){t:aD}{x i v:AV}{c d:al}
  (g:kh (cZ P t) x i=some v) (h:ad E x c) (hi:ad E i d):∃ u,(xP t c d).run P E.w=.ok u E.w/\ad E v u:=by
 unfold kh at g;split at g
 case h_2=>cases g
 rename_i k n;simp only[ad]at hi;subst hi;split at g
 ·rename_i e sz by_ w rZ y
  split at g
  ·rename_i q
   obtain⟨rfl,h0,h1⟩:=q;obtain⟨I,ii,M,O,_⟩:=je y;cases N:rZ[n.toNat]? with
   |none=>rw[N]at g; cases g
   | some r =>
    rw[N]at g;simp at g;subst g;simp only[ad]at h;obtain⟨hcl,aN,cap,rfl,hle,hh⟩:=h;rcases hh with rfl|⟨b,o,rfl,hok,hr⟩
    ·simp at N
    ·obtain ⟨g1, U⟩ := nT hr N
     refine⟨.pointer (some ⟨b,o+n.toNat*w,none⟩),?_,?_⟩
     ·simp[xP,asIntOf,Sem.bE I,h0,h1,Sem.run_sizeOf M,O,mf]
     ·simp only [ad]
      exact⟨hcl r (eO N),b,_,rfl,hok,U⟩
  ·cases g
 ·rename_i e sz by_ ks rZ y
  split at g
  ·rename_i q
   obtain⟨rfl,h0,h1⟩:=q;cases g;obtain⟨I,ii,M,O,_⟩:=je y;have h:=kf.1 h;simp only[ad,c9]at h;obtain⟨hcl,aN,cap,rfl,hle,hh⟩:=h;have hlt:n.toNat<rZ.length:=by omega
   have N:(rZ.map (aT ks))[n.toNat]? = some (aT ks (rZ.getD n.toNat [])):=by
    rw[bW,cu,bY hlt];rfl
   rcases hh with hn|⟨b,o,rfl,hok,hr⟩
   ·rw[hn]at N; simp at N
   ·obtain ⟨g1, U⟩ := nT hr N
    refine⟨.pointer (some ⟨b,o+n.toNat*ks.length,none⟩),?_,?_⟩
    ·simp[xP,asIntOf,Sem.bE I,h0,h1,Sem.run_sizeOf M,O,mf]
    ·simp only [ad]
     exact⟨gJ _ _,b,_,rfl,hok,U⟩
  ·cases g
 ·rename_i e sz by_ w id ak oF m y
  split at g
  ·rename_i q
   obtain⟨rfl,h0,h1⟩:=q;cases g;obtain⟨I,ii,M,O,_⟩:=je y;simp only[ad]at h;obtain⟨⟨aN,cap,rfl,hle,hb⟩,W,V⟩:=h;obtain⟨b,o,rfl⟩:=hb (by omega);refine⟨.pointer (some ⟨b,o+n.toNat*w,none⟩),?_,?_⟩
   ·simp[xP,asIntOf,Sem.bE I,h0,h1,Sem.run_sizeOf M,O,mf]
   ·simp only [ad]
    refine⟨⟨_,_,rfl⟩,W,fun hl=>?_⟩;obtain⟨g1,U⟩:=V hl;obtain⟨a,ha,hav⟩:=W;cases hloc:E.ae[id]? with
    | none =>
     have:=aV ha;rw[<-HE.len]at this;rw[bY this]at hloc;cases hloc
    | some l =>
     cases l with
     |none=>have:=(g1 hloc).1; omega
     | some bm =>
      obtain⟨b',m'⟩:=bm;obtain⟨q1,o',q2,q3⟩:=U b' m' hloc;simp only[l6,be,E_]at q3;refine⟨b',m',rfl,?_⟩;rw[q3.1.1,q3.1.2.1,q2 (by omega),gv];rfl
  ·cases g
 ·rename_i e sz by_ id l j m y
  split at g
  ·rename_i q
   obtain⟨h0,h1⟩:=q;cases g;obtain⟨I,ii,M,O,_⟩:=je y;simp only[ad]at h;obtain⟨⟨aN,cap,rfl,hle,hb⟩,W,V⟩:=h;obtain⟨b,o,rfl⟩:=hb (by omega);refine⟨.pointer (some ⟨b,o+n.toNat*sz,none⟩),?_,?_⟩
   ·simp[xP,asIntOf,Sem.bE I,h0,h1,Sem.run_sizeOf M,O,mf]
   ·simp only [ad]
    refine⟨⟨_,_,rfl⟩,W,fun hl=>?_⟩;obtain⟨g1,b',U,m',g3,g4⟩:=V hl;simp only[l6,be,E_]at g4;exact⟨g1,b',U,by simp[g4.1.1,g4.1.2.1]⟩
  ·cases g
 ·rename_i m e sz a id ak w row col y
  split at g
  ·rename_i q
   cases g;obtain⟨I,hvk⟩:=BF y;obtain⟨ii,dd,M,O,h4,_⟩:=lu hvk;simp only[ad]at h;obtain⟨⟨b,o,rfl⟩,W,V⟩:=h;refine⟨.pointer (some ⟨b,o+n.toNat*sz,none⟩),?_,?_⟩
   ·simp[xP,asIntOf,Sem.bE I,q.1,q.2,Sem.run_sizeOf M,h4,mf,mI]
   ·simp only [ad]
    refine⟨⟨_,_,rfl⟩,W,fun hl=>?_⟩;obtain⟨b',n',e1,e2⟩:=V hl;simp only[aj6,be,E_]at e2;exact⟨b',n',e1,by simp[e2.1,e2.2.1,sH]⟩
  ·cases g
 ·rename_i m e sz a cells y
  split at g
  ·rename_i q
   cases g;obtain⟨I,hvk⟩:=BF y;obtain⟨ii,dd,M,O,h4,_⟩:=lu hvk;simp only[ad]at h;obtain⟨hcl,b,o,rfl,hok,V⟩:=h;refine⟨.pointer (some ⟨b,o+n.toNat*sz,none⟩),?_,?_⟩
   ·simp[xP,asIntOf,Sem.bE I,q.1,q.2,Sem.run_sizeOf M,h4,mf,mI]
   ·simp only [ad]
    exact⟨yd _ _ (uW _ _ hcl),b,_,rfl,hok,BE (sU V _) _⟩
  ·cases g
 ·cases g
def mQ:AV->Option Int
 |.lit (.int _ n)=>some n
 |_=>none
def jf(len:Nat)(lo hi:Option AV):Option (Nat × Nat) :=
 match (match lo with|none=>some 0|some x=>mQ x),(match hi with|none=>some (len:Int)|some x=>mQ x)with
 |some l,some h=>if 0<=l/\l<=h/\h<=len then some (l.toNat,h.toNat) else none
 |_,_=>none
theorem uX{E:af}{x:AV}{c:al}{n:Int}(h:mQ x=some n)(d:ad E x c):∃ k,c=.int k n:=by
 unfold mQ at h;split at h
 ·cases h
  simp only[ad]at d;exact⟨_,d⟩
 ·cases h
def Kv:List AV->Option (List G)
 | [.lit (.string s)]=>some [.s s]
 |_=>none
def uY:List (List AV)->Option (List (List G))
 | []=>some []
 | r::rs=>match Kv r,uY rs with
  |some g,some d=>some (g::d)
  |_,_=>none
theorem FI:∀{rZ:List (List AV)} {d:List (List G)},uY rZ=some d->d.map (aT [.str])=rZ
 | [],d,h=>by
  simp only[uY,be]at h;subst h;rfl
 | r::rs,d,h=>by
  simp only[uY]at h;split at h
  ·rename_i g q h1 k
   cases h;rw[dx,FI k];unfold Kv at h1;split at h1
   ·cases h1; rfl
   ·cases h1
  ·cases h
def BG(w:Nat)(rZ:List (List AV))(l n:Nat):AV:=match w,uY rZ with
 |1,some d=>.listF [.str] ((d.drop l).take n)
 |_,_=>.list w ((rZ.drop l).take n)
theorem Ux{E:af}{w l n:Nat}{rZ:List (List AV)}{c:al} (h:ad E (.list w ((rZ.drop l).take n)) c):ad E (BG w rZ l n) c:=by
 unfold BG;split
 ·rename_i g d
  rw[kf,JJ,JK,FI d];exact h
 ·exact h
def nU(P:aj)(t:aD)(x:AV)(lo hi mx:Option AV):Option AV :=
 match cZ P t,x with
 | .str,.lit (.string s)=>match mx,jf s.size lo hi with
  |none,some (l,h)=>some (.lit (.string (s.extract l h)))
  |_,_=>none
 | .slice _ sz _,.list w rZ=>match mx with
  | none=>match jf rZ.length lo hi with
   |some (l,h)=>if w=sz then some (BG w rZ l (h-l)) else none
   |none=>none
  |some m=>if hi.isSome/\jf rZ.length lo hi=some (0,0)/\mQ m=some 0 then some .nils else none
 | .slice _ sz _,.listF ks rZ=>match mx with
  | none=>match jf rZ.length lo hi with
   |some (l,h)=>if ks.length=sz then some (.listF ks ((rZ.drop l).take (h-l))) else none
   |none=>none
  |some m=>if hi.isSome/\jf rZ.length lo hi=some (0,0)/\mQ m=some 0 then some .nils else none
 | .slice _ sz _,.vQ w id ak oF n=>match mx with
  | none=>match jf n lo hi with
   |some (l,h)=>if w=sz then some (.vQ w id ak (oF+l) (h-l)) else none
   |none=>none
  |some m=>if hi.isSome/\jf n lo hi=some (0,0)/\mQ m=some 0 then some .nils else none
 | .slice _ _ _,.nils=>match mx with
  |none=>if (jf 0 lo hi).isSome then some .nils else none
  |some _=>none
 | .slice _ _ _,.lit (.slice none 0 0)=>match mx with
  |none=>if (jf 0 lo hi).isSome then some (.lit (.slice none 0 0)) else none
  |some m=>if hi.isSome/\jf 0 lo hi=some (0,0)/\mQ m=some 0 then some (.lit (.slice none 0 0)) else none
 |_,_=>none
theorem uZ{P:aj}{E:af}{len cap:Nat}{lo hi:Option AV}{clo q:Option al}{l h:Nat}(O:Bool)(hb:jf len lo hi=some (l,h))(hle:len<=cap)
  (h1:∀ x,lo=some x->∃ c,clo=some c/\ad E x c) (y:lo=none->clo=none)
  (V:∀ x,hi=some x->∃ c,q=some c/\ad E x c) (U:hi=none->q=none) (w:ba) :
  (uA O len cap clo q none).run P w=.ok (l,h,cap) w/\l<=h/\h<=len:=by
 unfold jf at hb;split at hb
 case h_2=>cases hb
 rename_i a b g v;split at hb
 case isFalse=>cases hb
 rename_i d;simp only[be,bo]at hb;obtain⟨rfl,rfl⟩:=hb;obtain⟨I,W,c2⟩:=d;refine⟨?_,by omega,by omega⟩;cases hi with
 | none =>
  rw[U rfl];simp at v;subst v;cases lo with
  | none =>
   rw[y rfl];simp at g;subst g;simp[uA]
  | some x =>
   obtain⟨c,rfl,d⟩:=h1 x rfl;obtain⟨k,rfl⟩:=uX g d;simp[uA,Fa,asIntOf,I,W]
 | some z =>
  obtain⟨c,rfl,d⟩:=V z rfl;obtain⟨k,rfl⟩:=uX v d;have M:b<=(cap:Int):=by omega
  have N:0<=b:=by omega
  cases lo with
  | none =>
   rw[y rfl];simp at g;subst g;simp[uA,Fa,asIntOf,M,N]
  | some x =>
   obtain⟨c,rfl,d⟩:=h1 x rfl;obtain⟨k',rfl⟩:=uX g d;have g4:¬ (max b 0<a):=by omega
   simp[uA,Fa,asIntOf,M,N,I,g4]
theorem Kw{E:af}{k:Nat}{rZ:List (List AV)}{b o:Nat}(h:cX E k rZ b o)(l n:Nat) :
  cX E k ((rZ.drop l).take n) b (o+l*k):=by
 rw[nR]at *;intro i r hi;rw[oH]at hi;split at hi
 ·rw [sI] at hi
  have:=h (l+i) r hi
  rwa [gv,<-sH]at this
 ·cases hi
def qP(E:af):Option AV->Option al->Prop
 |none,none=>True
 |some x,some c=>ad E x c
 |_,_=>False
theorem FJ{E:af}{lo:Option AV}{clo:Option al}(h:qP E lo clo):(∀ x,lo=some x->∃ c,clo=some c/\ad E x c)/\(lo=none->clo=none):=by
 cases lo<;>cases clo<;>simp_all[qP]
theorem Kx{E:af}{w l h cap:Nat}{rZ:List (List AV)}{aN:Option Addr}(k:fq rZ)(I:rZ.length<=cap)(h1:l<=h)(v:h<=rZ.length)
  (y:rZ=[]\/∃ b o,aN=some ⟨b,o,none⟩/\E.kM b/\cX E w rZ b o) :
  ad E (.list w ((rZ.drop l).take (h-l))) (.slice (if cap=l then aN else aN.map (·.add (l*w))) (h-l) (cap-l)):=by
 simp only[ad];have g:((rZ.drop l).take (h-l)).length=h-l:=by simp; omega
 refine⟨fun r d=>k r (Bb (xQ d)),_,cap-l,by rw[g],by rw[g]; omega,?_⟩;rcases Nat.eq_or_lt_of_le h1 with rfl|M
 ·left; simp
 ·right
  rcases y with rfl|⟨b,o,rfl,q,d⟩
  ·simp at v; omega
  ·refine ⟨b, o + l * w, ?_, q, Kw d l (h - l)⟩
   rw[iN (by omega)];simp[mf]
theorem Uy{E:af}{w id ak oF n l h:Nat}{aN:Option Addr}{cap:Nat}(g:ad E (.vQ w id ak oF n) (.slice aN n cap))(h1:l<=h)(h2:h<=n) :
  ad E (.vQ w id ak (oF+l) (h-l)) (.slice (if cap=l then aN else aN.map (·.add (l*w))) (h-l) (cap-l)):=by
 simp only[ad]at g|-;obtain⟨⟨v,cap',e,hle,hb⟩,I,M⟩:=g;simp only[l6]at e;obtain⟨rfl,_,rfl⟩:=e;refine⟨⟨_,_,rfl,by omega,fun hp=>?_⟩,I,fun N=>?_⟩
 ·obtain ⟨b, o, rfl⟩ := hb (by omega)
  rw[iN (by omega)];exact⟨b,o+l*w,by simp[mf]⟩
 ·obtain ⟨O, U⟩ := M N
  refine⟨fun d=>?_,fun b m d=>?_⟩
  ·obtain ⟨rfl, rfl, v, e⟩ := O d
   simp only[l6]at e;refine⟨by omega,by omega,?_⟩;have V:h-l=0:=by omega
   have W:cap-l=0:=by omega
   rw[V,W];exact⟨_,rfl⟩
  ·obtain ⟨q1, o, q2, k⟩ := U b m d
   simp only[l6]at k;obtain⟨rfl,_,rfl⟩:=k;refine⟨by omega,?_⟩;by_cases q:m-oF=l
   ·rw [iP q]
    exact⟨o,fun y=>by omega,by rw[aj7]⟩
   ·rw [iN q]
    refine⟨o+l*w,fun y=>?_,by simp[mf,aj7]⟩;rw[q2 (by omega),gv]
theorem BH{P:aj}{E:af}{len:Nat}{lo hi:Option AV}{m:AV}{clo g:Option al}{h:al}
  (hb:jf len lo hi=some (0,0)) (I:hi.isSome=true) (hm:mQ m=some 0)
  (h1:∀ x,lo=some x->∃ c,clo=some c/\ad E x c) (q:lo=none->clo=none)
  (M:∀ x,hi=some x->∃ c,g=some c/\ad E x c) (v:ad E m h) (cap:Nat) (w:ba) :
  (uA true len cap clo g (some h)).run P w=.ok (0,0,0) w:=by
 obtain⟨k,rfl⟩:=uX hm v;obtain⟨z,rfl⟩:=Fb.1 I;obtain⟨c,rfl,d⟩:=M z rfl;unfold jf at hb;split at hb
 case h_2=>cases hb
 rename_i a b N O;split at hb
 case isFalse=>cases hb
 rename_i U;simp only[be,bo]at hb;obtain⟨W,rfl⟩:=uX O d;have ha:a=0:=by omega
 have y:b=0:=by omega
 subst ha; subst y;cases lo with
 | none =>
  rw[q rfl];simp[uA,Fa,asIntOf]
 | some x =>
  obtain⟨c,rfl,d⟩:=h1 x rfl;obtain⟨V,rfl⟩:=uX N d;simp[uA,Fa,asIntOf]
theorem Uz{P:aj}{E:af}{t:aD}{x v:AV}{lo hi mx:Option AV}{c:al}{clo chi cmx:Option al}
  (d:nU P t x lo hi mx=some v) (y:ad E x c) (hlo:qP E lo clo) (hhi:qP E hi chi) (hmx:qP E mx cmx) :
  ∃ u,(pH t c clo chi cmx).run P E.w=.ok u E.w/\ad E v u:=by
 obtain⟨V,U⟩:=FJ hlo;obtain⟨W,l2'⟩:=FJ hhi;obtain⟨l3,l3'⟩:=FJ hmx;unfold nU at d;split at d
 ·rename_i s N
  have k:=sW N;simp only[ad]at y;subst y;split at d
  ·rename_i l h hb
   cases d;rw[l3' rfl];obtain⟨O,g2,g3⟩:=uZ (P:=P) (E:=E) (cap:=s.size) false hb (aQ _) V U W l2' E.w;refine⟨.string (s.extract l h),?_,by simp[ad]⟩;simp[pH,qC,Sem.bE k,O]
  ·cases d
 ·rename_i e sz by_ w rZ N
  obtain⟨k,ii,I,M,_⟩:=je N;have hx':=y;simp only[ad]at y;obtain⟨hcl,aN,cap,rfl,hle,hh⟩:=y;split at d
  ·split at d
   ·rename_i l h hb
    split at d
    ·rename_i hw
     subst hw;cases d;rw[l3' rfl];obtain⟨O,g2,g3⟩:=uZ (P:=P) (E:=E) (cap:=cap) true hb hle V U W l2' E.w;refine⟨_,?_,Ux (Kx (cap:=cap) hcl hle g2 g3 hh)⟩;simp[pH,qC,Sem.bE k,O,Sem.run_sizeOf I,M]
    ·cases d
   ·cases d
  ·rename_i m
   split at d
   ·rename_i q
    cases d;obtain⟨cm,rfl,hm⟩:=l3 m rfl;have g:=BH (P:=P) q.2.1 q.1 q.2.2 V U W hm cap E.w;refine⟨.slice aN 0 0,?_,by simp only[ad]; exact⟨aN,rfl⟩⟩;simp[pH,qC,Sem.bE k,g,Sem.run_sizeOf I,M]
   ·cases d
 ·rename_i e sz by_ ks rZ N
  obtain⟨k,ii,I,M,_⟩:=je N;have hx':=kf.1 y;simp only[ad]at hx';obtain⟨hcl,aN,cap,rfl,hle,hh⟩:=hx';simp only[c9]at hle y|-;split at d
  ·split at d
   ·rename_i l h hb
    split at d
    ·rename_i hw
     subst hw;cases d;rw[l3' rfl];obtain⟨O,g2,g3⟩:=uZ (P:=P) (E:=E) (cap:=cap) true hb hle V U W l2' E.w;have:=Kx (cap:=cap) hcl (by simpa using hle) g2 (by simpa using g3) hh;have e:((rZ.map (aT ks)).drop l).take (h-l)=((rZ.drop l).take (h-l)).map (aT ks):=by rw[JJ,JK]
     rw[e]at this;refine⟨_,?_,kf.2 this⟩;simp[pH,qC,Sem.bE k,O,Sem.run_sizeOf I,M]
    ·cases d
   ·cases d
  ·rename_i m
   split at d
   ·rename_i q
    cases d;obtain⟨cm,rfl,hm⟩:=l3 m rfl;have g:=BH (P:=P) q.2.1 q.1 q.2.2 V U W hm cap E.w;refine⟨.slice aN 0 0,?_,by simp only[ad]; exact⟨aN,rfl⟩⟩;simp[pH,qC,Sem.bE k,g,Sem.run_sizeOf I,M]
   ·cases d
 ·rename_i e sz by_ w id ak oF n N
  obtain⟨k,ii,I,M,_⟩:=je N;have hx':=y;simp only[ad]at y;obtain⟨⟨aN,cap,rfl,hle,_⟩,_,_⟩:=y;split at d
  ·split at d
   ·rename_i l h hb
    split at d
    ·rename_i hw
     subst hw;cases d;rw[l3' rfl];obtain⟨O,g2,g3⟩:=uZ (P:=P) (E:=E) (cap:=cap) true hb hle V U W l2' E.w;refine⟨_,?_,Uy hx' g2 g3⟩;simp[pH,qC,Sem.bE k,O,Sem.run_sizeOf I,M]
    ·cases d
   ·cases d
  ·rename_i m
   split at d
   ·rename_i q
    cases d;obtain⟨cm,rfl,hm⟩:=l3 m rfl;have g:=BH (P:=P) q.2.1 q.1 q.2.2 V U W hm cap E.w;refine⟨.slice aN 0 0,?_,by simp only[ad]; exact⟨aN,rfl⟩⟩;simp[pH,qC,Sem.bE k,g,Sem.run_sizeOf I,M]
   ·cases d
 ·rename_i e sz by_ N
  obtain⟨k,ii,I,M,_⟩:=je N;simp only[ad]at y;obtain⟨aN,rfl⟩:=y;split at d
  ·split at d
   ·rename_i hb
    cases d;obtain⟨⟨l,h⟩,hb⟩:=Fb.1 hb;rw[l3' rfl];obtain⟨O,g2,g3⟩:=uZ (P:=P) (E:=E) (cap:=0) true hb (aQ _) V U W l2' E.w;have:h=0:=by omega
    subst this;have:l=0:=by omega
    subst this;refine⟨.slice aN 0 0,?_,by simp only[ad]; exact⟨aN,rfl⟩⟩;simp[pH,qC,Sem.bE k,O,Sem.run_sizeOf I,M]
   ·cases d
  ·cases d
 ·rename_i e sz by_ N
  obtain⟨k,ii,I,M,_⟩:=je N;simp only[ad]at y;subst y;split at d
  ·split at d
   ·rename_i hb
    cases d;obtain⟨⟨l,h⟩,hb⟩:=Fb.1 hb;rw[l3' rfl];obtain⟨O,g2,g3⟩:=uZ (P:=P) (E:=E) (cap:=0) true hb (aQ _) V U W l2' E.w;have:h=0:=by omega
    subst this;have:l=0:=by omega
    subst this;refine⟨.slice none 0 0,?_,by simp only[ad]⟩;simp[pH,qC,Sem.bE k,O,Sem.run_sizeOf I,M]
   ·cases d
  ·rename_i m
   split at d
   ·rename_i q
    cases d;obtain⟨cm,rfl,hm⟩:=l3 m rfl;have g:=BH (P:=P) q.2.1 q.1 q.2.2 V U W hm 0 E.w;refine⟨.slice none 0 0,?_,by simp only[ad]⟩;simp[pH,qC,Sem.bE k,g,Sem.run_sizeOf I,M]
   ·cases d
 ·cases d
end Go.AL

namespace Go.AL
open Go
variable [Dr]
def kindOk:SK->al->Bool
 |.int k,.int d _=>k=d
 |.str,.string _=>true
 |.bool,.bool _=>true
 |_,_=>false
def qQ:al->al->Bool
 |.int _ a,.int _ b=>a==b
 |.string a,.string b=>a.toList==b.toList
 |.bool a,.bool b=>a==b
 |_,_=>false
def eS:List al->List al->Bool
 | [],[]=>true
 |a::as,b::d=>qQ a b&&eS as d
 |_,_=>false
def du:List SK->List al->Bool
 | [],[]=>true
 |k::ks,v::d=>kindOk k v&&du ks d
 |_,_=>false
def sX(P:aj)(f:aD->Option (List SK)):List Field->Nat->Option (List SK)
 | [],_=>some []
 | x::d,oF=>if x.name = "_" \/ x.offset≠oF then none else
  match f x.type,gk P x.type with
  |some ks,some (n,_)=>if n=ks.length then (match sX P f d (oF+n)with|some l=>some (ks++l)|none=>none) else none
  |_,_=>none
def u3(e n m:Nat):List Field:=(List.range' 0 m).map fun i=>⟨"a", e,i*n,false, "", "", i⟩
def flatK(P:aj):Nat->aD->Option (List SK)
 |0,_=>none
 | d+1,t=>match P.underlying t with
  |some (.int k)=>some [.int k]
  |some .string=>some [.str]
  |some .bool=>some [.bool]
  |some (.struct g)=>if P.stoodInHeld t then none else sX P (fun t=>flatK P d t) g.toList 0
  | some (.array m e)=>match gk P e with
   |some (n,_)=>sX P (fun t=>flatK P d t) (u3 e n m) 0
   |none=>none
  |_=>none
abbrev yg(P:aj)(d:Nat)(g:List Field)(oF:Nat):Option (List SK):=sX P (fun t=>flatK P d t) g oF
theorem Ky:∀(a b c d:List al),a.length=c.length->eS (a++b) (c++d)=(eS a c&&eS b d)
 | [],b,[],d,_=>by simp[eS]
 | x::a,b,y::c,d,h=>by
  simp only[l7,eS,Ky a b c d (by simpa using h),aj8]
 | [],_,_::_,_,h=>by simp at h
 |_::_,_,[],_,h=>by simp at h
theorem u4:∀{ks:List SK} {d:List al},du ks d=true->ks.length=d.length
 | [],[],_=>rfl
 |_::ks,_::d,h=>by simp only[du,aL]at h; simp[u4 h.2]
 | [],_::_,h=>by simp[du]at h
 |_::_,[],h=>by simp[du]at h
theorem BI:∀{a b:List SK} {d:List al},du (a++b) d=true->du a (d.take a.length)=true/\du b (d.drop a.length)=true
 | [],b,d,h=>by simpa[du]using h
 |k::a,b,[],h=>by simp[du]at h
 | k::a,b,v::d,h=>by
  simp only[l7,du,aL]at h;have:=BI h.2;simp only[cd,E9,du,aL,List.drop_succ_cons];exact⟨⟨h.1,this.1⟩,this.2⟩
def fl(P:aj)(t:aD)(x:al)(d:List al):Prop :=
 match P.underlying t with
 |some (.struct _)=>∃ a:Array al,x=.agg a/\a.toList=d
 |some (.array _ _)=>∃ a:Array al,x=.agg a/\a.toList=d
 |_=>d=[x]
theorem FL{P:aj}{t:aD}{n:Nat}{agg:Bool}{ks:List SK}{d:Nat}(M:gk P t=some (n,agg))(h:flatK P d t=some ks)(q:n=ks.length)
  (cs:Array al) (oF:Nat) (I:du ks ((cs.toList.drop oF).take n)=true) (w:ba) :
  ∃ x,(part t cs oF).run P w=.ok x w/\fl P t x ((cs.toList.drop oF).take n):=by
 obtain⟨i,N,h1,g,y,O⟩:=lu M;cases d with
 |zero=>simp[flatK]at h
 | succ d =>
  unfold flatK at h;rw[g]at h;have v:=u4 I;cases N with
  | struct U =>
   refine⟨.agg (cs.extract oF (oF+n)),?_,?_⟩
   ·simp[part,Sem.pP g,qM,Sem.run_sizeOf h1,y]
   ·simp only [fl, g]
    refine⟨_,rfl,?_⟩;simp
  | array m e =>
   refine⟨.agg (cs.extract oF (oF+n)),?_,?_⟩
   ·simp[part,Sem.pP g,qM,Sem.run_sizeOf h1,y]
   ·simp only [fl, g]
    refine⟨_,rfl,?_⟩;simp
  | int k =>
   simp at h;subst h;simp at q;subst q;have:oF<cs.size:=by simp at v; omega
   refine⟨cs[oF],?_,?_⟩
   ·simp[part,Sem.pP g,qM,this]
   ·simp[fl,g,TK,this]
  | string =>
   simp at h;subst h;simp at q;subst q;have:oF<cs.size:=by simp at v; omega
   refine⟨cs[oF],?_,?_⟩
   ·simp[part,Sem.pP g,qM,this]
   ·simp[fl,g,TK,this]
  | bool =>
   simp at h;subst h;simp at q;subst q;have:oF<cs.size:=by simp at v; omega
   refine⟨cs[oF],?_,?_⟩
   ·simp[part,Sem.pP g,qM,this]
   ·simp[fl,g,TK,this]
  |_=>simp at h
theorem UA{P:aj}{t:aD}{d:Array Field}(h:P.underlying t=some (.struct d)):P.underlying t=some (.struct (P.fieldsOf t)):=by
 simp[aj9,h]
theorem UB{P:aj}(w:ba)(d:Nat)(t:aD)(m e:Nat)(i:TypeInfo)(g h:Array al)(q:P.underlying t=some (.array m e))(h1:P.info? e=some i) :
  (j6 (d+1) t (.agg g) (.agg h)).run P w=(Bc d g h (u3 e i.size m)).run P w:=by
 simp only[j6,cf,Sem.bE q,b_,Sem.run_sizeOf h1,aj_,aj',fL,Nat.add_sub_cancel,Nat.div_one];unfold u3;generalize 0=k;clear q
 induction m generalizing w k with
 |zero=>simp[Bc]
 | succ m v =>
  simp only[List.range'_succ,List.forIn_cons,dx,Bc,cf];rw[iP (by decide)];simp only[cf];generalize (part e g (k*i.size)).run P w=r1;cases r1 with
  | ok a y =>
   simp only[b_];generalize (part e h (k*i.size)).run P y=r2;cases r2 with
   | ok b I =>
    simp only[b_];generalize (j6 d e a b).run P I=r3;cases r3 with
    | ok r M =>
     cases r
     ·simp only[b_,Bool.not_false,if_true,fp]
     ·simp only [b_, Bool.not_true, lk, if_false, fp]
      exact v M _
    |_=>rfl
   |_=>rfl
  |_=>rfl
mutual
theorem FM{P:aj}:∀(d:Nat) (t:aD) (ks:List SK),flatK P d t=some ks->∀(D:Nat),d<=D->∀(x y:al) (O U:List al),
  fl P t x O->fl P t y U->du ks O=true->du ks U=true->∀ w,(j6 D t x y).run P w=.ok (eS O U) w
 |0,_,_,h=>by simp[flatK]at h
 | d+1,t,ks,h=>by
  intro D hD x y O U M N v I w;obtain⟨D,rfl⟩:∃ W,D=W+1:=⟨D-1,by omega⟩
  unfold flatK at h;cases q:P.underlying t with
  |none=>rw[q]at h; cases h
  | some de =>
   rw[q]at h;cases de with
   | struct V =>
    simp only[]at h;split at h
    ·cases h
    rename_i hs;simp only[fl,q]at M N;obtain⟨a,rfl,rfl⟩:=M;obtain⟨b,rfl,rfl⟩:=N;have hf:P.fieldsOf t=V:=by simp[aj9,q]
    rw[run_equalIn_struct w D t a b (UA q) (by simpa using hs),hf];have:=FN d V.toList 0 ks h D (by omega) a b (by simpa using v) (by simpa using I) w;simpa using this
   | array m e =>
    simp only[]at h;split at h
    case h_2=>cases h
    rename_i n g hv;simp only[fl,q]at M N;obtain⟨a,rfl,rfl⟩:=M;obtain⟨b,rfl,rfl⟩:=N;obtain⟨i,d',h1,h2,rfl,h4⟩:=lu hv;rw[UB w D t m e i a b q h1];have:=FN d (u3 e i.size m) 0 ks h D (by omega) a b (by simpa using v) (by simpa using I) w;simpa using this
   | int k =>
    simp at h;subst h;simp only[fl,q]at M N;subst M; subst N;simp only[du,gW]at v I;unfold kindOk at v I;split at v<;>split at I<;>simp_all[j6,eS,qQ,Sem.bE q]
   | string =>
    simp at h;subst h;simp only[fl,q]at M N;subst M; subst N;simp only[du,gW]at v I;unfold kindOk at v I;split at v<;>split at I<;>simp_all[j6,eS,qQ,Sem.bE q,beq_toListBytes]
   | bool =>
    simp at h;subst h;simp only[fl,q]at M N;subst M; subst N;simp only[du,gW]at v I;unfold kindOk at v I;split at v<;>split at I<;>simp_all[j6,eS,qQ,Sem.bE q]
   |_=>simp at h
theorem FN{P:aj}:∀(d:Nat) (M:List Field) (oF:Nat) (ks:List SK),yg P d M oF=some ks->∀(D:Nat),d<=D->∀(h k:Array al),
  du ks (h.toList.drop oF)=true->du ks (k.toList.drop oF)=true->∀ w,(Bc D h k M).run P w=.ok (eS (h.toList.drop oF) (k.toList.drop oF)) w
 | d,[],oF,ks,g=>by
  intro D hD h k V W w;simp[yg,sX]at g;subst g;have h1:=u4 V;have h2:=u4 W;have q:h.toList.drop oF=[]:=uB (by rw[<-h1]; rfl);have N:k.toList.drop oF=[]:=uB (by rw[<-h2]; rfl);rw[q,N];simp[Bc,eS]
 | d,f::M,oF,ks,g=>by
  intro D hD h k V W w;unfold yg sX at g;split at g
  ·cases g
  rename_i hc;split at g
  case h_2=>cases g
  rename_i k1 n ag q N;split at g
  case isFalse=>cases g
  rename_i hn;split at g
  case h_2=>cases g
  rename_i l e3;cases g;have hname:f.name ≠ "_" := fun e=>hc (.inl e);have hoff:f.offset=oF:=by
   by_cases e:f.offset=oF
   ·exact e
   ·exact(hc (.inr e)).elim
  obtain⟨v,O⟩:=BI V;obtain⟨I,U⟩:=BI W;rw[<-hn]at v O I U;obtain⟨x,px,vx⟩:=FL N q hn h oF v w;obtain⟨y,py,vy⟩:=FL N q hn k oF I w;have he:=FM d f.type k1 q D hD x y _ _ vx vy v I w;have hrest:=FN d M (oF+n) l e3 D hD h k (by rw[sJ]at O; exact O) (by rw[sJ]at U; exact U) w;have hsplit:eS (h.toList.drop oF) (k.toList.drop oF) =
    (eS ((h.toList.drop oF).take n) ((k.toList.drop oF).take n)&&eS (h.toList.drop (oF+n)) (k.toList.drop (oF+n))):=by
   rw[<-Ky _ _ _ _ (by rw[<-u4 v,<-u4 I]),<-sJ,<-sJ,xS,xS]
  simp only[Bc,hname,ne_eq,not_false_eq_true,if_true,cf,hoff,px,py,b_,he,hsplit];cases eS ((h.toList.drop oF).take n) ((k.toList.drop oF).take n)<;>simp[hrest]
end
def pQ:List AV->Option (List al)
 | []=>some []
 | .lit v::as=>match pQ as with
  |some l=>some (v::l)
  |none=>none
 |_=>none
theorem BJ{E:af}:∀{as:List AV} {l g:List al},pQ as=some l->aw E as g->g=l
 | [],l,[],h,_=>by simp[pQ]at h; exact h.symm
 | [],_,_::_,_,d=>by simp[aw]at d
 |_::_,_,[],_,d=>by simp[aw]at d
 | a::as,l,v::g,h,d=>by
  simp only[aw]at d;cases a<;>simp only[pQ]at h<;>try cases h
  split at h
  ·rename_i u l' k
   cases h;have:=BJ k d.2;have h1:=d.1;simp only[ad]at h1;rw[h1,this]
  ·cases h
def oP:Option TypeDesc->Bool
 |some (.struct _)=>true
 |some (.array _ _)=>true
 |_=>false
def mg(op:BinOp)(b:Bool):Option AV :=
 match op with
 |.eql=>some (.bool b)
 |.neq=>some (.bool !b)
 |_=>none
def pR:Nat:=6
def FO(P:aj)(op:BinOp)(t:aD)(d:Bool)(a b:al):Option AV :=
 match a,b with
 | .bool a,.bool b=>match P.underlying t with
  |some .bool=>mg op (a==b)
  |_=>none
 | .slice none 0 0,.slice none 0 0=>match P.underlying t with
  |some (.slice _)=>mg op true
  |_=>none
 |.nilIface,.nilIface=>if d then (match P.underlying t with|some (.interface _)=>mg op true|_=>none) else none
 |_,_=>none
def lv(P:aj)(op:BinOp)(t:aD)(d:Bool)(x y:AV):Option AV :=
 match x,y with
 | .lit a,.lit b=>match ls op a b with
  |some v=>some (.lit v)
  |none=>FO P op t d a b
 | .agg as,.agg g=>match flatK P pR t,pQ as,pQ g with
  |some ks,some l,some m=>if P.eqGuardType P.depth t=false/\du ks l=true/\du ks m=true/\oP (P.underlying t)=true then mg op (eS l m) else none
  |_,_,_=>none
 | .emptyS n,.lit (.slice none 0 0)=>match P.underlying t with
  |some (.slice _)=>mg op n
  |_=>none
 | .listF _ rZ,.lit (.slice none 0 0)=>match P.underlying t with
  |some (.slice _)=>if 0<rZ.length then mg op false else none
  |_=>none
 | .vQ _ _ _ _ m,.lit (.slice none 0 0)=>match P.underlying t with
  |some (.slice _)=>if 0<m then mg op false else none
  |_=>none
 | .ifc,.lit .nilIface | .lit .nilIface,.ifc=>match P.underlying t with
  |some (.interface _)=>mg op false
  |_=>none
 | .sub _ _ j,.lit (.map none)=>match P.underlying t with
  |some (.map _ _)=>mg op j.isNone
  |_=>none
 |_,_=>none
theorem Kz{P:aj}{t:Nat}{k:IntKind}(h:cZ P t=.int k):P.underlying t=some (.int k):=by
 unfold cZ at h;split at h
 ·split at h<;>cases h
 ·split at h<;>cases h
 ·cases h
 ·rename_i h1; cases h; exact h1
 ·cases h
 ·cases h
theorem nV{P:aj}{op:BinOp}{b:Bool}{v:AV}{t:aD}{x y:ct}{c d:al}{w:ba}(h:mg op b=some v)
  (g:(eqGuard op t x y c d).run P w=.ok () w) (he:(Bd t c d).run P w=.ok b w)
  (hb:∀ op,op=.eql\/op=.neq->(binOp op t c d)=(match op with | .eql=>(do pure (.bool (<- Bd t c d)))|_=>(do pure (.bool (!(<- Bd t c d)))))) :
  ∃ u,(do eqGuard op t x y c d; binOp op t c d:Sem al).run P w=.ok u w/\∀ E,ad E v u:=by
 unfold mg at h;split at h
 ·cases h
  refine⟨.bool b,?_,fun E=>by simp[ad]⟩;simp only[cf,g,b_,hb .eql (.inl rfl)];simp[he]
 ·cases h
  refine⟨.bool !b,?_,fun E=>by simp[ad]⟩;simp only[cf,g,b_,hb .neq (.inr rfl)];simp[he]
 ·cases h
end Go.AL

namespace Go.AL
open Go
variable [Dr]
theorem oQ{P:aj}{t:aD}{c d:al}{b:Bool}{w:ba} (h:∀ n,(j6 (n+1) t c d).run P w=.ok b w) :
  (Bd t c d).run P w=.ok b w:=h 9999
theorem UC{P:aj}{op:BinOp}{t:aD}{x y:ct} (h:((x matches .const _)||(y matches .const _))=true) (w:ba) :
  (eqGuard op t x y .nilIface .nilIface).run P w=.ok () w:=by
 cases x<;>cases y<;>first
  |(cases op<;>rfl)
  |(simp at h; done)
theorem UD{P:aj}{E:af}{op:BinOp}{t:aD}{x y:ct}{p q:al}{v:AV}{I:Bool}
  (M:I=true->((x matches .const _)||(y matches .const _))=true) (h:FO P op t I p q=some v) :
  ∃ u,(do eqGuard op t x y p q; binOp op t p q:Sem al).run P E.w=.ok u E.w/\ad E v u:=by
 unfold FO at h;split at h
 ·rename_i a b
  split at h
  ·rename_i g
   obtain⟨u,h1,k⟩:=nV (P:=P) (t:=t) (x:=x) (y:=y) (c:=.bool a) (d:=.bool b) (w:=E.w) h (by cases op<;>simp[eqGuard]<;>rfl)
    (oQ fun n=>by simp[j6,Sem.bE g]) (by rintro op (rfl|rfl)<;>rfl)
   exact⟨u,h1,k E⟩
  ·cases h
 ·split at h
  ·rename_i g
   obtain⟨u,h1,k⟩:=nV (P:=P) (t:=t) (x:=x) (y:=y) (c:=.slice none 0 0) (d:=.slice none 0 0) (w:=E.w) h (by cases op<;>simp[eqGuard]<;>rfl)
    (oQ fun n=>by simp[j6,Sem.bE g]) (by rintro op (rfl|rfl)<;>rfl)
   exact⟨u,h1,k E⟩
  ·cases h
 ·split at h
  ·rename_i N
   split at h
   ·rename_i O g
    obtain⟨u,h1,k⟩:=nV (P:=P) (t:=t) (x:=x) (y:=y) (c:=.nilIface) (d:=.nilIface) (w:=E.w) h
     (UC (M N) _)
     (oQ fun n=>by simp[j6,Sem.bE g]) (by rintro op (rfl|rfl)<;>rfl)
    exact⟨u,h1,k E⟩
   ·cases h
  ·cases h
 ·cases h
theorem UE{P:aj}{E:af}{op:BinOp}{t:aD}{x y:ct}{a b v:AV}{c d:al}
  {kk:Bool} (hkk:kk=true->((x matches .const _)||(y matches .const _))=true) (h:lv P op t kk a b=some v) (g:ad E a c) (k:ad E b d) :
  ∃ u,(do eqGuard op t x y c d; binOp op t c d:Sem al).run P E.w=.ok u E.w/\ad E v u:=by
 unfold lv at h;split at h
 ·rename_i p q
  simp only[ad]at g k;rw[g,k];clear g k c d;split at h
  ·rename_i u I
   cases h;refine⟨u,?_,by simp[ad]⟩;simp only[cf];rw[Us op t x y p q (fun _ _=>trivial) (by simp[I])];simp only[b_];exact Ur op t p q u I E.w
  ·exact UD hkk h
 ·rename_i as bs
  split at h
  case h_2=>cases h
  rename_i ks l m h1 M h3;by_cases V:P.eqGuardType P.depth t=false/\du ks l=true/\du ks m=true/\oP (P.underlying t)=true
  case neg=>rw[iN V]at h; cases h
  rw[iP V]at h;obtain⟨g1,g2,g3,W⟩:=V;simp only[ad]at g k;obtain⟨N,rfl,_,g⟩:=g;obtain⟨O,rfl,_,k⟩:=k;have ex:=BJ M g;have ey:=BJ h3 k;have hi:∀ z:Array al,fl P t (.agg z) z.toList:=fun z=>by
   unfold oP at W;split at W
   ·rename_i I; simp only[fl,I]; exact⟨z,rfl,rfl⟩
   ·rename_i I; simp only[fl,I]; exact⟨z,rfl,rfl⟩
   ·cases W
  have:=FM pR t ks h1 10000 (by decide) (.agg N) (.agg O) l m (ex▸hi N) (ey▸hi O) g2 g3 E.w;obtain⟨u,q1,q2⟩:=nV (P:=P) (t:=t) (x:=x) (y:=y) (c:=.agg N) (d:=.agg O) (w:=E.w) h (run_eqGuard_agg E.w op t x y N O g1)
   (by simpa[Bd,Op.maxDepth]using this) (by rintro op (rfl|rfl)<;>rfl)
  exact⟨u,q1,q2 E⟩
 ·simp only [ad] at g k
  subst k;obtain⟨b,cap,rfl,hb⟩:=g;split at h
  ·rename_i el I
   obtain⟨u,h1,M⟩:=nV (P:=P) (t:=t) (x:=x) (y:=y) (c:=.slice b 0 cap) (d:=.slice none 0 0) (w:=E.w) h (by cases op<;>simp[eqGuard]<;>rfl)
    (oQ fun n=>by cases b<;>simp[j6,Sem.bE I]<;>simpa using hb.symm) (by rintro op (rfl|rfl)<;>rfl)
   exact⟨u,h1,M E⟩
  ·cases h
 ·rename_i ks rZ
  simp only[ad,fk,G.rZ]at g k;subst k;obtain⟨b,cap,rfl,_,hb⟩:=g;split at h
  ·rename_i el I
   split at h
   ·rename_i U
    rcases hb with rfl|⟨b',o',rfl,_⟩
    ·simp at U
    obtain⟨u,h1,M⟩:=nV (P:=P) (t:=t) (x:=x) (y:=y) (c:=.slice (some ⟨b',o',none⟩) rZ.length cap) (d:=.slice none 0 0) (w:=E.w) h (by cases op<;>simp[eqGuard]<;>rfl)
     (oQ fun n=>by simp[j6,Sem.bE I]) (by rintro op (rfl|rfl)<;>rfl)
    exact⟨u,h1,M E⟩
   ·cases h
  ·cases h
 ·rename_i m
  simp only[ad]at g k;subst k;obtain⟨⟨b,cap,rfl,_,hb⟩,_⟩:=g;split at h
  ·rename_i el I
   split at h
   ·rename_i U
    obtain⟨b',o',rfl⟩:=hb U;obtain⟨u,h1,M⟩:=nV (P:=P) (t:=t) (x:=x) (y:=y) (c:=.slice (some ⟨b',o',none⟩) m cap) (d:=.slice none 0 0) (w:=E.w) h (by cases op<;>simp[eqGuard]<;>rfl)
     (oQ fun n=>by simp[j6,Sem.bE I]) (by rintro op (rfl|rfl)<;>rfl)
    exact⟨u,h1,M E⟩
   ·cases h
  ·cases h
 ·simp only [ad] at g k
  subst k;obtain⟨ti,vi,rfl⟩:=g;split at h
  ·rename_i ms I
   obtain⟨u,h1,M⟩:=nV (P:=P) (t:=t) (x:=x) (y:=y) (c:=.iface ti vi) (d:=.nilIface) (w:=E.w) h (by cases op<;>simp[eqGuard]<;>rfl)
    (oQ fun n=>by simp[j6,Sem.bE I]) (by rintro op (rfl|rfl)<;>rfl)
   exact⟨u,h1,M E⟩
  ·cases h
 ·simp only [ad] at g k
  subst g;obtain⟨ti,vi,rfl⟩:=k;split at h
  ·rename_i ms I
   obtain⟨u,h1,M⟩:=nV (P:=P) (t:=t) (x:=x) (y:=y) (c:=.nilIface) (d:=.iface ti vi) (w:=E.w) h (by cases op<;>simp[eqGuard]<;>rfl)
    (oQ fun n=>by simp[j6,Sem.bE I]) (by rintro op (rfl|rfl)<;>rfl)
   exact⟨u,h1,M E⟩
  ·cases h
 ·rename_i id l jj
  simp only[ad]at g k;subst k;split at h
  ·rename_i kt el I
   rcases g with⟨rfl,rfl⟩|⟨i,rfl,⟨b,rfl⟩,_⟩
   ·obtain ⟨u,h1,M⟩:=nV (P:=P) (t:=t) (x:=x) (y:=y) (c:=.map none) (d:=.map none) (w:=E.w) h (by cases op<;>simp [eqGuard]<;>rfl)
     (oQ fun n=>by simp[j6,Sem.bE I]) (by rintro op (rfl|rfl)<;>rfl)
    exact⟨u,h1,M E⟩
   ·obtain ⟨u,h1,M⟩:=nV (P:=P) (t:=t) (x:=x) (y:=y) (c:=.map (some b)) (d:=.map none) (w:=E.w) h (by cases op<;>simp [eqGuard]<;>rfl)
     (oQ fun n=>by simp[j6,Sem.bE I]) (by rintro op (rfl|rfl)<;>rfl)
    exact⟨u,h1,M E⟩
  ·cases h
 ·cases h
def u5(op:UnOp)(x:AV):Option AV :=
 match op,x with
 |.not,.lit (.bool b)=>some (.bool !b)
 |.neg,.lit (.int k n)=>some (.lit (.int k (k.wrap (0-n))))
 |_,_=>none
theorem UF{P:aj}{E:af}{op:UnOp}{x v:AV}{c:al}(h:u5 op x=some v)(d:ad E x c) :
  ∃ u,(Op.unary op c).run P E.w=.ok u E.w/\ad E v u:=by
 unfold u5 at h;split at h
 ·cases h
  simp only[ad]at d;subst d;exact⟨_,rfl,by simp[ad]⟩
 ·cases h
  simp only[ad]at d;subst d;exact⟨_,rfl,by simp[ad]⟩
 ·cases h
def u6(P:aj)(s d:aD)(x:AV):Option AV :=
 match P.underlying s,cZ P d,x with
 |some _,.int k,.lit (.int _ n)=>some (.lit (.int k (k.wrap n)))
 |some _,.str,.lit (.string b)=>some (.str b)
 |some _,.str,.lit (.int _ n)=>some (.str (Utf8.encode n))
 |_,_,_=>none
theorem UG{P:aj}{E:af}{s d:aD}{x v:AV}{c:al}(h:u6 P s d x=some v)(g:ad E x c) :
  ∃ u,(convert s d c).run P E.w=.ok u E.w/\ad E v u:=by
 unfold u6 at h;split at h
 ·rename_i k n q y
  cases h;simp only[ad]at g;subst g;refine⟨_,?_,by simp only[ad]; rfl⟩;simp[convert,Sem.bE q,Sem.bE (Kz y),Conv.intToInt]
 ·rename_i b q y
  cases h;simp only[ad]at g;subst g;refine⟨_,?_,by simp only[ad]; rfl⟩;simp only[convert,cf,Sem.bE q,Sem.bE (sW y),b_];rfl
 ·rename_i k n q y
  cases h;simp only[ad]at g;subst g;refine⟨_,?_,by simp only[ad]; rfl⟩;simp only[convert,cf,Sem.bE q,Sem.bE (sW y),b_];rfl
 ·cases h
def qR(k:SK)(x i:AV):Option AV :=
 match i with
 | .lit (.int _ n) =>
  match k,x with
  |.str,.lit (.string s)=>if 0<=n/\n<s.size then (match s[n.toNat]? with|some b=>some (.lit (.int .u8 b.toNat))|none=>none) else none
  |.array m _ sz agg,.agg cells=>if 0<=n/\n<m then jB agg sz (cells.drop (n.toNat*sz)) else none
  |_,_=>none
 |_=>none
theorem FP{E:af}:∀{as:List AV} {d:List al} (n:Nat),aw E as d->aw E (as.drop n) (d.drop n)
 |_,_,0,h=>by simpa using h
 | [],[],n+1,_=>by simp[aw]
 | [],_::_,_,h=>by simp[aw]at h
 |_::_,[],_,h=>by simp[aw]at h
 |a::as,v::d,n+1,h=>by simp only[aw]at h; simpa using FP n h.2
theorem FQ{E:af}:∀{as:List AV} {d:List al} (n:Nat),aw E as d->aw E (as.take n) (d.take n)
 |_,_,0,_=>by simp[aw]
 | [],[],n+1,_=>by simp[aw]
 | [],_::_,_,h=>by simp[aw]at h
 |_::_,[],_,h=>by simp[aw]at h
 |a::as,v::d,n+1,h=>by simp only[aw]at h; simp only[E9,aw]; exact⟨h.1,FQ n h.2⟩
theorem oR{E:af}:∀{as d:List AV} {g k:List al},aw E as g->aw E d k->aw E (as++d) (g++k)
 | [],_,[],_,_,h=>by simpa using h
 | [],_,_::_,_,h,_=>by simp[aw]at h
 |_::_,_,[],_,h,_=>by simp[aw]at h
 |a::as,d,v::g,k,h,h'=>by simp only[aw]at h; simp only[l7,aw]; exact⟨h.1,oR h.2 h'⟩
theorem pS{E:af}{as:List AV}{d:List al}(h:aw E as d){i:Nat}{a:AV}(hi:as[i]? = some a):∃ v,d[i]? = some v/\ad E a v:=by
 obtain⟨h1,q⟩:=pO.1 h;have k:=aV hi;have g:i<d.length:=h1▸k;exact⟨d[i],bY g,q i a _ hi (bY g)⟩
theorem KA{P:aj}{E:af}{t:aD}{n:Nat}{agg:Bool}{cells:List AV}{cs:Array al}{oF:Nat}{v:AV}(y:gk P t=some (n,agg))
  (h:jB agg n (cells.drop oF)=some v) (g:aw E cells cs.toList) (h1:∀ x∈cs.toList,dW x=true) :
  ∃ u,(part t cs oF).run P E.w=.ok u E.w/\ad E v u:=by
 obtain⟨i,d,hi,k,I,ha⟩:=lu y;unfold jB at h;cases agg with
 | true =>
  simp only[if_true]at h;split at h
  ·cases h
   refine⟨.agg (cs.extract oF (oF+n)),?_,?_⟩
   ·simp[part,Sem.pP k,ha,Sem.run_sizeOf hi,I]
   ·simp only [ad]
    have e:(cs.extract oF (oF+n)).toList=(cs.toList.drop oF).take n:=by simp
    refine⟨_,rfl,?_,?_⟩
    ·rw[e]; exact fun x M=>h1 x (Bb (xQ M))
    ·rw[e]; exact FQ n (FP oF g)
  ·cases h
 | false =>
  simp only[lk,if_false]at h;rw[sI]at h;obtain⟨u,N,O⟩:=pS g h;refine⟨u,?_,O⟩;have q:cs[oF]? = some u:=by simpa using N
  simp[part,Sem.pP k,ha,q]
theorem UH{P:aj}{E:af}{t:aD}{x i v:AV}{c d:al}(h:qR (cZ P t) x i=some v)(g:ad E x c)(hi:ad E i d) :
  ∃ u,(TM t c d).run P E.w=.ok u E.w/\ad E v u:=by
 unfold qR at h;split at h
 case h_2=>cases h
 rename_i k n;simp only[ad]at hi;subst hi;split at h
 ·rename_i s y
  have I:=sW y;simp only[ad]at g;subst g;split at h
  case isFalse=>cases h
  rename_i q;split at h
  case h_2=>cases h
  rename_i b hb;cases h;refine⟨.int .u8 b.toNat,?_,by simp[ad]⟩;simp[TM,asIntOf,Sem.bE I,q.1,hb]
 ·rename_i m e sz agg cells y
  obtain⟨I,M⟩:=BF y;obtain⟨ii,dd,N,g2,O,g4⟩:=lu M;split at h
  case isFalse=>cases h
  rename_i q;simp only[ad]at g;obtain⟨cs,rfl,h1,U⟩:=g;obtain⟨u,V,W⟩:=KA M h U h1;refine⟨u,?_,W⟩;simp[TM,asIntOf,Sem.bE I,q.1,q.2,Sem.run_sizeOf N,O,V]
 ·cases h
def FT(k:FK)(x:AV):Option AV :=
 match x with
 |.agg cells=>jB k.agg k.size (cells.drop k.oF)
 |_=>none
theorem UI{P:aj}{E:af}{t:aD}{f:Nat}{k:FK}{x v:AV}{c:al}(g:uT P t f=some k)(h:FT k x=some v)(d:ad E x c) :
  ∃ u,(aka t c f).run P E.w=.ok u E.w/\ad E v u:=by
 obtain⟨V,W,h1,q,y,I⟩:=Kt g;unfold FT at h;split at h
 ·simp only [ad] at d
  obtain⟨cs,rfl,M,N⟩:=d;obtain⟨u,O,U⟩:=KA I h N M;refine⟨u,?_,U⟩;simp[aka,Sem.bE h1,q,asAgg,y,O]
 ·cases h
end Go.AL

namespace Go.AL
open Go
variable [Dr]
def oS:AV->Option (List AV)
 |.undef | .tuple _=>none
 |.agg cs=>some cs
 |.lit v=>if dW v then some [.lit v] else none
 |x=>some [x]
theorem BK{E:af}{x:AV}{cs:List AV}{c:al}(h:oS x=some cs)(d:ad E x c) :
  aw E cs c.cells.toList/\∀ y∈c.cells.toList,dW y=true:=by
 unfold oS at h;split at h
 ·cases h
 ·cases h
 ·cases h
  simp only[ad]at d;obtain⟨a,rfl,h1,g⟩:=d;exact⟨g,h1⟩
 ·rename_i v
  split at h
  ·rename_i h1
   cases h;have M:=d;simp only[ad]at d;subst d;cases c<;>simp[dW]at h1<;>exact⟨by simp[JM,aw,ad],by simp[JM,dW]⟩
  ·cases h
 ·rename_i h1 g q I
  cases h;have k:dW c=true/\c.cells=#[c]:=by
   cases x<;>simp only[ad]at d
   case sub=>rcases d with⟨_,rfl⟩|⟨_,_,⟨b,rfl⟩,_⟩<;>exact⟨rfl,rfl⟩
   case undef=>exact(h1 rfl).elim
   case lit v=>exact(I v rfl).elim
   case nils=>obtain⟨b,rfl⟩:=d; exact⟨rfl,rfl⟩
   case list=>obtain⟨_,b,cap,rfl,_⟩:=d; exact⟨rfl,rfl⟩
   case listF=>simp only[fk]at d; obtain⟨b,cap,rfl,_⟩:=d; exact⟨rfl,rfl⟩
   case agg as=>exact(q as rfl).elim
   case tuple as=>exact(g as rfl).elim
   case cptr=>obtain⟨_,b,o,rfl,_⟩:=d; exact⟨rfl,rfl⟩
   case ptr=>obtain⟨⟨b,o,rfl⟩,_⟩:=d; exact⟨rfl,rfl⟩
   case vQ=>obtain⟨⟨b,o,rfl,_⟩,_⟩:=d; exact⟨rfl,rfl⟩
   case map=>obtain⟨⟨b,rfl⟩,_⟩:=d; exact⟨rfl,rfl⟩
   case clo=>obtain⟨cs,rfl,_⟩:=d; exact⟨rfl,rfl⟩
   case ifc=>obtain⟨t,v,rfl⟩:=d; exact⟨rfl,rfl⟩
   case emptyS=>obtain⟨b,cap,rfl,_⟩:=d; exact⟨rfl,rfl⟩
   case svec=>obtain⟨⟨b,o,rfl,_⟩,_⟩:=d; exact⟨rfl,rfl⟩
   case sptr=>obtain⟨⟨b,o,rfl⟩,_⟩:=d; exact⟨rfl,rfl⟩
  rw[k.2];exact⟨by simp only[aw]; exact⟨d,trivial⟩,by simpa using k.1⟩
def sY(d:Nat->Option (Nat × Nat))(cells:List AV):List (Nat × AV)->Option (List AV)
 | []=>some cells
 | (i,v)::g=>match d i,oS v with
  |some (oF,size),some cs=>if cs.length=size/\oF+cs.length<=cells.length then sY d (cells.take oF++cs++cells.drop (oF+cs.length)) g else none
  |_,_=>none
theorem KB(cs:Array al):∀(l:List al) (oF k:Nat) (cells:Array al),oF+k+l.length<=cells.size ->
  (l.zipIdx k).foldl (fun cs (p : al × Nat) => cs.setIfInBounds (oF + p.2) p.1) cells =
   (cells.toList.take (oF+k)++l++cells.toList.drop (oF+k+l.length)).toArray
 | [],oF,k,cells,_=>by simp
 | v::l,oF,k,cells,h=>by
  simp only[List.zipIdx_cons,List.foldl_cons];have h':oF+(k+1)+l.length<=(cells.setIfInBounds (oF+k) v).size:=by simp at h|-; omega
  rw[KB cs l oF (k+1) _ h'];congr 1;apply jz;intro i;simp only[Array.toList_setIfInBounds,gj,j7,List.length_set,oH,sI,ef,fX,cd,iw];simp at h;by_cases O:i<oF+k
  ·have d : i < min (oF + k) cells.size := by omega
   have g:i<min (oF+(k+1)) cells.size:=by omega
   have M:¬ oF+k=i:=by omega
   have y:i<oF+(k+1):=by omega
   have q:i<min (oF+k) cells.size+(l.length+1):=by omega
   have I:i<min (oF+(k+1)) cells.size+l.length:=by omega
   simp[d,g,M,y,q,I,O]
  ·by_cases U : i = oF + k
   ·subst U
    have d:¬ oF+k<min (oF+k) cells.size:=by omega
    have g:oF+k<min (oF+(k+1)) cells.size:=by omega
    have y:oF+k<oF+(k+1):=by omega
    have q:oF+k<min (oF+k) cells.size+(l.length+1):=by omega
    have I:oF+k<min (oF+(k+1)) cells.size+l.length:=by omega
    have N:oF+k-min (oF+k) cells.size=0:=by omega
    have V:oF+k<cells.size:=by omega
    simp[d,g,y,q,I,N,V]
   ·by_cases W : i < oF + k + 1 + l.length
    ·have d : ¬ i < min (oF + k) cells.size := by omega
     have g:¬ i<min (oF+(k+1)) cells.size:=by omega
     have q:i<min (oF+k) cells.size+(l.length+1):=by omega
     have I:i<min (oF+(k+1)) cells.size+l.length:=by omega
     have N:i-min (oF+k) cells.size=(i-min (oF+(k+1)) cells.size)+1:=by omega
     simp[d,g,q,I,N]
    ·have d : ¬ i < min (oF + k) cells.size + (l.length + 1) := by omega
     have g:¬ i<min (oF+(k+1)) cells.size+l.length:=by omega
     have M:oF+k+(l.length+1)+(i-(min (oF+k) cells.size+(l.length+1)))=i:=by omega
     have y:oF+(k+1)+l.length+(i-(min (oF+(k+1)) cells.size+l.length))=i:=by omega
     have q:¬ oF+k=i:=by omega
     simp[d,g,M,y,q]
theorem yh{E:af}{I:Nat->Option (Nat × Nat)}:∀{parts:List (Nat × AV)} {k:List (Nat × al)} {cells:List AV} {cs:Array al} {out:List AV},
  sY I cells parts=some out->aw E cells cs.toList->(∀ x∈cs.toList,dW x=true) ->
  parts.map (·.1)=k.map (·.1)->aw E (parts.map (·.2)) (k.map (·.2)) ->
  ∃ o,akb I cs k=some o/\aw E out o.toList/\∀ x∈o.toList,dW x=true
 | [],[],cells,cs,out,h,g,h1,_,_=>by
  simp only[sY,be]at h;subst h;exact⟨cs,rfl,g,h1⟩
 | [],_::_,_,_,_,_,_,_,hm,_=>by simp at hm
 |_::_,[],_,_,_,_,_,_,hm,_=>by simp at hm
 | (i,v)::ps,(j,c)::cps,cells,cs,out,h,g,h1,hm,q=>by
  simp only[dx,JN]at hm;obtain⟨rfl,hm⟩:=hm;simp only[dx,aw]at q;simp only[sY]at h;split at h
  case h_2=>cases h
  rename_i oF size y V W;split at h
  case isFalse=>cases h
  rename_i hcond;obtain⟨N,g2⟩:=BK W q.1;have O:=ka N;have U:=ka g;have hsz:y.length=c.cells.size:=by simpa using O
  have hsz2:cells.length=cs.size:=by simpa using U
  have M:(c.cells.zipIdx.foldl (fun cs (x:al × Nat)=>cs.setIfInBounds (oF+x.2) x.1) cs) =
    (cs.toList.take oF++c.cells.toList++cs.toList.drop (oF+c.cells.toList.length)).toArray:=by
   rw[<-Array.foldl_toList,Array.toList_zipIdx];have:=KB cs c.cells.toList oF 0 cs (by simp; omega);simpa using this
  simp only[akb,V];rw[iN (by simp; omega)];refine yh (cells:=cells.take oF++y++cells.drop (oF+y.length)) h ?_ ?_ hm q.2
  ·rw [M]
   simp only[];refine oR (oR (FQ oF g) N) ?_;rw[O];exact FP _ g
  ·rw [M]
   intro x d;simp only[c_]at d;rcases d with(d|d)|d
   ·exact h1 x (xQ d)
   ·exact g2 x d
   ·exact h1 x (Bb d)
def KC(P:aj)(t:aD):Option (List (Nat × Nat)) :=
 match P.underlying t with
 |some (.struct g)=>g.toList.mapM fun d=>(gk P d.type).map fun p=>(d.offset,p.1)
 |_=>none
theorem oT{P:aj}{t:aD}{z:List al}(h:fC P t=some z) :
  ∃ i v,P.info? t=some i/\i.zero=some v/\v.cells.toList=z/\∀ x∈z,dW x=true:=by
 unfold fC at h;split at h
 ·rename_i i hi
  split at h
  ·rename_i v d
   split at h
   ·rename_i g
    cases h;exact⟨i,v,hi,d,rfl,dK.1 g⟩
   ·cases h
  ·cases h
 ·cases h
theorem oU{P:aj}{t:aD}{i:TypeInfo}{v:al}(hi:P.info? t=some i)(d:i.zero=some v)(w:ba):(zeroValue t).run P w=.ok v w:=by
 simp[zeroValue,typeInfo,hi,d]
theorem KD{P:aj}{w:ba}:∀(g:List Field) (k:List (Nat × Nat)),(g.mapM fun q=>(gk P q.type).map fun p=>(q.offset,p.1))=some k ->
  (g.mapM fun(f:Field)=>(do pure (f.offset,<-sizeOf f.type):Sem (Nat × Nat))).run P w=.ok k w
 | [],k,h=>by simp at h; subst h; simp
 | f::g,k,h=>by
  simp only[TN,Option.bind_eq_bind,Option.pure_def,Option.bind_eq_some_iff,eM]at h;obtain⟨x,⟨⟨n,a⟩,h1,rfl⟩,l,v,y⟩:=h;cases y;obtain⟨i,d,I,N,M,O⟩:=lu h1;have:=KD (w:=w) g l v;simp only[TN,cf,Sem.run_sizeOf I,b_,fp,M];rw[this];rfl
def FU(P:aj)(t:aD)(parts:List (Nat × AV)):Option AV :=
 match fC P t with
 | some z=>match KC P t with
  |some d=>(sY (fun i=>d[i]?) (z.map .lit) parts).map .agg
  | none=>match cZ P t with
   |.array _ _ sz _=>(sY (fun i=>some (i*sz,sz)) (z.map .lit) parts).map .agg
   |_=>none
 |none=>none
theorem UJ{P:aj}{E:af}{t:aD}{parts:List (Nat × AV)}{cparts:List (Nat × al)}{v:AV}(h:FU P t parts=some v)
  (hm:parts.map (·.1)=cparts.map (·.1)) (N:aw E (parts.map (·.2)) (cparts.map (·.2))) :
  ∃ u,(TO t cparts.toArray).run P E.w=.ok u E.w/\ad E v u:=by
 unfold FU at h;split at h
 case h_2=>cases h
 rename_i z hz;obtain⟨i,O,U,V,g,W⟩:=oT hz;split at h
 ·rename_i k d
  unfold KC at d;split at d
  case h_2=>cases d
  rename_i fs q;simp only[eM]at h;obtain⟨out,ho,rfl⟩:=h;obtain⟨o,y,I,M⟩:=yh (cs:=O.cells) ho (by rw[g]; exact qN z) (by rw[g]; exact W) hm N;refine⟨.agg o,?_,by simp only[ad]; exact⟨o,rfl,M,I⟩⟩;have hmp:(fs.mapM fun(f:Field)=>(do pure (f.offset,<-sizeOf f.type):Sem (Nat × Nat))).run P E.w=.ok k.toArray E.w:=by
   have:=KD (w:=E.w) fs.toList k d;rw[Array.mapM_eq_mapM_toList,Sem.run_map,this];rfl
  simp only[TO,cf,oU U V,b_,Sem.bE q];rw[hmp];simp only[b_];have e:(fun(x:Nat)=>(k.toArray)[x]?)=fun(i:Nat)=>k[i]? := by funext i; simp
  rw[e,y];rfl
 ·split at h
  case h_2=>cases h
  rename_i n e sz ag hk;obtain⟨q,hvk⟩:=BF hk;obtain⟨ie,de,q1,q2,q3,q4⟩:=lu hvk;simp only[eM]at h;obtain⟨out,ho,rfl⟩:=h;obtain⟨o,y,I,M⟩:=yh (cs:=O.cells) ho (by rw[g]; exact qN z) (by rw[g]; exact W) hm N;refine⟨.agg o,?_,by simp only[ad]; exact⟨o,rfl,M,I⟩⟩;simp only[TO,cf,oU U V,b_,Sem.bE q,Sem.run_sizeOf q1,q3,y];rfl
def chunk(sz:Nat):Nat->List AV->List (List AV)
 |0,_=>[]
 |n+1,l=>l.take sz::chunk sz n (l.drop sz)
theorem yk(sz:Nat):∀(n:Nat) (l:List AV),(chunk sz n l).length=n
 |0,_=>rfl
 |n+1,l=>by simp[chunk,yk sz n]
theorem FV(sz:Nat):∀(n:Nat) (l:List AV),AV.bK l=true->fq (chunk sz n l)
 |0,_,_=>by intro r d; simp[chunk]at d
 | n+1,l,h=>by
  intro r d;simp only[chunk,cq]at d;rcases d with rfl|d
  ·exact yd _ _ h
  ·exact FV sz n _ (uW _ _ h) r d
theorem KE{E:af}(sz:Nat):∀(n:Nat) (l:List AV) (b o:Nat),l.length=n*sz->cU E l b o->cX E sz (chunk sz n l) b o
 |0,_,_,_,_,_=>by simp[chunk,cX]
 | n+1,l,b,o,d,h=>by
  simp only[chunk,cX];have:sz<=l.length:=by rw[d,gv]; omega
  refine⟨by simp; omega,BE h sz,KE sz n _ b (o+sz) (by simp[d,gv]) (sU h sz)⟩
theorem FW{E:af}{as:List AV}{cs:Array al}{b:Nat}{el:aD}{fr:Nat × Nat}(hb:E.w.heap[b]? = some (.cells cs el fr))(g:aw E as cs.toList)
  (h1:∀ x∈cs.toList,dW x=true):cU E as b 0:=by
 rw[ke];intro i a hi;obtain⟨v,d,h⟩:=pS g hi;refine⟨v,?_,h1 v (eO d),h⟩;simp only[cP,uz,hb];simpa using d
end Go.AL

namespace Go.AL
open Go
variable [Dr]
theorem u7(v:al):v.oneCell'=dW v:=by cases v<;>rfl
theorem setRow_size(w:ba)(g:Nat)(cs:Array al):(w.setRow g cs).heap.size=w.heap.size:=by simp[akc]
theorem setRow_other(w:ba)(g:Nat)(cs:Array al)(x:Nat)(h:x≠g):(w.setRow g cs).heap[x]? = w.heap[x]? := by
 simp only[akc];rw[Array.getElem?_modify];split
 ·rename_i e; exact(h e.symm).elim
 ·rfl
structure Src (P:aj) (E:af) (sz:Nat) (rZ:List (List AV)) (xt:aD) (x:al) (news:List al):Prop where
 len:∀ w,(JO x).run P w=.ok rZ.length w
 cells:∀ w,(∀ b o,b<E.w.heap.size->w.cell? ⟨b,o,none⟩=E.w.cell? ⟨b,o,none⟩)->(j8 sz rZ.length x).run P w=.ok news.toArray w
 ad:aw E rZ.flatten news
 one:∀ v∈news,dW v=true
 wide:∀ r∈rZ,r.length=sz
 closed:fq rZ
 kind:∃ d,P.underlying xt=some d/\∀ k,d≠.int k
theorem Src.length{P:aj}{E:af}{sz:Nat}{rZ:List (List AV)}{xt:aD}{x:al}{news:List al}(h:Src P E sz rZ xt x news):news.length=rZ.length*sz:=by
 rw[<-ka h.ad];have:∀(l:List (List AV)),(∀ r∈l,r.length=sz)->l.flatten.length=l.length*sz:=by
  intro l d
  induction l with
  |nil=>simp
  |cons a l g=>simp[g (fun r k=>d r (by simp[k])),d a (by simp),gv,xN]
 exact this rZ h.wide
theorem BL{E:af}{k:Nat}:∀{rZ:List (List AV)} {b o:Nat},cX E k rZ b o->cU E rZ.flatten b o
 | [],_,_,_=>by simp[cU]
 | r::rZ,b,o,h=>by
  simp only[cX]at h;obtain⟨h1,d,g⟩:=h;have q:=BL g;rw[ke]at *;intro i a hi;simp only[pI,gj]at hi;split at hi
  ·exact d i a hi
  ·rename_i N
   obtain⟨v,y,I,M⟩:=q (i-r.length) a hi;refine⟨v,?_,I,M⟩;rw[<-y];congr 2;omega
theorem BM{E:af}{k:Nat}:∀{rZ:List (List AV)} {b o:Nat},(∀ r∈rZ,r.length=k)->cU E rZ.flatten b o->cX E k rZ b o
 | [],_,_,_,_=>by simp[cX]
 | r::rZ,b,o,d,h=>by
  simp only[cX];have g:=d r (by simp);refine⟨g,?_,?_⟩
  ·have := BE h r.length
   simpa using this
  ·have := sU h r.length
   simp at this;rw[g]at this;exact BM (fun x q=>d x (by simp[q])) this
def nW(sz:Nat)(x:AV)(H:List ai):Option (List (List AV)) :=
 match x with
 |.nils | .lit (.slice none 0 0)=>some []
 |.emptyS _=>some []
 |.list w rZ=>if w=sz then some rZ else none
 |.listF ks rZ=>if ks.length=sz then some (rZ.map (aT ks)) else none
 | .vQ w id ak oF n=>match H[id]? with
  |some (.vQ k v rZ)=>if w=sz/\k=w/\v=ak/\oF+n<=rZ.length then some ((rZ.drop oF).take n) else none
  |_=>none
 |.lit (.string s)=>if sz=1 then some (s.data.toList.map fun b=>[.lit (.int .u8 b.toNat)]) else none
 |_=>none
theorem KF{α β:Type}(f:α->β):∀(l:List α),(l.map fun b=>[f b]).flatten=l.map f
 | []=>rfl
 |a::l=>by simp[KF f l]
theorem BN{P:aj}{E:af}{sz:Nat}{rZ:List (List AV)}{b o cap:Nat}(d:cX E sz rZ b o)(hb:b<E.w.heap.size) :
  ∃ news,aw E rZ.flatten news/\(∀ v∈news,dW v=true) /\
   ∀ w,(∀ b o,b<E.w.heap.size->w.cell? ⟨b,o,none⟩=E.w.cell? ⟨b,o,none⟩)->(j8 sz rZ.length (.slice (some ⟨b,o,none⟩) rZ.length cap)).run P w=.ok news.toArray w:=by
 obtain⟨g,k,q,y⟩:=ye (BL d);refine⟨g,k,q,fun w I=>?_⟩;refine run_firstCells_some (P:=P) w sz rZ.length ⟨b,o,none⟩ rZ.length cap g ?_ ?_
 ·rw [<- ka k]
  have:∀(l:List (List AV)) (o:Nat),cX E sz l b o->l.flatten.length=l.length*sz:=by
   intro l
   induction l with
   |nil=>intros; simp
   | cons a l M =>
    intro o h;simp only[cX]at h;simp[M _ h.2.2,h.1,gv,xN]
  exact this rZ o d
 ·intro j v N
  rw[mf,I b _ hb];exact y j v N
theorem UK{P:aj}{E:af}(HE:aI E){sz:Nat}{x:AV}{c:al}{rZ:List (List AV)}{xt:aD}(h:nW sz x E.H=some rZ)(g:ad E x c)
  (q:∃ d,P.underlying xt=some d/\∀ k,d≠.int k):∃ news,Src P E sz rZ xt c news:=by
 unfold nW at h;split at h
 ·cases h
  simp only[ad]at g;obtain⟨aN,rfl⟩:=g;refine⟨[],⟨fun w=>rfl,fun w _=>?_,by simp[aw],by simp,by simp,(by intro r g; cases g),q⟩⟩;cases aN<;>simp[j8,loadCells,loadCellsFrom]
 ·cases h
  simp only[ad]at g;subst g;exact⟨[],⟨fun w=>rfl,fun w _=>by simp[j8],by simp[aw],by simp,by simp,(by intro r g; cases g),q⟩⟩
 ·cases h
  simp only[ad]at g;obtain⟨aN,cap,rfl,_⟩:=g;refine⟨[],⟨fun w=>rfl,fun w _=>?_,by simp[aw],by simp,by simp,(by intro r g; cases g),q⟩⟩;cases aN<;>simp[j8,loadCells,loadCellsFrom]
 ·rename_i w rows'
  split at h
  case isFalse=>cases h
  rename_i hw;subst hw;cases h;simp only[ad]at g;obtain⟨V,aN,cap,rfl,hle,hh⟩:=g;rcases hh with rfl|⟨b,o,rfl,W,I⟩
  ·refine ⟨[], ⟨fun w => rfl, fun w _ => ?_, by simp [aw], by simp, by simp, (by intro r g; cases g), q⟩⟩
   cases aN<;>simp[j8,loadCells,loadCellsFrom]
  ·obtain ⟨news, M, N, y⟩ := BN (P := P) (cap := cap) I W.1
   exact⟨news,⟨fun w=>rfl,y,M,N,fun r g=>by
    obtain⟨i,hi⟩:=xT g;exact(nT I hi).1,V,q⟩⟩
 ·rename_i ks rows0
  split at h
  case isFalse=>cases h
  rename_i hw;subst hw;cases h;have g:=kf.1 g;generalize rows0.map (aT ks)=rZ at g;simp only[ad]at g;obtain⟨V,aN,cap,rfl,hle,hh⟩:=g;rcases hh with rfl|⟨b,o,rfl,W,I⟩
  ·refine ⟨[], ⟨fun w => rfl, fun w _ => ?_, by simp [aw], by simp, by simp, (by intro r g; cases g), q⟩⟩
   cases aN<;>simp[j8,loadCells,loadCellsFrom]
  ·obtain ⟨news, M, N, y⟩ := BN (P := P) (cap := cap) I W.1
   exact⟨news,⟨fun w=>rfl,y,M,N,fun r g=>by
    obtain⟨i,hi⟩:=xT g;exact(nT I hi).1,V,q⟩⟩
 ·rename_i w id ak oF n
  split at h
  case h_2=>cases h
  rename_i k v rows' hid;split at h
  case isFalse=>cases h
  rename_i hc;obtain⟨rfl,rfl,rfl,hle⟩:=hc;cases h;simp only[ad]at g;obtain⟨⟨aN,cap,rfl,hcap,_⟩,_,h6⟩:=g;obtain⟨q1,q2⟩:=h6 ⟨_,hid,rfl⟩;have O:((rows'.drop oF).take n).length=n:=by simp; omega
  rcases HE.obj id _ hid with⟨U,e2⟩|⟨b,m,U,e2,e3,e4,e5⟩
  ·obtain ⟨rfl, rfl, base', e⟩ := q1 U
   subst e2;refine⟨[],⟨fun w=>by rw[O]; rfl,fun w _=>?_,by simp[aw],by simp,by simp,(by intro r g; simp at g),q⟩⟩;cases aN<;>simp[j8,loadCells,loadCellsFrom]
  ·obtain ⟨p1, o, p2, p3⟩ := q2 b m U
   simp only[l6]at p3;obtain⟨rfl,_,rfl⟩:=p3;by_cases hm:oF<m
   ·rw [p2 hm]
    have hsl:=Kw e5 oF n;simp only[cP]at hsl;obtain⟨news,M,N,y⟩:=BN (P:=P) (cap:=m-oF) hsl (HE.lt id b m U).1;rw[O]at y;refine⟨news,⟨fun w=>by rw[O]; rfl,by rw[O]; exact y,M,N,fun r g=>?_,fun r g=>e4 r (Bb (xQ g)),q⟩⟩;obtain⟨i,hi⟩:=xT g;exact(nT hsl hi).1
   ·have hz : n = 0 := by omega
    subst hz;refine⟨[],⟨fun w=>by rw[O]; rfl,fun w _=>?_,by simp[aw],by simp,by simp,(by intro r g; simp at g),q⟩⟩;simp[j8,loadCells,loadCellsFrom]
 ·rename_i s
  split at h
  case isFalse=>cases h
  rename_i hs;subst hs;cases h;simp only[ad]at g;subst g;refine⟨s.data.toList.map fun b=>.int .u8 b.toNat,⟨fun w=>by simp[JO],fun w _=>?_,?_,?_,?_,?_,q⟩⟩
  ·simp only [c9, iw, j8]
   have:s.extract 0 s.data.size=s:=by
    have:=ByteArray.extract_zero_size (b:=s);exact this
   rw[this,<-TQ];rfl
  ·rw [KF]
   have:=qN (E:=E) (s.data.toList.map fun b=>.int .u8 b.toNat);rw[List.map_map]at this;exact this
  ·intro v hv; simp at hv; obtain⟨b,_,rfl⟩:=hv; rfl
  ·intro r g; simp at g; obtain⟨b,_,rfl⟩:=g; rfl
  ·intro r g; simp at g; obtain⟨b,_,rfl⟩:=g; simp[AV.bK,AV.closed]
 ·cases h
def u9(P:aj)(t xt:aD)(s x:AV)(H:List ai):Option (AV × List ai) :=
 match cZ P t with
 | .slice e sz g =>
  match fC P e,(match cZ P xt with | .slice _ _ _ | .str=>true|_=>false),nW sz x H with
  | some z,true,some d =>
   if z.length=sz/\d.length<=1048576/\g<=1048576 then
    match s with
    |.nils | .lit (.slice none 0 0)=>some (.vQ sz H.length 0 0 d.length,H++[.vQ sz 0 d])
    | .vQ w id ak oF n=>match H[id]? with
     | some (.vQ k v rZ) =>
      if k=w/\w=sz/\v=ak/\oF=0/\n=rZ.length/\rZ.length+d.length<=1048576 then
       some (.vQ w id (ak+1) 0 (n+d.length),H.set id (.vQ k (ak+1) (rZ++d)))
      else none
     |_=>none
    |_=>none
   else none
  |_,_,_=>none
 |_=>none
theorem FX{P:aj}{w w':ba}{t xt ty e:aD}{i:TypeInfo}{sz:Nat}{aN:Option Addr}{n cap m:Nat}{x:al}{d:TypeDesc}
  (q:P.underlying t=some (.slice e)) (v:P.underlying xt=some d) (_hd:∀ k,d≠.int k) (hi:P.info? e=some i) (y:i.size=sz)
  (I:(JO x).run P w=.ok m w) (h:n+m<=cap) {news:List al} (M:(j8 sz m x).run P w=.ok news.toArray w)
  (g:(match aN with|some a=>storeCells (a.add (n*sz)) news|none=>(pure ():Sem Unit)).run P w=.ok () w') :
  (pJ #[t,xt] ty #[.slice aN n cap,x]).run P w=.ok (.slice aN (n+m) cap) w':=by
 cases aN with
 | none =>
  simp at g;subst g;simp[pJ,run_underlying q,run_underlying v,sizeOf,typeInfo,hi,y,I,h,M]
 | some a =>
  simp only[]at g;simp[pJ,run_underlying q,run_underlying v,sizeOf,typeInfo,hi,y,I,h,M,g]
theorem KG{P:aj}{w:ba}{t xt ty e:aD}{i:TypeInfo}{z:al}{sz:Nat}{aN:Option Addr}{n cap m:Nat}{x:al}{d:TypeDesc}
  (q:P.underlying t=some (.slice e)) (v:P.underlying xt=some d) (V:∀ k,d≠.int k) (hi:P.info? e=some i) (y:i.size=sz) (I:i.zero=some z)
  (M:(JO x).run P w=.ok m w) (g:cap<n+m) {olds news:List al}
  (ho:(j8 sz n (.slice aN n cap)).run P w.drew=.ok olds.toArray w.drew)
  (N:(j8 sz m x).run P w.drew=.ok news.toArray w.drew)
  (h:n+m<=1048576) (hb:i.bytes<=1048576) :
  ∃ C,n+m<=C/\(pJ #[t,xt] ty #[.slice aN n cap,x]).run P w =
   .ok (.slice (some ⟨w.heap.size,0,none⟩) (n+m) C) (w.drew.alloc (.cells (olds++news++(Be z.cells (C-(n+m))).toList).toArray e)):=by
 have h1:¬ (n+m<=cap):=by omega
 have O:¬ (9223372036854775807<((n:Int)+(m:Int))):=by omega
 have W:JP (n+m) cap*i.bytes<=281474976710656:=growslice_fits g (by
  have:=Nat.mul_le_mul h hb;omega)
 have U:¬ (281474976710656<JP (n+m) cap*i.bytes):=by omega
 refine⟨grownCap w (n+m) cap e,?_,?_⟩
 ·simp[grownCap,Question.cut]
 ·simp [pJ, run_underlying q, run_underlying v, sizeOf, typeInfo, zeroValue, hi, I, y, M, h1, O, U, Question.forced, N, ho, newRow, grownCap]
  congr 2;apply jb;simp
def dh(E:af)(v:AV)(H':List ai)(u:al)(w':ba):Prop :=
 ∃ d g,ad { w:=w',H:=H',ae:=d,X:=E.X.re g } v u/\aI { w:=w',H:=H',ae:=d,X:=E.X.re g }/\E.le { w:=w',H:=H',ae:=d,X:=E.X.re g }
theorem KH{E:af}{as:List AV}{cs:Array al}{vs tl:List al}{b:Nat}{g:aD}{fr:Nat × Nat}(hb:E.w.heap[b]? = some (.cells cs g fr))(h:aw E as vs)
  (k:cs.toList=vs++tl) (h1:∀ x∈vs,dW x=true):cU E as b 0:=by
 rw[ke];intro i a hi;obtain⟨v,d,q⟩:=pS h hi;refine⟨v,?_,h1 v (eO d),q⟩;simp only[cP,uz,hb];have:cs.toList[i]? = some v:=by rw[k,di (aV d)]; exact d
 simpa using this
theorem UL{E:af}{as:List AV}{cs:Array al}{b:Nat}{y:aD}{fr:Nat × Nat}(hb:E.w.heap[b]? = some (.cells cs y fr))(I:cU E as b 0) :
  aw E as (cs.toList.take as.length)/\(∀ x∈cs.toList.take as.length,dW x=true)/\as.length<=cs.size:=by
 obtain⟨d,q,M,N⟩:=ye I;have O:=ka q;have k:∀(j:Nat) v,d[j]? = some v->cs.toList[j]? = some v:=by
  intro j v g;have:=N j v g;simpa[uz,hb]using this
 have U:d.length<=cs.size:=by
  rcases Nat.eq_zero_or_pos d.length with h|h
  ·omega
  ·have := k (d.length - 1) d[d.length - 1] (bY (by omega))
   have:=aV this;simp at this;omega
 have:cs.toList.take as.length=d:=by
  rw[O];apply jz;intro j;rw[oH];split
  ·rename_i g
   rw[k j d[j] (bY g),bY g]
  ·rename_i g
   rw[oG (by omega)]
 rw[this];exact⟨q,M,by omega⟩
theorem u_{sz:Nat}:∀{l:List (List AV)},(∀ r∈l,r.length=sz)->l.flatten.length=l.length*sz
 | [],_=>by simp
 |a::l,h=>by simp[u_ (l:=l) (fun r d=>h r (by simp[d])),h a (by simp),gv,xN]
theorem FY{E:af}{k:Nat}{rZ:List (List AV)}{b o:Nat}(h:cX E k rZ b o):∀ r∈rZ,r.length=k:=by
 intro r d;obtain⟨i,hi⟩:=xT d;exact(nT h hi).1
theorem KJ(w:ba)(o:Obj):Ext w (w.drew.alloc o) :=
 ⟨by show w.heap.size <= (w.heap.push o).size; simp, fun b hb => by
  show (w.heap.push o)[b]? = _
  simp[TI,aj5 hb],⟨rfl,rfl,rfl,by first|exact fun _=>aQ _|exact fun _=>gX _ _⟩⟩
theorem KK(w:ba)(o:Obj):(w.drew.alloc o).heap[w.heap.size]? = some o:=by
 show (w.heap.push o)[w.heap.size]? = _
 simp
theorem FZ{E E':af}{sz m C:Nat}{rZ:List (List AV)}{vals:List al}{g:List al}{b:Nat}{e:aD}(M:∀ a c,ad E a c->ad E' a c)
  (hb:E'.w.heap[b]? = some (.cells (vals++g).toArray e (0,0))) (d:aw E rZ.flatten vals) (h1:∀ x∈vals,dW x=true)
  (h:∀ r∈rZ,r.length=sz) (q:rZ.length=m) (hC:m<=C) (k:g.length=(C-m)*sz) :
  isRow E'.w b (C*sz)/\cX E' sz rZ b 0:=by
 have y:aw E' rZ.flatten vals:=by
  rw[pO]at *;exact⟨d.1,fun i a v ha I=>M a v (d.2 i a v ha I)⟩
 refine⟨⟨_,e,hb,?_⟩,BM h (KH hb y (by simp; rfl) h1)⟩;have:=ka d;rw[u_ h,q]at this;simp only[Bf,fX,<-this,k,<-gv];congr 1;omega
theorem KL{P:aj}{e:aD}{z:List al}(h:fC P e=some z):∃ i v,P.info? e=some i/\i.zero=some v/\v.cells.toList=z :=
 let ⟨i,v,h1,d,g,_⟩:=oT h
 ⟨i,v,h1,d,g⟩
theorem KM{E:af}(HE:aI E){sz C m:Nat}{d:List (List AV)}{g k:List al}{e:aD}(q:aw E d.flatten g)(h1:∀ x∈g,dW x=true)
  (W:∀ r∈d,r.length=sz) (V:fq d) (hm:d.length=m) (hC:m<=C) (O:k.length=(C-m)*sz) :
  dh E (.vQ sz E.H.length 0 0 m) (E.H++[.vQ sz 0 d]) (.slice (some ⟨E.w.heap.size,0,none⟩) m C) (E.w.drew.alloc (.cells (g++k).toArray e)):=by
 have y:=KJ E.w (.cells (g++k).toArray e);have N:=af.ma (o:=.vQ sz 0 d) (l:=some (E.w.heap.size,C)) HE.len y (fun b n hb=>by cases hb; exact aQ _);have U:=KK E.w (.cells (g++k).toArray e);have I:=FZ (E':=E.push (E.w.drew.alloc (.cells (g++k).toArray e)) (.vQ sz 0 d) (some (E.w.heap.size,C))) (fun a c q=>bD N a q) U q h1 W hm hC O;refine⟨E.ae++[some (E.w.heap.size,C)],E.X.r,?_,aI.push HE y (fun b n hb=>?_) ?_,N⟩
 ·simp only [ad]
  refine⟨⟨_,_,rfl,hC,fun _=>⟨_,_,rfl⟩⟩,⟨.vQ sz 0 d,by simp,rfl,fun v hv=>by simp[ai.aU]at hv; omega⟩,fun _=>⟨fun h=>?_,fun b M h=>?_⟩⟩
  ·rw[<-HE.len]at h; simp at h
  ·rw [<- HE.len] at h
   simp at h;obtain⟨rfl,rfl⟩:=h;exact⟨by omega,0,fun _=>by simp,by simp⟩
 ·cases hb
  exact⟨aQ _,by show _<(E.w.heap.push _).size; simp⟩
 ·simp only [aY]
  right;refine⟨E.w.heap.size,C,?_,I.1,by omega,V,I.2⟩;simp only[af.push];rw[<-HE.len];simp
theorem UM{E:af}(HE:aI E){sz:Nat}(aN:Option Addr) :
  dh E (.vQ sz E.H.length 0 0 0) (E.H++[.vQ sz 0 []]) (.slice aN 0 0) E.w:=by
 have g:=af.ma (o:=.vQ sz 0 []) (l:=none) HE.len (Ext.refl E.w) (fun b n hb=>by cases hb);refine⟨E.ae++[none],E.X.r,?_,aI.push HE (Ext.refl _) (fun b n hb=>by cases hb) ?_,g⟩
 ·simp only [ad]
  refine⟨⟨_,_,rfl,aQ _,fun h=>by omega⟩,⟨.vQ sz 0 [],by simp,rfl,fun v k=>by simp[ai.aU]at k; omega⟩,fun _=>⟨fun _=>⟨trivial,trivial,aN,rfl⟩,fun b M d=>?_⟩⟩;rw[<-HE.len]at d;simp at d
 ·simp only [aY]
  left;refine⟨?_,trivial⟩;simp only[af.push];rw[<-HE.len];simp
theorem F0(P:aj)(a:Addr)(w:ba):(storeCells a []).run P w=.ok () w:=rfl
theorem F1{P:aj}{E:af}{sz:Nat}{rZ:List (List AV)}{xt:aD}{x:al}{news:List al}(h:Src P E sz rZ xt x news)(d:rZ=[]):news=[]:=by
 have:=h.length;rw[d]at this;simp at this;exact this
theorem KN{P:aj}{E:af}(HE:aI E){t xt ty e:aD}{sz y:Nat}{z:List al}{h:List (List AV)}{aN:Option Addr}{q:al}{news:List al}
  (hk:cZ P t=.slice e sz y) (hz:fC P e=some z) (g:Src P E sz h xt q news) (hb1:h.length<=1048576) (hb2:y<=1048576) (W:z.length=sz) :
  ∃ u w',(pJ #[t,xt] ty #[.slice aN 0 0,q]).run P E.w=.ok u w'/\dh E (.vQ sz E.H.length 0 0 h.length) (E.H++[.vQ sz 0 h]) u w':=by
 obtain⟨O,i,hi,U,hby⟩:=je hk;obtain⟨i',zv,I,hz1,hz2⟩:=KL hz;rw[hi]at I;cases I;obtain⟨d,M,N⟩:=g.kind;cases k:h with
 | nil =>
  have hn:=F1 g k;subst hn;subst k;refine⟨.slice aN (0+0) 0,E.w,FX (m:=0) O M N hi U (g.len E.w) (aQ _) (g.cells E.w (fun _ _ _=>rfl)) ?_,UM HE aN⟩;cases aN with
  |none=>rfl
  |some a=>exact F0 P _ _
 | cons r rs =>
  rw[<-k];have hpos:0<h.length:=by rw[k]; simp
  have V:∀ b o,b<E.w.heap.size->E.w.drew.cell? ⟨b,o,none⟩=E.w.cell? ⟨b,o,none⟩:=fun _ _ _=>rfl;obtain⟨C,hC,v⟩:=KG (P:=P) (w:=E.w) (ty:=ty) (aN:=aN) (n:=0) (cap:=0) (m:=h.length) (x:=q) (olds:=[]) O M N hi U hz1 (g.len E.w) (by omega)
   (by cases aN<;>simp[j8,loadCells,loadCellsFrom]) (g.cells _ V) (by omega) (by omega)
  simp only[cP,List.nil_append]at v;refine⟨_,_,v,KM HE g.ad g.one g.wide g.closed rfl (by omega) ?_⟩;simp only[iw,size_zeroCells];rw[<-W,<-hz2];simp
theorem UN{P:aj}{xt:aD}(h:(match cZ P xt with | .slice _ _ _ | .str=>true|_=>false)=true):∃ d,P.underlying xt=some d/\∀ k,d≠.int k:=by
 split at h
 ·rename_i g
  exact⟨_,(je g).1,by simp⟩
 ·rename_i g
  exact⟨_,sW g,by simp⟩
 ·cases h
theorem oV{α:Type}{l:List α}{i:Nat}{x:α}(h:l[i]? = some x):l.set i x=l:=by
 apply jz;intro j;rw[ef];split
 ·rename_i e
  subst e;rw[h];split
  ·rfl
  ·rename_i d; exact(d (aV h)).elim
 ·rfl
theorem UO{P:aj}{E:af}(HE:aI E){t xt ty e id ak:aD}{sz by_:Nat}{z:List al}{rZ g:List (List AV)}{c cx:al}{news:List al}
  (hk:cZ P t=.slice e sz by_) (hz:fC P e=some z) (k:Src P E sz g xt cx news) (hb1:rZ.length+g.length<=1048576) (hb2:by_<=1048576) (hzl:z.length=sz)
  (O:E.H[id]? = some (.vQ sz ak rZ)) (q:ad E (.vQ sz id ak 0 rZ.length) c) :
  ∃ u w',(pJ #[t,xt] ty #[c,cx]).run P E.w=.ok u w' /\
   dh E (.vQ sz id (ak+1) 0 (rZ.length+g.length)) (E.H.set id (.vQ sz (ak+1) (rZ++g))) u w':=by
 obtain⟨hu,i,hi,hs,hby⟩:=je hk;obtain⟨i',zv,hi',hz1,hz2⟩:=KL hz;rw[hi]at hi';cases hi';obtain⟨d,hd1,hd2⟩:=k.kind;simp only[ad]at q;obtain⟨⟨aN,cap,rfl,hcap,hbase⟩,hpast,hlive⟩:=q;obtain⟨q1,q2⟩:=hlive ⟨_,O,rfl⟩;have hlt:=aV O;have hverlt:(∀ v,(ai.vQ sz (ak+1) (rZ++g)).aU = some v->∀ u,(ai.vQ sz ak rZ).aU = some u->u<v):=by
  intro v hv u hu; simp[ai.aU]at hv hu; omega
 have hup:∀ v u,(ai.vQ sz (ak+1) (rZ++g)).aU = some v->(ai.vQ sz ak rZ).aU = some u->u<=v:=by
  intro v u hv hu; simp[ai.aU]at hv hu; omega
 have hdead:(ai.vQ sz ak rZ).aU = none->(ai.vQ sz (ak+1) (rZ++g)).aU = none:=by simp[ai.aU]
 have hpast':∀(w':ba) loc',af.bu { w:=w',H:=E.H.set id (.vQ sz (ak+1) (rZ++g)),ae:=loc',X:=E.X } id (ak+1):=fun w' loc' =>
  ⟨_,bB hlt,rfl,fun v hv=>by simp[ai.aU]at hv; omega⟩
 have hcells:∀ b o,b<E.w.heap.size->E.w.drew.cell? ⟨b,o,none⟩=E.w.cell? ⟨b,o,none⟩:=fun _ _ _=>rfl;by_cases V:rZ.length+g.length<=cap
 ·-- in place
  rcases HE.obj id _ O with⟨I,e2⟩|⟨b,M,I,e2,e3,e4,e5⟩
  ·obtain ⟨hn0, _, base', ee⟩ := q1 I
   simp only[l6]at ee;obtain⟨rfl,_,rfl⟩:=ee;have hnil:g=[]:=by
    cases g with
    |nil=>rfl
    |cons a l=>simp at V
   have hnews:=F1 k hnil;subst hnews;subst hnil;subst e2;refine⟨_,E.w,FX (m:=0) hu hd1 hd2 hi hs (k.len E.w) (aQ _) (k.cells E.w (fun _ _ _=>rfl)) ?_,E.ae.set id none,E.X.r,?_,?_,?_⟩
   ·cases aN with
    |none=>rfl
    |some a=>exact F0 P _ _
   ·simp only [ad]
    refine⟨⟨_,_,rfl,aQ _,fun h=>by simp at h⟩,hpast' _ _,fun _=>⟨fun _=>⟨by simp,trivial,aN,by simp⟩,fun b M y=>?_⟩⟩;rw[bB (by rw[HE.len]; exact hlt)]at y;cases y
   ·refine aI.nS HE O (aQ _) (fun _ _ _ => rfl) (fun _ _ h => by cases h) (.inr hverlt) hup (fun _ => hdead) ?_
    simp only[aY];left;exact⟨by rw[bB (by rw[HE.len]; exact hlt)],by simp⟩
   ·exact af.me O HE.len (aQ _) (fun _ _ _=>rfl) (fun _ _ h=>by cases h) (.inr hverlt) hup (fun _=>hdead)
  ·obtain ⟨_, o, p2, p3⟩ := q2 b M I
   simp only[l6,fL]at p3;obtain⟨rfl,_,rfl⟩:=p3;obtain⟨cur,el,W,hsize⟩:=e2;have hcurl:=UL W (BL e5);have hwide:=FY e5;have hflat:=u_ hwide;have hnl:=k.length;have hstore:∃ w',(storeCells ((Addr.mk b o none).add (rZ.length*sz)) news).run P E.w=.ok () w'/\w'.heap.size=E.w.heap.size/\ft E.w w'/\(∀ x,x≠b->w'.heap[x]? = E.w.heap[x]?) /\
     w'.heap[b]? = some (.cells (cur.toList.take (rZ.length*sz)++news++cur.toList.drop (rZ.length*sz+news.length)).toArray el (0,0)):=by
    by_cases hM:0<cap
    ·rw [p2 hM, mf, qD, cP]
     have hfit2:rZ.length*sz+0+news.length<=cur.size:=by
      rw[hnl,hsize,nJ,<-gv];exact qE _ V
     have hst:=run_storeCells_at P b (rZ.length*sz) el news 0 cur E.w W hfit2 (fun v hv=>by rw[u7]; exact k.one v hv);refine⟨_,hst,setRow_size _ _ _,⟨rfl,rfl,rfl,by first|exact fun _=>aQ _|exact fun _=>gX _ _⟩,fun x N=>setRow_other _ _ _ _ N,?_⟩;rw[setRow_heap _ _ _ _ _ _ W];simp
    ·have h0 : cap = 0 := by omega
     have hn0:g=[]:=by
      cases g with
      |nil=>rfl
      |cons a l=>simp at V; omega
     have:=F1 k hn0;subst this;refine⟨E.w,F0 P _ _,rfl,⟨rfl,rfl,rfl,by first|exact fun _=>aQ _|exact fun _=>gX _ _⟩,fun _ _=>rfl,?_⟩;rw[W];simp
   obtain⟨w',hst,hsz,henv,hother,hb'⟩:=hstore;have hloc:E.ae.set id (some (b,cap))=E.ae:=oV I;have hle:E.le { w:=w',H:=E.H.set id (.vQ sz (ak+1) (rZ++g)),ae:=E.ae.set id (some (b,cap)),X:=E.X } :=
    af.me O HE.len (by omega) (fun x N hne=>hother x (fun ex=>hne cap (by rw[ex]; exact I))) (fun b' n' h=>by cases h; exact .inr ⟨cap,I⟩) (.inr hverlt) hup (fun _=>hdead)
   refine⟨_,w',FX (m:=g.length) hu hd1 hd2 hi hs (k.len E.w) V (k.cells E.w (fun _ _ _=>rfl)) hst,E.ae.set id (some (b,cap)),E.X.r,?_,?_,hle⟩
   ·simp only [ad]
    refine⟨⟨_,_,rfl,V,fun _=>⟨b,o,rfl⟩⟩,hpast' _ _,fun _=>⟨fun y=>?_,fun b' M y=>?_⟩⟩
    ·rw[hloc,I]at y; cases y
    ·rw [hloc, I] at y
     simp only[be,bo]at y;obtain⟨rfl,rfl⟩:=y;exact⟨by omega,o,fun h=>by simpa using p2 (by simpa using h),by simp⟩
   ·refine aI.nS HE O (by omega) (fun x N hne => hother x (fun ex => hne cap (by rw [ex]; exact I))) (fun b' n' h => by cases h; exact .inr ⟨cap, I⟩) (.inr hverlt) hup (fun _ => hdead) ?_
    simp only[aY];right;refine⟨b,cap,by rw[hloc]; exact I,?_,by simpa using V,?_,?_⟩
    ·refine ⟨_, el, hb', ?_⟩
     have hfit2:rZ.length*sz+news.length<=cap*sz:=by rw[hnl,<-gv]; exact qE _ V
     simp only[Bf,fX,j7,pK,iw,hsize];omega
    ·intro r q
     rcases c_.1 q with h|h
     ·exact e4 r h
     ·exact k.closed r h
    ·have hall:∀ r∈rZ++g,r.length=sz:=by
      intro r q;rcases c_.1 q with h|h
      ·exact hwide r h
      ·exact k.wide r h
     refine BM hall (KH hb' (vs:=cur.toList.take (rZ.length*sz)++news) (tl:=cur.toList.drop (rZ.length*sz+news.length)) ?_ (by simp) ?_)
     ·rw [Bg]
      refine oR ?_ (en hle _ k.ad);have:=en hle _ hcurl.1;rw[hflat]at this;exact this
     ·intro x N
      rcases c_.1 N with h|h
      ·exact hcurl.2.1 x (by rw[hflat]; exact h)
      ·exact k.one x h
 ·-- it moves
  have holds:∃ U:List al,aw E rZ.flatten U/\(∀ x∈U,dW x=true)/\(∀ r∈rZ,r.length=sz)/\fq rZ /\
    (j8 sz rZ.length (.slice aN rZ.length cap)).run P E.w.drew=.ok U.toArray E.w.drew:=by
   rcases HE.obj id _ O with⟨I,e2⟩|⟨b,M,I,e2,e3,e4,e5⟩
   ·subst e2
    refine⟨[],by simp[aw],by simp,by simp,(fun r q=>by cases q),?_⟩;cases aN<;>simp[j8,loadCells,loadCellsFrom]
   ·obtain ⟨_, o, p2, p3⟩ := q2 b M I
    simp only[l6,fL]at p3;obtain⟨rfl,_,rfl⟩:=p3;by_cases hM:0<cap
    ·have ho := p2 hM
     rw[qD]at ho;subst ho;obtain⟨vs,g1,g2,g3⟩:=BN (P:=P) (cap:=cap) e5 (HE.lt id b cap I).1;exact⟨vs,g1,g2,FY e5,e4,g3 _ hcells⟩
    ·have:rZ=[]:=by
      cases rZ with
      |nil=>rfl
      |cons a l=>simp at hcap; omega
     subst this;exact⟨[],by simp[aw],by simp,by simp,fun r q=>by(cases q),by simp[j8,loadCells,loadCellsFrom]⟩
  obtain⟨U,g1,g2,g3,g4,g5⟩:=holds;obtain⟨C,hC,hrun⟩:=KG (P:=P) (w:=E.w) (ty:=ty) (aN:=aN) (n:=rZ.length) (cap:=cap) (m:=g.length) (x:=cx) (olds:=U) hu hd1 hd2 hi hs hz1 (k.len E.w) (by omega)
   g5 (k.cells _ hcells) (by omega) (by omega)
  generalize hrest:(Be zv.cells (C-(rZ.length+g.length))).toList=rest at hrun;have hrl:rest.length=(C-(rZ.length+g.length))*sz:=by
   rw[<-hrest];simp only[iw,size_zeroCells];rw[<-hzl,<-hz2];simp
  generalize hw':E.w.drew.alloc (.cells (U++news++rest).toArray e)=w' at hrun;have hext:Ext E.w w':=by rw[<-hw']; exact KJ _ _
  have W:w'.heap[E.w.heap.size]? = some (.cells (U++news++rest).toArray e (0,0)):=by rw[<-hw']; exact KK _ _
  have hltw:E.w.heap.size<w'.heap.size:=(Array.getElem?_eq_some_iff.1 W).1;have hle:E.le { w:=w',H:=E.H.set id (.vQ sz (ak+1) (rZ++g)),ae:=E.ae.set id (some (E.w.heap.size,C)),X:=E.X } :=
   af.me O HE.len hext.size (fun x N _=>hext.same x N) (fun b n h=>by cases h; exact .inl (aQ _)) (.inr hverlt) hup (fun _=>hdead)
  have hall:∀ r∈rZ++g,r.length=sz:=by
   intro r q;rcases c_.1 q with h|h
   ·exact g3 r h
   ·exact k.wide r h
  have hlocs:(E.ae.set id (some (E.w.heap.size,C)))[id]? = some (some (E.w.heap.size,C)):=bB (by rw[HE.len]; exact hlt);have hrow:=FZ (E:=E) (E':={ w:=w',H:=E.H.set id (.vQ sz (ak+1) (rZ++g)),ae:=E.ae.set id (some (E.w.heap.size,C)),X:=E.X })
   (rZ:=rZ++g) (vals:=U++news) (m:=rZ.length+g.length) (fun a c q=>bD hle a q) W
   (by rw[Bg]; exact oR g1 k.ad)
   (by intro x N; rcases c_.1 N with h|h; exact g2 x h; exact k.one x h) hall (by simp) hC hrl
  refine⟨_,w',hrun,E.ae.set id (some (E.w.heap.size,C)),E.X.r,?_,?_,hle⟩
  ·simp only [ad]
   refine⟨⟨_,_,rfl,hC,fun _=>⟨_,_,rfl⟩⟩,hpast' _ _,fun _=>⟨fun y=>?_,fun b' M y=>?_⟩⟩
   ·rw[hlocs]at y; cases y
   ·rw [hlocs] at y
    simp only[be,bo]at y;obtain⟨rfl,rfl⟩:=y;exact⟨by omega,0,fun _=>by simp,by simp⟩
  ·refine aI.nS HE O hext.size (fun x N _ => hext.same x N) (fun b n h => by cases h; exact .inl ⟨aQ _, hltw⟩) (.inr hverlt) hup (fun _ => hdead) ?_
   simp only[aY];right;refine⟨E.w.heap.size,C,hlocs,hrow.1,by simpa using hC,?_,hrow.2⟩;intro r q;rcases c_.1 q with h|h
   ·exact g4 r h
   ·exact k.closed r h
theorem UP{P:aj}{E:af}(HE:aI E){t xt ty:aD}{s x v:AV}{H':List ai}{c M:al}(h:u9 P t xt s x E.H=some (v,H'))
  (d:ad E s c) (hx:ad E x M):∃ u w',(pJ #[t,xt] ty #[c,M]).run P E.w=.ok u w'/\dh E v H' u w':=by
 unfold u9 at h;split at h
 case h_2=>cases h
 rename_i e sz by_ q;split at h
 case h_2=>cases h
 rename_i z new y U O;split at h
 case isFalse=>cases h
 rename_i hc;obtain⟨h1,N,I⟩:=hc;obtain⟨news,g⟩:=UK (P:=P) HE O hx (UN U);split at h
 ·cases h
  simp only[ad]at d;obtain⟨aN,rfl⟩:=d;exact KN HE q y g N I h1
 ·cases h
  simp only[ad]at d;subst d;exact KN HE q y g N I h1
 ·split at h
  case h_2=>cases h
  rename_i k v rZ V;split at h
  case isFalse=>cases h
  rename_i W;obtain⟨rfl,rfl,rfl,rfl,rfl,hb⟩:=W;cases h;exact UO HE q y g hb I h1 V d
 ·cases h
end Go.AL

namespace Go.AL
open Go
variable [Dr]
theorem F2{w w':ba}{b oF:Nat}{g:Array al}{d:List al}{q:aD}{fr:Nat × Nat}(y:w.heap[b]? = some (.cells g q fr))
  (I:w'.heap[b]? = some (.cells (g.toList.take oF++d++g.toList.drop (oF+d.length)).toArray q fr)) (N:oF+d.length<=g.size) (i:Nat) :
  w'.cell? ⟨b,i,none⟩=if oF<=i/\i<oF+d.length then d[i-oF]? else w.cell? ⟨b,i,none⟩:=by
 simp only[uz,y,I,Option.isSome_none,lk,if_false,List.getElem?_toArray,gj,fX,j7,iw,
  oH,sI]
 have h1:min oF g.size=oF:=by omega
 rw[h1];by_cases v:i<oF
 ·have k : ¬ (oF <= i /\ i < oF + d.length) := by omega
  have h:i<oF+d.length:=by omega
  rw[iN k];simp[v,h]
 ·by_cases k : i < oF + d.length
  ·have h : oF <= i /\ i < oF + d.length := by omega
   simp[v,k,h]
  ·have h : ¬ (oF <= i /\ i < oF + d.length) := by omega
   have M:oF+d.length+(i-(oF+d.length))=i:=by omega
   rw[iN k,iN h,M];simp
theorem BO{E E':af}{b o col:Nat}{k:Array al}{as cs:List AV}{g:List al}{O:aD}{fr:Nat × Nat}(y:∀ a c,ad E a c->ad E' a c)
  (U:E.w.heap[b]? = some (.cells k O fr))
  (W:E'.w.heap[b]? = some (.cells (k.toList.take (o+col)++g++k.toList.drop (o+col+g.length)).toArray O fr)) (V:o+col+g.length<=k.size)
  (I:cU E as b o) (bX:aw E cs g) (h1:∀ x∈g,dW x=true) (hcol:col+cs.length<=as.length) :
  cU E' (as.take col++cs++as.drop (col+cs.length)) b o:=by
 have hlen:=ka bX;rw[ke]at I|-;intro i a hi;rw[F2 U W V];simp only[gj,fX,j7,oH,sI]at hi;have hm:min col as.length=col:=by omega
 rw[hm]at hi;by_cases M:i<col
 ·have q : i < col + cs.length := by omega
  rw[iP q,iP M,iP M]at hi;obtain⟨v,d,h,N⟩:=I i a hi;exact⟨v,by rw[iN (by omega)]; exact d,h,y _ _ N⟩
 ·by_cases q : i < col + cs.length
  ·rw [iP q, iN M] at hi
   obtain⟨v,d,h⟩:=pS bX hi;refine⟨v,?_,h1 v (eO d),y _ _ h⟩;rw[iP (by omega),<-d];congr 1;omega
  ·rw [iN q] at hi
   have:col+cs.length+(i-(col+cs.length))=i:=by omega
   rw[this]at hi;obtain⟨v,d,h,N⟩:=I i a hi;exact⟨v,by rw[iN (by omega)]; exact d,h,y _ _ N⟩
theorem af.pT{E:af}{w':ba}{id b n:Nat}{o o':ai}(HE:aI E)(N:E.H[id]? = some o) (g:E.ae[id]? = some (some (b,n)))
  (k:∀ v,o'.aU = some v->o.aU = some v) (V:w'.heap.size=E.w.heap.size) (I:∀ x,x≠b->w'.heap[x]? = E.w.heap[x]?) (M:ft E.w w':=by first|exact⟨rfl,rfl,rfl,by first|exact fun _=>aQ _|exact fun _=>gX _ _⟩|assumption|exact Ext.env (by assumption)) (O:o.dR=none\/o'.dR=o.dR\/o'.aU = none:=by first|exact .inl rfl|exact .inr (.inl rfl)|exact .inr (.inr rfl)|exact .inl (ai.Bx (by assumption))|assumption) (W:o.born=true->o'.born=true:=by first|exact fun _=>rfl|exact fun h=>h|assumption) :
  E.le { w:=w',H:=E.H.set id o',ae:=E.ae,X:=E.X }:=by
 have h:=af.me (w':=w') (o':=o') (l:=some (b,n)) N HE.len (by omega) (fun x _ U=>I x (fun e=>U n (by rw[e]; exact g))) (fun b' n' h=>by cases h; exact .inr ⟨n,g⟩)
  (.inl fun v d => ⟨k v d, g⟩) (fun v u d q => by rw [k v d] at q; cases q; exact aQ _) (fun _ y => by
   cases d:o'.aU with
   |none=>rfl
   |some v=>rw[k v d]at y; cases y) M O
 rwa [oV g]at h
theorem aI.set{E:af}{w':ba}{id b n:Nat}{o o':ai}(HE:aI E)(N:E.H[id]? = some o) (d:E.ae[id]? = some (some (b,n)))
  (k:∀ v,o'.aU = some v->o.aU = some v) (U:w'.heap.size=E.w.heap.size) (I:∀ x,x≠b->w'.heap[x]? = E.w.heap[x]?)
  (ho:aY { w:=w',H:=E.H.set id o',ae:=E.ae,X:=E.X } id o') (M:ft E.w w':=by first|exact⟨rfl,rfl,rfl,by first|exact fun _=>aQ _|exact fun _=>gX _ _⟩|assumption|exact Ext.env (by assumption)) (hlab:o.label=none:=by first|rfl|assumption) (V:o'.label=none:=by first|rfl|assumption) (W:o.born=true->o'.born=true:=by first|exact fun _=>rfl|exact fun h=>h|assumption):aI { w:=w',H:=E.H.set id o',ae:=E.ae,X:=E.X }:=by
 have h:=aI.nS (w':=w') (o':=o') (l:=some (b,n)) HE N (by omega) (fun x _ O=>I x (fun e=>O n (by rw[e]; exact d))) (fun b' n' h=>by cases h; exact .inr ⟨n,d⟩)
  (.inl fun v g => ⟨k v g, d⟩) (fun v u g q => by rw [k v g] at q; cases q; exact aQ _) (fun _ y => by
   cases g:o'.aU with
   |none=>rfl
   |some v=>rw[k v g]at y; cases y) (by rw[oV d]; exact ho) M
 rwa [oV d]at h
def putCells(as cs:List AV)(d:Nat):List AV:=as.take d++cs++as.drop (d+cs.length)
def oW(P:aj)(t:aD)(x v:AV)(H:List ai):Option (List ai) :=
 match gk P t,oS v,x with
 | some (n,_),some cs,.ptr id ak w row d =>
  if cs.length=n then
   match H[id]? with
   |some (.box cells)=>if ak=0/\row=0/\d+n<=cells.length then some (H.set id (.box (putCells cells cs d))) else none
   | some (.vQ k u rZ) =>
    if ak=u/\k=w/\AV.bK cs=true then
     match rZ[row]? with
     |some r=>if d+n<=r.length then some (H.set id (.vQ k u (rZ.set row (putCells r cs d)))) else none
     |none=>none
    else none
   |_=>none
  else none
 |_,_,_=>none
theorem F3{as cs:List AV}{d:Nat}(h:d+cs.length<=as.length):(putCells as cs d).length=as.length:=by
 simp[putCells]; omega
theorem ym:∀(a b:List AV),AV.bK (a++b)=(AV.bK a&&AV.bK b)
 | [],b=>by simp[AV.bK]
 |x::a,b=>by simp[AV.bK,ym a b,aj8]
theorem KO{P:aj}{E:af}(HE:aI E){t:aD}{x v:AV}{c d:al}{H':List ai}(h:oW P t x v E.H=some H')(hx:ad E x c)(O:ad E v d) :
  ∃ w',(uC t c d).run P E.w=.ok () w'/\aI { w:=w',H:=H',ae:=E.ae,X:=E.X }/\E.le { w:=w',H:=H',ae:=E.ae,X:=E.X }:=by
 unfold oW at h;split at h
 case h_2=>cases h
 rename_i n ag cs id ak w row g ht bX;obtain⟨i,dd,hi,hd,hs,ha⟩:=lu ht;obtain⟨hrel,h1⟩:=BK bX O;split at h
 case isFalse=>cases h
 rename_i hn;have hlen:=ka hrel;have hsz:d.cells.size=n:=by rw[<-hn,hlen]; simp
 simp only[ad]at hx;obtain⟨_,hpast,hlive⟩:=hx;split at h
 ·rename_i cells M
  split at h
  case isFalse=>cases h
  rename_i hc;obtain⟨rfl,rfl,hcol⟩:=hc;cases h;obtain⟨b,m,U,rfl⟩:=hlive ⟨_,M,rfl⟩;obtain⟨b',m',e2,⟨y,V,W,hsize⟩,e3⟩:=HE.obj id _ M;rw[U]at e2;cases e2;have I:g+0+d.cells.toList.length<=y.size:=by rw[hsize]; simp; omega
  have hst:=run_storeCells_at P b g V d.cells.toList 0 y E.w W I (fun v O=>by rw[u7]; exact h1 v O);simp only[nJ]at hst I;generalize N:E.w.setRow b (y.toList.take g++d.cells.toList++y.toList.drop (g+d.cells.toList.length)).toArray=w' at hst;have hsize':w'.heap.size=E.w.heap.size:=by rw[<-N]; exact setRow_size _ _ _
  have henv:ft E.w w':=by rw[<-N]; exact⟨rfl,rfl,rfl,by first|exact fun _=>aQ _|exact fun _=>gX _ _⟩
  have hother:∀ x,x≠b->w'.heap[x]? = E.w.heap[x]? := by intro x hx; rw[<-N]; exact setRow_other _ _ _ _ hx
  have hb':w'.heap[b]? = some (.cells (y.toList.take g++d.cells.toList++y.toList.drop (g+d.cells.toList.length)).toArray V (0,0)):=by
   rw[<-N]; exact setRow_heap E.w b y _ V (0,0) W
  have hver:∀ v,(ai.box (putCells cells cs g)).aU = some v->(ai.box cells).aU = some v:=fun v O=>by simpa[ai.aU]using O
  have hle:=af.pT (o':=.box (putCells cells cs g)) HE M U hver hsize' hother;refine⟨w',?_,aI.set HE M U hver hsize' hother ?_,hle⟩
  ·simp only [uC, mI, cf, fp, b_, storeVar, Sem.run_sizeOf hi, hs, qD, cP]
   rw[iN (by omega)];exact hst
  ·simp only [aY]
   refine⟨b,m,U,⟨_,V,hb',?_⟩,?_⟩
   ·rw [F3 (by omega)]
    simp only[Bf,fX,j7,pK,iw]at I|-;omega
   ·exact BO (o:=0) (col:=g) (fun a c hr=>bD hle a hr) W (by simpa using hb') (by simpa using I) e3 hrel h1 (by omega)
 ·rename_i k u rZ M
  split at h
  case isFalse=>cases h
  rename_i hc;obtain⟨rfl,rfl,hclosed⟩:=hc;split at h
  case h_2=>cases h
  rename_i r hrow;split at h
  case isFalse=>cases h
  rename_i hcol;cases h;obtain⟨b,m,U,rfl⟩:=hlive ⟨_,M,rfl⟩;rcases HE.obj id _ M with⟨_,e2⟩|⟨b',m',e2,⟨y,V,W,hsize⟩,e3,e4,e5⟩
  ·subst e2; simp at hrow
  rw[U]at e2;cases e2;have hrlt:=aV hrow;obtain⟨hrk,hrc⟩:=nT e5 hrow;rw[cP]at hrc;have hrow1:(row+1)*k<=m*k:=qE _ (by omega);rw[gv,xU]at hrow1;have I:row*k+g+0+d.cells.toList.length<=y.size:=by rw[hsize]; simp; omega
  have hst:=run_storeCells_at P b (row*k+g) V d.cells.toList 0 y E.w W I (fun v O=>by rw[u7]; exact h1 v O);simp only[nJ]at hst I;generalize N:E.w.setRow b (y.toList.take (row*k+g)++d.cells.toList++y.toList.drop (row*k+g+d.cells.toList.length)).toArray=w' at hst;have hsize':w'.heap.size=E.w.heap.size:=by rw[<-N]; exact setRow_size _ _ _
  have henv:ft E.w w':=by rw[<-N]; exact⟨rfl,rfl,rfl,by first|exact fun _=>aQ _|exact fun _=>gX _ _⟩
  have hother:∀ x,x≠b->w'.heap[x]? = E.w.heap[x]? := by intro x hx; rw[<-N]; exact setRow_other _ _ _ _ hx
  have hb':w'.heap[b]? = some (.cells (y.toList.take (row*k+g)++d.cells.toList++y.toList.drop (row*k+g+d.cells.toList.length)).toArray V (0,0)):=by
   rw[<-N]; exact setRow_heap E.w b y _ V (0,0) W
  have hver:∀ v,(ai.vQ k ak (rZ.set row (putCells r cs g))).aU = some v->(ai.vQ k ak rZ).aU = some v:=fun v O=>by simpa[ai.aU]using O
  have hle:=af.pT (o':=.vQ k ak (rZ.set row (putCells r cs g))) HE M U hver hsize' hother;refine⟨w',?_,aI.set HE M U hver hsize' hother ?_,hle⟩
  ·simp only [uC, mI, cf, fp, b_, storeVar, Sem.run_sizeOf hi, hs]
   rw[iN (by omega)];exact hst
  ·simp only [aY]
   right;refine⟨b,m,U,⟨_,V,hb',?_⟩,by simpa using e3,?_,?_⟩
   ·simp only [Bf, fX, j7, pK, iw, hsize] at I |-
    omega
   ·intro r' hr'
    rcases List.mem_or_eq_of_mem_set hr' with h'|h'
    ·exact e4 r' h'
    ·rw [h', putCells, ym, ym]
     have:=e4 r (eO hrow);simp[yd _ _ this,uW _ _ this,hclosed]
   ·rw [nR] at e5 |-
    intro j r' hj;rw[ef]at hj;split at hj
    ·rename_i ej
     subst ej;cases hj;refine⟨by rw[F3 (by omega)]; exact hrk,?_⟩;rw[cP];exact BO (fun a c hr=>bD hle a hr) W hb' I hrc hrel h1 (by omega)
    ·rename_i ej
     obtain⟨g1,g2⟩:=e5 j r' hj;refine⟨g1,?_⟩;rw[ke]at g2|-;intro q a hq;obtain⟨vv,p1,p2,p3⟩:=g2 q a hq;refine⟨vv,?_,p2,bD hle a p3⟩;have hql:=aV hq;rw[F2 W hb' I,iN]
     ·exact p1
     ·rcases Nat.lt_or_gt_of_ne ej with hlt | hgt
      ·have : (row + 1) * k <= j * k := qE _ (by omega)
       rw[gv,xU]at this;simp only[iw];omega
      ·have : (j + 1) * k <= row * k := qE _ (by omega)
       rw[gv,xU]at this;omega
 ·cases h
theorem KP{E:af}(HE:aI E){cells:List AV}{vals:Array al}{el:aD}(k:aw E cells vals.toList)(h1:∀ x∈vals.toList,dW x=true) :
  dh E (.ptr E.H.length 0 0 0 0) (E.H++[.box cells]) (.pointer (some ⟨E.w.heap.size,0,none⟩)) { E.w with heap:=E.w.heap.push (.cells vals el) }:=by
 have d:=Ext.push E.w (.cells vals el);have h:=af.ma (o:=.box cells) (l:=some (E.w.heap.size,0)) HE.len d (fun b n hb=>by cases hb; exact aQ _);have g:(E.w.heap.push (.cells vals el))[E.w.heap.size]? = some (.cells vals el (0,0)):=by simp
 have q:aw (E.push { E.w with heap:=E.w.heap.push (.cells vals el) } (.box cells) (some (E.w.heap.size,0))) cells vals.toList:=en h _ k;refine⟨E.ae++[some (E.w.heap.size,0)],E.X.r,?_,aI.push HE d (fun b n hb=>?_) ?_,h⟩
 ·simp only [ad]
  refine⟨⟨_,_,rfl⟩,⟨.box cells,by simp,rfl,fun v y=>by simp⟩,fun _=>⟨E.w.heap.size,0,?_,by simp⟩⟩;rw[<-HE.len]; simp
 ·cases hb
  exact⟨aQ _,by simp⟩
 ·simp only [aY]
  refine⟨E.w.heap.size,0,?_,⟨vals,el,g,?_⟩,FW (cs:=vals) (el:=el) (fr:=(0,0)) g q h1⟩
  ·simp only[af.push]; rw[<-HE.len]; simp
  ·have := ka k
   simpa using this.symm
def BP(P:aj)(t:aD):Option aD:=match fC P t with
 | some [.pointer none,.slice none 0 0]=>match P.underlying t with
  | some (.struct d)=>match d[1]? with
   | some g=>match P.underlying g.type with
    | some (.slice e)=>match P.underlying e with
     |some (.int .u8)=>some e
     |_=>none
    |_=>none
   |none=>none
  |_=>none
 |_=>none
theorem UQ{P:aj}{t e:aD}(h:BP P t=some e):fC P t=some [.pointer none,.slice none 0 0]:=by
 unfold BP at h;split at h
 ·assumption
 ·cases h
def kP(H:List ai)(l:Nat):Bool:=H.all fun o=>match o.label with
 |some k => !Nat.beq k l
 |none=>true
theorem pU{H:List ai}{l:Nat}(h:kP H l=true)(i:Nat)(o:ai)(hi:H[i]? = some o):o.label≠some l:=fun e=>by
 have:=dK.1 h o (eO hi);rw[e]at this;simp at this
theorem UR{E:af}(HE:aI E){t e:aD}(d:kP E.H 0=true) :
  dh E (.ptr E.H.length 0 0 0 0) (E.H++[.gx 0 t e A']) (.pointer (some ⟨E.w.heap.size,0,none⟩)) { E.w with heap:=E.w.heap.push (.cells #[.pointer none,.slice none 0 0] t) }:=by
 have k:=Ext.push E.w (.cells #[.pointer none,.slice none 0 0] t);obtain⟨h1,q⟩:=aI.Uq (o:=.gx 0 t e A') (l:=some (E.w.heap.size,0)) (l0:=0) HE k (fun b n hb=>by cases hb; exact⟨aQ _,by simp⟩) rfl (pU d) (by
  simp only[aY];refine⟨E.w.heap.size,0,.pointer none,.slice none 0 0,(E.X.r 0).length,none,?_,?_,.inl rfl,?_,?_,⟨rfl,rfl⟩⟩
  ·rw[<-HE.len]; simp
  ·simp
  ·simp[kg,XS.re]
  ·intro h' h y
   rcases FC (show (kg E.X.r 0 0)[h']? = some (some h) from y)with g|⟨_,g,_⟩
   ·exact(HE.iO 0 (pU d) h' h g).elim
   ·exact g)
 refine⟨E.ae++[some (E.w.heap.size,0)],kg E.X.r 0,?_,h1,q⟩;simp only[ad];refine⟨⟨_,_,rfl⟩,⟨.gx 0 t e A',by simp,rfl,fun v I=>by simp⟩,fun _=>⟨E.w.heap.size,0,?_,by simp⟩⟩;rw[<-HE.len]; simp
def sZ(P:aj)(t:aD)(H:List ai):Option (AV × List ai) :=
 match BP P t with
 |some e=>if kP H 0=true then some (.ptr H.length 0 0 0 0,H++[.gx 0 t e A']) else none
 | none=>match fC P t with
  |some z=>some (.ptr H.length 0 0 0 0,H++[.box (z.map .lit)])
  |none=>none
theorem US{P:aj}{E:af}(HE:aI E){t:aD}{v:AV}{H':List ai}(h:sZ P t E.H=some (v,H')) :
  ∃ u w',(Ff t true (.tuple #[])).run P E.w=.ok u w'/\dh E v H' u w':=by
 unfold sZ at h;split at h
 ·rename_i e he
  split at h
  case isFalse=>cases h
  rename_i I;cases h;obtain⟨i,g,h1,k,d,y⟩:=oT (UQ he);have q:g.cells=#[.pointer none,.slice none 0 0]:=jb (by simpa using d);refine⟨_,_,?_,UR HE (t:=t) (e:=e) I⟩;simp[Ff,oU h1 k,newVar,newRow,q]
 split at h
 ·rename_i z q
  cases h;obtain⟨i,g,h1,k,d,y⟩:=oT q;refine⟨_,_,?_,KP HE (vals:=g.cells) (el:=t) (by rw[d]; exact qN z) (by rw[d]; exact y)⟩;simp[Ff,oU h1 k,newVar,newRow]
 ·cases h
def zc:Option (List Kd)->al->AV
 |some ks,.slice none 0 0=>.listF ks []
 |_,v=>.lit v
def fm:List (Option (List Kd))->List al->List AV
 |_,[]=>[]
 | [],v::z=>.lit v::fm [] z
 |a::m,v::z=>zc a v::fm m z
theorem BQ:∀(m:List (Option (List Kd))) (z:List al),(fm m z).length=z.length
 | [],[]=>rfl
 |_::_,[]=>rfl
 | [],v::z=>by simp[fm,BQ [] z]
 |a::m,v::z=>by simp[fm,BQ m z]
theorem UT{E:af}(a:Option (List Kd))(v:al):ad E (zc a v) v:=by
 unfold zc;split
 ·simp only [ad, fk]
  exact⟨none,0,rfl,aQ _,.inl rfl⟩
 ·simp[ad]
theorem F4{E:af}:∀(m:List (Option (List Kd))) (z:List al),aw E (fm m z) z
 | [],[]=>by simp[fm,aw]
 |_::_,[]=>by simp[fm,aw]
 | [],v::z=>by simp only[fm,aw]; exact⟨by simp[ad],F4 [] z⟩
 |a::m,v::z=>by simp only[fm,aw]; exact⟨UT a v,F4 m z⟩
theorem UU(a:Option (List Kd))(v:al):(zc a v).closed=true:=by
 unfold zc;split<;>rfl
theorem F5:∀(m:List (Option (List Kd))) (z:List al),AV.bK (fm m z)=true
 | [],[]=>rfl
 |_::_,[]=>rfl
 | [],v::z=>by simp[fm,AV.bK,AV.closed,F5 [] z]
 |a::m,v::z=>by simp[fm,AV.bK,UU,F5 m z]
def qS(P:aj)(t:aD)(id:Nat) (m:List (Option (List Kd))) (H:List ai):Option (AV × List ai) :=
 match fC P t,H[id]? with
 |some z,some (.vQ k 0 [])=>if k=z.length then some (.ptr id 1 k 0 0,H.set id (.vQ k 1 [fm m z])) else none
 |_,_=>none
theorem UW{E:af}(HE:aI E){id k:Nat}{cells:List AV}{vals:Array al}{el:aD}(y:E.H[id]? = some (.vQ k 0 []))(d:aw E cells vals.toList)(h1:∀ x∈vals.toList,dW x=true)(hk:cells.length=k)
  (hcl:AV.bK cells=true) :
  dh E (.ptr id 1 k 0 0) (E.H.set id (.vQ k 1 [cells])) (.pointer (some ⟨E.w.heap.size,0,none⟩)) { E.w with heap:=E.w.heap.push (.cells vals el) }:=by
 have q:=Ext.push E.w (.cells vals el);have W:=aV y;have N:∀ v,(ai.vQ k 1 [cells]).aU = some v->∀ u,(ai.vQ k 0 []).aU = some u->u<v:=by
  intro v g u I;simp[ai.aU]at g I;omega
 have hup:∀ v u,(ai.vQ k 1 [cells]).aU = some v->(ai.vQ k 0 []).aU = some u->u<=v:=by
  intro v u g I;simp[ai.aU]at g I;omega
 have O:(ai.vQ k 0 []).aU = none->(ai.vQ k 1 [cells]).aU = none:=by simp[ai.aU]
 have hle:E.le { w:={ E.w with heap:=E.w.heap.push (.cells vals el) },H:=E.H.set id (.vQ k 1 [cells]),ae:=E.ae.set id (some (E.w.heap.size,1)),X:=E.X } :=
  af.me y HE.len q.size (fun x M _=>q.same x M) (fun b n h=>by cases h; exact .inl (aQ _)) (.inr N) hup (fun _=>O)
 have V:(E.w.heap.push (.cells vals el))[E.w.heap.size]? = some (.cells vals el (0,0)):=by simp
 have U:(E.ae.set id (some (E.w.heap.size,1)))[id]? = some (some (E.w.heap.size,1)):=bB (by rw[HE.len]; exact W);have hr':=en hle _ d;refine⟨E.ae.set id (some (E.w.heap.size,1)),E.X.r,?_,?_,hle⟩
 ·simp only [ad]
  refine⟨⟨_,_,rfl⟩,⟨.vQ k 1 [cells],by simp[W],rfl,fun v g=>by simp[ai.aU]at g; omega⟩,fun _=>⟨E.w.heap.size,1,U,by simp⟩⟩
 ·refine aI.nS HE y q.size (fun x M _ => q.same x M) (fun b n h => by cases h; exact .inl ⟨aQ _, by simp⟩) (.inr N) hup (fun _ => O) ?_
  simp only[aY];right;refine⟨E.w.heap.size,1,U,⟨vals,el,V,?_⟩,by simp,?_,?_⟩
  ·have := ka d
   rw[xU,<-hk];simpa using this.symm
  ·intro r d
   simp at d;rw[d];exact hcl
  ·simp only [cX, and_true]
   exact⟨hk,FW (cs:=vals) (el:=el) (fr:=(0,0)) V hr' h1⟩
theorem UX{P:aj}{E:af}(HE:aI E){t:aD}{id:Nat}{m:List (Option (List Kd))}{v:AV}{H':List ai}(h:qS P t id m E.H=some (v,H')) :
  ∃ u w',(Ff t true (.tuple #[])).run P E.w=.ok u w'/\dh E v H' u w':=by
 unfold qS at h;split at h
 ·rename_i z k q g
  split at h
  ·rename_i y
   cases h;obtain⟨i,I,h1,M,d,N⟩:=oT q;refine⟨_,_,?_,UW HE (vals:=I.cells) (el:=t) g (by rw[d]; exact F4 m z) (by rw[d]; exact N) (by rw[BQ,y]) (F5 m z)⟩;simp[Ff,oU h1 M,newVar,newRow]
  ·cases h
 ·cases h
def BR(v:AV)(H:List ai):Option (AV × List ai) :=
 match oS v with
 |some cs=>some (.ptr H.length 0 0 0 0,H++[.box cs])
 |none=>none
theorem UY{P:aj}{E:af}(HE:aI E){t:aD}{x v:AV}{c:al}{H':List ai}(h:BR x E.H=some (v,H'))(d:ad E x c) :
  ∃ u w',(akd t c).run P E.w=.ok u w'/\dh E v H' u w':=by
 unfold BR at h;split at h
 ·rename_i cs bX
  cases h;obtain⟨h1,g⟩:=BK bX d;refine⟨_,_,?_,KP HE (vals:=c.cells) (el:=t) h1 g⟩;simp[akd,newVar,newRow]
 ·cases h
theorem KQ{E:af}(HE:aI E){sz n C:Nat}{rZ:List (List AV)}{g h:List al}{k:aD}(q:aw E rZ.flatten g)(h1:∀ x∈g,dW x=true)
  (W:∀ r∈rZ,r.length=sz) (V:fq rZ) (d:rZ.length=n) (hC:n<=C) (O:h.length=(C-n)*sz) :
  dh E (.vQ sz E.H.length 0 0 n) (E.H++[.vQ sz 0 rZ]) (.slice (some ⟨E.w.heap.size,0,none⟩) n C) { E.w with heap:=E.w.heap.push (.cells (g++h).toArray k) }:=by
 have y:=Ext.push E.w (.cells (g++h).toArray k);have N:=af.ma (o:=.vQ sz 0 rZ) (l:=some (E.w.heap.size,C)) HE.len y (fun b n hb=>by cases hb; exact aQ _);have U:(E.w.heap.push (.cells (g++h).toArray k))[E.w.heap.size]? = some (.cells (g++h).toArray k (0,0)):=by simp
 have I:=FZ (E':=E.push { E.w with heap:=E.w.heap.push (.cells (g++h).toArray k) } (.vQ sz 0 rZ) (some (E.w.heap.size,C))) (fun a c q=>bD N a q) U q h1 W d hC O;refine⟨E.ae++[some (E.w.heap.size,C)],E.X.r,?_,aI.push HE y (fun b n hb=>?_) ?_,N⟩
 ·simp only [ad]
  refine⟨⟨_,_,rfl,hC,fun _=>⟨_,_,rfl⟩⟩,⟨.vQ sz 0 rZ,by simp,rfl,fun v hv=>by simp[ai.aU]at hv; omega⟩,fun _=>⟨fun d=>?_,fun b M d=>?_⟩⟩
  ·rw[<-HE.len]at d; simp at d
  ·rw [<- HE.len] at d
   simp at d;obtain⟨rfl,rfl⟩:=d;exact⟨by omega,0,fun _=>by simp,by simp⟩
 ·cases hb
  exact⟨aQ _,by simp⟩
 ·simp only [aY]
  right;refine⟨E.w.heap.size,C,?_,I.1,by omega,V,I.2⟩;simp only[af.push];rw[<-HE.len];simp
theorem range_zero(z:Array al)(n:Nat)(v:0<z.size):((jA (n*z.size)).map (fun i=>z[i%z.size]!)).toList=(cC n z.toList).flatten:=by
 induction n with
 |zero=>simp
 | succ n k =>
  rw[List.replicate_succ',Bg,<-k];simp only[pI,List.flatten_nil,dJ];apply jz;intro i;simp only[TQ,Array.toList_range,bW,gj,c9,List.length_range];by_cases h:i<n*z.size
  ·have d : i < (n + 1) * z.size := by rw [gv]; omega
   simp[h,d]
  ·by_cases d : i < (n + 1) * z.size
   ·have g : i - n * z.size < z.size := by rw [gv] at d; omega
    have q:i%z.size=i-n*z.size:=by
     have:i=i-n*z.size+n*z.size:=by omega
     rw[this,Nat.add_mul_mod_self_right,Nat.mod_eq_of_lt g];omega
    simp[h,d,q,g]
   ·have g : ¬ (i - n * z.size < z.size) := by rw [gv] at d; omega
    simp[h,d,g]
theorem KR(f:Nat->al):JQ f (jA 0)=#[]:=by apply jb; simp
def KS:al->Option Kd
 |.int k _=>some (.int k)
 |.string _=>some .str
 |.bool _=>some .bool
 |_=>none
def F6:List al->Option (List Kd)
 | []=>some []
 | v::d=>match KS v,F6 d with
  |some k,some ks=>some (k::ks)
  |_,_=>none
def yn(P:aj)(t:aD):Option (List Kd):=match P.underlying t with
 | some (.slice e)=>match P.info? e with
  | some i=>match i.zero with
   |some (.agg cs)=>F6 cs.toList
   |some v=>F6 [v]
   |none=>none
  |none=>none
 |_=>none
def BS(P:aj):Nat->aD->List aD
 |0,t=>[t]
 | d+1,t=>match P.underlying t with
  |some (.struct g)=>(g.toList.map fun f=>BS P d f.type).flatten
  |some (.array n e)=>(cC n (BS P d e)).flatten
  |_=>[t]
def oX:List al->List (Option (List Kd))->List AV
 | [],_=>[]
 | v::d,ks=>(match v,ks.headD none with
  |.slice none 0 0,some k=>.listF k []
  |v,_=>.lit v)::oX d ks.tail
def UZ:AV->Option Kd
 |.listF k _=>some (.list k)
 |.lit v=>KS v
 |_=>none
def KT:List AV->Option (List Kd)
 | []=>some []
 | v::d=>match UZ v,KT d with
  |some k,some ks=>some (k::ks)
  |_,_=>none
def U0(P:aj)(t:aD):Option (List Kd):=match yn P t with
 |some ks=>some ks
 | none=>match P.underlying t with
  | some (.slice e)=>match P.info? e with
   | some i=>match i.zero with
    |some (.agg cs)=>KT (oX cs.toList ((BS P 4 e).map (yn P)))
    |_=>none
   |none=>none
  |_=>none
def BT(P:aj)(e:aD)(z:List al):List AV:=oX z ((BS P 4 e).map (U0 P))
theorem KU:∀(z:List al) (ks:List (Option (List Kd))),(oX z ks).length=z.length
 | [],_=>rfl
 |_::z,ks=>by simp[oX,KU z]
theorem KV{E:af}:∀(z:List al) (ks:List (Option (List Kd))),aw E (oX z ks) z
 | [],_=>by simp[oX,aw]
 | v::z,ks=>by
  simp only[oX,aw];refine⟨?_,KV z _⟩;split
  ·simp only [ad, fk, G.rZ]
   exact⟨none,0,rfl,aQ _,.inl (by first|rfl|trivial)⟩
  ·simp[ad]
theorem KW:∀(z:List al) (ks:List (Option (List Kd))),AV.bK (oX z ks)=true
 | [],_=>rfl
 | v::z,ks=>by
  simp only[oX,AV.bK,KW z,gW];split<;>rfl
theorem KX{E:af}{as:List AV}{z:List al}(h:aw E as z):∀ n:Nat,aw E (cC n as).flatten (cC n z).flatten
 |0=>by simp[aw]
 | n+1=>by
  simp only[TR,pI];exact oR h (KX h n)
def yo(P:aj)(t:aD)(l c:AV)(H:List ai):Option (AV × List ai) :=
 match cZ P t,l,c with
 | .slice e sz d,.lit (.int _ l),.lit (.int _ c) =>
  match fC P e with
  | some z=>if z.length=sz/\0<sz/\0<=l/\l<=c/\c<=1048576/\d<=1048576 then
    some (.vQ sz H.length 0 0 l.toNat,H++[.vQ sz 0 (cC l.toNat (BT P e z))]) else none
  |none=>none
 |_,_,_=>none
theorem wrap_small{n:Int}(h0:0<=n)(h1:n<=1048576):IntKind.i64.wrap n=n:=by
 simp[IntKind.wrap,IntKind.bits,IntKind.signed];omega
theorem yp{E:af}(z:List al):∀ n:Nat,aw E (cC n (z.map AV.lit)).flatten (cC n z).flatten
 |0=>by simp[aw]
 | n+1=>by
  simp only[TR,pI];exact oR (qN z) (yp z n)
theorem yq{α:Type}{z:List α}{n:Nat}{x:α}(h:x∈(cC n z).flatten):x∈z:=by
 obtain⟨l,h1,d⟩:=List.mem_flatten.1 h;rw[TS h1]at d;exact d
theorem F7:∀(z:List al),AV.bK (z.map .lit)=true
 | []=>rfl
 |v::z=>by simp[AV.bK,AV.closed,F7 z]
theorem U1{P:aj}{E:af}(HE:aI E){t:aD}{l c v:AV}{cl W:al}{H':List ai}(h:yo P t l c E.H=some (v,H'))
  (hl:ad E l cl) (hc:ad E c W):∃ u w',(ake t cl W).run P E.w=.ok u w'/\dh E v H' u w':=by
 unfold yo at h;split at h
 case h_2=>cases h
 rename_i e sz by_ k1 l k2 c hk;simp only[ad]at hl hc;subst hl; subst hc;obtain⟨hu,i,hi,hs,hby⟩:=je hk;split at h
 case h_2=>cases h
 rename_i z hz;split at h
 case isFalse=>cases h
 rename_i hcond;obtain⟨q,g2,g3,g4,g5,g6⟩:=hcond;cases h;obtain⟨i',g,O,hz1,U,hz3⟩:=oT hz;rw[hi]at O;cases O;have wl:IntKind.i64.wrap l=l:=wrap_small g3 (by omega);have wc:IntKind.i64.wrap c=c:=wrap_small (by omega) g5;have hbc:(i.bytes:Int)*c<=1048576*1048576:=by
  have h1:(i.bytes:Int)<=1048576:=by omega
  have y:(0:Int)<=c:=by omega
  exact Int.mul_le_mul h1 g5 y (by omega)
 have hne:¬ (281474976710656<(i.bytes:Int)*c):=by omega
 have hzs:g.cells.size=sz:=by rw[<-q,<-U]; simp
 have N:(cC l.toNat z).flatten++(cC (c.toNat-l.toNat) z).flatten=(cC c.toNat z).flatten:=by
  rw[<-Bg,List.replicate_append_replicate];congr 2;omega
 obtain⟨k,I⟩:∃ k,k=(cC l.toNat z).flatten:=⟨_,rfl⟩
 obtain⟨d,V⟩:∃ d,d=(cC (c.toNat-l.toNat) z).flatten:=⟨_,rfl⟩
 have hrest:d.length=(c.toNat-l.toNat)*sz:=by rw[V]; simp[q]
 rw[<-I,<-V]at N;refine⟨.slice (some ⟨E.w.heap.size,0,none⟩) l.toNat c.toNat,{ E.w with heap:=E.w.heap.push (.cells (k++d).toArray e) },?_,?_⟩
 ·have h1 : ¬ c < 0 := by omega
  have y:¬ l<0:=by omega
  have h3:¬ c<l:=by omega
  simp only[ake,cf,Sem.bE hu,b_,asInt,asIntOf,fp,typeInfo,run_program,hi,wl,wc];rw[iN (by simp[h1,y,h3,hne])];simp only[cf,run_askRoom,b_,Sem.run_sizeOf hi];rw[N];by_cases h0:c.toNat*i.size=0
  ·have:c.toNat=0:=by
    rcases TT.1 h0 with h|h
    ·exact h
    ·omega
   rw[iP h0];simp only[cf,fp,b_,newRow,this,qD,KR];simp
  ·rw [iN h0]
   simp only[cf,oU hi hz1,b_,fp,newRow];have:(JQ (fun x=>g.cells[x%g.cells.size]!) (jA (c.toNat*i.size)))=(cC c.toNat z).flatten.toArray:=by
    apply jb;rw[hs,<-hzs,range_zero g.cells c.toNat (by omega),U]
   rw[this];simp
 ·refine KQ HE (C := c.toNat) (by rw [I]; exact KX (KV z _) _) (by intro x hx; rw [I] at hx; exact hz3 x (yq hx)) ?_ ?_ (by simp) (by omega) hrest
  ·intro r M
   have:=TS M;rw[this];rw[BT,KU]; exact q
  ·intro r M
   have:=TS M;rw[this];exact KW z _
def vc(P:aj)(t:aD)(n:Nat)(parts:List (Nat × AV)):Option AV :=
 match cZ P t with
 | .slice e sz _=>match fC P e with
  | some z=>if z.length=sz/\0<sz/\n*sz<=1048576 then
    match sY (fun i=>some (i*sz,sz)) (cC n (z.map AV.lit)).flatten parts with
    |some out=>if AV.bK out=true/\out.length=n*sz then some (match n with|0=>.nils|_=>.list sz (chunk sz n out)) else none
    |none=>none
   else none
  |none=>none
 |_=>none
theorem U2{P:aj}{E:af}(HE:aI E){t:aD}{n:Nat}{parts:List (Nat × AV)}{cparts:List (Nat × al)}{v:AV}(h:vc P t n parts=some v)
  (hm:parts.map (·.1)=cparts.map (·.1)) (hv:aw E (parts.map (·.2)) (cparts.map (·.2))) :
  ∃ u w',(JS t n cparts.toArray).run P E.w=.ok u w'/\Ext E.w w'/\ad { E with w:=w' } v u:=by
 unfold vc at h;split at h
 case h_2=>cases h
 rename_i e sz by_ hk;obtain⟨hu,i,hi,k,_⟩:=je hk;split at h
 case h_2=>cases h
 rename_i z hz;obtain⟨i',q,N,hz1,O,hz3⟩:=oT hz;rw[hi]at N;cases N;split at h
 case isFalse=>cases h
 rename_i hc;obtain⟨g1,g2,g3⟩:=hc;split at h
 case h_2=>cases h
 rename_i out W;split at h
 case isFalse=>cases h
 rename_i U;cases h;have hzs:q.cells.size=sz:=by rw[<-g1,<-O]; simp
 obtain⟨d,g⟩:∃ d:Array al,d.toList=(cC n z).flatten:=⟨((cC n z).flatten).toArray,by simp⟩
 obtain⟨o,y,f2,f3⟩:=yh (E:=E) (cs:=d) W (by rw[g]; exact yp z n) (by rw[g]; intro x I; exact hz3 x (yq I)) hm hv;have M:=Ext.push E.w (.cells o e);have hblk:(E.w.heap.push (.cells o e))[E.w.heap.size]? = some (.cells o e (0,0)):=by simp
 refine⟨.slice (some ⟨E.w.heap.size,0,none⟩) n n,{ E.w with heap:=E.w.heap.push (.cells o e) },?_,M,?_⟩
 ·have hno : ¬ (n * i.size > 2 ^ 24) := by rw [k]; omega
  simp only[JS,cf,Sem.bE hu,b_,Sem.run_sizeOf hi];rw[iN hno];by_cases h0:n*i.size=0
  ·have V:n=0:=by
    rcases TT.1 h0 with h|h
    ·exact h
    ·omega
   have:d=#[]:=by apply jb; rw[g,V]; rfl
   rw[iP h0];rw[this]at y;simp only[cf,fp,b_,V,qD,KR,k,y];simp[newRow]
  ·rw [iN h0]
   simp only[cf,oU hi hz1,b_,fp];have:(JQ (fun x=>q.cells[x%q.cells.size]!) (jA (n*i.size)))=d:=by
    apply jb;rw[k,<-hzs,range_zero q.cells n (by omega),O,g]
   rw[this,k,y];simp[newRow]
 ·have hle : E.le { E with w := { E.w with heap := E.w.heap.push (.cells o e) } } := af.lr M
  cases n with
  |zero=>simp only[ad]; exact⟨_,rfl⟩
  |succ n =>
  simp only[ad];refine⟨FV sz _ out U.1,some ⟨E.w.heap.size,0,none⟩,n+1,by rw[yk],by rw[yk]; exact aQ _,.inr ⟨E.w.heap.size,0,rfl,?_,?_⟩⟩
  ·refine ⟨by simp, ?_, fun I => by have := HE.X _ I; omega⟩
   rintro ho;have:=(HE.BB ho).1;omega
  ·exact KE sz _ out _ 0 U.2 (FW (cs:=o) (el:=e) (fr:=(0,0)) hblk (en hle _ f2) f3)
end Go.AL
