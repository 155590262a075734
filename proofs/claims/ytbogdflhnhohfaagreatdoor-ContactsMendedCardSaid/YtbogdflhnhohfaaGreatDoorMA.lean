/-
 What is proved here: basic facts of an abstract logic for the model's programs: abstract values,what they say of the model's values in a world,and that this survives what a call may do. No program in sight; no condition.
-/
import Derived.Calls
import Derived.Orders
import Derived.OrdersIn
import Derived.RangeFuncNested
import Derived.RangeFuncLeaves
import Derived.Laws.Sem
import Derived.Laws.Cells
import Derived.Laws.StructEq
import Derived.Laws.AppendOwn
import Derived.Laws.CopyRow
set_option linter.all false
open Array renaming getElem?_push->U6,length_toList->iF,toList_map->Vc,ext'->jo,range->jH,map->KO
open BitVec renaming ofInt->BE
open Bool renaming and_true->gX,and_eq_true->aK,false_eq_true->lz,and_assoc->ama
open ByteArray renaming empty->BD
open Go renaming Value->ao,TypeId->aF,World->a_,Program->aj,Operand->cw
open Go.Act renaming eval->FQ
open Go.Addr.mk renaming injEq->FU
open Go.Builtin renaming lenOf->KM,firstCells->kl,append_->pU,zeroCells->BI,nextslicecap->KN
open Go.Instr renaming loadAt->ym,sureAddr->mW,fieldAt->U7,indexAt->yn,sliceBounds->uT,sliceBound->FV,sliceAt->pS,slice->qL,index->U_,field->ame,fill->amf,build->Va,storeAt->uV,alloc->BL,box->amh,makeSlice->ami,buildSlice->KQ
open Go.Op renaming bytesLess->ly,equalIn->kj,eqFields->BG,equal->BH
open Go.Program renaming fieldsOf->amb
open Go.Result renaming andThen_ok->cf
open Go.Sem renaming run_bind->cr,run_pure->ft
open Go.Value renaming cells->KK
open Go.Value.pointer renaming injEq->al_
open Go.Value.slice renaming injEq->mq
open Go.World renaming cell?->uS,setRow->amg
open List renaming length_cons->cn,append_nil->da,getElem?_append_left->di,getElem?_eq_some_iff->KE,length_map->c8,getElem?_map->bY,getElem?_eq_getElem->bZ,mem_of_getElem?->eS,getElem?_eq_none->oX,getElem?_append_right->iY,getElem?_append->gk,getElem?_set_self->bB,getElem?_set_ne->bg,getElem?_set->eC,set_eq_of_length_le->KF,all_eq_true->dN,getD_eq_getElem?_getD->cd,getElem?_drop->sT,getElem?_take->oY,take_succ_cons->FT,mem_cons->cq,map_cons->dC,map_take->KG,map_drop->KH,mem_of_mem_drop->BF,mem_of_mem_take->yo,cons_append->mr,take_one->U8,eq_nil_of_length_eq_zero->uU,drop_drop->sU,take_append_drop->yq,ext_getElem?->jG,length_take->mX,length_append->fu,mem_append->db,mapM_cons->U',flatten_cons->pT,getElem?_of_mem->yr,size_toArray->BJ,length_drop->pV,flatten_append->BK,replicate->cB,replicate_succ->Vd,eq_of_mem_replicate->Ve
open List.cons renaming injEq->KL
open Nat renaming add_assoc->sS,add_comm->yk,add_mul->gx,le_refl->aM,le_add_right->gY,le_trans->kR,lt_of_lt_of_le->eU,zero_le->eV,ne_of_lt->al9,lt_or_ge->mo,zero_add->cP,sub_sub->al',sub_zero->fD,zero_mul->qM,add_zero->n_,mul_le_mul_right->qN,one_mul->yt,mul_eq_zero->Vg
open Option renaming map_eq_some_iff->eL,isSome_iff_exists->FW
open Option.some renaming injEq->bf
open Prod.mk renaming injEq->bo
open Std.Legacy.Range renaming forIn_eq_forIn_range'->amc,size->amd
namespace Go.AL
section
universe u
def iN{c:Prop}{h:Decidable c}(n:¬c){α:Sort u}{t e:α}:(ite c t e)=e:=if_neg n
def iP{c:Prop}{h:Decidable c}(n:c){α:Sort u}{t e:α}:(ite c t e)=t:=if_pos n
def dT{p:Prop}[Decidable p]:(decide p=true)=p:=decide_eq_true_eq
def dF{p:Prop}{_:Decidable p}:decide p=false↔¬p:=decide_eq_false_iff_not
def dE{p:Prop}[h:Decidable p]:p->decide p=true:=decide_eq_true
def cT{α:Sort u}{a b:α}:cond true a b=a:=rfl
def cF{α:Sort u}{a b:α}:cond false a b=b:=rfl
end
inductive Kd where
 |int (k:IntKind)
 |str
 |bool
 |list (ks:List Kd)
 deriving Inhabited
inductive G where
 |i (n:Int)
 |s (b:ByteArray)
 |t (x:Bool)
 |l (rZ:List (List G))
instance:Inhabited G:=⟨.i 0⟩
def G.iV:G->Int
 |.i n=>n
 |_=>0
def G.sV:G->ByteArray
 |.s b=>b
 |_=>BD
def G.bV:G->Bool
 |.t x=>x
 |_=>false
def G.rZ:G->List (List G)
 |.l rZ=>rZ
 |_=>[]
inductive AV where
 |undef
 |lit (v:ao)
 |nils
 |list (k:Nat) (rZ:List (List AV))
 |listF (ks:List Kd) (rZ:List (List G))
 |agg (cells:List AV)
 |tuple (vs:List AV)
 |cptr (cells:List AV)
 |ptr (id al k row col:Nat)
 |vQ (k id al oF n:Nat)
 |map (id:Nat)
 |clo (f:FuncId) (caps:List AV)
 |ifc
 |emptyS (isNil:Bool)
 |sub (id l:Nat) (j:Option Nat)
 |svec (id l j n:Nat)
 |sptr (id l j k row col:Nat)
 deriving Inhabited
def kU:Kd->G->AV
 |.int k,g=>.lit (.int k g.iV)
 |.str,g=>.lit (.string g.sV)
 |.bool,g=>.lit (.bool g.bV)
 |.list ks,g=>.listF ks g.rZ
def aX:List Kd->List G->List AV
 | [],_=>[]
 |k::ks,g=>kU k (g.headD default)::aX ks g.tail
def tb:∀(ks:List Kd) (g:List G),(aX ks g).length=ks.length
 | [],_=>rfl
 |_::ks,g=>by simp[aX,tb ks]
inductive ai where
 |dead
 |box (cells:List AV)
 |vQ (k al:Nat) (rZ:List (List AV))
 |map (es:List (AV × AV × Nat)) (clock:Nat)
 |iter (s:ByteArray) (pos:Nat)
 |gy (l:Nat) (T B:aF) (s:ByteArray)
 |a7 (l k:Nat) (es:List (AV × Option (List (List AV)) × Nat)) (clock:Nat)
 |mm (l:Nat) (es:List (AV × Option Nat × Nat)) (ms:List (List (AV × AV × Nat) × Nat)) (clock:Nat)
 |eD
 |cM (l k n:Nat) (ms:List (List (List AV)))
 |bJ (l k:Nat) (es:List (AV × (Option (List (List AV)) × Option (List (List AV))) × Nat)) (clock:Nat)
 deriving Inhabited
def ai.born:ai->Bool
 |.eD=>false
 |_=>true
def ai.label:ai->Option Nat
 |.gy l _ _ _=>some l
 |.a7 l _ _ _=>some l
 |.mm l _ _ _=>some l
 |.cM l _ _ _=>some l
 |.bJ l _ _ _=>some l
 |_=>none
def ai.dW:ai->Option Nat
 |.mm l _ _ _=>some l
 |.cM l _ _ _=>some l
 |_=>none
def ai.og{o:ai}{l:Nat}(h:o.dW=some l):o.label=some l:=by
 cases o<;>first|exact h|cases h
def ai.F8{o:ai}{l:Nat}(h:o.dW=some l):o.born=true:=by
 cases o<;>first|rfl|cases h
def ai.B2{o:ai}{l:Nat}(h:o.label=some l):o.born=true:=by
 cases o<;>first|rfl|cases h
def ai.B3{o:ai}(h:o.label=none):o.dW=none:=by
 cases o<;>first|rfl|cases h
def ai.aV : ai->Option Nat
 |.dead=>none
 |.box _=>some 0
 |.vQ _ v _=>some v
 |.map _ _=>some 0
 |.iter _ _=>some 0
 |.gy ..=>some 0
 |.a7 ..=>some 0
 |.mm ..=>some 0
 |.cM ..=>some 0
 |.bJ ..=>some 0
 |.eD=>none
def ai.F9{o:ai}{v:Nat}(h:o.aV = some v):o.born=true:=by
 cases o<;>first|rfl|cases h
structure XS where
 x:Nat->Prop
 z:Nat->Prop
 r:Nat->List (Option (Option (Nat × Nat)))
instance:CoeFun XS fun _=>Nat->Prop:=⟨XS.x⟩
def XS.or(X:XS)(p:Nat->Prop):XS:=⟨fun b=>X b\/p b,X.z,X.r⟩
def XS.re(X:XS) (r:Nat->List (Option (Option (Nat × Nat)))):XS:=⟨X.x,X.z,r⟩
@[simp] theorem XS.F_ (X:XS):X.re X.r=X:=rfl
@[simp] theorem XS.amV (X:XS) (r):(X.re r).x=X.x:=rfl
@[simp] theorem XS.amW (X:XS) (r):(X.re r).z=X.z:=rfl
@[simp] theorem XS.amX (X:XS) (r):(X.re r).r=r:=rfl
@[simp] theorem XS.amY (X:XS) (r d):(X.re r).re d=X.re d:=rfl
def XS.Lh{X d:XS}(h:d.x=X.x/\d.z=X.z)(r):d.re r=X.re r:=by
 unfold XS.re;rw[h.1,h.2]
def fh:Nat->List (Option (Option (Nat × Nat))):=fun _=>[]
def yA:List (Nat × Array ao):=[]
class Dr where
 d:Bool
abbrev yB:Dr:=⟨true⟩
variable [Dr]
def VH:Bool:=Dr.d
structure af where
 w:a_
 H:List ai
 ae:List (Option (Nat × Nat))
 X:XS
def af.sat(E:af)(b:Nat):Prop:=∃(l h m:Nat),(E.X.r l)[h]? = some (some (some (b,m)))
def af.ab(E:af)(b:Nat):Prop:=(∃(id:Nat) (c:Nat),E.ae[id]? = some (some (b,c)))\/E.sat b
def af.kV(E:af)(b:Nat):Prop:=b<E.w.heap.size/\¬ E.ab b/\¬ E.X b
def af.live(E:af)(id al:Nat):Prop:=∃ o,E.H[id]? = some o/\o.aV = some al
def af.bx(E:af)(id al:Nat):Prop:=∃ o,E.H[id]? = some o/\o.born=true/\∀ v,o.aV = some v->al<=v
def dU (r:List (Option (Option (Nat × Nat)))):List Nat:=r.filterMap fun x=>match x with
 |some (some (b,_))=>some b
 |_=>none
def yC (r t:List (Option (Option (Nat × Nat)))):dU (r++t)=dU r++dU t:=List.filterMap_append
def af.u_(E:af)(id l j:Nat)(p:Nat->Prop):Prop:=(∃ o,E.H[id]? = some o/\o.dW=some l)/\∃ b,(dU (E.X.r l))[j]? = some b/\p b
def af.Li(E:af)(id l i:Nat)(c:ao):Prop:=(∃ o,E.H[id]? = some o/\o.dW=some l)/\∃ b,(dU (E.X.r l))[i]? = some b/\c=.map (some b)
def dZ:ao->Bool
 |.agg _ | .tuple _=>false
 |_=>true
mutual
def AV.closed:AV->Bool
 |.undef | .lit _ | .nils | .list _ _ | .listF _ _ | .cptr _ | .ifc | .emptyS _=>true
 |.agg cs | .tuple cs | .clo _ cs=>AV.bM cs
 |.ptr .. | .vQ .. | .map _ | .sub .. | .svec .. | .sptr ..=>false
def AV.bM:List AV->Bool
 | []=>true
 |a::as=>a.closed&&AV.bM as
end
def gJ:∀(ks:List Kd) (g:List G),AV.bM (aX ks g)=true
 | [],_=>rfl
 | k::ks,g=>by
  simp only[aX,AV.bM,gJ ks,gX];cases k<;>rfl
mutual
def fp(E:af):Kd->G->ao->Prop
 |.int k,g,c=>c=.int k g.iV
 |.str,g,c=>c=.string g.sV
 |.bool,g,c=>c=.bool g.bV
 | .list ks,g,c=>∃ aN cap,c=.slice aN g.rZ.length cap/\g.rZ.length<=cap /\
   (g.rZ=[]\/∃ b o,aN=some ⟨b,o,none⟩/\E.kV b/\∀(i:Nat) (r:List G),g.rZ[i]? = some r->oh E ks r b (o+i*ks.length))
def oh(E:af):List Kd->List G->Nat->Nat->Prop
 | [],_,_,_=>True
 |k::ks,g,b,o=>(∃ v,E.w.cell? ⟨b,o,none⟩=some v/\dZ v=true/\fp E k (g.headD default) v)/\oh E ks g.tail b (o+1)
end
def fv(rZ:List (List AV)):Prop:=∀ r∈rZ,AV.bM r=true
mutual
def ad(E:af):AV->ao->Prop
 |.undef,_=>True
 |.lit v,c=>c=v
 |.nils,c=>∃ aN,c=.slice aN 0 0
 | .list k rZ,c=>fv rZ/\∃ aN cap,c=.slice aN rZ.length cap/\rZ.length<=cap /\
   (rZ=[]\/∃ b o,aN=some ⟨b,o,none⟩/\E.kV b/\cY E k rZ b o)
 |.listF ks rZ,c=>fp E (.list ks) (.l rZ) c
 |.agg cells,c=>∃ cs:Array ao,c=.agg cs/\(∀ x∈cs.toList,dZ x=true)/\ax E cells cs.toList
 |.tuple g,c=>∃ cs:Array ao,c=.tuple cs/\ax E g cs.toList
 |.cptr cells,c=>AV.bM cells=true/\∃ b o,c=.pointer (some ⟨b,o,none⟩)/\E.kV b/\cV E cells b o
 | .ptr id al k row d,c=>(∃ b o,c=.pointer (some ⟨b,o,none⟩))/\E.bx id al/\(E.live id al->∃ b n,E.ae[id]? = some (some (b,n)) /\
   c=.pointer (some ⟨b,row*k+d,none⟩))
 | .vQ k id al oF n,c=>(∃ aN cap,c=.slice aN n cap/\n<=cap/\(0<n->∃ b o,aN=some ⟨b,o,none⟩))/\E.bx id al/\(E.live id al ->
   (E.ae[id]? = some none->n=0/\oF=0/\∃ aN,c=.slice aN 0 0) /\
   (∀ b m,E.ae[id]? = some (some (b,m))->oF+n<=m/\∃ o,(oF<m->o=oF*k)/\c=.slice (some ⟨b,o,none⟩) n (m-oF)))
 |.map id,c=>(∃ b,c=.map (some b))/\E.bx id 0/\(E.live id 0->∃ b n,E.ae[id]? = some (some (b,n))/\c=.map (some b))
 |.clo f caps,c=>∃ cs:Array ao,c=.func (.func f) #[] cs/\ax E caps cs.toList
 |.ifc,c=>∃ t v,c=.iface t v
 |.emptyS n,c=>∃ aN cap,c=.slice aN 0 cap/\aN.isNone=n
 |.sub id l j,c=>(j=none/\c=.map none)\/∃ i,j=some i/\(∃ b,c=.map (some b))/\E.bx id 0/\(E.live id 0->E.Li id l i c)
 |.svec id l j n,c=>(∃ aN cap,c=.slice aN n cap/\n<=cap/\(0<n->∃ b o,aN=some ⟨b,o,none⟩))/\E.bx id 0/\(E.live id 0->E.u_ id l j fun b=>∃ m,n<=m/\c=.slice (some ⟨b,0,none⟩) n m)
 |.sptr id l j k row d,c=>(∃ b o,c=.pointer (some ⟨b,o,none⟩))/\E.bx id 0/\(E.live id 0->E.u_ id l j fun b=>c=.pointer (some ⟨b,row*k+d,none⟩))
def ax(E:af):List AV->List ao->Prop
 | [],[]=>True
 |a::as,v::d=>ad E a v/\ax E as d
 |_,_=>False
def cV(E:af):List AV->Nat->Nat->Prop
 | [],_,_=>True
 |a::as,b,o=>(∃ v,E.w.cell? ⟨b,o,none⟩=some v/\dZ v=true/\ad E a v)/\cV E as b (o+1)
def cY(E:af)(k:Nat):List (List AV)->Nat->Nat->Prop
 | [],_,_=>True
 |r::rs,b,o=>r.length=k/\cV E r b o/\cY E k rs b (o+k)
end
def jZ{E:af}:∀{as:List AV} {d:List ao},ax E as d->as.length=d.length
 | [],[],_=>rfl
 |_::_,_::_,h=>by simp only[ax]at h; simp[jZ h.2]
 | [],_::_,h=>by simp[ax]at h
 |_::_,[],h=>by simp[ax]at h
def pZ{E:af}:∀{as:List AV} {h:List ao},
  ax E as h↔as.length=h.length/\∀(i:Nat) a v,as[i]? = some a->h[i]? = some v->ad E a v
 | [],[]=>by simp[ax]
 | [],_::_=>by simp[ax]
 |_::_,[]=>by simp[ax]
 | a::as,v::h=>by
  simp only[ax,pZ (as:=as),cn];constructor
  ·rintro ⟨h1, k, q⟩
   refine⟨by omega,fun i x y d g=>?_⟩;cases i with
   |zero=>simp at d g; subst d; subst g; exact h1
   |succ i=>exact q i x y (by simpa using d) (by simpa using g)
  ·rintro ⟨h1, k⟩
   exact⟨k 0 a v rfl rfl,by omega,fun i x y d g=>k (i+1) x y (by simpa using d) (by simpa using g)⟩
def kn{E:af}:∀{as:List AV} {b o:Nat},
  cV E as b o↔∀(i:Nat) a,as[i]? = some a->∃ v,E.w.cell? ⟨b,o+i,none⟩=some v/\dZ v=true/\ad E a v
 | [],b,o=>by simp[cV]
 | a::as,b,o=>by
  simp only[cV,kn (as:=as)];constructor
  ·rintro ⟨h1, g⟩ i x d
   cases i with
   |zero=>simp at d; subst d; exact h1
   |succ i=>have:=g i x (by simpa using d); rwa [sS,yk 1 i]at this
  ·intro h
   refine⟨h 0 a rfl,fun i x d=>?_⟩;have:=h (i+1) x (by simpa using d)
   rwa [sS,yk 1 i]
def om{E:af}{k:Nat}:∀{rs:List (List AV)} {b o:Nat},
  cY E k rs b o↔∀(i:Nat) r,rs[i]? = some r->r.length=k/\cV E r b (o+i*k)
 | [],b,o=>by simp[cY]
 | r::rs,b,o=>by
  simp only[cY,om (rs:=rs)];constructor
  ·rintro ⟨h0, h1, g⟩ i x d
   cases i with
   |zero=>simp at d; subst d; simpa using⟨h0,h1⟩
   | succ i =>
    have:=g i x (by simpa using d)
    rwa [sS,show k+i*k=(i+1)*k from by rw[gx]; omega]at this
  ·intro h
   have h0:=h 0 r rfl;refine⟨h0.1,by simpa using h0.2,fun i x d=>?_⟩;have:=h (i+1) x (by simpa using d)
   rwa [sS,show k+i*k=(i+1)*k from by rw[gx]; omega]
def fw(w w':a_):Prop:=w'.os=w.os/\w'.output=w.output/\w'.tape=w.tape/\(VH=true->w.drawn<=w'.drawn)
def fw.refl(w:a_):fw w w:=⟨rfl,rfl,rfl,by first|exact fun _=>aM _|exact fun _=>gY _ _⟩
def fw.trans{w w' d:a_}(h:fw w w')(h':fw w' d):fw w d:=⟨h'.1.trans h.1,h'.2.1.trans h.2.1,h'.2.2.1.trans h.2.2.1,fun t=>kR (h.2.2.2 t) (h'.2.2.2 t)⟩
structure af.le (E E':af):Prop where
 bx:∀ id al,E.bx id al->E'.bx id al
 size:E.w.heap.size<=E'.w.heap.size
 same:∀ b,b<E.w.heap.size->¬ E.ab b->E'.w.heap[b]? = E.w.heap[b]?
 ab:∀ b,b<E.w.heap.size->¬ E.ab b->¬ E'.ab b
 live:∀ id al,E.bx id al->E'.live id al->E.live id al/\E'.ae[id]? = E.ae[id]?
 X:E'.X.x=E.X.x/\E'.X.z=E.X.z
 rl:∀ l h,h<(E.X.r l).length->h<(E'.X.r l).length/\∀ q,(E'.X.r l)[h]? = some (some q)->(E.X.r l)[h]? = some (some q)
 env:fw E.w E'.w
 grow:∀ id l o,E.H[id]? = some o->o.dW=some l->E'.live id 0->(∃ t,E'.X.r l=E.X.r l++t)/\∃ o',E'.H[id]? = some o'/\o'.dW=some l
def af.le.refl(E:af):E.le E:=⟨fun _ _ h=>h,aM _,fun _ _ _=>rfl,fun _ _ h=>h,fun _ _ _ h=>⟨h,rfl⟩,⟨rfl,rfl⟩,fun _ _ h=>⟨h,fun _ d=>d⟩,⟨rfl,rfl,rfl,by first|exact fun _=>aM _|exact fun _=>gY _ _⟩,fun _ _ o h1 g _=>⟨⟨[],(da _).symm⟩,o,h1,g⟩⟩
def af.le.ok{E E':af}(h:E.le E')(b:Nat)(hb:E.kV b):E'.kV b :=
 ⟨eU hb.1 h.size,h.ab b hb.1 hb.2.1,by rw[show E'.X.x=E.X.x from h.X.1]; exact hb.2.2⟩
def af.le.trans{E E' N:af}(h:E.le E')(h':E'.le N):E.le N where
 bx:=fun id al d=>h'.bx id al (h.bx id al d)
 size:=kR h.size h'.size
 same:=fun b hb ho=>by rw[h'.same b (eU hb h.size) (h.ab b hb ho),h.same b hb ho]
 ab:=fun b hb ho=>h'.ab b (eU hb h.size) (h.ab b hb ho)
 live:=fun id al O hl=>by
  obtain⟨g,k⟩:=h'.live id al (h.bx id al O) hl;obtain⟨y,I⟩:=h.live id al O g;exact⟨y,by rw[k,I]⟩
 X:=⟨by rw[h'.X.1,h.X.1],by rw[h'.X.2,h.X.2]⟩
 rl:=fun l i hi=>by
  obtain⟨g,k⟩:=h.rl l i hi;obtain⟨y,I⟩:=h'.rl l i g;exact⟨y,fun q hq=>k q (I q hq)⟩
 env:=h.env.trans h'.env
 grow:=fun id l o h1 U M=>by
  have d:E.bx id 0:=⟨o,h1,ai.F8 U,fun v M=>eV _⟩
  obtain⟨V,_⟩:=h'.live id 0 (h.bx id 0 d) M;obtain⟨⟨t,ht⟩,o',g1,g2⟩:=h.grow id l o h1 U V;obtain⟨⟨t',W⟩,o'',g3,g4⟩:=h'.grow id l o' g1 g2 M;exact⟨⟨t++t',by rw[W,ht,List.append_assoc]⟩,o'',g3,g4⟩
def World.vc{w w':a_}{b o:Nat}(h:w'.heap[b]? = w.heap[b]?):w'.cell? ⟨b,o,none⟩=w.cell? ⟨b,o,none⟩:=by
 simp[uS,h]
structure af.bU (E E':af):Prop where
 ok:∀ b,E.kV b->E'.kV b/\E'.w.heap[b]? = E.w.heap[b]?
def af.le.toC{E E':af}(h:E.le E'):E.bU E':=⟨fun b hb=>⟨h.ok b hb,h.same b hb.1 hb.2.1⟩⟩
mutual
def Lj{E E':af}(h:E.bU E'):∀(k:Kd) {g:G} {c:ao},fp E k g c->fp E' k g c
 |.int k,g,c,d=>by simpa only[fp]using d
 |.str,g,c,d=>by simpa only[fp]using d
 |.bool,g,c,d=>by simpa only[fp]using d
 | .list ks,g,c,d=>by
  simp only[fp]at d|-;obtain⟨aN,cap,M,I,y⟩:=d;refine⟨aN,cap,M,I,?_⟩;rcases y with hn|⟨b,o,hb,q,v⟩
  ·exact .inl hn
  ·exact .inr ⟨b,o,hb,(h.ok b q).1,fun i r hi=>Lk h ks (h.ok b q).2 (v i r hi)⟩
def Lk{E E':af}(h:E.bU E'):∀(ks:List Kd) {g:List G} {b o:Nat},E'.w.heap[b]? = E.w.heap[b]? -> oh E ks g b o->oh E' ks g b o
 | [],_,_,_,_,_=>by simp[oh]
 | k::ks,g,b,o,hb,d=>by
  simp only[oh]at d|-;obtain⟨⟨v,h1,q,y⟩,I⟩:=d;exact⟨⟨v,by rw[World.vc hb]; exact h1,q,Lj h k y⟩,Lk h ks hb I⟩
end
mutual
def fE{E E':af}(h:E.bU E'):∀(a:AV) {c:ao},a.closed=true->ad E a c->ad E' a c
 |.undef,_,_,_=>by simp[ad]
 |.lit v,c,_,d=>by simpa only[ad]using d
 |.nils,c,_,d=>by simpa only[ad]using d
 | .list k rZ,c,_,d=>by
  simp only[ad]at d|-;obtain⟨y,aN,cap,g,O,N⟩:=d;refine⟨y,aN,cap,g,O,?_⟩;rcases N with rfl|⟨b,o,hb,I,M⟩
  ·exact .inl rfl
  ·exact .inr ⟨b,o,hb,(h.ok b I).1,kX h rZ y (h.ok b I).2 M⟩
 | .listF ks rZ,c,_,d=>by
  simp only[ad]at d|-;exact Lj h _ d
 | .agg cells,c,g,d=>by
  simp only[ad]at d|-;obtain⟨cs,e,h1,q⟩:=d;exact⟨cs,e,h1,qT h cells (by simpa only[AV.closed]using g) q⟩
 | .tuple cells,c,g,d=>by
  simp only[ad]at d|-;obtain⟨cs,e,q⟩:=d;exact⟨cs,e,qT h cells (by simpa only[AV.closed]using g) q⟩
 | .cptr cells,c,g,d=>by
  simp only[ad]at d|-;obtain⟨y,b,o,e,I,q⟩:=d;exact⟨y,b,o,e,(h.ok b I).1,vd h cells y (h.ok b I).2 q⟩
 |.ptr ..,_,g,_=>by simp[AV.closed]at g
 |.vQ ..,_,g,_=>by simp[AV.closed]at g
 |.map _,_,g,_=>by simp[AV.closed]at g
 |.sub ..,_,g,_=>by simp[AV.closed]at g
 |.svec ..,_,g,_=>by simp[AV.closed]at g
 |.sptr ..,_,g,_=>by simp[AV.closed]at g
 | .clo f caps,c,g,d=>by
  simp only[ad]at d|-;obtain⟨cs,e,q⟩:=d;exact⟨cs,e,qT h caps (by simpa only[AV.closed]using g) q⟩
 |.ifc,c,_,d=>by simpa only[ad]using d
 |.emptyS n,c,_,d=>by simpa only[ad]using d
def qT{E E':af}(h:E.bU E'):∀(as:List AV) {g:List ao},AV.bM as=true->ax E as g->ax E' as g
 | [],[],_,_=>by simp[ax]
 | [],_::_,_,d=>by simp[ax]at d
 |_::_,[],_,d=>by simp[ax]at d
 | a::as,v::g,k,d=>by
  simp only[AV.bM,aK]at k;simp only[ax]at d|-;exact⟨fE h a k.1 d.1,qT h as k.2 d.2⟩
def vd{E E':af}(h:E.bU E'):∀(as:List AV) {b o:Nat},AV.bM as=true->E'.w.heap[b]? = E.w.heap[b]? -> cV E as b o->cV E' as b o
 | [],_,_,_,_,_=>by simp[cV]
 | a::as,b,o,d,hb,g=>by
  simp only[AV.bM,aK]at d;simp only[cV]at g|-;obtain⟨⟨v,h1,k,q⟩,y⟩:=g;exact⟨⟨v,by rw[World.vc hb]; exact h1,k,fE h a d.1 q⟩,vd h as d.2 hb y⟩
def kX{E E':af}(h:E.bU E'){k:Nat}:∀(rs:List (List AV)) {b o:Nat},fv rs->E'.w.heap[b]? = E.w.heap[b]? -> cY E k rs b o->cY E' k rs b o
 | [],_,_,_,_,_=>by simp[cY]
 | r::rs,b,o,g,hb,d=>by
  simp only[cY]at d|-;exact⟨d.1,vd h r (g r (by simp)) hb d.2.1,kX h rs (fun x q=>g x (by simp[q])) hb d.2.2⟩
end
def af.Ll{E E':af}(h:E.le E'){id l j:Nat}{p:Nat->Prop}(k:E.bx id 0)(q:E.live id 0->E.u_ id l j p)(d:E'.live id 0):E'.u_ id l j p:=by
 obtain⟨v,_⟩:=h.live id 0 k d;obtain⟨⟨o,y,I⟩,b,g,M⟩:=q v;obtain⟨⟨t,N⟩,ho⟩:=h.grow id l o y I d;refine⟨ho,b,?_,M⟩;rw[N,yC,di (KE.1 g).1];exact g
mutual
def bD{E E':af}(h:E.le E'):∀(a:AV) {c:ao},ad E a c->ad E' a c
 |.undef,_,_=>by simp[ad]
 |.lit v,c,d=>by simpa only[ad]using d
 |.nils,c,d=>by simpa only[ad]using d
 |.list k rZ,c,d=>fE h.toC _ (by simp[AV.closed]) d
 |.listF ks rZ,c,d=>fE h.toC _ (by simp[AV.closed]) d
 | .agg cells,c,d=>by
  simp only[ad]at d|-;obtain⟨cs,e,h1,g⟩:=d;exact⟨cs,e,h1,eh h cells g⟩
 | .tuple cells,c,d=>by
  simp only[ad]at d|-;obtain⟨cs,e,g⟩:=d;exact⟨cs,e,eh h cells g⟩
 |.cptr cells,c,d=>fE h.toC _ (by simp[AV.closed]) d
 | .ptr id al k row M,c,d=>by
  simp only[ad]at d|-;refine⟨d.1,h.bx _ _ d.2.1,fun q=>?_⟩;obtain⟨h1,g⟩:=h.live id al d.2.1 q;rw[g];exact d.2.2 h1
 | .vQ k id al oF n,c,d=>by
  simp only[ad]at d|-;refine⟨d.1,h.bx _ _ d.2.1,fun q=>?_⟩;obtain⟨h1,g⟩:=h.live id al d.2.1 q;rw[g];exact d.2.2 h1
 | .map id,c,d=>by
  simp only[ad]at d|-;refine⟨d.1,h.bx _ _ d.2.1,fun q=>?_⟩;obtain⟨h1,g⟩:=h.live id 0 d.2.1 q;rw[g];exact d.2.2 h1
 | .clo f caps,c,d=>by
  simp only[ad]at d|-;obtain⟨cs,e,g⟩:=d;exact⟨cs,e,eh h caps g⟩
 |.ifc,c,d=>by simpa only[ad]using d
 |.emptyS n,c,d=>by simpa only[ad]using d
 | .sub id l j,c,d=>by
  simp only[ad]at d|-;rcases d with d|⟨i,h1,g,y,N⟩
  ·exact .inl d
  ·refine .inr ⟨i, h1, g, h.bx _ _ y, fun q => ?_⟩
   obtain⟨O,_⟩:=h.live id 0 y q;obtain⟨⟨o,U,V⟩,b,I,W⟩:=N O;obtain⟨⟨t,ht⟩,ho⟩:=h.grow id l o U V q;refine⟨ho,b,?_,W⟩;rw[ht,yC,di (KE.1 I).1];exact I
 | .svec id l j n,c,d=>by
  simp only[ad]at d|-;exact⟨d.1,h.bx _ _ d.2.1,fun q=>af.Ll h d.2.1 d.2.2 q⟩
 | .sptr id l j k row M,c,d=>by
  simp only[ad]at d|-;exact⟨d.1,h.bx _ _ d.2.1,fun q=>af.Ll h d.2.1 d.2.2 q⟩
def eh{E E':af}(h:E.le E'):∀(as:List AV) {g:List ao},ax E as g->ax E' as g
 | [],[],_=>by simp[ax]
 | [],_::_,d=>by simp[ax]at d
 |_::_,[],d=>by simp[ax]at d
 | a::as,v::g,d=>by
  simp only[ax]at d|-;exact⟨bD h a d.1,eh h as d.2⟩
end
def VJ{E:af}(k:Kd)(g:G)(c:ao):ad E (kU k g) c↔fp E k g c:=by
 cases k with
 |int k=>simp only[kU,ad,fp]
 |str=>simp only[kU,ad,fp]
 |bool=>simp only[kU,ad,fp]
 |list ks=>simp only[kU,ad,fp,G.rZ]
def Ga{E:af}:∀(ks:List Kd) (g:List G) (b o:Nat),cV E (aX ks g) b o↔oh E ks g b o
 | [],_,_,_=>by simp[aX,cV,oh]
 |k::ks,g,b,o=>by simp only[aX,cV,oh,Ga ks,VJ]
def kq{E:af}{ks:List Kd}{rZ:List (List G)}{c:ao}:ad E (.listF ks rZ) c↔ad E (.list ks.length (rZ.map (aX ks))) c:=by
 simp only[ad,fp,G.rZ,c8,List.map_eq_nil_iff];have q:fv (rZ.map (aX ks)):=by
  intro r d;obtain⟨g,_,rfl⟩:=List.mem_map.1 d;exact gJ ks g
 have d:∀ b o,(∀(i:Nat) (r:List G),rZ[i]? = some r->oh E ks r b (o+i*ks.length))↔cY E ks.length (rZ.map (aX ks)) b o:=by
  intro b o;rw[om];constructor
  ·intro h i r hi
   simp only[bY,eL]at hi;obtain⟨g,k,rfl⟩:=hi;exact⟨tb ks g,(Ga ks g _ _).2 (h i g k)⟩
  ·intro h i g k
   exact(Ga ks g _ _).1 (h i (aX ks g) (by simp[k])).2
 simp only[d,q,true_and]
end Go.AL

namespace Go.AL
variable [Dr]
def isRow(w:a_)(b n:Nat):Prop:=∃ cs d,w.heap[b]? = some (.cells cs d (0,0))/\cs.size=n
def bL(E:af):List (AV × AV × Nat)->List MapEntry->Prop
 | [],[]=>True
 |(k,v,n)::d,e::g=>ad E k e.key/\ad E v e.val/\e.born=n/\k.closed=true/\v.closed=true/\bL E d g
 |_,_=>False
def Gb(w:a_)(B:aF)(s:ByteArray)(v:ao):Option (Nat × Nat)->Prop
 |none=>v=.slice none 0 0/\s.data.toList=[]
 | some (g,m)=>v=.slice (some ⟨g,0,none⟩) s.data.toList.length m/\∃ cs fz,w.heap[g]? = some (.cells cs B fz)/\fz.2<=s.data.toList.length/\cs.size=m/\s.data.toList.length<=m/\m<=9223372036854775807 /\
   cs.toList.take s.data.toList.length=s.data.toList.map fun b=>Value.int .u8 (b.toNat:Int)
def Gc{w w':a_}{B:aF}{s:ByteArray}{v:ao}{q:Option (Nat × Nat)}(h:∀ g m,q=some (g,m)->w'.heap[g]? = w.heap[g]?)(d:Gb w B s v q):Gb w' B s v q:=by
 cases q with
 |none=>exact d
 | some k =>
  obtain⟨g,m⟩:=k;obtain⟨h1,cs,fz,y,I⟩:=d;exact⟨h1,cs,fz,by rw[h g m rfl]; exact y,I⟩
def hZ:AV->AV × AV
 |.tuple [a,v]=>(a,v)
 |k=>(k,.undef)
def dj (d:List (AV × Option (List (List AV)) × Nat)):List (AV × AV × Nat):=d.map fun x=>((hZ x.1).1,(hZ x.1).2,x.2.2)
def Gd (d:List (AV × Option (List (List AV)) × Nat)):(dj d).length=d.length:=by simp[dj]
def B4(E:af)(l k:Nat)(rZ:List (List AV))(h:Nat)(v:ao):Prop :=
 (rZ = [] /\ ∃ aN, v = .slice aN 0 0) \/
  ∃ b m,(E.X.r l)[h]? = some (some (some (b,m)))/\v=.slice (some ⟨b,0,none⟩) rZ.length m/\isRow E.w b (m*k)/\rZ.length<=m/\fv rZ/\cY E k rZ b 0
def kY(E:af)(l k:Nat) (d:List (AV × Option (List (List AV)) × Nat)) (h:List MapEntry):Prop :=
 ∃ g:Nat->Nat,(∀(i j:Nat) x y,d[i]? = some x->d[j]? = some y->x.2.1.isSome=true->y.2.1.isSome=true->g i=g j->i=j) /\
  ∀(i:Nat) x rZ e,d[i]? = some x->x.2.1=some rZ->h[i]? = some e->B4 E l k rZ (g i) e.val
def Lm{E E':af}{l k h:Nat}{rZ:List (List AV)}{v:ao} (y:∀ b m,(E.X.r l)[h]? = some (some (some (b,m)))->(E'.X.r l)[h]? = some (some (some (b,m)))/\E'.w.heap[b]? = E.w.heap[b]?)
  (I:∀ b,E'.w.heap[b]? = E.w.heap[b]? -> fv rZ->cY E k rZ b 0->cY E' k rZ b 0) (d:B4 E l k rZ h v):B4 E' l k rZ h v:=by
 rcases d with d|⟨b,m,h1,M,⟨cs,N,O,U⟩,V,g,W⟩
 ·exact .inl d
 ·obtain ⟨g1, q⟩ := y b m h1
  exact .inr ⟨b,m,g1,M,⟨cs,N,by rw[q]; exact O,U⟩,V,g,I b q g W⟩
def yD{E E':af}{l k:Nat}{d:List (AV × Option (List (List AV)) × Nat)}{q:List MapEntry} (I:∀(h b m:Nat),(E.X.r l)[h]? = some (some (some (b,m)))->(E'.X.r l)[h]? = some (some (some (b,m)))/\E'.w.heap[b]? = E.w.heap[b]?)
  (M:∀(i:Nat) x rZ,d[i]? = some x->x.2.1=some rZ->∀ b,E'.w.heap[b]? = E.w.heap[b]? -> fv rZ->cY E k rZ b 0->cY E' k rZ b 0) (N:kY E l k d q):kY E' l k d q:=by
 obtain⟨v,h1,O⟩:=N;exact⟨v,h1,fun i x rZ e y g he=>Lm (I (v i)) (M i x rZ y g) (O i x rZ e y g he)⟩
def qU{r:List (Option (Option (Nat × Nat)))}{b:Nat}(h:b∈dU r):∃(i m:Nat),r[i]? = some (some (some (b,m))):=by
 unfold dU at h;obtain⟨x,d,hb⟩:=List.mem_filterMap.1 h;obtain⟨i,hi,e⟩:=List.getElem_of_mem d;split at hb
 ·rename_i g m
  cases hb;exact⟨i,m,by rw[bZ hi,e]⟩
 ·cases hb
def h_(d:List (AV × Option Nat × Nat)):List (AV × AV × Nat):=d.map fun x=>(x.1,.undef,x.2.2)
def Ln(d:List (AV × Option Nat × Nat)):(h_ d).length=d.length:=by simp[h_]
def B5(E:af)(l:Nat)(h:List (AV × Option Nat × Nat)) (d:List (List (AV × AV × Nat) × Nat)) (g:List MapEntry):Prop :=
 (dU (E.X.r l)).length = d.length /\
  (∀(i:Nat) x e,h[i]? = some x->g[i]? = some e->(x.2.1=none/\e.val=.map none)\/∃ j b,x.2.1=some j/\(dU (E.X.r l))[j]? = some b/\e.val=.map (some b)) /\
  ∀(j:Nat) m b,d[j]? = some m->(dU (E.X.r l))[j]? = some b->∃ mm,E.w.heap[b]? = some (.map mm m.2)/\bL E m.1 mm.toList
def Ge{E E':af}{l:Nat}{v:List (AV × Option Nat × Nat)}{d:List (List (AV × AV × Nat) × Nat)}{k:List MapEntry}(g:E'.X.r l=E.X.r l) (y:∀(h b m:Nat),(E.X.r l)[h]? = some (some (some (b,m)))->E'.w.heap[b]? = E.w.heap[b]?)
  (I:∀ m∈d,∀ q,bL E m.1 q->bL E' m.1 q) (h:B5 E l v d k):B5 E' l v d k:=by
 obtain⟨h1,M,N⟩:=h;refine⟨by rw[g]; exact h1,fun i x e O he=>by rw[g]; exact M i x e O he,fun j m b hm hb=>?_⟩;rw[g]at hb;obtain⟨mm,U,V⟩:=N j m b hm hb;obtain⟨i,n,hi⟩:=qU (eS hb);exact⟨mm,by rw[y i b n hi]; exact U,I m (eS hm) _ V⟩
def Gf(E:af)(l k n:Nat) (d:List (List (List AV))) (cs:List ao):Prop :=
 (dU (E.X.r l)).length = d.length /\ d.length <= n /\ n <= cs.length /\
  ∀(i:Nat) rZ b,d[i]? = some rZ->(dU (E.X.r l))[i]? = some b->∃ m,cs[i]? = some (.slice (some ⟨b,0,none⟩) rZ.length m)/\isRow E.w b (m*k)/\rZ.length<=m/\fv rZ/\cY E k rZ b 0
def Gg{E E':af}{l k n:Nat}{d:List (List (List AV))}{cs:List ao}(g:E'.X.r l=E.X.r l) (v:∀(h b m:Nat),(E.X.r l)[h]? = some (some (some (b,m)))->E'.w.heap[b]? = E.w.heap[b]?)
  (y:∀ rZ∈d,∀ b,E'.w.heap[b]? = E.w.heap[b]? -> fv rZ->cY E k rZ b 0->cY E' k rZ b 0) (h:Gf E l k n d cs):Gf E' l k n d cs:=by
 obtain⟨h1,I,M,N⟩:=h;refine⟨by rw[g]; exact h1,I,M,fun i rZ b hi hb=>?_⟩;rw[g]at hb;obtain⟨m,O,⟨c,U,V,W⟩,q4,q,q6⟩:=N i rZ b hi hb;obtain⟨j,n,hj⟩:=qU (eS hb);have e:=v j b n hj;exact⟨m,O,⟨c,U,by rw[e]; exact V,W⟩,q4,q,y rZ (eS hi) b e q q6⟩
def fZ (d:List (AV × (Option (List (List AV)) × Option (List (List AV))) × Nat)):List (AV × AV × Nat):=d.map fun x=>(x.1,.undef,x.2.2)
def VK (d:List (AV × (Option (List (List AV)) × Option (List (List AV))) × Nat)):(fZ d).length=d.length:=by simp[fZ]
def gK(s:Bool) (x:AV × (Option (List (List AV)) × Option (List (List AV))) × Nat):AV × Option (List (List AV)) × Nat:=(x.1,(bif s then x.2.1.2 else x.2.1.1),x.2.2)
def qV(s:Bool):ao->ao
 |.agg cs=>(cs[bif s then 1 else 0]?).getD default
 |v=>v
def o_(E:af)(l k:Nat) (d:List (AV × (Option (List (List AV)) × Option (List (List AV))) × Nat)) (h:List MapEntry):Prop :=
 (∀ e∈h,∃ a b,e.val=.agg #[a,b]/\dZ a=true/\dZ b=true) /\
 ∃ g:Bool->Nat->Nat,(∀ s s' (i j:Nat) x y,d[i]? = some x->d[j]? = some y->(gK s x).2.1.isSome=true->(gK s' y).2.1.isSome=true->g s i=g s' j->s=s'/\i=j) /\
  ∀ s (i:Nat) x rZ e,d[i]? = some x->(gK s x).2.1=some rZ->h[i]? = some e->B4 E l k rZ (g s i) (qV s e.val)
def B6{E E':af}{l k:Nat}{d:List (AV × (Option (List (List AV)) × Option (List (List AV))) × Nat)}{q:List MapEntry} (M:∀(h b m:Nat),(E.X.r l)[h]? = some (some (some (b,m)))->(E'.X.r l)[h]? = some (some (some (b,m)))/\E'.w.heap[b]? = E.w.heap[b]?)
  (N:∀ s (i:Nat) x rZ,d[i]? = some x->(gK s x).2.1=some rZ->∀ b,E'.w.heap[b]? = E.w.heap[b]? -> fv rZ->cY E k rZ b 0->cY E' k rZ b 0) (O:o_ E l k d q):o_ E' l k d q:=by
 obtain⟨I,v,h1,U⟩:=O;exact⟨I,v,h1,fun s i x rZ e y g he=>Lm (M (v s i)) (N s i x rZ y g) (U s i x rZ e y g he)⟩
def aZ(E:af)(id:Nat):ai->Prop
 |.dead=>E.ae[id]? = some none
 |.eD=>E.ae[id]? = some none
 |.box cells=>∃ b n,E.ae[id]? = some (some (b,n))/\isRow E.w b cells.length/\cV E cells b 0
 | .vQ k _ rZ=>(E.ae[id]? = some none/\rZ=[]) \/
   ∃ b m,E.ae[id]? = some (some (b,m))/\isRow E.w b (m*k)/\rZ.length<=m/\fv rZ/\cY E k rZ b 0
 |.map g y=>∃ b n d,E.ae[id]? = some (some (b,n))/\E.w.heap[b]? = some (.map d y)/\bL E g d.toList
 |.iter s pos=>∃ b n,E.ae[id]? = some (some (b,n))/\E.w.heap[b]? = some (.stringIter s pos)
 | .gy l T B s=>∃ (b n:Nat) (p v:ao) (h:Nat) (q:Option (Nat × Nat)),E.ae[id]? = some (some (b,n))/\E.w.heap[b]? = some (.cells #[p,v] T (0,0))/\(p=.pointer none\/p=.pointer (some ⟨b,0,none⟩))/\(E.X.r l)[h]? = some (some q) /\
   (∀(h':Nat) M,(E.X.r l)[h']? = some (some M)->h'=h)/\Gb E.w B s v q
 |.a7 l k g y=>∃ b n d,E.ae[id]? = some (some (b,n))/\E.w.heap[b]? = some (.map d y)/\bL E (dj g) d.toList/\kY E l k g d.toList
 |.mm l g d y=>∃ b n I,E.ae[id]? = some (some (b,n))/\E.w.heap[b]? = some (.map I y)/\bL E (h_ g) I.toList/\B5 E l g d I.toList
 |.cM l k n d=>∃ b m cs N,E.ae[id]? = some (some (b,m))/\E.w.heap[b]? = some (.cells cs N (0,0))/\Gf E l k n d cs.toList
 |.bJ l k g y=>∃ b n d,E.ae[id]? = some (some (b,n))/\E.w.heap[b]? = some (.map d y)/\bL E (fZ g) d.toList/\o_ E l k g d.toList
def tc(E:af):Prop:=∀ p∈yA,E.kV p.1/\∃ t f,E.w.heap[p.1]? = some (.cells p.2 t f)
def tc.bU{E E':af}(H:tc E)(h:E.bU E'):tc E':=fun p d=>by
 obtain⟨h1,t,f,g⟩:=H p d;exact⟨(h.ok _ h1).1,t,f,by rw[(h.ok _ h1).2]; exact g⟩
structure aJ (E:af):Prop where
 len:E.ae.length=E.H.length
 inj:∀(i j b m n:Nat),E.ae[i]? = some (some (b,m))->E.ae[j]? = some (some (b,n))->i=j
 lt:∀(i b m:Nat),E.ae[i]? = some (some (b,m))->b<E.w.heap.size/\¬ E.X b
 X:∀ b,E.X b->b<E.w.heap.size
 obj:∀(i:Nat) o,E.H[i]? = some o->aZ E i o
 gL:tc E
 fN:∀(l h l' h' b m n:Nat),(E.X.r l)[h]? = some (some (some (b,m)))->(E.X.r l')[h']? = some (some (some (b,n)))->l=l'/\h=h'
 du:∀(i b m l h n:Nat),E.ae[i]? = some (some (b,m))->(E.X.r l)[h]? ≠ some (some (some (b,n)))
 cS:∀(l h b m:Nat),(E.X.r l)[h]? = some (some (some (b,m)))->b<E.w.heap.size/\¬ E.X b
 uniq:∀(i j:Nat) o o' (l:Nat),E.H[i]? = some o->E.H[j]? = some o'->o.label=some l->o'.label=some l->i=j
 ja:∀(l:Nat),(∀(i:Nat) o,E.H[i]? = some o->o.label≠some l)->∀(h:Nat) q,(E.X.r l)[h]? ≠ some (some q)
def aJ.Gh{E:af}(H:aJ E){b:Nat}(d:E.X b):¬ E.ab b:=by
 rintro(⟨i,c,hi⟩|⟨l,h,m,hi⟩)
 ·exact(H.lt i b c hi).2 d
 ·exact(H.cS l h b m hi).2 d
def aJ.B7{E:af}(H:aJ E){b:Nat}(ho:E.ab b):b<E.w.heap.size/\¬ E.X b:=by
 rcases ho with⟨i,c,hi⟩|⟨l,h,m,hi⟩
 ·exact H.lt i b c hi
 ·exact H.cS l h b m hi
structure Ext (w w':a_):Prop where
 size:w.heap.size<=w'.heap.size
 same:∀ b,b<w.heap.size->w'.heap[b]? = w.heap[b]?
 env:fw w w'
def Ext.refl(w:a_):Ext w w:=⟨aM _,fun _ _=>rfl,⟨rfl,rfl,rfl,by first|exact fun _=>aM _|exact fun _=>gY _ _⟩⟩
def Ext.trans{w w' d:a_}(h:Ext w w')(h':Ext w' d):Ext w d :=
 ⟨kR h.size h'.size,fun b hb=>by rw[h'.same b (eU hb h.size),h.same b hb],h.env.trans h'.env⟩
def Ext.push(w:a_)(o:Obj):Ext w { w with heap:=w.heap.push o } :=
 ⟨by simp,fun b hb=>by simp[U6,al9 hb],⟨rfl,rfl,rfl,by first|exact fun _=>aM _|exact fun _=>gY _ _⟩⟩
def Ext.drawn(w:a_)(n:Nat)(h:w.drawn<=n:=by exact Nat.le_succ _):Ext w { w with drawn:=n }:=⟨aM _,fun _ _=>rfl,⟨rfl,rfl,rfl,fun _=>h⟩⟩
def af.lH{E:af}{w':a_}(h:Ext E.w w'):E.le { E with w:=w' } where
 bx:=fun _ _ h=>h
 size:=h.size
 same:=fun b hb _=>h.same b hb
 ab:=fun _ _ ho=>ho
 live:=fun _ _ _ d=>⟨d,rfl⟩
 X:=⟨rfl,rfl⟩
 rl:=fun _ _ h=>⟨h,fun _ g=>g⟩
 env:=h.env
 grow:=fun _ _ o h1 k _=>⟨⟨[],(da _).symm⟩,o,h1,k⟩
def ve{w w':a_}{b n:Nat}(h:w'.heap[b]? = w.heap[b]?)(d:isRow w b n):isRow w' b n:=by
 unfold isRow at *; rw[h]; exact d
def B8{E E':af}{b:Nat}(d:∀ a c,ad E a c->ad E' a c)(hb:E'.w.heap[b]? = E.w.heap[b]?){as:List AV}{o:Nat}
  (h:cV E as b o):cV E' as b o:=by
 rw[kn]at *;intro i a hi;obtain⟨v,h1,g,k⟩:=h i a hi;exact⟨v,by rw[World.vc hb]; exact h1,g,d _ _ k⟩
def gz{E E':af}{b k:Nat}(d:∀ a c,ad E a c->ad E' a c)(hb:E'.w.heap[b]? = E.w.heap[b]?){rs:List (List AV)}{o:Nat}
  (h:cY E k rs b o):cY E' k rs b o:=by
 rw[om]at *;intro i r hi;exact⟨(h i r hi).1,B8 d hb (h i r hi).2⟩
def f_{E E':af}(d:∀ a c,ad E a c->ad E' a c):∀{g:List (AV × AV × Nat)} {q:List MapEntry},bL E g q->bL E' g q
 | [],[],_=>by simp[bL]
 | [],_::_,h=>by simp[bL]at h
 |(_,_,_)::_,[],h=>by simp[bL]at h
 | (k,v,n)::g,e::q,h=>by
  simp only[bL]at h|-;exact⟨d _ _ h.1,d _ _ h.2.1,h.2.2.1,h.2.2.2.1,h.2.2.2.2.1,f_ d h.2.2.2.2.2⟩
def nh{E E':af}{i:Nat}{o:ai}(M:∀ a c,ad E a c->ad E' a c)(I:E'.ae[i]? = E.ae[i]?)
  (hb:∀ b n,E.ae[i]? = some (some (b,n))->E'.w.heap[b]? = E.w.heap[b]?)
  (hg:∀ l,o.label=some l->E'.X.r l=E.X.r l/\∀(h g m:Nat),(E.X.r l)[h]? = some (some (some (g,m)))->E'.w.heap[g]? = E.w.heap[g]?) (h:aZ E i o):aZ E' i o:=by
 cases o with
 |dead=>simp only[aZ]at *; rw[I]; exact h
 |eD=>simp only[aZ]at *; rw[I]; exact h
 | box cells =>
  simp only[aZ]at *;obtain⟨b,n,h1,d,y⟩:=h;exact⟨b,n,by rw[I,h1],ve (hb b n h1) d,B8 M (hb b n h1) y⟩
 | vQ k al rZ =>
  simp only[aZ]at *;rcases h with⟨h1,d⟩|⟨b,m,h1,d,y,N,h5⟩
  ·exact .inl ⟨by rw[I,h1],d⟩
  ·exact .inr ⟨b,m,by rw[I,h1],ve (hb b m h1) d,y,N,gz M (hb b m h1) h5⟩
 | map es clock =>
  simp only[aZ]at *;obtain⟨b,n,V,h1,d,y⟩:=h;exact⟨b,n,V,by rw[I,h1],by rw[hb b n h1,d],f_ M y⟩
 | iter s pos =>
  simp only[aZ]at *;obtain⟨b,n,h1,d⟩:=h;exact⟨b,n,by rw[I,h1],by rw[hb b n h1,d]⟩
 | gy l T B s =>
  simp only[aZ]at *;obtain⟨b,n,p,v,k,q,h1,d,y,N,h5,h6⟩:=h;obtain⟨O,U⟩:=hg l rfl;exact⟨b,n,p,v,k,q,by rw[I,h1],by rw[hb b n h1,d],y,by rw[O,N],by rw[O]; exact h5,Gc (fun g m e=>U k g m (by rw[N,e])) h6⟩
 | a7 l k es clock =>
  simp only[aZ]at *;obtain⟨b,n,V,h1,d,y,N⟩:=h;obtain⟨O,U⟩:=hg l rfl;exact⟨b,n,V,by rw[I,h1],by rw[hb b n h1,d],f_ M y,yD (fun h g m hk=>⟨by rw[O]; exact hk,U h g m hk⟩) (fun _ _ _ _ _ b W _ hr=>gz M W hr) N⟩
 | mm l es V clock =>
  simp only[aZ]at *;obtain⟨b,n,mes,h1,d,y,N⟩:=h;obtain⟨O,U⟩:=hg l rfl;exact⟨b,n,mes,by rw[I,h1],by rw[hb b n h1,d],f_ M y,Ge O U (fun _ _ _=>f_ M) N⟩
 | cM l k n V =>
  simp only[aZ]at *;obtain⟨b,m,cs,el,h1,d,y⟩:=h;obtain⟨O,U⟩:=hg l rfl;exact⟨b,m,cs,el,by rw[I,h1],by rw[hb b m h1,d],Gg O U (fun _ _ b W _ hr=>gz M W hr) y⟩
 | bJ l k es clock =>
  simp only[aZ]at *;obtain⟨b,n,V,h1,d,y,N⟩:=h;obtain⟨O,U⟩:=hg l rfl;exact⟨b,n,V,by rw[I,h1],by rw[hb b n h1,d],f_ M y,B6 (fun h g m hk=>⟨by rw[O]; exact hk,U h g m hk⟩) (fun _ _ _ _ _ _ b W _ hr=>gz M W hr) N⟩
def aJ.ext{E:af}{w':a_}(H:aJ E)(h:Ext E.w w'):aJ { E with w:=w' } where
 len:=H.len
 inj:=H.inj
 lt:=fun i b m hi=>⟨eU (H.lt i b m hi).1 h.size,(H.lt i b m hi).2⟩
 X:=fun b hb=>eU (H.X b hb) h.size
 obj:=fun i o hi=>nh (fun a _ q=>bD (af.lH h) a q) rfl (fun b n hb=>h.same b (H.lt i b n hb).1) (fun l _=>⟨rfl,fun k g m d=>h.same g (H.cS l k g m d).1⟩) (H.obj i o hi)
 gL:=H.gL.bU (af.lH h).toC
 fN:=H.fN
 du:=H.du
 cS:=fun l k b m d=>⟨eU (H.cS l k b m d).1 h.size,(H.cS l k b m d).2⟩
 uniq:=H.uniq
 ja:=H.ja
def af.push(E:af)(w':a_)(o:ai)(l:Option (Nat × Nat)):af:={ w:=w',H:=E.H++[o],ae:=E.ae++[l],X:=E.X }
def aY{α:Type}{l:List α}{i:Nat}{x:α}(h:l[i]? = some x):i<l.length:=by
 rcases mo i l.length with h'|h'
 ·exact h'
 ·rw[oX h']at h; cases h
def amZ{α:Type}(l:List α)(x:α)(i:Nat)(h:i<l.length):(l++[x])[i]? = l[i]? := by
 rw[di h]
def af.mv{E:af}{w':a_}{o:ai}{l:Option (Nat × Nat)}(M:E.ae.length=E.H.length)(h:Ext E.w w')
  (hb:∀ b n,l=some (b,n)->E.w.heap.size<=b):E.le (E.push w' o l) where
 bx:=fun id al k=>by
  obtain⟨x,h1,g⟩:=k;exact⟨x,by simp only[af.push]; rw[di (aY h1)]; exact h1,g⟩
 size:=h.size
 same:=fun b hb _=>h.same b hb
 ab:=fun b I ho=>by
  rintro(⟨id,c,d⟩|v)
  case inr=>exact ho (.inr v)
  simp only[af.push]at d;by_cases hi:id<E.ae.length
  ·rw [di hi] at d
   exact ho (.inl ⟨id,c,d⟩)
  ·rw [iY (by omega)] at d
   cases q:id-E.ae.length with
   | zero =>
    rw[q]at d;simp at d;have:=hb b c d;omega
   |succ n=>rw[q]at d; simp at d
 live:=fun id al k=>by
  obtain⟨x,h1,g⟩:=k;have d:=aY h1;simp only[af.live,af.push];rw[di d,di (by omega)];exact fun h=>⟨h,rfl⟩
 X:=⟨rfl,rfl⟩
 grow:=fun id l o h1 g _=>⟨⟨[],(da _).symm⟩,o,by simp only[af.push]; rw[di (aY h1)]; exact h1,g⟩
 rl:=fun _ _ h=>⟨h,fun _ y=>y⟩
 env:=h.env
def aJ.push{E:af}{w':a_}{o:ai}{l:Option (Nat × Nat)}(H:aJ E)(h:Ext E.w w')
  (hb:∀ b n,l=some (b,n)->E.w.heap.size<=b/\b<w'.heap.size) (ho:aZ (E.push w' o l) E.H.length o) (hlab:o.label=none:=by first|rfl|assumption):aJ (E.push w' o l) where
 fN:=H.fN
 cS:=fun l k b m d=>⟨eU (H.cS l k b m d).1 h.size,(H.cS l k b m d).2⟩
 du:=by
  intro i b m l' k n hi d;simp only[af.push,gk]at hi;split at hi
  ·exact H.du i b m l' k n hi d
  ·rename_i h1
   cases M:i-E.ae.length with
   | zero =>
    rw[M]at hi;simp at hi;have O:=hb b m hi;have W:=(H.cS l' k b n d).1;omega
   |succ n=>rw[M]at hi; simp at hi
 uniq:=by
  have key:∀(i:Nat) o1 v,(E.push w' o l).H[i]? = some o1->o1.label=some v->E.H[i]? = some o1:=by
   intro i o1 v hi U;simp only[af.push,gk]at hi;split at hi
   ·exact hi
   ·cases M : i - E.H.length with
    | zero =>
     rw[M]at hi;simp at hi;subst hi;rw[hlab]at U;cases U
    |succ n=>rw[M]at hi; simp at hi
  exact fun i j o1 o2 v hi q h1 N=>H.uniq i j o1 o2 v (key i o1 v hi h1) (key j o2 v q N) h1 N
 ja:=fun v hn=>H.ja v fun i o1 hi=>hn i o1 (by
  simp only[af.push];rw[di (aY hi)];exact hi)
 gL:=H.gL.bU (af.mv H.len h (fun b n e=>(hb b n e).1)).toC
 len:=by simp[af.push,H.len]
 inj:=by
  intro i j b m n hi q;simp only[af.push,gk]at hi q;split at hi<;>split at q
  ·exact H.inj i j b m n hi q
  ·rename_i h1 N
   cases d:j-E.ae.length with
   | zero =>
    rw[d]at q;simp at q;have O:=hb b n q;have W:=(H.lt i b m hi).1;omega
   |succ n=>rw[d]at q; simp at q
  ·rename_i h1 N
   cases d:i-E.ae.length with
   | zero =>
    rw[d]at hi;simp at hi;have O:=hb b m hi;have W:=(H.lt j b n q).1;omega
   |succ n=>rw[d]at hi; simp at hi
  ·rename_i h1 N
   have e1:i-E.ae.length=0:=by
    cases d:i-E.ae.length with
    |zero=>rfl
    |succ n=>rw[d]at hi; simp at hi
   have e2:j-E.ae.length=0:=by
    cases d:j-E.ae.length with
    |zero=>rfl
    |succ n=>rw[d]at q; simp at q
   omega
 lt:=by
  intro i b m hi;simp only[af.push,gk]at hi|-;split at hi
  ·exact⟨eU (H.lt i b m hi).1 h.size,(H.lt i b m hi).2⟩
  ·cases d : i - E.ae.length with
   | zero =>
    rw[d]at hi;simp at hi;have O:=hb b m hi;exact⟨O.2,fun hx=>by have:=H.X b hx; omega⟩
   |succ n=>rw[d]at hi; simp at hi
 X:=fun b I=>eU (H.X b I) h.size
 obj:=by
  intro i o' hi;have hle:E.le (E.push w' o l):=af.mv H.len h (fun b n I=>(hb b n I).1);by_cases V:i<E.H.length
  ·simp only [af.push] at hi
   rw[di V]at hi;refine nh (fun a _ hr=>bD hle a hr) ?_ ?_ ?_ (H.obj i o' hi)
   ·simp only [af.push]
    rw[di (by rw[H.len]; exact V)]
   ·intro b n I
    exact h.same b (H.lt i b n I).1
   ·exact fun v _=>⟨rfl,fun k g m d=>h.same g (H.cS v k g m d).1⟩
  ·have y := hi
   simp only[af.push]at y;rw[iY (by omega)]at y;cases d:i-E.H.length with
   | zero =>
    rw[d]at y;simp at y;have:i=E.H.length:=by omega
    rw[this,<-y];exact ho
   |succ n=>rw[d]at y; simp at y
def af.lJ{E:af}{w':a_}{id:Nat}{o o':ai}{l:Option (Nat × Nat)}(g:E.H[id]? = some o)
  (hlen:E.ae.length=E.H.length) (U:E.w.heap.size<=w'.heap.size)
  (V:∀ x,x<E.w.heap.size->(∀ n,E.ae[id]? ≠ some (some (x,n)))->w'.heap[x]? = E.w.heap[x]?)
  (hl:∀ b n,l=some (b,n)->E.w.heap.size<=b\/∃ m,E.ae[id]? = some (some (b,m)))
  (hver:(∀ v,o'.aV = some v->o.aV = some v/\E.ae[id]? = some l)\/(∀ v,o'.aV = some v->∀ u,o.aV = some u->u<v))
  (hup:∀ v u,o'.aV = some v->o.aV = some u->u<=v) (O:o.born=true->o.aV = none->o'.aV = none) (henv:fw E.w w':=by first|exact⟨rfl,rfl,rfl,by first|exact fun _=>aM _|exact fun _=>gY _ _⟩|assumption|exact Ext.env (by assumption))
  (hmm:o.dW=none\/o'.dW=o.dW\/o'.aV = none:=by first|exact .inl rfl|exact .inr (.inl rfl)|exact .inr (.inr rfl)|exact .inl (ai.B3 (by assumption))|assumption)
  (W:o.born=true->o'.born=true:=by first|exact fun _=>rfl|exact fun h=>h|assumption) :
  E.le { w:=w',H:=E.H.set id o',ae:=E.ae.set id l,X:=E.X } where
 grow:=fun i l1 x h1 d k=>by
  by_cases e:i=id
  ·subst e
   rw[g]at h1;cases h1;rcases hmm with h|h|h
   ·rw[h]at d; cases d
   ·exact⟨⟨[],(da _).symm⟩,o',by simp only[]; rw[bB (aY g)],by rw[h]; exact d⟩
   ·obtain ⟨y, I, M⟩ := k
    simp only[]at I;rw[bB (aY g)]at I;cases I;rw[h]at M;cases M
  ·exact⟨⟨[],(da _).symm⟩,x,by simp only[]; rw[bg (Ne.symm e)]; exact h1,d⟩
 bx:=fun i al N=>by
  obtain⟨x,h1,d⟩:=N;by_cases e:i=id
  ·subst e
   rw[g]at h1;cases h1;refine⟨o',by simp only[]; rw[bB (aY g)],W d.1,fun v k=>?_⟩;cases q:o.aV with
   |none=>rw[O d.1 q]at k; cases k
   |some u=>exact kR (d.2 u q) (hup v u k q)
  ·exact⟨x,by simp only[]; rw[bg (Ne.symm e)]; exact h1,d⟩
 size:=U
 same:=fun x hx ho=>V x hx (fun n hn=>ho (.inl ⟨id,n,hn⟩))
 ab:=fun b hlt ho=>by
  rintro(⟨i,c,hi⟩|hs)
  case inr=>exact ho (.inr hs)
  simp only[eC]at hi;split at hi
  ·split at hi
   ·simp at hi
    rcases hl b c hi with h|⟨m,hm⟩
    ·omega
    ·exact ho (.inl ⟨id,m,hm⟩)
   ·cases hi
  ·exact ho (.inl ⟨i,c,hi⟩)
 live:=fun i al N hl'=>by
  obtain⟨x,h1,d⟩:=hl';by_cases e:i=id
  ·subst e
   simp only[]at h1;rw[bB (aY g)]at h1;cases h1;rcases hver with k|k
   ·obtain ⟨a1, a2⟩ := k al d
    refine⟨⟨o,g,a1⟩,?_⟩;simp only[];rw[bB (by rw[hlen]; exact aY g),a2]
   ·obtain ⟨y, I, M⟩ := N
    rw[g]at I;cases I;cases q:o.aV with
    |none=>rw[O M.1 q]at d; cases d
    |some u=>have:=k al d u q; have:=M.2 u q; omega
  ·simp only [] at h1 |-
   rw[bg (Ne.symm e)]at h1;rw[bg (Ne.symm e)];exact⟨⟨x,h1,d⟩,rfl⟩
 X:=⟨rfl,rfl⟩
 rl:=fun _ _ h=>⟨h,fun _ hq=>hq⟩
 env:=henv
def aJ.nk{E:af}{w':a_}{id:Nat}{o o':ai}{l:Option (Nat × Nat)}(H:aJ E)(U:E.H[id]? = some o)
  (M:E.w.heap.size<=w'.heap.size)
  (O:∀ x,x<E.w.heap.size->(∀ n,E.ae[id]? ≠ some (some (x,n)))->w'.heap[x]? = E.w.heap[x]?)
  (N:∀ b n,l=some (b,n)->(E.w.heap.size<=b/\b<w'.heap.size)\/∃ m,E.ae[id]? = some (some (b,m)))
  (hver:(∀ v,o'.aV = some v->o.aV = some v/\E.ae[id]? = some l)\/(∀ v,o'.aV = some v->∀ u,o.aV = some u->u<v))
  (hup:∀ v u,o'.aV = some v->o.aV = some u->u<=v) (W:o.born=true->o.aV = none->o'.aV = none)
  (ho:aZ { w:=w',H:=E.H.set id o',ae:=E.ae.set id l,X:=E.X } id o') (henv:fw E.w w':=by first|exact⟨rfl,rfl,rfl,by first|exact fun _=>aM _|exact fun _=>gY _ _⟩|assumption|exact Ext.env (by assumption))
  (hlab:o.label=none:=by first|rfl|assumption) (hlab':o'.label=none:=by first|rfl|assumption)
  (hborn:o.born=true->o'.born=true:=by first|exact fun _=>rfl|exact fun h=>h|assumption) :
  aJ { w:=w',H:=E.H.set id o',ae:=E.ae.set id l,X:=E.X } where
 fN:=H.fN
 cS:=fun l k b m y=>⟨eU (H.cS l k b m y).1 M,(H.cS l k b m y).2⟩
 du:=by
  intro i b m l' k n hi y;simp only[eC]at hi;split at hi
  ·split at hi
   ·simp at hi
    rcases N b m hi with h|⟨m',I⟩
    ·have:=(H.cS l' k b n y).1; omega
    ·exact H.du _ _ _ _ _ _ I y
   ·cases hi
  ·exact H.du _ _ _ _ _ _ hi y
 uniq:=by
  have key:∀(i:Nat) o1 q,(E.H.set id o')[i]? = some o1->o1.label=some q->E.H[i]? = some o1:=by
   intro i o1 q hi hl1;rw[eC]at hi;split at hi
   ·split at hi
    ·cases hi
     rw[hlab']at hl1;cases hl1
    ·cases hi
   ·exact hi
  exact fun i j o1 o2 q hi d h1 h2=>H.uniq i j o1 o2 q (key i o1 q hi h1) (key j o2 q d h2) h1 h2
 ja:=fun q hn=>H.ja q fun i o1 hi=>by
  by_cases e:i=id
  ·subst e
   rw[U]at hi;cases hi;rw[hlab];exact fun h=>by cases h
  ·exact hn i o1 (by show (E.H.set id o')[i]? = _; rw[bg (Ne.symm e)]; exact hi)
 gL:=H.gL.bU (af.lJ U H.len M O (fun b n hb=>(N b n hb).imp (fun h=>h.1) (fun h=>h)) hver hup W henv).toC
 len:=by simp[H.len]
 inj:=by
  intro i j b m n hi d;simp only[eC]at hi d;split at hi
  ·rename_i e1
   split at d
   ·rename_i e2; omega
   ·split at hi
    ·simp at hi
     rcases N b m hi with h|⟨m',I⟩
     ·have:=(H.lt j b n d).1; omega
     ·rw[<-e1]; exact H.inj _ _ _ _ _ I d
    ·cases hi
  ·split at d
   ·rename_i e2
    split at d
    ·simp at d
     rcases N b n d with h|⟨m',I⟩
     ·have:=(H.lt i b m hi).1; omega
     ·rw[<-e2]; exact H.inj _ _ _ _ _ hi I
    ·cases d
   ·exact H.inj i j b m n hi d
 lt:=by
  intro i b m hi;simp only[eC]at hi;split at hi
  ·split at hi
   ·simp at hi
    rcases N b m hi with h|⟨m',I⟩
    ·exact⟨h.2,fun hx=>by have:=H.X b hx; omega⟩
    ·exact⟨eU (H.lt _ _ _ I).1 M,(H.lt _ _ _ I).2⟩
   ·cases hi
  ·exact⟨eU (H.lt i b m hi).1 M,(H.lt i b m hi).2⟩
 X:=fun b hb=>eU (H.X b hb) M
 obj:=by
  intro i x hi;by_cases e:i=id
  ·subst e
   simp only[]at hi;rw[bB (aY U)]at hi;cases hi;exact ho
  ·have V := hi
   simp only[]at V;rw[bg (Ne.symm e)]at V;have hle:E.le { w:=w',H:=E.H.set id o',ae:=E.ae.set id l,X:=E.X } :=
    af.lJ U H.len M O (fun b n hb=>(N b n hb).imp (fun h=>h.1) (fun h=>h)) hver hup W henv
   refine nh (fun a _ hr=>bD hle a hr) ?_ ?_ ?_ (H.obj i x V)
   ·simp only []
    rw[bg (Ne.symm e)]
   ·intro b n hb
    exact O b (H.lt i b n hb).1 (fun m hm=>e (H.inj i id b n m hb hm))
   ·exact fun q _=>⟨rfl,fun k g m y=>O g (H.cS q k g m y).1 (fun n hn=>H.du id g n q k m hn y)⟩
def aJ.vf{E:af}{w':a_}{id d:Nat}{o o':ai}{r':Nat->List (Option (Option (Nat × Nat)))}(H:aJ E)(O:E.H[id]? = some o)(hlab:o.label=some d)(hlab':o'.label=some d)(hver:o'.aV = o.aV)
  (hsize:E.w.heap.size<=w'.heap.size)
  (hsame:∀ x,x<E.w.heap.size->(∀ n,E.ae[id]? ≠ some (some (x,n)))->(∀(h m:Nat),(E.X.r d)[h]? ≠ some (some (some (x,m))))->w'.heap[x]? = E.w.heap[x]?)
  (U:∀ l,l≠d->r' l=E.X.r l)
  (hnew:∀(h b m:Nat),(r' d)[h]? = some (some (some (b,m)))->(E.X.r d)[h]? = some (some (some (b,m)))\/(E.w.heap.size<=b/\b<w'.heap.size/\∀(h' m':Nat),(r' d)[h']? = some (some (some (b,m')))->h'=h))
  (hrl:∀(h:Nat),h<(E.X.r d).length->h<(r' d).length/\∀ q,(r' d)[h]? = some (some q)->(E.X.r d)[h]? = some (some q))
  (ho:E.le { w:=w',H:=E.H.set id o',ae:=E.ae,X:=E.X.re r' }->aZ { w:=w',H:=E.H.set id o',ae:=E.ae,X:=E.X.re r' } id o') (henv:fw E.w w') (hmm:o.dW=none\/(o'.dW=o.dW/\∃ t,r' d=E.X.r d++t):=by first|exact .inl rfl|assumption) :
  aJ { w:=w',H:=E.H.set id o',ae:=E.ae,X:=E.X.re r' }/\E.le { w:=w',H:=E.H.set id o',ae:=E.ae,X:=E.X.re r' }:=by
 have hlt:=aY O;have rcase:∀(l h b m:Nat),(r' l)[h]? = some (some (some (b,m)))->(E.X.r l)[h]? = some (some (some (b,m)))\/(l=d/\E.w.heap.size<=b/\b<w'.heap.size/\∀(h' m':Nat),(r' d)[h']? = some (some (some (b,m')))->h'=h):=fun l h b m I=>by
  by_cases e:l=d
  ·subst e
   rcases hnew h b m I with h1|⟨h1,k,h3⟩
   ·exact .inl h1
   ·exact .inr ⟨rfl,h1,k,h3⟩
  ·rw [U l e] at I
   exact .inl I
 have hle:E.le { w:=w',H:=E.H.set id o',ae:=E.ae,X:=E.X.re r' }:=by
  refine⟨fun i al hp=>?_,hsize,fun x hx hx'=>hsame x hx (fun n hn=>hx' (.inl ⟨id,n,hn⟩)) fun h m hm=>hx' (.inr ⟨d,h,m,hm⟩),fun b hb hno=>?_,fun i al hp M=>?_,⟨rfl,rfl⟩,fun l h hh=>?_,henv,fun i l x h1 k hv=>?_⟩
  rotate_right
  ·by_cases e : i = id
   ·subst e
    rw[O]at h1;cases h1;have V:d=l:=by
     have:=ai.og k;rw[hlab]at this;cases this;rfl
    subst V;rcases hmm with h|⟨h,ht⟩
    ·rw[h]at k; cases k
    ·exact⟨ht,o',by simp only[]; rw[bB hlt],by rw[h]; exact k⟩
   ·have V : l ≠ d := fun V => e (H.uniq i id x o l h1 O (ai.og k) (by rw [V]; exact hlab))
    exact⟨⟨[],by rw[da]; exact U l V⟩,x,by simp only[]; rw[bg (Ne.symm e)]; exact h1,k⟩
  ·obtain ⟨x, h1, k⟩ := hp
   by_cases e:i=id
   ·subst e
    rw[O]at h1;cases h1;exact⟨o',by simp only[]; rw[bB hlt],ai.B2 hlab',fun v hv=>k.2 v (by rw[<-hver]; exact hv)⟩
   ·exact⟨x,by simp only[]; rw[bg (Ne.symm e)]; exact h1,k⟩
  ·rintro (⟨i, c, hi⟩ | ⟨l, h, m, hm⟩)
   ·exact hno (.inl ⟨i,c,hi⟩)
   ·rcases rcase l h b m hm with h1 | ⟨_, h1, _⟩
    ·exact hno (.inr ⟨l,h,m,h1⟩)
    ·omega
  ·obtain ⟨x, h1, k⟩ := M
   refine⟨?_,rfl⟩;simp only[]at h1;by_cases e:i=id
   ·subst e
    rw[bB hlt]at h1;cases h1;exact⟨o,O,by rw[<-hver]; exact k⟩
   ·rw [bg (Ne.symm e)] at h1
    exact⟨x,h1,k⟩
  ·by_cases e : l = d
   ·subst e
    exact hrl h hh
   ·show h < (r' l).length /\ _
    rw[U l e];exact⟨hh,fun _ W=>(by rw[show ({ w:=w',H:=E.H.set id o',ae:=E.ae,X:=E.X.re r' }:af).X.r l=E.X.r l from U l e]at W; exact W)⟩
 refine⟨⟨by simp[H.len],H.inj,fun i b m hi=>⟨eU (H.lt i b m hi).1 hsize,(H.lt i b m hi).2⟩,fun b hb=>eU (H.X b hb) hsize,fun i x hi=>?_,H.gL.bU hle.toC,fun l h l' h' b m n h1 k=>?_,fun i b m l h n hi I=>?_,fun l h b m I=>?_,fun i j x y l hi hj h1 k=>?_,fun l hn h q W=>?_⟩,hle⟩
 ·by_cases e : i = id
  ·subst e
   simp only[]at hi;rw[bB hlt]at hi;cases hi;exact ho hle
  ·simp only [] at hi
   rw[bg (Ne.symm e)]at hi;refine nh (fun a _ U=>bD hle a U) rfl (fun b n hb=>hsame b (H.lt i b n hb).1 (fun m hm=>e (H.inj i id b n m hb hm)) fun h m hm=>H.du i b n d h m hb hm) (fun l M=>?_) (H.obj i x hi);have hne:l≠d:=fun V=>e (H.uniq i id x o l hi O M (by rw[hlab,V]));exact⟨U l hne,fun h g m I=>hsame g (H.cS l h g m I).1 (fun n hn=>H.du id g n l h m hn I) fun h' m' hk'=>hne (H.fN l h d h' g m m' I hk').1⟩
 ·rcases rcase l h b m h1 with N | ⟨rfl, N, g2, g3⟩ <;> rcases rcase l' h' b n k with k1 | ⟨rfl, k1, k2, k3⟩
  ·exact H.fN _ _ _ _ _ _ _ N k1
  ·have:=(H.cS _ _ _ _ N).1; omega
  ·have:=(H.cS _ _ _ _ k1).1; omega
  ·exact⟨rfl,(g3 h' n k).symm⟩
 ·rcases rcase l h b n I with N | ⟨rfl, N, g2, g3⟩
  ·exact H.du _ _ _ _ _ _ hi N
  ·have:=(H.lt i b m hi).1; omega
 ·rcases rcase l h b m I with N | ⟨rfl, N, g2, g3⟩
  ·exact⟨eU (H.cS _ _ _ _ N).1 hsize,(H.cS _ _ _ _ N).2⟩
  ·exact⟨g2,fun hx=>by have:=H.X b hx; omega⟩
 ·have key:∀ (i:Nat) x,(E.H.set id o')[i]? = some x->x.label=some l->∃ y,E.H[i]? = some y/\y.label=some l:=by
   intro i x hi M;by_cases e:i=id
   ·subst e
    rw[bB hlt]at hi;cases hi;exact⟨o,O,by rw[hlab,<-hlab',M]⟩
   ·rw [bg (Ne.symm e)] at hi
    exact⟨x,hi,M⟩
  obtain⟨x',a1,a2⟩:=key i x hi h1;obtain⟨y',b1,b2⟩:=key j y hj k;exact H.uniq i j x' y' l a1 b1 a2 b2
 ·have hne : l ≠ d := fun e => hn id o' (by show (E.H.set id o')[id]? = _; rw [bB hlt]) (by rw [hlab', e])
  have W:(r' l)[h]? = some (some q):=W;rw[U l hne]at W;refine H.ja l (fun i x hi M=>?_) h q W;by_cases e:i=id
  ·subst e
   rw[O]at hi;cases hi;exact hne (by rw[hlab]at M; cases M; rfl)
  ·exact hn i x (by show (E.H.set id o')[i]? = _; rw[bg (Ne.symm e)]; exact hi) M
def kr (r:Nat->List (Option (Option (Nat × Nat)))) (d:Nat):Nat->List (Option (Option (Nat × Nat))):=fun l=>if l=d then r l++[some none] else r l
def Gi{r:Nat->List (Option (Option (Nat × Nat)))}{g l h:Nat}{q:Option (Option (Nat × Nat))}(d:(kr r g l)[h]? = some q):(r l)[h]? = some q\/(l=g/\h=(r l).length/\q=some none):=by
 unfold kr at d;split at d
 ·rename_i e
  rw[gk]at d;split at d
  ·exact .inl d
  ·rename_i v
   right;cases k:h-(r l).length with
   | zero =>
    rw[k]at d;simp at d;exact⟨e,by omega,d.symm⟩
   |succ n=>rw[k]at d; simp at d
 ·exact .inl d
def VL{r:Nat->List (Option (Option (Nat × Nat)))}{d l h:Nat}(g:h<(r l).length):(kr r d l)[h]? = (r l)[h]? := by
 unfold kr;split
 ·exact di g
 ·rfl
def aJ.VM{E:af}{w':a_}{o:ai}{l:Option (Nat × Nat)}{l0:Nat}(H:aJ E)(h:Ext E.w w')(hb:∀ b n,l=some (b,n)->E.w.heap.size<=b/\b<w'.heap.size)(hlab:o.label=some l0)(hno:∀(i:Nat) x,E.H[i]? = some x->x.label≠some l0)
  (ho:aZ { w:=w',H:=E.H++[o],ae:=E.ae++[l],X:=E.X.re (kr E.X.r l0) } E.H.length o) :
  aJ { w:=w',H:=E.H++[o],ae:=E.ae++[l],X:=E.X.re (kr E.X.r l0) }/\E.le { w:=w',H:=E.H++[o],ae:=E.ae++[l],X:=E.X.re (kr E.X.r l0) }:=by
 have old:∀(i:Nat) x,(E.H++[o])[i]? = some x->E.H[i]? = some x\/(i=E.H.length/\x=o):=fun i x hi=>by
  rw[gk]at hi;split at hi
  ·exact .inl hi
  ·right
   cases v:i-E.H.length with
   |zero=>rw[v]at hi; simp at hi; exact⟨by omega,hi.symm⟩
   |succ n=>rw[v]at hi; simp at hi
 have U:∀(i:Nat) x,(E.ae++[l])[i]? = some x->E.ae[i]? = some x\/(i=E.ae.length/\x=l):=fun i x hi=>by
  rw[gk]at hi;split at hi
  ·exact .inl hi
  ·right
   cases v:i-E.ae.length with
   |zero=>rw[v]at hi; simp at hi; exact⟨by omega,hi.symm⟩
   |succ n=>rw[v]at hi; simp at hi
 have N:∀(x k b m:Nat),(kr E.X.r l0 x)[k]? = some (some (some (b,m)))->(E.X.r x)[k]? = some (some (some (b,m))):=fun x k b m v=>by
  rcases Gi v with h1|⟨_,_,h1⟩
  ·exact h1
  ·cases h1
 have hle:E.le { w:=w',H:=E.H++[o],ae:=E.ae++[l],X:=E.X.re (kr E.X.r l0) }:=by
  refine⟨fun i al hp=>?_,h.size,fun b V _=>h.same b V,fun b hlt hno'=>?_,fun i al hp hl=>?_,⟨rfl,rfl⟩,fun x k v=>?_,h.env,fun i l x h1 d hv=>⟨⟨[],?_⟩,x,by simp only[]; rw[di (aY h1)]; exact h1,d⟩⟩
  rotate_right
  ·have e : l ≠ l0 := fun e => hno i x h1 (by rw [<- e]; exact ai.og d)
   rw[da];exact iN e
  ·obtain ⟨x, h1, d⟩ := hp
   exact⟨x,by simp only[]; rw[di (aY h1)]; exact h1,d⟩
  ·rintro (⟨i, c, hi⟩ | ⟨x, k, m, v⟩)
   ·rcases U i _ hi with h1 | ⟨_, h1⟩
    ·exact hno' (.inl ⟨i,c,h1⟩)
    ·have := hb b c h1.symm
     omega
   ·exact hno' (.inr ⟨x,k,m,N x k b m v⟩)
  ·obtain ⟨x, h1, d⟩ := hp
   have hid:=aY h1;obtain⟨y,I,h4⟩:=hl;simp only[]at I;rw[di hid]at I;exact⟨⟨y,I,h4⟩,by simp only[]; rw[di (by rw[H.len]; exact hid)]⟩
  ·have hk':k<(kr E.X.r l0 x).length:=by
    unfold kr;split
    ·simp; omega
    ·exact v
   refine⟨hk',fun q W=>?_⟩;have W:(kr E.X.r l0 x)[k]? = some (some q):=W
   rwa [VL v]at W
 refine⟨⟨by simp[H.len],fun i j b m n hi hj=>?_,fun i b m hi=>?_,fun b V=>eU (H.X b V) h.size,fun i x hi=>?_,H.gL.bU hle.toC,fun x k x' k' b m n h1 d=>H.fN _ _ _ _ _ _ _ (N _ _ _ _ h1) (N _ _ _ _ d),fun i b m x k n hi v=>?_,fun x k b m v=>?_,fun i j x y O hi hj h1 d=>?_,fun O hn k q W=>?_⟩,hle⟩
 ·rcases U i _ hi with h1 | ⟨h1, d⟩ <;> rcases U j _ hj with I | ⟨I, h4⟩
  ·exact H.inj _ _ _ _ _ h1 I
  ·have:=hb b n h4.symm; have:=(H.lt _ _ _ h1).1; omega
  ·have:=hb b m d.symm; have:=(H.lt _ _ _ I).1; omega
  ·omega
 ·rcases U i _ hi with h1 | ⟨h1, d⟩
  ·exact⟨eU (H.lt _ _ _ h1).1 h.size,(H.lt _ _ _ h1).2⟩
  ·have I := hb b m d.symm
   exact⟨I.2,fun hx=>by have:=H.X b hx; omega⟩
 ·rcases old i x hi with h1 | ⟨h1, d⟩
  ·refine nh (fun a _ hr => bD hle a hr) (by simp only []; rw [di (by rw [H.len]; exact aY h1)]) (fun b n V => h.same b (H.lt i b n V).1) (fun O hl1 => ?_) (H.obj i x h1)
   have hne:O≠l0:=fun e=>hno i x h1 (by rw[hl1,e]);exact⟨iN hne,fun k g m v=>h.same g (H.cS _ _ _ _ v).1⟩
  ·subst h1 d
   exact ho
 ·rcases U i _ hi with h1 | ⟨h1, d⟩
  ·exact H.du _ _ _ _ _ _ h1 (N _ _ _ _ v)
  ·have:=hb b m d.symm; have:=(H.cS _ _ _ _ (N _ _ _ _ v)).1; omega
 ·have h1 := N _ _ _ _ v
  exact⟨eU (H.cS _ _ _ _ h1).1 h.size,(H.cS _ _ _ _ h1).2⟩
 ·rcases old i x hi with M | ⟨M, rfl⟩ <;> rcases old j y hj with g3 | ⟨g3, rfl⟩
  ·exact H.uniq i j x y O M g3 h1 d
  ·rw [hlab] at d
   cases d;exact(hno i x M h1).elim
  ·rw [hlab] at h1
   cases h1;exact(hno j y g3 d).elim
  ·omega
 ·rcases Gi (show (kr E.X.r l0 O)[k]? = some (some q) from W) with M | ⟨M, _⟩
  ·exact H.ja O (fun i x hi hl=>hn i x (by simp only[]; rw[di (aY hi)]; exact hi) hl) k q M
  ·exact hn E.H.length o (by simp) (by rw[hlab,M])
def af.yE{E:af}(H:aJ E)(id:Nat):E.le { w:=E.w,H:=E.H.set id .dead,ae:=E.ae.set id none,X:=E.X }:=by
 rcases mo id E.H.length with h|h
 ·exact af.lJ (o:=E.H[id]) (by simp[h]) H.len (aM _) (fun _ _ _=>rfl) (fun _ _ h=>by cases h) (.inl (fun v h=>by simp[ai.aV]at h))
   (fun v u h=>by simp[ai.aV]at h) (fun _ _=>rfl)
 ·rw [KF h, KF (by rw [H.len]; exact h)]
  exact af.le.refl E
def aJ.drop{E:af}(H:aJ E)(id:Nat)(hlab:∀ o,E.H[id]? = some o->o.label=none):aJ { w:=E.w,H:=E.H.set id .dead,ae:=E.ae.set id none,X:=E.X }:=by
 rcases mo id E.H.length with h|h
 ·refine aJ.nk (o:=E.H[id]) H (by simp [h]) (aM _) (fun _ _ _=>rfl) (fun _ _ h=>by cases h) (.inl (fun v h=>by simp [ai.aV] at h))
   (fun v u h=>by simp[ai.aV]at h) (fun _ _=>rfl) ?_ (hlab:=hlab _ (by simp[h]))
  simp only[aZ];rw[bB (by rw[H.len]; exact h)]
 ·rw [KF h, KF (by rw [H.len]; exact h)]
  exact H
end Go.AL

namespace Go.AL
variable [Dr]
structure FK where
 oF:Nat
 size:Nat
 agg:Bool
def qW:TypeDesc->Bool
 |.struct _ | .array _ _=>true
 |_=>false
def gl(P:aj)(t:aF):Option (Nat × Bool) :=
 match P.info? t,P.underlying t with
 |some i,some d=>some (i.size,qW d)
 |_,_=>none
def vg(P:aj)(t:aF)(f:Nat):Option FK :=
 match P.underlying t with
 | some (.struct g)=>match g[f]? with
  | some d=>match gl P d.type with
   |some (n,a)=>some ⟨d.offset,n,a⟩
   |none=>none
  |none=>none
 |_=>none
def fF(P:aj)(t:aF):Option (List ao) :=
 match P.info? t with
 | some i=>match i.zero with
  |some z=>if z.cells.toList.all dZ then some z.cells.toList else none
  |none=>none
 |none=>none
inductive SK where
 |slice (elem size bytes:Nat)
 |array (n elem size:Nat) (agg:Bool)
 |str
 |int (k:IntKind)
 |bool
 |other
def cZ(P:aj)(t:aF):SK :=
 match P.underlying t with
 | some (.slice e)=>match P.info? e with
  |some i=>.slice e i.size i.bytes
  |none=>.other
 | some (.array n e)=>match gl P e with
  |some (m,a)=>.array n e m a
  |none=>.other
 |some .string=>.str
 |some (.int k)=>.int k
 |some .bool=>.bool
 |_=>.other
def AV.vh:ao->AV
 |.agg cs=>if cs.toList.all dZ then .agg (cs.toList.map .lit) else .lit (.agg cs)
 |.tuple cs=>.tuple (cs.toList.map .lit)
 |v=>.lit v
abbrev AV.int(n:Int):AV:=.lit (.int .i64 n)
abbrev AV.bool(b:Bool):AV:=.lit (.bool b)
abbrev AV.str(s:ByteArray):AV:=.lit (.string s)
def p7{E:af}:∀(l:List ao),ax E (l.map .lit) l
 | []=>by simp[ax]
 |v::l=>by simp[ax,ad,p7 l]
def Lo(E:af)(v:ao):ad E (AV.vh v) v:=by
 unfold AV.vh;split
 ·split
  ·rename_i cs h
   simp only[ad];exact⟨cs,rfl,dN.1 h,p7 _⟩
  ·simp[ad]
 ·simp only [ad]
  exact⟨_,rfl,p7 _⟩
 ·simp[ad]
structure St where
 fr:List AV
 H:List ai
def St.eval(s:St):cw->AV
 |.tmp t=>s.fr.getD t .undef
 |.const v=>AV.vh v
 |.global g=>.lit (.pointer (some ⟨g,0,none⟩))
 |.func f=>.clo f []
def pb(w:a_)(X:XS)(l:List Deferred):Prop:=l.Nodup/\∀ d∈l,∃ D,d={ target:=.collected D,args:=#[] }/\w.heap[D]? = some (.deferred (some []))/\X D/\X.z D
def Gj(w:a_)(X:XS):pb w X []:=⟨List.nodup_nil,fun _ h=>by cases h⟩
def Lp{w w':a_}{X X':XS}{l:List Deferred}(h:pb w X l)(hX:∀ b,X b->X.z b->X' b/\X'.z b)(q:∀ b,X b->X.z b->w'.heap[b]? = w.heap[b]?):pb w' X' l :=
 ⟨h.1,fun d v=>let ⟨D,e,h1,g,k⟩:=h.2 d v; ⟨D,e,by rw[q D g k]; exact h1,hX D g k⟩⟩
def Gk{E E':af}(HE:aJ E)(h:E.le E'){l:List Deferred}(hm:pb E.w E.X l):pb E'.w E'.X l :=
 Lp hm (fun b h1 d=>⟨by rw[show E'.X.x=E.X.x from h.X.1]; exact h1,by rw[show E'.X.z=E.X.z from h.X.2]; exact d⟩) fun b hb _=>h.same b (HE.X b hb) (HE.Gh hb)
structure dX (s:St) (E:af) (a:Act):Prop where
 H:E.H=s.H
 fr:ax E s.fr a.tmps.toList
 defers:pb E.w E.X a.defers
 heap:aJ E
def dX.eval{s:St}{E:af}{a:Act}(h:dX s E a)(x:cw):ad E (s.eval x) (a.eval x):=by
 cases x with
 | tmp t =>
  simp only[St.eval,FQ];obtain⟨h1,y⟩:=pZ.1 h.fr;rcases mo t s.fr.length with d|q
  ·have k : t < a.tmps.toList.length := h1 ▸ d
   have I:s.fr[t]? = some s.fr[t]:=by simp[d]
   have M:a.tmps.toList[t]? = some a.tmps.toList[t]:=bZ k;have:=y t _ _ I M;simpa[cd,Array.getD_eq_getD_getElem?,d,show t<a.tmps.size by simpa using k]using this
  ·have : s.fr.getD t .undef = .undef := by simp [cd, oX q]
   rw[this];simp[ad]
 |const v=>exact Lo E v
 |global g=>simp[St.eval,FQ,ad]
 |func f=>simp only[St.eval,FQ,ad]; exact⟨#[],rfl,by simp[ax]⟩
def jJ(agg:Bool)(n:Nat)(cells:List AV):Option AV :=
 if agg then (if n<=cells.length then some (.agg (cells.take n)) else none) else cells[0]?
def ku(k:SK)(x i:AV):Option AV :=
 match i with
 | .lit (.int _ n) =>
  match k,x with
  |.slice _ sz _,.list w rZ=>if w=sz/\0<=n/\n<rZ.length then (rZ[n.toNat]?).map .cptr else none
  |.slice _ sz _,.listF ks rZ=>if ks.length=sz/\0<=n/\n<rZ.length then some (.cptr (aX ks (rZ.getD n.toNat []))) else none
  |.slice _ sz _,.vQ w id al oF m=>if w=sz/\0<=n/\n<m then some (.ptr id al w (oF+n.toNat) 0) else none
  |.slice _ sz _,.svec id l j m=>if 0<=n/\n<m then some (.sptr id l j sz n.toNat 0) else none
  |.array m _ sz _,.ptr id al w row d=>if 0<=n/\n<m then some (.ptr id al w row (d+n.toNat*sz)) else none
  |.array m _ sz _,.cptr cells=>if 0<=n/\n<m then some (.cptr ((cells.drop (n.toNat*sz)).take sz)) else none
  |_,_=>none
 |_=>none
def Gl(k:FK)(x:AV):Option AV :=
 if k.size=0 then none else
 match x with
 |.cptr cells=>some (.cptr (cells.drop k.oF))
 |.ptr id al w row d=>some (.ptr id al w row (d+k.oF))
 |_=>none
def Lq(k:IntKind)(a b:Int):Int:=k.wrap (BE k.bits a &&& BE k.bits b).toNat
def Lr(k:IntKind)(a b:Int):Int:=k.wrap (BE k.bits a ||| BE k.bits b).toNat
def Ls(k:IntKind)(a b:Int):Int:=k.wrap (BE k.bits a ^^^ BE k.bits b).toNat
def Gm(k:IntKind)(a b:Int):Int:=k.wrap (a*2 ^ min b.toNat k.bits)
def vj(k:IntKind)(a b:Int):Int:=a.fdiv (2 ^ min b.toNat k.bits)
def qX(op:BinOp)(k:IntKind)(a b:Int):Option ao :=
 match op with
 |.and=>some (.int k (Lq k a b))
 |.or=>some (.int k (Lr k a b))
 |.xor=>some (.int k (Ls k a b))
 |.add=>some (.int k (k.wrap (a+b)))
 |.sub=>some (.int k (k.wrap (a-b)))
 |.mul=>some (.int k (k.wrap (a*b)))
 |.quo=>if b=0 then none else some (.int k (k.wrap (a.tdiv b)))
 |.rem=>if b=0 then none else some (.int k (a.tmod b))
 |.eql=>some (.bool (a==b))
 |.neq=>some (.bool (a != b))
 |.lss=>some (.bool (a<b))
 |.leq=>some (.bool (a<=b))
 |.gtr=>some (.bool (a>b))
 |.geq=>some (.bool (a ≥ b))
 |_=>none
def Gn(op:BinOp)(x y:ByteArray):Option ao :=
 match op with
 |.add=>if ((x.size+y.size:Nat):Int)>IntKind.i64.max then none else some (.string (x++y))
 |.eql=>some (.bool (x.toList==y.toList))
 |.neq=>some (.bool !(x.toList==y.toList))
 |.lss=>some (.bool (ly x.toList y.toList))
 |.leq=>some (.bool (ly x.toList y.toList||x.toList==y.toList))
 |.gtr=>some (.bool !(ly x.toList y.toList||x.toList==y.toList))
 |.geq=>some (.bool !(ly x.toList y.toList))
 |_=>none
def lK(op:BinOp):ao->ao->Option ao
 | .int k a,.int d b=>match op with
  |.shl=>if b<0 then none else some (.int k (Gm k a b))
  |.shr=>if b<0 then none else some (.int k (vj k a b))
  |op=>if k=d then qX op k a b else none
 |.string a,.string b=>Gn op a b
 |_,_=>none
def B9:AV->Option Nat
 |.lit (.string s)=>some s.size
 |.lit (.slice none 0 0)=>some 0
 |.nils=>some 0
 |.emptyS _=>some 0
 |.list _ rZ=>some rZ.length
 |.listF _ rZ=>some rZ.length
 |.vQ _ _ _ _ n=>some n
 |_=>none
def Sem.bF{P:aj}{t:aF}{d:TypeDesc}(h:P.underlying t=some d)(w:a_) :
  (underlying t).run P w=.ok d w:=by simp[underlying,h]
def Sem.run_sizeOf{P:aj}{t:aF}{i:TypeInfo}(h:P.info? t=some i)(w:a_):(sizeOf t).run P w=.ok i.size w:=by
 simp[sizeOf,typeInfo,h]
def Sem.p8{P:aj}{t:aF}{d:TypeDesc}(h:P.underlying t=some d)(w:a_):(isAgg t).run P w=.ok (qW d) w:=by
 simp[isAgg,Sem.bF h];cases d<;>rfl
def lL{P:aj}{t:aF}{n:Nat}{a:Bool}(h:gl P t=some (n,a)):∃ i d,P.info? t=some i/\P.underlying t=some d/\i.size=n/\qW d=a:=by
 unfold gl at h;split at h
 ·rename_i i d h1 g
  simp at h;exact⟨i,d,h1,g,h.1,h.2⟩
 ·cases h
def Lt{P:aj}{t:aF}{f:Nat}{k:FK}(h:vg P t f=some k) :
  ∃ g d,P.underlying t=some (.struct g)/\g[f]? = some d/\d.offset=k.oF/\gl P d.type=some (k.size,k.agg):=by
 unfold vg at h;split at h
 ·rename_i g h1
  split at h
  ·rename_i d q
   split at h
   ·rename_i n a v
    simp at h;subst h;exact⟨g,d,h1,q,rfl,v⟩
   ·cases h
  ·cases h
 ·cases h
def VN{P:aj}(op:BinOp)(t:aF)(x y:ao)(v:ao)(h:lK op x y=some v)(w:a_):(binOp op t x y).run P w=.ok v w:=by
 unfold lK at h;split at h
 ·rename_i k a N b
  split at h
  ·split at h
   ·cases h
   ·rename_i hb
    cases h;simp only[binOp,Op.shift,iN hb,Gm];rfl
  ·split at h
   ·cases h
   ·rename_i hb
    cases h;simp only[binOp,Op.shift,iN hb,vj];rfl
  ·rename_i d g
   split at h
   ·rename_i q
    subst q;cases op<;>first|exact absurd rfl d|exact absurd rfl g|skip
    all_goals simp[qX]at h
    all_goals simp[binOp,Op.intArith,Op.intDiv,Op.intCmp,Op.intBits]
    all_goals first
     |exact h
     |(obtain⟨h1,I⟩:=h; simp[h1,I])
   ·cases h
 ·rename_i a b
  cases op<;>simp only[Gn]at h<;>(try split at h)<;>simp at h<;>simp only[binOp,Op.stringOp]<;>first
   |(subst h; simp; done)
   |(rename_i M; subst h; rw[iN M]; rfl)
 ·cases h
def VO{P:aj}(op:BinOp)(t:aF)(x y:cw)(a b:ao)(h:∀ v,lK op a b≠some v->True)(d:(lK op a b).isSome=true)(w:a_) :
  (eqGuard op t x y a b).run P w=.ok () w:=by
 unfold lK at d;split at d
 ·cases op<;>simp[eqGuard]<;>rfl
 ·cases op<;>simp[eqGuard]<;>rfl
 ·cases d
def VP{E:af}{x:AV}{c:ao}{n:Nat}(h:B9 x=some n)(d:ad E x c) :
  (∃ s,c=.string s/\s.size=n)\/∃ aN cap,c=.slice aN n cap:=by
 unfold B9 at h;split at h
 ·simp only[ad]at d; subst d; simp at h; exact .inl ⟨_,rfl,h⟩
 ·simp only[ad]at d; subst d; simp at h; subst h; exact .inr ⟨_,_,rfl⟩
 ·simp only[ad]at d; obtain⟨b,rfl⟩:=d; simp at h; subst h; exact .inr ⟨_,_,rfl⟩
 ·simp only[ad]at d; obtain⟨b,cap,rfl,_⟩:=d; simp at h; subst h; exact .inr ⟨_,_,rfl⟩
 ·simp only[ad]at d; obtain⟨_,b,cap,rfl,_⟩:=d; simp at h; subst h; exact .inr ⟨_,_,rfl⟩
 ·simp only[ad,fp]at d; obtain⟨b,cap,rfl,_⟩:=d; simp at h; subst h; exact .inr ⟨_,_,rfl⟩
 ·simp only[ad]at d; obtain⟨⟨b,cap,rfl,_⟩,_⟩:=d; simp at h; subst h; exact .inr ⟨_,_,rfl⟩
 ·cases h
end Go.AL

namespace Go.AL
open Go
variable [Dr]
def mw(b o n:Nat):(Addr.mk b o none).add n=⟨b,o+n,none⟩:=by
 unfold Addr.add;split
 ·rename_i h; simp[h]
 ·rfl
def VQ{E:af}{as:List AV}{b o:Nat}(h:cV E as b o){i:Nat}{a:AV}(hi:as[i]? = some a) :
  ∃ v,E.w.cell? ⟨b,o+i,none⟩=some v/\dZ v=true/\ad E a v:=kn.1 h i a hi
def td{E:af}{as:List AV}{b o:Nat}(h:cV E as b o)(n:Nat):cV E (as.drop n) b (o+n):=by
 rw[kn]at *;intro i a hi;rw[sT]at hi;obtain⟨v,h1,d,g⟩:=h (n+i) a hi;exact⟨v,by rw[sS]; exact h1,d,g⟩
def B_{E:af}{as:List AV}{b o:Nat}(h:cV E as b o)(n:Nat):cV E (as.take n) b o:=by
 rw[kn]at *;intro i a hi;rw[oY]at hi;split at hi
 ·exact h i a hi
 ·cases hi
def vk:∀(as:List AV) (n:Nat),AV.bM as=true->AV.bM (as.drop n)=true
 | [],n,_=>by simp[AV.bM]
 |a::as,0,h=>by simpa using h
 | a::as,n+1,h=>by
  simp only[AV.bM,aK]at h;simpa using vk as n h.2
def yF:∀(as:List AV) (n:Nat),AV.bM as=true->AV.bM (as.take n)=true
 | [],n,_=>by simp[AV.bM]
 |a::as,0,_=>by simp[AV.bM]
 | a::as,n+1,h=>by
  simp only[AV.bM,aK]at h;simp only[FT,AV.bM,aK];exact⟨h.1,yF as n h.2⟩
def yG{E:af}:∀{as:List AV} {b o:Nat},cV E as b o ->
  ∃ d:List ao,ax E as d/\(∀ x∈d,dZ x=true)/\∀ j v,d[j]? = some v->E.w.cell? ⟨b,o+j,none⟩=some v
 | [],b,o,_=>⟨[],by simp[ax]⟩
 | a::as,b,o,h=>by
  simp only[cV]at h;obtain⟨⟨v,h1,q,y⟩,I⟩:=h;obtain⟨d,M,N,O⟩:=yG I;refine⟨v::d,by simp only[ax]; exact⟨y,M⟩,?_,?_⟩
  ·intro x g
   rcases cq.1 g with rfl|g
   ·exact q
   ·exact N x g
  ·intro j x k
   cases j with
   |zero=>simp at k; subst k; exact h1
   |succ j=>have:=O j x (by simpa using k); rwa [sS,yk 1 j]at this
def yH{P:aj}{E:af}{cells:List AV}{b o n:Nat}{agg:Bool}{t:aF}{v:AV}(M:gl P t=some (n,agg))
  (g:jJ agg n cells=some v) (k:cV E cells b o):∃ c,(loadVar t ⟨b,o,none⟩).run P E.w=.ok c E.w/\ad E v c:=by
 obtain⟨i,d,hi,q,N,ha⟩:=lL M;unfold jJ at g;cases agg with
 | true =>
  simp only[if_true]at g;split at g
  ·rename_i I
   cases g;obtain⟨h,y,O,U⟩:=yG (B_ k n);have V:h.length=n:=by rw[<-jZ y]; simp[I]
   refine⟨.agg h.toArray,?_,?_⟩
   ·simp only [loadVar, cr, Sem.p8 q, cf, ha, if_true, Sem.run_sizeOf hi, N]
    rw[<-V,run_loadCells_list (w:=E.w) ⟨b,o,none⟩ h (fun j v W=>by rw[mw]; exact U j v W)];rfl
   ·simp only [ad]
    exact⟨h.toArray,rfl,by simpa using O,by simpa using y⟩
  ·cases g
 | false =>
  simp only[lz,if_false]at g;obtain⟨x,h1,_,h3⟩:=VQ k g;refine⟨x,?_,h3⟩;simp only[loadVar,cr,Sem.p8 q,cf,ha,lz,if_false,run_load];rw[show (⟨b,o,none⟩:Addr)=⟨b,o+0,none⟩ from rfl,h1]
def nl(P:aj)(t:aF)(x:AV)(H:List ai):Option AV :=
 match gl P t with
 | some (n,agg) =>
  match x with
  |.cptr cells=>jJ agg n cells
  | .ptr id al w row d=>match H[id]? with
   |some (.box cells)=>if al=0/\row=0 then jJ agg n (cells.drop d) else none
   |some (.vQ k v rZ)=>if al=v/\k=w then (match rZ[row]? with|some r=>jJ agg n (r.drop d)|none=>none) else none
   |some (.cM l _ _ g)=>if al=0/\w=1/\d=0 then (match g[row]? with|some rZ=>jJ agg n [.svec id l row rZ.length]|none=>none) else none
   |_=>none
  | .sptr id l j w row d=>match H[id]? with
   |some (.cM l' k _ g)=>if l=l'/\k=w then (match g[j]? with|some rZ=>(match rZ[row]? with|some r=>jJ agg n (r.drop d)|none=>none)|none=>none) else none
   |_=>none
  |_=>none
 |none=>none
def oq{E:af}{k:Nat}{rs:List (List AV)}{b o:Nat}(h:cY E k rs b o){i:Nat}{r:List AV}(hi:rs[i]? = some r) :
  r.length=k/\cV E r b (o+i*k):=om.1 h i r hi
def Lu{P:aj}{E:af}(HE:aJ E){t:aF}{x v:AV}{c:ao}(d:nl P t x E.H=some v)(I:ad E x c) :
  ∃ u,(ym t c).run P E.w=.ok u E.w/\ad E v u:=by
 unfold nl at d;split at d
 case h_2=>cases d
 rename_i n agg U;split at d
 ·simp only [ad] at I
  obtain⟨_,b,o,rfl,_,h2⟩:=I;obtain⟨u,q,y⟩:=yH U d h2;exact⟨u,by simpa[ym,mW]using q,y⟩
 ·rename_i id al w row W
  simp only[ad]at I;split at d
  ·rename_i cells g
   split at d
   ·rename_i O
    obtain⟨rfl,rfl⟩:=O;obtain⟨b,m,V,rfl⟩:=I.2.2 ⟨_,g,rfl⟩;obtain⟨b',m',h,_,M⟩:=HE.obj id _ g;rw[V]at h;cases h;have:=td M W;simp only[cP]at this;obtain⟨u,q,y⟩:=yH U d this;exact⟨u,by simpa[ym,mW]using q,y⟩
   ·cases d
  ·rename_i k v' rZ g
   split at d
   ·rename_i O
    obtain⟨rfl,rfl⟩:=O;split at d
    ·rename_i r N
     obtain⟨b,m,V,rfl⟩:=I.2.2 ⟨_,g,rfl⟩;rcases HE.obj id _ g with⟨h,M⟩|⟨b',m',h,_,_,_,M⟩
     ·subst M; simp at N
     ·rw [V] at h
      cases h;have:=td (oq M N).2 W;simp only[cP]at this;obtain⟨u,q,y⟩:=yH U d this;exact⟨u,by simpa[ym,mW]using q,y⟩
    ·cases d
   ·cases d
  ·rename_i l k m ms g
   split at d
   ·rename_i O
    obtain⟨rfl,rfl,rfl⟩:=O;split at d
    ·rename_i rZ N
     obtain⟨b,m,V,rfl⟩:=I.2.2 ⟨_,g,rfl⟩;have ho:=HE.obj id _ g;simp only[aZ]at ho;obtain⟨b',m',cs,el,h,M,e4,_,_,e7⟩:=ho;rw[V]at h;cases h;have hlt:row<(dU (E.X.r l)).length:=by rw[e4]; exact(KE.1 N).1
     obtain⟨m2,q1,⟨cur,el2,q2,q3⟩,q4,_,_⟩:=e7 row rZ _ N (bZ hlt);have hc:cV E [.svec id l row rZ.length] b (row*1+0):=by
      simp only[cV,and_true];refine⟨.slice (some ⟨(dU (E.X.r l))[row],0,none⟩) rZ.length m2,?_,rfl,?_⟩
      ·simp only [uS, M]
       simpa using q1
      ·simp only [ad]
       exact⟨⟨_,m2,rfl,q4,fun _=>⟨_,_,rfl⟩⟩,⟨_,g,rfl,fun v _=>eV v⟩,fun _=>⟨⟨_,g,rfl⟩,_,bZ hlt,m2,q4,rfl⟩⟩
     obtain⟨u,q,y⟩:=yH U d hc;exact⟨u,by simpa[ym,mW]using q,y⟩
    ·cases d
   ·cases d
  ·cases d
 ·rename_i id l j w row W
  simp only[ad]at I;split at d
  ·rename_i l' k m ms g
   split at d
   ·rename_i O
    obtain⟨rfl,rfl⟩:=O;split at d
    ·rename_i rZ hj
     split at d
     ·rename_i r N
      obtain⟨_,b,g1,rfl⟩:=I.2.2 ⟨_,g,rfl⟩;have ho:=HE.obj id _ g;simp only[aZ]at ho;obtain⟨b',m',cs,el,h,M,e4,_,_,e7⟩:=ho;obtain⟨m2,_,_,_,_,q6⟩:=e7 j rZ b hj g1;have:=td (oq q6 N).2 W;simp only[cP]at this;obtain⟨u,q,y⟩:=yH U d this;exact⟨u,by simpa[ym,mW]using q,y⟩
     ·cases d
    ·cases d
   ·cases d
  ·cases d
 ·cases d
def VR{P:aj}{E:af}{t:aF}{f:Nat}{k:FK}{x v:AV}{c:ao}(U:vg P t f=some k)
  (g:Gl k x=some v) (h:ad E x c):∃ u,(U7 t c f).run P E.w=.ok u E.w/\ad E v u:=by
 obtain⟨fs,V,h1,I,W,h4⟩:=Lt U;obtain⟨i,d,hi,hd,hs,ha⟩:=lL h4;unfold Gl at g;split at g
 ·cases g
 rename_i M;have y:∀ b o w,(fieldPlace ⟨b,o,none⟩ V).run P w=.ok ⟨b,o+k.oF,none⟩ w:=by
  intro b o w;simp only[fieldPlace,cr,Sem.run_sizeOf hi,cf,hs,iN M,ft,mw,W]
 split at g
 ·cases g
  simp only[ad]at h;obtain⟨hc,b,o,rfl,N,O⟩:=h;refine⟨.pointer (some ⟨b,o+k.oF,none⟩),?_,?_⟩
  ·simp[U7,Sem.bF h1,I,mW,y]
  ·simp only [ad]
   exact⟨vk _ _ hc,b,o+k.oF,rfl,N,td O _⟩
 ·cases g
  simp only[ad]at h;rename_i id al w row col;obtain⟨⟨b,o,rfl⟩,h5,h6⟩:=h;refine⟨.pointer (some ⟨b,o+k.oF,none⟩),?_,?_⟩
  ·simp[U7,Sem.bF h1,I,mW,y]
  ·simp only [ad]
   refine⟨⟨_,_,rfl⟩,h5,fun hl=>?_⟩;obtain⟨b',n',e1,q⟩:=h6 hl;simp only[al_,bf,FU]at q;exact⟨b',n',e1,by simp[q.1,q.2.1,sS]⟩
 ·cases g
def jq{P:aj}{t e sz d:Nat}(h:cZ P t=.slice e sz d):P.underlying t=some (.slice e)/\∃ i,P.info? e=some i/\i.size=sz/\i.bytes=d:=by
 unfold cZ at h;split at h
 ·rename_i k h1
  split at h
  ·rename_i i g
   cases h;exact⟨h1,i,g,rfl,rfl⟩
  ·cases h
 ·split at h<;>cases h
 all_goals cases h
def Ca{P:aj}{t n e sz:Nat}{a:Bool}(h:cZ P t=.array n e sz a):P.underlying t=some (.array n e)/\gl P e=some (sz,a):=by
 unfold cZ at h;split at h
 ·split at h<;>cases h
 ·rename_i g k h1
  split at h
  ·rename_i m q d
   cases h;exact⟨h1,d⟩
  ·cases h
 all_goals cases h
def te{P:aj}{t:Nat}(h:cZ P t=.str):P.underlying t=some .string:=by
 unfold cZ at h;split at h
 ·split at h<;>cases h
 ·split at h<;>cases h
 ·rename_i h1; exact h1
 all_goals cases h
def VS{P:aj}{E:af}(HE:aJ E){t:aF}{x i v:AV}{c d:ao}
  (g:ku (cZ P t) x i=some v) (h:ad E x c) (hi:ad E i d):∃ u,(yn t c d).run P E.w=.ok u E.w/\ad E v u:=by
 unfold ku at g;split at g
 case h_2=>cases g
 rename_i k n;simp only[ad]at hi;subst hi;split at g
 ·rename_i e sz by_ w rZ y
  split at g
  ·rename_i q
   obtain⟨rfl,h0,h1⟩:=q;obtain⟨I,ii,M,O,_⟩:=jq y;cases N:rZ[n.toNat]? with
   |none=>rw[N]at g; cases g
   | some r =>
    rw[N]at g;simp at g;subst g;simp only[ad]at h;obtain⟨hcl,aN,cap,rfl,hle,hh⟩:=h;rcases hh with rfl|⟨b,o,rfl,hok,hr⟩
    ·simp at N
    ·obtain ⟨g1, U⟩ := oq hr N
     refine⟨.pointer (some ⟨b,o+n.toNat*w,none⟩),?_,?_⟩
     ·simp[yn,asIntOf,Sem.bF I,h0,h1,Sem.run_sizeOf M,O,mw]
     ·simp only [ad]
      exact⟨hcl r (eS N),b,_,rfl,hok,U⟩
  ·cases g
 ·rename_i e sz by_ ks rZ y
  split at g
  ·rename_i q
   obtain⟨rfl,h0,h1⟩:=q;cases g;obtain⟨I,ii,M,O,_⟩:=jq y;have h:=kq.1 h;simp only[ad,c8]at h;obtain⟨hcl,aN,cap,rfl,hle,hh⟩:=h;have hlt:n.toNat<rZ.length:=by omega
   have N:(rZ.map (aX ks))[n.toNat]? = some (aX ks (rZ.getD n.toNat [])):=by
    rw[bY,cd,bZ hlt];rfl
   rcases hh with hn|⟨b,o,rfl,hok,hr⟩
   ·rw[hn]at N; simp at N
   ·obtain ⟨g1, U⟩ := oq hr N
    refine⟨.pointer (some ⟨b,o+n.toNat*ks.length,none⟩),?_,?_⟩
    ·simp[yn,asIntOf,Sem.bF I,h0,h1,Sem.run_sizeOf M,O,mw]
    ·simp only [ad]
     exact⟨gJ _ _,b,_,rfl,hok,U⟩
  ·cases g
 ·rename_i e sz by_ w id al oF m y
  split at g
  ·rename_i q
   obtain⟨rfl,h0,h1⟩:=q;cases g;obtain⟨I,ii,M,O,_⟩:=jq y;simp only[ad]at h;obtain⟨⟨aN,cap,rfl,hle,hb⟩,W,V⟩:=h;obtain⟨b,o,rfl⟩:=hb (by omega);refine⟨.pointer (some ⟨b,o+n.toNat*w,none⟩),?_,?_⟩
   ·simp[yn,asIntOf,Sem.bF I,h0,h1,Sem.run_sizeOf M,O,mw]
   ·simp only [ad]
    refine⟨⟨_,_,rfl⟩,W,fun hl=>?_⟩;obtain⟨g1,U⟩:=V hl;obtain⟨a,ha,hav⟩:=W;cases hloc:E.ae[id]? with
    | none =>
     have:=aY ha;rw[<-HE.len]at this;rw[bZ this]at hloc;cases hloc
    | some l =>
     cases l with
     |none=>have:=(g1 hloc).1; omega
     | some bm =>
      obtain⟨b',m'⟩:=bm;obtain⟨q1,o',q2,q3⟩:=U b' m' hloc;simp only[mq,bf,FU]at q3;refine⟨b',m',rfl,?_⟩;rw[q3.1.1,q3.1.2.1,q2 (by omega),gx];rfl
  ·cases g
 ·rename_i e sz by_ id l j m y
  split at g
  ·rename_i q
   obtain⟨h0,h1⟩:=q;cases g;obtain⟨I,ii,M,O,_⟩:=jq y;simp only[ad]at h;obtain⟨⟨aN,cap,rfl,hle,hb⟩,W,V⟩:=h;obtain⟨b,o,rfl⟩:=hb (by omega);refine⟨.pointer (some ⟨b,o+n.toNat*sz,none⟩),?_,?_⟩
   ·simp[yn,asIntOf,Sem.bF I,h0,h1,Sem.run_sizeOf M,O,mw]
   ·simp only [ad]
    refine⟨⟨_,_,rfl⟩,W,fun hl=>?_⟩;obtain⟨g1,b',U,m',g3,g4⟩:=V hl;simp only[mq,bf,FU]at g4;exact⟨g1,b',U,by simp[g4.1.1,g4.1.2.1]⟩
  ·cases g
 ·rename_i m e sz a id al w row col y
  split at g
  ·rename_i q
   cases g;obtain⟨I,hvk⟩:=Ca y;obtain⟨ii,dd,M,O,h4,_⟩:=lL hvk;simp only[ad]at h;obtain⟨⟨b,o,rfl⟩,W,V⟩:=h;refine⟨.pointer (some ⟨b,o+n.toNat*sz,none⟩),?_,?_⟩
   ·simp[yn,asIntOf,Sem.bF I,q.1,q.2,Sem.run_sizeOf M,h4,mw,mW]
   ·simp only [ad]
    refine⟨⟨_,_,rfl⟩,W,fun hl=>?_⟩;obtain⟨b',n',e1,e2⟩:=V hl;simp only[al_,bf,FU]at e2;exact⟨b',n',e1,by simp[e2.1,e2.2.1,sS]⟩
  ·cases g
 ·rename_i m e sz a cells y
  split at g
  ·rename_i q
   cases g;obtain⟨I,hvk⟩:=Ca y;obtain⟨ii,dd,M,O,h4,_⟩:=lL hvk;simp only[ad]at h;obtain⟨hcl,b,o,rfl,hok,V⟩:=h;refine⟨.pointer (some ⟨b,o+n.toNat*sz,none⟩),?_,?_⟩
   ·simp[yn,asIntOf,Sem.bF I,q.1,q.2,Sem.run_sizeOf M,h4,mw,mW]
   ·simp only [ad]
    exact⟨yF _ _ (vk _ _ hcl),b,_,rfl,hok,B_ (td V _) _⟩
  ·cases g
 ·cases g
def nm:AV->Option Int
 |.lit (.int _ n)=>some n
 |_=>none
def jr(len:Nat)(lo hi:Option AV):Option (Nat × Nat) :=
 match (match lo with|none=>some 0|some x=>nm x),(match hi with|none=>some (len:Int)|some x=>nm x)with
 |some l,some h=>if 0<=l/\l<=h/\h<=len then some (l.toNat,h.toNat) else none
 |_,_=>none
def vl{E:af}{x:AV}{c:ao}{n:Int}(h:nm x=some n)(d:ad E x c):∃ k,c=.int k n:=by
 unfold nm at h;split at h
 ·cases h
  simp only[ad]at d;exact⟨_,d⟩
 ·cases h
def Lv:List AV->Option (List G)
 | [.lit (.string s)]=>some [.s s]
 |_=>none
def vm:List (List AV)->Option (List (List G))
 | []=>some []
 | r::rs=>match Lv r,vm rs with
  |some g,some d=>some (g::d)
  |_,_=>none
def Gp:∀{rZ:List (List AV)} {d:List (List G)},vm rZ=some d->d.map (aX [.str])=rZ
 | [],d,h=>by
  simp only[vm,bf]at h;subst h;rfl
 | r::rs,d,h=>by
  simp only[vm]at h;split at h
  ·rename_i g q h1 k
   cases h;rw[dC,Gp k];unfold Lv at h1;split at h1
   ·cases h1; rfl
   ·cases h1
  ·cases h
def Cb(w:Nat)(rZ:List (List AV))(l n:Nat):AV:=match w,vm rZ with
 |1,some d=>.listF [.str] ((d.drop l).take n)
 |_,_=>.list w ((rZ.drop l).take n)
def VT{E:af}{w l n:Nat}{rZ:List (List AV)}{c:ao} (h:ad E (.list w ((rZ.drop l).take n)) c):ad E (Cb w rZ l n) c:=by
 unfold Cb;split
 ·rename_i g d
  rw[kq,KG,KH,Gp d];exact h
 ·exact h
def ot(P:aj)(t:aF)(x:AV)(lo hi mx:Option AV):Option AV :=
 match cZ P t,x with
 | .str,.lit (.string s)=>match mx,jr s.size lo hi with
  |none,some (l,h)=>some (.lit (.string (s.extract l h)))
  |_,_=>none
 | .slice _ sz _,.list w rZ=>match mx with
  | none=>match jr rZ.length lo hi with
   |some (l,h)=>if w=sz then some (Cb w rZ l (h-l)) else none
   |none=>none
  |some m=>if hi.isSome/\jr rZ.length lo hi=some (0,0)/\nm m=some 0 then some .nils else none
 | .slice _ sz _,.listF ks rZ=>match mx with
  | none=>match jr rZ.length lo hi with
   |some (l,h)=>if ks.length=sz then some (.listF ks ((rZ.drop l).take (h-l))) else none
   |none=>none
  |some m=>if hi.isSome/\jr rZ.length lo hi=some (0,0)/\nm m=some 0 then some .nils else none
 | .slice _ sz _,.vQ w id al oF n=>match mx with
  | none=>match jr n lo hi with
   |some (l,h)=>if w=sz then some (.vQ w id al (oF+l) (h-l)) else none
   |none=>none
  |some m=>if hi.isSome/\jr n lo hi=some (0,0)/\nm m=some 0 then some .nils else none
 | .slice _ _ _,.nils=>match mx with
  |none=>if (jr 0 lo hi).isSome then some .nils else none
  |some _=>none
 | .slice _ _ _,.lit (.slice none 0 0)=>match mx with
  |none=>if (jr 0 lo hi).isSome then some (.lit (.slice none 0 0)) else none
  |some m=>if hi.isSome/\jr 0 lo hi=some (0,0)/\nm m=some 0 then some (.lit (.slice none 0 0)) else none
 |_,_=>none
def vn{P:aj}{E:af}{len cap:Nat}{lo hi:Option AV}{clo q:Option ao}{l h:Nat}(O:Bool)(hb:jr len lo hi=some (l,h))(hle:len<=cap)
  (h1:∀ x,lo=some x->∃ c,clo=some c/\ad E x c) (y:lo=none->clo=none)
  (V:∀ x,hi=some x->∃ c,q=some c/\ad E x c) (U:hi=none->q=none) (w:a_) :
  (uT O len cap clo q none).run P w=.ok (l,h,cap) w/\l<=h/\h<=len:=by
 unfold jr at hb;split at hb
 case h_2=>cases hb
 rename_i a b g v;split at hb
 case isFalse=>cases hb
 rename_i d;simp only[bf,bo]at hb;obtain⟨rfl,rfl⟩:=hb;obtain⟨I,W,c2⟩:=d;refine⟨?_,by omega,by omega⟩;cases hi with
 | none =>
  rw[U rfl];simp at v;subst v;cases lo with
  | none =>
   rw[y rfl];simp at g;subst g;simp[uT]
  | some x =>
   obtain⟨c,rfl,d⟩:=h1 x rfl;obtain⟨k,rfl⟩:=vl g d;simp[uT,FV,asIntOf,I,W]
 | some z =>
  obtain⟨c,rfl,d⟩:=V z rfl;obtain⟨k,rfl⟩:=vl v d;have M:b<=(cap:Int):=by omega
  have N:0<=b:=by omega
  cases lo with
  | none =>
   rw[y rfl];simp at g;subst g;simp[uT,FV,asIntOf,M,N]
  | some x =>
   obtain⟨c,rfl,d⟩:=h1 x rfl;obtain⟨k',rfl⟩:=vl g d;have g4:¬ (max b 0<a):=by omega
   simp[uT,FV,asIntOf,M,N,I,g4]
def Lw{E:af}{k:Nat}{rZ:List (List AV)}{b o:Nat}(h:cY E k rZ b o)(l n:Nat) :
  cY E k ((rZ.drop l).take n) b (o+l*k):=by
 rw[om]at *;intro i r hi;rw[oY]at hi;split at hi
 ·rw [sT] at hi
  have:=h (l+i) r hi
  rwa [gx,<-sS]at this
 ·cases hi
def qY(E:af):Option AV->Option ao->Prop
 |none,none=>True
 |some x,some c=>ad E x c
 |_,_=>False
def Gq{E:af}{lo:Option AV}{clo:Option ao}(h:qY E lo clo):(∀ x,lo=some x->∃ c,clo=some c/\ad E x c)/\(lo=none->clo=none):=by
 cases lo<;>cases clo<;>simp_all[qY]
def Lx{E:af}{w l h cap:Nat}{rZ:List (List AV)}{aN:Option Addr}(k:fv rZ)(I:rZ.length<=cap)(h1:l<=h)(v:h<=rZ.length)
  (y:rZ=[]\/∃ b o,aN=some ⟨b,o,none⟩/\E.kV b/\cY E w rZ b o) :
  ad E (.list w ((rZ.drop l).take (h-l))) (.slice (if cap=l then aN else aN.map (·.add (l*w))) (h-l) (cap-l)):=by
 simp only[ad];have g:((rZ.drop l).take (h-l)).length=h-l:=by simp; omega
 refine⟨fun r d=>k r (BF (yo d)),_,cap-l,by rw[g],by rw[g]; omega,?_⟩;rcases Nat.eq_or_lt_of_le h1 with rfl|M
 ·left; simp
 ·right
  rcases y with rfl|⟨b,o,rfl,q,d⟩
  ·simp at v; omega
  ·refine ⟨b, o + l * w, ?_, q, Lw d l (h - l)⟩
   rw[iN (by omega)];simp[mw]
def VU{E:af}{w id al oF n l h:Nat}{aN:Option Addr}{cap:Nat}(g:ad E (.vQ w id al oF n) (.slice aN n cap))(h1:l<=h)(h2:h<=n) :
  ad E (.vQ w id al (oF+l) (h-l)) (.slice (if cap=l then aN else aN.map (·.add (l*w))) (h-l) (cap-l)):=by
 simp only[ad]at g|-;obtain⟨⟨v,cap',e,hle,hb⟩,I,M⟩:=g;simp only[mq]at e;obtain⟨rfl,_,rfl⟩:=e;refine⟨⟨_,_,rfl,by omega,fun hp=>?_⟩,I,fun N=>?_⟩
 ·obtain ⟨b, o, rfl⟩ := hb (by omega)
  rw[iN (by omega)];exact⟨b,o+l*w,by simp[mw]⟩
 ·obtain ⟨O, U⟩ := M N
  refine⟨fun d=>?_,fun b m d=>?_⟩
  ·obtain ⟨rfl, rfl, v, e⟩ := O d
   simp only[mq]at e;refine⟨by omega,by omega,?_⟩;have V:h-l=0:=by omega
   have W:cap-l=0:=by omega
   rw[V,W];exact⟨_,rfl⟩
  ·obtain ⟨q1, o, q2, k⟩ := U b m d
   simp only[mq]at k;obtain⟨rfl,_,rfl⟩:=k;refine⟨by omega,?_⟩;by_cases q:m-oF=l
   ·rw [iP q]
    exact⟨o,fun y=>by omega,by rw[al']⟩
   ·rw [iN q]
    refine⟨o+l*w,fun y=>?_,by simp[mw,al']⟩;rw[q2 (by omega),gx]
def Cc{P:aj}{E:af}{len:Nat}{lo hi:Option AV}{m:AV}{clo g:Option ao}{h:ao}
  (hb:jr len lo hi=some (0,0)) (I:hi.isSome=true) (hm:nm m=some 0)
  (h1:∀ x,lo=some x->∃ c,clo=some c/\ad E x c) (q:lo=none->clo=none)
  (M:∀ x,hi=some x->∃ c,g=some c/\ad E x c) (v:ad E m h) (cap:Nat) (w:a_) :
  (uT true len cap clo g (some h)).run P w=.ok (0,0,0) w:=by
 obtain⟨k,rfl⟩:=vl hm v;obtain⟨z,rfl⟩:=FW.1 I;obtain⟨c,rfl,d⟩:=M z rfl;unfold jr at hb;split at hb
 case h_2=>cases hb
 rename_i a b N O;split at hb
 case isFalse=>cases hb
 rename_i U;simp only[bf,bo]at hb;obtain⟨W,rfl⟩:=vl O d;have ha:a=0:=by omega
 have y:b=0:=by omega
 subst ha; subst y;cases lo with
 | none =>
  rw[q rfl];simp[uT,FV,asIntOf]
 | some x =>
  obtain⟨c,rfl,d⟩:=h1 x rfl;obtain⟨V,rfl⟩:=vl N d;simp[uT,FV,asIntOf]
def VV{P:aj}{E:af}{t:aF}{x v:AV}{lo hi mx:Option AV}{c:ao}{clo chi cmx:Option ao}
  (d:ot P t x lo hi mx=some v) (y:ad E x c) (hlo:qY E lo clo) (hhi:qY E hi chi) (hmx:qY E mx cmx) :
  ∃ u,(pS t c clo chi cmx).run P E.w=.ok u E.w/\ad E v u:=by
 obtain⟨V,U⟩:=Gq hlo;obtain⟨W,l2'⟩:=Gq hhi;obtain⟨l3,l3'⟩:=Gq hmx;unfold ot at d;split at d
 ·rename_i s N
  have k:=te N;simp only[ad]at y;subst y;split at d
  ·rename_i l h hb
   cases d;rw[l3' rfl];obtain⟨O,g2,g3⟩:=vn (P:=P) (E:=E) (cap:=s.size) false hb (aM _) V U W l2' E.w;refine⟨.string (s.extract l h),?_,by simp[ad]⟩;simp[pS,qL,Sem.bF k,O]
  ·cases d
 ·rename_i e sz by_ w rZ N
  obtain⟨k,ii,I,M,_⟩:=jq N;have hx':=y;simp only[ad]at y;obtain⟨hcl,aN,cap,rfl,hle,hh⟩:=y;split at d
  ·split at d
   ·rename_i l h hb
    split at d
    ·rename_i hw
     subst hw;cases d;rw[l3' rfl];obtain⟨O,g2,g3⟩:=vn (P:=P) (E:=E) (cap:=cap) true hb hle V U W l2' E.w;refine⟨_,?_,VT (Lx (cap:=cap) hcl hle g2 g3 hh)⟩;simp[pS,qL,Sem.bF k,O,Sem.run_sizeOf I,M]
    ·cases d
   ·cases d
  ·rename_i m
   split at d
   ·rename_i q
    cases d;obtain⟨cm,rfl,hm⟩:=l3 m rfl;have g:=Cc (P:=P) q.2.1 q.1 q.2.2 V U W hm cap E.w;refine⟨.slice aN 0 0,?_,by simp only[ad]; exact⟨aN,rfl⟩⟩;simp[pS,qL,Sem.bF k,g,Sem.run_sizeOf I,M]
   ·cases d
 ·rename_i e sz by_ ks rZ N
  obtain⟨k,ii,I,M,_⟩:=jq N;have hx':=kq.1 y;simp only[ad]at hx';obtain⟨hcl,aN,cap,rfl,hle,hh⟩:=hx';simp only[c8]at hle y|-;split at d
  ·split at d
   ·rename_i l h hb
    split at d
    ·rename_i hw
     subst hw;cases d;rw[l3' rfl];obtain⟨O,g2,g3⟩:=vn (P:=P) (E:=E) (cap:=cap) true hb hle V U W l2' E.w;have:=Lx (cap:=cap) hcl (by simpa using hle) g2 (by simpa using g3) hh;have e:((rZ.map (aX ks)).drop l).take (h-l)=((rZ.drop l).take (h-l)).map (aX ks):=by rw[KG,KH]
     rw[e]at this;refine⟨_,?_,kq.2 this⟩;simp[pS,qL,Sem.bF k,O,Sem.run_sizeOf I,M]
    ·cases d
   ·cases d
  ·rename_i m
   split at d
   ·rename_i q
    cases d;obtain⟨cm,rfl,hm⟩:=l3 m rfl;have g:=Cc (P:=P) q.2.1 q.1 q.2.2 V U W hm cap E.w;refine⟨.slice aN 0 0,?_,by simp only[ad]; exact⟨aN,rfl⟩⟩;simp[pS,qL,Sem.bF k,g,Sem.run_sizeOf I,M]
   ·cases d
 ·rename_i e sz by_ w id al oF n N
  obtain⟨k,ii,I,M,_⟩:=jq N;have hx':=y;simp only[ad]at y;obtain⟨⟨aN,cap,rfl,hle,_⟩,_,_⟩:=y;split at d
  ·split at d
   ·rename_i l h hb
    split at d
    ·rename_i hw
     subst hw;cases d;rw[l3' rfl];obtain⟨O,g2,g3⟩:=vn (P:=P) (E:=E) (cap:=cap) true hb hle V U W l2' E.w;refine⟨_,?_,VU hx' g2 g3⟩;simp[pS,qL,Sem.bF k,O,Sem.run_sizeOf I,M]
    ·cases d
   ·cases d
  ·rename_i m
   split at d
   ·rename_i q
    cases d;obtain⟨cm,rfl,hm⟩:=l3 m rfl;have g:=Cc (P:=P) q.2.1 q.1 q.2.2 V U W hm cap E.w;refine⟨.slice aN 0 0,?_,by simp only[ad]; exact⟨aN,rfl⟩⟩;simp[pS,qL,Sem.bF k,g,Sem.run_sizeOf I,M]
   ·cases d
 ·rename_i e sz by_ N
  obtain⟨k,ii,I,M,_⟩:=jq N;simp only[ad]at y;obtain⟨aN,rfl⟩:=y;split at d
  ·split at d
   ·rename_i hb
    cases d;obtain⟨⟨l,h⟩,hb⟩:=FW.1 hb;rw[l3' rfl];obtain⟨O,g2,g3⟩:=vn (P:=P) (E:=E) (cap:=0) true hb (aM _) V U W l2' E.w;have:h=0:=by omega
    subst this;have:l=0:=by omega
    subst this;refine⟨.slice aN 0 0,?_,by simp only[ad]; exact⟨aN,rfl⟩⟩;simp[pS,qL,Sem.bF k,O,Sem.run_sizeOf I,M]
   ·cases d
  ·cases d
 ·rename_i e sz by_ N
  obtain⟨k,ii,I,M,_⟩:=jq N;simp only[ad]at y;subst y;split at d
  ·split at d
   ·rename_i hb
    cases d;obtain⟨⟨l,h⟩,hb⟩:=FW.1 hb;rw[l3' rfl];obtain⟨O,g2,g3⟩:=vn (P:=P) (E:=E) (cap:=0) true hb (aM _) V U W l2' E.w;have:h=0:=by omega
    subst this;have:l=0:=by omega
    subst this;refine⟨.slice none 0 0,?_,by simp only[ad]⟩;simp[pS,qL,Sem.bF k,O,Sem.run_sizeOf I,M]
   ·cases d
  ·rename_i m
   split at d
   ·rename_i q
    cases d;obtain⟨cm,rfl,hm⟩:=l3 m rfl;have g:=Cc (P:=P) q.2.1 q.1 q.2.2 V U W hm 0 E.w;refine⟨.slice none 0 0,?_,by simp only[ad]⟩;simp[pS,qL,Sem.bF k,g,Sem.run_sizeOf I,M]
   ·cases d
 ·cases d
end Go.AL

namespace Go.AL
open Go
variable [Dr]
def kindOk:SK->ao->Bool
 |.int k,.int d _=>k=d
 |.str,.string _=>true
 |.bool,.bool _=>true
 |_,_=>false
def qZ:ao->ao->Bool
 |.int _ a,.int _ b=>a==b
 |.string a,.string b=>a.toList==b.toList
 |.bool a,.bool b=>a==b
 |_,_=>false
def eW:List ao->List ao->Bool
 | [],[]=>true
 |a::as,b::d=>qZ a b&&eW as d
 |_,_=>false
def dx:List SK->List ao->Bool
 | [],[]=>true
 |k::ks,v::d=>kindOk k v&&dx ks d
 |_,_=>false
def tf(P:aj)(f:aF->Option (List SK)):List Field->Nat->Option (List SK)
 | [],_=>some []
 | x::d,oF=>if x.name = "_" \/ x.offset≠oF then none else
  match f x.type,gl P x.type with
  |some ks,some (n,_)=>if n=ks.length then (match tf P f d (oF+n)with|some l=>some (ks++l)|none=>none) else none
  |_,_=>none
def vo(e n m:Nat):List Field:=(List.range' 0 m).map fun i=>⟨"a", e,i*n,false, "", "", i⟩
def flatK(P:aj):Nat->aF->Option (List SK)
 |0,_=>none
 | d+1,t=>match P.underlying t with
  |some (.int k)=>some [.int k]
  |some .string=>some [.str]
  |some .bool=>some [.bool]
  |some (.struct g)=>if P.stoodInHeld t then none else tf P (fun t=>flatK P d t) g.toList 0
  | some (.array m e)=>match gl P e with
   |some (n,_)=>tf P (fun t=>flatK P d t) (vo e n m) 0
   |none=>none
  |_=>none
abbrev yI(P:aj)(d:Nat)(g:List Field)(oF:Nat):Option (List SK):=tf P (fun t=>flatK P d t) g oF
def Ly:∀(a b c d:List ao),a.length=c.length->eW (a++b) (c++d)=(eW a c&&eW b d)
 | [],b,[],d,_=>by simp[eW]
 | x::a,b,y::c,d,h=>by
  simp only[mr,eW,Ly a b c d (by simpa using h),ama]
 | [],_,_::_,_,h=>by simp at h
 |_::_,_,[],_,h=>by simp at h
def vp:∀{ks:List SK} {d:List ao},dx ks d=true->ks.length=d.length
 | [],[],_=>rfl
 |_::ks,_::d,h=>by simp only[dx,aK]at h; simp[vp h.2]
 | [],_::_,h=>by simp[dx]at h
 |_::_,[],h=>by simp[dx]at h
def Cd:∀{a b:List SK} {d:List ao},dx (a++b) d=true->dx a (d.take a.length)=true/\dx b (d.drop a.length)=true
 | [],b,d,h=>by simpa[dx]using h
 |k::a,b,[],h=>by simp[dx]at h
 | k::a,b,v::d,h=>by
  simp only[mr,dx,aK]at h;have:=Cd h.2;simp only[cn,FT,dx,aK,List.drop_succ_cons];exact⟨⟨h.1,this.1⟩,this.2⟩
def fq(P:aj)(t:aF)(x:ao)(d:List ao):Prop :=
 match P.underlying t with
 |some (.struct _)=>∃ a:Array ao,x=.agg a/\a.toList=d
 |some (.array _ _)=>∃ a:Array ao,x=.agg a/\a.toList=d
 |_=>d=[x]
def Gr{P:aj}{t:aF}{n:Nat}{agg:Bool}{ks:List SK}{d:Nat}(I:gl P t=some (n,agg))(h:flatK P d t=some ks)(hn:n=ks.length)
  (cs:Array ao) (oF:Nat) (y:dx ks ((cs.toList.drop oF).take n)=true) (w:a_) :
  ∃ x,(part t cs oF).run P w=.ok x w/\fq P t x ((cs.toList.drop oF).take n):=by
 obtain⟨i,M,h1,g,v,N⟩:=lL I;cases d with
 |zero=>simp[flatK]at h
 | succ d =>
  unfold flatK at h;rw[g]at h;have q:=vp y;cases M with
  | struct O =>
   refine⟨.agg (cs.extract oF (oF+n)),?_,?_⟩
   ·simp[part,Sem.p8 g,qW,Sem.run_sizeOf h1,v]
   ·simp only [fq, g]
    refine⟨_,rfl,?_⟩;simp
  | array m e =>
   refine⟨.agg (cs.extract oF (oF+n)),?_,?_⟩
   ·simp[part,Sem.p8 g,qW,Sem.run_sizeOf h1,v]
   ·simp only [fq, g]
    refine⟨_,rfl,?_⟩;simp
  | int k =>
   simp at h;subst h;simp at hn;subst hn;have:oF<cs.size:=by simp at q; omega
   refine⟨cs[oF],?_,?_⟩
   ·simp[part,Sem.p8 g,qW,this]
   ·simp[fq,g,U8,this]
  | string =>
   simp at h;subst h;simp at hn;subst hn;have:oF<cs.size:=by simp at q; omega
   refine⟨cs[oF],?_,?_⟩
   ·simp[part,Sem.p8 g,qW,this]
   ·simp[fq,g,U8,this]
  | bool =>
   simp at h;subst h;simp at hn;subst hn;have:oF<cs.size:=by simp at q; omega
   refine⟨cs[oF],?_,?_⟩
   ·simp[part,Sem.p8 g,qW,this]
   ·simp[fq,g,U8,this]
  |_=>simp at h
def VW{P:aj}{t:aF}{d:Array Field}(h:P.underlying t=some (.struct d)):P.underlying t=some (.struct (P.fieldsOf t)):=by
 simp[amb,h]
def VX{P:aj}(w:a_)(d:Nat)(t:aF)(m e:Nat)(i:TypeInfo)(g h:Array ao)(q:P.underlying t=some (.array m e))(h1:P.info? e=some i) :
  (kj (d+1) t (.agg g) (.agg h)).run P w=(BG d g h (vo e i.size m)).run P w:=by
 simp only[kj,cr,Sem.bF q,cf,Sem.run_sizeOf h1,amc,amd,fD,Nat.add_sub_cancel,Nat.div_one];unfold vo;generalize 0=k;clear q
 induction m generalizing w k with
 |zero=>simp[BG]
 | succ m v =>
  simp only[List.range'_succ,List.forIn_cons,dC,BG,cr];rw[iP (by decide)];simp only[cr];generalize (part e g (k*i.size)).run P w=r1;cases r1 with
  | ok a y =>
   simp only[cf];generalize (part e h (k*i.size)).run P y=r2;cases r2 with
   | ok b I =>
    simp only[cf];generalize (kj d e a b).run P I=r3;cases r3 with
    | ok r M =>
     cases r
     ·simp only[cf,Bool.not_false,if_true,ft]
     ·simp only [cf, Bool.not_true, lz, if_false, ft]
      exact v M _
    |_=>rfl
   |_=>rfl
  |_=>rfl
mutual
def Gs{P:aj}:∀(d:Nat) (t:aF) (ks:List SK),flatK P d t=some ks->∀(D:Nat),d<=D->∀(x y:ao) (O U:List ao),
  fq P t x O->fq P t y U->dx ks O=true->dx ks U=true->∀ w,(kj D t x y).run P w=.ok (eW O U) w
 |0,_,_,h=>by simp[flatK]at h
 | d+1,t,ks,h=>by
  intro D hD x y O U M N v I w;obtain⟨D,rfl⟩:∃ W,D=W+1:=⟨D-1,by omega⟩
  unfold flatK at h;cases q:P.underlying t with
  |none=>rw[q]at h; cases h
  | some de =>
   rw[q]at h;cases de with
   | struct V =>
    simp only[]at h;split at h
    ·cases h
    rename_i hs;simp only[fq,q]at M N;obtain⟨a,rfl,rfl⟩:=M;obtain⟨b,rfl,rfl⟩:=N;have hf:P.fieldsOf t=V:=by simp[amb,q]
    rw[run_equalIn_struct w D t a b (VW q) (by simpa using hs),hf];have:=Gt d V.toList 0 ks h D (by omega) a b (by simpa using v) (by simpa using I) w;simpa using this
   | array m e =>
    simp only[]at h;split at h
    case h_2=>cases h
    rename_i n g hv;simp only[fq,q]at M N;obtain⟨a,rfl,rfl⟩:=M;obtain⟨b,rfl,rfl⟩:=N;obtain⟨i,d',h1,h2,rfl,h4⟩:=lL hv;rw[VX w D t m e i a b q h1];have:=Gt d (vo e i.size m) 0 ks h D (by omega) a b (by simpa using v) (by simpa using I) w;simpa using this
   | int k =>
    simp at h;subst h;simp only[fq,q]at M N;subst M; subst N;simp only[dx,gX]at v I;unfold kindOk at v I;split at v<;>split at I<;>simp_all[kj,eW,qZ,Sem.bF q]
   | string =>
    simp at h;subst h;simp only[fq,q]at M N;subst M; subst N;simp only[dx,gX]at v I;unfold kindOk at v I;split at v<;>split at I<;>simp_all[kj,eW,qZ,Sem.bF q,beq_toListBytes]
   | bool =>
    simp at h;subst h;simp only[fq,q]at M N;subst M; subst N;simp only[dx,gX]at v I;unfold kindOk at v I;split at v<;>split at I<;>simp_all[kj,eW,qZ,Sem.bF q]
   |_=>simp at h
def Gt{P:aj}:∀(d:Nat) (M:List Field) (oF:Nat) (ks:List SK),yI P d M oF=some ks->∀(D:Nat),d<=D->∀(h k:Array ao),
  dx ks (h.toList.drop oF)=true->dx ks (k.toList.drop oF)=true->∀ w,(BG D h k M).run P w=.ok (eW (h.toList.drop oF) (k.toList.drop oF)) w
 | d,[],oF,ks,g=>by
  intro D hD h k V W w;simp[yI,tf]at g;subst g;have h1:=vp V;have h2:=vp W;have q:h.toList.drop oF=[]:=uU (by rw[<-h1]; rfl);have N:k.toList.drop oF=[]:=uU (by rw[<-h2]; rfl);rw[q,N];simp[BG,eW]
 | d,f::M,oF,ks,g=>by
  intro D hD h k V W w;unfold yI tf at g;split at g
  ·cases g
  rename_i hc;split at g
  case h_2=>cases g
  rename_i k1 n ag q N;split at g
  case isFalse=>cases g
  rename_i hn;split at g
  case h_2=>cases g
  rename_i l e3;cases g;have hname:f.name ≠ "_" := fun e=>hc (.inl e);have hoff:f.offset=oF:=by
   by_cases e:f.offset=oF
   ·exact e
   ·exact(hc (.inr e)).elim
  obtain⟨v,O⟩:=Cd V;obtain⟨I,U⟩:=Cd W;rw[<-hn]at v O I U;obtain⟨x,px,vx⟩:=Gr N q hn h oF v w;obtain⟨y,py,vy⟩:=Gr N q hn k oF I w;have he:=Gs d f.type k1 q D hD x y _ _ vx vy v I w;have hrest:=Gt d M (oF+n) l e3 D hD h k (by rw[sU]at O; exact O) (by rw[sU]at U; exact U) w;have hsplit:eW (h.toList.drop oF) (k.toList.drop oF) =
    (eW ((h.toList.drop oF).take n) ((k.toList.drop oF).take n)&&eW (h.toList.drop (oF+n)) (k.toList.drop (oF+n))):=by
   rw[<-Ly _ _ _ _ (by rw[<-vp v,<-vp I]),<-sU,<-sU,yq,yq]
  simp only[BG,hname,ne_eq,not_false_eq_true,if_true,cr,hoff,px,py,cf,he,hsplit];cases eW ((h.toList.drop oF).take n) ((k.toList.drop oF).take n)<;>simp[hrest]
end
def p9:List AV->Option (List ao)
 | []=>some []
 | .lit v::as=>match p9 as with
  |some l=>some (v::l)
  |none=>none
 |_=>none
def Ce{E:af}:∀{as:List AV} {l g:List ao},p9 as=some l->ax E as g->g=l
 | [],l,[],h,_=>by simp[p9]at h; exact h.symm
 | [],_,_::_,_,d=>by simp[ax]at d
 |_::_,_,[],_,d=>by simp[ax]at d
 | a::as,l,v::g,h,d=>by
  simp only[ax]at d;cases a<;>simp only[p9]at h<;>try cases h
  split at h
  ·rename_i u l' k
   cases h;have:=Ce k d.2;have h1:=d.1;simp only[ad]at h1;rw[h1,this]
  ·cases h
def pc:Option TypeDesc->Bool
 |some (.struct _)=>true
 |some (.array _ _)=>true
 |_=>false
def my(op:BinOp)(b:Bool):Option AV :=
 match op with
 |.eql=>some (.bool b)
 |.neq=>some (.bool !b)
 |_=>none
def p_:Nat:=6
def Gu(P:aj)(op:BinOp)(t:aF)(d:Bool)(a b:ao):Option AV :=
 match a,b with
 | .bool a,.bool b=>match P.underlying t with
  |some .bool=>my op (a==b)
  |_=>none
 | .slice none 0 0,.slice none 0 0=>match P.underlying t with
  |some (.slice _)=>my op true
  |_=>none
 |.nilIface,.nilIface=>if d then (match P.underlying t with|some (.interface _)=>my op true|_=>none) else none
 |_,_=>none
def lM(P:aj)(op:BinOp)(t:aF)(d:Bool)(x y:AV):Option AV :=
 match x,y with
 | .lit a,.lit b=>match lK op a b with
  |some v=>some (.lit v)
  |none=>Gu P op t d a b
 | .agg as,.agg g=>match flatK P p_ t,p9 as,p9 g with
  |some ks,some l,some m=>if P.eqGuardType P.depth t=false/\dx ks l=true/\dx ks m=true/\pc (P.underlying t)=true then my op (eW l m) else none
  |_,_,_=>none
 | .emptyS n,.lit (.slice none 0 0)=>match P.underlying t with
  |some (.slice _)=>my op n
  |_=>none
 | .listF _ rZ,.lit (.slice none 0 0)=>match P.underlying t with
  |some (.slice _)=>if 0<rZ.length then my op false else none
  |_=>none
 | .vQ _ _ _ _ m,.lit (.slice none 0 0)=>match P.underlying t with
  |some (.slice _)=>if 0<m then my op false else none
  |_=>none
 | .ifc,.lit .nilIface | .lit .nilIface,.ifc=>match P.underlying t with
  |some (.interface _)=>my op false
  |_=>none
 | .sub _ _ j,.lit (.map none)=>match P.underlying t with
  |some (.map _ _)=>my op j.isNone
  |_=>none
 |_,_=>none
def Lz{P:aj}{t:Nat}{k:IntKind}(h:cZ P t=.int k):P.underlying t=some (.int k):=by
 unfold cZ at h;split at h
 ·split at h<;>cases h
 ·split at h<;>cases h
 ·cases h
 ·rename_i h1; cases h; exact h1
 ·cases h
 ·cases h
def ow{P:aj}{op:BinOp}{b:Bool}{v:AV}{t:aF}{x y:cw}{c d:ao}{w:a_}(h:my op b=some v)
  (g:(eqGuard op t x y c d).run P w=.ok () w) (he:(BH t c d).run P w=.ok b w)
  (hb:∀ op,op=.eql\/op=.neq->(binOp op t c d)=(match op with | .eql=>(do pure (.bool (<- BH t c d)))|_=>(do pure (.bool (!(<- BH t c d)))))) :
  ∃ u,(do eqGuard op t x y c d; binOp op t c d:Sem ao).run P w=.ok u w/\∀ E,ad E v u:=by
 unfold my at h;split at h
 ·cases h
  refine⟨.bool b,?_,fun E=>by simp[ad]⟩;simp only[cr,g,cf,hb .eql (.inl rfl)];simp[he]
 ·cases h
  refine⟨.bool !b,?_,fun E=>by simp[ad]⟩;simp only[cr,g,cf,hb .neq (.inr rfl)];simp[he]
 ·cases h
end Go.AL

namespace Go.AL
open Go
variable [Dr]
def pd{P:aj}{t:aF}{c d:ao}{b:Bool}{w:a_} (h:∀ n,(kj (n+1) t c d).run P w=.ok b w) :
  (BH t c d).run P w=.ok b w:=h 9999
def VY{P:aj}{op:BinOp}{t:aF}{x y:cw} (h:((x matches .const _)||(y matches .const _))=true) (w:a_) :
  (eqGuard op t x y .nilIface .nilIface).run P w=.ok () w:=by
 cases x<;>cases y<;>first
  |(cases op<;>rfl)
  |(simp at h; done)
def VZ{P:aj}{E:af}{op:BinOp}{t:aF}{x y:cw}{p q:ao}{v:AV}{I:Bool}
  (M:I=true->((x matches .const _)||(y matches .const _))=true) (h:Gu P op t I p q=some v) :
  ∃ u,(do eqGuard op t x y p q; binOp op t p q:Sem ao).run P E.w=.ok u E.w/\ad E v u:=by
 unfold Gu at h;split at h
 ·rename_i a b
  split at h
  ·rename_i g
   obtain⟨u,h1,k⟩:=ow (P:=P) (t:=t) (x:=x) (y:=y) (c:=.bool a) (d:=.bool b) (w:=E.w) h (by cases op<;>simp[eqGuard]<;>rfl)
    (pd fun n=>by simp[kj,Sem.bF g]) (by rintro op (rfl|rfl)<;>rfl)
   exact⟨u,h1,k E⟩
  ·cases h
 ·split at h
  ·rename_i g
   obtain⟨u,h1,k⟩:=ow (P:=P) (t:=t) (x:=x) (y:=y) (c:=.slice none 0 0) (d:=.slice none 0 0) (w:=E.w) h (by cases op<;>simp[eqGuard]<;>rfl)
    (pd fun n=>by simp[kj,Sem.bF g]) (by rintro op (rfl|rfl)<;>rfl)
   exact⟨u,h1,k E⟩
  ·cases h
 ·split at h
  ·rename_i N
   split at h
   ·rename_i O g
    obtain⟨u,h1,k⟩:=ow (P:=P) (t:=t) (x:=x) (y:=y) (c:=.nilIface) (d:=.nilIface) (w:=E.w) h
     (VY (M N) _)
     (pd fun n=>by simp[kj,Sem.bF g]) (by rintro op (rfl|rfl)<;>rfl)
    exact⟨u,h1,k E⟩
   ·cases h
  ·cases h
 ·cases h
def V0{P:aj}{E:af}{op:BinOp}{t:aF}{x y:cw}{a b v:AV}{c d:ao}
  {kk:Bool} (hkk:kk=true->((x matches .const _)||(y matches .const _))=true) (h:lM P op t kk a b=some v) (g:ad E a c) (k:ad E b d) :
  ∃ u,(do eqGuard op t x y c d; binOp op t c d:Sem ao).run P E.w=.ok u E.w/\ad E v u:=by
 unfold lM at h;split at h
 ·rename_i p q
  simp only[ad]at g k;rw[g,k];clear g k c d;split at h
  ·rename_i u I
   cases h;refine⟨u,?_,by simp[ad]⟩;simp only[cr];rw[VO op t x y p q (fun _ _=>trivial) (by simp[I])];simp only[cf];exact VN op t p q u I E.w
  ·exact VZ hkk h
 ·rename_i as bs
  split at h
  case h_2=>cases h
  rename_i ks l m h1 M h3;by_cases V:P.eqGuardType P.depth t=false/\dx ks l=true/\dx ks m=true/\pc (P.underlying t)=true
  case neg=>rw[iN V]at h; cases h
  rw[iP V]at h;obtain⟨g1,g2,g3,W⟩:=V;simp only[ad]at g k;obtain⟨N,rfl,_,g⟩:=g;obtain⟨O,rfl,_,k⟩:=k;have ex:=Ce M g;have ey:=Ce h3 k;have hi:∀ z:Array ao,fq P t (.agg z) z.toList:=fun z=>by
   unfold pc at W;split at W
   ·rename_i I; simp only[fq,I]; exact⟨z,rfl,rfl⟩
   ·rename_i I; simp only[fq,I]; exact⟨z,rfl,rfl⟩
   ·cases W
  have:=Gs p_ t ks h1 10000 (by decide) (.agg N) (.agg O) l m (ex▸hi N) (ey▸hi O) g2 g3 E.w;obtain⟨u,q1,q2⟩:=ow (P:=P) (t:=t) (x:=x) (y:=y) (c:=.agg N) (d:=.agg O) (w:=E.w) h (run_eqGuard_agg E.w op t x y N O g1)
   (by simpa[BH,Op.maxDepth]using this) (by rintro op (rfl|rfl)<;>rfl)
  exact⟨u,q1,q2 E⟩
 ·simp only [ad] at g k
  subst k;obtain⟨b,cap,rfl,hb⟩:=g;split at h
  ·rename_i el I
   obtain⟨u,h1,M⟩:=ow (P:=P) (t:=t) (x:=x) (y:=y) (c:=.slice b 0 cap) (d:=.slice none 0 0) (w:=E.w) h (by cases op<;>simp[eqGuard]<;>rfl)
    (pd fun n=>by cases b<;>simp[kj,Sem.bF I]<;>simpa using hb.symm) (by rintro op (rfl|rfl)<;>rfl)
   exact⟨u,h1,M E⟩
  ·cases h
 ·rename_i ks rZ
  simp only[ad,fp,G.rZ]at g k;subst k;obtain⟨b,cap,rfl,_,hb⟩:=g;split at h
  ·rename_i el I
   split at h
   ·rename_i U
    rcases hb with rfl|⟨b',o',rfl,_⟩
    ·simp at U
    obtain⟨u,h1,M⟩:=ow (P:=P) (t:=t) (x:=x) (y:=y) (c:=.slice (some ⟨b',o',none⟩) rZ.length cap) (d:=.slice none 0 0) (w:=E.w) h (by cases op<;>simp[eqGuard]<;>rfl)
     (pd fun n=>by simp[kj,Sem.bF I]) (by rintro op (rfl|rfl)<;>rfl)
    exact⟨u,h1,M E⟩
   ·cases h
  ·cases h
 ·rename_i m
  simp only[ad]at g k;subst k;obtain⟨⟨b,cap,rfl,_,hb⟩,_⟩:=g;split at h
  ·rename_i el I
   split at h
   ·rename_i U
    obtain⟨b',o',rfl⟩:=hb U;obtain⟨u,h1,M⟩:=ow (P:=P) (t:=t) (x:=x) (y:=y) (c:=.slice (some ⟨b',o',none⟩) m cap) (d:=.slice none 0 0) (w:=E.w) h (by cases op<;>simp[eqGuard]<;>rfl)
     (pd fun n=>by simp[kj,Sem.bF I]) (by rintro op (rfl|rfl)<;>rfl)
    exact⟨u,h1,M E⟩
   ·cases h
  ·cases h
 ·simp only [ad] at g k
  subst k;obtain⟨ti,vi,rfl⟩:=g;split at h
  ·rename_i ms I
   obtain⟨u,h1,M⟩:=ow (P:=P) (t:=t) (x:=x) (y:=y) (c:=.iface ti vi) (d:=.nilIface) (w:=E.w) h (by cases op<;>simp[eqGuard]<;>rfl)
    (pd fun n=>by simp[kj,Sem.bF I]) (by rintro op (rfl|rfl)<;>rfl)
   exact⟨u,h1,M E⟩
  ·cases h
 ·simp only [ad] at g k
  subst g;obtain⟨ti,vi,rfl⟩:=k;split at h
  ·rename_i ms I
   obtain⟨u,h1,M⟩:=ow (P:=P) (t:=t) (x:=x) (y:=y) (c:=.nilIface) (d:=.iface ti vi) (w:=E.w) h (by cases op<;>simp[eqGuard]<;>rfl)
    (pd fun n=>by simp[kj,Sem.bF I]) (by rintro op (rfl|rfl)<;>rfl)
   exact⟨u,h1,M E⟩
  ·cases h
 ·rename_i id l jj
  simp only[ad]at g k;subst k;split at h
  ·rename_i kt el I
   rcases g with⟨rfl,rfl⟩|⟨i,rfl,⟨b,rfl⟩,_⟩
   ·obtain ⟨u,h1,M⟩:=ow (P:=P) (t:=t) (x:=x) (y:=y) (c:=.map none) (d:=.map none) (w:=E.w) h (by cases op<;>simp [eqGuard]<;>rfl)
     (pd fun n=>by simp[kj,Sem.bF I]) (by rintro op (rfl|rfl)<;>rfl)
    exact⟨u,h1,M E⟩
   ·obtain ⟨u,h1,M⟩:=ow (P:=P) (t:=t) (x:=x) (y:=y) (c:=.map (some b)) (d:=.map none) (w:=E.w) h (by cases op<;>simp [eqGuard]<;>rfl)
     (pd fun n=>by simp[kj,Sem.bF I]) (by rintro op (rfl|rfl)<;>rfl)
    exact⟨u,h1,M E⟩
  ·cases h
 ·cases h
def vq(op:UnOp)(x:AV):Option AV :=
 match op,x with
 |.not,.lit (.bool b)=>some (.bool !b)
 |.neg,.lit (.int k n)=>some (.lit (.int k (k.wrap (0-n))))
 |_,_=>none
def V3{P:aj}{E:af}{op:UnOp}{x v:AV}{c:ao}(h:vq op x=some v)(d:ad E x c) :
  ∃ u,(Op.unary op c).run P E.w=.ok u E.w/\ad E v u:=by
 unfold vq at h;split at h
 ·cases h
  simp only[ad]at d;subst d;exact⟨_,rfl,by simp[ad]⟩
 ·cases h
  simp only[ad]at d;subst d;exact⟨_,rfl,by simp[ad]⟩
 ·cases h
def vr(P:aj)(s d:aF)(x:AV):Option AV :=
 match P.underlying s,cZ P d,x with
 |some _,.int k,.lit (.int _ n)=>some (.lit (.int k (k.wrap n)))
 |some _,.str,.lit (.string b)=>some (.str b)
 |some _,.str,.lit (.int _ n)=>some (.str (Utf8.encode n))
 |_,_,_=>none
def V4{P:aj}{E:af}{s d:aF}{x v:AV}{c:ao}(h:vr P s d x=some v)(g:ad E x c) :
  ∃ u,(convert s d c).run P E.w=.ok u E.w/\ad E v u:=by
 unfold vr at h;split at h
 ·rename_i k n q y
  cases h;simp only[ad]at g;subst g;refine⟨_,?_,by simp only[ad]; rfl⟩;simp[convert,Sem.bF q,Sem.bF (Lz y),Conv.intToInt]
 ·rename_i b q y
  cases h;simp only[ad]at g;subst g;refine⟨_,?_,by simp only[ad]; rfl⟩;simp only[convert,cr,Sem.bF q,Sem.bF (te y),cf];rfl
 ·rename_i k n q y
  cases h;simp only[ad]at g;subst g;refine⟨_,?_,by simp only[ad]; rfl⟩;simp only[convert,cr,Sem.bF q,Sem.bF (te y),cf];rfl
 ·cases h
def q9(k:SK)(x i:AV):Option AV :=
 match i with
 | .lit (.int _ n) =>
  match k,x with
  |.str,.lit (.string s)=>if 0<=n/\n<s.size then (match s[n.toNat]? with|some b=>some (.lit (.int .u8 b.toNat))|none=>none) else none
  |.array m _ sz agg,.agg cells=>if 0<=n/\n<m then jJ agg sz (cells.drop (n.toNat*sz)) else none
  |_,_=>none
 |_=>none
def Gv{E:af}:∀{as:List AV} {d:List ao} (n:Nat),ax E as d->ax E (as.drop n) (d.drop n)
 |_,_,0,h=>by simpa using h
 | [],[],n+1,_=>by simp[ax]
 | [],_::_,_,h=>by simp[ax]at h
 |_::_,[],_,h=>by simp[ax]at h
 |a::as,v::d,n+1,h=>by simp only[ax]at h; simpa using Gv n h.2
def Gw{E:af}:∀{as:List AV} {d:List ao} (n:Nat),ax E as d->ax E (as.take n) (d.take n)
 |_,_,0,_=>by simp[ax]
 | [],[],n+1,_=>by simp[ax]
 | [],_::_,_,h=>by simp[ax]at h
 |_::_,[],_,h=>by simp[ax]at h
 |a::as,v::d,n+1,h=>by simp only[ax]at h; simp only[FT,ax]; exact⟨h.1,Gw n h.2⟩
def pe{E:af}:∀{as d:List AV} {g k:List ao},ax E as g->ax E d k->ax E (as++d) (g++k)
 | [],_,[],_,_,h=>by simpa using h
 | [],_,_::_,_,h,_=>by simp[ax]at h
 |_::_,_,[],_,h,_=>by simp[ax]at h
 |a::as,d,v::g,k,h,h'=>by simp only[ax]at h; simp only[mr,ax]; exact⟨h.1,pe h.2 h'⟩
def qa{E:af}{as:List AV}{d:List ao}(h:ax E as d){i:Nat}{a:AV}(hi:as[i]? = some a):∃ v,d[i]? = some v/\ad E a v:=by
 obtain⟨h1,q⟩:=pZ.1 h;have k:=aY hi;have g:i<d.length:=h1▸k;exact⟨d[i],bZ g,q i a _ hi (bZ g)⟩
def LA{P:aj}{E:af}{t:aF}{n:Nat}{agg:Bool}{cells:List AV}{cs:Array ao}{oF:Nat}{v:AV}(y:gl P t=some (n,agg))
  (h:jJ agg n (cells.drop oF)=some v) (g:ax E cells cs.toList) (h1:∀ x∈cs.toList,dZ x=true) :
  ∃ u,(part t cs oF).run P E.w=.ok u E.w/\ad E v u:=by
 obtain⟨i,d,hi,k,I,ha⟩:=lL y;unfold jJ at h;cases agg with
 | true =>
  simp only[if_true]at h;split at h
  ·cases h
   refine⟨.agg (cs.extract oF (oF+n)),?_,?_⟩
   ·simp[part,Sem.p8 k,ha,Sem.run_sizeOf hi,I]
   ·simp only [ad]
    have e:(cs.extract oF (oF+n)).toList=(cs.toList.drop oF).take n:=by simp
    refine⟨_,rfl,?_,?_⟩
    ·rw[e]; exact fun x M=>h1 x (BF (yo M))
    ·rw[e]; exact Gw n (Gv oF g)
  ·cases h
 | false =>
  simp only[lz,if_false]at h;rw[sT]at h;obtain⟨u,N,O⟩:=qa g h;refine⟨u,?_,O⟩;have q:cs[oF]? = some u:=by simpa using N
  simp[part,Sem.p8 k,ha,q]
def V5{P:aj}{E:af}{t:aF}{x i v:AV}{c d:ao}(h:q9 (cZ P t) x i=some v)(g:ad E x c)(hi:ad E i d) :
  ∃ u,(U_ t c d).run P E.w=.ok u E.w/\ad E v u:=by
 unfold q9 at h;split at h
 case h_2=>cases h
 rename_i k n;simp only[ad]at hi;subst hi;split at h
 ·rename_i s y
  have I:=te y;simp only[ad]at g;subst g;split at h
  case isFalse=>cases h
  rename_i q;split at h
  case h_2=>cases h
  rename_i b hb;cases h;refine⟨.int .u8 b.toNat,?_,by simp[ad]⟩;simp[U_,asIntOf,Sem.bF I,q.1,hb]
 ·rename_i m e sz agg cells y
  obtain⟨I,M⟩:=Ca y;obtain⟨ii,dd,N,g2,O,g4⟩:=lL M;split at h
  case isFalse=>cases h
  rename_i q;simp only[ad]at g;obtain⟨cs,rfl,h1,U⟩:=g;obtain⟨u,V,W⟩:=LA M h U h1;refine⟨u,?_,W⟩;simp[U_,asIntOf,Sem.bF I,q.1,q.2,Sem.run_sizeOf N,O,V]
 ·cases h
def Gx(k:FK)(x:AV):Option AV :=
 match x with
 |.agg cells=>jJ k.agg k.size (cells.drop k.oF)
 |_=>none
def V6{P:aj}{E:af}{t:aF}{f:Nat}{k:FK}{x v:AV}{c:ao}(g:vg P t f=some k)(h:Gx k x=some v)(d:ad E x c) :
  ∃ u,(ame t c f).run P E.w=.ok u E.w/\ad E v u:=by
 obtain⟨V,W,h1,q,y,I⟩:=Lt g;unfold Gx at h;split at h
 ·simp only [ad] at d
  obtain⟨cs,rfl,M,N⟩:=d;obtain⟨u,O,U⟩:=LA I h N M;refine⟨u,?_,U⟩;simp[ame,Sem.bF h1,q,asAgg,y,O]
 ·cases h
end Go.AL

namespace Go.AL
open Go
variable [Dr]
def pg:AV->Option (List AV)
 |.undef | .tuple _=>none
 |.agg cs=>some cs
 |.lit v=>if dZ v then some [.lit v] else none
 |x=>some [x]
def Cf{E:af}{x:AV}{cs:List AV}{c:ao}(h:pg x=some cs)(d:ad E x c) :
  ax E cs c.cells.toList/\∀ y∈c.cells.toList,dZ y=true:=by
 unfold pg at h;split at h
 ·cases h
 ·cases h
 ·cases h
  simp only[ad]at d;obtain⟨a,rfl,h1,g⟩:=d;exact⟨g,h1⟩
 ·rename_i v
  split at h
  ·rename_i h1
   cases h;have M:=d;simp only[ad]at d;subst d;cases c<;>simp[dZ]at h1<;>exact⟨by simp[KK,ax,ad],by simp[KK,dZ]⟩
  ·cases h
 ·rename_i h1 g q I
  cases h;have k:dZ c=true/\c.cells=#[c]:=by
   cases x<;>simp only[ad]at d
   case sub=>rcases d with⟨_,rfl⟩|⟨_,_,⟨b,rfl⟩,_⟩<;>exact⟨rfl,rfl⟩
   case undef=>exact(h1 rfl).elim
   case lit v=>exact(I v rfl).elim
   case nils=>obtain⟨b,rfl⟩:=d; exact⟨rfl,rfl⟩
   case list=>obtain⟨_,b,cap,rfl,_⟩:=d; exact⟨rfl,rfl⟩
   case listF=>simp only[fp]at d; obtain⟨b,cap,rfl,_⟩:=d; exact⟨rfl,rfl⟩
   case agg as=>exact(q as rfl).elim
   case tuple as=>exact(g as rfl).elim
   case cptr=>obtain⟨_,b,o,rfl,_⟩:=d; exact⟨rfl,rfl⟩
   case ptr=>obtain⟨⟨b,o,rfl⟩,_⟩:=d; exact⟨rfl,rfl⟩
   case vQ=>obtain⟨⟨b,o,rfl,_⟩,_⟩:=d; exact⟨rfl,rfl⟩
   case map=>obtain⟨⟨b,rfl⟩,_⟩:=d; exact⟨rfl,rfl⟩
   case clo=>obtain⟨cs,rfl,_⟩:=d; exact⟨rfl,rfl⟩
   case ifc=>obtain⟨t,v,rfl⟩:=d; exact⟨rfl,rfl⟩
   case emptyS=>obtain⟨b,cap,rfl,_⟩:=d; exact⟨rfl,rfl⟩
   case svec=>obtain⟨⟨b,o,rfl,_⟩,_⟩:=d; exact⟨rfl,rfl⟩
   case sptr=>obtain⟨⟨b,o,rfl⟩,_⟩:=d; exact⟨rfl,rfl⟩
  rw[k.2];exact⟨by simp only[ax]; exact⟨d,trivial⟩,by simpa using k.1⟩
def tg(d:Nat->Option (Nat × Nat))(cells:List AV):List (Nat × AV)->Option (List AV)
 | []=>some cells
 | (i,v)::g=>match d i,pg v with
  |some (oF,size),some cs=>if cs.length=size/\oF+cs.length<=cells.length then tg d (cells.take oF++cs++cells.drop (oF+cs.length)) g else none
  |_,_=>none
def LB(cs:Array ao):∀(l:List ao) (oF k:Nat) (cells:Array ao),oF+k+l.length<=cells.size ->
  (l.zipIdx k).foldl (fun cs (p : ao × Nat) => cs.setIfInBounds (oF + p.2) p.1) cells =
   (cells.toList.take (oF+k)++l++cells.toList.drop (oF+k+l.length)).toArray
 | [],oF,k,cells,_=>by simp
 | v::l,oF,k,cells,h=>by
  simp only[List.zipIdx_cons,List.foldl_cons];have h':oF+(k+1)+l.length<=(cells.setIfInBounds (oF+k) v).size:=by simp at h|-; omega
  rw[LB cs l oF (k+1) _ h'];congr 1;apply jG;intro i;simp only[Array.toList_setIfInBounds,gk,mX,List.length_set,oY,sT,eC,fu,cn,iF];simp at h;by_cases O:i<oF+k
  ·have d : i < min (oF + k) cells.size := by omega
   have g:i<min (oF+(k+1)) cells.size:=by omega
   have M:¬ oF+k=i:=by omega
   have y:i<oF+(k+1):=by omega
   have q:i<min (oF+k) cells.size+(l.length+1):=by omega
   have I:i<min (oF+(k+1)) cells.size+l.length:=by omega
   simp[d,g,M,y,q,I,O]
  ·by_cases U : i = oF + k
   ·subst U
    have d:¬ oF+k<min (oF+k) cells.size:=by omega
    have g:oF+k<min (oF+(k+1)) cells.size:=by omega
    have y:oF+k<oF+(k+1):=by omega
    have q:oF+k<min (oF+k) cells.size+(l.length+1):=by omega
    have I:oF+k<min (oF+(k+1)) cells.size+l.length:=by omega
    have N:oF+k-min (oF+k) cells.size=0:=by omega
    have V:oF+k<cells.size:=by omega
    simp[d,g,y,q,I,N,V]
   ·by_cases W : i < oF + k + 1 + l.length
    ·have d : ¬ i < min (oF + k) cells.size := by omega
     have g:¬ i<min (oF+(k+1)) cells.size:=by omega
     have q:i<min (oF+k) cells.size+(l.length+1):=by omega
     have I:i<min (oF+(k+1)) cells.size+l.length:=by omega
     have N:i-min (oF+k) cells.size=(i-min (oF+(k+1)) cells.size)+1:=by omega
     simp[d,g,q,I,N]
    ·have d : ¬ i < min (oF + k) cells.size + (l.length + 1) := by omega
     have g:¬ i<min (oF+(k+1)) cells.size+l.length:=by omega
     have M:oF+k+(l.length+1)+(i-(min (oF+k) cells.size+(l.length+1)))=i:=by omega
     have y:oF+(k+1)+l.length+(i-(min (oF+(k+1)) cells.size+l.length))=i:=by omega
     have q:¬ oF+k=i:=by omega
     simp[d,g,M,y,q]
def yJ{E:af}{I:Nat->Option (Nat × Nat)}:∀{parts:List (Nat × AV)} {k:List (Nat × ao)} {cells:List AV} {cs:Array ao} {out:List AV},
  tg I cells parts=some out->ax E cells cs.toList->(∀ x∈cs.toList,dZ x=true) ->
  parts.map (·.1)=k.map (·.1)->ax E (parts.map (·.2)) (k.map (·.2)) ->
  ∃ o,amf I cs k=some o/\ax E out o.toList/\∀ x∈o.toList,dZ x=true
 | [],[],cells,cs,out,h,g,h1,_,_=>by
  simp only[tg,bf]at h;subst h;exact⟨cs,rfl,g,h1⟩
 | [],_::_,_,_,_,_,_,_,hm,_=>by simp at hm
 |_::_,[],_,_,_,_,_,_,hm,_=>by simp at hm
 | (i,v)::ps,(j,c)::cps,cells,cs,out,h,g,h1,hm,q=>by
  simp only[dC,KL]at hm;obtain⟨rfl,hm⟩:=hm;simp only[dC,ax]at q;simp only[tg]at h;split at h
  case h_2=>cases h
  rename_i oF size y V W;split at h
  case isFalse=>cases h
  rename_i hcond;obtain⟨N,g2⟩:=Cf W q.1;have O:=jZ N;have U:=jZ g;have hsz:y.length=c.cells.size:=by simpa using O
  have hsz2:cells.length=cs.size:=by simpa using U
  have M:(c.cells.zipIdx.foldl (fun cs (x:ao × Nat)=>cs.setIfInBounds (oF+x.2) x.1) cs) =
    (cs.toList.take oF++c.cells.toList++cs.toList.drop (oF+c.cells.toList.length)).toArray:=by
   rw[<-Array.foldl_toList,Array.toList_zipIdx];have:=LB cs c.cells.toList oF 0 cs (by simp; omega);simpa using this
  simp only[amf,V];rw[iN (by simp; omega)];refine yJ (cells:=cells.take oF++y++cells.drop (oF+y.length)) h ?_ ?_ hm q.2
  ·rw [M]
   simp only[];refine pe (pe (Gw oF g) N) ?_;rw[O];exact Gv _ g
  ·rw [M]
   intro x d;simp only[db]at d;rcases d with(d|d)|d
   ·exact h1 x (yo d)
   ·exact g2 x d
   ·exact h1 x (BF d)
def LC(P:aj)(t:aF):Option (List (Nat × Nat)) :=
 match P.underlying t with
 |some (.struct g)=>g.toList.mapM fun d=>(gl P d.type).map fun p=>(d.offset,p.1)
 |_=>none
def ox{P:aj}{t:aF}{z:List ao}(h:fF P t=some z) :
  ∃ i v,P.info? t=some i/\i.zero=some v/\v.cells.toList=z/\∀ x∈z,dZ x=true:=by
 unfold fF at h;split at h
 ·rename_i i hi
  split at h
  ·rename_i v d
   split at h
   ·rename_i g
    cases h;exact⟨i,v,hi,d,rfl,dN.1 g⟩
   ·cases h
  ·cases h
 ·cases h
def oy{P:aj}{t:aF}{i:TypeInfo}{v:ao}(hi:P.info? t=some i)(d:i.zero=some v)(w:a_):(zeroValue t).run P w=.ok v w:=by
 simp[zeroValue,typeInfo,hi,d]
def LD{P:aj}{w:a_}:∀(g:List Field) (k:List (Nat × Nat)),(g.mapM fun q=>(gl P q.type).map fun p=>(q.offset,p.1))=some k ->
  (g.mapM fun(f:Field)=>(do pure (f.offset,<-sizeOf f.type):Sem (Nat × Nat))).run P w=.ok k w
 | [],k,h=>by simp at h; subst h; simp
 | f::g,k,h=>by
  simp only[U',Option.bind_eq_bind,Option.pure_def,Option.bind_eq_some_iff,eL]at h;obtain⟨x,⟨⟨n,a⟩,h1,rfl⟩,l,v,y⟩:=h;cases y;obtain⟨i,d,I,N,M,O⟩:=lL h1;have:=LD (w:=w) g l v;simp only[U',cr,Sem.run_sizeOf I,cf,ft,M];rw[this];rfl
def Gy(P:aj)(t:aF)(parts:List (Nat × AV)):Option AV :=
 match fF P t with
 | some z=>match LC P t with
  |some d=>(tg (fun i=>d[i]?) (z.map .lit) parts).map .agg
  | none=>match cZ P t with
   |.array _ _ sz _=>(tg (fun i=>some (i*sz,sz)) (z.map .lit) parts).map .agg
   |_=>none
 |none=>none
def V7{P:aj}{E:af}{t:aF}{parts:List (Nat × AV)}{cparts:List (Nat × ao)}{v:AV}(h:Gy P t parts=some v)
  (hm:parts.map (·.1)=cparts.map (·.1)) (N:ax E (parts.map (·.2)) (cparts.map (·.2))) :
  ∃ u,(Va t cparts.toArray).run P E.w=.ok u E.w/\ad E v u:=by
 unfold Gy at h;split at h
 case h_2=>cases h
 rename_i z hz;obtain⟨i,O,U,V,g,W⟩:=ox hz;split at h
 ·rename_i k d
  unfold LC at d;split at d
  case h_2=>cases d
  rename_i fs q;simp only[eL]at h;obtain⟨out,ho,rfl⟩:=h;obtain⟨o,y,I,M⟩:=yJ (cs:=O.cells) ho (by rw[g]; exact p7 z) (by rw[g]; exact W) hm N;refine⟨.agg o,?_,by simp only[ad]; exact⟨o,rfl,M,I⟩⟩;have hmp:(fs.mapM fun(f:Field)=>(do pure (f.offset,<-sizeOf f.type):Sem (Nat × Nat))).run P E.w=.ok k.toArray E.w:=by
   have:=LD (w:=E.w) fs.toList k d;rw[Array.mapM_eq_mapM_toList,Sem.run_map,this];rfl
  simp only[Va,cr,oy U V,cf,Sem.bF q];rw[hmp];simp only[cf];have e:(fun(x:Nat)=>(k.toArray)[x]?)=fun(i:Nat)=>k[i]? := by funext i; simp
  rw[e,y];rfl
 ·split at h
  case h_2=>cases h
  rename_i n e sz ag hk;obtain⟨q,hvk⟩:=Ca hk;obtain⟨ie,de,q1,q2,q3,q4⟩:=lL hvk;simp only[eL]at h;obtain⟨out,ho,rfl⟩:=h;obtain⟨o,y,I,M⟩:=yJ (cs:=O.cells) ho (by rw[g]; exact p7 z) (by rw[g]; exact W) hm N;refine⟨.agg o,?_,by simp only[ad]; exact⟨o,rfl,M,I⟩⟩;simp only[Va,cr,oy U V,cf,Sem.bF q,Sem.run_sizeOf q1,q3,y];rfl
def chunk(sz:Nat):Nat->List AV->List (List AV)
 |0,_=>[]
 |n+1,l=>l.take sz::chunk sz n (l.drop sz)
def yK(sz:Nat):∀(n:Nat) (l:List AV),(chunk sz n l).length=n
 |0,_=>rfl
 |n+1,l=>by simp[chunk,yK sz n]
def Gz(sz:Nat):∀(n:Nat) (l:List AV),AV.bM l=true->fv (chunk sz n l)
 |0,_,_=>by intro r d; simp[chunk]at d
 | n+1,l,h=>by
  intro r d;simp only[chunk,cq]at d;rcases d with rfl|d
  ·exact yF _ _ h
  ·exact Gz sz n _ (vk _ _ h) r d
def LF{E:af}(sz:Nat):∀(n:Nat) (l:List AV) (b o:Nat),l.length=n*sz->cV E l b o->cY E sz (chunk sz n l) b o
 |0,_,_,_,_,_=>by simp[chunk,cY]
 | n+1,l,b,o,d,h=>by
  simp only[chunk,cY];have:sz<=l.length:=by rw[d,gx]; omega
  refine⟨by simp; omega,B_ h sz,LF sz n _ b (o+sz) (by simp[d,gx]) (td h sz)⟩
def Cg{E:af}{as:List AV}{cs:Array ao}{b:Nat}{el:aF}{fr:Nat × Nat}(hb:E.w.heap[b]? = some (.cells cs el fr))(g:ax E as cs.toList)
  (h1:∀ x∈cs.toList,dZ x=true):cV E as b 0:=by
 rw[kn];intro i a hi;obtain⟨v,d,h⟩:=qa g hi;refine⟨v,?_,h1 v (eS d),h⟩;simp only[cP,uS,hb];simpa using d
end Go.AL

namespace Go.AL
open Go
variable [Dr]
def vt(v:ao):v.oneCell'=dZ v:=by cases v<;>rfl
def setRow_size(w:a_)(g:Nat)(cs:Array ao):(w.setRow g cs).heap.size=w.heap.size:=by simp[amg]
def setRow_other(w:a_)(g:Nat)(cs:Array ao)(x:Nat)(h:x≠g):(w.setRow g cs).heap[x]? = w.heap[x]? := by
 simp only[amg];rw[Array.getElem?_modify];split
 ·rename_i e; exact(h e.symm).elim
 ·rfl
structure Src (P:aj) (E:af) (sz:Nat) (rZ:List (List AV)) (xt:aF) (x:ao) (news:List ao):Prop where
 len:∀ w,(KM x).run P w=.ok rZ.length w
 cells:∀ w,(∀ b o,b<E.w.heap.size->w.cell? ⟨b,o,none⟩=E.w.cell? ⟨b,o,none⟩)->(kl sz rZ.length x).run P w=.ok news.toArray w
 ad:ax E rZ.flatten news
 one:∀ v∈news,dZ v=true
 wide:∀ r∈rZ,r.length=sz
 closed:fv rZ
 kind:∃ d,P.underlying xt=some d/\∀ k,d≠.int k
def Src.length{P:aj}{E:af}{sz:Nat}{rZ:List (List AV)}{xt:aF}{x:ao}{news:List ao}(h:Src P E sz rZ xt x news):news.length=rZ.length*sz:=by
 rw[<-jZ h.ad];have:∀(l:List (List AV)),(∀ r∈l,r.length=sz)->l.flatten.length=l.length*sz:=by
  intro l d
  induction l with
  |nil=>simp
  |cons a l g=>simp[g (fun r k=>d r (by simp[k])),d a (by simp),gx,yk]
 exact this rZ h.wide
def Ch{E:af}{k:Nat}:∀{rZ:List (List AV)} {b o:Nat},cY E k rZ b o->cV E rZ.flatten b o
 | [],_,_,_=>by simp[cV]
 | r::rZ,b,o,h=>by
  simp only[cY]at h;obtain⟨h1,d,g⟩:=h;have q:=Ch g;rw[kn]at *;intro i a hi;simp only[pT,gk]at hi;split at hi
  ·exact d i a hi
  ·rename_i N
   obtain⟨v,y,I,M⟩:=q (i-r.length) a hi;refine⟨v,?_,I,M⟩;rw[<-y];congr 2;omega
def Ci{E:af}{k:Nat}:∀{rZ:List (List AV)} {b o:Nat},(∀ r∈rZ,r.length=k)->cV E rZ.flatten b o->cY E k rZ b o
 | [],_,_,_,_=>by simp[cY]
 | r::rZ,b,o,d,h=>by
  simp only[cY];have g:=d r (by simp);refine⟨g,?_,?_⟩
  ·have := B_ h r.length
   simpa using this
  ·have := td h r.length
   simp at this;rw[g]at this;exact Ci (fun x q=>d x (by simp[q])) this
def oz(sz:Nat)(x:AV)(H:List ai):Option (List (List AV)) :=
 match x with
 |.nils | .lit (.slice none 0 0)=>some []
 |.emptyS _=>some []
 |.list w rZ=>if w=sz then some rZ else none
 |.listF ks rZ=>if ks.length=sz then some (rZ.map (aX ks)) else none
 | .vQ w id al oF n=>match H[id]? with
  |some (.vQ k v rZ)=>if w=sz/\k=w/\v=al/\oF+n<=rZ.length then some ((rZ.drop oF).take n) else none
  |_=>none
 |.lit (.string s)=>if sz=1 then some (s.data.toList.map fun b=>[.lit (.int .u8 b.toNat)]) else none
 |_=>none
def LH{α β:Type}(f:α->β):∀(l:List α),(l.map fun b=>[f b]).flatten=l.map f
 | []=>rfl
 |a::l=>by simp[LH f l]
def Cj{P:aj}{E:af}{sz:Nat}{rZ:List (List AV)}{b o cap:Nat}(d:cY E sz rZ b o)(hb:b<E.w.heap.size) :
  ∃ news,ax E rZ.flatten news/\(∀ v∈news,dZ v=true) /\
   ∀ w,(∀ b o,b<E.w.heap.size->w.cell? ⟨b,o,none⟩=E.w.cell? ⟨b,o,none⟩)->(kl sz rZ.length (.slice (some ⟨b,o,none⟩) rZ.length cap)).run P w=.ok news.toArray w:=by
 obtain⟨g,k,q,y⟩:=yG (Ch d);refine⟨g,k,q,fun w I=>?_⟩;refine run_firstCells_some (P:=P) w sz rZ.length ⟨b,o,none⟩ rZ.length cap g ?_ ?_
 ·rw [<- jZ k]
  have:∀(l:List (List AV)) (o:Nat),cY E sz l b o->l.flatten.length=l.length*sz:=by
   intro l
   induction l with
   |nil=>intros; simp
   | cons a l M =>
    intro o h;simp only[cY]at h;simp[M _ h.2.2,h.1,gx,yk]
  exact this rZ o d
 ·intro j v N
  rw[mw,I b _ hb];exact y j v N
def V8{P:aj}{E:af}(HE:aJ E){sz:Nat}{x:AV}{c:ao}{rZ:List (List AV)}{xt:aF}(h:oz sz x E.H=some rZ)(g:ad E x c)
  (q:∃ d,P.underlying xt=some d/\∀ k,d≠.int k):∃ news,Src P E sz rZ xt c news:=by
 unfold oz at h;split at h
 ·cases h
  simp only[ad]at g;obtain⟨aN,rfl⟩:=g;refine⟨[],⟨fun w=>rfl,fun w _=>?_,by simp[ax],by simp,by simp,(by intro r g; cases g),q⟩⟩;cases aN<;>simp[kl,loadCells,loadCellsFrom]
 ·cases h
  simp only[ad]at g;subst g;exact⟨[],⟨fun w=>rfl,fun w _=>by simp[kl],by simp[ax],by simp,by simp,(by intro r g; cases g),q⟩⟩
 ·cases h
  simp only[ad]at g;obtain⟨aN,cap,rfl,_⟩:=g;refine⟨[],⟨fun w=>rfl,fun w _=>?_,by simp[ax],by simp,by simp,(by intro r g; cases g),q⟩⟩;cases aN<;>simp[kl,loadCells,loadCellsFrom]
 ·rename_i w rows'
  split at h
  case isFalse=>cases h
  rename_i hw;subst hw;cases h;simp only[ad]at g;obtain⟨U,aN,cap,rfl,hle,hh⟩:=g;rcases hh with rfl|⟨b,o,rfl,V,I⟩
  ·refine ⟨[], ⟨fun w => rfl, fun w _ => ?_, by simp [ax], by simp, by simp, (by intro r g; cases g), q⟩⟩
   cases aN<;>simp[kl,loadCells,loadCellsFrom]
  ·obtain ⟨news, M, N, y⟩ := Cj (P := P) (cap := cap) I V.1
   exact⟨news,⟨fun w=>rfl,y,M,N,fun r g=>by
    obtain⟨i,hi⟩:=yr g;exact(oq I hi).1,U,q⟩⟩
 ·rename_i ks rows0
  split at h
  case isFalse=>cases h
  rename_i hw;subst hw;cases h;have g:=kq.1 g;generalize rows0.map (aX ks)=rZ at g;simp only[ad]at g;obtain⟨U,aN,cap,rfl,hle,hh⟩:=g;rcases hh with rfl|⟨b,o,rfl,V,I⟩
  ·refine ⟨[], ⟨fun w => rfl, fun w _ => ?_, by simp [ax], by simp, by simp, (by intro r g; cases g), q⟩⟩
   cases aN<;>simp[kl,loadCells,loadCellsFrom]
  ·obtain ⟨news, M, N, y⟩ := Cj (P := P) (cap := cap) I V.1
   exact⟨news,⟨fun w=>rfl,y,M,N,fun r g=>by
    obtain⟨i,hi⟩:=yr g;exact(oq I hi).1,U,q⟩⟩
 ·rename_i w id al oF n
  split at h
  case h_2=>cases h
  rename_i k v rows' hid;split at h
  case isFalse=>cases h
  rename_i hc;obtain⟨rfl,rfl,rfl,hle⟩:=hc;cases h;simp only[ad]at g;obtain⟨⟨aN,cap,rfl,hcap,_⟩,_,h6⟩:=g;obtain⟨q1,q2⟩:=h6 ⟨_,hid,rfl⟩;have hn:((rows'.drop oF).take n).length=n:=by simp; omega
  rcases HE.obj id _ hid with⟨O,e2⟩|⟨b,m,O,e2,e3,e4,e5⟩
  ·obtain ⟨rfl, rfl, base', e⟩ := q1 O
   subst e2;refine⟨[],⟨fun w=>by rw[hn]; rfl,fun w _=>?_,by simp[ax],by simp,by simp,(by intro r g; simp at g),q⟩⟩;cases aN<;>simp[kl,loadCells,loadCellsFrom]
  ·obtain ⟨p1, o, p2, p3⟩ := q2 b m O
   simp only[mq]at p3;obtain⟨rfl,_,rfl⟩:=p3;by_cases hm:oF<m
   ·rw [p2 hm]
    have W:=Lw e5 oF n;simp only[cP]at W;obtain⟨news,M,N,y⟩:=Cj (P:=P) (cap:=m-oF) W (HE.lt id b m O).1;rw[hn]at y;refine⟨news,⟨fun w=>by rw[hn]; rfl,by rw[hn]; exact y,M,N,fun r g=>?_,fun r g=>e4 r (BF (yo g)),q⟩⟩;obtain⟨i,hi⟩:=yr g;exact(oq W hi).1
   ·have hz : n = 0 := by omega
    subst hz;refine⟨[],⟨fun w=>by rw[hn]; rfl,fun w _=>?_,by simp[ax],by simp,by simp,(by intro r g; simp at g),q⟩⟩;simp[kl,loadCells,loadCellsFrom]
 ·rename_i s
  split at h
  case isFalse=>cases h
  rename_i hs;subst hs;cases h;simp only[ad]at g;subst g;refine⟨s.data.toList.map fun b=>.int .u8 b.toNat,⟨fun w=>by simp[KM],fun w _=>?_,?_,?_,?_,?_,q⟩⟩
  ·simp only [c8, iF, kl]
   have:s.extract 0 s.data.size=s:=by
    have:=ByteArray.extract_zero_size (b:=s);exact this
   rw[this,<-Vc];rfl
  ·rw [LH]
   have:=p7 (E:=E) (s.data.toList.map fun b=>.int .u8 b.toNat);rw[List.map_map]at this;exact this
  ·intro v hv; simp at hv; obtain⟨b,_,rfl⟩:=hv; rfl
  ·intro r g; simp at g; obtain⟨b,_,rfl⟩:=g; rfl
  ·intro r g; simp at g; obtain⟨b,_,rfl⟩:=g; simp[AV.bM,AV.closed]
 ·cases h
def vu(P:aj)(t xt:aF)(s x:AV)(H:List ai):Option (AV × List ai) :=
 match cZ P t with
 | .slice e sz g =>
  match fF P e,(match cZ P xt with | .slice _ _ _ | .str=>true|_=>false),oz sz x H with
  | some z,true,some d =>
   if z.length=sz/\d.length<=1048576/\g<=1048576 then
    match s with
    |.nils | .lit (.slice none 0 0)=>some (.vQ sz H.length 0 0 d.length,H++[.vQ sz 0 d])
    | .vQ w id al oF n=>match H[id]? with
     | some (.vQ k v rZ) =>
      if k=w/\w=sz/\v=al/\oF=0/\n=rZ.length/\rZ.length+d.length<=1048576 then
       some (.vQ w id (al+1) 0 (n+d.length),H.set id (.vQ k (al+1) (rZ++d)))
      else none
     |_=>none
    |_=>none
   else none
  |_,_,_=>none
 |_=>none
def GA{P:aj}{w w':a_}{t xt ty e:aF}{i:TypeInfo}{sz:Nat}{aN:Option Addr}{n cap m:Nat}{x:ao}{d:TypeDesc}
  (q:P.underlying t=some (.slice e)) (v:P.underlying xt=some d) (_hd:∀ k,d≠.int k) (hi:P.info? e=some i) (y:i.size=sz)
  (I:(KM x).run P w=.ok m w) (h:n+m<=cap) {news:List ao} (hn:(kl sz m x).run P w=.ok news.toArray w)
  (g:(match aN with|some a=>storeCells (a.add (n*sz)) news|none=>(pure ():Sem Unit)).run P w=.ok () w') :
  (pU #[t,xt] ty #[.slice aN n cap,x]).run P w=.ok (.slice aN (n+m) cap) w':=by
 cases aN with
 | none =>
  simp at g;subst g;simp[pU,run_underlying q,run_underlying v,sizeOf,typeInfo,hi,y,I,h,hn]
 | some a =>
  simp only[]at g;simp[pU,run_underlying q,run_underlying v,sizeOf,typeInfo,hi,y,I,h,hn,g]
def LI{P:aj}{w:a_}{t xt ty e:aF}{i:TypeInfo}{z:ao}{sz:Nat}{aN:Option Addr}{n cap m:Nat}{x:ao}{d:TypeDesc}
  (q:P.underlying t=some (.slice e)) (v:P.underlying xt=some d) (U:∀ k,d≠.int k) (hi:P.info? e=some i) (y:i.size=sz) (I:i.zero=some z)
  (M:(KM x).run P w=.ok m w) (g:cap<n+m) {olds news:List ao}
  (ho:(kl sz n (.slice aN n cap)).run P w.drew=.ok olds.toArray w.drew)
  (hn:(kl sz m x).run P w.drew=.ok news.toArray w.drew)
  (h:n+m<=1048576) (hb:i.bytes<=1048576) :
  ∃ C,n+m<=C/\(pU #[t,xt] ty #[.slice aN n cap,x]).run P w =
   .ok (.slice (some ⟨w.heap.size,0,none⟩) (n+m) C) (w.drew.alloc (.cells (olds++news++(BI z.cells (C-(n+m))).toList).toArray e)):=by
 have h1:¬ (n+m<=cap):=by omega
 have N:¬ (9223372036854775807<((n:Int)+(m:Int))):=by omega
 have V:KN (n+m) cap*i.bytes<=281474976710656:=growslice_fits g (by
  have:=Nat.mul_le_mul h hb;omega)
 have O:¬ (281474976710656<KN (n+m) cap*i.bytes):=by omega
 refine⟨grownCap w (n+m) cap e,?_,?_⟩
 ·simp[grownCap,Question.cut]
 ·simp [pU, run_underlying q, run_underlying v, sizeOf, typeInfo, zeroValue, hi, I, y, M, h1, N, O, Question.forced, hn, ho, newRow, grownCap]
  congr 2;apply jo;simp
def dc(E:af)(v:AV)(H':List ai)(u:ao)(w':a_):Prop :=
 ∃ d g,ad { w:=w',H:=H',ae:=d,X:=E.X.re g } v u/\aJ { w:=w',H:=H',ae:=d,X:=E.X.re g }/\E.le { w:=w',H:=H',ae:=d,X:=E.X.re g }
def LJ{E:af}{as:List AV}{cs:Array ao}{vs tl:List ao}{b:Nat}{g:aF}{fr:Nat × Nat}(hb:E.w.heap[b]? = some (.cells cs g fr))(h:ax E as vs)
  (k:cs.toList=vs++tl) (h1:∀ x∈vs,dZ x=true):cV E as b 0:=by
 rw[kn];intro i a hi;obtain⟨v,d,q⟩:=qa h hi;refine⟨v,?_,h1 v (eS d),q⟩;simp only[cP,uS,hb];have:cs.toList[i]? = some v:=by rw[k,di (aY d)]; exact d
 simpa using this
def V9{E:af}{as:List AV}{cs:Array ao}{b:Nat}{y:aF}{fr:Nat × Nat}(hb:E.w.heap[b]? = some (.cells cs y fr))(I:cV E as b 0) :
  ax E as (cs.toList.take as.length)/\(∀ x∈cs.toList.take as.length,dZ x=true)/\as.length<=cs.size:=by
 obtain⟨d,q,M,N⟩:=yG I;have O:=jZ q;have k:∀(j:Nat) v,d[j]? = some v->cs.toList[j]? = some v:=by
  intro j v g;have:=N j v g;simpa[uS,hb]using this
 have U:d.length<=cs.size:=by
  rcases Nat.eq_zero_or_pos d.length with h|h
  ·omega
  ·have := k (d.length - 1) d[d.length - 1] (bZ (by omega))
   have:=aY this;simp at this;omega
 have:cs.toList.take as.length=d:=by
  rw[O];apply jG;intro j;rw[oY];split
  ·rename_i g
   rw[k j d[j] (bZ g),bZ g]
  ·rename_i g
   rw[oX (by omega)]
 rw[this];exact⟨q,M,by omega⟩
def vw{sz:Nat}:∀{l:List (List AV)},(∀ r∈l,r.length=sz)->l.flatten.length=l.length*sz
 | [],_=>by simp
 |a::l,h=>by simp[vw (l:=l) (fun r d=>h r (by simp[d])),h a (by simp),gx,yk]
def GB{E:af}{k:Nat}{rZ:List (List AV)}{b o:Nat}(h:cY E k rZ b o):∀ r∈rZ,r.length=k:=by
 intro r d;obtain⟨i,hi⟩:=yr d;exact(oq h hi).1
def LK(w:a_)(o:Obj):Ext w (w.drew.alloc o) :=
 ⟨by show w.heap.size <= (w.heap.push o).size; simp, fun b hb => by
  show (w.heap.push o)[b]? = _
  simp[U6,al9 hb],⟨rfl,rfl,rfl,by first|exact fun _=>aM _|exact fun _=>gY _ _⟩⟩
def LM(w:a_)(o:Obj):(w.drew.alloc o).heap[w.heap.size]? = some o:=by
 show (w.heap.push o)[w.heap.size]? = _
 simp
def GC{E E':af}{sz m C:Nat}{rZ:List (List AV)}{vals:List ao}{g:List ao}{b:Nat}{e:aF}(M:∀ a c,ad E a c->ad E' a c)
  (hb:E'.w.heap[b]? = some (.cells (vals++g).toArray e (0,0))) (d:ax E rZ.flatten vals) (h1:∀ x∈vals,dZ x=true)
  (h:∀ r∈rZ,r.length=sz) (q:rZ.length=m) (hC:m<=C) (k:g.length=(C-m)*sz) :
  isRow E'.w b (C*sz)/\cY E' sz rZ b 0:=by
 have y:ax E' rZ.flatten vals:=by
  rw[pZ]at *;exact⟨d.1,fun i a v ha I=>M a v (d.2 i a v ha I)⟩
 refine⟨⟨_,e,hb,?_⟩,Ci h (LJ hb y (by simp; rfl) h1)⟩;have:=jZ d;rw[vw h,q]at this;simp only[BJ,fu,<-this,k,<-gx];congr 1;omega
def LN{P:aj}{e:aF}{z:List ao}(h:fF P e=some z):∃ i v,P.info? e=some i/\i.zero=some v/\v.cells.toList=z :=
 let ⟨i,v,h1,d,g,_⟩:=ox h
 ⟨i,v,h1,d,g⟩
def LO{E:af}(HE:aJ E){sz C m:Nat}{d:List (List AV)}{g h:List ao}{e:aF}(k:ax E d.flatten g)(h1:∀ x∈g,dZ x=true)
  (V:∀ r∈d,r.length=sz) (U:fv d) (hm:d.length=m) (hC:m<=C) (N:h.length=(C-m)*sz) :
  dc E (.vQ sz E.H.length 0 0 m) (E.H++[.vQ sz 0 d]) (.slice (some ⟨E.w.heap.size,0,none⟩) m C) (E.w.drew.alloc (.cells (g++h).toArray e)):=by
 have q:=LK E.w (.cells (g++h).toArray e);have I:=af.mv (o:=.vQ sz 0 d) (l:=some (E.w.heap.size,C)) HE.len q (fun b n hb=>by cases hb; exact aM _);have O:=LM E.w (.cells (g++h).toArray e);have y:=GC (E':=E.push (E.w.drew.alloc (.cells (g++h).toArray e)) (.vQ sz 0 d) (some (E.w.heap.size,C))) (fun a c k=>bD I a k) O k h1 V hm hC N;refine⟨E.ae++[some (E.w.heap.size,C)],E.X.r,?_,aJ.push HE q (fun b n hb=>?_) ?_,I⟩
 ·simp only [ad]
  refine⟨⟨_,_,rfl,hC,fun _=>⟨_,_,rfl⟩⟩,⟨.vQ sz 0 d,by simp,rfl,fun v W=>by simp[ai.aV]at W; omega⟩,fun _=>⟨fun hn=>?_,fun b M hn=>?_⟩⟩
  ·rw[<-HE.len]at hn; simp at hn
  ·rw [<- HE.len] at hn
   simp at hn;obtain⟨rfl,rfl⟩:=hn;exact⟨by omega,0,fun _=>by simp,by simp⟩
 ·cases hb
  exact⟨aM _,by show _<(E.w.heap.push _).size; simp⟩
 ·simp only [aZ]
  right;refine⟨E.w.heap.size,C,?_,y.1,by omega,U,y.2⟩;simp only[af.push];rw[<-HE.len];simp
def V_{E:af}(HE:aJ E){sz:Nat}(aN:Option Addr) :
  dc E (.vQ sz E.H.length 0 0 0) (E.H++[.vQ sz 0 []]) (.slice aN 0 0) E.w:=by
 have d:=af.mv (o:=.vQ sz 0 []) (l:=none) HE.len (Ext.refl E.w) (fun b n hb=>by cases hb);refine⟨E.ae++[none],E.X.r,?_,aJ.push HE (Ext.refl _) (fun b n hb=>by cases hb) ?_,d⟩
 ·simp only [ad]
  refine⟨⟨_,_,rfl,aM _,fun h=>by omega⟩,⟨.vQ sz 0 [],by simp,rfl,fun v g=>by simp[ai.aV]at g; omega⟩,fun _=>⟨fun _=>⟨trivial,trivial,aN,rfl⟩,fun b M hn=>?_⟩⟩;rw[<-HE.len]at hn;simp at hn
 ·simp only [aZ]
  left;refine⟨?_,trivial⟩;simp only[af.push];rw[<-HE.len];simp
def GD(P:aj)(a:Addr)(w:a_):(storeCells a []).run P w=.ok () w:=rfl
def GF{P:aj}{E:af}{sz:Nat}{rZ:List (List AV)}{xt:aF}{x:ao}{news:List ao}(h:Src P E sz rZ xt x news)(d:rZ=[]):news=[]:=by
 have:=h.length;rw[d]at this;simp at this;exact this
def LP{P:aj}{E:af}(HE:aJ E){t xt ty e:aF}{sz y:Nat}{z:List ao}{h:List (List AV)}{aN:Option Addr}{q:ao}{news:List ao}
  (hk:cZ P t=.slice e sz y) (hz:fF P e=some z) (g:Src P E sz h xt q news) (hb1:h.length<=1048576) (hb2:y<=1048576) (W:z.length=sz) :
  ∃ u w',(pU #[t,xt] ty #[.slice aN 0 0,q]).run P E.w=.ok u w'/\dc E (.vQ sz E.H.length 0 0 h.length) (E.H++[.vQ sz 0 h]) u w':=by
 obtain⟨O,i,hi,U,hby⟩:=jq hk;obtain⟨i',zv,I,hz1,hz2⟩:=LN hz;rw[hi]at I;cases I;obtain⟨d,M,N⟩:=g.kind;cases k:h with
 | nil =>
  have hn:=GF g k;subst hn;subst k;refine⟨.slice aN (0+0) 0,E.w,GA (m:=0) O M N hi U (g.len E.w) (aM _) (g.cells E.w (fun _ _ _=>rfl)) ?_,V_ HE aN⟩;cases aN with
  |none=>rfl
  |some a=>exact GD P _ _
 | cons r rs =>
  rw[<-k];have hpos:0<h.length:=by rw[k]; simp
  have V:∀ b o,b<E.w.heap.size->E.w.drew.cell? ⟨b,o,none⟩=E.w.cell? ⟨b,o,none⟩:=fun _ _ _=>rfl;obtain⟨C,hC,v⟩:=LI (P:=P) (w:=E.w) (ty:=ty) (aN:=aN) (n:=0) (cap:=0) (m:=h.length) (x:=q) (olds:=[]) O M N hi U hz1 (g.len E.w) (by omega)
   (by cases aN<;>simp[kl,loadCells,loadCellsFrom]) (g.cells _ V) (by omega) (by omega)
  simp only[cP,List.nil_append]at v;refine⟨_,_,v,LO HE g.ad g.one g.wide g.closed rfl (by omega) ?_⟩;simp only[iF,size_zeroCells];rw[<-W,<-hz2];simp
def Wa{P:aj}{xt:aF}(h:(match cZ P xt with | .slice _ _ _ | .str=>true|_=>false)=true):∃ d,P.underlying xt=some d/\∀ k,d≠.int k:=by
 split at h
 ·rename_i g
  exact⟨_,(jq g).1,by simp⟩
 ·rename_i g
  exact⟨_,te g,by simp⟩
 ·cases h
def ph{α:Type}{l:List α}{i:Nat}{x:α}(h:l[i]? = some x):l.set i x=l:=by
 apply jG;intro j;rw[eC];split
 ·rename_i e
  subst e;rw[h];split
  ·rfl
  ·rename_i d; exact(d (aY h)).elim
 ·rfl
def Wb{P:aj}{E:af}(HE:aJ E){t xt ty e id al:aF}{sz by_:Nat}{z:List ao}{rZ g:List (List AV)}{c cx:ao}{news:List ao}
  (hk:cZ P t=.slice e sz by_) (hz:fF P e=some z) (k:Src P E sz g xt cx news) (hb1:rZ.length+g.length<=1048576) (hb2:by_<=1048576) (hzl:z.length=sz)
  (N:E.H[id]? = some (.vQ sz al rZ)) (q:ad E (.vQ sz id al 0 rZ.length) c) :
  ∃ u w',(pU #[t,xt] ty #[c,cx]).run P E.w=.ok u w' /\
   dc E (.vQ sz id (al+1) 0 (rZ.length+g.length)) (E.H.set id (.vQ sz (al+1) (rZ++g))) u w':=by
 obtain⟨W,i,hi,hs,hby⟩:=jq hk;obtain⟨i',zv,hi',hz1,hz2⟩:=LN hz;rw[hi]at hi';cases hi';obtain⟨d,hd1,hd2⟩:=k.kind;simp only[ad]at q;obtain⟨⟨aN,cap,rfl,hcap,hbase⟩,hpast,hlive⟩:=q;obtain⟨q1,q2⟩:=hlive ⟨_,N,rfl⟩;have hlt:=aY N;have hverlt:(∀ v,(ai.vQ sz (al+1) (rZ++g)).aV = some v->∀ u,(ai.vQ sz al rZ).aV = some u->u<v):=by
  intro v hv u W; simp[ai.aV]at hv W; omega
 have hup:∀ v u,(ai.vQ sz (al+1) (rZ++g)).aV = some v->(ai.vQ sz al rZ).aV = some u->u<=v:=by
  intro v u hv W; simp[ai.aV]at hv W; omega
 have hdead:(ai.vQ sz al rZ).aV = none->(ai.vQ sz (al+1) (rZ++g)).aV = none:=by simp[ai.aV]
 have hpast':∀(w':a_) loc',af.bx { w:=w',H:=E.H.set id (.vQ sz (al+1) (rZ++g)),ae:=loc',X:=E.X } id (al+1):=fun w' loc' =>
  ⟨_,bB hlt,rfl,fun v hv=>by simp[ai.aV]at hv; omega⟩
 have hcells:∀ b o,b<E.w.heap.size->E.w.drew.cell? ⟨b,o,none⟩=E.w.cell? ⟨b,o,none⟩:=fun _ _ _=>rfl;by_cases U:rZ.length+g.length<=cap
 ·-- in place
  rcases HE.obj id _ N with⟨y,e2⟩|⟨b,M,y,e2,e3,e4,e5⟩
  ·obtain ⟨hn0, _, base', ee⟩ := q1 y
   simp only[mq]at ee;obtain⟨rfl,_,rfl⟩:=ee;have hnil:g=[]:=by
    cases g with
    |nil=>rfl
    |cons a l=>simp at U
   have hnews:=GF k hnil;subst hnews;subst hnil;subst e2;refine⟨_,E.w,GA (m:=0) W hd1 hd2 hi hs (k.len E.w) (aM _) (k.cells E.w (fun _ _ _=>rfl)) ?_,E.ae.set id none,E.X.r,?_,?_,?_⟩
   ·cases aN with
    |none=>rfl
    |some a=>exact GD P _ _
   ·simp only [ad]
    refine⟨⟨_,_,rfl,aM _,fun h=>by simp at h⟩,hpast' _ _,fun _=>⟨fun _=>⟨by simp,trivial,aN,by simp⟩,fun b M hn=>?_⟩⟩;rw[bB (by rw[HE.len]; exact hlt)]at hn;cases hn
   ·refine aJ.nk HE N (aM _) (fun _ _ _ => rfl) (fun _ _ h => by cases h) (.inr hverlt) hup (fun _ => hdead) ?_
    simp only[aZ];left;exact⟨by rw[bB (by rw[HE.len]; exact hlt)],by simp⟩
   ·exact af.lJ N HE.len (aM _) (fun _ _ _=>rfl) (fun _ _ h=>by cases h) (.inr hverlt) hup (fun _=>hdead)
  ·obtain ⟨_, o, p2, p3⟩ := q2 b M y
   simp only[mq,fD]at p3;obtain⟨rfl,_,rfl⟩:=p3;obtain⟨cur,el,V,hsize⟩:=e2;have hcurl:=V9 V (Ch e5);have hwide:=GB e5;have hflat:=vw hwide;have hnl:=k.length;have hstore:∃ w',(storeCells ((Addr.mk b o none).add (rZ.length*sz)) news).run P E.w=.ok () w'/\w'.heap.size=E.w.heap.size/\fw E.w w'/\(∀ x,x≠b->w'.heap[x]? = E.w.heap[x]?) /\
     w'.heap[b]? = some (.cells (cur.toList.take (rZ.length*sz)++news++cur.toList.drop (rZ.length*sz+news.length)).toArray el (0,0)):=by
    by_cases hM:0<cap
    ·rw [p2 hM, mw, qM, cP]
     have hfit2:rZ.length*sz+0+news.length<=cur.size:=by
      rw[hnl,hsize,n_,<-gx];exact qN _ U
     have hst:=run_storeCells_at P b (rZ.length*sz) el news 0 cur E.w V hfit2 (fun v hv=>by rw[vt]; exact k.one v hv);refine⟨_,hst,setRow_size _ _ _,⟨rfl,rfl,rfl,by first|exact fun _=>aM _|exact fun _=>gY _ _⟩,fun x I=>setRow_other _ _ _ _ I,?_⟩;rw[setRow_heap _ _ _ _ _ _ V];simp
    ·have h0 : cap = 0 := by omega
     have hn0:g=[]:=by
      cases g with
      |nil=>rfl
      |cons a l=>simp at U; omega
     have:=GF k hn0;subst this;refine⟨E.w,GD P _ _,rfl,⟨rfl,rfl,rfl,by first|exact fun _=>aM _|exact fun _=>gY _ _⟩,fun _ _=>rfl,?_⟩;rw[V];simp
   obtain⟨w',hst,hsz,henv,hother,hb'⟩:=hstore;have hloc:E.ae.set id (some (b,cap))=E.ae:=ph y;have hle:E.le { w:=w',H:=E.H.set id (.vQ sz (al+1) (rZ++g)),ae:=E.ae.set id (some (b,cap)),X:=E.X } :=
    af.lJ N HE.len (by omega) (fun x I hne=>hother x (fun ex=>hne cap (by rw[ex]; exact y))) (fun b' n' h=>by cases h; exact .inr ⟨cap,y⟩) (.inr hverlt) hup (fun _=>hdead)
   refine⟨_,w',GA (m:=g.length) W hd1 hd2 hi hs (k.len E.w) U (k.cells E.w (fun _ _ _=>rfl)) hst,E.ae.set id (some (b,cap)),E.X.r,?_,?_,hle⟩
   ·simp only [ad]
    refine⟨⟨_,_,rfl,U,fun _=>⟨b,o,rfl⟩⟩,hpast' _ _,fun _=>⟨fun hn=>?_,fun b' M hn=>?_⟩⟩
    ·rw[hloc,y]at hn; cases hn
    ·rw [hloc, y] at hn
     simp only[bf,bo]at hn;obtain⟨rfl,rfl⟩:=hn;exact⟨by omega,o,fun h=>by simpa using p2 (by simpa using h),by simp⟩
   ·refine aJ.nk HE N (by omega) (fun x I hne => hother x (fun ex => hne cap (by rw [ex]; exact y))) (fun b' n' h => by cases h; exact .inr ⟨cap, y⟩) (.inr hverlt) hup (fun _ => hdead) ?_
    simp only[aZ];right;refine⟨b,cap,by rw[hloc]; exact y,?_,by simpa using U,?_,?_⟩
    ·refine ⟨_, el, hb', ?_⟩
     have hfit2:rZ.length*sz+news.length<=cap*sz:=by rw[hnl,<-gx]; exact qN _ U
     simp only[BJ,fu,mX,pV,iF,hsize];omega
    ·intro r q
     rcases db.1 q with h|h
     ·exact e4 r h
     ·exact k.closed r h
    ·have hall:∀ r∈rZ++g,r.length=sz:=by
      intro r q;rcases db.1 q with h|h
      ·exact hwide r h
      ·exact k.wide r h
     refine Ci hall (LJ hb' (vs:=cur.toList.take (rZ.length*sz)++news) (tl:=cur.toList.drop (rZ.length*sz+news.length)) ?_ (by simp) ?_)
     ·rw [BK]
      refine pe ?_ (eh hle _ k.ad);have:=eh hle _ hcurl.1;rw[hflat]at this;exact this
     ·intro x I
      rcases db.1 I with h|h
      ·exact hcurl.2.1 x (by rw[hflat]; exact h)
      ·exact k.one x h
 ·-- it moves
  have holds:∃ O:List ao,ax E rZ.flatten O/\(∀ x∈O,dZ x=true)/\(∀ r∈rZ,r.length=sz)/\fv rZ /\
    (kl sz rZ.length (.slice aN rZ.length cap)).run P E.w.drew=.ok O.toArray E.w.drew:=by
   rcases HE.obj id _ N with⟨y,e2⟩|⟨b,M,y,e2,e3,e4,e5⟩
   ·subst e2
    refine⟨[],by simp[ax],by simp,by simp,(fun r q=>by cases q),?_⟩;cases aN<;>simp[kl,loadCells,loadCellsFrom]
   ·obtain ⟨_, o, p2, p3⟩ := q2 b M y
    simp only[mq,fD]at p3;obtain⟨rfl,_,rfl⟩:=p3;by_cases hM:0<cap
    ·have ho := p2 hM
     rw[qM]at ho;subst ho;obtain⟨vs,g1,g2,g3⟩:=Cj (P:=P) (cap:=cap) e5 (HE.lt id b cap y).1;exact⟨vs,g1,g2,GB e5,e4,g3 _ hcells⟩
    ·have:rZ=[]:=by
      cases rZ with
      |nil=>rfl
      |cons a l=>simp at hcap; omega
     subst this;exact⟨[],by simp[ax],by simp,by simp,fun r q=>by(cases q),by simp[kl,loadCells,loadCellsFrom]⟩
  obtain⟨O,g1,g2,g3,g4,g5⟩:=holds;obtain⟨C,hC,hrun⟩:=LI (P:=P) (w:=E.w) (ty:=ty) (aN:=aN) (n:=rZ.length) (cap:=cap) (m:=g.length) (x:=cx) (olds:=O) W hd1 hd2 hi hs hz1 (k.len E.w) (by omega)
   g5 (k.cells _ hcells) (by omega) (by omega)
  generalize hrest:(BI zv.cells (C-(rZ.length+g.length))).toList=rest at hrun;have hrl:rest.length=(C-(rZ.length+g.length))*sz:=by
   rw[<-hrest];simp only[iF,size_zeroCells];rw[<-hzl,<-hz2];simp
  generalize hw':E.w.drew.alloc (.cells (O++news++rest).toArray e)=w' at hrun;have hext:Ext E.w w':=by rw[<-hw']; exact LK _ _
  have V:w'.heap[E.w.heap.size]? = some (.cells (O++news++rest).toArray e (0,0)):=by rw[<-hw']; exact LM _ _
  have hltw:E.w.heap.size<w'.heap.size:=(Array.getElem?_eq_some_iff.1 V).1;have hle:E.le { w:=w',H:=E.H.set id (.vQ sz (al+1) (rZ++g)),ae:=E.ae.set id (some (E.w.heap.size,C)),X:=E.X } :=
   af.lJ N HE.len hext.size (fun x I _=>hext.same x I) (fun b n h=>by cases h; exact .inl (aM _)) (.inr hverlt) hup (fun _=>hdead)
  have hall:∀ r∈rZ++g,r.length=sz:=by
   intro r q;rcases db.1 q with h|h
   ·exact g3 r h
   ·exact k.wide r h
  have hlocs:(E.ae.set id (some (E.w.heap.size,C)))[id]? = some (some (E.w.heap.size,C)):=bB (by rw[HE.len]; exact hlt);have hrow:=GC (E:=E) (E':={ w:=w',H:=E.H.set id (.vQ sz (al+1) (rZ++g)),ae:=E.ae.set id (some (E.w.heap.size,C)),X:=E.X })
   (rZ:=rZ++g) (vals:=O++news) (m:=rZ.length+g.length) (fun a c q=>bD hle a q) V
   (by rw[BK]; exact pe g1 k.ad)
   (by intro x I; rcases db.1 I with h|h; exact g2 x h; exact k.one x h) hall (by simp) hC hrl
  refine⟨_,w',hrun,E.ae.set id (some (E.w.heap.size,C)),E.X.r,?_,?_,hle⟩
  ·simp only [ad]
   refine⟨⟨_,_,rfl,hC,fun _=>⟨_,_,rfl⟩⟩,hpast' _ _,fun _=>⟨fun hn=>?_,fun b' M hn=>?_⟩⟩
   ·rw[hlocs]at hn; cases hn
   ·rw [hlocs] at hn
    simp only[bf,bo]at hn;obtain⟨rfl,rfl⟩:=hn;exact⟨by omega,0,fun _=>by simp,by simp⟩
  ·refine aJ.nk HE N hext.size (fun x I _ => hext.same x I) (fun b n h => by cases h; exact .inl ⟨aM _, hltw⟩) (.inr hverlt) hup (fun _ => hdead) ?_
   simp only[aZ];right;refine⟨E.w.heap.size,C,hlocs,hrow.1,by simpa using hC,?_,hrow.2⟩;intro r q;rcases db.1 q with h|h
   ·exact g4 r h
   ·exact k.closed r h
def Wc{P:aj}{E:af}(HE:aJ E){t xt ty:aF}{s x v:AV}{H':List ai}{c M:ao}(h:vu P t xt s x E.H=some (v,H'))
  (d:ad E s c) (hx:ad E x M):∃ u w',(pU #[t,xt] ty #[c,M]).run P E.w=.ok u w'/\dc E v H' u w':=by
 unfold vu at h;split at h
 case h_2=>cases h
 rename_i e sz by_ q;split at h
 case h_2=>cases h
 rename_i z new y U O;split at h
 case isFalse=>cases h
 rename_i hc;obtain⟨h1,N,I⟩:=hc;obtain⟨news,g⟩:=V8 (P:=P) HE O hx (Wa U);split at h
 ·cases h
  simp only[ad]at d;obtain⟨aN,rfl⟩:=d;exact LP HE q y g N I h1
 ·cases h
  simp only[ad]at d;subst d;exact LP HE q y g N I h1
 ·split at h
  case h_2=>cases h
  rename_i k v rZ V;split at h
  case isFalse=>cases h
  rename_i W;obtain⟨rfl,rfl,rfl,rfl,rfl,hb⟩:=W;cases h;exact Wb HE q y g hb I h1 V d
 ·cases h
end Go.AL

namespace Go.AL
open Go
variable [Dr]
def GG{w w':a_}{b oF:Nat}{g:Array ao}{d:List ao}{q:aF}{fr:Nat × Nat}(y:w.heap[b]? = some (.cells g q fr))
  (I:w'.heap[b]? = some (.cells (g.toList.take oF++d++g.toList.drop (oF+d.length)).toArray q fr)) (N:oF+d.length<=g.size) (i:Nat) :
  w'.cell? ⟨b,i,none⟩=if oF<=i/\i<oF+d.length then d[i-oF]? else w.cell? ⟨b,i,none⟩:=by
 simp only[uS,y,I,Option.isSome_none,lz,if_false,List.getElem?_toArray,gk,fu,mX,iF,
  oY,sT]
 have h1:min oF g.size=oF:=by omega
 rw[h1];by_cases v:i<oF
 ·have k : ¬ (oF <= i /\ i < oF + d.length) := by omega
  have h:i<oF+d.length:=by omega
  rw[iN k];simp[v,h]
 ·by_cases k : i < oF + d.length
  ·have h : oF <= i /\ i < oF + d.length := by omega
   simp[v,k,h]
  ·have h : ¬ (oF <= i /\ i < oF + d.length) := by omega
   have M:oF+d.length+(i-(oF+d.length))=i:=by omega
   rw[iN k,iN h,M];simp
def Ck{E E':af}{b o col:Nat}{k:Array ao}{as cs:List AV}{g:List ao}{O:aF}{fr:Nat × Nat}(y:∀ a c,ad E a c->ad E' a c)
  (U:E.w.heap[b]? = some (.cells k O fr))
  (W:E'.w.heap[b]? = some (.cells (k.toList.take (o+col)++g++k.toList.drop (o+col+g.length)).toArray O fr)) (V:o+col+g.length<=k.size)
  (I:cV E as b o) (bT:ax E cs g) (h1:∀ x∈g,dZ x=true) (hcol:col+cs.length<=as.length) :
  cV E' (as.take col++cs++as.drop (col+cs.length)) b o:=by
 have hlen:=jZ bT;rw[kn]at I|-;intro i a hi;rw[GG U W V];simp only[gk,fu,mX,oY,sT]at hi;have hm:min col as.length=col:=by omega
 rw[hm]at hi;by_cases M:i<col
 ·have q : i < col + cs.length := by omega
  rw[iP q,iP M,iP M]at hi;obtain⟨v,d,h,N⟩:=I i a hi;exact⟨v,by rw[iN (by omega)]; exact d,h,y _ _ N⟩
 ·by_cases q : i < col + cs.length
  ·rw [iP q, iN M] at hi
   obtain⟨v,d,h⟩:=qa bT hi;refine⟨v,?_,h1 v (eS d),y _ _ h⟩;rw[iP (by omega),<-d];congr 1;omega
  ·rw [iN q] at hi
   have:col+cs.length+(i-(col+cs.length))=i:=by omega
   rw[this]at hi;obtain⟨v,d,h,N⟩:=I i a hi;exact⟨v,by rw[iN (by omega)]; exact d,h,y _ _ N⟩
def af.qb{E:af}{w':a_}{id b n:Nat}{o o':ai}(HE:aJ E)(M:E.H[id]? = some o) (g:E.ae[id]? = some (some (b,n)))
  (k:∀ v,o'.aV = some v->o.aV = some v) (U:w'.heap.size=E.w.heap.size) (y:∀ x,x≠b->w'.heap[x]? = E.w.heap[x]?) (I:fw E.w w':=by first|exact⟨rfl,rfl,rfl,by first|exact fun _=>aM _|exact fun _=>gY _ _⟩|assumption|exact Ext.env (by assumption)) (N:o.dW=none\/o'.dW=o.dW\/o'.aV = none:=by first|exact .inl rfl|exact .inr (.inl rfl)|exact .inr (.inr rfl)|exact .inl (ai.B3 (by assumption))|assumption) (V:o.born=true->o'.born=true:=by first|exact fun _=>rfl|exact fun h=>h|assumption) :
  E.le { w:=w',H:=E.H.set id o',ae:=E.ae,X:=E.X }:=by
 have h:=af.lJ (w':=w') (o':=o') (l:=some (b,n)) M HE.len (by omega) (fun x _ O=>y x (fun e=>O n (by rw[e]; exact g))) (fun W n' h=>by cases h; exact .inr ⟨n,g⟩)
  (.inl fun v d => ⟨k v d, g⟩) (fun v u d q => by rw [k v d] at q; cases q; exact aM _) (fun _ hn => by
   cases d:o'.aV with
   |none=>rfl
   |some v=>rw[k v d]at hn; cases hn) I N
 rwa [ph g]at h
def aJ.set{E:af}{w':a_}{id b n:Nat}{o o':ai}(HE:aJ E)(M:E.H[id]? = some o) (d:E.ae[id]? = some (some (b,n)))
  (k:∀ v,o'.aV = some v->o.aV = some v) (O:w'.heap.size=E.w.heap.size) (y:∀ x,x≠b->w'.heap[x]? = E.w.heap[x]?)
  (ho:aZ { w:=w',H:=E.H.set id o',ae:=E.ae,X:=E.X } id o') (I:fw E.w w':=by first|exact⟨rfl,rfl,rfl,by first|exact fun _=>aM _|exact fun _=>gY _ _⟩|assumption|exact Ext.env (by assumption)) (hlab:o.label=none:=by first|rfl|assumption) (U:o'.label=none:=by first|rfl|assumption) (V:o.born=true->o'.born=true:=by first|exact fun _=>rfl|exact fun h=>h|assumption):aJ { w:=w',H:=E.H.set id o',ae:=E.ae,X:=E.X }:=by
 have h:=aJ.nk (w':=w') (o':=o') (l:=some (b,n)) HE M (by omega) (fun x _ N=>y x (fun e=>N n (by rw[e]; exact d))) (fun W n' h=>by cases h; exact .inr ⟨n,d⟩)
  (.inl fun v g => ⟨k v g, d⟩) (fun v u g q => by rw [k v g] at q; cases q; exact aM _) (fun _ hn => by
   cases g:o'.aV with
   |none=>rfl
   |some v=>rw[k v g]at hn; cases hn) (by rw[ph d]; exact ho) I
 rwa [ph d]at h
def putCells(as cs:List AV)(d:Nat):List AV:=as.take d++cs++as.drop (d+cs.length)
def pj(P:aj)(t:aF)(x v:AV)(H:List ai):Option (List ai) :=
 match gl P t,pg v,x with
 | some (n,_),some cs,.ptr id al w row d =>
  if cs.length=n then
   match H[id]? with
   |some (.box cells)=>if al=0/\row=0/\d+n<=cells.length then some (H.set id (.box (putCells cells cs d))) else none
   | some (.vQ k u rZ) =>
    if al=u/\k=w/\AV.bM cs=true then
     match rZ[row]? with
     |some r=>if d+n<=r.length then some (H.set id (.vQ k u (rZ.set row (putCells r cs d)))) else none
     |none=>none
    else none
   |_=>none
  else none
 |_,_,_=>none
def GH{as cs:List AV}{d:Nat}(h:d+cs.length<=as.length):(putCells as cs d).length=as.length:=by
 simp[putCells]; omega
def yL:∀(a b:List AV),AV.bM (a++b)=(AV.bM a&&AV.bM b)
 | [],b=>by simp[AV.bM]
 |x::a,b=>by simp[AV.bM,yL a b,ama]
def LQ{P:aj}{E:af}(HE:aJ E){t:aF}{x v:AV}{c d:ao}{H':List ai}(h:pj P t x v E.H=some H')(hx:ad E x c)(O:ad E v d) :
  ∃ w',(uV t c d).run P E.w=.ok () w'/\aJ { w:=w',H:=H',ae:=E.ae,X:=E.X }/\E.le { w:=w',H:=H',ae:=E.ae,X:=E.X }:=by
 unfold pj at h;split at h
 case h_2=>cases h
 rename_i n ag cs id al w row g ht bT;obtain⟨i,dd,hi,hd,hs,ha⟩:=lL ht;obtain⟨hrel,h1⟩:=Cf bT O;split at h
 case isFalse=>cases h
 rename_i hn;have hlen:=jZ hrel;have hsz:d.cells.size=n:=by rw[<-hn,hlen]; simp
 simp only[ad]at hx;obtain⟨_,hpast,hlive⟩:=hx;split at h
 ·rename_i cells M
  split at h
  case isFalse=>cases h
  rename_i hc;obtain⟨rfl,rfl,hcol⟩:=hc;cases h;obtain⟨b,m,U,rfl⟩:=hlive ⟨_,M,rfl⟩;obtain⟨b',m',e2,⟨y,V,W,hsize⟩,e3⟩:=HE.obj id _ M;rw[U]at e2;cases e2;have I:g+0+d.cells.toList.length<=y.size:=by rw[hsize]; simp; omega
  have hst:=run_storeCells_at P b g V d.cells.toList 0 y E.w W I (fun v O=>by rw[vt]; exact h1 v O);simp only[n_]at hst I;generalize N:E.w.setRow b (y.toList.take g++d.cells.toList++y.toList.drop (g+d.cells.toList.length)).toArray=w' at hst;have hsize':w'.heap.size=E.w.heap.size:=by rw[<-N]; exact setRow_size _ _ _
  have henv:fw E.w w':=by rw[<-N]; exact⟨rfl,rfl,rfl,by first|exact fun _=>aM _|exact fun _=>gY _ _⟩
  have hother:∀ x,x≠b->w'.heap[x]? = E.w.heap[x]? := by intro x hx; rw[<-N]; exact setRow_other _ _ _ _ hx
  have hb':w'.heap[b]? = some (.cells (y.toList.take g++d.cells.toList++y.toList.drop (g+d.cells.toList.length)).toArray V (0,0)):=by
   rw[<-N]; exact setRow_heap E.w b y _ V (0,0) W
  have hver:∀ v,(ai.box (putCells cells cs g)).aV = some v->(ai.box cells).aV = some v:=fun v O=>by simpa[ai.aV]using O
  have hle:=af.qb (o':=.box (putCells cells cs g)) HE M U hver hsize' hother;refine⟨w',?_,aJ.set HE M U hver hsize' hother ?_,hle⟩
  ·simp only [uV, mW, cr, ft, cf, storeVar, Sem.run_sizeOf hi, hs, qM, cP]
   rw[iN (by omega)];exact hst
  ·simp only [aZ]
   refine⟨b,m,U,⟨_,V,hb',?_⟩,?_⟩
   ·rw [GH (by omega)]
    simp only[BJ,fu,mX,pV,iF]at I|-;omega
   ·exact Ck (o:=0) (col:=g) (fun a c hr=>bD hle a hr) W (by simpa using hb') (by simpa using I) e3 hrel h1 (by omega)
 ·rename_i k u rZ M
  split at h
  case isFalse=>cases h
  rename_i hc;obtain⟨rfl,rfl,hclosed⟩:=hc;split at h
  case h_2=>cases h
  rename_i r hrow;split at h
  case isFalse=>cases h
  rename_i hcol;cases h;obtain⟨b,m,U,rfl⟩:=hlive ⟨_,M,rfl⟩;rcases HE.obj id _ M with⟨_,e2⟩|⟨b',m',e2,⟨y,V,W,hsize⟩,e3,e4,e5⟩
  ·subst e2; simp at hrow
  rw[U]at e2;cases e2;have hrlt:=aY hrow;obtain⟨hrk,hrc⟩:=oq e5 hrow;rw[cP]at hrc;have hrow1:(row+1)*k<=m*k:=qN _ (by omega);rw[gx,yt]at hrow1;have I:row*k+g+0+d.cells.toList.length<=y.size:=by rw[hsize]; simp; omega
  have hst:=run_storeCells_at P b (row*k+g) V d.cells.toList 0 y E.w W I (fun v O=>by rw[vt]; exact h1 v O);simp only[n_]at hst I;generalize N:E.w.setRow b (y.toList.take (row*k+g)++d.cells.toList++y.toList.drop (row*k+g+d.cells.toList.length)).toArray=w' at hst;have hsize':w'.heap.size=E.w.heap.size:=by rw[<-N]; exact setRow_size _ _ _
  have henv:fw E.w w':=by rw[<-N]; exact⟨rfl,rfl,rfl,by first|exact fun _=>aM _|exact fun _=>gY _ _⟩
  have hother:∀ x,x≠b->w'.heap[x]? = E.w.heap[x]? := by intro x hx; rw[<-N]; exact setRow_other _ _ _ _ hx
  have hb':w'.heap[b]? = some (.cells (y.toList.take (row*k+g)++d.cells.toList++y.toList.drop (row*k+g+d.cells.toList.length)).toArray V (0,0)):=by
   rw[<-N]; exact setRow_heap E.w b y _ V (0,0) W
  have hver:∀ v,(ai.vQ k al (rZ.set row (putCells r cs g))).aV = some v->(ai.vQ k al rZ).aV = some v:=fun v O=>by simpa[ai.aV]using O
  have hle:=af.qb (o':=.vQ k al (rZ.set row (putCells r cs g))) HE M U hver hsize' hother;refine⟨w',?_,aJ.set HE M U hver hsize' hother ?_,hle⟩
  ·simp only [uV, mW, cr, ft, cf, storeVar, Sem.run_sizeOf hi, hs]
   rw[iN (by omega)];exact hst
  ·simp only [aZ]
   right;refine⟨b,m,U,⟨_,V,hb',?_⟩,by simpa using e3,?_,?_⟩
   ·simp only [BJ, fu, mX, pV, iF, hsize] at I |-
    omega
   ·intro r' hr'
    rcases List.mem_or_eq_of_mem_set hr' with h'|h'
    ·exact e4 r' h'
    ·rw [h', putCells, yL, yL]
     have:=e4 r (eS hrow);simp[yF _ _ this,vk _ _ this,hclosed]
   ·rw [om] at e5 |-
    intro j r' hj;rw[eC]at hj;split at hj
    ·rename_i ej
     subst ej;cases hj;refine⟨by rw[GH (by omega)]; exact hrk,?_⟩;rw[cP];exact Ck (fun a c hr=>bD hle a hr) W hb' I hrc hrel h1 (by omega)
    ·rename_i ej
     obtain⟨g1,g2⟩:=e5 j r' hj;refine⟨g1,?_⟩;rw[kn]at g2|-;intro q a hq;obtain⟨vv,p1,p2,p3⟩:=g2 q a hq;refine⟨vv,?_,p2,bD hle a p3⟩;have hql:=aY hq;rw[GG W hb' I,iN]
     ·exact p1
     ·rcases Nat.lt_or_gt_of_ne ej with hlt | hgt
      ·have : (row + 1) * k <= j * k := qN _ (by omega)
       rw[gx,yt]at this;simp only[iF];omega
      ·have : (j + 1) * k <= row * k := qN _ (by omega)
       rw[gx,yt]at this;omega
 ·cases h
def LR{E:af}(HE:aJ E){cells:List AV}{vals:Array ao}{el:aF}(k:ax E cells vals.toList)(h1:∀ x∈vals.toList,dZ x=true) :
  dc E (.ptr E.H.length 0 0 0 0) (E.H++[.box cells]) (.pointer (some ⟨E.w.heap.size,0,none⟩)) { E.w with heap:=E.w.heap.push (.cells vals el) }:=by
 have d:=Ext.push E.w (.cells vals el);have h:=af.mv (o:=.box cells) (l:=some (E.w.heap.size,0)) HE.len d (fun b n hb=>by cases hb; exact aM _);have g:(E.w.heap.push (.cells vals el))[E.w.heap.size]? = some (.cells vals el (0,0)):=by simp
 have q:ax (E.push { E.w with heap:=E.w.heap.push (.cells vals el) } (.box cells) (some (E.w.heap.size,0))) cells vals.toList:=eh h _ k;refine⟨E.ae++[some (E.w.heap.size,0)],E.X.r,?_,aJ.push HE d (fun b n hb=>?_) ?_,h⟩
 ·simp only [ad]
  refine⟨⟨_,_,rfl⟩,⟨.box cells,by simp,rfl,fun v y=>by simp⟩,fun _=>⟨E.w.heap.size,0,?_,by simp⟩⟩;rw[<-HE.len]; simp
 ·cases hb
  exact⟨aM _,by simp⟩
 ·simp only [aZ]
  refine⟨E.w.heap.size,0,?_,⟨vals,el,g,?_⟩,Cg (cs:=vals) (el:=el) (fr:=(0,0)) g q h1⟩
  ·simp only[af.push]; rw[<-HE.len]; simp
  ·have := jZ k
   simpa using this.symm
def Cl(P:aj)(t:aF):Option aF:=match fF P t with
 | some [.pointer none,.slice none 0 0]=>match P.underlying t with
  | some (.struct d)=>match d[1]? with
   | some g=>match P.underlying g.type with
    | some (.slice e)=>match P.underlying e with
     |some (.int .u8)=>some e
     |_=>none
    |_=>none
   |none=>none
  |_=>none
 |_=>none
def Wd{P:aj}{t e:aF}(h:Cl P t=some e):fF P t=some [.pointer none,.slice none 0 0]:=by
 unfold Cl at h;split at h
 ·assumption
 ·cases h
def kZ(H:List ai)(l:Nat):Bool:=H.all fun o=>match o.label with
 |some k => !Nat.beq k l
 |none=>true
def qc{H:List ai}{l:Nat}(h:kZ H l=true)(i:Nat)(o:ai)(hi:H[i]? = some o):o.label≠some l:=fun e=>by
 have:=dN.1 h o (eS hi);rw[e]at this;simp at this
def We{E:af}(HE:aJ E){t e:aF}(d:kZ E.H 0=true) :
  dc E (.ptr E.H.length 0 0 0 0) (E.H++[.gy 0 t e BD]) (.pointer (some ⟨E.w.heap.size,0,none⟩)) { E.w with heap:=E.w.heap.push (.cells #[.pointer none,.slice none 0 0] t) }:=by
 have k:=Ext.push E.w (.cells #[.pointer none,.slice none 0 0] t);obtain⟨h1,q⟩:=aJ.VM (o:=.gy 0 t e BD) (l:=some (E.w.heap.size,0)) (l0:=0) HE k (fun b n hb=>by cases hb; exact⟨aM _,by simp⟩) rfl (qc d) (by
  simp only[aZ];refine⟨E.w.heap.size,0,.pointer none,.slice none 0 0,(E.X.r 0).length,none,?_,?_,.inl rfl,?_,?_,⟨rfl,rfl⟩⟩
  ·rw[<-HE.len]; simp
  ·simp
  ·simp[kr,XS.re]
  ·intro h' h y
   rcases Gi (show (kr E.X.r 0 0)[h']? = some (some h) from y)with g|⟨_,g,_⟩
   ·exact(HE.ja 0 (qc d) h' h g).elim
   ·exact g)
 refine⟨E.ae++[some (E.w.heap.size,0)],kr E.X.r 0,?_,h1,q⟩;simp only[ad];refine⟨⟨_,_,rfl⟩,⟨.gy 0 t e BD,by simp,rfl,fun v I=>by simp⟩,fun _=>⟨E.w.heap.size,0,?_,by simp⟩⟩;rw[<-HE.len]; simp
def th(P:aj)(t:aF)(H:List ai):Option (AV × List ai) :=
 match Cl P t with
 |some e=>if kZ H 0=true then some (.ptr H.length 0 0 0 0,H++[.gy 0 t e BD]) else none
 | none=>match fF P t with
  |some z=>some (.ptr H.length 0 0 0 0,H++[.box (z.map .lit)])
  |none=>none
def Wf{P:aj}{E:af}(HE:aJ E){t:aF}{v:AV}{H':List ai}(h:th P t E.H=some (v,H')) :
  ∃ u w',(BL t true (.tuple #[])).run P E.w=.ok u w'/\dc E v H' u w':=by
 unfold th at h;split at h
 ·rename_i e he
  split at h
  case isFalse=>cases h
  rename_i I;cases h;obtain⟨i,g,h1,k,d,y⟩:=ox (Wd he);have q:g.cells=#[.pointer none,.slice none 0 0]:=jo (by simpa using d);refine⟨_,_,?_,We HE (t:=t) (e:=e) I⟩;simp[BL,oy h1 k,newVar,newRow,q]
 split at h
 ·rename_i z q
  cases h;obtain⟨i,g,h1,k,d,y⟩:=ox q;refine⟨_,_,?_,LR HE (vals:=g.cells) (el:=t) (by rw[d]; exact p7 z) (by rw[d]; exact y)⟩;simp[BL,oy h1 k,newVar,newRow]
 ·cases h
def zc:Option (List Kd)->ao->AV
 |some ks,.slice none 0 0=>.listF ks []
 |_,v=>.lit v
def j5:List (Option (List Kd))->List ao->List AV
 |_,[]=>[]
 | [],v::z=>.lit v::j5 [] z
 |a::m,v::z=>zc a v::j5 m z
def Cm:∀(m:List (Option (List Kd))) (z:List ao),(j5 m z).length=z.length
 | [],[]=>rfl
 |_::_,[]=>rfl
 | [],v::z=>by simp[j5,Cm [] z]
 |a::m,v::z=>by simp[j5,Cm m z]
def Wg{E:af}(a:Option (List Kd))(v:ao):ad E (zc a v) v:=by
 unfold zc;split
 ·simp only [ad, fp]
  exact⟨none,0,rfl,aM _,.inl rfl⟩
 ·simp[ad]
def GJ{E:af}:∀(m:List (Option (List Kd))) (z:List ao),ax E (j5 m z) z
 | [],[]=>by simp[j5,ax]
 |_::_,[]=>by simp[j5,ax]
 | [],v::z=>by simp only[j5,ax]; exact⟨by simp[ad],GJ [] z⟩
 |a::m,v::z=>by simp only[j5,ax]; exact⟨Wg a v,GJ m z⟩
def Wh(a:Option (List Kd))(v:ao):(zc a v).closed=true:=by
 unfold zc;split<;>rfl
def GL:∀(m:List (Option (List Kd))) (z:List ao),AV.bM (j5 m z)=true
 | [],[]=>rfl
 |_::_,[]=>rfl
 | [],v::z=>by simp[j5,AV.bM,AV.closed,GL [] z]
 |a::m,v::z=>by simp[j5,AV.bM,Wh,GL m z]
def q_(P:aj)(t:aF)(id:Nat) (m:List (Option (List Kd))) (H:List ai):Option (AV × List ai) :=
 match fF P t,H[id]? with
 |some z,some (.vQ k 0 [])=>if k=z.length then some (.ptr id 1 k 0 0,H.set id (.vQ k 1 [j5 m z])) else none
 |some z,some .eD=>some (.ptr id 0 0 0 0,H.set id (.box (z.map .lit)))
 |_,_=>none
def Wi{E:af}(HE:aJ E){id k:Nat}{cells:List AV}{vals:Array ao}{el:aF}(y:E.H[id]? = some (.vQ k 0 []))(d:ax E cells vals.toList)(h1:∀ x∈vals.toList,dZ x=true)(hk:cells.length=k)
  (hcl:AV.bM cells=true) :
  dc E (.ptr id 1 k 0 0) (E.H.set id (.vQ k 1 [cells])) (.pointer (some ⟨E.w.heap.size,0,none⟩)) { E.w with heap:=E.w.heap.push (.cells vals el) }:=by
 have q:=Ext.push E.w (.cells vals el);have W:=aY y;have N:∀ v,(ai.vQ k 1 [cells]).aV = some v->∀ u,(ai.vQ k 0 []).aV = some u->u<v:=by
  intro v g u I;simp[ai.aV]at g I;omega
 have hup:∀ v u,(ai.vQ k 1 [cells]).aV = some v->(ai.vQ k 0 []).aV = some u->u<=v:=by
  intro v u g I;simp[ai.aV]at g I;omega
 have O:(ai.vQ k 0 []).aV = none->(ai.vQ k 1 [cells]).aV = none:=by simp[ai.aV]
 have hle:E.le { w:={ E.w with heap:=E.w.heap.push (.cells vals el) },H:=E.H.set id (.vQ k 1 [cells]),ae:=E.ae.set id (some (E.w.heap.size,1)),X:=E.X } :=
  af.lJ y HE.len q.size (fun x M _=>q.same x M) (fun b n h=>by cases h; exact .inl (aM _)) (.inr N) hup (fun _=>O)
 have V:(E.w.heap.push (.cells vals el))[E.w.heap.size]? = some (.cells vals el (0,0)):=by simp
 have U:(E.ae.set id (some (E.w.heap.size,1)))[id]? = some (some (E.w.heap.size,1)):=bB (by rw[HE.len]; exact W);have hr':=eh hle _ d;refine⟨E.ae.set id (some (E.w.heap.size,1)),E.X.r,?_,?_,hle⟩
 ·simp only [ad]
  refine⟨⟨_,_,rfl⟩,⟨.vQ k 1 [cells],by simp[W],rfl,fun v g=>by simp[ai.aV]at g; omega⟩,fun _=>⟨E.w.heap.size,1,U,by simp⟩⟩
 ·refine aJ.nk HE y q.size (fun x M _ => q.same x M) (fun b n h => by cases h; exact .inl ⟨aM _, by simp⟩) (.inr N) hup (fun _ => O) ?_
  simp only[aZ];right;refine⟨E.w.heap.size,1,U,⟨vals,el,V,?_⟩,by simp,?_,?_⟩
  ·have := jZ d
   rw[yt,<-hk];simpa using this.symm
  ·intro r d
   simp at d;rw[d];exact hcl
  ·simp only [cY, and_true]
   exact⟨hk,Cg (cs:=vals) (el:=el) (fr:=(0,0)) V hr' h1⟩
def Wj{E:af}(HE:aJ E){id:Nat}{cells:List AV}{vals:Array ao}{el:aF}(g:E.H[id]? = some .eD)(W:ax E cells vals.toList)(h1:∀ x∈vals.toList,dZ x=true) :
  dc E (.ptr id 0 0 0 0) (E.H.set id (.box cells)) (.pointer (some ⟨E.w.heap.size,0,none⟩)) { E.w with heap:=E.w.heap.push (.cells vals el) }:=by
 have d:=Ext.push E.w (.cells vals el);have O:=aY g;have y:(ai.eD).born=true->(ai.eD).aV = none->(ai.box cells).aV = none:=fun h=>by cases h
 have M:∀ v,(ai.box cells).aV = some v->∀ u,(ai.eD).aV = some u->u<v:=fun v _ u k=>by cases k
 have U:∀ v u,(ai.box cells).aV = some v->(ai.eD).aV = some u->u<=v:=fun v u _ k=>by cases k
 have N:(E.w.heap.push (.cells vals el))[E.w.heap.size]? = some (.cells vals el (0,0)):=by simp
 have I:(E.ae.set id (some (E.w.heap.size,0)))[id]? = some (some (E.w.heap.size,0)):=bB (by rw[HE.len]; exact O);have V:E.le { w:={ E.w with heap:=E.w.heap.push (.cells vals el) },H:=E.H.set id (.box cells),ae:=E.ae.set id (some (E.w.heap.size,0)),X:=E.X } :=
  af.lJ g HE.len d.size (fun x q _=>d.same x q) (fun b n h=>by cases h; exact .inl (aM _)) (.inr M) U y
 have hr':=eh V _ W;refine⟨E.ae.set id (some (E.w.heap.size,0)),E.X.r,?_,?_,V⟩
 ·simp only [ad]
  refine⟨⟨_,_,rfl⟩,⟨.box cells,by simp[O],rfl,fun v hv=>by simp⟩,fun _=>⟨E.w.heap.size,0,I,by simp⟩⟩
 ·refine aJ.nk HE g d.size (fun x q _ => d.same x q) (fun b n h => by cases h; exact .inl ⟨aM _, by simp⟩) (.inr M) U y ?_
  simp only[aZ];refine⟨E.w.heap.size,0,I,⟨vals,el,N,?_⟩,Cg (cs:=vals) (el:=el) (fr:=(0,0)) N hr' h1⟩;have:=jZ W;simpa using this.symm
def Wk{P:aj}{E:af}(HE:aJ E){t:aF}{id:Nat}{m:List (Option (List Kd))}{v:AV}{H':List ai}(h:q_ P t id m E.H=some (v,H')) :
  ∃ u w',(BL t true (.tuple #[])).run P E.w=.ok u w'/\dc E v H' u w':=by
 unfold q_ at h;split at h
 ·rename_i z k q g
  split at h
  ·rename_i N
   cases h;obtain⟨i,y,h1,I,d,M⟩:=ox q;refine⟨_,_,?_,Wi HE (vals:=y.cells) (el:=t) g (by rw[d]; exact GJ m z) (by rw[d]; exact M) (by rw[Cm,N]) (GL m z)⟩;simp[BL,oy h1 I,newVar,newRow]
  ·cases h
 ·rename_i z q g
  cases h;obtain⟨i,y,h1,I,d,M⟩:=ox q;refine⟨_,_,?_,Wj HE (vals:=y.cells) (el:=t) g (by rw[d]; exact p7 z) (by rw[d]; exact M)⟩;simp[BL,oy h1 I,newVar,newRow]
 ·cases h
def Cn(v:AV)(H:List ai):Option (AV × List ai) :=
 match pg v with
 |some cs=>some (.ptr H.length 0 0 0 0,H++[.box cs])
 |none=>none
def Wl{P:aj}{E:af}(HE:aJ E){t:aF}{x v:AV}{c:ao}{H':List ai}(h:Cn x E.H=some (v,H'))(d:ad E x c) :
  ∃ u w',(amh t c).run P E.w=.ok u w'/\dc E v H' u w':=by
 unfold Cn at h;split at h
 ·rename_i cs bT
  cases h;obtain⟨h1,g⟩:=Cf bT d;refine⟨_,_,?_,LR HE (vals:=c.cells) (el:=t) h1 g⟩;simp[amh,newVar,newRow]
 ·cases h
def LS{E:af}(HE:aJ E){sz n C:Nat}{rZ:List (List AV)}{d g:List ao}{h:aF}(k:ax E rZ.flatten d)(h1:∀ x∈d,dZ x=true)
  (V:∀ r∈rZ,r.length=sz) (U:fv rZ) (hn:rZ.length=n) (hC:n<=C) (N:g.length=(C-n)*sz) :
  dc E (.vQ sz E.H.length 0 0 n) (E.H++[.vQ sz 0 rZ]) (.slice (some ⟨E.w.heap.size,0,none⟩) n C) { E.w with heap:=E.w.heap.push (.cells (d++g).toArray h) }:=by
 have q:=Ext.push E.w (.cells (d++g).toArray h);have I:=af.mv (o:=.vQ sz 0 rZ) (l:=some (E.w.heap.size,C)) HE.len q (fun b n hb=>by cases hb; exact aM _);have O:(E.w.heap.push (.cells (d++g).toArray h))[E.w.heap.size]? = some (.cells (d++g).toArray h (0,0)):=by simp
 have y:=GC (E':=E.push { E.w with heap:=E.w.heap.push (.cells (d++g).toArray h) } (.vQ sz 0 rZ) (some (E.w.heap.size,C))) (fun a c k=>bD I a k) O k h1 V hn hC N;refine⟨E.ae++[some (E.w.heap.size,C)],E.X.r,?_,aJ.push HE q (fun b n hb=>?_) ?_,I⟩
 ·simp only [ad]
  refine⟨⟨_,_,rfl,hC,fun _=>⟨_,_,rfl⟩⟩,⟨.vQ sz 0 rZ,by simp,rfl,fun v W=>by simp[ai.aV]at W; omega⟩,fun _=>⟨fun hn=>?_,fun b M hn=>?_⟩⟩
  ·rw[<-HE.len]at hn; simp at hn
  ·rw [<- HE.len] at hn
   simp at hn;obtain⟨rfl,rfl⟩:=hn;exact⟨by omega,0,fun _=>by simp,by simp⟩
 ·cases hb
  exact⟨aM _,by simp⟩
 ·simp only [aZ]
  right;refine⟨E.w.heap.size,C,?_,y.1,by omega,U,y.2⟩;simp only[af.push];rw[<-HE.len];simp
def range_zero(z:Array ao)(n:Nat)(v:0<z.size):((jH (n*z.size)).map (fun i=>z[i%z.size]!)).toList=(cB n z.toList).flatten:=by
 induction n with
 |zero=>simp
 | succ n k =>
  rw[List.replicate_succ',BK,<-k];simp only[pT,List.flatten_nil,da];apply jG;intro i;simp only[Vc,Array.toList_range,bY,gk,c8,List.length_range];by_cases h:i<n*z.size
  ·have d : i < (n + 1) * z.size := by rw [gx]; omega
   simp[h,d]
  ·by_cases d : i < (n + 1) * z.size
   ·have g : i - n * z.size < z.size := by rw [gx] at d; omega
    have q:i%z.size=i-n*z.size:=by
     have:i=i-n*z.size+n*z.size:=by omega
     rw[this,Nat.add_mul_mod_self_right,Nat.mod_eq_of_lt g];omega
    simp[h,d,q,g]
   ·have g : ¬ (i - n * z.size < z.size) := by rw [gx] at d; omega
    simp[h,d,g]
def LU(f:Nat->ao):KO f (jH 0)=#[]:=by apply jo; simp
def LV:ao->Option Kd
 |.int k _=>some (.int k)
 |.string _=>some .str
 |.bool _=>some .bool
 |_=>none
def GM:List ao->Option (List Kd)
 | []=>some []
 | v::d=>match LV v,GM d with
  |some k,some ks=>some (k::ks)
  |_,_=>none
def yM(P:aj)(t:aF):Option (List Kd):=match P.underlying t with
 | some (.slice e)=>match P.info? e with
  | some i=>match i.zero with
   |some (.agg cs)=>GM cs.toList
   |some v=>GM [v]
   |none=>none
  |none=>none
 |_=>none
def Co(P:aj):Nat->aF->List aF
 |0,t=>[t]
 | d+1,t=>match P.underlying t with
  |some (.struct g)=>(g.toList.map fun f=>Co P d f.type).flatten
  |some (.array n e)=>(cB n (Co P d e)).flatten
  |_=>[t]
def pk:List ao->List (Option (List Kd))->List AV
 | [],_=>[]
 | v::d,ks=>(match v,ks.headD none with
  |.slice none 0 0,some k=>.listF k []
  |v,_=>.lit v)::pk d ks.tail
def Wm:AV->Option Kd
 |.listF k _=>some (.list k)
 |.lit v=>LV v
 |_=>none
def LW:List AV->Option (List Kd)
 | []=>some []
 | v::d=>match Wm v,LW d with
  |some k,some ks=>some (k::ks)
  |_,_=>none
def Wn(P:aj)(t:aF):Option (List Kd):=match yM P t with
 |some ks=>some ks
 | none=>match P.underlying t with
  | some (.slice e)=>match P.info? e with
   | some i=>match i.zero with
    |some (.agg cs)=>LW (pk cs.toList ((Co P 4 e).map (yM P)))
    |_=>none
   |none=>none
  |_=>none
def Cp(P:aj)(e:aF)(z:List ao):List AV:=pk z ((Co P 4 e).map (Wn P))
def LX:∀(z:List ao) (ks:List (Option (List Kd))),(pk z ks).length=z.length
 | [],_=>rfl
 |_::z,ks=>by simp[pk,LX z]
def LY{E:af}:∀(z:List ao) (ks:List (Option (List Kd))),ax E (pk z ks) z
 | [],_=>by simp[pk,ax]
 | v::z,ks=>by
  simp only[pk,ax];refine⟨?_,LY z _⟩;split
  ·simp only [ad, fp, G.rZ]
   exact⟨none,0,rfl,aM _,.inl (by first|rfl|trivial)⟩
  ·simp[ad]
def LZ:∀(z:List ao) (ks:List (Option (List Kd))),AV.bM (pk z ks)=true
 | [],_=>rfl
 | v::z,ks=>by
  simp only[pk,AV.bM,LZ z,gX];split<;>rfl
def L1{E:af}{as:List AV}{z:List ao}(h:ax E as z):∀ n:Nat,ax E (cB n as).flatten (cB n z).flatten
 |0=>by simp[ax]
 | n+1=>by
  simp only[Vd,pT];exact pe h (L1 h n)
def yN(P:aj)(t:aF)(l c:AV)(H:List ai):Option (AV × List ai) :=
 match cZ P t,l,c with
 | .slice e sz d,.lit (.int _ l),.lit (.int _ c) =>
  match fF P e with
  | some z=>if z.length=sz/\0<sz/\0<=l/\l<=c/\c<=1048576/\d<=1048576 then
    some (.vQ sz H.length 0 0 l.toNat,H++[.vQ sz 0 (cB l.toNat (Cp P e z))]) else none
  |none=>none
 |_,_,_=>none
def wrap_small{n:Int}(h0:0<=n)(h1:n<=1048576):IntKind.i64.wrap n=n:=by
 simp[IntKind.wrap,IntKind.bits,IntKind.signed];omega
def yO{E:af}(z:List ao):∀ n:Nat,ax E (cB n (z.map AV.lit)).flatten (cB n z).flatten
 |0=>by simp[ax]
 | n+1=>by
  simp only[Vd,pT];exact pe (p7 z) (yO z n)
def yP{α:Type}{z:List α}{n:Nat}{x:α}(h:x∈(cB n z).flatten):x∈z:=by
 obtain⟨l,h1,d⟩:=List.mem_flatten.1 h;rw[Ve h1]at d;exact d
def GN:∀(z:List ao),AV.bM (z.map .lit)=true
 | []=>rfl
 |v::z=>by simp[AV.bM,AV.closed,GN z]
def Wo{P:aj}{E:af}(HE:aJ E){t:aF}{l c v:AV}{cl W:ao}{H':List ai}(h:yN P t l c E.H=some (v,H'))
  (hl:ad E l cl) (hc:ad E c W):∃ u w',(ami t cl W).run P E.w=.ok u w'/\dc E v H' u w':=by
 unfold yN at h;split at h
 case h_2=>cases h
 rename_i e sz by_ k1 l k2 c hk;simp only[ad]at hl hc;subst hl; subst hc;obtain⟨hu,i,hi,hs,hby⟩:=jq hk;split at h
 case h_2=>cases h
 rename_i z hz;split at h
 case isFalse=>cases h
 rename_i hcond;obtain⟨q,g2,g3,g4,g5,g6⟩:=hcond;cases h;obtain⟨i',g,O,hz1,U,hz3⟩:=ox hz;rw[hi]at O;cases O;have wl:IntKind.i64.wrap l=l:=wrap_small g3 (by omega);have wc:IntKind.i64.wrap c=c:=wrap_small (by omega) g5;have hbc:(i.bytes:Int)*c<=1048576*1048576:=by
  have h1:(i.bytes:Int)<=1048576:=by omega
  have y:(0:Int)<=c:=by omega
  exact Int.mul_le_mul h1 g5 y (by omega)
 have hne:¬ (281474976710656<(i.bytes:Int)*c):=by omega
 have hzs:g.cells.size=sz:=by rw[<-q,<-U]; simp
 have N:(cB l.toNat z).flatten++(cB (c.toNat-l.toNat) z).flatten=(cB c.toNat z).flatten:=by
  rw[<-BK,List.replicate_append_replicate];congr 2;omega
 obtain⟨k,I⟩:∃ k,k=(cB l.toNat z).flatten:=⟨_,rfl⟩
 obtain⟨d,V⟩:∃ d,d=(cB (c.toNat-l.toNat) z).flatten:=⟨_,rfl⟩
 have hrest:d.length=(c.toNat-l.toNat)*sz:=by rw[V]; simp[q]
 rw[<-I,<-V]at N;refine⟨.slice (some ⟨E.w.heap.size,0,none⟩) l.toNat c.toNat,{ E.w with heap:=E.w.heap.push (.cells (k++d).toArray e) },?_,?_⟩
 ·have h1 : ¬ c < 0 := by omega
  have y:¬ l<0:=by omega
  have h3:¬ c<l:=by omega
  simp only[ami,cr,Sem.bF hu,cf,asInt,asIntOf,ft,typeInfo,run_program,hi,wl,wc];rw[iN (by simp[h1,y,h3,hne])];simp only[cr,run_askRoom,cf,Sem.run_sizeOf hi];rw[N];by_cases h0:c.toNat*i.size=0
  ·have:c.toNat=0:=by
    rcases Vg.1 h0 with h|h
    ·exact h
    ·omega
   rw[iP h0];simp only[cr,ft,cf,newRow,this,qM,LU];simp
  ·rw [iN h0]
   simp only[cr,oy hi hz1,cf,ft,newRow];have:(KO (fun x=>g.cells[x%g.cells.size]!) (jH (c.toNat*i.size)))=(cB c.toNat z).flatten.toArray:=by
    apply jo;rw[hs,<-hzs,range_zero g.cells c.toNat (by omega),U]
   rw[this];simp
 ·refine LS HE (C := c.toNat) (by rw [I]; exact L1 (LY z _) _) (by intro x hx; rw [I] at hx; exact hz3 x (yP hx)) ?_ ?_ (by simp) (by omega) hrest
  ·intro r M
   have:=Ve M;rw[this];rw[Cp,LX]; exact q
  ·intro r M
   have:=Ve M;rw[this];exact LZ z _
def vz(P:aj)(t:aF)(n:Nat)(parts:List (Nat × AV)):Option AV :=
 match cZ P t with
 | .slice e sz _=>match fF P e with
  | some z=>if z.length=sz/\0<sz/\n*sz<=1048576 then
    match tg (fun i=>some (i*sz,sz)) (cB n (z.map AV.lit)).flatten parts with
    |some out=>if AV.bM out=true/\out.length=n*sz then some (match n with|0=>.nils|_=>.list sz (chunk sz n out)) else none
    |none=>none
   else none
  |none=>none
 |_=>none
def Wp{P:aj}{E:af}(HE:aJ E){t:aF}{n:Nat}{parts:List (Nat × AV)}{cparts:List (Nat × ao)}{v:AV}(h:vz P t n parts=some v)
  (hm:parts.map (·.1)=cparts.map (·.1)) (hv:ax E (parts.map (·.2)) (cparts.map (·.2))) :
  ∃ u w',(KQ t n cparts.toArray).run P E.w=.ok u w'/\Ext E.w w'/\ad { E with w:=w' } v u:=by
 unfold vz at h;split at h
 case h_2=>cases h
 rename_i e sz by_ hk;obtain⟨hu,i,hi,k,_⟩:=jq hk;split at h
 case h_2=>cases h
 rename_i z hz;obtain⟨i',q,N,hz1,O,hz3⟩:=ox hz;rw[hi]at N;cases N;split at h
 case isFalse=>cases h
 rename_i hc;obtain⟨g1,g2,g3⟩:=hc;split at h
 case h_2=>cases h
 rename_i out W;split at h
 case isFalse=>cases h
 rename_i U;cases h;have hzs:q.cells.size=sz:=by rw[<-g1,<-O]; simp
 obtain⟨d,g⟩:∃ d:Array ao,d.toList=(cB n z).flatten:=⟨((cB n z).flatten).toArray,by simp⟩
 obtain⟨o,y,f2,f3⟩:=yJ (E:=E) (cs:=d) W (by rw[g]; exact yO z n) (by rw[g]; intro x I; exact hz3 x (yP I)) hm hv;have M:=Ext.push E.w (.cells o e);have hblk:(E.w.heap.push (.cells o e))[E.w.heap.size]? = some (.cells o e (0,0)):=by simp
 refine⟨.slice (some ⟨E.w.heap.size,0,none⟩) n n,{ E.w with heap:=E.w.heap.push (.cells o e) },?_,M,?_⟩
 ·have hno : ¬ (n * i.size > 2 ^ 24) := by rw [k]; omega
  simp only[KQ,cr,Sem.bF hu,cf,Sem.run_sizeOf hi];rw[iN hno];by_cases h0:n*i.size=0
  ·have V:n=0:=by
    rcases Vg.1 h0 with h|h
    ·exact h
    ·omega
   have:d=#[]:=by apply jo; rw[g,V]; rfl
   rw[iP h0];rw[this]at y;simp only[cr,ft,cf,V,qM,LU,k,y];simp[newRow]
  ·rw [iN h0]
   simp only[cr,oy hi hz1,cf,ft];have:(KO (fun x=>q.cells[x%q.cells.size]!) (jH (n*i.size)))=d:=by
    apply jo;rw[k,<-hzs,range_zero q.cells n (by omega),O,g]
   rw[this,k,y];simp[newRow]
 ·have hle : E.le { E with w := { E.w with heap := E.w.heap.push (.cells o e) } } := af.lH M
  cases n with
  |zero=>simp only[ad]; exact⟨_,rfl⟩
  |succ n =>
  simp only[ad];refine⟨Gz sz _ out U.1,some ⟨E.w.heap.size,0,none⟩,n+1,by rw[yK],by rw[yK]; exact aM _,.inr ⟨E.w.heap.size,0,rfl,?_,?_⟩⟩
  ·refine ⟨by simp, ?_, fun I => by have := HE.X _ I; omega⟩
   rintro ho;have:=(HE.B7 ho).1;omega
  ·exact LF sz _ out _ 0 U.2 (Cg (cs:=o) (el:=e) (fr:=(0,0)) hblk (eh hle _ f2) f3)
end Go.AL
