/-
 What is proved here: basic facts of an abstract logic for the model's programs: abstract values,what they say of the model's values in a world,and that this survives what a call may do. No program in sight; no condition.
-/
import Derived.Calls
import Derived.Orders
import Derived.OrdersIn
import Derived.RangeFuncNested
import Derived.RangeFuncLeaves
import Derived.Laws.Sem
import Derived.Laws.Cells
import Derived.Laws.StructEq
import Derived.Laws.AppendOwn
import Derived.Laws.CopyRow
set_option linter.all false
open Array renaming length_toList->D5,toList_map->atx,ext'->jk,range->j9,map->O8
open BitVec renaming ofInt->D0
open Bool renaming and_true->fJ,and_eq_true->aR,false_eq_true->tb,and_assoc->ats
open ByteArray renaming empty->AJ
open Go renaming Value->al,TypeId->aJ,World->be,Program->ak,Operand->cN
open Go.Act renaming eval->Jh
open Go.Addr.mk renaming injEq->ZN
open Go.Builtin renaming lenOf->O4,firstCells->lh,append_->oX,zeroCells->D6,nextslicecap->O5
open Go.Instr renaming loadAt->Ji,sureAddr->tc,fieldAt->ZM,indexAt->D2,sliceBounds->xL,sliceBound->Jj,sliceAt->rD,slice->td,index->ZQ,field->atu,fill->atv,build->ZR,storeAt->O6,alloc->Jl,box->aty,makeSlice->atz,buildSlice->O9
open Go.Op renaming bytesLess->O0,equalIn->oV,eqFields->ZP,equal->D4
open Go.Program renaming fieldsOf->att
open Go.Result renaming andThen_ok->fL
open Go.Sem renaming run_bind->ft,run_pure->mS
open Go.Value renaming cells->O3
open Go.Value.pointer renaming injEq->auO
open Go.Value.slice renaming injEq->oU
open Go.World renaming cell?->s9,setRow->atw
open List renaming length_cons->cJ,length_map->bL,getElem?_append_left->fB,getElem?_append->lN,getElem?_set_self->dN,getElem?_set_ne->dh,getElem?_set->iQ,set_eq_of_length_le->OZ,getElem?_eq_getElem->bT,getD_eq_getElem?_getD->dj,getElem?_drop->D1,getElem?_take->ta,take_succ_cons->ZL,mem_of_getElem?->jj,getElem?_map->dw,map_cons->eU,mem_of_mem_drop->O1,mem_of_mem_take->D3,cons_append->qk,take_one->ZO,eq_nil_of_length_eq_zero->rE,drop_drop->xM,take_append_drop->O2,ext_getElem?->ql,length_take->gA,length_append->eL,all_eq_true->eX,getElem?_of_mem->oW,size_toArray->ZS,mem_append->cY,flatten_append->D7,replicate->dz,flatten_cons->O7,replicate_succ->ZV
open List.cons renaming injEq->Jk
open Nat renaming le_refl->bl,le_add_right->gk,le_trans->gl,lt_of_lt_of_le->fK,lt_or_ge->mh,add_assoc->ZK,zero_add->fC,add_mul->nC,sub_zero->mT,zero_mul->AM,add_zero->qm,mul_le_mul_right->AN,one_mul->ZU,mul_eq_zero->ZW
open Option renaming isSome_iff_exists->rC,map_eq_some_iff->jA
open Option.some renaming injEq->bQ
open Prod.mk renaming injEq->cr
namespace Go.AL
variable {p:Prop} {b o h k l n i id f c9 sz cap oF m C:Nat} {w w':be} {c d:al} {α:Type} {P:ak} {t el xt e ty:aJ} {agg:Bool} {clo:Option al} {bg:Option Addr} {op:BinOp} {y:cN} {cs:Array al} {z rest news:List al} {fr:Nat × Nat}
theorem nJ(h:p:=by grind):p:=h
theorem Er(h:p:=by simp_all):p:=h
theorem ab(h:p:=by omega):p:=h
theorem ai(h:p:=by simp):p:=h
theorem aj(h:p:=by kernel_rfl):p:=h
theorem du(h:p:=by simp;omega):p:=h
theorem cD(h:p:=by decide):p:=h
section
universe u
theorem iN{c:Prop}{h:Decidable c}(n:¬c){α:Sort u}{t e:α}:(ite c t e)=e:=if_neg n
theorem iP{c:Prop}{h:Decidable c}(n:c){α:Sort u}{t e:α}:(ite c t e)=t:=if_pos n
theorem dT[Decidable p]:(decide p=true)=p:=decide_eq_true_eq
theorem dF{_:Decidable p}:decide p=false↔¬p:=decide_eq_false_iff_not
theorem dE[h:Decidable p]:p->decide p=true:=decide_eq_true
theorem cT{α:Sort u}{a b:α}:cond true a b=a:=rfl
theorem cF{α:Sort u}{a b:α}:cond false a b=b:=rfl
end
inductive Kd where
 |int (k:IntKind)
 |str
 |bool
 |list (ks:List Kd)
 deriving Inhabited
inductive G where
 |i (n:Int)
 |s (b:ByteArray)
 |t (x:Bool)
 |l (rZ:List (List G))
instance:Inhabited G:=⟨.i 0⟩
def G.iV:G->Int
 |.i n=>n
 |_=>0
def G.sV:G->ByteArray
 |.s b=>b
 |_=>AJ
def G.bV:G->Bool
 |.t x=>x
 |_=>false
def G.rZ:G->List (List G)
 |.l rZ=>rZ
 |_=>[]
inductive AV where
 |undef
 |lit (v:al)
 |nils
 |list (k:Nat) (rZ:List (List AV))
 |listF (ks:List Kd) (rZ:List (List G))
 |agg (cells:List AV)
 |tuple (vs:List AV)
 |cptr (cells:List AV)
 |ptr (id ax k row col:Nat)
 |vQ (k id ax oF n:Nat)
 |map (id:Nat)
 |clo (f:FuncId) (caps:List AV)
 |ifc
 |emptyS (isNil:Bool)
 deriving Inhabited
def mX:Kd->G->AV
 |.int k,g=>.lit (.int k g.iV)
 |.str,g=>.lit (.string g.sV)
 |.bool,g=>.lit (.bool g.bV)
 |.list ks,g=>.listF ks g.rZ
def bh:List Kd->List G->List AV
 |[],_=>[]
 |k::ks,g=>mX k (g.headD default)::bh ks g.tail
theorem vz:∀(ks:List Kd) (g:List G),(bh ks g).length=ks.length
 |[],_=>rfl
 |_::ks,g=>by simp[bh,vz ks]
inductive ay where
 |dead
 |box (cells:List AV)
 |vQ (k ax:Nat) (rZ:List (List AV))
 |map (es:List (AV × AV × Nat)) (aL:Nat)
 |iter (s:ByteArray) (pos:Nat)
 |dK (l:Nat) (T B:aJ) (s:ByteArray)
 |bI (l k:Nat) (es:List (AV × Option (List (List AV)) × Nat)) (aL:Nat)
 deriving Inhabited
def ay.label:ay->Option Nat
 |.dK l _ _ _=>some l
 |.bI l _ _ _=>some l
 |_=>none
def ay.bt : ay->Option Nat
 |.dead=>none
 |.box _=>some 0
 |.vQ _ v _=>some v
 |.map _ _=>some 0
 |.iter _ _=>some 0
 |.dK ..=>some 0
 |.bI ..=>some 0
structure XS where
 x:Nat->Prop
 z:Nat->Prop
 r:Nat->List (Option (Option (Nat × Nat)))
instance:CoeFun XS fun _=>Nat->Prop:=⟨XS.x⟩
def XS.or(X:XS)(p:Nat->Prop):XS:=⟨fun b=>X b\/p b,X.z,X.r⟩
def XS.re(X:XS) (r:Nat->List (Option (Option (Nat × Nat)))):XS:=⟨X.x,X.z,r⟩
@[simp] theorem XS.aaw (X:XS):X.re X.r=X:=rfl
@[simp] theorem XS.aus (X:XS) (r):(X.re r).x=X.x:=rfl
@[simp] theorem XS.aut (X:XS) (r):(X.re r).z=X.z:=rfl
@[simp] theorem XS.auu (X:XS) (r):(X.re r).r=r:=rfl
@[simp] theorem XS.auv (X:XS) (r d):(X.re r).re d=X.re d:=rfl
theorem XS.PG{X d:XS}(h:d.x=X.x/\d.z=X.z)(r):d.re r=X.re r:=by
 unfold XS.re;rw[h.1,h.2]
def fM:Nat->List (Option (Option (Nat × Nat))):=fun _=>[]
def xW:List (Nat × Array al):=[(3,((List.range 20).map fun i=>Value.int .u64 ((10 ^ i:Nat):Int)).toArray)]
class Dr where
 d:Bool
abbrev rK:Dr:=⟨true⟩
abbrev drF:Dr:=⟨false⟩
variable [Dr]
def xX:Bool:=Dr.d
structure af where
 w:be
 H:List ay
 ad:List (Option (Nat × Nat))
 X:XS
def af.sat(E:af)(b:Nat):Prop:=∃(l h m:Nat),(E.X.r l)[h]?=some (some (some (b,m)))
def af.bC(E:af)(b:Nat):Prop:=(∃(id:Nat) (c:Nat),E.ad[id]?=some (some (b,c)))\/E.sat b
def af.lq(E:af)(b:Nat):Prop:=b<E.w.heap.size/\¬ E.bC b/\¬ E.X b
def af.live(E:af)(id ax:Nat):Prop:=∃o,E.H[id]?=some o/\o.bt=some ax
def af.cf(E:af)(id ax:Nat):Prop:=∃o,E.H[id]?=some o/\∀v,o.bt=some v->ax<=v
def fm:al->Bool
 |.agg _ | .tuple _=>false
 |_=>true
mutual
def AV.closed:AV->Bool
 |.undef | .lit _ | .nils | .list _ _ | .listF _ _ | .cptr _ | .ifc | .emptyS _=>true
 |.agg cs | .tuple cs | .clo _ cs=>AV.ca cs
 |.ptr .. | .vQ .. | .map _=>false
def AV.ca:List AV->Bool
 |[]=>true
 |a::as=>a.closed&&AV.ca as
end
theorem jC:∀(ks:List Kd) (g:List G),AV.ca (bh ks g)=true
 |[],_=>rfl
 |k::ks,g=>by
  simp only[bh,AV.ca,jC ks,fJ];cases k<;>rfl
mutual
def fN(E:af):Kd->G->al->Prop
 |.int k,g,c=>c=.int k g.iV
 |.str,g,c=>c=.string g.sV
 |.bool,g,c=>c=.bool g.bV
 |.list ks,g,c=>∃bg cap,c=.slice bg g.rZ.length cap/\g.rZ.length<=cap /\
   (g.rZ=[]\/∃b o,bg=some ⟨b,o,none⟩/\E.lq b/\∀(i:Nat) (r:List G),g.rZ[i]?=some r->mY E ks r b (o+i*ks.length))
def mY(E:af):List Kd->List G->Nat->Nat->Prop
 |[],_,_,_=>True
 |k::ks,g,b,o=>(∃v,E.w.cell? ⟨b,o,none⟩=some v/\fm v=true/\fN E k (g.headD default) v)/\mY E ks g.tail b (o+1)
end
def iC(rZ:List (List AV)):Prop:=∀r∈rZ,AV.ca r=true
mutual
def ae(E:af):AV->al->Prop
 |.undef,_=>True
 |.lit v,c=>c=v
 |.nils,c=>∃bg,c=.slice bg 0 0
 |.list k rZ,c=>iC rZ/\∃bg cap,c=.slice bg rZ.length cap/\rZ.length<=cap /\
   (rZ=[]\/∃b o,bg=some ⟨b,o,none⟩/\E.lq b/\er E k rZ b o)
 |.listF ks rZ,c=>fN E (.list ks) (.l rZ) c
 |.agg cells,c=>∃cs:Array al,c=.agg cs/\(∀x∈cs.toList,fm x=true)/\aq E cells cs.toList
 |.tuple g,c=>∃cs:Array al,c=.tuple cs/\aq E g cs.toList
 |.cptr cells,c=>AV.ca cells=true/\∃b o,c=.pointer (some ⟨b,o,none⟩)/\E.lq b/\dL E cells b o
 |.ptr id ax k row d,c=>(∃b o,c=.pointer (some ⟨b,o,none⟩))/\E.cf id ax/\(E.live id ax->∃b n,E.ad[id]?=some (some (b,n)) /\
   c=.pointer (some ⟨b,row*k+d,none⟩))
 |.vQ k id ax oF n,c=>(∃bg cap,c=.slice bg n cap/\n<=cap/\(0<n->∃b o,bg=some ⟨b,o,none⟩))/\E.cf id ax/\(E.live id ax ->
   (E.ad[id]?=some none->n=0/\oF=0/\∃bg,c=.slice bg 0 0) /\
   (∀b m,E.ad[id]?=some (some (b,m))->oF+n<=m/\∃o,(oF<m->o=oF*k)/\c=.slice (some ⟨b,o,none⟩) n (m-oF)))
 |.map id,c=>(∃b,c=.map (some b))/\E.cf id 0/\(E.live id 0->∃b n,E.ad[id]?=some (some (b,n))/\c=.map (some b))
 |.clo f caps,c=>∃cs:Array al,c=.func (.func f) #[] cs/\aq E caps cs.toList
 |.ifc,c=>∃t v,c=.iface t v
 |.emptyS n,c=>∃bg cap,c=.slice bg 0 cap/\bg.isNone=n
def aq(E:af):List AV->List al->Prop
 |[],[]=>True
 |a::as,v::d=>ae E a v/\aq E as d
 |_,_=>False
def dL(E:af):List AV->Nat->Nat->Prop
 |[],_,_=>True
 |a::as,b,o=>(∃v,E.w.cell? ⟨b,o,none⟩=some v/\fm v=true/\ae E a v)/\dL E as b (o+1)
def er(E:af)(k:Nat):List (List AV)->Nat->Nat->Prop
 |[],_,_=>True
 |r::rs,b,o=>r.length=k/\dL E r b o/\er E k rs b (o+k)
end
theorem il{E:af}:∀{as:List AV} {d:List al},aq E as d->as.length=d.length
 |[],[],_=>rfl
 |_::_,_::_,h=>by simp only[aq]at h; simp[il h.2]
 |[],_::_,h=>by simp[aq]at h
 |_::_,[],h=>by simp[aq]at h
theorem rL{E:af}:∀{as:List AV} {d:List al},
  aq E as d↔as.length=d.length/\∀(i:Nat) a v,as[i]?=some a->d[i]?=some v->ae E a v
 |[],[]=>by simp[aq]
 |[],_::_=>by simp[aq]
 |_::_,[]=>by simp[aq]
 |a::as,v::d=>by
  simp only[aq,rL (as:=as),cJ];constructor
  grind
  ·rintro⟨B,g⟩
   exact⟨g 0 a v rfl rfl,ab,fun i x y q A=>g (i+1) x y (by simpa using q) (by simpa using A)⟩
theorem mq{E:af}:∀{as:List AV} {b o:Nat},
  dL E as b o↔∀(i:Nat) a,as[i]?=some a->∃v,E.w.cell? ⟨b,o+i,none⟩=some v/\fm v=true/\ae E a v
 |[],b,o=>by simp[dL]
 |a::as,b,o=>by
  simp only[dL,mq (as:=as)];constructor
  grind
  ·intro h
   refine⟨h 0 a rfl,fun i x d=>?_⟩;have:=h (i+1) x (by simpa using d)
   grind
theorem qv{E:af}{k:Nat}:∀{rs:List (List AV)} {b o:Nat},
  er E k rs b o↔∀(i:Nat) r,rs[i]?=some r->r.length=k/\dL E r b (o+i*k)
 |[],b,o=>by simp[er]
 |r::rs,b,o=>by
  simp only[er,qv (rs:=rs)];constructor
  ·rintro⟨d,q,A⟩ i x g
   cases i<;>grind
  ·intro h
   have d:=h 0 r rfl;refine⟨d.1,by simpa using d.2,fun i x g=>?_⟩;have:=h (i+1) x (by simpa using g)
   grind
def eV(w w':be):Prop:=w'.os=w.os/\w'.output=w.output/\w'.tape=w.tape/\(xX=true->w.drawn<=w'.drawn)
theorem eV.refl(w:be):eV w w:=⟨rfl,rfl,rfl,by first|exact fun _=>bl _|exact fun _=>gk _ _⟩
theorem eV.trans{w w' d:be}(h:eV w w')(h':eV w' d):eV w d:=⟨h'.1.trans h.1,h'.2.1.trans h.2.1,h'.2.2.1.trans h.2.2.1,fun t=>gl (h.2.2.2 t) (h'.2.2.2 t)⟩
structure af.le (E E':af):Prop where
 cf:∀id ax,E.cf id ax->E'.cf id ax
 size:E.w.heap.size<=E'.w.heap.size
 same:∀b,b<E.w.heap.size->¬ E.bC b->E'.w.heap[b]?=E.w.heap[b]?
 bC:∀b,b<E.w.heap.size->¬ E.bC b->¬ E'.bC b
 live:∀id ax,E.cf id ax->E'.live id ax->E.live id ax/\E'.ad[id]?=E.ad[id]?
 X:E'.X.x=E.X.x/\E'.X.z=E.X.z
 rl:∀l h,h<(E.X.r l).length->h<(E'.X.r l).length/\∀q,(E'.X.r l)[h]?=some (some q)->(E.X.r l)[h]?=some (some q)
 env:eV E.w E'.w
theorem af.le.refl(E:af):E.le E:=⟨fun _ _ h=>h,bl _,fun _ _ _=>rfl,fun _ _ h=>h,fun _ _ _ h=>⟨h,rfl⟩,⟨rfl,rfl⟩,fun _ _ h=>⟨h,fun _ d=>d⟩,⟨rfl,rfl,rfl,by first|exact fun _=>bl _|exact fun _=>gk _ _⟩⟩
variable {E E':af} {as cells:List AV} {o':ay} {x a v:AV} {hi lo:Option AV} {H':List ay}
theorem af.le.ok(h:E.le E')(b:Nat)(d:E.lq b):E'.lq b:=
 ⟨fK d.1 h.size,h.bC b d.1 d.2.1,by rw[show E'.X.x=E.X.x from h.X.1]; exact d.2.2⟩
theorem af.le.trans{E E' J:af}(h:E.le E')(h':E'.le J):E.le J where
 cf:=fun id ax N=>h'.cf id ax (h.cf id ax N)
 size:=gl h.size h'.size
 same:=fun b d g=>by rw[h'.same b (fK d h.size) (h.bC b d g),h.same b d g]
 bC:=fun b d g=>h'.bC b (fK d h.size) (h.bC b d g)
 live:=fun id ax M O=>by
  obtain⟨A,B⟩:=h'.live id ax (h.cf id ax M) O;obtain⟨F,I⟩:=h.live id ax M A;exact⟨F,by rw[B,I]⟩
 X:=⟨by rw[h'.X.1,h.X.1],by rw[h'.X.2,h.X.2]⟩
 rl:=fun l i hi=>by
  obtain⟨A,B⟩:=h.rl l i hi;obtain⟨F,I⟩:=h'.rl l i A;exact⟨F,fun q U=>B q (I q U)⟩
 env:=h.env.trans h'.env
theorem World.xY(h:w'.heap[b]?=w.heap[b]?):w'.cell? ⟨b,o,none⟩=w.cell? ⟨b,o,none⟩:=by
 simp[s9,h]
structure af.cQ (E E':af):Prop where
 ok:∀b,E.lq b->E'.lq b/\E'.w.heap[b]?=E.w.heap[b]?
theorem af.le.toC(h:E.le E'):E.cQ E':=⟨fun b d=>⟨h.ok b d,h.same b d.1 d.2.1⟩⟩
mutual
theorem PH{E E':af}(h:E.cQ E'):∀(k:Kd) {g:G} {c:al},fN E k g c->fN E' k g c
 |.int k,g,c,hr=>by simpa only[fN]using hr
 |.str,g,c,hr=>by simpa only[fN]using hr
 |.bool,g,c,hr=>by simpa only[fN]using hr
 |.list ks,g,c,hr=>by
  simp only[fN]at hr|-;obtain⟨bg,cap,hc,A,q⟩:=hr;refine⟨bg,cap,hc,A,?_⟩;rcases q with hn|⟨b,o,B,aV,d⟩
  grind
  ·exact .inr ⟨b,o,B,(h.ok b aV).1,fun i r hi=>PI h ks (h.ok b aV).2 (d i r hi)⟩
theorem PI{E E':af}(h:E.cQ E'):∀(ks:List Kd) {g:List G} {b o:Nat},E'.w.heap[b]? = E.w.heap[b]? -> mY E ks g b o->mY E' ks g b o
 |[],_,_,_,_,_=>by simp[mY]
 |k::ks,g,b,o,d,hr=>by
  simp only[mY]at hr|-;obtain⟨⟨v,q,A,B⟩,F⟩:=hr;exact⟨⟨v,by rw[World.xY d]; exact q,A,PH h k B⟩,PI h ks d F⟩
end
mutual
theorem fD{E E':af}(h:E.cQ E'):∀(a:AV) {c:al},a.closed=true->ae E a c->ae E' a c
 |.undef,_,_,_=>by simp[ae]
 |.lit v,c,_,hr=>by simpa only[ae]using hr
 |.nils,c,_,hr=>by simpa only[ae]using hr
 |.list k rZ,c,_,hr=>by
  simp only[ae]at hr|-;obtain⟨g,bg,cap,hc,B,A⟩:=hr;refine⟨g,bg,cap,hc,B,?_⟩;rcases A with rfl|⟨b,o,F,aV,q⟩
  ·exact .inl rfl
  ·exact .inr ⟨b,o,F,(h.ok b aV).1,pk h rZ g (h.ok b aV).2 q⟩
 |.listF ks rZ,c,_,hr=>by
  simp only[ae]at hr|-;exact PH h _ hr
 |.agg cells,c,hc,hr=>by
  simp only[ae]at hr|-;obtain⟨cs,e,I,d⟩:=hr;exact⟨cs,e,I,tu h cells (by simpa only[AV.closed]using hc) d⟩
 |.tuple cells,c,hc,hr=>by
  simp only[ae]at hr|-;obtain⟨cs,e,d⟩:=hr;exact⟨cs,e,tu h cells (by simpa only[AV.closed]using hc) d⟩
 |.cptr cells,c,hc,hr=>by
  simp only[ae]at hr|-;obtain⟨g,b,o,e,aV,d⟩:=hr;exact⟨g,b,o,e,(h.ok b aV).1,xZ h cells g (h.ok b aV).2 d⟩
 |.ptr ..,_,hc,_=>by simp[AV.closed]at hc
 |.vQ ..,_,hc,_=>by simp[AV.closed]at hc
 |.map _,_,hc,_=>by simp[AV.closed]at hc
 |.clo f caps,c,hc,hr=>by
  simp only[ae]at hr|-;obtain⟨cs,e,d⟩:=hr;exact⟨cs,e,tu h caps (by simpa only[AV.closed]using hc) d⟩
 |.ifc,c,_,hr=>by simpa only[ae]using hr
 |.emptyS n,c,_,hr=>by simpa only[ae]using hr
theorem tu{E E':af}(h:E.cQ E'):∀(as:List AV) {d:List al},AV.ca as=true->aq E as d->aq E' as d
 |[],[],_,_=>by simp[aq]
 |[],_::_,_,hr=>by simp[aq]at hr
 |_::_,[],_,hr=>by simp[aq]at hr
 |a::as,v::d,hc,hr=>by
  simp only[AV.ca,aR]at hc;simp only[aq]at hr|-;exact⟨fD h a hc.1 hr.1,tu h as hc.2 hr.2⟩
theorem xZ{E E':af}(h:E.cQ E'):∀(as:List AV) {b o:Nat},AV.ca as=true->E'.w.heap[b]? = E.w.heap[b]? -> dL E as b o->dL E' as b o
 |[],_,_,_,_,_=>by simp[dL]
 |a::as,b,o,hc,d,hr=>by
  simp only[AV.ca,aR]at hc;simp only[dL]at hr|-;obtain⟨⟨v,g,q,A⟩,B⟩:=hr;exact⟨⟨v,by rw[World.xY d]; exact g,q,fD h a hc.1 A⟩,xZ h as hc.2 d B⟩
theorem pk{E E':af}(h:E.cQ E'){k:Nat}:∀(rs:List (List AV)) {b o:Nat},iC rs->E'.w.heap[b]? = E.w.heap[b]? -> er E k rs b o->er E' k rs b o
 |[],_,_,_,_,_=>by simp[er]
 |r::rs,b,o,hc,d,hr=>by
  simp only[er]at hr|-;exact⟨hr.1,xZ h r (hc r ai) d hr.2.1,pk h rs (fun x g=>hc x (by simp[g])) d hr.2.2⟩
end
mutual
theorem dW{E E':af}(h:E.le E'):∀(a:AV) {c:al},ae E a c->ae E' a c
 |.undef,_,_=>by simp[ae]
 |.lit v,c,hr=>by simpa only[ae]using hr
 |.nils,c,hr=>by simpa only[ae]using hr
 |.list k rZ,c,hr=>fD h.toC _ (by simp[AV.closed]) hr
 |.listF ks rZ,c,hr=>fD h.toC _ (by simp[AV.closed]) hr
 |.agg cells,c,hr=>by
  simp only[ae]at hr|-;obtain⟨cs,e,g,d⟩:=hr;exact⟨cs,e,g,gJ h cells d⟩
 |.tuple cells,c,hr=>by
  simp only[ae]at hr|-;obtain⟨cs,e,d⟩:=hr;exact⟨cs,e,gJ h cells d⟩
 |.cptr cells,c,hr=>fD h.toC _ (by simp[AV.closed]) hr
 |.ptr id ax k row A,c,hr=>by
  simp only[ae]at hr|-;refine⟨hr.1,h.cf _ _ hr.2.1,fun q=>?_⟩;obtain⟨g,d⟩:=h.live id ax hr.2.1 q;rw[d];exact hr.2.2 g
 |.vQ k id ax oF n,c,hr=>by
  simp only[ae]at hr|-;refine⟨hr.1,h.cf _ _ hr.2.1,fun q=>?_⟩;obtain⟨g,d⟩:=h.live id ax hr.2.1 q;rw[d];exact hr.2.2 g
 |.map id,c,hr=>by
  simp only[ae]at hr|-;refine⟨hr.1,h.cf _ _ hr.2.1,fun q=>?_⟩;obtain⟨g,d⟩:=h.live id 0 hr.2.1 q;rw[d];exact hr.2.2 g
 |.clo f caps,c,hr=>by
  simp only[ae]at hr|-;obtain⟨cs,e,d⟩:=hr;exact⟨cs,e,gJ h caps d⟩
 |.ifc,c,hr=>by simpa only[ae]using hr
 |.emptyS n,c,hr=>by simpa only[ae]using hr
theorem gJ{E E':af}(h:E.le E'):∀(as:List AV) {d:List al},aq E as d->aq E' as d
 |[],[],_=>by simp[aq]
 |[],_::_,hr=>by simp[aq]at hr
 |_::_,[],hr=>by simp[aq]at hr
 |a::as,v::d,hr=>by
  simp only[aq]at hr|-;exact⟨dW h a hr.1,gJ h as hr.2⟩
end
theorem aay(k:Kd)(g:G)(c:al):ae E (mX k g) c↔fN E k g c:=by
 cases k<;>grind[mX,ae,fN,G.rZ]
theorem PJ{E:af}:∀(ks:List Kd) (g:List G) (b o:Nat),dL E (bh ks g) b o↔mY E ks g b o
 |[],_,_,_=>by simp[bh,dL,mY]
 |k::ks,g,b,o=>by simp only[bh,dL,mY,PJ ks,aay]
theorem m_{ks:List Kd}{rZ:List (List G)}:ae E (.listF ks rZ) c↔ae E (.list ks.length (rZ.map (bh ks))) c:=by
 simp only[ae,fN,G.rZ,bL,List.map_eq_nil_iff]
 simp_all[iC,jC,qv,vz,PJ]
def isRow(w:be)(b n:Nat):Prop:=∃cs d,w.heap[b]?=some (.cells cs d (0,0))/\cs.size=n
def di(E:af):List (AV × AV × Nat)->List MapEntry->Prop
 |[],[]=>True
 |(k,v,n)::d,e::g=>ae E k e.key/\ae E v e.val/\e.born=n/\k.closed=true/\v.closed=true/\di E d g
 |_,_=>False
def Es(w:be)(B:aJ)(s:ByteArray)(v:al):Option (Nat × Nat)->Prop
 |none=>v=.slice none 0 0/\s.data.toList=[]
 |some (g,m)=>v=.slice (some ⟨g,0,none⟩) s.data.toList.length m/\∃cs fz,w.heap[g]?=some (.cells cs B fz)/\fz.2<=s.data.toList.length/\cs.size=m/\s.data.toList.length<=m/\m<=9223372036854775807 /\
   cs.toList.take s.data.toList.length=s.data.toList.map fun b=>Value.int .u8 (b.toNat:Int)
theorem Jy{B:aJ}{s:ByteArray}{v:al}{q:Option (Nat × Nat)}(h:∀g m,q=some (g,m)->w'.heap[g]?=w.heap[g]?)(hr:Es w B s v q):Es w' B s v q:=by
 cases q with
 |none=>exact hr
 |some d=>
  obtain⟨g,m⟩:=d;obtain⟨A,cs,fz,F,I⟩:=hr;exact⟨A,cs,fz,by rw[h g m rfl]; exact F,I⟩
def eu (d:List (AV × Option (List (List AV)) × Nat)):List (AV × AV × Nat):=d.map fun x=>(x.1,.undef,x.2.2)
theorem Jz (d:List (AV × Option (List (List AV)) × Nat)):(eu d).length=d.length:=by simp[eu]
def JA(E:af)(l k:Nat)(rZ:List (List AV))(h:Nat)(v:al):Prop:=
 (rZ=[]/\∃bg,v=.slice bg 0 0) \/
  ∃b m,(E.X.r l)[h]?=some (some (some (b,m)))/\v=.slice (some ⟨b,0,none⟩) rZ.length m/\isRow E.w b (m*k)/\rZ.length<=m/\iC rZ/\er E k rZ b 0
def lU(E:af)(l k:Nat) (d:List (AV × Option (List (List AV)) × Nat)) (g:List MapEntry):Prop:=
 ∃hs:Nat->Nat,(∀(i j:Nat) x y,d[i]?=some x->d[j]?=some y->x.2.1.isSome=true->y.2.1.isSome=true->hs i=hs j->i=j) /\
  ∀(i:Nat) x rZ e,d[i]?=some x->x.2.1=some rZ->g[i]?=some e->JA E l k rZ (hs i) e.val
theorem aaz{rZ:List (List AV)}{v:al} (q:∀ b m,(E.X.r l)[h]? = some (some (some (b,m)))->(E'.X.r l)[h]? = some (some (some (b,m)))/\E'.w.heap[b]? = E.w.heap[b]?)
  (A:∀b,E'.w.heap[b]?=E.w.heap[b]?->iC rZ->er E k rZ b 0->er E' k rZ b 0) (hr:JA E l k rZ h v):JA E' l k rZ h v:=by
 rcases hr with hr|⟨b,m,B,F,⟨cs,I,J,M⟩,N,d,O⟩
 ·exact .inl hr
 ·obtain⟨U,g⟩:=q b m B
  exact .inr ⟨b,m,U,F,⟨cs,I,by rw[g]; exact J,M⟩,N,d,A b g d O⟩
theorem A1{d:List (AV × Option (List (List AV)) × Nat)}{q:List MapEntry} (B:∀(h b m:Nat),(E.X.r l)[h]? = some (some (some (b,m)))->(E'.X.r l)[h]? = some (some (some (b,m)))/\E'.w.heap[b]? = E.w.heap[b]?)
  (F:∀(i:Nat) x rZ,d[i]?=some x->x.2.1=some rZ->∀b,E'.w.heap[b]?=E.w.heap[b]?->iC rZ->er E k rZ b 0->er E' k rZ b 0) (hr:lU E l k d q):lU E' l k d q:=by
 obtain⟨hs,I,J⟩:=hr;exact⟨hs,I,fun i x rZ e A g he=>aaz (B (hs i)) (F i x rZ A g) (J i x rZ e A g he)⟩
def bK(E:af)(id:Nat):ay->Prop
 |.dead=>E.ad[id]?=some none
 |.box cells=>∃b n,E.ad[id]?=some (some (b,n))/\isRow E.w b cells.length/\dL E cells b 0
 |.vQ k _ rZ=>(E.ad[id]?=some none/\rZ=[]) \/
   ∃b m,E.ad[id]?=some (some (b,m))/\isRow E.w b (m*k)/\rZ.length<=m/\iC rZ/\er E k rZ b 0
 |.map g aL=>∃b n d,E.ad[id]?=some (some (b,n))/\E.w.heap[b]?=some (.map d aL)/\di E g d.toList
 |.iter s pos=>∃b n,E.ad[id]?=some (some (b,n))/\E.w.heap[b]?=some (.stringIter s pos)
 |.dK l T B s=>∃ (b n:Nat) (p v:al) (h:Nat) (q:Option (Nat × Nat)),E.ad[id]?=some (some (b,n))/\E.w.heap[b]?=some (.cells #[p,v] T (0,0))/\(p=.pointer none\/p=.pointer (some ⟨b,0,none⟩))/\(E.X.r l)[h]?=some (some q) /\
   (∀(h':Nat) q',(E.X.r l)[h']?=some (some q')->h'=h)/\Es E.w B s v q
 |.bI l k g aL=>∃b n d,E.ad[id]?=some (some (b,n))/\E.w.heap[b]?=some (.map d aL)/\di E (eu g) d.toList/\lU E l k g d.toList
def rM(E:af):Prop:=∀p∈xW,E.lq p.1/\∃t f,E.w.heap[p.1]?=some (.cells p.2 t f)
theorem rM.cQ{E E':af}(H:rM E)(h:E.cQ E'):rM E':=fun p g=>by
 obtain⟨d,t,f,q⟩:=H p g;exact⟨(h.ok _ d).1,t,f,by rw[(h.ok _ d).2]; exact q⟩
structure aO (E:af):Prop where
 len:E.ad.length=E.H.length
 inj:∀(i j b m n:Nat),E.ad[i]?=some (some (b,m))->E.ad[j]?=some (some (b,n))->i=j
 lt:∀(i b m:Nat),E.ad[i]?=some (some (b,m))->b<E.w.heap.size/\¬ E.X b
 X:∀b,E.X b->b<E.w.heap.size
 obj:∀(i:Nat) o,E.H[i]?=some o->bK E i o
 iD:rM E
 iE:∀(l h l' h' b m n:Nat),(E.X.r l)[h]?=some (some (some (b,m)))->(E.X.r l')[h']?=some (some (some (b,n)))->l=l'/\h=h'
 eY:∀(i b m l h n:Nat),E.ad[i]?=some (some (b,m))->(E.X.r l)[h]?≠some (some (some (b,n)))
 dP:∀(l h b m:Nat),(E.X.r l)[h]?=some (some (some (b,m)))->b<E.w.heap.size/\¬ E.X b
 uniq:∀(i j:Nat) o o' (l:Nat),E.H[i]?=some o->E.H[j]?=some o'->o.label=some l->o'.label=some l->i=j
 kM:∀(l:Nat),(∀(i:Nat) o,E.H[i]?=some o->o.label≠some l)->∀(h:Nat) q,(E.X.r l)[h]?≠some (some q)
theorem aO.kh(H:aO E)(d:E.X b):¬ E.bC b:=by
 rintro(⟨i,c,hi⟩|⟨l,h,m,hi⟩)
 ·exact(H.lt i b c hi).2 d
 ·exact(H.dP l h b m hi).2 d
theorem aO.x2(H:aO E)(d:E.bC b):b<E.w.heap.size/\¬ E.X b:=by
 rcases d with⟨i,c,hi⟩|⟨l,h,m,hi⟩
 ·exact H.lt i b c hi
 ·exact H.dP l h b m hi
structure Ext (w w':be):Prop where
 size:w.heap.size<=w'.heap.size
 same:∀b,b<w.heap.size->w'.heap[b]?=w.heap[b]?
 env:eV w w'
theorem Ext.refl(w:be):Ext w w:=⟨bl _,fun _ _=>rfl,⟨rfl,rfl,rfl,by first|exact fun _=>bl _|exact fun _=>gk _ _⟩⟩
theorem Ext.trans{w w' d:be}(h:Ext w w')(h':Ext w' d):Ext w d:=
 ⟨gl h.size h'.size,fun b g=>by rw[h'.same b (fK g h.size),h.same b g],h.env.trans h'.env⟩
theorem Ext.push(w:be)(o:Obj):Ext w { w with heap:=w.heap.push o }:=
 ⟨ai,fun b d=>by simp[Array.getElem?_push,Nat.ne_of_lt d],⟨rfl,rfl,rfl,by first|exact fun _=>bl _|exact fun _=>gk _ _⟩⟩
theorem Ext.drawn(w:be)(n:Nat)(h:w.drawn<=n:=by exact Nat.le_succ _):Ext w { w with drawn:=n }:=⟨bl _,fun _ _=>rfl,⟨rfl,rfl,rfl,fun _=>h⟩⟩
theorem af.jn(h:Ext E.w w'):E.le { E with w:=w' } where
 cf:=fun _ _ h=>h
 size:=h.size
 same:=fun b d _=>h.same b d
 bC:=fun _ _ g=>g
 live:=fun _ _ _ q=>⟨q,rfl⟩
 X:=⟨rfl,rfl⟩
 rl:=fun _ _ h=>⟨h,fun _ A=>A⟩
 env:=h.env
theorem x4(h:w'.heap[b]?=w.heap[b]?)(hr:isRow w b n):isRow w' b n:=by
 unfold isRow at *; rw[h]; exact hr
theorem A2(d:∀ a c,ae E a c->ae E' a c)(g:E'.w.heap[b]? = E.w.heap[b]?)
  (h:dL E as b o):dL E' as b o:=by
 rw[mq]at *;intro i a hi;obtain⟨v,q,A,B⟩:=h i a hi;exact⟨v,by rw[World.xY g]; exact q,A,d _ _ B⟩
theorem pn(d:∀ a c,ae E a c->ae E' a c)(g:E'.w.heap[b]? = E.w.heap[b]?){rs:List (List AV)}
  (h:er E k rs b o):er E' k rs b o:=by
 rw[qv]at *;intro i r hi;exact⟨(h i r hi).1,A2 d g (h i r hi).2⟩
theorem qw{E E':af}(d:∀ a c,ae E a c->ae E' a c):∀{g:List (AV × AV × Nat)} {q:List MapEntry},di E g q->di E' g q
 |[],[],_=>by simp[di]
 |[],_::_,h=>by simp[di]at h
 |(_,_,_)::_,[],h=>by simp[di]at h
 |(k,v,n)::g,e::q,h=>by
  simp only[di]at h|-;exact⟨d _ _ h.1,d _ _ h.2.1,h.2.2.1,h.2.2.2.1,h.2.2.2.2.1,qw d h.2.2.2.2.2⟩
theorem po{o:ay}(N:∀ a c,ae E a c->ae E' a c)(I:E'.ad[i]? = E.ad[i]?)
  (J:∀b n,E.ad[i]?=some (some (b,n))->E'.w.heap[b]?=E.w.heap[b]?)
  (hg:∀l,o.label=some l->E'.X.r l=E.X.r l/\∀(h g m:Nat),(E.X.r l)[h]?=some (some (some (g,m)))->E'.w.heap[g]?=E.w.heap[g]?) (h:bK E i o):bK E' i o:=by
 cases o with
 |dead=>simp only[bK]at *; rw[I]; exact h
 |box cells=>
  simp only[bK]at *;obtain⟨b,n,d,A,F⟩:=h;exact⟨b,n,by rw[I,d],x4 (J b n d) A,A2 N (J b n d) F⟩
 |vQ k ax rZ=>
  simp only[bK]at *;rcases h with⟨d,A⟩|⟨b,m,d,A,F,M,U⟩
  ·exact .inl ⟨by rw[I,d],A⟩
  ·exact .inr ⟨b,m,by rw[I,d],x4 (J b m d) A,F,M,pn N (J b m d) U⟩
 |map es aL=>
  simp only[bK]at *;obtain⟨b,n,W,d,A,F⟩:=h;exact⟨b,n,W,by rw[I,d],by rw[J b n d,A],qw N F⟩
 |iter s pos=>
  simp only[bK]at *;obtain⟨b,n,d,A⟩:=h;exact⟨b,n,by rw[I,d],by rw[J b n d,A]⟩
 |dK l T B s=>
  simp only[bK]at *;obtain⟨b,n,p,v,k,q,d,A,F,M,U,h6⟩:=h;obtain⟨O,Y⟩:=hg l rfl;exact⟨b,n,p,v,k,q,by rw[I,d],by rw[J b n d,A],F,by rw[O,M],by rw[O]; exact U,Jy (fun g m e=>Y k g m (by rw[M,e])) h6⟩
 |bI l k es aL=>
  simp only[bK]at *;obtain⟨b,n,W,d,A,F,M⟩:=h;obtain⟨O,Y⟩:=hg l rfl;exact⟨b,n,W,by rw[I,d],by rw[J b n d,A],qw N F,A1 (fun h g m hk=>⟨by rw[O]; exact hk,Y h g m hk⟩) (fun _ _ _ _ _ b hb2 _ hr=>pn N hb2 hr) M⟩
theorem aO.ext(H:aO E)(h:Ext E.w w'):aO { E with w:=w' } where
 len:=H.len
 inj:=H.inj
 lt:=fun i b m hi=>⟨fK (H.lt i b m hi).1 h.size,(H.lt i b m hi).2⟩
 X:=fun b q=>fK (H.X b q) h.size
 obj:=fun i o hi=>po (fun a _ hr=>dW (af.jn h) a hr) rfl (fun b n q=>h.same b (H.lt i b n q).1) (fun l _=>⟨rfl,fun k g m d=>h.same g (H.dP l k g m d).1⟩) (H.obj i o hi)
 iD:=H.iD.cQ (af.jn h).toC
 iE:=H.iE
 eY:=H.eY
 dP:=fun l k b m d=>⟨fK (H.dP l k b m d).1 h.size,(H.dP l k b m d).2⟩
 uniq:=H.uniq
 kM:=H.kM
def af.push(E:af)(w':be)(o:ay)(l:Option (Nat × Nat)):af:={ w:=w',H:=E.H++[o],ad:=E.ad++[l],X:=E.X }
theorem bA{l:List α}{x:α}(h:l[i]?=some x):i<l.length:=by
 rcases mh i l.length with h'|h'
 ·exact h'
 ·rw[List.getElem?_eq_none h']at h; cases h
theorem auw(l:List α)(x:α)(i:Nat)(h:i<l.length):(l++[x])[i]?=l[i]?:=by
 rw[fB h]
theorem af.nc{o:ay}{l:Option (Nat × Nat)}(N:E.ad.length=E.H.length)(h:Ext E.w w')
  (q:∀b n,l=some (b,n)->E.w.heap.size<=b):E.le (E.push w' o l) where
 cf:=fun id ax A=>by
  obtain⟨x,g,B⟩:=A;exact⟨x,by simp only[af.push]; rw[fB (bA g)]; exact g,B⟩
 size:=h.size
 same:=fun b q _=>h.same b q
 bC:=fun b M F=>by
  rintro(⟨id,c,d⟩|hs)
  case inr=>exact F (.inr hs)
  simp only[af.push]at d;by_cases hi:id<E.ad.length
  ·rw[fB hi]at d
   exact F (.inl ⟨id,c,d⟩)
  ·rw[List.getElem?_append_right ab]at d
   cases I:id-E.ad.length with
   |zero=>
    rw[I]at d;simp at d;have:=q b c d;omega
   |succ n=>rw[I]at d; simp at d
 live:=fun id ax A=>by
  obtain⟨x,g,B⟩:=A;have d:=bA g;simp only[af.live,af.push];rw[fB d,fB ab];exact fun h=>⟨h,rfl⟩
 X:=⟨rfl,rfl⟩
 rl:=fun _ _ h=>⟨h,fun _ J=>J⟩
 env:=h.env
theorem aO.push{E:af}{w':be}{o:ay}{l:Option (Nat × Nat)}(H:aO E)(h:Ext E.w w')
  (A:∀b n,l=some (b,n)->E.w.heap.size<=b/\b<w'.heap.size) (ho:bK (E.push w' o l) E.H.length o) (hlab:o.label=none:=by first|rfl|assumption):aO (E.push w' o l) where
 iE:=H.iE
 dP:=fun l k b m d=>⟨fK (H.dP l k b m d).1 h.size,(H.dP l k b m d).2⟩
 eY:=by
  intro i b m l' k n hi d;simp only[af.push,lN]at hi;split at hi
  ·exact H.eY i b m l' k n hi d
  ·rename_i F
   cases W:i-E.ad.length with
   |zero=>
    rw[W]at hi;simp at hi;have I:=A b m hi;have N:=(H.dP l' k b n d).1;omega
   |succ n=>grind
 uniq:=by
  have key:∀(i:Nat) o1 l1,(E.push w' o l).H[i]?=some o1->o1.label=some l1->E.H[i]?=some o1:=by
   intro i o1 l1 hi hl1;simp only[af.push,lN]at hi;split at hi
   ·exact hi
   grind
  exact fun i j o1 o2 l1 hi q F J=>H.uniq i j o1 o2 l1 (key i o1 l1 hi F) (key j o2 l1 q J) F J
 kM:=fun l1 hn=>H.kM l1 fun i o1 hi=>hn i o1 (by
  simp only[af.push];rw[fB (bA hi)];exact hi)
 iD:=H.iD.cQ (af.nc H.len h (fun b n e=>(A b n e).1)).toC
 len:=by simp[af.push,H.len]
 inj:=by
  intro i j b m n hi q;simp only[af.push,lN]at hi q;split at hi<;>split at q
  ·exact H.inj i j b m n hi q
  ·rename_i F J
   cases d:j-E.ad.length with
   |zero=>
    rw[d]at q;simp at q;have I:=A b n q;have N:=(H.lt i b m hi).1;omega
   |succ n=>grind
  ·rename_i F J
   cases d:i-E.ad.length with
   |zero=>
    rw[d]at hi;simp at hi;have I:=A b m hi;have N:=(H.lt j b n q).1;omega
   |succ n=>grind
  grind
 lt:=by
  intro i b m hi;simp only[af.push,lN]at hi|-;split at hi
  ·exact⟨fK (H.lt i b m hi).1 h.size,(H.lt i b m hi).2⟩
  ·cases d:i - E.ad.length with
   |zero=>
    rw[d]at hi;simp at hi;have I:=A b m hi;exact⟨I.2,fun Y=>by have:=H.X b Y; omega⟩
   |succ n=>grind
 X:=fun b B=>fK (H.X b B) h.size
 obj:=by
  intro i o' hi;have O:E.le (E.push w' o l):=af.nc H.len h (fun b n B=>(A b n B).1);by_cases M:i<E.H.length
  ·simp only[af.push]at hi
   rw[fB M]at hi;refine po (fun a _ hr=>dW O a hr) ?_ ?_ ?_ (H.obj i o' hi)
   ·simp only[af.push]
    rw[fB (by rw[H.len]; exact M)]
   ·intro b n B
    exact h.same b (H.lt i b n B).1
   ·exact fun l1 _=>⟨rfl,fun k g m d=>h.same g (H.dP l1 k g m d).1⟩
  ·have U:=hi
   simp only[af.push]at U
   grind
theorem af.pq{o:ay}{l:Option (Nat × Nat)}(B:E.H[id]? = some o)
  (U:E.ad.length=E.H.length) (N:E.w.heap.size<=w'.heap.size)
  (O:∀x,x<E.w.heap.size->(∀n,E.ad[id]?≠some (some (x,n)))->w'.heap[x]?=E.w.heap[x]?)
  (hl:∀b n,l=some (b,n)->E.w.heap.size<=b\/∃m,E.ad[id]?=some (some (b,m)))
  (W:(∀v,o'.bt=some v->o.bt=some v/\E.ad[id]?=some l)\/(∀v,o'.bt=some v->∀u,o.bt=some u->u<v))
  (hup:∀v u,o'.bt=some v->o.bt=some u->u<=v) (J:o.bt=none->o'.bt=none) (Y:eV E.w w':=by first|exact⟨rfl,rfl,rfl,by first|exact fun _=>bl _|exact fun _=>gk _ _⟩|assumption|exact Ext.env (by assumption)) :
  E.le { w:=w',H:=E.H.set id o',ad:=E.ad.set id l,X:=E.X } where
 cf:=fun i ax I=>by
  obtain⟨x,d,g⟩:=I;by_cases e:i=id
  ·subst e
   refine⟨o',by simp only[]; rw[dN (bA B)],fun v q=>?_⟩;rw[B]at d;cases d;cases A:o.bt with
   |none=>rw[J A]at q; cases q
   |some u=>exact gl (g u A) (hup v u q A)
  ·exact⟨x,by simp only[]; rw[dh (Ne.symm e)]; exact d,g⟩
 size:=N
 same:=fun x hx F=>O x hx (fun n hn=>F (.inl ⟨id,n,hn⟩))
 bC:=fun b hlt F=>by
  rintro(⟨i,c,hi⟩|hs)
  case inr=>exact F (.inr hs)
  simp only[iQ]at hi;split at hi
  ·split at hi
   ·simp at hi
    rcases hl b c hi with h|⟨m,hm⟩
    ·omega
    ·exact F (.inl ⟨id,m,hm⟩)
   ·cases hi
  ·exact F (.inl ⟨i,c,hi⟩)
 live:=fun i ax I hl'=>by
  obtain⟨x,d,g⟩:=hl';by_cases e:i=id
  ·subst e
   simp only[]at d;rw[dN (bA B)]at d;cases d;rcases W with q|q
   ·obtain⟨a1,a2⟩:=q ax g
    refine⟨⟨o,B,a1⟩,?_⟩;simp only[];rw[dN (by rw[U]; exact bA B),a2]
   ·obtain⟨y,M,h4⟩:=I
    rw[B]at M;cases M;cases A:o.bt with
    |none=>rw[J A]at g; cases g
    |some u=>have:=q ax g u A; have:=h4 u A; omega
  ·simp only[]at d |-
   rw[dh (Ne.symm e)]at d;rw[dh (Ne.symm e)];exact⟨⟨x,d,g⟩,rfl⟩
 X:=⟨rfl,rfl⟩
 rl:=fun _ _ h=>⟨h,fun _ hq=>hq⟩
 env:=Y
theorem aO.rN{o:ay}{l:Option (Nat × Nat)}(H:aO E)(M:E.H[id]? = some o)
  (F:E.w.heap.size<=w'.heap.size)
  (J:∀x,x<E.w.heap.size->(∀n,E.ad[id]?≠some (some (x,n)))->w'.heap[x]?=E.w.heap[x]?)
  (I:∀b n,l=some (b,n)->(E.w.heap.size<=b/\b<w'.heap.size)\/∃m,E.ad[id]?=some (some (b,m)))
  (U:(∀v,o'.bt=some v->o.bt=some v/\E.ad[id]?=some l)\/(∀v,o'.bt=some v->∀u,o.bt=some u->u<v))
  (Y:∀v u,o'.bt=some v->o.bt=some u->u<=v) (O:o.bt=none->o'.bt=none)
  (ho:bK { w:=w',H:=E.H.set id o',ad:=E.ad.set id l,X:=E.X } id o') (W:eV E.w w':=by first|exact⟨rfl,rfl,rfl,by first|exact fun _=>bl _|exact fun _=>gk _ _⟩|assumption|exact Ext.env (by assumption))
  (hlab:o.label=none:=by first|rfl|assumption) (hlab':o'.label=none:=by first|rfl|assumption) :
  aO { w:=w',H:=E.H.set id o',ad:=E.ad.set id l,X:=E.X } where
 iE:=H.iE
 dP:=fun l k b m q=>⟨fK (H.dP l k b m q).1 F,(H.dP l k b m q).2⟩
 eY:=by
  intro i b m l' k n hi q;simp only[iQ]at hi;split at hi
  ·split at hi
   ·simp at hi
    rcases I b m hi with h|⟨m',A⟩
    ·have:=(H.dP l' k b n q).1; omega
    ·exact H.eY _ _ _ _ _ _ A q
   ·cases hi
  ·exact H.eY _ _ _ _ _ _ hi q
 uniq:=by
  have key:∀(i:Nat) o1 l1,(E.H.set id o')[i]?=some o1->o1.label=some l1->E.H[i]?=some o1:=by
   intro i o1 l1 hi hl1;rw[iQ]at hi;split at hi
   ·split at hi
    ·cases hi
     rw[hlab']at hl1;cases hl1
    ·cases hi
   ·exact hi
  exact fun i j o1 o2 l1 hi d h1 h2=>H.uniq i j o1 o2 l1 (key i o1 l1 hi h1) (key j o2 l1 d h2) h1 h2
 kM:=fun l1 hn=>H.kM l1 fun i o1 hi=>by
  by_cases e:i=id
  ·subst e
   rw[M]at hi;cases hi;rw[hlab];exact fun h=>by cases h
  ·exact hn i o1 (by show (E.H.set id o')[i]?=_; rw[dh (Ne.symm e)]; exact hi)
 iD:=H.iD.cQ (af.pq M H.len F J (fun b n B=>(I b n B).imp (fun h=>h.1) (fun h=>h)) U Y O W).toC
 len:=by simp[H.len]
 inj:=by
  intro i j b m n hi d;simp only[iQ]at hi d;split at hi
  ·rename_i e1
   split at d
   ·rename_i e2; omega
   ·split at hi
    ·simp at hi
     rcases I b m hi with h|⟨m',A⟩
     ·have:=(H.lt j b n d).1; omega
     ·rw[<-e1]; exact H.inj _ _ _ _ _ A d
    ·cases hi
  ·split at d
   ·rename_i e2
    split at d
    ·simp at d
     rcases I b n d with h|⟨m',A⟩
     ·have:=(H.lt i b m hi).1; omega
     ·rw[<-e2]; exact H.inj _ _ _ _ _ hi A
    ·cases d
   ·exact H.inj i j b m n hi d
 lt:=by
  intro i b m hi;simp only[iQ]at hi;split at hi
  ·split at hi
   ·simp at hi
    rcases I b m hi with h|⟨m',A⟩
    ·exact⟨h.2,fun hx=>by have:=H.X b hx; omega⟩
    ·exact⟨fK (H.lt _ _ _ A).1 F,(H.lt _ _ _ A).2⟩
   ·cases hi
  ·exact⟨fK (H.lt i b m hi).1 F,(H.lt i b m hi).2⟩
 X:=fun b B=>fK (H.X b B) F
 obj:=by
  intro i x hi;by_cases e:i=id
  ·subst e
   simp only[]at hi;rw[dN (bA M)]at hi;cases hi;exact ho
  ·have N:=hi
   simp only[]at N;rw[dh (Ne.symm e)]at N;have hle:E.le { w:=w',H:=E.H.set id o',ad:=E.ad.set id l,X:=E.X }:=
    af.pq M H.len F J (fun b n B=>(I b n B).imp (fun h=>h.1) (fun h=>h)) U Y O W
   refine po (fun a _ hr=>dW hle a hr) ?_ ?_ ?_ (H.obj i x N)
   ·simp only[]
    rw[dh (Ne.symm e)]
   ·intro b n B
    exact J b (H.lt i b n B).1 (fun m hm=>e (H.inj i id b n m B hm))
   ·exact fun l1 _=>⟨rfl,fun k g m q=>J g (H.dP l1 k g m q).1 (fun n hn=>H.eY id g n l1 k m hn q)⟩
theorem aO.JB{d:Nat}{o:ay}{r':Nat->List (Option (Option (Nat × Nat)))}(H:aO E)(N:E.H[id]? = some o)(hlab:o.label=some d)(hlab':o'.label=some d)(hver:o'.bt = o.bt)
  (hsize:E.w.heap.size<=w'.heap.size)
  (hsame:∀x,x<E.w.heap.size->(∀n,E.ad[id]?≠some (some (x,n)))->(∀(h m:Nat),(E.X.r d)[h]?≠some (some (some (x,m))))->w'.heap[x]?=E.w.heap[x]?)
  (hr:∀l,l≠d->r' l=E.X.r l)
  (hnew:∀(h b m:Nat),(r' d)[h]?=some (some (some (b,m)))->(E.X.r d)[h]?=some (some (some (b,m)))\/(E.w.heap.size<=b/\b<w'.heap.size/\∀(h' m':Nat),(r' d)[h']?=some (some (some (b,m')))->h'=h))
  (hrl:∀(h:Nat),h<(E.X.r d).length->h<(r' d).length/\∀q,(r' d)[h]?=some (some q)->(E.X.r d)[h]?=some (some q))
  (ho:E.le { w:=w',H:=E.H.set id o',ad:=E.ad,X:=E.X.re r' }->bK { w:=w',H:=E.H.set id o',ad:=E.ad,X:=E.X.re r' } id o') (henv:eV E.w w') :
  aO { w:=w',H:=E.H.set id o',ad:=E.ad,X:=E.X.re r' }/\E.le { w:=w',H:=E.H.set id o',ad:=E.ad,X:=E.X.re r' }:=by
 have W:=bA N;have U:∀(l h b m:Nat),(r' l)[h]?=some (some (some (b,m)))->(E.X.r l)[h]?=some (some (some (b,m)))\/(l=d/\E.w.heap.size<=b/\b<w'.heap.size/\∀(h' m':Nat),(r' d)[h']?=some (some (some (b,m')))->h'=h):=fun l h b m F=>by
  by_cases e:l=d
  ·subst e
   rcases hnew h b m F with A|⟨A,B,h3⟩
   ·exact .inl A
   ·exact .inr ⟨rfl,A,B,h3⟩
  ·rw[hr l e]at F
   exact .inl F
 have hle:E.le { w:=w',H:=E.H.set id o',ad:=E.ad,X:=E.X.re r' }:=by
  refine⟨fun i ax hp=>?_,hsize,fun x hx hx'=>hsame x hx (fun n hn=>hx' (.inl ⟨id,n,hn⟩)) fun h m hm=>hx' (.inr ⟨d,h,m,hm⟩),fun b O hno=>?_,fun i ax hp I=>?_,⟨rfl,rfl⟩,fun l h hh=>?_,henv⟩
  ·obtain⟨x,A,B⟩:=hp
   by_cases e:i=id
   ·subst e
    rw[N]at A;cases A;exact⟨o',by simp only[]; rw[dN W],fun v hv=>B v (by rw[<-hver]; exact hv)⟩
   ·exact⟨x,by simp only[]; rw[dh (Ne.symm e)]; exact A,B⟩
  ·rintro (⟨i,c,hi⟩ | ⟨l,h,m,hm⟩)
   ·exact hno (.inl ⟨i,c,hi⟩)
   ·rcases U l h b m hm with A | ⟨_,A,_⟩
    ·exact hno (.inr ⟨l,h,m,A⟩)
    ·omega
  ·obtain⟨x,A,B⟩:=I
   refine⟨?_,rfl⟩;simp only[]at A;by_cases e:i=id
   ·subst e
    rw[dN W]at A;cases A;exact⟨o,N,by rw[<-hver]; exact B⟩
   ·rw[dh (Ne.symm e)]at A
    exact⟨x,A,B⟩
  ·by_cases e:l=d
   ·subst e
    exact hrl h hh
   ·show h<(r' l).length/\_
    rw[hr l e];exact⟨hh,fun _ M=>(by rw[show ({ w:=w',H:=E.H.set id o',ad:=E.ad,X:=E.X.re r' }:af).X.r l=E.X.r l from hr l e]at M; exact M)⟩
 refine⟨⟨by simp[H.len],H.inj,fun i b m hi=>⟨fK (H.lt i b m hi).1 hsize,(H.lt i b m hi).2⟩,fun b O=>fK (H.X b O) hsize,fun i x hi=>?_,H.iD.cQ hle.toC,fun l h l' h' b m n A B=>?_,fun i b m l h n hi F=>?_,fun l h b m F=>?_,fun i j x y l hi hj A B=>?_,fun l hn h q M=>?_⟩,hle⟩
 ·by_cases e:i=id
  ·subst e
   simp only[]at hi;rw[dN W]at hi;cases hi;exact ho hle
  ·simp only[]at hi
   rw[dh (Ne.symm e)]at hi;refine po (fun a _ hr=>dW hle a hr) rfl (fun b n O=>hsame b (H.lt i b n O).1 (fun m hm=>e (H.inj i id b n m O hm)) fun h m hm=>H.eY i b n d h m O hm) (fun l I=>?_) (H.obj i x hi);have Y:l≠d:=fun e2=>e (H.uniq i id x o l hi N I (by rw[hlab,e2]));exact⟨hr l Y,fun h g m F=>hsame g (H.dP l h g m F).1 (fun n hn=>H.eY id g n l h m hn F) fun h' m' hk'=>Y (H.iE l h d h' g m m' F hk').1⟩
 ·rcases U l h b m A with J | ⟨rfl,J,g2,g3⟩<;>rcases U l' h' b n B with k1 | ⟨rfl,k1,k2,k3⟩
  ·exact H.iE _ _ _ _ _ _ _ J k1
  ·have:=(H.dP _ _ _ _ J).1; omega
  ·have:=(H.dP _ _ _ _ k1).1; omega
  ·exact⟨rfl,(g3 h' n B).symm⟩
 ·rcases U l h b n F with J | ⟨rfl,J,g2,g3⟩
  ·exact H.eY _ _ _ _ _ _ hi J
  ·have:=(H.lt i b m hi).1; omega
 ·rcases U l h b m F with J | ⟨rfl,J,g2,g3⟩
  ·exact⟨fK (H.dP _ _ _ _ J).1 hsize,(H.dP _ _ _ _ J).2⟩
  ·exact⟨g2,fun hx=>by have:=H.X b hx; omega⟩
 ·have key:∀ (i:Nat) x,(E.H.set id o')[i]?=some x->x.label=some l->∃y,E.H[i]?=some y/\y.label=some l:=by
   intro i x hi I;by_cases e:i=id
   ·subst e
    rw[dN W]at hi;cases hi;exact⟨o,N,by rw[hlab,<-hlab',I]⟩
   ·rw[dh (Ne.symm e)]at hi
    exact⟨x,hi,I⟩
  obtain⟨x',a1,a2⟩:=key i x hi A;obtain⟨y',b1,b2⟩:=key j y hj B;exact H.uniq i j x' y' l a1 b1 a2 b2
 ·have Y:l≠d:=fun e=>hn id o' (by show (E.H.set id o')[id]?=_; rw[dN W]) (by rw[hlab',e])
  have M:(r' l)[h]?=some (some q):=M;rw[hr l Y]at M;refine H.kM l (fun i x hi I=>?_) h q M;by_cases e:i=id
  ·subst e
   rw[N]at hi;cases hi;exact Y (by rw[hlab]at I; cases I; rfl)
  ·exact hn i x (by show (E.H.set id o')[i]?=_; rw[dh (Ne.symm e)]; exact hi) I
def lr (r:Nat->List (Option (Option (Nat × Nat)))) (d:Nat):Nat->List (Option (Option (Nat × Nat))):=fun l=>if l=d then r l++[some none] else r l
theorem JC{r:Nat->List (Option (Option (Nat × Nat)))}{d:Nat}{q:Option (Option (Nat × Nat))}(g:(lr r d l)[h]?=some q):(r l)[h]?=some q\/(l=d/\h=(r l).length/\q=some none):=by
 unfold lr at g
 grind
theorem aaA{r:Nat->List (Option (Option (Nat × Nat)))}{d:Nat}(g:h<(r l).length):(lr r d l)[h]?=(r l)[h]?:=by
 unfold lr;split
 ·exact fB g
 ·rfl
theorem aO.aaB{o:ay}{l:Option (Nat × Nat)}{l0:Nat}(H:aO E)(h:Ext E.w w')(O:∀ b n,l=some (b,n)->E.w.heap.size<=b/\b<w'.heap.size)(hlab:o.label=some l0)(W:∀(i:Nat) x,E.H[i]? = some x->x.label≠some l0)
  (ho:bK { w:=w',H:=E.H++[o],ad:=E.ad++[l],X:=E.X.re (lr E.X.r l0) } E.H.length o) :
  aO { w:=w',H:=E.H++[o],ad:=E.ad++[l],X:=E.X.re (lr E.X.r l0) }/\E.le { w:=w',H:=E.H++[o],ad:=E.ad++[l],X:=E.X.re (lr E.X.r l0) }:=by
 have Y:∀(i:Nat) x,(E.H++[o])[i]?=some x->E.H[i]?=some x\/(i=E.H.length/\x=o):=fun i x hi=>by
  rw[lN]at hi;split at hi
  ·exact .inl hi
  ·right
   cases A:i-E.H.length with
   |zero=>rw[A]at hi; simp at hi; exact⟨ab,hi.symm⟩
   |succ n=>rw[A]at hi; simp at hi
 have M:∀(i:Nat) x,(E.ad++[l])[i]?=some x->E.ad[i]?=some x\/(i=E.ad.length/\x=l):=fun i x hi=>by
  rw[lN]at hi;split at hi
  ·exact .inl hi
  ·right
   cases A:i-E.ad.length with
   |zero=>rw[A]at hi; simp at hi; exact⟨ab,hi.symm⟩
   |succ n=>rw[A]at hi; simp at hi
 have J:∀(x k b m:Nat),(lr E.X.r l0 x)[k]?=some (some (some (b,m)))->(E.X.r x)[k]?=some (some (some (b,m))):=fun x k b m A=>by
  rcases JC A with d|⟨_,_,d⟩
  ·exact d
  ·cases d
 have hle:E.le { w:=w',H:=E.H++[o],ad:=E.ad++[l],X:=E.X.re (lr E.X.r l0) }:=by
  refine⟨fun i ax hp=>?_,h.size,fun b N _=>h.same b N,fun b hlt hno'=>?_,fun i ax hp hl=>?_,⟨rfl,rfl⟩,fun x k A=>?_,h.env⟩
  ·obtain⟨x,d,B⟩:=hp
   exact⟨x,by simp only[]; rw[fB (bA d)]; exact d,B⟩
  ·rintro (⟨i,c,hi⟩ | ⟨x,k,m,A⟩)
   ·rcases M i _ hi with d | ⟨_,d⟩
    ·exact hno' (.inl ⟨i,c,d⟩)
    ·have:=O b c d.symm
     omega
   ·exact hno' (.inr ⟨x,k,m,J x k b m A⟩)
  ·obtain⟨x,d,B⟩:=hp
   have hid:=bA d;obtain⟨y,F,h4⟩:=hl;simp only[]at F;rw[fB hid]at F;exact⟨⟨y,F,h4⟩,by simp only[]; rw[fB (by rw[H.len]; exact hid)]⟩
  ·have hk':k<(lr E.X.r l0 x).length:=by
    unfold lr;split
    ·simp; omega
    ·exact A
   refine⟨hk',fun q U=>?_⟩;have U:(lr E.X.r l0 x)[k]?=some (some q):=U
   rwa [aaA A]at U
 refine⟨⟨by simp[H.len],fun i j b m n hi hj=>?_,fun i b m hi=>?_,fun b N=>fK (H.X b N) h.size,fun i x hi=>?_,H.iD.cQ hle.toC,fun x k x' k' b m n d B=>H.iE _ _ _ _ _ _ _ (J _ _ _ _ d) (J _ _ _ _ B),fun i b m x k n hi A=>?_,fun x k b m A=>?_,fun i j x y l1 hi hj d B=>?_,fun l1 hn k q U=>?_⟩,hle⟩
 ·rcases M i _ hi with d | ⟨d,B⟩<;>rcases M j _ hj with F | ⟨F,h4⟩
  ·exact H.inj _ _ _ _ _ d F
  ·have:=O b n h4.symm; have:=(H.lt _ _ _ d).1; omega
  ·have:=O b m B.symm; have:=(H.lt _ _ _ F).1; omega
  ·omega
 ·rcases M i _ hi with d | ⟨d,B⟩
  ·exact⟨fK (H.lt _ _ _ d).1 h.size,(H.lt _ _ _ d).2⟩
  ·have F:=O b m B.symm
   exact⟨F.2,fun hx=>by have:=H.X b hx; omega⟩
 ·rcases Y i x hi with d | ⟨d,B⟩
  ·refine po (fun a _ hr=>dW hle a hr) (by simp only[]; rw[fB (by rw[H.len]; exact bA d)]) (fun b n N=>h.same b (H.lt i b n N).1) (fun l1 hl1=>?_) (H.obj i x d)
   have hne:l1≠l0:=fun e=>W i x d (by rw[hl1,e]);exact⟨iN hne,fun k g m A=>h.same g (H.dP _ _ _ _ A).1⟩
  ·subst d B
   exact ho
 ·rcases M i _ hi with d | ⟨d,B⟩
  ·exact H.eY _ _ _ _ _ _ d (J _ _ _ _ A)
  ·have:=O b m B.symm; have:=(H.dP _ _ _ _ (J _ _ _ _ A)).1; omega
 ·have d:=J _ _ _ _ A
  exact⟨fK (H.dP _ _ _ _ d).1 h.size,(H.dP _ _ _ _ d).2⟩
 ·rcases Y i x hi with I | ⟨I,rfl⟩<;>rcases Y j y hj with g3 | ⟨g3,rfl⟩
  ·exact H.uniq i j x y l1 I g3 d B
  ·rw[hlab]at B
   cases B;exact(W i x I d).elim
  ·rw[hlab]at d
   cases d;exact(W j y g3 B).elim
  ·omega
 ·rcases JC (show (lr E.X.r l0 l1)[k]?=some (some q) from U) with I | ⟨I,_⟩
  ·exact H.kM l1 (fun i x hi hl=>hn i x (by simp only[]; rw[fB (bA hi)]; exact hi) hl) k q I
  ·exact hn E.H.length o ai (by rw[hlab,I])
theorem af.x5(H:aO E)(id:Nat):E.le { w:=E.w,H:=E.H.set id .dead,ad:=E.ad.set id none,X:=E.X }:=by
 rcases mh id E.H.length with h|h
 ·exact af.pq (o:=E.H[id]) (by simp[h]) H.len (bl _) (fun _ _ _=>rfl) (fun _ _ h=>by cases h) (.inl (fun v h=>by simp[ay.bt]at h))
   (fun v u h=>by simp[ay.bt]at h) (fun _=>rfl)
 ·rw[OZ h,OZ (by rw[H.len]; exact h)]
  exact af.le.refl E
theorem aO.drop(H:aO E)(id:Nat)(hlab:∀o,E.H[id]?=some o->o.label=none):aO { w:=E.w,H:=E.H.set id .dead,ad:=E.ad.set id none,X:=E.X }:=by
 rcases mh id E.H.length with h|h
 ·refine aO.rN (o:=E.H[id]) H (by simp [h]) (bl _) (fun _ _ _=>rfl) (fun _ _ h=>by cases h) (.inl (fun v h=>by simp [ay.bt] at h))
   (fun v u h=>by simp[ay.bt]at h) (fun _=>rfl) ?_ (hlab:=hlab _ (by simp[h]))
  simp only[bK];rw[dN (by rw[H.len]; exact h)]
 ·rw[OZ h,OZ (by rw[H.len]; exact h)]
  exact H
structure FK where
 oF:Nat
 size:Nat
 agg:Bool
def vA:TypeDesc->Bool
 |.struct _ | .array _ _=>true
 |_=>false
def fj(P:ak)(t:aJ):Option (Nat × Bool):=
 match P.info? t,P.underlying t with
 |some i,some d=>some (i.size,vA d)
 |_,_=>none
def x6(P:ak)(t:aJ)(f:Nat):Option FK:=
 match P.underlying t with
 |some (.struct g)=>match g[f]? with
  |some d=>match fj P d.type with
   |some (n,a)=>some ⟨d.offset,n,a⟩
   |none=>none
  |none=>none
 |_=>none
def gK(P:ak)(t:aJ):Option (List al):=
 match P.info? t with
 |some i=>match i.zero with
  |some z=>if z.cells.toList.all fm then some z.cells.toList else none
  |none=>none
 |none=>none
inductive SK where
 |slice (elem size bytes:Nat)
 |array (n elem size:Nat) (agg:Bool)
 |str
 |int (k:IntKind)
 |bool
 |other
def cZ(P:ak)(t:aJ):SK:=
 match P.underlying t with
 |some (.slice e)=>match P.info? e with
  |some i=>.slice e i.size i.bytes
  |none=>.other
 |some (.array n e)=>match fj P e with
  |some (m,a)=>.array n e m a
  |none=>.other
 |some .string=>.str
 |some (.int k)=>.int k
 |some .bool=>.bool
 |_=>.other
def AV.x7:al->AV
 |.agg cs=>if cs.toList.all fm then .agg (cs.toList.map .lit) else .lit (.agg cs)
 |.tuple cs=>.tuple (cs.toList.map .lit)
 |v=>.lit v
abbrev AV.int(n:Int):AV:=.lit (.int .i64 n)
abbrev AV.bool(b:Bool):AV:=.lit (.bool b)
abbrev AV.str(s:ByteArray):AV:=.lit (.string s)
theorem vB{E:af}:∀(l:List al),aq E (l.map .lit) l
 |[]=>by simp[aq]
 |v::l=>by simp[aq,ae,vB l]
theorem PK(E:af)(v:al):ae E (AV.x7 v) v:=by
 unfold AV.x7
 grind[ae,vB]
structure St where
 fr:List AV
 H:List ay
def St.eval(s:St):cN->AV
 |.tmp t=>s.fr.getD t .undef
 |.const v=>AV.x7 v
 |.global g=>.lit (.pointer (some ⟨g,0,none⟩))
 |.func f=>.clo f []
def lV(w:be)(X:XS)(l:List Deferred):Prop:=l.Nodup/\∀d∈l,∃D,d={ target:=.collected D,args:=#[] }/\w.heap[D]?=some (.deferred (some []))/\X D/\X.z D
theorem mr(w:be)(X:XS):lV w X []:=⟨List.nodup_nil,fun _ h=>by cases h⟩
theorem tv{X X':XS}{l:List Deferred}(h:lV w X l)(A:∀b,X b->X.z b->X' b/\X'.z b)(hs:∀b,X b->X.z b->w'.heap[b]?=w.heap[b]?):lV w' X' l:=
 ⟨h.1,fun d B=>let ⟨D,e,F,g,q⟩:=h.2 d B; ⟨D,e,by rw[hs D g q]; exact F,A D g q⟩⟩
theorem x8(HE:aO E)(h:E.le E'){l:List Deferred}(hm:lV E.w E.X l):lV E'.w E'.X l:=
 tv hm (fun b g q=>⟨by rw[show E'.X.x=E.X.x from h.X.1]; exact g,by rw[show E'.X.z=E.X.z from h.X.2]; exact q⟩) fun b d _=>h.same b (HE.X b d) (HE.kh d)
structure bM (s:St) (E:af) (a:Act):Prop where
 H:E.H=s.H
 fr:aq E s.fr a.tmps.toList
 defers:lV E.w E.X a.defers
 heap:aO E
theorem bM.eval{s:St}{E:af}{a:Act}(h:bM s E a)(x:cN):ae E (s.eval x) (a.eval x):=by
 cases x with
 |tmp t=>
  simp only[St.eval,Jh];obtain⟨A,B⟩:=rL.1 h.fr;rcases mh t s.fr.length with d|J
  ·have q:t<a.tmps.toList.length:=A ▸ d
   have F:s.fr[t]?=some s.fr[t]:=by simp[d]
   have I:a.tmps.toList[t]?=some a.tmps.toList[t]:=bT q;have:=B t _ _ F I;simpa[dj,Array.getD_eq_getD_getElem?,d,show t<a.tmps.size by omega]using this
  grind[ae]
 |const v=>exact PK E v
 |global g=>simp[St.eval,Jh,ae]
 |func f=>grind[St.eval,Jh,ae,aq]
def jo(agg:Bool)(n:Nat)(cells:List AV):Option AV:=
 if agg then (if n<=cells.length then some (.agg (cells.take n)) else none) else cells[0]?
def nK(k:SK)(x i:AV):Option AV:=
 match i with
 |.lit (.int _ n)=>
  match k,x with
  |.slice _ sz _,.list w rZ=>if w=sz/\0<=n/\n<rZ.length then (rZ[n.toNat]?).map .cptr else none
  |.slice _ sz _,.listF ks rZ=>if ks.length=sz/\0<=n/\n<rZ.length then some (.cptr (bh ks (rZ.getD n.toNat []))) else none
  |.slice _ sz _,.vQ w id ax oF m=>if w=sz/\0<=n/\n<m then some (.ptr id ax w (oF+n.toNat) 0) else none
  |.array m _ sz _,.ptr id ax w row d=>if 0<=n/\n<m then some (.ptr id ax w row (d+n.toNat*sz)) else none
  |.array m _ sz _,.cptr cells=>if 0<=n/\n<m then some (.cptr ((cells.drop (n.toNat*sz)).take sz)) else none
  |_,_=>none
 |_=>none
def JD(k:FK)(x:AV):Option AV:=
 if k.size=0 then none else
 match x with
 |.cptr cells=>some (.cptr (cells.drop k.oF))
 |.ptr id ax w row d=>some (.ptr id ax w row (d+k.oF))
 |_=>none
def PL(k:IntKind)(a b:Int):Int:=k.wrap (D0 k.bits a &&& D0 k.bits b).toNat
def PM(k:IntKind)(a b:Int):Int:=k.wrap (D0 k.bits a ||| D0 k.bits b).toNat
def PN(k:IntKind)(a b:Int):Int:=k.wrap (D0 k.bits a ^^^ D0 k.bits b).toNat
def JE(k:IntKind)(a b:Int):Int:=k.wrap (a*2 ^ min b.toNat k.bits)
def JF(k:IntKind)(a b:Int):Int:=a.fdiv (2 ^ min b.toNat k.bits)
def nM(op:BinOp)(k:IntKind)(a b:Int):Option al:=
 match op with
 |.and=>some (.int k (PL k a b))
 |.or=>some (.int k (PM k a b))
 |.xor=>some (.int k (PN k a b))
 |.add=>some (.int k (k.wrap (a+b)))
 |.sub=>some (.int k (k.wrap (a-b)))
 |.mul=>some (.int k (k.wrap (a*b)))
 |.quo=>if b=0 then none else some (.int k (k.wrap (a.tdiv b)))
 |.rem=>if b=0 then none else some (.int k (a.tmod b))
 |.eql=>some (.bool (a==b))
 |.neq=>some (.bool (a != b))
 |.lss=>some (.bool (a<b))
 |.leq=>some (.bool (a<=b))
 |.gtr=>some (.bool (a>b))
 |.geq=>some (.bool (a≥b))
 |_=>none
def JG(op:BinOp)(x y:ByteArray):Option al:=
 match op with
 |.add=>if ((x.size+y.size:Nat):Int)>IntKind.i64.max then none else some (.string (x++y))
 |.eql=>some (.bool (x.toList==y.toList))
 |.neq=>some (.bool !(x.toList==y.toList))
 |.lss=>some (.bool (O0 x.toList y.toList))
 |.leq=>some (.bool (O0 x.toList y.toList||x.toList==y.toList))
 |.gtr=>some (.bool !(O0 x.toList y.toList||x.toList==y.toList))
 |.geq=>some (.bool !(O0 x.toList y.toList))
 |_=>none
def km(op:BinOp):al->al->Option al
 |.int k a,.int d b=>match op with
  |.shl=>if b<0 then none else some (.int k (JE k a b))
  |.shr=>if b<0 then none else some (.int k (JF k a b))
  |op=>if k=d then nM op k a b else none
 |.string a,.string b=>JG op a b
 |_,_=>none
def Et:AV->Option Nat
 |.lit (.string s)=>some s.size
 |.lit (.slice none 0 0)=>some 0
 |.nils=>some 0
 |.emptyS _=>some 0
 |.list _ rZ=>some rZ.length
 |.listF _ rZ=>some rZ.length
 |.vQ _ _ _ _ n=>some n
 |_=>none
theorem Sem.cK{d:TypeDesc}(h:P.underlying t=some d)(w:be):
  (underlying t).run P w=.ok d w:=by simp[underlying,h]
theorem Sem.run_sizeOf{i:TypeInfo}(h:P.info? t=some i)(w:be):(sizeOf t).run P w=.ok i.size w:=by
 simp[sizeOf,typeInfo,h]
theorem Sem.tw{d:TypeDesc}(h:P.underlying t=some d)(w:be):(isAgg t).run P w=.ok (vA d) w:=by
 simp[isAgg,Sem.cK h];cases d<;>rfl
theorem qx{a:Bool}(h:fj P t=some (n,a)):∃i d,P.info? t=some i/\P.underlying t=some d/\i.size=n/\vA d=a:=by
 unfold fj at h;split at h
 ·rename_i i d g q
  simp at h;exact⟨i,d,g,q,h.1,h.2⟩
 ·cases h
theorem PO{k:FK}(h:x6 P t f=some k):
  ∃g d,P.underlying t=some (.struct g)/\g[f]?=some d/\d.offset=k.oF/\fj P d.type=some (k.size,k.agg):=by
 unfold x6 at h;split at h
 ·rename_i g q
  split at h
  ·rename_i d A
   split at h
   ·rename_i n a B
    simp at h;subst h;exact⟨g,d,q,A,rfl,B⟩
   ·cases h
  ·cases h
 ·cases h
theorem aaC(op:BinOp)(t:aJ)(x y:al)(v:al)(h:km op x y=some v)(w:be):(binOp op t x y).run P w=.ok v w:=by
 unfold km at h;split at h
 ·rename_i k a I b
  split at h
  ·split at h
   ·cases h
   ·rename_i d
    cases h;simp only[binOp,Op.shift,iN d,JE];rfl
  ·split at h
   ·cases h
   ·rename_i d
    cases h;simp only[binOp,Op.shift,iN d,JF];rfl
  ·rename_i g q
   split at h
   ·rename_i A
    subst A;cases op<;>first|exact absurd rfl g|exact absurd rfl q|skip
    all_goals simp[nM]at h
    all_goals simp[binOp,Op.intArith,Op.intDiv,Op.intCmp,Op.intBits]
    all_goals first
     |exact h
     |(obtain⟨B,F⟩:=h; simp[B,F])
   ·cases h
 ·rename_i a b
  cases op<;>simp only[JG]at h<;>(try split at h)<;>simp at h<;>simp only[binOp,Op.stringOp]<;>simp_all
 ·cases h
theorem aaD(op:BinOp)(t:aJ)(x y:cN)(a b:al)(h:∀ v,km op a b≠some v->True)(d:(km op a b).isSome=true)(w:be):
  (eqGuard op t x y a b).run P w=.ok () w:=by
 unfold km at d;split at d<;>simp_all[eqGuard]
theorem aaE(h:Et x=some n)(hr:ae E x c):
  (∃s,c=.string s/\s.size=n)\/∃bg cap,c=.slice bg n cap:=by
 unfold Et at h;split at h
 grind[ae]
 grind[ae]
 grind[ae]
 grind[ae]
 grind[ae]
 ·simp only[ae,fN]at hr; obtain⟨b,cap,rfl,_⟩:=hr; simp at h; subst h; exact .inr ⟨_,_,rfl⟩
 grind[ae]
 ·cases h
open Go
theorem nO(b o n:Nat):(Addr.mk b o none).add n=⟨b,o+n,none⟩:=by
 unfold Addr.add;split
 ·rename_i h; simp[h]
 ·rfl
theorem aaF(h:dL E as b o)(hi:as[i]? = some a):
  ∃v,E.w.cell? ⟨b,o+i,none⟩=some v/\fm v=true/\ae E a v:=mq.1 h i a hi
theorem x9(h:dL E as b o)(n:Nat):dL E (as.drop n) b (o+n):=by
 rw[mq]at *;intro i a hi;rw[D1]at hi;obtain⟨v,d,g,q⟩:=h (n+i) a hi;exact⟨v,by rw[ZK]; exact d,g,q⟩
theorem Eu(h:dL E as b o)(n:Nat):dL E (as.take n) b o:=by
 rw[mq]at *;intro i a hi;rw[ta]at hi;split at hi
 ·exact h i a hi
 ·cases hi
theorem A3:∀(as:List AV) (n:Nat),AV.ca as=true->AV.ca (as.drop n)=true
 |[],n,_=>by simp[AV.ca]
 |a::as,0,h=>by simpa using h
 |a::as,n+1,h=>by
  simp only[AV.ca,aR]at h;simpa using A3 as n h.2
theorem Ev:∀(as:List AV) (n:Nat),AV.ca as=true->AV.ca (as.take n)=true
 |[],n,_=>by simp[AV.ca]
 |a::as,0,_=>by simp[AV.ca]
 |a::as,n+1,h=>by
  simp only[AV.ca,aR]at h;simp only[ZL,AV.ca,aR];exact⟨h.1,Ev as n h.2⟩
theorem A4{E:af}:∀{as:List AV} {b o:Nat},dL E as b o ->
  ∃d:List al,aq E as d/\(∀x∈d,fm x=true)/\∀j v,d[j]?=some v->E.w.cell? ⟨b,o+j,none⟩=some v
 |[],b,o,_=>⟨[],by simp[aq]⟩
 |a::as,b,o,h=>by
  simp only[dL]at h;obtain⟨⟨v,B,F,g⟩,q⟩:=h;obtain⟨d,A,I,J⟩:=A4 q;refine⟨v::d,by simp only[aq]; exact⟨g,A⟩,?_,?_⟩<;>grind
theorem JH(B:fj P t=some (n,agg))
  (g:jo agg n cells=some v) (hr:dL E cells b o):∃c,(loadVar t ⟨b,o,none⟩).run P E.w=.ok c E.w/\ae E v c:=by
 obtain⟨i,d,hi,F,hs,I⟩:=qx B;unfold jo at g;cases agg with
 |true=>
  simp only[if_true]at g;split at g
  ·rename_i A
   cases g;obtain⟨q,J,U,M⟩:=A4 (Eu hr n);have N:q.length=n:=by rw[<-il J]; simp[A]
   refine⟨.agg q.toArray,?_,?_⟩
   ·simp only[loadVar,ft,Sem.tw F,fL,I,if_true,Sem.run_sizeOf hi,hs]
    rw[<-N,run_loadCells_list (w:=E.w) ⟨b,o,none⟩ q (fun j v O=>by rw[nO]; exact M j v O)];rfl
   grind[ae]
  ·cases g
 |false=>
  simp only[tb,if_false]at g;obtain⟨x,W,_,Y⟩:=aaF hr g
  simp_all[loadVar,Sem.tw]
def iS(P:ak)(t:aJ)(x:AV)(H:List ay):Option AV:=
 match fj P t with
 |some (n,agg)=>
  match x with
  |.cptr cells=>jo agg n cells
  |.ptr id ax w row d=>match H[id]? with
   |some (.box cells)=>if ax=0/\row=0 then jo agg n (cells.drop d) else none
   |some (.vQ k v rZ)=>if ax=v/\k=w then (match rZ[row]? with|some r=>jo agg n (r.drop d)|none=>none) else none
   |_=>none
  |_=>none
 |none=>none
theorem pr{rs:List (List AV)}(h:er E k rs b o){r:List AV}(hi:rs[i]? = some r):
  r.length=k/\dL E r b (o+i*k):=qv.1 h i r hi
theorem PQ(HE:aO E)(d:iS P t x E.H=some v)(hr:ae E x c):
  ∃u,(Ji t c).run P E.w=.ok u E.w/\ae E v u:=by
 unfold iS at d;split at d
 case h_2=>cases d
 rename_i n agg J;split at d
 ·simp only[ae]at hr
  obtain⟨_,b,o,rfl,_,U⟩:=hr;obtain⟨u,A,B⟩:=JH J d U;exact⟨u,by simpa[Ji,tc]using A,B⟩
 ·rename_i id ax w row O
  simp only[ae]at hr;split at d
  ·rename_i cells q
   split at d
   ·rename_i I
    obtain⟨rfl,rfl⟩:=I;obtain⟨b,m,M,rfl⟩:=hr.2.2 ⟨_,q,rfl⟩;obtain⟨W,m',g,_,F⟩:=HE.obj id _ q;rw[M]at g;cases g;have:=x9 F O;simp only[fC]at this;obtain⟨u,A,B⟩:=JH J d this;exact⟨u,by simpa[Ji,tc]using A,B⟩
   ·cases d
  ·rename_i k Y rZ q
   split at d
   ·rename_i I
    obtain⟨rfl,rfl⟩:=I;split at d
    ·rename_i r N
     obtain⟨b,m,M,rfl⟩:=hr.2.2 ⟨_,q,rfl⟩;rcases HE.obj id _ q with⟨g,F⟩|⟨W,m',g,_,_,_,F⟩
     ·subst F; simp at N
     ·rw[M]at g
      cases g;have:=x9 (pr F N).2 O;simp only[fC]at this;obtain⟨u,A,B⟩:=JH J d this;exact⟨u,by simpa[Ji,tc]using A,B⟩
    ·cases d
   ·cases d
  ·cases d
 ·cases d
theorem aaG{k:FK}(q:x6 P t f=some k)
  (g:JD k x=some v) (hr:ae E x c):∃u,(ZM t c f).run P E.w=.ok u E.w/\ae E v u:=by
 obtain⟨N,A,O,U,W,B⟩:=PO q;obtain⟨i,d,hi,Y,hs,ha⟩:=qx B;unfold JD at g;split at g
 ·cases g
 rename_i I;have F:∀b o w,(fieldPlace ⟨b,o,none⟩ A).run P w=.ok ⟨b,o+k.oF,none⟩ w:=by
  intro b o w
  grind[fieldPlace,ft,Sem.run_sizeOf,fL,mS,nO]
 split at g
 ·cases g
  simp only[ae]at hr;obtain⟨hc,b,o,rfl,aV,J⟩:=hr;refine⟨.pointer (some ⟨b,o+k.oF,none⟩),?_,?_⟩
  simp_all[ZM,Sem.cK,tc]
  grind[ae,A3,x9]
 ·cases g
  simp only[ae]at hr;rename_i id ax w row M;obtain⟨⟨b,o,rfl⟩,h5,h6⟩:=hr;refine⟨.pointer (some ⟨b,o+k.oF,none⟩),?_,?_⟩
  simp_all[ZM,Sem.cK,tc]
  grind[ae]
 ·cases g
theorem kn{t e:Nat}(h:cZ P t=.slice e sz c9):P.underlying t=some (.slice e)/\∃i,P.info? e=some i/\i.size=sz/\i.bytes=c9:=by
 unfold cZ at h;split at h
 ·rename_i q d
  split at h
  ·rename_i i g
   cases h;exact⟨d,i,g,rfl,rfl⟩
  ·cases h
 ·split at h<;>cases h
 all_goals cases h
theorem Ew{t e:Nat}{a:Bool}(h:cZ P t=.array n e sz a):P.underlying t=some (.array n e)/\fj P e=some (sz,a):=by
 unfold cZ at h;split at h
 ·split at h<;>cases h
 ·rename_i q A d
  split at h
  ·rename_i m B g
   cases h;exact⟨d,g⟩
  ·cases h
 all_goals cases h
theorem vC{t:Nat}(h:cZ P t=.str):P.underlying t=some .string:=by
 unfold cZ at h;split at h
 ·split at h<;>cases h
 ·split at h<;>cases h
 ·rename_i d; exact d
 all_goals cases h
theorem aaH(HE:aO E){i:AV}
  (g:nK (cZ P t) x i=some v) (q:ae E x c) (hi:ae E i d):∃u,(D2 t c d).run P E.w=.ok u E.w/\ae E v u:=by
 unfold nK at g;split at g
 case h_2=>cases g
 rename_i k n;simp only[ae]at hi;subst hi;split at g
 ·rename_i e sz c9 w rZ B
  split at g
  ·rename_i hc
   obtain⟨rfl,M,N⟩:=hc;obtain⟨F,ii,I,J,_⟩:=kn B;cases A:rZ[n.toNat]? with
   |none=>rw[A]at g; cases g
   |some r=>
    rw[A]at g;simp at g;subst g;simp only[ae]at q;obtain⟨Y,bg,cap,rfl,hle,hh⟩:=q;rcases hh with rfl|⟨b,o,rfl,aV,hr⟩
    ·simp at A
    ·obtain⟨g1,O⟩:=pr hr A
     refine⟨.pointer (some ⟨b,o+n.toNat*w,none⟩),?_,?_⟩
     ·simp[D2,asIntOf,Sem.cK F,M,N,Sem.run_sizeOf I,J,nO]
     ·simp only[ae]
      exact⟨Y r (jj A),b,_,rfl,aV,O⟩
  ·cases g
 ·rename_i e sz c9 ks rZ B
  split at g
  ·rename_i hc
   obtain⟨rfl,M,N⟩:=hc;cases g;obtain⟨F,ii,I,J,_⟩:=kn B;have q:=m_.1 q;simp only[ae,bL]at q;obtain⟨Y,bg,cap,rfl,hle,hh⟩:=q;have hlt:n.toNat<rZ.length:=ab;have A:(rZ.map (bh ks))[n.toNat]?=some (bh ks (rZ.getD n.toNat [])):=by
    rw[dw,dj,bT hlt];rfl
   rcases hh with hn|⟨b,o,rfl,aV,hr⟩
   ·rw[hn]at A; simp at A
   ·obtain⟨g1,O⟩:=pr hr A
    refine⟨.pointer (some ⟨b,o+n.toNat*ks.length,none⟩),?_,?_⟩
    ·simp[D2,asIntOf,Sem.cK F,M,N,Sem.run_sizeOf I,J,nO]
    ·simp only[ae]
     exact⟨jC _ _,b,_,rfl,aV,O⟩
  ·cases g
 ·rename_i e sz c9 w id ax oF m B
  split at g
  ·rename_i hc
   obtain⟨rfl,M,N⟩:=hc;cases g;obtain⟨F,ii,I,J,_⟩:=kn B;simp only[ae]at q;obtain⟨⟨bg,cap,rfl,hle,hb⟩,h5,U⟩:=q;obtain⟨b,o,rfl⟩:=hb ab;refine⟨.pointer (some ⟨b,o+n.toNat*w,none⟩),?_,?_⟩
   ·simp[D2,asIntOf,Sem.cK F,M,N,Sem.run_sizeOf I,J,nO]
   ·simp only[ae]
    refine⟨⟨_,_,rfl⟩,h5,fun hl=>?_⟩;obtain⟨g1,O⟩:=U hl;obtain⟨a,ha,hav⟩:=h5;cases W:E.ad[id]? with
    |none=>
     have:=bA ha;rw[<-HE.len]at this;rw[bT this]at W;cases W
    |some l=>
     cases l with
     |none=>have:=(g1 W).1; omega
     |some bm=>
      obtain⟨b',m'⟩:=bm;obtain⟨q1,o',q2,q3⟩:=O b' m' W;simp only[oU,bQ,ZN]at q3;refine⟨b',m',rfl,?_⟩;rw[q3.1.1,q3.1.2.1,q2 ab,nC];rfl
  ·cases g
 ·rename_i m e sz a id ax w row col B
  split at g
  ·rename_i hc
   cases g;obtain⟨F,hvk⟩:=Ew B;obtain⟨ii,dd,I,J,h4,_⟩:=qx hvk;simp only[ae]at q;obtain⟨⟨b,o,rfl⟩,h5,U⟩:=q;refine⟨.pointer (some ⟨b,o+n.toNat*sz,none⟩),?_,?_⟩
   ·simp[D2,asIntOf,Sem.cK F,hc.1,hc.2,Sem.run_sizeOf I,h4,nO,tc]
   ·simp only[ae]
    refine⟨⟨_,_,rfl⟩,h5,fun hl=>?_⟩;obtain⟨b',n',e1,e2⟩:=U hl;simp only[auO,bQ,ZN]at e2;exact⟨b',n',e1,by simp[e2.1,e2.2.1,ZK]⟩
  ·cases g
 ·rename_i m e sz a cells B
  split at g
  ·rename_i hc
   cases g;obtain⟨F,hvk⟩:=Ew B;obtain⟨ii,dd,I,J,h4,_⟩:=qx hvk;simp only[ae]at q;obtain⟨Y,b,o,rfl,aV,U⟩:=q;refine⟨.pointer (some ⟨b,o+n.toNat*sz,none⟩),?_,?_⟩
   ·simp[D2,asIntOf,Sem.cK F,hc.1,hc.2,Sem.run_sizeOf I,h4,nO,tc]
   ·simp only[ae]
    exact⟨Ev _ _ (A3 _ _ Y),b,_,rfl,aV,Eu (x9 U _) _⟩
  ·cases g
 ·cases g
def mu:AV->Option Int
 |.lit (.int _ n)=>some n
 |_=>none
def jq(len:Nat)(lo hi:Option AV):Option (Nat × Nat):=
 match (match lo with|none=>some 0|some x=>mu x),(match hi with|none=>some (len:Int)|some x=>mu x)with
 |some l,some h=>if 0<=l/\l<=h/\h<=len then some (l.toNat,h.toNat) else none
 |_,_=>none
theorem x_{n:Int}(h:mu x=some n)(hr:ae E x c):∃k,c=.int k n:=by
 unfold mu at h
 grind[ae]
def PR:List AV->Option (List G)
 |[.lit (.string s)]=>some [.s s]
 |_=>none
def ya:List (List AV)->Option (List (List G))
 |[]=>some []
 |r::rs=>match PR r,ya rs with
  |some g,some d=>some (g::d)
  |_,_=>none
theorem JI:∀{rZ:List (List AV)} {d:List (List G)},ya rZ=some d->d.map (bh [.str])=rZ
 |[],d,h=>by
  simp only[ya,bQ]at h;subst h;rfl
 |r::rs,d,h=>by
  simp only[ya]at h;split at h
  ·rename_i g B q A
   cases h;rw[eU,JI A];unfold PR at q;split at q
   ·cases q; rfl
   ·cases q
  ·cases h
def Ex(w:Nat)(rZ:List (List AV))(l n:Nat):AV:=match w,ya rZ with
 |1,some d=>.listF [.str] ((d.drop l).take n)
 |_,_=>.list w ((rZ.drop l).take n)
theorem aaI{w:Nat}{rZ:List (List AV)} (h:ae E (.list w ((rZ.drop l).take n)) c):ae E (Ex w rZ l n) c:=by
 unfold Ex
 grind[m_,List.map_take,List.map_drop,JI]
def lW(P:ak)(t:aJ)(x:AV)(lo hi mx:Option AV):Option AV:=
 match cZ P t,x with
 |.str,.lit (.string s)=>match mx,jq s.size lo hi with
  |none,some (l,h)=>some (.lit (.string (s.extract l h)))
  |_,_=>none
 |.slice _ sz _,.list w rZ=>match mx with
  |none=>match jq rZ.length lo hi with
   |some (l,h)=>if w=sz then some (Ex w rZ l (h-l)) else none
   |none=>none
  |some m=>if hi.isSome/\jq rZ.length lo hi=some (0,0)/\mu m=some 0 then some .nils else none
 |.slice _ sz _,.listF ks rZ=>match mx with
  |none=>match jq rZ.length lo hi with
   |some (l,h)=>if ks.length=sz then some (.listF ks ((rZ.drop l).take (h-l))) else none
   |none=>none
  |some m=>if hi.isSome/\jq rZ.length lo hi=some (0,0)/\mu m=some 0 then some .nils else none
 |.slice _ sz _,.vQ w id ax oF n=>match mx with
  |none=>match jq n lo hi with
   |some (l,h)=>if w=sz then some (.vQ w id ax (oF+l) (h-l)) else none
   |none=>none
  |some m=>if hi.isSome/\jq n lo hi=some (0,0)/\mu m=some 0 then some .nils else none
 |.slice _ _ _,.nils=>match mx with
  |none=>if (jq 0 lo hi).isSome then some .nils else none
  |some _=>none
 |.slice _ _ _,.lit (.slice none 0 0)=>match mx with
  |none=>if (jq 0 lo hi).isSome then some (.lit (.slice none 0 0)) else none
  |some m=>if hi.isSome/\jq 0 lo hi=some (0,0)/\mu m=some 0 then some (.lit (.slice none 0 0)) else none
 |_,_=>none
theorem yb{len:Nat}{q:Option al}(I:Bool)(d:jq len lo hi=some (l,h))(N:len<=cap)
  (F:∀x,lo=some x->∃c,clo=some c/\ae E x c) (B:lo=none->clo=none)
  (M:∀x,hi=some x->∃c,q=some c/\ae E x c) (J:hi=none->q=none) (w:be) :
  (xL I len cap clo q none).run P w=.ok (l,h,cap) w/\l<=h/\h<=len:=by
 unfold jq at d;split at d
 case h_2=>cases d
 rename_i a b g A;split at d
 case isFalse=>cases d
 rename_i hc;simp only[bQ,cr]at d;obtain⟨rfl,rfl⟩:=d;obtain⟨O,U,W⟩:=hc;refine⟨?_,ab,ab⟩;cases hi with
 |none=>
  rw[J rfl];simp at A;subst A;cases lo with
  |none=>
   rw[B rfl];simp at g;subst g;simp[xL]
  |some x=>
   obtain⟨c,rfl,hc⟩:=F x rfl;obtain⟨k,rfl⟩:=x_ g hc
   simp_all[xL,Jj,asIntOf]
 |some z=>
  obtain⟨c,rfl,hc⟩:=M z rfl;obtain⟨k,rfl⟩:=x_ A hc;have Y:b<=(cap:Int):=ab;have g2:0<=b:=ab;cases lo with
  |none=>
   rw[B rfl];simp at g;subst g
   simp_all[xL,Jj,asIntOf]
  |some x=>
   obtain⟨c,rfl,hc⟩:=F x rfl;obtain⟨k',rfl⟩:=x_ g hc;have g4:¬ (max b 0<a):=ab
   simp_all[xL,Jj,asIntOf]
theorem PS{rZ:List (List AV)}(h:er E k rZ b o)(l n:Nat):
  er E k ((rZ.drop l).take n) b (o+l*k):=by
 rw[qv]at *;intro i r hi;rw[ta]at hi;split at hi
 ·rw[D1]at hi
  have:=h (l+i) r hi
  rwa [nC,<-ZK]at this
 ·cases hi
def tx(E:af):Option AV->Option al->Prop
 |none,none=>True
 |some x,some c=>ae E x c
 |_,_=>False
theorem JJ(h:tx E lo clo):(∀x,lo=some x->∃c,clo=some c/\ae E x c)/\(lo=none->clo=none):=by
 cases lo<;>cases clo<;>simp_all[tx]
theorem PT{w:Nat}{rZ:List (List AV)}(g:iC rZ)(B:rZ.length<=cap)(q:l<=h)(I:h<=rZ.length)
  (A:rZ=[]\/∃b o,bg=some ⟨b,o,none⟩/\E.lq b/\er E w rZ b o) :
  ae E (.list w ((rZ.drop l).take (h-l))) (.slice (if cap=l then bg else bg.map (·.add (l*w))) (h-l) (cap-l)):=by
 simp only[ae];have d:((rZ.drop l).take (h-l)).length=h-l:=du;refine⟨fun r hr=>g r (O1 (D3 hr)),_,cap-l,by rw[d],by rw[d]; omega,?_⟩;rcases Nat.eq_or_lt_of_le q with rfl|F
 ·left; simp
 ·right
  rcases A with rfl|⟨b,o,rfl,aV,hr⟩
  grind
  ·refine⟨b,o+l*w,?_,aV,PS hr l (h - l)⟩
   rw[iN ab];simp[nO]
theorem aaJ{w ax:Nat}(hr:ae E (.vQ w id ax oF n) (.slice bg n cap))(U:l<=h)(W:h<=n):
  ae E (.vQ w id ax (oF+l) (h-l)) (.slice (if cap=l then bg else bg.map (·.add (l*w))) (h-l) (cap-l)):=by
 simp only[ae]at hr|-;obtain⟨⟨J,M,e,N,q⟩,A,B⟩:=hr;simp only[oU]at e;obtain⟨rfl,_,rfl⟩:=e;refine⟨⟨_,_,rfl,ab,fun Y=>?_⟩,A,fun F=>?_⟩
 ·obtain⟨b,o,rfl⟩:=q ab
  rw[iN ab]
  simp_all[nO]
 ·obtain⟨g1,I⟩:=B F
  refine⟨fun d=>?_,fun b m d=>?_⟩
  simp_all
  ·obtain⟨q1,o,q2,g⟩:=I b m d
   simp only[oU]at g;obtain⟨rfl,_,rfl⟩:=g;refine⟨ab,?_⟩;by_cases hc:m-oF=l
   ·rw[iP hc]
    grind
   ·rw[iN hc]
    refine⟨o+l*w,fun O=>?_,by simp[nO,Nat.sub_sub]⟩
    grind
theorem Ey{len:Nat}{m:AV}{g:Option al}{cm:al}
  (d:jq len lo hi=some (0,0)) (hs:hi.isSome=true) (hm:mu m=some 0)
  (B:∀x,lo=some x->∃c,clo=some c/\ae E x c) (N:lo=none->clo=none)
  (F:∀x,hi=some x->∃c,g=some c/\ae E x c) (q:ae E m cm) (cap:Nat) (w:be) :
  (xL true len cap clo g (some cm)).run P w=.ok (0,0,0) w:=by
 obtain⟨k,rfl⟩:=x_ hm q;obtain⟨z,rfl⟩:=rC.1 hs;obtain⟨c,rfl,hc⟩:=F z rfl;unfold jq at d;split at d
 case h_2=>cases d
 rename_i a b I J;split at d
 case isFalse=>cases d
 rename_i O;simp only[bQ,cr]at d;obtain⟨W,rfl⟩:=x_ J hc;have M:a=0:=ab;have A:b=0:=ab;subst M; subst A;cases lo with
 |none=>
  simp_all[xL,Jj,asIntOf]
 |some x=>
  obtain⟨c,rfl,hc⟩:=B x rfl;obtain⟨U,rfl⟩:=x_ I hc;simp[xL,Jj,asIntOf]
theorem aaK{mx:Option AV}{chi cmx:Option al}
  (d:lW P t x lo hi mx=some v) (A:ae E x c) (hlo:tx E lo clo) (hhi:tx E hi chi) (hmx:tx E mx cmx) :
  ∃u,(rD t c clo chi cmx).run P E.w=.ok u E.w/\ae E v u:=by
 obtain⟨l1,F⟩:=JJ hlo;obtain⟨l2,N⟩:=JJ hhi;obtain⟨l3,O⟩:=JJ hmx;unfold lW at d;split at d
 ·rename_i s B
  have U:=vC B;simp only[ae]at A;subst A;split at d
  ·rename_i l h q
   cases d;rw[O rfl];obtain⟨W,J,M⟩:=yb (P:=P) (E:=E) (cap:=s.size) false q (bl _) l1 F l2 N E.w
   simp_all[ae,rD,td,Sem.cK]
  ·cases d
 ·rename_i e sz c9 w rZ B
  obtain⟨U,ii,i1,i2,_⟩:=kn B;have Y:=A;simp only[ae]at A;obtain⟨hcl,bg,cap,rfl,I,hh⟩:=A;split at d
  ·split at d
   ·rename_i l h q
    split at d
    ·rename_i hw
     subst hw;cases d;rw[O rfl];obtain⟨W,J,M⟩:=yb (P:=P) (E:=E) (cap:=cap) true q I l1 F l2 N E.w
     simp_all[aaI,PT,rD,td,Sem.cK,Sem.run_sizeOf]
    ·cases d
   ·cases d
  ·rename_i m
   split at d
   ·rename_i hc
    cases d;obtain⟨cm,rfl,hm⟩:=l3 m rfl;have g:=Ey (P:=P) hc.2.1 hc.1 hc.2.2 l1 F l2 hm cap E.w
    simp_all[ae,rD,td,Sem.cK,Sem.run_sizeOf]
   ·cases d
 ·rename_i e sz c9 ks rZ B
  obtain⟨U,ii,i1,i2,_⟩:=kn B;have Y:=m_.1 A;simp only[ae]at Y;obtain⟨hcl,bg,cap,rfl,I,hh⟩:=Y;simp only[bL]at I A|-;split at d
  ·split at d
   ·rename_i l h q
    split at d
    ·rename_i hw
     subst hw;cases d;rw[O rfl];obtain⟨W,J,M⟩:=yb (P:=P) (E:=E) (cap:=cap) true q I l1 F l2 N E.w;have:=PT (cap:=cap) hcl (by simpa using I) J (by simpa using M) hh;have e:((rZ.map (bh ks)).drop l).take (h-l)=((rZ.drop l).take (h-l)).map (bh ks):=ai;rw[e]at this;refine⟨_,?_,m_.2 this⟩;simp[rD,td,Sem.cK U,W,Sem.run_sizeOf i1,i2]
    ·cases d
   ·cases d
  ·rename_i m
   split at d
   ·rename_i hc
    cases d;obtain⟨cm,rfl,hm⟩:=l3 m rfl;have g:=Ey (P:=P) hc.2.1 hc.1 hc.2.2 l1 F l2 hm cap E.w
    simp_all[ae,rD,td,Sem.cK,Sem.run_sizeOf]
   ·cases d
 ·rename_i e sz c9 w id ax oF n B
  obtain⟨U,ii,i1,i2,_⟩:=kn B;have Y:=A;simp only[ae]at A;obtain⟨⟨bg,cap,rfl,I,_⟩,_,_⟩:=A;split at d
  ·split at d
   ·rename_i l h q
    split at d
    ·rename_i hw
     subst hw;cases d;rw[O rfl];obtain⟨W,J,M⟩:=yb (P:=P) (E:=E) (cap:=cap) true q I l1 F l2 N E.w;refine⟨_,?_,aaJ Y J M⟩
     simp_all[rD,td,Sem.cK,Sem.run_sizeOf]
    ·cases d
   ·cases d
  ·rename_i m
   split at d
   ·rename_i hc
    cases d;obtain⟨cm,rfl,hm⟩:=l3 m rfl;have g:=Ey (P:=P) hc.2.1 hc.1 hc.2.2 l1 F l2 hm cap E.w;refine⟨.slice bg 0 0,?_,by simp only[ae]; exact⟨bg,rfl⟩⟩
    simp_all[rD,td,Sem.cK,Sem.run_sizeOf]
   ·cases d
 ·rename_i e sz c9 B
  obtain⟨U,ii,i1,i2,_⟩:=kn B;simp only[ae]at A;obtain⟨bg,rfl⟩:=A;split at d
  ·split at d
   ·rename_i q
    cases d;obtain⟨⟨l,h⟩,q⟩:=rC.1 q;rw[O rfl];obtain⟨W,J,M⟩:=yb (P:=P) (E:=E) (cap:=0) true q (bl _) l1 F l2 N E.w;have:h=0:=ab;subst this;have:l=0:=ab
    simp_all[ae,rD,td,Sem.cK,Sem.run_sizeOf]
   ·cases d
  ·cases d
 ·rename_i e sz c9 B
  obtain⟨U,ii,i1,i2,_⟩:=kn B;simp only[ae]at A;subst A;split at d
  ·split at d
   ·rename_i q
    cases d;obtain⟨⟨l,h⟩,q⟩:=rC.1 q;rw[O rfl];obtain⟨W,J,M⟩:=yb (P:=P) (E:=E) (cap:=0) true q (bl _) l1 F l2 N E.w;have:h=0:=ab;subst this;have:l=0:=ab
    simp_all[ae,rD,td,Sem.cK,Sem.run_sizeOf]
   ·cases d
  ·rename_i m
   split at d
   ·rename_i hc
    cases d;obtain⟨cm,rfl,hm⟩:=l3 m rfl;have g:=Ey (P:=P) hc.2.1 hc.1 hc.2.2 l1 F l2 hm 0 E.w
    simp_all[ae,rD,td,Sem.cK,Sem.run_sizeOf]
   ·cases d
 ·cases d
def kindOk:SK->al->Bool
 |.int k,.int d _=>k=d
 |.str,.string _=>true
 |.bool,.bool _=>true
 |_,_=>false
def tz:al->al->Bool
 |.int _ a,.int _ b=>a==b
 |.string a,.string b=>a.toList==b.toList
 |.bool a,.bool b=>a==b
 |_,_=>false
def fE:List al->List al->Bool
 |[],[]=>true
 |a::as,b::d=>tz a b&&fE as d
 |_,_=>false
def d_:List SK->List al->Bool
 |[],[]=>true
 |k::ks,v::d=>kindOk k v&&d_ ks d
 |_,_=>false
def yc(P:ak)(f:aJ->Option (List SK)):List Field->Nat->Option (List SK)
 |[],_=>some []
 |x::d,oF=>if x.name = "_" \/ x.offset≠oF then none else
  match f x.type,fj P x.type with
  |some ks,some (n,_)=>if n=ks.length then (match yc P f d (oF+n)with|some l=>some (ks++l)|none=>none) else none
  |_,_=>none
def flatK(P:ak):Nat->aJ->Option (List SK)
 |0,_=>none
 |d+1,t=>match P.underlying t with
  |some (.int k)=>some [.int k]
  |some .string=>some [.str]
  |some .bool=>some [.bool]
  |some (.struct g)=>if P.stoodInHeld t then none else yc P (fun t=>flatK P d t) g.toList 0
  |_=>none
abbrev A5(P:ak)(d:Nat)(g:List Field)(oF:Nat):Option (List SK):=yc P (fun t=>flatK P d t) g oF
theorem PU:∀(a b c d:List al),a.length=c.length->fE (a++b) (c++d)=(fE a c&&fE b d)
 |[],b,[],d,_=>by simp[fE]
 |x::a,b,y::c,d,h=>by
  simp only[qk,fE,PU a b c d (by simpa using h),ats]
 |[],_,_::_,_,h=>by simp at h
 |_::_,_,[],_,h=>by simp at h
theorem yd:∀{ks:List SK} {d:List al},d_ ks d=true->ks.length=d.length
 |[],[],_=>rfl
 |_::ks,_::d,h=>by simp only[d_,aR]at h; simp[yd h.2]
 |[],_::_,h=>by simp[d_]at h
 |_::_,[],h=>by simp[d_]at h
theorem Ez:∀{a b:List SK} {d:List al},d_ (a++b) d=true->d_ a (d.take a.length)=true/\d_ b (d.drop a.length)=true
 |[],b,d,h=>by simpa[d_]using h
 |k::a,b,[],h=>by simp[d_]at h
 |k::a,b,v::d,h=>by
  simp only[qk,d_,aR]at h;have:=Ez h.2
  simp_all[d_]
def gS(P:ak)(t:aJ)(x:al)(d:List al):Prop:=
 match P.underlying t with
 |some (.struct _)=>∃a:Array al,x=.agg a/\a.toList=d
 |_=>d=[x]
theorem JK{ks:List SK}{d:Nat}(B:fj P t=some (n,agg))(g:flatK P d t=some ks)(hn:n=ks.length)
  (cs:Array al) (oF:Nat) (aV:d_ ks ((cs.toList.drop oF).take n)=true) (w:be) :
  ∃x,(part t cs oF).run P w=.ok x w/\gS P t x ((cs.toList.drop oF).take n):=by
 obtain⟨i,F,I,q,J,M⟩:=qx B;cases d with
 |zero=>simp[flatK]at g
 |succ d=>
  unfold flatK at g;rw[q]at g;have A:=yd aV;cases F with
  |struct N=>
   refine⟨.agg (cs.extract oF (oF+n)),?_,?_⟩
   ·simp[part,Sem.tw q,vA,Sem.run_sizeOf I,J]
   ·simp only[gS,q]
    refine⟨_,rfl,?_⟩;simp
  |int k=>
   simp at g;subst g;simp at hn;subst hn;have:oF<cs.size:=by simp at A; omega
   refine⟨cs[oF],?_,?_⟩
   ·simp[part,Sem.tw q,vA,this]
   ·simp[gS,q,ZO,this]
  |string=>
   simp at g;subst g;simp at hn;subst hn;have:oF<cs.size:=by simp at A; omega
   refine⟨cs[oF],?_,?_⟩
   ·simp[part,Sem.tw q,vA,this]
   ·simp[gS,q,ZO,this]
  |bool=>
   simp at g;subst g;simp at hn;subst hn;have:oF<cs.size:=by simp at A; omega
   refine⟨cs[oF],?_,?_⟩
   ·simp[part,Sem.tw q,vA,this]
   ·simp[gS,q,ZO,this]
  |_=>simp at g
theorem aaL{d:Array Field}(h:P.underlying t=some (.struct d)):P.underlying t=some (.struct (P.fieldsOf t)):=by
 simp[att,h]
mutual
theorem JL{P:ak}:∀(d:Nat) (t:aJ) (ks:List SK),flatK P d t=some ks->∀(D:Nat),d<=D->∀(x y:al) (I J:List al),
  gS P t x I->gS P t y J->d_ ks I=true->d_ ks J=true->∀w,(oV D t x y).run P w=.ok (fE I J) w
 |0,_,_,g=>by simp[flatK]at g
 |d+1,t,ks,g=>by
  intro D hD x y I J B F A ky w;obtain⟨D,rfl⟩:∃N,D=N+1:=⟨D-1,ab⟩
  unfold flatK at g;cases q:P.underlying t with
  |none=>rw[q]at g; cases g
  |some O=>
   rw[q]at g;cases O with
   |struct M=>
    simp only[]at g;split at g
    ·cases g
    rename_i hs;simp only[gS,q]at B F;obtain⟨a,rfl,rfl⟩:=B;obtain⟨b,rfl,rfl⟩:=F;have U:P.fieldsOf t=M:=by simp[att,q]
    rw[run_equalIn_struct w D t a b (aaL q) (by simpa using hs),U];have:=PV d M.toList 0 ks g D ab a b (by simpa using A) (by simpa using ky) w;simpa using this
   |int k=>
    simp at g;subst g;simp only[gS,q]at B F;subst B; subst F;simp only[d_,fJ]at A ky;unfold kindOk at A ky;split at A<;>split at ky<;>simp_all[oV,fE,tz,Sem.cK q]
   |string=>
    simp at g;subst g;simp only[gS,q]at B F;subst B; subst F;simp only[d_,fJ]at A ky;unfold kindOk at A ky;split at A<;>split at ky<;>simp_all[oV,fE,tz,Sem.cK q,beq_toListBytes]
   |bool=>
    simp at g;subst g;simp only[gS,q]at B F;subst B; subst F;simp only[d_,fJ]at A ky;unfold kindOk at A ky;split at A<;>split at ky<;>simp_all[oV,fE,tz,Sem.cK q]
   |_=>simp at g
theorem PV{P:ak}:∀(d:Nat) (J:List Field) (oF:Nat) (ks:List SK),A5 P d J oF=some ks->∀(D:Nat),d<=D->∀(q A:Array al),
  d_ ks (q.toList.drop oF)=true->d_ ks (A.toList.drop oF)=true->∀w,(ZP D q A J).run P w=.ok (fE (q.toList.drop oF) (A.toList.drop oF)) w
 |d,[],oF,ks,g=>by
  intro D hD q A U ky w;simp[A5,yc]at g;subst g;have h1:=yd U;have h2:=yd ky;have B:q.toList.drop oF=[]:=rE (by rw[<-h1]; rfl);have M:A.toList.drop oF=[]:=rE (by rw[<-h2]; rfl);rw[B,M];simp[ZP,fE]
 |d,f::J,oF,ks,g=>by
  intro D hD q A U ky w;unfold A5 yc at g;split at g
  ·cases g
  rename_i hc;split at g
  case h_2=>cases g
  rename_i k1 n ag B M;split at g
  case isFalse=>cases g
  rename_i hn;split at g
  case h_2=>cases g
  rename_i l e3;cases g;have Y:f.name ≠ "_" := fun e=>hc (.inl e);have hoff:f.offset=oF:=by
   by_cases e:f.offset=oF
   ·exact e
   ·exact(hc (.inr e)).elim
  obtain⟨F,N⟩:=Ez U;obtain⟨I,O⟩:=Ez ky;rw[<-hn]at F N I O;obtain⟨x,px,vx⟩:=JK M B hn q oF F w;obtain⟨y,py,vy⟩:=JK M B hn A oF I w;have he:=JL d f.type k1 B D hD x y _ _ vx vy F I w;have hrest:=PV d J (oF+n) l e3 D hD q A (by rw[xM]at N; exact N) (by rw[xM]at O; exact O) w;have W:fE (q.toList.drop oF) (A.toList.drop oF) =
    (fE ((q.toList.drop oF).take n) ((A.toList.drop oF).take n)&&fE (q.toList.drop (oF+n)) (A.toList.drop (oF+n))):=by
   rw[<-PU _ _ _ _ (by rw[<-yd F,<-yd I]),<-xM,<-xM,O2,O2]
  simp only[ZP,Y,ne_eq,not_false_eq_true,if_true,ft,hoff,px,py,fL,he,W];cases fE ((q.toList.drop oF).take n) ((A.toList.drop oF).take n)<;>simp[hrest]
end
def rO:List AV->Option (List al)
 |[]=>some []
 |.lit v::as=>match rO as with
  |some l=>some (v::l)
  |none=>none
 |_=>none
theorem EA{E:af}:∀{as:List AV} {l d:List al},rO as=some l->aq E as d->d=l
 |[],l,[],h,_=>by simp[rO]at h; exact h.symm
 |[],_,_::_,_,hr=>by simp[aq]at hr
 |_::_,_,[],_,hr=>by simp[aq]at hr
 |a::as,l,v::d,h,hr=>by
  simp only[aq]at hr;cases a<;>simp only[rO]at h<;>try cases h
  split at h
  ·rename_i u l' g
   cases h;have:=EA g hr.2
   grind[ae]
  ·cases h
def rP:Option TypeDesc->Bool
 |some (.struct _)=>true
 |_=>false
def nP(op:BinOp)(b:Bool):Option AV:=
 match op with
 |.eql=>some (.bool b)
 |.neq=>some (.bool !b)
 |_=>none
def rQ:Nat:=6
def JM(P:ak)(op:BinOp)(t:aJ)(d:Bool)(a b:al):Option AV:=
 match a,b with
 |.bool a,.bool b=>match P.underlying t with
  |some .bool=>nP op (a==b)
  |_=>none
 |.slice none 0 0,.slice none 0 0=>match P.underlying t with
  |some (.slice _)=>nP op true
  |_=>none
 |.nilIface,.nilIface=>if d then (match P.underlying t with|some (.interface _)=>nP op true|_=>none) else none
 |_,_=>none
def iT(P:ak)(op:BinOp)(t:aJ)(d:Bool)(x y:AV):Option AV:=
 match x,y with
 |.lit a,.lit b=>match km op a b with
  |some v=>some (.lit v)
  |none=>JM P op t d a b
 |.agg as,.agg g=>match flatK P rQ t,rO as,rO g with
  |some ks,some l,some m=>if P.eqGuardType P.depth t=false/\d_ ks l=true/\d_ ks m=true/\rP (P.underlying t)=true then nP op (fE l m) else none
  |_,_,_=>none
 |.emptyS n,.lit (.slice none 0 0)=>match P.underlying t with
  |some (.slice _)=>nP op n
  |_=>none
 |.listF _ rZ,.lit (.slice none 0 0)=>match P.underlying t with
  |some (.slice _)=>if 0<rZ.length then nP op false else none
  |_=>none
 |.vQ _ _ _ _ m,.lit (.slice none 0 0)=>match P.underlying t with
  |some (.slice _)=>if 0<m then nP op false else none
  |_=>none
 |.ifc,.lit .nilIface | .lit .nilIface,.ifc=>match P.underlying t with
  |some (.interface _)=>nP op false
  |_=>none
 |_,_=>none
theorem PW{t:Nat}{k:IntKind}(h:cZ P t=.int k):P.underlying t=some (.int k):=by
 unfold cZ at h;split at h
 ·split at h<;>cases h
 ·split at h<;>cases h
 ·cases h
 ·rename_i d; cases h; exact d
 ·cases h
 ·cases h
theorem rR{b:Bool}{x:cN}(h:nP op b=some v)
  (g:(eqGuard op t x y c d).run P w=.ok () w) (he:(D4 t c d).run P w=.ok b w)
  (q:∀op,op=.eql\/op=.neq->(binOp op t c d)=(match op with | .eql=>(do pure (.bool (<- D4 t c d)))|_=>(do pure (.bool (!(<- D4 t c d)))))) :
  ∃u,(do eqGuard op t x y c d; binOp op t c d:Sem al).run P w=.ok u w/\∀E,ae E v u:=by
 unfold nP at h;split at h
 ·cases h
  simp_all[ae]
 ·cases h
  simp_all[ae]
 ·cases h
theorem tA{b:Bool} (h:∀ n,(oV (n+1) t c d).run P w=.ok b w):
  (D4 t c d).run P w=.ok b w:=h 9999
theorem aaM{x:cN} (h:((x matches .const _)||(y matches .const _))=true) (w:be):
  (eqGuard op t x y .nilIface .nilIface).run P w=.ok () w:=by
 cases x<;>cases y<;>first
  |(cases op<;>rfl)
  |(simp at h; done)
theorem aaN{x:cN}{p q:al}{A:Bool}
  (I:A=true->((x matches .const _)||(y matches .const _))=true) (h:JM P op t A p q=some v) :
  ∃u,(do eqGuard op t x y p q; binOp op t p q:Sem al).run P E.w=.ok u E.w/\ae E v u:=by
 unfold JM at h;split at h
 ·rename_i a b
  split at h
  ·rename_i g
   obtain⟨u,B,F⟩:=rR (P:=P) (t:=t) (x:=x) (y:=y) (c:=.bool a) (d:=.bool b) (w:=E.w) h (by cases op<;>simp[eqGuard]<;>rfl)
    (tA fun n=>by simp[oV,Sem.cK g]) (by rintro op (rfl|rfl)<;>rfl)
   grind
  ·cases h
 ·split at h
  ·rename_i g
   obtain⟨u,B,F⟩:=rR (P:=P) (t:=t) (x:=x) (y:=y) (c:=.slice none 0 0) (d:=.slice none 0 0) (w:=E.w) h (by cases op<;>simp[eqGuard]<;>rfl)
    (tA fun n=>by simp[oV,Sem.cK g]) (by rintro op (rfl|rfl)<;>rfl)
   grind
  ·cases h
 ·split at h
  ·rename_i hc
   split at h
   ·rename_i J g
    obtain⟨u,B,F⟩:=rR (P:=P) (t:=t) (x:=x) (y:=y) (c:=.nilIface) (d:=.nilIface) (w:=E.w) h
     (aaM (I hc) _)
     (tA fun n=>by simp[oV,Sem.cK g]) (by rintro op (rfl|rfl)<;>rfl)
    grind
   ·cases h
  ·cases h
 ·cases h
theorem aaO{x:cN}{b:AV}
  {kk:Bool} (hkk:kk=true->((x matches .const _)||(y matches .const _))=true) (h:iT P op t kk a b=some v) (g:ae E a c) (A:ae E b d) :
  ∃u,(do eqGuard op t x y c d; binOp op t c d:Sem al).run P E.w=.ok u E.w/\ae E v u:=by
 unfold iT at h;split at h
 ·rename_i p q
  simp only[ae]at g A;rw[g,A];clear g A c d;split at h
  ·rename_i u B
   cases h;refine⟨u,?_,by simp[ae]⟩;simp only[ft];rw[aaD op t x y p q (fun _ _=>trivial) (by simp[B])];simp only[fL];exact aaC op t p q u B E.w
  ·exact aaN hkk h
 ·rename_i as bs
  split at h
  case h_2=>cases h
  rename_i ks l m F I h3;by_cases hc:P.eqGuardType P.depth t=false/\d_ ks l=true/\d_ ks m=true/\rP (P.underlying t)=true
  case neg=>rw[iN hc]at h; cases h
  rw[iP hc]at h;obtain⟨g1,g2,g3,U⟩:=hc;simp only[ae]at g A;obtain⟨M,rfl,_,g⟩:=g;obtain⟨N,rfl,_,A⟩:=A;have ex:=EA I g;have ey:=EA h3 A;unfold rP at U;split at U
  case h_2=>cases U
  rename_i fs B;have:=JL rQ t ks F 10000 cD (.agg M) (.agg N) l m (by simp only[gS,B]; exact⟨M,rfl,ex⟩)
   (by simp only[gS,B]; exact⟨N,rfl,ey⟩) g2 g3 E.w
  obtain⟨u,q1,q2⟩:=rR (P:=P) (t:=t) (x:=x) (y:=y) (c:=.agg M) (d:=.agg N) (w:=E.w) h (run_eqGuard_agg E.w op t x y M N g1)
   (by simpa[D4,Op.maxDepth]using this) (by rintro op (rfl|rfl)<;>rfl)
  exact⟨u,q1,q2 E⟩
 ·simp only[ae]at g A
  subst A;obtain⟨b,cap,rfl,J⟩:=g;split at h
  ·rename_i el B
   obtain⟨u,F,I⟩:=rR (P:=P) (t:=t) (x:=x) (y:=y) (c:=.slice b 0 cap) (d:=.slice none 0 0) (w:=E.w) h (by cases op<;>simp[eqGuard]<;>rfl)
    (tA fun n=>by cases b<;>simp[oV,Sem.cK B]<;>simpa using J.symm) (by rintro op (rfl|rfl)<;>rfl)
   exact⟨u,F,I E⟩
  ·cases h
 ·rename_i ks rZ
  simp only[ae,fN,G.rZ]at g A;subst A;obtain⟨b,cap,rfl,_,J⟩:=g;split at h
  ·rename_i el B
   split at h
   ·rename_i O
    rcases J with rfl|⟨W,o',rfl,_⟩
    ·simp at O
    obtain⟨u,F,I⟩:=rR (P:=P) (t:=t) (x:=x) (y:=y) (c:=.slice (some ⟨W,o',none⟩) rZ.length cap) (d:=.slice none 0 0) (w:=E.w) h (by cases op<;>simp[eqGuard]<;>rfl)
     (tA fun n=>by simp[oV,Sem.cK B]) (by rintro op (rfl|rfl)<;>rfl)
    exact⟨u,F,I E⟩
   ·cases h
  ·cases h
 ·rename_i m
  simp only[ae]at g A;subst A;obtain⟨⟨b,cap,rfl,_,J⟩,_⟩:=g;split at h
  ·rename_i el B
   split at h
   ·rename_i O
    obtain⟨W,o',rfl⟩:=J O;obtain⟨u,F,I⟩:=rR (P:=P) (t:=t) (x:=x) (y:=y) (c:=.slice (some ⟨W,o',none⟩) m cap) (d:=.slice none 0 0) (w:=E.w) h (by cases op<;>simp[eqGuard]<;>rfl)
     (tA fun n=>by simp[oV,Sem.cK B]) (by rintro op (rfl|rfl)<;>rfl)
    exact⟨u,F,I E⟩
   ·cases h
  ·cases h
 ·simp only[ae]at g A
  subst A;obtain⟨Y,vi,rfl⟩:=g;split at h
  ·rename_i ms B
   obtain⟨u,F,I⟩:=rR (P:=P) (t:=t) (x:=x) (y:=y) (c:=.iface Y vi) (d:=.nilIface) (w:=E.w) h (by cases op<;>simp[eqGuard]<;>rfl)
    (tA fun n=>by simp[oV,Sem.cK B]) (by rintro op (rfl|rfl)<;>rfl)
   exact⟨u,F,I E⟩
  ·cases h
 ·simp only[ae]at g A
  subst g;obtain⟨Y,vi,rfl⟩:=A;split at h
  ·rename_i ms B
   obtain⟨u,F,I⟩:=rR (P:=P) (t:=t) (x:=x) (y:=y) (c:=.nilIface) (d:=.iface Y vi) (w:=E.w) h (by cases op<;>simp[eqGuard]<;>rfl)
    (tA fun n=>by simp[oV,Sem.cK B]) (by rintro op (rfl|rfl)<;>rfl)
   exact⟨u,F,I E⟩
  ·cases h
 ·cases h
def ye(op:UnOp)(x:AV):Option AV:=
 match op,x with
 |.not,.lit (.bool b)=>some (.bool !b)
 |.neg,.lit (.int k n)=>some (.lit (.int k (k.wrap (0-n))))
 |_,_=>none
theorem aaP{op:UnOp}(h:ye op x=some v)(d:ae E x c):
  ∃u,(Op.unary op c).run P E.w=.ok u E.w/\ae E v u:=by
 unfold ye at h;split at h
 ·cases h
  simp only[ae]at d;subst d;exact⟨_,rfl,by simp[ae]⟩
 ·cases h
  simp only[ae]at d;subst d;exact⟨_,rfl,by simp[ae]⟩
 ·cases h
def yf(P:ak)(s d:aJ)(x:AV):Option AV:=
 match P.underlying s,cZ P d,x with
 |some _,.int k,.lit (.int _ n)=>some (.lit (.int k (k.wrap n)))
 |some _,.str,.lit (.string b)=>some (.str b)
 |some _,.str,.lit (.int _ n)=>some (.str (Utf8.encode n))
 |_,_,_=>none
theorem aaQ{s d:aJ}(h:yf P s d x=some v)(g:ae E x c):
  ∃u,(convert s d c).run P E.w=.ok u E.w/\ae E v u:=by
 unfold yf at h;split at h
 ·rename_i k n hs q
  cases h;simp only[ae]at g;subst g;refine⟨_,?_,by simp only[ae]; rfl⟩
  simp_all[convert,Sem.cK,PW,Conv.intToInt]
 ·rename_i b hs q
  cases h;simp only[ae]at g;subst g;refine⟨_,?_,by simp only[ae]; rfl⟩
  simp_all[convert,Sem.cK,vC]
 ·rename_i k n hs q
  cases h;simp only[ae]at g;subst g;refine⟨_,?_,by simp only[ae]; rfl⟩;simp only[convert,ft,Sem.cK hs,Sem.cK (vC q),fL];rfl
 ·cases h
def tC(k:SK)(x i:AV):Option AV:=
 match i with
 |.lit (.int _ n)=>
  match k,x with
  |.str,.lit (.string s)=>if 0<=n/\n<s.size then (match s[n.toNat]? with|some b=>some (.lit (.int .u8 b.toNat))|none=>none) else none
  |.array m _ sz agg,.agg cells=>if 0<=n/\n<m then jo agg sz (cells.drop (n.toNat*sz)) else none
  |_,_=>none
 |_=>none
theorem JN{E:af}:∀{as:List AV} {d:List al} (n:Nat),aq E as d->aq E (as.drop n) (d.drop n)
 |_,_,0,h=>by simpa using h
 |[],[],n+1,_=>by simp[aq]
 |[],_::_,_,h=>by simp[aq]at h
 |_::_,[],_,h=>by simp[aq]at h
 |a::as,v::d,n+1,h=>by simp only[aq]at h; simpa using JN n h.2
theorem JO{E:af}:∀{as:List AV} {d:List al} (n:Nat),aq E as d->aq E (as.take n) (d.take n)
 |_,_,0,_=>by simp[aq]
 |[],[],n+1,_=>by simp[aq]
 |[],_::_,_,h=>by simp[aq]at h
 |_::_,[],_,h=>by simp[aq]at h
 |a::as,v::d,n+1,h=>by simp only[aq]at h; simp only[ZL,aq]; exact⟨h.1,JO n h.2⟩
theorem mv{E:af}:∀{as d:List AV} {g q:List al},aq E as g->aq E d q->aq E (as++d) (g++q)
 |[],_,[],_,_,h=>by simpa using h
 |[],_,_::_,_,h,_=>by simp[aq]at h
 |_::_,_,[],_,h,_=>by simp[aq]at h
 |a::as,d,v::g,q,h,h'=>by simp only[aq]at h; simp only[qk,aq]; exact⟨h.1,mv h.2 h'⟩
theorem rS{d:List al}(h:aq E as d)(hi:as[i]?=some a):∃v,d[i]?=some v/\ae E a v:=by
 obtain⟨A,B⟩:=rL.1 h;have q:=bA hi;have g:i<d.length:=A▸q;exact⟨d[i],bT g,B i a _ hi (bT g)⟩
theorem PX(g:fj P t=some (n,agg))
  (h:jo agg n (cells.drop oF)=some v) (hr:aq E cells cs.toList) (q:∀x∈cs.toList,fm x=true) :
  ∃u,(part t cs oF).run P E.w=.ok u E.w/\ae E v u:=by
 obtain⟨i,d,hi,A,hs,B⟩:=qx g;unfold jo at h;cases agg with
 |true=>
  simp only[if_true]at h;split at h
  ·cases h
   refine⟨.agg (cs.extract oF (oF+n)),?_,?_⟩
   simp_all[part,Sem.tw,Sem.run_sizeOf]
   ·simp only[ae]
    have e:(cs.extract oF (oF+n)).toList=(cs.toList.drop oF).take n:=ai
    grind[JO,JN]
  ·cases h
 |false=>
  simp only[tb,if_false]at h;rw[D1]at h;obtain⟨u,F,I⟩:=rS hr h
  simp_all[part,Sem.tw]
theorem aaR{i:AV}(h:tC (cZ P t) x i=some v)(g:ae E x c)(hi:ae E i d):
  ∃u,(ZQ t c d).run P E.w=.ok u E.w/\ae E v u:=by
 unfold tC at h;split at h
 case h_2=>cases h
 rename_i k n;simp only[ae]at hi;subst hi;split at h
 ·rename_i s q
  have B:=vC q;simp only[ae]at g;subst g;split at h
  case isFalse=>cases h
  rename_i hc;split at h
  case h_2=>cases h
  rename_i b J;cases h
  simp_all[ae,ZQ,asIntOf,Sem.cK]
 ·rename_i m e sz agg cells q
  obtain⟨B,A⟩:=Ew q;obtain⟨M,dd,N,O,U,W⟩:=qx A;split at h
  case isFalse=>cases h
  rename_i hc;simp only[ae]at g;obtain⟨cs,rfl,F,I⟩:=g;obtain⟨u,Y,q2⟩:=PX A h I F
  simp_all[ZQ,asIntOf,Sem.cK,Sem.run_sizeOf]
 ·cases h
def JP(k:FK)(x:AV):Option AV:=
 match x with
 |.agg cells=>jo k.agg k.size (cells.drop k.oF)
 |_=>none
theorem aaS{k:FK}(g:x6 P t f=some k)(h:JP k x=some v)(d:ae E x c):
  ∃u,(atu t c f).run P E.w=.ok u E.w/\ae E v u:=by
 obtain⟨F,I,J,M,N,q⟩:=PO g;unfold JP at h;split at h
 ·simp only[ae]at d
  obtain⟨cs,rfl,A,B⟩:=d;obtain⟨u,O,U⟩:=PX q h B A
  simp_all[atu,Sem.cK,asAgg]
 ·cases h
def tD:AV->Option (List AV)
 |.undef | .tuple _=>none
 |.agg cs=>some cs
 |.lit v=>if fm v then some [.lit v] else none
 |x=>some [x]
theorem JQ{cs:List AV}(h:tD x=some cs)(hr:ae E x c):
  aq E cs c.cells.toList/\∀y∈c.cells.toList,fm y=true:=by
 unfold tD at h;split at h
 ·cases h
 ·cases h
 ·cases h
  simp only[ae]at hr;obtain⟨a,rfl,d,g⟩:=hr;exact⟨g,d⟩
 ·rename_i v
  split at h
  ·rename_i d
   cases h;have F:=hr;simp only[ae]at hr;subst hr;cases c<;>simp[fm]at d<;>exact⟨by simp[O3,aq,ae],by simp[O3,fm]⟩
  ·cases h
 ·rename_i d g A B
  cases h;have q:fm c=true/\c.cells=#[c]:=by
   cases x<;>simp only[ae]at hr
   case undef=>exact(d rfl).elim
   case lit v=>exact(B v rfl).elim
   case nils=>obtain⟨b,rfl⟩:=hr; exact⟨rfl,rfl⟩
   case list=>obtain⟨_,b,cap,rfl,_⟩:=hr; exact⟨rfl,rfl⟩
   case listF=>simp only[fN]at hr; obtain⟨b,cap,rfl,_⟩:=hr; exact⟨rfl,rfl⟩
   case agg as=>exact(A as rfl).elim
   case tuple as=>exact(g as rfl).elim
   case cptr=>obtain⟨_,b,o,rfl,_⟩:=hr; exact⟨rfl,rfl⟩
   case ptr=>obtain⟨⟨b,o,rfl⟩,_⟩:=hr; exact⟨rfl,rfl⟩
   case vQ=>obtain⟨⟨b,o,rfl,_⟩,_⟩:=hr; exact⟨rfl,rfl⟩
   case map=>obtain⟨⟨b,rfl⟩,_⟩:=hr; exact⟨rfl,rfl⟩
   case clo=>obtain⟨cs,rfl,_⟩:=hr; exact⟨rfl,rfl⟩
   case ifc=>obtain⟨t,v,rfl⟩:=hr; exact⟨rfl,rfl⟩
   case emptyS=>obtain⟨b,cap,rfl,_⟩:=hr; exact⟨rfl,rfl⟩
  rw[q.2];exact⟨by simp only[aq]; exact⟨hr,trivial⟩,by simpa using q.1⟩
def vD(d:Nat->Option (Nat × Nat))(cells:List AV):List (Nat × AV)->Option (List AV)
 |[]=>some cells
 |(i,v)::rest=>match d i,tD v with
  |some (oF,size),some cs=>if cs.length=size/\oF+cs.length<=cells.length then vD d (cells.take oF++cs++cells.drop (oF+cs.length)) rest else none
  |_,_=>none
theorem PY(cs:Array al):∀(l:List al) (oF k:Nat) (cells:Array al),oF+k+l.length<=cells.size ->
  (l.zipIdx k).foldl (fun cs (p : al × Nat) => cs.setIfInBounds (oF + p.2) p.1) cells =
   (cells.toList.take (oF+k)++l++cells.toList.drop (oF+k+l.length)).toArray
 |[],oF,k,cells,_=>by simp
 |v::l,oF,k,cells,h=>by
  simp only[List.zipIdx_cons,List.foldl_cons];have h':oF+(k+1)+l.length<=(cells.setIfInBounds (oF+k) v).size:=by simp at h|-; omega
  rw[PY cs l oF (k+1) _ h'];congr 1;apply ql;intro i;simp only[Array.toList_setIfInBounds,lN,gA,List.length_set,ta,D1,iQ,eL,cJ,D5];simp at h;by_cases d:i<oF+k
  grind
  ·by_cases g:i=oF+k
   grind
   grind
theorem A6{E:af}{A:Nat->Option (Nat × Nat)}:∀{parts:List (Nat × AV)} {d:List (Nat × al)} {cells:List AV} {cs:Array al} {out:List AV},
  vD A cells parts=some out->aq E cells cs.toList->(∀x∈cs.toList,fm x=true) ->
  parts.map (·.1)=d.map (·.1)->aq E (parts.map (·.2)) (d.map (·.2)) ->
  ∃o,atv A cs d=some o/\aq E out o.toList/\∀x∈o.toList,fm x=true
 |[],[],cells,cs,out,h,hr,B,_,_=>by
  simp only[vD,bQ]at h;subst h;exact⟨cs,rfl,hr,B⟩
 |[],_::_,_,_,_,_,_,_,hm,_=>by simp at hm
 |_::_,[],_,_,_,_,_,_,hm,_=>by simp at hm
 |(i,v)::ps,(j,c)::O,cells,cs,out,h,hr,B,hm,g=>by
  simp only[eU,Jk]at hm;obtain⟨rfl,hm⟩:=hm;simp only[eU,aq]at g;simp only[vD]at h;split at h
  case h_2=>cases h
  rename_i oF size q F hc;split at h
  case isFalse=>cases h
  rename_i J;obtain⟨I,Y⟩:=JQ hc g.1;have hl:=il I;have U:=il hr;have W:q.length=c.cells.size:=ab;have N:cells.length=cs.size:=ab;have M:(c.cells.zipIdx.foldl (fun cs (x:al × Nat)=>cs.setIfInBounds (oF+x.2) x.1) cs) =
    (cs.toList.take oF++c.cells.toList++cs.toList.drop (oF+c.cells.toList.length)).toArray:=by
   rw[<-Array.foldl_toList,Array.toList_zipIdx];have:=PY cs c.cells.toList oF 0 cs du;omega
  simp only[atv,F];rw[iN du];refine A6 (cells:=cells.take oF++q++cells.drop (oF+q.length)) h ?_ ?_ hm g.2<;>grind[mv,JO,JN]
def PZ(P:ak)(t:aJ):Option (List (Nat × Nat)):=
 match P.underlying t with
 |some (.struct g)=>g.toList.mapM fun d=>(fj P d.type).map fun p=>(d.offset,p.1)
 |_=>none
theorem qy(h:gK P t=some z):
  ∃i v,P.info? t=some i/\i.zero=some v/\v.cells.toList=z/\∀x∈z,fm x=true:=by
 unfold gK at h;split at h
 ·rename_i i hi
  split at h
  ·rename_i v d
   split at h
   ·rename_i g
    cases h;exact⟨i,v,hi,d,rfl,eX.1 g⟩
   ·cases h
  ·cases h
 ·cases h
theorem qz{i:TypeInfo}{v:al}(hi:P.info? t=some i)(d:i.zero=some v)(w:be):(zeroValue t).run P w=.ok v w:=by
 simp[zeroValue,typeInfo,hi,d]
theorem P1{P:ak}{w:be}:∀(g:List Field) (pl:List (Nat × Nat)),(g.mapM fun q=>(fj P q.type).map fun p=>(q.offset,p.1))=some pl ->
  (g.mapM fun(f:Field)=>(do pure (f.offset,<-sizeOf f.type):Sem (Nat × Nat))).run P w=.ok pl w
 |[],pl,h=>by simp at h; subst h; simp
 |f::g,pl,h=>by
  simp only[List.mapM_cons,Option.bind_eq_bind,Option.pure_def,Option.bind_eq_some_iff,jA]at h;obtain⟨x,⟨⟨n,a⟩,A,rfl⟩,l,B,F⟩:=h;cases F;obtain⟨i,d,I,J,M,N⟩:=qx A;have:=P1 (w:=w) g l B
  simp_all[Sem.run_sizeOf]
def JR(P:ak)(t:aJ)(parts:List (Nat × AV)):Option AV:=
 match gK P t with
 |some z=>match PZ P t with
  |some pl=>(vD (fun i=>pl[i]?) (z.map .lit) parts).map .agg
  |none=>match cZ P t with
   |.array _ _ sz _=>(vD (fun i=>some (i*sz,sz)) (z.map .lit) parts).map .agg
   |_=>none
 |none=>none
theorem aaT{parts:List (Nat × AV)}{cparts:List (Nat × al)}(h:JR P t parts=some v)
  (hm:parts.map (·.1)=cparts.map (·.1)) (A:aq E (parts.map (·.2)) (cparts.map (·.2))) :
  ∃u,(ZR t cparts.toArray).run P E.w=.ok u E.w/\ae E v u:=by
 unfold JR at h;split at h
 case h_2=>cases h
 rename_i z O;obtain⟨i,B,z1,z2,g,F⟩:=qy O;split at h
 ·rename_i pl d
  unfold PZ at d;split at d
  case h_2=>cases d
  rename_i I U;simp only[jA]at h;obtain⟨out,q,rfl⟩:=h;obtain⟨o,W,J,M⟩:=A6 (cs:=B.cells) q (by rw[g]; exact vB z) (by rw[g]; exact F) hm A;refine⟨.agg o,?_,by simp only[ae]; exact⟨o,rfl,M,J⟩⟩;have hmp:(I.mapM fun(f:Field)=>(do pure (f.offset,<-sizeOf f.type):Sem (Nat × Nat))).run P E.w=.ok pl.toArray E.w:=by
   have:=P1 (w:=E.w) I.toList pl d;rw[Array.mapM_eq_mapM_toList,Sem.run_map,this];rfl
  simp_all[ZR,qz,Sem.cK]
 ·split at h
  case h_2=>cases h
  rename_i n e sz ag Y;obtain⟨U,N⟩:=Ew Y;obtain⟨ie,de,q1,q2,q3,q4⟩:=qx N;simp only[jA]at h;obtain⟨out,q,rfl⟩:=h;obtain⟨o,W,J,M⟩:=A6 (cs:=B.cells) q (by rw[g]; exact vB z) (by rw[g]; exact F) hm A
  simp_all[ae,ZR,qz,Sem.cK,Sem.run_sizeOf]
def chunk(sz:Nat):Nat->List AV->List (List AV)
 |0,_=>[]
 |n+1,l=>l.take sz::chunk sz n (l.drop sz)
theorem A7(sz:Nat):∀(n:Nat) (l:List AV),(chunk sz n l).length=n
 |0,_=>rfl
 |n+1,l=>by simp[chunk,A7 sz n]
theorem JS(sz:Nat):∀(n:Nat) (l:List AV),AV.ca l=true->iC (chunk sz n l)
 |0,_,_=>by intro r hr; simp[chunk]at hr
 |n+1,l,h=>by
  intro r hr;simp only[chunk,List.mem_cons]at hr;rcases hr with rfl|hr
  grind[Ev]
  ·exact JS sz n _ (A3 _ _ h) r hr
theorem P2{E:af}(sz:Nat):∀(n:Nat) (l:List AV) (b o:Nat),l.length=n*sz->dL E l b o->er E sz (chunk sz n l) b o
 |0,_,_,_,_,_=>by simp[chunk,er]
 |n+1,l,b,o,d,h=>by
  simp only[chunk,er];have:sz<=l.length:=by rw[d,nC]; omega
  refine⟨du,Eu h sz,P2 sz n _ b (o+sz) (by simp[d,nC]) (x9 h sz)⟩
theorem JT(A:E.w.heap[b]? = some (.cells cs el fr))(hr:aq E as cs.toList)
  (d:∀x∈cs.toList,fm x=true):dL E as b 0:=by
 rw[mq];intro i a hi;obtain⟨v,g,q⟩:=rS hr hi;refine⟨v,?_,d v (jj g),q⟩
 simp_all[s9]
theorem EB(v:al):v.oneCell'=fm v:=by cases v<;>rfl
theorem setRow_size(w:be)(g:Nat)(cs:Array al):(w.setRow g cs).heap.size=w.heap.size:=by simp[atw]
theorem setRow_other(w:be)(g:Nat)(cs:Array al)(x:Nat)(h:x≠g):(w.setRow g cs).heap[x]?=w.heap[x]?:=by
 simp only[atw];rw[Array.getElem?_modify];split
 ·rename_i e; exact(h e.symm).elim
 ·rfl
structure Src (P:ak) (E:af) (sz:Nat) (rZ:List (List AV)) (xt:aJ) (x:al) (news:List al):Prop where
 len:∀w,(O4 x).run P w=.ok rZ.length w
 cells:∀w,(∀b o,b<E.w.heap.size->w.cell? ⟨b,o,none⟩=E.w.cell? ⟨b,o,none⟩)->(lh sz rZ.length x).run P w=.ok news.toArray w
 ae:aq E rZ.flatten news
 one:∀v∈news,fm v=true
 wide:∀r∈rZ,r.length=sz
 closed:iC rZ
 kind:∃d,P.underlying xt=some d/\∀k,d≠.int k
theorem Src.length{P:ak}{E:af}{sz:Nat}{rZ:List (List AV)}{xt:aJ}{x:al}{news:List al}(h:Src P E sz rZ xt x news):news.length=rZ.length*sz:=by
 rw[<-il h.ae];have:∀(l:List (List AV)),(∀r∈l,r.length=sz)->l.flatten.length=l.length*sz:=by
  intro l d
  induction l with
  |nil=>simp
  |cons a l g=>grind
 exact this rZ h.wide
theorem EC{E:af}{k:Nat}:∀{rZ:List (List AV)} {b o:Nat},er E k rZ b o->dL E rZ.flatten b o
 |[],_,_,_=>by simp[dL]
 |r::rZ,b,o,h=>by
  simp only[er]at h;obtain⟨g,q,d⟩:=h;have A:=EC d
  grind[mq]
theorem ED{E:af}{k:Nat}:∀{rZ:List (List AV)} {b o:Nat},(∀ r∈rZ,r.length=k)->dL E rZ.flatten b o->er E k rZ b o
 |[],_,_,_,_=>by simp[er]
 |r::rZ,b,o,d,h=>by
  simp only[er];have hr:=d r ai;refine⟨hr,?_,?_⟩
  ·have:=Eu h r.length
   grind
  ·have:=x9 h r.length
   simp at this;rw[hr]at this;exact ED (fun x g=>d x (by simp[g])) this
def pt(sz:Nat)(x:AV)(H:List ay):Option (List (List AV)):=
 match x with
 |.nils | .lit (.slice none 0 0)=>some []
 |.emptyS _=>some []
 |.list w rZ=>if w=sz then some rZ else none
 |.listF ks rZ=>if ks.length=sz then some (rZ.map (bh ks)) else none
 |.vQ w id ax oF n=>match H[id]? with
  |some (.vQ k v rZ)=>if w=sz/\k=w/\v=ax/\oF+n<=rZ.length then some ((rZ.drop oF).take n) else none
  |_=>none
 |.lit (.string s)=>if sz=1 then some (s.data.toList.map fun b=>[.lit (.int .u8 b.toNat)]) else none
 |_=>none
theorem P3{α β:Type}(f:α->β):∀(l:List α),(l.map fun b=>[f b]).flatten=l.map f
 |[]=>rfl
 |a::l=>by simp[P3 f l]
theorem EE{rZ:List (List AV)}(hr:er E sz rZ b o)(A:b<E.w.heap.size):
  ∃news,aq E rZ.flatten news/\(∀v∈news,fm v=true) /\
   ∀w,(∀b o,b<E.w.heap.size->w.cell? ⟨b,o,none⟩=E.w.cell? ⟨b,o,none⟩)->(lh sz rZ.length (.slice (some ⟨b,o,none⟩) rZ.length cap)).run P w=.ok news.toArray w:=by
 obtain⟨d,g,q,B⟩:=A4 (EC hr);refine⟨d,g,q,fun w F=>?_⟩;refine run_firstCells_some (P:=P) w sz rZ.length ⟨b,o,none⟩ rZ.length cap d ?_ ?_
 ·rw[<- il g]
  have:∀(l:List (List AV)) (o:Nat),er E sz l b o->l.flatten.length=l.length*sz:=by
   intro l
   induction l with
   |nil=>intros; simp
   |cons a l I=>
    grind[er]
  grind
 grind[nO]
theorem aaU(HE:aO E){rZ:List (List AV)}(h:pt sz x E.H=some rZ)(hr:ae E x c)
  (g:∃d,P.underlying xt=some d/\∀k,d≠.int k):∃news,Src P E sz rZ xt c news:=by
 unfold pt at h;split at h
 ·cases h
  simp only[ae]at hr;obtain⟨bg,rfl⟩:=hr;refine⟨[],⟨fun w=>rfl,fun w _=>?_,by simp[aq],ai,ai,(by intro r hr; cases hr),g⟩⟩;cases bg<;>simp[lh,loadCells,loadCellsFrom]
 ·cases h
  simp only[ae]at hr;subst hr;exact⟨[],⟨fun w=>rfl,fun w _=>by simp[lh],by simp[aq],ai,ai,(by intro r hr; cases hr),g⟩⟩
 ·cases h
  simp only[ae]at hr;obtain⟨bg,cap,rfl,_⟩:=hr;refine⟨[],⟨fun w=>rfl,fun w _=>?_,by simp[aq],ai,ai,(by intro r hr; cases hr),g⟩⟩;cases bg<;>simp[lh,loadCells,loadCellsFrom]
 ·rename_i w U
  split at h
  case isFalse=>cases h
  rename_i N;subst N;cases h;simp only[ae]at hr;obtain⟨J,bg,cap,rfl,W,O⟩:=hr;rcases O with rfl|⟨b,o,rfl,aV,A⟩
  ·refine⟨[],⟨fun w=>rfl,fun w _=>?_,by simp[aq],ai,ai,(by intro r hr; cases hr),g⟩⟩
   cases bg<;>simp[lh,loadCells,loadCellsFrom]
  ·obtain⟨news,B,F,q⟩:=EE (P:=P) (cap:=cap) A aV.1
   exact⟨news,⟨fun w=>rfl,q,B,F,fun r hr=>by
    obtain⟨i,hi⟩:=oW hr;exact(pr A hi).1,J,g⟩⟩
 ·rename_i ks rows0
  split at h
  case isFalse=>cases h
  rename_i N;subst N;cases h;have hr:=m_.1 hr;generalize rows0.map (bh ks)=rZ at hr;simp only[ae]at hr;obtain⟨J,bg,cap,rfl,W,O⟩:=hr;rcases O with rfl|⟨b,o,rfl,aV,A⟩
  ·refine⟨[],⟨fun w=>rfl,fun w _=>?_,by simp[aq],ai,ai,(by intro r hr; cases hr),g⟩⟩
   cases bg<;>simp[lh,loadCells,loadCellsFrom]
  ·obtain⟨news,B,F,q⟩:=EE (P:=P) (cap:=cap) A aV.1
   exact⟨news,⟨fun w=>rfl,q,B,F,fun r hr=>by
    obtain⟨i,hi⟩:=oW hr;exact(pr A hi).1,J,g⟩⟩
 ·rename_i w id ax oF n
  split at h
  case h_2=>cases h
  rename_i k v U Y;split at h
  case isFalse=>cases h
  rename_i hc;obtain⟨rfl,rfl,rfl,W⟩:=hc;cases h;simp only[ae]at hr;obtain⟨⟨bg,cap,rfl,hcap,_⟩,_,h6⟩:=hr;obtain⟨q1,q2⟩:=h6 ⟨_,Y,rfl⟩;have hn:((U.drop oF).take n).length=n:=du;rcases HE.obj id _ Y with⟨I,e2⟩|⟨b,m,I,e2,e3,e4,e5⟩
  ·obtain⟨rfl,rfl,base',e⟩:=q1 I
   subst e2;refine⟨[],⟨fun w=>by rw[hn]; rfl,fun w _=>?_,by simp[aq],ai,ai,(by intro r hr; simp at hr),g⟩⟩;cases bg<;>simp[lh,loadCells,loadCellsFrom]
  ·obtain⟨p1,o,p2,p3⟩:=q2 b m I
   simp only[oU]at p3;obtain⟨rfl,_,rfl⟩:=p3;by_cases hm:oF<m
   ·rw[p2 hm]
    have M:=PS e5 oF n;simp only[fC]at M;obtain⟨news,B,F,q⟩:=EE (P:=P) (cap:=m-oF) M (HE.lt id b m I).1;rw[hn]at q;refine⟨news,⟨fun w=>by rw[hn]; rfl,by rw[hn]; exact q,B,F,fun r hr=>?_,fun r hr=>e4 r (O1 (D3 hr)),g⟩⟩;obtain⟨i,hi⟩:=oW hr;exact(pr M hi).1
   ·have hz:n=0 :=ab
    subst hz;refine⟨[],⟨fun w=>by rw[hn]; rfl,fun w _=>?_,by simp[aq],ai,ai,(by intro r hr; simp at hr),g⟩⟩;simp[lh,loadCells,loadCellsFrom]
 ·rename_i s
  split at h
  case isFalse=>cases h
  rename_i hs;subst hs;cases h;simp only[ae]at hr;subst hr;refine⟨s.data.toList.map fun b=>.int .u8 b.toNat,⟨fun w=>by simp[O4],fun w _=>?_,?_,?_,?_,?_,g⟩⟩
  ·simp only[bL,D5,lh]
   have:s.extract 0 s.data.size=s:=by
    have:=ByteArray.extract_zero_size (b:=s);exact this
   rw[this,<-atx];rfl
  ·rw[P3]
   have:=vB (E:=E) (s.data.toList.map fun b=>.int .u8 b.toNat);rw[List.map_map]at this;exact this
  ·intro v hv; simp at hv; obtain⟨b,_,rfl⟩:=hv; rfl
  grind
  ·intro r hr; grind[AV.ca,AV.closed]
 ·cases h
def yg(P:ak)(t xt:aJ)(s x:AV)(H:List ay):Option (AV × List ay):=
 match cZ P t with
 |.slice e sz c9=>
  match gK P e,(match cZ P xt with | .slice _ _ _ | .str=>true|_=>false),pt sz x H with
  |some z,true,some d=>
   if z.length=sz/\d.length<=1048576/\c9<=1048576 then
    match s with
    |.nils | .lit (.slice none 0 0)=>some (.vQ sz H.length 0 0 d.length,H++[.vQ sz 0 d])
    |.vQ w id ax oF n=>match H[id]? with
     |some (.vQ k v rZ)=>
      if k=w/\w=sz/\v=ax/\oF=0/\n=rZ.length/\rZ.length+d.length<=1048576 then
       some (.vQ w id (ax+1) 0 (n+d.length),H.set id (.vQ k (ax+1) (rZ++d)))
      else none
     |_=>none
    |_=>none
   else none
  |_,_,_=>none
 |_=>none
theorem JU{i:TypeInfo}{x:al}{d:TypeDesc}
  (A:P.underlying t=some (.slice e)) (B:P.underlying xt=some d) (_hd:∀k,d≠.int k) (hi:P.info? e=some i) (hs:i.size=sz)
  (F:(O4 x).run P w=.ok m w) (q:n+m<=cap) {news:List al} (hn:(lh sz m x).run P w=.ok news.toArray w)
  (g:(match bg with|some a=>storeCells (a.add (n*sz)) news|none=>(pure ():Sem Unit)).run P w=.ok () w') :
  (oX #[t,xt] ty #[.slice bg n cap,x]).run P w=.ok (.slice bg (n+m) cap) w':=by
 cases bg with
 |none=>
  simp at g;subst g;simp[oX,run_underlying A,run_underlying B,sizeOf,typeInfo,hi,hs,F,q,hn]
 |some a=>
  simp only[]at g;simp[oX,run_underlying A,run_underlying B,sizeOf,typeInfo,hi,hs,F,q,hn,g]
theorem P4{i:TypeInfo}{z:al}{x:al}{d:TypeDesc}
  (A:P.underlying t=some (.slice e)) (B:P.underlying xt=some d) (W:∀k,d≠.int k) (hi:P.info? e=some i) (hs:i.size=sz) (F:i.zero=some z)
  (I:(O4 x).run P w=.ok m w) (g:cap<n+m) {olds news:List al}
  (J:(lh sz n (.slice bg n cap)).run P w.drew=.ok olds.toArray w.drew)
  (hn:(lh sz m x).run P w.drew=.ok news.toArray w.drew)
  (q:n+m<=1048576) (M:i.bytes<=1048576) :
  ∃ C,n+m<=C/\(oX #[t,xt] ty #[.slice bg n cap,x]).run P w =
   .ok (.slice (some ⟨w.heap.size,0,none⟩) (n+m) C) (w.drew.alloc (.cells (olds++news++(D6 z.cells (C-(n+m))).toList).toArray e)):=by
 have N:¬ (n+m<=cap):=ab;have O:¬ (9223372036854775807<((n:Int)+(m:Int))):=ab;have Y:O5 (n+m) cap*i.bytes<=281474976710656:=growslice_fits g (by
  have:=Nat.mul_le_mul q M;omega)
 have U:¬ (281474976710656<O5 (n+m) cap*i.bytes):=ab;refine⟨grownCap w (n+m) cap e,?_,?_⟩
 ·simp[grownCap,Question.cut]
 ·simp[oX,run_underlying A,run_underlying B,sizeOf,typeInfo,zeroValue,hi,F,hs,I,N,O,U,Question.forced,hn,J,newRow,grownCap]
  congr 2
  grind
def e9(E:af)(v:AV)(H':List ay)(u:al)(w':be):Prop:=
 ∃d g,ae { w:=w',H:=H',ad:=d,X:=E.X.re g } v u/\aO { w:=w',H:=H',ad:=d,X:=E.X.re g }/\E.le { w:=w',H:=H',ad:=d,X:=E.X.re g }
theorem P5{vs tl:List al}{g:aJ}(q:E.w.heap[b]? = some (.cells cs g fr))(hr:aq E as vs)
  (hc:cs.toList=vs++tl) (A:∀x∈vs,fm x=true):dL E as b 0:=by
 rw[mq];intro i a hi;obtain⟨v,d,B⟩:=rS hr hi;refine⟨v,?_,A v (jj d),B⟩;simp only[fC,s9,q];have:cs.toList[i]?=some v:=by rw[hc,fB (bA d)]; exact d
 grind
theorem aaV{q:aJ}(M:E.w.heap[b]? = some (.cells cs q fr))(hr:dL E as b 0):
  aq E as (cs.toList.take as.length)/\(∀x∈cs.toList.take as.length,fm x=true)/\as.length<=cs.size:=by
 obtain⟨d,A,N,B⟩:=A4 hr;have F:=il A;have g:∀(j:Nat) v,d[j]?=some v->cs.toList[j]?=some v:=by
  intro j v I;have:=B j v I
  grind[s9]
 have J:d.length<=cs.size:=by
  rcases Nat.eq_zero_or_pos d.length with h|h
  ·omega
  ·have:=g (d.length - 1) d[d.length - 1] (bT ab)
   grind
 have:cs.toList.take as.length=d:=by
  rw[F];apply ql;intro j;rw[ta];split
  grind
  grind
 grind
theorem yh{sz:Nat}:∀{l:List (List AV)},(∀ r∈l,r.length=sz)->l.flatten.length=l.length*sz
 |[],_=>by simp
 |a::l,h=>by simp[yh (l:=l) (fun r hr=>h r (by simp[hr])),h a ai,nC,Nat.add_comm]
theorem JV{rZ:List (List AV)}(h:er E k rZ b o):∀r∈rZ,r.length=k:=by
 intro r hr;obtain⟨i,hi⟩:=oW hr;exact(pr h hi).1
theorem P6(w:be)(o:Obj):Ext w (w.drew.alloc o):=
 ⟨by show w.heap.size<=(w.heap.push o).size; simp,fun b d=>by
  show (w.heap.push o)[b]?=_
  grind,⟨rfl,rfl,rfl,by first|exact fun _=>bl _|exact fun _=>gk _ _⟩⟩
theorem P7(w:be)(o:Obj):(w.drew.alloc o).heap[w.heap.size]?=some o:=by
 show (w.heap.push o)[w.heap.size]?=_
 simp
theorem JW{rZ:List (List AV)}{vals:List al}(I:∀ a c,ae E a c->ae E' a c)
  (d:E'.w.heap[b]?=some (.cells (vals++rest).toArray e (0,0))) (hr:aq E rZ.flatten vals) (F:∀x∈vals,fm x=true)
  (g:∀r∈rZ,r.length=sz) (A:rZ.length=m) (hC:m<=C) (q:rest.length=(C-m)*sz) :
  isRow E'.w b (C*sz)/\er E' sz rZ b 0:=by
 have B:aq E' rZ.flatten vals:=by
  rw[rL]at *
  grind
 refine⟨⟨_,e,d,?_⟩,ED g (P5 d B (by simp; rfl) F)⟩;have:=il hr;rw[yh g,A]at this;simp only[ZS,eL,<-this,q,<-nC]
 grind
theorem P8(h:gK P e=some z):∃i v,P.info? e=some i/\i.zero=some v/\v.cells.toList=z:=
 let ⟨i,v,d,g,q,_⟩:=qy h
 ⟨i,v,d,g,q⟩
theorem P9(HE:aO E){d:List (List AV)}{g:List al}(hr:aq E d.flatten g)(O:∀ x∈g,fm x=true)
  (U:∀r∈d,r.length=sz) (N:iC d) (hm:d.length=m) (hC:m<=C) (I:rest.length=(C-m)*sz) :
  e9 E (.vQ sz E.H.length 0 0 m) (E.H++[.vQ sz 0 d]) (.slice (some ⟨E.w.heap.size,0,none⟩) m C) (E.w.drew.alloc (.cells (g++rest).toArray e)):=by
 have A:=P6 E.w (.cells (g++rest).toArray e);have F:=af.nc (o:=.vQ sz 0 d) (l:=some (E.w.heap.size,C)) HE.len A (fun b n q=>by cases q; exact bl _);have J:=P7 E.w (.cells (g++rest).toArray e);have B:=JW (E':=E.push (E.w.drew.alloc (.cells (g++rest).toArray e)) (.vQ sz 0 d) (some (E.w.heap.size,C))) (fun a c hr=>dW F a hr) J hr O U hm hC I;refine⟨E.ad++[some (E.w.heap.size,C)],E.X.r,?_,aO.push HE A (fun b n q=>?_) ?_,F⟩
 ·simp only[ae]
  refine⟨⟨_,_,rfl,hC,fun _=>⟨_,_,rfl⟩⟩,⟨.vQ sz 0 d,ai,fun v W=>by simp[ay.bt]at W; omega⟩,fun _=>⟨fun hn=>?_,fun b M hn=>?_⟩⟩
  ·rw[<-HE.len]at hn; simp at hn
  ·rw[<- HE.len]at hn
   simp at hn;obtain⟨rfl,rfl⟩:=hn;exact⟨ab,0,fun _=>by simp,ai⟩
 ·cases q
  exact⟨bl _,by show _<(E.w.heap.push _).size; simp⟩
 ·simp only[bK]
  right;refine⟨E.w.heap.size,C,?_,B.1,ab,N,B.2⟩;simp only[af.push];rw[<-HE.len];simp
theorem aaW(HE:aO E)(bg:Option Addr):
  e9 E (.vQ sz E.H.length 0 0 0) (E.H++[.vQ sz 0 []]) (.slice bg 0 0) E.w:=by
 have g:=af.nc (o:=.vQ sz 0 []) (l:=none) HE.len (Ext.refl E.w) (fun b n d=>by cases d);refine⟨E.ad++[none],E.X.r,?_,aO.push HE (Ext.refl _) (fun b n d=>by cases d) ?_,g⟩
 ·simp only[ae]
  refine⟨⟨_,_,rfl,bl _,fun h=>by omega⟩,⟨.vQ sz 0 [],ai,fun v q=>by simp[ay.bt]at q; omega⟩,fun _=>⟨fun _=>⟨trivial,trivial,bg,rfl⟩,fun b M hn=>?_⟩⟩;rw[<-HE.len]at hn;simp at hn
 ·simp only[bK]
  left;refine⟨?_,trivial⟩;simp only[af.push];rw[<-HE.len];simp
theorem JX(P:ak)(a:Addr)(w:be):(storeCells a []).run P w=.ok () w:=rfl
theorem JY{rZ:List (List AV)}{x:al}(h:Src P E sz rZ xt x news)(hr:rZ=[]):news=[]:=by
 have:=h.length
 simp_all
theorem P_(HE:aO E){q:List (List AV)}{B:al}
  (W:cZ P t=.slice e sz c9) (Y:gK P e=some z) (g:Src P E sz q xt B news) (hb1:q.length<=1048576) (hb2:c9<=1048576) (hzl:z.length=sz) :
  ∃u w',(oX #[t,xt] ty #[.slice bg 0 0,B]).run P E.w=.ok u w'/\e9 E (.vQ sz E.H.length 0 0 q.length) (E.H++[.vQ sz 0 q]) u w':=by
 obtain⟨N,i,hi,hs,hby⟩:=kn W;obtain⟨i',zv,I,U,hz2⟩:=P8 Y;rw[hi]at I;cases I;obtain⟨d,J,M⟩:=g.kind;cases A:q with
 |nil=>
  have hn:=JY g A;subst hn;subst A;refine⟨.slice bg (0+0) 0,E.w,JU (m:=0) N J M hi hs (g.len E.w) (bl _) (g.cells E.w (fun _ _ _=>rfl)) ?_,aaW HE bg⟩;cases bg with
  |none=>rfl
  |some a=>exact JX P _ _
 |cons r rs=>
  rw[<-A];have hpos:0<q.length:=by rw[A]; simp
  have O:∀ b o,b<E.w.heap.size->E.w.drew.cell? ⟨b,o,none⟩=E.w.cell? ⟨b,o,none⟩:=fun _ _ _=>rfl;obtain⟨C,hC,F⟩:=P4 (P:=P) (w:=E.w) (ty:=ty) (bg:=bg) (n:=0) (cap:=0) (m:=q.length) (x:=B) (olds:=[]) N J M hi hs U (g.len E.w) ab
   (by cases bg<;>simp[lh,loadCells,loadCellsFrom]) (g.cells _ O) ab ab
  simp only[fC,List.nil_append]at F;refine⟨_,_,F,P9 HE g.ae g.one g.wide g.closed rfl ab ?_⟩
  grind[size_zeroCells]
theorem aaX(h:(match cZ P xt with | .slice _ _ _ | .str=>true|_=>false)=true):∃d,P.underlying xt=some d/\∀k,d≠.int k:=by
 split at h
 ·rename_i g
  exact⟨_,(kn g).1,ai⟩
 simp_all[vC]
 ·cases h
theorem qA{l:List α}{x:α}(h:l[i]?=some x):l.set i x=l:=by
 apply ql
 grind
theorem aaY(HE:aO E){id ax:aJ}{rZ g:List (List AV)}{cx:al}
  (hk:cZ P t=.slice e sz c9) (hz:gK P e=some z) (q:Src P E sz g xt cx news) (hb1:rZ.length+g.length<=1048576) (hb2:c9<=1048576) (hzl:z.length=sz)
  (F:E.H[id]?=some (.vQ sz ax rZ)) (hr:ae E (.vQ sz id ax 0 rZ.length) c) :
  ∃u w',(oX #[t,xt] ty #[c,cx]).run P E.w=.ok u w' /\
   e9 E (.vQ sz id (ax+1) 0 (rZ.length+g.length)) (E.H.set id (.vQ sz (ax+1) (rZ++g))) u w':=by
 obtain⟨O,i,hi,hs,hby⟩:=kn hk;obtain⟨i',zv,hi',hz1,hz2⟩:=P8 hz;rw[hi]at hi';cases hi';obtain⟨d,hd1,hd2⟩:=q.kind;simp only[ae]at hr;obtain⟨⟨bg,cap,rfl,hcap,hbase⟩,hpast,hlive⟩:=hr;obtain⟨q1,q2⟩:=hlive ⟨_,F,rfl⟩;have hlt:=bA F;have W:(∀v,(ay.vQ sz (ax+1) (rZ++g)).bt=some v->∀u,(ay.vQ sz ax rZ).bt=some u->u<v):=by
  intro v U u O; simp[ay.bt]at U O; omega
 have hup:∀v u,(ay.vQ sz (ax+1) (rZ++g)).bt=some v->(ay.vQ sz ax rZ).bt=some u->u<=v:=by
  intro v u U O; simp[ay.bt]at U O; omega
 have Y:(ay.vQ sz ax rZ).bt=none->(ay.vQ sz (ax+1) (rZ++g)).bt=none:=by simp[ay.bt]
 have hpast':∀(w':be) loc',af.cf { w:=w',H:=E.H.set id (.vQ sz (ax+1) (rZ++g)),ad:=loc',X:=E.X } id (ax+1):=fun w' loc'=>
  ⟨_,dN hlt,fun v U=>by simp[ay.bt]at U; omega⟩
 have hcells:∀b o,b<E.w.heap.size->E.w.drew.cell? ⟨b,o,none⟩=E.w.cell? ⟨b,o,none⟩:=fun _ _ _=>rfl;by_cases J:rZ.length+g.length<=cap
 ·-- in place
  rcases HE.obj id _ F with⟨A,e2⟩|⟨b,M,A,e2,e3,e4,e5⟩
  ·obtain⟨hn0,_,base',ee⟩:=q1 A
   simp only[oU]at ee;obtain⟨rfl,_,rfl⟩:=ee;have hnil:g=[]:=by
    cases g with
    |nil=>rfl
    |cons a l=>simp at J
   have hnews:=JY q hnil;subst hnews;subst hnil;subst e2;refine⟨_,E.w,JU (m:=0) O hd1 hd2 hi hs (q.len E.w) (bl _) (q.cells E.w (fun _ _ _=>rfl)) ?_,E.ad.set id none,E.X.r,?_,?_,?_⟩
   ·cases bg with
    |none=>rfl
    |some a=>exact JX P _ _
   ·simp only[ae]
    refine⟨⟨_,_,rfl,bl _,fun h=>by simp at h⟩,hpast' _ _,fun _=>⟨fun _=>⟨ai,trivial,bg,ai⟩,fun b M hn=>?_⟩⟩;rw[dN (by rw[HE.len]; exact hlt)]at hn;cases hn
   ·refine aO.rN HE F (bl _) (fun _ _ _=>rfl) (fun _ _ h=>by cases h) (.inr W) hup Y ?_
    simp only[bK];left;exact⟨by rw[dN (by rw[HE.len]; exact hlt)],ai⟩
   ·exact af.pq F HE.len (bl _) (fun _ _ _=>rfl) (fun _ _ h=>by cases h) (.inr W) hup Y
  ·obtain⟨_,o,p2,p3⟩:=q2 b M A
   simp only[oU,mT]at p3;obtain⟨rfl,_,rfl⟩:=p3;obtain⟨cur,el,N,hsize⟩:=e2;have hcurl:=aaV N (EC e5);have hwide:=JV e5;have hflat:=yh hwide;have hnl:=q.length;have hstore:∃w',(storeCells ((Addr.mk b o none).add (rZ.length*sz)) news).run P E.w=.ok () w'/\w'.heap.size=E.w.heap.size/\eV E.w w'/\(∀x,x≠b->w'.heap[x]?=E.w.heap[x]?) /\
     w'.heap[b]?=some (.cells (cur.toList.take (rZ.length*sz)++news++cur.toList.drop (rZ.length*sz+news.length)).toArray el (0,0)):=by
    by_cases hM:0<cap
    ·rw[p2 hM,nO,AM,fC]
     have hfit2:rZ.length*sz+0+news.length<=cur.size:=by
      rw[hnl,hsize,qm,<-nC];exact AN _ J
     have hst:=run_storeCells_at P b (rZ.length*sz) el news 0 cur E.w N hfit2 (fun v U=>by rw[EB]; exact q.one v U);refine⟨_,hst,setRow_size _ _ _,⟨rfl,rfl,rfl,by first|exact fun _=>bl _|exact fun _=>gk _ _⟩,fun x B=>setRow_other _ _ _ _ B,?_⟩;rw[setRow_heap _ _ _ _ _ _ N];simp
    ·have h0:cap=0 :=ab
     have hn0:g=[]:=by
      cases g with
      |nil=>rfl
      |cons a l=>simp at J; omega
     have:=JY q hn0;subst this;refine⟨E.w,JX P _ _,rfl,⟨rfl,rfl,rfl,by first|exact fun _=>bl _|exact fun _=>gk _ _⟩,fun _ _=>rfl,?_⟩;rw[N];simp
   obtain⟨w',hst,hsz,henv,hother,hb'⟩:=hstore;have hloc:E.ad.set id (some (b,cap))=E.ad:=qA A;have hle:E.le { w:=w',H:=E.H.set id (.vQ sz (ax+1) (rZ++g)),ad:=E.ad.set id (some (b,cap)),X:=E.X }:=
    af.pq F HE.len ab (fun x B hne=>hother x (fun ex=>hne cap (by rw[ex]; exact A))) (fun b' n' h=>by cases h; exact .inr ⟨cap,A⟩) (.inr W) hup Y
   refine⟨_,w',JU (m:=g.length) O hd1 hd2 hi hs (q.len E.w) J (q.cells E.w (fun _ _ _=>rfl)) hst,E.ad.set id (some (b,cap)),E.X.r,?_,?_,hle⟩
   ·simp only[ae]
    refine⟨⟨_,_,rfl,J,fun _=>⟨b,o,rfl⟩⟩,hpast' _ _,fun _=>⟨fun hn=>?_,fun b' M hn=>?_⟩⟩
    ·rw[hloc,A]at hn; cases hn
    ·rw[hloc,A]at hn
     simp only[bQ,cr]at hn;obtain⟨rfl,rfl⟩:=hn;exact⟨ab,o,fun h=>by simpa using p2 (by simpa using h),ai⟩
   ·refine aO.rN HE F ab (fun x B hne=>hother x (fun ex=>hne cap (by rw[ex]; exact A))) (fun b' n' h=>by cases h; exact .inr ⟨cap,A⟩) (.inr W) hup Y ?_
    simp only[bK];right;refine⟨b,cap,by rw[hloc]; exact A,?_,by simpa using J,?_,?_⟩
    ·refine⟨_,el,hb',?_⟩
     have hfit2:rZ.length*sz+news.length<=cap*sz:=by rw[hnl,<-nC]; exact AN _ J
     simp only[ZS,eL,gA,List.length_drop,D5,hsize];omega
    ·intro r hr
     rcases cY.1 hr with h|h
     ·exact e4 r h
     ·exact q.closed r h
    ·have hall:∀r∈rZ++g,r.length=sz:=by
      intro r hr;rcases cY.1 hr with h|h
      ·exact hwide r h
      ·exact q.wide r h
     refine ED hall (P5 hb' (vs:=cur.toList.take (rZ.length*sz)++news) (tl:=cur.toList.drop (rZ.length*sz+news.length)) ?_ ai ?_)
     ·rw[D7]
      refine mv ?_ (gJ hle _ q.ae);have:=gJ hle _ hcurl.1;rw[hflat]at this;exact this
     ·intro x B
      rcases cY.1 B with h|h
      ·exact hcurl.2.1 x (by rw[hflat]; exact h)
      ·exact q.one x h
 ·-- it moves
  have holds:∃I:List al,aq E rZ.flatten I/\(∀x∈I,fm x=true)/\(∀r∈rZ,r.length=sz)/\iC rZ /\
    (lh sz rZ.length (.slice bg rZ.length cap)).run P E.w.drew=.ok I.toArray E.w.drew:=by
   rcases HE.obj id _ F with⟨A,e2⟩|⟨b,M,A,e2,e3,e4,e5⟩
   ·subst e2
    refine⟨[],by simp[aq],ai,ai,(fun r hr=>by cases hr),?_⟩;cases bg<;>simp[lh,loadCells,loadCellsFrom]
   ·obtain⟨_,o,p2,p3⟩:=q2 b M A
    simp only[oU,mT]at p3;obtain⟨rfl,_,rfl⟩:=p3;by_cases hM:0<cap
    ·have ho:=p2 hM
     rw[AM]at ho;subst ho;obtain⟨vs,g1,g2,g3⟩:=EE (P:=P) (cap:=cap) e5 (HE.lt id b cap A).1;exact⟨vs,g1,g2,JV e5,e4,g3 _ hcells⟩
    ·have:rZ=[]:=by
      cases rZ with
      |nil=>rfl
      |cons a l=>simp at hcap; omega
     subst this;exact⟨[],by simp[aq],ai,ai,fun r hr=>by(cases hr),by simp[lh,loadCells,loadCellsFrom]⟩
  obtain⟨I,g1,g2,g3,g4,g5⟩:=holds;obtain⟨C,hC,hrun⟩:=P4 (P:=P) (w:=E.w) (ty:=ty) (bg:=bg) (n:=rZ.length) (cap:=cap) (m:=g.length) (x:=cx) (olds:=I) O hd1 hd2 hi hs hz1 (q.len E.w) ab
   g5 (q.cells _ hcells) ab ab
  generalize hrest:(D6 zv.cells (C-(rZ.length+g.length))).toList=rest at hrun;have hrl:rest.length=(C-(rZ.length+g.length))*sz:=by
   rw[<-hrest];simp only[D5,size_zeroCells];rw[<-hzl,<-hz2];simp
  generalize hw':E.w.drew.alloc (.cells (I++news++rest).toArray e)=w' at hrun;have hext:Ext E.w w':=by rw[<-hw']; exact P6 _ _
  have N:w'.heap[E.w.heap.size]?=some (.cells (I++news++rest).toArray e (0,0)):=by rw[<-hw']; exact P7 _ _
  have hltw:E.w.heap.size<w'.heap.size:=(Array.getElem?_eq_some_iff.1 N).1;have hle:E.le { w:=w',H:=E.H.set id (.vQ sz (ax+1) (rZ++g)),ad:=E.ad.set id (some (E.w.heap.size,C)),X:=E.X }:=
   af.pq F HE.len hext.size (fun x B _=>hext.same x B) (fun b n h=>by cases h; exact .inl (bl _)) (.inr W) hup Y
  have hall:∀r∈rZ++g,r.length=sz:=by
   intro r hr;rcases cY.1 hr with h|h
   ·exact g3 r h
   ·exact q.wide r h
  have hlocs:(E.ad.set id (some (E.w.heap.size,C)))[id]? = some (some (E.w.heap.size,C)):=dN (by rw[HE.len]; exact hlt);have hrow:=JW (E:=E) (E':={ w:=w',H:=E.H.set id (.vQ sz (ax+1) (rZ++g)),ad:=E.ad.set id (some (E.w.heap.size,C)),X:=E.X })
   (rZ:=rZ++g) (vals:=I++news) (m:=rZ.length+g.length) (fun a c hr=>dW hle a hr) N
   (by rw[D7]; exact mv g1 q.ae)
   (by intro x B; rcases cY.1 B with h|h; exact g2 x h; exact q.one x h) hall ai hC hrl
  refine⟨_,w',hrun,E.ad.set id (some (E.w.heap.size,C)),E.X.r,?_,?_,hle⟩
  ·simp only[ae]
   refine⟨⟨_,_,rfl,hC,fun _=>⟨_,_,rfl⟩⟩,hpast' _ _,fun _=>⟨fun hn=>?_,fun b' M hn=>?_⟩⟩
   ·rw[hlocs]at hn; cases hn
   ·rw[hlocs]at hn
    simp only[bQ,cr]at hn;obtain⟨rfl,rfl⟩:=hn;exact⟨ab,0,fun _=>by simp,ai⟩
  ·refine aO.rN HE F hext.size (fun x B _=>hext.same x B) (fun b n h=>by cases h; exact .inl ⟨bl _,hltw⟩) (.inr W) hup Y ?_
   simp only[bK];right;refine⟨E.w.heap.size,C,hlocs,hrow.1,by simpa using hC,?_,hrow.2⟩;intro r hr;rcases cY.1 hr with h|h
   ·exact g4 r h
   ·exact q.closed r h
theorem aaZ(HE:aO E){s:AV}{F:al}(h:yg P t xt s x E.H=some (v,H'))
  (hs:ae E s c) (U:ae E x F):∃u w',(oX #[t,xt] ty #[c,F]).run P E.w=.ok u w'/\e9 E v H' u w':=by
 unfold yg at h;split at h
 case h_2=>cases h
 rename_i e sz c9 g;split at h
 case h_2=>cases h
 rename_i z Y q M J;split at h
 case isFalse=>cases h
 rename_i hc;obtain⟨A,I,B⟩:=hc;obtain⟨news,d⟩:=aaU (P:=P) HE J U (aaX M);split at h
 ·cases h
  simp only[ae]at hs;obtain⟨bg,rfl⟩:=hs;exact P_ HE g q d I B A
 ·cases h
  simp only[ae]at hs;subst hs;exact P_ HE g q d I B A
 ·split at h
  case h_2=>cases h
  rename_i k v rZ N;split at h
  case isFalse=>cases h
  rename_i O;obtain⟨rfl,rfl,rfl,rfl,rfl,W⟩:=O;cases h;exact aaY HE g q d W B A N hs
 ·cases h
theorem P'{g:Array al}{d:List al}{q:aJ}(A:w.heap[b]? = some (.cells g q fr))
  (B:w'.heap[b]?=some (.cells (g.toList.take oF++d++g.toList.drop (oF+d.length)).toArray q fr)) (F:oF+d.length<=g.size) (i:Nat) :
  w'.cell? ⟨b,i,none⟩=if oF<=i/\i<oF+d.length then d[i-oF]? else w.cell? ⟨b,i,none⟩:=by
 simp only[s9,A,B,Option.isSome_none,tb,if_false,List.getElem?_toArray,lN,eL,gA,D5,
  ta,D1]
 grind
theorem JZ{col:Nat}{g:Array al}{cs:List AV}{d:List al}{A:aJ}(U:∀ a c,ae E a c->ae E' a c)
  (F:E.w.heap[b]?=some (.cells g A fr))
  (J:E'.w.heap[b]?=some (.cells (g.toList.take (o+col)++d++g.toList.drop (o+col+d.length)).toArray A fr)) (I:o+col+d.length<=g.size)
  (hr:dL E as b o) (q:aq E cs d) (W:∀x∈d,fm x=true) (N:col+cs.length<=as.length) :
  dL E' (as.take col++cs++as.drop (col+cs.length)) b o:=by
 have O:=il q;rw[mq]at hr|-;intro i a hi;rw[P' F J I];simp only[lN,eL,gA,ta,D1]at hi;have hm:min col as.length=col:=ab;rw[hm]at hi;by_cases M:i<col
 grind
 ·by_cases B:i<col+cs.length
  ·rw[iP B,iN M]at hi
   obtain⟨v,Y,g2⟩:=rS q hi
   grind
  ·rw[iN B]at hi
   have:col+cs.length+(i-(col+cs.length))=i:=ab;rw[this]at hi
   grind
theorem af.tF{o:ay}(HE:aO E)(I:E.H[id]? = some o) (g:E.ad[id]? = some (some (b,n)))
  (q:∀v,o'.bt=some v->o.bt=some v) (M:w'.heap.size=E.w.heap.size) (B:∀x,x≠b->w'.heap[x]?=E.w.heap[x]?) (F:eV E.w w':=by first|exact⟨rfl,rfl,rfl,by first|exact fun _=>bl _|exact fun _=>gk _ _⟩|assumption|exact Ext.env (by assumption)) :
  E.le { w:=w',H:=E.H.set id o',ad:=E.ad,X:=E.X }:=by
 have h:=af.pq (w':=w') (o':=o') (l:=some (b,n)) I HE.len ab (fun x _ J=>B x (fun e=>J n (by rw[e]; exact g))) (fun N O h=>by cases h; exact .inr ⟨n,g⟩)
  (.inl fun v d=>⟨q v d,g⟩) (fun v u d A=>by rw[q v d]at A; cases A; exact bl _) (fun hn=>by
   cases d:o'.bt with
   |none=>rfl
   |some v=>rw[q v d]at hn; cases hn) F
 rwa [qA g]at h
theorem aO.set{E:af}{w':be}{id b n:Nat}{o o':ay}(HE:aO E)(I:E.H[id]? = some o) (d:E.ad[id]? = some (some (b,n)))
  (q:∀v,o'.bt=some v->o.bt=some v) (N:w'.heap.size=E.w.heap.size) (B:∀x,x≠b->w'.heap[x]?=E.w.heap[x]?)
  (M:bK { w:=w',H:=E.H.set id o',ad:=E.ad,X:=E.X } id o') (F:eV E.w w':=by first|exact⟨rfl,rfl,rfl,by first|exact fun _=>bl _|exact fun _=>gk _ _⟩|assumption|exact Ext.env (by assumption)) (hlab:o.label=none:=by first|rfl|assumption) (O:o'.label=none:=by first|rfl|assumption):aO { w:=w',H:=E.H.set id o',ad:=E.ad,X:=E.X }:=by
 have h:=aO.rN (w':=w') (o':=o') (l:=some (b,n)) HE I ab (fun x _ J=>B x (fun e=>J n (by rw[e]; exact d))) (fun U W h=>by cases h; exact .inr ⟨n,d⟩)
  (.inl fun v g=>⟨q v g,d⟩) (fun v u g A=>by rw[q v g]at A; cases A; exact bl _) (fun hn=>by
   cases g:o'.bt with
   |none=>rfl
   |some v=>rw[q v g]at hn; cases hn) (by rw[qA d]; exact M) F
 rwa [qA d]at h
def putCells(as cs:List AV)(d:Nat):List AV:=as.take d++cs++as.drop (d+cs.length)
def rT(P:ak)(t:aJ)(x v:AV)(H:List ay):Option (List ay):=
 match fj P t,tD v,x with
 |some (n,_),some cs,.ptr id ax w row d=>
  if cs.length=n then
   match H[id]? with
   |some (.box cells)=>if ax=0/\row=0/\d+n<=cells.length then some (H.set id (.box (putCells cells cs d))) else none
   |some (.vQ k u rZ)=>
    if ax=u/\k=w/\AV.ca cs=true then
     match rZ[row]? with
     |some r=>if d+n<=r.length then some (H.set id (.vQ k u (rZ.set row (putCells r cs d)))) else none
     |none=>none
    else none
   |_=>none
  else none
 |_,_,_=>none
theorem Qa{cs:List AV}{d:Nat}(h:d+cs.length<=as.length):(putCells as cs d).length=as.length:=by
 simp[putCells]; omega
theorem J0:∀(a b:List AV),AV.ca (a++b)=(AV.ca a&&AV.ca b)
 |[],b=>by simp[AV.ca]
 |x::a,b=>by simp[AV.ca,J0 a b,ats]
theorem Qb(HE:aO E)(h:rT P t x v E.H=some H')(hx:ae E x c)(I:ae E v d):
  ∃w',(O6 t c d).run P E.w=.ok () w'/\aO { w:=w',H:=H',ad:=E.ad,X:=E.X }/\E.le { w:=w',H:=H',ad:=E.ad,X:=E.X }:=by
 unfold rT at h;split at h
 case h_2=>cases h
 rename_i n ag cs id ax w row g ht hcs;obtain⟨i,dd,hi,hd,hs,ha⟩:=qx ht;obtain⟨hrel,h1⟩:=JQ hcs I;split at h
 case isFalse=>cases h
 rename_i hn;have hlen:=il hrel;have hsz:d.cells.size=n:=by rw[<-hn,hlen]; simp
 simp only[ae]at hx;obtain⟨_,hpast,hlive⟩:=hx;split at h
 ·rename_i cells B
  split at h
  case isFalse=>cases h
  rename_i hc;obtain⟨rfl,rfl,hcol⟩:=hc;cases h;obtain⟨b,m,J,rfl⟩:=hlive ⟨_,B,rfl⟩;obtain⟨b',m',Y,⟨A,N,O,hsize⟩,e3⟩:=HE.obj id _ B;rw[J]at Y;cases Y;have M:g+0+d.cells.toList.length<=A.size:=by rw[hsize]; simp; omega
  have hst:=run_storeCells_at P b g N d.cells.toList 0 A E.w O M (fun v I=>by rw[EB]; exact h1 v I);simp only[qm]at hst M;generalize F:E.w.setRow b (A.toList.take g++d.cells.toList++A.toList.drop (g+d.cells.toList.length)).toArray=w' at hst;have hsize':w'.heap.size=E.w.heap.size:=by rw[<-F]; simp
  have henv:eV E.w w':=by rw[<-F]; exact⟨rfl,rfl,rfl,by first|exact fun _=>bl _|exact fun _=>gk _ _⟩
  have hother:∀x,x≠b->w'.heap[x]?=E.w.heap[x]?:=by intro x hx; rw[<-F]; grind[setRow_other]
  have U:w'.heap[b]?=some (.cells (A.toList.take g++d.cells.toList++A.toList.drop (g+d.cells.toList.length)).toArray N (0,0)):=by
   rw[<-F]; grind[setRow_heap]
  have hver:∀v,(ay.box (putCells cells cs g)).bt=some v->(ay.box cells).bt=some v:=fun v I=>by simpa[ay.bt]using I
  have W:=af.tF (o':=.box (putCells cells cs g)) HE B J hver hsize' hother;refine⟨w',?_,aO.set HE B J hver hsize' hother ?_,W⟩
  simp_all[O6,tc,storeVar,Sem.run_sizeOf]
  ·simp only[bK]
   refine⟨b,m,J,⟨_,N,U,?_⟩,?_⟩
   ·rw[Qa ab]
    grind
   ·exact JZ (o:=0) (col:=g) (fun a c hr=>dW W a hr) O (by simpa using U) (by simpa using M) e3 hrel h1 ab
 ·rename_i k u rZ B
  split at h
  case isFalse=>cases h
  rename_i hc;obtain⟨rfl,rfl,hclosed⟩:=hc;split at h
  case h_2=>cases h
  rename_i r hrow;split at h
  case isFalse=>cases h
  rename_i hcol;cases h;obtain⟨b,m,J,rfl⟩:=hlive ⟨_,B,rfl⟩;rcases HE.obj id _ B with⟨_,Y⟩|⟨b',m',Y,⟨A,N,O,hsize⟩,e3,e4,e5⟩
  grind
  rw[J]at Y;cases Y;have hrlt:=bA hrow;obtain⟨hrk,hrc⟩:=pr e5 hrow;rw[fC]at hrc;have hrow1:(row+1)*k<=m*k:=AN _ ab;rw[nC,ZU]at hrow1;have M:row*k+g+0+d.cells.toList.length<=A.size:=by rw[hsize]; simp; omega
  have hst:=run_storeCells_at P b (row*k+g) N d.cells.toList 0 A E.w O M (fun v I=>by rw[EB]; exact h1 v I);simp only[qm]at hst M;generalize F:E.w.setRow b (A.toList.take (row*k+g)++d.cells.toList++A.toList.drop (row*k+g+d.cells.toList.length)).toArray=w' at hst;have hsize':w'.heap.size=E.w.heap.size:=by rw[<-F]; simp
  have henv:eV E.w w':=by rw[<-F]; exact⟨rfl,rfl,rfl,by first|exact fun _=>bl _|exact fun _=>gk _ _⟩
  have hother:∀x,x≠b->w'.heap[x]?=E.w.heap[x]?:=by intro x hx; rw[<-F]; grind[setRow_other]
  have U:w'.heap[b]?=some (.cells (A.toList.take (row*k+g)++d.cells.toList++A.toList.drop (row*k+g+d.cells.toList.length)).toArray N (0,0)):=by
   rw[<-F]; grind[setRow_heap]
  have hver:∀v,(ay.vQ k ax (rZ.set row (putCells r cs g))).bt=some v->(ay.vQ k ax rZ).bt=some v:=fun v I=>by simpa[ay.bt]using I
  have W:=af.tF (o':=.vQ k ax (rZ.set row (putCells r cs g))) HE B J hver hsize' hother;refine⟨w',?_,aO.set HE B J hver hsize' hother ?_,W⟩
  simp_all[O6,tc,storeVar,Sem.run_sizeOf]
  ·simp only[bK]
   right;refine⟨b,m,J,⟨_,N,U,?_⟩,by simpa using e3,?_,?_⟩
   grind
   ·intro r' hr'
    rcases List.mem_or_eq_of_mem_set hr' with h'|h'
    ·exact e4 r' h'
    ·rw[h',putCells,J0,J0]
     have:=e4 r (jj hrow)
     grind[Ev,A3]
   ·rw[qv]at e5 |-
    intro j r' hj;rw[iQ]at hj;split at hj
    ·rename_i ej
     subst ej;cases hj;refine⟨by rw[Qa ab]; exact hrk,?_⟩;rw[fC];exact JZ (fun a c hr=>dW W a hr) O U M hrc hrel h1 ab
    ·rename_i ej
     obtain⟨g1,g2⟩:=e5 j r' hj;refine⟨g1,?_⟩;rw[mq]at g2|-;intro q a hq;obtain⟨vv,p1,p2,p3⟩:=g2 q a hq;refine⟨vv,?_,p2,dW W a p3⟩;have hql:=bA hq;rw[P' O U M,iN]
     ·exact p1
     ·rcases Nat.lt_or_gt_of_ne ej with hlt | hgt
      ·have:(row+1)*k<=j*k:=AN _ ab
       grind
      ·have:(j+1)*k<=row*k:=AN _ ab
       grind
 ·cases h
theorem Qc(HE:aO E){vals:Array al}(hr:aq E cells vals.toList)(F:∀ x∈vals.toList,fm x=true):
  e9 E (.ptr E.H.length 0 0 0 0) (E.H++[.box cells]) (.pointer (some ⟨E.w.heap.size,0,none⟩)) { E.w with heap:=E.w.heap.push (.cells vals el) }:=by
 have g:=Ext.push E.w (.cells vals el);have A:=af.nc (o:=.box cells) (l:=some (E.w.heap.size,0)) HE.len g (fun b n d=>by cases d; exact bl _);have q:(E.w.heap.push (.cells vals el))[E.w.heap.size]?=some (.cells vals el (0,0)):=ai;have B:aq (E.push { E.w with heap:=E.w.heap.push (.cells vals el) } (.box cells) (some (E.w.heap.size,0))) cells vals.toList:=gJ A _ hr;refine⟨E.ad++[some (E.w.heap.size,0)],E.X.r,?_,aO.push HE g (fun b n d=>?_) ?_,A⟩
 ·simp only[ae]
  refine⟨⟨_,_,rfl⟩,⟨.box cells,ai,fun v I=>by simp⟩,fun _=>⟨E.w.heap.size,0,?_,ai⟩⟩;rw[<-HE.len]; simp
 ·cases d
  exact⟨bl _,ai⟩
 ·simp only[bK]
  refine⟨E.w.heap.size,0,?_,⟨vals,el,q,?_⟩,JT (cs:=vals) (el:=el) (fr:=(0,0)) q B F⟩
  ·simp only[af.push]; rw[<-HE.len]; simp
  ·have:=il hr
   simpa using this.symm
def EF(P:ak)(t:aJ):Option aJ:=match gK P t with
 |some [.pointer none,.slice none 0 0]=>match P.underlying t with
  |some (.struct d)=>match d[1]? with
   |some g=>match P.underlying g.type with
    |some (.slice e)=>match P.underlying e with
     |some (.int .u8)=>some e
     |_=>none
    |_=>none
   |none=>none
  |_=>none
 |_=>none
theorem aa0(h:EF P t=some e):gK P t=some [.pointer none,.slice none 0 0]:=by
 unfold EF at h;split at h
 ·assumption
 ·cases h
def yi(H:List ay)(l:Nat):Bool:=H.all fun o=>match o.label with
 |some k => !Nat.beq k l
 |none=>true
theorem J1{H:List ay}(h:yi H l=true)(i:Nat)(o:ay)(hi:H[i]?=some o):o.label≠some l:=fun e=>by
 have:=eX.1 h o (jj hi)
 simp_all
theorem aa1(HE:aO E)(d:yi E.H 0=true):
  e9 E (.ptr E.H.length 0 0 0 0) (E.H++[.dK 0 t e AJ]) (.pointer (some ⟨E.w.heap.size,0,none⟩)) { E.w with heap:=E.w.heap.push (.cells #[.pointer none,.slice none 0 0] t) }:=by
 have q:=Ext.push E.w (.cells #[.pointer none,.slice none 0 0] t);obtain⟨A,B⟩:=aO.aaB (o:=.dK 0 t e AJ) (l:=some (E.w.heap.size,0)) (l0:=0) HE q (fun b n F=>by cases F; exact⟨bl _,ai⟩) rfl (J1 d) (by
  simp only[bK];refine⟨E.w.heap.size,0,.pointer none,.slice none 0 0,(E.X.r 0).length,none,?_,?_,.inl rfl,?_,?_,⟨rfl,rfl⟩⟩
  ·rw[<-HE.len]; simp
  ·simp
  ·simp[lr,XS.re]
  ·intro h' q' I
   rcases JC (show (lr E.X.r 0 0)[h']?=some (some q') from I)with g|⟨_,g,_⟩
   ·exact(HE.kM 0 (J1 d) h' q' g).elim
   ·exact g)
 refine⟨E.ad++[some (E.w.heap.size,0)],lr E.X.r 0,?_,A,B⟩;simp only[ae];refine⟨⟨_,_,rfl⟩,⟨.dK 0 t e AJ,ai,fun v J=>by simp⟩,fun _=>⟨E.w.heap.size,0,?_,ai⟩⟩;rw[<-HE.len]; simp
def vE(P:ak)(t:aJ)(H:List ay):Option (AV × List ay):=
 match EF P t with
 |some e=>if yi H 0=true then some (.ptr H.length 0 0 0 0,H++[.dK 0 t e AJ]) else none
 |none=>match gK P t with
  |some z=>some (.ptr H.length 0 0 0 0,H++[.box (z.map .lit)])
  |none=>none
theorem aa2(HE:aO E)(h:vE P t E.H=some (v,H')):
  ∃u w',(Jl t true (.tuple #[])).run P E.w=.ok u w'/\e9 E v H' u w':=by
 unfold vE at h;split at h
 ·rename_i e he
  split at h
  case isFalse=>cases h
  rename_i B;cases h;obtain⟨i,g,F,I,d,q⟩:=qy (aa0 he);have A:g.cells=#[.pointer none,.slice none 0 0]:=jk (by simpa using d);refine⟨_,_,?_,aa1 HE (t:=t) (e:=e) B⟩
  simp_all[Jl,qz,newVar,newRow]
 split at h
 ·rename_i z A
  cases h;obtain⟨i,g,F,I,d,q⟩:=qy A;refine⟨_,_,?_,Qc HE (vals:=g.cells) (el:=t) (by rw[d]; exact vB z) (by rw[d]; exact q)⟩
  simp_all[Jl,qz,newVar,newRow]
 ·cases h
def zc:Option (List Kd)->al->AV
 |some ks,.slice none 0 0=>.listF ks []
 |_,v=>.lit v
def fv:List (Option (List Kd))->List al->List AV
 |_,[]=>[]
 |[],v::z=>.lit v::fv [] z
 |a::m,v::z=>zc a v::fv m z
theorem EG:∀(m:List (Option (List Kd))) (z:List al),(fv m z).length=z.length
 |[],[]=>rfl
 |_::_,[]=>rfl
 |[],v::z=>by simp[fv,EG [] z]
 |a::m,v::z=>by simp[fv,EG m z]
theorem aa3(a:Option (List Kd))(v:al):ae E (zc a v) v:=by
 unfold zc;split
 ·simp only[ae,fN]
  exact⟨none,0,rfl,bl _,.inl rfl⟩
 ·simp[ae]
theorem J2{E:af}:∀(m:List (Option (List Kd))) (z:List al),aq E (fv m z) z
 |[],[]=>by simp[fv,aq]
 |_::_,[]=>by simp[fv,aq]
 |[],v::z=>by simp only[fv,aq]; exact⟨by simp[ae],J2 [] z⟩
 |a::m,v::z=>by simp only[fv,aq]; exact⟨aa3 a v,J2 m z⟩
theorem aa4(a:Option (List Kd))(v:al):(zc a v).closed=true:=by
 unfold zc;split<;>rfl
theorem J3:∀(m:List (Option (List Kd))) (z:List al),AV.ca (fv m z)=true
 |[],[]=>rfl
 |_::_,[]=>rfl
 |[],v::z=>by simp[fv,AV.ca,AV.closed,J3 [] z]
 |a::m,v::z=>by simp[fv,AV.ca,aa4,J3 m z]
def tG(P:ak)(t:aJ)(id:Nat) (m:List (Option (List Kd))) (H:List ay):Option (AV × List ay):=
 match gK P t,H[id]? with
 |some z,some (.vQ k 0 [])=>if k=z.length then some (.ptr id 1 k 0 0,H.set id (.vQ k 1 [fv m z])) else none
 |_,_=>none
theorem aa5(HE:aO E){vals:Array al}(q:E.H[id]? = some (.vQ k 0 []))(hr:aq E cells vals.toList)(h1:∀ x∈vals.toList,fm x=true)(W:cells.length=k)
  (Y:AV.ca cells=true) :
  e9 E (.ptr id 1 k 0 0) (E.H.set id (.vQ k 1 [cells])) (.pointer (some ⟨E.w.heap.size,0,none⟩)) { E.w with heap:=E.w.heap.push (.cells vals el) }:=by
 have g:=Ext.push E.w (.cells vals el);have N:=bA q;have F:∀v,(ay.vQ k 1 [cells]).bt=some v->∀u,(ay.vQ k 0 []).bt=some u->u<v:=by
  intro v d u A;simp[ay.bt]at d A;omega
 have O:∀v u,(ay.vQ k 1 [cells]).bt=some v->(ay.vQ k 0 []).bt=some u->u<=v:=by
  intro v u d A;simp[ay.bt]at d A;omega
 have I:(ay.vQ k 0 []).bt=none->(ay.vQ k 1 [cells]).bt=none:=by simp[ay.bt]
 have U:E.le { w:={ E.w with heap:=E.w.heap.push (.cells vals el) },H:=E.H.set id (.vQ k 1 [cells]),ad:=E.ad.set id (some (E.w.heap.size,1)),X:=E.X }:=
  af.pq q HE.len g.size (fun x B _=>g.same x B) (fun b n h=>by cases h; exact .inl (bl _)) (.inr F) O I
 have M:(E.w.heap.push (.cells vals el))[E.w.heap.size]?=some (.cells vals el (0,0)):=ai;have J:(E.ad.set id (some (E.w.heap.size,1)))[id]?=some (some (E.w.heap.size,1)):=dN (by rw[HE.len]; exact N);have hr':=gJ U _ hr;refine⟨E.ad.set id (some (E.w.heap.size,1)),E.X.r,?_,?_,U⟩
 ·simp only[ae]
  refine⟨⟨_,_,rfl⟩,⟨.vQ k 1 [cells],by simp[N],fun v d=>by simp[ay.bt]at d; omega⟩,fun _=>⟨E.w.heap.size,1,J,ai⟩⟩
 ·refine aO.rN HE q g.size (fun x B _=>g.same x B) (fun b n h=>by cases h; exact .inl ⟨bl _,ai⟩) (.inr F) O I ?_
  simp only[bK];right;refine⟨E.w.heap.size,1,J,⟨vals,el,M,?_⟩,ai,?_,?_⟩
  ·have:=il hr
   rw[ZU,<-W];simpa using this.symm
  ·intro r hr
   simp at hr;rw[hr];exact Y
  ·simp only[er,and_true]
   exact⟨W,JT (cs:=vals) (el:=el) (fr:=(0,0)) M hr' h1⟩
theorem aa6(HE:aO E){m:List (Option (List Kd))}(h:tG P t id m E.H=some (v,H')):
  ∃u w',(Jl t true (.tuple #[])).run P E.w=.ok u w'/\e9 E v H' u w':=by
 unfold tG at h;split at h
 ·rename_i z k q g
  split at h
  ·rename_i A
   cases h;obtain⟨i,B,F,I,d,J⟩:=qy q;refine⟨_,_,?_,aa5 HE (vals:=B.cells) (el:=t) g (by rw[d]; exact J2 m z) (by rw[d]; exact J) (by rw[EG,A]) (J3 m z)⟩;simp[Jl,qz F I,newVar,newRow]
  ·cases h
 ·cases h
def EH(v:AV)(H:List ay):Option (AV × List ay):=
 match tD v with
 |some cs=>some (.ptr H.length 0 0 0 0,H++[.box cs])
 |none=>none
theorem aa7(HE:aO E)(h:EH x E.H=some (v,H'))(g:ae E x c):
  ∃u w',(aty t c).run P E.w=.ok u w'/\e9 E v H' u w':=by
 unfold EH at h;split at h
 ·rename_i cs d
  cases h;obtain⟨q,A⟩:=JQ d g;refine⟨_,_,?_,Qc HE (vals:=c.cells) (el:=t) q A⟩;simp[aty,newVar,newRow]
 ·cases h
theorem Qd(HE:aO E){rZ:List (List AV)}{d:List al}{g:aJ}(hr:aq E rZ.flatten d)(O:∀ x∈d,fm x=true)
  (U:∀r∈rZ,r.length=sz) (N:iC rZ) (hn:rZ.length=n) (hC:n<=C) (I:rest.length=(C-n)*sz) :
  e9 E (.vQ sz E.H.length 0 0 n) (E.H++[.vQ sz 0 rZ]) (.slice (some ⟨E.w.heap.size,0,none⟩) n C) { E.w with heap:=E.w.heap.push (.cells (d++rest).toArray g) }:=by
 have A:=Ext.push E.w (.cells (d++rest).toArray g);have F:=af.nc (o:=.vQ sz 0 rZ) (l:=some (E.w.heap.size,C)) HE.len A (fun b n q=>by cases q; exact bl _);have J:(E.w.heap.push (.cells (d++rest).toArray g))[E.w.heap.size]?=some (.cells (d++rest).toArray g (0,0)):=ai;have B:=JW (E':=E.push { E.w with heap:=E.w.heap.push (.cells (d++rest).toArray g) } (.vQ sz 0 rZ) (some (E.w.heap.size,C))) (fun a c hr=>dW F a hr) J hr O U hn hC I;refine⟨E.ad++[some (E.w.heap.size,C)],E.X.r,?_,aO.push HE A (fun b n q=>?_) ?_,F⟩
 ·simp only[ae]
  refine⟨⟨_,_,rfl,hC,fun _=>⟨_,_,rfl⟩⟩,⟨.vQ sz 0 rZ,ai,fun v W=>by simp[ay.bt]at W; omega⟩,fun _=>⟨fun hn=>?_,fun b M hn=>?_⟩⟩
  ·rw[<-HE.len]at hn; simp at hn
  ·rw[<- HE.len]at hn
   simp at hn;obtain⟨rfl,rfl⟩:=hn;exact⟨ab,0,fun _=>by simp,ai⟩
 ·cases q
  exact⟨bl _,ai⟩
 ·simp only[bK]
  right;refine⟨E.w.heap.size,C,?_,B.1,ab,N,B.2⟩;simp only[af.push];rw[<-HE.len];simp
theorem range_zero(z:Array al)(n:Nat)(q:0<z.size):((j9 (n*z.size)).map (fun i=>z[i%z.size]!)).toList=(dz n z.toList).flatten:=by
 induction n with
 |zero=>simp
 |succ n d=>
  rw[List.replicate_succ',D7,<-d];simp only[O7,List.flatten_nil,List.append_nil];apply ql;intro i;simp only[atx,Array.toList_range,dw,lN,bL,List.length_range];by_cases A:i<n*z.size
  grind
  ·by_cases g:i<(n+1)*z.size
   ·have c3:i - n*z.size<z.size:=by rw[nC]at g; omega
    have B:i%z.size=i-n*z.size:=by
     have:i=i-n*z.size+n*z.size:=ab;rw[this,Nat.add_mul_mod_self_right,Nat.mod_eq_of_lt c3];omega
    grind
   grind
theorem Qe(f:Nat->al):O8 f (j9 0)=#[]:=by apply jk; simp
def kdV:al->Option Kd
 |.int k _=>some (.int k)
 |.string _=>some .str
 |.bool _=>some .bool
 |_=>none
def J4:List al->Option (List Kd)
 |[]=>some []
 |v::d=>match kdV v,J4 d with
  |some k,some ks=>some (k::ks)
  |_,_=>none
def J5(P:ak)(t:aJ):Option (List Kd):=match P.underlying t with
 |some (.slice e)=>match P.info? e with
  |some i=>match i.zero with
   |some (.agg cs)=>J4 cs.toList
   |some v=>J4 [v]
   |none=>none
  |none=>none
 |_=>none
def J6(P:ak):Nat->aJ->List aJ
 |0,t=>[t]
 |d+1,t=>match P.underlying t with
  |some (.struct g)=>(g.toList.map fun f=>J6 P d f.type).flatten
  |some (.array n e)=>(dz n (J6 P d e)).flatten
  |_=>[t]
def rU:List al->List (Option (List Kd))->List AV
 |[],_=>[]
 |v::d,ks=>(match v,ks.headD none with
  |.slice none 0 0,some k=>.listF k []
  |v,_=>.lit v)::rU d ks.tail
def EI(P:ak)(e:aJ)(z:List al):List AV:=rU z ((J6 P 4 e).map (J5 P))
theorem Qf:∀(z:List al) (ks:List (Option (List Kd))),(rU z ks).length=z.length
 |[],_=>rfl
 |_::z,ks=>by simp[rU,Qf z]
theorem Qg{E:af}:∀(z:List al) (ks:List (Option (List Kd))),aq E (rU z ks) z
 |[],_=>by simp[rU,aq]
 |v::z,ks=>by
  simp only[rU,aq];refine⟨?_,Qg z _⟩;split<;>simp_all[ae,fN,G.rZ]
theorem Qh:∀(z:List al) (ks:List (Option (List Kd))),AV.ca (rU z ks)=true
 |[],_=>rfl
 |v::z,ks=>by
  simp only[rU,AV.ca,Qh z,fJ];split<;>rfl
theorem Qi{E:af}{as:List AV}{z:List al}(h:aq E as z):∀ n:Nat,aq E (dz n as).flatten (dz n z).flatten
 |0=>by simp[aq]
 |n+1=>by
  simp only[ZV,O7];exact mv h (Qi h n)
def A8(P:ak)(t:aJ)(l c:AV)(H:List ay):Option (AV × List ay):=
 match cZ P t,l,c with
 |.slice e sz c9,.lit (.int _ l),.lit (.int _ c)=>
  match gK P e with
  |some z=>if z.length=sz/\0<sz/\0<=l/\l<=c/\c<=1048576/\c9<=1048576 then
    some (.vQ sz H.length 0 0 l.toNat,H++[.vQ sz 0 (dz l.toNat (EI P e z))]) else none
  |none=>none
 |_,_,_=>none
theorem wrap_small{n:Int}(d:0<=n)(g:n<=1048576):IntKind.i64.wrap n=n:=by
 simp[IntKind.wrap,IntKind.bits,IntKind.signed];omega
theorem A9{E:af}(z:List al):∀ n:Nat,aq E (dz n (z.map AV.lit)).flatten (dz n z).flatten
 |0=>by simp[aq]
 |n+1=>by
  simp only[ZV,O7];exact mv (vB z) (A9 z n)
theorem A_{z:List α}{x:α}(h:x∈(dz n z).flatten):x∈z:=by
 obtain⟨l,d,g⟩:=List.mem_flatten.1 h
 grind
theorem J7:∀(z:List al),AV.ca (z.map .lit)=true
 |[]=>rfl
 |v::z=>by simp[AV.ca,AV.closed,J7 z]
theorem aa9(HE:aO E){l c:AV}{cl cc:al}(h:A8 P t l c E.H=some (v,H'))
  (O:ae E l cl) (hc:ae E c cc):∃u w',(atz t cl cc).run P E.w=.ok u w'/\e9 E v H' u w':=by
 unfold A8 at h;split at h
 case h_2=>cases h
 rename_i e sz c9 k1 l k2 c hk;simp only[ae]at O hc;subst O; subst hc;obtain⟨hu,i,hi,hs,hby⟩:=kn hk;split at h
 case h_2=>cases h
 rename_i z hz;split at h
 case isFalse=>cases h
 rename_i hcond;obtain⟨U,g2,g3,g4,W,g6⟩:=hcond;cases h;obtain⟨i',d,J,hz1,M,hz3⟩:=qy hz;rw[hi]at J;cases J;have wl:IntKind.i64.wrap l=l:=wrap_small g3 ab;have wc:IntKind.i64.wrap c=c:=wrap_small ab W;have hbc:(i.bytes:Int)*c<=1048576*1048576:=by
  have q:(i.bytes:Int)<=1048576:=ab;have A:(0:Int)<=c:=ab;exact Int.mul_le_mul q W A ab
 have hne:¬ (281474976710656<(i.bytes:Int)*c):=ab;have hzs:d.cells.size=sz:=by rw[<-U,<-M]; simp
 have I:(dz l.toNat z).flatten++(dz (c.toNat-l.toNat) z).flatten=(dz c.toNat z).flatten:=by
  rw[<-D7,List.replicate_append_replicate];congr 2;omega
 obtain⟨g,B⟩:∃g,g=(dz l.toNat z).flatten:=⟨_,rfl⟩
 obtain⟨rest,N⟩:∃rest,rest=(dz (c.toNat-l.toNat) z).flatten:=⟨_,rfl⟩
 have hrest:rest.length=(c.toNat-l.toNat)*sz:=by rw[N]; simp[U]
 rw[<-B,<-N]at I;refine⟨.slice (some ⟨E.w.heap.size,0,none⟩) l.toNat c.toNat,{ E.w with heap:=E.w.heap.push (.cells (g++rest).toArray e) },?_,?_⟩
 ·have q:¬ c<0 :=ab
  have A:¬ l<0:=ab;have h3:¬ c<l:=ab;simp only[atz,ft,Sem.cK hu,fL,asInt,asIntOf,mS,typeInfo,run_program,hi,wl,wc];rw[iN (by simp[q,A,h3,hne])];simp only[ft,run_askRoom,fL,Sem.run_sizeOf hi];rw[I];by_cases F:c.toNat*i.size=0
  ·have:c.toNat=0:=by
    rcases ZW.1 F with h|h
    ·exact h
    ·omega
   rw[iP F];simp only[ft,mS,fL,newRow,this,AM,Qe];simp
  ·rw[iN F]
   simp only[ft,qz hi hz1,fL,mS,newRow];have:(O8 (fun x=>d.cells[x%d.cells.size]!) (j9 (c.toNat*i.size)))=(dz c.toNat z).flatten.toArray:=by
    apply jk;rw[hs,<-hzs,range_zero d.cells c.toNat ab,M]
   simp_all
 ·refine Qd HE (C:=c.toNat) (by rw[B]; exact Qi (Qg z _) _) (by intro x Y; rw[B]at Y; exact hz3 x (A_ Y)) ?_ ?_ ai ab hrest
  grind[EI,Qf]
  ·intro r hr
   have:=List.eq_of_mem_replicate hr;rw[this];exact Qh z _
def yj(P:ak)(t:aJ)(n:Nat)(parts:List (Nat × AV)):Option AV:=
 match cZ P t with
 |.slice e sz _=>match gK P e with
  |some z=>if z.length=sz/\0<sz/\n*sz<=1048576 then
    match vD (fun i=>some (i*sz,sz)) (dz n (z.map AV.lit)).flatten parts with
    |some out=>if AV.ca out=true/\out.length=n*sz then some (match n with|0=>.nils|_=>.list sz (chunk sz n out)) else none
    |none=>none
   else none
  |none=>none
 |_=>none
theorem aa_(HE:aO E){parts:List (Nat × AV)}{cparts:List (Nat × al)}(h:yj P t n parts=some v)
  (hm:parts.map (·.1)=cparts.map (·.1)) (hv:aq E (parts.map (·.2)) (cparts.map (·.2))) :
  ∃u w',(O9 t n cparts.toArray).run P E.w=.ok u w'/\Ext E.w w'/\ae { E with w:=w' } v u:=by
 unfold yj at h;split at h
 case h_2=>cases h
 rename_i e sz c9 hk;obtain⟨hu,i,hi,hs,_⟩:=kn hk;split at h
 case h_2=>cases h
 rename_i z hz;obtain⟨i',g,F,N,I,O⟩:=qy hz;rw[hi]at F;cases F;split at h
 case isFalse=>cases h
 rename_i hc;obtain⟨g1,g2,g3⟩:=hc;split at h
 case h_2=>cases h
 rename_i out M;split at h
 case isFalse=>cases h
 rename_i U;cases h;have W:g.cells.size=sz:=by rw[<-g1,<-I]; simp
 obtain⟨d,q⟩:∃d:Array al,d.toList=(dz n z).flatten:=⟨((dz n z).flatten).toArray,ai⟩
 obtain⟨o,f1,f2,f3⟩:=A6 (E:=E) (cs:=d) M (by rw[q]; exact A9 z n) (by rw[q]; intro x A; exact O x (A_ A)) hm hv;have B:=Ext.push E.w (.cells o e);have hblk:(E.w.heap.push (.cells o e))[E.w.heap.size]?=some (.cells o e (0,0)):=ai;refine⟨.slice (some ⟨E.w.heap.size,0,none⟩) n n,{ E.w with heap:=E.w.heap.push (.cells o e) },?_,B,?_⟩
 ·have Y:¬ (n*i.size>2 ^ 24):=by rw[hs]; omega
  simp only[O9,ft,Sem.cK hu,fL,Sem.run_sizeOf hi];rw[iN Y];by_cases J:n*i.size=0
  ·have hn0:n=0:=by
    rcases ZW.1 J with h|h
    ·exact h
    ·omega
   simp_all[Qe,newRow]
  ·rw[iN J]
   simp only[ft,qz hi N,fL,mS];have:(O8 (fun x=>g.cells[x%g.cells.size]!) (j9 (n*i.size)))=d:=by
    apply jk;rw[hs,<-W,range_zero g.cells n ab,I,q]
   simp_all[newRow]
 ·have hle:E.le { E with w:={ E.w with heap:=E.w.heap.push (.cells o e) } }:=af.jn B
  cases n with
  |zero=>grind[ae]
  |succ n=>
  simp only[ae];refine⟨JS sz _ out U.1,some ⟨E.w.heap.size,0,none⟩,n+1,by rw[A7],by rw[A7]; exact bl _,.inr ⟨E.w.heap.size,0,rfl,?_,?_⟩⟩
  ·refine⟨ai,?_,fun A=>by have:=HE.X _ A; omega⟩
   rintro ho;have:=(HE.x2 ho).1;omega
  grind[P2,JT,gJ]
end Go.AL
