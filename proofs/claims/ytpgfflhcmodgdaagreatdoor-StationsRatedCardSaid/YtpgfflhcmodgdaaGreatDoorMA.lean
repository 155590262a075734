/-
 What is proved here: basic facts of an abstract logic for the model's programs: abstract values,what they say of the model's values in a world,and that this survives what a call may do. No program in sight; no condition.
-/
import Derived.Calls
import Derived.Orders
import Derived.OrdersIn
import Derived.RangeFuncNested
import Derived.RangeFuncLeaves
import Derived.Laws.Sem
import Derived.Laws.Cells
import Derived.Laws.StructEq
import Derived.Laws.AppendOwn
import Derived.Laws.CopyRow
set_option linter.all false
open Array renaming length_toList->oH,toList_map->ar2,ext'->mh,range->kH,map->OI
open BitVec renaming ofInt->Ee
open Bool renaming and_true->jQ,and_eq_true->aO,false_eq_true->rA,and_assoc->arV
open ByteArray renaming empty->Ed
open Go renaming Value->ar,TypeId->aK,World->bh,Program->ak,Operand->cM
open Go.Act renaming eval->Ja
open Go.Builtin renaming lenOf->OG,firstCells->lK,append_->rC,zeroCells->Ei,nextslicecap->OH
open Go.Instr renaming loadAt->AZ,sureAddr->oG,fieldAt->Zp,indexAt->A0,sliceBounds->xz,sliceBound->Jb,sliceAt->rB,slice->sS,index->Zt,field->arZ,fill->ar0,build->Zv,storeAt->xC,alloc->Ek,box->ar4,makeSlice->ar5,buildSlice->OK
open Go.Op renaming bytesLess->mV,equalIn->lJ,eqFields->Ef,equal->Eh
open Go.Program renaming fieldsOf->arW
open Go.Result renaming andThen_ok->dZ
open Go.Sem renaming run_bind->dN,run_pure->ke
open Go.Value.slice renaming injEq->qz
open Go.World renaming cell?->xy,setRow->ar1
open List renaming length_cons->cz,append_nil->dY,length_map->cP,getElem?_eq_getElem->cB,mem_of_getElem?->gg,getElem?_append_left->fT,getElem?_append->jR,getElem?_set_self->cG,getElem?_set_ne->bL,getElem?_set->gh,set_eq_of_length_le->OD,getD_eq_getElem?_getD->dc,getElem?_drop->AY,getElem?_take->sR,take_succ_cons->Zo,getElem?_map->dw,map_cons->e9,mem_of_mem_drop->Zq,mem_of_mem_take->OE,cons_append->mX,take_one->Zr,eq_nil_of_length_eq_zero->A2,drop_drop->xA,take_append_drop->Zs,ext_getElem?->kg,length_take->mg,length_append->fV,all_eq_true->eD,getElem?_of_mem->sT,size_toArray->ar3,mem_append->dm,flatten_append->Ej,replicate->cn,flatten_cons->El,replicate_succ->Zw
open List.cons renaming injEq->Jd
open Nat renaming le_refl->aV,le_add_right->gI,le_trans->mU,lt_of_lt_of_le->fD,zero_le->fy,lt_or_ge->nU,add_assoc->arU,zero_add->dj,add_mul->pL,sub_zero->iz,zero_mul->xB,add_zero->sU,mul_le_mul_right->sW,mul_eq_zero->Zx
open Option renaming isSome_iff_exists->A1,map_eq_some_iff->gj
open Option.some renaming injEq->bD
open Prod.mk renaming injEq->bM
open Std.Legacy.Range renaming forIn_eq_forIn_range'->arX,size->arY
namespace Go.AL
variable {p:Prop} {l b id h k n i d f sz cap oF m C:Nat} {w w':bh} {c:ar} {α:Type} {P:ak} {t el xt e ty:aK} {agg:Bool} {clo:Option ar} {aU:Option Addr} {op:BinOp} {y:cM} {cs vals:Array ar} {z news:List ar} {fr:Nat × Nat}
theorem gB(h:p:=by grind):p:=h
theorem Ba(h:p:=by simp_all):p:=h
theorem ab(h:p:=by omega):p:=h
theorem au(h:p:=by simp):p:=h
theorem aB(h:p:=by kernel_rfl):p:=h
theorem bS(h:p:=by simp;omega):p:=h
theorem fk(h:p:=by first|rfl|simp):p:=h
theorem e_(h:p:=by decide):p:=h
section
universe u
theorem iN{c:Prop}{h:Decidable c}(n:¬c){α:Sort u}{t e:α}:(ite c t e)=e:=if_neg n
theorem iP{c:Prop}{h:Decidable c}(n:c){α:Sort u}{t e:α}:(ite c t e)=t:=if_pos n
theorem dT[Decidable p]:(decide p=true)=p:=decide_eq_true_eq
theorem dF{_:Decidable p}:decide p=false↔¬p:=decide_eq_false_iff_not
theorem dE[h:Decidable p]:p->decide p=true:=decide_eq_true
theorem cT{α:Sort u}{a b:α}:cond true a b=a:=rfl
theorem cF{α:Sort u}{a b:α}:cond false a b=b:=rfl
end
inductive Kd where
 |int (k:IntKind)
 |str
 |bool
 |list (ks:List Kd)
 deriving Inhabited
inductive G where
 |i (n:Int)
 |s (b:ByteArray)
 |t (x:Bool)
 |l (rZ:List (List G))
instance:Inhabited G:=⟨.i 0⟩
def G.iV:G->Int
 |.i n=>n
 |_=>0
def G.sV:G->ByteArray
 |.s b=>b
 |_=>Ed
def G.bV:G->Bool
 |.t x=>x
 |_=>false
def G.rZ:G->List (List G)
 |.l rZ=>rZ
 |_=>[]
inductive AV where
 |undef
 |lit (v:ar)
 |nils
 |list (k:Nat) (rZ:List (List AV))
 |listF (ks:List Kd) (rZ:List (List G))
 |agg (cells:List AV)
 |tuple (vs:List AV)
 |cptr (cells:List AV)
 |ptr (id aq k row col:Nat)
 |vQ (k id aq oF n:Nat)
 |map (id:Nat)
 |clo (f:FuncId) (caps:List AV)
 |ifc
 |emptyS (isNil:Bool)
 |sub (id l:Nat) (j:Option Nat)
 |svec (id l j n:Nat)
 |sptr (id l j k row col:Nat)
 deriving Inhabited
def oN:Kd->G->AV
 |.int k,g=>.lit (.int k g.iV)
 |.str,g=>.lit (.string g.sV)
 |.bool,g=>.lit (.bool g.bV)
 |.list ks,g=>.listF ks g.rZ
def aY:List Kd->List G->List AV
 |[],_=>[]
 |k::ks,g=>oN k (g.headD default)::aY ks g.tail
theorem vw:∀(ks:List Kd) (g:List G),(aY ks g).length=ks.length
 |[],_=>rfl
 |_::ks,g=>by simp[aY,vw ks]
inductive aj where
 |dead
 |box (cells:List AV)
 |vQ (k aq:Nat) (rZ:List (List AV))
 |map (es:List (AV × AV × Nat)) (clock:Nat)
 |iter (s:ByteArray) (pos:Nat)
 |ij (l:Nat) (T B:aK) (s:ByteArray)
 |ba (l k:Nat) (es:List (AV × Option (List (List AV)) × Nat)) (clock:Nat)
 |mm (l:Nat) (es:List (AV × Option Nat × Nat)) (ms:List (List (AV × AV × Nat) × Nat)) (clock:Nat)
 |eV
 |cZ (l k n:Nat) (ms:List (List (List AV)))
 |bU (l k:Nat) (es:List (AV × (Option (List (List AV)) × Option (List (List AV))) × Nat)) (clock:Nat)
 deriving Inhabited
def aj.born:aj->Bool
 |.eV=>false
 |_=>true
def aj.label:aj->Option Nat
 |.ij l _ _ _=>some l
 |.ba l _ _ _=>some l
 |.mm l _ _ _=>some l
 |.cZ l _ _ _=>some l
 |.bU l _ _ _=>some l
 |_=>none
def aj.eS:aj->Option Nat
 |.mm l _ _ _=>some l
 |.cZ l _ _ _=>some l
 |_=>none
variable {o o':aj} {as cells:List AV} {x a v:AV} {hi lo:Option AV} {H':List aj}
theorem aj.pR(h:o.eS=some l):o.label=some l:=by
 cases o<;>first|exact h|cases h
theorem aj.JB(h:o.eS=some l):o.born=true:=by
 cases o<;>first|rfl|cases h
theorem aj.EB(h:o.label=some l):o.born=true:=by
 cases o<;>first|rfl|cases h
theorem aj.EC(h:o.label=none):o.eS=none:=by
 cases o<;>first|rfl|cases h
def aj.aX : aj->Option Nat
 |.dead=>none
 |.box _=>some 0
 |.vQ _ v _=>some v
 |.map _ _=>some 0
 |.iter _ _=>some 0
 |.ij ..=>some 0
 |.ba ..=>some 0
 |.mm ..=>some 0
 |.cZ ..=>some 0
 |.bU ..=>some 0
 |.eV=>none
theorem aj.ED{v:Nat}(h:o.aX=some v):o.born=true:=by
 cases o<;>first|rfl|cases h
structure XS where
 x:Nat->Prop
 z:Nat->Prop
 r:Nat->List (Option (Option (Nat × Nat)))
instance:CoeFun XS fun _=>Nat->Prop:=⟨XS.x⟩
def XS.or(X:XS)(p:Nat->Prop):XS:=⟨fun b=>X b\/p b,X.z,X.r⟩
def XS.re(X:XS) (r:Nat->List (Option (Option (Nat × Nat)))):XS:=⟨X.x,X.z,r⟩
@[simp] theorem XS.JD (X:XS):X.re X.r=X:=rfl
@[simp] theorem XS.asN (X:XS) (r):(X.re r).x=X.x:=rfl
@[simp] theorem XS.asO (X:XS) (r):(X.re r).z=X.z:=rfl
@[simp] theorem XS.asP (X:XS) (r):(X.re r).r=r:=rfl
@[simp] theorem XS.asQ (X:XS) (r d):(X.re r).re d=X.re d:=rfl
theorem XS.O5{X d:XS}(h:d.x=X.x/\d.z=X.z)(r):d.re r=X.re r:=by
 unfold XS.re;rw[h.1,h.2]
def fK:Nat->List (Option (Option (Nat × Nat))):=fun _=>[]
def Bb:List (Nat × Array ar):=[]
class Dr where
 d:Bool
abbrev rJ:Dr:=⟨true⟩
variable [Dr]
def Z2:Bool:=Dr.d
structure ah where
 w:bh
 H:List aj
 ae:List (Option (Nat × Nat))
 X:XS
def ah.sat(E:ah)(b:Nat):Prop:=∃(l h m:Nat),(E.X.r l)[h]?=some (some (some (b,m)))
def ah.af(E:ah)(b:Nat):Prop:=(∃(id:Nat) (c:Nat),E.ae[id]?=some (some (b,c)))\/E.sat b
def ah.mo(E:ah)(b:Nat):Prop:=b<E.w.heap.size/\¬ E.af b/\¬ E.X b
def ah.live(E:ah)(id aq:Nat):Prop:=∃o,E.H[id]?=some o/\o.aX=some aq
def ah.bF(E:ah)(id aq:Nat):Prop:=∃o,E.H[id]?=some o/\o.born=true/\∀v,o.aX=some v->aq<=v
def fo (r:List (Option (Option (Nat × Nat)))):List Nat:=r.filterMap fun x=>match x with
 |some (some (b,_))=>some b
 |_=>none
theorem Bc (r t:List (Option (Option (Nat × Nat)))):fo (r++t)=fo r++fo t:=List.filterMap_append
def ah.xM(E:ah)(id l j:Nat)(p:Nat->Prop):Prop:=(∃o,E.H[id]?=some o/\o.eS=some l)/\∃b,(fo (E.X.r l))[j]?=some b/\p b
def ah.O6(E:ah)(id l i:Nat)(c:ar):Prop:=(∃o,E.H[id]?=some o/\o.eS=some l)/\∃b,(fo (E.X.r l))[i]?=some b/\c=.map (some b)
def eW:ar->Bool
 |.agg _ | .tuple _=>false
 |_=>true
mutual
def AV.closed:AV->Bool
 |.undef | .lit _ | .nils | .list _ _ | .listF _ _ | .cptr _ | .ifc | .emptyS _=>true
 |.agg cs | .tuple cs | .clo _ cs=>AV.cd cs
 |.ptr .. | .vQ .. | .map _ | .sub .. | .svec .. | .sptr ..=>false
def AV.cd:List AV->Bool
 |[]=>true
 |a::as=>a.closed&&AV.cd as
end
theorem iR:∀(ks:List Kd) (g:List G),AV.cd (aY ks g)=true
 |[],_=>rfl
 |k::ks,g=>by
  simp only[aY,AV.cd,iR ks,jQ];cases k<;>rfl
mutual
def gJ(E:ah):Kd->G->ar->Prop
 |.int k,g,c=>c=.int k g.iV
 |.str,g,c=>c=.string g.sV
 |.bool,g,c=>c=.bool g.bV
 |.list ks,g,c=>∃aU cap,c=.slice aU g.rZ.length cap/\g.rZ.length<=cap /\
   (g.rZ=[]\/∃b o,aU=some ⟨b,o,none⟩/\E.mo b/\∀(i:Nat) (r:List G),g.rZ[i]?=some r->qB E ks r b (o+i*ks.length))
def qB(E:ah):List Kd->List G->Nat->Nat->Prop
 |[],_,_,_=>True
 |k::ks,g,b,o=>(∃v,E.w.cell? ⟨b,o,none⟩=some v/\eW v=true/\gJ E k (g.headD default) v)/\qB E ks g.tail b (o+1)
end
def gn(rZ:List (List AV)):Prop:=∀r∈rZ,AV.cd r=true
mutual
def ad(E:ah):AV->ar->Prop
 |.undef,_=>True
 |.lit v,c=>c=v
 |.nils,c=>∃aU,c=.slice aU 0 0
 |.list k rZ,c=>gn rZ/\∃aU cap,c=.slice aU rZ.length cap/\rZ.length<=cap /\
   (rZ=[]\/∃b o,aU=some ⟨b,o,none⟩/\E.mo b/\dI E k rZ b o)
 |.listF ks rZ,c=>gJ E (.list ks) (.l rZ) c
 |.agg cells,c=>∃cs:Array ar,c=.agg cs/\(∀x∈cs.toList,eW x=true)/\aw E cells cs.toList
 |.tuple h,c=>∃cs:Array ar,c=.tuple cs/\aw E h cs.toList
 |.cptr cells,c=>AV.cd cells=true/\∃b o,c=.pointer (some ⟨b,o,none⟩)/\E.mo b/\dz E cells b o
 |.ptr id aq k row d,c=>(∃b o,c=.pointer (some ⟨b,o,none⟩))/\E.bF id aq/\(E.live id aq->∃b n,E.ae[id]?=some (some (b,n)) /\
   c=.pointer (some ⟨b,row*k+d,none⟩))
 |.vQ k id aq oF n,c=>(∃aU cap,c=.slice aU n cap/\n<=cap/\(0<n->∃b o,aU=some ⟨b,o,none⟩))/\E.bF id aq/\(E.live id aq ->
   (E.ae[id]?=some none->n=0/\oF=0/\∃aU,c=.slice aU 0 0) /\
   (∀b m,E.ae[id]?=some (some (b,m))->oF+n<=m/\∃o,(oF<m->o=oF*k)/\c=.slice (some ⟨b,o,none⟩) n (m-oF)))
 |.map id,c=>(∃b,c=.map (some b))/\E.bF id 0/\(E.live id 0->∃b n,E.ae[id]?=some (some (b,n))/\c=.map (some b))
 |.clo f caps,c=>∃cs:Array ar,c=.func (.func f) #[] cs/\aw E caps cs.toList
 |.ifc,c=>∃t v,c=.iface t v
 |.emptyS n,c=>∃aU cap,c=.slice aU 0 cap/\aU.isNone=n
 |.sub id l j,c=>(j=none/\c=.map none)\/∃i,j=some i/\(∃b,c=.map (some b))/\E.bF id 0/\(E.live id 0->E.O6 id l i c)
 |.svec id l j n,c=>(∃aU cap,c=.slice aU n cap/\n<=cap/\(0<n->∃b o,aU=some ⟨b,o,none⟩))/\E.bF id 0/\(E.live id 0->E.xM id l j fun b=>∃m,n<=m/\c=.slice (some ⟨b,0,none⟩) n m)
 |.sptr id l j k row d,c=>(∃b o,c=.pointer (some ⟨b,o,none⟩))/\E.bF id 0/\(E.live id 0->E.xM id l j fun b=>c=.pointer (some ⟨b,row*k+d,none⟩))
def aw(E:ah):List AV->List ar->Prop
 |[],[]=>True
 |a::as,v::d=>ad E a v/\aw E as d
 |_,_=>False
def dz(E:ah):List AV->Nat->Nat->Prop
 |[],_,_=>True
 |a::as,b,o=>(∃v,E.w.cell? ⟨b,o,none⟩=some v/\eW v=true/\ad E a v)/\dz E as b (o+1)
def dI(E:ah)(k:Nat):List (List AV)->Nat->Nat->Prop
 |[],_,_=>True
 |r::rs,b,o=>r.length=k/\dz E r b o/\dI E k rs b (o+k)
end
theorem jh{E:ah}:∀{as:List AV} {d:List ar},aw E as d->as.length=d.length
 |[],[],_=>rfl
 |_::_,_::_,h=>by simp only[aw]at h; simp[jh h.2]
 |[],_::_,h=>by simp[aw]at h
 |_::_,[],h=>by simp[aw]at h
theorem rK{E:ah}:∀{as:List AV} {d:List ar},
  aw E as d↔as.length=d.length/\∀(i:Nat) a v,as[i]?=some a->d[i]?=some v->ad E a v
 |[],[]=>by simp[aw]
 |[],_::_=>by simp[aw]
 |_::_,[]=>by simp[aw]
 |a::as,v::d=>by
  simp only[aw,rK (as:=as),cz];constructor
  grind
  ·rintro⟨h1,h⟩
   exact⟨h 0 a v rfl rfl,ab,fun i x y k I=>h (i+1) x y (by simpa using k) (by simpa using I)⟩
theorem lL{E:ah}:∀{as:List AV} {b o:Nat},
  dz E as b o↔∀(i:Nat) a,as[i]?=some a->∃v,E.w.cell? ⟨b,o+i,none⟩=some v/\eW v=true/\ad E a v
 |[],b,o=>by simp[dz]
 |a::as,b,o=>by
  simp only[dz,lL (as:=as)];constructor
  grind
  ·intro h
   refine⟨h 0 a rfl,fun i x d=>?_⟩;have:=h (i+1) x (by simpa using d)
   grind
theorem pS{E:ah}{k:Nat}:∀{rs:List (List AV)} {b o:Nat},
  dI E k rs b o↔∀(i:Nat) r,rs[i]?=some r->r.length=k/\dz E r b (o+i*k)
 |[],b,o=>by simp[dI]
 |r::rs,b,o=>by
  simp only[dI,pS (rs:=rs)];constructor
  ·rintro⟨h0,h1,v⟩ i x d
   cases i<;>grind
  ·intro h
   have h0:=h 0 r rfl;refine⟨h0.1,by simpa using h0.2,fun i x d=>?_⟩;have:=h (i+1) x (by simpa using d)
   grind
def fl(w w':bh):Prop:=w'.os=w.os/\w'.output=w.output/\w'.tape=w.tape/\(Z2=true->w.drawn<=w'.drawn)
theorem fl.refl(w:bh):fl w w:=⟨rfl,rfl,rfl,by first|exact fun _=>aV _|exact fun _=>gI _ _⟩
theorem fl.trans{w w' d:bh}(h:fl w w')(h':fl w' d):fl w d:=⟨h'.1.trans h.1,h'.2.1.trans h.2.1,h'.2.2.1.trans h.2.2.1,fun t=>mU (h.2.2.2 t) (h'.2.2.2 t)⟩
structure ah.le (E E':ah):Prop where
 bF:∀id aq,E.bF id aq->E'.bF id aq
 size:E.w.heap.size<=E'.w.heap.size
 same:∀b,b<E.w.heap.size->¬ E.af b->E'.w.heap[b]?=E.w.heap[b]?
 af:∀b,b<E.w.heap.size->¬ E.af b->¬ E'.af b
 live:∀id aq,E.bF id aq->E'.live id aq->E.live id aq/\E'.ae[id]?=E.ae[id]?
 X:E'.X.x=E.X.x/\E'.X.z=E.X.z
 rl:∀l h,h<(E.X.r l).length->h<(E'.X.r l).length/\∀q,(E'.X.r l)[h]?=some (some q)->(E.X.r l)[h]?=some (some q)
 env:fl E.w E'.w
 grow:∀id l o,E.H[id]?=some o->o.eS=some l->E'.live id 0->(∃t,E'.X.r l=E.X.r l++t)/\∃o',E'.H[id]?=some o'/\o'.eS=some l
theorem ah.le.refl(E:ah):E.le E:=⟨fun _ _ h=>h,aV _,fun _ _ _=>rfl,fun _ _ h=>h,fun _ _ _ h=>⟨h,rfl⟩,⟨rfl,rfl⟩,fun _ _ h=>⟨h,fun _ hq=>hq⟩,⟨rfl,rfl,rfl,by first|exact fun _=>aV _|exact fun _=>gI _ _⟩,fun _ _ o h1 d _=>⟨⟨[],(dY _).symm⟩,o,h1,d⟩⟩
variable {E E':ah}
theorem ah.le.ok(h:E.le E')(b:Nat)(hb:E.mo b):E'.mo b:=
 ⟨fD hb.1 h.size,h.af b hb.1 hb.2.1,by rw[show E'.X.x=E.X.x from h.X.1]; exact hb.2.2⟩
theorem ah.le.trans{E E' I:ah}(h:E.le E')(h':E'.le I):E.le I where
 bF:=fun id aq d=>h'.bF id aq (h.bF id aq d)
 size:=mU h.size h'.size
 same:=fun b hb ho=>by rw[h'.same b (fD hb h.size) (h.af b hb ho),h.same b hb ho]
 af:=fun b hb ho=>h'.af b (fD hb h.size) (h.af b hb ho)
 live:=fun id aq M U=>by
  obtain⟨k,W⟩:=h'.live id aq (h.bF id aq M) U;obtain⟨b1,b2⟩:=h.live id aq M k
  grind
 X:=⟨by rw[h'.X.1,h.X.1],by rw[h'.X.2,h.X.2]⟩
 rl:=fun l i hi=>by
  obtain⟨k,W⟩:=h.rl l i hi;obtain⟨b1,b2⟩:=h'.rl l i k
  grind
 env:=h.env.trans h'.env
 grow:=fun id l o h1 N y=>by
  have d:E.bF id 0:=⟨o,h1,aj.JB N,fun v y=>fy _⟩
  obtain⟨O,_⟩:=h'.live id 0 (h.bF id 0 d) y;obtain⟨⟨t,ht⟩,o',g1,g2⟩:=h.grow id l o h1 N O;obtain⟨⟨t',ht'⟩,o'',g3,g4⟩:=h'.grow id l o' g1 g2 y
  grind
theorem World.xN{o:Nat}(h:w'.heap[b]?=w.heap[b]?):w'.cell? ⟨b,o,none⟩=w.cell? ⟨b,o,none⟩:=by
 simp[xy,h]
structure ah.ct (E E':ah):Prop where
 ok:∀b,E.mo b->E'.mo b/\E'.w.heap[b]?=E.w.heap[b]?
theorem ah.le.toC(h:E.le E'):E.ct E':=⟨fun b hb=>⟨h.ok b hb,h.same b hb.1 hb.2.1⟩⟩
mutual
theorem O7{E E':ah}(h:E.ct E'):∀(k:Kd) {g:G} {c:ar},gJ E k g c->gJ E' k g c
 |.int k,g,c,hr=>by simpa only[gJ]using hr
 |.str,g,c,hr=>by simpa only[gJ]using hr
 |.bool,g,c,hr=>by simpa only[gJ]using hr
 |.list ks,g,c,hr=>by
  simp only[gJ]at hr|-;obtain⟨aU,cap,M,I,y⟩:=hr;refine⟨aU,cap,M,I,?_⟩;rcases y with hn|⟨b,o,hb,d,v⟩
  grind
  ·exact .inr ⟨b,o,hb,(h.ok b d).1,fun i r hi=>O8 h ks (h.ok b d).2 (v i r hi)⟩
theorem O8{E E':ah}(h:E.ct E'):∀(ks:List Kd) {g:List G} {b o:Nat},E'.w.heap[b]? = E.w.heap[b]? -> qB E ks g b o->qB E' ks g b o
 |[],_,_,_,_,_=>by simp[qB]
 |k::ks,g,b,o,hb,hr=>by
  simp only[qB]at hr|-;obtain⟨⟨v,h1,d,y⟩,I⟩:=hr;exact⟨⟨v,by rw[World.xN hb]; exact h1,d,O7 h k y⟩,O8 h ks hb I⟩
end
mutual
theorem gk{E E':ah}(h:E.ct E'):∀(a:AV) {c:ar},a.closed=true->ad E a c->ad E' a c
 |.undef,_,_,_=>by simp[ad]
 |.lit v,c,_,hr=>by simpa only[ad]using hr
 |.nils,c,_,hr=>by simpa only[ad]using hr
 |.list k rZ,c,_,hr=>by
  simp only[ad]at hr|-;obtain⟨I,aU,cap,d,U,O⟩:=hr;refine⟨I,aU,cap,d,U,?_⟩;rcases O with rfl|⟨b,o,hb,M,N⟩
  grind
  ·exact .inr ⟨b,o,hb,(h.ok b M).1,mq h rZ I (h.ok b M).2 N⟩
 |.listF ks rZ,c,_,hr=>by
  simp only[ad]at hr|-;exact O7 h _ hr
 |.agg cells,c,d,hr=>by
  simp only[ad]at hr|-;obtain⟨cs,e,h1,y⟩:=hr;exact⟨cs,e,h1,td h cells (by simpa only[AV.closed]using d) y⟩
 |.tuple cells,c,d,hr=>by
  simp only[ad]at hr|-;obtain⟨cs,e,y⟩:=hr;exact⟨cs,e,td h cells (by simpa only[AV.closed]using d) y⟩
 |.cptr cells,c,d,hr=>by
  simp only[ad]at hr|-;obtain⟨I,b,o,e,M,y⟩:=hr;exact⟨I,b,o,e,(h.ok b M).1,xO h cells I (h.ok b M).2 y⟩
 |.ptr ..,_,d,_=>by simp[AV.closed]at d
 |.vQ ..,_,d,_=>by simp[AV.closed]at d
 |.map _,_,d,_=>by simp[AV.closed]at d
 |.sub ..,_,d,_=>by simp[AV.closed]at d
 |.svec ..,_,d,_=>by simp[AV.closed]at d
 |.sptr ..,_,d,_=>by simp[AV.closed]at d
 |.clo f caps,c,d,hr=>by
  simp only[ad]at hr|-;obtain⟨cs,e,y⟩:=hr;exact⟨cs,e,td h caps (by simpa only[AV.closed]using d) y⟩
 |.ifc,c,_,hr=>by simpa only[ad]using hr
 |.emptyS n,c,_,hr=>by simpa only[ad]using hr
theorem td{E E':ah}(h:E.ct E'):∀(as:List AV) {d:List ar},AV.cd as=true->aw E as d->aw E' as d
 |[],[],_,_=>by simp[aw]
 |[],_::_,_,hr=>by simp[aw]at hr
 |_::_,[],_,hr=>by simp[aw]at hr
 |a::as,v::d,k,hr=>by
  simp only[AV.cd,aO]at k;simp only[aw]at hr|-;exact⟨gk h a k.1 hr.1,td h as k.2 hr.2⟩
theorem xO{E E':ah}(h:E.ct E'):∀(as:List AV) {b o:Nat},AV.cd as=true->E'.w.heap[b]? = E.w.heap[b]? -> dz E as b o->dz E' as b o
 |[],_,_,_,_,_=>by simp[dz]
 |a::as,b,o,d,hb,hr=>by
  simp only[AV.cd,aO]at d;simp only[dz]at hr|-;obtain⟨⟨v,h1,k,y⟩,I⟩:=hr;exact⟨⟨v,by rw[World.xN hb]; exact h1,k,gk h a d.1 y⟩,xO h as d.2 hb I⟩
theorem mq{E E':ah}(h:E.ct E'){k:Nat}:∀(rs:List (List AV)) {b o:Nat},gn rs->E'.w.heap[b]? = E.w.heap[b]? -> dI E k rs b o->dI E' k rs b o
 |[],_,_,_,_,_=>by simp[dI]
 |r::rs,b,o,d,hb,hr=>by
  simp only[dI]at hr|-;exact⟨hr.1,xO h r (d r au) hb hr.2.1,mq h rs (fun x v=>d x (by simp[v])) hb hr.2.2⟩
end
theorem ah.O9(h:E.le E'){j:Nat}{p:Nat->Prop}(k:E.bF id 0)(hr:E.live id 0->E.xM id l j p)(d:E'.live id 0):E'.xM id l j p:=by
 obtain⟨v,_⟩:=h.live id 0 k d;obtain⟨⟨o,y,I⟩,b,N,M⟩:=hr v;obtain⟨⟨t,O⟩,ho⟩:=h.grow id l o y I d;refine⟨ho,b,?_,M⟩
 grind[Bc]
mutual
theorem bW{E E':ah}(h:E.le E'):∀(a:AV) {c:ar},ad E a c->ad E' a c
 |.undef,_,_=>by simp[ad]
 |.lit v,c,hr=>by simpa only[ad]using hr
 |.nils,c,hr=>by simpa only[ad]using hr
 |.list k rZ,c,hr=>gk h.toC _ (by simp[AV.closed]) hr
 |.listF ks rZ,c,hr=>gk h.toC _ (by simp[AV.closed]) hr
 |.agg cells,c,hr=>by
  simp only[ad]at hr|-;obtain⟨cs,e,h1,y⟩:=hr;exact⟨cs,e,h1,eX h cells y⟩
 |.tuple cells,c,hr=>by
  simp only[ad]at hr|-;obtain⟨cs,e,y⟩:=hr;exact⟨cs,e,eX h cells y⟩
 |.cptr cells,c,hr=>gk h.toC _ (by simp[AV.closed]) hr
 |.ptr id aq k row M,c,hr=>by
  simp only[ad]at hr|-;refine⟨hr.1,h.bF _ _ hr.2.1,fun d=>?_⟩;obtain⟨h1,y⟩:=h.live id aq hr.2.1 d
  grind
 |.vQ k id aq oF n,c,hr=>by
  simp only[ad]at hr|-;refine⟨hr.1,h.bF _ _ hr.2.1,fun d=>?_⟩;obtain⟨h1,y⟩:=h.live id aq hr.2.1 d
  grind
 |.map id,c,hr=>by
  simp only[ad]at hr|-;refine⟨hr.1,h.bF _ _ hr.2.1,fun d=>?_⟩;obtain⟨h1,y⟩:=h.live id 0 hr.2.1 d
  grind
 |.clo f caps,c,hr=>by
  simp only[ad]at hr|-;obtain⟨cs,e,y⟩:=hr;exact⟨cs,e,eX h caps y⟩
 |.ifc,c,hr=>by simpa only[ad]using hr
 |.emptyS n,c,hr=>by simpa only[ad]using hr
 |.sub id l j,c,hr=>by
  simp only[ad]at hr|-;rcases hr with hr|⟨i,h1,y,I,N⟩
  grind
  ·refine .inr ⟨i,h1,y,h.bF _ _ I,fun d=>?_⟩
   obtain⟨O,_⟩:=h.live id 0 I d;obtain⟨⟨o,U,W⟩,b,k3,k4⟩:=N O;obtain⟨⟨t,ht⟩,ho⟩:=h.grow id l o U W d;refine⟨ho,b,?_,k4⟩
   grind[Bc]
 |.svec id l j n,c,hr=>by
  simp only[ad]at hr|-;exact⟨hr.1,h.bF _ _ hr.2.1,fun d=>ah.O9 h hr.2.1 hr.2.2 d⟩
 |.sptr id l j k row M,c,hr=>by
  simp only[ad]at hr|-;exact⟨hr.1,h.bF _ _ hr.2.1,fun d=>ah.O9 h hr.2.1 hr.2.2 d⟩
theorem eX{E E':ah}(h:E.le E'):∀(as:List AV) {d:List ar},aw E as d->aw E' as d
 |[],[],_=>by simp[aw]
 |[],_::_,hr=>by simp[aw]at hr
 |_::_,[],hr=>by simp[aw]at hr
 |a::as,v::d,hr=>by
  simp only[aw]at hr|-;exact⟨bW h a hr.1,eX h as hr.2⟩
end
theorem Z3(k:Kd)(g:G)(c:ar):ad E (oN k g) c↔gJ E k g c:=by
 cases k<;>grind[oN,ad,gJ,G.rZ]
theorem O_{E:ah}:∀(ks:List Kd) (g:List G) (b o:Nat),dz E (aY ks g) b o↔qB E ks g b o
 |[],_,_,_=>by simp[aY,dz,qB]
 |k::ks,g,b,o=>by simp only[aY,dz,qB,O_ ks,Z3]
theorem lM{ks:List Kd}{rZ:List (List G)}:ad E (.listF ks rZ) c↔ad E (.list ks.length (rZ.map (aY ks))) c:=by
 simp only[ad,gJ,G.rZ,cP,List.map_eq_nil_iff]
 simp_all[gn,iR,pS,vw,O_]
def isRow(w:bh)(b n:Nat):Prop:=∃cs d,w.heap[b]?=some (.cells cs d (0,0))/\cs.size=n
def bX(E:ah):List (AV × AV × Nat)->List MapEntry->Prop
 |[],[]=>True
 |(k,v,n)::d,e::h=>ad E k e.key/\ad E v e.val/\e.born=n/\k.closed=true/\v.closed=true/\bX E d h
 |_,_=>False
def JE(w:bh)(B:aK)(s:ByteArray)(v:ar):Option (Nat × Nat)->Prop
 |none=>v=.slice none 0 0/\s.data.toList=[]
 |some (g,m)=>v=.slice (some ⟨g,0,none⟩) s.data.toList.length m/\∃cs fz,w.heap[g]?=some (.cells cs B fz)/\fz.2<=s.data.toList.length/\cs.size=m/\s.data.toList.length<=m/\m<=9223372036854775807 /\
   cs.toList.take s.data.toList.length=s.data.toList.map fun b=>Value.int .u8 (b.toNat:Int)
theorem JF{B:aK}{s:ByteArray}{v:ar}{q:Option (Nat × Nat)}(h:∀g m,q=some (g,m)->w'.heap[g]?=w.heap[g]?)(hr:JE w B s v q):JE w' B s v q:=by
 cases q with
 |none=>exact hr
 |some d=>
  obtain⟨g,m⟩:=d;obtain⟨h1,cs,fz,k,y⟩:=hr;exact⟨h1,cs,fz,by rw[h g m rfl]; exact k,y⟩
def ji:AV->AV × AV
 |.tuple [a,v]=>(a,v)
 |k=>(k,.undef)
def dX (d:List (AV × Option (List (List AV)) × Nat)):List (AV × AV × Nat):=d.map fun x=>((ji x.1).1,(ji x.1).2,x.2.2)
theorem JG (d:List (AV × Option (List (List AV)) × Nat)):(dX d).length=d.length:=by simp[dX]
def EE(E:ah)(l k:Nat)(rZ:List (List AV))(h:Nat)(v:ar):Prop:=
 (rZ=[]/\∃aU,v=.slice aU 0 0) \/
  ∃b m,(E.X.r l)[h]?=some (some (some (b,m)))/\v=.slice (some ⟨b,0,none⟩) rZ.length m/\isRow E.w b (m*k)/\rZ.length<=m/\gn rZ/\dI E k rZ b 0
def mr(E:ah)(l k:Nat) (d:List (AV × Option (List (List AV)) × Nat)) (v:List MapEntry):Prop:=
 ∃h:Nat->Nat,(∀(i j:Nat) x y,d[i]?=some x->d[j]?=some y->x.2.1.isSome=true->y.2.1.isSome=true->h i=h j->i=j) /\
  ∀(i:Nat) x rZ e,d[i]?=some x->x.2.1=some rZ->v[i]?=some e->EE E l k rZ (h i) e.val
theorem O'{rZ:List (List AV)}{v:ar} (I:∀ b m,(E.X.r l)[h]? = some (some (some (b,m)))->(E'.X.r l)[h]? = some (some (some (b,m)))/\E'.w.heap[b]? = E.w.heap[b]?)
  (M:∀b,E'.w.heap[b]?=E.w.heap[b]?->gn rZ->dI E k rZ b 0->dI E' k rZ b 0) (hr:EE E l k rZ h v):EE E' l k rZ h v:=by
 rcases hr with hr|⟨b,m,h1,N,⟨cs,O,U,W⟩,h5,d,h7⟩
 ·exact .inl hr
 ·obtain⟨g1,y⟩:=I b m h1
  exact .inr ⟨b,m,g1,N,⟨cs,O,by rw[y]; exact U,W⟩,h5,d,M b y d h7⟩
theorem Bd{d:List (AV × Option (List (List AV)) × Nat)}{y:List MapEntry} (N:∀(h b m:Nat),(E.X.r l)[h]? = some (some (some (b,m)))->(E'.X.r l)[h]? = some (some (some (b,m)))/\E'.w.heap[b]? = E.w.heap[b]?)
  (O:∀(i:Nat) x rZ,d[i]?=some x->x.2.1=some rZ->∀b,E'.w.heap[b]?=E.w.heap[b]?->gn rZ->dI E k rZ b 0->dI E' k rZ b 0) (hr:mr E l k d y):mr E' l k d y:=by
 obtain⟨I,h1,U⟩:=hr;exact⟨I,h1,fun i x rZ e M v he=>O' (N (I i)) (O i x rZ M v) (U i x rZ e M v he)⟩
theorem te{r:List (Option (Option (Nat × Nat)))}(h:b∈fo r):∃(i m:Nat),r[i]?=some (some (some (b,m))):=by
 unfold fo at h;obtain⟨x,d,hb⟩:=List.mem_filterMap.1 h;obtain⟨i,hi,e⟩:=List.getElem_of_mem d;split at hb
 ·rename_i k m
  cases hb;exact⟨i,m,by rw[cB hi,e]⟩
 ·cases hb
def jk(d:List (AV × Option Nat × Nat)):List (AV × AV × Nat):=d.map fun x=>(x.1,.undef,x.2.2)
theorem Pa(d:List (AV × Option Nat × Nat)):(jk d).length=d.length:=by simp[jk]
def EF(E:ah)(l:Nat)(k:List (AV × Option Nat × Nat)) (d:List (List (AV × AV × Nat) × Nat)) (h:List MapEntry):Prop:=
 (fo (E.X.r l)).length=d.length /\
  (∀(i:Nat) x e,k[i]?=some x->h[i]?=some e->(x.2.1=none/\e.val=.map none)\/∃j b,x.2.1=some j/\(fo (E.X.r l))[j]?=some b/\e.val=.map (some b)) /\
  ∀(j:Nat) m b,d[j]?=some m->(fo (E.X.r l))[j]?=some b->∃mm,E.w.heap[b]?=some (.map mm m.2)/\bX E m.1 mm.toList
theorem JH{v:List (AV × Option Nat × Nat)}{d:List (List (AV × AV × Nat) × Nat)}{k:List MapEntry}(hr:E'.X.r l=E.X.r l) (N:∀(h b m:Nat),(E.X.r l)[h]? = some (some (some (b,m)))->E'.w.heap[b]? = E.w.heap[b]?)
  (O:∀m∈d,∀q,bX E m.1 q->bX E' m.1 q) (h:EF E l v d k):EF E' l v d k:=by
 obtain⟨h1,y,I⟩:=h;refine⟨by rw[hr]; exact h1,fun i x e M he=>by rw[hr]; exact y i x e M he,fun j m b hm hb=>?_⟩;rw[hr]at hb;obtain⟨mm,U,W⟩:=I j m b hm hb;obtain⟨i,n,hi⟩:=te (gg hb)
 grind
def JI(E:ah)(l k n:Nat) (d:List (List (List AV))) (cs:List ar):Prop:=
 (fo (E.X.r l)).length=d.length/\d.length<=n/\n<=cs.length /\
  ∀(i:Nat) rZ b,d[i]?=some rZ->(fo (E.X.r l))[i]?=some b->∃m,cs[i]?=some (.slice (some ⟨b,0,none⟩) rZ.length m)/\isRow E.w b (m*k)/\rZ.length<=m/\gn rZ/\dI E k rZ b 0
theorem JJ{d:List (List (List AV))}{cs:List ar}(hr:E'.X.r l=E.X.r l) (y:∀(h b m:Nat),(E.X.r l)[h]? = some (some (some (b,m)))->E'.w.heap[b]? = E.w.heap[b]?)
  (I:∀rZ∈d,∀b,E'.w.heap[b]?=E.w.heap[b]?->gn rZ->dI E k rZ b 0->dI E' k rZ b 0) (h:JI E l k n d cs):JI E' l k n d cs:=by
 obtain⟨h1,M,N,O⟩:=h;refine⟨by rw[hr]; exact h1,M,N,fun i rZ b hi hb=>?_⟩;rw[hr]at hb;obtain⟨m,U,⟨c,W,q2,q3⟩,q4,v,q6⟩:=O i rZ b hi hb;obtain⟨j,n,hj⟩:=te (gg hb);have e:=y j b n hj;exact⟨m,U,⟨c,W,by rw[e]; exact q2,q3⟩,q4,v,I rZ (gg hi) b e v q6⟩
def gV (d:List (AV × (Option (List (List AV)) × Option (List (List AV))) × Nat)):List (AV × AV × Nat):=d.map fun x=>(x.1,.undef,x.2.2)
theorem Z4 (d:List (AV × (Option (List (List AV)) × Option (List (List AV))) × Nat)):(gV d).length=d.length:=by simp[gV]
def iS(s:Bool) (x:AV × (Option (List (List AV)) × Option (List (List AV))) × Nat):AV × Option (List (List AV)) × Nat:=(x.1,(bif s then x.2.1.2 else x.2.1.1),x.2.2)
def tf(s:Bool):ar->ar
 |.agg cs=>(cs[bif s then 1 else 0]?).getD default
 |v=>v
def qC(E:ah)(l k:Nat) (d:List (AV × (Option (List (List AV)) × Option (List (List AV))) × Nat)) (v:List MapEntry):Prop:=
 (∀e∈v,∃a b,e.val=.agg #[a,b]/\eW a=true/\eW b=true) /\
 ∃h:Bool->Nat->Nat,(∀s s' (i j:Nat) x y,d[i]?=some x->d[j]?=some y->(iS s x).2.1.isSome=true->(iS s' y).2.1.isSome=true->h s i=h s' j->s=s'/\i=j) /\
  ∀s (i:Nat) x rZ e,d[i]?=some x->(iS s x).2.1=some rZ->v[i]?=some e->EE E l k rZ (h s i) (tf s e.val)
theorem EG{d:List (AV × (Option (List (List AV)) × Option (List (List AV))) × Nat)}{y:List MapEntry} (O:∀(h b m:Nat),(E.X.r l)[h]? = some (some (some (b,m)))->(E'.X.r l)[h]? = some (some (some (b,m)))/\E'.w.heap[b]? = E.w.heap[b]?)
  (U:∀s (i:Nat) x rZ,d[i]?=some x->(iS s x).2.1=some rZ->∀b,E'.w.heap[b]?=E.w.heap[b]?->gn rZ->dI E k rZ b 0->dI E' k rZ b 0) (hr:qC E l k d y):qC E' l k d y:=by
 obtain⟨N,I,h1,W⟩:=hr;exact⟨N,I,h1,fun s i x rZ e M v he=>O' (O (I s i)) (U s i x rZ M v) (W s i x rZ e M v he)⟩
def a6(E:ah)(id:Nat):aj->Prop
 |.dead=>E.ae[id]?=some none
 |.eV=>E.ae[id]?=some none
 |.box cells=>∃b n,E.ae[id]?=some (some (b,n))/\isRow E.w b cells.length/\dz E cells b 0
 |.vQ k _ rZ=>(E.ae[id]?=some none/\rZ=[]) \/
   ∃b m,E.ae[id]?=some (some (b,m))/\isRow E.w b (m*k)/\rZ.length<=m/\gn rZ/\dI E k rZ b 0
 |.map y I=>∃b n d,E.ae[id]?=some (some (b,n))/\E.w.heap[b]?=some (.map d I)/\bX E y d.toList
 |.iter s pos=>∃b n,E.ae[id]?=some (some (b,n))/\E.w.heap[b]?=some (.stringIter s pos)
 |.ij l T B s=>∃ (b n:Nat) (p v:ar) (h:Nat) (q:Option (Nat × Nat)),E.ae[id]?=some (some (b,n))/\E.w.heap[b]?=some (.cells #[p,v] T (0,0))/\(p=.pointer none\/p=.pointer (some ⟨b,0,none⟩))/\(E.X.r l)[h]?=some (some q) /\
   (∀(h':Nat) N,(E.X.r l)[h']?=some (some N)->h'=h)/\JE E.w B s v q
 |.ba l k y I=>∃b n d,E.ae[id]?=some (some (b,n))/\E.w.heap[b]?=some (.map d I)/\bX E (dX y) d.toList/\mr E l k y d.toList
 |.mm l y d I=>∃b n M,E.ae[id]?=some (some (b,n))/\E.w.heap[b]?=some (.map M I)/\bX E (jk y) M.toList/\EF E l y d M.toList
 |.cZ l k n d=>∃b m cs O,E.ae[id]?=some (some (b,m))/\E.w.heap[b]?=some (.cells cs O (0,0))/\JI E l k n d cs.toList
 |.bU l k y I=>∃b n d,E.ae[id]?=some (some (b,n))/\E.w.heap[b]?=some (.map d I)/\bX E (gV y) d.toList/\qC E l k y d.toList
def vz(E:ah):Prop:=∀p∈Bb,E.mo p.1/\∃t f,E.w.heap[p.1]?=some (.cells p.2 t f)
theorem vz.ct{E E':ah}(H:vz E)(h:E.ct E'):vz E':=fun p d=>by
 obtain⟨h1,t,f,k⟩:=H p d;exact⟨(h.ok _ h1).1,t,f,by rw[(h.ok _ h1).2]; exact k⟩
structure aJ (E:ah):Prop where
 len:E.ae.length=E.H.length
 inj:∀(i j b m n:Nat),E.ae[i]?=some (some (b,m))->E.ae[j]?=some (some (b,n))->i=j
 lt:∀(i b m:Nat),E.ae[i]?=some (some (b,m))->b<E.w.heap.size/\¬ E.X b
 X:∀b,E.X b->b<E.w.heap.size
 obj:∀(i:Nat) o,E.H[i]?=some o->a6 E i o
 iT:vz E
 gK:∀(l h l' h' b m n:Nat),(E.X.r l)[h]?=some (some (some (b,m)))->(E.X.r l')[h']?=some (some (some (b,n)))->l=l'/\h=h'
 d_:∀(i b m l h n:Nat),E.ae[i]?=some (some (b,m))->(E.X.r l)[h]?≠some (some (some (b,n)))
 dp:∀(l h b m:Nat),(E.X.r l)[h]?=some (some (some (b,m)))->b<E.w.heap.size/\¬ E.X b
 uniq:∀(i j:Nat) o o' (l:Nat),E.H[i]?=some o->E.H[j]?=some o'->o.label=some l->o'.label=some l->i=j
 jS:∀(l:Nat),(∀(i:Nat) o,E.H[i]?=some o->o.label≠some l)->∀(h:Nat) q,(E.X.r l)[h]?≠some (some q)
theorem aJ.rL(H:aJ E)(d:E.X b):¬ E.af b:=by
 rintro(⟨i,c,hi⟩|⟨l,h,m,hi⟩)
 ·exact(H.lt i b c hi).2 d
 ·exact(H.dp l h b m hi).2 d
theorem aJ.EH(H:aJ E)(ho:E.af b):b<E.w.heap.size/\¬ E.X b:=by
 rcases ho with⟨i,c,hi⟩|⟨l,h,m,hi⟩
 ·exact H.lt i b c hi
 ·exact H.dp l h b m hi
structure Ext (w w':bh):Prop where
 size:w.heap.size<=w'.heap.size
 same:∀b,b<w.heap.size->w'.heap[b]?=w.heap[b]?
 env:fl w w'
theorem Ext.refl(w:bh):Ext w w:=⟨aV _,fun _ _=>rfl,⟨rfl,rfl,rfl,by first|exact fun _=>aV _|exact fun _=>gI _ _⟩⟩
theorem Ext.trans{w w' d:bh}(h:Ext w w')(h':Ext w' d):Ext w d:=
 ⟨mU h.size h'.size,fun b hb=>by rw[h'.same b (fD hb h.size),h.same b hb],h.env.trans h'.env⟩
theorem Ext.push(w:bh)(o:Obj):Ext w { w with heap:=w.heap.push o }:=
 ⟨au,fun b hb=>by simp[Array.getElem?_push,Nat.ne_of_lt hb],⟨rfl,rfl,rfl,by first|exact fun _=>aV _|exact fun _=>gI _ _⟩⟩
theorem Ext.drawn(w:bh)(n:Nat)(h:w.drawn<=n:=by exact Nat.le_succ _):Ext w { w with drawn:=n }:=⟨aV _,fun _ _=>rfl,⟨rfl,rfl,rfl,fun _=>h⟩⟩
theorem ah.lN(h:Ext E.w w'):E.le { E with w:=w' } where
 bF:=fun _ _ h=>h
 size:=h.size
 same:=fun b hb _=>h.same b hb
 af:=fun _ _ ho=>ho
 live:=fun _ _ _ d=>⟨d,rfl⟩
 X:=⟨rfl,rfl⟩
 rl:=fun _ _ h=>⟨h,fun _ hq=>hq⟩
 env:=h.env
 grow:=fun _ _ o h1 k _=>⟨⟨[],(dY _).symm⟩,o,h1,k⟩
theorem xP(h:w'.heap[b]?=w.heap[b]?)(hr:isRow w b n):isRow w' b n:=by
 unfold isRow at *; rw[h]; exact hr
theorem EI(d:∀ a c,ad E a c->ad E' a c)(hb:E'.w.heap[b]? = E.w.heap[b]?){o:Nat}
  (h:dz E as b o):dz E' as b o:=by
 rw[lL]at *;intro i a hi;obtain⟨v,h1,k,y⟩:=h i a hi;exact⟨v,by rw[World.xN hb]; exact h1,k,d _ _ y⟩
theorem iE(d:∀ a c,ad E a c->ad E' a c)(hb:E'.w.heap[b]? = E.w.heap[b]?){rs:List (List AV)}{o:Nat}
  (h:dI E k rs b o):dI E' k rs b o:=by
 rw[pS]at *;intro i r hi;exact⟨(h i r hi).1,EI d hb (h i r hi).2⟩
theorem iF{E E':ah}(d:∀ a c,ad E a c->ad E' a c):∀{y:List (AV × AV × Nat)} {I:List MapEntry},bX E y I->bX E' y I
 |[],[],_=>by simp[bX]
 |[],_::_,h=>by simp[bX]at h
 |(_,_,_)::_,[],h=>by simp[bX]at h
 |(k,v,n)::y,e::I,h=>by
  simp only[bX]at h|-;exact⟨d _ _ h.1,d _ _ h.2.1,h.2.2.1,h.2.2.2.1,h.2.2.2.2.1,iF d h.2.2.2.2.2⟩
theorem oO(hv:∀ a c,ad E a c->ad E' a c)(hl:E'.ae[i]? = E.ae[i]?)
  (hb:∀b n,E.ae[i]?=some (some (b,n))->E'.w.heap[b]?=E.w.heap[b]?)
  (O:∀l,o.label=some l->E'.X.r l=E.X.r l/\∀(h g m:Nat),(E.X.r l)[h]?=some (some (some (g,m)))->E'.w.heap[g]?=E.w.heap[g]?) (h:a6 E i o):a6 E' i o:=by
 cases o with
 |dead=>grind[a6]
 |eV=>grind[a6]
 |box cells=>
  grind[a6,xP,EI]
 |vQ k aq rZ=>
  grind[a6,xP,iE]
 |map es clock=>
  grind[a6,iF]
 |iter s pos=>
  grind[a6]
 |ij l T B s=>
  simp only[a6]at *;obtain⟨b,n,p,v,k,q,h1,y,I,M,h5,h6⟩:=h;obtain⟨d,N⟩:=O l rfl;exact⟨b,n,p,v,k,q,by rw[hl,h1],by rw[hb b n h1,y],I,by rw[d,M],by rw[d]; exact h5,JF (fun g m e=>N k g m (by rw[M,e])) h6⟩
 |ba l k es clock=>
  simp only[a6]at *;obtain⟨b,n,U,h1,y,I,M⟩:=h;obtain⟨d,N⟩:=O l rfl;exact⟨b,n,U,by rw[hl,h1],by rw[hb b n h1,y],iF hv I,Bd (fun h g m W=>⟨by rw[d]; exact W,N h g m W⟩) (fun _ _ _ _ _ b hb2 _ hr=>iE hv hb2 hr) M⟩
 |mm l es U clock=>
  simp only[a6]at *;obtain⟨b,n,mes,h1,y,I,M⟩:=h;obtain⟨d,N⟩:=O l rfl
  grind[iF,JH]
 |cZ l k n U=>
  simp only[a6]at *;obtain⟨b,m,cs,el,h1,y,I⟩:=h;obtain⟨d,N⟩:=O l rfl
  grind[JJ,iE]
 |bU l k es clock=>
  simp only[a6]at *;obtain⟨b,n,U,h1,y,I,M⟩:=h;obtain⟨d,N⟩:=O l rfl;exact⟨b,n,U,by rw[hl,h1],by rw[hb b n h1,y],iF hv I,EG (fun h g m W=>⟨by rw[d]; exact W,N h g m W⟩) (fun _ _ _ _ _ _ b hb2 _ hr=>iE hv hb2 hr) M⟩
theorem aJ.ext(H:aJ E)(h:Ext E.w w'):aJ { E with w:=w' } where
 len:=H.len
 inj:=H.inj
 lt:=fun i b m hi=>⟨fD (H.lt i b m hi).1 h.size,(H.lt i b m hi).2⟩
 X:=fun b hb=>fD (H.X b hb) h.size
 obj:=fun i o hi=>oO (fun a _ hr=>bW (ah.lN h) a hr) rfl (fun b n hb=>h.same b (H.lt i b n hb).1) (fun l _=>⟨rfl,fun k g m d=>h.same g (H.dp l k g m d).1⟩) (H.obj i o hi)
 iT:=H.iT.ct (ah.lN h).toC
 gK:=H.gK
 d_:=H.d_
 dp:=fun l k b m d=>⟨fD (H.dp l k b m d).1 h.size,(H.dp l k b m d).2⟩
 uniq:=H.uniq
 jS:=H.jS
def ah.push(E:ah)(w':bh)(o:aj)(l:Option (Nat × Nat)):ah:={ w:=w',H:=E.H++[o],ae:=E.ae++[l],X:=E.X }
theorem bl{l:List α}{x:α}(h:l[i]?=some x):i<l.length:=by
 rcases nU i l.length with h'|h'
 ·exact h'
 ·rw[List.getElem?_eq_none h']at h; cases h
theorem asR(l:List α)(x:α)(i:Nat)(h:i<l.length):(l++[x])[i]?=l[i]?:=by
 rw[fT h]
theorem ah.nW{l:Option (Nat × Nat)}(M:E.ae.length=E.H.length)(h:Ext E.w w')
  (hb:∀b n,l=some (b,n)->E.w.heap.size<=b):E.le (E.push w' o l) where
 bF:=fun id aq v=>by
  obtain⟨x,h1,d⟩:=v;exact⟨x,by simp only[ah.push]; rw[fT (bl h1)]; exact h1,d⟩
 size:=h.size
 same:=fun b hb _=>h.same b hb
 af:=fun b I ho=>by
  rintro(⟨id,c,k⟩|y)
  case inr=>exact ho (.inr y)
  simp only[ah.push]at k;by_cases hi:id<E.ae.length
  ·rw[fT hi]at k
   exact ho (.inl ⟨id,c,k⟩)
  grind
 live:=fun id aq v=>by
  obtain⟨x,h1,d⟩:=v
  simp_all[bl,ah.live,ah.push,fT]
 X:=⟨rfl,rfl⟩
 grow:=fun id l o h1 d _=>⟨⟨[],(dY _).symm⟩,o,by simp only[ah.push]; rw[fT (bl h1)]; exact h1,d⟩
 rl:=fun _ _ h=>⟨h,fun _ hq=>hq⟩
 env:=h.env
theorem aJ.push{E:ah}{w':bh}{o:aj}{l:Option (Nat × Nat)}(H:aJ E)(h:Ext E.w w')
  (hb:∀b n,l=some (b,n)->E.w.heap.size<=b/\b<w'.heap.size) (ho:a6 (E.push w' o l) E.H.length o) (hlab:o.label=none:=by first|rfl|assumption):aJ (E.push w' o l) where
 gK:=H.gK
 dp:=fun l k b m d=>⟨fD (H.dp l k b m d).1 h.size,(H.dp l k b m d).2⟩
 d_:=by
  intro i b m l' k n hi d;simp only[ah.push,jR]at hi;split at hi
  ·exact H.d_ i b m l' k n hi d
  ·rename_i h1
   cases hz:i-E.ae.length with
   |zero=>
    rw[hz]at hi;simp at hi;have I:=hb b m hi;have O:=(H.dp l' k b n d).1;omega
   |succ n=>grind
 uniq:=by
  have key:∀(i:Nat) o1 l1,(E.push w' o l).H[i]?=some o1->o1.label=some l1->E.H[i]?=some o1:=by
   intro i o1 l1 hi hl1;simp only[ah.push,jR]at hi;split at hi
   ·exact hi
   grind
  exact fun i j o1 o2 l1 hi v h1 M=>H.uniq i j o1 o2 l1 (key i o1 l1 hi h1) (key j o2 l1 v M) h1 M
 jS:=fun l1 hn=>H.jS l1 fun i o1 hi=>hn i o1 (by
  simp only[ah.push];rw[fT (bl hi)];exact hi)
 iT:=H.iT.ct (ah.nW H.len h (fun b n e=>(hb b n e).1)).toC
 len:=by simp[ah.push,H.len]
 inj:=by
  intro i j b m n hi v;simp only[ah.push,jR]at hi v;split at hi<;>split at v
  ·exact H.inj i j b m n hi v
  ·rename_i h1 M
   cases d:j-E.ae.length with
   |zero=>
    rw[d]at v;simp at v;have I:=hb b n v;have O:=(H.lt i b m hi).1;omega
   |succ n=>grind
  ·rename_i h1 M
   cases d:i-E.ae.length with
   |zero=>
    rw[d]at hi;simp at hi;have I:=hb b m hi;have O:=(H.lt j b n v).1;omega
   |succ n=>grind
  grind
 lt:=by
  intro i b m hi;simp only[ah.push,jR]at hi|-;split at hi
  ·exact⟨fD (H.lt i b m hi).1 h.size,(H.lt i b m hi).2⟩
  ·cases d:i - E.ae.length with
   |zero=>
    rw[d]at hi;simp at hi;have I:=hb b m hi;exact⟨I.2,fun hx=>by have:=H.X b hx; omega⟩
   |succ n=>grind
 X:=fun b y=>fD (H.X b y) h.size
 obj:=by
  intro i o' hi;have U:E.le (E.push w' o l):=ah.nW H.len h (fun b n y=>(hb b n y).1);by_cases N:i<E.H.length
  ·simp only[ah.push]at hi
   rw[fT N]at hi;refine oO (fun a _ hr=>bW U a hr) ?_ ?_ ?_ (H.obj i o' hi)
   ·simp only[ah.push]
    rw[fT (by rw[H.len]; exact N)]
   ·intro b n y
    exact h.same b (H.lt i b n y).1
   ·exact fun l1 _=>⟨rfl,fun k g m d=>h.same g (H.dp l1 k g m d).1⟩
  ·have W:=hi
   simp only[ah.push]at W
   grind
theorem ah.ng{l:Option (Nat × Nat)}(d:E.H[id]? = some o)
  (hlen:E.ae.length=E.H.length) (O:E.w.heap.size<=w'.heap.size)
  (U:∀x,x<E.w.heap.size->(∀n,E.ae[id]?≠some (some (x,n)))->w'.heap[x]?=E.w.heap[x]?)
  (hl:∀b n,l=some (b,n)->E.w.heap.size<=b\/∃m,E.ae[id]?=some (some (b,m)))
  (hver:(∀v,o'.aX=some v->o.aX=some v/\E.ae[id]?=some l)\/(∀v,o'.aX=some v->∀u,o.aX=some u->u<v))
  (hup:∀v u,o'.aX=some v->o.aX=some u->u<=v) (hdead:o.born=true->o.aX=none->o'.aX=none) (henv:fl E.w w':=by first|exact⟨rfl,rfl,rfl,by first|exact fun _=>aV _|exact fun _=>gI _ _⟩|assumption|exact Ext.env (by assumption))
  (hmm:o.eS=none\/o'.eS=o.eS\/o'.aX=none:=by first|exact .inl rfl|exact .inr (.inl rfl)|exact .inr (.inr rfl)|exact .inl (aj.EC (by assumption))|assumption)
  (W:o.born=true->o'.born=true:=by first|exact fun _=>rfl|exact fun h=>h|assumption) :
  E.le { w:=w',H:=E.H.set id o',ae:=E.ae.set id l,X:=E.X } where
 grow:=fun i l1 x h1 k I=>by
  by_cases e:i=id
  ·subst e
   rw[d]at h1;cases h1;rcases hmm with h|h|h
   grind
   simp_all[bl]
   ·obtain⟨y,M,h4⟩:=I
    grind
  simp_all[Ne.symm]
 bF:=fun i aq N=>by
  obtain⟨x,h1,k⟩:=N;by_cases e:i=id
  ·subst e
   rw[d]at h1;cases h1;refine⟨o',by simp only[]; rw[cG (bl d)],W k.1,fun v I=>?_⟩;cases hu:o.aX with
   |none=>grind
   |some u=>grind
  ·exact⟨x,by simp only[]; rw[bL (Ne.symm e)]; exact h1,k⟩
 size:=O
 same:=fun x hx ho=>U x hx (fun n hn=>ho (.inl ⟨id,n,hn⟩))
 af:=fun b hlt ho=>by
  rintro(⟨i,c,hi⟩|hs)
  case inr=>exact ho (.inr hs)
  simp only[gh]at hi;split at hi
  ·split at hi
   ·simp at hi
    rcases hl b c hi with h|⟨m,hm⟩
    ·omega
    ·exact ho (.inl ⟨id,m,hm⟩)
   ·cases hi
  ·exact ho (.inl ⟨i,c,hi⟩)
 live:=fun i aq N hl'=>by
  obtain⟨x,h1,k⟩:=hl';by_cases e:i=id
  ·subst e
   simp only[]at h1;rw[cG (bl d)]at h1;cases h1;rcases hver with I|I
   ·obtain⟨a1,a2⟩:=I aq k
    refine⟨⟨o,d,a1⟩,?_⟩
    grind
   ·obtain⟨y,M,h4⟩:=N
    rw[d]at M;cases M;cases hu:o.aX with
    |none=>grind
    |some u=>grind
  ·simp only[]at h1 |-
   rw[bL (Ne.symm e)]at h1;rw[bL (Ne.symm e)];exact⟨⟨x,h1,k⟩,rfl⟩
 X:=⟨rfl,rfl⟩
 rl:=fun _ _ h=>⟨h,fun _ hq=>hq⟩
 env:=henv
theorem aJ.oP{l:Option (Nat × Nat)}(H:aJ E)(hid:E.H[id]? = some o)
  (M:E.w.heap.size<=w'.heap.size)
  (O:∀x,x<E.w.heap.size->(∀n,E.ae[id]?≠some (some (x,n)))->w'.heap[x]?=E.w.heap[x]?)
  (N:∀b n,l=some (b,n)->(E.w.heap.size<=b/\b<w'.heap.size)\/∃m,E.ae[id]?=some (some (b,m)))
  (hver:(∀v,o'.aX=some v->o.aX=some v/\E.ae[id]?=some l)\/(∀v,o'.aX=some v->∀u,o.aX=some u->u<v))
  (hup:∀v u,o'.aX=some v->o.aX=some u->u<=v) (W:o.born=true->o.aX=none->o'.aX=none)
  (ho:a6 { w:=w',H:=E.H.set id o',ae:=E.ae.set id l,X:=E.X } id o') (henv:fl E.w w':=by first|exact⟨rfl,rfl,rfl,by first|exact fun _=>aV _|exact fun _=>gI _ _⟩|assumption|exact Ext.env (by assumption))
  (hlab:o.label=none:=by first|rfl|assumption) (hlab':o'.label=none:=by first|rfl|assumption)
  (hborn:o.born=true->o'.born=true:=by first|exact fun _=>rfl|exact fun h=>h|assumption) :
  aJ { w:=w',H:=E.H.set id o',ae:=E.ae.set id l,X:=E.X } where
 gK:=H.gK
 dp:=fun l k b m y=>⟨fD (H.dp l k b m y).1 M,(H.dp l k b m y).2⟩
 d_:=by
  intro i b m l' k n hi y;simp only[gh]at hi;split at hi
  ·split at hi
   ·simp at hi
    rcases N b m hi with h|⟨m',I⟩
    ·have:=(H.dp l' k b n y).1; omega
    ·exact H.d_ _ _ _ _ _ _ I y
   ·cases hi
  ·exact H.d_ _ _ _ _ _ _ hi y
 uniq:=by
  have key:∀(i:Nat) o1 l1,(E.H.set id o')[i]?=some o1->o1.label=some l1->E.H[i]?=some o1:=by
   intro i o1 l1 hi hl1;rw[gh]at hi;split at hi
   grind
   ·exact hi
  exact fun i j o1 o2 l1 hi d h1 h2=>H.uniq i j o1 o2 l1 (key i o1 l1 hi h1) (key j o2 l1 d h2) h1 h2
 jS:=fun l1 hn=>H.jS l1 fun i o1 hi=>by
  by_cases e:i=id
  grind
  ·exact hn i o1 (by show (E.H.set id o')[i]?=_; rw[bL (Ne.symm e)]; exact hi)
 iT:=H.iT.ct (ah.ng hid H.len M O (fun b n hb=>(N b n hb).imp (fun h=>h.1) (fun h=>h)) hver hup W henv).toC
 len:=by simp[H.len]
 inj:=by
  intro i j b m n hi d;simp only[gh]at hi d;split at hi
  ·rename_i e1
   split at d;omega
   ·split at hi
    ·simp at hi
     rcases N b m hi with h|⟨m',I⟩
     ·have:=(H.lt j b n d).1; omega
     ·rw[<-e1]; exact H.inj _ _ _ _ _ I d
    ·cases hi
  ·split at d
   ·rename_i e2
    split at d
    ·simp at d
     rcases N b n d with h|⟨m',I⟩
     ·have:=(H.lt i b m hi).1; omega
     ·rw[<-e2]; exact H.inj _ _ _ _ _ hi I
    ·cases d
   ·exact H.inj i j b m n hi d
 lt:=by
  intro i b m hi;simp only[gh]at hi;split at hi
  ·split at hi
   ·simp at hi
    rcases N b m hi with h|⟨m',I⟩
    ·exact⟨h.2,fun hx=>by have:=H.X b hx; omega⟩
    ·exact⟨fD (H.lt _ _ _ I).1 M,(H.lt _ _ _ I).2⟩
   ·cases hi
  ·exact⟨fD (H.lt i b m hi).1 M,(H.lt i b m hi).2⟩
 X:=fun b hb=>fD (H.X b hb) M
 obj:=by
  intro i x hi;by_cases e:i=id
  grind
  ·have U:=hi
   simp only[]at U;rw[bL (Ne.symm e)]at U;have hle:E.le { w:=w',H:=E.H.set id o',ae:=E.ae.set id l,X:=E.X }:=
    ah.ng hid H.len M O (fun b n hb=>(N b n hb).imp (fun h=>h.1) (fun h=>h)) hver hup W henv
   refine oO (fun a _ hr=>bW hle a hr) ?_ ?_ ?_ (H.obj i x U)
   grind
   ·intro b n hb
    exact O b (H.lt i b n hb).1 (fun m hm=>e (H.inj i id b n m hb hm))
   ·exact fun l1 _=>⟨rfl,fun k g m y=>O g (H.dp l1 k g m y).1 (fun n hn=>H.d_ id g n l1 k m hn y)⟩
theorem aJ.xQ{r':Nat->List (Option (Option (Nat × Nat)))}(H:aJ E)(U:E.H[id]? = some o)(hlab:o.label=some d)(hlab':o'.label=some d)(hver:o'.aX = o.aX)
  (W:E.w.heap.size<=w'.heap.size)
  (hsame:∀x,x<E.w.heap.size->(∀n,E.ae[id]?≠some (some (x,n)))->(∀(h m:Nat),(E.X.r d)[h]?≠some (some (some (x,m))))->w'.heap[x]?=E.w.heap[x]?)
  (hr:∀l,l≠d->r' l=E.X.r l)
  (hnew:∀(h b m:Nat),(r' d)[h]?=some (some (some (b,m)))->(E.X.r d)[h]?=some (some (some (b,m)))\/(E.w.heap.size<=b/\b<w'.heap.size/\∀(h' m':Nat),(r' d)[h']?=some (some (some (b,m')))->h'=h))
  (hrl:∀(h:Nat),h<(E.X.r d).length->h<(r' d).length/\∀q,(r' d)[h]?=some (some q)->(E.X.r d)[h]?=some (some q))
  (ho:E.le { w:=w',H:=E.H.set id o',ae:=E.ae,X:=E.X.re r' }->a6 { w:=w',H:=E.H.set id o',ae:=E.ae,X:=E.X.re r' } id o') (henv:fl E.w w') (hmm:o.eS=none\/(o'.eS=o.eS/\∃t,r' d=E.X.r d++t):=by first|exact .inl rfl|assumption) :
  aJ { w:=w',H:=E.H.set id o',ae:=E.ae,X:=E.X.re r' }/\E.le { w:=w',H:=E.H.set id o',ae:=E.ae,X:=E.X.re r' }:=by
 have hlt:=bl U;have O:∀(l h b m:Nat),(r' l)[h]?=some (some (some (b,m)))->(E.X.r l)[h]?=some (some (some (b,m)))\/(l=d/\E.w.heap.size<=b/\b<w'.heap.size/\∀(h' m':Nat),(r' d)[h']?=some (some (some (b,m')))->h'=h):=fun l h b m I=>by
  by_cases e:l=d
  ·subst e
   rcases hnew h b m I with h1|⟨h1,k,h3⟩
   ·exact .inl h1
   ·exact .inr ⟨rfl,h1,k,h3⟩
  ·rw[hr l e]at I
   exact .inl I
 have hle:E.le { w:=w',H:=E.H.set id o',ae:=E.ae,X:=E.X.re r' }:=by
  refine⟨fun i aq hp=>?_,W,fun x hx hx'=>hsame x hx (fun n hn=>hx' (.inl ⟨id,n,hn⟩)) fun h m hm=>hx' (.inr ⟨d,h,m,hm⟩),fun b hb hno=>?_,fun i aq hp N=>?_,⟨rfl,rfl⟩,fun l h hh=>?_,henv,fun i l x h1 k hv=>?_⟩
  rotate_right
  ·by_cases e:i=id
   simp_all[aj.pR]
   ·have e2:l≠d:=fun e2=>e (H.uniq i id x o l h1 U (aj.pR k) (by rw[e2]; exact hlab))
    simp_all[Ne.symm]
  ·obtain⟨x,h1,k⟩:=hp
   by_cases e:i=id
   ·subst e
    rw[U]at h1;cases h1;exact⟨o',by simp only[]; rw[cG hlt],aj.EB hlab',fun v hv=>k.2 v (by rw[<-hver]; exact hv)⟩
   ·exact⟨x,by simp only[]; rw[bL (Ne.symm e)]; exact h1,k⟩
  ·rintro (⟨i,c,hi⟩ | ⟨l,h,m,hm⟩)
   ·exact hno (.inl ⟨i,c,hi⟩)
   ·rcases O l h b m hm with h1 | ⟨_,h1,_⟩
    ·exact hno (.inr ⟨l,h,m,h1⟩)
    ·omega
  ·obtain⟨x,h1,k⟩:=N
   refine⟨?_,rfl⟩;simp only[]at h1;by_cases e:i=id
   ·subst e
    rw[cG hlt]at h1;cases h1;exact⟨o,U,by rw[<-hver]; exact k⟩
   ·rw[bL (Ne.symm e)]at h1
    exact⟨x,h1,k⟩
  ·by_cases e:l=d
   ·subst e
    exact hrl h hh
   simp_all
 refine⟨⟨by simp[H.len],H.inj,fun i b m hi=>⟨fD (H.lt i b m hi).1 W,(H.lt i b m hi).2⟩,fun b hb=>fD (H.X b hb) W,fun i x hi=>?_,H.iT.ct hle.toC,fun l h l' h' b m n h1 k=>?_,fun i b m l h n hi I=>?_,fun l h b m I=>?_,fun i j x y l hi hj h1 k=>?_,fun l hn h q hq=>?_⟩,hle⟩
 ·by_cases e:i=id
  grind
  ·simp only[]at hi
   rw[bL (Ne.symm e)]at hi;refine oO (fun a _ hr=>bW hle a hr) rfl (fun b n hb=>hsame b (H.lt i b n hb).1 (fun m hm=>e (H.inj i id b n m hb hm)) fun h m hm=>H.d_ i b n d h m hb hm) (fun l N=>?_) (H.obj i x hi);have hne:l≠d:=fun e2=>e (H.uniq i id x o l hi U N (by rw[hlab,e2]));exact⟨hr l hne,fun h g m I=>hsame g (H.dp l h g m I).1 (fun n hn=>H.d_ id g n l h m hn I) fun h' m' hk'=>hne (H.gK l h d h' g m m' I hk').1⟩
 ·rcases O l h b m h1 with M | ⟨rfl,M,g2,g3⟩<;>rcases O l' h' b n k with k1 | ⟨rfl,k1,k2,k3⟩
  ·exact H.gK _ _ _ _ _ _ _ M k1
  ·have:=(H.dp _ _ _ _ M).1; omega
  ·have:=(H.dp _ _ _ _ k1).1; omega
  ·exact⟨rfl,(g3 h' n k).symm⟩
 ·rcases O l h b n I with M | ⟨rfl,M,g2,g3⟩
  ·exact H.d_ _ _ _ _ _ _ hi M
  ·have:=(H.lt i b m hi).1; omega
 ·rcases O l h b m I with M | ⟨rfl,M,g2,g3⟩
  ·exact⟨fD (H.dp _ _ _ _ M).1 W,(H.dp _ _ _ _ M).2⟩
  ·exact⟨g2,fun hx=>by have:=H.X b hx; omega⟩
 ·have key:∀ (i:Nat) x,(E.H.set id o')[i]?=some x->x.label=some l->∃y,E.H[i]?=some y/\y.label=some l:=by
   intro i x hi N;by_cases e:i=id
   grind
   grind
  obtain⟨x',a1,a2⟩:=key i x hi h1;obtain⟨y',b1,b2⟩:=key j y hj k;exact H.uniq i j x' y' l a1 b1 a2 b2
 ·have hne:l≠d:=fun e=>hn id o' (by show (E.H.set id o')[id]?=_; rw[cG hlt]) (by rw[hlab',e])
  have hq:(r' l)[h]?=some (some q):=hq;rw[hr l hne]at hq;refine H.jS l (fun i x hi N=>?_) h q hq;by_cases e:i=id
  grind
  ·exact hn i x (by show (E.H.set id o')[i]?=_; rw[bL (Ne.symm e)]; exact hi) N
def lO (r:Nat->List (Option (Option (Nat × Nat)))) (d:Nat):Nat->List (Option (Option (Nat × Nat))):=fun l=>if l=d then r l++[some none] else r l
theorem JK{r:Nat->List (Option (Option (Nat × Nat)))}{q:Option (Option (Nat × Nat))}(hq:(lO r d l)[h]?=some q):(r l)[h]?=some q\/(l=d/\h=(r l).length/\q=some none):=by
 unfold lO at hq
 grind
theorem Z5{r:Nat->List (Option (Option (Nat × Nat)))}(k:h<(r l).length):(lO r d l)[h]?=(r l)[h]?:=by
 unfold lO;split
 ·exact fT k
 ·rfl
theorem aJ.Z6{l:Option (Nat × Nat)}{l0:Nat}(H:aJ E)(h:Ext E.w w')(hb:∀ b n,l=some (b,n)->E.w.heap.size<=b/\b<w'.heap.size)(hlab:o.label=some l0)(hno:∀(i:Nat) x,E.H[i]? = some x->x.label≠some l0)
  (ho:a6 { w:=w',H:=E.H++[o],ae:=E.ae++[l],X:=E.X.re (lO E.X.r l0) } E.H.length o) :
  aJ { w:=w',H:=E.H++[o],ae:=E.ae++[l],X:=E.X.re (lO E.X.r l0) }/\E.le { w:=w',H:=E.H++[o],ae:=E.ae++[l],X:=E.X.re (lO E.X.r l0) }:=by
 have W:∀(i:Nat) x,(E.H++[o])[i]?=some x->E.H[i]?=some x\/(i=E.H.length/\x=o):=fun i x hi=>by
  rw[jR]at hi;split at hi
  ·exact .inl hi
  ·right
   cases d:i-E.H.length with
   |zero=>rw[d]at hi; simp at hi; exact⟨ab,hi.symm⟩
   |succ n=>rw[d]at hi; simp at hi
 have O:∀(i:Nat) x,(E.ae++[l])[i]?=some x->E.ae[i]?=some x\/(i=E.ae.length/\x=l):=fun i x hi=>by
  rw[jR]at hi;split at hi
  ·exact .inl hi
  ·right
   cases d:i-E.ae.length with
   |zero=>rw[d]at hi; simp at hi; exact⟨ab,hi.symm⟩
   |succ n=>rw[d]at hi; simp at hi
 have M:∀(x k b m:Nat),(lO E.X.r l0 x)[k]?=some (some (some (b,m)))->(E.X.r x)[k]?=some (some (some (b,m))):=fun x k b m d=>by
  rcases JK d with h1|⟨_,_,h1⟩
  ·exact h1
  ·cases h1
 have hle:E.le { w:=w',H:=E.H++[o],ae:=E.ae++[l],X:=E.X.re (lO E.X.r l0) }:=by
  refine⟨fun i aq hp=>?_,h.size,fun b U _=>h.same b U,fun b hlt hno'=>?_,fun i aq hp hl=>?_,⟨rfl,rfl⟩,fun x k d=>?_,h.env,fun i l x h1 v hv=>⟨⟨[],?_⟩,x,by simp only[]; rw[fT (bl h1)]; exact h1,v⟩⟩
  rotate_right
  ·have e:l≠l0:=fun e=>hno i x h1 (by rw[<- e]; exact aj.pR v)
   rw[dY];exact iN e
  ·obtain⟨x,h1,v⟩:=hp
   exact⟨x,by simp only[]; rw[fT (bl h1)]; exact h1,v⟩
  ·rintro (⟨i,c,hi⟩ | ⟨x,k,m,d⟩)
   ·rcases O i _ hi with h1 | ⟨_,h1⟩
    ·exact hno' (.inl ⟨i,c,h1⟩)
    grind
   ·exact hno' (.inr ⟨x,k,m,M x k b m d⟩)
  ·obtain⟨x,h1,v⟩:=hp
   have hid:=bl h1;obtain⟨y,I,h4⟩:=hl;simp only[]at I;rw[fT hid]at I;exact⟨⟨y,I,h4⟩,by simp only[]; rw[fT (by rw[H.len]; exact hid)]⟩
  ·have hk':k<(lO E.X.r l0 x).length:=by
    unfold lO;split
    grind
    ·exact d
   refine⟨hk',fun q hq=>?_⟩;have hq:(lO E.X.r l0 x)[k]?=some (some q):=hq
   grind[Z5]
 refine⟨⟨by simp[H.len],fun i j b m n hi hj=>?_,fun i b m hi=>?_,fun b U=>fD (H.X b U) h.size,fun i x hi=>?_,H.iT.ct hle.toC,fun x k x' k' b m n h1 v=>H.gK _ _ _ _ _ _ _ (M _ _ _ _ h1) (M _ _ _ _ v),fun i b m x k n hi d=>?_,fun x k b m d=>?_,fun i j x y l1 hi hj h1 v=>?_,fun l1 hn k q hq=>?_⟩,hle⟩
 ·rcases O i _ hi with h1 | ⟨h1,v⟩<;>rcases O j _ hj with I | ⟨I,h4⟩
  ·exact H.inj _ _ _ _ _ h1 I
  ·have:=hb b n h4.symm; have:=(H.lt _ _ _ h1).1; omega
  ·have:=hb b m v.symm; have:=(H.lt _ _ _ I).1; omega
  ·omega
 ·rcases O i _ hi with h1 | ⟨h1,v⟩
  ·exact⟨fD (H.lt _ _ _ h1).1 h.size,(H.lt _ _ _ h1).2⟩
  ·have I:=hb b m v.symm
   exact⟨I.2,fun hx=>by have:=H.X b hx; omega⟩
 ·rcases W i x hi with h1 | ⟨h1,v⟩
  ·refine oO (fun a _ hr=>bW hle a hr) (by simp only[]; rw[fT (by rw[H.len]; exact bl h1)]) (fun b n U=>h.same b (H.lt i b n U).1) (fun l1 hl1=>?_) (H.obj i x h1)
   have hne:l1≠l0:=fun e=>hno i x h1 (by rw[hl1,e]);exact⟨iN hne,fun k g m d=>h.same g (H.dp _ _ _ _ d).1⟩
  grind
 ·rcases O i _ hi with h1 | ⟨h1,v⟩
  ·exact H.d_ _ _ _ _ _ _ h1 (M _ _ _ _ d)
  ·have:=hb b m v.symm; have:=(H.dp _ _ _ _ (M _ _ _ _ d)).1; omega
 ·have h1:=M _ _ _ _ d
  exact⟨fD (H.dp _ _ _ _ h1).1 h.size,(H.dp _ _ _ _ h1).2⟩
 ·rcases W i x hi with N | ⟨N,rfl⟩<;>rcases W j y hj with g3 | ⟨g3,rfl⟩
  ·exact H.uniq i j x y l1 N g3 h1 v
  grind
  grind
  ·omega
 ·rcases JK (show (lO E.X.r l0 l1)[k]?=some (some q) from hq) with N | ⟨N,_⟩
  ·exact H.jS l1 (fun i x hi hl=>hn i x (by simp only[]; rw[fT (bl hi)]; exact hi) hl) k q N
  ·exact hn E.H.length o au (by rw[hlab,N])
theorem ah.Be(H:aJ E)(id:Nat):E.le { w:=E.w,H:=E.H.set id .dead,ae:=E.ae.set id none,X:=E.X }:=by
 rcases nU id E.H.length with h|h
 ·exact ah.ng (o:=E.H[id]) (by simp[h]) H.len (aV _) (fun _ _ _=>rfl) (fun _ _ h=>by cases h) (.inl (fun v h=>by simp[aj.aX]at h))
   (fun v u h=>by simp[aj.aX]at h) (fun _ _=>rfl)
 ·rw[OD h,OD (by rw[H.len]; exact h)]
  simp_all[ah.le.refl]
theorem aJ.drop(H:aJ E)(id:Nat)(hlab:∀o,E.H[id]?=some o->o.label=none):aJ { w:=E.w,H:=E.H.set id .dead,ae:=E.ae.set id none,X:=E.X }:=by
 rcases nU id E.H.length with h|h
 ·refine aJ.oP (o:=E.H[id]) H (by simp [h]) (aV _) (fun _ _ _=>rfl) (fun _ _ h=>by cases h) (.inl (fun v h=>by simp [aj.aX] at h))
   (fun v u h=>by simp[aj.aX]at h) (fun _ _=>rfl) ?_ (hlab:=hlab _ (by simp[h]))
  simp only[a6];rw[cG (by rw[H.len]; exact h)]
 ·rw[OD h,OD (by rw[H.len]; exact h)]
  exact H
structure FK where
 oF:Nat
 size:Nat
 agg:Bool
def tg:TypeDesc->Bool
 |.struct _ | .array _ _=>true
 |_=>false
def gL(P:ak)(t:aK):Option (Nat × Bool):=
 match P.info? t,P.underlying t with
 |some i,some d=>some (i.size,tg d)
 |_,_=>none
def xR(P:ak)(t:aK)(f:Nat):Option FK:=
 match P.underlying t with
 |some (.struct h)=>match h[f]? with
  |some d=>match gL P d.type with
   |some (n,a)=>some ⟨d.offset,n,a⟩
   |none=>none
  |none=>none
 |_=>none
def gC(P:ak)(t:aK):Option (List ar):=
 match P.info? t with
 |some i=>match i.zero with
  |some z=>if z.cells.toList.all eW then some z.cells.toList else none
  |none=>none
 |none=>none
inductive SK where
 |slice (elem size bytes:Nat)
 |array (n elem size:Nat) (agg:Bool)
 |str
 |int (k:IntKind)
 |bool
 |other
def dO(P:ak)(t:aK):SK:=
 match P.underlying t with
 |some (.slice e)=>match P.info? e with
  |some i=>.slice e i.size i.bytes
  |none=>.other
 |some (.array n e)=>match gL P e with
  |some (m,a)=>.array n e m a
  |none=>.other
 |some .string=>.str
 |some (.int k)=>.int k
 |some .bool=>.bool
 |_=>.other
def AV.xS:ar->AV
 |.agg cs=>if cs.toList.all eW then .agg (cs.toList.map .lit) else .lit (.agg cs)
 |.tuple cs=>.tuple (cs.toList.map .lit)
 |v=>.lit v
abbrev AV.int(n:Int):AV:=.lit (.int .i64 n)
abbrev AV.bool(b:Bool):AV:=.lit (.bool b)
abbrev AV.str(s:ByteArray):AV:=.lit (.string s)
theorem th{E:ah}:∀(l:List ar),aw E (l.map .lit) l
 |[]=>by simp[aw]
 |v::l=>by simp[aw,ad,th l]
theorem Pb(E:ah)(v:ar):ad E (AV.xS v) v:=by
 unfold AV.xS
 grind[ad,th]
structure St where
 fr:List AV
 H:List aj
def St.eval(s:St):cM->AV
 |.tmp t=>s.fr.getD t .undef
 |.const v=>AV.xS v
 |.global g=>.lit (.pointer (some ⟨g,0,none⟩))
 |.func f=>.clo f []
def nh(w:bh)(X:XS)(l:List Deferred):Prop:=l.Nodup/\∀d∈l,∃D,d={ target:=.collected D,args:=#[] }/\w.heap[D]?=some (.deferred (some []))/\X D/\X.z D
theorem tn(w:bh)(X:XS):nh w X []:=⟨List.nodup_nil,fun _ h=>by cases h⟩
theorem EJ{X X':XS}{l:List Deferred}(h:nh w X l)(hX:∀b,X b->X.z b->X' b/\X'.z b)(y:∀b,X b->X.z b->w'.heap[b]?=w.heap[b]?):nh w' X' l:=
 ⟨h.1,fun d I=>let ⟨D,e,h1,k,v⟩:=h.2 d I; ⟨D,e,by rw[y D k v]; exact h1,hX D k v⟩⟩
theorem Bf(HE:aJ E)(h:E.le E'){l:List Deferred}(hm:nh E.w E.X l):nh E'.w E'.X l:=
 EJ hm (fun b h1 d=>⟨by rw[show E'.X.x=E.X.x from h.X.1]; exact h1,by rw[show E'.X.z=E.X.z from h.X.2]; exact d⟩) fun b hb _=>h.same b (HE.X b hb) (HE.rL hb)
structure cQ (s:St) (E:ah) (a:Act):Prop where
 H:E.H=s.H
 fr:aw E s.fr a.tmps.toList
 defers:nh E.w E.X a.defers
 heap:aJ E
theorem cQ.eval{s:St}{E:ah}{a:Act}(h:cQ s E a)(x:cM):ad E (s.eval x) (a.eval x):=by
 cases x with
 |tmp t=>
  simp only[St.eval,Ja];obtain⟨h1,y⟩:=rK.1 h.fr;rcases nU t s.fr.length with d|N
  ·have k:t<a.tmps.toList.length:=h1 ▸ d
   have I:s.fr[t]?=some s.fr[t]:=by simp[d]
   have M:a.tmps.toList[t]?=some a.tmps.toList[t]:=cB k;have:=y t _ _ I M;simpa[dc,Array.getD_eq_getD_getElem?,d,show t<a.tmps.size by omega]using this
  grind[ad]
 |const v=>exact Pb E v
 |global g=>simp[St.eval,Ja,ad]
 |func f=>grind[St.eval,Ja,ad,aw]
def kJ(agg:Bool)(n:Nat)(cells:List AV):Option AV:=
 if agg then (if n<=cells.length then some (.agg (cells.take n)) else none) else cells[0]?
def lP(k:SK)(x i:AV):Option AV:=
 match i with
 |.lit (.int _ n)=>
  match k,x with
  |.slice _ sz _,.list w rZ=>if w=sz/\0<=n/\n<rZ.length then (rZ[n.toNat]?).map .cptr else none
  |.slice _ sz _,.listF ks rZ=>if ks.length=sz/\0<=n/\n<rZ.length then some (.cptr (aY ks (rZ.getD n.toNat []))) else none
  |.slice _ sz _,.vQ w id aq oF m=>if w=sz/\0<=n/\n<m then some (.ptr id aq w (oF+n.toNat) 0) else none
  |.slice _ sz _,.svec id l j m=>if 0<=n/\n<m then some (.sptr id l j sz n.toNat 0) else none
  |.array m _ sz _,.ptr id aq w row d=>if 0<=n/\n<m then some (.ptr id aq w row (d+n.toNat*sz)) else none
  |.array m _ sz _,.cptr cells=>if 0<=n/\n<m then some (.cptr ((cells.drop (n.toNat*sz)).take sz)) else none
  |_,_=>none
 |_=>none
def JL(k:FK)(x:AV):Option AV:=
 if k.size=0 then none else
 match x with
 |.cptr cells=>some (.cptr (cells.drop k.oF))
 |.ptr id aq w row d=>some (.ptr id aq w row (d+k.oF))
 |_=>none
def Pc(k:IntKind)(a b:Int):Int:=k.wrap (Ee k.bits a &&& Ee k.bits b).toNat
def Pd(k:IntKind)(a b:Int):Int:=k.wrap (Ee k.bits a ||| Ee k.bits b).toNat
def Pe(k:IntKind)(a b:Int):Int:=k.wrap (Ee k.bits a ^^^ Ee k.bits b).toNat
def JM(k:IntKind)(a b:Int):Int:=k.wrap (a*2 ^ min b.toNat k.bits)
def nZ(k:IntKind)(a b:Int):Int:=a.fdiv (2 ^ min b.toNat k.bits)
def tq(op:BinOp)(k:IntKind)(a b:Int):Option ar:=
 match op with
 |.and=>some (.int k (Pc k a b))
 |.or=>some (.int k (Pd k a b))
 |.xor=>some (.int k (Pe k a b))
 |.add=>some (.int k (k.wrap (a+b)))
 |.sub=>some (.int k (k.wrap (a-b)))
 |.mul=>some (.int k (k.wrap (a*b)))
 |.quo=>if b=0 then none else some (.int k (k.wrap (a.tdiv b)))
 |.rem=>if b=0 then none else some (.int k (a.tmod b))
 |.eql=>some (.bool (a==b))
 |.neq=>some (.bool (a != b))
 |.lss=>some (.bool (a<b))
 |.leq=>some (.bool (a<=b))
 |.gtr=>some (.bool (a>b))
 |.geq=>some (.bool (a≥b))
 |_=>none
def JN(op:BinOp)(x y:ByteArray):Option ar:=
 match op with
 |.add=>if ((x.size+y.size:Nat):Int)>IntKind.i64.max then none else some (.string (x++y))
 |.eql=>some (.bool (x.toList==y.toList))
 |.neq=>some (.bool !(x.toList==y.toList))
 |.lss=>some (.bool (mV x.toList y.toList))
 |.leq=>some (.bool (mV x.toList y.toList||x.toList==y.toList))
 |.gtr=>some (.bool !(mV x.toList y.toList||x.toList==y.toList))
 |.geq=>some (.bool !(mV x.toList y.toList))
 |_=>none
def nk(op:BinOp):ar->ar->Option ar
 |.int k a,.int d b=>match op with
  |.shl=>if b<0 then none else some (.int k (JM k a b))
  |.shr=>if b<0 then none else some (.int k (nZ k a b))
  |op=>if k=d then tq op k a b else none
 |.string a,.string b=>JN op a b
 |_,_=>none
def EK:AV->Option Nat
 |.lit (.string s)=>some s.size
 |.lit (.slice none 0 0)=>some 0
 |.nils=>some 0
 |.emptyS _=>some 0
 |.list _ rZ=>some rZ.length
 |.listF _ rZ=>some rZ.length
 |.vQ _ _ _ _ n=>some n
 |_=>none
theorem Sem.bT{d:TypeDesc}(h:P.underlying t=some d)(w:bh):
  (underlying t).run P w=.ok d w:=by simp[underlying,h]
theorem Sem.run_sizeOf{i:TypeInfo}(h:P.info? t=some i)(w:bh):(sizeOf t).run P w=.ok i.size w:=by
 simp[sizeOf,typeInfo,h]
theorem Sem.rM{d:TypeDesc}(h:P.underlying t=some d)(w:bh):(isAgg t).run P w=.ok (tg d) w:=by
 simp[isAgg,Sem.bT h];cases d<;>rfl
theorem nl{a:Bool}(h:gL P t=some (n,a)):∃i d,P.info? t=some i/\P.underlying t=some d/\i.size=n/\tg d=a:=by
 unfold gL at h;split at h
 ·rename_i i d h1 k
  simp at h;exact⟨i,d,h1,k,h.1,h.2⟩
 ·cases h
theorem Pf{k:FK}(h:xR P t f=some k):
  ∃v d,P.underlying t=some (.struct v)/\v[f]?=some d/\d.offset=k.oF/\gL P d.type=some (k.size,k.agg):=by
 unfold xR at h;split at h
 ·rename_i v h1
  split at h
  ·rename_i d y
   split at h
   ·rename_i n a I
    simp at h;subst h;exact⟨v,d,h1,y,rfl,I⟩
   ·cases h
  ·cases h
 ·cases h
theorem Z7(op:BinOp)(t:aK)(x y:ar)(v:ar)(h:nk op x y=some v)(w:bh):(binOp op t x y).run P w=.ok v w:=by
 unfold nk at h;split at h
 ·rename_i k a O b
  split at h
  ·split at h
   ·cases h
   ·rename_i hb
    cases h;simp only[binOp,Op.shift,iN hb,JM];rfl
  ·split at h
   ·cases h
   ·rename_i hb
    cases h;simp only[binOp,Op.shift,iN hb,nZ];rfl
  ·rename_i d I
   split at h
   ·rename_i M
    subst M;cases op<;>first|exact absurd rfl d|exact absurd rfl I|skip
    all_goals simp[tq]at h
    all_goals simp[binOp,Op.intArith,Op.intDiv,Op.intCmp,Op.intBits]
    all_goals first
     |exact h
     |(obtain⟨h1,N⟩:=h; simp[h1,N])
   ·cases h
 ·rename_i a b
  cases op<;>simp only[JN]at h<;>(try split at h)<;>simp at h<;>simp only[binOp,Op.stringOp]<;>simp_all
 ·cases h
theorem Z8(op:BinOp)(t:aK)(x y:cM)(a b:ar)(h:∀ v,nk op a b≠some v->True)(d:(nk op a b).isSome=true)(w:bh):
  (eqGuard op t x y a b).run P w=.ok () w:=by
 unfold nk at d;split at d<;>simp_all[eqGuard]
theorem Z9(h:EK x=some n)(hr:ad E x c):
  (∃s,c=.string s/\s.size=n)\/∃aU cap,c=.slice aU n cap:=by
 unfold EK at h;split at h
 grind[ad]
 grind[ad]
 grind[ad]
 grind[ad]
 grind[ad]
 ·simp only[ad,gJ]at hr; obtain⟨b,cap,rfl,_⟩:=hr; simp at h; subst h; exact .inr ⟨_,_,rfl⟩
 grind[ad]
 ·cases h
open Go
theorem n_(b o n:Nat):(Addr.mk b o none).add n=⟨b,o+n,none⟩:=by
 unfold Addr.add;split
 ·rename_i h; simp[h]
 ·rfl
theorem Z_{o:Nat}(h:dz E as b o)(hi:as[i]? = some a):
  ∃v,E.w.cell? ⟨b,o+i,none⟩=some v/\eW v=true/\ad E a v:=lL.1 h i a hi
theorem vD{o:Nat}(h:dz E as b o)(n:Nat):dz E (as.drop n) b (o+n):=by
 rw[lL]at *;intro i a hi;rw[AY]at hi;obtain⟨v,h1,d,k⟩:=h (n+i) a hi;exact⟨v,by rw[arU]; exact h1,d,k⟩
theorem EL{o:Nat}(h:dz E as b o)(n:Nat):dz E (as.take n) b o:=by
 rw[lL]at *;intro i a hi;rw[sR]at hi;split at hi
 ·exact h i a hi
 ·cases hi
theorem xT:∀(as:List AV) (n:Nat),AV.cd as=true->AV.cd (as.drop n)=true
 |[],n,_=>by simp[AV.cd]
 |a::as,0,h=>by simpa using h
 |a::as,n+1,h=>by
  simp only[AV.cd,aO]at h;simpa using xT as n h.2
theorem Bg:∀(as:List AV) (n:Nat),AV.cd as=true->AV.cd (as.take n)=true
 |[],n,_=>by simp[AV.cd]
 |a::as,0,_=>by simp[AV.cd]
 |a::as,n+1,h=>by
  simp only[AV.cd,aO]at h;simp only[Zo,AV.cd,aO];exact⟨h.1,Bg as n h.2⟩
theorem Bh{E:ah}:∀{as:List AV} {b o:Nat},dz E as b o ->
  ∃d:List ar,aw E as d/\(∀x∈d,eW x=true)/\∀j v,d[j]?=some v->E.w.cell? ⟨b,o+j,none⟩=some v
 |[],b,o,_=>⟨[],by simp[aw]⟩
 |a::as,b,o,h=>by
  simp only[dz]at h;obtain⟨⟨v,h1,M,k⟩,y⟩:=h;obtain⟨d,I,N,O⟩:=Bh y;refine⟨v::d,by simp only[aw]; exact⟨k,I⟩,?_,?_⟩<;>grind
theorem Bi{o:Nat}(I:gL P t=some (n,agg))
  (h:kJ agg n cells=some v) (hr:dz E cells b o):∃c,(loadVar t ⟨b,o,none⟩).run P E.w=.ok c E.w/\ad E v c:=by
 obtain⟨i,d,hi,M,N,ha⟩:=nl I;unfold kJ at h;cases agg with
 |true=>
  simp only[if_true]at h;split at h
  ·rename_i y
   cases h;obtain⟨k,O,g2,U⟩:=Bh (EL hr n);have W:k.length=n:=by rw[<-jh O]; simp[y]
   refine⟨.agg k.toArray,?_,?_⟩
   ·simp only[loadVar,dN,Sem.rM M,dZ,ha,if_true,Sem.run_sizeOf hi,N]
    rw[<-W,run_loadCells_list (w:=E.w) ⟨b,o,none⟩ k (fun j v hj=>by rw[n_]; exact U j v hj)];rfl
   grind[ad]
  ·cases h
 |false=>
  simp only[rA,if_false]at h;obtain⟨x,h1,_,h3⟩:=Z_ hr h
  simp_all[loadVar,Sem.rM]
def nm(P:ak)(t:aK)(x:AV)(H:List aj):Option AV:=
 match gL P t with
 |some (n,agg)=>
  match x with
  |.cptr cells=>kJ agg n cells
  |.ptr id aq w row d=>match H[id]? with
   |some (.box cells)=>if aq=0/\row=0 then kJ agg n (cells.drop d) else none
   |some (.vQ k v rZ)=>if aq=v/\k=w then (match rZ[row]? with|some r=>kJ agg n (r.drop d)|none=>none) else none
   |some (.cZ l _ _ h)=>if aq=0/\w=1/\d=0 then (match h[row]? with|some rZ=>kJ agg n [.svec id l row rZ.length]|none=>none) else none
   |_=>none
  |.sptr id l j w row d=>match H[id]? with
   |some (.cZ l' k _ h)=>if l=l'/\k=w then (match h[j]? with|some rZ=>(match rZ[row]? with|some r=>kJ agg n (r.drop d)|none=>none)|none=>none) else none
   |_=>none
  |_=>none
 |none=>none
theorem oQ{rs:List (List AV)}{o:Nat}(h:dI E k rs b o){r:List AV}(hi:rs[i]? = some r):
  r.length=k/\dz E r b (o+i*k):=pS.1 h i r hi
theorem Pg(HE:aJ E)(d:nm P t x E.H=some v)(hr:ad E x c):
  ∃u,(AZ t c).run P E.w=.ok u E.w/\ad E v u:=by
 unfold nm at d;split at d
 case h_2=>cases d
 rename_i n agg ht;split at d
 grind[ad,Bi,AZ,oG]
 ·rename_i id aq w row U
  simp only[ad]at hr;split at d
  ·rename_i cells h
   split at d
   ·rename_i I
    obtain⟨rfl,rfl⟩:=I;obtain⟨b,m,O,rfl⟩:=hr.2.2 ⟨_,h,rfl⟩;obtain⟨b',m',y,_,M⟩:=HE.obj id _ h;rw[O]at y;cases y;have:=vD M U;simp only[dj]at this
    grind[Bi,AZ,oG]
   ·cases d
  ·rename_i k v' rZ h
   split at d
   ·rename_i I
    obtain⟨rfl,rfl⟩:=I;split at d
    ·rename_i r N
     obtain⟨b,m,O,rfl⟩:=hr.2.2 ⟨_,h,rfl⟩;rcases HE.obj id _ h with⟨y,M⟩|⟨b',m',y,_,_,_,M⟩
     grind
     ·rw[O]at y
      cases y;have:=vD (oQ M N).2 U;simp only[dj]at this
      grind[Bi,AZ,oG]
    ·cases d
   ·cases d
  ·rename_i l k m ms h
   split at d
   ·rename_i I
    obtain⟨rfl,rfl,rfl⟩:=I;split at d
    ·rename_i rZ N
     obtain⟨b,m,O,rfl⟩:=hr.2.2 ⟨_,h,rfl⟩;have ho:=HE.obj id _ h;simp only[a6]at ho;obtain⟨b',m',cs,el,y,M,e4,_,_,e7⟩:=ho;rw[O]at y;cases y;have hlt:row<(fo (E.X.r l)).length:=by rw[e4]; grind
     obtain⟨W,q1,⟨cur,el2,q2,q3⟩,q4,_,_⟩:=e7 row rZ _ N (cB hlt);have hc:dz E [.svec id l row rZ.length] b (row*1+0):=by
      simp only[dz,and_true];refine⟨.slice (some ⟨(fo (E.X.r l))[row],0,none⟩) rZ.length W,?_,rfl,?_⟩
      grind[xy]
      ·simp only[ad]
       exact⟨⟨_,W,rfl,q4,fun _=>⟨_,_,rfl⟩⟩,⟨_,h,rfl,fun v _=>fy v⟩,fun _=>⟨⟨_,h,rfl⟩,_,cB hlt,W,q4,rfl⟩⟩
     grind[Bi,AZ,oG]
    ·cases d
   ·cases d
  ·cases d
 ·rename_i id l j w row U
  simp only[ad]at hr;split at d
  ·rename_i l' k m ms h
   split at d
   ·rename_i I
    obtain⟨rfl,rfl⟩:=I;split at d
    ·rename_i rZ hj
     split at d
     ·rename_i r N
      obtain⟨_,b,g1,rfl⟩:=hr.2.2 ⟨_,h,rfl⟩;have ho:=HE.obj id _ h;simp only[a6]at ho;obtain⟨b',m',cs,el,y,M,e4,_,_,e7⟩:=ho;obtain⟨W,_,_,_,_,q6⟩:=e7 j rZ b hj g1;have:=vD (oQ q6 N).2 U;simp only[dj]at this
      grind[Bi,AZ,oG]
     ·cases d
    ·cases d
   ·cases d
  ·cases d
 ·cases d
theorem Z'{k:FK}(y:xR P t f=some k)
  (h:JL k x=some v) (hr:ad E x c):∃u,(Zp t c f).run P E.w=.ok u E.w/\ad E v u:=by
 obtain⟨fs,I,h1,h2,h3,M⟩:=Pf y;obtain⟨i,d,hi,hd,hs,ha⟩:=nl M;unfold JL at h;split at h
 ·cases h
 rename_i O;have N:∀b o w,(fieldPlace ⟨b,o,none⟩ I).run P w=.ok ⟨b,o+k.oF,none⟩ w:=by
  intro b o w
  grind[fieldPlace,dN,Sem.run_sizeOf,dZ,ke,n_]
 split at h
 ·cases h
  simp only[ad]at hr;obtain⟨hc,b,o,rfl,U,W⟩:=hr;refine⟨.pointer (some ⟨b,o+k.oF,none⟩),?_,?_⟩
  simp_all[Zp,Sem.bT,oG]
  grind[ad,xT,vD]
 ·cases h
  simp only[ad]at hr;rename_i id aq w row col;obtain⟨⟨b,o,rfl⟩,h5,h6⟩:=hr;refine⟨.pointer (some ⟨b,o+k.oF,none⟩),?_,?_⟩
  simp_all[Zp,Sem.bT,oG]
  grind[ad]
 ·cases h
theorem kn{t e:Nat}(h:dO P t=.slice e sz d):P.underlying t=some (.slice e)/\∃i,P.info? e=some i/\i.size=sz/\i.bytes=d:=by
 unfold dO at h;split at h
 ·rename_i v h1
  split at h
  ·rename_i i k
   cases h;exact⟨h1,i,k,rfl,rfl⟩
  ·cases h
 ·split at h<;>cases h
 all_goals cases h
theorem EM{t e:Nat}{a:Bool}(h:dO P t=.array n e sz a):P.underlying t=some (.array n e)/\gL P e=some (sz,a):=by
 unfold dO at h;split at h
 ·split at h<;>cases h
 ·rename_i k v h1
  split at h
  ·rename_i m y d
   cases h;exact⟨h1,d⟩
  ·cases h
 all_goals cases h
theorem vE{t:Nat}(h:dO P t=.str):P.underlying t=some .string:=by
 unfold dO at h;split at h
 ·split at h<;>cases h
 ·split at h<;>cases h
 ·rename_i h1; exact h1
 all_goals cases h
theorem aaa(HE:aJ E){i:AV}{d:ar}
  (h:lP (dO P t) x i=some v) (y:ad E x c) (hi:ad E i d):∃u,(A0 t c d).run P E.w=.ok u E.w/\ad E v u:=by
 unfold lP at h;split at h
 case h_2=>cases h
 rename_i k n;simp only[ad]at hi;subst hi;split at h
 ·rename_i e sz by_ w rZ M
  split at h
  ·rename_i I
   obtain⟨rfl,h0,h1⟩:=I;obtain⟨hu,W,N,O,_⟩:=kn M;cases U:rZ[n.toNat]? with
   |none=>grind
   |some r=>
    rw[U]at h;simp at h;subst h;simp only[ad]at y;obtain⟨hcl,aU,cap,rfl,hle,hh⟩:=y;rcases hh with rfl|⟨b,o,rfl,hok,hr⟩
    ·simp at U
    ·obtain⟨g1,g2⟩:=oQ hr U
     refine⟨.pointer (some ⟨b,o+n.toNat*w,none⟩),?_,?_⟩
     ·simp[A0,asIntOf,Sem.bT hu,h0,h1,Sem.run_sizeOf N,O,n_]
     ·simp only[ad]
      exact⟨hcl r (gg U),b,_,rfl,hok,g2⟩
  ·cases h
 ·rename_i e sz by_ ks rZ M
  split at h
  ·rename_i I
   obtain⟨rfl,h0,h1⟩:=I;cases h;obtain⟨hu,W,N,O,_⟩:=kn M;have y:=lM.1 y;simp only[ad,cP]at y;obtain⟨hcl,aU,cap,rfl,hle,hh⟩:=y;have hlt:n.toNat<rZ.length:=ab;have U:(rZ.map (aY ks))[n.toNat]?=some (aY ks (rZ.getD n.toNat [])):=by
    rw[dw,dc,cB hlt];rfl
   rcases hh with hn|⟨b,o,rfl,hok,hr⟩
   grind
   ·obtain⟨g1,g2⟩:=oQ hr U
    refine⟨.pointer (some ⟨b,o+n.toNat*ks.length,none⟩),?_,?_⟩
    ·simp[A0,asIntOf,Sem.bT hu,h0,h1,Sem.run_sizeOf N,O,n_]
    grind[ad,iR]
  ·cases h
 ·rename_i e sz by_ w id aq oF m M
  split at h
  ·rename_i I
   obtain⟨rfl,h0,h1⟩:=I;cases h;obtain⟨hu,W,N,O,_⟩:=kn M;simp only[ad]at y;obtain⟨⟨aU,cap,rfl,hle,hb⟩,h5,h6⟩:=y;obtain⟨b,o,rfl⟩:=hb ab;refine⟨.pointer (some ⟨b,o+n.toNat*w,none⟩),?_,?_⟩
   ·simp[A0,asIntOf,Sem.bT hu,h0,h1,Sem.run_sizeOf N,O,n_]
   ·simp only[ad]
    refine⟨⟨_,_,rfl⟩,h5,fun hl=>?_⟩;obtain⟨g1,g2⟩:=h6 hl;obtain⟨a,ha,hav⟩:=h5;cases hloc:E.ae[id]? with
    |none=>
     have:=bl ha;rw[<-HE.len]at this
     grind
    |some l=>
     cases l with
     |none=>grind
     |some bm=>
      grind
  ·cases h
 ·rename_i e sz by_ id l j m M
  split at h
  ·rename_i I
   obtain⟨h0,h1⟩:=I;cases h;obtain⟨hu,W,N,O,_⟩:=kn M;simp only[ad]at y;obtain⟨⟨aU,cap,rfl,hle,hb⟩,h5,h6⟩:=y;obtain⟨b,o,rfl⟩:=hb ab;refine⟨.pointer (some ⟨b,o+n.toNat*sz,none⟩),?_,?_⟩
   ·simp[A0,asIntOf,Sem.bT hu,h0,h1,Sem.run_sizeOf N,O,n_]
   grind[ad]
  ·cases h
 ·rename_i m e sz a id aq w row col M
  split at h
  ·rename_i I
   cases h;obtain⟨hu,hvk⟩:=EM M;obtain⟨W,dd,N,O,h4,_⟩:=nl hvk;simp only[ad]at y;obtain⟨⟨b,o,rfl⟩,h5,h6⟩:=y;refine⟨.pointer (some ⟨b,o+n.toNat*sz,none⟩),?_,?_⟩
   ·simp[A0,asIntOf,Sem.bT hu,I.1,I.2,Sem.run_sizeOf N,h4,n_,oG]
   grind[ad]
  ·cases h
 ·rename_i m e sz a cells M
  split at h
  ·rename_i I
   cases h;obtain⟨hu,hvk⟩:=EM M;obtain⟨W,dd,N,O,h4,_⟩:=nl hvk;simp only[ad]at y;obtain⟨hcl,b,o,rfl,hok,h6⟩:=y;refine⟨.pointer (some ⟨b,o+n.toNat*sz,none⟩),?_,?_⟩
   ·simp[A0,asIntOf,Sem.bT hu,I.1,I.2,Sem.run_sizeOf N,h4,n_,oG]
   grind[ad,Bg,xT,EL,vD]
  ·cases h
 ·cases h
def oR:AV->Option Int
 |.lit (.int _ n)=>some n
 |_=>none
def kq(len:Nat)(lo hi:Option AV):Option (Nat × Nat):=
 match (match lo with|none=>some 0|some x=>oR x),(match hi with|none=>some (len:Int)|some x=>oR x)with
 |some l,some h=>if 0<=l/\l<=h/\h<=len then some (l.toNat,h.toNat) else none
 |_,_=>none
theorem xU{n:Int}(h:oR x=some n)(hr:ad E x c):∃k,c=.int k n:=by
 unfold oR at h
 grind[ad]
def Ph:List AV->Option (List G)
 |[.lit (.string s)]=>some [.s s]
 |_=>none
def xV:List (List AV)->Option (List (List G))
 |[]=>some []
 |r::rs=>match Ph r,xV rs with
  |some g,some d=>some (g::d)
  |_,_=>none
theorem JO:∀{rZ:List (List AV)} {d:List (List G)},xV rZ=some d->d.map (aY [.str])=rZ
 |[],d,h=>by
  simp only[xV,bD]at h;subst h;rfl
 |r::rs,d,h=>by
  simp only[xV]at h;split at h
  ·rename_i g v h1 k
   cases h;rw[e9,JO k];unfold Ph at h1;split at h1
   ·cases h1; rfl
   ·cases h1
  ·cases h
def EN(w:Nat)(rZ:List (List AV))(l n:Nat):AV:=match w,xV rZ with
 |1,some d=>.listF [.str] ((d.drop l).take n)
 |_,_=>.list w ((rZ.drop l).take n)
theorem aab{w:Nat}{rZ:List (List AV)} (h:ad E (.list w ((rZ.drop l).take n)) c):ad E (EN w rZ l n) c:=by
 unfold EN
 grind[lM,List.map_take,List.map_drop,JO]
def pT(P:ak)(t:aK)(x:AV)(lo hi mx:Option AV):Option AV:=
 match dO P t,x with
 |.str,.lit (.string s)=>match mx,kq s.size lo hi with
  |none,some (l,h)=>some (.lit (.string (s.extract l h)))
  |_,_=>none
 |.slice _ sz _,.list w rZ=>match mx with
  |none=>match kq rZ.length lo hi with
   |some (l,h)=>if w=sz then some (EN w rZ l (h-l)) else none
   |none=>none
  |some m=>if hi.isSome/\kq rZ.length lo hi=some (0,0)/\oR m=some 0 then some .nils else none
 |.slice _ sz _,.listF ks rZ=>match mx with
  |none=>match kq rZ.length lo hi with
   |some (l,h)=>if ks.length=sz then some (.listF ks ((rZ.drop l).take (h-l))) else none
   |none=>none
  |some m=>if hi.isSome/\kq rZ.length lo hi=some (0,0)/\oR m=some 0 then some .nils else none
 |.slice _ sz _,.vQ w id aq oF n=>match mx with
  |none=>match kq n lo hi with
   |some (l,h)=>if w=sz then some (.vQ w id aq (oF+l) (h-l)) else none
   |none=>none
  |some m=>if hi.isSome/\kq n lo hi=some (0,0)/\oR m=some 0 then some .nils else none
 |.slice _ _ _,.nils=>match mx with
  |none=>if (kq 0 lo hi).isSome then some .nils else none
  |some _=>none
 |.slice _ _ _,.lit (.slice none 0 0)=>match mx with
  |none=>if (kq 0 lo hi).isSome then some (.lit (.slice none 0 0)) else none
  |some m=>if hi.isSome/\kq 0 lo hi=some (0,0)/\oR m=some 0 then some (.lit (.slice none 0 0)) else none
 |_,_=>none
theorem xW{len:Nat}{y:Option ar}(N:Bool)(hb:kq len lo hi=some (l,h))(W:len<=cap)
  (h1:∀x,lo=some x->∃c,clo=some c/\ad E x c) (M:lo=none->clo=none)
  (U:∀x,hi=some x->∃c,y=some c/\ad E x c) (O:hi=none->y=none) (w:bh) :
  (xz N len cap clo y none).run P w=.ok (l,h,cap) w/\l<=h/\h<=len:=by
 unfold kq at hb;split at hb
 case h_2=>cases hb
 rename_i a b v I;split at hb
 case isFalse=>cases hb
 rename_i d;simp only[bD,bM]at hb;obtain⟨rfl,rfl⟩:=hb;obtain⟨c0,c1,c2⟩:=d;refine⟨?_,ab,ab⟩;cases hi with
 |none=>
  rw[O rfl];simp at I;subst I;cases lo with
  |none=>
   rw[M rfl];simp at v;subst v;simp[xz]
  |some x=>
   obtain⟨c,rfl,d⟩:=h1 x rfl;obtain⟨k,rfl⟩:=xU v d
   simp_all[xz,Jb,asIntOf]
 |some z=>
  obtain⟨c,rfl,d⟩:=U z rfl;obtain⟨k,rfl⟩:=xU I d;have g1:b<=(cap:Int):=ab;have g2:0<=b:=ab;cases lo with
  |none=>
   rw[M rfl];simp at v;subst v
   simp_all[xz,Jb,asIntOf]
  |some x=>
   obtain⟨c,rfl,d⟩:=h1 x rfl;obtain⟨k',rfl⟩:=xU v d;have g4:¬ (max b 0<a):=ab
   simp_all[xz,Jb,asIntOf]
theorem Pj{rZ:List (List AV)}{o:Nat}(h:dI E k rZ b o)(l n:Nat):
  dI E k ((rZ.drop l).take n) b (o+l*k):=by
 rw[pS]at *;intro i r hi;rw[sR]at hi;split at hi
 ·rw[AY]at hi
  have:=h (l+i) r hi
  rwa [pL,<-arU]at this
 ·cases hi
def tu(E:ah):Option AV->Option ar->Prop
 |none,none=>True
 |some x,some c=>ad E x c
 |_,_=>False
theorem JP(h:tu E lo clo):(∀x,lo=some x->∃c,clo=some c/\ad E x c)/\(lo=none->clo=none):=by
 cases lo<;>cases clo<;>simp_all[tu]
theorem Pk{w:Nat}{rZ:List (List AV)}(k:gn rZ)(I:rZ.length<=cap)(h1:l<=h)(N:h<=rZ.length)
  (y:rZ=[]\/∃b o,aU=some ⟨b,o,none⟩/\E.mo b/\dI E w rZ b o) :
  ad E (.list w ((rZ.drop l).take (h-l))) (.slice (if cap=l then aU else aU.map (·.add (l*w))) (h-l) (cap-l)):=by
 simp only[ad];have d:((rZ.drop l).take (h-l)).length=h-l:=bS;refine⟨fun r hr=>k r (Zq (OE hr)),_,cap-l,by rw[d],by rw[d]; omega,?_⟩;rcases Nat.eq_or_lt_of_le h1 with rfl|M
 ·left; simp
 ·right
  rcases y with rfl|⟨b,o,rfl,v,hr⟩
  grind
  ·refine⟨b,o+l*w,?_,v,Pj hr l (h - l)⟩
   rw[iN ab];simp[n_]
theorem aac{w aq:Nat}(hr:ad E (.vQ w id aq oF n) (.slice aU n cap))(h1:l<=h)(h2:h<=n):
  ad E (.vQ w id aq (oF+l) (h-l)) (.slice (if cap=l then aU else aU.map (·.add (l*w))) (h-l) (cap-l)):=by
 simp only[ad]at hr|-;obtain⟨⟨O,U,e,W,hb⟩,y,I⟩:=hr;simp only[qz]at e;obtain⟨rfl,_,rfl⟩:=e;refine⟨⟨_,_,rfl,ab,fun hp=>?_⟩,y,fun M=>?_⟩
 ·obtain⟨b,o,rfl⟩:=hb ab
  rw[iN ab]
  simp_all[n_]
 ·obtain⟨g1,N⟩:=I M
  refine⟨fun d=>?_,fun b m d=>?_⟩
  simp_all
  ·obtain⟨q1,o,q2,k⟩:=N b m d
   simp only[qz]at k;obtain⟨rfl,_,rfl⟩:=k;refine⟨ab,?_⟩;by_cases v:m-oF=l
   ·rw[iP v]
    grind
   ·rw[iN v]
    refine⟨o+l*w,fun hlt=>?_,by simp[n_,Nat.sub_sub]⟩
    grind
theorem EO{len:Nat}{m:AV}{h:Option ar}{v:ar}
  (hb:kq len lo hi=some (0,0)) (M:hi.isSome=true) (hm:oR m=some 0)
  (h1:∀x,lo=some x->∃c,clo=some c/\ad E x c) (W:lo=none->clo=none)
  (N:∀x,hi=some x->∃c,h=some c/\ad E x c) (y:ad E m v) (cap:Nat) (w:bh) :
  (xz true len cap clo h (some v)).run P w=.ok (0,0,0) w:=by
 obtain⟨k,rfl⟩:=xU hm y;obtain⟨z,rfl⟩:=A1.1 M;obtain⟨c,rfl,d⟩:=N z rfl;unfold kq at hb;split at hb
 case h_2=>cases hb
 rename_i a b O U;split at hb
 case isFalse=>cases hb
 rename_i hcc;simp only[bD,bM]at hb;obtain⟨k',rfl⟩:=xU U d;have ha:a=0:=ab;have I:b=0:=ab;subst ha; subst I;cases lo with
 |none=>
  simp_all[xz,Jb,asIntOf]
 |some x=>
  obtain⟨c,rfl,d⟩:=h1 x rfl;obtain⟨k'',rfl⟩:=xU O d;simp[xz,Jb,asIntOf]
theorem aad{mx:Option AV}{chi cmx:Option ar}
  (d:pT P t x lo hi mx=some v) (y:ad E x c) (hlo:tu E lo clo) (hhi:tu E hi chi) (hmx:tu E mx cmx) :
  ∃u,(rB t c clo chi cmx).run P E.w=.ok u E.w/\ad E v u:=by
 obtain⟨l1,M⟩:=JP hlo;obtain⟨l2,W⟩:=JP hhi;obtain⟨l3,l3'⟩:=JP hmx;unfold pT at d;split at d
 ·rename_i s I
  have hu:=vE I;simp only[ad]at y;subst y;split at d
  ·rename_i l h hb
   cases d;rw[l3' rfl];obtain⟨g1,O,U⟩:=xW (P:=P) (E:=E) (cap:=s.size) false hb (aV _) l1 M l2 W E.w
   simp_all[ad,rB,sS,Sem.bT]
  ·cases d
 ·rename_i e sz by_ w rZ I
  obtain⟨hu,ii,i1,i2,_⟩:=kn I;have hx':=y;simp only[ad]at y;obtain⟨hcl,aU,cap,rfl,N,hh⟩:=y;split at d
  ·split at d
   ·rename_i l h hb
    split at d
    ·rename_i hw
     subst hw;cases d;rw[l3' rfl];obtain⟨g1,O,U⟩:=xW (P:=P) (E:=E) (cap:=cap) true hb N l1 M l2 W E.w
     simp_all[aab,Pk,rB,sS,Sem.bT,Sem.run_sizeOf]
    ·cases d
   ·cases d
  ·rename_i m
   split at d
   ·rename_i k
    cases d;obtain⟨cm,rfl,hm⟩:=l3 m rfl;have g:=EO (P:=P) k.2.1 k.1 k.2.2 l1 M l2 hm cap E.w
    simp_all[ad,rB,sS,Sem.bT,Sem.run_sizeOf]
   ·cases d
 ·rename_i e sz by_ ks rZ I
  obtain⟨hu,ii,i1,i2,_⟩:=kn I;have hx':=lM.1 y;simp only[ad]at hx';obtain⟨hcl,aU,cap,rfl,N,hh⟩:=hx';simp only[cP]at N y|-;split at d
  ·split at d
   ·rename_i l h hb
    split at d
    ·rename_i hw
     subst hw;cases d;rw[l3' rfl];obtain⟨g1,O,U⟩:=xW (P:=P) (E:=E) (cap:=cap) true hb N l1 M l2 W E.w;have:=Pk (cap:=cap) hcl (by simpa using N) O (by simpa using U) hh;have e:((rZ.map (aY ks)).drop l).take (h-l)=((rZ.drop l).take (h-l)).map (aY ks):=au;rw[e]at this;refine⟨_,?_,lM.2 this⟩;simp[rB,sS,Sem.bT hu,g1,Sem.run_sizeOf i1,i2]
    ·cases d
   ·cases d
  ·rename_i m
   split at d
   ·rename_i k
    cases d;obtain⟨cm,rfl,hm⟩:=l3 m rfl;have g:=EO (P:=P) k.2.1 k.1 k.2.2 l1 M l2 hm cap E.w
    simp_all[ad,rB,sS,Sem.bT,Sem.run_sizeOf]
   ·cases d
 ·rename_i e sz by_ w id aq oF n I
  obtain⟨hu,ii,i1,i2,_⟩:=kn I;have hx':=y;simp only[ad]at y;obtain⟨⟨aU,cap,rfl,N,_⟩,_,_⟩:=y;split at d
  ·split at d
   ·rename_i l h hb
    split at d
    ·rename_i hw
     subst hw;cases d;rw[l3' rfl];obtain⟨g1,O,U⟩:=xW (P:=P) (E:=E) (cap:=cap) true hb N l1 M l2 W E.w;refine⟨_,?_,aac hx' O U⟩
     simp_all[rB,sS,Sem.bT,Sem.run_sizeOf]
    ·cases d
   ·cases d
  ·rename_i m
   split at d
   ·rename_i k
    cases d;obtain⟨cm,rfl,hm⟩:=l3 m rfl;have g:=EO (P:=P) k.2.1 k.1 k.2.2 l1 M l2 hm cap E.w;refine⟨.slice aU 0 0,?_,by simp only[ad]; exact⟨aU,rfl⟩⟩
    simp_all[rB,sS,Sem.bT,Sem.run_sizeOf]
   ·cases d
 ·rename_i e sz by_ I
  obtain⟨hu,ii,i1,i2,_⟩:=kn I;simp only[ad]at y;obtain⟨aU,rfl⟩:=y;split at d
  ·split at d
   ·rename_i hb
    cases d;obtain⟨⟨l,h⟩,hb⟩:=A1.1 hb;rw[l3' rfl];obtain⟨g1,O,U⟩:=xW (P:=P) (E:=E) (cap:=0) true hb (aV _) l1 M l2 W E.w;have:h=0:=ab;subst this;have:l=0:=ab
    simp_all[ad,rB,sS,Sem.bT,Sem.run_sizeOf]
   ·cases d
  ·cases d
 ·rename_i e sz by_ I
  obtain⟨hu,ii,i1,i2,_⟩:=kn I;simp only[ad]at y;subst y;split at d
  ·split at d
   ·rename_i hb
    cases d;obtain⟨⟨l,h⟩,hb⟩:=A1.1 hb;rw[l3' rfl];obtain⟨g1,O,U⟩:=xW (P:=P) (E:=E) (cap:=0) true hb (aV _) l1 M l2 W E.w;have:h=0:=ab;subst this;have:l=0:=ab
    simp_all[ad,rB,sS,Sem.bT,Sem.run_sizeOf]
   ·cases d
  ·rename_i m
   split at d
   ·rename_i k
    cases d;obtain⟨cm,rfl,hm⟩:=l3 m rfl;have g:=EO (P:=P) k.2.1 k.1 k.2.2 l1 M l2 hm 0 E.w
    simp_all[ad,rB,sS,Sem.bT,Sem.run_sizeOf]
   ·cases d
 ·cases d
def kindOk:SK->ar->Bool
 |.int k,.int d _=>k=d
 |.str,.string _=>true
 |.bool,.bool _=>true
 |_,_=>false
def tv:ar->ar->Bool
 |.int _ a,.int _ b=>a==b
 |.string a,.string b=>a.toList==b.toList
 |.bool a,.bool b=>a==b
 |_,_=>false
def fE:List ar->List ar->Bool
 |[],[]=>true
 |a::as,b::d=>tv a b&&fE as d
 |_,_=>false
def eL:List SK->List ar->Bool
 |[],[]=>true
 |k::ks,v::d=>kindOk k v&&eL ks d
 |_,_=>false
def vF(P:ak)(f:aK->Option (List SK)):List Field->Nat->Option (List SK)
 |[],_=>some []
 |x::d,oF=>if x.name = "_" \/ x.offset≠oF then none else
  match f x.type,gL P x.type with
  |some ks,some (n,_)=>if n=ks.length then (match vF P f d (oF+n)with|some l=>some (ks++l)|none=>none) else none
  |_,_=>none
def xX(e n m:Nat):List Field:=(List.range' 0 m).map fun i=>⟨"a", e,i*n,false, "", "", i⟩
def flatK(P:ak):Nat->aK->Option (List SK)
 |0,_=>none
 |d+1,t=>match P.underlying t with
  |some (.int k)=>some [.int k]
  |some .string=>some [.str]
  |some .bool=>some [.bool]
  |some (.struct h)=>if P.stoodInHeld t then none else vF P (fun t=>flatK P d t) h.toList 0
  |some (.array m e)=>match gL P e with
   |some (n,_)=>vF P (fun t=>flatK P d t) (xX e n m) 0
   |none=>none
  |_=>none
abbrev Bj(P:ak)(d:Nat)(h:List Field)(oF:Nat):Option (List SK):=vF P (fun t=>flatK P d t) h oF
theorem Pl:∀(a b c d:List ar),a.length=c.length->fE (a++b) (c++d)=(fE a c&&fE b d)
 |[],b,[],d,_=>by simp[fE]
 |x::a,b,y::c,d,h=>by
  simp only[mX,fE,Pl a b c d (by simpa using h),arV]
 |[],_,_::_,_,h=>by simp at h
 |_::_,_,[],_,h=>by simp at h
theorem xY:∀{ks:List SK} {d:List ar},eL ks d=true->ks.length=d.length
 |[],[],_=>rfl
 |_::ks,_::d,h=>by simp only[eL,aO]at h; simp[xY h.2]
 |[],_::_,h=>by simp[eL]at h
 |_::_,[],h=>by simp[eL]at h
theorem EP:∀{a b:List SK} {d:List ar},eL (a++b) d=true->eL a (d.take a.length)=true/\eL b (d.drop a.length)=true
 |[],b,d,h=>by simpa[eL]using h
 |k::a,b,[],h=>by simp[eL]at h
 |k::a,b,v::d,h=>by
  simp only[mX,eL,aO]at h;have:=EP h.2
  simp_all[eL]
def gM(P:ak)(t:aK)(x:ar)(d:List ar):Prop:=
 match P.underlying t with
 |some (.struct _)=>∃a:Array ar,x=.agg a/\a.toList=d
 |some (.array _ _)=>∃a:Array ar,x=.agg a/\a.toList=d
 |_=>d=[x]
theorem JQ{ks:List SK}(N:gL P t=some (n,agg))(h:flatK P d t=some ks)(hn:n=ks.length)
  (cs:Array ar) (oF:Nat) (M:eL ks ((cs.toList.drop oF).take n)=true) (w:bh) :
  ∃x,(part t cs oF).run P w=.ok x w/\gM P t x ((cs.toList.drop oF).take n):=by
 obtain⟨i,O,h1,v,I,U⟩:=nl N;cases d with
 |zero=>simp[flatK]at h
 |succ d=>
  unfold flatK at h;rw[v]at h;have y:=xY M;cases O with
  |struct W=>
   refine⟨.agg (cs.extract oF (oF+n)),?_,?_⟩
   ·simp[part,Sem.rM v,tg,Sem.run_sizeOf h1,I]
   ·simp only[gM,v]
    simp
  |array m e=>
   refine⟨.agg (cs.extract oF (oF+n)),?_,?_⟩
   ·simp[part,Sem.rM v,tg,Sem.run_sizeOf h1,I]
   ·simp only[gM,v]
    simp
  |int k=>
   simp at h;subst h;simp at hn;subst hn;have:oF<cs.size:=by simp at y; omega
   simp_all[part,Sem.rM,tg,gM,Zr]
  |string=>
   simp at h;subst h;simp at hn;subst hn;have:oF<cs.size:=by simp at y; omega
   simp_all[part,Sem.rM,tg,gM,Zr]
  |bool=>
   simp at h;subst h;simp at hn;subst hn;have:oF<cs.size:=by simp at y; omega
   simp_all[part,Sem.rM,tg,gM,Zr]
  |_=>simp at h
theorem aae{d:Array Field}(h:P.underlying t=some (.struct d)):P.underlying t=some (.struct (P.fieldsOf t)):=by
 simp[arW,h]
theorem aaf(w:bh)(d:Nat)(t:aK)(m e:Nat)(i:TypeInfo)(h v:Array ar)(y:P.underlying t=some (.array m e))(h1:P.info? e=some i):
  (lJ (d+1) t (.agg h) (.agg v)).run P w=(Ef d h v (xX e i.size m)).run P w:=by
 simp only[lJ,dN,Sem.bT y,dZ,Sem.run_sizeOf h1,arX,arY,iz,Nat.add_sub_cancel,Nat.div_one];unfold xX;generalize 0=k;clear y
 induction m generalizing w k with
 |zero=>simp[Ef]
 |succ m N=>
  simp only[List.range'_succ,List.forIn_cons,e9,Ef,dN];rw[iP e_];simp only[dN];generalize (part e h (k*i.size)).run P w=r1;cases r1 with
  |ok a I=>
   simp only[dZ];generalize (part e v (k*i.size)).run P I=r2;cases r2 with
   |ok b M=>
    simp only[dZ];generalize (lJ d e a b).run P M=r3;cases r3 with
    |ok r O=>
     simp_all
    |_=>rfl
   |_=>rfl
  |_=>rfl
mutual
theorem JR{P:ak}:∀(d:Nat) (t:aK) (ks:List SK),flatK P d t=some ks->∀(D:Nat),d<=D->∀(x y:ar) (N O:List ar),
  gM P t x N->gM P t y O->eL ks N=true->eL ks O=true->∀w,(lJ D t x y).run P w=.ok (fE N O) w
 |0,_,_,h=>by simp[flatK]at h
 |d+1,t,ks,h=>by
  intro D hD x y N O I M v ky w;obtain⟨D,rfl⟩:∃W,D=W+1:=⟨D-1,ab⟩
  unfold flatK at h;cases hu:P.underlying t with
  |none=>grind
  |some de=>
   rw[hu]at h;cases de with
   |struct U=>
    simp only[]at h;split at h
    ·cases h
    rename_i hs;simp only[gM,hu]at I M;obtain⟨a,rfl,rfl⟩:=I;obtain⟨b,rfl,rfl⟩:=M;have hf:P.fieldsOf t=U:=by simp[arW,hu]
    rw[run_equalIn_struct w D t a b (aae hu) (by simpa using hs),hf];have:=JS d U.toList 0 ks h D ab a b (by simpa using v) (by simpa using ky) w
    grind
   |array m e=>
    simp only[]at h;split at h
    case h_2=>cases h
    rename_i n g hv;simp only[gM,hu]at I M;obtain⟨a,rfl,rfl⟩:=I;obtain⟨b,rfl,rfl⟩:=M;obtain⟨i,d',h1,h2,rfl,h4⟩:=nl hv;rw[aaf w D t m e i a b hu h1];have:=JS d (xX e i.size m) 0 ks h D ab a b (by simpa using v) (by simpa using ky) w
    grind
   |int k=>
    simp at h;subst h;simp only[gM,hu]at I M;subst I; subst M;simp only[eL,jQ]at v ky;unfold kindOk at v ky;split at v<;>split at ky<;>simp_all[lJ,fE,tv,Sem.bT hu]
   |string=>
    simp at h;subst h;simp only[gM,hu]at I M;subst I; subst M;simp only[eL,jQ]at v ky;unfold kindOk at v ky;split at v<;>split at ky<;>simp_all[lJ,fE,tv,Sem.bT hu,beq_toListBytes]
   |bool=>
    simp at h;subst h;simp only[gM,hu]at I M;subst I; subst M;simp only[eL,jQ]at v ky;unfold kindOk at v ky;split at v<;>split at ky<;>simp_all[lJ,fE,tv,Sem.bT hu]
   |_=>simp at h
theorem JS{P:ak}:∀(d:Nat) (O:List Field) (oF:Nat) (ks:List SK),Bj P d O oF=some ks->∀(D:Nat),d<=D->∀(k v:Array ar),
  eL ks (k.toList.drop oF)=true->eL ks (v.toList.drop oF)=true->∀w,(Ef D k v O).run P w=.ok (fE (k.toList.drop oF) (v.toList.drop oF)) w
 |d,[],oF,ks,h=>by
  intro D hD k v kx ky w;simp[Bj,vF]at h;subst h;have h1:=xY kx;have h2:=xY ky;have I:k.toList.drop oF=[]:=A2 (by rw[<-h1]; rfl);have U:v.toList.drop oF=[]:=A2 (by rw[<-h2]; rfl);rw[I,U];simp[Ef,fE]
 |d,f::O,oF,ks,h=>by
  intro D hD k v kx ky w;unfold Bj vF at h;split at h
  ·cases h
  rename_i hc;split at h
  case h_2=>cases h
  rename_i k1 n ag I U;split at h
  case isFalse=>cases h
  rename_i hn;split at h
  case h_2=>cases h
  rename_i l e3;cases h;have hname:f.name ≠ "_" := fun e=>hc (.inl e);have hoff:f.offset=oF:=by
   by_cases e:f.offset=oF
   ·exact e
   omega
  obtain⟨M,W⟩:=EP kx;obtain⟨N,ky2⟩:=EP ky;rw[<-hn]at M W N ky2;obtain⟨x,px,vx⟩:=JQ U I hn k oF M w;obtain⟨y,py,vy⟩:=JQ U I hn v oF N w;have he:=JR d f.type k1 I D hD x y _ _ vx vy M N w;have hrest:=JS d O (oF+n) l e3 D hD k v (by rw[xA]at W; exact W) (by rw[xA]at ky2; exact ky2) w;have hsplit:fE (k.toList.drop oF) (v.toList.drop oF) =
    (fE ((k.toList.drop oF).take n) ((v.toList.drop oF).take n)&&fE (k.toList.drop (oF+n)) (v.toList.drop (oF+n))):=by
   rw[<-Pl _ _ _ _ (by rw[<-xY M,<-xY N]),<-xA,<-xA,Zs,Zs]
  simp only[Ef,hname,ne_eq,not_false_eq_true,if_true,dN,hoff,px,py,dZ,he,hsplit];cases fE ((k.toList.drop oF).take n) ((v.toList.drop oF).take n)<;>simp[hrest]
end
def rN:List AV->Option (List ar)
 |[]=>some []
 |.lit v::as=>match rN as with
  |some l=>some (v::l)
  |none=>none
 |_=>none
theorem ER{E:ah}:∀{as:List AV} {l d:List ar},rN as=some l->aw E as d->d=l
 |[],l,[],h,_=>by simp[rN]at h; exact h.symm
 |[],_,_::_,_,hr=>by simp[aw]at hr
 |_::_,_,[],_,hr=>by simp[aw]at hr
 |a::as,l,v::d,h,hr=>by
  simp only[aw]at hr;cases a<;>simp only[rN]at h<;>try cases h
  split at h
  ·rename_i u l' k
   cases h;have:=ER k hr.2
   grind[ad]
  ·cases h
def rO:Option TypeDesc->Bool
 |some (.struct _)=>true
 |some (.array _ _)=>true
 |_=>false
def oa(op:BinOp)(b:Bool):Option AV:=
 match op with
 |.eql=>some (.bool b)
 |.neq=>some (.bool !b)
 |_=>none
def rP:Nat:=6
def JT(P:ak)(op:BinOp)(t:aK)(d:Bool)(a b:ar):Option AV:=
 match a,b with
 |.bool a,.bool b=>match P.underlying t with
  |some .bool=>oa op (a==b)
  |_=>none
 |.slice none 0 0,.slice none 0 0=>match P.underlying t with
  |some (.slice _)=>oa op true
  |_=>none
 |.nilIface,.nilIface=>if d then (match P.underlying t with|some (.interface _)=>oa op true|_=>none) else none
 |_,_=>none
def np(P:ak)(op:BinOp)(t:aK)(d:Bool)(x y:AV):Option AV:=
 match x,y with
 |.lit a,.lit b=>match nk op a b with
  |some v=>some (.lit v)
  |none=>JT P op t d a b
 |.agg as,.agg h=>match flatK P rP t,rN as,rN h with
  |some ks,some l,some m=>if P.eqGuardType P.depth t=false/\eL ks l=true/\eL ks m=true/\rO (P.underlying t)=true then oa op (fE l m) else none
  |_,_,_=>none
 |.emptyS n,.lit (.slice none 0 0)=>match P.underlying t with
  |some (.slice _)=>oa op n
  |_=>none
 |.listF _ rZ,.lit (.slice none 0 0)=>match P.underlying t with
  |some (.slice _)=>if 0<rZ.length then oa op false else none
  |_=>none
 |.vQ _ _ _ _ m,.lit (.slice none 0 0)=>match P.underlying t with
  |some (.slice _)=>if 0<m then oa op false else none
  |_=>none
 |.ifc,.lit .nilIface | .lit .nilIface,.ifc=>match P.underlying t with
  |some (.interface _)=>oa op false
  |_=>none
 |.sub _ _ j,.lit (.map none)=>match P.underlying t with
  |some (.map _ _)=>oa op j.isNone
  |_=>none
 |_,_=>none
theorem Pm{t:Nat}{k:IntKind}(h:dO P t=.int k):P.underlying t=some (.int k):=by
 unfold dO at h;split at h
 ·split at h<;>cases h
 ·split at h<;>cases h
 ·cases h
 ·rename_i h1; cases h; exact h1
 ·cases h
 ·cases h
theorem pU{b:Bool}{x:cM}{d:ar}(h:oa op b=some v)
  (k:(eqGuard op t x y c d).run P w=.ok () w) (he:(Eh t c d).run P w=.ok b w)
  (hb:∀op,op=.eql\/op=.neq->(binOp op t c d)=(match op with | .eql=>(do pure (.bool (<- Eh t c d)))|_=>(do pure (.bool (!(<- Eh t c d)))))) :
  ∃u,(do eqGuard op t x y c d; binOp op t c d:Sem ar).run P w=.ok u w/\∀E,ad E v u:=by
 unfold oa at h;split at h
 ·cases h
  simp_all[ad]
 ·cases h
  simp_all[ad]
 ·cases h
theorem qD{d:ar}{b:Bool} (h:∀ n,(lJ (n+1) t c d).run P w=.ok b w):
  (Eh t c d).run P w=.ok b w:=h 9999
theorem aag{x:cM} (h:((x matches .const _)||(y matches .const _))=true) (w:bh):
  (eqGuard op t x y .nilIface .nilIface).run P w=.ok () w:=by
 cases x<;>cases y<;>first
  |(cases op<;>rfl)
  |(simp at h; done)
theorem aah{x:cM}{p q:ar}{k:Bool}
  (M:k=true->((x matches .const _)||(y matches .const _))=true) (h:JT P op t k p q=some v) :
  ∃u,(do eqGuard op t x y p q; binOp op t p q:Sem ar).run P E.w=.ok u E.w/\ad E v u:=by
 unfold JT at h;split at h
 ·rename_i a b
  split at h
  ·rename_i hu
   obtain⟨u,h1,I⟩:=pU (P:=P) (t:=t) (x:=x) (y:=y) (c:=.bool a) (d:=.bool b) (w:=E.w) h (by cases op<;>simp[eqGuard]<;>rfl)
    (qD fun n=>by simp[lJ,Sem.bT hu]) (by rintro op (rfl|rfl)<;>rfl)
   grind
  ·cases h
 ·split at h
  ·rename_i hu
   obtain⟨u,h1,I⟩:=pU (P:=P) (t:=t) (x:=x) (y:=y) (c:=.slice none 0 0) (d:=.slice none 0 0) (w:=E.w) h (by cases op<;>simp[eqGuard]<;>rfl)
    (qD fun n=>by simp[lJ,Sem.bT hu]) (by rintro op (rfl|rfl)<;>rfl)
   grind
  ·cases h
 ·split at h
  ·rename_i N
   split at h
   ·rename_i O hu
    obtain⟨u,h1,I⟩:=pU (P:=P) (t:=t) (x:=x) (y:=y) (c:=.nilIface) (d:=.nilIface) (w:=E.w) h
     (aag (M N) _)
     (qD fun n=>by simp[lJ,Sem.bT hu]) (by rintro op (rfl|rfl)<;>rfl)
    grind
   ·cases h
  ·cases h
 ·cases h
theorem aai{x:cM}{b:AV}{d:ar}
  {kk:Bool} (hkk:kk=true->((x matches .const _)||(y matches .const _))=true) (h:np P op t kk a b=some v) (k:ad E a c) (I:ad E b d) :
  ∃u,(do eqGuard op t x y c d; binOp op t c d:Sem ar).run P E.w=.ok u E.w/\ad E v u:=by
 unfold np at h;split at h
 ·rename_i p q
  simp only[ad]at k I;rw[k,I];clear k I c d;split at h
  ·rename_i u hu
   cases h
   simp_all[ad,Z8,Z7]
  ·exact aah hkk h
 ·rename_i as bs
  split at h
  case h_2=>cases h
  rename_i ks l m h1 M h3;by_cases hc:P.eqGuardType P.depth t=false/\eL ks l=true/\eL ks m=true/\rO (P.underlying t)=true
  case neg=>grind
  rw[iP hc]at h;obtain⟨g1,g2,g3,W⟩:=hc;simp only[ad]at k I;obtain⟨N,rfl,_,k⟩:=k;obtain⟨O,rfl,_,I⟩:=I;have ex:=ER M k;have ey:=ER h3 I;have hi:∀z:Array ar,gM P t (.agg z) z.toList:=fun z=>by
   unfold rO at W;split at W
   ·rename_i hu; simp only[gM,hu]; exact⟨z,rfl,rfl⟩
   ·rename_i hu; simp only[gM,hu]; exact⟨z,rfl,rfl⟩
   ·cases W
  have:=JR rP t ks h1 10000 e_ (.agg N) (.agg O) l m (ex▸hi N) (ey▸hi O) g2 g3 E.w;obtain⟨u,q1,q2⟩:=pU (P:=P) (t:=t) (x:=x) (y:=y) (c:=.agg N) (d:=.agg O) (w:=E.w) h (run_eqGuard_agg E.w op t x y N O g1)
   (by simpa[Eh,Op.maxDepth]using this) (by rintro op (rfl|rfl)<;>rfl)
  grind
 ·simp only[ad]at k I
  subst I;obtain⟨b,cap,rfl,hb⟩:=k;split at h
  ·rename_i el hu
   obtain⟨u,h1,M⟩:=pU (P:=P) (t:=t) (x:=x) (y:=y) (c:=.slice b 0 cap) (d:=.slice none 0 0) (w:=E.w) h (by cases op<;>simp[eqGuard]<;>rfl)
    (qD fun n=>by cases b<;>simp[lJ,Sem.bT hu]<;>grind) (by rintro op (rfl|rfl)<;>rfl)
   grind
  ·cases h
 ·rename_i ks rZ
  simp only[ad,gJ,G.rZ]at k I;subst I;obtain⟨b,cap,rfl,_,hb⟩:=k;split at h
  ·rename_i el hu
   split at h
   ·rename_i U
    rcases hb with rfl|⟨b',o',rfl,_⟩
    ·simp at U
    obtain⟨u,h1,M⟩:=pU (P:=P) (t:=t) (x:=x) (y:=y) (c:=.slice (some ⟨b',o',none⟩) rZ.length cap) (d:=.slice none 0 0) (w:=E.w) h (by cases op<;>simp[eqGuard]<;>rfl)
     (qD fun n=>by simp[lJ,Sem.bT hu]) (by rintro op (rfl|rfl)<;>rfl)
    grind
   ·cases h
  ·cases h
 ·rename_i m
  simp only[ad]at k I;subst I;obtain⟨⟨b,cap,rfl,_,hb⟩,_⟩:=k;split at h
  ·rename_i el hu
   split at h
   ·rename_i U
    obtain⟨b',o',rfl⟩:=hb U;obtain⟨u,h1,M⟩:=pU (P:=P) (t:=t) (x:=x) (y:=y) (c:=.slice (some ⟨b',o',none⟩) m cap) (d:=.slice none 0 0) (w:=E.w) h (by cases op<;>simp[eqGuard]<;>rfl)
     (qD fun n=>by simp[lJ,Sem.bT hu]) (by rintro op (rfl|rfl)<;>rfl)
    grind
   ·cases h
  ·cases h
 ·simp only[ad]at k I
  subst I;obtain⟨ti,vi,rfl⟩:=k;split at h
  ·rename_i ms hu
   obtain⟨u,h1,M⟩:=pU (P:=P) (t:=t) (x:=x) (y:=y) (c:=.iface ti vi) (d:=.nilIface) (w:=E.w) h (by cases op<;>simp[eqGuard]<;>rfl)
    (qD fun n=>by simp[lJ,Sem.bT hu]) (by rintro op (rfl|rfl)<;>rfl)
   grind
  ·cases h
 ·simp only[ad]at k I
  subst k;obtain⟨ti,vi,rfl⟩:=I;split at h
  ·rename_i ms hu
   obtain⟨u,h1,M⟩:=pU (P:=P) (t:=t) (x:=x) (y:=y) (c:=.nilIface) (d:=.iface ti vi) (w:=E.w) h (by cases op<;>simp[eqGuard]<;>rfl)
    (qD fun n=>by simp[lJ,Sem.bT hu]) (by rintro op (rfl|rfl)<;>rfl)
   grind
  ·cases h
 ·rename_i id l jj
  simp only[ad]at k I;subst I;split at h
  ·rename_i kt el hu
   rcases k with⟨rfl,rfl⟩|⟨i,rfl,⟨b,rfl⟩,_⟩
   ·obtain ⟨u,h1,M⟩:=pU (P:=P) (t:=t) (x:=x) (y:=y) (c:=.map none) (d:=.map none) (w:=E.w) h (by cases op<;>simp [eqGuard]<;>rfl)
     (qD fun n=>by simp[lJ,Sem.bT hu]) (by rintro op (rfl|rfl)<;>rfl)
    grind
   ·obtain ⟨u,h1,M⟩:=pU (P:=P) (t:=t) (x:=x) (y:=y) (c:=.map (some b)) (d:=.map none) (w:=E.w) h (by cases op<;>simp [eqGuard]<;>rfl)
     (qD fun n=>by simp[lJ,Sem.bT hu]) (by rintro op (rfl|rfl)<;>rfl)
    grind
  ·cases h
 ·cases h
def xZ(op:UnOp)(x:AV):Option AV:=
 match op,x with
 |.not,.lit (.bool b)=>some (.bool !b)
 |.neg,.lit (.int k n)=>some (.lit (.int k (k.wrap (0-n))))
 |_,_=>none
theorem aaj{op:UnOp}(h:xZ op x=some v)(d:ad E x c):
  ∃u,(Op.unary op c).run P E.w=.ok u E.w/\ad E v u:=by
 unfold xZ at h;split at h
 ·cases h
  simp only[ad]at d;subst d;exact⟨_,rfl,by simp[ad]⟩
 ·cases h
  simp only[ad]at d;subst d;exact⟨_,rfl,by simp[ad]⟩
 ·cases h
def x8(P:ak)(s d:aK)(x:AV):Option AV:=
 match P.underlying s,dO P d,x with
 |some _,.int k,.lit (.int _ n)=>some (.lit (.int k (k.wrap n)))
 |some _,.str,.lit (.string b)=>some (.str b)
 |some _,.str,.lit (.int _ n)=>some (.str (Utf8.encode n))
 |_,_,_=>none
theorem aak{s d:aK}(h:x8 P s d x=some v)(y:ad E x c):
  ∃u,(convert s d c).run P E.w=.ok u E.w/\ad E v u:=by
 unfold x8 at h;split at h
 ·rename_i k n I M
  cases h;simp only[ad]at y;subst y;refine⟨_,?_,by simp only[ad]; rfl⟩
  simp_all[convert,Sem.bT,Pm,Conv.intToInt]
 ·rename_i b I M
  cases h;simp only[ad]at y;subst y;refine⟨_,?_,by simp only[ad]; rfl⟩
  simp_all[convert,Sem.bT,vE]
 ·rename_i k n I M
  cases h;simp only[ad]at y;subst y;refine⟨_,?_,by simp only[ad]; rfl⟩;simp only[convert,dN,Sem.bT I,Sem.bT (vE M),dZ];rfl
 ·cases h
def tw(k:SK)(x i:AV):Option AV:=
 match i with
 |.lit (.int _ n)=>
  match k,x with
  |.str,.lit (.string s)=>if 0<=n/\n<s.size then (match s[n.toNat]? with|some b=>some (.lit (.int .u8 b.toNat))|none=>none) else none
  |.array m _ sz agg,.agg cells=>if 0<=n/\n<m then kJ agg sz (cells.drop (n.toNat*sz)) else none
  |_,_=>none
 |_=>none
theorem JU{E:ah}:∀{as:List AV} {d:List ar} (n:Nat),aw E as d->aw E (as.drop n) (d.drop n)
 |_,_,0,h=>by simpa using h
 |[],[],n+1,_=>by simp[aw]
 |[],_::_,_,h=>by simp[aw]at h
 |_::_,[],_,h=>by simp[aw]at h
 |a::as,v::d,n+1,h=>by simp only[aw]at h; simpa using JU n h.2
theorem JV{E:ah}:∀{as:List AV} {d:List ar} (n:Nat),aw E as d->aw E (as.take n) (d.take n)
 |_,_,0,_=>by simp[aw]
 |[],[],n+1,_=>by simp[aw]
 |[],_::_,_,h=>by simp[aw]at h
 |_::_,[],_,h=>by simp[aw]at h
 |a::as,v::d,n+1,h=>by simp only[aw]at h; simp only[Zo,aw]; exact⟨h.1,JV n h.2⟩
theorem oS{E:ah}:∀{as d:List AV} {k y:List ar},aw E as k->aw E d y->aw E (as++d) (k++y)
 |[],_,[],_,_,h=>by simpa using h
 |[],_,_::_,_,h,_=>by simp[aw]at h
 |_::_,_,[],_,h,_=>by simp[aw]at h
 |a::as,d,v::k,y,h,h'=>by simp only[aw]at h; simp only[mX,aw]; exact⟨h.1,oS h.2 h'⟩
theorem rQ{d:List ar}(h:aw E as d)(hi:as[i]?=some a):∃v,d[i]?=some v/\ad E a v:=by
 obtain⟨h1,I⟩:=rK.1 h;have y:=bl hi;have k:i<d.length:=h1▸y;exact⟨d[i],cB k,I i a _ hi (cB k)⟩
theorem Pn(k:gL P t=some (n,agg))
  (h:kJ agg n (cells.drop oF)=some v) (hr:aw E cells cs.toList) (h1:∀x∈cs.toList,eW x=true) :
  ∃u,(part t cs oF).run P E.w=.ok u E.w/\ad E v u:=by
 obtain⟨i,d,hi,y,I,ha⟩:=nl k;unfold kJ at h;cases agg with
 |true=>
  simp only[if_true]at h;split at h
  ·cases h
   refine⟨.agg (cs.extract oF (oF+n)),?_,?_⟩
   simp_all[part,Sem.rM,Sem.run_sizeOf]
   ·simp only[ad]
    have e:(cs.extract oF (oF+n)).toList=(cs.toList.drop oF).take n:=au
    grind[JV,JU]
  ·cases h
 |false=>
  simp only[rA,if_false]at h;rw[AY]at h;obtain⟨u,M,N⟩:=rQ hr h
  simp_all[part,Sem.rM]
theorem aal{i:AV}{d:ar}(h:tw (dO P t) x i=some v)(y:ad E x c)(hi:ad E i d):
  ∃u,(Zt t c d).run P E.w=.ok u E.w/\ad E v u:=by
 unfold tw at h;split at h
 case h_2=>cases h
 rename_i k n;simp only[ad]at hi;subst hi;split at h
 ·rename_i s I
  have hu:=vE I;simp only[ad]at y;subst y;split at h
  case isFalse=>cases h
  rename_i N;split at h
  case h_2=>cases h
  rename_i b hb;cases h
  simp_all[ad,Zt,asIntOf,Sem.bT]
 ·rename_i m e sz agg cells I
  obtain⟨hu,M⟩:=EM I;obtain⟨U,W,g1,g2,g3,g4⟩:=nl M;split at h
  case isFalse=>cases h
  rename_i N;simp only[ad]at y;obtain⟨cs,rfl,h1,O⟩:=y;obtain⟨u,q1,q2⟩:=Pn M h O h1
  simp_all[Zt,asIntOf,Sem.bT,Sem.run_sizeOf]
 ·cases h
def JW(k:FK)(x:AV):Option AV:=
 match x with
 |.agg cells=>kJ k.agg k.size (cells.drop k.oF)
 |_=>none
theorem aam{k:FK}(y:xR P t f=some k)(h:JW k x=some v)(d:ad E x c):
  ∃u,(arZ t c f).run P E.w=.ok u E.w/\ad E v u:=by
 obtain⟨O,U,h1,W,h3,I⟩:=Pf y;unfold JW at h;split at h
 ·simp only[ad]at d
  obtain⟨cs,rfl,M,N⟩:=d;obtain⟨u,q1,q2⟩:=Pn I h N M
  simp_all[arZ,Sem.bT,asAgg]
 ·cases h
def qE:AV->Option (List AV)
 |.undef | .tuple _=>none
 |.agg cs=>some cs
 |.lit v=>if eW v then some [.lit v] else none
 |x=>some [x]
theorem ES{cs:List AV}(h:qE x=some cs)(hr:ad E x c):
  aw E cs c.cells.toList/\∀y∈c.cells.toList,eW y=true:=by
 unfold qE at h;split at h
 ·cases h
 ·cases h
 ·cases h
  simp only[ad]at hr;obtain⟨a,rfl,h1,d⟩:=hr;exact⟨d,h1⟩
 ·rename_i v
  split at h
  ·rename_i h1
   cases h;have I:=hr;simp only[ad]at hr;subst hr;cases c<;>simp[eW]at h1<;>grind[Value.cells,aw,eW]
  ·cases h
 ·rename_i h1 d M N
  cases h;have k:eW c=true/\c.cells=#[c]:=by
   cases x<;>simp only[ad]at hr
   case sub=>rcases hr with⟨_,rfl⟩|⟨_,_,⟨b,rfl⟩,_⟩<;>exact⟨rfl,rfl⟩
   grind
   grind
   case nils=>obtain⟨b,rfl⟩:=hr; exact⟨rfl,rfl⟩
   case list=>obtain⟨_,b,cap,rfl,_⟩:=hr; exact⟨rfl,rfl⟩
   case listF=>simp only[gJ]at hr; obtain⟨b,cap,rfl,_⟩:=hr; exact⟨rfl,rfl⟩
   grind
   grind
   case cptr=>obtain⟨_,b,o,rfl,_⟩:=hr; exact⟨rfl,rfl⟩
   case ptr=>obtain⟨⟨b,o,rfl⟩,_⟩:=hr; exact⟨rfl,rfl⟩
   case vQ=>obtain⟨⟨b,o,rfl,_⟩,_⟩:=hr; exact⟨rfl,rfl⟩
   case map=>obtain⟨⟨b,rfl⟩,_⟩:=hr; exact⟨rfl,rfl⟩
   case clo=>obtain⟨cs,rfl,_⟩:=hr; exact⟨rfl,rfl⟩
   case ifc=>obtain⟨t,v,rfl⟩:=hr; exact⟨rfl,rfl⟩
   case emptyS=>obtain⟨b,cap,rfl,_⟩:=hr; exact⟨rfl,rfl⟩
   case svec=>obtain⟨⟨b,o,rfl,_⟩,_⟩:=hr; exact⟨rfl,rfl⟩
   case sptr=>obtain⟨⟨b,o,rfl⟩,_⟩:=hr; exact⟨rfl,rfl⟩
  grind[aw]
def vG(d:Nat->Option (Nat × Nat))(cells:List AV):List (Nat × AV)->Option (List AV)
 |[]=>some cells
 |(i,v)::h=>match d i,qE v with
  |some (oF,size),some cs=>if cs.length=size/\oF+cs.length<=cells.length then vG d (cells.take oF++cs++cells.drop (oF+cs.length)) h else none
  |_,_=>none
theorem Po(cs:Array ar):∀(l:List ar) (oF k:Nat) (cells:Array ar),oF+k+l.length<=cells.size ->
  (l.zipIdx k).foldl (fun cs (p : ar × Nat) => cs.setIfInBounds (oF + p.2) p.1) cells =
   (cells.toList.take (oF+k)++l++cells.toList.drop (oF+k+l.length)).toArray
 |[],oF,k,cells,_=>by simp
 |v::l,oF,k,cells,h=>by
  simp only[List.zipIdx_cons,List.foldl_cons];have h':oF+(k+1)+l.length<=(cells.setIfInBounds (oF+k) v).size:=by simp at h|-; omega
  rw[Po cs l oF (k+1) _ h'];congr 1;apply kg;intro i;simp only[Array.toList_setIfInBounds,jR,mg,List.length_set,sR,AY,gh,fV,cz,oH];simp at h;by_cases d:i<oF+k
  grind
  ·by_cases y:i=oF+k
   grind
   grind
theorem Bk{E:ah}{I:Nat->Option (Nat × Nat)}:∀{parts:List (Nat × AV)} {d:List (Nat × ar)} {cells:List AV} {cs:Array ar} {out:List AV},
  vG I cells parts=some out->aw E cells cs.toList->(∀x∈cs.toList,eW x=true) ->
  parts.map (·.1)=d.map (·.1)->aw E (parts.map (·.2)) (d.map (·.2)) ->
  ∃o,ar0 I cs d=some o/\aw E out o.toList/\∀x∈o.toList,eW x=true
 |[],[],cells,cs,out,h,hr,h1,_,_=>by
  simp only[vG,bD]at h;subst h;exact⟨cs,rfl,hr,h1⟩
 |[],_::_,_,_,_,_,_,_,hm,_=>by simp at hm
 |_::_,[],_,_,_,_,_,_,hm,_=>by simp at hm
 |(i,v)::ps,(j,c)::cps,cells,cs,out,h,hr,h1,hm,k=>by
  simp only[e9,Jd]at hm;obtain⟨rfl,hm⟩:=hm;simp only[e9,aw]at k;simp only[vG]at h;split at h
  case h_2=>cases h
  rename_i oF size y M N;split at h
  case isFalse=>cases h
  rename_i U;obtain⟨O,g2⟩:=ES N k.1;have hl:=jh O;have hl2:=jh hr;have hsz:y.length=c.cells.size:=ab;have hsz2:cells.length=cs.size:=ab;have W:(c.cells.zipIdx.foldl (fun cs (x:ar × Nat)=>cs.setIfInBounds (oF+x.2) x.1) cs) =
    (cs.toList.take oF++c.cells.toList++cs.toList.drop (oF+c.cells.toList.length)).toArray:=by
   rw[<-Array.foldl_toList,Array.toList_zipIdx];have:=Po cs c.cells.toList oF 0 cs bS;omega
  simp only[ar0,M];rw[iN bS];refine Bk (cells:=cells.take oF++y++cells.drop (oF+y.length)) h ?_ ?_ hm k.2<;>grind[oS,JV,JU]
def Pp(P:ak)(t:aK):Option (List (Nat × Nat)):=
 match P.underlying t with
 |some (.struct h)=>h.toList.mapM fun d=>(gL P d.type).map fun p=>(d.offset,p.1)
 |_=>none
theorem pV(h:gC P t=some z):
  ∃i v,P.info? t=some i/\i.zero=some v/\v.cells.toList=z/\∀x∈z,eW x=true:=by
 unfold gC at h;split at h
 ·rename_i i hi
  split at h
  ·rename_i v d
   split at h
   ·rename_i k
    cases h;exact⟨i,v,hi,d,rfl,eD.1 k⟩
   ·cases h
  ·cases h
 ·cases h
theorem pW{i:TypeInfo}{v:ar}(hi:P.info? t=some i)(d:i.zero=some v)(w:bh):(zeroValue t).run P w=.ok v w:=by
 simp[zeroValue,typeInfo,hi,d]
theorem Pq{P:ak}{w:bh}:∀(k:List Field) (v:List (Nat × Nat)),(k.mapM fun y=>(gL P y.type).map fun p=>(y.offset,p.1))=some v ->
  (k.mapM fun(f:Field)=>(do pure (f.offset,<-sizeOf f.type):Sem (Nat × Nat))).run P w=.ok v w
 |[],v,h=>by simp at h; subst h; simp
 |f::k,v,h=>by
  simp only[List.mapM_cons,Option.bind_eq_bind,Option.pure_def,Option.bind_eq_some_iff,gj]at h;obtain⟨x,⟨⟨n,a⟩,h1,rfl⟩,l,I,M⟩:=h;cases M;obtain⟨i,d,N,O,U,W⟩:=nl h1;have:=Pq (w:=w) k l I
  simp_all[Sem.run_sizeOf]
def JX(P:ak)(t:aK)(parts:List (Nat × AV)):Option AV:=
 match gC P t with
 |some z=>match Pp P t with
  |some d=>(vG (fun i=>d[i]?) (z.map .lit) parts).map .agg
  |none=>match dO P t with
   |.array _ _ sz _=>(vG (fun i=>some (i*sz,sz)) (z.map .lit) parts).map .agg
   |_=>none
 |none=>none
theorem aan{parts:List (Nat × AV)}{cparts:List (Nat × ar)}(h:JX P t parts=some v)
  (hm:parts.map (·.1)=cparts.map (·.1)) (y:aw E (parts.map (·.2)) (cparts.map (·.2))) :
  ∃u,(Zv t cparts.toArray).run P E.w=.ok u E.w/\ad E v u:=by
 unfold JX at h;split at h
 case h_2=>cases h
 rename_i z hz;obtain⟨i,I,z1,z2,k,M⟩:=pV hz;split at h
 ·rename_i N d
  unfold Pp at d;split at d
  case h_2=>cases d
  rename_i O hu;simp only[gj]at h;obtain⟨out,ho,rfl⟩:=h;obtain⟨o,g1,U,W⟩:=Bk (cs:=I.cells) ho (by rw[k]; exact th z) (by rw[k]; exact M) hm y;refine⟨.agg o,?_,by simp only[ad]; exact⟨o,rfl,W,U⟩⟩;have hmp:(O.mapM fun(f:Field)=>(do pure (f.offset,<-sizeOf f.type):Sem (Nat × Nat))).run P E.w=.ok N.toArray E.w:=by
   have:=Pq (w:=E.w) O.toList N d;rw[Array.mapM_eq_mapM_toList,Sem.run_map,this];rfl
  simp_all[Zv,pW,Sem.bT]
 ·split at h
  case h_2=>cases h
  rename_i n e sz ag hk;obtain⟨hu,hvk⟩:=EM hk;obtain⟨ie,de,q1,q2,q3,q4⟩:=nl hvk;simp only[gj]at h;obtain⟨out,ho,rfl⟩:=h;obtain⟨o,g1,U,W⟩:=Bk (cs:=I.cells) ho (by rw[k]; exact th z) (by rw[k]; exact M) hm y
  simp_all[ad,Zv,pW,Sem.bT,Sem.run_sizeOf]
def chunk(sz:Nat):Nat->List AV->List (List AV)
 |0,_=>[]
 |n+1,l=>l.take sz::chunk sz n (l.drop sz)
theorem Bl(sz:Nat):∀(n:Nat) (l:List AV),(chunk sz n l).length=n
 |0,_=>rfl
 |n+1,l=>by simp[chunk,Bl sz n]
theorem JY(sz:Nat):∀(n:Nat) (l:List AV),AV.cd l=true->gn (chunk sz n l)
 |0,_,_=>by intro r hr; simp[chunk]at hr
 |n+1,l,h=>by
  intro r hr;simp only[chunk,List.mem_cons]at hr;rcases hr with rfl|hr
  grind[Bg]
  ·exact JY sz n _ (xT _ _ h) r hr
theorem Pr{E:ah}(sz:Nat):∀(n:Nat) (l:List AV) (b o:Nat),l.length=n*sz->dz E l b o->dI E sz (chunk sz n l) b o
 |0,_,_,_,_,_=>by simp[chunk,dI]
 |n+1,l,b,o,d,h=>by
  simp only[chunk,dI];have:sz<=l.length:=by rw[d,pL]; omega
  refine⟨bS,EL h sz,Pr sz n _ b (o+sz) (by simp[d,pL]) (vD h sz)⟩
theorem ET(hb:E.w.heap[b]? = some (.cells cs el fr))(hr:aw E as cs.toList)
  (h1:∀x∈cs.toList,eW x=true):dz E as b 0:=by
 rw[lL];intro i a hi;obtain⟨v,d,h⟩:=rQ hr hi;refine⟨v,?_,h1 v (gg d),h⟩
 simp_all[xy]
theorem x9(v:ar):v.oneCell'=eW v:=by cases v<;>rfl
theorem setRow_size(w:bh)(g:Nat)(cs:Array ar):(w.setRow g cs).heap.size=w.heap.size:=by simp[ar1]
theorem setRow_other(w:bh)(g:Nat)(cs:Array ar)(x:Nat)(h:x≠g):(w.setRow g cs).heap[x]?=w.heap[x]?:=by
 simp only[ar1];rw[Array.getElem?_modify];split
 ·rename_i e; exact(h e.symm).elim
 ·rfl
structure Src (P:ak) (E:ah) (sz:Nat) (rZ:List (List AV)) (xt:aK) (x:ar) (news:List ar):Prop where
 len:∀w,(OG x).run P w=.ok rZ.length w
 cells:∀w,(∀b o,b<E.w.heap.size->w.cell? ⟨b,o,none⟩=E.w.cell? ⟨b,o,none⟩)->(lK sz rZ.length x).run P w=.ok news.toArray w
 ad:aw E rZ.flatten news
 one:∀v∈news,eW v=true
 wide:∀r∈rZ,r.length=sz
 closed:gn rZ
 kind:∃d,P.underlying xt=some d/\∀k,d≠.int k
theorem Src.length{P:ak}{E:ah}{sz:Nat}{rZ:List (List AV)}{xt:aK}{x:ar}{news:List ar}(h:Src P E sz rZ xt x news):news.length=rZ.length*sz:=by
 rw[<-jh h.ad];have:∀(l:List (List AV)),(∀r∈l,r.length=sz)->l.flatten.length=l.length*sz:=by
  intro l d
  induction l with
  |nil=>simp
  |cons a l k=>grind
 exact this rZ h.wide
theorem EU{E:ah}{k:Nat}:∀{rZ:List (List AV)} {b o:Nat},dI E k rZ b o->dz E rZ.flatten b o
 |[],_,_,_=>by simp[dz]
 |r::rZ,b,o,h=>by
  simp only[dI]at h;obtain⟨h1,v,d⟩:=h;have y:=EU d
  grind[lL]
theorem EW{E:ah}{k:Nat}:∀{rZ:List (List AV)} {b o:Nat},(∀ r∈rZ,r.length=k)->dz E rZ.flatten b o->dI E k rZ b o
 |[],_,_,_,_=>by simp[dI]
 |r::rZ,b,o,d,h=>by
  simp only[dI];have hr:=d r au;refine⟨hr,?_,?_⟩
  ·have:=EL h r.length
   grind
  ·have:=vD h r.length
   simp at this;rw[hr]at this;exact EW (fun x v=>d x (by simp[v])) this
def pX(sz:Nat)(x:AV)(H:List aj):Option (List (List AV)):=
 match x with
 |.nils | .lit (.slice none 0 0)=>some []
 |.emptyS _=>some []
 |.list w rZ=>if w=sz then some rZ else none
 |.listF ks rZ=>if ks.length=sz then some (rZ.map (aY ks)) else none
 |.vQ w id aq oF n=>match H[id]? with
  |some (.vQ k v rZ)=>if w=sz/\k=w/\v=aq/\oF+n<=rZ.length then some ((rZ.drop oF).take n) else none
  |_=>none
 |.lit (.string s)=>if sz=1 then some (s.data.toList.map fun b=>[.lit (.int .u8 b.toNat)]) else none
 |_=>none
theorem Pt{α β:Type}(f:α->β):∀(l:List α),(l.map fun b=>[f b]).flatten=l.map f
 |[]=>rfl
 |a::l=>by simp[Pt f l]
theorem EX{rZ:List (List AV)}{o:Nat}(hr:dI E sz rZ b o)(hb:b<E.w.heap.size):
  ∃news,aw E rZ.flatten news/\(∀v∈news,eW v=true) /\
   ∀w,(∀b o,b<E.w.heap.size->w.cell? ⟨b,o,none⟩=E.w.cell? ⟨b,o,none⟩)->(lK sz rZ.length (.slice (some ⟨b,o,none⟩) rZ.length cap)).run P w=.ok news.toArray w:=by
 obtain⟨d,h,k,y⟩:=Bh (EU hr);refine⟨d,h,k,fun w I=>?_⟩;refine run_firstCells_some (P:=P) w sz rZ.length ⟨b,o,none⟩ rZ.length cap d ?_ ?_
 ·rw[<- jh h]
  have:∀(l:List (List AV)) (o:Nat),dI E sz l b o->l.flatten.length=l.length*sz:=by
   intro l
   induction l with
   |nil=>intros; simp
   |cons a l M=>
    grind[dI]
  grind
 grind[n_]
theorem aao(HE:aJ E){rZ:List (List AV)}(h:pX sz x E.H=some rZ)(hr:ad E x c)
  (y:∃d,P.underlying xt=some d/\∀k,d≠.int k):∃news,Src P E sz rZ xt c news:=by
 unfold pX at h;split at h
 ·cases h
  simp only[ad]at hr;obtain⟨aU,rfl⟩:=hr;refine⟨[],⟨fun w=>rfl,fun w _=>?_,by simp[aw],au,au,(by intro r hr; cases hr),y⟩⟩;cases aU<;>simp[lK,loadCells,loadCellsFrom]
 ·cases h
  simp only[ad]at hr;subst hr;exact⟨[],⟨fun w=>rfl,fun w _=>by simp[lK],by simp[aw],au,au,(by intro r hr; cases hr),y⟩⟩
 ·cases h
  simp only[ad]at hr;obtain⟨aU,cap,rfl,_⟩:=hr;refine⟨[],⟨fun w=>rfl,fun w _=>?_,by simp[aw],au,au,(by intro r hr; cases hr),y⟩⟩;cases aU<;>simp[lK,loadCells,loadCellsFrom]
 ·rename_i w rows'
  split at h
  case isFalse=>cases h
  rename_i hw;subst hw;cases h;simp only[ad]at hr;obtain⟨W,aU,cap,rfl,hle,hh⟩:=hr;rcases hh with rfl|⟨b,o,rfl,hok,M⟩
  ·refine⟨[],⟨fun w=>rfl,fun w _=>?_,by simp[aw],au,au,(by intro r hr; cases hr),y⟩⟩
   cases aU<;>simp[lK,loadCells,loadCellsFrom]
  ·obtain⟨news,N,O,I⟩:=EX (P:=P) (cap:=cap) M hok.1
   exact⟨news,⟨fun w=>rfl,I,N,O,fun r hr=>by
    obtain⟨i,hi⟩:=sT hr;exact(oQ M hi).1,W,y⟩⟩
 ·rename_i ks rows0
  split at h
  case isFalse=>cases h
  rename_i hw;subst hw;cases h;have hr:=lM.1 hr;generalize rows0.map (aY ks)=rZ at hr;simp only[ad]at hr;obtain⟨W,aU,cap,rfl,hle,hh⟩:=hr;rcases hh with rfl|⟨b,o,rfl,hok,M⟩
  ·refine⟨[],⟨fun w=>rfl,fun w _=>?_,by simp[aw],au,au,(by intro r hr; cases hr),y⟩⟩
   cases aU<;>simp[lK,loadCells,loadCellsFrom]
  ·obtain⟨news,N,O,I⟩:=EX (P:=P) (cap:=cap) M hok.1
   exact⟨news,⟨fun w=>rfl,I,N,O,fun r hr=>by
    obtain⟨i,hi⟩:=sT hr;exact(oQ M hi).1,W,y⟩⟩
 ·rename_i w id aq oF n
  split at h
  case h_2=>cases h
  rename_i k v rows' hid;split at h
  case isFalse=>cases h
  rename_i hc;obtain⟨rfl,rfl,rfl,hle⟩:=hc;cases h;simp only[ad]at hr;obtain⟨⟨aU,cap,rfl,hcap,_⟩,_,h6⟩:=hr;obtain⟨q1,q2⟩:=h6 ⟨_,hid,rfl⟩;have hn:((rows'.drop oF).take n).length=n:=bS;rcases HE.obj id _ hid with⟨U,e2⟩|⟨b,m,U,e2,e3,e4,e5⟩
  ·obtain⟨rfl,rfl,base',e⟩:=q1 U
   subst e2;refine⟨[],⟨fun w=>by rw[hn]; rfl,fun w _=>?_,by simp[aw],au,au,(by intro r hr; simp at hr),y⟩⟩;cases aU<;>simp[lK,loadCells,loadCellsFrom]
  ·obtain⟨p1,o,p2,p3⟩:=q2 b m U
   simp only[qz]at p3;obtain⟨rfl,_,rfl⟩:=p3;by_cases hm:oF<m
   ·rw[p2 hm]
    have hsl:=Pj e5 oF n;simp only[dj]at hsl;obtain⟨news,N,O,I⟩:=EX (P:=P) (cap:=m-oF) hsl (HE.lt id b m U).1;rw[hn]at I;refine⟨news,⟨fun w=>by rw[hn]; rfl,by rw[hn]; exact I,N,O,fun r hr=>?_,fun r hr=>e4 r (Zq (OE hr)),y⟩⟩;obtain⟨i,hi⟩:=sT hr;exact(oQ hsl hi).1
   ·have hz:n=0 :=ab
    subst hz;refine⟨[],⟨fun w=>by rw[hn]; rfl,fun w _=>?_,by simp[aw],au,au,(by intro r hr; simp at hr),y⟩⟩;simp[lK,loadCells,loadCellsFrom]
 ·rename_i s
  split at h
  case isFalse=>cases h
  rename_i hs;subst hs;cases h;simp only[ad]at hr;subst hr;refine⟨s.data.toList.map fun b=>.int .u8 b.toNat,⟨fun w=>by simp[OG],fun w _=>?_,?_,?_,?_,?_,y⟩⟩
  ·simp only[cP,oH,lK]
   have:s.extract 0 s.data.size=s:=by
    have:=ByteArray.extract_zero_size (b:=s);exact this
   rw[this,<-ar2];rfl
  ·rw[Pt]
   have:=th (E:=E) (s.data.toList.map fun b=>.int .u8 b.toNat);rw[List.map_map]at this;exact this
  ·intro v hv; simp at hv; obtain⟨b,_,rfl⟩:=hv; rfl
  grind
  ·intro r hr; grind[AV.cd,AV.closed]
 ·cases h
def x_(P:ak)(t xt:aK)(s x:AV)(H:List aj):Option (AV × List aj):=
 match dO P t with
 |.slice e sz h=>
  match gC P e,(match dO P xt with | .slice _ _ _ | .str=>true|_=>false),pX sz x H with
  |some z,true,some d=>
   if z.length=sz/\d.length<=1048576/\h<=1048576 then
    match s with
    |.nils | .lit (.slice none 0 0)=>some (.vQ sz H.length 0 0 d.length,H++[.vQ sz 0 d])
    |.vQ w id aq oF n=>match H[id]? with
     |some (.vQ k v rZ)=>
      if k=w/\w=sz/\v=aq/\oF=0/\n=rZ.length/\rZ.length+d.length<=1048576 then
       some (.vQ w id (aq+1) 0 (n+d.length),H.set id (.vQ k (aq+1) (rZ++d)))
      else none
     |_=>none
    |_=>none
   else none
  |_,_,_=>none
 |_=>none
theorem JZ{i:TypeInfo}{x:ar}{d:TypeDesc}
  (y:P.underlying t=some (.slice e)) (I:P.underlying xt=some d) (_hd:∀k,d≠.int k) (hi:P.info? e=some i) (M:i.size=sz)
  (N:(OG x).run P w=.ok m w) (v:n+m<=cap) {news:List ar} (hn:(lK sz m x).run P w=.ok news.toArray w)
  (h:(match aU with|some a=>storeCells (a.add (n*sz)) news|none=>(pure ():Sem Unit)).run P w=.ok () w') :
  (rC #[t,xt] ty #[.slice aU n cap,x]).run P w=.ok (.slice aU (n+m) cap) w':=by
 cases aU with
 |none=>
  simp at h;subst h;simp[rC,run_underlying y,run_underlying I,sizeOf,typeInfo,hi,M,N,v,hn]
 |some a=>
  simp only[]at h;simp[rC,run_underlying y,run_underlying I,sizeOf,typeInfo,hi,M,N,v,hn,h]
theorem Pu{i:TypeInfo}{z:ar}{x:ar}{d:TypeDesc}
  (y:P.underlying t=some (.slice e)) (I:P.underlying xt=some d) (hd:∀k,d≠.int k) (hi:P.info? e=some i) (M:i.size=sz) (N:i.zero=some z)
  (O:(OG x).run P w=.ok m w) (h:cap<n+m) {olds news:List ar}
  (ho:(lK sz n (.slice aU n cap)).run P w.drew=.ok olds.toArray w.drew)
  (hn:(lK sz m x).run P w.drew=.ok news.toArray w.drew)
  (v:n+m<=1048576) (hb:i.bytes<=1048576) :
  ∃ C,n+m<=C/\(rC #[t,xt] ty #[.slice aU n cap,x]).run P w =
   .ok (.slice (some ⟨w.heap.size,0,none⟩) (n+m) C) (w.drew.alloc (.cells (olds++news++(Ei z.cells (C-(n+m))).toList).toArray e)):=by
 have h1:¬ (n+m<=cap):=ab;have U:¬ (9223372036854775807<((n:Int)+(m:Int))):=ab;have h3:OH (n+m) cap*i.bytes<=281474976710656:=growslice_fits h (by
  have:=Nat.mul_le_mul v hb;omega)
 have W:¬ (281474976710656<OH (n+m) cap*i.bytes):=ab;refine⟨grownCap w (n+m) cap e,?_,?_⟩
 ·simp[grownCap,Question.cut]
 ·simp[rC,run_underlying y,run_underlying I,sizeOf,typeInfo,zeroValue,hi,N,M,O,h1,U,W,Question.forced,hn,ho,newRow,grownCap]
  congr 2
  grind
def dP(E:ah)(v:AV)(H':List aj)(u:ar)(w':bh):Prop:=
 ∃d h,ad { w:=w',H:=H',ae:=d,X:=E.X.re h } v u/\aJ { w:=w',H:=H',ae:=d,X:=E.X.re h }/\E.le { w:=w',H:=H',ae:=d,X:=E.X.re h }
theorem Pv{vs tl:List ar}{h:aK}(hb:E.w.heap[b]? = some (.cells cs h fr))(hr:aw E as vs)
  (k:cs.toList=vs++tl) (h1:∀x∈vs,eW x=true):dz E as b 0:=by
 rw[lL];intro i a hi;obtain⟨v,d,y⟩:=rQ hr hi;refine⟨v,?_,h1 v (gg d),y⟩;simp only[dj,xy,hb];have:cs.toList[i]?=some v:=by rw[k,fT (bl d)]; exact d
 grind
theorem aap{y:aK}(hb:E.w.heap[b]? = some (.cells cs y fr))(hr:dz E as b 0):
  aw E as (cs.toList.take as.length)/\(∀x∈cs.toList.take as.length,eW x=true)/\as.length<=cs.size:=by
 obtain⟨d,I,W,M⟩:=Bh hr;have N:=jh I;have k:∀(j:Nat) v,d[j]?=some v->cs.toList[j]?=some v:=by
  intro j v O;have:=M j v O
  grind[xy]
 have U:d.length<=cs.size:=by
  rcases Nat.eq_zero_or_pos d.length with h|h
  ·omega
  ·have:=k (d.length - 1) d[d.length - 1] (cB ab)
   grind
 have:cs.toList.take as.length=d:=by
  rw[N];apply kg;intro j;rw[sR];split
  grind
  grind
 grind
theorem ya{sz:Nat}:∀{l:List (List AV)},(∀ r∈l,r.length=sz)->l.flatten.length=l.length*sz
 |[],_=>by simp
 |a::l,h=>by simp[ya (l:=l) (fun r hr=>h r (by simp[hr])),h a au,pL,Nat.add_comm]
theorem J0{rZ:List (List AV)}{o:Nat}(h:dI E k rZ b o):∀r∈rZ,r.length=k:=by
 intro r hr;obtain⟨i,hi⟩:=sT hr;exact(oQ h hi).1
theorem Pw(w:bh)(o:Obj):Ext w (w.drew.alloc o):=
 ⟨by show w.heap.size<=(w.heap.push o).size; simp,fun b hb=>by
  show (w.heap.push o)[b]?=_
  grind,⟨rfl,rfl,rfl,by first|exact fun _=>aV _|exact fun _=>gI _ _⟩⟩
theorem Px(w:bh)(o:Obj):(w.drew.alloc o).heap[w.heap.size]?=some o:=by
 show (w.heap.push o)[w.heap.size]?=_
 simp
theorem J1{rZ:List (List AV)}{vals:List ar}{d:List ar}(I:∀ a c,ad E a c->ad E' a c)
  (hb:E'.w.heap[b]?=some (.cells (vals++d).toArray e (0,0))) (hr:aw E rZ.flatten vals) (h1:∀x∈vals,eW x=true)
  (h:∀r∈rZ,r.length=sz) (v:rZ.length=m) (hC:m<=C) (k:d.length=(C-m)*sz) :
  isRow E'.w b (C*sz)/\dI E' sz rZ b 0:=by
 have y:aw E' rZ.flatten vals:=by
  rw[rK]at *
  grind
 refine⟨⟨_,e,hb,?_⟩,EW h (Pv hb y (by simp; rfl) h1)⟩;have:=jh hr;rw[ya h,v]at this;simp only[ar3,fV,<-this,k,<-pL]
 grind
theorem Py(h:gC P e=some z):∃i v,P.info? e=some i/\i.zero=some v/\v.cells.toList=z:=
 let ⟨i,v,h1,d,k,_⟩:=pV h
 ⟨i,v,h1,d,k⟩
theorem Pz(HE:aJ E){d:List (List AV)}{h k:List ar}(hr:aw E d.flatten h)(h1:∀ x∈h,eW x=true)
  (hw:∀r∈d,r.length=sz) (W:gn d) (hm:d.length=m) (hC:m<=C) (O:k.length=(C-m)*sz) :
  dP E (.vQ sz E.H.length 0 0 m) (E.H++[.vQ sz 0 d]) (.slice (some ⟨E.w.heap.size,0,none⟩) m C) (E.w.drew.alloc (.cells (h++k).toArray e)):=by
 have y:=Pw E.w (.cells (h++k).toArray e);have N:=ah.nW (o:=.vQ sz 0 d) (l:=some (E.w.heap.size,C)) HE.len y (fun b n hb=>by cases hb; exact aV _);have U:=Px E.w (.cells (h++k).toArray e);have I:=J1 (E':=E.push (E.w.drew.alloc (.cells (h++k).toArray e)) (.vQ sz 0 d) (some (E.w.heap.size,C))) (fun a c hr=>bW N a hr) U hr h1 hw hm hC O;refine⟨E.ae++[some (E.w.heap.size,C)],E.X.r,?_,aJ.push HE y (fun b n hb=>?_) ?_,N⟩
 ·simp only[ad]
  refine⟨⟨_,_,rfl,hC,fun _=>⟨_,_,rfl⟩⟩,⟨.vQ sz 0 d,au,rfl,fun v hv=>by simp[aj.aX]at hv; omega⟩,fun _=>⟨fun hn=>?_,fun b M hn=>?_⟩⟩
  ·rw[<-HE.len]at hn; simp at hn
  ·rw[<- HE.len]at hn
   simp_all
 grind
 ·simp only[a6]
  right;refine⟨E.w.heap.size,C,?_,I.1,ab,W,I.2⟩;simp only[ah.push];rw[<-HE.len];simp
theorem aaq(HE:aJ E)(aU:Option Addr):
  dP E (.vQ sz E.H.length 0 0 0) (E.H++[.vQ sz 0 []]) (.slice aU 0 0) E.w:=by
 have d:=ah.nW (o:=.vQ sz 0 []) (l:=none) HE.len (Ext.refl E.w) (fun b n hb=>by cases hb);refine⟨E.ae++[none],E.X.r,?_,aJ.push HE (Ext.refl _) (fun b n hb=>by cases hb) ?_,d⟩
 ·simp only[ad]
  refine⟨⟨_,_,rfl,aV _,fun h=>by omega⟩,⟨.vQ sz 0 [],au,rfl,fun v k=>by simp[aj.aX]at k; omega⟩,fun _=>⟨fun _=>⟨trivial,trivial,aU,rfl⟩,fun b M hn=>?_⟩⟩;rw[<-HE.len]at hn;simp at hn
 ·simp only[a6]
  left;refine⟨?_,trivial⟩;simp only[ah.push];rw[<-HE.len];simp
theorem J2(P:ak)(a:Addr)(w:bh):(storeCells a []).run P w=.ok () w:=rfl
theorem J3{rZ:List (List AV)}{x:ar}(h:Src P E sz rZ xt x news)(hr:rZ=[]):news=[]:=by
 have:=h.length
 simp_all
theorem PA(HE:aJ E){M:Nat}{k:List (List AV)}{y:ar}
  (hk:dO P t=.slice e sz M) (hz:gC P e=some z) (h:Src P E sz k xt y news) (hb1:k.length<=1048576) (hb2:M<=1048576) (hzl:z.length=sz) :
  ∃u w',(rC #[t,xt] ty #[.slice aU 0 0,y]).run P E.w=.ok u w'/\dP E (.vQ sz E.H.length 0 0 k.length) (E.H++[.vQ sz 0 k]) u w':=by
 obtain⟨hu,i,hi,W,hby⟩:=kn hk;obtain⟨i',zv,N,hz1,hz2⟩:=Py hz;rw[hi]at N;cases N;obtain⟨d,O,U⟩:=h.kind;cases v:k with
 |nil=>
  have hn:=J3 h v;subst hn;subst v;refine⟨.slice aU (0+0) 0,E.w,JZ (m:=0) hu O U hi W (h.len E.w) (aV _) (h.cells E.w (fun _ _ _=>rfl)) ?_,aaq HE aU⟩;cases aU with
  |none=>rfl
  |some a=>exact J2 P _ _
 |cons r rs=>
  rw[<-v];have hpos:0<k.length:=by rw[v]; simp
  have hcells:∀ b o,b<E.w.heap.size->E.w.drew.cell? ⟨b,o,none⟩=E.w.cell? ⟨b,o,none⟩:=fun _ _ _=>rfl;obtain⟨C,hC,I⟩:=Pu (P:=P) (w:=E.w) (ty:=ty) (aU:=aU) (n:=0) (cap:=0) (m:=k.length) (x:=y) (olds:=[]) hu O U hi W hz1 (h.len E.w) ab
   (by cases aU<;>simp[lK,loadCells,loadCellsFrom]) (h.cells _ hcells) ab ab
  simp only[dj,List.nil_append]at I;refine⟨_,_,I,Pz HE h.ad h.one h.wide h.closed rfl ab ?_⟩
  grind[size_zeroCells]
theorem aar(h:(match dO P xt with | .slice _ _ _ | .str=>true|_=>false)=true):∃d,P.underlying xt=some d/\∀k,d≠.int k:=by
 split at h
 ·rename_i v
  exact⟨_,(kn v).1,au⟩
 simp_all[vE]
 ·cases h
theorem qF{l:List α}{x:α}(h:l[i]?=some x):l.set i x=l:=by
 apply kg
 grind
theorem aas(HE:aJ E){id aq:aK}{by_:Nat}{rZ k:List (List AV)}{cx:ar}
  (hk:dO P t=.slice e sz by_) (hz:gC P e=some z) (y:Src P E sz k xt cx news) (hb1:rZ.length+k.length<=1048576) (hb2:by_<=1048576) (hzl:z.length=sz)
  (O:E.H[id]?=some (.vQ sz aq rZ)) (hr:ad E (.vQ sz id aq 0 rZ.length) c) :
  ∃u w',(rC #[t,xt] ty #[c,cx]).run P E.w=.ok u w' /\
   dP E (.vQ sz id (aq+1) 0 (rZ.length+k.length)) (E.H.set id (.vQ sz (aq+1) (rZ++k))) u w':=by
 obtain⟨hu,i,hi,hs,hby⟩:=kn hk;obtain⟨i',zv,hi',hz1,hz2⟩:=Py hz;rw[hi]at hi';cases hi';obtain⟨d,hd1,hd2⟩:=y.kind;simp only[ad]at hr;obtain⟨⟨aU,cap,rfl,hcap,hbase⟩,hpast,hlive⟩:=hr;obtain⟨q1,q2⟩:=hlive ⟨_,O,rfl⟩;have hlt:=bl O;have hverlt:(∀v,(aj.vQ sz (aq+1) (rZ++k)).aX=some v->∀u,(aj.vQ sz aq rZ).aX=some u->u<v):=by
  intro v W u hu; simp[aj.aX]at W hu; omega
 have hup:∀v u,(aj.vQ sz (aq+1) (rZ++k)).aX=some v->(aj.vQ sz aq rZ).aX=some u->u<=v:=by
  intro v u W hu; simp[aj.aX]at W hu; omega
 have hdead:(aj.vQ sz aq rZ).aX=none->(aj.vQ sz (aq+1) (rZ++k)).aX=none:=by simp[aj.aX]
 have hpast':∀(w':bh) loc',ah.bF { w:=w',H:=E.H.set id (.vQ sz (aq+1) (rZ++k)),ae:=loc',X:=E.X } id (aq+1):=fun w' loc'=>
  ⟨_,cG hlt,rfl,fun v W=>by simp[aj.aX]at W; omega⟩
 have hcells:∀b o,b<E.w.heap.size->E.w.drew.cell? ⟨b,o,none⟩=E.w.cell? ⟨b,o,none⟩:=fun _ _ _=>rfl;by_cases hfit:rZ.length+k.length<=cap
 ·-- in place
  rcases HE.obj id _ O with⟨I,e2⟩|⟨b,M,I,e2,e3,e4,e5⟩
  ·obtain⟨hn0,_,base',ee⟩:=q1 I
   simp only[qz]at ee;obtain⟨rfl,_,rfl⟩:=ee;have hnil:k=[]:=by
    grind
   have hnews:=J3 y hnil;subst hnews;subst hnil;subst e2;refine⟨_,E.w,JZ (m:=0) hu hd1 hd2 hi hs (y.len E.w) (aV _) (y.cells E.w (fun _ _ _=>rfl)) ?_,E.ae.set id none,E.X.r,?_,?_,?_⟩
   ·cases aU with
    |none=>rfl
    |some a=>exact J2 P _ _
   ·simp only[ad]
    refine⟨⟨_,_,rfl,aV _,fun h=>by simp at h⟩,hpast' _ _,fun _=>⟨fun _=>⟨au,trivial,aU,au⟩,fun b M hn=>?_⟩⟩
    grind
   ·refine aJ.oP HE O (aV _) (fun _ _ _=>rfl) (fun _ _ h=>by cases h) (.inr hverlt) hup (fun _=>hdead) ?_
    simp only[a6]
    grind
   ·exact ah.ng O HE.len (aV _) (fun _ _ _=>rfl) (fun _ _ h=>by cases h) (.inr hverlt) hup (fun _=>hdead)
  ·obtain⟨_,o,p2,p3⟩:=q2 b M I
   simp only[qz,iz]at p3;obtain⟨rfl,_,rfl⟩:=p3;obtain⟨cur,el,hblk,hsize⟩:=e2;have hcurl:=aap hblk (EU e5);have hwide:=J0 e5;have hflat:=ya hwide;have hnl:=y.length;have hstore:∃w',(storeCells ((Addr.mk b o none).add (rZ.length*sz)) news).run P E.w=.ok () w'/\w'.heap.size=E.w.heap.size/\fl E.w w'/\(∀x,x≠b->w'.heap[x]?=E.w.heap[x]?) /\
     w'.heap[b]?=some (.cells (cur.toList.take (rZ.length*sz)++news++cur.toList.drop (rZ.length*sz+news.length)).toArray el (0,0)):=by
    by_cases hM:0<cap
    ·rw[p2 hM,n_,xB,dj]
     have hfit2:rZ.length*sz+0+news.length<=cur.size:=by
      rw[hnl,hsize,sU,<-pL]
      grind[sW]
     have hst:=run_storeCells_at P b (rZ.length*sz) el news 0 cur E.w hblk hfit2 (fun v W=>by rw[x9]; exact y.one v W);refine⟨_,hst,setRow_size _ _ _,⟨rfl,rfl,rfl,by first|exact fun _=>aV _|exact fun _=>gI _ _⟩,fun x N=>setRow_other _ _ _ _ N,?_⟩
     grind[setRow_heap]
    ·have h0:cap=0 :=ab
     have hn0:k=[]:=by
      grind
     have:=J3 y hn0;subst this;refine⟨E.w,J2 P _ _,rfl,⟨rfl,rfl,rfl,by first|exact fun _=>aV _|exact fun _=>gI _ _⟩,fun _ _=>rfl,?_⟩
     grind
   obtain⟨w',hst,hsz,henv,hother,hb'⟩:=hstore;have hloc:E.ae.set id (some (b,cap))=E.ae:=qF I;have hle:E.le { w:=w',H:=E.H.set id (.vQ sz (aq+1) (rZ++k)),ae:=E.ae.set id (some (b,cap)),X:=E.X }:=
    ah.ng O HE.len ab (fun x N hne=>hother x (fun ex=>hne cap (by rw[ex]; exact I))) (fun b' n' h=>by cases h; exact .inr ⟨cap,I⟩) (.inr hverlt) hup (fun _=>hdead)
   refine⟨_,w',JZ (m:=k.length) hu hd1 hd2 hi hs (y.len E.w) hfit (y.cells E.w (fun _ _ _=>rfl)) hst,E.ae.set id (some (b,cap)),E.X.r,?_,?_,hle⟩
   ·simp only[ad]
    refine⟨⟨_,_,rfl,hfit,fun _=>⟨b,o,rfl⟩⟩,hpast' _ _,fun _=>⟨fun hn=>?_,fun b' M hn=>?_⟩⟩<;>grind
   ·refine aJ.oP HE O ab (fun x N hne=>hother x (fun ex=>hne cap (by rw[ex]; exact I))) (fun b' n' h=>by cases h; exact .inr ⟨cap,I⟩) (.inr hverlt) hup (fun _=>hdead) ?_
    simp only[a6];right;refine⟨b,cap,by rw[hloc]; exact I,?_,by simpa using hfit,?_,?_⟩
    ·refine⟨_,el,hb',?_⟩
     have hfit2:rZ.length*sz+news.length<=cap*sz:=by rw[hnl,<-pL]; grind[sW]
     simp only[ar3,fV,mg,List.length_drop,oH,hsize];omega
    ·intro r hr
     rcases dm.1 hr with h|h
     ·exact e4 r h
     ·exact y.closed r h
    ·have hall:∀r∈rZ++k,r.length=sz:=by
      intro r hr;rcases dm.1 hr with h|h
      grind
      ·exact y.wide r h
     refine EW hall (Pv hb' (vs:=cur.toList.take (rZ.length*sz)++news) (tl:=cur.toList.drop (rZ.length*sz+news.length)) ?_ au ?_)
     ·rw[Ej]
      refine oS ?_ (eX hle _ y.ad)
      grind[eX]
     ·intro x N
      rcases dm.1 N with h|h
      grind
      ·exact y.one x h
 ·-- it moves
  have holds:∃U:List ar,aw E rZ.flatten U/\(∀x∈U,eW x=true)/\(∀r∈rZ,r.length=sz)/\gn rZ /\
    (lK sz rZ.length (.slice aU rZ.length cap)).run P E.w.drew=.ok U.toArray E.w.drew:=by
   rcases HE.obj id _ O with⟨I,e2⟩|⟨b,M,I,e2,e3,e4,e5⟩
   ·subst e2
    refine⟨[],by simp[aw],au,au,(fun r hr=>by cases hr),?_⟩;cases aU<;>simp[lK,loadCells,loadCellsFrom]
   ·obtain⟨_,o,p2,p3⟩:=q2 b M I
    simp only[qz,iz]at p3;obtain⟨rfl,_,rfl⟩:=p3;by_cases hM:0<cap
    ·have ho:=p2 hM
     rw[xB]at ho;subst ho;obtain⟨vs,g1,g2,g3⟩:=EX (P:=P) (cap:=cap) e5 (HE.lt id b cap I).1;exact⟨vs,g1,g2,J0 e5,e4,g3 _ hcells⟩
    ·have:rZ=[]:=by
      grind
     subst this;exact⟨[],by simp[aw],au,au,fun r hr=>by(cases hr),by simp[lK,loadCells,loadCellsFrom]⟩
  obtain⟨U,g1,g2,g3,g4,g5⟩:=holds;obtain⟨C,hC,hrun⟩:=Pu (P:=P) (w:=E.w) (ty:=ty) (aU:=aU) (n:=rZ.length) (cap:=cap) (m:=k.length) (x:=cx) (olds:=U) hu hd1 hd2 hi hs hz1 (y.len E.w) ab
   g5 (y.cells _ hcells) ab ab
  generalize hrest:(Ei zv.cells (C-(rZ.length+k.length))).toList=rest at hrun;have hrl:rest.length=(C-(rZ.length+k.length))*sz:=by
   rw[<-hrest];simp only[oH,size_zeroCells];rw[<-hzl,<-hz2];simp
  generalize hw':E.w.drew.alloc (.cells (U++news++rest).toArray e)=w' at hrun;have hext:Ext E.w w':=by rw[<-hw']; exact Pw _ _
  have hblk:w'.heap[E.w.heap.size]?=some (.cells (U++news++rest).toArray e (0,0)):=by rw[<-hw']; exact Px _ _
  have hltw:E.w.heap.size<w'.heap.size:=(Array.getElem?_eq_some_iff.1 hblk).1;have hle:E.le { w:=w',H:=E.H.set id (.vQ sz (aq+1) (rZ++k)),ae:=E.ae.set id (some (E.w.heap.size,C)),X:=E.X }:=
   ah.ng O HE.len hext.size (fun x N _=>hext.same x N) (fun b n h=>by cases h; exact .inl (aV _)) (.inr hverlt) hup (fun _=>hdead)
  have hall:∀r∈rZ++k,r.length=sz:=by
   intro r hr;rcases dm.1 hr with h|h
   grind
   ·exact y.wide r h
  have hlocs:(E.ae.set id (some (E.w.heap.size,C)))[id]? = some (some (E.w.heap.size,C)):=cG (by rw[HE.len]; exact hlt);have hrow:=J1 (E:=E) (E':={ w:=w',H:=E.H.set id (.vQ sz (aq+1) (rZ++k)),ae:=E.ae.set id (some (E.w.heap.size,C)),X:=E.X })
   (rZ:=rZ++k) (vals:=U++news) (m:=rZ.length+k.length) (fun a c hr=>bW hle a hr) hblk
   (by rw[Ej]; exact oS g1 y.ad)
   (by intro x N; rcases dm.1 N with h|h; exact g2 x h; exact y.one x h) hall au hC hrl
  refine⟨_,w',hrun,E.ae.set id (some (E.w.heap.size,C)),E.X.r,?_,?_,hle⟩
  ·simp only[ad]
   refine⟨⟨_,_,rfl,hC,fun _=>⟨_,_,rfl⟩⟩,hpast' _ _,fun _=>⟨fun hn=>?_,fun b' M hn=>?_⟩⟩<;>grind
  ·refine aJ.oP HE O hext.size (fun x N _=>hext.same x N) (fun b n h=>by cases h; exact .inl ⟨aV _,hltw⟩) (.inr hverlt) hup (fun _=>hdead) ?_
   simp only[a6];right;refine⟨E.w.heap.size,C,hlocs,hrow.1,by simpa using hC,?_,hrow.2⟩;intro r hr;rcases dm.1 hr with h|h
   ·exact g4 r h
   ·exact y.closed r h
theorem aat(HE:aJ E){s:AV}{O:ar}(h:x_ P t xt s x E.H=some (v,H'))
  (d:ad E s c) (hx:ad E x O):∃u w',(rC #[t,xt] ty #[c,O]).run P E.w=.ok u w'/\dP E v H' u w':=by
 unfold x_ at h;split at h
 case h_2=>cases h
 rename_i e sz by_ I;split at h
 case h_2=>cases h
 rename_i z new M hseq W;split at h
 case isFalse=>cases h
 rename_i hc;obtain⟨h1,U,N⟩:=hc;obtain⟨news,y⟩:=aao (P:=P) HE W hx (aar hseq);split at h
 ·cases h
  simp only[ad]at d;obtain⟨aU,rfl⟩:=d;exact PA HE I M y U N h1
 ·cases h
  simp only[ad]at d;subst d;exact PA HE I M y U N h1
 ·split at h
  case h_2=>cases h
  rename_i k v rZ hid;split at h
  case isFalse=>cases h
  rename_i hcc;obtain⟨rfl,rfl,rfl,rfl,rfl,hb⟩:=hcc;cases h;exact aas HE I M y hb N h1 hid d
 ·cases h
theorem J4{h:Array ar}{d:List ar}{k:aK}(v:w.heap[b]? = some (.cells h k fr))
  (y:w'.heap[b]?=some (.cells (h.toList.take oF++d++h.toList.drop (oF+d.length)).toArray k fr)) (I:oF+d.length<=h.size) (i:Nat) :
  w'.cell? ⟨b,i,none⟩=if oF<=i/\i<oF+d.length then d[i-oF]? else w.cell? ⟨b,i,none⟩:=by
 simp only[xy,v,y,Option.isSome_none,rA,if_false,List.getElem?_toArray,jR,fV,mg,oH,
  sR,AY]
 grind
theorem EY{o col:Nat}{h:Array ar}{cs:List AV}{d:List ar}{k:aK}(hv:∀ a c,ad E a c->ad E' a c)
  (I:E.w.heap[b]?=some (.cells h k fr))
  (N:E'.w.heap[b]?=some (.cells (h.toList.take (o+col)++d++h.toList.drop (o+col+d.length)).toArray k fr)) (M:o+col+d.length<=h.size)
  (hr:dz E as b o) (cC:aw E cs d) (h1:∀x∈d,eW x=true) (U:col+cs.length<=as.length) :
  dz E' (as.take col++cs++as.drop (col+cs.length)) b o:=by
 have W:=jh cC;rw[lL]at hr|-;intro i a hi;rw[J4 I N M];simp only[jR,fV,mg,sR,AY]at hi;have hm:min col as.length=col:=ab;rw[hm]at hi;by_cases O:i<col
 grind
 ·by_cases y:i<col+cs.length
  ·rw[iP y,iN O]at hi
   obtain⟨v,g1,g2⟩:=rQ cC hi
   grind
  ·rw[iN y]at hi
   have:col+cs.length+(i-(col+cs.length))=i:=ab;rw[this]at hi
   grind
theorem ah.rR(HE:aJ E)(N:E.H[id]? = some o) (d:E.ae[id]? = some (some (b,n)))
  (y:∀v,o'.aX=some v->o.aX=some v) (W:w'.heap.size=E.w.heap.size) (I:∀x,x≠b->w'.heap[x]?=E.w.heap[x]?) (M:fl E.w w':=by first|exact⟨rfl,rfl,rfl,by first|exact fun _=>aV _|exact fun _=>gI _ _⟩|assumption|exact Ext.env (by assumption)) (O:o.eS=none\/o'.eS=o.eS\/o'.aX=none:=by first|exact .inl rfl|exact .inr (.inl rfl)|exact .inr (.inr rfl)|exact .inl (aj.EC (by assumption))|assumption) (hborn:o.born=true->o'.born=true:=by first|exact fun _=>rfl|exact fun h=>h|assumption) :
  E.le { w:=w',H:=E.H.set id o',ae:=E.ae,X:=E.X }:=by
 have h:=ah.ng (w':=w') (o':=o') (l:=some (b,n)) N HE.len ab (fun x _ U=>I x (fun e=>U n (by rw[e]; exact d))) (fun b' n' h=>by cases h; exact .inr ⟨n,d⟩)
  (.inl fun v k=>⟨y v k,d⟩) (fun v u k hu=>by rw[y v k]at hu; cases hu; exact aV _) (fun _ hn=>by
   cases k:o'.aX with
   |none=>rfl
   |some v=>grind) M O
 rwa [qF d]at h
theorem aJ.set{E:ah}{w':bh}{id b n:Nat}{o o':aj}(HE:aJ E)(N:E.H[id]? = some o) (d:E.ae[id]? = some (some (b,n)))
  (y:∀v,o'.aX=some v->o.aX=some v) (U:w'.heap.size=E.w.heap.size) (I:∀x,x≠b->w'.heap[x]?=E.w.heap[x]?)
  (ho:a6 { w:=w',H:=E.H.set id o',ae:=E.ae,X:=E.X } id o') (M:fl E.w w':=by first|exact⟨rfl,rfl,rfl,by first|exact fun _=>aV _|exact fun _=>gI _ _⟩|assumption|exact Ext.env (by assumption)) (hlab:o.label=none:=by first|rfl|assumption) (W:o'.label=none:=by first|rfl|assumption) (hborn:o.born=true->o'.born=true:=by first|exact fun _=>rfl|exact fun h=>h|assumption):aJ { w:=w',H:=E.H.set id o',ae:=E.ae,X:=E.X }:=by
 have h:=aJ.oP (w':=w') (o':=o') (l:=some (b,n)) HE N ab (fun x _ O=>I x (fun e=>O n (by rw[e]; exact d))) (fun b' n' h=>by cases h; exact .inr ⟨n,d⟩)
  (.inl fun v k=>⟨y v k,d⟩) (fun v u k hu=>by rw[y v k]at hu; cases hu; exact aV _) (fun _ hn=>by
   cases k:o'.aX with
   |none=>rfl
   |some v=>grind) (by rw[qF d]; exact ho) M
 rwa [qF d]at h
def putCells(as cs:List AV)(d:Nat):List AV:=as.take d++cs++as.drop (d+cs.length)
def qG(P:ak)(t:aK)(x v:AV)(H:List aj):Option (List aj):=
 match gL P t,qE v,x with
 |some (n,_),some cs,.ptr id aq w row d=>
  if cs.length=n then
   match H[id]? with
   |some (.box cells)=>if aq=0/\row=0/\d+n<=cells.length then some (H.set id (.box (putCells cells cs d))) else none
   |some (.vQ k u rZ)=>
    if aq=u/\k=w/\AV.cd cs=true then
     match rZ[row]? with
     |some r=>if d+n<=r.length then some (H.set id (.vQ k u (rZ.set row (putCells r cs d)))) else none
     |none=>none
    else none
   |_=>none
  else none
 |_,_,_=>none
theorem J5{cs:List AV}(h:d+cs.length<=as.length):(putCells as cs d).length=as.length:=by
 simp[putCells]; omega
theorem Bm:∀(a b:List AV),AV.cd (a++b)=(AV.cd a&&AV.cd b)
 |[],b=>by simp[AV.cd]
 |x::a,b=>by simp[AV.cd,Bm a b,arV]
theorem PB(HE:aJ E){d:ar}(h:qG P t x v E.H=some H')(hx:ad E x c)(O:ad E v d):
  ∃w',(xC t c d).run P E.w=.ok () w'/\aJ { w:=w',H:=H',ae:=E.ae,X:=E.X }/\E.le { w:=w',H:=H',ae:=E.ae,X:=E.X }:=by
 unfold qG at h;split at h
 case h_2=>cases h
 rename_i n ag cs id aq w row y ht cC;obtain⟨i,dd,hi,hd,hs,ha⟩:=nl ht;obtain⟨hrel,h1⟩:=ES cC O;split at h
 case isFalse=>cases h
 rename_i hn;have hlen:=jh hrel;have hsz:d.cells.size=n:=by rw[<-hn,hlen]; simp
 simp only[ad]at hx;obtain⟨_,hpast,hlive⟩:=hx;split at h
 ·rename_i cells M
  split at h
  case isFalse=>cases h
  rename_i hc;obtain⟨rfl,rfl,hcol⟩:=hc;cases h;obtain⟨b,m,U,rfl⟩:=hlive ⟨_,M,rfl⟩;obtain⟨b',m',e2,⟨I,el,hblk,hsize⟩,e3⟩:=HE.obj id _ M;rw[U]at e2;cases e2;have W:y+0+d.cells.toList.length<=I.size:=by rw[hsize]; simp; omega
  have hst:=run_storeCells_at P b y el d.cells.toList 0 I E.w hblk W (fun v O=>by rw[x9]; exact h1 v O);simp only[sU]at hst W;generalize N:E.w.setRow b (I.toList.take y++d.cells.toList++I.toList.drop (y+d.cells.toList.length)).toArray=w' at hst;have hsize':w'.heap.size=E.w.heap.size:=by rw[<-N]; simp
  have henv:fl E.w w':=by rw[<-N]; exact⟨rfl,rfl,rfl,by first|exact fun _=>aV _|exact fun _=>gI _ _⟩
  have hother:∀x,x≠b->w'.heap[x]?=E.w.heap[x]?:=by intro x hx; rw[<-N]; grind[setRow_other]
  have hb':w'.heap[b]?=some (.cells (I.toList.take y++d.cells.toList++I.toList.drop (y+d.cells.toList.length)).toArray el (0,0)):=by
   rw[<-N]; grind[setRow_heap]
  have hver:∀v,(aj.box (putCells cells cs y)).aX=some v->(aj.box cells).aX=some v:=fun v O=>by simpa[aj.aX]using O
  have hle:=ah.rR (o':=.box (putCells cells cs y)) HE M U hver hsize' hother;refine⟨w',?_,aJ.set HE M U hver hsize' hother ?_,hle⟩
  simp_all[xC,oG,storeVar,Sem.run_sizeOf]
  ·simp only[a6]
   refine⟨b,m,U,⟨_,el,hb',?_⟩,?_⟩
   ·rw[J5 ab]
    grind
   ·exact EY (o:=0) (col:=y) (fun a c hr=>bW hle a hr) hblk (by simpa using hb') (by simpa using W) e3 hrel h1 ab
 ·rename_i k u rZ M
  split at h
  case isFalse=>cases h
  rename_i hc;obtain⟨rfl,rfl,hclosed⟩:=hc;split at h
  case h_2=>cases h
  rename_i r hrow;split at h
  case isFalse=>cases h
  rename_i hcol;cases h;obtain⟨b,m,U,rfl⟩:=hlive ⟨_,M,rfl⟩;rcases HE.obj id _ M with⟨_,e2⟩|⟨b',m',e2,⟨I,el,hblk,hsize⟩,e3,e4,e5⟩
  grind
  rw[U]at e2;cases e2;have hrlt:=bl hrow;obtain⟨hrk,hrc⟩:=oQ e5 hrow;rw[dj]at hrc;have hrow1:(row+1)*k<=m*k:=sW _ ab;rw[pL,Nat.one_mul]at hrow1;have W:row*k+y+0+d.cells.toList.length<=I.size:=by rw[hsize]; simp; omega
  have hst:=run_storeCells_at P b (row*k+y) el d.cells.toList 0 I E.w hblk W (fun v O=>by rw[x9]; exact h1 v O);simp only[sU]at hst W;generalize N:E.w.setRow b (I.toList.take (row*k+y)++d.cells.toList++I.toList.drop (row*k+y+d.cells.toList.length)).toArray=w' at hst;have hsize':w'.heap.size=E.w.heap.size:=by rw[<-N]; simp
  have henv:fl E.w w':=by rw[<-N]; exact⟨rfl,rfl,rfl,by first|exact fun _=>aV _|exact fun _=>gI _ _⟩
  have hother:∀x,x≠b->w'.heap[x]?=E.w.heap[x]?:=by intro x hx; rw[<-N]; grind[setRow_other]
  have hb':w'.heap[b]?=some (.cells (I.toList.take (row*k+y)++d.cells.toList++I.toList.drop (row*k+y+d.cells.toList.length)).toArray el (0,0)):=by
   rw[<-N]; grind[setRow_heap]
  have hver:∀v,(aj.vQ k aq (rZ.set row (putCells r cs y))).aX=some v->(aj.vQ k aq rZ).aX=some v:=fun v O=>by simpa[aj.aX]using O
  have hle:=ah.rR (o':=.vQ k aq (rZ.set row (putCells r cs y))) HE M U hver hsize' hother;refine⟨w',?_,aJ.set HE M U hver hsize' hother ?_,hle⟩
  simp_all[xC,oG,storeVar,Sem.run_sizeOf]
  ·simp only[a6]
   right;refine⟨b,m,U,⟨_,el,hb',?_⟩,by simpa using e3,?_,?_⟩
   grind
   ·intro r' hr'
    rcases List.mem_or_eq_of_mem_set hr' with h'|h'
    ·exact e4 r' h'
    ·rw[h',putCells,Bm,Bm]
     have:=e4 r (gg hrow)
     grind[Bg,xT]
   ·rw[pS]at e5 |-
    intro j r' hj;rw[gh]at hj;split at hj
    ·rename_i ej
     subst ej;cases hj;refine⟨by rw[J5 ab]; exact hrk,?_⟩;rw[dj];exact EY (fun a c hr=>bW hle a hr) hblk hb' W hrc hrel h1 ab
    ·rename_i ej
     obtain⟨g1,g2⟩:=e5 j r' hj;refine⟨g1,?_⟩;rw[lL]at g2|-;intro q a hq;obtain⟨vv,p1,p2,p3⟩:=g2 q a hq;refine⟨vv,?_,p2,bW hle a p3⟩;have hql:=bl hq;rw[J4 hblk hb' W,iN]
     ·exact p1
     ·rcases Nat.lt_or_gt_of_ne ej with hlt | hgt
      ·have:(row+1)*k<=j*k:=sW _ ab
       grind
      ·have:(j+1)*k<=row*k:=sW _ ab
       grind
 ·cases h
theorem PC(HE:aJ E)(hr:aw E cells vals.toList)(h1:∀ x∈vals.toList,eW x=true):
  dP E (.ptr E.H.length 0 0 0 0) (E.H++[.box cells]) (.pointer (some ⟨E.w.heap.size,0,none⟩)) { E.w with heap:=E.w.heap.push (.cells vals el) }:=by
 have d:=Ext.push E.w (.cells vals el);have k:=ah.nW (o:=.box cells) (l:=some (E.w.heap.size,0)) HE.len d (fun b n hb=>by cases hb; exact aV _);have h:(E.w.heap.push (.cells vals el))[E.w.heap.size]?=some (.cells vals el (0,0)):=au;have y:aw (E.push { E.w with heap:=E.w.heap.push (.cells vals el) } (.box cells) (some (E.w.heap.size,0))) cells vals.toList:=eX k _ hr;refine⟨E.ae++[some (E.w.heap.size,0)],E.X.r,?_,aJ.push HE d (fun b n hb=>?_) ?_,k⟩
 ·simp only[ad]
  refine⟨⟨_,_,rfl⟩,⟨.box cells,au,rfl,fun v I=>by simp⟩,fun _=>⟨E.w.heap.size,0,?_,au⟩⟩;rw[<-HE.len]; simp
 grind
 ·simp only[a6]
  refine⟨E.w.heap.size,0,?_,⟨vals,el,h,?_⟩,ET (cs:=vals) (el:=el) (fr:=(0,0)) h y h1⟩
  ·simp only[ah.push]; rw[<-HE.len]; simp
  ·have:=jh hr
   grind
def EZ(P:ak)(t:aK):Option aK:=match gC P t with
 |some [.pointer none,.slice none 0 0]=>match P.underlying t with
  |some (.struct d)=>match d[1]? with
   |some h=>match P.underlying h.type with
    |some (.slice e)=>match P.underlying e with
     |some (.int .u8)=>some e
     |_=>none
    |_=>none
   |none=>none
  |_=>none
 |_=>none
theorem aau(h:EZ P t=some e):gC P t=some [.pointer none,.slice none 0 0]:=by
 unfold EZ at h;split at h
 ·assumption
 ·cases h
def mu(H:List aj)(l:Nat):Bool:=H.all fun o=>match o.label with
 |some k => !Nat.beq k l
 |none=>true
theorem rS{H:List aj}(h:mu H l=true)(i:Nat)(o:aj)(hi:H[i]?=some o):o.label≠some l:=fun e=>by
 have:=eD.1 h o (gg hi)
 simp_all
theorem aav(HE:aJ E)(d:mu E.H 0=true):
  dP E (.ptr E.H.length 0 0 0 0) (E.H++[.ij 0 t e Ed]) (.pointer (some ⟨E.w.heap.size,0,none⟩)) { E.w with heap:=E.w.heap.push (.cells #[.pointer none,.slice none 0 0] t) }:=by
 have k:=Ext.push E.w (.cells #[.pointer none,.slice none 0 0] t);obtain⟨h1,y⟩:=aJ.Z6 (o:=.ij 0 t e Ed) (l:=some (E.w.heap.size,0)) (l0:=0) HE k (fun b n hb=>by cases hb; exact⟨aV _,au⟩) rfl (rS d) (by
  simp only[a6];refine⟨E.w.heap.size,0,.pointer none,.slice none 0 0,(E.X.r 0).length,none,?_,?_,.inl rfl,?_,?_,⟨rfl,rfl⟩⟩
  ·rw[<-HE.len]; simp
  ·simp
  ·simp[lO,XS.re]
  ·intro h' h hq
   rcases JK (show (lO E.X.r 0 0)[h']?=some (some h) from hq)with g|⟨_,g,_⟩
   ·exact(HE.jS 0 (rS d) h' h g).elim
   ·exact g)
 refine⟨E.ae++[some (E.w.heap.size,0)],lO E.X.r 0,?_,h1,y⟩;simp only[ad];refine⟨⟨_,_,rfl⟩,⟨.ij 0 t e Ed,au,rfl,fun v I=>by simp⟩,fun _=>⟨E.w.heap.size,0,?_,au⟩⟩;rw[<-HE.len]; simp
def vH(P:ak)(t:aK)(H:List aj):Option (AV × List aj):=
 match EZ P t with
 |some e=>if mu H 0=true then some (.ptr H.length 0 0 0 0,H++[.ij 0 t e Ed]) else none
 |none=>match gC P t with
  |some z=>some (.ptr H.length 0 0 0 0,H++[.box (z.map .lit)])
  |none=>none
theorem aaw(HE:aJ E)(h:vH P t E.H=some (v,H')):
  ∃u w',(Ek t true (.tuple #[])).run P E.w=.ok u w'/\dP E v H' u w':=by
 unfold vH at h;split at h
 ·rename_i e he
  split at h
  case isFalse=>cases h
  rename_i M;cases h;obtain⟨i,k,h1,N,d,y⟩:=pV (aau he);have I:k.cells=#[.pointer none,.slice none 0 0]:=mh (by simpa using d);refine⟨_,_,?_,aav HE (t:=t) (e:=e) M⟩
  simp_all[Ek,pW,newVar,newRow]
 split at h
 ·rename_i z I
  cases h;obtain⟨i,k,h1,N,d,y⟩:=pV I;refine⟨_,_,?_,PC HE (vals:=k.cells) (el:=t) (by rw[d]; exact th z) (by rw[d]; exact y)⟩
  simp_all[Ek,pW,newVar,newRow]
 ·cases h
def zc:Option (List Kd)->ar->AV
 |some ks,.slice none 0 0=>.listF ks []
 |_,v=>.lit v
def lj:List (Option (List Kd))->List ar->List AV
 |_,[]=>[]
 |[],v::z=>.lit v::lj [] z
 |a::m,v::z=>zc a v::lj m z
theorem E3:∀(m:List (Option (List Kd))) (z:List ar),(lj m z).length=z.length
 |[],[]=>rfl
 |_::_,[]=>rfl
 |[],v::z=>by simp[lj,E3 [] z]
 |a::m,v::z=>by simp[lj,E3 m z]
theorem aax(a:Option (List Kd))(v:ar):ad E (zc a v) v:=by
 unfold zc;split
 ·simp only[ad,gJ]
  exact⟨none,0,rfl,aV _,.inl rfl⟩
 ·simp[ad]
theorem J6{E:ah}:∀(m:List (Option (List Kd))) (z:List ar),aw E (lj m z) z
 |[],[]=>by simp[lj,aw]
 |_::_,[]=>by simp[lj,aw]
 |[],v::z=>by simp only[lj,aw]; exact⟨by simp[ad],J6 [] z⟩
 |a::m,v::z=>by simp only[lj,aw]; exact⟨aax a v,J6 m z⟩
theorem aay(a:Option (List Kd))(v:ar):(zc a v).closed=true:=by
 unfold zc;split<;>rfl
theorem J7:∀(m:List (Option (List Kd))) (z:List ar),AV.cd (lj m z)=true
 |[],[]=>rfl
 |_::_,[]=>rfl
 |[],v::z=>by simp[lj,AV.cd,AV.closed,J7 [] z]
 |a::m,v::z=>by simp[lj,AV.cd,aay,J7 m z]
def tx(P:ak)(t:aK)(id:Nat) (m:List (Option (List Kd))) (H:List aj):Option (AV × List aj):=
 match gC P t,H[id]? with
 |some z,some (.vQ k 0 [])=>if k=z.length then some (.ptr id 1 k 0 0,H.set id (.vQ k 1 [lj m z])) else none
 |some z,some .eV=>some (.ptr id 0 0 0 0,H.set id (.box (z.map .lit)))
 |_,_=>none
theorem aaz(HE:aJ E)(I:E.H[id]? = some (.vQ k 0 []))(hr:aw E cells vals.toList)(h1:∀ x∈vals.toList,eW x=true)(hk:cells.length=k)
  (hcl:AV.cd cells=true) :
  dP E (.ptr id 1 k 0 0) (E.H.set id (.vQ k 1 [cells])) (.pointer (some ⟨E.w.heap.size,0,none⟩)) { E.w with heap:=E.w.heap.push (.cells vals el) }:=by
 have y:=Ext.push E.w (.cells vals el);have W:=bl I;have N:∀v,(aj.vQ k 1 [cells]).aX=some v->∀u,(aj.vQ k 0 []).aX=some u->u<v:=by
  intro v d u hu;simp[aj.aX]at d hu;omega
 have hup:∀v u,(aj.vQ k 1 [cells]).aX=some v->(aj.vQ k 0 []).aX=some u->u<=v:=by
  intro v u d hu;simp[aj.aX]at d hu;omega
 have O:(aj.vQ k 0 []).aX=none->(aj.vQ k 1 [cells]).aX=none:=by simp[aj.aX]
 have hle:E.le { w:={ E.w with heap:=E.w.heap.push (.cells vals el) },H:=E.H.set id (.vQ k 1 [cells]),ae:=E.ae.set id (some (E.w.heap.size,1)),X:=E.X }:=
  ah.ng I HE.len y.size (fun x M _=>y.same x M) (fun b n h=>by cases h; exact .inl (aV _)) (.inr N) hup (fun _=>O)
 have hblk:(E.w.heap.push (.cells vals el))[E.w.heap.size]?=some (.cells vals el (0,0)):=au;have U:(E.ae.set id (some (E.w.heap.size,1)))[id]?=some (some (E.w.heap.size,1)):=cG (by rw[HE.len]; exact W);have hr':=eX hle _ hr;refine⟨E.ae.set id (some (E.w.heap.size,1)),E.X.r,?_,?_,hle⟩
 ·simp only[ad]
  refine⟨⟨_,_,rfl⟩,⟨.vQ k 1 [cells],by simp[W],rfl,fun v d=>by simp[aj.aX]at d; omega⟩,fun _=>⟨E.w.heap.size,1,U,au⟩⟩
 ·refine aJ.oP HE I y.size (fun x M _=>y.same x M) (fun b n h=>by cases h; exact .inl ⟨aV _,au⟩) (.inr N) hup (fun _=>O) ?_
  simp only[a6];right;refine⟨E.w.heap.size,1,U,⟨vals,el,hblk,?_⟩,au,?_,?_⟩
  ·have:=jh hr
   grind
  ·intro r hr
   grind
  ·simp only[dI,and_true]
   grind[ET]
theorem aaA(HE:aJ E)(k:E.H[id]? = some .eV)(hr:aw E cells vals.toList)(h1:∀ x∈vals.toList,eW x=true):
  dP E (.ptr id 0 0 0 0) (E.H.set id (.box cells)) (.pointer (some ⟨E.w.heap.size,0,none⟩)) { E.w with heap:=E.w.heap.push (.cells vals el) }:=by
 have d:=Ext.push E.w (.cells vals el);have U:=bl k;have I:(aj.eV).born=true->(aj.eV).aX=none->(aj.box cells).aX=none:=fun h=>by cases h
 have N:∀v,(aj.box cells).aX=some v->∀u,(aj.eV).aX=some u->u<v:=fun v _ u hu=>by cases hu
 have W:∀v u,(aj.box cells).aX=some v->(aj.eV).aX=some u->u<=v:=fun v u _ hu=>by cases hu
 have O:(E.w.heap.push (.cells vals el))[E.w.heap.size]?=some (.cells vals el (0,0)):=au;have M:(E.ae.set id (some (E.w.heap.size,0)))[id]?=some (some (E.w.heap.size,0)):=cG (by rw[HE.len]; exact U);have hle:E.le { w:={ E.w with heap:=E.w.heap.push (.cells vals el) },H:=E.H.set id (.box cells),ae:=E.ae.set id (some (E.w.heap.size,0)),X:=E.X }:=
  ah.ng k HE.len d.size (fun x y _=>d.same x y) (fun b n h=>by cases h; exact .inl (aV _)) (.inr N) W I
 have hr':=eX hle _ hr;refine⟨E.ae.set id (some (E.w.heap.size,0)),E.X.r,?_,?_,hle⟩
 ·simp only[ad]
  refine⟨⟨_,_,rfl⟩,⟨.box cells,by simp[U],rfl,fun v hv=>by simp⟩,fun _=>⟨E.w.heap.size,0,M,au⟩⟩
 ·refine aJ.oP HE k d.size (fun x y _=>d.same x y) (fun b n h=>by cases h; exact .inl ⟨aV _,au⟩) (.inr N) W I ?_
  simp only[a6];refine⟨E.w.heap.size,0,M,⟨vals,el,O,?_⟩,ET (cs:=vals) (el:=el) (fr:=(0,0)) O hr' h1⟩;have:=jh hr
  grind
theorem aaB(HE:aJ E){m:List (Option (List Kd))}(h:tx P t id m E.H=some (v,H')):
  ∃u w',(Ek t true (.tuple #[])).run P E.w=.ok u w'/\dP E v H' u w':=by
 unfold tx at h;split at h
 ·rename_i z k I y
  split at h
  ·rename_i O
   cases h;obtain⟨i,M,h1,U,d,N⟩:=pV I;refine⟨_,_,?_,aaz HE (vals:=M.cells) (el:=t) y (by rw[d]; exact J6 m z) (by rw[d]; exact N) (by rw[E3,O]) (J7 m z)⟩
   simp_all[Ek,pW,newVar,newRow]
  ·cases h
 ·rename_i z I y
  cases h;obtain⟨i,M,h1,U,d,N⟩:=pV I;refine⟨_,_,?_,aaA HE (vals:=M.cells) (el:=t) y (by rw[d]; exact th z) (by rw[d]; exact N)⟩
  simp_all[Ek,pW,newVar,newRow]
 ·cases h
def E5(v:AV)(H:List aj):Option (AV × List aj):=
 match qE v with
 |some cs=>some (.ptr H.length 0 0 0 0,H++[.box cs])
 |none=>none
theorem aaC(HE:aJ E)(h:E5 x E.H=some (v,H'))(d:ad E x c):
  ∃u w',(ar4 t c).run P E.w=.ok u w'/\dP E v H' u w':=by
 unfold E5 at h;split at h
 ·rename_i cs cC
  cases h;obtain⟨h1,k⟩:=ES cC d;refine⟨_,_,?_,PC HE (vals:=c.cells) (el:=t) h1 k⟩;simp[ar4,newVar,newRow]
 ·cases h
theorem PD(HE:aJ E){rZ:List (List AV)}{d h:List ar}{k:aK}(hr:aw E rZ.flatten d)(h1:∀ x∈d,eW x=true)
  (hw:∀r∈rZ,r.length=sz) (W:gn rZ) (hn:rZ.length=n) (hC:n<=C) (O:h.length=(C-n)*sz) :
  dP E (.vQ sz E.H.length 0 0 n) (E.H++[.vQ sz 0 rZ]) (.slice (some ⟨E.w.heap.size,0,none⟩) n C) { E.w with heap:=E.w.heap.push (.cells (d++h).toArray k) }:=by
 have y:=Ext.push E.w (.cells (d++h).toArray k);have N:=ah.nW (o:=.vQ sz 0 rZ) (l:=some (E.w.heap.size,C)) HE.len y (fun b n hb=>by cases hb; exact aV _);have U:(E.w.heap.push (.cells (d++h).toArray k))[E.w.heap.size]?=some (.cells (d++h).toArray k (0,0)):=au;have I:=J1 (E':=E.push { E.w with heap:=E.w.heap.push (.cells (d++h).toArray k) } (.vQ sz 0 rZ) (some (E.w.heap.size,C))) (fun a c hr=>bW N a hr) U hr h1 hw hn hC O;refine⟨E.ae++[some (E.w.heap.size,C)],E.X.r,?_,aJ.push HE y (fun b n hb=>?_) ?_,N⟩
 ·simp only[ad]
  refine⟨⟨_,_,rfl,hC,fun _=>⟨_,_,rfl⟩⟩,⟨.vQ sz 0 rZ,au,rfl,fun v hv=>by simp[aj.aX]at hv; omega⟩,fun _=>⟨fun hn=>?_,fun b M hn=>?_⟩⟩
  ·rw[<-HE.len]at hn; simp at hn
  ·rw[<- HE.len]at hn
   simp_all
 grind
 ·simp only[a6]
  right;refine⟨E.w.heap.size,C,?_,I.1,ab,W,I.2⟩;simp only[ah.push];rw[<-HE.len];simp
theorem range_zero(z:Array ar)(n:Nat)(v:0<z.size):((kH (n*z.size)).map (fun i=>z[i%z.size]!)).toList=(cn n z.toList).flatten:=by
 induction n with
 |zero=>simp
 |succ n d=>
  rw[List.replicate_succ',Ej,<-d];simp only[El,List.flatten_nil,dY];apply kg;intro i;simp only[ar2,Array.toList_range,dw,jR,cP,List.length_range];by_cases y:i<n*z.size
  grind
  ·by_cases h:i<(n+1)*z.size
   ·have k:i - n*z.size<z.size:=by rw[pL]at h; omega
    have I:i%z.size=i-n*z.size:=by
     have:i=i-n*z.size+n*z.size:=ab;rw[this,Nat.add_mul_mod_self_right,Nat.mod_eq_of_lt k];omega
    grind
   grind
theorem PE(f:Nat->ar):OI f (kH 0)=#[]:=by apply mh; simp
def PF:ar->Option Kd
 |.int k _=>some (.int k)
 |.string _=>some .str
 |.bool _=>some .bool
 |_=>none
def J8:List ar->Option (List Kd)
 |[]=>some []
 |v::d=>match PF v,J8 d with
  |some k,some ks=>some (k::ks)
  |_,_=>none
def Bn(P:ak)(t:aK):Option (List Kd):=match P.underlying t with
 |some (.slice e)=>match P.info? e with
  |some i=>match i.zero with
   |some (.agg cs)=>J8 cs.toList
   |some v=>J8 [v]
   |none=>none
  |none=>none
 |_=>none
def E6(P:ak):Nat->aK->List aK
 |0,t=>[t]
 |d+1,t=>match P.underlying t with
  |some (.struct h)=>(h.toList.map fun f=>E6 P d f.type).flatten
  |some (.array n e)=>(cn n (E6 P d e)).flatten
  |_=>[t]
def qH:List ar->List (Option (List Kd))->List AV
 |[],_=>[]
 |v::d,ks=>(match v,ks.headD none with
  |.slice none 0 0,some k=>.listF k []
  |v,_=>.lit v)::qH d ks.tail
def kdZ:AV->Option Kd
 |.listF k _=>some (.list k)
 |.lit v=>PF v
 |_=>none
def PG:List AV->Option (List Kd)
 |[]=>some []
 |v::d=>match kdZ v,PG d with
  |some k,some ks=>some (k::ks)
  |_,_=>none
def aaE(P:ak)(t:aK):Option (List Kd):=match Bn P t with
 |some ks=>some ks
 |none=>match P.underlying t with
  |some (.slice e)=>match P.info? e with
   |some i=>match i.zero with
    |some (.agg cs)=>PG (qH cs.toList ((E6 P 4 e).map (Bn P)))
    |_=>none
   |none=>none
  |_=>none
def E7(P:ak)(e:aK)(z:List ar):List AV:=qH z ((E6 P 4 e).map (aaE P))
theorem PH:∀(z:List ar) (ks:List (Option (List Kd))),(qH z ks).length=z.length
 |[],_=>rfl
 |_::z,ks=>by simp[qH,PH z]
theorem PI{E:ah}:∀(z:List ar) (ks:List (Option (List Kd))),aw E (qH z ks) z
 |[],_=>by simp[qH,aw]
 |v::z,ks=>by
  simp only[qH,aw];refine⟨?_,PI z _⟩;split<;>simp_all[ad,gJ,G.rZ]
theorem PJ:∀(z:List ar) (ks:List (Option (List Kd))),AV.cd (qH z ks)=true
 |[],_=>rfl
 |v::z,ks=>by
  simp only[qH,AV.cd,PJ z,jQ];split<;>rfl
theorem PK{E:ah}{as:List AV}{z:List ar}(h:aw E as z):∀ n:Nat,aw E (cn n as).flatten (cn n z).flatten
 |0=>by simp[aw]
 |n+1=>by
  simp only[Zw,El];exact oS h (PK h n)
def Bo(P:ak)(t:aK)(l c:AV)(H:List aj):Option (AV × List aj):=
 match dO P t,l,c with
 |.slice e sz d,.lit (.int _ l),.lit (.int _ c)=>
  match gC P e with
  |some z=>if z.length=sz/\0<sz/\0<=l/\l<=c/\c<=1048576/\d<=1048576 then
    some (.vQ sz H.length 0 0 l.toNat,H++[.vQ sz 0 (cn l.toNat (E7 P e z))]) else none
  |none=>none
 |_,_,_=>none
theorem wrap_small{n:Int}(h0:0<=n)(h1:n<=1048576):IntKind.i64.wrap n=n:=by
 simp[IntKind.wrap,IntKind.bits,IntKind.signed];omega
theorem Bp{E:ah}(z:List ar):∀ n:Nat,aw E (cn n (z.map AV.lit)).flatten (cn n z).flatten
 |0=>by simp[aw]
 |n+1=>by
  simp only[Zw,El];exact oS (th z) (Bp z n)
theorem Bq{z:List α}{x:α}(h:x∈(cn n z).flatten):x∈z:=by
 obtain⟨l,h1,d⟩:=List.mem_flatten.1 h
 grind
theorem J9:∀(z:List ar),AV.cd (z.map .lit)=true
 |[]=>rfl
 |v::z=>by simp[AV.cd,AV.closed,J9 z]
theorem aaF(HE:aJ E){l c:AV}{cl cc:ar}(h:Bo P t l c E.H=some (v,H'))
  (hl:ad E l cl) (hc:ad E c cc):∃u w',(ar5 t cl cc).run P E.w=.ok u w'/\dP E v H' u w':=by
 unfold Bo at h;split at h
 case h_2=>cases h
 rename_i e sz by_ k1 l k2 c hk;simp only[ad]at hl hc;subst hl; subst hc;obtain⟨hu,i,hi,hs,hby⟩:=kn hk;split at h
 case h_2=>cases h
 rename_i z hz;split at h
 case isFalse=>cases h
 rename_i hcond;obtain⟨g1,g2,g3,g4,g5,g6⟩:=hcond;cases h;obtain⟨i',k,O,hz1,U,hz3⟩:=pV hz;rw[hi]at O;cases O;have wl:IntKind.i64.wrap l=l:=wrap_small g3 ab;have wc:IntKind.i64.wrap c=c:=wrap_small ab g5;have hbc:(i.bytes:Int)*c<=1048576*1048576:=by
  have h1:(i.bytes:Int)<=1048576:=ab;have I:(0:Int)<=c:=ab;exact Int.mul_le_mul h1 g5 I ab
 have hne:¬ (281474976710656<(i.bytes:Int)*c):=ab;have hzs:k.cells.size=sz:=by rw[<-g1,<-U]; simp
 have N:(cn l.toNat z).flatten++(cn (c.toNat-l.toNat) z).flatten=(cn c.toNat z).flatten:=by
  rw[<-Ej,List.replicate_append_replicate];congr 2;omega
 obtain⟨y,M⟩:∃y,y=(cn l.toNat z).flatten:=⟨_,rfl⟩
 obtain⟨d,W⟩:∃d,d=(cn (c.toNat-l.toNat) z).flatten:=⟨_,rfl⟩
 have hrest:d.length=(c.toNat-l.toNat)*sz:=by rw[W]; simp[g1]
 rw[<-M,<-W]at N;refine⟨.slice (some ⟨E.w.heap.size,0,none⟩) l.toNat c.toNat,{ E.w with heap:=E.w.heap.push (.cells (y++d).toArray e) },?_,?_⟩
 ·have h1:¬ c<0 :=ab
  have I:¬ l<0:=ab;have h3:¬ c<l:=ab;simp only[ar5,dN,Sem.bT hu,dZ,asInt,asIntOf,ke,typeInfo,run_program,hi,wl,wc];rw[iN (by simp[h1,I,h3,hne])];simp only[dN,run_askRoom,dZ,Sem.run_sizeOf hi];rw[N];by_cases h0:c.toNat*i.size=0
  ·have:c.toNat=0:=by
    rcases Zx.1 h0 with h|h
    ·exact h
    ·omega
   rw[iP h0];simp only[dN,ke,dZ,newRow,this,xB,PE];simp
  ·rw[iN h0]
   simp only[dN,pW hi hz1,dZ,ke,newRow];have:(OI (fun x=>k.cells[x%k.cells.size]!) (kH (c.toNat*i.size)))=(cn c.toNat z).flatten.toArray:=by
    apply mh;rw[hs,<-hzs,range_zero k.cells c.toNat ab,U]
   simp_all
 ·refine PD HE (C:=c.toNat) (by rw[M]; exact PK (PI z _) _) (by intro x hx; rw[M]at hx; exact hz3 x (Bq hx)) ?_ ?_ au ab hrest
  grind[E7,PH]
  ·intro r hr
   have:=List.eq_of_mem_replicate hr;rw[this];exact PJ z _
def yb(P:ak)(t:aK)(n:Nat)(parts:List (Nat × AV)):Option AV:=
 match dO P t with
 |.slice e sz _=>match gC P e with
  |some z=>if z.length=sz/\0<sz/\n*sz<=1048576 then
    match vG (fun i=>some (i*sz,sz)) (cn n (z.map AV.lit)).flatten parts with
    |some out=>if AV.cd out=true/\out.length=n*sz then some (match n with|0=>.nils|_=>.list sz (chunk sz n out)) else none
    |none=>none
   else none
  |none=>none
 |_=>none
theorem aaG(HE:aJ E){parts:List (Nat × AV)}{cparts:List (Nat × ar)}(h:yb P t n parts=some v)
  (hm:parts.map (·.1)=cparts.map (·.1)) (hv:aw E (parts.map (·.2)) (cparts.map (·.2))) :
  ∃u w',(OK t n cparts.toArray).run P E.w=.ok u w'/\Ext E.w w'/\ad { E with w:=w' } v u:=by
 unfold yb at h;split at h
 case h_2=>cases h
 rename_i e sz by_ hk;obtain⟨hu,i,hi,U,_⟩:=kn hk;split at h
 case h_2=>cases h
 rename_i z hz;obtain⟨i',k,N,hz1,O,hz3⟩:=pV hz;rw[hi]at N;cases N;split at h
 case isFalse=>cases h
 rename_i hc;obtain⟨g1,g2,g3⟩:=hc;split at h
 case h_2=>cases h
 rename_i out W;split at h
 case isFalse=>cases h
 rename_i hcl;cases h;have hzs:k.cells.size=sz:=by rw[<-g1,<-O]; simp
 obtain⟨d,y⟩:∃d:Array ar,d.toList=(cn n z).flatten:=⟨((cn n z).flatten).toArray,au⟩
 obtain⟨o,f1,f2,f3⟩:=Bk (E:=E) (cs:=d) W (by rw[y]; exact Bp z n) (by rw[y]; intro x I; exact hz3 x (Bq I)) hm hv;have M:=Ext.push E.w (.cells o e);have hblk:(E.w.heap.push (.cells o e))[E.w.heap.size]?=some (.cells o e (0,0)):=au;refine⟨.slice (some ⟨E.w.heap.size,0,none⟩) n n,{ E.w with heap:=E.w.heap.push (.cells o e) },?_,M,?_⟩
 ·have hno:¬ (n*i.size>2 ^ 24):=by rw[U]; omega
  simp only[OK,dN,Sem.bT hu,dZ,Sem.run_sizeOf hi];rw[iN hno];by_cases h0:n*i.size=0
  ·have hn0:n=0:=by
    rcases Zx.1 h0 with h|h
    ·exact h
    ·omega
   simp_all[PE,newRow]
  ·rw[iN h0]
   simp only[dN,pW hi hz1,dZ,ke];have:(OI (fun x=>k.cells[x%k.cells.size]!) (kH (n*i.size)))=d:=by
    apply mh;rw[U,<-hzs,range_zero k.cells n ab,O,y]
   simp_all[newRow]
 ·have hle:E.le { E with w:={ E.w with heap:=E.w.heap.push (.cells o e) } }:=ah.lN M
  cases n with
  |zero=>grind[ad]
  |succ n=>
  simp only[ad];refine⟨JY sz _ out hcl.1,some ⟨E.w.heap.size,0,none⟩,n+1,by rw[Bl],by rw[Bl]; exact aV _,.inr ⟨E.w.heap.size,0,rfl,?_,?_⟩⟩
  ·refine⟨au,?_,fun I=>by have:=HE.X _ I; omega⟩
   rintro ho;have:=(HE.EH ho).1;omega
  grind[Pr,ET,eX]
end Go.AL
