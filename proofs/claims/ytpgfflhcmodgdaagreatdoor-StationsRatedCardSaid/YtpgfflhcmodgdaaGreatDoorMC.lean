/-
 What is proved here: owned objects of data,and what operations do to them,with what must hold so that they do it. No program in sight; no condition.
-/
import Derived.Test.YtpgfflhcmodgdaaGreatDoorMB
import Derived.Eval
import Derived.KernelRfl
set_option linter.all false
open Array renaming toList_append->xG
open Bool renaming and_eq_true->aO,false_eq_true->rA,not_eq_true'->xE,or_eq_true->vm,eq_iff_iff->s_
open ByteArray renaming empty->Ed
open Decidable renaming byContradiction->Jl
open Go renaming Value->ar,FuncId->bJ,TypeId->aK,Program->ak,Operand->cM,Oper->aQ
open Go.Call renaming operands->A6
open Go.Op renaming operands->lh
open Go.Utf8 renaming decode->sY
open Go.Value.slice renaming injEq->qz
open List renaming length_cons->cz,length_map->cP,getElem_of_mem->pK,getElem?_eq_getElem->cB,mem_of_getElem?->gg,getElem?_append_left->fT,getElem?_set_ne->bL,getD_eq_getElem?_getD->dc,getElem?_map->dw,map_cons->e9,ext_getElem?->kg,all_eq_true->eD,mem_cons->c_,mem_append->dm,replicate->cn,mem_cons_self->dx,all_cons->pM,mem_cons_of_mem->dh,take_of_length_le->s7,getElem?_append_right->lf,map_append->kj,nodup_cons->oL,getElem?_inj->Jg,mem_map->dS,map_set->vn,headD_cons->xH,length_nil->km,map_nil->A8,findIdx?_cons->asb,length->xJ,mem_flatMap->ZH
open Nat renaming le_refl->aV,lt_of_lt_of_le->fD,zero_le->fy,lt_or_ge->nU,zero_add->dj,sub_zero->iz,add_zero->sU,beq->aD,eq_of_beq_eq_true->bN,sub_self->oK,ble->dv,blt->dy,ble_eq->ml,blt_eq->jC,beq_refl->jD,le_of_ble_eq_true->vo,lt_succ_of_lt->Er
open Option renaming map_eq_some_iff->gj,isSome_none->Je,map_some->ki,map_none->A7,isSome_some->Jm,map_map->OS
open Option.some renaming injEq->bD,inj->jB
open Prod.mk renaming injEq->bM
namespace Go.AL
open Go
abbrev Kd.I:Kd:=.int .i64
abbrev BY:=ByteArray
abbrev LG:=List G
abbrev bp:=Option (Option Nat × LG)
abbrev LL:=List LG
variable [Dr]
def cO:Int->Bool
 |.ofNat _=>true
 |.negSucc _=>false
def bq:Int->Int->Bool
 |.ofNat x,.ofNat y=>dv x y
 |.ofNat _,.negSucc _=>false
 |.negSucc _,.ofNat _=>true
 |.negSucc x,.negSucc y=>dv y x
def aN:Int->Int->Bool
 |.ofNat x,.ofNat y=>dy x y
 |.ofNat _,.negSucc _=>false
 |.negSucc _,.ofNat _=>true
 |.negSucc x,.negSucc y=>dy y x
def aA(n:Int):Bool:=bq (-9223372036854775808) n&&bq n 9223372036854775807
def lq(n:Int):cO n=decide (0<=n):=by
 cases n with
 |ofNat x=>simp[cO]
 |negSucc x=>simp[cO]
theorem fe(a b:Int):bq a b=decide (a<=b):=by
 rw[s_];cases a<;>cases b<;>simp[bq,ml]<;>(try omega)
theorem cS(a b:Int):aN a b=decide (a<b):=by
 rw[s_];cases a<;>cases b<;>simp[aN,jC]<;>(try omega)
def er{n:Int}:aA n=true↔-9223372036854775808<=n/\n<=9223372036854775807:=by
 simp[aA,fe]
def g0(r:LG):G:=r.headD default
def gi:LG->Nat->G
 |r,0=>r.headD default
 |r,i+1=>gi r.tail i
def G.rV(g:G):LG:=g.rZ.headD []
def tC:Kd->G->G->Bool
 |.int _,a,b=>a.iV==b.iV
 |.str,a,b=>a.sV.toList==b.sV.toList
 |.bool,a,b=>a.bV==b.bV
 |.list _,_,_=>false
def aZ:List Kd->LG->LG->Bool
 |[],_,_=>true
 |k::ks,r,s=>tC k (r.headD default) (s.headD default)&&aZ ks r.tail s.tail
inductive Ct where
 |one (k:Kd)
 |agg (ks:List Kd)
 deriving Inhabited
def Ct.ks:Ct->List Kd
 |.one k=>[k]
 |.agg ks=>ks
def Ct.av:Ct->LG->AV
 |.one k,r=>oN k (r.headD default)
 |.agg ks,r=>.agg (aY ks r)
def Ct.tD(k:Ct)(r:LG):(k.av r).closed=true:=by
 cases k with
 |one k=>cases k<;>rfl
 |agg ks=>grind[Ct.av,AV.closed,iR]
inductive ax where
 |raw (o:aj)
 |vQ (ks:List Kd) (aq:Nat) (rZ:LL)
 |map (K V:Ct) (rZ:LL) (clock:Nat)
 |ba (l:Nat) (K:Ct) (ks:List Kd) (rZ:LL) (clock:Nat)
 |mm (l:Nat) (K KI VI:Ct) (rZ mem:LL) (clock:Nat)
 |cZ (l:Nat) (ks:List Kd) (n:Nat) (ms:LL)
 |bU (l:Nat) (K:Ct) (ks:List Kd) (rZ:LL) (clock:Nat)
def dA(K V:Ct)(rZ:LL):List (AV × AV × Nat):=rZ.map fun r=>(K.av (gi r 0).rV,V.av (gi r 1).rV,(gi r 2).iV.toNat)
def lr(r:LG):LL:=((gi r 1).rV.headD default).rZ
def kO(K:Ct)(ks:List Kd)(r:LG):AV × Option (List (List AV)) × Nat:=((bif (gi r 4).bV && !(gi r 3).bV then .tuple [K.av (gi r 0).rV,.listF ks (lr r)] else K.av (gi r 0).rV),(bif (gi r 3).bV then some ((lr r).map (aY ks)) else none),(gi r 2).iV.toNat)
def iI(K:Ct)(ks:List Kd)(rZ:LL):List (AV × Option (List (List AV)) × Nat):=rZ.map (kO K ks)
def BH(m:LG):LL:=(g0 m).rZ
def lR(d:LL)(j:Nat):LL:=BH (d.getD j [])
def oe(r:LG)(s:Nat):LL:=(gi (gi r 1).rV s).rZ
def p9(K:Ct)(ks:List Kd)(r:LG):AV × (Option (List (List AV)) × Option (List (List AV))) × Nat:=
 (K.av (gi r 0).rV,(bif (gi r 3).bV then (some ((oe r 0).map (aY ks)),some ((oe r 1).map (aY ks))) else (none,none)),(gi r 2).iV.toNat)
def ns(K:Ct)(ks:List Kd)(rZ:LL):List (AV × (Option (List (List AV)) × Option (List (List AV))) × Nat):=rZ.map (p9 K ks)
def vZ(r:LG):Option Nat:=bif bq 0 (gi r 1).iV then some (gi r 1).iV.toNat else none
def lS(K:Ct)(rZ:LL):List (AV × Option Nat × Nat):=rZ.map fun r=>(K.av (gi r 0).rV,vZ r,(gi r 2).iV.toNat)
def tF(d h:Ct)(mem:LL):List (List (AV × AV × Nat) × Nat):=mem.map fun m=>(dA d h (gi m 0).rZ,(gi m 1).iV.toNat)
def ax.ao:ax->aj
 |.raw o=>o
 |.ba l K ks rZ d=>.ba l ks.length (iI K ks rZ) d
 |.map K V rZ d=>.map (dA K V rZ) d
 |.mm l K h k rZ mem d=>.mm l (lS K rZ) (tF h k mem) d
 |.cZ l ks n v=>.cZ l ks.length n (v.map fun m=>(BH m).map (aY ks))
 |.bU l K ks rZ d=>.bU l ks.length (ns K ks rZ) d
 |.vQ ks aq rZ=>.vQ ks.length aq (rZ.map (aY ks))
def ay(H:List ax):List aj:=H.map ax.ao
structure aG where
 fr:List AV
 H:List ax
def aG.ao(s:aG):St:=⟨s.fr,ay s.H⟩
def aG.eval(s:aG)(o:cM):AV:=St.eval ⟨s.fr,[]⟩ o
def aG.put(s:aG)(dst:Option Tmp)(v:AV)(H':List ax):aG:=⟨nr s.fr dst v,H'⟩
def aG.qJ(s:aG):s.ao.eval=s.eval:=by
 funext o
 cases o<;>rfl
variable {id j sz h n i A:Nat} {H H':List ax} {a x v k m:AV} {rZ:LL} {P:ak} {b:Bool} {t xt:aK} {z:List ar} {hi lo:Option AV} {K:Ct} {α:Type} {r:cM->AV} {f:bJ} {E:ah} {c:ar} {args d:List AV} {ai:Array aQ} {o:aQ} {op:Op} {Q:cu->aG->Prop} {s:aG}
theorem bt{o:ax}(h:H[id]?=some o):(ay H)[id]?=some o.ao:=by simp[ay,h]
theorem dq(H:List ax)(id:Nat)(o:ax):ay (H.set id o)=(ay H).set id o.ao:=by simp[ay,vn]
theorem kP(H:List ax)(o:ax):ay (H++[o])=ay H++[o.ao]:=by simp[ay]
theorem fB(H:List ax):(ay H).length=H.length:=by simp[ay]
mutual
def Kd.same:Kd->Kd->Bool
 |.int k,.int h=>decide (k=h)
 |.str,.str=>true
 |.bool,.bool=>true
 |.list ks,.list d=>Kd.iX ks d
 |_,_=>false
def Kd.iX:List Kd->List Kd->Bool
 |[],[]=>true
 |k::ks,h::d=>k.same h&&Kd.iX ks d
 |_,_=>false
end
mutual
theorem Kd.nt:∀{k d:Kd},k.same d=true->k=d
 |.int k,.int d,h=>by simp[Kd.same]at h; rw[h]
 |.str,.str,_=>rfl
 |.bool,.bool,_=>rfl
 |.list ks,.list v,h=>by simp only[Kd.same]at h; rw[Kd.jV h]
 |.int _,.str,h | .int _,.bool,h | .int _,.list _,h | .str,.int _,h | .str,.bool,h | .str,.list _,h=>by simp[Kd.same]at h
 |.bool,.int _,h | .bool,.str,h | .bool,.list _,h | .list _,.int _,h | .list _,.str,h | .list _,.bool,h=>by simp[Kd.same]at h
theorem Kd.jV:∀{k d:List Kd},Kd.iX k d=true->k=d
 |[],[],_=>rfl
 |k::ks,d::v,h=>by simp only[Kd.iX,aO]at h; rw[Kd.nt h.1,Kd.jV h.2]
 |[],_::_,h|_::_,[],h=>by simp[Kd.iX]at h
end
def Ct.same:Ct->Ct->Bool
 |.one k,.one h=>k.same h
 |.agg ks,.agg d=>Kd.iX ks d
 |_,_=>false
theorem Ct.nt{K d:Ct}(h:K.same d=true):K=d:=by
 cases K<;>cases d<;>simp only[Ct.same]at h<;>grind[Kd.nt,Kd.jV]
def BI:Kd->AV->Option G
 |.int k,.lit (.int h n)=>if k=h then some (.i n) else none
 |.str,.lit (.string s)=>some (.s s)
 |.bool,.lit (.bool b)=>some (.t b)
 |.list ks,.listF d rZ=>if Kd.iX ks d then some (.l rZ) else none
 |_,_=>none
def jF:List Kd->List AV->Option LG
 |[],[]=>some []
 |k::ks,a::as=>match BI k a,jF ks as with
  |some g,some d=>some (g::d)
  |_,_=>none
 |_,_=>none
def cf(ks:List Kd):List (List AV)->Option LL
 |[]=>some []
 |r::rs=>match jF ks r,cf ks rs with
  |some g,some d=>some (g::d)
  |_,_=>none
theorem KP{k:Kd}{g:G}(h:BI k a=some g):oN k g=a:=by
 unfold BI at h;split at h
 ·split at h
  ·rename_i e; cases h; subst e; rfl
  ·cases h
 ·cases h; rfl
 ·cases h; rfl
 ·split at h
  ·rename_i e; cases h; rw[Kd.jV e]; rfl
  ·cases h
 ·cases h
theorem og:∀{ks:List Kd} {as:List AV} {d:LG},jF ks as=some d->aY ks d=as
 |[],[],_,h=>by simp[jF]at h; subst h; rfl
 |k::ks,a::as,d,h=>by
  simp only[jF]at h;split at h
  ·rename_i g y h1 v
   cases h;simp[aY,KP h1,og v]
  ·cases h
 |[],_::_,_,h|_::_,[],_,h=>by simp[jF]at h
theorem QC:∀{ks:List Kd} {as:List AV} {d:LG},jF ks as=some d->d.length=ks.length/\as.length=ks.length
 |[],[],_,h=>by simp[jF]at h; subst h; exact⟨rfl,rfl⟩
 |k::ks,a::as,d,h=>by
  simp only[jF]at h;split at h
  ·rename_i g y h1 v
   cases h;have:=QC v
   grind
  ·cases h
 |[],_::_,_,h|_::_,[],_,h=>by simp[jF]at h
theorem tG{ks:List Kd}:∀{rs:List (List AV)} {d:LL},cf ks rs=some d->d.map (aY ks)=rs
 |[],_,h=>by simp[cf]at h; subst h; rfl
 |r::rs,d,h=>by
  simp only[cf]at h;split at h
  ·rename_i g v h1 k
   cases h;simp[og h1,tG k]
  ·cases h
def BJ:AV->Option Kd
 |.lit (.int k _)=>some (.int k)
 |.lit (.string _)=>some .str
 |.lit (.bool _)=>some .bool
 |.listF ks _=>some (.list ks)
 |_=>none
def tH:List AV->Option (List Kd)
 |[]=>some []
 |a::as=>match BJ a,tH as with
  |some k,some ks=>some (k::ks)
  |_,_=>none
def tJ:List Kd->LG->LG
 |[],_=>[]
 |_::ks,r=>r.headD default::tJ ks r.tail
theorem KQ:∀(ks:List Kd) (r:LG),(tJ ks r).length=ks.length
 |[],_=>rfl
 |_::ks,r=>by simp[tJ,KQ ks]
def eh(ks:List Kd)(r:LG)(d:Nat)(h:LG):LG:=(tJ ks r).take d++h++(tJ ks r).drop (d+h.length)
theorem QD:∀(ks:List Kd) (r:LG) (n:Nat),(aY ks r).take n=aY (ks.take n) r
 |[],_,n=>by simp[aY]
 |_::_,_,0=>by simp[aY]
 |k::ks,r,n+1=>by simp[aY,QD ks]
theorem QE:∀(ks:List Kd) (r:LG) (n:Nat),(aY ks r).drop n=aY (ks.drop n) (r.drop n)
 |[],_,n=>by simp[aY]
 |_::_,_,0=>by simp
 |k::ks,r,n+1=>by simp[aY,QE ks]
theorem KR:∀(ks d:List Kd) (r v:LG),r.length=ks.length->aY (ks++d) (r++v)=aY ks r++aY d v
 |[],d,r,v,h=>by
  have:r=[]:=List.length_eq_zero_iff.1 h;subst this;simp[aY]
 |k::ks,d,r,v,h=>by
  cases r with
  |nil=>simp at h
  |cons x r=>simp[aY,KR ks d r v (by simpa using h)]
theorem KS:∀(ks:List Kd) (r:LG),aY ks (tJ ks r)=aY ks r
 |[],_=>rfl
 |k::ks,r=>by simp[aY,tJ,KS ks]
theorem QF{ks:List Kd}{r v:LG}{cs:List AV}{d:Nat} (h:jF ((ks.drop d).take cs.length) cs=some v) (N:d+cs.length<=ks.length) :
  aY ks (eh ks r d v)=putCells (aY ks r) cs d:=by
 obtain⟨h1,O⟩:=QC h;have M:((ks.drop d).take cs.length).length=cs.length:=bS;have y:v.length=cs.length:=ab;have I:ks=(ks.take d++(ks.drop d).take cs.length)++ks.drop (d+cs.length):=by
  grind[List.take_append_drop]
 unfold eh putCells;have hn:=KQ ks r
 conv=>lhs; arg 1; rw[I]
 rw[KR _ _ _ _ (by simp[hn,y]; omega),KR _ _ _ _ (by simp[hn]),og h,y];congr 1
 ·congr 1
  rw[<-KS ks r,QD];have:∀(ks:List Kd) (r:LG) (n:Nat),ks.length<=n->aY ks (r.take n)=aY ks r:=by
   intro ks
   induction ks with
   |nil=>intros; rfl
   |cons k ks U=>
    intro r n hn;cases n with
    |zero=>simp at hn
    |succ n=>
     cases r with
     |nil=>rfl
     |cons x r=>grind[aY]
  grind
 grind[KS,QE]
theorem BK{ks:List Kd}{row:Nat}(h:row<rZ.length):(rZ.map (aY ks))[row]?=some (aY ks (rZ.getD row [])):=by
 rw[dw,dc,cB h];rfl
def lT:List AV->Option (List Int)
 |[]=>some []
 |.lit (.int .i64 n)::l=>match lT l with
  |some q=>some (n::q)
  |none=>none
 |_=>none
theorem KT:∀{cells:List AV} {l:List Int},lT cells=some l->∀ i,i<l.length->cells[i]? = some (.lit (.int .i64 (l.getD i 0)))
 |[],l,h,i,hi=>by
  simp only[lT,bD]at h;subst h;simp at hi
 |c::cells,l,h,i,hi=>by
  unfold lT at h;split at h
  grind
  ·rename_i n l' he
   cases he;split at h
   ·rename_i q hq
    cases h;cases i with
    |zero=>rfl
    |succ i=>
     simp only[cz]at hi;have:=KT hq i ab
     grind
   ·cases h
  ·cases h
theorem QG:∀{cells:List AV} {l:List Int},lT cells=some l->cells.length=l.length
 |[],l,h=>by
  simp only[lT,bD]at h;subst h;rfl
 |c::cells,l,h=>by
  unfold lT at h;split at h
  ·rename_i he
   cases he
  ·rename_i n l' he
   cases he;split at h
   ·rename_i q hq
    cases h;simp[QG hq]
   ·cases h
  ·cases h
def v_(v:Int)(d:Nat):Nat->List Int->List AV
 |_,[]=>[]
 |k,n::l=>.lit (.int .i64 (bif aD d k then v else n))::v_ v d (k+1) l
theorem QH{v:Int}{d:Nat}:∀{cells:List AV} {l:List Int} {k:Nat},lT cells=some l->d<k->v_ v d k l=cells
 |[],l,k,h,_=>by
  simp only[lT,bD]at h;subst h;rfl
 |c::cells,l,k,h,y=>by
  unfold lT at h;split at h
  grind
  ·rename_i n l' he
   cases he;split at h
   ·rename_i q hq
    cases h;have hb:aD d k=false:=by
     cases hb:aD d k with
     |false=>rfl
     |true=>simp_all
    simp only[v_,hb,cF,QH hq (show d<k+1 by omega)]
   ·cases h
  ·cases h
theorem QI{v:Int}:∀{cells:List AV} {l:List Int} {k d:Nat},lT cells=some l->d<l.length->v_ v (k+d) k l=putCells cells [.lit (.int .i64 v)] d
 |[],l,k,d,h,y=>by
  simp only[lT,bD]at h;subst h;simp at y
 |c::cells,l,k,d,h,y=>by
  unfold lT at h;split at h
  ·rename_i he
   cases he
  ·rename_i n l' he
   cases he;split at h
   ·rename_i q hq
    cases h;cases d with
    |zero=>
     simp only[v_,sU,jD,cT,QH hq (Nat.lt_succ_self k)];rfl
    |succ d=>
     have hb:aD (k+(d+1)) k=false:=by
      cases hb:aD (k+(d+1)) k with
      |false=>rfl
      |true=>have:=bN hb; omega
     have I:=QI (v:=v) (k:=k+1) hq (show d<q.length by simp only[cz]at y; omega);rw[show k+1+d=k+(d+1) by omega]at I;simp only[v_,hb,cF,I];rfl
   ·cases h
  ·cases h
def KU(P:ak)(t:aK)(x:AV)(H:List ax):Option (Bool × AV):=
 match x with
 |.ptr id aq w row d=>match H[id]? with
  |some (.vQ ks v rZ)=>match gL P t with
   |some (n,agg)=>if aq=v/\ks.length=w then (match kJ agg n ((aY ks (rZ.getD row [])).drop d) with
     |some u=>some (decide (row<rZ.length),u)
     |none=>none) else none
   |none=>none
  |some (.raw (.box cells))=>match gL P t with
   |some (n,agg)=>if aq=0/\row=0 then (match agg,lT cells with
     |false,some l=>some (dy d l.length,.lit (.int .i64 (l.getD d 0)))
     |_,_=>match kJ agg n (cells.drop d)with
     |some u=>some (true,u)
     |none=>none) else none
   |none=>none
  |some (.cZ l _ _ h)=>match gL P t with
   |some (n,agg)=>if aq=0/\w=1/\d=0 then (match kJ agg n [.svec id l row (lR h row).length] with
     |some u=>some (dy row h.length,u)
     |none=>none) else none
   |none=>none
  |_=>none
 |.sptr id l j w row d=>match H[id]? with
  |some (.cZ l' ks _ h)=>match gL P t with
   |some (n,agg)=>if l=l'/\ks.length=w then (match kJ agg n ((aY ks ((lR h j).getD row [])).drop d) with
     |some u=>some (dy j h.length&&dy row (lR h j).length,u)
     |none=>none) else none
   |none=>none
  |_=>none
 |.cptr cells=>match gL P t with
  |some (n,agg)=>match kJ agg n cells with
   |some u=>some (true,u)
   |none=>none
  |none=>none
 |_=>none
theorem KV{ks:List Kd}{d:LL}(h:j<d.length):(d.map fun m=>(BH m).map (aY ks))[j]?=some ((lR d j).map (aY ks)):=by
 unfold lR;rw[dw,dc,cB h];rfl
theorem ab9{u:AV}(h:KU P t x H=some (b,u))(hb:b=true):nm P t x (ay H)=some u:=by
 unfold KU at h;unfold nm;split at h
 ·rename_i id aq w row N
  split at h
  ·rename_i ks v rZ I
   split at h
   case h_2=>cases h
   rename_i n agg d;split at h
   case isFalse=>cases h
   rename_i y;split at h
   case h_2=>cases h
   rename_i M k;simp only[bD,bM]at h;obtain⟨h1,rfl⟩:=h;subst hb;simp only[dT]at h1;rw[d];simp only[bt I,ax.ao];rw[iP ⟨y.1,y.2⟩,BK h1];exact k
  ·rename_i cells I
   split at h
   case h_2=>cases h
   rename_i n agg d;split at h
   case isFalse=>cases h
   rename_i y;rw[d];simp only[bt I,ax.ao];rw[iP y];split at h
   ·rename_i l O
    simp only[bD,bM]at h;obtain⟨h1,rfl⟩:=h;subst hb;rw[jC]at h1;simp only[kJ,rA,if_false,List.getElem?_drop,sU];exact KT O N h1
   ·split at h
    case h_2=>cases h
    rename_i M k;cases h;exact k
  ·rename_i l ks U W I
   split at h
   case h_2=>cases h
   rename_i n agg d;split at h
   case isFalse=>cases h
   rename_i y;split at h
   case h_2=>cases h
   rename_i M k;simp only[bD,bM]at h;obtain⟨h1,rfl⟩:=h;subst hb;rw[jC]at h1;rw[d];simp only[bt I,ax.ao];rw[iP y,KV h1];simp only[cP];exact k
  ·cases h
 ·rename_i id l j w row N
  split at h
  ·rename_i l' ks U W I
   split at h
   case h_2=>cases h
   rename_i n agg d;split at h
   case isFalse=>cases h
   rename_i y;split at h
   case h_2=>cases h
   rename_i M k;simp only[bD,bM,aO]at h;obtain⟨h1,rfl⟩:=h;subst hb;rw[aO,jC,jC]at h1;rw[d];simp only[bt I,ax.ao];rw[iP y,KV h1.1];simp only[];rw[BK h1.2];exact k
  ·cases h
 ·rename_i cells
  split at h
  case h_2=>cases h
  rename_i n agg d;split at h
  case h_2=>cases h
  rename_i M k;cases h;rw[d];exact k
 ·cases h
def yu(P:ak)(t:aK)(x v:AV)(H:List ax):Option (Bool × List ax):=
 match gL P t,qE v,x with
 |some (n,_),some cs,.ptr id aq w row d=>
  if cs.length=n then
   match H[id]? with
   |some (.raw (.box cells))=>match cs,lT cells with
    |[.lit (.int .i64 z)],some l=>if aq=0/\row=0/\n=1 then some (dy d l.length,H.set id (.raw (.box (v_ z d 0 l)))) else none
    |_,_=>if aq=0/\row=0/\d+n<=cells.length then some (true,H.set id (.raw (.box (putCells cells cs d)))) else none
   |some (.vQ ks u rZ)=>
    if aq=u/\ks.length=w/\d+cs.length<=ks.length then
     match jF ((ks.drop d).take cs.length) cs with
     |some h=>some (decide (row<rZ.length),H.set id (.vQ ks u (rZ.set row (eh ks (rZ.getD row []) d h))))
     |none=>none
    else none
   |_=>none
  else none
 |_,_,_=>none
theorem KW(h:yu P t x v H=some (b,H'))(hb:b=true):qG P t x v (ay H)=some (ay H'):=by
 unfold yu at h;unfold qG;split at h
 case h_2=>cases h
 rename_i n ag cs id aq w row col O cC;rw[O,cC];simp only[];split at h
 case isFalse=>cases h
 rename_i hn;rw[iP hn];split at h
 ·rename_i cells y
  split at h
  ·rename_i z l I
   split at h
   case isFalse=>cases h
   rename_i d;simp only[bD,bM]at h;obtain⟨h1,rfl⟩:=h;subst hb;rw[jC]at h1;have hlen:=QG I;simp only[bt y,ax.ao];rw[iP ⟨d.1,d.2.1,ab⟩,dq];have:=QI (v:=z) (k:=0) I h1;rw[dj]at this;rw[this];rfl
  ·split at h
   case isFalse=>cases h
   rename_i d;cases h;simp only[bt y,ax.ao];rw[iP d,dq];rfl
 ·rename_i ks u rZ y
  split at h
  case isFalse=>cases h
  rename_i d;obtain⟨U,W,c3⟩:=d;split at h
  case h_2=>cases h
  rename_i gs M;simp only[bD,bM]at h;obtain⟨h1,rfl⟩:=h;subst hb;simp only[dT]at h1;simp only[bt y,ax.ao];have N:AV.cd cs=true:=by rw[<-og M]; exact iR _ _
  rw[iP ⟨U,W,N⟩,BK h1];simp only[vw];rw[iP ab,dq]
  grind[ax.ao,vn,QF]
 ·cases h
def BL(P:ak)(t:aK)(x v:AV)(H:List ax):Option (Bool × List ax):=
 match gL P t,qE v,x with
 |some (n,_),some cs,.sptr id l j w row h=>match H[id]? with
  |some (.cZ l' ks k d)=>if cs.length=n/\l=l'/\ks.length=w/\h+cs.length<=ks.length then
    match jF ((ks.drop h).take cs.length) cs with
    |some y=>some (dy j d.length&&dy row (lR d j).length,H.set id (.cZ l ks k (d.set j [.l ((lR d j).set row (eh ks ((lR d j).getD row []) h y))])))
    |none=>none
   else none
  |_=>none
 |_,_,_=>none
theorem ab_(h:BL P t x v H=some (b,H'))(hb:b=true):vS P t x v (ay H)=some (ay H')/\qG P t x v (ay H)=none:=by
 unfold BL at h;unfold vS qG;split at h
 case h_2=>cases h
 rename_i n ag cs id l j w row W I cC;rw[I,cC];simp only[];split at h
 case h_2=>cases h
 rename_i l' ks nn ms d;split at h
 case isFalse=>cases h
 rename_i M;obtain⟨N,O,U,c4⟩:=M;split at h
 case h_2=>cases h
 rename_i gs k;simp only[bD,bM]at h;obtain⟨h1,rfl⟩:=h;subst hb;rw[aO,jC,jC]at h1;have y:AV.cd cs=true:=by rw[<-og k]; exact iR _ _
 simp only[bt d,ax.ao];rw[iP ⟨N,O,U,y⟩,KV h1.1];simp only[];rw[BK h1.2];simp only[vw];rw[iP ab,dq];simp only[ax.ao,vn,BH,g0,xH,G.rZ]
 grind[QF]
def BM(P:ak)(t:aK)(x v:AV)(H:List ax):Option (Bool × List ax):=
 match gL P t,x,v with
 |some (sz,_),.ptr id O pw row M,.vQ k j aq oF n=>match H[id]?,H[j]? with
  |some (.cZ l ks h y),some (.vQ N I d)=>if sz=1/\O=0/\pw=1/\M=0 then
    match Kd.iX ks N&&(aD k ks.length&&(aD aq I&&aD oF 0))with
    |true=>some ((aD n d.length&&dy 0 n)&&(aD row y.length&&dy row h),(H.set id (.cZ l ks h (y++[[.l d]]))).set j (.raw .dead))
    |false=>none
   else none
  |_,_=>none
 |_,_,_=>none
theorem ab'(h:BM P t x v H=some (b,H'))(hb:b=true):
  By P t x v (ay H)=some (ay H')/\qG P t x v (ay H)=none/\vS P t x v (ay H)=none:=by
 unfold BM at h;unfold By qG vS;split at h
 case h_2=>cases h
 rename_i sz ag id pv pw row col k j aq oF n ht;rw[ht];simp only[qE];split at h
 case h_2=>cases h
 rename_i l ks nn ms ks2 ver' rws M hj;split at h
 case isFalse=>cases h
 rename_i hc;split at h
 case h_2=>cases h
 rename_i I;simp only[aO]at I;obtain⟨N,O,U,W⟩:=I;have e1:=Kd.jV N;subst e1;have e2:=bN O;have e3:=bN U;have e4:=bN W;subst e2 e3 e4;simp only[bD,bM]at h;obtain⟨h1,rfl⟩:=h;rw[hb]at h1;simp only[aO,jC]at h1;obtain⟨⟨d,g2⟩,y,g4⟩:=h1;have d:=bN d;have y:=bN y;simp only[bt M,bt hj,ax.ao];rw[iP ⟨hc,⟨trivial,trivial,trivial,trivial⟩,⟨by simpa using d,g2⟩,by simpa using y,g4⟩];refine⟨?_,?_,trivial⟩
 ·rw[dq,dq]
  simp[ax.ao,BH,g0,G.rZ]
 ·split<;>rfl
def tK(sz:Nat)(x:AV)(H:List ax)(d:Option (List Kd)):Option (Bool × List Kd × LL):=
 match x with
 |.nils | .lit (.slice none 0 0)=>match d with
  |some ks=>some (true,ks,[])
  |none=>none
 |.emptyS _=>match d with
  |some ks=>some (true,ks,[])
  |none=>none
 |.listF ks rZ=>if ks.length=sz then some (true,ks,rZ) else none
 |.list w rZ=>match (match d with | some ks=>some ks | none=>tH (rZ.headD [])) with
  |some ks=>match cf ks rZ with
   |some h=>if w=sz then some (true,ks,h) else none
   |none=>none
  |none=>none
 |.vQ w id aq oF n=>match H[id]? with
  |some (.vQ ks v rZ)=>if w=sz/\ks.length=w/\v=aq/\oF=0 then some (aD n rZ.length,ks,rZ) else none
  |_=>none
 |.lit (.string s)=>if sz=1 then some (true,[.int .u8],s.data.toList.map fun b=>[.i b.toNat]) else none
 |_=>none
theorem QJ{d:Option (List Kd)}{ks:List Kd}(h:tK sz x H d=some (b,ks,rZ))(hb:b=true):
  pX sz x (ay H)=some (rZ.map (aY ks)):=by
 unfold tK at h;split at h
 ·split at h
  ·cases h; rfl
  ·cases h
 ·split at h
  ·cases h; rfl
  ·cases h
 ·split at h
  ·cases h; rfl
  ·cases h
 grind[pX]
 grind[pX,tG]
 ·rename_i w id aq oF n
  split at h
  ·rename_i y v k I
   split at h<;>simp_all[pX,bt,ax.ao,s7]
  ·cases h
 ·rename_i s
  split at h
  ·rename_i M
   cases h
   simp_all[pX,aY,oN,G.iV]
  ·cases h
 ·cases h
def KX:SK->Bool
 |.slice _ _ _ | .str=>true
 |_=>false
theorem KY{s:AV}{H:List aj}{e:Nat}{d:List (List AV)}(y:dO P t=.slice e sz h)(I:gC P e=some z)
  (M : KX (dO P xt) = true) (hr : pX sz x H = some d) (N : z.length = sz /\ d.length <= 1048576 /\ h <= 1048576) : x_ P t xt s x H =
   match s with
    |.nils | .lit (.slice none 0 0)=>some (.vQ sz H.length 0 0 d.length,H++[.vQ sz 0 d])
    |.vQ w id aq oF n=>match H[id]? with
     |some (.vQ k v rZ)=>
      if k=w/\w=sz/\v=aq/\oF=0/\n=rZ.length/\rZ.length+d.length<=1048576 then
       some (.vQ w id (aq+1) 0 (n+d.length),H.set id (.vQ k (aq+1) (rZ++d)))
      else none
     |_=>none
    |_=>none:=by
 unfold x_;simp only[y,I,hr]
 grind[KX]
def wa(sz:Nat)(x:AV)(H:List ax)(z:List ar):Option (Bool × List Kd × LL):=
 match x with
 |.emptyS _=>tK sz x H (tH (z.map .lit))
 |_=>tK sz x H none
theorem aca{ks:List Kd}(h:wa sz x H z=some (b,ks,rZ))(hb:b=true):
  pX sz x (ay H)=some (rZ.map (aY ks)):=by
 unfold wa at h;split at h<;>exact QJ h hb
def yv(P:ak)(t xt:aK)(s x:AV)(H:List ax):Option (Bool × AV × List ax):=
 match dO P t with
 |.slice e sz h=>
  match gC P e,KX (dO P xt)with
  |some z,true=>
   if z.length=sz/\h<=1048576 then
    match s with
    |.nils | .lit (.slice none 0 0)=>match wa sz x H z with
     |some (b,ks,d)=>if ks.length=sz then some (b&&decide (d.length<=1048576),.vQ sz H.length 0 0 d.length,H++[.vQ ks 0 d]) else none
     |none=>none
    |.vQ w id aq oF n=>match H[id]? with
     |some (.vQ ks v rZ)=>match tK sz x H (some ks) with
      |some (b,k,d)=>
       if ks.length=w/\w=sz/\v=aq/\oF=0/\Kd.iX ks k=true then
        some (b&&(aD n rZ.length&&decide (rZ.length+d.length<=1048576)),.vQ w id (aq+1) 0 (rZ++d).length,H.set id (.vQ ks (aq+1) (rZ++d)))
       else none
      |none=>none
     |_=>none
    |_=>none
   else none
  |_,_=>none
 |_=>none
theorem acb{s:AV}(h:yv P t xt s x H=some (b,v,H'))(hb:b=true):
  x_ P t xt s x (ay H)=some (v,ay H'):=by
 unfold yv at h;split at h
 case h_2=>cases h
 rename_i e sz by_ U;split at h
 case h_2=>cases h
 rename_i z W N;split at h
 case isFalse=>cases h
 rename_i hc;obtain⟨c1,c2⟩:=hc;have fresh:∀{k:Bool} {ks:List Kd} {d:LL},wa sz x H z=some (k,ks,d) ->
   (if ks.length=sz then some (k&&decide (d.length<=1048576),AV.vQ sz H.length 0 0 d.length,H++[ax.vQ ks 0 d]) else none)=some (b,v,H') ->
   ∃rZ,pX sz x (ay H)=some rZ/\rZ.length<=1048576/\v=.vQ sz (ay H).length 0 0 rZ.length/\ay H'=ay H++[.vQ sz 0 rZ]:=by
  intro k ks d y h;split at h
  case isFalse=>cases h
  rename_i O;simp only[bD,bM]at h;obtain⟨h1,rfl,rfl⟩:=h;subst hb;simp only[aO,dT]at h1;refine⟨_,aca y h1.1,by simpa using h1.2,by simp[fB],?_⟩;rw[kP,ax.ao,O]
 split at h
 grind[KY]
 grind[KY]
 ·rename_i w id aq oF n
  split at h
  case h_2=>cases h
  rename_i ks vv rZ hid;split at h
  case h_2=>cases h
  rename_i k ks' d y;split at h
  case isFalse=>cases h
  rename_i hq;obtain⟨q1,q2,q3,q4,I⟩:=hq;have I:=Kd.jV I;subst I;simp only[bD,bM]at h;obtain⟨h1,rfl,rfl⟩:=h;subst hb;simp only[aO,dT]at h1;obtain⟨h1,M,h3⟩:=h1;have M:=bN M;rw[KY U W N (QJ y h1) ⟨c1,bS,c2⟩]
  simp_all[bt,ax.ao,dq]
 ·cases h
def tL(len:Nat)(lo hi:Option AV):Option (Bool × Nat × Nat):=
 match lo,hi with
 |none,none=>some (true,0,len)
 |some (.lit (.int _ l)),none=>some (cO l&&bq l (len:Int),l.toNat,len)
 |none,some (.lit (.int _ h))=>some (cO h&&bq h (len:Int),0,h.toNat)
 |some (.lit (.int _ l)),some (.lit (.int _ h))=>some (cO l&&(bq l h&&bq h (len:Int)),l.toNat,h.toNat)
 |_,_=>none
theorem Fx{len:Nat}{l:Nat}(d:tL len lo hi=some (b,l,h))(hb:b=true):kq len lo hi=some (l,h):=by
 unfold tL at d;split at d
 grind[kq]
 ·rename_i l'
  simp only[bD,bM]at d;obtain⟨h1,rfl,rfl⟩:=d
  simp_all[lq,fe,kq,oR]
 simp_all[lq,fe,kq,oR]
 simp_all[lq,fe,kq,oR]
 ·cases d
def yw(rZ:LL)(lo hi:Option AV)(l h:Nat):LL:=
 match lo,hi with
 |none,none=>rZ
 |some _,none=>rZ.drop l
 |none,some _=>rZ.take h
 |some _,some _=>(rZ.drop l).take (h-l)
theorem QK{l:Nat}(d:tL rZ.length lo hi=some (b,l,h)):yw rZ lo hi l h=(rZ.drop l).take (h-l):=by
 unfold tL at d;split at d
 ·cases d; simp[yw]
 ·simp only[bD,bM]at d
  obtain⟨h1,rfl,rfl⟩:=d;simp only[yw];rw[s7 au]
 ·simp only[bD,bM]at d
  obtain⟨h1,rfl,rfl⟩:=d;simp[yw]
 ·rfl
 ·cases d
def KZ(P:ak)(t:aK)(x:AV)(lo hi mx:Option AV):Option (Bool × AV):=
 match mx with
 |some _=>match pT P t x lo hi mx with
  |some v=>some (true,v)
  |none=>none
 |none=>match dO P t,x with
  |.str,.lit (.string s)=>match tL s.size lo hi with
   |some (b,l,h)=>some (b,.lit (.string (s.extract l h)))
   |none=>none
  |.slice _ sz _,.listF ks rZ=>match tL rZ.length lo hi with
   |some (b,l,h)=>if ks.length=sz then some (b,.listF ks (yw rZ lo hi l h)) else none
   |none=>none
  |.slice _ sz _,.vQ w id aq oF n=>match tL n lo hi with
   |some (b,l,h)=>if w=sz then some (b,.vQ w id aq (oF+l) (h-l)) else none
   |none=>none
  |.slice _ sz _,.list w rZ=>match w,xV rZ with
   |1,some d=>match tL d.length lo hi with
    |some (b,l,h)=>if 1=sz then some (b,.listF [.str] (yw d lo hi l h)) else none
    |none=>none
   |_,_=>match pT P t x lo hi none with
    |some v=>some (true,v)
    |none=>none
  |_,_=>match pT P t x lo hi none with
   |some v=>some (true,v)
   |none=>none
theorem acd{mx:Option AV}(h:KZ P t x lo hi mx=some (b,v))(hb:b=true):pT P t x lo hi mx=some v:=by
 unfold KZ at h;split at h
 grind
 ·split at h
  ·rename_i s k
   split at h
   case h_2=>cases h
   rename_i I l M d;simp only[bD,bM]at h;obtain⟨h1,rfl⟩:=h;subst h1;simp[pT,k,Fx d hb]
  ·rename_i e sz N ks rZ k
   split at h
   case h_2=>cases h
   rename_i I l M d;split at h
   case isFalse=>cases h
   rename_i y;simp only[bD,bM]at h;obtain⟨h1,rfl⟩:=h;subst h1;simp[pT,k,Fx d hb,y,QK d]
  ·rename_i e sz N w id aq oF n k
   split at h
   case h_2=>cases h
   rename_i I l M d;split at h
   case isFalse=>cases h
   rename_i y;simp only[bD,bM]at h;obtain⟨h1,rfl⟩:=h;subst h1;simp[pT,k,Fx d hb,y]
  ·rename_i e sz N w rZ k
   split at h
   ·rename_i U O
    split at h
    case h_2=>cases h
    rename_i I l M d;split at h
    case isFalse=>cases h
    rename_i y;simp only[bD,bM]at h;obtain⟨h1,rfl⟩:=h;subst h1;subst y;have W:rZ.length=U.length:=by rw[<-JO O,cP]
    simp[pT,k,W,Fx d hb,QK d,EN,O]
   grind
  grind
def BN(P:ak)(t:aK)(l c:AV)(H:List ax):Option (Bool × AV × List ax):=
 match dO P t,l,c with
 |.slice e sz d,.lit (.int _ l),.lit (.int _ c)=>
  match gC P e with
  |some z=>match tH (E7 P e z) with
   |some ks=>match jF ks (E7 P e z) with
    |some h=>if z.length=sz/\0<sz/\d<=1048576/\ks.length=sz then
      some (cO l&&(bq l c&&bq c 1048576),.vQ sz H.length 0 0 l.toNat,H++[.vQ ks 0 (cn l.toNat h)]) else none
    |none=>none
   |none=>none
  |none=>none
 |_,_,_=>none
theorem ace{l c:AV}(h:BN P t l c H=some (b,v,H'))(hb:b=true):
  Bo P t l c (ay H)=some (v,ay H'):=by
 unfold BN at h;unfold Bo;split at h
 case h_2=>cases h
 rename_i e sz y _ l _ c d;rw[d];simp only[];split at h
 case h_2=>cases h
 rename_i z N;split at h
 case h_2=>cases h
 rename_i ks I;split at h
 case h_2=>cases h
 rename_i O M;split at h
 case isFalse=>cases h
 rename_i k;obtain⟨U,W,c3,c4⟩:=k;simp only[bD,bM]at h;obtain⟨h1,rfl,rfl⟩:=h;subst hb;simp only[lq,fe,aO,dT]at h1
 grind[kP,fB,ax.ao,List.map_replicate,og]
def yx(P:ak)(t:aK)(n:Nat)(parts:List (Nat × AV))(H:List ax):Option (Bool × AV × List ax):=
 match dO P t with
 |.slice e _ _=>match gC P e with
  |some z=>match tH (z.map .lit) with
   |some ks=>match yb P t n parts with
    |some (.list sz rZ)=>match cf ks rZ with
     |some d=>if ks.length=sz then some (true,.vQ sz H.length 0 0 d.length,H++[.vQ ks 0 d]) else none
     |none=>none
    |_=>none
   |none=>none
  |none=>none
 |_=>none
theorem acf{parts:List (Nat × AV)}(h:yx P t n parts H=some (b,v,H')):
  Bu P t n parts (ay H)=some (v,ay H'):=by
 unfold yx at h;split at h
 case h_2=>cases h
 split at h
 case h_2=>cases h
 split at h
 case h_2=>cases h
 rename_i ks y;split at h
 case h_2=>cases h
 rename_i sz rZ hb;split at h
 case h_2=>cases h
 rename_i I d;split at h
 case isFalse=>cases h
 rename_i k;cases h;unfold Bu;rw[hb];have e:=tG d;simp only[];rw[kP,fB,ax.ao,k,e,<-e,cP]
def Ct.read:Ct->AV->Option LG
 |.one k,a=>match BI k a with
  |some g=>some [g]
  |none=>none
 |.agg ks,.agg cells=>jF ks cells
 |_,_=>none
theorem Ct.nv{r:LG}(h:K.read a=some r):K.av r=a:=by
 unfold Ct.read at h;split at h
 ·split at h
  ·rename_i g d
   cases h;exact KP d
  ·cases h
 ·simp only[Ct.av,og h]
 ·cases h
def tM(P:ak)(t:aK):Option (Ct × LG):=
 match P.info? t with
 |some i=>match i.zero with
  |some (.agg cs)=>match cs.toList.all eW,tH (cs.toList.map .lit) with
   |true,some ks=>match jF ks (cs.toList.map .lit) with
    |some d=>some (.agg ks,d)
    |none=>none
   |_,_=>none
  |some v=>match BJ (.lit v) with
   |some k=>match BI k (.lit v) with
    |some g=>some (.one k,[g])
    |none=>none
   |none=>match kK P t,Bn P t with
    |some (.lit (.slice none 0 0)),some ks=>some (.one (.list ks),[.l []])
    |_,_=>none
  |none=>none
 |none=>none
theorem acg(h:kK P t=some v)(hn:v=.lit (.slice none 0 0)->False):rU P t=some v:=by
 unfold rU;rw[h];split
 ·rename_i e _
  cases e;exact(hn rfl).elim
 ·rename_i e _
  cases e;rfl
 ·rename_i e
  cases e
theorem QL{V:Ct}{z:LG}(h:tM P t=some (V,z)):rU P t=some (V.av z):=by
 unfold tM at h;have y:∀v,kK P t=some v->(v=.lit (.slice none 0 0)->False)->rU P t=some v:=fun v h hn=>acg h hn;split at h
 case h_2=>cases h
 rename_i i hi;split at h
 ·rename_i cs d
  split at h
  ·rename_i ks h1 I
   split at h
   ·rename_i W O
    cases h;refine y _ ?_ fun e=>by cases e
    unfold kK;rw[hi];simp only[];rw[d];simp only[AV.xS,h1,if_true,Ct.av,og O]
   ·cases h
  ·cases h
 ·rename_i v N d
  split at h
  ·rename_i k M
   split at h
   ·rename_i g U
    cases h;have e:=KP U;simp only[Ct.av,xH,e];refine y _ ?_ fun e=>by
     simp only[AV.lit.injEq]at e;subst e;simp[BJ]at M
    unfold kK;rw[hi];simp only[];rw[d];simp only[];unfold AV.xS;split
    ·rename_i cs; exact(N cs rfl).elim
    ·simp[BJ]at M
    ·rfl
   ·cases h
  ·split at h
   ·rename_i ks h1 I
    cases h;unfold rU;rw[h1,I];rfl
   ·cases h
 ·cases h
def Fy:SK->Kd->Bool
 |.int k,.int d=>decide (k=d)
 |.str,.str=>true
 |.bool,.bool=>true
 |_,_=>false
def nw:List SK->List Kd->Bool
 |[],[]=>true
 |a::as,b::d=>Fy a b&&nw as d
 |_,_=>false
def jr(P:ak)(d:aK)(K:Ct):Bool:=
 match flatK P rP d with
 |some h=>nw h K.ks&&(match K with
  |.one _ => !rO (P.underlying d)
  |.agg _=>rO (P.underlying d))
 |none=>false
def tN:Kd->G->ar
 |.int k,g=>.int k g.iV
 |.str,g=>.string g.sV
 |.bool,g=>.bool g.bV
 |.list _,_=>.bool false
def ff:List Kd->LG->List ar
 |[],_=>[]
 |k::ks,r=>tN k (r.headD default)::ff ks r.tail
theorem QM:∀{d:List SK} {ks:List Kd} (r:LG),nw d ks=true->rN (aY ks r)=some (ff ks r)/\eL d (ff ks r)=true
  |[],[],_,_=>⟨rfl,rfl⟩
  |a::as,k::ks,r,h=>by
    simp only[nw,aO]at h;obtain⟨h1,y⟩:=QM r.tail h.2;have v:=h.1;cases k<;>cases a<;>simp only[Fy]at v<;>first
      |(cases v; done)
      | (simp only [aY, oN, rN, h1, ff, tN, eL, y, Bool.and_true]
         simp_all[kindOk])
  |[],_::_,_,h|_::_,[],_,h=>by simp[nw]at h
theorem BO:∀{v:List SK} {ks:List Kd} (r s:LG),nw v ks=true->fE (ff ks r) (ff ks s)=aZ ks r s
 |[],[],_,_,_=>rfl
 |a::as,k::ks,r,s,h=>by
  simp only[nw,aO]at h;have y:=BO r.tail s.tail h.2;have d:=h.1;simp only[ff,fE,aZ,y];cases k<;>cases a<;>simp only[Fy]at d<;>first
   |(cases d; done)
   |rfl
 |[],_::_,_,_,h|_::_,[],_,_,h=>by simp[nw]at h
theorem lU{d:aK}(h:jr P d K=true)(r:LG):jT P d (K.av r)=some (ff K.ks r):=by
 unfold jr at h;split at h
 case h_2=>cases h
 rename_i y I;simp only[aO]at h;obtain⟨h1,M⟩:=h;obtain⟨O,N⟩:=QM r h1;unfold jT;rw[I];simp only[];cases K with
 |one k=>
  simp only[xE]at M;simp only[Ct.ks,ff]at N|-;have e:oN k (r.headD default)=.lit (tN k (r.headD default)):=by
   simp only[Ct.ks]at h1;cases y with
   |nil=>simp[nw]at h1
   |cons a as=>
    simp only[nw,aO]at h1;have v:=h1.1;cases k<;>cases a<;>simp only[Fy]at v<;>first
     |(cases v; done)
     |rfl
  simp_all[Ct.av]
 |agg ks=>
  simp_all[Ct.av,Ct.ks]
def cH(ks:List Kd)(key:LG):LL->Nat->Option (Nat × LG)
 |[],_=>none
 |r::rs,i=>bif aZ ks key (gi r 0).rV then some (i,r) else cH ks key rs (i+1)
def dJ(ks:List Kd)(rZ:LL)(key:LG):Bool:=(cH ks key rZ 0).isSome
def cR(ks:List Kd)(rZ:LL)(key z:LG):LG:=match cH ks key rZ 0 with
 |some (_,r)=>(gi r 1).rV
 |none=>z
def dV(ks:List Kd)(rZ:LL)(key val:LG)(d:Nat):LL:=match cH ks key rZ 0 with
 |some (i,r)=>rZ.set i [.l [key],.l [val],.i (gi r 2).iV]
 |none=>rZ++[[.l [key],.l [val],.i d]]
def dK(ks:List Kd)(rZ:LL)(key:LG)(d:Nat):Nat:=bif dJ ks rZ key then d else d+1
def tO(ks:List Kd)(rZ:LL)(key:LG):LL:=match cH ks key rZ 0 with
 |some (i,_)=>rZ.eraseIdx i
 |none=>rZ
theorem yy{P:ak}{k:aK}{K V:Ct}(h:jr P k K=true)(key:LG):∀(rZ:LL) (i:Nat),fW P k (ff K.ks key) (dA K V rZ) i =
  some ((cH K.ks key rZ i).map fun p=>(p.1,V.av (gi p.2 1).rV))
 |[],i=>rfl
 |r::rs,i=>by
  have y:=yy (V:=V) h key rs (i+1);have v:∃d,nw d K.ks=true:=by
   unfold jr at h;split at h
   ·simp only[aO]at h; exact⟨_,h.1⟩
   ·cases h
  obtain⟨d,I⟩:=v;simp only[dA,e9,fW,lU h,BO _ _ I,cH];cases aZ K.ks key (gi r 0).rV with
  |true=>rfl
  |false=>exact y
theorem r9{ks:List Kd}{key:LG}:∀{rZ:LL} {i j:Nat} {r:LG},cH ks key rZ i=some (j,r)->i<=j/\rZ[j-i]? = some r
 |[],_,_,_,h=>by simp[cH]at h
 |x::rs,i,j,r,h=>by
  simp only[cH]at h;cases d:aZ ks key (gi x 0).rV with
  |true=>
   grind
  |false=>
   rw[d]at h;obtain⟨h1,k⟩:=r9 h
   grind
def K3(P:ak)(t:aK)(m k:AV)(ok:Bool)(H:List ax):Option (Bool × AV):=
 match eT P t,m with
 |some (d,h),.map id=>match H[id]? with
  |some (.map K V rZ _)=>match K.read k,tM P h with
   |some key,some (v,z)=>match jr P d K&&V.same v with
    |true=>some (true,match ok with
      |true=>.tuple [V.av (cR K.ks rZ key z),.lit (.bool (dJ K.ks rZ key))]
      |false=>V.av (cR K.ks rZ key z))
    |false=>none
   |_,_=>none
  |_=>none
 |_,_=>none
theorem QN{ok:Bool}(h:K3 P t m k ok H=some (b,v)):jl P t m k ok (ay H)=some v:=by
 unfold K3 at h;unfold jl;split at h
 case h_2=>cases h
 rename_i O U id I;rw[I];simp only[];split at h
 case h_2=>cases h
 rename_i K V rZ cl y;rw[bt y];simp only[ax.ao];split at h
 case h_2=>cases h
 rename_i key W z M N;split at h
 case h_2=>cases h
 rename_i d;simp only[aO]at d;have e:=Ct.nt d.2;subst e;rw[<-Ct.nv M,lU d.1,QL N];simp only[yy d.1];cases h;unfold cR dJ;cases cH K.ks key rZ 0 with
 |none=>cases ok<;>rfl
 |some p=>cases ok<;>rfl
def yz(P:ak)(t:aK)(m k v:AV)(H:List ax):Option (Bool × List ax):=
 match eT P t,m with
 |some (d,_),.map id=>match H[id]? with
  |some (.map K V rZ cl)=>match K.read k,V.read v with
   |some key,some val=>match jr P d K with
    |true=>some (true,H.set id (.map K V (dV K.ks rZ key val cl) (dK K.ks rZ key cl)))
    |false=>none
   |_,_=>none
  |_=>none
 |_,_=>none
def fY(ks:List Kd)(rZ:LL)(key:LG):LL:=match cH ks key rZ 0 with
 |some (_,r)=>lr r
 |none=>[]
def fG(ks:List Kd)(rZ:LL)(key:LG):Bool:=match cH ks key rZ 0 with
 |some (_,r)=>(gi r 3).bV
 |none=>true
def iq(ks:List Kd)(rZ:LL)(key:LG):LL:=match cH ks key rZ 0 with
 |some (i,r)=>rZ.set i [gi r 0,gi r 1,gi r 2,.t false]
 |none=>rZ
def p_(ks:List Kd)(rZ:LL)(key:LG)(val:LL)(d:Nat):LL:=match cH ks key rZ 0 with
 |some (i,r)=>rZ.set i [.l [key],.l [[.l val]],.i (gi r 2).iV,.t true]
 |none=>rZ++[[.l [key],.l [[.l val]],.i d,.t true]]
def BP(P:ak)(t:aK)(m k:AV)(H:List ax):Option (Bool × AV × List ax):=
 match eT P t,m with
 |some (h,d),.map id=>match H[id]? with
  |some (.ba l K ks rZ cl)=>match K.read k,Fe P d,kK P d with
   |some key,some w',some (.lit (.slice none 0 0))=>match aD w' ks.length&&jr P h K with
    |true=>some (fG K.ks rZ key,.vQ ks.length H.length 0 0 (fY K.ks rZ key).length,H.set id (.ba l K ks (iq K.ks rZ key) cl)++[.vQ ks 0 (fY K.ks rZ key)])
    |false=>none
   |_,_,_=>none
  |_=>none
 |_,_=>none
def BQ(P:ak)(t:aK)(m k v:AV)(H:List ax):Option (Bool × List ax):=
 match eT P t,m,v with
 |some (I,_),.map id,.vQ w j aq oF n=>match H[id]?,H[j]? with
  |some (.ba l K ks rZ cl),some (.vQ y h d)=>match K.read k with
   |some key=>match jr P I K&&(Kd.iX ks y&&(aD w ks.length&&(aD aq h&&aD oF 0))) with
    |true=>some (aD n d.length,(H.set id (.ba l K ks (p_ K.ks rZ key d cl) (dK K.ks rZ key cl))).set j (.raw .dead))
    |false=>none
   |none=>none
  |_,_=>none
 |_,_,_=>none
def r_(ks:List Kd)(rZ:LL)(key:LG)(d:Nat):Nat:=match cH ks key rZ 0 with
 |some (_,r)=>(gi r 2).iV.toNat
 |none=>d
def sc(ks:List Kd)(rZ:LL)(key:LG)(d:Nat):LL:=match cH ks key rZ 0 with
 |some (i,r)=>rZ.set i [.l [key],gi r 1,gi r 2,.t false]
 |none=>rZ++[[.l [key],.l [[.l []]],.i d,.t false]]
def BR(P:ak)(t:aK)(m k:AV)(H:List ax):Option (Bool × AV × List ax):=
 match eT P t,m with
 |some (h,d),.map id=>match H[id]? with
  |some (.ba l K ks rZ cl)=>match K.read k,Fe P d,kK P d with
   |some key,some w',some (.lit (.slice none 0 0))=>match aD w' ks.length&&jr P h K with
    |true=>some (fG K.ks rZ key,.tuple [.vQ ks.length H.length 0 0 (fY K.ks rZ key).length,.lit (.int .i64 (r_ K.ks rZ key cl:Nat))],
      H.set id (.ba l K ks (sc K.ks rZ key cl) (dK K.ks rZ key cl))++[.vQ ks 0 (fY K.ks rZ key)])
    |false=>none
   |_,_,_=>none
  |_=>none
 |_,_=>none
def iY(st:Int):LL->Nat->Option (Nat × LG)
 |[],_=>none
 |r::rs,i=>bif ((gi r 2).iV.toNat:Int)==st then some (i,r) else iY st rs (i+1)
def yA(rZ:LL)(st:Int)(val:LL):LL:=match iY st rZ 0 with
 |some (i,r)=>rZ.set i [gi r 0,.l [[.l val]],gi r 2,.t true]
 |none=>rZ
def yB(rZ:LL)(st:Int):Bool:=(iY st rZ 0).isSome
def BS(m s v:AV)(H:List ax):Option (Bool × List ax):=
 match m,s,v with
 |.map id,.lit (.int .i64 st),.vQ w j aq oF n=>match H[id]?,H[j]? with
  |some (.ba l K ks rZ cl),some (.vQ k h d)=>match Kd.iX ks k&&(aD w ks.length&&(aD aq h&&aD oF 0)) with
   |true=>some (yB rZ st&&aD n d.length,(H.set id (.ba l K ks (yA rZ st d) cl)).set j (.raw .dead))
   |false=>none
  |_,_=>none
 |_,_,_=>none
def oh(ks:List Kd)(rZ:LL)(key:LG)(s:Nat):LL:=match cH ks key rZ 0 with
 |some (_,r)=>oe r s
 |none=>[]
def wb(ks:List Kd)(rZ:LL)(key:LG)(d h:LL)(k:Nat):LL:=match cH ks key rZ 0 with
 |some (i,r)=>rZ.set i [.l [key],.l [[.l d,.l h]],.i (gi r 2).iV,.t true]
 |none=>rZ++[[.l [key],.l [[.l d,.l h]],.i k,.t true]]
def BT(P:ak)(t:aK)(m k:AV)(H:List ax):Option (Bool × AV × List ax):=
 match eT P t,m with
 |some (d,h),.map id=>match H[id]? with
  |some (.bU l K ks rZ cl)=>match K.read k,kK P h with
   |some key,some (.agg [.lit (.slice none 0 0),.lit (.slice none 0 0)])=>match jr P d K with
    |true=>some (fG K.ks rZ key,.agg [.vQ ks.length H.length 0 0 (oh K.ks rZ key 0).length,.vQ ks.length (H.length+1) 0 0 (oh K.ks rZ key 1).length],
      H.set id (.bU l K ks (iq K.ks rZ key) cl)++[.vQ ks 0 (oh K.ks rZ key 0),.vQ ks 0 (oh K.ks rZ key 1)])
    |false=>none
   |_,_=>none
  |_=>none
 |_,_=>none
def BU(P:ak)(t:aK)(m k v:AV)(H:List ax):Option (Bool × List ax):=
 match eT P t,m,v with
 |some (O,_),.map id,.agg [.vQ U d W o0 n0,.vQ w1 h v1 o1 n1]=>match H[id]?,H[d]?,H[h]? with
  |some (.bU l K ks rZ cl),some (.vQ y I r0),some (.vQ M N r1)=>match K.read k with
   |some key=>match jr P O K&&((Kd.iX ks y&&(aD U ks.length&&(aD W I&&aD o0 0)))&&((Kd.iX ks M&&(aD w1 ks.length&&(aD v1 N&&aD o1 0))) && !aD d h)) with
    |true=>some (aD n0 r0.length&&aD n1 r1.length,((H.set id (.bU l K ks (wb K.ks rZ key r0 r1 cl) (dK K.ks rZ key cl))).set d (.raw .dead)).set h (.raw .dead))
    |false=>none
   |none=>none
  |_,_,_=>none
 |_,_,_=>none
theorem K4{P:ak}{k:aK}{K:Ct}{ks:List Kd}(h:jr P k K=true)(key:LG):∀(rZ:LL) (i:Nat),fW P k (ff K.ks key) (gV (ns K ks rZ)) i =
  some ((cH K.ks key rZ i).map fun p=>(p.1,.undef))
 |[],i=>rfl
 |r::rs,i=>by
  have y:=K4 (ks:=ks) h key rs (i+1);have v:∃d,nw d K.ks=true:=by
   unfold jr at h;split at h
   grind
   ·cases h
  obtain⟨d,I⟩:=v;simp only[ns,gV,e9,fW,p9,lU h,BO _ _ I,cH];cases aZ K.ks key (gi r 0).rV with
  |true=>rfl
  |false=>exact y
theorem Fz{ks:List Kd}{r:LG}(h:rZ[i]?=some r):(ns K ks rZ)[i]?=some (p9 K ks r):=by
 unfold ns;rw[dw,h];rfl
theorem QO(K:Ct)(ks:List Kd)(rZ:LL)(i:Nat)(r:LG):ns K ks (rZ.set i r)=(ns K ks rZ).set i (p9 K ks r):=by
 simp[ns,vn]
theorem ach{l:List α}{x:α}(h:l[i]?=some x):l.set i x=l:=by
 apply kg
 grind
theorem aci(h:BT P t m k H=some (b,v,H'))(hb:b=true):
  Bz P t m k (ay H)=some (v,ay H')/\vM P t m k (ay H)=none/\jl P t m k false (ay H)=none:=by
 unfold BT at h;unfold Bz vM jl;split at h
 case h_2=>cases h
 rename_i kt et id ht;rw[ht];simp only[];split at h
 case h_2=>cases h
 rename_i l K ks rZ cl W;have I:=bt W;rw[I];simp only[ax.ao]at I|-;split at h
 case h_2=>cases h
 rename_i key hk hz;split at h
 case h_2=>cases h
 rename_i M;simp only[bD,bM]at h;obtain⟨d,rfl,rfl⟩:=h;rw[hb]at d;rw[<-Ct.nv hk,lU M,hz];simp only[K4 M,and_true];unfold fG at d;unfold oh iq;have U:∀(L:List ax) (x y:ax),ay (L++[x,y])=ay L++[x.ao]++[y.ao]:=fun L x y=>by simp[ay]
 cases N:cH K.ks key rZ 0 with
 |none=>
  grind[ax.ao,fB,ach]
 |some p=>
  obtain⟨i,r⟩:=p;rw[N]at d;simp only[]at d;obtain⟨_,O⟩:=r9 N;rw[iz]at O;have hat:(ns K ks rZ)[i]?=some (K.av (gi r 0).rV,(some ((oe r 0).map (aY ks)),some ((oe r 1).map (aY ks))),(gi r 2).iV.toNat):=by
   rw[Fz O]
   grind[p9]
  simp only[ki,hat,U,dq,ax.ao,fB,cP,QO];rfl
theorem acj(h:BU P t m k v H=some (b,H'))(hb:b=true):
  BA P t m k v (ay H)=some (ay H')/\oT P t m k v (ay H)=none/\rW P t m k v (ay H)=none/\vP P t m k v (ay H)=none:=by
 unfold BU at h;unfold BA rW oT vP;split at h
 case h_2=>cases h
 rename_i kt et id w0 j0 v0 o0 n0 w1 y v1 o1 n1 ht;rw[ht];simp only[];split at h
 case h_2=>cases h
 rename_i l K ks rZ cl ks0 v0' r0 ks1 v1' r1 hid hj0 hj1;rw[bt hid,bt hj0,bt hj1];simp only[ax.ao];split at h
 case h_2=>cases h
 rename_i key hk;split at h
 case h_2=>cases h
 rename_i hc;simp only[aO,xE]at hc;obtain⟨hc1,⟨a1,M,N,O⟩,⟨b1,U,W,b4⟩,d⟩:=hc;have e1:=Kd.jV a1;have e2:=Kd.jV b1;subst e1;subst e2;have M:=bN M;have N:=bN N;have O:=bN O;have U:=bN U;have W:=bN W;have b4:=bN b4;have d:j0≠y:=fun e=>by rw[e,show aD y y=true from jD y]at d; cases d
 simp only[bD,bM]at h;obtain⟨I,rfl⟩:=h;rw[hb]at I;simp only[aO]at I;have p0:=bN I.1;have p1:=bN I.2;rw[<-Ct.nv hk,lU hc1];simp only[];rw[iP ⟨⟨⟨M,trivial⟩,U,trivial⟩,⟨⟨N,W⟩,O,b4⟩,⟨by simpa using p0,by simpa using p1⟩,d,Ct.tD _ _⟩];simp only[K4 hc1,and_true];unfold wb dK dJ;cases hf:cH K.ks key rZ 0 with
 |none=>
  simp only[A7,dq,ax.ao,Je,cF];simp[ns,p9,oe,gi,G.rV,G.rZ,G.iV,G.bV]
 |some p=>
  obtain⟨i,r⟩:=p;obtain⟨_,hg⟩:=r9 hf;rw[iz]at hg;have hm:(ns K ks rZ).modify i (fun e=>(K.av key,(some (r0.map (aY ks)),some (r1.map (aY ks))),e.2.2))=(ns K ks rZ).set i (K.av key,(some (r0.map (aY ks)),some (r1.map (aY ks))),(gi r 2).iV.toNat):=by
   apply kg;intro j;rw[List.getElem?_modify,List.getElem?_set];by_cases e:i=j
   ·subst e
    rw[iP rfl,iP (bl (Fz hg)),Fz hg];simp[p9]
   ·rw[iN e]
    simp[e]
  simp only[ki,hm,dq,ax.ao,QO,Jm,cT];simp[p9,oe,gi,G.rV,G.rZ,G.iV,G.bV]
theorem FA(K:Ct)(ks:List Kd)(r:LG):(ji (kO K ks r).1).1=K.av (gi r 0).rV:=by
 unfold kO;cases (gi r 4).bV && !(gi r 3).bV with
 |true=>rfl
 |false=>
  cases K with
  |one k=>cases k<;>rfl
  |agg ks=>rfl
theorem ack(K:Ct)(g:LG):plainKey (K.av g)=true:=by
 cases K with
 |one k=>cases k<;>rfl
 |agg ks=>rfl
theorem FB{P:ak}{k:aK}{K:Ct}{ks:List Kd}(h:jr P k K=true)(key:LG):∀(rZ:LL) (i:Nat),fW P k (ff K.ks key) (dX (iI K ks rZ)) i =
  some ((cH K.ks key rZ i).map fun p=>(p.1,(ji (kO K ks p.2).1).2))
 |[],i=>rfl
 |r::rs,i=>by
  have y:=FB (ks:=ks) h key rs (i+1);have v:∃d,nw d K.ks=true:=by
   unfold jr at h;split at h
   ·simp only[aO]at h; exact⟨_,h.1⟩
   ·cases h
  obtain⟨d,I⟩:=v;simp only[iI,dX,e9,fW,FA,lU h,BO _ _ I,cH];cases aZ K.ks key (gi r 0).rV with
  |true=>rfl
  |false=>exact y
theorem yC{ks:List Kd}{r:LG}(h:rZ[i]?=some r):(iI K ks rZ)[i]?=some (kO K ks r):=by
 unfold iI;rw[dw,h];rfl
theorem FC(K:Ct)(ks:List Kd)(rZ:LL)(i:Nat)(r:LG):iI K ks (rZ.set i r)=(iI K ks rZ).set i (kO K ks r):=by
 simp[iI,vn]
theorem acm(h:BP P t m k H=some (b,v,H'))(hb:b=true):vM P t m k (ay H)=some (v,ay H')/\jl P t m k false (ay H)=none:=by
 unfold BP at h;unfold vM jl;split at h
 case h_2=>cases h
 rename_i kt et id ht;rw[ht];simp only[];split at h
 case h_2=>cases h
 rename_i l K ks rZ cl U;rw[bt U];simp only[ax.ao];split at h
 case h_2=>cases h
 rename_i key w' hk hw hz;split at h
 case h_2=>cases h
 rename_i M;simp only[aO]at M;obtain⟨y,I⟩:=M;have e:=bN y;simp only[bD,bM]at h;obtain⟨d,rfl,rfl⟩:=h;rw[hb]at d;rw[<-Ct.nv hk,lU I,hw,hz];simp only[y,FB I,and_true];unfold fG at d;unfold fY iq;cases N:cH K.ks key rZ 0 with
 |none=>
  simp only[A7,kP,dq,ax.ao,fB,km,A8]
 |some p=>
  obtain⟨i,r⟩:=p;rw[N]at d;simp only[]at d;obtain⟨_,O⟩:=r9 N;rw[iz]at O;have W:tz (iI K ks rZ) i=some (K.av (gi r 0).rV,(lr r).map (aY ks),(gi r 2).iV.toNat):=by
   unfold tz;rw[yC O];simp only[kO,d,cT,Bool.not_true,Bool.and_false,cF]
  simp only[ki,W,kP,dq,ax.ao,fB,cP,FC];rfl
theorem acn(h:BQ P t m k v H=some (b,H'))(hb:b=true):rW P t m k v (ay H)=some (ay H')/\oT P t m k v (ay H)=none:=by
 unfold BQ at h;unfold rW oT;split at h
 case h_2=>cases h
 rename_i kt et id w j aq oF n ht;rw[ht];simp only[];split at h
 case h_2=>cases h
 rename_i l K ks rZ cl ks2 ver' rws N hj;rw[bt N,bt hj];simp only[ax.ao];split at h
 case h_2=>cases h
 rename_i key hk;split at h
 case h_2=>cases h
 rename_i I;simp only[aO]at I;obtain⟨y,O,U,W,hc5⟩:=I;have e2:=Kd.jV O;subst e2;have e3:=bN U;have e4:=bN W;have e5:=bN hc5;subst e3 e4 e5;simp only[bD,bM]at h;obtain⟨d,rfl⟩:=h;rw[hb]at d;have d:=bN d;subst d;rw[<-Ct.nv hk,lU y];simp only[Ct.tD,cP,and_self,if_true,FB y,and_true];unfold p_ dK dJ;cases hf:cH K.ks key rZ 0 with
 |none=>
  simp only[A7,dq,ax.ao,Je,cF];simp[iI,kO,lr,gi,G.rV,G.rZ,G.iV,G.bV]
 |some p=>
  obtain⟨i,r⟩:=p;obtain⟨_,M⟩:=r9 hf;rw[iz]at M;simp only[ki,PZ (yC M),dq,ax.ao,FC,Jm,cT];simp[kO,lr,gi,G.rV,G.rZ,G.iV,G.bV]
theorem aco(h:BR P t m k H=some (b,v,H'))(hb:b=true):lQ P t m k (ay H)=some (v,ay H'):=by
 unfold BR at h;unfold lQ;split at h
 case h_2=>cases h
 rename_i kt et id ht;rw[ht];simp only[];split at h
 case h_2=>cases h
 rename_i l K ks rZ cl O;rw[bt O];simp only[ax.ao];split at h
 case h_2=>cases h
 rename_i key w' hk hw hz;split at h
 case h_2=>cases h
 rename_i I;simp only[aO]at I;obtain⟨U,y⟩:=I;simp only[bD,bM]at h;obtain⟨d,rfl,rfl⟩:=h;rw[hb]at d;rw[<-Ct.nv hk,lU y,hw,hz];simp only[U,Ct.tD,Bool.and_self,FB y];unfold fG at d;unfold fY sc r_ dK dJ;cases M:cH K.ks key rZ 0 with
 |none=>
  simp only[A7,kP,dq,ax.ao,fB,km,A8,Je,cF,goInt];simp[iI,kO,lr,gi,G.rV,G.rZ,G.iV,G.bV]
 |some p=>
  obtain⟨i,r⟩:=p;rw[M]at d;simp only[]at d;obtain⟨_,N⟩:=r9 M;rw[iz]at N;have W:tz (iI K ks rZ) i=some (K.av (gi r 0).rV,(lr r).map (aY ks),(gi r 2).iV.toNat):=by
   unfold tz;rw[yC N]
   simp_all[kO]
  simp only[ki,W,kP,dq,ax.ao,fB,cP,FC,Jm,cT,goInt];rfl
theorem K5{st:Int}:∀{rZ:LL} {i j:Nat} {r:LG},iY st rZ i=some (j,r)->i<=j/\rZ[j-i]? = some r
 |[],_,_,_,h=>by simp[iY]at h
 |x::rs,i,j,r,h=>by
  simp only[iY]at h;cases d:((gi x 2).iV.toNat:Int)==st with
  |true=>
   rw[d]at h;cases h;simp
  |false=>
   rw[d]at h;obtain⟨h1,k⟩:=K5 h;refine⟨ab,?_⟩;rw[show j-i=(j-(i+1))+1 from by omega];simpa using k
theorem QP{K:Ct}{ks:List Kd}{st:Int}:∀{rZ:LL} {i:Nat},(iY st rZ i).map (·.1)=(vN (iI K ks rZ) st).map (·+i)
 |[],_=>rfl
 |x::rs,i=>by
  have d:=QP (K:=K) (ks:=ks) (st:=st) (rZ:=rs) (i:=i+1);unfold vN at d|-;simp only[iY,iI,e9,asb,kO]at d|-;cases h:((gi x 2).iV.toNat:Int)==st with
  |true=>simp
  |false=>
   simp only[cF,d,rA,if_false,OS];congr 1
   grind
theorem acp{s:AV}(h:BS m s v H=some (b,H'))(hb:b=true):oU m s v (ay H)=some (ay H'):=by
 unfold BS at h;unfold oU;split at h
 case h_2=>cases h
 rename_i id st w j aq oF n;split at h
 case h_2=>cases h
 rename_i l K ks rZ cl ks2 ver' rws O hj;simp only[];rw[bt O,bt hj];simp only[ax.ao];split at h
 case h_2=>cases h
 rename_i I;simp only[aO]at I;obtain⟨U,W,hc4,hc5⟩:=I;have e2:=Kd.jV U;subst e2;have e3:=bN W;have e4:=bN hc4;have e5:=bN hc5;subst e3 e4 e5;simp only[bD,bM]at h;obtain⟨y,rfl⟩:=h;rw[hb]at y;simp only[aO]at y;obtain⟨hp1,d⟩:=y;have d:=bN d;subst d;simp only[cP,and_self,if_true];unfold yB at hp1;unfold yA;cases M:iY st rZ 0 with
 |none=>grind
 |some p=>
  obtain⟨i,r⟩:=p;obtain⟨_,N⟩:=K5 M;rw[iz]at N;have hi:vN (iI K ks rZ) st=some i:=by
   have:=QP (K:=K) (ks:=ks) (st:=st) (rZ:=rZ) (i:=0);rw[M]at this;cases hz:vN (iI K ks rZ) st<;>grind
  rw[hi];obtain⟨k0,o0,ek,ek2⟩:∃k o,kO K ks r=(k,o,(gi r 2).iV.toNat)/\(ji k).1=K.av (gi r 0).rV:=⟨_,_,rfl,FA K ks r⟩
  simp only[yC N,ek,ek2,ack,dq,ax.ao,FC];simp[kO,lr,gi,G.rV,G.rZ,G.bV]
theorem QQ(K V:Ct)(rZ:LL)(i:Nat)(r:LG):dA K V (rZ.set i r)=(dA K V rZ).set i (K.av (gi r 0).rV,V.av (gi r 1).rV,(gi r 2).iV.toNat):=by
 simp[dA,vn]
theorem QR{l:List α}{x:α}(f:α->α)(h:l[i]?=some x):l.modify i f=l.set i (f x):=by
 apply kg
 grind
theorem QS(h:yz P t m k v H=some (b,H')):oT P t m k v (ay H)=some (ay H'):=by
 unfold yz at h;unfold oT;split at h
 case h_2=>cases h
 rename_i kt et id N;rw[N];simp only[];split at h
 case h_2=>cases h
 rename_i K V rZ cl I;rw[bt I];simp only[ax.ao];split at h
 case h_2=>cases h
 rename_i key val O U;split at h
 case h_2=>cases h
 rename_i d;cases h;rw[<-Ct.nv O,<-Ct.nv U,lU d];simp only[Ct.tD,and_self,if_true,yy d,dq,ax.ao];unfold dV dK dJ;cases W:cH K.ks key rZ 0 with
 |none=>simp[dA,gi,G.rV,G.rZ,G.iV]
 |some p=>
  obtain⟨_,y⟩:=r9 (r:=p.2) (j:=p.1) W;rw[iz]at y;have M:(dA K V rZ)[p.1]?=some (K.av (gi p.2 0).rV,V.av (gi p.2 1).rV,(gi p.2 2).iV.toNat):=by simp[dA,y]
  simp only[ki,QR _ M,QQ,Jm,cT];simp[gi,G.rV,G.rZ,G.iV]
def BV(P:ak)(t:aK)(m k:AV)(H:List ax):Option (Bool × List ax):=
 match eT P t,m with
 |some (d,_),.map id=>match H[id]? with
  |some (.map K V rZ cl)=>match K.read k,jr P d K with
   |some key,true=>some (true,H.set id (.map K V (tO K.ks rZ key) cl))
   |_,_=>none
  |_=>none
 |_,_=>none
theorem QT{α β:Type}(f:α->β):∀(l:List α) (i:Nat),(l.map f).eraseIdx i=(l.eraseIdx i).map f
 |[],_=>by simp
 |_::_,0=>by simp
 |_::l,i+1=>by simp[QT f l i]
theorem acq(h:BV P t m k H=some (b,H')):Bs P t m k (ay H)=some (ay H'):=by
 unfold BV at h;unfold Bs;split at h
 case h_2=>cases h
 rename_i M N id y;rw[y];simp only[];split at h
 case h_2=>cases h
 rename_i K V rZ cl v;rw[bt v];simp only[ax.ao];split at h
 case h_2=>cases h
 rename_i key I d;cases h;rw[<-Ct.nv I,lU d];simp only[yy d,dq,ax.ao];unfold tO;cases O:cH K.ks key rZ 0 with
 |none=>rfl
 |some p=>grind[dA,QT]
def BW(P:ak)(t:aK)(x:AV)(H:List ax):Option (Bool × List ax):=
 match dO P t,x with
 |.slice e sz _,.vQ w id aq oF n=>match gC P e,H[id]? with
  |some z,some (.vQ ks v rZ)=>match jF ks (z.map .lit) with
   |some d=>if ks.length=w/\w=sz/\v=aq/\z.length=sz/\0<sz then
     some (dv (oF+n) rZ.length,H.set id (.vQ ks v (rZ.take oF++cn n d++rZ.drop (oF+n)))) else none
   |none=>none
  |_,_=>none
 |_,_=>none
theorem acr(h:BW P t x H=some (b,H'))(hb:b=true):Bt P t x (ay H)=some (ay H'):=by
 unfold BW at h;unfold Bt;split at h
 case h_2=>cases h
 rename_i e sz U w id aq oF n I;rw[I];simp only[];split at h
 case h_2=>cases h
 rename_i z ks v rZ M k;rw[M,bt k];simp only[ax.ao];split at h
 case h_2=>cases h
 rename_i W y;split at h
 case isFalse=>cases h
 rename_i N;obtain⟨rfl,rfl,rfl,h1,O⟩:=N;simp only[bD,bM]at h;obtain⟨d,rfl⟩:=h;subst hb;have d:=vo d;simp only[h1,O,cP,d,and_self,if_true,dq,ax.ao,bD];rw[<-og y];simp
def yD(P:ak)(t xt:aK)(s x:AV)(H:List ax):Option (Bool × AV × List ax):=
 match dO P t,dO P xt,s,x with
 |.slice e sz d,.int _,.lit (.slice none 0 0),.lit (.int _ n)=>match gC P e with
  |some z=>match tH (z.map .lit) with
   |some ks=>match jF ks (z.map .lit) with
    |some h=>if z.length=sz/\0<sz/\d<=1048576/\ks.length=sz then
      some (aN 0 n&&bq n 1048576,.vQ sz H.length 0 0 n.toNat,H++[.vQ ks 0 (cn n.toNat h)]) else none
    |none=>none
   |none=>none
  |none=>none
 |_,_,_,_=>none
theorem acs{s:AV}(h:yD P t xt s x H=some (b,v,H'))(hb:b=true):vL P t xt s x (ay H)=some (v,ay H'):=by
 unfold yD at h;unfold vL;split at h
 case h_2=>cases h
 rename_i e sz by_ k k' n M y;rw[M,y];simp only[];split at h
 case h_2=>cases h
 rename_i z N;rw[N];simp only[];split at h
 case h_2=>cases h
 rename_i ks hks;split at h
 case h_2=>cases h
 rename_i zr I;split at h
 case isFalse=>cases h
 rename_i O;obtain⟨h1,U,W,h4⟩:=O;simp only[bD,bM]at h;obtain⟨d,rfl,rfl⟩:=h;subst hb;simp only[cS,fe,aO,dT]at d;simp only[h1,U,W,d.1,d.2,and_self,if_true,kP,ax.ao,fB,h4,bD,bM,true_and];rw[<-og I];simp
def o9(ks:List Kd)(rZ:LL)(key:LG):Option Nat:=match cH ks key rZ 0 with
 |some (_,r)=>vZ r
 |none=>none
def qa(mem:LL):Option Nat->Bool
 |some i=>dy i mem.length
 |none=>false
def mC(mem:LL):Option Nat->LG
 |some i=>mem.getD i []
 |none=>[]
def yE(mem:LL)(j:Option Nat)(ks:List Kd)(key val:LG):LL:=match j with
 |some i=>mem.set i [.l (dV ks (gi (mC mem j) 0).rZ key val (gi (mC mem j) 1).iV.toNat),.i (dK ks (gi (mC mem j) 0).rZ key (gi (mC mem j) 1).iV.toNat:Nat)]
 |none=>mem
def yF(rZ:LL)(st:Int):Bool:=match iY st rZ 0 with
 |some (_,r) => !bq 0 (gi r 1).iV
 |none=>false
def yG(rZ:LL)(st:Int)(n:Nat):LL:=match iY st rZ 0 with
 |some (i,r)=>rZ.set i [gi r 0,.i n,gi r 2]
 |none=>rZ
theorem K6{P:ak}{k:aK}{K:Ct}(h:jr P k K=true)(key:LG):∀(rZ:LL) (i:Nat),fW P k (ff K.ks key) (jk (lS K rZ)) i =
  some ((cH K.ks key rZ i).map fun p=>(p.1,AV.undef))
 |[],i=>rfl
 |r::rs,i=>by
  have y:=K6 h key rs (i+1);have v:∃d,nw d K.ks=true:=by
   unfold jr at h;split at h
   grind
   ·cases h
  obtain⟨d,I⟩:=v;simp only[lS,jk,e9,fW,lU h,BO _ _ I,cH];cases aZ K.ks key (gi r 0).rV with
  |true=>rfl
  |false=>exact y
theorem QU{r:LG}(h:rZ[i]?=some r):(lS K rZ)[i]?=some (K.av (gi r 0).rV,vZ r,(gi r 2).iV.toNat):=by
 unfold lS;rw[dw,h];rfl
theorem QV{d k:Ct}{mem:LL}(h:i<mem.length):(tF d k mem)[i]?=some (dA d k (gi (mem.getD i []) 0).rZ,(gi (mem.getD i []) 1).iV.toNat):=by
 unfold tF;rw[dw,dc,cB h];rfl
def K7(P:ak)(t:aK)(m k:AV)(ok:Bool)(H:List ax):Option (Bool × AV):=
 match eT P t,m with
 |some (h,v),.sub id l j=>match H[id]? with
  |some (.mm l' _ d y _ mem _)=>match d.read k,tM P v with
   |some key,some (I,z)=>match aD l l'&&(jr P h d&&y.same I) with
    |true=>some (qa mem j,match ok with
      |true=>.tuple [y.av (cR d.ks (gi (mC mem j) 0).rZ key z),.lit (.bool (dJ d.ks (gi (mC mem j) 0).rZ key))]
      |false=>y.av (cR d.ks (gi (mC mem j) 0).rZ key z))
    |false=>none
   |_,_=>none
  |_=>none
 |some (h,v),.map id=>match H[id]?,ok with
  |some (.mm l K _ _ rZ _ _),false=>match K.read k,kK P v with
   |some key,some (.lit (.map none))=>match jr P h K with
    |true=>some (true,.sub id l (o9 K.ks rZ key))
    |false=>none
   |_,_=>none
  |_,_=>none
 |_,_=>none
theorem acu{ok:Bool}(h:K7 P t m k ok H=some (b,v))(hb:b=true):jl P t m k ok (ay H)=none/\ob P t m k ok (ay H)=some v:=by
 unfold K7 at h;unfold ob jl;split at h
 ·rename_i U W id l j y
  rw[y];refine⟨rfl,?_⟩;split at h
  case h_2=>cases h
  rename_i l' K KI VI rZ mem cl I;split at h
  case h_2=>cases h
  rename_i key V' z M N;split at h
  case h_2=>cases h
  rename_i d;simp only[aO]at d;obtain⟨hl,d,hs⟩:=d;have e:=Ct.nt hs;subst e;simp only[bD,bM]at h;obtain⟨hi,rfl⟩:=h;rw[hb]at hi;cases j with
  |none=>cases hi
  |some i=>
   have O:i<mem.length:=by simp_all[qa]
   simp only[yd,y];rw[bt I];simp only[ax.ao,hl,QV O,mC];rw[<-Ct.nv M,lU d,QL N]
   grind[yy,cR,dJ]
 ·rename_i U W id y
  rw[y];split at h
  case h_2=>cases h
  rename_i l K KI VI rZ mem cl I;split at h
  case h_2=>cases h
  rename_i key M N;split at h
  case h_2=>cases h
  rename_i d;simp only[vO,y];rw[bt I];simp only[ax.ao];refine⟨trivial,?_⟩;rw[<-Ct.nv M,lU d,N];simp only[K6 d];cases h;unfold o9;cases hf:cH K.ks key rZ 0 with
  |none=>rfl
  |some p=>
   obtain⟨i,r⟩:=p;obtain⟨_,hg⟩:=r9 hf
   simp_all[QU]
 ·cases h
def BX(P:ak)(t:aK)(m k v:AV)(H:List ax):Option (Bool × List ax):=
 match eT P t,m with
 |some (y,_),.sub id l j=>match H[id]? with
  |some (.mm l' K d h rZ mem cl)=>match d.read k,h.read v with
   |some key,some val=>match aD l l'&&jr P y d with
    |true=>some (qa mem j,H.set id (.mm l' K d h rZ (yE mem j d.ks key val) cl))
    |false=>none
   |_,_=>none
  |_=>none
 |_,_=>none
theorem acv(d h:Ct)(mem:LL)(i:Nat)(r:LG):tF d h (mem.set i r)=(tF d h mem).set i (dA d h (gi r 0).rZ,(gi r 1).iV.toNat):=by
 simp[tF,vn]
theorem acw(K:Ct)(rZ:LL)(i:Nat)(r:LG):lS K (rZ.set i r)=(lS K rZ).set i (K.av (gi r 0).rV,vZ r,(gi r 2).iV.toNat):=by
 simp[lS,vn]
theorem acx(h:BX P t m k v H=some (b,H'))(hb:b=true):
  vP P t m k v (ay H)=some (ay H')/\oT P t m k v (ay H)=none/\rW P t m k v (ay H)=none:=by
 unfold BX at h;unfold vP oT rW;split at h
 case h_2=>cases h
 rename_i kt et id l j ht;rw[ht];refine⟨?_,rfl,rfl⟩;split at h
 case h_2=>cases h
 rename_i l' K d I rZ mem cl hid;split at h
 case h_2=>cases h
 rename_i key val hk hv;split at h
 case h_2=>cases h
 rename_i M;simp only[aO]at M;obtain⟨N,M⟩:=M;have e:=bN N;subst e;simp only[bD,bM]at h;obtain⟨hi,rfl⟩:=h;rw[hb]at hi;cases j with
 |none=>cases hi
 |some i=>
  have hlt:i<mem.length:=by simpa[qa]using hi
  simp only[];rw[bt hid];simp only[ax.ao,QV hlt,N];rw[<-Ct.nv hk,<-Ct.nv hv,lU M];simp only[Ct.tD,and_self,if_true,yy M,dq,ax.ao,yE,mC,acv];generalize mem.getD i []=y;have O:∀(X:LL) (n:Nat),(gi [G.l X,G.i n] 0).rZ=X:=fun _ _=>rfl;have U:∀(X:LL) (n:Nat),(gi [G.l X,G.i n] 1).iV.toNat=n:=fun _ _=>rfl;unfold dV dK dJ;cases hf:cH d.ks key (gi y 0).rZ 0 with
  |none=>
   simp only[A7,Je,cF,O,U];rw[show dA d I ((gi y 0).rZ++[[.l [key],.l [val],.i (gi y 1).iV.toNat]])=dA d I (gi y 0).rZ++[(d.av key,I.av val,(gi y 1).iV.toNat)] from by
    simp only[dA,kj,e9,A8];rfl]
  |some p=>
   obtain⟨_,W⟩:=r9 (r:=p.2) (j:=p.1) hf;rw[iz]at W;have hg':(dA d I (gi y 0).rZ)[p.1]?=some (d.av (gi p.2 0).rV,I.av (gi p.2 1).rV,(gi p.2 2).iV.toNat):=by simp[dA,W]
   simp only[ki,QR _ hg',Jm,cT,O,U,QQ];rfl
def BZ(P:ak)(t:aK)(m k:AV)(H:List ax):Option (Bool × AV × List ax):=
 match eT P t,m with
 |some (d,h),.map id=>match H[id]? with
  |some (.mm l K v y rZ mem cl)=>match K.read k,kK P h with
   |some key,some (.lit (.map none))=>match jr P d K with
    |true=>some (!dJ K.ks rZ key,.tuple [.sub id l none,.lit (.int .i64 (cl:Nat))],H.set id (.mm l K v y (rZ++[[.l [key],.i (-1),.i cl]]) mem (cl+1)))
    |false=>none
   |_,_=>none
  |_=>none
 |_,_=>none
theorem acy(h:BZ P t m k H=some (b,v,H'))(hb:b=true):
  nq P t m k (ay H)=some (v,ay H')/\lQ P t m k (ay H)=none:=by
 unfold BZ at h;unfold nq lQ;split at h
 case h_2=>cases h
 rename_i U W id M;rw[M];split at h
 case h_2=>cases h
 rename_i l K KI VI rZ mem cl I;simp only[];rw[bt I];simp only[ax.ao];split at h
 case h_2=>cases h
 rename_i key N O;split at h
 case h_2=>cases h
 rename_i d;simp only[bD,bM]at h;obtain⟨y,rfl,rfl⟩:=h;rw[hb]at y;rw[<-Ct.nv N,lU d,O];simp only[Ct.tD,K6 d,and_true];unfold dJ at y;cases hf:cH K.ks key rZ 0 with
 |some p=>grind
 |none=>
  simp only[A7,dq,ax.ao];rw[show lS K (rZ++[[.l [key],.i (-1),.i cl]])=lS K rZ++[(K.av key,none,cl)] from by
   simp only[lS,kj,e9,A8];rfl]
  rfl
theorem QW{K:Ct}{st:Int}:∀{rZ:LL} {i:Nat},(iY st rZ i).map (·.1)=(vR (lS K rZ) st).map (·+i)
 |[],_=>rfl
 |x::rs,i=>by
  have d:=QW (K:=K) (st:=st) (rZ:=rs) (i:=i+1);unfold vR at d|-;simp only[iY,lS,e9,asb]at d|-;cases h:((gi x 2).iV.toNat:Int)==st with
  |true=>simp
  |false=>
   simp only[cF,d,rA,if_false,OS];congr 1
   funext n
   simp only[Function.comp];omega
def B0(m s v:AV)(H:List ax):Option (Bool × List ax):=
 match m,s,v with
 |.map id,.lit (.int .i64 st),.map j=>match H[id]?,H[j]? with
  |some (.mm l K d h rZ mem cl),some (.map I M k y)=>match d.same I&&h.same M with
   |true=>some (yF rZ st,(H.set id (.mm l K d h (yG rZ st mem.length) (mem++[[.l k,.i y]]) cl)).set j (.raw .dead))
   |false=>none
  |_,_=>none
 |_,_,_=>none
theorem acz{s:AV}(h:B0 m s v H=some (b,H'))(hb:b=true):
  pY m s v (ay H)=some (ay H')/\oU m s v (ay H)=none:=by
 unfold B0 at h;unfold pY oU;split at h
 case h_2=>cases h
 rename_i id st j;split at h
 case h_2=>cases h
 rename_i l K KI VI rZ mem cl K2 V2 W icl M N;refine⟨?_,rfl⟩;simp only[];rw[bt M,bt N];simp only[ax.ao];split at h
 case h_2=>cases h
 rename_i d;simp only[aO]at d;have O:=Ct.nt d.1;have U:=Ct.nt d.2;subst O U;simp only[bD,bM]at h;obtain⟨k,rfl⟩:=h;rw[hb]at k;unfold yF at k;unfold yG;cases y:iY st rZ 0 with
 |none=>grind
 |some p=>
  obtain⟨i,r⟩:=p;rw[y]at k;obtain⟨_,I⟩:=K5 y;rw[iz]at I;have hi:vR (lS K rZ) st=some i:=by
   have:=QW (K:=K) (st:=st) (rZ:=rZ) (i:=0);rw[y]at this;cases hz:vR (lS K rZ) st<;>grind
  have hm:vZ r=none:=by
   unfold vZ
   grind
  rw[hi];simp only[QU I,hm,dq,ax.ao,acw];simp[vZ,tF,gi,G.rV,G.rZ,G.iV,bq,show ∀n,dv 0 n=true from fun n=>Nat.ble_eq_true_of_le (fy n)]
def nx(P:ak)(r:cM->AV)(H:List ax):Op->Option (Bool × AV × List ax)
 |.alloc t=>match EZ P t with
  |some e=>if mu (ay H) 0=true then some (true,.ptr H.length 0 0 0 0,H++[.raw (.ij 0 t e Ed)]) else none
  |none=>match gC P t with
   |some z=>some (true,.ptr H.length 0 0 0 0,H++[.raw (.box (z.map .lit))])
   |none=>none
 |.box _ x=>match qE (r x) with
  |some cs=>some (true,.ptr H.length 0 0 0 0,H++[.raw (.box cs)])
  |none=>none
 |.store t a x=>match yu P t (r a) (r x) H with
  |some (b,H')=>some (b,.undef,H')
  |none=>match BL P t (r a) (r x) H with
   |some (b,H')=>some (b,.undef,H')
   |none=>match BM P t (r a) (r x) H with
    |some (b,H')=>some (b,.undef,H')
    |none=>none
 |.makeSlice t l c=>BN P t (r l) (r c) H
 |.buildSlice t n parts=>yx P t n (parts.toList.map fun p=>(p.1,r p.2)) H
 |.range t x=>match dO P t,r x with
  |.str,.lit (.string s)=>some (true,.ptr H.length 0 0 0 0,H++[.raw (.iter s 0)])
  |_,_=>none
 |.next it true=>match r it with
  |.ptr id 0 _ 0 0=>match H[id]? with
   |some (.raw (.iter s pos))=>if pos<s.size then some (true,.tuple [.lit (.bool true),.lit (goInt pos),.lit (.int .i32 (sY s pos).1)],H.set id (.raw (.iter s (pos+(sY s pos).2))))
     else some (true,.tuple [.lit (.bool false)],H)
   |_=>none
  |_=>none
 |.makeMap t none=>match eT P t with
  |some (h,d)=>match tM P h,tM P d with
   |some (K,_),some (V,_)=>some (true,.map H.length,H++[.map K V [] 0])
   |some (K,_),none=>match eT P d with
    |some _=>some (true,.map H.length,H++[.map K K [] 0])
    |none=>match dO P d with
     |.array 2 e 1 _=>match Bn P e with
      |some ks=>some (true,.map H.length,H++[.map K (.agg [.list ks,.list ks]) [] 0])
      |none=>none
     |_=>none
   |_,_=>none
  |none=>none
 |.mapUpdate t m k v=>match yz P t (r m) (r k) (r v) H with
  |some (b,H')=>some (b,.undef,H')
  |none=>match BQ P t (r m) (r k) (r v) H with
   |some (b,H')=>some (b,.undef,H')
   |none=>match BX P t (r m) (r k) (r v) H with
    |some (b,H')=>some (b,.undef,H')
    |none=>match BU P t (r m) (r k) (r v) H with
     |some (b,H')=>some (b,.undef,H')
     |none=>none
 |.lookup t m k false=>match BP P t (r m) (r k) H with
  |some y=>some y
  |none=>BT P t (r m) (r k) H
 |.mapEntry t m k=>match BR P t (r m) (r k) H with
  |some y=>some y
  |none=>BZ P t (r m) (r k) H
 |.entryStore _ m s x=>match BS (r m) (r s) (r x) H with
  |some (b,H')=>some (b,.undef,H')
  |none=>match B0 (r m) (r s) (r x) H with
   |some (b,H')=>some (b,.undef,H')
   |none=>none
 |.insert t m k v=>match yz P t (r m) (r k) (r v) H with
  |some (b,H')=>some (b,.undef,H')
  |none=>none
 |.call c=>match c.callee with
  |.builtin .append=>match c.args.toList,c.argTypes.toList with
   |[s,x],[t,xt]=>match dO P xt with
    |.int _=>yD P t xt (r s) (r x) H
    |_=>yv P t xt (r s) (r x) H
   |_,_=>none
  |.builtin .clear=>match c.args.toList,c.argTypes.toList with
   |[x],[t]=>match BW P t (r x) H with
    |some (b,H')=>some (b,.tuple [],H')
    |none=>none
   |_,_=>none
  |.builtin .delete=>match c.args.toList,c.argTypes.toList with
   |[x,k],t::_=>match BV P t (r x) (r k) H with
    |some (b,H')=>some (b,.tuple [],H')
    |none=>none
   |_,_=>none
  |_=>none
 |_=>none
theorem acA{s:AV}{H:List aj}(h:∀k,dO P xt≠.int k):vL P t xt s x H=none:=by
 unfold vL;split
 ·rename_i d
  exact(h _ d).elim
 ·rfl
theorem K8{o:Op}(h:nx P r H o=some (b,v,H'))(hb:b=true):eG P r (ay H) o=some (v,ay H'):=by
 cases o<;>simp only[nx]at h<;>try cases h
 case alloc t=>
  split at h
  ·rename_i e he
   split at h
   ·rename_i hn
    cases h
    simp_all[eG,vH,fB,kP,ax.ao]
   ·cases h
  grind[eG,vH,fB,kP,ax.ao]
 case box t x=>
  grind[eG,E5,fB,kP,ax.ao]
 case store t a x=>
  split at h
  grind[eG,KW]
  ·split at h
   ·rename_i N H1 d
    cases h;obtain⟨I,M⟩:=ab_ d hb
    grind[eG]
   ·split at h
    ·rename_i N H1 d
     cases h;obtain⟨I,M,O⟩:=ab' d hb
     grind[eG]
    ·cases h
 case makeSlice t l c=>grind[eG,ace]
 case buildSlice t n ps=>grind[eG,acf]
 case range t x=>
  grind[eG,E8,fB,kP,ax.ao]
 case next it isString=>
  cases isString with
  |false=>cases h
  |true=>
   simp only[]at h;split at h
   ·rename_i id k hx
    split at h
    ·rename_i s pos U
     simp only[eG,E9,hx,bt U,ax.ao];split at h
     ·rename_i W
      cases h;rw[iP W,dq];rfl
     grind
    ·cases h
   ·cases h
 case makeMap t res=>
  cases res with
  |some _=>cases h
  |none=>
   simp only[]at h;split at h
   ·split at h
    ·cases h
     simp only[eG,fB,kP,ax.ao];rfl
    ·split at h
     ·cases h
      simp only[eG,fB,kP,ax.ao];rfl
     ·split at h
      ·split at h
       ·cases h
        simp only[eG,fB,kP,ax.ao];rfl
       ·cases h
      ·cases h
    ·cases h
   ·cases h
 case mapUpdate t m k x=>
  split at h
  grind[eG,QS]
  ·split at h
   ·rename_i N H1 d
    cases h;obtain⟨I,M⟩:=acn d hb
    grind[eG]
   ·split at h
    ·rename_i N H1 d
     cases h;obtain⟨I,M,O⟩:=acx d hb
     grind[eG]
    ·split at h
     ·rename_i N H1 d
      cases h;obtain⟨I,M,O,g4⟩:=acj d hb
      grind[eG]
     ·cases h
 case lookup t m k ok=>
  cases ok with
  |true=>cases h
  |false=>
   simp only[]at h;split at h
   ·rename_i y hy
    cases h;obtain⟨I,M⟩:=acm hy hb
    grind[eG]
   ·obtain⟨I,M,O⟩:=aci h hb
    grind[eG]
 case mapEntry t m k=>
  split at h
  grind[eG,aco]
  ·obtain⟨I,M⟩:=acy h hb
   grind[eG]
 case entryStore t m s x=>
  split at h
  grind[eG,acp]
  ·split at h
   ·rename_i N H1 d
    cases h;obtain⟨I,M⟩:=acz d hb
    grind[eG]
   ·cases h
 case insert t m k x=>
  grind[eG,QS]
 grind[eG,Fg,acs,acA,acb,acr,acq]
def yH(n:Int):Option (Bool × AV):=some (aA n,.lit (.int .i64 n))
def K9(P:ak)(op:BinOp)(t:aK)(h:Bool)(x y:AV):Option (Bool × AV):=
 match op,x,y with
 |.add,.lit (.int .i64 a),.lit (.int .i64 b)=>yH (a+b)
 |.sub,.lit (.int .i64 a),.lit (.int .i64 b)=>yH (a-b)
 |.mul,.lit (.int .i64 a),.lit (.int .i64 b)=>yH (a*b)
 |.quo,.lit (.int .i64 a),.lit (.int .i64 b)=>some (!(b==0)&&aA (a.tdiv b),.lit (.int .i64 (a.tdiv b)))
 |.rem,.lit (.int .i64 a),.lit (.int .i64 b)=>some (!(b==0),.lit (.int .i64 (a.tmod b)))
 |.add,.lit (.string a),.lit (.string b)=>some (dv (a.size+b.size) 9223372036854775807,.lit (.string (a++b)))
 |.lss,.lit (.int k a),.lit (.int d b)=>if k=d then some (true,.lit (.bool (aN a b))) else none
 |.leq,.lit (.int k a),.lit (.int d b)=>if k=d then some (true,.lit (.bool (bq a b))) else none
 |.gtr,.lit (.int k a),.lit (.int d b)=>if k=d then some (true,.lit (.bool (aN b a))) else none
 |.geq,.lit (.int k a),.lit (.int d b)=>if k=d then some (true,.lit (.bool (bq b a))) else none
 |.and,.lit (.int k a),.lit (.int d b)=>if k=d then some (true,.lit (.int k (Pc k a b))) else none
 |.or,.lit (.int k a),.lit (.int d b)=>if k=d then some (true,.lit (.int k (Pd k a b))) else none
 |.xor,.lit (.int k a),.lit (.int d b)=>if k=d then some (true,.lit (.int k (Pe k a b))) else none
 |.shl,.lit (.int k a),.lit (.int _ b)=>some (cO b,.lit (.int k (JM k a b)))
 |.shr,.lit (.int k a),.lit (.int _ b)=>some (cO b,.lit (.int k (nZ k a b)))
 |op,.listF ks rZ,.lit (.slice none 0 0)=>match P.underlying t,oa op false with
  |some (.slice _),some v=>some (dy 0 rZ.length,v)
  |_,_=>none
 |op,.vQ w id aq oF m,.lit (.slice none 0 0)=>match P.underlying t,oa op false with
  |some (.slice _),some v=>some (dy 0 m,v)
  |_,_=>none
 |_,_,_=>match np P op t h x y with
  |some v=>some (true,v)
  |none=>none
def K_(m sz:Nat)(cells:List AV):Option (Kd × LL):=
 match BJ (cells.headD .undef)with
 |some k=>match cf [k] (cells.map fun c=>[c]) with
  |some rZ=>if sz=1/\m=cells.length then some (k,rZ) else none
  |none=>none
 |none=>none
theorem acB{m:Nat}{cells:List AV}{k:Kd}(h:K_ m sz cells=some (k,rZ))(v:j<m):
  aY [k] (rZ.getD j [])=(cells.drop (j*sz)).take sz:=by
 unfold K_ at h;split at h
 ·split at h
  ·rename_i M y
   split at h
   ·rename_i I
    obtain⟨rfl,rfl⟩:=I;cases h;have e:=tG y;have N:rZ.length=cells.length:=by have:=congrArg xJ e; grind
    have d:(rZ.map (aY [k]))[j]?=(cells.map fun c=>[c])[j]?:=by rw[e]
    rw[BK ab,dw,cB v]at d;simp only[ki,bD]at d;rw[d,Nat.mul_one,List.drop_eq_getElem_cons v,List.take_succ_cons,List.take_zero]
   ·cases h
  ·cases h
 ·cases h
def La(rZ:List (List AV)):Option (List Kd × LL):=match tH (rZ.headD [])with
 |some ks=>match cf ks rZ with
  |some d=>some (ks,d)
  |none=>none
 |none=>none
theorem acC{rZ:List (List AV)}{ks:List Kd}{d:LL}(h:La rZ=some (ks,d)):d.map (aY ks)=rZ:=by
 unfold La at h;split at h
 ·split at h
  ·rename_i v k
   cases h;exact tG k
  ·cases h
 ·cases h
def Lb(k:SK)(x i:AV):Option (Bool × AV):=
 match k,x,i with
 |.slice _ sz _,.listF ks rZ,.lit (.int _ j)=>if ks.length=sz then some (cO j&&aN j (rZ.length:Int),.cptr (aY ks (rZ.getD j.toNat []))) else none
 |.slice _ sz _,.vQ w id aq oF m,.lit (.int _ j)=>if w=sz then some (cO j&&aN j (m:Int),.ptr id aq w (oF+j.toNat) 0) else none
 |.slice _ sz _,.list w rZ,.lit (.int d j)=>match La rZ with
  |some (ks,y)=>if w=sz then some (cO j&&aN j (y.length:Int),.cptr (aY ks (y.getD j.toNat []))) else none
  |none=>match lP k (.list w rZ) (.lit (.int d j)) with
   |some v=>some (true,v)
   |none=>none
 |.slice _ sz _,.svec id l h m,.lit (.int _ j)=>some (cO j&&aN j (m:Int),.sptr id l h sz j.toNat 0)
 |.array m _ sz _,.cptr cells,.lit (.int d j)=>match K_ m sz cells with
  |some (M,rZ)=>some (cO j&&aN j (m:Int),.cptr (aY [M] (rZ.getD j.toNat [])))
  |none=>match lP k (.cptr cells) (.lit (.int d j)) with
   |some v=>some (true,v)
   |none=>none
 |.array m _ sz _,.ptr id aq w row I,.lit (.int _ j)=>some (cO j&&aN j (m:Int),.ptr id aq w row (I+j.toNat*sz))
 |_,_,_=>match lP k x i with
  |some v=>some (true,v)
  |none=>none
def Lc(k:SK)(x i:AV):Option (Bool × AV):=
 match k,x,i with
 |.str,.lit (.string s),.lit (.int _ j)=>some (cO j&&aN j (s.size:Int),.lit (.int .u8 ((s.data.toList.getD j.toNat 0).toNat)))
 |.array m _ 1 false,.agg cells,.lit (.int _ j)=>match lT cells with
  |some l=>bif dv m l.length then some (cO j&&aN j (m:Int),.lit (.int .i64 (l.getD j.toNat 0))) else none
  |none=>match tw k x i with
   |some v=>some (true,v)
   |none=>none
 |_,_,_=>match tw k x i with
  |some v=>some (true,v)
  |none=>none
def Ld(op:UnOp)(x:AV):Option (Bool × AV):=
 match op,x with
 |.neg,.lit (.int .i64 n)=>some (aA (0-n),.lit (.int .i64 (0-n)))
 |_,_=>match xZ op x with
  |some v=>some (true,v)
  |none=>none
def Le(P:ak)(s d:aK)(x:AV):Option (Bool × AV):=
 match P.underlying s,dO P d,x with
 |some _,.int .i64,.lit (.int _ n)=>some (aA n,.lit (.int .i64 n))
 |_,_,_=>match x8 P s d x with
  |some v=>some (true,v)
  |none=>none
def FD(P:ak)(r:cM->AV)(o:Op):Option (Bool × AV):=
 match o with
 |.indexAddr t x i=>Lb (dO P t) (r x) (r i)
 |.index t x i=>Lc (dO P t) (r x) (r i)
 |.binOp op t x y _=>K9 P op t (Ff x||Ff y) (r x) (r y)
 |.slice t x lo hi mx=>KZ P t (r x) (lo.map r) (hi.map r) (mx.map r)
 |.unOp op _ x=>Ld op (r x)
 |.convert s d x=>Le P s d (r x)
 |o=>match kL P r o with
  |some v=>some (true,v)
  |none=>none
theorem tQ{x:Option AV} (h:(match x with|some v=>some (true,v)|none=>none)=some (b,v)):x=some v:=by
 split at h
 ·cases h; rfl
 ·cases h
theorem yI{n:Int}(h:aA n=true):IntKind.i64.wrap n=n:=by
 rw[er]at h;simp[IntKind.wrap,IntKind.bits,IntKind.signed];omega
theorem acD{op:BinOp}{I:Bool}{y:AV}(h:K9 P op t I x y=some (b,v))(hb:b=true):np P op t I x y=some v:=by
  unfold K9 at h;split at h
  grind[yH,np,nk,tq,yI]
  grind[yH,np,nk,tq,yI]
  grind[yH,np,nk,tq,yI]
  simp_all[np,nk,tq,yI]
  grind[np,nk,tq]
  · simp only[bD,bM]at h
    obtain⟨h1,rfl⟩:=h;subst hb;have M:=vo h1;have d:∀k:Nat,k<=9223372036854775807->¬ ((k:Int)>IntKind.i64.max):=fun k N=>by
      show ¬ ((k:Int)>(9223372036854775807:Int))
      omega
    grind[np,nk,JN]
  all_goals first
    |exact tQ h
    | (split at h
       case isFalse=>cases h
       rename_i N;subst N;cases h;simp[np,nk,tq,cS,fe])
    | (simp only [bD, bM] at h
       obtain⟨h1,rfl⟩:=h;subst hb;simp only[lq,dT]at h1;simp only[np,nk,iN (Int.not_lt.2 h1)])
    | (split at h
       · rename_i h1 M
         simp only[bD,bM]at h;obtain⟨d,rfl⟩:=h;subst hb;simp only[jC]at d;simp only[np,h1,iP d,M]
       ·cases h)
theorem acE{k:SK}{i:AV}(h:Lb k x i=some (b,v))(hb:b=true):lP k x i=some v:=by
 unfold Lb at h;split at h
 ·split at h
  ·rename_i d
   simp only[bD,bM]at h;obtain⟨h1,rfl⟩:=h;subst hb;simp only[lq,cS,aO,dT]at h1;simp[lP,d,h1.1,h1.2]
  ·cases h
 ·split at h
  ·rename_i d
   simp only[bD,bM]at h;obtain⟨h1,rfl⟩:=h;subst hb;simp only[lq,cS,aO,dT]at h1;simp[lP,d,h1.1,h1.2]
  ·cases h
 ·split at h
  ·rename_i ks M y
   split at h
   ·rename_i d
    simp only[bD,bM]at h;obtain⟨h1,rfl⟩:=h;subst hb;simp only[lq,cS,aO,dT]at h1;have e:=acC y;subst e;simp only[lP,cP,dw];rw[iP ⟨d,h1.1,h1.2⟩,cB ab,dc,cB ab];rfl
   ·cases h
  ·exact tQ h
 ·simp only[bD,bM]at h
  obtain⟨h1,rfl⟩:=h;subst hb;simp only[lq,cS,aO,dT]at h1;simp[lP,h1.1,h1.2]
 ·split at h
  ·rename_i N rZ I
   simp only[bD,bM]at h;obtain⟨h1,rfl⟩:=h;subst hb;simp only[lq,cS,aO,dT]at h1;rw[acB I ab];simp[lP,h1.1,h1.2]
  ·exact tQ h
 ·simp only[bD,bM]at h
  obtain⟨h1,rfl⟩:=h;subst hb;simp only[lq,cS,aO,dT]at h1;simp[lP,h1.1,h1.2]
 ·exact tQ h
theorem acF{k:SK}{i:AV}(h:Lc k x i=some (b,v))(hb:b=true):tw k x i=some v:=by
 unfold Lc at h;split at h
 ·rename_i s y j
  simp only[bD,bM]at h;obtain⟨h1,rfl⟩:=h;subst hb;simp only[lq,cS,aO,dT]at h1;have d:j.toNat<s.size:=ab;have e:s[j.toNat]?=some (s.data.toList.getD j.toNat 0):=by
   have I:j.toNat<s.data.toList.length:=Ba;rw[dc,cB I];simp only[getElem?,decidableGetElem?,d,dite_true,Option.getD_some];rfl
  simp_all[tw]
 ·rename_i m e cells y j
  split at h
  ·rename_i l M
   cases hm:dv m l.length with
   |false=>grind
   |true=>
    rw[hm]at h;simp only[cT,bD,bM]at h;obtain⟨h1,rfl⟩:=h;subst hb;rw[ml]at hm;simp only[lq,cS,aO,dT]at h1;have N:=KT M j.toNat ab
    simp_all[tw,kJ]
  ·exact tQ h
 ·exact tQ h
theorem acG{op:UnOp}(h:Ld op x=some (b,v))(hb:b=true):xZ op x=some v:=by
 unfold Ld at h
 grind[xZ,yI]
theorem acH{s d:aK}(h:Le P s d x=some (b,v))(hb:b=true):x8 P s d x=some v:=by
 unfold Le at h;split at h
 ·rename_i k y
  simp only[bD,bM]at h;obtain⟨h1,rfl⟩:=h;subst hb;simp only[x8,k,y,yI h1]
 ·exact tQ h
theorem QX{o:Op}(h:FD P r o=some (b,v))(hb:b=true):kL P r o=some v:=by
 cases o<;>simp only[FD]at h<;>try exact tQ h
 case binOp=>simp only[kL]; exact acD h hb
 case indexAddr=>simp only[kL]; exact acE h hb
 case index=>simp only[kL]; exact acF h hb
 case slice=>simp only[kL]; exact acd h hb
 case unOp=>simp only[kL]; exact acG h hb
 case convert=>simp only[kL]; exact acH h hb
inductive br where
 |fail
 |done (x:cu) (s:aG)
 |ask (b:Bool) (t e:br)
 |side (b:Bool) (t:br)
def br.holds(Q:cu->aG->Prop):br->Prop
 |.fail=>False
 |.done x s=>Q x s
 |.ask b t e=>(b=true->t.holds Q)/\(b=false->e.holds Q)
 |.side b t=>b=true/\t.holds Q
structure aF where
 pf:bJ->Bool
 T:bJ->List AV->Option (Bool × AV)
 W:bJ->List AV->List ax->Option (Bool × AV × List ax)
 C:bJ->List AV->List ax->List Nat
 I:bJ->List AV->List ax->Option br:=fun _ _ _=>none
 N:bJ->Bool:=fun _=>false
 U:bJ->Bool:=fun _=>true
structure aH (P:ak) (τ:aF):Prop where
 T:∀f args b v,τ.T f args=some (b,v)->b=true->gr P f=true/\eM P f args v
 W:∀f args H b v H',τ.W f args H=some (b,v,H')->b=true->gr P f=true/\fL P f args (ay H) v (ay H')
 C:∀f args H b v H',τ.W f args H=some (b,v,H')->∀A,A∉τ.C f args H->A<H.length->H'[A]?=H[A]?
 I:∀f args H t,τ.I f args H=some t->∀Q:cu->aG->Prop,t.holds Q->gr P f=true/\∃v H',fL P f args (ay H) v (ay H')/\(∀A,A∉τ.C f args H->A<H.length->H'[A]?=H[A]?)/\Q .normal ⟨[v],H'⟩
 F:(∀f,τ.U f=false->∀args H,τ.W f args H=none/\τ.C f args H=[])/\∀f,τ.N f=true->∀args H b v H',τ.W f args H=some (b,v,H')->∀id o,id<H.length->id∉τ.C f args H ->
  τ.W f args (H.set id o)=some (b,v,H'.set id o)/\τ.C f args (H.set id o)=τ.C f args H
def br.B1(k:AV->List ax->br):br->br
 |.fail=>.fail
 |.done _ s=>k (s.fr.headD .undef) s.H
 |.ask b t e=>.ask b (t.B1 k) (e.B1 k)
 |.side b t=>.side b (t.B1 k)
theorem br.FE{k:AV->List ax->br}{Q:cu->aG->Prop}:∀{t:br},(t.B1 k).holds Q->t.holds fun _ s=>(k (s.fr.headD .undef) s.H).holds Q
 |.fail,h=>h
 |.done _ _,h=>h
 |.ask _ t e,h=>⟨fun hb=>FE (t:=t) (h.1 hb),fun hb=>FE (t:=e) (h.2 hb)⟩
 |.side _ t,h=>⟨h.1,FE (t:=t) h.2⟩
inductive Want where
 |bad|yes|no
 |test (t:Tmp) (b:Bool) (want:Bool)
def tR(ai:Array aQ)(fr:List AV)(o:aQ):Want:=
 match o.guard with
 |none=>.yes
 |some (j,d)=>match (ai[j]?).bind (·.dst) with
  |some t=>match fr[t]? with
   |some (.lit (.bool b))=>.test t b d
   |some (.tuple [])=>.no
   |_=>.bad
  |none=>.bad
def FF:AV->Option Bool
 |.lit (.bool b)=>some b
 |_=>none
def B2(H:List ax):AV->Bool × AV
 |.vQ w id aq oF n=>match H[id]? with
  |some (.vQ ks v rZ)=>if aq=v/\ks.length=w/\oF=0 then (aD n rZ.length,.listF ks rZ) else (true,.vQ w id aq oF n)
  |_=>(true,.vQ w id aq oF n)
 |.ptr id aq k row d=>match H[id]? with
  |some (.raw (.box cells))=>if aq=0/\row=0/\d=0/\AV.cd cells=true then (true,.cptr cells) else (true,.ptr id aq k row d)
  |_=>(true,.ptr id aq k row d)
 |a=>(true,a)
def we(H:List ax):List AV->Bool × List AV
 |[]=>(true,[])
 |a::as=>match B2 H a,we H as with
  |(b,h),(k,d)=>(b&&k,h::d)
def FG(H:List ax):AV->Bool × AV
 |.clo f caps=>match we H caps with
  |(b,d)=>(b,.clo f d)
 |a=>B2 H a
def tS(H:List ax):List AV->Bool × List AV
 |[]=>(true,[])
 |a::as=>match FG H a,tS H as with
  |(b,h),(k,d)=>(b&&k,h::d)
def FH:List AV->Bool
 |[]=>true
 |.lit _::as=>FH as
 |_::_=>false
def FI:AV->Bool
 |.lit _=>true
 |.tuple d=>FH d
 |_=>false
def Lf(P:ak)(r:cM->AV)(H:List ax)(o:Op):Option AV:=
 match o with
 |.call c=>match c.callee,c.args.toList,c.argTypes.toList with
  |.builtin .len,[a],[t]=>match eT P t,r a with
   |some _,.map id=>match H[id]? with
    |some (.map _ _ rZ _)=>some (.lit (.int .i64 rZ.length))
    |_=>none
   |_,_=>none
  |_,_,_=>none
 |_=>none
theorem acI{o:Op}(h:Lf P r H o=some v):im P r (ay H) o=some v:=by
 unfold Lf at h;split at h
 ·rename_i c
  simp only[im];split at h
  ·rename_i a t k ha y
   unfold tA;rw[k,ha,y];simp only[];split at h
   ·rename_i p id I hm
    rw[I,hm];simp only[];split at h
    ·rename_i K V rZ cl d
     cases h;rw[bt d];simp[ax.ao,dA]
    ·cases h
   ·cases h
  ·cases h
 ·cases h
def Lg(v:AV)(H:List ax):Option (Bool × AV × List ax):=
 match v with
 |.vQ w id aq oF n=>match H[id]? with
  |some (.vQ ks u rZ)=>if aq=u/\oF=0/\w=ks.length then some (aD n rZ.length,.listF ks rZ,H.set id (.raw .dead)) else none
  |_=>none
 |.agg (.vQ w id aq oF n::cs)=>match H[id]? with
  |some (.vQ ks u rZ)=>if aq=u/\oF=0/\w=ks.length then some (aD n rZ.length,.agg (.listF ks rZ::cs),H.set id (.raw .dead)) else none
  |_=>none
 |_=>none
def yJ(P:ak)(r:cM->AV)(H:List ax):Op->Option (Bool × List ax)
 |.store t a x=>match Lg (r x) H with
  |some (d,h,H1)=>match yu P t (r a) h H1 with
   |some (k,H')=>some (d&&k,H')
   |none=>none
  |none=>none
 |_=>none
theorem acJ{o:Op}(h:yJ P r H o=some (b,H'))(hb:b=true):yf P r (ay H) .undef (ay H') o:=by
 unfold yJ at h;split at h
 case h_2=>cases h
 rename_i t a x;split at h
 case h_2=>cases h
 rename_i M N H1 d;split at h
 case h_2=>cases h
 rename_i O U I;simp only[bD,bM]at h;obtain⟨h1,rfl⟩:=h;subst hb;simp only[aO]at h1;unfold Lg at d;split at d
 case h_3=>cases d
 ·rename_i w id aq oF n v
  split at d
  case h_2=>cases d
  rename_i ks u rZ k;split at d
  case isFalse=>cases d
  rename_i y;obtain⟨rfl,rfl,rfl⟩:=y;simp only[bD,bM]at d;obtain⟨hn,rfl,rfl⟩:=d;rw[h1.1]at hn;have hn:=bN hn;subst hn;refine⟨.listF ks rZ,(ay H).set id .dead,⟨id,aq,ks,rZ,.inl ⟨v,rfl⟩,?_,rfl⟩,?_,rfl⟩
  ·rw[bt k]
   rfl
  ·have:=KW I h1.2
   rw[dq]at this;exact this
 ·rename_i w id aq oF n cs v
  split at d
  case h_2=>cases d
  rename_i ks u rZ k;split at d
  case isFalse=>cases d
  rename_i y;obtain⟨rfl,rfl,rfl⟩:=y;simp only[bD,bM]at d;obtain⟨hn,rfl,rfl⟩:=d;rw[h1.1]at hn;have hn:=bN hn;subst hn;refine⟨.agg (.listF ks rZ::cs),(ay H).set id .dead,⟨id,aq,ks,rZ,.inr ⟨cs,v,rfl⟩,?_,rfl⟩,?_,rfl⟩
  ·rw[bt k]
   rfl
  ·have:=KW I h1.2
   rw[dq]at this;exact this
def Lh(k:SK)(x i:AV)(H:List ax):Option (Int × AV × AV):=match k,x,i with
 |.array 2 _ 1 _,.ptr id aq w row d,.lit (.int _ n)=>match H[id]? with
  |some (.raw (.box [.vQ ..,.vQ ..]))=>some (n,.ptr id aq w row d,.ptr id aq w row (d+1))
  |_=>none
 |_,_,_=>none
theorem acK{k:SK}{i p0 p1:AV}{n:Int}(h:Lh k x i H=some (n,p0,p1))(h1:(cO n&&aN n 2)=true):lP k x i=some (bif aD n.toNat 0 then p0 else p1):=by
 unfold Lh at h;split at h
 case h_2=>cases h
 split at h
 case h_2=>cases h
 cases h;simp only[lq,cS,aO,dT]at h1;have e:n=0\/n=1:=ab;rcases e with rfl|rfl<;>simp[lP]<;>rfl
def qK(P:ak)(τ:aF)(o:aQ)(s:aG)(k:AV->List ax->br):br:=
 match o.op with
 |.pick c a b=>match FF (s.eval c) with
  |some t=>.ask t (k (s.eval a) s.H) (k (s.eval b) s.H)
  |none=>.fail
 |.load t a=>match KU P t (s.eval a) s.H with
  |some (b,v)=>.side b (k v s.H)
  |none=>.fail
 |.lookup t m x ok=>match K3 P t (s.eval m) (s.eval x) ok s.H with
  |some (b,v)=>match ed τ.pf o.op,ok with
   |.read,_=>.side b (k v s.H)
   |.write,false=>.side b (k v s.H)
   |_,_=>.fail
  |none=>match ed τ.pf o.op with
   |.write=>match nx P s.eval s.H o.op with
    |some (b,v,H')=>.side b (k v H')
    |none=>.fail
   |.read=>match K7 P t (s.eval m) (s.eval x) ok s.H with
    |some (b,v)=>.side b (k v s.H)
    |none=>.fail
   |.pure=>.fail
 |.indexAddr t x i=>match Lh (dO P t) (s.eval x) (s.eval i) s.H with
  |some (n,p0,p1)=>.side (cO n&&aN n 2) (.ask (aD n.toNat 0) (k p0 s.H) (k p1 s.H))
  |none=>match FD P s.eval o.op with
   |some (b,v)=>.side b (k v s.H)
   |none=>.fail
 |_=>match ed τ.pf o.op with
  |.read=>match Lf P s.eval s.H o.op with
   |some v=>k v s.H
   |none=>.fail
  |.pure=>match il s.eval o.op with
   |some (f,args)=>match τ.T f args with
    |some (b,v)=>.side b (k v s.H)
    |none=>.fail
   |none=>match FD P s.eval o.op with
    |some (b,v)=>.side b (k v s.H)
    |none=>.fail
  |.write=>match il s.eval o.op with
   |some (f,args)=>match τ.W f args s.H with
    |some (b,v,H')=>.side b (k v H')
    |none=>match τ.I f args s.H with
     |some t=>t.B1 k
     |none=>match τ.T f args with
      |some (b,v)=>.side b (k v s.H)
      |none=>match tS s.H args with
       |(h,d)=>match τ.T f d with
        |some (b,v)=>match FI v&&AV.cd d with
         |true=>.side (h&&b) (k v s.H)
         |false=>.fail
        |none=>.fail
   |none=>match nx P s.eval s.H o.op with
    |some (b,v,H')=>.side b (k v H')
    |none=>match yJ P s.eval s.H o.op with
     |some (b,H')=>.side b (k .undef H')
     |none=>.fail
def aG.aM(s:aG)(t:Tmp)(b:Bool):aG:=⟨s.fr.set t (.lit (.bool b)),s.H⟩
def Li(P:ak)(τ:aF)(ai:Array aQ)(o:aQ)(s:aG)(k:aG->br):br:=
 match tR ai s.fr o with
 |.bad=>.fail
 |.no=>k (s.put o.dst (.tuple []) s.H)
 |.yes=>qK P τ o s fun v H'=>k (s.put o.dst v H')
 |.test t b d=>.ask b
   (match d with
    |true=>qK P τ o (s.aM t true) fun v H'=>k ((s.aM t true).put o.dst v H')
    |false=>k ((s.aM t true).put o.dst (.tuple []) s.H))
   (match d with
    |true=>k ((s.aM t false).put o.dst (.tuple []) s.H)
    |false=>qK P τ o (s.aM t false) fun v H'=>k ((s.aM t false).put o.dst v H'))
def g_(P:ak)(τ:aF)(ai:Array aQ):List aQ->aG->(aG->br)->br
 |[],s,k=>k s
 |o::d,s,k=>Li P τ ai o s fun s1=>g_ P τ ai d s1 k
def fu:AV->Option Nat
 |.ptr id _ _ _ _=>some id
 |.vQ _ id _ _ _=>some id
 |.map id=>some id
 |.sub id _ _=>some id
 |.svec id _ _ _=>some id
 |.sptr id _ _ _ _ _=>some id
 |_=>none
def om:AV->List Nat
 |.agg cs=>cs.filterMap fu
 |a=>match fu a with
  |some i=>[i]
  |none=>[]
theorem Lj(h:fu a=some i):i∈om a:=by
 unfold om;split
 ·cases h
 ·rw[h]
  exact List.mem_singleton_self i
def B3:List AV->List AV->Bool
 |[],[]=>true
 |.ptr a b c d e::as,.ptr h k v y I::M=>(aD a h&&(aD b k&&(aD c v&&(aD d y&&aD e I))))&&B3 as M
 |_,_=>false
def B4:Option ax->Option ax->Bool
 |some (.raw (.box [.clo f as])),some (.raw (.box [.clo g d]))=>aD f g&&B3 as d
 |_,_=>false
theorem QY:∀{as d:List AV},B3 as d=true->as=d
 |[],[],_=>rfl
 |[],_::_,h=>by simp[B3]at h
 |a::as,d,h=>by
  unfold B3 at h;split at h
  ·exact absurd ‹a::as=[]› au
  ·rename_i e
   cases e;simp only[aO,Nat.beq_eq]at h;obtain⟨⟨rfl,rfl,rfl,rfl,rfl⟩,h⟩:=h;rw[QY h]
  ·cases h
theorem acL{a b:Option ax}(h:B4 a b=true):a=b:=by
 unfold B4 at h;split at h
 ·simp only[aO,Nat.beq_eq]at h
  rw[h.1,QY h.2]
 ·cases h
def tT(τ:aF)(f:bJ)(as:List AV)(H:List ax)(id:Nat):Bool:=match τ.W f as H with
 |some (_,_,H')=>B4 H'[id]? H[id]?
 |none=>false
def mD(τ:aF)(r:cM->AV)(H:List ax)(op:Op):List Nat:=
 match il r op with
 |some (f,args)=>(τ.C f args H).filter fun id => !tT τ f args H id
 |none=>op.operands.toList.flatMap fun x=>om (r x)
variable {τ:aF}
theorem QZ{as:List AV}(h:τ.W f as H=some (b,v,H'))(hA:A∉(τ.C f as H).filter fun id => !tT τ f as H id):A∉τ.C f as H\/H'[A]?=H[A]?:=by
 by_cases hm:A∈τ.C f as H
 ·right
  cases d:tT τ f as H A with
  |true=>
   grind[tT,acL]
  |false=>grind
 grind
theorem acM{as:List AV}(h:τ.W f as H=none)(hA:A∉(τ.C f as H).filter fun id => !tT τ f as H id):A∉τ.C f as H:=
 by grind[tT]
structure Acc where
 R:my
 W:lp
def B5(az:List Nat)(i:Nat):Bool := !az.any (aD i)
def Lk(ai:Array aQ)(j id:Nat)(d:Acc):Option Acc:=
 match d.W.all fun e=>waits ai ai.size j e.1||(B5 e.2.1 id&&dy id e.2.2)with
 |true=>some ⟨(j,id)::d.R,d.W⟩
 |false=>none
def FJ(ai:Array aQ)(j:Nat)(T:List Nat)(n:Nat)(d:Acc):Option Acc:=
 match d.R.all fun e=>waits ai ai.size j e.1||(B5 T e.2&&dy e.2 n)with
 |true=>match d.W.all fun e=>waits ai ai.size j e.1||((T.all fun id=>B5 e.2.1 id&&dy id e.2.2)&&e.2.1.all fun id=>dy id n) with
  |true=>some ⟨d.R,(j,T,n)::d.W⟩
  |false=>none
 |false=>none
def Ll(τ:aF)(ai:Array aQ)(j:Nat)(o:aQ)(s:aG)(d:Acc):Option Acc:=
 match ed τ.pf o.op with
 |.pure=>some d
 |.read=>match pZ s.eval o.op with
  |some id=>Lk ai j id d
  |none=>some d
 |.write=>FJ ai j (mD τ s.eval s.H o.op) s.H.length d
def gZ:Kd->ar->Option G
 |.int k,.int d n=>if k=d then some (.i n) else none
 |.str,.string s=>some (.s s)
 |.bool,.bool b=>some (.t b)
 |.list _,.slice none 0 0=>some (.l [])
 |_,_=>none
def yK:List Kd->List ar->Option LG
 |[],[]=>some []
 |k::ks,v::z=>match gZ k v,yK ks z with
  |some g,some d=>some (g::d)
  |_,_=>none
 |_,_=>none
def mK:Kd->Option (List Kd)
 |.list ks=>some ks
 |_=>none
def mZ:List Kd->List (Option (List Kd)):=List.map mK
theorem acN{k:Kd}{v:ar}{g:G}(h:gZ k v=some g):oN k g=zc (mK k) v:=by
 cases k with
 |int k=>
  cases v with
  |int d n=>
   simp only[gZ]at h;by_cases e:k=d
   ·rw[iP e]at h
    cases h;subst e;rfl
   ·rw[iN e]at h
    cases h
  |_=>cases h
 |str=>cases v<;>first|(cases h; rfl)|cases h
 |bool=>cases v<;>first|(cases h; rfl)|cases h
 |list ks=>
  cases v with
  |slice b n c=>cases b<;>cases n<;>cases c<;>first|(cases h; rfl)|cases h
  |_=>cases h
theorem Q0:∀{ks:List Kd} {z:List ar} {g:LG},yK ks z=some g->aY ks g=lj (mZ ks) z
 |[],[],g,h=>by cases h; rfl
 |[],_::_,g,h=>by cases h
 |_::_,[],g,h=>by cases h
 |k::ks,v::z,g,h=>by
  simp only[yK]at h;split at h
  ·rename_i g0 I h1 d
   cases h;have y:=Q0 d;simp only[aY,xH,List.tail_cons,y,acN h1];rfl
  ·cases h
def wg(z:List ar):List ax->Nat->Option (Nat × List Kd × LG)
 |[],_=>none
 |.vQ ks 0 rZ::H,i=>match yK ks z with
  |some g=>match rZ with
   |[]=>some (i,ks,g)
   |_::_=>wg z H (i+1)
  |none=>wg z H (i+1)
 |_::H,i=>wg z H (i+1)
def yL:List ax->Nat->Option Nat
 |[],_=>none
 |.raw .eV::_,i=>some i
 |_::H,i=>yL H (i+1)
def acO(P:ak)(t:aK):Option (Ct × Ct):=
 match eT P t with
 |some (h,d)=>match tM P h,tM P d with
  |some (K,_),some (V,_)=>some (K,V)
  |some (K,_),none=>match eT P d with
   |some _=>some (K,K)
   |none=>none
  |_,_=>none
 |none=>none
def Lm(P:ak)(op:Op)(H:List ax):Option (Nat × AV × List ax):=
 match op with
 |.alloc t=>match gC P t with
  |some z=>match wg z H 0 with
   |some (id,ks,g)=>some (id,.ptr id 1 ks.length 0 0,H.set id (.vQ ks 1 [g]))
   |none=>match yL H 0 with
    |some id=>some (id,.ptr id 0 0 0 0,H.set id (.raw (.box (z.map .lit))))
    |none=>none
  |none=>none
 |.makeMap t none=>match acO P t with
  |some (K,V)=>match yL H 0 with
   |some id=>some (id,.map id,H.set id (.map K V [] 0))
   |none=>none
  |none=>none
 |_=>none
def Ln(τ:aF)(o:aQ)(s:aG):Bool:=match ed τ.pf o.op with
 |.write=>match il s.eval o.op with
  |some (f,args)=>match τ.N f with
   |true=>(τ.W f args s.H).isSome
   |false=>false
  |none=>p7 o.op
 |_=>true
def B6(P:ak)(τ:aF)(ai:Array aQ)(j:Nat)(o:aQ)(s:aG)(h:Acc)(k:aG->Acc->br):br:=
 match oX ai&&gD o.op with
 |true=>match Lm P o.op s.H with
  |some (id,v,H')=>match FJ ai j [id] s.H.length h with
   |some d=>k (s.put o.dst v H') d
   |none=>.fail
  |none=>.fail
 |false=>match oY ai o.op && !Ln τ o s with
  |true=>.fail
  |false=>match Ll τ ai j o s h with
   |some d=>qK P τ o s fun v H'=>k (s.put o.dst v H') d
   |none=>.fail
def Lo(P:ak)(τ:aF)(ai:Array aQ)(j:Nat)(o:aQ)(s:aG)(d:Acc)(k:aG->Acc->br):br:=
 match tR ai s.fr o with
 |.bad=>.fail
 |.no=>k (s.put o.dst (.tuple []) s.H) d
 |.yes=>B6 P τ ai j o s d k
 |.test t b h=>.ask b
   (match h with
    |true=>B6 P τ ai j o (s.aM t true) d k
    |false=>k ((s.aM t true).put o.dst (.tuple []) s.H) d)
   (match h with
    |true=>k ((s.aM t false).put o.dst (.tuple []) s.H) d
    |false=>B6 P τ ai j o (s.aM t false) d k)
def Lp(P:ak)(τ:aF)(ai:Array aQ):List aQ->Nat->aG->Acc->(aG->br)->br
 |[],_,s,_,k=>k s
 |o::d,j,s,v,k=>Lo P τ ai j o s v fun s1 h=>Lp P τ ai d (j+1) s1 h k
def Q1(k:aG->br)(K:cu->aG->br):cu->aG->br
 |.normal,s=>k s
 |x,s=>K x s
def Q2(id:Nat)(K:cu->aG->br):cu->aG->br
 |.exit i,s=>if i=id then K .normal s else K (.exit i) s
 |x,s=>K x s
def br.bind(K:cu->aG->br):br->br
 |.fail=>.fail
 |.done x s=>K x s
 |.ask b t e=>.ask b (t.bind K) (e.bind K)
 |.side b t=>.side b (t.bind K)
def qc:Code->Option Nat
 |.region id _ _=>some id
 |.seq a b=>match qc a with
  |some i=>some i
  |none=>qc b
 |.block _ c=>qc c
 |.cond _ a b=>match qc a with
  |some i=>some i
  |none=>qc b
 |.loop c=>qc c
 |_=>none
def wh:Code->Nat
 |.seq a b=>match qc a with
  |some _=>wh a
  |none=>wh b
 |.block _ c=>wh c
 |.cond _ a b=>match qc a with
  |some _=>wh a
  |none=>wh b
 |.loop c=>wh c+1
 |_=>0
def Q3(c:Code):Option Nat:=match qc c with
 |some i=>some (i+1000*wh c)
 |none=>none
def cI:Code->List (Nat × Code)
 |.seq a b=>cI a++cI b
 |.cond _ a b=>cI a++cI b
 |.block _ c=>cI c
 |.loop c=>match Q3 c with
  |some k=>(k,c)::cI c
  |none=>cI c
 |_=>[]
def acP(k:aG->br)(K:cu->aG->br):cu->aG->br
 |.normal,s=>k s
 |.exit i,s=>K (.exit i) s
 |.ret,s=>K .ret s
def FL(body:aG->(cu->aG->br)->br):Nat->aG->(cu->aG->br)->br
 |0,_,_=>.fail
 |n+1,s,K=>body s (acP (fun s'=>FL body n s' K) K)
def cN:Code->List (Nat × Code)
 |.seq a b=>cN a++((match qc b with
  |some k=>[(k,b)]
  |none=>[])++cN b)
 |.cond _ a b=>cN a++cN b
 |.block _ c=>cN c
 |.loop c=>cN c
 |_=>[]
structure LT where
 loops:Nat->aG->Option br
 pre:Nat->aG->Bool × aG
 B7:Nat->aG->Option br
def Q4(L:LT)(k:Option Nat)(s:aG):Option br:=
 match k with
 |some i=>L.B7 i s
 |none=>none
def eH(P:ak)(τ:aF)(L:LT):Code->aG->(cu->aG->br)->br
 |.skip,s,K=>K .normal s
 |.region id ai d,s,K=>match d && !yg τ.pf ai with
  |true=>match yt τ.pf ai with
   |true=>.side (L.pre id s).1 (Lp P τ ai ai.toList 0 (L.pre id s).2 ⟨[],[]⟩ (K .normal))
   |false=>.fail
  |false=>.side (L.pre id s).1 (g_ P τ ai ai.toList (L.pre id s).2 (K .normal))
 |.seq a b,s,K=>eH P τ L a s (Q1 (fun s1=>match Q4 L (qc b) s1 with
  |some t=>t.bind K
  |none=>eH P τ L b s1 K) K)
 |.cond c a b,s,K=>match FF (s.eval c) with
  |some t=>.ask t (eH P τ L a s K) (eH P τ L b s K)
  |none=>.fail
 |.block id c,s,K=>eH P τ L c s (Q2 id K)
 |.loop c,s,K=>match Q3 c with
  |some i=>match L.loops i s with
   |some t=>t.bind K
   |none=>FL (fun s1 h=>eH P τ L c s1 h) 400 s K
  |none=>.fail
 |.exit id,s,K=>K (.exit id) s
 |.ret,s,K=>K .ret s
 |_,_,_=>.fail
def Q5(P:ak)(m:Nat)(c:Code)(s:aG)(t:br):Prop:=∀Q:cu->aG->Prop,t.holds Q->∃x s',oW P m c s.ao x s'.ao/\Q x s'
def Lq(P:ak)(m:Nat)(c:Code)(s:aG)(t:br):Prop:=∀Q:cu->aG->Prop,t.holds Q->∃x s',dU P m c s.ao x s'.ao/\Q x s'
def aT(P:ak)(m:Nat)(L:LT)(c:Code):Prop:=(∀k d,(k,d)∈cI c->∀s t,L.loops k s=some t->Q5 P m d s t)/\(∀id s,(L.pre id s).1=true->bO m s.ao (L.pre id s).2.ao) /\
 ∀k d,(k,d)∈cN c->∀s t,L.B7 k s=some t->Lq P m d s t
theorem aT.sub{m:Nat}{L:LT}{c v:Code}(h:aT P m L c)(h1:∀p,p∈cI v->p∈cI c)(I:∀p,p∈cN v->p∈cN c):aT P m L v:=
 ⟨fun k d y=>h.1 k d (h1 _ y),h.2.1,fun k d y=>h.2.2 k d (I _ y)⟩
theorem Q6(h:FF a=some b):a=.lit (.bool b):=by
 unfold FF at h;split at h
 ·cases h; rfl
 ·cases h
theorem Q7{E E':ah}:∀{k:List AV} {d:List ar},FH k=true->aw E k d->aw E' k d
 |[],[],_,_=>by simp[aw]
 |[],_::_,_,h=>by simp[aw]at h
 |a::k,d,v,h=>by
  unfold FH at v;split at v
  grind
  ·rename_i y
   cases y;cases d with
   |nil=>simp[aw]at h
   |cons u d=>
    simp only[aw,ad]at h|-;exact⟨h.1,Q7 v h.2⟩
  ·cases v
theorem acQ{E':ah}{u:ar}(d:FI v=true)(h:ad E v u):ad E' v u:=by
 unfold FI at d
 grind[ad,Q7]
def ah.bare(E:ah)(w:World):ah:={ w:=w,H:=[],ae:=[],X:=E.X.re fK }
theorem FM{w:World}(b:Nat):¬ (E.bare w).af b:=by rintro(⟨id,c,h⟩|⟨l,k,c,h⟩)<;>simp_all[ah.bare,fK]
theorem tU(E:ah):E.ct (E.bare E.w):=⟨fun b hb=>⟨⟨hb.1,FM b,hb.2.2⟩,rfl⟩⟩
theorem acR(HE:aJ E):aJ (E.bare E.w):=by
 refine⟨rfl,?_,?_,HE.X,?_,HE.iT.ct (tU E),fun l k l' h b m n d=>by simp[ah.bare,fK]at d,fun i b m l k n hi=>by simp[ah.bare]at hi,fun l k b m d=>by simp[ah.bare,fK]at d,fun i j o o' l hi=>by simp[ah.bare]at hi,fun l _ k q d=>by simp[ah.bare,fK]at d⟩
 ·intro i j b m n hi; simp[ah.bare]at hi
 ·intro i b m hi; simp[ah.bare]at hi
 ·intro i o hi; simp[ah.bare]at hi
theorem Q8(HE:aJ E)(hH:E.H=ay H){aq w:Nat}{ks:List Kd}
  (y:H[id]?=some (.vQ ks aq rZ)) (I:ks.length=w) (hn:n=rZ.length) (hr:ad E (.vQ w id aq 0 n) c):ad (E.bare E.w) (.listF ks rZ) c:=by
 subst I hn;have d:E.H[id]?=some (.vQ ks.length aq (rZ.map (aY ks))):=by rw[hH]; exact bt y
 have ho:=HE.obj id _ d;rw[lM];simp only[ad]at hr|-;obtain⟨⟨aU,cap,rfl,v,_⟩,_,M⟩:=hr;obtain⟨q1,N⟩:=M ⟨_,d,rfl⟩;have h:gn (rZ.map (aY ks)):=by
  intro r hr;obtain⟨g,_,rfl⟩:=dS.1 hr;exact iR ks g
 refine⟨h,aU,cap,au,by simpa using v,?_⟩;simp only[a6]at ho;rcases ho with⟨h1,O⟩|⟨b,m,h1,O,U,_,W⟩
 grind
 ·obtain⟨g1,o,g2,k⟩:=N b m h1
  by_cases hm:rZ=[]
  grind
  ·right
   have:0<rZ.length:=by cases rZ<;>grind
   simp at U;have ho:=g2 ab;simp at ho;subst ho;simp only[qz]at k;refine⟨b,0,k.1,⟨(HE.lt id b m h1).1,FM b,(HE.lt id b m h1).2⟩,?_⟩;exact mq (tU E) _ h rfl W
theorem acS(HE:aJ E)(hH:E.H=ay H){k:Nat}{cells:List AV} (y:H[id]? = some (.raw (.box cells))) (v:AV.cd cells=true)
  (hr:ad E (.ptr id 0 k 0 0) c):ad (E.bare E.w) (.cptr cells) c:=by
 have h:E.H[id]?=some (.box cells):=by rw[hH]; exact bt y
 have ho:=HE.obj id _ h;simp only[a6]at ho;obtain⟨b,n,h1,O,I⟩:=ho;simp only[ad]at hr|-;obtain⟨_,_,M⟩:=hr;obtain⟨U,W,d,N⟩:=M ⟨_,h,rfl⟩;rw[h1]at d;simp only[bD,bM]at d;obtain⟨rfl,rfl⟩:=d;refine⟨v,b,0,by rw[N]; simp,⟨(HE.lt id b n h1).1,FM b,(HE.lt id b n h1).2⟩,?_⟩;exact xO (tU E) cells v rfl I
theorem Q9(HE:aJ E)(hH:E.H=ay H){I:AV}(h:B2 H a=(b,I))(hb:b=true)(d:I.closed=true)(hr:ad E a c):ad (E.bare E.w) I c:=by
 unfold B2 at h;split at h
 ·split at h
  ·rename_i w id aq oF n ks v rZ y
   split at h
   ·rename_i M
    obtain⟨rfl,N,rfl⟩:=M;simp only[bM]at h;obtain⟨h1,rfl⟩:=h;subst hb;exact Q8 HE hH y N (bN h1) hr
   ·cases h; simp[AV.closed]at d
  ·cases h; simp[AV.closed]at d
 ·split at h
  ·rename_i id aq k row U _ cells y
   split at h
   ·rename_i M
    obtain⟨rfl,rfl,rfl,O⟩:=M;cases h;exact acS HE hH y O hr
   ·cases h; simp[AV.closed]at d
  ·cases h; simp[AV.closed]at d
 ·cases h
  exact gk (tU E) _ d hr
theorem Q_{E:ah}(HE:aJ E){H:List ax}(hH:E.H=ay H):∀{as d:List AV} {b:Bool} {cs:List ar},we H as=(b,d)->b=true->AV.cd d=true->aw E as cs ->
  aw (E.bare E.w) d cs
 |[],d,b,cs,h,_,_,hr=>by
  simp only[we]at h;cases h;cases cs with
  |nil=>simp[aw]
  |cons _ _=>simp[aw]at hr
 |a::as,d,b,cs,h,hb,k,hr=>by
  cases cs with
  |nil=>simp[aw]at hr
  |cons c cs=>
   simp only[aw]at hr;cases v:B2 H a with
   |mk M N=>
   cases y:we H as with
   |mk O I=>
   simp only[we,v,y,bM]at h;obtain⟨h1,rfl⟩:=h;subst h1;simp only[aO]at hb;simp only[AV.cd,aO]at k;simp only[aw];exact⟨Q9 HE hH v hb.1 k.1 hr.1,Q_ HE hH y hb.2 k.2 hr.2⟩
theorem acT(HE:aJ E)(hH:E.H=ay H){d:AV}(h:FG H a=(b,d))(hb:b=true)(v:d.closed=true)(hr:ad E a c):ad (E.bare E.w) d c:=by
 unfold FG at h;split at h
 ·rename_i f caps
  cases y:we H caps with
  |mk I k=>
  grind[ad,Q_,AV.closed]
 grind[Q9]
theorem Ra{E:ah}(HE:aJ E){H:List ax}(hH:E.H=ay H):∀{as d:List AV} {b:Bool} {cs:List ar},tS H as=(b,d)->b=true->AV.cd d=true->aw E as cs ->
  aw (E.bare E.w) d cs
 |[],d,b,cs,h,_,_,hr=>by
  simp only[tS]at h;cases h;cases cs with
  |nil=>simp[aw]
  |cons _ _=>simp[aw]at hr
 |a::as,d,b,cs,h,hb,k,hr=>by
  cases cs with
  |nil=>simp[aw]at hr
  |cons c cs=>
   simp only[aw]at hr;cases v:FG H a with
   |mk M N=>
   cases y:tS H as with
   |mk O I=>
   simp only[tS,v,y,bM]at h;obtain⟨h1,rfl⟩:=h;subst h1;simp only[aO]at hb;simp only[AV.cd,aO]at k;simp only[aw];exact⟨acT HE hH v hb.1 k.1 hr.1,Ra HE hH y hb.2 k.2 hr.2⟩
theorem acU(N:eM P f d v)(O:tS H args=(b,d))(hb:b=true)(M:AV.cd d=true)
  (U:FI v=true):fL P f args (ay H) v (ay H):=by
 intro E y hH HE I;refine(N [] (E.bare E.w) y rfl (acR HE) (Ra HE hH O hb M I)).mono ?_;rintro _ w' ⟨c,W,H',rfl,⟨rfl,rfl⟩,loc',r',g1,g2,h⟩;have k:Ext E.w w':=⟨h.size,fun x hx=>h.same x hx (FM x),h.env⟩
 refine⟨c,W,ay H,rfl,⟨rfl,rfl⟩,E.ae,E.X.r,acQ U g1,?_,?_⟩
 ·rw[<-hH]; exact HE.ext k
 ·rw[<-hH]; exact ah.lN k
section sound
variable {P:ak} {τ:aF}
theorem B8(d:cX ai s.fr o=some true)(k:ed τ.pf o.op=.pure)
  (h:kL P s.eval o.op=some v\/∃f args,il s.eval o.op=some (f,args)/\gr P f=true/\eM P f args v):Yields P τ.pf ai o s.ao v (ay s.H):=by
 unfold Yields;rw[show s.ao.fr=s.fr from rfl,d];simp only[k,aG.qJ];exact⟨rfl,h⟩
theorem wk{H':List aj}(d:cX ai s.fr o=some true)(k:ed τ.pf o.op=.write)
  (h:eG P s.eval (ay s.H) o.op=some (v,H')\/∃f args,il s.eval o.op=some (f,args)/\gr P f=true/\fL P f args (ay s.H) v H'):Yields P τ.pf ai o s.ao v H':=by
 unfold Yields;rw[show s.ao.fr=s.fr from rfl,d];simp only[k,aG.qJ];exact .inl h
theorem hZ{o:ax}(h:A≠id):(H.set id o)[A]?=H[A]? :=gB
theorem Lr{o:ax}(h:A<H.length):(H++[o])[A]?=H[A]?:=fT h
theorem Rb{P:ak}(h:yu P t x v H=some (b,H'))(k:fu x≠some A):H'[A]?=H[A]?:=by
 unfold yu at h;split at h
 case h_2=>cases h
 rename_i n I cs id aq w row y M cC;have d:A≠id:=fun e=>k (by rw[e]; rfl);split at h
 case isFalse=>cases h
 split at h
 ·split at h
  ·split at h
   ·cases h; exact hZ d
   ·cases h
  ·split at h
   ·cases h; exact hZ d
   ·cases h
 ·split at h
  ·split at h
   ·cases h; exact hZ d
   ·cases h
  ·cases h
 ·cases h
theorem acV{P:ak}{s:AV}(h:yv P t xt s x H=some (b,v,H'))(k:A<H.length)(d:fu s≠some A):H'[A]?=H[A]?:=by
 unfold yv at h;split at h
 case h_2=>cases h
 split at h
 case h_2=>cases h
 split at h
 case isFalse=>cases h
 split at h
 grind
 grind
 ·split at h
  ·split at h
   ·split at h
    ·cases h; exact hZ fun e=>d (by rw[e]; rfl)
    ·cases h
   ·cases h
  ·cases h
 ·cases h
theorem acW{P:ak}{s:AV}(h:yD P t xt s x H=some (b,v,H'))(d:A<H.length):H'[A]?=H[A]?:=by
 unfold yD at h;split at h<;>grind
theorem acX{P:ak}(h:BW P t x H=some (b,H'))(d:fu x≠some A):H'[A]?=H[A]?:=by
 unfold BW at h;split at h
 case h_2=>cases h
 split at h
 case h_2=>cases h
 split at h
 case h_2=>cases h
 split at h
 ·cases h; exact hZ fun e=>d (by rw[e]; rfl)
 ·cases h
theorem Rc{P:ak}(h:yz P t m k v H=some (b,H'))(d:fu m≠some A):H'[A]?=H[A]?:=by
 unfold yz at h;split at h
 case h_2=>cases h
 split at h
 case h_2=>cases h
 split at h
 case h_2=>cases h
 split at h
 ·cases h; exact hZ fun e=>d (by rw[e]; rfl)
 ·cases h
theorem acY{P:ak}(h:BQ P t m k v H=some (b,H'))(d:fu m≠some A)(y:fu v≠some A):H'[A]?=H[A]?:=by
 unfold BQ at h;split at h
 case h_2=>cases h
 split at h
 case h_2=>cases h
 split at h
 case h_2=>cases h
 split at h
 ·cases h
  rw[hZ fun e=>y (by rw[e]; rfl)];exact hZ fun e=>d (by rw[e]; rfl)
 ·cases h
theorem acZ{P:ak}(h:BX P t m k v H=some (b,H'))(d:fu m≠some A):H'[A]?=H[A]?:=by
 unfold BX at h;split at h
 case h_2=>cases h
 split at h
 case h_2=>cases h
 split at h
 case h_2=>cases h
 split at h
 ·cases h
  exact hZ fun e=>d (by rw[e]; rfl)
 ·cases h
theorem ac0{P:ak}(h:BZ P t m k H=some (b,v,H'))(d:fu m≠some A):H'[A]?=H[A]?:=by
 unfold BZ at h;split at h
 case h_2=>cases h
 split at h
 case h_2=>cases h
 split at h
 case h_2=>cases h
 split at h
 ·cases h
  exact hZ fun e=>d (by rw[e]; rfl)
 ·cases h
theorem ac1{s:AV}(h:B0 m s v H=some (b,H'))(d:fu m≠some A)(k:fu v≠some A):H'[A]?=H[A]?:=by
 unfold B0 at h;split at h
 case h_2=>cases h
 split at h
 case h_2=>cases h
 split at h
 ·cases h
  rw[hZ fun e=>k (by rw[e]; rfl)];exact hZ fun e=>d (by rw[e]; rfl)
 ·cases h
theorem ac2{P:ak}(h:BP P t m k H=some (b,v,H'))(d:A<H.length)(y:fu m≠some A):H'[A]?=H[A]?:=by
 unfold BP at h;split at h
 case h_2=>cases h
 split at h
 case h_2=>cases h
 split at h
 case h_2=>cases h
 split at h
 ·cases h
  rw[Lr (by simpa using d)];exact hZ fun e=>y (by rw[e]; rfl)
 ·cases h
theorem ac3{P:ak}(h:BL P t x v H=some (b,H'))(d:fu x≠some A):H'[A]?=H[A]?:=by
 unfold BL at h;split at h
 case h_2=>cases h
 split at h
 case h_2=>cases h
 split at h
 case isFalse=>cases h
 split at h
 ·cases h
  exact hZ fun e=>d (by rw[e]; rfl)
 ·cases h
theorem ac4{P:ak}(h:BM P t x v H=some (b,H'))(d:fu x≠some A)(k:fu v≠some A):H'[A]?=H[A]?:=by
 unfold BM at h;split at h
 case h_2=>cases h
 split at h
 case h_2=>cases h
 split at h
 case isFalse=>cases h
 split at h
 ·cases h
  rw[hZ fun e=>k (by rw[e]; rfl)];exact hZ fun e=>d (by rw[e]; rfl)
 ·cases h
theorem ac5{P:ak}(h:BT P t m k H=some (b,v,H'))(d:A<H.length)(y:fu m≠some A):H'[A]?=H[A]?:=by
 unfold BT at h;split at h
 case h_2=>cases h
 split at h
 case h_2=>cases h
 split at h
 case h_2=>cases h
 split at h
 ·cases h
  rw[fT (by simpa using d)];exact hZ fun e=>y (by rw[e]; rfl)
 ·cases h
theorem ac6{P:ak}(h:BU P t m k v H=some (b,H'))(y:fu m≠some A)(d:A∉om v):H'[A]?=H[A]?:=by
 unfold BU at h;split at h
 case h_2=>cases h
 split at h
 case h_2=>cases h
 split at h
 case h_2=>cases h
 split at h
 ·cases h
  rw[hZ fun e=>d (by rw[<-e]; simp[om,fu])];rw[hZ fun e=>d (by rw[<-e]; simp[om,fu])];exact hZ fun e=>y (by rw[e]; rfl)
 ·cases h
theorem ac7{s:AV}(h:BS m s v H=some (b,H'))(d:fu m≠some A)(k:fu v≠some A):H'[A]?=H[A]?:=by
 unfold BS at h;split at h
 case h_2=>cases h
 split at h
 case h_2=>cases h
 split at h
 ·cases h
  rw[hZ fun e=>k (by rw[e]; rfl)];exact hZ fun e=>d (by rw[e]; rfl)
 ·cases h
theorem ac8{P:ak}(h:BR P t m k H=some (b,v,H'))(d:A<H.length)(y:fu m≠some A):H'[A]?=H[A]?:=by
 unfold BR at h;split at h
 case h_2=>cases h
 split at h
 case h_2=>cases h
 split at h
 case h_2=>cases h
 split at h
 ·cases h
  rw[Lr (by simpa using d)];exact hZ fun e=>y (by rw[e]; rfl)
 ·cases h
theorem ac9{P:ak}(h:BV P t m k H=some (b,H'))(d:fu m≠some A):H'[A]?=H[A]?:=by
 unfold BV at h;split at h
 case h_2=>cases h
 split at h
 case h_2=>cases h
 split at h
 ·cases h; exact hZ fun e=>d (by rw[e]; rfl)
 ·cases h
theorem ac_{P:ak}{l c:AV}(h:BN P t l c H=some (b,v,H'))(d:A<H.length):H'[A]?=H[A]?:=by
 unfold BN at h;split at h<;>grind
theorem ac'{P:ak}{parts:List (Nat × AV)}(h:yx P t n parts H=some (b,v,H'))(d:A<H.length):H'[A]?=H[A]?:=by
 unfold yx at h;split at h
 case h_2=>cases h
 split at h
 case h_2=>cases h
 split at h
 case h_2=>cases h
 split at h
 case h_2=>cases h
 split at h
 case h_2=>cases h
 split at h
 ·cases h; exact Lr d
 ·cases h
theorem Ls{P:ak}{o:Op}(h:nx P r H o=some (b,v,H'))(y:A<H.length)(hA:A∉o.operands.toList.flatMap fun x=>om (r x)):H'[A]?=H[A]?:=by
 have no:∀x∈o.operands.toList,fu (r x)≠some A:=fun x d e=>hA (ZH.2 ⟨x,d,Lj e⟩);cases o<;>simp only[nx]at h<;>try cases h
 grind
 grind
 case store t a x=>
  grind[Rb,lh,ac3,ac4]
 case makeSlice t l c=>exact ac_ h y
 case buildSlice t n ps=>exact ac' h y
 case range t x=>
  grind
 case next it isString=>
  cases isString with
  |false=>cases h
  |true=>
   simp only[]at h;split at h
   ·rename_i id k d
    split at h
    ·split at h
     ·cases h; exact hZ fun e=>no it (by simp[lh]) (by rw[d,e]; rfl)
     grind
    ·cases h
   ·cases h
 case makeMap t res=>
  cases res with
  |some _=>cases h
  |none=>
   simp only[]at h;split at h<;>grind
 case mapUpdate t m k x=>
  grind[Rc,lh,acY,acZ,ac6]
 case lookup t m k ok=>
  cases ok with
  |true=>cases h
  |false=>
   grind[ac2,lh,ac5]
 case mapEntry t m k=>
  grind[ac8,lh,ac0]
 case entryStore t m s x=>
  grind[ac7,lh,ac1]
 case insert t m k x=>
  grind[Rc,lh]
 grind[lh,A6,acW,acV,acX,ac9]
theorem ada{P:ak}{o:Op}(h:yJ P r H o=some (b,H'))(hA:A∉o.operands.toList.flatMap fun x=>om (r x)):H'[A]?=H[A]?:=by
 have no:∀x∈o.operands.toList,fu (r x)≠some A:=fun x k e=>hA (ZH.2 ⟨x,k,Lj e⟩);unfold yJ at h;split at h
 case h_2=>cases h
 rename_i t a x;split at h
 case h_2=>cases h
 rename_i I M H1 d;split at h
 case h_2=>cases h
 rename_i N O v;simp only[bD,bM]at h;obtain⟨_,rfl⟩:=h;rw[Rb v (no a (by simp[lh]))];unfold Lg at d;split at d
 case h_3=>cases d
 ·rename_i w id aq oF n y
  split at d
  case h_2=>cases d
  split at d
  case isFalse=>cases d
  simp only[bD,bM]at d;obtain⟨_,_,rfl⟩:=d;refine hZ fun e=>no x (by simp[lh]) ?_;rw[y,e];rfl
 grind[lh,om,fu]
theorem FN(ht:aH P τ){k:AV->List ax->br}(M:cX ai s.fr o=some true)
  (h:(qK P τ o s k).holds Q):∃v H',Yields P τ.pf ai o s.ao v (ay H')/\(ed τ.pf o.op=.write->∀A,A∉mD τ s.eval s.H o.op->A<s.H.length->H'[A]?=s.H[A]?)/\(k v H').holds Q:=by
 unfold qK at h;split at h
 ·rename_i c a b ho
  split at h
  ·rename_i t hb
   have hb:=Q6 hb;refine⟨bif t then s.eval a else s.eval b,s.H,B8 M (by rw[ho]; rfl) (.inl (by rw[ho]; simp only[kL,hb])),fun _ _ _ _=>rfl,?_⟩;simp only[br.holds]at h;cases t with
   |true=>exact h.1 rfl
   |false=>exact h.2 rfl
  ·exact h.elim
 ·rename_i t a ho
  split at h
  ·rename_i b v hl
   simp only[br.holds]at h;refine⟨v,s.H,?_,fun _ _ _ _=>rfl,h.2⟩;unfold Yields;rw[show s.ao.fr=s.fr from rfl,M];simp only[ho,ed,aG.qJ];exact⟨rfl,by simp only[im]; exact ab9 hl h.1⟩
  ·exact h.elim
 ·rename_i t m x ok ho
  have htouch:mD τ s.eval s.H o.op=o.op.operands.toList.flatMap fun x=>om (s.eval x):=by
   have hnc:il s.eval o.op=none:=by rw[ho]; rfl
   simp only[mD,hnc]
  split at h
  ·rename_i b v hl
   split at h
   ·rename_i y
    simp only[br.holds]at h;refine⟨v,s.H,?_,fun _ _ _ _=>rfl,h.2⟩;unfold Yields;rw[show s.ao.fr=s.fr from rfl,M];simp only[y,aG.qJ];rw[ho];exact⟨rfl,by
     have e:=QN hl;rw[show ay s.H=s.ao.H from rfl]at e;simp only[im,e]⟩
   ·rename_i y
    simp only[br.holds]at h;refine⟨v,s.H,wk M y (.inl ?_),fun _ _ _ _=>rfl,h.2⟩;rw[ho];simp only[eG,QN hl]
   ·exact h.elim
  ·split at h
   ·rename_i y
    split at h
    ·rename_i b v H' d
     simp only[br.holds]at h;exact⟨v,H',wk M y (.inl (K8 d h.1)),fun _ A hA hlt=>Ls d hlt (by rw[htouch]at hA; exact hA),h.2⟩
    ·exact h.elim
   ·rename_i y
    split at h
    ·rename_i b v hl
     simp only[br.holds]at h;obtain⟨q1,q2⟩:=acu hl h.1;refine⟨v,s.H,?_,fun _ _ _ _=>rfl,h.2⟩;unfold Yields;rw[show s.ao.fr=s.fr from rfl,M];simp only[y,aG.qJ];rw[ho];exact⟨rfl,by simp only[im]; rw[show jl P t (s.eval m) (s.eval x) ok s.ao.H=none from q1]; exact q2⟩
    ·exact h.elim
   ·exact h.elim
 ·rename_i t x i ho
  have y:ed τ.pf o.op=.pure:=by rw[ho]; rfl
  split at h
  ·rename_i n p0 p1 N
   simp only[br.holds]at h;refine⟨bif aD n.toNat 0 then p0 else p1,s.H,B8 M y (.inl (by rw[ho]; simp only[kL,acK N h.1])),fun _ _ _ _=>rfl,?_⟩;cases hb:aD n.toNat 0 with
   |true=>exact h.2.1 hb
   |false=>exact h.2.2 hb
  ·split at h
   ·rename_i b v d
    simp only[br.holds]at h;exact⟨v,s.H,B8 M y (.inl (QX d h.1)),fun _ _ _ _=>rfl,h.2⟩
   ·exact h.elim
 ·split at h
  ·rename_i y
   split at h
   ·rename_i v d
    refine⟨v,s.H,?_,fun _ _ _ _=>rfl,h⟩;unfold Yields;rw[show s.ao.fr=s.fr from rfl,M];simp only[y,aG.qJ];exact⟨rfl,acI d⟩
   ·exact h.elim
  ·rename_i y
   split at h
   ·rename_i f args N
    split at h
    ·rename_i b v d
     simp only[br.holds]at h;obtain⟨O,U⟩:=ht.T f args b v d h.1;exact⟨v,s.H,B8 M y (.inr ⟨f,args,N,O,U⟩),fun _ _ _ _=>rfl,h.2⟩
    ·exact h.elim
   ·split at h
    ·rename_i b v d
     simp only[br.holds]at h;exact⟨v,s.H,B8 M y (.inl (QX d h.1)),fun _ _ _ _=>rfl,h.2⟩
    ·exact h.elim
  ·rename_i y
   split at h
   ·rename_i f args N
    split at h
    ·rename_i b v H' d
     simp only[br.holds]at h;obtain⟨O,U⟩:=ht.W f args s.H b v H' d h.1;exact⟨v,H',wk M y (.inr ⟨f,args,N,O,U⟩),fun _ A hA hlt=>by
      simp only[mD,N]at hA;rcases QZ d hA with h1|h1
      ·exact ht.C f args s.H b v H' d A h1 hlt
      ·exact h1,h.2⟩
    ·rename_i hW0
     split at h
     ·rename_i t hi
      obtain⟨O,v,H',U,g3,g4⟩:=ht.I f args s.H t hi _ (br.FE h);exact⟨v,H',wk M y (.inr ⟨f,args,N,O,U⟩),fun _ A hA hlt=>g3 A (by simp only[mD,N]at hA; exact acM hW0 hA) hlt,g4⟩
     ·split at h
      ·rename_i b v d
       simp only[br.holds]at h;obtain⟨O,U⟩:=ht.T f args b v d h.1;exact⟨v,s.H,wk M y (.inr ⟨f,args,N,O,U _⟩),fun _ _ _ _=>rfl,h.2⟩
      ·cases hx:tS s.H args with
       |mk vb args'=>
       rw[hx]at h;simp only[]at h;split at h
       ·rename_i b v d
        split at h
        ·rename_i hfl
         simp only[aO]at hfl;simp only[br.holds,aO]at h;obtain⟨O,U⟩:=ht.T f args' b v d h.1.2;exact⟨v,s.H,wk M y (.inr ⟨f,args,N,O,acU U hx h.1.1 hfl.2 hfl.1⟩),fun _ _ _ _=>rfl,h.2⟩
        ·exact h.elim
       ·exact h.elim
   ·rename_i hnc
    split at h
    ·rename_i b v H' d
     simp only[br.holds]at h;exact⟨v,H',wk M y (.inl (K8 d h.1)),fun _ A hA hlt=>Ls d hlt (by simpa only[mD,hnc]using hA),h.2⟩
    ·split at h
     ·rename_i b H' d
      simp only[br.holds]at h;refine⟨.undef,H',?_,fun _ A hA hlt=>ada d (by simpa only[mD,hnc]using hA),h.2⟩;unfold Yields;rw[show s.ao.fr=s.fr from rfl,M];simp only[y,aG.qJ];exact .inr (.inr (acJ d h.1))
     ·exact h.elim
theorem Re{t:Tmp}{d:Bool}(h:tR ai s.fr o=.test t b d):
  s.fr[t]?=some (.lit (.bool b))/\cX ai s.fr o=some (b==d):=by
 unfold tR at h;unfold cX;cases k:o.guard with
 |none=>rw[k]at h; cases h
 |some v=>
  obtain⟨j,w⟩:=v;rw[k]at h;simp only[]at h|-;split at h
  ·rename_i t' y
   split at h
   ·rename_i I hb
    cases h;exact⟨hb,by rw[y]; simp only[hb]⟩
   ·cases h
   ·cases h
  ·cases h
theorem Lt(h:tR ai s.fr o=.no):cX ai s.fr o=some false:=by
 unfold tR at h;unfold cX;cases d:o.guard with
 |none=>rw[d]at h; cases h
 |some k=>
  obtain⟨j,w⟩:=k;rw[d]at h;simp only[]at h|-;split at h
  ·rename_i t' v
   split at h
   ·cases h
   ·rename_i hb
    rw[v];simp only[hb]
   ·cases h
  ·cases h
theorem Rf(h:tR ai s.fr o=.yes):cX ai s.fr o=some true:=by
 unfold tR at h;unfold cX;cases d:o.guard with
 |none=>rfl
 |some k=>
  obtain⟨j,w⟩:=k;rw[d]at h;simp only[]at h;split at h
  ·split at h<;>cases h
  ·cases h
theorem FO{t:Tmp} (h:s.fr[t]?=some (.lit (.bool b))):s.aM t b=s:=by
 unfold aG.aM;rw[qF h]
theorem adb(M:aH P τ){k:aG->br}(h:(Li P τ ai o s k).holds Q):
  ∃v H',Yields P τ.pf ai o s.ao v (ay H')/\(k (s.put o.dst v H')).holds Q:=by
 have skip:cX ai s.fr o=some false->Yields P τ.pf ai o s.ao (.tuple []) (ay s.H):=by
  intro d;unfold Yields;rw[show s.ao.fr=s.fr from rfl,d];exact⟨rfl,rfl⟩
 unfold Li at h;split at h
 ·exact h.elim
 grind[Lt]
 grind[FN,Rf]
 ·rename_i t b I d
  obtain⟨h1,N⟩:=Re d;simp only[br.holds]at h;cases b with
  |true=>
   have y:=h.1 rfl;rw[FO h1]at y;cases I with
   |true=>
    grind[FN]
   |false=>grind
  |false=>
   have y:=h.2 rfl;rw[FO h1]at y;cases I with
   |true=>grind
   |false=>
    grind[FN]
theorem tV(d:aH P τ){ai:Array aQ}{Q:cu->aG->Prop}:∀{l:List aQ} {s:aG} {k:aG->br},(g_ P τ ai l s k).holds Q->∃ s',gX P τ.pf ai l s.ao s'.ao/\(k s').holds Q
 |[],s,k,h=>⟨s,rfl,h⟩
 |o::l,s,k,h=>by
  obtain⟨v,H',h1,y⟩:=adb d h;obtain⟨s',I,M⟩:=tV d y;exact⟨s',⟨v,ay H',h1,I⟩,M⟩
def Acc.le(a b:Acc):Prop:=(∀x∈a.R,x∈b.R)/\∀x∈a.W,x∈b.W
def Acc.ok(ai:Array aQ)(j:Nat)(a:Acc):Prop:=(∀x∈a.R,x.1<j)/\(∀x∈a.W,x.1<j)/\vY ai a.R a.W
theorem Lu{az:List Nat}(h:B5 az i=true):i∉az:=by
 intro hm;have:az.any (aD i)=true:=List.any_eq_true.2 ⟨i,hm,au⟩;simp[B5,this]at h
theorem ade{a b:Acc}(ha:a.ok ai j)(h:Lk ai j id a=some b):b.ok ai (j+1)/\a.le b/\(j,id)∈b.R:=by
 unfold Lk at h;split at h
 ·rename_i y
  cases h;simp only[eD,vm,aO,jC]at y;obtain⟨h1,k,v⟩:=ha;refine⟨⟨fun x d=>?_,fun x d=>Er (k x d),fun i I hi e he=>?_,v.2⟩,⟨fun x d=>dh _ d,fun x d=>d⟩,dx⟩
  grind
  ·rcases c_.1 hi with N | hi
   ·cases N
    have O:=k e he;refine⟨fun M=>absurd M ab,fun _ U=>?_⟩
    grind[Lu]
   ·exact v.1 i I hi e he
 ·cases h
theorem Rg{T:List Nat}{a b:Acc}(ha:a.ok ai j)(h:FJ ai j T n a=some b):b.ok ai (j+1)/\a.le b/\(j,T,n)∈b.W:=by
 unfold FJ at h;split at h
 ·rename_i hall
  split at h
  case h_2=>cases h
  rename_i hallW;cases h;simp only[eD,vm,aO,jC]at hall hallW;obtain⟨h1,h2,M⟩:=ha;refine⟨⟨fun x k=>Er (h1 x k),fun x k=>?_,fun i id' hi e he=>?_,fun e he N d v y id I=>?_,fun e he N d v y id I=>?_⟩,⟨fun x k=>k,fun x k=>dh _ k⟩,dx⟩
  grind
  ·rcases c_.1 he with O | he
   grind[Lu]
   ·exact M.1 i id' hi e he
  ·rcases c_.1 d with O | d
   ·subst O
    rcases c_.1 he with U|he
    grind
    grind[Lu]
   ·rcases c_.1 he with U | he
    grind
    ·exact M.2.1 e he N d v y id I
  ·rcases c_.1 d with O | d
   grind
   ·rcases c_.1 he with U | he
    grind
    ·exact M.2.2 e he N d v y id I
 ·cases h
theorem Acc.B9{a:Acc}(h:a.ok ai j):a.ok ai (j+1):=⟨fun x d=>Er (h.1 x d),fun x d=>Er (h.2.1 x d),h.2.2⟩
theorem Acc.le_refl(a:Acc):a.le a:=⟨fun _ h=>h,fun _ h=>h⟩
theorem Acc.le_trans{a b c:Acc}(h:a.le b)(h':b.le c):a.le c:=⟨fun x d=>h'.1 x (h.1 x d),fun x d=>h'.2 x (h.2 x d)⟩
def Acc.only(j:Nat)(a b:Acc):Prop:=∀x∈b.W,x.1<j->x∈a.W
theorem adf{a b:Acc}(ha:a.ok ai j)(h:Ll τ ai j o s a=some b):
  b.ok ai (j+1)/\a.le b/\(ed τ.pf o.op=.read->∀id,pZ s.eval o.op=some id->(j,id)∈b.R)/\(ed τ.pf o.op=.write->(j,mD τ s.eval s.H o.op,s.H.length)∈b.W):=by
 unfold Ll at h;split at h
 ·rename_i d
  cases h;exact⟨Acc.B9 ha,a.le_refl,(fun h=>by rw[d]at h; cases h),(fun h=>by rw[d]at h; cases h)⟩
 ·rename_i d
  split at h
  ·rename_i id k
   obtain⟨I,M,N⟩:=ade ha h
   grind
  ·rename_i k
   cases h;refine⟨Acc.B9 ha,a.le_refl,fun _ y v=>?_,(fun h=>by rw[d]at h; cases h)⟩
   grind
 grind[Rg]
theorem Lv{b c:Acc}(y:b.le c)(hr:ed τ.pf o.op=.read->∀ id,pZ s.eval o.op=some id->(j,id)∈b.R)
  (O:ed τ.pf o.op=.write->(j,mD τ s.eval s.H o.op,s.H.length)∈b.W) (U:ed τ.pf o.op=.write->∀A,A∉mD τ s.eval s.H o.op->A<s.H.length->H'[A]?=s.H[A]?)
  (M:oY ai o.op=true->ed τ.pf o.op=.write->cX ai s.ao.fr o=some true->∀k,Fv c.W j s.ao.H k->Yields P τ.pf ai o ⟨s.ao.fr,oZ k s.ao.H⟩ v (oZ k (ay H'))) :
  (h:(oX ai&&gD o.op)=false)->Step P τ.pf ai c.R c.W j o s.ao v (ay H'):=by
 intro h;refine⟨fun d A hA=>?_,fun d _ id N=>y.1 _ (hr d id (by rw[<-aG.qJ]; exact N)),fun h1 I _=>(by rw[h1,I]at h; cases h),M⟩;have:=hA _ (y.2 _ (O d)) rfl;have I:=U d A this.1 this.2;show (ay H')[A]?=(ay s.H)[A]?
 grind[ay]
theorem step_skip{c:Acc}(d:cX ai s.fr o=some false):Step P τ.pf ai c.R c.W j o s.ao (.tuple []) (ay s.H):=
 ⟨fun _ _ _=>rfl,fun _ h=>(by rw[show s.ao.fr=s.fr from rfl,d]at h; cases h),fun _ _ _=>⟨rfl,fun _ h=>(h rfl).elim⟩,fun _ _ h=>(by rw[show s.ao.fr=s.fr from rfl,d]at h; cases h)⟩
theorem Rh(I:aH P τ){f:bJ}{args:List AV}{v:AV}(M:τ.N f=true):∀(d:List (Nat × aj)) (H H':List ax),τ.W f args H=some (true,v,H')->(∀p∈d,p.1<H.length/\p.1∉τ.C f args H) ->
  ∃y k,ay y=oZ d (ay H)/\ay k=oZ d (ay H')/\τ.W f args y=some (true,v,k)
 |[],H,H',h,_=>⟨H,H',rfl,rfl,h⟩
 |p::d,H,H',h,O=>by
  obtain⟨U,a2⟩:=O p dx;obtain⟨h1,h2⟩:=I.F.2 f M args H true v H' h p.1 (.raw p.2) U a2;obtain⟨y,k,q1,q2,q3⟩:=Rh I M d _ _ h1 fun q hq=>by
   obtain⟨b1,b2⟩:=O q (dh _ hq);rw[h2];exact⟨by simpa using b1,b2⟩
  refine⟨y,k,?_,?_,q3⟩
  ·rw[q1,dq]
   rfl
  ·rw[q2,dq]
   rfl
theorem adg{k:AV->List ax->br}(d:vX o.op=true)(y:ed τ.pf o.op=.write)(h:il s.eval o.op=some (f,args))(M:τ.W f args s.H=some (b,v,H')):
  qK P τ o s k=.side b (k v H'):=by
 unfold vX at d;split at d
 ·rename_i c I
  unfold qK;rw[I]at y h|-;simp only[y,h,M]
 ·cases d
theorem Ri(h:p7 op=true):il r op=none:=by
 unfold p7 at h;split at h
 ·rfl
 ·rename_i c
  split at h
  ·rename_i d
   simp only[il,Fh,d]
  ·cases h
 ·cases h
theorem adh{k:AV->List ax->br}(d:p7 o.op=true)(N:ed τ.pf o.op=.write)(h:(qK P τ o s k).holds Q):
  ∃v H',nx P s.eval s.H o.op=some (true,v,H')/\(k v H').holds Q:=by
 have I:=Ri (r:=s.eval) d;have M:yJ P s.eval s.H o.op=none:=by
  unfold p7 at d;split at d
  ·rename_i y; rw[y]; rfl
  ·rename_i y; rw[y]; rfl
  ·cases d
 grind[qK,p7,br.holds]
theorem Rj{k:List ax}{d:Option (List Kd)}(h:∀id,fu x=some id->k[id]?=H[id]?):tK sz x k d=tK sz x H d:=by
 cases x with
 |vQ w id aq oF n=>
  have:=h id rfl
  grind[tK]
 |lit v=>
  cases v with
  |slice b n c=>cases b<;>cases n<;>cases c<;>rfl
  |_=>rfl
 |_=>rfl
theorem Rk{d:List ax}(h:∀id,fu x=some id->d[id]?=H[id]?):wa sz x d z=wa sz x H z:=by
 unfold wa;cases x<;>exact Rj h
theorem asT{H:List α}{x o:α}(h:id<H.length):(H++[x]).set id o=H.set id o++[x]:=List.set_append_left _ _ h
theorem adi(d:p7 op=true){o:ax}(h:nx P r H op=some (true,v,H'))(hlt:id<H.length)(hid:id∉op.operands.toList.flatMap fun x=>om (r x)):
  nx P r (H.set id o) op=some (true,v,H'.set id o):=by
 have no:∀x∈op.operands.toList,fu (r x)≠some id:=fun x k e=>hid (ZH.2 ⟨x,k,Lj e⟩);unfold p7 at d;split at d
 ·rename_i t n parts
  simp only[nx]at h|-;unfold yx at h|-;split at h
  case h_2=>cases h
  rename_i y
  try simp only[y]
  split at h
  case h_2=>cases h
  rename_i I
  try simp only[I]
  split at h
  case h_2=>cases h
  rename_i M
  try simp only[M]
  split at h
  case h_2=>cases h
  rename_i N
  try simp only[N]
  split at h<;>grind
 ·rename_i c
  split at d
  case h_2=>cases d
  rename_i hc;simp only[nx,hc]at h|-;split at h
  case h_2=>cases h
  rename_i s x t xt ha U;have na:∀x∈c.args.toList,fu (r x)≠some id:=fun x k=>no x (by
   simp only[lh,A6,xG,dm];exact .inr k)
  have hs:fu (r s)≠some id:=na s (by rw[ha]; simp);have k:fu (r x)≠some id:=na x (by rw[ha]; simp);have same:∀i,fu (r x)=some i->(H.set id o)[i]?=H[i]?:=fun i hi=>bL fun e=>k (by rw[hi,e]);split at h
  ·rename_i e0
   try simp only[ha,U,e0]
   unfold yD at h|-;split at h
   case h_2=>cases h
   rename_i y I M N
   try simp only[y,I,M,N]
   split at h
   case h_2=>cases h
   rename_i O
   try simp only[O]
   split at h
   case h_2=>cases h
   rename_i W
   try simp only[W]
   split at h<;>grind
  ·rename_i hno
   try simp only[ha,U]
   unfold yv at h|-;split at h
   case h_2=>cases h
   rename_i y
   try simp only[y]
   split at h
   case h_2=>cases h
   rename_i I M
   try simp only[I,M]
   split at h
   case isFalse=>cases h
   rename_i N
   try rw[iP N]
   split at h
   ·rename_i O
    try simp only[Rk same]
    split at h<;>grind
   ·rename_i O
    try simp only[Rk same]
    split at h<;>grind
   ·rename_i w i aq oF n O
    have hne:i≠id:=fun e=>hs (by rw[O,<-e]; rfl)
    try simp only[bL (Ne.symm hne)]
    split at h
    case h_2=>cases h
    rename_i W
    try simp only[Rj same]
    split at h
    case h_2=>cases h
    rename_i e7
    try simp only[e7]
    split at h
    case isFalse=>cases h
    rename_i e8
    try rw[iP e8]
    simp only[bD,bM]at h|-;obtain⟨h1,rfl,rfl⟩:=h
    simp_all[List.set_comm]
   ·cases h
 ·cases d
theorem Rl{r:cM->AV}{op:Op}(I:p7 op=true){v:AV}:∀(d:List (Nat × aj)) (H H':List ax),nx P r H op=some (true,v,H')->(∀p∈d,p.1<H.length/\p.1∉op.operands.toList.flatMap fun x=>om (r x)) ->
  ∃y k,ay y=oZ d (ay H)/\ay k=oZ d (ay H')/\nx P r y op=some (true,v,k)
 |[],H,H',h,_=>⟨H,H',rfl,rfl,h⟩
 |p::d,H,H',h,M=>by
  obtain⟨N,O⟩:=M p dx;have h1:=adi I (o:=.raw p.2) h N O;obtain⟨y,k,U,W,q3⟩:=Rl I d _ _ h1 fun q hq=>by
   obtain⟨b1,b2⟩:=M q (dh _ hq);exact⟨by simpa using b1,b2⟩
  refine⟨y,k,?_,?_,q3⟩
  ·rw[U,dq]
   rfl
  ·rw[W,dq]
   rfl
theorem Rm{z:List ar}:∀{H:List ax} {i j:Nat} {ks:List Kd} {g:LG},wg z H i=some (j,ks,g)->i<=j/\H[j-i]? = some (.vQ ks 0 [])/\yK ks z=some g
 |[],_,_,_,_,h=>by cases h
 |o::H,i,j,ks,g,h=>by
  have next:wg z H (i+1)=some (j,ks,g)->i<=j/\(o::H)[j-i]?=some (.vQ ks 0 [])/\yK ks z=some g:=by
   intro h;obtain⟨h1,k,d⟩:=Rm h;refine⟨ab,?_,d⟩;rw[show j-i=(j-(i+1))+1 from by omega]
   grind
  unfold wg at h
  grind
theorem Lw:∀{H:List ax} {i j:Nat},yL H i=some j->i<=j/\H[j-i]? = some (.raw .eV)
 |[],_,_,h=>by cases h
 |o::H,i,j,h=>by
  have next:yL H (i+1)=some j->i<=j/\(o::H)[j-i]?=some (.raw .eV):=by
   intro h;obtain⟨h1,d⟩:=Lw h;refine⟨ab,?_⟩;rw[show j-i=(j-(i+1))+1 from by omega]
   grind
  unfold yL at h
  grind
theorem adj(h:Lm P op H=some (id,v,H')):
  ((∃t m,op=.alloc t/\tx P t id m (ay H)=some (v,ay H'))\/∃t,op=.makeMap t none/\vK id (ay H)=some (v,ay H'))/\H'.length=H.length/\∀A,A≠id->H'[A]?=H[A]?:=by
 unfold Lm at h;split at h
 ·rename_i t
  split at h
  ·rename_i z I
   split at h
   ·rename_i i ks g k
    cases h;obtain⟨_,d,N⟩:=Rm k;rw[iz]at d;have e:=Q0 N;refine⟨.inl ⟨t,mZ ks,rfl,?_⟩,au,fun A hA=>bL (Ne.symm hA)⟩;have M:ks.length=z.length:=by
     have:=congrArg xJ e;simpa[vw,E3]using this
    rw[KB (m:=mZ ks) I (y:=.vQ z.length 0 []) (v:=.ptr id 1 z.length 0 0) (x:=.vQ z.length 1 [lj (mZ ks) z]) (by rw[bt d,<-M]; rfl) (.inl ⟨rfl,rfl,rfl⟩),dq,<-e,<-M];rfl
   ·split at h
    ·rename_i i k
     cases h;obtain⟨_,d⟩:=Lw k;rw[iz]at d;refine⟨.inl ⟨t,[],rfl,?_⟩,au,fun A hA=>bL (Ne.symm hA)⟩;rw[KB (m:=[]) I (y:=.eV) (v:=.ptr id 0 0 0 0) (x:=.box (z.map .lit)) (by rw[bt d]; rfl) (.inr ⟨rfl,rfl,rfl⟩),dq];rfl
    ·cases h
  ·cases h
 ·rename_i t
  split at h
  ·rename_i K V _
   split at h
   ·rename_i i k
    cases h;obtain⟨_,d⟩:=Lw k;rw[iz]at d;refine⟨.inr ⟨t,rfl,?_⟩,au,fun A hA=>bL (Ne.symm hA)⟩;rw[PQ (by rw[bt d]; rfl),dq];rfl
   ·cases h
  ·cases h
 ·cases h
theorem Lx(ht:aH P τ){a:Acc}{k:aG->Acc->br}(hw:cX ai s.fr o=some true)(ha:a.ok ai j)(h:(B6 P τ ai j o s a k).holds Q):
  ∃v H' b,Yields P τ.pf ai o s.ao v (ay H')/\b.ok ai (j+1)/\a.le b/\(∀c,b.le c->Step P τ.pf ai c.R c.W j o s.ao v (ay H'))/\(k (s.put o.dst v H') b).holds Q:=by
 unfold B6 at h;split at h
 ·rename_i M
  simp only[aO]at M;split at h
  ·rename_i id v H' hal
   split at h
   ·rename_i b hb
    obtain⟨hnew,hlen,hkeep⟩:=adj hal;obtain⟨g1,g2,g3⟩:=Rg ha hb;refine⟨v,H',b,?_,g1,g2,fun c I=>⟨fun _ A hA=>?_,fun hr=>(by rw[r8 M.2]at hr; cases hr),fun _ _ _=>⟨?_,fun id' hne=>?_⟩,fun hcv=>(by rw[qI M.2]at hcv; cases hcv)⟩,h⟩
    ·unfold Yields
     rw[show s.ao.fr=s.fr from rfl,hw];simp only[r8 M.2];rcases hnew with⟨t,m,hop,O⟩|⟨t,hop,O⟩
     ·exact .inr (.inl (.inl ⟨t,id,m,hop,O⟩))
     ·exact .inr (.inl (.inr ⟨t,id,hop,O⟩))
    ·have:=(hA _ (I.2 _ g3) rfl).1
     show (ay H')[A]?=(ay s.H)[A]?
     grind[ay]
    ·show (ay H').length=(ay s.H).length
     grind[fB]
    ·refine⟨_,I.2 _ g3,rfl,?_⟩
     have e:id'=id:=Jl fun e=>hne (by
      show (ay H')[id']?=(ay s.H)[id']?
      grind[ay])
     grind
   ·exact h.elim
  ·exact h.elim
 ·rename_i M
  split at h
  ·exact h.elim
  rename_i hfc;split at h
  ·rename_i b hb
   obtain⟨g1,g2,g3,g4⟩:=adf ha hb;by_cases hca:oY ai o.op=true/\ed τ.pf o.op=.write
   ·obtain⟨hca,N⟩:=hca
    have y:Ln τ o s=true:=by
     rw[hca]at hfc
     grind
    unfold Ln at y;rw[N]at y;simp only[]at y;split at y
    ·rename_i f args hcal
     split at y
     case h_2=>cases y
     rename_i hN;obtain⟨⟨b0,v,H'⟩,hW⟩:=Option.isSome_iff_exists.1 y;have hcv:vX o.op=true:=by
      unfold oY at hca;rw[vm,aO,aO]at hca;rcases hca with h1|h1
      ·exact h1.1
      grind[Ri]
     rw[adg hcv N hcal hW]at h;simp only[br.holds]at h;obtain⟨rfl,h⟩:=h;obtain⟨hbody,hcall⟩:=ht.W f args s.H true v H' hW rfl;have htch:mD τ s.eval s.H o.op=(τ.C f args s.H).filter fun id => !tT τ f args s.H id:=by
      unfold mD;rw[hcal]
     have hcal':∀d,il (St.eval ⟨s.ao.fr,d⟩) o.op=some (f,args):=fun d=>by
      have e:St.eval ⟨s.ao.fr,d⟩=s.eval:=by funext x; cases x<;>rfl
      grind
     have yl:∀d U:List aj,fL P f args d v U->Yields P τ.pf ai o ⟨s.ao.fr,d⟩ v U:=fun d U hx=>by
      unfold Yields;rw[show (St.mk s.ao.fr d).fr=s.fr from rfl,hw];simp only[N];exact .inl (.inr ⟨f,args,hcal' d,hbody,hx⟩)
     refine⟨v,H',b,yl _ _ hcall,g1,g2,fun c I=>Lv I g3 g4 (fun _ A hA hlt=>?_) (fun _ _ _ σ hσ=>?_) (by simpa using M),h⟩
     ·rcases QZ hW (by rw[<- htch]; exact hA) with h1 | h1
      ·exact ht.C f args s.H true v H' hW A h1 hlt
      ·exact h1
     ·obtain⟨d,H2',q1,q2,q3⟩:=Rh ht hN σ s.H H' hW (fun p hp=>by
       obtain⟨hk,x,hx,hh⟩:=hσ p hp;obtain⟨k1,k2⟩:=hk _ (I.2 _ (g4 N)) rfl;rw[htch]at k1;refine⟨k2,fun hm=>k1 (List.mem_filter.2 ⟨hm,?_⟩)⟩;unfold tT;rw[hW];cases hq:B4 H'[p.1]? s.H[p.1]? with
       |false=>grind
       |true=>
        have hx:(ay s.H)[p.1]?=some x:=hx;unfold B4 at hq;split at hq
        ·rename_i e
         simp only[ay,dw,e,ki,ax.ao]at hx;cases hx;rcases hh with⟨k,hh⟩|hh<;>cases hh
        ·cases hq)
      rw[<-q2,show oZ σ s.ao.H=ay d from q1.symm];exact yl _ _ (ht.W f args d true v H2' q3 rfl).2
    ·rename_i hcal
     obtain⟨v,H',O,h⟩:=adh y N h;have htch:mD τ s.eval s.H o.op=o.op.operands.toList.flatMap fun x=>om (s.eval x):=by
      unfold mD;rw[hcal]
     have yl:∀d U:List ax,nx P s.eval d o.op=some (true,v,U)->Yields P τ.pf ai o ⟨s.ao.fr,ay d⟩ v (ay U):=fun d U hx=>by
      unfold Yields;rw[show (St.mk s.ao.fr (ay d)).fr=s.fr from rfl,hw];simp only[N];have e:St.eval ⟨s.fr,ay d⟩=s.eval:=by funext x; cases x<;>rfl
      grind[K8]
     refine⟨v,H',b,yl _ _ O,g1,g2,fun c I=>Lv I g3 g4 (fun _ A hA hlt=>Ls O hlt (by rw[<-htch]; exact hA)) (fun _ _ _ σ hσ=>?_) (by simpa using M),h⟩;obtain⟨d,H2',q1,q2,q3⟩:=Rl y σ s.H H' O (fun p hp=>by
      obtain⟨hk,_⟩:=hσ p hp;obtain⟨k1,k2⟩:=hk _ (I.2 _ (g4 N)) rfl
      grind)
     rw[<-q2,show oZ σ s.ao.H=ay d from q1.symm]
     grind
   grind[FN,Lv]
  ·exact h.elim
theorem adk(N:aH P τ){a:Acc}{k:aG->Acc->br}(ha:a.ok ai j)(h:(Lo P τ ai j o s a k).holds Q):
  ∃v H' b,Yields P τ.pf ai o s.ao v (ay H')/\b.ok ai (j+1)/\a.le b/\(∀c,b.le c->Step P τ.pf ai c.R c.W j o s.ao v (ay H'))/\(k (s.put o.dst v H') b).holds Q:=by
 have skip:cX ai s.fr o=some false->Yields P τ.pf ai o s.ao (.tuple []) (ay s.H):=by
  intro d;unfold Yields;rw[show s.ao.fr=s.fr from rfl,d];exact⟨rfl,rfl⟩
 unfold Lo at h;split at h
 ·exact h.elim
 ·rename_i d
  exact⟨_,_,a,skip (Lt d),Acc.B9 ha,a.le_refl,fun _ _=>step_skip (Lt d),h⟩
 grind[Lx,Rf]
 ·rename_i t b M d
  obtain⟨h1,I⟩:=Re d;simp only[br.holds]at h;cases b with
  |true=>
   have y:=h.1 rfl;rw[FO h1]at y;cases M with
   |true=>grind[Lx]
   |false=>exact⟨_,_,a,skip I,Acc.B9 ha,a.le_refl,fun _ _=>step_skip I,y⟩
  |false=>
   have y:=h.2 rfl;rw[FO h1]at y;cases M with
   |true=>exact⟨_,_,a,skip I,Acc.B9 ha,a.le_refl,fun _ _=>step_skip I,y⟩
   |false=>grind[Lx]
theorem Rn(d:aH P τ){ai:Array aQ}{Q:cu->aG->Prop}:∀{l:List aQ} {j:Nat} {s:aG} {a:Acc} {k:aG->br},a.ok ai j->(Lp P τ ai l j s a k).holds Q ->
  ∃s' b,vY ai b.R b.W/\a.le b/\yr P τ.pf ai b.R b.W l j s.ao s'.ao/\(k s').holds Q
 |[],j,s,a,k,ha,h=>⟨s,a,ha.2.2,a.le_refl,rfl,h⟩
 |o::l,j,s,a,k,ha,h=>by
  obtain⟨v,H',b,I,M,N,O,U⟩:=adk d ha h;obtain⟨s',c,q1,y,q3,q4⟩:=Rn d M U;exact⟨s',c,q1,Acc.le_trans N y,⟨v,ay H',I,O c y,q3⟩,q4⟩
theorem adl{m:Nat}{s':aG}{b:Acc}(hm:P.follows .mixedOrders=true)(hB:yt τ.pf ai=true)(d:vY ai b.R b.W)(h:yr P τ.pf ai b.R b.W ai.toList 0 s.ao s'.ao):
  dU P m (.region id ai true) s.ao .normal s'.ao:=fun k _ _ _ v=>ab8 hm hB d v h (fun _ _ y=>⟨rfl,y.toM⟩) k
theorem B_{K:cu->aG->br}{Q:cu->aG->Prop}:∀{t:br},(t.bind K).holds Q->t.holds fun x s=>(K x s).holds Q
 |.fail,h=>h
 |.done _ _,h=>h
 |.ask _ _ _,h=>⟨fun hb=>B_ (h.1 hb),fun hb=>B_ (h.2 hb)⟩
 |.side _ _,h=>⟨h.1,B_ h.2⟩
theorem Ro{m:Nat}{c:Code}{Q:cu->aG->Prop}{body:aG->(cu->aG->br)->br}
  (hb:∀s K,(body s K).holds Q->∃x s',dU P m c s.ao x s'.ao/\(K x s').holds Q):∀(n:Nat) (s:aG) (K:cu->aG->br),(FL body n s K).holds Q ->
  ∃x s',oW P m c s.ao x s'.ao/\(K x s').holds Q
 |0,_,_,h=>h.elim
 |n+1,s,K,h=>by
  simp only[FL]at h;obtain⟨x,s1,h1,d⟩:=hb _ _ h;cases x with
  |normal=>
   obtain⟨y,s2,k,v⟩:=Ro hb n s1 K d;exact⟨y,s2,.next h1 k,v⟩
  |exit i=>exact⟨_,s1,.stop h1 au,d⟩
  |ret=>exact⟨_,s1,.stop h1 au,d⟩
theorem jt(hm:P.follows .mixedOrders=true)(I:aH P τ){m:Nat}{L:LT}{Q:cu->aG->Prop}:∀(c:Code) (s:aG) (K:cu->aG->br),
  aT P m L c->(eH P τ L c s K).holds Q->∃x s',dU P m c s.ao x s'.ao/\(K x s').holds Q
 |.skip,s,K,_,h=>⟨_,_,abF,h⟩
 |.region id ai W,s,K,v,h=>by
  simp only[eH]at h;split at h
  ·rename_i hdr
   split at h
   ·rename_i hB
    simp only[br.holds]at h;have hdt:W=true:=by
     grind
    subst hdt;obtain⟨s',b,h1,_,k,U⟩:=Rn I (a:=⟨[],[]⟩) ⟨au,au,⟨fun i id hi=>(nomatch hi),fun e he=>(nomatch he),fun e he=>(nomatch he)⟩⟩ h.2;exact⟨_,_,ym (v.2.1 id s h.1) (adl hm hB h1 k),U⟩
   ·exact h.elim
  ·rename_i hd
   simp only[br.holds]at h;obtain⟨s',h1,k⟩:=tV I h.2;refine⟨_,_,ym (v.2.1 id s h.1) (abI hm (fun hdr=>?_) h1),k⟩
   grind
 |.seq a b,s,K,v,h=>by
  simp only[eH]at h;have N:aT P m L a:=v.sub (fun p d=>by simp only[cI]; exact dm.2 (.inl d)) (fun p d=>by simp only[cN]; exact dm.2 (.inl d));have O:aT P m L b:=v.sub (fun p d=>by simp only[cI]; exact dm.2 (.inr d)) (fun p d=>by simp only[cN]; exact dm.2 (.inr (dm.2 (.inr d))));obtain⟨x,s1,h1,k⟩:=jt hm I a s _ N h;cases x with
  |normal=>
   simp only[Q1]at k;split at k
   ·rename_i t M
    unfold Q4 at M;split at M
    ·rename_i i hi
     obtain⟨y,s2,U,h4⟩:=v.2.2 i b (by simp only[cN,hi]; exact dm.2 (.inr (dm.2 (.inl (dx))))) s1 t M _ (B_ k)
     grind[Qq]
    ·cases M
   ·obtain⟨y,s2,U,h4⟩:=jt hm I b s1 K O k
    grind[Qq]
  |exit id=>exact⟨_,_,Qr h1 au,k⟩
  |ret=>exact⟨_,_,Qr h1 au,k⟩
 |.cond c a b,s,K,v,h=>by
  simp only[eH]at h;have N:aT P m L a:=v.sub (fun p d=>by simp only[cI]; exact dm.2 (.inl d)) (fun p d=>by simp only[cN]; exact dm.2 (.inl d));have O:aT P m L b:=v.sub (fun p d=>by simp only[cI]; exact dm.2 (.inr d)) (fun p d=>by simp only[cN]; exact dm.2 (.inr d));split at h
  ·rename_i t hb
   have hb':=Q6 hb;rw[<-aG.qJ]at hb';simp only[br.holds]at h;cases t with
   |true=>
    obtain⟨x,s1,h1,k⟩:=jt hm I a s K N (h.1 rfl)
    grind[Qs]
   |false=>
    obtain⟨x,s1,h1,k⟩:=jt hm I b s K O (h.2 rfl)
    grind[Qs]
  ·exact h.elim
 |.block id c,s,K,v,h=>by
  simp only[eH]at h;obtain⟨x,s1,h1,k⟩:=jt hm I c s _ (v.sub (fun p d=>by simpa only[cI]using d) (fun p d=>by simpa only[cN]using d)) h;refine⟨_,s1,abJ h1,?_⟩;cases x<;>grind[Q2,cu.inBlock]
 |.loop c,s,K,v,h=>by
  simp only[eH]at h;split at h
  ·rename_i i hi
   split at h
   ·rename_i t hl
    obtain⟨x,s',h1,k⟩:=v.1 i c (by simp only[cI,hi]; exact dx) s t hl _ (B_ h)
    grind[Qt]
   ·obtain⟨x,s',h1,k⟩:=Ro (fun s1 K1 hh=>jt hm I c s1 K1 (v.sub (fun p d=>by simp only[cI,hi]; exact dh _ d) (fun p d=>by simpa only[cN] using d)) hh) 400 s K h
    grind[Qt]
  ·exact h.elim
 |.exit id,s,K,_,h=>⟨_,_,abH,h⟩
 |.ret,s,K,_,h=>⟨_,_,abG,h⟩
 |.rangeFunc ..,_,_,_,h=>by simp[eH,br.holds]at h
 |.scope _,_,_,_,h=>by simp[eH,br.holds]at h
 |.label _,_,_,_,h=>by simp[eH,br.holds]at h
 |.goto _,_,_,_,h=>by simp[eH,br.holds]at h
 |.refuse _,_,_,_,h=>by simp[eH,br.holds]at h
end sound
inductive ny where
 |fail
 |ret (v:AV) (H:List ax)
 |ask (b:Bool) (t e:ny)
 |side (b:Bool) (t:ny)
def ny.holds(Q:AV->List ax->Prop):ny->Prop
 |.fail=>False
 |.ret v H=>Q v H
 |.ask b t e=>(b=true->t.holds Q)/\(b=false->e.holds Q)
 |.side b t=>b=true/\t.holds Q
def ny.two:ny->Option (AV × List ax)
 |.fail=>none
 |.ret v H=>some (v,H)
 |.ask b t e=>bif b then t.two else e.two
 |.side b t=>bif b then t.two else none
def ny.val:ny->Option AV
 |.fail=>none
 |.ret v _=>some v
 |.ask b t e=>bif b then t.val else e.val
 |.side b t=>bif b then t.val else none
theorem FP:∀{t:ny} {v:AV},t.val=some v->t.holds fun u _=>u=v
 |.fail,_,h=>by cases h
 |.ret u H,_,h=>by simp only[ny.val,bD]at h; exact h
 |.ask b t e,v,h=>by
  cases b with
  |true=>exact⟨fun _=>FP (t:=t) (v:=v) h,fun h=>by cases h⟩
  |false=>exact⟨fun h=>(nomatch h),fun _=>FP (t:=e) (v:=v) h⟩
 |.side b t,v,h=>by
  cases b with
  |true=>exact And.intro rfl (FP (t:=t) (v:=v) h)
  |false=>cases h
def Ly(H:List ax):Option (List Kd)->AV->Option (Bool × AV)
 |none,a=>some (true,a)
 |some ks,a=>match a with
  |.nils | .lit (.slice none 0 0)=>some (true,.listF ks [])
  |.listF d rZ=>if Kd.iX ks d then some (true,.listF ks rZ) else none
  |.list w rZ=>match cf ks rZ with
   |some h=>if w=ks.length then some (true,.listF ks h) else none
   |none=>none
  |.vQ w id aq oF n=>match H[id]? with
   |some (.vQ d v rZ)=>if aq=v/\d.length=w/\oF=0/\Kd.iX ks d=true then some (aD n rZ.length,.listF ks rZ) else none
   |_=>none
  |_=>none
def qd(H:List ax):List (Option (List Kd))->List AV->Option (Bool × List AV)
 |_,[]=>some (true,[])
 |[],a::as=>match qd H [] as with
  |some (b,d)=>some (b,a::d)
  |none=>none
 |c::cs,a::as=>match Ly H c a,qd H cs as with
  |some (b,h),some (k,d)=>some (b&&k,h::d)
  |_,_=>none
theorem adm(HE:aJ E)(hH:E.H=ay H){k:Option (List Kd)}{d:AV}(h:Ly H k a=some (b,d))(hb:b=true)(M:d.closed=true)(hr:ad E a c):
  ad (E.bare E.w) d c:=by
 unfold Ly at h;split at h
 grind[gk,tU]
 ·rename_i ks
  split at h
  ·cases h
   simp only[ad,gJ,G.rZ]at hr|-
   grind
  ·cases h
   simp_all[ad,gJ,G.rZ]
  ·split at h
   ·rename_i v
    cases h;rw[Kd.jV v];exact gk (tU E) _ rfl hr
   ·cases h
  ·split at h
   ·rename_i N y
    split at h
    ·rename_i I
     cases h;rw[lM,tG y];subst I;exact gk (tU E) _ rfl hr
    ·cases h
   ·cases h
  grind[Kd.jV,Q8,bN]
  ·cases h
theorem Lz{E:ah}(HE:aJ E){H:List ax}(hH:E.H=ay H):∀{ks:List (Option (List Kd))} {as v:List AV} {b:Bool} {cs:List ar},qd H ks as=some (b,v)->b=true ->
  AV.cd v=true->aw E as cs->aw (E.bare E.w) v cs
 |ks,[],v,b,cs,h,_,_,hr=>by
  cases ks<;>simp only[qd]at h<;>cases h<;>(cases cs with
   |nil=>simp[aw]
   |cons _ _=>simp[aw]at hr)
 |[],a::as,v,b,cs,h,hb,d,hr=>by
  cases cs with
  |nil=>simp[aw]at hr
  |cons c cs=>
   simp only[qd]at h;simp only[aw]at hr;split at h
   ·rename_i I y h1
    cases h;simp only[AV.cd,aO]at d;simp only[aw];exact⟨gk (tU E) _ d.1 hr.1,Lz HE hH h1 hb d.2 hr.2⟩
   ·cases h
 |k::ks,a::as,v,b,cs,h,hb,d,hr=>by
  cases cs with
  |nil=>simp[aw]at hr
  |cons c cs=>
   simp only[qd]at h;simp only[aw]at hr;split at h
   ·rename_i N O I y h0 h1
    simp only[bD,bM]at h;obtain⟨M,rfl⟩:=h;subst M;simp only[aO]at hb;simp only[AV.cd,aO]at d;simp only[aw];exact⟨adm HE hH h0 hb.1 d.1 hr.1,Lz HE hH h1 hb.2 d.2 hr.2⟩
   ·cases h
def br.toR(P:ak)(rs:List ResultVar) (ks:List (Option (List Kd))):br->ny
 |.fail=>.fail
 |.done x s=>match x with
  |.exit _=>.fail
  |_=>match ll P s.ao rs with
   |some h=>match qd s.H ks h with
    |some (b,d)=>.side b (.ret (fc d) s.H)
    |none=>.fail
   |none=>.fail
 |.ask b t e=>.ask b (t.toR P rs ks) (e.toR P rs ks)
 |.side b t=>.side b (t.toR P rs ks)
theorem toR_holds{P:ak}{rs:List ResultVar}{ks:List (Option (List Kd))}{Q:AV->List ax->Prop}:∀{t:br},(t.toR P rs ks).holds Q ->
  t.holds fun x s=>(x=.normal\/x=.ret)/\∃k d,ll P s.ao rs=some k/\qd s.H ks k=some (true,d)/\Q (fc d) s.H
 |.fail,h=>h
 |.done x s,h=>by
  have key:∀y,(y=cu.normal\/y=cu.ret)->(match ll P s.ao rs with
   |some k=>match qd s.H ks k with
    |some (b,d)=>ny.side b (.ret (fc d) s.H)
    |none=>.fail
   |none=>.fail).holds Q->(y=.normal\/y=.ret)/\∃k d,ll P s.ao rs=some k/\qd s.H ks k=some (true,d)/\Q (fc d) s.H:=by
   intro y v h;split at h
   grind[ny.holds]
   ·exact h.elim
  simp only[br.toR]at h;simp only[br.holds];cases x with
  |exit i=>exact h.elim
  |normal=>simp_all
  |ret=>simp_all
 |.ask _ _ _,h=>⟨fun hb=>toR_holds (h.1 hb),fun hb=>toR_holds (h.2 hb)⟩
 |.side _ _,h=>⟨h.1,toR_holds h.2⟩
def LA(P:ak)(τ:aF)(L:LT)(fn:Func) (ks:List (Option (List Kd))) (args:List AV) (H:List ax):ny:=
 match fn.body with
 |some c=>(eH P τ L c ⟨gY args fn.ntmps,H⟩ .done).toR P fn.results.toList ks
 |none=>.fail
theorem LB{k:List ar}(h:aw E d k):ad E (fc d) (if h:k.toArray.size=1 then k.toArray[0] else .tuple k.toArray):=by
 cases k with
 |nil=>
  cases d with
  |nil=>simp[fc,ad,aw]
  |cons _ _=>simp[aw]at h
 |cons u k=>
  cases k with
  |nil=>
   cases d with
   |nil=>simp[aw]at h
   |cons v d=>
    cases d with
    |nil=>grind[aw,fc]
    |cons _ _=>simp[aw]at h
  |cons u2 k=>
   cases d with
   |nil=>simp[aw]at h
   |cons v d=>
    cases d with
    |nil=>simp[aw]at h
    |cons y d=>
     simp_all[fc,ad]
theorem adn{fn:Func}{c:Code}{x:cu}{s':aG}{ks:List (Option (List Kd))}{N:List AV}
  (hf:P.funcs[f]?=some fn) (hb:fn.body=some c) (hs:dU P 0 c ⟨gY args fn.ntmps,[]⟩ x s'.ao) (y:x=.normal\/x=.ret) (hr:ll P s'.ao fn.results.toList=some N)
  (hc:qd s'.H ks N=some (true,d)) (ha:AV.cd args=true) (hv:AV.cd d=true):eM P f args (fc d):=by
 intro H E cargs hH HE hargs
 let E0:ah:={ w:=E.w,H:=[],ae:=[],X:=(E.X.or E.af).re fK }
 have hown0:∀b,¬ E0.af b:=by rintro b (⟨id,c,hid⟩|⟨l,k,c,I⟩); grind; simp[E0,fK]at I
 have hC:E.ct E0:=⟨fun b hb=>⟨⟨hb.1,hown0 b,fun y=>y.elim hb.2.2 hb.2.1⟩,rfl⟩⟩
 have HE0:aJ E0:=by
  refine⟨rfl,?_,?_,?_,?_,HE.iT.ct hC,fun l k l' k' b m n I=>by simp[E0,fK]at I,fun i b m l k n hi=>by simp[E0]at hi,fun l k b m I=>by simp[E0,fK]at I,fun i j o o' l hi=>by simp[E0]at hi,fun l _ k q I=>by simp[E0,fK]at I⟩
  grind
  grind
  ·rintro b (y | ho)
   ·exact HE.X b y
   ·exact(HE.EH ho).1
  grind
 refine Fq hf hb ?_;have hfe:=vW HE0;have hargs0:=r7 hfe _ (td hC args ha hargs);have hrel:cQ ⟨gY args fn.ntmps,[]⟩ { E0 with X:=⟨E0.X.x,fun _=>False,E0.X.r⟩ } { tmps:=cargs++Array.replicate (fn.ntmps-cargs.size) undef,defers:=[] }:=by
  refine⟨rfl,?_,tn _ _,HE0.fF hfe⟩;simp only[gY,xG,Array.toList_replicate];refine oS hargs0 ?_;have:=jh hargs;have e:args.length=cargs.size:=ab;rw[e];have:=yp (E:={ E0 with X:=⟨E0.X.x,fun _=>False,E0.X.r⟩ }) (cn (fn.ntmps-cargs.size) undef)
  grind
 refine wpIn_mono (hs none (Fo _) { E0 with X:=⟨E0.X.x,fun _=>False,E0.X.r⟩ } _ hrel) fun e a1 w0 ⟨h3,loc',X',U,W⟩=>?_;refine⟨by subst h3; rcases y with rfl|rfl; exact .inl rfl; exact .inr rfl,X',U.defers,fun M k1 k2 k3=>?_⟩;obtain⟨U,W⟩:=Fs HE0 U W k1 k2 k3;obtain⟨O,g1,g2⟩:=BD U fn.results.toList N hr;have hres:(results fn a1.tmps).run P M=.ok (if h:O.toArray.size=1 then O.toArray[0] else .tuple O.toArray) M:=by
  rw[BE];simp only[Sem.run_bind];rw[Array.mapM_eq_mapM_toList,Sem.run_map,g1];rfl
 have g3:=Lz U.heap rfl hc rfl hv g2;have g4:=LB g3;have hext:Ext E.w M:=⟨W.size,fun b hb=>W.same b hb (hown0 b),W.env⟩
 have hcl:(fc d).closed=true:=by
  cases d with
  |nil=>rfl
  |cons v N=>
   cases N with
   |nil=>grind[fc,AV.cd]
   |cons v2 N=>grind[fc,AV.closed]
 have g5:ad { E with w:=M } (fc d) (if h:O.toArray.size=1 then O.toArray[0] else .tuple O.toArray):=
  gk (E:=({ w:=M,H:=ay s'.H,ae:=loc',X:=E0.X.re X'.r }:ah).bare M) (E':={ E with w:=M }) ⟨fun b hb=>⟨⟨hb.1,fun ho=>hb.2.2 (Or.inr ho),fun y=>hb.2.2 (Or.inl y)⟩,rfl⟩⟩ _ hcl g4
 refine⟨_,hres,_,fc d,H,rfl,⟨rfl,rfl⟩,E.ae,E.X.r,?_,?_,?_⟩
 simp_all
 ·rw[<-hH]; exact HE.ext hext
 ·rw[<-hH]; exact ah.lN hext
theorem ado(h:fc d=v)(k:v.closed=true):AV.cd d=true:=by
 subst h;cases d with
 |nil=>rfl
 |cons v d=>
  cases d with
  |nil=>simpa[fc,AV.cd]using k
  |cons y d=>simpa only[fc,AV.closed]using k
theorem fZ{L:LT}(hm:P.follows .mixedOrders=true)(k:aH P τ){fn:Func} (ks:List (Option (List Kd)))
  (y:∀c,fn.body=some c->aT P 0 L c)
  (I:P.funcs[f]?=some fn) (ha:AV.cd args=true) (M:v.closed=true) (h:(LA P τ L fn ks args []).val=some v):eM P f args v:=by
 have h:=FP h;unfold LA at h;split at h
 ·rename_i c hb
  obtain⟨x,s',h1,N,vs,W,O,U,d⟩:=jt hm k c _ _ (y c hb) (toR_holds h);rw[<-d];exact adn I hb h1 N O U ha (ado d M)
 ·exact h.elim
def Rp(d:List Nat):aF:={ pf:=fun g=>d.any fun t=>aD g (t+1000000),T:=fun _ _=>none,W:=fun _ _ _=>none,C:=fun _ _ _=>[],U:=fun _=>false }
theorem adp(P:ak)(d:List Nat):aH P (Rp d):=⟨fun _ _ _ _ h=>(nomatch h),fun _ _ _ _ _ _ h=>(nomatch h),fun _ _ _ _ _ _ h=>(nomatch h),fun _ _ _ _ h=>(nomatch h),fun _ _ _ _=>⟨rfl,rfl⟩,fun _ h=>(nomatch h)⟩
def aF.add(τ:aF)(f:bJ)(c:List AV->Option (Bool × AV)):aF where
 pf g:=match aD g f with
  |true=>true
  |false=>τ.pf g
 T g args:=match aD g f with
  |true=>c args
  |false=>τ.T g args
 W:=τ.W
 C:=τ.C
 I:=τ.I
 N:=τ.N
 U:=τ.U
theorem aH.add{P:ak}{τ:aF}(h:aH P τ){f:bJ}{c:List AV->Option (Bool × AV)}(hb:gr P f=true)(y:∀ args b v,c args=some (b,v)->b=true->eM P f args v) :
  aH P (τ.add f c):=by
 refine⟨fun g args b v d k=>?_,h.W,h.C,h.I,h.F⟩;simp only[aF.add]at d;split at d
 ·rename_i e
  have e:=bN e;subst e;exact⟨hb,y args b v d k⟩
 ·exact h.T g args b v d k
def bx:LT:=⟨fun _ _=>none,fun _ s=>(true,s),fun _ _=>none⟩
theorem bG(P:ak)(m:Nat)(c:Code):aT P m bx c:=⟨fun _ _ _ _ _ h=>(nomatch h),fun _ _ _=>bO.refl _,fun _ _ _ _ _ h=>(nomatch h)⟩
def aF.inline(P:ak)(τ:aF)(f:bJ)(fn:Func) (ks:List (Option (List Kd))):aF:=τ.add f fun args=>
 match (LA P τ bx fn ks args []).val with
 |some v=>match AV.cd args&&v.closed with
  |true=>some (true,v)
  |false=>none
 |none=>none
theorem aH.inline{P:ak}{τ:aF}(h:aH P τ)(hm:P.follows .mixedOrders=true){f:bJ}{fn:Func}(y:P.funcs[f]? = some fn)(hb:gr P f=true) (ks:List (Option (List Kd))) :
  aH P (τ.inline P f fn ks):=h.add hb fun args b v d _=>by
 split at d
 ·rename_i u hu
  split at d
  ·rename_i k
   simp only[aO]at k
   grind[fZ,bG]
  ·cases d
 ·cases d
abbrev aS(s:BY):AV:=.lit (.string s)
def Ca(aM:Nat)(ks:List Kd)(s:aG):aG:=⟨s.fr.set aM (.vQ ks.length s.H.length 0 0 0),s.H++[.vQ ks 0 []]⟩
def isNil:AV->Bool
 |.nils | .lit (.slice none 0 0)=>true
 |_=>false
theorem Rq(h:isNil a=true)(hr:ad E a c):∃aU,c=.slice aU 0 0:=by
 unfold isNil at h;split at h
 ·simpa only[ad]using hr
 ·simp only[ad]at hr; exact⟨none,hr⟩
 ·cases h
theorem Rr{m:Nat}{aM:Nat}{ks:List Kd}(h:isNil (s.fr.getD aM .undef)=true):bO m s.ao (Ca aM ks s).ao:=fun E a d=>by
 have hH:E.H=ay s.H:=d.H;have y:E.H.length=s.H.length:=by rw[hH,fB]
 have I:E.le (E.push E.w (.vQ ks.length 0 []) none):=ah.nW d.heap.len (Ext.refl _) (fun b n h=>by cases h);have N:a6 (E.push E.w (.vQ ks.length 0 []) none) E.H.length (.vQ ks.length 0 []):=by
  simp only[a6,ah.push];refine .inl ⟨?_,trivial⟩;rw[lf (by rw[d.heap.len]; omega),d.heap.len,oK];rfl
 have O:aJ (E.push E.w (.vQ ks.length 0 []) none):=aJ.push d.heap (Ext.refl _) (fun b n h=>by cases h) N;have k:(Ca aM ks s).ao.H=E.H++[.vQ ks.length 0 []]:=by
  rw[hH];simp[Ca,aG.ao,ay,ax.ao]
 refine⟨E.ae++[none],E.X,?_,?_⟩
 ·rw[k]
  refine⟨k.symm,?_,d.defers,O⟩;have h':=eX I _ d.fr;have U:∀(fr:List AV) (cs:List ar) (i:Nat),aw E fr cs->isNil (fr.getD i .undef)=true->aw (E.push E.w (.vQ ks.length 0 []) none) fr cs ->
    aw (E.push E.w (.vQ ks.length 0 []) none) (fr.set i (.vQ ks.length s.H.length 0 0 0)) cs:=by
   intro fr
   induction fr with
   |nil=>grind
   |cons b fr ih=>
    intro cs i h0 h1 M;cases cs with
    |nil=>simp[aw]at h0
    |cons c cs=>
     simp only[aw]at h0 M;cases i with
     |zero=>
      simp only[List.set_cons_zero,aw];refine⟨?_,M.2⟩;obtain⟨aU,rfl⟩:=Rq (by simpa using h1) h0.1;have W:(E.push E.w (.vQ ks.length 0 []) none).H[s.H.length]?=some (.vQ ks.length 0 []):=by
       simp only[ah.push];rw[lf ab,y,oK];rfl
      have hg2:(E.push E.w (.vQ ks.length 0 []) none).ae[s.H.length]?=some none:=by
       simp only[ah.push];rw[lf (by rw[d.heap.len]; omega),d.heap.len,y,oK];rfl
      simp only[ad];refine⟨⟨aU,0,rfl,aV _,fun h=>absurd h (Nat.lt_irrefl _)⟩,⟨_,W,rfl,fun v h=>fy _⟩,fun _=>⟨fun _=>⟨trivial,trivial,aU,rfl⟩,fun b m hb=>?_⟩⟩
      grind
     |succ i=>
      grind[aw]
  exact U s.fr _ aM d.fr h h'
 ·rw[k]
  exact I.toM
def Cb(fn:Func)(k:Nat):Code:=match fn.body with
 |some c=>match (cI c).find? fun p=>aD p.1 k with
  |some p=>p.2
  |none=>.skip
 |none=>.skip
theorem Cc{vs:List ar}{u:ar}(h:∀w,Calls P f vs.toArray w fun e w'=>e=.returned u/\Ext w w'):eM P f (vs.map .lit) (.lit u):=by
 intro H E k hH HE I;have e:k=vs.toArray:=by
  have:∀(vs d:List ar),aw E (vs.map AV.lit) d->d=vs:=by
   intro vs
   induction vs with
   |nil=>intro d h; cases d with
    |nil=>rfl
    |cons _ _=>simp[aw]at h
   |cons v vs M=>
    intro d h;cases d with
    |nil=>simp[aw]at h
    |cons u d=>
     simp only[e9,aw,ad]at h;rw[h.1,M d h.2]
  have:=this vs k.toList I;rw[<-this]
 rw[e];refine(h E.w).mono ?_;rintro _ w' ⟨rfl,y⟩;refine⟨u,.lit u,H,rfl,⟨rfl,rfl⟩,E.ae,E.X.r,by simp[ad],?_,?_⟩
 ·rw[<-hH]; exact HE.ext y
 ·rw[<-hH]; exact ah.lN y
def wm(ks:List Kd):AV->Option LL
 |.nils | .lit (.slice none 0 0)=>some []
 |.emptyS _=>some []
 |.listF d rZ=>if Kd.iX ks d then some rZ else none
 |.list w rZ=>match cf ks rZ with
  |some h=>if w=ks.length then some h else none
  |none=>none
 |_=>none
def LC(ks:List Kd):AV->Option LG
 |.agg cells=>jF ks cells
 |_=>none
theorem Rs{ks:List Kd}(h:wm ks a=some rZ)(hr:ad E a c):ad E (.listF ks rZ) c:=by
 unfold wm at h;split at h
 ·cases h
  simp only[ad,gJ,G.rZ]at hr|-
  grind
 simp_all[ad,gJ,G.rZ]
 ·cases h
  simp only[ad,gJ,G.rZ]at hr|-
  grind
 grind[Kd.jV]
 grind[lM,tG]
 ·cases h
theorem Rt{ks:List Kd}{r:LG}(h:LC ks a=some r):a=.agg (aY ks r):=by
 unfold LC at h
 grind[og]
structure cJ where
 az:List Nat
 sh:List Nat
 aU:Nat
def cJ.at(e:cJ)(j:Nat):Nat:=match e.az[j]? with
 |some i=>i
 |none=>e.aU+(j-e.az.length)
def cJ.up(e:cJ)(j:Nat):Nat:=e.sh.getD j 0
mutual
def AV.cW(e:cJ):AV->AV
 |.agg cs=>.agg (AV.oq e cs)
 |.tuple cs=>.tuple (AV.oq e cs)
 |.clo f cs=>.clo f (AV.oq e cs)
 |.ptr id aq k row d=>.ptr (e.at id) (aq+e.up id) k row d
 |.vQ k id aq oF n=>.vQ k (e.at id) (aq+e.up id) oF n
 |.map id=>.map (e.at id)
 |.sub ..=>.undef
 |.svec ..=>.undef
 |.sptr ..=>.undef
 |a=>a
def AV.oq(e:cJ):List AV->List AV
 |[]=>[]
 |a::as=>a.cW e::AV.oq e as
end
def aj.cW(e:cJ)(j:Nat):aj->aj
 |.box cells=>.box (AV.oq e cells)
 |.vQ k v rZ=>.vQ k (v+e.up j) rZ
 |o=>o
theorem Ru(e:cJ):∀(as:List AV),(AV.oq e as).length=as.length
 |[]=>rfl
 |_::as=>by simp[AV.oq,Ru e as]
mutual
def AV.cq:AV->Bool
 |.agg cs | .tuple cs | .clo _ cs=>AV.dB cs
 |.list .. | .listF .. | .cptr _=>false
 |_=>true
def AV.dB:List AV->Bool
 |[]=>true
 |a::as=>a.cq&&AV.dB as
end
structure wq (S:Bool) (e:cJ) (E E':ah):Prop where
 ok:S=false->∀b,E.mo b->E'.mo b/\E'.w.heap[b]?=E.w.heap[b]?
 bF:∀j aq,E.bF j aq->E'.bF (e.at j) (aq+e.up j)
 live:∀j aq,E.bF j aq->E'.live (e.at j) (aq+e.up j)->E.live j aq/\E'.ae[e.at j]?=E.ae[j]?
theorem wq.ct{e:cJ}{E E':ah}(h:wq false e E E'):E.ct E':=⟨h.ok rfl⟩
mutual
theorem LD{S:Bool}{e:cJ}{E E':ah}(h:wq S e E E'):∀(a:AV) {c:ar},(S=true->a.cq=true)->ad E a c->ad E' (a.cW e) c
 |.undef,_,_,_=>by simp[AV.cW,ad]
 |.lit v,c,_,hr=>by simpa only[AV.cW,ad]using hr
 |.nils,c,_,hr=>by simpa only[AV.cW,ad]using hr
 |.list k rZ,c,y,hr=>by
  cases S with
  |true=>grind[AV.cq]
  |false=>exact gk h.ct (.list k rZ) rfl hr
 |.listF ks rZ,c,y,hr=>by
  cases S with
  |true=>grind[AV.cq]
  |false=>exact gk h.ct (.listF ks rZ) rfl hr
 |.cptr cells,c,y,hr=>by
  cases S with
  |true=>grind[AV.cq]
  |false=>exact gk h.ct (.cptr cells) rfl hr
 |.ifc,c,_,hr=>by simpa only[AV.cW,ad]using hr
 |.emptyS n,c,_,hr=>by simpa only[AV.cW,ad]using hr
 |.sub ..,c,_,_=>by simp only[AV.cW,ad]
 |.svec ..,c,_,_=>by simp only[AV.cW,ad]
 |.sptr ..,c,_,_=>by simp only[AV.cW,ad]
 |.agg cells,c,y,hr=>by
  simp only[ad]at hr;simp only[AV.cW,ad];obtain⟨cs,M,h1,d⟩:=hr;exact⟨cs,M,h1,FQ h cells (fun e=>by simpa only[AV.cq]using y e) d⟩
 |.tuple cells,c,y,hr=>by
  simp only[ad]at hr;simp only[AV.cW,ad];obtain⟨cs,M,d⟩:=hr;exact⟨cs,M,FQ h cells (fun e=>by simpa only[AV.cq]using y e) d⟩
 |.clo f cells,c,y,hr=>by
  simp only[ad]at hr;simp only[AV.cW,ad];obtain⟨cs,M,d⟩:=hr;exact⟨cs,M,FQ h cells (fun e=>by simpa only[AV.cq]using y e) d⟩
 |.ptr id aq k row col,c,_,hr=>by
  simp only[ad]at hr;simp only[AV.cW,ad];obtain⟨h1,d,U⟩:=hr;refine⟨h1,h.bF _ _ d,fun I=>?_⟩;obtain⟨W,g2⟩:=h.live _ _ d I
  grind
 |.vQ k id aq oF n,c,_,hr=>by
  simp only[ad]at hr;simp only[AV.cW,ad];obtain⟨h1,d,U⟩:=hr;refine⟨h1,h.bF _ _ d,fun I=>?_⟩;obtain⟨W,g2⟩:=h.live _ _ d I
  grind
 |.map id,c,_,hr=>by
  simp only[ad]at hr;simp only[AV.cW,ad];obtain⟨h1,d,U⟩:=hr;have hp:=h.bF _ _ d;refine⟨h1,?_,fun I=>?_⟩
  ·obtain⟨o,N,O⟩:=hp
   exact⟨o,N,O.1,fun v hv=>fy _⟩
  ·have hu:e.up id=0:=by
    obtain⟨o,N,O⟩:=hp;obtain⟨o2,q3,q4⟩:=I;rw[N]at q3;cases q3;have:=O.2 0 q4;omega
   obtain⟨W,g2⟩:=h.live _ _ d (by rw[hu]; exact I)
   grind
theorem FQ{S:Bool}{e:cJ}{E E':ah}(h:wq S e E E'):∀(as:List AV) {d:List ar},(S=true->AV.dB as=true)->aw E as d->aw E' (AV.oq e as) d
 |[],[],_,_=>by simp[AV.oq,aw]
 |[],_::_,_,hr=>by simp[aw]at hr
 |_::_,[],_,hr=>by simp[aw]at hr
 |a::as,v::d,k,hr=>by
  simp only[AV.dB,aO]at k;simp only[aw]at hr;simp only[AV.oq,aw];exact⟨LD h a (fun e=>(k e).1) hr.1,FQ h as (fun e=>(k e).2) hr.2⟩
end
structure KeepIn (e:cJ) (E E':ah):Prop where
 ok:∀b,E.mo b->E'.mo b/\E'.w.heap[b]?=E.w.heap[b]?
 w:E'.w=E.w
 ae:∀j,j<e.az.length->E'.ae[j]?=E.ae[e.at j]?
 mE:∀(j:Nat) o l,E'.H[j]?=some o->o.label=some l->E'.X.r l=E.X.r l
theorem KeepIn.ct{e:cJ}{E E':ah}(h:KeepIn e E E'):E.ct E':=⟨h.ok⟩
structure wu (e:cJ) (nz:List Nat) (E E':ah):Prop extends KeepIn e E E' where
 Rv:∀i,i∈nz->∀b n,E.ae[i]?=some (some (b,n))->E'.mo b
def gE{α:Type}:List α->List Nat->List α->List α
 |l,i::d,x::h=>gE (l.set i x) d h
 |l,_,_=>l
theorem wv{α:Type}:∀(d:List Nat) (l h:List α),(gE l d h).length=l.length
 |[],_,_=>by simp[gE]
 |_::_,_,[]=>by simp[gE]
 |i::d,l,x::h=>by simp[gE,wv d]
theorem FT{α:Type}:∀(d:List Nat) (l k:List α) (n:Nat),n∉d->(gE l d k)[n]? = l[n]?
 |[],_,_,_,_=>by simp[gE]
 |_::_,_,[],_,_=>by simp[gE]
 |i::d,l,x::k,n,h=>by
  simp only[c_,not_or]at h;simp only[gE];rw[FT d _ k n h.2,bL (Ne.symm h.1)]
theorem Rw{α:Type}:∀(d:List Nat) (l v:List α) (j i:Nat) (x:α),d.Nodup->d[j]? = some i->v[j]? = some x->i<l.length->(gE l d v)[i]? = some x
 |[],_,_,_,_,_,_,h,_,_=>by simp at h
 |_::_,_,[],_,_,_,_,_,h,_=>by simp at h
 |k::d,l,y::v,0,i,x,hn,h1,I,M=>by
  simp at h1 I;subst h1; subst I;simp only[gE];have:k∉d:=(oL.1 hn).1;rw[FT d _ v k this,List.getElem?_set_self M]
 |k::d,l,y::v,j+1,i,x,hn,h1,I,M=>by
  simp only[gE];exact Rw d _ v j i x (oL.1 hn).2 (by simpa using h1) (by simpa using I) (by simpa using M)
def aj.FU(e:cJ)(j:Nat):aj->Bool
 |.dead=>true
 |.vQ _ _ _=>true
 |_=>aD (e.up j) 0
def o_(e:cJ):Nat->List aj->List aj
 |_,[]=>[]
 |j,o::os=>o.cW e j::o_ e (j+1) os
def lV(e:cJ):Nat->List aj->Bool
 |_,[]=>true
 |j,o::os=>o.FU e j&&lV e (j+1) os
theorem LF(e:cJ):∀(j:Nat) (os:List aj),(o_ e j os).length=os.length
 |_,[]=>rfl
 |j,_::os=>by simp[o_,LF e (j+1) os]
theorem Rx(e:cJ):∀(j:Nat) (os:List aj) (i:Nat),(o_ e j os)[i]? = (os[i]?).map (aj.cW e (j+i))
 |_,[],i=>by simp[o_]
 |j,o::os,0=>by simp[o_]
 |j,o::os,i+1=>by
  simp only[o_,List.getElem?_cons_succ,Rx e (j+1) os i]
  grind
theorem Ry{e:cJ}:∀{j:Nat} {os:List aj} {i:Nat} {o:aj},lV e j os=true->os[i]? = some o->o.FU e (j+i)=true
 |_,[],i,_,_,h=>by simp at h
 |j,_::os,0,o,h,hi=>by
  simp only[lV,aO]at h;simp at hi;subst hi;exact h.1
 |j,_::os,i+1,o,h,hi=>by
  simp only[lV,aO]at h;have:=Ry h.2 (by simpa using hi)
  grind
variable {e:cJ}
theorem Cd{o:aj}(h:o.FU e j=true)(v:Nat):(o.cW e j).aX=some v↔∃u,o.aX=some u/\v=u+e.up j:=by
 cases o with
 |dead=>simp[aj.cW,aj.aX]
 |eV=>simp[aj.cW,aj.aX]
 |vQ k u rZ=>simp[aj.cW,aj.aX,eq_comm]
 |box cells=>
  have:=bN h;simp[aj.cW,aj.aX,this,eq_comm]
 |map d cl=>
  have:=bN h;simp[aj.cW,aj.aX,this,eq_comm]
 |iter s p=>
  have:=bN h;simp[aj.cW,aj.aX,this,eq_comm]
 |ij l T B s=>
  have:=bN h;simp[aj.cW,aj.aX,this,eq_comm]
 |ba l k d cl=>
  have:=bN h;simp[aj.cW,aj.aX,this,eq_comm]
 |mm l d y cl=>
  have:=bN h;simp[aj.cW,aj.aX,this,eq_comm]
 |cZ l k n y=>
  have:=bN h;simp[aj.cW,aj.aX,this,eq_comm]
 |bU l k d cl=>
  have:=bN h;simp[aj.cW,aj.aX,this,eq_comm]
theorem Rz(e:cJ)(j:Nat)(o:aj):(o.cW e j).born=o.born:=by cases o<;>rfl
theorem RB(e:cJ)(j:Nat)(o:aj):(o.cW e j).label=o.label:=by cases o<;>rfl
theorem adq(e:cJ)(j:Nat)(o:aj):(o.cW e j).eS=o.eS:=by cases o<;>rfl
theorem RC(h:k.cq=true):(ji k).1.cq=true/\(ji k).2.cq=true:=by
 unfold ji;split
 simp_all[AV.cq,AV.dB]
 ·exact⟨h,rfl⟩
def aj.cq:aj->Bool
 |.box cells=>AV.dB cells
 |.vQ _ _ rZ=>rZ.all fun r=>AV.dB r
 |.map d _=>d.all fun x=>x.1.cq&&x.2.1.cq
 |.ba _ _ d _=>d.all fun x=>x.1.cq&&(match x.2.1 with
  |some rZ=>rZ.all fun r=>AV.dB r
  |none=>true)
 |.mm _ d h _=>(d.all fun x=>x.1.cq)&&h.all fun m=>m.1.all fun x=>x.1.cq&&x.2.1.cq
 |.cZ _ _ _ h=>h.all fun rZ=>rZ.all fun r=>AV.dB r
 |.bU _ _ d _=>d.all fun x=>x.1.cq&&((match x.2.1.1 with
  |some rZ=>rZ.all fun r=>AV.dB r
  |none=>true)&&(match x.2.1.2 with
  |some rZ=>rZ.all fun r=>AV.dB r
  |none=>true))
 |_=>true
theorem RD{S:Bool}{e:cJ}{E E':ah}(h:wq S e E E'){b:Nat}(hb:E'.w.heap[b]? = E.w.heap[b]?):∀(as:List AV) {o:Nat},(S=true->AV.dB as=true)->dz E as b o->dz E' (AV.oq e as) b o
 |[],_,_,_=>by simp[AV.oq,dz]
 |a::as,o,d,hr=>by
  simp only[AV.dB,aO]at d;simp only[dz]at hr;simp only[AV.oq,dz];obtain⟨⟨v,h1,k,y⟩,I⟩:=hr;exact⟨⟨v,by rw[World.xN hb]; exact h1,k,LD h a (fun e=>(d e).1) y⟩,RD h hb as (fun e=>(d e).2) I⟩
mutual
theorem FV{E E':ah}:∀(a:AV) {c:ar},a.closed=true->a.cq=true->ad E a c->ad E' a c
 |.undef,_,_,_,_=>by simp[ad]
 |.lit v,c,_,_,hr=>by simpa only[ad]using hr
 |.nils,c,_,_,hr=>by simpa only[ad]using hr
 |.ifc,c,_,_,hr=>by simpa only[ad]using hr
 |.emptyS n,c,_,_,hr=>by simpa only[ad]using hr
 |.list ..,_,_,h,_ | .listF ..,_,_,h,_ | .cptr _,_,_,h,_=>by simp[AV.cq]at h
 |.ptr ..,_,h,_,_ | .vQ ..,_,h,_,_ | .map _,_,h,_,_=>by simp[AV.closed]at h
 |.agg cells,c,d,k,hr=>by
  simp only[ad]at hr|-;obtain⟨cs,e,h1,y⟩:=hr;exact⟨cs,e,h1,FW cells (by simpa only[AV.closed]using d) (by simpa only[AV.cq]using k) y⟩
 |.tuple cells,c,d,k,hr=>by
  simp only[ad]at hr|-;obtain⟨cs,e,y⟩:=hr;exact⟨cs,e,FW cells (by simpa only[AV.closed]using d) (by simpa only[AV.cq]using k) y⟩
 |.clo f cells,c,d,k,hr=>by
  simp only[ad]at hr|-;obtain⟨cs,e,y⟩:=hr;exact⟨cs,e,FW cells (by simpa only[AV.closed]using d) (by simpa only[AV.cq]using k) y⟩
theorem FW{E E':ah}:∀(as:List AV) {d:List ar},AV.cd as=true->AV.dB as=true->aw E as d->aw E' as d
 |[],[],_,_,_=>by simp[aw]
 |[],_::_,_,_,hr=>by simp[aw]at hr
 |_::_,[],_,_,hr=>by simp[aw]at hr
 |a::as,v::d,h,k,hr=>by
  simp only[AV.cd,AV.dB,aO]at h k;simp only[aw]at hr|-;exact⟨FV a h.1 k.1 hr.1,FW as h.2 k.2 hr.2⟩
end
theorem RE{E E':ah}{b:Nat}(hb:E'.w.heap[b]? = E.w.heap[b]?):∀(as:List AV) {o:Nat},AV.cd as=true->AV.dB as=true->dz E as b o->dz E' as b o
 |[],_,_,_,_=>by simp[dz]
 |a::as,o,d,h,hr=>by
  simp only[AV.cd,AV.dB,aO]at d h;simp only[dz]at hr|-;obtain⟨⟨v,h1,k,y⟩,I⟩:=hr;exact⟨⟨v,by rw[World.xN hb]; exact h1,k,FV a d.1 h.1 y⟩,RE hb as d.2 h.2 I⟩
theorem Ce{E E':ah}{b k:Nat}(hb:E'.w.heap[b]? = E.w.heap[b]?):∀(rs:List (List AV)) {o:Nat},gn rs->(rs.all fun r=>AV.dB r)=true->dI E k rs b o->dI E' k rs b o
 |[],_,_,_,_=>by simp[dI]
 |r::rs,o,h,d,hr=>by
  simp only[pM,aO]at d;simp only[dI]at hr|-;exact⟨hr.1,RE hb r (h r dx) d.1 hr.2.1,Ce hb rs (fun x v=>h x (dh _ v)) d.2 hr.2.2⟩
theorem yM{E E':ah}:∀{d:List (AV × AV × Nat)} {y:List MapEntry},(d.all fun x=>x.1.cq&&x.2.1.cq)=true->bX E d y->bX E' d y
 |[],[],_,_=>by simp[bX]
 |(k,v,n)::d,e::y,h,hr=>by
  simp only[pM,aO]at h;simp only[bX]at hr|-;obtain⟨h1,N,O,I,M,U⟩:=hr;exact⟨FV k I h.1.1 h1,FV v M h.1.2 N,O,I,M,yM h.2 U⟩
 |[],_::_,_,hr=>by simp[bX]at hr
 |_::_,[],_,hr=>by simp[bX]at hr
theorem lW{E E':ah}(h:E.ct E'):∀{d:List (AV × AV × Nat)} {y:List MapEntry},bX E d y->bX E' d y
 |[],[],_=>by simp[bX]
 |(k,v,n)::d,e::y,hr=>by
  simp only[bX]at hr|-;obtain⟨h1,N,O,I,M,U⟩:=hr;exact⟨gk h k I h1,gk h v M N,O,I,M,lW h U⟩
 |[],_::_,hr=>by simp[bX]at hr
 |_::_,[],hr=>by simp[bX]at hr
theorem ads{S:Bool}{E':ah}(h:wq S e E E'){o:aj}(hS:S=true->o.cq=true)(O:E'.ae[e.at j]? = E.ae[j]?) (hb:∀ b n,E.ae[j]? = some (some (b,n))->E'.w.heap[b]? = E.w.heap[b]?)
  (hg:∀l,o.label=some l->E'.X.r l=E.X.r l/\∀(h g m:Nat),(E.X.r l)[h]?=some (some (some (g,m)))->E'.w.heap[g]?=E.w.heap[g]?)
  (ho:a6 E j o):a6 E' (e.at j) (o.cW e j):=by
 cases o with
 |dead=>simp only[aj.cW,a6]at *; rw[O]; exact ho
 |eV=>simp only[aj.cW,a6]at *; rw[O]; exact ho
 |box cells=>
  simp only[aj.cW,a6]at *;obtain⟨b,n,h1,I,M⟩:=ho;exact⟨b,n,by rw[O,h1],by rw[Ru]; exact xP (hb b n h1) I,RD h (hb b n h1) cells (fun e=>by simpa only[aj.cq]using hS e) M⟩
 |vQ k aq rZ=>
  simp only[aj.cW,a6]at *;rcases ho with⟨h1,I⟩|⟨b,m,h1,I,M,U,d⟩
  ·exact .inl ⟨by rw[O,h1],I⟩
  ·refine .inr ⟨b,m,by rw[O,h1],xP (hb b m h1) I,M,U,?_⟩
   cases S with
   |true=>exact Ce (hb b m h1) rZ U (by simpa only[aj.cq]using hS rfl) d
   |false=>exact mq h.ct rZ U (hb b m h1) d
 |map es clock=>
  simp only[aj.cW,a6]at *;obtain⟨b,n,ms,h1,I,M⟩:=ho;refine⟨b,n,ms,by rw[O,h1],by rw[hb b n h1,I],?_⟩;cases S with
  |true=>exact yM (by simpa only[aj.cq]using hS rfl) M
  |false=>exact lW h.ct M
 |iter s pos=>
  simp only[aj.cW,a6]at *;obtain⟨b,n,h1,I⟩:=ho;exact⟨b,n,by rw[O,h1],by rw[hb b n h1,I]⟩
 |ij l T B s=>
  simp only[aj.cW,a6]at *;obtain⟨b,n,p,v,k,q,h1,I,M,U,d,h6⟩:=ho;obtain⟨W,g2⟩:=hg l rfl;exact⟨b,n,p,v,k,q,by rw[O,h1],by rw[hb b n h1,I],M,by rw[W,U],by rw[W]; exact d,JF (fun g m e=>g2 k g m (by rw[U,e])) h6⟩
 |ba l k es clock=>
  simp only[aj.cW,a6]at *;obtain⟨b,n,ms,h1,I,M,U⟩:=ho;obtain⟨W,g2⟩:=hg l rfl;have hsol:S=true->∀x∈es,x.1.cq=true/\∀rZ,x.2.1=some rZ->(rZ.all fun r=>AV.dB r)=true:=fun e x N=>by
   have d:=eD.1 (by simpa only[aj.cq]using hS e) x N;simp only[aO]at d;exact⟨d.1,fun rZ hr=>by rw[hr]at d; exact d.2⟩
  refine⟨b,n,ms,by rw[O,h1],by rw[hb b n h1,I],?_,Bd (fun h g m hk=>⟨by rw[W]; exact hk,g2 h g m hk⟩) (fun i x rZ hi N b hb2 hc hr=>?_) U⟩
  ·cases S with
   |true=>
    refine yM (eD.2 fun x N=>?_) M;obtain⟨y,hy,rfl⟩:=dS.1 N;simp[(RC (hsol rfl y hy).1).1,(RC (hsol rfl y hy).1).2]
   |false=>exact lW h.ct M
  ·cases S with
   |true=>exact Ce hb2 rZ hc ((hsol rfl x (gg hi)).2 rZ N) hr
   |false=>exact mq h.ct rZ hc hb2 hr
 |mm l es ms clock=>
  simp only[aj.cW,a6]at *;obtain⟨b,n,mes,h1,I,M,U⟩:=ho;obtain⟨W,g2⟩:=hg l rfl;have hsol:S=true->(es.all fun x=>x.1.cq)=true/\∀m∈ms,(m.1.all fun x=>x.1.cq&&x.2.1.cq)=true:=fun e=>by
   have d:=hS e;simp only[aj.cq,aO]at d;exact⟨d.1,eD.1 d.2⟩
  refine⟨b,n,mes,by rw[O,h1],by rw[hb b n h1,I],?_,JH W g2 (fun m hm q hq=>?_) U⟩
  ·cases S with
   |true=>
    refine yM (eD.2 fun x N=>?_) M;obtain⟨y,hy,rfl⟩:=dS.1 N;simp[eD.1 (hsol rfl).1 y hy,AV.cq]
   |false=>exact lW h.ct M
  ·cases S with
   |true=>exact yM ((hsol rfl).2 m hm) hq
   |false=>exact lW h.ct hq
 |cZ l k n ms=>
  simp only[aj.cW,a6]at *;obtain⟨b,m,cs,el,h1,I,M⟩:=ho;obtain⟨W,g2⟩:=hg l rfl;refine⟨b,m,cs,el,by rw[O,h1],by rw[hb b m h1,I],JJ W g2 (fun rZ hm b hb2 hc hr=>?_) M⟩;cases S with
  |true=>exact Ce hb2 rZ hc (eD.1 (by simpa only[aj.cq]using hS rfl) rZ hm) hr
  |false=>exact mq h.ct rZ hc hb2 hr
 |bU l k es clock=>
  simp only[aj.cW,a6]at *;obtain⟨b,n,ms,h1,I,M,U⟩:=ho;obtain⟨W,g2⟩:=hg l rfl;have hsol:S=true->∀x∈es,x.1.cq=true/\∀s rZ,(iS s x).2.1=some rZ->(rZ.all fun r=>AV.dB r)=true:=fun e x N=>by
   have d:=eD.1 (by simpa only[aj.cq]using hS e) x N;simp only[aO]at d;refine⟨d.1,fun s rZ hr=>?_⟩;cases s with
   |true=>
    have hr:x.2.1.2=some rZ:=hr;rw[hr]at d;exact d.2.2
   |false=>
    have hr:x.2.1.1=some rZ:=hr;rw[hr]at d;exact d.2.1
  refine⟨b,n,ms,by rw[O,h1],by rw[hb b n h1,I],?_,EG (fun h g m hk=>⟨by rw[W]; exact hk,g2 h g m hk⟩) (fun s i x rZ hi N b hb2 hc hr=>?_) U⟩
  ·cases S with
   |true=>
    refine yM (eD.2 fun x N=>?_) M;obtain⟨y,hy,rfl⟩:=dS.1 N;simp[(hsol rfl y hy).1,AV.cq]
   |false=>exact lW h.ct M
  ·cases S with
   |true=>exact Ce hb2 rZ hc ((hsol rfl x (gg hi)).2 s rZ N) hr
   |false=>exact mq h.ct rZ hc hb2 hr
def qL(e:cJ)(H H1:List aj):List aj:=gE H e.az (o_ e 0 H1)++(o_ e 0 H1).drop e.az.length
theorem jW(h:j<e.az.length):e.az[j]?=some (e.at j):=by
 simp[cJ.at,h]
theorem wx(h:e.az.length<=j):e.at j=e.aU+(j-e.az.length):=by
 simp[cJ.at,List.getElem?_eq_none h]
theorem RF{H xs:List α}(hn:e.az.Nodup)(d:∀ j,j<e.az.length->e.at j<H.length)(hb:e.aU=H.length)(v:e.az.length<=xs.length)(j:Nat):
  (gE H e.az xs++xs.drop e.az.length)[e.at j]?=xs[j]?:=by
 rcases nU j e.az.length with h|h
 ·rw[fT (by rw[wv]; exact d j h)]
  have k:j<xs.length:=fD h v;rw[Rw e.az H xs j (e.at j) xs[j] hn (jW h) (cB k) (d j h),cB k]
 grind[wx,wv]
theorem LH{H d:List α}(hi:i∉e.az)(h:i<H.length):(gE H e.az d++d.drop e.az.length)[i]?=H[i]?:=by
 rw[fT (by rw[wv]; exact h),FT e.az H d i hi]
theorem tX{H k:List α}{x:α}(hb:e.aU=H.length)(h:(gE H e.az k++k.drop e.az.length)[i]? = some x):
  (i∉e.az/\i<H.length/\H[i]?=some x)\/∃j,i=e.at j:=by
 by_cases hm:i∈e.az
 ·right
  obtain⟨j,v,rfl⟩:=pK hm;refine⟨j,?_⟩;have:=jW v;rw[cB v]at this;exact(jB this)
 ·rcases nU i H.length with d | y
  ·left
   exact⟨hm,d,by rw[LH hm d]at h; exact h⟩
  ·right
   refine⟨e.az.length+(i-H.length),?_⟩;rw[wx ab];omega
theorem RG(S:Bool)(nz:List Nat){H0 H:List aj}{Ps:α->Prop}{Vf:α->AV}{Hf:α->List aj}(hc:jn P f args H0 fun v H'=>∃ p,Ps p/\v=Vf p/\H'=Hf p)(hk:e.az.length=H0.length)(hb:e.aU=H.length)(hn:e.az.Nodup)
  (hver:∀j o,H0[j]?=some o->∃o',H[e.at j]?=some o'/\o.born=true/\∀v,o'.aX=some v↔∃u,o.aX=some u/\v=u+e.up j)
  (hobj:∀E E0,E.H=H->aJ E->wu e nz E E0->E0.H=H0->∀j o,H0[j]?=some o->a6 E0 j o) (hu1:∀p,Ps p->lV e 0 (Hf p)=true) (hl1:∀p,Ps p->H0.length<=(Hf p).length) (hlent:S=false->nz=[])
  (hSv:S=true->∀p,Ps p->(Vf p).cq=true) (hSo:S=true->∀p,Ps p->((Hf p).all aj.cq)=true) (hdis:∀i,i∈nz->i∉e.az)
  (hlab:∀(j:Nat) o o',H0[j]?=some o->H[e.at j]?=some o'->o'.label=o.label) (hlab1:∀p,Ps p->∀(j:Nat) o l,(Hf p)[j]?=some o->o.label=some l->∃o0,H0[j]?=some o0/\o0.label=some l)
  (hlabm:∀(j:Nat) o o',H0[j]?=some o->H[e.at j]?=some o'->o'.eS=o.eS) {ew:List AV}
  (hargs0:∀E E0 cs,E.H=H->aJ E->wu e nz E E0->E0.H=H0->aw E ew cs->aw E0 args cs) :
  jn P f ew H fun v H'=>∃p,Ps p/\v=(Vf p).cW e/\H'=qL e H (Hf p):=by
 intro E cargs U HE hargs;have hElen:E.ae.length=H.length:=by rw[HE.len,U]
 have hat:∀j,j<e.az.length->e.at j<H.length:=fun j I=>by
  have hj':j<H0.length:=ab;obtain⟨o',h1,_⟩:=hver j H0[j] (cB hj');exact bl h1
 have hmem:∀j,j<e.az.length->e.at j∈e.az:=fun j I=>gg (jW I)
 let O:Nat->Prop:=fun l=>∃(j:Nat) (o:aj),H0[j]?=some o/\o.label=some l
 have:DecidablePred O:=fun l=>Classical.propDecidable (O l)
 let r0:Nat->List (Option (Option (Nat × Nat))):=fun l=>if O l then E.X.r l else []
 have r0p:∀l,O l->r0 l=E.X.r l:=fun l h=>iP h;have r0n:∀l (h:Nat) q,(r0 l)[h]?=some q->O l/\(E.X.r l)[h]?=some q:=fun l h q hq=>by
  by_cases y:O l
  ·rw[r0p l y]at hq; exact⟨y,hq⟩
  ·rw[show r0 l=[] from iN y]at hq; simp at hq
 let X0:XS:=⟨fun b=>E.X b\/(∃i c,i∉e.az/\i∉nz/\E.ae[i]?=some (some (b,c)))\/∃(l h m:Nat),¬ O l/\(E.X.r l)[h]?=some (some (some (b,m))),E.X.z,r0⟩
 let loc0:List (Option (Nat × Nat)):=e.az.map fun i=>E.ae.getD i none
 let E0:ah:={ w:=E.w,H:=H0,ae:=loc0,X:=X0 }
 have hloc0:∀j,j<e.az.length->loc0[j]?=E.ae[e.at j]?:=fun j I=>by
  simp only[loc0,dw,jW I,ki];have:e.at j<E.ae.length:=by rw[hElen]; exact hat j I
  rw[dc,cB this];rfl
 have hlen0:loc0.length=e.az.length:=by simp[loc0]
 have hpast:∀j aq,E.bF (e.at j) aq->j<e.az.length:=by
  rintro j aq ⟨o,ho,_⟩;rcases nU j e.az.length with h|h
  ·exact h
  ·have:=bl ho
   rw[U,wx h,hb]at this;omega
 have hobj0:∀j,j<e.az.length->∃o o',H0[j]?=some o/\E.H[e.at j]?=some o'/\o.born=true/\∀v,o'.aX=some v↔∃u,o.aX=some u/\v=u+e.up j:=fun j I=>by
  have hj':j<H0.length:=ab;obtain⟨o',h1,d⟩:=hver j H0[j] (cB hj');exact⟨H0[j],o',cB hj',by rw[U]; exact h1,d⟩
 have hown0:∀b,E0.af b->E.af b:=by
  rintro b (⟨id,c,hid⟩|⟨l,k,c,N⟩)
  case inr=>exact .inr ⟨l,k,c,(r0n l k _ N).2⟩
  have M:=bl hid;rw[show E0.ae=loc0 from rfl]at hid M;rw[hlen0]at M;rw[hloc0 id M]at hid;exact .inl ⟨_,c,hid⟩
 have hin:KeepIn e E E0:=by
  refine⟨fun b hbk=>⟨⟨hbk.1,fun ho=>hbk.2.1 (hown0 b ho),?_⟩,rfl⟩,rfl,hloc0,fun j o l h1 d=>r0p l ⟨j,o,h1,d⟩⟩;rintro(W|⟨i,c,_,_,hi⟩|⟨l,k,c,_,N⟩)
  ·exact hbk.2.2 W
  ·exact hbk.2.1 (.inl ⟨i,c,hi⟩)
  ·exact hbk.2.1 (.inr ⟨l,k,c,N⟩)
 have hpin:∀j aq,E.bF (e.at j) (aq+e.up j)->E0.bF j aq:=fun j aq y=>by
  obtain⟨o,oo,h1,d,hbn,h3⟩:=hobj0 j (hpast j _ y);obtain⟨o',h4,h5⟩:=y;rw[d]at h4;cases h4;refine⟨o,h1,hbn,fun v hv=>?_⟩;have:=h5.2 (v+e.up j) ((h3 _).2 ⟨v,hv,rfl⟩);omega
 have hout0:∀i b n,i∉e.az->E.ae[i]?=some (some (b,n))->¬ E0.af b:=by
  rintro i b n hi hbn (⟨id,c',hid⟩|⟨l,k,c,N⟩)
  case inr=>exact HE.d_ _ _ _ _ _ _ hbn (r0n l k _ N).2
  have M:=bl hid;rw[show E0.ae=loc0 from rfl]at hid M;rw[hlen0]at M;rw[hloc0 id M]at hid;have:=HE.inj _ _ _ _ _ hbn hid;exact hi (this▸hmem id M)
 have hlin:wu e nz E E0:=by
  refine⟨hin,fun i hi b n hbn=>⟨(HE.lt _ _ _ hbn).1,hout0 i b n (hdis i hi) hbn,?_⟩⟩;rintro(W|⟨i',c,_,d,hi'⟩|⟨l,k,c,_,N⟩)
  ·exact(HE.lt _ _ _ hbn).2 W
  ·have:=HE.inj _ _ _ _ _ hi' hbn
   exact d (this▸hi)
  ·exact HE.d_ _ _ _ _ _ _ hbn N
 have HE0:aJ E0:=by
  have conv:∀{j:Nat} {x:Option (Nat × Nat)},loc0[j]?=some x->j<e.az.length/\E.ae[e.at j]?=some x:=by
   intro j x W;have M:=bl W;rw[hlen0]at M;exact⟨M,by rw[<-hloc0 j M]; exact W⟩
  refine⟨by rw[show E0.ae=loc0 from rfl,hlen0,hk],?_,?_,?_,?_,HE.iT.ct hin.ct,fun l k l' k' b m n h1 d=>HE.gK l k l' k' b m n (r0n l k _ h1).2 (r0n l' k' _ d).2,fun i b m l k n hi d=>HE.d_ _ b m l k n (conv hi).2 (r0n l k _ d).2,?_,?_,?_⟩
  ·intro i j b m n hi I
   obtain⟨i1,i2⟩:=conv hi
   obtain⟨j1,j2⟩:=conv I
   have:=HE.inj _ _ _ _ _ i2 j2;exact(Jg i1 hn).1 (by rw[jW i1,jW j1,this])
  ·intro i b m hi
   obtain⟨i1,i2⟩:=conv hi
   refine⟨(HE.lt _ _ _ i2).1,?_⟩;rintro(W|⟨i',c,hni,_,hi'⟩|⟨l,k,c,_,N⟩)
   ·exact(HE.lt _ _ _ i2).2 W
   ·have:=HE.inj _ _ _ _ _ hi' i2
    exact hni (this▸hmem i i1)
   ·exact HE.d_ _ _ _ _ _ _ i2 N
  ·rintro b (W | ⟨i',c,_,_,hi'⟩ | ⟨l,k,c,_,N⟩)
   ·exact HE.X b W
   ·exact(HE.lt _ _ _ hi').1
   ·exact(HE.dp _ _ _ _ N).1
  ·intro j o ho
   have I:j<e.az.length:=by rw[hk]; exact bl ho
   exact hobj E E0 U HE hlin rfl j o ho
  ·intro l k b m h1
   obtain⟨y,d⟩:=r0n l k _ h1;refine⟨(HE.dp _ _ _ _ d).1,?_⟩;rintro(W|⟨i',c,_,_,hi'⟩|⟨l',k',c,hnp,N⟩)
   ·exact(HE.dp _ _ _ _ d).2 W
   ·exact HE.d_ _ _ _ _ _ _ hi' d
   ·exact hnp ((HE.gK _ _ _ _ _ _ _ d N).1▸y)
  ·intro i j o o' l hi I h1 d
   have i1:i<e.az.length:=by rw[hk]; exact bl hi
   have j1:j<e.az.length:=by rw[hk]; exact bl I
   obtain⟨_,oi,a1,a2,_⟩:=hobj0 i i1;obtain⟨_,oj,b1,b2,_⟩:=hobj0 j j1;have ei:=hlab i o oi hi (by rw[<-U]; exact a2);have ej:=hlab j o' oj I (by rw[<-U]; exact b2);have:=HE.uniq _ _ _ _ l a2 b2 (by rw[ei,h1]) (by rw[ej,d]);exact(Jg i1 hn).1 (by rw[jW i1,jW j1,this])
  ·intro l hnl k q hq
   obtain⟨⟨j,o,h1,d⟩,_⟩:=r0n l k _ hq;exact hnl j o h1 d
 refine(hc E0 cargs rfl HE0 (hargs0 E E0 _ U HE hlin rfl hargs)).mono ?_;rintro _ w' ⟨c,v',H',rfl,⟨p,y,hv',hH'⟩,loc1,r1,g1,g2,g3⟩;have hu1:lV e 0 H'=true:=by rw[hH']; exact hu1 p y
 have hl1:H0.length<=H'.length:=by rw[hH']; exact hl1 p y
 have hSv:S=true->v'.cq=true:=fun h=>by rw[hv']; exact hSv h p y
 have hSo:S=true->(H'.all aj.cq)=true:=fun h=>by rw[hH']; exact hSo h p y
 have hlab1:∀(j:Nat) o l,H'[j]?=some o->o.label=some l->∃o0,H0[j]?=some o0/\o0.label=some l:=by rw[hH']; exact hlab1 p y
 let r':Nat->List (Option (Option (Nat × Nat))):=fun l=>if O l then r1 l else E.X.r l
 have rp:∀l,O l->r' l=r1 l:=fun l h=>iP h;have rn:∀l,¬ O l->r' l=E.X.r l:=fun l h=>iN h;have hl1':e.az.length<=H'.length:=ab;have hlen1:loc1.length=H'.length:=g2.len;have hbL:e.aU=E.ae.length:=by rw[hElen]; exact hb
 have hbE:e.aU=E.H.length:=by rw[U]; exact hb
 let loc':List (Option (Nat × Nat)):=gE E.ae e.az loc1++loc1.drop e.az.length
 let E1:ah:={ w:=w',H:=H',ae:=loc1,X:=X0.re r1 }
 let E':ah:={ w:=w',H:=qL e H H',ae:=loc',X:=E.X.re r' }
 have Hin:∀j,E'.H[e.at j]?=(H'[j]?).map (aj.cW e j):=fun j=>by
  have:=RF (e:=e) (H:=H) (xs:=o_ e 0 H') hn hat hb (by rw[LF]; exact hl1') j;rw[Rx,dj]at this;exact this
 have iJ:∀j,E'.ae[e.at j]?=loc1[j]?:=fun j=>
  RF (e:=e) (H:=E.ae) (xs:=loc1) hn (fun j I=>by rw[hElen]; exact hat j I) hbL (by rw[hlen1]; exact hl1') j
 have Hout:∀i,i∉e.az->i<H.length->E'.H[i]?=E.H[i]?:=fun i hi M=>by
  rw[U];exact LH (e:=e) hi M
 have Lout:∀i,i∉e.az->i<H.length->E'.ae[i]?=E.ae[i]?:=fun i hi M=>LH (e:=e) hi (by rw[hElen]; exact M);have hu1':∀(j:Nat) (o:aj),H'[j]?=some o->o.FU e j=true:=fun j o ho=>by
  have:=Ry hu1 ho
  rwa [dj]at this
 have own':∀b,E'.af b->E1.af b\/(∃i c,i∉e.az/\E.ae[i]?=some (some (b,c)))\/∃(l h m:Nat),¬ O l/\(E.X.r l)[h]?=some (some (some (b,m))):=by
  rintro b (⟨i,c,hi⟩|⟨l,k,c,N⟩)
  ·rcases tX (e:=e) hbL hi with⟨h1,_,h3⟩ | ⟨j,rfl⟩
   ·exact .inr (.inl ⟨i,c,h1,h3⟩)
   ·rw[iJ j]at hi
    exact .inl (.inl ⟨j,c,hi⟩)
  ·have N:(r' l)[k]?=some (some (some (b,c))):=N
   by_cases y:O l
   ·rw[rp l y]at N
    exact .inl (.inr ⟨l,k,c,N⟩)
   ·rw[rn l y]at N
    exact .inr (.inr ⟨l,k,c,y,N⟩)
 have hout:wq S e E1 E':=by
  refine⟨fun hS b hbk=>⟨⟨hbk.1,fun ho=>?_,fun W=>hbk.2.2 (Or.inl W)⟩,rfl⟩,fun j aq y=>?_,fun j aq y hl=>?_⟩
  ·rcases own' b ho with h | ⟨i,c,h1,d⟩ | h
   ·exact hbk.2.1 h
   ·exact hbk.2.2 (Or.inr (.inl ⟨i,c,h1,by rw[hlent hS]; exact List.not_mem_nil,d⟩))
   ·exact hbk.2.2 (Or.inr (.inr h))
  ·obtain⟨o,h1,d⟩:=y
   refine⟨o.cW e j,by rw[Hin j,show H'[j]?=some o from h1]; rfl,by rw[Rz]; exact d.1,fun v hv=>?_⟩;obtain⟨u,q1,rfl⟩:=(Cd (hu1' j o h1) v).1 hv;have:=d.2 u q1;omega
  ·obtain⟨o',h1,d⟩:=hl
   rw[Hin j]at h1;obtain⟨o,h3,rfl⟩:=gj.1 h1;obtain⟨u,q1,q2⟩:=(Cd (hu1' j o h3) _).1 d;have:u=aq:=ab;subst this;exact⟨⟨o,h3,q1⟩,iJ j⟩
 have hle:E.le E':=by
  refine⟨fun i aq y=>?_,g3.size,fun b M ho=>g3.same b M (fun h=>ho (hown0 b h)),fun b M ho h'=>?_,fun i aq y hl=>?_,⟨rfl,rfl⟩,fun l k N=>?_,g3.env,fun i l o h1 d hv=>?_⟩
  rotate_right
  ·by_cases hi:i∈e.az
   ·obtain⟨j,I,rfl⟩:=pK hi
    have hat':e.az[j]=e.at j:=by
     have:=jW I;rw[cB I]at this;exact jB this
    rw[hat']at h1 hv|-;obtain⟨o0,oo,k1,k2,hbn,k3⟩:=hobj0 j I;have em:o.eS=o0.eS:=hlabm j o0 o k1 (by rw[<-U]; exact h1);have hl0:o0.label=some l:=aj.pR (by rw[<-em]; exact d);have y:O l:=⟨j,o0,k1,hl0⟩
    obtain⟨o',w1,w2⟩:=hv;rw[Hin j]at w1;obtain⟨o1,r3,rfl⟩:=gj.1 w1;obtain⟨u,q1,q2⟩:=(Cd (hu1' j o1 r3) _).1 w2;have hu:u=0:=ab;subst hu;obtain⟨⟨t,ht⟩,o2,s1,s2⟩:=g3.grow j l o0 k1 (by rw[<-em]; exact d) ⟨o1,r3,q1⟩;have ht':r1 l=E.X.r l++t:=by
     rw[<-r0p l y];exact ht
    refine⟨⟨t,by rw[show E'.X.r l=r' l from rfl,rp l y]; exact ht'⟩,o2.cW e j,?_,by rw[adq]; exact s2⟩;rw[Hin j,show H'[j]?=some o2 from s1];rfl
   ·have M:=bl h1
    rw[U]at M;have hnp:¬ O l:=by
     rintro⟨j,o0,a1,a2⟩;have j1:j<e.az.length:=by rw[hk]; exact bl a1
     obtain⟨_,oj,b1,b2,_⟩:=hobj0 j j1;have h3:=HE.uniq _ _ _ _ l h1 b2 (aj.pR d) (by rw[hlab j o0 oj a1 (by rw[<-U]; exact b2),a2]);exact hi (h3▸hmem j j1)
    exact⟨⟨[],by rw[List.append_nil,show E'.X.r l=r' l from rfl,rn l hnp]⟩,o,by rw[Hout i hi M]; exact h1,d⟩
  ·by_cases hi:i∈e.az
   ·obtain⟨j,I,rfl⟩:=pK hi
    have hat':e.az[j]=e.at j:=by
     have:=jW I;rw[cB I]at this;exact jB this
    rw[hat']at y|-;obtain⟨o0,oo,h1,d,hbn,h3⟩:=hobj0 j I;obtain⟨o,h4,h5⟩:=y;rw[d]at h4;cases h4;have hj1:j<H'.length:=ab;have hbn':H'[j].born=true:=by
     have p0:E0.bF j 0:=⟨o0,h1,hbn,fun v _=>fy v⟩
     obtain⟨o2,r1,r2⟩:=g3.bF j _ p0;rw[show E1.H=H' from rfl,cB hj1]at r1;cases r1;exact r2.1
    refine⟨H'[j].cW e j,by rw[Hin j,cB hj1]; rfl,by rw[Rz]; exact hbn',fun v hv=>?_⟩;obtain⟨u,q1,rfl⟩:=(Cd (hu1' j _ (cB hj1)) v).1 hv;cases hz:o0.aX with
    |none=>
     have p0:E0.bF j (u+1):=⟨o0,h1,hbn,fun v hv=>by rw[hz]at hv; cases hv⟩
     obtain⟨o2,r1,r2⟩:=g3.bF j _ p0;rw[show E1.H=H' from rfl,cB hj1]at r1;cases r1;have:=r2.2 u q1;omega
    |some u0=>
     have p0:E0.bF j u0:=⟨o0,h1,hbn,fun v hv=>by rw[hz]at hv; cases hv; exact aV _⟩
     obtain⟨o2,r1,r2⟩:=g3.bF j _ p0;rw[show E1.H=H' from rfl,cB hj1]at r1;cases r1;have:=r2.2 u q1;have:=h5.2 (u0+e.up j) ((h3 _).2 ⟨u0,hz,rfl⟩);omega
   ·obtain⟨o,h1,d⟩:=y
    have M:=bl h1;rw[U]at M;exact⟨o,by rw[Hout i hi M]; exact h1,d⟩
  ·rcases own' b h' with h | ⟨i,c,_,d⟩ | ⟨l,k,c,_,d⟩
   ·exact g3.af b M (fun h=>ho (hown0 b h)) h
   ·exact ho (.inl ⟨i,c,d⟩)
   ·exact ho (.inr ⟨l,k,c,d⟩)
  ·have M:i<H.length:=by
    obtain⟨o,h1,_⟩:=y;have:=bl h1
    rwa [U]at this
   by_cases hi:i∈e.az
   ·obtain⟨j,I,rfl⟩:=pK hi
    have hat':e.az[j]=e.at j:=by
     have:=jW I;rw[cB I]at this;exact jB this
    rw[hat']at y hl|-;obtain⟨o',r1,r2⟩:=hl;rw[Hin j]at r1;obtain⟨o1,r3,rfl⟩:=gj.1 r1;obtain⟨u,q1,rfl⟩:=(Cd (hu1' j o1 r3) _).1 r2;have p0:=hpin j u y;obtain⟨⟨o0,s1,s2⟩,s3⟩:=g3.live j u p0 ⟨o1,r3,q1⟩;obtain⟨o0',oo,h1,d,hbn,h3⟩:=hobj0 j I;rw[show E0.H=H0 from rfl,h1]at s1;cases s1;refine⟨⟨_,d,(h3 _).2 ⟨u,s2,rfl⟩⟩,?_⟩;rw[iJ j,<-hloc0 j I];exact s3
   ·obtain⟨o',r1,r2⟩:=hl
    rw[Hout i hi M]at r1;exact⟨⟨o',r1,r2⟩,Lout i hi M⟩
  ·by_cases y:O l
   ·have:=g3.rl l k (by show k<(r0 l).length; rw[r0p l y]; exact N)
    rw[show E0.X.r l=r0 l from rfl,r0p l y]at this;rw[show E'.X.r l=r' l from rfl,rp l y];exact this
   ·rw[show E'.X.r l=r' l from rfl,rn l y]
    exact⟨N,fun _ hq=>hq⟩
 have lab':∀(j:Nat) o l,H'[j]?=some o->o.label=some l->O l:=fun j o l h1 d=>by
  obtain⟨o0,a1,a2⟩:=hlab1 j o l h1 d;exact⟨j,o0,a1,a2⟩
 have labIn:∀(j:Nat) o l,H0[j]?=some o->o.label=some l->∃o',E.H[e.at j]?=some o'/\o'.label=some l/\e.at j∈e.az:=fun j o l h1 d=>by
  have j1:j<e.az.length:=by rw[hk]; exact bl h1
  obtain⟨_,oj,b1,b2,_⟩:=hobj0 j j1;exact⟨oj,b2,by rw[hlab j o oj h1 (by rw[<-U]; exact b2),d],hmem j j1⟩
 have labOut:∀(i:Nat) o l,i∉e.az->E.H[i]?=some o->o.label=some l->¬ O l:=fun i o l hi h1 d ⟨j,o0,a1,a2⟩=>by
  obtain⟨o',b1,b2,b3⟩:=labIn j o0 l a1 a2;have:=HE.uniq _ _ _ _ l h1 b1 d b2;exact hi (this▸b3)
 have satOut:∀(l k b m:Nat),¬ O l->(E.X.r l)[k]?=some (some (some (b,m)))->¬ E0.af b:=by
  rintro l k b m y h1 (⟨id,c',hid⟩|⟨l',k',c,N⟩)
  ·have M:=bl hid
   rw[show E0.ae=loc0 from rfl]at hid M;rw[hlen0]at M;rw[hloc0 id M]at hid;exact HE.d_ _ _ _ _ _ _ hid h1
  ·obtain⟨q1,q2⟩:=r0n l' k' _ N
   exact y ((HE.gK _ _ _ _ _ _ _ h1 q2).1▸q1)
 refine⟨c,v'.cW e,qL e H H',rfl,⟨p,y,by rw[hv'],by rw[hH']⟩,loc',r',LD hout v' hSv g1,?_,hle⟩;refine⟨?_,?_,?_,fun b W=>fD (HE.X b W) g3.size,?_,HE.iT.ct hle.toC,?_,?_,?_,?_,?_⟩
 ·simp only[loc',qL,List.length_append,wv,List.length_drop,LF,hElen,hlen1]
 ·intro i j b m n hi I
  rcases tX (e:=e) hbL hi with⟨i1,_,i3⟩|⟨i',rfl⟩<;>rcases tX (e:=e) hbL I with⟨j1,_,j3⟩|⟨j',rfl⟩
  ·exact HE.inj _ _ _ _ _ i3 j3
  ·rw[iJ j']at I
   exact(g3.af b (HE.lt _ _ _ i3).1 (hout0 i b m i1 i3) (.inl ⟨j',n,I⟩)).elim
  ·rw[iJ i']at hi
   exact(g3.af b (HE.lt _ _ _ j3).1 (hout0 j b n j1 j3) (.inl ⟨i',m,hi⟩)).elim
  ·rw[iJ i']at hi
   rw[iJ j']at I;rw[g2.inj _ _ _ _ _ hi I]
 ·intro i b m hi
  rcases tX (e:=e) hbL hi with⟨i1,_,i3⟩|⟨i',rfl⟩
  ·exact⟨fD (HE.lt _ _ _ i3).1 g3.size,(HE.lt _ _ _ i3).2⟩
  ·rw[iJ i']at hi
   exact⟨(g2.lt _ _ _ hi).1,fun W=>(g2.lt _ _ _ hi).2 (Or.inl W)⟩
 ·intro i o hi
  have hi':=hi;unfold qL at hi';rcases tX (e:=e) hb hi' with⟨i1,i2,i3⟩|⟨j,rfl⟩
  ·refine oO (E:=E) (fun a _ hr=>bW hle a hr) (Lout i i1 i2) (fun b n hbn=>?_) (fun l hl=>?_) (HE.obj i o (by rw[U]; exact i3))
   ·exact g3.same b (HE.lt _ _ _ hbn).1 (hout0 i b n i1 hbn)
   ·have y:=labOut i o l i1 (by rw[U]; exact i3) hl
    exact⟨rn l y,fun k g m h1=>g3.same g (HE.dp _ _ _ _ h1).1 (satOut l k g m y h1)⟩
  ·have h1:=Hin j
   rw[show E'.H=qL e H H' from rfl,hi]at h1;obtain⟨o1,d,rfl⟩:=gj.1 h1.symm;exact ads hout (fun e=>eD.1 (hSo e) o1 (gg d)) (iJ j) (fun _ _ _=>rfl) (fun l hl=>⟨rp l (lab' j o1 l d hl),fun _ _ _ _=>rfl⟩) (g2.obj j o1 d)
 ·intro l k l' k' b m n h1 d
  have h1:(r' l)[k]?=some (some (some (b,m))):=h1;have d:(r' l')[k']?=some (some (some (b,n))):=d;by_cases y:O l<;>by_cases hp':O l'
  ·rw[rp l y]at h1
   rw[rp l' hp']at d;exact g2.gK l k l' k' b m n h1 d
  ·rw[rp l y]at h1
   rw[rn l' hp']at d;exact((g2.dp l k b m h1).2 (.inr (.inr ⟨l',k',n,hp',d⟩))).elim
  ·rw[rn l y]at h1
   rw[rp l' hp']at d;exact((g2.dp l' k' b n d).2 (.inr (.inr ⟨l,k,m,y,h1⟩))).elim
  ·rw[rn l y]at h1
   rw[rn l' hp']at d;exact HE.gK l k l' k' b m n h1 d
 ·intro i b m l k n hi h1
  have h1:(r' l)[k]?=some (some (some (b,n))):=h1;rcases tX (e:=e) hbL hi with⟨i1,_,i3⟩|⟨i',rfl⟩
  ·by_cases y:O l
   ·rw[rp l y]at h1
    exact g3.af b (HE.lt _ _ _ i3).1 (hout0 i b m i1 i3) (.inr ⟨l,k,n,h1⟩)
   ·rw[rn l y]at h1
    exact HE.d_ _ _ _ _ _ _ i3 h1
  ·rw[iJ i']at hi
   by_cases y:O l
   ·rw[rp l y]at h1
    exact g2.d_ _ _ _ _ _ _ hi h1
   ·rw[rn l y]at h1
    exact(g2.lt _ _ _ hi).2 (.inr (.inr ⟨l,k,n,y,h1⟩))
 ·intro l k b m h1
  have h1:(r' l)[k]?=some (some (some (b,m))):=h1;by_cases y:O l
  ·rw[rp l y]at h1
   exact⟨(g2.dp _ _ _ _ h1).1,fun W=>(g2.dp _ _ _ _ h1).2 (.inl W)⟩
  ·rw[rn l y]at h1
   exact⟨fD (HE.dp _ _ _ _ h1).1 g3.size,(HE.dp _ _ _ _ h1).2⟩
 ·have inn:∀ (j:Nat) o,E'.H[e.at j]?=some o->∃o1,H'[j]?=some o1/\o.label=o1.label:=fun j o h=>by
   rw[Hin j]at h;obtain⟨o1,d,rfl⟩:=gj.1 h;exact⟨o1,d,RB e j o1⟩
  intro i j o o' l hi I h1 d;have hi':=hi;have hj':=I;unfold qL at hi' hj';rcases tX (e:=e) hb hi' with⟨i1,i2,i3⟩|⟨i',rfl⟩<;>rcases tX (e:=e) hb hj' with⟨j1,j2,j3⟩|⟨j',rfl⟩
  ·exact HE.uniq i j o o' l (by rw[U]; exact i3) (by rw[U]; exact j3) h1 d
  ·obtain⟨o1,a1,a2⟩:=inn j' o' I
   exact(labOut i o l i1 (by rw[U]; exact i3) h1 (lab' j' o1 l a1 (by rw[<-a2,d]))).elim
  ·obtain⟨o1,a1,a2⟩:=inn i' o hi
   exact(labOut j o' l j1 (by rw[U]; exact j3) d (lab' i' o1 l a1 (by rw[<-a2,h1]))).elim
  ·obtain⟨o1,a1,a2⟩:=inn i' o hi
   obtain⟨o2,b1,b2⟩:=inn j' o' I;rw[g2.uniq i' j' o1 o2 l a1 b1 (by rw[<-a2,h1]) (by rw[<-b2,d])]
 ·intro l hnl k q hq
  have hq:(r' l)[k]?=some (some q):=hq;by_cases y:O l
  ·rw[rp l y]at hq
   refine g2.jS l (fun j o h1 d=>?_) k q hq;refine hnl (e.at j) (o.cW e j) ?_ (by rw[RB,d]);rw[Hin j,show H'[j]?=some o from h1];rfl
  ·rw[rn l y]at hq
   refine HE.jS l (fun i o h1 d=>?_) k q hq;have M:=bl h1;rw[U]at M;by_cases hi:i∈e.az
   ·obtain⟨j,I,rfl⟩:=pK hi
    have hat':e.az[j]=e.at j:=by
     have:=jW I;rw[cB I]at this;exact jB this
    rw[hat']at h1;obtain⟨o0,oo,a1,a2,_⟩:=hobj0 j I;rw[h1]at a2;cases a2;exact y ⟨j,o0,a1,by rw[<-hlab j o0 o a1 (by rw[<-U]; exact h1),d]⟩
   ·exact hnl i o (by rw[Hout i hi M]; exact h1) d
theorem frame(S:Bool)(nz:List Nat){H0 H1 H:List aj}(hc:fL P f args H0 v H1)(hk:e.az.length=H0.length)(hb:e.aU=H.length)(hn:e.az.Nodup)
  (M:∀j o,H0[j]?=some o->∃o',H[e.at j]?=some o'/\o.born=true/\∀v,o'.aX=some v↔∃u,o.aX=some u/\v=u+e.up j)
  (N:∀E E0,E.H=H->aJ E->wu e nz E E0->E0.H=H0->∀j o,H0[j]?=some o->a6 E0 j o) (U:lV e 0 H1=true) (W:H0.length<=H1.length) (k:S=false->nz=[])
  (hSv:S=true->v.cq=true) (hSo:S=true->(H1.all aj.cq)=true) (O:∀i,i∈nz->i∉e.az)
  (hlab:∀(j:Nat) o o',H0[j]?=some o->H[e.at j]?=some o'->o'.label=o.label) (y:∀(j:Nat) o l,H1[j]?=some o->o.label=some l->∃o0,H0[j]?=some o0/\o0.label=some l)
  (I:∀(j:Nat) o o',H0[j]?=some o->H[e.at j]?=some o'->o'.eS=o.eS) {ew:List AV}
  (d:∀E E0 cs,E.H=H->aJ E->wu e nz E E0->E0.H=H0->aw E ew cs->aw E0 args cs) :
  fL P f ew H (v.cW e) (qL e H H1):=
 jn.mono (RG (α:=Unit) (Ps:=fun _=>True) (Vf:=fun _=>v) (Hf:=fun _=>H1) S nz (jn.mono hc fun v' H' h=>⟨(),trivial,h.1,h.2⟩) hk hb hn M N (fun _ _=>U) (fun _ _=>W) k (fun h _ _=>hSv h) (fun h _ _=>hSo h) O hlab (fun _ _=>y) I d) fun v' H' ⟨_,_,h1,h2⟩=>⟨h1,h2⟩
end Go.AL
