/-
 What is proved here: owned objects of data,and what operations do to them,with what must hold so that they do it. No program in sight; no condition.
-/
import Derived.Test.YtbogdflhnhohfaaGreatDoorMB
import Derived.Eval
import Derived.KernelRfl
set_option linter.all false
open Array renaming toList_append->BQ
open Bool renaming and_true->gX,and_eq_true->aK,false_eq_true->lz,not_true->yp,not_eq_true'->sX,or_eq_true->uY,eq_iff_iff->nf,and_false->yv
open ByteArray renaming empty->BD
open Decidable renaming byContradiction->F1
open Function renaming comp->F3
open Go renaming Value->ao,FuncId->bP,TypeId->aF,Program->aj,Operand->cw,Oper->aU
open Go.Call renaming operands->uX
open Go.Op renaming operands->fg
open Go.Utf8 renaming decode->qO
open Go.Value.slice renaming injEq->mq
open List renaming length_cons->cn,getElem?_append_left->di,length_map->c8,mem_map->dB,getElem?_map->bY,getElem_of_mem->pR,getElem?_eq_getElem->bZ,mem_of_getElem?->eS,getElem?_append_right->iY,getElem?_set_ne->bg,getElem?_set->eC,all_eq_true->dN,getD_eq_getElem?_getD->cd,getElem?_drop->sT,mem_cons->cq,map_cons->dC,take_append_drop->yq,ext_getElem?->jG,length_set->iE,length_append->fu,mem_append->db,replicate->cB,mem_cons_self->cX,mem_cons_of_mem->dp,all_cons->oa,getElem?_modify->iH,take_of_length_le->KS,map_append->jY,findIdx?_cons->KU,nodup_cons->pW,getElem?_inj->F0,map_set->s8,headD_cons->u5,length_nil->km,map_nil->u6,length->BS,mem_filter->s9,mem_flatMap->F4
open Nat renaming le_refl->aM,lt_of_lt_of_le->eU,zero_le->eV,lt_or_ge->mo,zero_add->cP,sub_zero->fD,add_zero->n_,beq->aG,eq_of_beq_eq_true->bz,sub_self->lF,ble->dS,blt->dq,ble_eq->s7,blt_eq->iZ,beq_refl->i_,lt_succ_self->Vt,le_of_ble_eq_true->BR,mul_one->amr,lt_succ_of_lt->BT,lt_irrefl->BU
open Option renaming map_eq_some_iff->eL,isSome_none->FY,map_some->ff,map_none->u4,isSome_some->F2,map_map->K3
open Option.some renaming injEq->bf,inj->g_
open Prod.mk renaming injEq->bo
namespace Go.AL
open Go
abbrev Kd.I:Kd:=.int .i64
abbrev BY:=ByteArray
abbrev LG:=List G
abbrev LL:=List LG
variable [Dr]
def cJ:Int->Bool
 |.ofNat _=>true
 |.negSucc _=>false
def bp:Int->Int->Bool
 |.ofNat x,.ofNat y=>dS x y
 |.ofNat _,.negSucc _=>false
 |.negSucc _,.ofNat _=>true
 |.negSucc x,.negSucc y=>dS y x
def aO:Int->Int->Bool
 |.ofNat x,.ofNat y=>dq x y
 |.ofNat _,.negSucc _=>false
 |.negSucc _,.ofNat _=>true
 |.negSucc x,.negSucc y=>dq y x
def ay(n:Int):Bool:=bp (-9223372036854775808) n&&bp n 9223372036854775807
def jM(n:Int):cJ n=decide (0<=n):=by
 cases n with
 |ofNat x=>simp[cJ]
 |negSucc x=>simp[cJ]
def eX(a b:Int):bp a b=decide (a<=b):=by
 rw[nf];cases a<;>cases b<;>simp[bp,s7]<;>(try omega)
def cK(a b:Int):aO a b=decide (a<b):=by
 rw[nf];cases a<;>cases b<;>simp[aO,iZ]<;>(try omega)
def dH{n:Int}:ay n=true ↔ -9223372036854775808<=n/\n<=9223372036854775807:=by
 simp[ay,eX]
def g0(r:LG):G:=r.headD default
def gi:LG->Nat->G
 |r,0=>r.headD default
 |r,i+1=>gi r.tail i
def G.rV(g:G):LG:=g.rZ.headD []
def rj:Kd->G->G->Bool
 |.int _,a,b=>a.iV==b.iV
 |.str,a,b=>a.sV.toList==b.sV.toList
 |.bool,a,b=>a.bV==b.bV
 |.list _,_,_=>false
def bq:List Kd->LG->LG->Bool
 | [],_,_=>true
 |k::ks,r,s=>rj k (r.headD default) (s.headD default)&&bq ks r.tail s.tail
inductive Ct where
 |one (k:Kd)
 |agg (ks:List Kd)
 deriving Inhabited
def Ct.ks:Ct->List Kd
 |.one k=>[k]
 |.agg ks=>ks
def Ct.av:Ct->LG->AV
 |.one k,r=>kU k (r.headD default)
 |.agg ks,r=>.agg (aX ks r)
def Ct.tK(k:Ct)(r:LG):(k.av r).closed=true:=by
 cases k with
 |one k=>cases k<;>rfl
 |agg ks=>simp only[Ct.av,AV.closed,gJ]
inductive aw where
 |raw (o:ai)
 |vQ (ks:List Kd) (al:Nat) (rZ:LL)
 |map (K V:Ct) (rZ:LL) (clock:Nat)
 |a7 (l:Nat) (K:Ct) (ks:List Kd) (rZ:LL) (clock:Nat)
 |mm (l:Nat) (K KI VI:Ct) (rZ mem:LL) (clock:Nat)
 |cM (l:Nat) (ks:List Kd) (n:Nat) (ms:LL)
 |bJ (l:Nat) (K:Ct) (ks:List Kd) (rZ:LL) (clock:Nat)
def dQ(K V:Ct)(rZ:LL):List (AV × AV × Nat):=rZ.map fun r=>(K.av (gi r 0).rV,V.av (gi r 1).rV,(gi r 2).iV.toNat)
def j_(r:LG):LL:=((gi r 1).rV.headD default).rZ
def jN(K:Ct)(ks:List Kd)(r:LG):AV × Option (List (List AV)) × Nat:=((bif (gi r 4).bV && !(gi r 3).bV then .tuple [K.av (gi r 0).rV,.listF ks (j_ r)] else K.av (gi r 0).rV),(bif (gi r 3).bV then some ((j_ r).map (aX ks)) else none),(gi r 2).iV.toNat)
def gD(K:Ct)(ks:List Kd)(rZ:LL):List (AV × Option (List (List AV)) × Nat):=rZ.map (jN K ks)
def zb(m:LG):LL:=(g0 m).rZ
def kA(d:LL)(j:Nat):LL:=zb (d.getD j [])
def mD(r:LG)(s:Nat):LL:=(gi (gi r 1).rV s).rZ
def oG(K:Ct)(ks:List Kd)(r:LG):AV × (Option (List (List AV)) × Option (List (List AV))) × Nat :=
 (K.av (gi r 0).rV,(bif (gi r 3).bV then (some ((mD r 0).map (aX ks)),some ((mD r 1).map (aX ks))) else (none,none)),(gi r 2).iV.toNat)
def lO(K:Ct)(ks:List Kd)(rZ:LL):List (AV × (Option (List (List AV)) × Option (List (List AV))) × Nat):=rZ.map (oG K ks)
def tL(r:LG):Option Nat:=bif bp 0 (gi r 1).iV then some (gi r 1).iV.toNat else none
def kB(K:Ct)(rZ:LL):List (AV × Option Nat × Nat):=rZ.map fun r=>(K.av (gi r 0).rV,tL r,(gi r 2).iV.toNat)
def rk(d g:Ct)(mem:LL):List (List (AV × AV × Nat) × Nat):=mem.map fun m=>(dQ d g (gi m 0).rZ,(gi m 1).iV.toNat)
def aw.ar:aw->ai
 |.raw o=>o
 |.a7 l K ks rZ d=>.a7 l ks.length (gD K ks rZ) d
 |.map K V rZ d=>.map (dQ K V rZ) d
 |.mm l K g h rZ mem d=>.mm l (kB K rZ) (rk g h mem) d
 |.cM l ks n k=>.cM l ks.length n (k.map fun m=>(zb m).map (aX ks))
 |.bJ l K ks rZ d=>.bJ l ks.length (lO K ks rZ) d
 |.vQ ks al rZ=>.vQ ks.length al (rZ.map (aX ks))
def az(H:List aw):List ai:=H.map aw.ar
structure aH where
 fr:List AV
 H:List aw
def aH.ar(s:aH):St:=⟨s.fr,az s.H⟩
def aH.eval(s:aH)(o:cw):AV:=St.eval ⟨s.fr,[]⟩ o
def aH.put(s:aH)(dst:Option Tmp)(v:AV)(H':List aw):aH:=⟨mC s.fr dst v,H'⟩
def aH.po(s:aH):s.ar.eval=s.eval:=by
 funext o
 cases o<;>rfl
def bu{H:List aw}{id:Nat}{o:aw}(h:H[id]? = some o):(az H)[id]? = some o.ar:=by simp[az,h]
def cQ(H:List aw)(id:Nat)(o:aw):az (H.set id o)=(az H).set id o.ar:=by simp[az,s8]
def jO(H:List aw)(o:aw):az (H++[o])=az H++[o.ar]:=by simp[az]
def fA(H:List aw):(az H).length=H.length:=by simp[az]
mutual
def Kd.same:Kd->Kd->Bool
 |.int k,.int g=>decide (k=g)
 |.str,.str=>true
 |.bool,.bool=>true
 |.list ks,.list d=>Kd.gN ks d
 |_,_=>false
def Kd.gN:List Kd->List Kd->Bool
 | [],[]=>true
 |k::ks,g::d=>k.same g&&Kd.gN ks d
 |_,_=>false
end
mutual
def Kd.lP:∀{k d:Kd},k.same d=true->k=d
 |.int k,.int d,h=>by simp[Kd.same]at h; rw[h]
 |.str,.str,_=>rfl
 |.bool,.bool,_=>rfl
 |.list ks,.list g,h=>by simp only[Kd.same]at h; rw[Kd.je h]
 |.int _,.str,h | .int _,.bool,h | .int _,.list _,h | .str,.int _,h | .str,.bool,h | .str,.list _,h=>by simp[Kd.same]at h
 |.bool,.int _,h | .bool,.str,h | .bool,.list _,h | .list _,.int _,h | .list _,.str,h | .list _,.bool,h=>by simp[Kd.same]at h
def Kd.je:∀{k d:List Kd},Kd.gN k d=true->k=d
 | [],[],_=>rfl
 |k::ks,d::g,h=>by simp only[Kd.gN,aK]at h; rw[Kd.lP h.1,Kd.je h.2]
 | [],_::_,h|_::_,[],h=>by simp[Kd.gN]at h
end
def Ct.same:Ct->Ct->Bool
 |.one k,.one g=>k.same g
 |.agg ks,.agg d=>Kd.gN ks d
 |_,_=>false
def Ct.lP{K d:Ct}(h:K.same d=true):K=d:=by
 cases K<;>cases d<;>simp only[Ct.same]at h
 ·rw[Kd.lP h]
 ·cases h
 ·cases h
 ·rw[Kd.je h]
def zd:Kd->AV->Option G
 |.int k,.lit (.int g n)=>if k=g then some (.i n) else none
 |.str,.lit (.string s)=>some (.s s)
 |.bool,.lit (.bool b)=>some (.t b)
 |.list ks,.listF d rZ=>if Kd.gN ks d then some (.l rZ) else none
 |_,_=>none
def iK:List Kd->List AV->Option LG
 | [],[]=>some []
 | k::ks,a::as=>match zd k a,iK ks as with
  |some g,some d=>some (g::d)
  |_,_=>none
 |_,_=>none
def bO(ks:List Kd):List (List AV)->Option LL
 | []=>some []
 | r::rs=>match iK ks r,bO ks rs with
  |some g,some d=>some (g::d)
  |_,_=>none
def Hr{k:Kd}{a:AV}{g:G}(h:zd k a=some g):kU k g=a:=by
 unfold zd at h;split at h
 ·split at h
  ·rename_i e; cases h; subst e; rfl
  ·cases h
 ·cases h; rfl
 ·cases h; rfl
 ·split at h
  ·rename_i e; cases h; rw[Kd.je e]; rfl
  ·cases h
 ·cases h
def mE:∀{ks:List Kd} {as:List AV} {d:LG},iK ks as=some d->aX ks d=as
 | [],[],_,h=>by simp[iK]at h; subst h; rfl
 | k::ks,a::as,d,h=>by
  simp only[iK]at h;split at h
  ·rename_i g v h1 q
   cases h;simp[aX,Hr h1,mE q]
  ·cases h
 | [],_::_,_,h|_::_,[],_,h=>by simp[iK]at h
def M5:∀{ks:List Kd} {as:List AV} {d:LG},iK ks as=some d->d.length=ks.length/\as.length=ks.length
 | [],[],_,h=>by simp[iK]at h; subst h; exact⟨rfl,rfl⟩
 | k::ks,a::as,d,h=>by
  simp only[iK]at h;split at h
  ·rename_i g v h1 q
   cases h;have:=M5 q;simp[this.1,this.2]
  ·cases h
 | [],_::_,_,h|_::_,[],_,h=>by simp[iK]at h
def rq{ks:List Kd}:∀{rs:List (List AV)} {d:LL},bO ks rs=some d->d.map (aX ks)=rs
 | [],_,h=>by simp[bO]at h; subst h; rfl
 | r::rs,d,h=>by
  simp only[bO]at h;split at h
  ·rename_i g q h1 k
   cases h;simp[mE h1,rq k]
  ·cases h
def ze:AV->Option Kd
 |.lit (.int k _)=>some (.int k)
 |.lit (.string _)=>some .str
 |.lit (.bool _)=>some .bool
 |.listF ks _=>some (.list ks)
 |_=>none
def rr:List AV->Option (List Kd)
 | []=>some []
 | a::as=>match ze a,rr as with
  |some k,some ks=>some (k::ks)
  |_,_=>none
def ru:List Kd->LG->LG
 | [],_=>[]
 |_::ks,r=>r.headD default::ru ks r.tail
def Hs:∀(ks:List Kd) (r:LG),(ru ks r).length=ks.length
 | [],_=>rfl
 |_::ks,r=>by simp[ru,Hs ks]
def dV(ks:List Kd)(r:LG)(d:Nat)(g:LG):LG:=(ru ks r).take d++g++(ru ks r).drop (d+g.length)
def M6:∀(ks:List Kd) (r:LG) (n:Nat),(aX ks r).take n=aX (ks.take n) r
 | [],_,n=>by simp[aX]
 |_::_,_,0=>by simp[aX]
 |k::ks,r,n+1=>by simp[aX,M6 ks]
def M7:∀(ks:List Kd) (r:LG) (n:Nat),(aX ks r).drop n=aX (ks.drop n) (r.drop n)
 | [],_,n=>by simp[aX]
 |_::_,_,0=>by simp
 |k::ks,r,n+1=>by simp[aX,M7 ks]
def Ht:∀(ks d:List Kd) (r g:LG),r.length=ks.length->aX (ks++d) (r++g)=aX ks r++aX d g
 | [],d,r,g,h=>by
  have:r=[]:=List.length_eq_zero_iff.1 h;subst this;simp[aX]
 | k::ks,d,r,g,h=>by
  cases r with
  |nil=>simp at h
  |cons x r=>simp[aX,Ht ks d r g (by simpa using h)]
def Hu:∀(ks:List Kd) (r:LG),aX ks (ru ks r)=aX ks r
 | [],_=>rfl
 |k::ks,r=>by simp[aX,ru,Hu ks]
def M8{ks:List Kd}{r g:LG}{cs:List AV}{d:Nat} (h:iK ((ks.drop d).take cs.length) cs=some g) (M:d+cs.length<=ks.length) :
  aX ks (dV ks r d g)=putCells (aX ks r) cs d:=by
 obtain⟨h1,N⟩:=M5 h;have I:((ks.drop d).take cs.length).length=cs.length:=by simp; omega
 have q:g.length=cs.length:=by omega
 have v:ks=(ks.take d++(ks.drop d).take cs.length)++ks.drop (d+cs.length):=by
  rw[List.append_assoc,<-List.drop_drop,yq,yq]
 unfold dV putCells;have hn:=Hs ks r
 conv=>lhs; arg 1; rw[v]
 rw[Ht _ _ _ _ (by simp[hn,q]; omega),Ht _ _ _ _ (by simp[hn]),mE h,q];congr 1
 ·congr 1
  rw[<-Hu ks r,M6];have:∀(ks:List Kd) (r:LG) (n:Nat),ks.length<=n->aX ks (r.take n)=aX ks r:=by
   intro ks
   induction ks with
   |nil=>intros; rfl
   | cons k ks y =>
    intro r n hn;cases n with
    |zero=>simp at hn
    | succ n =>
     cases r with
     |nil=>rfl
     |cons x r=>simp[aX,y r n (by simpa using hn)]
  exact this _ _ _ (by simp; omega)
 ·conv => rhs; rw [<- Hu ks r]
  rw[M7]
end Go.AL

namespace Go.AL
open Go
variable [Dr]
def zf{ks:List Kd}{rZ:LL}{row:Nat}(h:row<rZ.length):(rZ.map (aX ks))[row]? = some (aX ks (rZ.getD row [])):=by
 rw[bY,cd,bZ h];rfl
def kC:List AV->Option (List Int)
 | []=>some []
 | .lit (.int .i64 n)::l=>match kC l with
  |some q=>some (n::q)
  |none=>none
 |_=>none
def Hv:∀{cells:List AV} {l:List Int},kC cells=some l->∀ i,i<l.length->cells[i]? = some (.lit (.int .i64 (l.getD i 0)))
 | [],l,h,i,hi=>by
  simp only[kC,bf]at h;subst h;simp at hi
 | c::cells,l,h,i,hi=>by
  unfold kC at h;split at h
  ·rename_i he
   cases he
  ·rename_i n l' he
   cases he;split at h
   ·rename_i q d
    cases h;cases i with
    |zero=>rfl
    | succ i =>
     simp only[cn]at hi;have:=Hv d i (by omega);simpa using this
   ·cases h
  ·cases h
def M9:∀{cells:List AV} {l:List Int},kC cells=some l->cells.length=l.length
 | [],l,h=>by
  simp only[kC,bf]at h;subst h;rfl
 | c::cells,l,h=>by
  unfold kC at h;split at h
  ·rename_i he
   cases he
  ·rename_i n l' he
   cases he;split at h
   ·rename_i q d
    cases h;simp[M9 d]
   ·cases h
  ·cases h
def tM(v:Int)(d:Nat):Nat->List Int->List AV
 |_,[]=>[]
 |k,n::l=>.lit (.int .i64 (bif aG d k then v else n))::tM v d (k+1) l
def M_{v:Int}{d:Nat}:∀{cells:List AV} {l:List Int} {k:Nat},kC cells=some l->d<k->tM v d k l=cells
 | [],l,k,h,_=>by
  simp only[kC,bf]at h;subst h;rfl
 | c::cells,l,k,h,y=>by
  unfold kC at h;split at h
  ·rename_i he
   cases he
  ·rename_i n l' he
   cases he;split at h
   ·rename_i q g
    cases h;have hb:aG d k=false:=by
     cases hb:aG d k with
     |false=>rfl
     |true=>have:=bz hb; omega
    simp only[tM,hb,cF,M_ g (show d<k+1 by omega)]
   ·cases h
  ·cases h
def Na{v:Int}:∀{cells:List AV} {l:List Int} {k d:Nat},kC cells=some l->d<l.length->tM v (k+d) k l=putCells cells [.lit (.int .i64 v)] d
 | [],l,k,d,h,g=>by
  simp only[kC,bf]at h;subst h;simp at g
 | c::cells,l,k,d,h,g=>by
  unfold kC at h;split at h
  ·rename_i he
   cases he
  ·rename_i n l' he
   cases he;split at h
   ·rename_i q y
    cases h;cases d with
    | zero =>
     simp only[tM,n_,i_,cT,M_ y (Vt k)];rfl
    | succ d =>
     have hb:aG (k+(d+1)) k=false:=by
      cases hb:aG (k+(d+1)) k with
      |false=>rfl
      |true=>have:=bz hb; omega
     have I:=Na (v:=v) (k:=k+1) y (show d<q.length by simp only[cn]at g; omega);rw[show k+1+d=k+(d+1) by omega]at I;simp only[tM,hb,cF,I];rfl
   ·cases h
  ·cases h
def Hw(P:aj)(t:aF)(x:AV)(H:List aw):Option (Bool × AV) :=
 match x with
 | .ptr id al w row d=>match H[id]? with
  | some (.vQ ks v rZ)=>match gl P t with
   | some (n,agg)=>if al=v/\ks.length=w then (match jJ agg n ((aX ks (rZ.getD row [])).drop d) with
     |some u=>some (decide (row<rZ.length),u)
     |none=>none) else none
   |none=>none
  | some (.raw (.box cells))=>match gl P t with
   | some (n,agg)=>if al=0/\row=0 then (match agg,kC cells with
     |false,some l=>some (dq d l.length,.lit (.int .i64 (l.getD d 0)))
     |_,_=>match jJ agg n (cells.drop d)with
     |some u=>some (true,u)
     |none=>none) else none
   |none=>none
  | some (.cM l _ _ g)=>match gl P t with
   | some (n,agg)=>if al=0/\w=1/\d=0 then (match jJ agg n [.svec id l row (kA g row).length] with
     |some u=>some (dq row g.length,u)
     |none=>none) else none
   |none=>none
  |_=>none
 | .sptr id l j w row d=>match H[id]? with
  | some (.cM l' ks _ g)=>match gl P t with
   | some (n,agg)=>if l=l'/\ks.length=w then (match jJ agg n ((aX ks ((kA g j).getD row [])).drop d) with
     |some u=>some (dq j g.length&&dq row (kA g j).length,u)
     |none=>none) else none
   |none=>none
  |_=>none
 | .cptr cells=>match gl P t with
  | some (n,agg)=>match jJ agg n cells with
   |some u=>some (true,u)
   |none=>none
  |none=>none
 |_=>none
def Hx{ks:List Kd}{d:LL}{j:Nat}(h:j<d.length):(d.map fun m=>(zb m).map (aX ks))[j]? = some ((kA d j).map (aX ks)):=by
 unfold kA;rw[bY,cd,bZ h];rfl
def XU{P:aj}{t:aF}{x:AV}{H:List aw}{b:Bool}{u:AV}(h:Hw P t x H=some (b,u))(hb:b=true):nl P t x (az H)=some u:=by
 unfold Hw at h;unfold nl;split at h
 ·rename_i id al w row I
  split at h
  ·rename_i ks v rZ q
   split at h
   case h_2=>cases h
   rename_i n agg d;split at h
   case isFalse=>cases h
   rename_i k;split at h
   case h_2=>cases h
   rename_i y g;simp only[bf,bo]at h;obtain⟨h1,rfl⟩:=h;subst hb;simp only[dT]at h1;rw[d];simp only[bu q,aw.ar];rw[iP ⟨k.1,k.2⟩,zf h1];exact g
  ·rename_i cells q
   split at h
   case h_2=>cases h
   rename_i n agg d;split at h
   case isFalse=>cases h
   rename_i k;rw[d];simp only[bu q,aw.ar];rw[iP k];split at h
   ·rename_i l M
    simp only[bf,bo]at h;obtain⟨h1,rfl⟩:=h;subst hb;rw[iZ]at h1;simp only[jJ,lz,if_false,sT,n_];exact Hv M I h1
   ·split at h
    case h_2=>cases h
    rename_i y g;cases h;exact g
  ·rename_i l ks N O q
   split at h
   case h_2=>cases h
   rename_i n agg d;split at h
   case isFalse=>cases h
   rename_i k;split at h
   case h_2=>cases h
   rename_i y g;simp only[bf,bo]at h;obtain⟨h1,rfl⟩:=h;subst hb;rw[iZ]at h1;rw[d];simp only[bu q,aw.ar];rw[iP k,Hx h1];simp only[c8];exact g
  ·cases h
 ·rename_i id l j w row I
  split at h
  ·rename_i l' ks N O q
   split at h
   case h_2=>cases h
   rename_i n agg d;split at h
   case isFalse=>cases h
   rename_i k;split at h
   case h_2=>cases h
   rename_i y g;simp only[bf,bo,aK]at h;obtain⟨h1,rfl⟩:=h;subst hb;rw[aK,iZ,iZ]at h1;rw[d];simp only[bu q,aw.ar];rw[iP k,Hx h1.1];simp only[];rw[zf h1.2];exact g
  ·cases h
 ·rename_i cells
  split at h
  case h_2=>cases h
  rename_i n agg d;split at h
  case h_2=>cases h
  rename_i y g;cases h;rw[d];exact g
 ·cases h
def vS(P:aj)(t:aF)(x v:AV)(H:List aw):Option (Bool × List aw) :=
 match gl P t,pg v,x with
 | some (n,_),some cs,.ptr id al w row d =>
  if cs.length=n then
   match H[id]? with
   | some (.raw (.box cells))=>match cs,kC cells with
    | [.lit (.int .i64 z)],some l=>if al=0/\row=0/\n=1 then some (dq d l.length,H.set id (.raw (.box (tM z d 0 l)))) else none
    |_,_=>if al=0/\row=0/\d+n<=cells.length then some (true,H.set id (.raw (.box (putCells cells cs d)))) else none
   | some (.vQ ks u rZ) =>
    if al=u/\ks.length=w/\d+cs.length<=ks.length then
     match iK ((ks.drop d).take cs.length) cs with
     |some g=>some (decide (row<rZ.length),H.set id (.vQ ks u (rZ.set row (dV ks (rZ.getD row []) d g))))
     |none=>none
    else none
   |_=>none
  else none
 |_,_,_=>none
def Hy{P:aj}{t:aF}{x v:AV}{H H':List aw}{b:Bool}(h:vS P t x v H=some (b,H'))(hb:b=true):pj P t x v (az H)=some (az H'):=by
 unfold vS at h;unfold pj;split at h
 case h_2=>cases h
 rename_i n ag cs id al w row W M bT;rw[M,bT];simp only[];split at h
 case isFalse=>cases h
 rename_i hn;rw[iP hn];split at h
 ·rename_i cells g
  split at h
  ·rename_i z l y
   split at h
   case isFalse=>cases h
   rename_i d;simp only[bf,bo]at h;obtain⟨h1,rfl⟩:=h;subst hb;rw[iZ]at h1;have V:=M9 y;simp only[bu g,aw.ar];rw[iP ⟨d.1,d.2.1,by omega⟩,cQ];have:=Na (v:=z) (k:=0) y h1;rw[cP]at this;rw[this];rfl
  ·split at h
   case isFalse=>cases h
   rename_i d;cases h;simp only[bu g,aw.ar];rw[iP d,cQ];rfl
 ·rename_i ks u rZ g
  split at h
  case isFalse=>cases h
  rename_i d;obtain⟨N,O,U⟩:=d;split at h
  case h_2=>cases h
  rename_i gs q;simp only[bf,bo]at h;obtain⟨h1,rfl⟩:=h;subst hb;simp only[dT]at h1;simp only[bu g,aw.ar];have I:AV.bM cs=true:=by rw[<-mE q]; exact gJ _ _
  rw[iP ⟨N,O,I⟩,zf h1];simp only[tb];rw[iP (by omega),cQ];simp only[aw.ar,s8];rw[M8 q U]
 ·cases h
def zg(P:aj)(t:aF)(x v:AV)(H:List aw):Option (Bool × List aw) :=
 match gl P t,pg v,x with
 | some (n,_),some cs,.sptr id l j w row g=>match H[id]? with
  | some (.cM l' ks h d)=>if cs.length=n/\l=l'/\ks.length=w/\g+cs.length<=ks.length then
    match iK ((ks.drop g).take cs.length) cs with
    |some k=>some (dq j d.length&&dq row (kA d j).length,H.set id (.cM l ks h (d.set j [.l ((kA d j).set row (dV ks ((kA d j).getD row []) g k))])))
    |none=>none
   else none
  |_=>none
 |_,_,_=>none
def XV{P:aj}{t:aF}{x v:AV}{H H':List aw}{b:Bool}(h:zg P t x v H=some (b,H'))(hb:b=true):tA P t x v (az H)=some (az H')/\pj P t x v (az H)=none:=by
 unfold zg at h;unfold tA pj;split at h
 case h_2=>cases h
 rename_i n V cs id l j w row U q bT;rw[q,bT];simp only[];split at h
 case h_2=>cases h
 rename_i l' ks W ms g;split at h
 case isFalse=>cases h
 rename_i y;obtain⟨I,M,N,O⟩:=y;split at h
 case h_2=>cases h
 rename_i gs d;simp only[bf,bo]at h;obtain⟨h1,rfl⟩:=h;subst hb;rw[aK,iZ,iZ]at h1;have k:AV.bM cs=true:=by rw[<-mE d]; exact gJ _ _
 simp only[bu g,aw.ar];rw[iP ⟨I,M,N,k⟩,Hx h1.1];simp only[];rw[zf h1.2];simp only[tb];rw[iP (by omega),cQ];simp only[aw.ar,s8,zb,g0,u5,G.rZ];rw[M8 d O];exact⟨rfl,trivial⟩
def zh(P:aj)(t:aF)(x v:AV)(H:List aw):Option (Bool × List aw) :=
 match gl P t,x,v with
 | some (sz,_),.ptr id M pw row y,.vQ k j al oF n=>match H[id]?,H[j]? with
  | some (.cM l ks g h),some (.vQ I q d)=>if sz=1/\M=0/\pw=1/\y=0 then
    match Kd.gN ks I&&(aG k ks.length&&(aG al q&&aG oF 0))with
    |true=>some ((aG n d.length&&dq 0 n)&&(aG row h.length&&dq row g),(H.set id (.cM l ks g (h++[[.l d]]))).set j (.raw .dead))
    |false=>none
   else none
  |_,_=>none
 |_,_,_=>none
def XW{P:aj}{t:aF}{x v:AV}{H H':List aw}{b:Bool}(h:zh P t x v H=some (b,H'))(hb:b=true) :
  yX P t x v (az H)=some (az H')/\pj P t x v (az H)=none/\tA P t x v (az H)=none:=by
 unfold zh at h;unfold yX pj tA;split at h
 case h_2=>cases h
 rename_i sz ag id pv pw row col k j al oF n U;rw[U];simp only[pg];split at h
 case h_2=>cases h
 rename_i l ks nn ms ks2 ver' rws y V;split at h
 case isFalse=>cases h
 rename_i W;split at h
 case h_2=>cases h
 rename_i q;simp only[aK]at q;obtain⟨I,M,N,O⟩:=q;have e1:=Kd.je I;subst e1;have e2:=bz M;have e3:=bz N;have e4:=bz O;subst e2 e3 e4;simp only[bf,bo]at h;obtain⟨h1,rfl⟩:=h;rw[hb]at h1;simp only[aK,iZ]at h1;obtain⟨⟨d,g2⟩,g,g4⟩:=h1;have d:=bz d;have g:=bz g;simp only[bu y,bu V,aw.ar];rw[iP ⟨W,⟨trivial,trivial,trivial,trivial⟩,⟨by simpa using d,g2⟩,by simpa using g,g4⟩];refine⟨?_,?_,trivial⟩
 ·rw [cQ, cQ]
  simp[aw.ar,zb,g0,G.rZ]
 ·split<;>rfl
def ry(sz:Nat)(x:AV)(H:List aw)(d:Option (List Kd)):Option (Bool × List Kd × LL) :=
 match x with
 | .nils | .lit (.slice none 0 0)=>match d with
  |some ks=>some (true,ks,[])
  |none=>none
 | .emptyS _=>match d with
  |some ks=>some (true,ks,[])
  |none=>none
 |.listF ks rZ=>if ks.length=sz then some (true,ks,rZ) else none
 | .list w rZ=>match (match d with | some ks=>some ks | none=>rr (rZ.headD [])) with
  | some ks=>match bO ks rZ with
   |some g=>if w=sz then some (true,ks,g) else none
   |none=>none
  |none=>none
 | .vQ w id al oF n=>match H[id]? with
  |some (.vQ ks v rZ)=>if w=sz/\ks.length=w/\v=al/\oF=0 then some (aG n rZ.length,ks,rZ) else none
  |_=>none
 |.lit (.string s)=>if sz=1 then some (true,[.int .u8],s.data.toList.map fun b=>[.i b.toNat]) else none
 |_=>none
def Nb{sz:Nat}{x:AV}{H:List aw}{g:Option (List Kd)}{b:Bool}{ks:List Kd}{rZ:LL}(h:ry sz x H g=some (b,ks,rZ))(hb:b=true) :
  oz sz x (az H)=some (rZ.map (aX ks)):=by
 unfold ry at h;split at h
 ·split at h
  ·cases h; rfl
  ·cases h
 ·split at h
  ·cases h; rfl
  ·cases h
 ·split at h
  ·cases h; rfl
  ·cases h
 ·split at h
  ·rename_i d; cases h; simp only[oz]; rw[iP d]
  ·cases h
 ·split at h
  ·split at h
   ·rename_i W q
    split at h
    ·rename_i d; cases h; simp only[oz]; rw[iP d,rq q]
    ·cases h
   ·cases h
  ·cases h
 ·rename_i w id al oF n
  split at h
  ·rename_i V v U k
   split at h
   ·rename_i y
    obtain⟨I,M,N,rfl⟩:=y;simp only[bf,bo]at h;obtain⟨h1,rfl,rfl⟩:=h;subst hb;have h1:=bz h1;simp only[oz,bu k,aw.ar];rw[iP ⟨I,M,N,by simp; omega⟩];simp only[List.drop_zero];rw[KS (by simp; omega)]
   ·cases h
  ·cases h
 ·rename_i s
  split at h
  ·rename_i O
   cases h;simp only[oz];rw[iP O];simp[aX,kU,G.iV]
  ·cases h
 ·cases h
def Hz:SK->Bool
 |.slice _ _ _ | .str=>true
 |_=>false
def HA{P:aj}{t xt:aF}{s x:AV}{H:List ai}{e sz g:Nat}{z:List ao}{d:List (List AV)}(q:cZ P t=.slice e sz g)(y:fF P e=some z)
  (h : Hz (cZ P xt) = true) (I : oz sz x H = some d) (M : z.length = sz /\ d.length <= 1048576 /\ g <= 1048576) : vu P t xt s x H =
   match s with
    |.nils | .lit (.slice none 0 0)=>some (.vQ sz H.length 0 0 d.length,H++[.vQ sz 0 d])
    | .vQ w id al oF n=>match H[id]? with
     | some (.vQ k v rZ) =>
      if k=w/\w=sz/\v=al/\oF=0/\n=rZ.length/\rZ.length+d.length<=1048576 then
       some (.vQ w id (al+1) 0 (n+d.length),H.set id (.vQ k (al+1) (rZ++d)))
      else none
     |_=>none
    |_=>none:=by
 unfold vu;simp only[q,y,I];cases N:cZ P xt<;>simp only[N,Hz]at h|-<;>first
  |(cases h; done)
  |(rw[iP M]; rfl)
def tN(sz:Nat)(x:AV)(H:List aw)(z:List ao):Option (Bool × List Kd × LL) :=
 match x with
 |.emptyS _=>ry sz x H (rr (z.map .lit))
 |_=>ry sz x H none
def XX{sz:Nat}{x:AV}{H:List aw}{z:List ao}{b:Bool}{ks:List Kd}{rZ:LL}(h:tN sz x H z=some (b,ks,rZ))(hb:b=true) :
  oz sz x (az H)=some (rZ.map (aX ks)):=by
 unfold tN at h;split at h<;>exact Nb h hb
def vT(P:aj)(t xt:aF)(s x:AV)(H:List aw):Option (Bool × AV × List aw) :=
 match cZ P t with
 | .slice e sz g =>
  match fF P e,Hz (cZ P xt)with
  | some z,true =>
   if z.length=sz/\g<=1048576 then
    match s with
    | .nils | .lit (.slice none 0 0)=>match tN sz x H z with
     |some (b,ks,d)=>if ks.length=sz then some (b&&decide (d.length<=1048576),.vQ sz H.length 0 0 d.length,H++[.vQ ks 0 d]) else none
     |none=>none
    | .vQ w id al oF n=>match H[id]? with
     | some (.vQ ks v rZ)=>match ry sz x H (some ks) with
      | some (b,h,d) =>
       if ks.length=w/\w=sz/\v=al/\oF=0/\Kd.gN ks h=true then
        some (b&&(aG n rZ.length&&decide (rZ.length+d.length<=1048576)),.vQ w id (al+1) 0 (rZ++d).length,H.set id (.vQ ks (al+1) (rZ++d)))
       else none
      |none=>none
     |_=>none
    |_=>none
   else none
  |_,_=>none
 |_=>none
def XY{P:aj}{t xt:aF}{s x v:AV}{H H':List aw}{b:Bool}(h:vT P t xt s x H=some (b,v,H'))(hb:b=true) :
  vu P t xt s x (az H)=some (v,az H'):=by
 unfold vT at h;split at h
 case h_2=>cases h
 rename_i e sz by_ I;split at h
 case h_2=>cases h
 rename_i z M y;split at h
 case isFalse=>cases h
 rename_i hc;obtain⟨N,O⟩:=hc;have fresh:∀{k:Bool} {ks:List Kd} {d:LL},tN sz x H z=some (k,ks,d) ->
   (if ks.length=sz then some (k&&decide (d.length<=1048576),AV.vQ sz H.length 0 0 d.length,H++[aw.vQ ks 0 d]) else none)=some (b,v,H') ->
   ∃ rZ,oz sz x (az H)=some rZ/\rZ.length<=1048576/\v=.vQ sz (az H).length 0 0 rZ.length/\az H'=az H++[.vQ sz 0 rZ]:=by
  intro k ks d g h;split at h
  case isFalse=>cases h
  rename_i hks;simp only[bf,bo]at h;obtain⟨h1,rfl,rfl⟩:=h;subst hb;simp only[aK,dT]at h1;refine⟨_,XX g h1.1,by simpa using h1.2,by simp[fA],?_⟩;rw[jO,aw.ar,hks]
 split at h
 ·split at h
  case h_2=>cases h
  rename_i k ks d g;obtain⟨rZ,U,V,W,g4⟩:=fresh g h;rw[HA I M y U ⟨N,V,O⟩,W,g4]
 ·split at h
  case h_2=>cases h
  rename_i k ks d g;obtain⟨rZ,U,V,W,g4⟩:=fresh g h;rw[HA I M y U ⟨N,V,O⟩,W,g4];rfl
 ·rename_i w id al oF n
  split at h
  case h_2=>cases h
  rename_i ks vv rZ hid;split at h
  case h_2=>cases h
  rename_i k ks' d g;split at h
  case isFalse=>cases h
  rename_i hq;obtain⟨q1,q2,q3,q4,q5⟩:=hq;have q5:=Kd.je q5;subst q5;simp only[bf,bo]at h;obtain⟨h1,rfl,rfl⟩:=h;subst hb;simp only[aK,dT]at h1;obtain⟨h1,q,h3⟩:=h1;have q:=bz q;rw[HA I M y (Nb g h1) ⟨N,by simp; omega,O⟩];simp only[c8,bu hid,aw.ar];rw[iP ⟨q1,q2,q3,q4,q,h3⟩,cQ];simp only[aw.ar,jY,fu,q,q1]
 ·cases h
def rz(len:Nat)(lo hi:Option AV):Option (Bool × Nat × Nat) :=
 match lo,hi with
 |none,none=>some (true,0,len)
 |some (.lit (.int _ l)),none=>some (cJ l&&bp l (len:Int),l.toNat,len)
 |none,some (.lit (.int _ h))=>some (cJ h&&bp h (len:Int),0,h.toNat)
 |some (.lit (.int _ l)),some (.lit (.int _ h))=>some (cJ l&&(bp l h&&bp h (len:Int)),l.toNat,h.toNat)
 |_,_=>none
def CJ{len:Nat}{lo hi:Option AV}{b:Bool}{l h:Nat}(d:rz len lo hi=some (b,l,h))(hb:b=true):jr len lo hi=some (l,h):=by
 unfold rz at d;split at d
 ·cases d; simp[jr]
 ·rename_i l'
  simp only[bf,bo]at d;obtain⟨h1,rfl,rfl⟩:=d;subst hb;simp only[jM,eX,aK,dT]at h1;simp[jr,nm,h1.1,h1.2]
 ·rename_i h'
  simp only[bf,bo]at d;obtain⟨h1,rfl,rfl⟩:=d;subst hb;simp only[jM,eX,aK,dT]at h1;simp[jr,nm,h1.1,h1.2]
 ·rename_i l' _ h'
  simp only[bf,bo]at d;obtain⟨h1,rfl,rfl⟩:=d;subst hb;simp only[jM,eX,aK,dT]at h1;simp[jr,nm,h1.1,h1.2.1,h1.2.2]
 ·cases d
def vU(rZ:LL)(lo hi:Option AV)(l h:Nat):LL :=
 match lo,hi with
 |none,none=>rZ
 |some _,none=>rZ.drop l
 |none,some _=>rZ.take h
 |some _,some _=>(rZ.drop l).take (h-l)
def Nc{rZ:LL}{lo hi:Option AV}{b:Bool}{l h:Nat}(d:rz rZ.length lo hi=some (b,l,h)):vU rZ lo hi l h=(rZ.drop l).take (h-l):=by
 unfold rz at d;split at d
 ·cases d; simp[vU]
 ·simp only [bf, bo] at d
  obtain⟨h1,rfl,rfl⟩:=d;simp only[vU];rw[KS (by simp)]
 ·simp only [bf, bo] at d
  obtain⟨h1,rfl,rfl⟩:=d;simp[vU]
 ·rfl
 ·cases d
def HB(P:aj)(t:aF)(x:AV)(lo hi mx:Option AV):Option (Bool × AV) :=
 match mx with
 | some _=>match ot P t x lo hi mx with
  |some v=>some (true,v)
  |none=>none
 | none=>match cZ P t,x with
  | .str,.lit (.string s)=>match rz s.size lo hi with
   |some (b,l,h)=>some (b,.lit (.string (s.extract l h)))
   |none=>none
  | .slice _ sz _,.listF ks rZ=>match rz rZ.length lo hi with
   |some (b,l,h)=>if ks.length=sz then some (b,.listF ks (vU rZ lo hi l h)) else none
   |none=>none
  | .slice _ sz _,.vQ w id al oF n=>match rz n lo hi with
   |some (b,l,h)=>if w=sz then some (b,.vQ w id al (oF+l) (h-l)) else none
   |none=>none
  | .slice _ sz _,.list w rZ=>match w,vm rZ with
   | 1,some d=>match rz d.length lo hi with
    |some (b,l,h)=>if 1=sz then some (b,.listF [.str] (vU d lo hi l h)) else none
    |none=>none
   | _,_=>match ot P t x lo hi none with
    |some v=>some (true,v)
    |none=>none
  | _,_=>match ot P t x lo hi none with
   |some v=>some (true,v)
   |none=>none
def XZ{P:aj}{t:aF}{x v:AV}{lo hi mx:Option AV}{b:Bool}(h:HB P t x lo hi mx=some (b,v))(hb:b=true):ot P t x lo hi mx=some v:=by
 unfold HB at h;split at h
 ·split at h
  ·rename_i u k; cases h; exact k
  ·cases h
 ·split at h
  ·rename_i s g
   split at h
   case h_2=>cases h
   rename_i y l I d;simp only[bf,bo]at h;obtain⟨h1,rfl⟩:=h;subst h1;simp[ot,g,CJ d hb]
  ·rename_i e sz M ks rZ g
   split at h
   case h_2=>cases h
   rename_i y l I d;split at h
   case isFalse=>cases h
   rename_i q;simp only[bf,bo]at h;obtain⟨h1,rfl⟩:=h;subst h1;simp[ot,g,CJ d hb,q,Nc d]
  ·rename_i e sz M w id al oF n g
   split at h
   case h_2=>cases h
   rename_i y l I d;split at h
   case isFalse=>cases h
   rename_i q;simp only[bf,bo]at h;obtain⟨h1,rfl⟩:=h;subst h1;simp[ot,g,CJ d hb,q]
  ·rename_i e sz M w rZ g
   split at h
   ·rename_i O N
    split at h
    case h_2=>cases h
    rename_i y l I d;split at h
    case isFalse=>cases h
    rename_i q;simp only[bf,bo]at h;obtain⟨h1,rfl⟩:=h;subst h1;subst q;have U:rZ.length=O.length:=by rw[<-Gp N,c8]
    simp[ot,g,U,CJ d hb,Nc d,Cb,N]
   ·split at h
    ·rename_i u k; cases h; exact k
    ·cases h
  ·split at h
   ·rename_i u k; cases h; exact k
   ·cases h
def zi(P:aj)(t:aF)(l c:AV)(H:List aw):Option (Bool × AV × List aw) :=
 match cZ P t,l,c with
 | .slice e sz d,.lit (.int _ l),.lit (.int _ c) =>
  match fF P e with
  | some z=>match rr (Cp P e z) with
   | some ks=>match iK ks (Cp P e z) with
    | some g=>if z.length=sz/\0<sz/\d<=1048576/\ks.length=sz then
      some (cJ l&&(bp l c&&bp c 1048576),.vQ sz H.length 0 0 l.toNat,H++[.vQ ks 0 (cB l.toNat g)]) else none
    |none=>none
   |none=>none
  |none=>none
 |_,_,_=>none
def X1{P:aj}{t:aF}{l c v:AV}{H H':List aw}{b:Bool}(h:zi P t l c H=some (b,v,H'))(hb:b=true) :
  yN P t l c (az H)=some (v,az H'):=by
 unfold zi at h;unfold yN;split at h
 case h_2=>cases h
 rename_i e sz O _ l _ c g;rw[g];simp only[];split at h
 case h_2=>cases h
 rename_i z k;split at h
 case h_2=>cases h
 rename_i ks U;split at h
 case h_2=>cases h
 rename_i V d;split at h
 case isFalse=>cases h
 rename_i q;obtain⟨y,I,M,N⟩:=q;simp only[bf,bo]at h;obtain⟨h1,rfl,rfl⟩:=h;subst hb;simp only[jM,eX,aK,dT]at h1;rw[k];simp only[];rw[iP ⟨y,I,h1.1,h1.2.1,h1.2.2,M⟩,jO,fA,aw.ar,N,List.map_replicate,mE d]
def vV(P:aj)(t:aF)(n:Nat)(parts:List (Nat × AV))(H:List aw):Option (Bool × AV × List aw) :=
 match cZ P t with
 | .slice e _ _=>match fF P e with
  | some z=>match rr (z.map .lit) with
   | some ks=>match vz P t n parts with
    | some (.list sz rZ)=>match bO ks rZ with
     |some d=>if ks.length=sz then some (true,.vQ sz H.length 0 0 d.length,H++[.vQ ks 0 d]) else none
     |none=>none
    |_=>none
   |none=>none
  |none=>none
 |_=>none
def X2{P:aj}{t:aF}{n:Nat}{parts:List (Nat × AV)}{v:AV}{H H':List aw}{b:Bool}(h:vV P t n parts H=some (b,v,H')) :
  yT P t n parts (az H)=some (v,az H'):=by
 unfold vV at h;split at h
 case h_2=>cases h
 split at h
 case h_2=>cases h
 split at h
 case h_2=>cases h
 rename_i ks k;split at h
 case h_2=>cases h
 rename_i sz rZ hb;split at h
 case h_2=>cases h
 rename_i q d;split at h
 case isFalse=>cases h
 rename_i g;cases h;unfold yT;rw[hb];have e:=rq d;simp only[];rw[jO,fA,aw.ar,g,e,<-e,c8]
def Ct.read:Ct->AV->Option LG
 | .one k,a=>match zd k a with
  |some g=>some [g]
  |none=>none
 |.agg ks,.agg cells=>iK ks cells
 |_,_=>none
def Ct.lQ{K:Ct}{a:AV}{r:LG}(h:K.read a=some r):K.av r=a:=by
 unfold Ct.read at h;split at h
 ·split at h
  ·rename_i g d
   cases h;exact Hr d
  ·cases h
 ·simp only[Ct.av,mE h]
 ·cases h
def rA(P:aj)(t:aF):Option (Ct × LG) :=
 match P.info? t with
 | some i=>match i.zero with
  | some (.agg cs)=>match cs.toList.all dZ,rr (cs.toList.map .lit) with
   | true,some ks=>match iK ks (cs.toList.map .lit) with
    |some d=>some (.agg ks,d)
    |none=>none
   |_,_=>none
  | some v=>match ze (.lit v) with
   | some k=>match zd k (.lit v) with
    |some g=>some (.one k,[g])
    |none=>none
   | none=>match ju P t,yM P t with
    |some (.lit (.slice none 0 0)),some ks=>some (.one (.list ks),[.l []])
    |_,_=>none
  |none=>none
 |none=>none
def X3{P:aj}{t:aF}{v:AV}(h:ju P t=some v)(hn:v=.lit (.slice none 0 0)->False):qe P t=some v:=by
 unfold qe;rw[h];split
 ·rename_i e _
  cases e;exact(hn rfl).elim
 ·rename_i e _
  cases e;rfl
 ·rename_i e
  cases e
def Nd{P:aj}{t:aF}{V:Ct}{z:LG}(h:rA P t=some (V,z)):qe P t=some (V.av z):=by
 unfold rA at h;have q:∀ v,ju P t=some v->(v=.lit (.slice none 0 0)->False)->qe P t=some v:=fun v h hn=>X3 h hn;split at h
 case h_2=>cases h
 rename_i i hi;split at h
 ·rename_i cs d
  split at h
  ·rename_i ks h1 y
   split at h
   ·rename_i U N
    cases h;refine q _ ?_ fun e=>by cases e
    unfold ju;rw[hi];simp only[];rw[d];simp only[AV.vh,h1,if_true,Ct.av,mE N]
   ·cases h
  ·cases h
 ·rename_i v M d
  split at h
  ·rename_i k I
   split at h
   ·rename_i g O
    cases h;have e:=Hr O;simp only[Ct.av,u5,e];refine q _ ?_ fun e=>by
     simp only[AV.lit.injEq]at e;subst e;simp[ze]at I
    unfold ju;rw[hi];simp only[];rw[d];simp only[];unfold AV.vh;split
    ·rename_i cs; exact(M cs rfl).elim
    ·simp[ze]at I
    ·rfl
   ·cases h
  ·split at h
   ·rename_i ks h1 y
    cases h;unfold qe;rw[h1,y];rfl
   ·cases h
 ·cases h
def CK:SK->Kd->Bool
 |.int k,.int d=>decide (k=d)
 |.str,.str=>true
 |.bool,.bool=>true
 |_,_=>false
def lR:List SK->List Kd->Bool
 | [],[]=>true
 |a::as,b::d=>CK a b&&lR as d
 |_,_=>false
def ij(P:aj)(d:aF)(K:Ct):Bool :=
 match flatK P p_ d with
 | some g=>lR g K.ks&&(match K with
  |.one _ => !pc (P.underlying d)
  |.agg _=>pc (P.underlying d))
 |none=>false
def rB:Kd->G->ao
 |.int k,g=>.int k g.iV
 |.str,g=>.string g.sV
 |.bool,g=>.bool g.bV
 |.list _,_=>.bool false
def eE:List Kd->LG->List ao
 | [],_=>[]
 |k::ks,r=>rB k (r.headD default)::eE ks r.tail
def Nf:∀{d:List SK} {ks:List Kd} (r:LG),lR d ks=true->p9 (aX ks r)=some (eE ks r)/\dx d (eE ks r)=true
  | [],[],_,_=>⟨rfl,rfl⟩
  | a::as,k::ks,r,h=>by
    simp only[lR,aK]at h;obtain⟨h1,q⟩:=Nf r.tail h.2;have g:=h.1;cases k<;>cases a<;>simp only[CK]at g<;>first
      |(cases g; done)
      | (simp only [aX, kU, p9, h1, eE, rB, dx, q, gX]
         simp_all[kindOk])
  | [],_::_,_,h|_::_,[],_,h=>by simp[lR]at h
def zk:∀{g:List SK} {ks:List Kd} (r s:LG),lR g ks=true->eW (eE ks r) (eE ks s)=bq ks r s
 | [],[],_,_,_=>rfl
 | a::as,k::ks,r,s,h=>by
  simp only[lR,aK]at h;have q:=zk r.tail s.tail h.2;have d:=h.1;simp only[eE,eW,bq,q];cases k<;>cases a<;>simp only[CK]at d<;>first
   |(cases d; done)
   |rfl
 | [],_::_,_,_,h|_::_,[],_,_,h=>by simp[lR]at h
def kD{P:aj}{q:aF}{K:Ct}(h:ij P q K=true)(r:LG):jb P q (K.av r)=some (eE K.ks r):=by
 unfold ij at h;split at h
 case h_2=>cases h
 rename_i I M;simp only[aK]at h;obtain⟨h1,g⟩:=h;obtain⟨v,d⟩:=Nf r h1;unfold jb;rw[M];simp only[];cases K with
 | one k =>
  simp only[sX]at g;simp only[Ct.ks,eE]at d|-;have e:kU k (r.headD default)=.lit (rB k (r.headD default)):=by
   simp only[Ct.ks]at h1;cases I with
   |nil=>simp[lR]at h1
   | cons a as =>
    simp only[lR,aK]at h1;have y:=h1.1;cases k<;>cases a<;>simp only[CK]at y<;>first
     |(cases y; done)
     |rfl
  simp only[Ct.av,e,d,g,and_self,if_true]
 | agg ks =>
  simp only[Ct.av,Ct.ks]at v d|-;simp only[v,d,g,and_self,if_true]
def bW(ks:List Kd)(key:LG):LL->Nat->Option (Nat × LG)
 | [],_=>none
 |r::rs,i=>bif bq ks key (gi r 0).rV then some (i,r) else bW ks key rs (i+1)
def eM(ks:List Kd)(rZ:LL)(key:LG):Bool:=(bW ks key rZ 0).isSome
def dv(ks:List Kd)(rZ:LL)(key z:LG):LG:=match bW ks key rZ 0 with
 |some (_,r)=>(gi r 1).rV
 |none=>z
def eG(ks:List Kd)(rZ:LL)(key val:LG)(d:Nat):LL:=match bW ks key rZ 0 with
 |some (i,r)=>rZ.set i [.l [key],.l [val],.i (gi r 2).iV]
 |none=>rZ++[[.l [key],.l [val],.i d]]
def dL(ks:List Kd)(rZ:LL)(key:LG)(d:Nat):Nat:=bif eM ks rZ key then d else d+1
def Ng(ks:List Kd)(rZ:LL)(key:LG):LL:=match bW ks key rZ 0 with
 |some (i,_)=>rZ.eraseIdx i
 |none=>rZ
def vW{P:aj}{g:aF}{K V:Ct}(h:ij P g K=true)(key:LG):∀(rZ:LL) (i:Nat),fi P g (eE K.ks key) (dQ K V rZ) i =
  some ((bW K.ks key rZ i).map fun p=>(p.1,V.av (gi p.2 1).rV))
 | [],i=>rfl
 | r::rs,i=>by
  have q:=vW (V:=V) h key rs (i+1);have k:∃ d,lR d K.ks=true:=by
   unfold ij at h;split at h
   ·simp only[aK]at h; exact⟨_,h.1⟩
   ·cases h
  obtain⟨d,v⟩:=k;simp only[dQ,dC,fi,kD h,zk _ _ v,bW];cases bq K.ks key (gi r 0).rV with
  |true=>rfl
  |false=>exact q
def qk{ks:List Kd}{key:LG}:∀{rZ:LL} {i j:Nat} {r:LG},bW ks key rZ i=some (j,r)->i<=j/\rZ[j-i]? = some r
 | [],_,_,_,h=>by simp[bW]at h
 | x::rs,i,j,r,h=>by
  simp only[bW]at h;cases d:bq ks key (gi x 0).rV with
  | true =>
   rw[d]at h;cases h;exact⟨aM _,by simp⟩
  | false =>
   rw[d]at h;obtain⟨h1,g⟩:=qk h;refine⟨by omega,?_⟩;rw[show j-i=(j-(i+1))+1 from by omega];simpa using g
def HC(P:aj)(t:aF)(m k:AV)(ok:Bool)(H:List aw):Option (Bool × AV) :=
 match dO P t,m with
 | some (d,g),.map id=>match H[id]? with
  | some (.map K V rZ _)=>match K.read k,rA P g with
   | some key,some (h,z)=>match ij P d K&&V.same h with
    | true=>some (true,match ok with
      |true=>.tuple [V.av (dv K.ks rZ key z),.lit (.bool (eM K.ks rZ key))]
      |false=>V.av (dv K.ks rZ key z))
    |false=>none
   |_,_=>none
  |_=>none
 |_,_=>none
def Nh{P:aj}{t:aF}{m k v:AV}{ok b:Bool}{H:List aw}(h:HC P t m k ok H=some (b,v)):ia P t m k ok (az H)=some v:=by
 unfold HC at h;unfold ia;split at h
 case h_2=>cases h
 rename_i M N id q;rw[q];simp only[];split at h
 case h_2=>cases h
 rename_i K V rZ cl g;rw[bu g];simp only[aw.ar];split at h
 case h_2=>cases h
 rename_i key O z y I;split at h
 case h_2=>cases h
 rename_i d;simp only[aK]at d;have e:=Ct.lP d.2;subst e;rw[<-Ct.lQ y,kD d.1,Nd I];simp only[vW d.1];cases h;unfold dv eM;cases bW K.ks key rZ 0 with
 |none=>cases ok<;>rfl
 |some p=>cases ok<;>rfl
def vX(P:aj)(t:aF)(m k v:AV)(H:List aw):Option (Bool × List aw) :=
 match dO P t,m with
 | some (d,_),.map id=>match H[id]? with
  | some (.map K V rZ cl)=>match K.read k,V.read v with
   | some key,some val=>match ij P d K with
    |true=>some (true,H.set id (.map K V (eG K.ks rZ key val cl) (dL K.ks rZ key cl)))
    |false=>none
   |_,_=>none
  |_=>none
 |_,_=>none
def fj(ks:List Kd)(rZ:LL)(key:LG):LL:=match bW ks key rZ 0 with
 |some (_,r)=>j_ r
 |none=>[]
def eY(ks:List Kd)(rZ:LL)(key:LG):Bool:=match bW ks key rZ 0 with
 |some (_,r)=>(gi r 3).bV
 |none=>true
def gp(ks:List Kd)(rZ:LL)(key:LG):LL:=match bW ks key rZ 0 with
 |some (i,r)=>rZ.set i [gi r 0,gi r 1,gi r 2,.t false]
 |none=>rZ
def oH(ks:List Kd)(rZ:LL)(key:LG)(val:LL)(d:Nat):LL:=match bW ks key rZ 0 with
 |some (i,r)=>rZ.set i [.l [key],.l [[.l val]],.i (gi r 2).iV,.t true]
 |none=>rZ++[[.l [key],.l [[.l val]],.i d,.t true]]
def zl(P:aj)(t:aF)(m k:AV)(H:List aw):Option (Bool × AV × List aw) :=
 match dO P t,m with
 | some (g,d),.map id=>match H[id]? with
  | some (.a7 l K ks rZ cl)=>match K.read k,Cx P d,ju P d with
   | some key,some w',some (.lit (.slice none 0 0))=>match aG w' ks.length&&ij P g K with
    |true=>some (eY K.ks rZ key,.vQ ks.length H.length 0 0 (fj K.ks rZ key).length,H.set id (.a7 l K ks (gp K.ks rZ key) cl)++[.vQ ks 0 (fj K.ks rZ key)])
    |false=>none
   |_,_,_=>none
  |_=>none
 |_,_=>none
def zm(P:aj)(t:aF)(m k v:AV)(H:List aw):Option (Bool × List aw) :=
 match dO P t,m,v with
 | some (q,_),.map id,.vQ w j al oF n=>match H[id]?,H[j]? with
  | some (.a7 l K ks rZ cl),some (.vQ h g d)=>match K.read k with
   | some key=>match ij P q K&&(Kd.gN ks h&&(aG w ks.length&&(aG al g&&aG oF 0))) with
    |true=>some (aG n d.length,(H.set id (.a7 l K ks (oH K.ks rZ key d cl) (dL K.ks rZ key cl))).set j (.raw .dead))
    |false=>none
   |none=>none
  |_,_=>none
 |_,_,_=>none
def ql(ks:List Kd)(rZ:LL)(key:LG)(d:Nat):Nat:=match bW ks key rZ 0 with
 |some (_,r)=>(gi r 2).iV.toNat
 |none=>d
def qm(ks:List Kd)(rZ:LL)(key:LG)(d:Nat):LL:=match bW ks key rZ 0 with
 |some (i,r)=>rZ.set i [.l [key],gi r 1,gi r 2,.t false]
 |none=>rZ++[[.l [key],.l [[.l []]],.i d,.t false]]
def zn(P:aj)(t:aF)(m k:AV)(H:List aw):Option (Bool × AV × List aw) :=
 match dO P t,m with
 | some (g,d),.map id=>match H[id]? with
  | some (.a7 l K ks rZ cl)=>match K.read k,Cx P d,ju P d with
   | some key,some w',some (.lit (.slice none 0 0))=>match aG w' ks.length&&ij P g K with
    | true=>some (eY K.ks rZ key,.tuple [.vQ ks.length H.length 0 0 (fj K.ks rZ key).length,.lit (.int .i64 (ql K.ks rZ key cl:Nat))],
      H.set id (.a7 l K ks (qm K.ks rZ key cl) (dL K.ks rZ key cl))++[.vQ ks 0 (fj K.ks rZ key)])
    |false=>none
   |_,_,_=>none
  |_=>none
 |_,_=>none
def gO(st:Int):LL->Nat->Option (Nat × LG)
 | [],_=>none
 |r::rs,i=>bif ((gi r 2).iV.toNat:Int)==st then some (i,r) else gO st rs (i+1)
def vY(rZ:LL)(st:Int)(val:LL):LL:=match gO st rZ 0 with
 |some (i,r)=>rZ.set i [gi r 0,.l [[.l val]],gi r 2,.t true]
 |none=>rZ
def vZ(rZ:LL)(st:Int):Bool:=(gO st rZ 0).isSome
def zo(m s v:AV)(H:List aw):Option (Bool × List aw) :=
 match m,s,v with
 | .map id,.lit (.int .i64 st),.vQ w j al oF n=>match H[id]?,H[j]? with
  | some (.a7 l K ks rZ cl),some (.vQ h g d)=>match Kd.gN ks h&&(aG w ks.length&&(aG al g&&aG oF 0)) with
   |true=>some (vZ rZ st&&aG n d.length,(H.set id (.a7 l K ks (vY rZ st d) cl)).set j (.raw .dead))
   |false=>none
  |_,_=>none
 |_,_,_=>none
def mF(ks:List Kd)(rZ:LL)(key:LG)(s:Nat):LL:=match bW ks key rZ 0 with
 |some (_,r)=>mD r s
 |none=>[]
def tO(ks:List Kd)(rZ:LL)(key:LG)(d g:LL)(h:Nat):LL:=match bW ks key rZ 0 with
 |some (i,r)=>rZ.set i [.l [key],.l [[.l d,.l g]],.i (gi r 2).iV,.t true]
 |none=>rZ++[[.l [key],.l [[.l d,.l g]],.i h,.t true]]
def zp(P:aj)(t:aF)(m k:AV)(H:List aw):Option (Bool × AV × List aw) :=
 match dO P t,m with
 | some (d,g),.map id=>match H[id]? with
  | some (.bJ l K ks rZ cl)=>match K.read k,ju P g with
   | some key,some (.agg [.lit (.slice none 0 0),.lit (.slice none 0 0)])=>match ij P d K with
    | true=>some (eY K.ks rZ key,.agg [.vQ ks.length H.length 0 0 (mF K.ks rZ key 0).length,.vQ ks.length (H.length+1) 0 0 (mF K.ks rZ key 1).length],
      H.set id (.bJ l K ks (gp K.ks rZ key) cl)++[.vQ ks 0 (mF K.ks rZ key 0),.vQ ks 0 (mF K.ks rZ key 1)])
    |false=>none
   |_,_=>none
  |_=>none
 |_,_=>none
def zq(P:aj)(t:aF)(m k v:AV)(H:List aw):Option (Bool × List aw) :=
 match dO P t,m,v with
 | some (M,_),.map id,.agg [.vQ N d O o0 U,.vQ V g W o1 n1]=>match H[id]?,H[d]?,H[g]? with
  | some (.bJ l K ks rZ cl),some (.vQ h q r0),some (.vQ y I r1)=>match K.read k with
   | some key=>match ij P M K&&((Kd.gN ks h&&(aG N ks.length&&(aG O q&&aG o0 0)))&&((Kd.gN ks y&&(aG V ks.length&&(aG W I&&aG o1 0))) && !aG d g)) with
    |true=>some (aG U r0.length&&aG n1 r1.length,((H.set id (.bJ l K ks (tO K.ks rZ key r0 r1 cl) (dL K.ks rZ key cl))).set d (.raw .dead)).set g (.raw .dead))
    |false=>none
   |none=>none
  |_,_,_=>none
 |_,_,_=>none
def HD{P:aj}{g:aF}{K:Ct}{ks:List Kd}(h:ij P g K=true)(key:LG):∀(rZ:LL) (i:Nat),fi P g (eE K.ks key) (fZ (lO K ks rZ)) i =
  some ((bW K.ks key rZ i).map fun p=>(p.1,.undef))
 | [],i=>rfl
 | r::rs,i=>by
  have q:=HD (ks:=ks) h key rs (i+1);have k:∃ d,lR d K.ks=true:=by
   unfold ij at h;split at h
   ·simp only[aK]at h; exact⟨_,h.1⟩
   ·cases h
  obtain⟨d,v⟩:=k;simp only[lO,fZ,dC,fi,oG,kD h,zk _ _ v,bW];cases bq K.ks key (gi r 0).rV with
  |true=>rfl
  |false=>exact q
def CL{K:Ct}{ks:List Kd}{rZ:LL}{i:Nat}{r:LG}(h:rZ[i]? = some r):(lO K ks rZ)[i]? = some (oG K ks r):=by
 unfold lO;rw[bY,h];rfl
def Ni(K:Ct)(ks:List Kd)(rZ:LL)(i:Nat)(r:LG):lO K ks (rZ.set i r)=(lO K ks rZ).set i (oG K ks r):=by
 simp[lO,s8]
def X5{α:Type}{l:List α}{i:Nat}{x:α}(h:l[i]? = some x):l.set i x=l:=by
 apply jG;intro j;rw[eC];split
 ·rename_i e
  subst e;rw[iP (aY h),h]
 ·rfl
def X6{P:aj}{t:aF}{m k v:AV}{b:Bool}{H H':List aw}(h:zp P t m k H=some (b,v,H'))(hb:b=true) :
  yY P t m k (az H)=some (v,az H')/\tu P t m k (az H)=none/\ia P t m k false (az H)=none:=by
 unfold zp at h;unfold yY tu ia;split at h
 case h_2=>cases h
 rename_i kt et id V;rw[V];simp only[];split at h
 case h_2=>cases h
 rename_i l K ks rZ cl O;have g:=bu O;rw[g];simp only[aw.ar]at g|-;split at h
 case h_2=>cases h
 rename_i key W hz;split at h
 case h_2=>cases h
 rename_i I;simp only[bf,bo]at h;obtain⟨d,rfl,rfl⟩:=h;rw[hb]at d;rw[<-Ct.lQ W,kD I,hz];simp only[HD I,and_true];unfold eY at d;unfold mF gp;have q:∀(L:List aw) (x y:aw),az (L++[x,y])=az L++[x.ar]++[y.ar]:=fun L x y=>by simp[az]
 cases M:bW K.ks key rZ 0 with
 | none =>
  simp only[u4,q,cQ,aw.ar,fA,km,u6];rw[X5 g]
 | some p =>
  obtain⟨i,r⟩:=p;rw[M]at d;simp only[]at d;obtain⟨_,N⟩:=qk M;rw[fD]at N;have U:(lO K ks rZ)[i]? = some (K.av (gi r 0).rV,(some ((mD r 0).map (aX ks)),some ((mD r 1).map (aX ks))),(gi r 2).iV.toNat):=by
   rw[CL N];simp only[oG,d,cT]
  simp only[ff,U,q,cQ,aw.ar,fA,c8,Ni];rfl
def X7{P:aj}{t:aF}{m k v:AV}{b:Bool}{H H':List aw}(h:zq P t m k v H=some (b,H'))(hb:b=true) :
  yZ P t m k v (az H)=some (az H')/\np P t m k v (az H)=none/\qf P t m k v (az H)=none/\tx P t m k v (az H)=none:=by
 unfold zq at h;unfold yZ qf np tx;split at h
 case h_2=>cases h
 rename_i kt et id w0 j0 v0 o0 n0 w1 g v1 o1 n1 ht;rw[ht];simp only[];split at h
 case h_2=>cases h
 rename_i l K ks rZ cl ks0 v0' r0 ks1 v1' r1 hid hj0 hj1;rw[bu hid,bu hj0,bu hj1];simp only[aw.ar];split at h
 case h_2=>cases h
 rename_i key hk;split at h
 case h_2=>cases h
 rename_i hc;simp only[aK,sX]at hc;obtain⟨W,⟨a1,y,I,M⟩,⟨b1,N,O,U⟩,d⟩:=hc;have e1:=Kd.je a1;have e2:=Kd.je b1;subst e1;subst e2;have y:=bz y;have I:=bz I;have M:=bz M;have N:=bz N;have O:=bz O;have U:=bz U;have d:j0≠g:=fun e=>by rw[e,show aG g g=true from i_ g]at d; cases d
 simp only[bf,bo]at h;obtain⟨q,rfl⟩:=h;rw[hb]at q;simp only[aK]at q;have p0:=bz q.1;have p1:=bz q.2;rw[<-Ct.lQ hk,kD W];simp only[];rw[iP ⟨⟨⟨y,trivial⟩,N,trivial⟩,⟨⟨I,O⟩,M,U⟩,⟨by simpa using p0,by simpa using p1⟩,d,Ct.tK _ _⟩];simp only[HD W,and_true];unfold tO dL eM;cases hf:bW K.ks key rZ 0 with
 | none =>
  simp only[u4,cQ,aw.ar,FY,cF];simp[lO,oG,mD,gi,G.rV,G.rZ,G.iV,G.bV]
 | some p =>
  obtain⟨i,r⟩:=p;obtain⟨_,V⟩:=qk hf;rw[fD]at V;have hm:(lO K ks rZ).modify i (fun e=>(K.av key,(some (r0.map (aX ks)),some (r1.map (aX ks))),e.2.2))=(lO K ks rZ).set i (K.av key,(some (r0.map (aX ks)),some (r1.map (aX ks))),(gi r 2).iV.toNat):=by
   apply jG;intro j;rw[iH,eC];by_cases e:i=j
   ·subst e
    rw[iP rfl,iP (aY (CL V)),CL V];simp[oG]
   ·rw [iN e]
    simp[e]
  simp only[ff,hm,cQ,aw.ar,Ni,F2,cT];simp[oG,mD,gi,G.rV,G.rZ,G.iV,G.bV]
def CM(K:Ct)(ks:List Kd)(r:LG):(hZ (jN K ks r).1).1=K.av (gi r 0).rV:=by
 unfold jN;cases (gi r 4).bV && !(gi r 3).bV with
 |true=>rfl
 | false =>
  cases K with
  |one k=>cases k<;>rfl
  |agg ks=>rfl
def X8(K:Ct)(g:LG):plainKey (K.av g)=true:=by
 cases K with
 |one k=>cases k<;>rfl
 |agg ks=>rfl
def CN{P:aj}{g:aF}{K:Ct}{ks:List Kd}(h:ij P g K=true)(key:LG):∀(rZ:LL) (i:Nat),fi P g (eE K.ks key) (dj (gD K ks rZ)) i =
  some ((bW K.ks key rZ i).map fun p=>(p.1,(hZ (jN K ks p.2).1).2))
 | [],i=>rfl
 | r::rs,i=>by
  have q:=CN (ks:=ks) h key rs (i+1);have k:∃ d,lR d K.ks=true:=by
   unfold ij at h;split at h
   ·simp only[aK]at h; exact⟨_,h.1⟩
   ·cases h
  obtain⟨d,v⟩:=k;simp only[gD,dj,dC,fi,CM,kD h,zk _ _ v,bW];cases bq K.ks key (gi r 0).rV with
  |true=>rfl
  |false=>exact q
def v_{K:Ct}{ks:List Kd}{rZ:LL}{i:Nat}{r:LG}(h:rZ[i]? = some r):(gD K ks rZ)[i]? = some (jN K ks r):=by
 unfold gD;rw[bY,h];rfl
def CO(K:Ct)(ks:List Kd)(rZ:LL)(i:Nat)(r:LG):gD K ks (rZ.set i r)=(gD K ks rZ).set i (jN K ks r):=by
 simp[gD,s8]
def X9{P:aj}{t:aF}{m k v:AV}{b:Bool}{H H':List aw}(h:zl P t m k H=some (b,v,H'))(hb:b=true):tu P t m k (az H)=some (v,az H')/\ia P t m k false (az H)=none:=by
 unfold zl at h;unfold tu ia;split at h
 case h_2=>cases h
 rename_i kt et id U;rw[U];simp only[];split at h
 case h_2=>cases h
 rename_i l K ks rZ cl N;rw[bu N];simp only[aw.ar];split at h
 case h_2=>cases h
 rename_i key w' V W hz;split at h
 case h_2=>cases h
 rename_i y;simp only[aK]at y;obtain⟨g,q⟩:=y;have e:=bz g;simp only[bf,bo]at h;obtain⟨d,rfl,rfl⟩:=h;rw[hb]at d;rw[<-Ct.lQ V,kD q,W,hz];simp only[g,CN q,and_true];unfold eY at d;unfold fj gp;cases I:bW K.ks key rZ 0 with
 | none =>
  simp only[u4,jO,cQ,aw.ar,fA,km,u6]
 | some p =>
  obtain⟨i,r⟩:=p;rw[I]at d;simp only[]at d;obtain⟨_,M⟩:=qk I;rw[fD]at M;have O:ra (gD K ks rZ) i=some (K.av (gi r 0).rV,(j_ r).map (aX ks),(gi r 2).iV.toNat):=by
   unfold ra;rw[v_ M];simp only[jN,d,cT,yp,yv,cF]
  simp only[ff,O,jO,cQ,aw.ar,fA,c8,CO];rfl
def X_{P:aj}{t:aF}{m k v:AV}{b:Bool}{H H':List aw}(h:zm P t m k v H=some (b,H'))(hb:b=true):qf P t m k v (az H)=some (az H')/\np P t m k v (az H)=none:=by
 unfold zm at h;unfold qf np;split at h
 case h_2=>cases h
 rename_i kt et id w j al oF n V;rw[V];simp only[];split at h
 case h_2=>cases h
 rename_i l K ks rZ cl ks2 ver' rws I W;rw[bu I,bu W];simp only[aw.ar];split at h
 case h_2=>cases h
 rename_i key hk;split at h
 case h_2=>cases h
 rename_i q;simp only[aK]at q;obtain⟨g,M,N,O,U⟩:=q;have e2:=Kd.je M;subst e2;have e3:=bz N;have e4:=bz O;have e5:=bz U;subst e3 e4 e5;simp only[bf,bo]at h;obtain⟨d,rfl⟩:=h;rw[hb]at d;have d:=bz d;subst d;rw[<-Ct.lQ hk,kD g];simp only[Ct.tK,c8,and_self,if_true,CN g,and_true];unfold oH dL eM;cases hf:bW K.ks key rZ 0 with
 | none =>
  simp only[u4,cQ,aw.ar,FY,cF];simp[gD,jN,j_,gi,G.rV,G.rZ,G.iV,G.bV]
 | some p =>
  obtain⟨i,r⟩:=p;obtain⟨_,y⟩:=qk hf;rw[fD]at y;simp only[ff,GX (v_ y),cQ,aw.ar,CO,F2,cT];simp[jN,j_,gi,G.rV,G.rZ,G.iV,G.bV]
def Ya{P:aj}{t:aF}{m k v:AV}{b:Bool}{H H':List aw}(h:zn P t m k H=some (b,v,H'))(hb:b=true):kz P t m k (az H)=some (v,az H'):=by
 unfold zn at h;unfold kz;split at h
 case h_2=>cases h
 rename_i kt et id U;rw[U];simp only[];split at h
 case h_2=>cases h
 rename_i l K ks rZ cl M;rw[bu M];simp only[aw.ar];split at h
 case h_2=>cases h
 rename_i key w' V W hz;split at h
 case h_2=>cases h
 rename_i q;simp only[aK]at q;obtain⟨N,g⟩:=q;simp only[bf,bo]at h;obtain⟨d,rfl,rfl⟩:=h;rw[hb]at d;rw[<-Ct.lQ V,kD g,W,hz];simp only[N,Ct.tK,Bool.and_self,CN g];unfold eY at d;unfold fj qm ql dL eM;cases y:bW K.ks key rZ 0 with
 | none =>
  simp only[u4,jO,cQ,aw.ar,fA,km,u6,FY,cF,goInt];simp[gD,jN,j_,gi,G.rV,G.rZ,G.iV,G.bV]
 | some p =>
  obtain⟨i,r⟩:=p;rw[y]at d;simp only[]at d;obtain⟨_,I⟩:=qk y;rw[fD]at I;have O:ra (gD K ks rZ) i=some (K.av (gi r 0).rV,(j_ r).map (aX ks),(gi r 2).iV.toNat):=by
   unfold ra;rw[v_ I];simp only[jN,d,cT,yp,yv,cF]
  simp only[ff,O,jO,cQ,aw.ar,fA,c8,CO,F2,cT,goInt];rfl
def HF{st:Int}:∀{rZ:LL} {i j:Nat} {r:LG},gO st rZ i=some (j,r)->i<=j/\rZ[j-i]? = some r
 | [],_,_,_,h=>by simp[gO]at h
 | x::rs,i,j,r,h=>by
  simp only[gO]at h;cases d:((gi x 2).iV.toNat:Int)==st with
  | true =>
   rw[d]at h;cases h;simp
  | false =>
   rw[d]at h;obtain⟨h1,g⟩:=HF h;refine⟨by omega,?_⟩;rw[show j-i=(j-(i+1))+1 from by omega];simpa using g
def Nj{K:Ct}{ks:List Kd}{st:Int}:∀{rZ:LL} {i:Nat},(gO st rZ i).map (·.1)=(tv (gD K ks rZ) st).map (·+i)
 | [],_=>rfl
 | x::rs,i=>by
  have d:=Nj (K:=K) (ks:=ks) (st:=st) (rZ:=rs) (i:=i+1);unfold tv at d|-;simp only[gO,gD,dC,KU,jN]at d|-;cases g:((gi x 2).iV.toNat:Int)==st with
  |true=>simp
  | false =>
   simp only[cF,d,lz,if_false,K3];congr 1
   funext n
   simp only[F3];omega
def Yb{m s v:AV}{b:Bool}{H H':List aw}(h:zo m s v H=some (b,H'))(hb:b=true):nq m s v (az H)=some (az H'):=by
 unfold zo at h;unfold nq;split at h
 case h_2=>cases h
 rename_i id st w j al oF n;split at h
 case h_2=>cases h
 rename_i l K ks rZ cl ks2 ver' rws U hj;simp only[];rw[bu U,bu hj];simp only[aw.ar];split at h
 case h_2=>cases h
 rename_i M;simp only[aK]at M;obtain⟨V,W,hc4,hc5⟩:=M;have e2:=Kd.je V;subst e2;have e3:=bz W;have e4:=bz hc4;have e5:=bz hc5;subst e3 e4 e5;simp only[bf,bo]at h;obtain⟨q,rfl⟩:=h;rw[hb]at q;simp only[aK]at q;obtain⟨d,g⟩:=q;have g:=bz g;subst g;simp only[c8,and_self,if_true];unfold vZ at d;unfold vY;cases I:gO st rZ 0 with
 |none=>rw[I]at d; cases d
 | some p =>
  obtain⟨i,r⟩:=p;obtain⟨_,N⟩:=HF I;rw[fD]at N;have hi:tv (gD K ks rZ) st=some i:=by
   have:=Nj (K:=K) (ks:=ks) (st:=st) (rZ:=rZ) (i:=0);rw[I]at this;cases O:tv (gD K ks rZ) st with
   |none=>rw[O]at this; cases this
   |some y=>rw[O]at this; simp at this; rw[this]
  rw[hi];obtain⟨k0,o0,ek,ek2⟩:∃ k o,jN K ks r=(k,o,(gi r 2).iV.toNat)/\(hZ k).1=K.av (gi r 0).rV:=⟨_,_,rfl,CM K ks r⟩
  simp only[v_ N,ek,ek2,X8,cQ,aw.ar,CO];simp[jN,j_,gi,G.rV,G.rZ,G.bV]
def Nk(K V:Ct)(rZ:LL)(i:Nat)(r:LG):dQ K V (rZ.set i r)=(dQ K V rZ).set i (K.av (gi r 0).rV,V.av (gi r 1).rV,(gi r 2).iV.toNat):=by
 simp[dQ,s8]
def Nl{α:Type}{l:List α}{i:Nat}{x:α}(f:α->α)(h:l[i]? = some x):l.modify i f=l.set i (f x):=by
 apply jG;intro j;rw[iH,eC];by_cases e:i=j
 ·subst e
  rw[iP rfl,iP (aY h),h];simp
 ·rw [iN e]
  simp[e]
def Nn{P:aj}{t:aF}{m k v:AV}{b:Bool}{H H':List aw}(h:vX P t m k v H=some (b,H')):np P t m k v (az H)=some (az H'):=by
 unfold vX at h;unfold np;split at h
 case h_2=>cases h
 rename_i U W id I;rw[I];simp only[];split at h
 case h_2=>cases h
 rename_i K V rZ cl q;rw[bu q];simp only[aw.ar];split at h
 case h_2=>cases h
 rename_i key val M N;split at h
 case h_2=>cases h
 rename_i d;cases h;rw[<-Ct.lQ M,<-Ct.lQ N,kD d];simp only[Ct.tK,and_self,if_true,vW d,cQ,aw.ar];unfold eG dL eM;cases O:bW K.ks key rZ 0 with
 |none=>simp[dQ,gi,G.rV,G.rZ,G.iV]
 | some p =>
  obtain⟨_,g⟩:=qk (r:=p.2) (j:=p.1) O;rw[fD]at g;have y:(dQ K V rZ)[p.1]? = some (K.av (gi p.2 0).rV,V.av (gi p.2 1).rV,(gi p.2 2).iV.toNat):=by simp[dQ,g]
  simp only[ff,Nl _ y,Nk,F2,cT];simp[gi,G.rV,G.rZ,G.iV]
def zt(P:aj)(t:aF)(m k:AV)(H:List aw):Option (Bool × List aw) :=
 match dO P t,m with
 | some (d,_),.map id=>match H[id]? with
  | some (.map K V rZ cl)=>match K.read k,ij P d K with
   |some key,true=>some (true,H.set id (.map K V (Ng K.ks rZ key) cl))
   |_,_=>none
  |_=>none
 |_,_=>none
def No{α β:Type}(f:α->β):∀(l:List α) (i:Nat),(l.map f).eraseIdx i=(l.eraseIdx i).map f
 | [],_=>by simp
 |_::_,0=>by simp
 |_::l,i+1=>by simp[No f l i]
def Yc{P:aj}{t:aF}{m k:AV}{b:Bool}{H H':List aw}(h:zt P t m k H=some (b,H')):yR P t m k (az H)=some (az H'):=by
 unfold zt at h;unfold yR;split at h
 case h_2=>cases h
 rename_i y I id q;rw[q];simp only[];split at h
 case h_2=>cases h
 rename_i K V rZ cl g;rw[bu g];simp only[aw.ar];split at h
 case h_2=>cases h
 rename_i key v d;cases h;rw[<-Ct.lQ v,kD d];simp only[vW d,cQ,aw.ar];unfold Ng;cases M:bW K.ks key rZ 0 with
 |none=>rfl
 |some p=>simp only[ff,dQ,No]
def zu(P:aj)(t:aF)(x:AV)(H:List aw):Option (Bool × List aw) :=
 match cZ P t,x with
 | .slice e sz _,.vQ w id al oF n=>match fF P e,H[id]? with
  | some z,some (.vQ ks v rZ)=>match iK ks (z.map .lit) with
   | some d=>if ks.length=w/\w=sz/\v=al/\z.length=sz/\0<sz then
     some (dS (oF+n) rZ.length,H.set id (.vQ ks v (rZ.take oF++cB n d++rZ.drop (oF+n)))) else none
   |none=>none
  |_,_=>none
 |_,_=>none
def Yd{P:aj}{t:aF}{x:AV}{b:Bool}{H H':List aw}(h:zu P t x H=some (b,H'))(hb:b=true):yS P t x (az H)=some (az H'):=by
 unfold zu at h;unfold yS;split at h
 case h_2=>cases h
 rename_i e sz N w id al oF n q;rw[q];simp only[];split at h
 case h_2=>cases h
 rename_i z ks v rZ y g;rw[y,bu g];simp only[aw.ar];split at h
 case h_2=>cases h
 rename_i O k;split at h
 case isFalse=>cases h
 rename_i I;obtain⟨rfl,rfl,rfl,h1,M⟩:=I;simp only[bf,bo]at h;obtain⟨d,rfl⟩:=h;subst hb;have d:=BR d;simp only[h1,M,c8,d,and_self,if_true,cQ,aw.ar,bf];rw[<-mE k];simp[List.map_take,List.map_drop]
def wa(P:aj)(t xt:aF)(s x:AV)(H:List aw):Option (Bool × AV × List aw) :=
 match cZ P t,cZ P xt,s,x with
 | .slice e sz d,.int _,.lit (.slice none 0 0),.lit (.int _ n)=>match fF P e with
  | some z=>match rr (z.map .lit) with
   | some ks=>match iK ks (z.map .lit) with
    | some g=>if z.length=sz/\0<sz/\d<=1048576/\ks.length=sz then
      some (aO 0 n&&bp n 1048576,.vQ sz H.length 0 0 n.toNat,H++[.vQ ks 0 (cB n.toNat g)]) else none
    |none=>none
   |none=>none
  |none=>none
 |_,_,_,_=>none
def Ye{P:aj}{t xt:aF}{s x v:AV}{b:Bool}{H H':List aw}(h:wa P t xt s x H=some (b,v,H'))(hb:b=true):tq P t xt s x (az H)=some (v,az H'):=by
 unfold wa at h;unfold tq;split at h
 case h_2=>cases h
 rename_i e sz V k k' n y g;rw[y,g];simp only[];split at h
 case h_2=>cases h
 rename_i z I;rw[I];simp only[];split at h
 case h_2=>cases h
 rename_i ks W;split at h
 case h_2=>cases h
 rename_i zr q;split at h
 case isFalse=>cases h
 rename_i M;obtain⟨h1,N,O,U⟩:=M;simp only[bf,bo]at h;obtain⟨d,rfl,rfl⟩:=h;subst hb;simp only[cK,eX,aK,dT]at d;simp only[h1,N,O,d.1,d.2,and_self,if_true,jO,aw.ar,fA,U,bf,bo,true_and];rw[<-mE q];simp
def nC(ks:List Kd)(rZ:LL)(key:LG):Option Nat:=match bW ks key rZ 0 with
 |some (_,r)=>tL r
 |none=>none
def oI(mem:LL):Option Nat->Bool
 |some i=>dq i mem.length
 |none=>false
def lh(mem:LL):Option Nat->LG
 |some i=>mem.getD i []
 |none=>[]
def wb(mem:LL)(j:Option Nat)(ks:List Kd)(key val:LG):LL:=match j with
 |some i=>mem.set i [.l (eG ks (gi (lh mem j) 0).rZ key val (gi (lh mem j) 1).iV.toNat),.i (dL ks (gi (lh mem j) 0).rZ key (gi (lh mem j) 1).iV.toNat:Nat)]
 |none=>mem
def we(rZ:LL)(st:Int):Bool:=match gO st rZ 0 with
 |some (_,r) => !bp 0 (gi r 1).iV
 |none=>false
def wg(rZ:LL)(st:Int)(n:Nat):LL:=match gO st rZ 0 with
 |some (i,r)=>rZ.set i [gi r 0,.i n,gi r 2]
 |none=>rZ
def HG{P:aj}{g:aF}{K:Ct}(h:ij P g K=true)(key:LG):∀(rZ:LL) (i:Nat),fi P g (eE K.ks key) (h_ (kB K rZ)) i =
  some ((bW K.ks key rZ i).map fun p=>(p.1,AV.undef))
 | [],i=>rfl
 | r::rs,i=>by
  have q:=HG h key rs (i+1);have k:∃ d,lR d K.ks=true:=by
   unfold ij at h;split at h
   ·simp only[aK]at h; exact⟨_,h.1⟩
   ·cases h
  obtain⟨d,v⟩:=k;simp only[kB,h_,dC,fi,kD h,zk _ _ v,bW];cases bq K.ks key (gi r 0).rV with
  |true=>rfl
  |false=>exact q
def Np{K:Ct}{rZ:LL}{i:Nat}{r:LG}(h:rZ[i]? = some r):(kB K rZ)[i]? = some (K.av (gi r 0).rV,tL r,(gi r 2).iV.toNat):=by
 unfold kB;rw[bY,h];rfl
def Nq{d g:Ct}{mem:LL}{i:Nat}(h:i<mem.length):(rk d g mem)[i]? = some (dQ d g (gi (mem.getD i []) 0).rZ,(gi (mem.getD i []) 1).iV.toNat):=by
 unfold rk;rw[bY,cd,bZ h];rfl
def HH(P:aj)(t:aF)(m k:AV)(ok:Bool)(H:List aw):Option (Bool × AV) :=
 match dO P t,m with
 | some (g,h),.sub id l j=>match H[id]? with
  | some (.mm l' _ d q _ mem _)=>match d.read k,rA P h with
   | some key,some (v,z)=>match aG l l'&&(ij P g d&&q.same v) with
    | true=>some (oI mem j,match ok with
      |true=>.tuple [q.av (dv d.ks (gi (lh mem j) 0).rZ key z),.lit (.bool (eM d.ks (gi (lh mem j) 0).rZ key))]
      |false=>q.av (dv d.ks (gi (lh mem j) 0).rZ key z))
    |false=>none
   |_,_=>none
  |_=>none
 | some (g,h),.map id=>match H[id]?,ok with
  | some (.mm l K _ _ rZ _ _),false=>match K.read k,ju P h with
   | some key,some (.lit (.map none))=>match ij P g K with
    |true=>some (true,.sub id l (nC K.ks rZ key))
    |false=>none
   |_,_=>none
  |_,_=>none
 |_,_=>none
def Yf{P:aj}{t:aF}{m k v:AV}{ok b:Bool}{H:List aw}(h:HH P t m k ok H=some (b,v))(hb:b=true):ia P t m k ok (az H)=none/\mz P t m k ok (az H)=some v:=by
 unfold HH at h;unfold mz ia;split at h
 ·rename_i U V id l j g
  rw[g];refine⟨rfl,?_⟩;split at h
  case h_2=>cases h
  rename_i l' K M W rZ mem cl q;split at h
  case h_2=>cases h
  rename_i key V' z y I;split at h
  case h_2=>cases h
  rename_i d;simp only[aK]at d;obtain⟨hl,d,hs⟩:=d;have e:=Ct.lP hs;subst e;simp only[bf,bo]at h;obtain⟨hi,rfl⟩:=h;rw[hb]at hi;cases j with
  |none=>cases hi
  | some i =>
   have O:i<mem.length:=by simpa[oI]using hi
   simp only[vF,g];rw[bu q];simp only[aw.ar,hl,Nq O,lh];rw[<-Ct.lQ y,kD d,Nd I];simp only[vW d];unfold dv eM;cases bW M.ks key (gi (mem.getD i []) 0).rZ 0 with
   |none=>cases ok<;>rfl
   |some p=>cases ok<;>rfl
 ·rename_i U V id g
  rw[g];split at h
  case h_2=>cases h
  rename_i l K M W rZ mem cl q;split at h
  case h_2=>cases h
  rename_i key y I;split at h
  case h_2=>cases h
  rename_i d;simp only[tw,g];rw[bu q];simp only[aw.ar];refine⟨trivial,?_⟩;rw[<-Ct.lQ y,kD d,I];simp only[HG d];cases h;unfold nC;cases hf:bW K.ks key rZ 0 with
  |none=>rfl
  | some p =>
   obtain⟨i,r⟩:=p;obtain⟨_,N⟩:=qk hf;rw[fD]at N;simp only[ff,Np N]
 ·cases h
def zw(P:aj)(t:aF)(m k v:AV)(H:List aw):Option (Bool × List aw) :=
 match dO P t,m with
 | some (h,_),.sub id l j=>match H[id]? with
  | some (.mm l' K d g rZ mem cl)=>match d.read k,g.read v with
   | some key,some val=>match aG l l'&&ij P h d with
    |true=>some (oI mem j,H.set id (.mm l' K d g rZ (wb mem j d.ks key val) cl))
    |false=>none
   |_,_=>none
  |_=>none
 |_,_=>none
def Yg(d g:Ct)(mem:LL)(i:Nat)(r:LG):rk d g (mem.set i r)=(rk d g mem).set i (dQ d g (gi r 0).rZ,(gi r 1).iV.toNat):=by
 simp[rk,s8]
def Yh(K:Ct)(rZ:LL)(i:Nat)(r:LG):kB K (rZ.set i r)=(kB K rZ).set i (K.av (gi r 0).rV,tL r,(gi r 2).iV.toNat):=by
 simp[kB,s8]
def Yi{P:aj}{t:aF}{m k v:AV}{b:Bool}{H H':List aw}(h:zw P t m k v H=some (b,H'))(hb:b=true) :
  tx P t m k v (az H)=some (az H')/\np P t m k v (az H)=none/\qf P t m k v (az H)=none:=by
 unfold zw at h;unfold tx np qf;split at h
 case h_2=>cases h
 rename_i kt et id l j ht;rw[ht];refine⟨?_,rfl,rfl⟩;split at h
 case h_2=>cases h
 rename_i l' K d q rZ mem cl U;split at h
 case h_2=>cases h
 rename_i key val hk hv;split at h
 case h_2=>cases h
 rename_i y;simp only[aK]at y;obtain⟨I,y⟩:=y;have e:=bz I;subst e;simp only[bf,bo]at h;obtain⟨hi,rfl⟩:=h;rw[hb]at hi;cases j with
 |none=>cases hi
 | some i =>
  have V:i<mem.length:=by simpa[oI]using hi
  simp only[];rw[bu U];simp only[aw.ar,Nq V,I];rw[<-Ct.lQ hk,<-Ct.lQ hv,kD y];simp only[Ct.tK,and_self,if_true,vW y,cQ,aw.ar,wb,lh,Yg];generalize mem.getD i []=g;have M:∀(X:LL) (n:Nat),(gi [G.l X,G.i n] 0).rZ=X:=fun _ _=>rfl;have N:∀(X:LL) (n:Nat),(gi [G.l X,G.i n] 1).iV.toNat=n:=fun _ _=>rfl;unfold eG dL eM;cases hf:bW d.ks key (gi g 0).rZ 0 with
  | none =>
   simp only[u4,FY,cF,M,N];rw[show dQ d q ((gi g 0).rZ++[[.l [key],.l [val],.i (gi g 1).iV.toNat]])=dQ d q (gi g 0).rZ++[(d.av key,q.av val,(gi g 1).iV.toNat)] from by
    simp only[dQ,jY,dC,u6];rfl]
  | some p =>
   obtain⟨_,O⟩:=qk (r:=p.2) (j:=p.1) hf;rw[fD]at O;have W:(dQ d q (gi g 0).rZ)[p.1]? = some (d.av (gi p.2 0).rV,q.av (gi p.2 1).rV,(gi p.2 2).iV.toNat):=by simp[dQ,O]
   simp only[ff,Nl _ W,F2,cT,M,N,Nk];rfl
def zx(P:aj)(t:aF)(m k:AV)(H:List aw):Option (Bool × AV × List aw) :=
 match dO P t,m with
 | some (d,g),.map id=>match H[id]? with
  | some (.mm l K h q rZ mem cl)=>match K.read k,ju P g with
   | some key,some (.lit (.map none))=>match ij P d K with
    |true=>some (!eM K.ks rZ key,.tuple [.sub id l none,.lit (.int .i64 (cl:Nat))],H.set id (.mm l K h q (rZ++[[.l [key],.i (-1),.i cl]]) mem (cl+1)))
    |false=>none
   |_,_=>none
  |_=>none
 |_,_=>none
def Yj{P:aj}{t:aF}{m k v:AV}{b:Bool}{H H':List aw}(h:zx P t m k H=some (b,v,H'))(hb:b=true) :
  lN P t m k (az H)=some (v,az H')/\kz P t m k (az H)=none:=by
 unfold zx at h;unfold lN kz;split at h
 case h_2=>cases h
 rename_i O U id y;rw[y];split at h
 case h_2=>cases h
 rename_i l K V W rZ mem cl q;simp only[];rw[bu q];simp only[aw.ar];split at h
 case h_2=>cases h
 rename_i key I M;split at h
 case h_2=>cases h
 rename_i g;simp only[bf,bo]at h;obtain⟨d,rfl,rfl⟩:=h;rw[hb]at d;rw[<-Ct.lQ I,kD g,M];simp only[Ct.tK,HG g,and_true];unfold eM at d;cases N:bW K.ks key rZ 0 with
 |some p=>rw[N]at d; cases d
 | none =>
  simp only[u4,cQ,aw.ar];rw[show kB K (rZ++[[.l [key],.i (-1),.i cl]])=kB K rZ++[(K.av key,none,cl)] from by
   simp only[kB,jY,dC,u6];rfl]
  rfl
def Nr{K:Ct}{st:Int}:∀{rZ:LL} {i:Nat},(gO st rZ i).map (·.1)=(tz (kB K rZ) st).map (·+i)
 | [],_=>rfl
 | x::rs,i=>by
  have d:=Nr (K:=K) (st:=st) (rZ:=rs) (i:=i+1);unfold tz at d|-;simp only[gO,kB,dC,KU]at d|-;cases g:((gi x 2).iV.toNat:Int)==st with
  |true=>simp
  | false =>
   simp only[cF,d,lz,if_false,K3];congr 1
   funext n
   simp only[F3];omega
def zy(m s v:AV)(H:List aw):Option (Bool × List aw) :=
 match m,s,v with
 | .map id,.lit (.int .i64 st),.map j=>match H[id]?,H[j]? with
  | some (.mm l K d g rZ mem cl),some (.map q y h k)=>match d.same q&&g.same y with
   |true=>some (we rZ st,(H.set id (.mm l K d g (wg rZ st mem.length) (mem++[[.l h,.i k]]) cl)).set j (.raw .dead))
   |false=>none
  |_,_=>none
 |_,_,_=>none
def Yk{m s v:AV}{b:Bool}{H H':List aw}(h:zy m s v H=some (b,H'))(hb:b=true) :
  oA m s v (az H)=some (az H')/\nq m s v (az H)=none:=by
 unfold zy at h;unfold oA nq;split at h
 case h_2=>cases h
 rename_i id st j;split at h
 case h_2=>cases h
 rename_i l K KI VI rZ mem cl K2 V2 W icl M N;refine⟨?_,rfl⟩;simp only[];rw[bu M,bu N];simp only[aw.ar];split at h
 case h_2=>cases h
 rename_i k;simp only[aK]at k;have O:=Ct.lP k.1;have U:=Ct.lP k.2;subst O U;simp only[bf,bo]at h;obtain⟨d,rfl⟩:=h;rw[hb]at d;unfold we at d;unfold wg;cases g:gO st rZ 0 with
 |none=>rw[g]at d; cases d
 | some p =>
  obtain⟨i,r⟩:=p;rw[g]at d;obtain⟨_,q⟩:=HF g;rw[fD]at q;have hi:tz (kB K rZ) st=some i:=by
   have:=Nr (K:=K) (st:=st) (rZ:=rZ) (i:=0);rw[g]at this;cases I:tz (kB K rZ) st with
   |none=>rw[I]at this; cases this
   |some y=>rw[I]at this; simp at this; rw[this]
  have hm:tL r=none:=by
   unfold tL;cases V:bp 0 (gi r 1).iV with
   |true=>simp[V]at d
   |false=>rfl
  rw[hi];simp only[Np q,hm,cQ,aw.ar,Yh];simp[tL,rk,gi,G.rV,G.rZ,G.iV,bp,show ∀ n,dS 0 n=true from fun n=>Nat.ble_eq_true_of_le (eV n)]
def lj(P:aj)(r:cw->AV)(H:List aw):Op->Option (Bool × AV × List aw)
 | .alloc t=>match Cl P t with
  |some e=>if kZ (az H) 0=true then some (true,.ptr H.length 0 0 0 0,H++[.raw (.gy 0 t e BD)]) else none
  | none=>match fF P t with
   |some z=>some (true,.ptr H.length 0 0 0 0,H++[.raw (.box (z.map .lit))])
   |none=>none
 | .box _ x=>match pg (r x) with
  |some cs=>some (true,.ptr H.length 0 0 0 0,H++[.raw (.box cs)])
  |none=>none
 | .store t a x=>match vS P t (r a) (r x) H with
  |some (b,H')=>some (b,.undef,H')
  | none=>match zg P t (r a) (r x) H with
   |some (b,H')=>some (b,.undef,H')
   | none=>match zh P t (r a) (r x) H with
    |some (b,H')=>some (b,.undef,H')
    |none=>none
 |.makeSlice t l c=>zi P t (r l) (r c) H
 |.buildSlice t n parts=>vV P t n (parts.toList.map fun p=>(p.1,r p.2)) H
 | .range t x=>match cZ P t,r x with
  |.str,.lit (.string s)=>some (true,.ptr H.length 0 0 0 0,H++[.raw (.iter s 0)])
  |_,_=>none
 | .next it true=>match r it with
  | .ptr id 0 _ 0 0=>match H[id]? with
   | some (.raw (.iter s pos))=>if pos<s.size then some (true,.tuple [.lit (.bool true),.lit (goInt pos),.lit (.int .i32 (qO s pos).1)],H.set id (.raw (.iter s (pos+(qO s pos).2))))
     else some (true,.tuple [.lit (.bool false)],H)
   |_=>none
  |_=>none
 | .makeMap t none=>match dO P t with
  | some (g,d)=>match rA P g,rA P d with
   |some (K,_),some (V,_)=>some (true,.map H.length,H++[.map K V [] 0])
   | some (K,_),none=>match dO P d with
    |some _=>some (true,.map H.length,H++[.map K K [] 0])
    | none=>match cZ P d with
     | .array 2 e 1 _=>match yM P e with
      |some ks=>some (true,.map H.length,H++[.map K (.agg [.list ks,.list ks]) [] 0])
      |none=>none
     |_=>none
   |_,_=>none
  |none=>none
 | .mapUpdate t m k v=>match vX P t (r m) (r k) (r v) H with
  |some (b,H')=>some (b,.undef,H')
  | none=>match zm P t (r m) (r k) (r v) H with
   |some (b,H')=>some (b,.undef,H')
   | none=>match zw P t (r m) (r k) (r v) H with
    |some (b,H')=>some (b,.undef,H')
    | none=>match zq P t (r m) (r k) (r v) H with
     |some (b,H')=>some (b,.undef,H')
     |none=>none
 | .lookup t m k false=>match zl P t (r m) (r k) H with
  |some y=>some y
  |none=>zp P t (r m) (r k) H
 | .mapEntry t m k=>match zn P t (r m) (r k) H with
  |some y=>some y
  |none=>zx P t (r m) (r k) H
 | .entryStore _ m s x=>match zo (r m) (r s) (r x) H with
  |some (b,H')=>some (b,.undef,H')
  | none=>match zy (r m) (r s) (r x) H with
   |some (b,H')=>some (b,.undef,H')
   |none=>none
 | .insert t m k v=>match vX P t (r m) (r k) (r v) H with
  |some (b,H')=>some (b,.undef,H')
  |none=>none
 | .call c=>match c.callee with
  | .builtin .append=>match c.args.toList,c.argTypes.toList with
   | [s,x],[t,xt]=>match cZ P xt with
    |.int _=>wa P t xt (r s) (r x) H
    |_=>vT P t xt (r s) (r x) H
   |_,_=>none
  | .builtin .clear=>match c.args.toList,c.argTypes.toList with
   | [x],[t]=>match zu P t (r x) H with
    |some (b,H')=>some (b,.tuple [],H')
    |none=>none
   |_,_=>none
  | .builtin .delete=>match c.args.toList,c.argTypes.toList with
   | [x,k],t::_=>match zt P t (r x) (r k) H with
    |some (b,H')=>some (b,.tuple [],H')
    |none=>none
   |_,_=>none
  |_=>none
 |_=>none
def Yl{P:aj}{t xt:aF}{s x:AV}{H:List ai}(h:∀ k,cZ P xt≠.int k):tq P t xt s x H=none:=by
 unfold tq;split
 ·rename_i d
  exact(h _ d).elim
 ·rfl
def HJ{P:aj}{r:cw->AV}{H H':List aw}{o:Op}{v:AV}{b:Bool}(h:lj P r H o=some (b,v,H'))(hb:b=true):dD P r (az H) o=some (v,az H'):=by
 cases o<;>simp only[lj]at h<;>try cases h
 case alloc t =>
  split at h
  ·rename_i e he
   split at h
   ·rename_i hn
    cases h;simp only[dD,th,he,hn,if_true,fA,jO,aw.ar]
   ·cases h
  ·rename_i he
   split at h
   ·rename_i z V; cases h; simp only[dD,th,he,V,fA,jO,aw.ar]
   ·cases h
 case box t x =>
  split at h
  ·rename_i z V; cases h; simp only[dD,Cn,V,fA,jO,aw.ar]
  ·cases h
 case store t a x =>
  split at h
  ·rename_i I H1 d; cases h; simp only[dD,Hy d hb]
  ·split at h
   ·rename_i I H1 d
    cases h;obtain⟨g,q⟩:=XV d hb;simp only[dD,g,q]
   ·split at h
    ·rename_i I H1 d
     cases h;obtain⟨g,q,M⟩:=XW d hb;simp only[dD,g,q,M]
    ·cases h
 case makeSlice t l c=>simp only[dD]; exact X1 h hb
 case buildSlice t n ps=>simp only[dD]; exact X2 h
 case range t x =>
  split at h
  ·rename_i s hk W
   cases h;simp only[dD,Cq,hk,W,fA,jO,aw.ar]
  ·cases h
 case next it isString =>
  cases isString with
  |false=>cases h
  | true =>
   simp only[]at h;split at h
   ·rename_i id k W
    split at h
    ·rename_i s pos hid
     simp only[dD,Cr,W,bu hid,aw.ar];split at h
     ·rename_i U
      cases h;rw[iP U,cQ];rfl
     ·rename_i U
      cases h;rw[iN U]
    ·cases h
   ·cases h
 case makeMap t res =>
  cases res with
  |some _=>cases h
  | none =>
   simp only[]at h;split at h
   ·split at h
    ·cases h
     simp only[dD,fA,jO,aw.ar];rfl
    ·split at h
     ·cases h
      simp only[dD,fA,jO,aw.ar];rfl
     ·split at h
      ·split at h
       ·cases h
        simp only[dD,fA,jO,aw.ar];rfl
       ·cases h
      ·cases h
    ·cases h
   ·cases h
 case mapUpdate t m k x =>
  split at h
  ·rename_i I H1 d
   cases h;simp only[dD,Nn d]
  ·split at h
   ·rename_i I H1 d
    cases h;obtain⟨g,q⟩:=X_ d hb;simp only[dD,g,q]
   ·split at h
    ·rename_i I H1 d
     cases h;obtain⟨g,q,M⟩:=Yi d hb;simp only[dD,g,q,M]
    ·split at h
     ·rename_i I H1 d
      cases h;obtain⟨g,q,M,g4⟩:=X7 d hb;simp only[dD,g,q,M,g4]
     ·cases h
 case lookup t m k ok =>
  cases ok with
  |true=>cases h
  | false =>
   simp only[]at h;split at h
   ·rename_i y hy
    cases h;obtain⟨g,q⟩:=X9 hy hb;simp only[dD,g,q]
   ·obtain ⟨g, q, M⟩ := X6 h hb
    simp only[dD,g,q,M]
 case mapEntry t m k =>
  split at h
  ·rename_i y hy
   cases h;simp only[dD,Ya hy hb]
  ·obtain ⟨g, q⟩ := Yj h hb
   simp only[dD,g,q]
 case entryStore t m s x =>
  split at h
  ·rename_i I H1 d
   cases h;simp only[dD,Yb d hb]
  ·split at h
   ·rename_i I H1 d
    cases h;obtain⟨g,q⟩:=Yk d hb;simp only[dD,g,q]
   ·cases h
 case insert t m k x =>
  split at h
  ·rename_i I H1 d
   cases h;simp only[dD,Nn d]
  ·cases h
 case call c =>
  simp only[dD,Cz];split at h
  ·rename_i N
   rw[N];split at h
   ·rename_i h1 O
    simp only[h1,O];split at h
    ·rw[Ye h hb]
    ·rename_i hno
     rw[Yl hno];exact XY h hb
   ·cases h
  ·rename_i N
   rw[N];split at h
   ·rename_i h1 O
    simp only[h1,O];split at h
    ·rename_i d
     cases h;rw[Yd d hb]
    ·cases h
   ·cases h
  ·rename_i N
   rw[N];split at h
   ·rename_i h1 O
    simp only[h1,O];split at h
    ·rename_i d
     cases h;rw[Yc d]
    ·cases h
   ·cases h
  ·cases h
end Go.AL

namespace Go.AL
open Go
variable [Dr]
def wh(n:Int):Option (Bool × AV):=some (ay n,.lit (.int .i64 n))
def HK(P:aj)(op:BinOp)(t:aF)(g:Bool)(x y:AV):Option (Bool × AV) :=
 match op,x,y with
 |.add,.lit (.int .i64 a),.lit (.int .i64 b)=>wh (a+b)
 |.sub,.lit (.int .i64 a),.lit (.int .i64 b)=>wh (a-b)
 |.mul,.lit (.int .i64 a),.lit (.int .i64 b)=>wh (a*b)
 |.quo,.lit (.int .i64 a),.lit (.int .i64 b)=>some (!(b==0)&&ay (a.tdiv b),.lit (.int .i64 (a.tdiv b)))
 |.rem,.lit (.int .i64 a),.lit (.int .i64 b)=>some (!(b==0),.lit (.int .i64 (a.tmod b)))
 |.add,.lit (.string a),.lit (.string b)=>some (dS (a.size+b.size) 9223372036854775807,.lit (.string (a++b)))
 |.lss,.lit (.int k a),.lit (.int d b)=>if k=d then some (true,.lit (.bool (aO a b))) else none
 |.leq,.lit (.int k a),.lit (.int d b)=>if k=d then some (true,.lit (.bool (bp a b))) else none
 |.gtr,.lit (.int k a),.lit (.int d b)=>if k=d then some (true,.lit (.bool (aO b a))) else none
 |.geq,.lit (.int k a),.lit (.int d b)=>if k=d then some (true,.lit (.bool (bp b a))) else none
 |.and,.lit (.int k a),.lit (.int d b)=>if k=d then some (true,.lit (.int k (Lq k a b))) else none
 |.or,.lit (.int k a),.lit (.int d b)=>if k=d then some (true,.lit (.int k (Lr k a b))) else none
 |.xor,.lit (.int k a),.lit (.int d b)=>if k=d then some (true,.lit (.int k (Ls k a b))) else none
 |.shl,.lit (.int k a),.lit (.int _ b)=>some (cJ b,.lit (.int k (Gm k a b)))
 |.shr,.lit (.int k a),.lit (.int _ b)=>some (cJ b,.lit (.int k (vj k a b)))
 | op,.listF ks rZ,.lit (.slice none 0 0)=>match P.underlying t,my op false with
  |some (.slice _),some v=>some (dq 0 rZ.length,v)
  |_,_=>none
 | op,.vQ w id al oF m,.lit (.slice none 0 0)=>match P.underlying t,my op false with
  |some (.slice _),some v=>some (dq 0 m,v)
  |_,_=>none
 | _,_,_=>match lM P op t g x y with
  |some v=>some (true,v)
  |none=>none
def HL(m sz:Nat)(cells:List AV):Option (Kd × LL) :=
 match ze (cells.headD .undef)with
 | some k=>match bO [k] (cells.map fun c=>[c]) with
  |some rZ=>if sz=1/\m=cells.length then some (k,rZ) else none
  |none=>none
 |none=>none
def Ym{m sz:Nat}{cells:List AV}{k:Kd}{rZ:LL}(h:HL m sz cells=some (k,rZ)){j:Nat}(g:j<m) :
  aX [k] (rZ.getD j [])=(cells.drop (j*sz)).take sz:=by
 unfold HL at h;split at h
 ·split at h
  ·rename_i y q
   split at h
   ·rename_i v
    obtain⟨rfl,rfl⟩:=v;cases h;have e:=rq q;have I:rZ.length=cells.length:=by have:=congrArg BS e; simpa using this
    have d:(rZ.map (aX [k]))[j]? = (cells.map fun c=>[c])[j]? := by rw[e]
    rw[zf (by omega),bY,bZ g]at d;simp only[ff,bf]at d;rw[d,amr,List.drop_eq_getElem_cons g,List.take_succ_cons,List.take_zero]
   ·cases h
  ·cases h
 ·cases h
def HM(rZ:List (List AV)):Option (List Kd × LL):=match rr (rZ.headD [])with
 | some ks=>match bO ks rZ with
  |some d=>some (ks,d)
  |none=>none
 |none=>none
def Yn{rZ:List (List AV)}{ks:List Kd}{d:LL}(h:HM rZ=some (ks,d)):d.map (aX ks)=rZ:=by
 unfold HM at h;split at h
 ·split at h
  ·rename_i k g
   cases h;exact rq g
  ·cases h
 ·cases h
def HN(k:SK)(x i:AV):Option (Bool × AV) :=
 match k,x,i with
 |.slice _ sz _,.listF ks rZ,.lit (.int _ j)=>if ks.length=sz then some (cJ j&&aO j (rZ.length:Int),.cptr (aX ks (rZ.getD j.toNat []))) else none
 |.slice _ sz _,.vQ w id al oF m,.lit (.int _ j)=>if w=sz then some (cJ j&&aO j (m:Int),.ptr id al w (oF+j.toNat) 0) else none
 | .slice _ sz _,.list w rZ,.lit (.int d j)=>match HM rZ with
  |some (ks,g)=>if w=sz then some (cJ j&&aO j (g.length:Int),.cptr (aX ks (g.getD j.toNat []))) else none
  | none=>match ku k (.list w rZ) (.lit (.int d j)) with
   |some v=>some (true,v)
   |none=>none
 |.slice _ sz _,.svec id l h m,.lit (.int _ j)=>some (cJ j&&aO j (m:Int),.sptr id l h sz j.toNat 0)
 | .array m _ sz _,.cptr cells,.lit (.int d j)=>match HL m sz cells with
  |some (y,rZ)=>some (cJ j&&aO j (m:Int),.cptr (aX [y] (rZ.getD j.toNat [])))
  | none=>match ku k (.cptr cells) (.lit (.int d j)) with
   |some v=>some (true,v)
   |none=>none
 |.array m _ sz _,.ptr id al w row q,.lit (.int _ j)=>some (cJ j&&aO j (m:Int),.ptr id al w row (q+j.toNat*sz))
 | _,_,_=>match ku k x i with
  |some v=>some (true,v)
  |none=>none
def HO(k:SK)(x i:AV):Option (Bool × AV) :=
 match k,x,i with
 |.str,.lit (.string s),.lit (.int _ j)=>some (cJ j&&aO j (s.size:Int),.lit (.int .u8 ((s.data.toList.getD j.toNat 0).toNat)))
 | .array m _ 1 false,.agg cells,.lit (.int _ j)=>match kC cells with
  |some l=>bif dS m l.length then some (cJ j&&aO j (m:Int),.lit (.int .i64 (l.getD j.toNat 0))) else none
  | none=>match q9 k x i with
   |some v=>some (true,v)
   |none=>none
 | _,_,_=>match q9 k x i with
  |some v=>some (true,v)
  |none=>none
def HP(op:UnOp)(x:AV):Option (Bool × AV) :=
 match op,x with
 |.neg,.lit (.int .i64 n)=>some (ay (0-n),.lit (.int .i64 (0-n)))
 | _,_=>match vq op x with
  |some v=>some (true,v)
  |none=>none
def HQ(P:aj)(s d:aF)(x:AV):Option (Bool × AV) :=
 match P.underlying s,cZ P d,x with
 |some _,.int .i64,.lit (.int _ n)=>some (ay n,.lit (.int .i64 n))
 | _,_,_=>match vr P s d x with
  |some v=>some (true,v)
  |none=>none
def CP(P:aj)(r:cw->AV)(o:Op):Option (Bool × AV) :=
 match o with
 |.indexAddr t x i=>HN (cZ P t) (r x) (r i)
 |.index t x i=>HO (cZ P t) (r x) (r i)
 |.binOp op t x y _=>HK P op t (Cy x||Cy y) (r x) (r y)
 |.slice t x lo hi mx=>HB P t (r x) (lo.map r) (hi.map r) (mx.map r)
 |.unOp op _ x=>HP op (r x)
 |.convert s d x=>HQ P s d (r x)
 | o=>match j7 P r o with
  |some v=>some (true,v)
  |none=>none
def qn{x:Option AV}{b:Bool}{v:AV} (h:(match x with|some v=>some (true,v)|none=>none)=some (b,v)):x=some v:=by
 split at h
 ·cases h; rfl
 ·cases h
def wk{n:Int}(h:ay n=true):IntKind.i64.wrap n=n:=by
 rw[dH]at h;simp[IntKind.wrap,IntKind.bits,IntKind.signed];omega
def Yo{P:aj}{op:BinOp}{t:aF}{q:Bool}{x y v:AV}{b:Bool}(h:HK P op t q x y=some (b,v))(hb:b=true):lM P op t q x y=some v:=by
  unfold HK at h;split at h
  · simp only [wh, bf, bo] at h
    obtain⟨h1,rfl⟩:=h;subst hb;simp[lM,lK,qX,wk h1]
  · simp only [wh, bf, bo] at h
    obtain⟨h1,rfl⟩:=h;subst hb;simp[lM,lK,qX,wk h1]
  · simp only [wh, bf, bo] at h
    obtain⟨h1,rfl⟩:=h;subst hb;simp[lM,lK,qX,wk h1]
  · simp only [bf, bo] at h
    obtain⟨h1,rfl⟩:=h;subst hb;simp only[aK,sX,beq_eq_false_iff_ne]at h1;simp[lM,lK,qX,h1.1,wk h1.2]
  · simp only [bf, bo] at h
    obtain⟨h1,rfl⟩:=h;subst hb;simp only[sX,beq_eq_false_iff_ne]at h1;simp[lM,lK,qX,h1]
  · simp only [bf, bo] at h
    obtain⟨h1,rfl⟩:=h;subst hb;have g:=BR h1;have d:∀ k:Nat,k<=9223372036854775807->¬ ((k:Int)>IntKind.i64.max):=fun k I=>by
      show ¬ ((k:Int)>(9223372036854775807:Int))
      omega
    simp only[lM,lK,Gn,iN (d _ g)]
  all_goals first
    |exact qn h
    | (split at h
       case isFalse=>cases h
       rename_i I;subst I;cases h;simp[lM,lK,qX,cK,eX])
    | (simp only [bf, bo] at h
       obtain⟨h1,rfl⟩:=h;subst hb;simp only[jM,dT]at h1;simp only[lM,lK,iN (Int.not_lt.2 h1)])
    | (split at h
       · rename_i h1 g
         simp only[bf,bo]at h;obtain⟨d,rfl⟩:=h;subst hb;simp only[iZ]at d;simp only[lM,h1,iP d,g]
       · cases h)
def Yp{k:SK}{x i v:AV}{b:Bool}(h:HN k x i=some (b,v))(hb:b=true):ku k x i=some v:=by
 unfold HN at h;split at h
 ·split at h
  ·rename_i d
   simp only[bf,bo]at h;obtain⟨h1,rfl⟩:=h;subst hb;simp only[jM,cK,aK,dT]at h1;simp[ku,d,h1.1,h1.2]
  ·cases h
 ·split at h
  ·rename_i d
   simp only[bf,bo]at h;obtain⟨h1,rfl⟩:=h;subst hb;simp only[jM,cK,aK,dT]at h1;simp[ku,d,h1.1,h1.2]
  ·cases h
 ·split at h
  ·rename_i ks y g
   split at h
   ·rename_i d
    simp only[bf,bo]at h;obtain⟨h1,rfl⟩:=h;subst hb;simp only[jM,cK,aK,dT]at h1;have e:=Yn g;subst e;simp only[ku,c8,bY];rw[iP ⟨d,h1.1,h1.2⟩,bZ (by omega),cd,bZ (by omega)];rfl
   ·cases h
  ·exact qn h
 ·simp only [bf, bo] at h
  obtain⟨h1,rfl⟩:=h;subst hb;simp only[jM,cK,aK,dT]at h1;simp[ku,h1.1,h1.2]
 ·split at h
  ·rename_i I rZ q
   simp only[bf,bo]at h;obtain⟨h1,rfl⟩:=h;subst hb;simp only[jM,cK,aK,dT]at h1;rw[Ym q (by omega)];simp[ku,h1.1,h1.2]
  ·exact qn h
 ·simp only [bf, bo] at h
  obtain⟨h1,rfl⟩:=h;subst hb;simp only[jM,cK,aK,dT]at h1;simp[ku,h1.1,h1.2]
 ·exact qn h
def Yq{k:SK}{x i v:AV}{b:Bool}(h:HO k x i=some (b,v))(hb:b=true):q9 k x i=some v:=by
 unfold HO at h;split at h
 ·rename_i s g j
  simp only[bf,bo]at h;obtain⟨h1,rfl⟩:=h;subst hb;simp only[jM,cK,aK,dT]at h1;have d:j.toNat<s.size:=by omega
  have e:s[j.toNat]? = some (s.data.toList.getD j.toNat 0):=by
   have q:j.toNat<s.data.toList.length:=by simpa using d
   rw[cd,bZ q];simp only[getElem?,decidableGetElem?,d,dite_true,Option.getD_some];rfl
  simp only[q9,h1.1,h1.2,and_self,if_true,e]
 ·rename_i m e cells g j
  split at h
  ·rename_i l y
   cases hm:dS m l.length with
   |false=>rw[hm]at h; cases h
   | true =>
    rw[hm]at h;simp only[cT,bf,bo]at h;obtain⟨h1,rfl⟩:=h;subst hb;rw[s7]at hm;simp only[jM,cK,aK,dT]at h1;have I:=Hv y j.toNat (by omega);simp only[q9,h1.1,h1.2,and_self,if_true,jJ,lz,if_false,amr,sT,n_,I]
  ·exact qn h
 ·exact qn h
def Yr{op:UnOp}{x v:AV}{b:Bool}(h:HP op x=some (b,v))(hb:b=true):vq op x=some v:=by
 unfold HP at h;split at h
 ·simp only [bf, bo] at h
  obtain⟨h1,rfl⟩:=h;subst hb;simp only[vq,wk h1]
 ·exact qn h
def Ys{P:aj}{s d:aF}{x v:AV}{b:Bool}(h:HQ P s d x=some (b,v))(hb:b=true):vr P s d x=some v:=by
 unfold HQ at h;split at h
 ·rename_i g k
  simp only[bf,bo]at h;obtain⟨h1,rfl⟩:=h;subst hb;simp only[vr,g,k,wk h1]
 ·exact qn h
def Ns{P:aj}{r:cw->AV}{o:Op}{b:Bool}{v:AV}(h:CP P r o=some (b,v))(hb:b=true):j7 P r o=some v:=by
 cases o<;>simp only[CP]at h<;>try exact qn h
 case binOp=>simp only[j7]; exact Yo h hb
 case indexAddr=>simp only[j7]; exact Yp h hb
 case index=>simp only[j7]; exact Yq h hb
 case slice=>simp only[j7]; exact XZ h hb
 case unOp=>simp only[j7]; exact Yr h hb
 case convert=>simp only[j7]; exact Ys h hb
inductive bh where
 |fail
 |done (x:cD) (s:aH)
 |ask (b:Bool) (t e:bh)
 |side (b:Bool) (t:bh)
def bh.holds(Q:cD->aH->Prop):bh->Prop
 |.fail=>False
 |.done x s=>Q x s
 |.ask b t e=>(b=true->t.holds Q)/\(b=false->e.holds Q)
 |.side b t=>b=true/\t.holds Q
structure aD where
 pf:bP->Bool
 T:bP->List AV->Option (Bool × AV)
 W:bP->List AV->List aw->Option (Bool × AV × List aw)
 C:bP->List AV->List aw->List Nat
 I:bP->List AV->List aw->Option bh:=fun _ _ _=>none
 N:bP->Bool:=fun _=>false
 U:bP->Bool:=fun _=>true
structure aI (P:aj) (τ:aD):Prop where
 T:∀ f args b v,τ.T f args=some (b,v)->b=true->iJ P f=true/\dP P f args v
 W:∀ f args H b v H',τ.W f args H=some (b,v,H')->b=true->iJ P f=true/\fO P f args (az H) v (az H')
 C:∀ f args H b v H',τ.W f args H=some (b,v,H')->∀ A,A∉τ.C f args H->A<H.length->H'[A]? = H[A]?
 I:∀ f args H t,τ.I f args H=some t->∀ Q:cD->aH->Prop,t.holds Q->iJ P f=true/\∃ v H',fO P f args (az H) v (az H')/\(∀ A,A∉τ.C f args H->A<H.length->H'[A]? = H[A]?)/\Q .normal ⟨[v],H'⟩
 F:(∀ f,τ.U f=false->∀ args H,τ.W f args H=none/\τ.C f args H=[])/\∀ f,τ.N f=true->∀ args H b v H',τ.W f args H=some (b,v,H')->∀ id o,id<H.length->id∉τ.C f args H ->
  τ.W f args (H.set id o)=some (b,v,H'.set id o)/\τ.C f args (H.set id o)=τ.C f args H
def bh.zz(k:AV->List aw->bh):bh->bh
 |.fail=>.fail
 |.done _ s=>k (s.fr.headD .undef) s.H
 |.ask b t e=>.ask b (t.zz k) (e.zz k)
 |.side b t=>.side b (t.zz k)
def bh.CQ{k:AV->List aw->bh}{Q:cD->aH->Prop}:∀{t:bh},(t.zz k).holds Q->t.holds fun _ s=>(k (s.fr.headD .undef) s.H).holds Q
 |.fail,h=>h
 |.done _ _,h=>h
 |.ask _ t e,h=>⟨fun hb=>CQ (t:=t) (h.1 hb),fun hb=>CQ (t:=e) (h.2 hb)⟩
 |.side _ t,h=>⟨h.1,CQ (t:=t) h.2⟩
inductive Want where
 |bad|yes|no
 |test (t:Tmp) (b:Bool) (want:Bool)
def rC(ah:Array aU)(fr:List AV)(o:aU):Want :=
 match o.guard with
 |none=>.yes
 | some (j,d)=>match (ah[j]?).bind (·.dst) with
  | some t=>match fr[t]? with
   |some (.lit (.bool b))=>.test t b d
   |some (.tuple [])=>.no
   |_=>.bad
  |none=>.bad
def CR:AV->Option Bool
 |.lit (.bool b)=>some b
 |_=>none
def zA(H:List aw):AV->Bool × AV
 | .vQ w id al oF n=>match H[id]? with
  |some (.vQ ks v rZ)=>if al=v/\ks.length=w/\oF=0 then (aG n rZ.length,.listF ks rZ) else (true,.vQ w id al oF n)
  |_=>(true,.vQ w id al oF n)
 | .ptr id al k row d=>match H[id]? with
  |some (.raw (.box cells))=>if al=0/\row=0/\d=0/\AV.bM cells=true then (true,.cptr cells) else (true,.ptr id al k row d)
  |_=>(true,.ptr id al k row d)
 |a=>(true,a)
def tQ(H:List aw):List AV->Bool × List AV
 | []=>(true,[])
 | a::as=>match zA H a,tQ H as with
  |(b,g),(h,d)=>(b&&h,g::d)
def CS(H:List aw):AV->Bool × AV
 | .clo f caps=>match tQ H caps with
  |(b,d)=>(b,.clo f d)
 |a=>zA H a
def rD(H:List aw):List AV->Bool × List AV
 | []=>(true,[])
 | a::as=>match CS H a,rD H as with
  |(b,g),(h,d)=>(b&&h,g::d)
def CT:List AV->Bool
 | []=>true
 |.lit _::as=>CT as
 |_::_=>false
def CU:AV->Bool
 |.lit _=>true
 |.tuple d=>CT d
 |_=>false
def HR(P:aj)(r:cw->AV)(H:List aw)(o:Op):Option AV :=
 match o with
 | .call c=>match c.callee,c.args.toList,c.argTypes.toList with
  | .builtin .len,[a],[t]=>match dO P t,r a with
   | some _,.map id=>match H[id]? with
    |some (.map _ _ rZ _)=>some (.lit (.int .i64 rZ.length))
    |_=>none
   |_,_=>none
  |_,_,_=>none
 |_=>none
def Yt{P:aj}{r:cw->AV}{H:List aw}{o:Op}{v:AV}(h:HR P r H o=some v):gA P r (az H) o=some v:=by
 unfold HR at h;split at h
 ·rename_i c
  simp only[gA];split at h
  ·rename_i a t g ha k
   unfold rf;rw[g,ha,k];simp only[];split at h
   ·rename_i p id q hm
    rw[q,hm];simp only[];split at h
    ·rename_i K V rZ cl d
     cases h;rw[bu d];simp[aw.ar,dQ]
    ·cases h
   ·cases h
  ·cases h
 ·cases h
def HS(v:AV)(H:List aw):Option (Bool × AV × List aw) :=
 match v with
 | .vQ w id al oF n=>match H[id]? with
  |some (.vQ ks u rZ)=>if al=u/\oF=0/\w=ks.length then some (aG n rZ.length,.listF ks rZ,H.set id (.raw .dead)) else none
  |_=>none
 | .agg (.vQ w id al oF n::cs)=>match H[id]? with
  |some (.vQ ks u rZ)=>if al=u/\oF=0/\w=ks.length then some (aG n rZ.length,.agg (.listF ks rZ::cs),H.set id (.raw .dead)) else none
  |_=>none
 |_=>none
def wm(P:aj)(r:cw->AV)(H:List aw):Op->Option (Bool × List aw)
 | .store t a x=>match HS (r x) H with
  | some (d,g,H1)=>match vS P t (r a) g H1 with
   |some (h,H')=>some (d&&h,H')
   |none=>none
  |none=>none
 |_=>none
def Yu{P:aj}{r:cw->AV}{H H':List aw}{o:Op}{b:Bool}(h:wm P r H o=some (b,H'))(hb:b=true):vH P r (az H) .undef (az H') o:=by
 unfold wm at h;split at h
 case h_2=>cases h
 rename_i t a x;split at h
 case h_2=>cases h
 rename_i y I H1 d;split at h
 case h_2=>cases h
 rename_i M N v;simp only[bf,bo]at h;obtain⟨h1,rfl⟩:=h;subst hb;simp only[aK]at h1;unfold HS at d;split at d
 case h_3=>cases d
 ·rename_i w id al oF n k
  split at d
  case h_2=>cases d
  rename_i ks u rZ g;split at d
  case isFalse=>cases d
  rename_i q;obtain⟨rfl,rfl,rfl⟩:=q;simp only[bf,bo]at d;obtain⟨hn,rfl,rfl⟩:=d;rw[h1.1]at hn;have hn:=bz hn;subst hn;refine⟨.listF ks rZ,(az H).set id .dead,⟨id,al,ks,rZ,.inl ⟨k,rfl⟩,?_,rfl⟩,?_,rfl⟩
  ·rw [bu g]
   rfl
  ·have := Hy v h1.2
   rw[cQ]at this;exact this
 ·rename_i w id al oF n cs k
  split at d
  case h_2=>cases d
  rename_i ks u rZ g;split at d
  case isFalse=>cases d
  rename_i q;obtain⟨rfl,rfl,rfl⟩:=q;simp only[bf,bo]at d;obtain⟨hn,rfl,rfl⟩:=d;rw[h1.1]at hn;have hn:=bz hn;subst hn;refine⟨.agg (.listF ks rZ::cs),(az H).set id .dead,⟨id,al,ks,rZ,.inr ⟨cs,k,rfl⟩,?_,rfl⟩,?_,rfl⟩
  ·rw [bu g]
   rfl
  ·have := Hy v h1.2
   rw[cQ]at this;exact this
def HT(k:SK)(x i:AV)(H:List aw):Option (Int × AV × AV):=match k,x,i with
 | .array 2 _ 1 _,.ptr id al w row d,.lit (.int _ n)=>match H[id]? with
  |some (.raw (.box [.vQ ..,.vQ ..]))=>some (n,.ptr id al w row d,.ptr id al w row (d+1))
  |_=>none
 |_,_,_=>none
def Yv{k:SK}{x i p0 p1:AV}{H:List aw}{n:Int}(h:HT k x i H=some (n,p0,p1))(h1:(cJ n&&aO n 2)=true):ku k x i=some (bif aG n.toNat 0 then p0 else p1):=by
 unfold HT at h;split at h
 case h_2=>cases h
 split at h
 case h_2=>cases h
 cases h;simp only[jM,cK,aK,dT]at h1;have e:n=0\/n=1:=by omega
 rcases e with rfl|rfl<;>simp[ku]<;>rfl
def nD(P:aj)(τ:aD)(o:aU)(s:aH)(k:AV->List aw->bh):bh :=
 match o.op with
 | .pick c a b=>match CR (s.eval c) with
  |some t=>.ask t (k (s.eval a) s.H) (k (s.eval b) s.H)
  |none=>.fail
 | .load t a=>match Hw P t (s.eval a) s.H with
  |some (b,v)=>.side b (k v s.H)
  |none=>.fail
 | .lookup t m x ok=>match HC P t (s.eval m) (s.eval x) ok s.H with
  | some (b,v)=>match dG τ.pf o.op,ok with
   |.read,_=>.side b (k v s.H)
   |.write,false=>.side b (k v s.H)
   |_,_=>.fail
  | none=>match dG τ.pf o.op with
   | .write=>match lj P s.eval s.H o.op with
    |some (b,v,H')=>.side b (k v H')
    |none=>.fail
   | .read=>match HH P t (s.eval m) (s.eval x) ok s.H with
    |some (b,v)=>.side b (k v s.H)
    |none=>.fail
   |.pure=>.fail
 | .indexAddr t x i=>match HT (cZ P t) (s.eval x) (s.eval i) s.H with
  |some (n,p0,p1)=>.side (cJ n&&aO n 2) (.ask (aG n.toNat 0) (k p0 s.H) (k p1 s.H))
  | none=>match CP P s.eval o.op with
   |some (b,v)=>.side b (k v s.H)
   |none=>.fail
 | _=>match dG τ.pf o.op with
  | .read=>match HR P s.eval s.H o.op with
   |some v=>k v s.H
   |none=>.fail
  | .pure=>match jK s.eval o.op with
   | some (f,args)=>match τ.T f args with
    |some (b,v)=>.side b (k v s.H)
    |none=>.fail
   | none=>match CP P s.eval o.op with
    |some (b,v)=>.side b (k v s.H)
    |none=>.fail
  | .write=>match jK s.eval o.op with
   | some (f,args)=>match τ.W f args s.H with
    |some (b,v,H')=>.side b (k v H')
    | none=>match τ.I f args s.H with
     |some t=>t.zz k
     | none=>match τ.T f args with
      |some (b,v)=>.side b (k v s.H)
      | none=>match rD s.H args with
       | (g,d)=>match τ.T f d with
        | some (b,v)=>match CU v&&AV.bM d with
         |true=>.side (g&&b) (k v s.H)
         |false=>.fail
        |none=>.fail
   | none=>match lj P s.eval s.H o.op with
    |some (b,v,H')=>.side b (k v H')
    | none=>match wm P s.eval s.H o.op with
     |some (b,H')=>.side b (k .undef H')
     |none=>.fail
def aH.aq(s:aH)(t:Tmp)(b:Bool):aH:=⟨s.fr.set t (.lit (.bool b)),s.H⟩
def HU(P:aj)(τ:aD)(ah:Array aU)(o:aU)(s:aH)(k:aH->bh):bh :=
 match rC ah s.fr o with
 |.bad=>.fail
 |.no=>k (s.put o.dst (.tuple []) s.H)
 |.yes=>nD P τ o s fun v H'=>k (s.put o.dst v H')
 | .test t b d=>.ask b
   (match d with
    |true=>nD P τ o (s.aq t true) fun v H'=>k ((s.aq t true).put o.dst v H')
    |false=>k ((s.aq t true).put o.dst (.tuple []) s.H))
   (match d with
    |true=>k ((s.aq t false).put o.dst (.tuple []) s.H)
    |false=>nD P τ o (s.aq t false) fun v H'=>k ((s.aq t false).put o.dst v H'))
def rE(P:aj)(τ:aD)(ah:Array aU):List aU->aH->(aH->bh)->bh
 | [],s,k=>k s
 |o::d,s,k=>HU P τ ah o s fun s1=>rE P τ ah d s1 k
def eH:AV->Option Nat
 |.ptr id _ _ _ _=>some id
 |.vQ _ id _ _ _=>some id
 |.map id=>some id
 |.sub id _ _=>some id
 |.svec id _ _ _=>some id
 |.sptr id _ _ _ _ _=>some id
 |_=>none
def mG:AV->List Nat
 |.agg cs=>cs.filterMap eH
 | a=>match eH a with
  |some i=>[i]
  |none=>[]
def HV{a:AV}{i:Nat}(h:eH a=some i):i∈mG a:=by
 unfold mG;split
 ·cases h
 ·rw [h]
  exact List.mem_singleton_self i
def zB:List AV->List AV->Bool
 | [],[]=>true
 |.ptr a b c d e::as,.ptr g h k q v::y=>(aG a g&&(aG b h&&(aG c k&&(aG d q&&aG e v))))&&zB as y
 |_,_=>false
def zD:Option aw->Option aw->Bool
 |some (.raw (.box [.clo f as])),some (.raw (.box [.clo g d]))=>aG f g&&zB as d
 |_,_=>false
def Nt:∀{as d:List AV},zB as d=true->as=d
 | [],[],_=>rfl
 | [],_::_,h=>by simp[zB]at h
 | a::as,d,h=>by
  unfold zB at h;split at h
  ·exact absurd ‹a::as=[]› (by simp)
  ·rename_i e
   cases e;simp only[aK,Nat.beq_eq]at h;obtain⟨⟨rfl,rfl,rfl,rfl,rfl⟩,h⟩:=h;rw[Nt h]
  ·cases h
def Yw{a b:Option aw}(h:zD a b=true):a=b:=by
 unfold zD at h;split at h
 ·simp only [aK, Nat.beq_eq] at h
  rw[h.1,Nt h.2]
 ·cases h
def rF(τ:aD)(f:bP)(as:List AV)(H:List aw)(id:Nat):Bool:=match τ.W f as H with
 |some (_,_,H')=>zD H'[id]? H[id]?
 |none=>false
def lk(τ:aD)(r:cw->AV)(H:List aw)(op:Op):List Nat :=
 match jK r op with
 |some (f,args)=>(τ.C f args H).filter fun id => !rF τ f args H id
 |none=>op.operands.toList.flatMap fun x=>mG (r x)
def Nu{τ:aD}{f:bP}{as:List AV}{H H':List aw}{b:Bool}{v:AV}{A:Nat}(h:τ.W f as H=some (b,v,H'))(hA:A∉(τ.C f as H).filter fun id => !rF τ f as H id):A∉τ.C f as H\/H'[A]? = H[A]? := by
 by_cases hm:A∈τ.C f as H
 ·right
  cases d:rF τ f as H A with
  | true =>
   unfold rF at d;rw[h]at d;exact Yw d
  |false=>exact(hA (s9.2 ⟨hm,by rw[d]; rfl⟩)).elim
 ·exact .inl hm
def Yx{τ:aD}{f:bP}{as:List AV}{H:List aw}{A:Nat}(h:τ.W f as H=none)(hA:A∉(τ.C f as H).filter fun id => !rF τ f as H id):A∉τ.C f as H :=
 fun hm=>hA (s9.2 ⟨hm,by unfold rF; rw[h]; rfl⟩)
structure Acc where
 R:lf
 W:j9
def zF(aA:List Nat)(i:Nat):Bool := !aA.any (aG i)
def HW(ah:Array aU)(j id:Nat)(d:Acc):Option Acc :=
 match d.W.all fun e=>waits ah ah.size j e.1||(zF e.2.1 id&&dq id e.2.2)with
 |true=>some ⟨(j,id)::d.R,d.W⟩
 |false=>none
def CV(ah:Array aU)(j:Nat)(T:List Nat)(n:Nat)(d:Acc):Option Acc :=
 match d.R.all fun e=>waits ah ah.size j e.1||(zF T e.2&&dq e.2 n)with
 | true=>match d.W.all fun e=>waits ah ah.size j e.1||((T.all fun id=>zF e.2.1 id&&dq id e.2.2)&&e.2.1.all fun id=>dq id n) with
  |true=>some ⟨d.R,(j,T,n)::d.W⟩
  |false=>none
 |false=>none
def HX(τ:aD)(ah:Array aU)(j:Nat)(o:aU)(s:aH)(d:Acc):Option Acc :=
 match dG τ.pf o.op with
 |.pure=>some d
 | .read=>match oC s.eval o.op with
  |some id=>HW ah j id d
  |none=>some d
 |.write=>CV ah j (lk τ s.eval s.H o.op) s.H.length d
def gZ:Kd->ao->Option G
 |.int k,.int d n=>if k=d then some (.i n) else none
 |.str,.string s=>some (.s s)
 |.bool,.bool b=>some (.t b)
 |.list _,.slice none 0 0=>some (.l [])
 |_,_=>none
def wq:List Kd->List ao->Option LG
 | [],[]=>some []
 | k::ks,v::z=>match gZ k v,wq ks z with
  |some g,some d=>some (g::d)
  |_,_=>none
 |_,_=>none
def mK:Kd->Option (List Kd)
 |.list ks=>some ks
 |_=>none
def mZ:List Kd->List (Option (List Kd)):=List.map mK
def Yy{k:Kd}{v:ao}{g:G}(h:gZ k v=some g):kU k g=zc (mK k) v:=by
 cases k with
 | int k =>
  cases v with
  | int d n =>
   simp only[gZ]at h;by_cases e:k=d
   ·rw [iP e] at h
    cases h;subst e;rfl
   ·rw [iN e] at h
    cases h
  |_=>cases h
 |str=>cases v<;>first|(cases h; rfl)|cases h
 |bool=>cases v<;>first|(cases h; rfl)|cases h
 | list ks =>
  cases v with
  |slice b n c=>cases b<;>cases n<;>cases c<;>first|(cases h; rfl)|cases h
  |_=>cases h
def Nv:∀{ks:List Kd} {z:List ao} {g:LG},wq ks z=some g->aX ks g=j5 (mZ ks) z
 | [],[],g,h=>by cases h; rfl
 | [],_::_,g,h=>by cases h
 |_::_,[],g,h=>by cases h
 | k::ks,v::z,g,h=>by
  simp only[wq]at h;split at h
  ·rename_i g0 y h1 d
   cases h;have q:=Nv d;simp only[aX,u5,List.tail_cons,q,Yy h1];rfl
  ·cases h
def tR(z:List ao):List aw->Nat->Option (Nat × List Kd × LG)
 | [],_=>none
 | .vQ ks 0 rZ::H,i=>match wq ks z with
  | some g=>match rZ with
   | []=>some (i,ks,g)
   |_::_=>tR z H (i+1)
  |none=>tR z H (i+1)
 |_::H,i=>tR z H (i+1)
def wu:List aw->Nat->Option Nat
 | [],_=>none
 |.raw .eD::_,i=>some i
 |_::H,i=>wu H (i+1)
def Yz(P:aj)(t:aF):Option (Ct × Ct) :=
 match dO P t with
 | some (g,d)=>match rA P g,rA P d with
  |some (K,_),some (V,_)=>some (K,V)
  | some (K,_),none=>match dO P d with
   |some _=>some (K,K)
   |none=>none
  |_,_=>none
 |none=>none
def HY(P:aj)(op:Op)(H:List aw):Option (Nat × AV × List aw) :=
 match op with
 | .alloc t=>match fF P t with
  | some z=>match tR z H 0 with
   |some (id,ks,g)=>some (id,.ptr id 1 ks.length 0 0,H.set id (.vQ ks 1 [g]))
   | none=>match wu H 0 with
    |some id=>some (id,.ptr id 0 0 0 0,H.set id (.raw (.box (z.map .lit))))
    |none=>none
  |none=>none
 | .makeMap t none=>match Yz P t with
  | some (K,V)=>match wu H 0 with
   |some id=>some (id,.map id,H.set id (.map K V [] 0))
   |none=>none
  |none=>none
 |_=>none
def HZ(τ:aD)(o:aU)(s:aH):Bool:=match dG τ.pf o.op with
 | .write=>match jK s.eval o.op with
  | some (f,args)=>match τ.N f with
   |true=>(τ.W f args s.H).isSome
   |false=>false
  |none=>oD o.op
 |_=>true
def zG(P:aj)(τ:aD)(ah:Array aU)(j:Nat)(o:aU)(s:aH)(g:Acc)(k:aH->Acc->bh):bh :=
 match nw ah&&fG o.op with
 | true=>match HY P o.op s.H with
  | some (id,v,H')=>match CV ah j [id] s.H.length g with
   |some d=>k (s.put o.dst v H') d
   |none=>.fail
  |none=>.fail
 | false=>match ny ah o.op && !HZ τ o s with
  |true=>.fail
  | false=>match HX τ ah j o s g with
   |some d=>nD P τ o s fun v H'=>k (s.put o.dst v H') d
   |none=>.fail
def H4(P:aj)(τ:aD)(ah:Array aU)(j:Nat)(o:aU)(s:aH)(d:Acc)(k:aH->Acc->bh):bh :=
 match rC ah s.fr o with
 |.bad=>.fail
 |.no=>k (s.put o.dst (.tuple []) s.H) d
 |.yes=>zG P τ ah j o s d k
 | .test t b g=>.ask b
   (match g with
    |true=>zG P τ ah j o (s.aq t true) d k
    |false=>k ((s.aq t true).put o.dst (.tuple []) s.H) d)
   (match g with
    |true=>k ((s.aq t false).put o.dst (.tuple []) s.H) d
    |false=>zG P τ ah j o (s.aq t false) d k)
def H5(P:aj)(τ:aD)(ah:Array aU):List aU->Nat->aH->Acc->(aH->bh)->bh
 | [],_,s,_,k=>k s
 |o::d,j,s,h,k=>H4 P τ ah j o s h fun s1 g=>H5 P τ ah d (j+1) s1 g k
def Nw(k:aH->bh)(K:cD->aH->bh):cD->aH->bh
 |.normal,s=>k s
 |x,s=>K x s
def Nx(id:Nat)(K:cD->aH->bh):cD->aH->bh
 |.exit i,s=>if i=id then K .normal s else K (.exit i) s
 |x,s=>K x s
def bh.bind(K:cD->aH->bh):bh->bh
 |.fail=>.fail
 |.done x s=>K x s
 |.ask b t e=>.ask b (t.bind K) (e.bind K)
 |.side b t=>.side b (t.bind K)
def oJ:Code->Option Nat
 |.region id _ _=>some id
 | .seq a b=>match oJ a with
  |some i=>some i
  |none=>oJ b
 |.block _ c=>oJ c
 | .cond _ a b=>match oJ a with
  |some i=>some i
  |none=>oJ b
 |.loop c=>oJ c
 |_=>none
def tS:Code->Nat
 | .seq a b=>match oJ a with
  |some _=>tS a
  |none=>tS b
 |.block _ c=>tS c
 | .cond _ a b=>match oJ a with
  |some _=>tS a
  |none=>tS b
 |.loop c=>tS c+1
 |_=>0
def Ny(c:Code):Option Nat:=match oJ c with
 |some i=>some (i+1000*tS c)
 |none=>none
def cy:Code->List (Nat × Code)
 |.seq a b=>cy a++cy b
 |.cond _ a b=>cy a++cy b
 |.block _ c=>cy c
 | .loop c=>match Ny c with
  |some k=>(k,c)::cy c
  |none=>cy c
 |_=>[]
def YA(k:aH->bh)(K:cD->aH->bh):cD->aH->bh
 |.normal,s=>k s
 |.exit i,s=>K (.exit i) s
 |.ret,s=>K .ret s
def CW(body:aH->(cD->aH->bh)->bh):Nat->aH->(cD->aH->bh)->bh
 |0,_,_=>.fail
 |n+1,s,K=>body s (YA (fun s'=>CW body n s' K) K)
def cC:Code->List (Nat × Code)
 | .seq a b=>cC a++((match oJ b with
  |some k=>[(k,b)]
  |none=>[])++cC b)
 |.cond _ a b=>cC a++cC b
 |.block _ c=>cC c
 |.loop c=>cC c
 |_=>[]
structure LT where
 loops:Nat->aH->Option bh
 pre:Nat->aH->Bool × aH
 zH:Nat->aH->Option bh
def Nz(L:LT)(k:Option Nat)(s:aH):Option bh :=
 match k with
 |some i=>L.zH i s
 |none=>none
def il(P:aj)(τ:aD)(L:LT):Code->aH->(cD->aH->bh)->bh
 |.skip,s,K=>K .normal s
 | .region id ah d,s,K=>match d && !vI τ.pf ah with
  | true=>match vR τ.pf ah with
   |true=>.side (L.pre id s).1 (H5 P τ ah ah.toList 0 (L.pre id s).2 ⟨[],[]⟩ (K .normal))
   |false=>.fail
  |false=>.side (L.pre id s).1 (rE P τ ah ah.toList (L.pre id s).2 (K .normal))
 | .seq a b,s,K=>il P τ L a s (Nw (fun s1=>match Nz L (oJ b) s1 with
  |some t=>t.bind K
  |none=>il P τ L b s1 K) K)
 | .cond c a b,s,K=>match CR (s.eval c) with
  |some t=>.ask t (il P τ L a s K) (il P τ L b s K)
  |none=>.fail
 |.block id c,s,K=>il P τ L c s (Nx id K)
 | .loop c,s,K=>match Ny c with
  | some i=>match L.loops i s with
   |some t=>t.bind K
   |none=>CW (fun s1 g=>il P τ L c s1 g) 400 s K
  |none=>.fail
 |.exit id,s,K=>K (.exit id) s
 |.ret,s,K=>K .ret s
 |_,_,_=>.fail
def NA(P:aj)(m:Nat)(c:Code)(s:aH)(t:bh):Prop:=∀ Q:cD->aH->Prop,t.holds Q->∃ x s',nt P m c s.ar x s'.ar/\Q x s'
def H6(P:aj)(m:Nat)(c:Code)(s:aH)(t:bh):Prop:=∀ Q:cD->aH->Prop,t.holds Q->∃ x s',en P m c s.ar x s'.ar/\Q x s'
def aT(P:aj)(m:Nat)(L:LT)(c:Code):Prop:=(∀ k d,(k,d)∈cy c->∀ s t,L.loops k s=some t->NA P m d s t)/\(∀ id s,(L.pre id s).1=true->bG m s.ar (L.pre id s).2.ar) /\
 ∀ k d,(k,d)∈cC c->∀ s t,L.zH k s=some t->H6 P m d s t
def aT.sub{P:aj}{m:Nat}{L:LT}{c g:Code}(h:aT P m L c)(h1:∀ p,p∈cy g->p∈cy c)(v:∀ p,p∈cC g->p∈cC c):aT P m L g :=
 ⟨fun k d q=>h.1 k d (h1 _ q),h.2.1,fun k d q=>h.2.2 k d (v _ q)⟩
def NB{a:AV}{b:Bool}(h:CR a=some b):a=.lit (.bool b):=by
 unfold CR at h;split at h
 ·cases h; rfl
 ·cases h
def NC{E E':af}:∀{g:List AV} {d:List ao},CT g=true->ax E g d->ax E' g d
 | [],[],_,_=>by simp[ax]
 | [],_::_,_,h=>by simp[ax]at h
 | a::g,d,k,h=>by
  unfold CT at k;split at k
  ·rename_i q; cases q
  ·rename_i q
   cases q;cases d with
   |nil=>simp[ax]at h
   | cons u d =>
    simp only[ax,ad]at h|-;exact⟨h.1,NC k h.2⟩
  ·cases k
def YB{E E':af}{v:AV}{u:ao}(d:CU v=true)(h:ad E v u):ad E' v u:=by
 unfold CU at d;split at d
 ·simpa only[ad]using h
 ·simp only [ad] at h |-
  obtain⟨cs,e,g⟩:=h;exact⟨cs,e,NC d g⟩
 ·cases d
def af.bare(E:af)(w:World):af:={ w:=w,H:=[],ae:=[],X:=E.X.re fh }
def CX{E:af}{w:World}(b:Nat):¬ (E.bare w).ab b:=by rintro(⟨id,c,h⟩|⟨l,k,c,h⟩); simp[af.bare]at h; simp[af.bare,fh]at h
def rG(E:af):E.bU (E.bare E.w):=⟨fun b hb=>⟨⟨hb.1,CX b,hb.2.2⟩,rfl⟩⟩
def YC{E:af}(HE:aJ E):aJ (E.bare E.w):=by
 refine⟨rfl,?_,?_,HE.X,?_,HE.gL.bU (rG E),fun l k l' g b m n d=>by simp[af.bare,fh]at d,fun i b m l k n hi=>by simp[af.bare]at hi,fun l k b m d=>by simp[af.bare,fh]at d,fun i j o o' l hi=>by simp[af.bare]at hi,fun l _ k q d=>by simp[af.bare,fh]at d⟩
 ·intro i j b m n hi; simp[af.bare]at hi
 ·intro i b m hi; simp[af.bare]at hi
 ·intro i o hi; simp[af.bare]at hi
def ND{E:af}(HE:aJ E){H:List aw}(hH:E.H=az H){id al n w:Nat}{ks:List Kd}{rZ:LL}{c:ao}
  (I:H[id]? = some (.vQ ks al rZ)) (M:ks.length=w) (hn:n=rZ.length) (d:ad E (.vQ w id al 0 n) c):ad (E.bare E.w) (.listF ks rZ) c:=by
 subst M hn;have h:E.H[id]? = some (.vQ ks.length al (rZ.map (aX ks))):=by rw[hH]; exact bu I
 have ho:=HE.obj id _ h;rw[kq];simp only[ad]at d|-;obtain⟨⟨aN,cap,rfl,y,_⟩,_,N⟩:=d;obtain⟨q1,O⟩:=N ⟨_,h,rfl⟩;have k:fv (rZ.map (aX ks)):=by
  intro r d;obtain⟨g,_,rfl⟩:=dB.1 d;exact gJ ks g
 refine⟨k,aN,cap,by simp,by simpa using y,?_⟩;simp only[aZ]at ho;rcases ho with⟨h1,q⟩|⟨b,m,h1,q,U,_,V⟩
 ·exact .inl q
 ·obtain ⟨g1, o, W, v⟩ := O b m h1
  by_cases hm:rZ=[]
  ·subst hm; exact .inl rfl
  ·right
   have:0<rZ.length:=by cases rZ with|nil=>exact(hm rfl).elim|cons _ _=>simp
   simp at U;have ho:=W (by omega);simp at ho;subst ho;simp only[mq]at v;refine⟨b,0,v.1,⟨(HE.lt id b m h1).1,CX b,(HE.lt id b m h1).2⟩,?_⟩;exact kX (rG E) _ k rfl V
def YD{E:af}(HE:aJ E){H:List aw}(hH:E.H=az H){id k:Nat}{cells:List AV}{c:ao} (v:H[id]? = some (.raw (.box cells))) (h:AV.bM cells=true)
  (q:ad E (.ptr id 0 k 0 0) c):ad (E.bare E.w) (.cptr cells) c:=by
 have g:E.H[id]? = some (.box cells):=by rw[hH]; exact bu v
 have ho:=HE.obj id _ g;simp only[aZ]at ho;obtain⟨b,n,h1,N,y⟩:=ho;simp only[ad]at q|-;obtain⟨_,_,I⟩:=q;obtain⟨O,U,d,M⟩:=I ⟨_,g,rfl⟩;rw[h1]at d;simp only[bf,bo]at d;obtain⟨rfl,rfl⟩:=d;refine⟨h,b,0,by rw[M]; simp,⟨(HE.lt id b n h1).1,CX b,(HE.lt id b n h1).2⟩,?_⟩;exact vd (rG E) cells h rfl y
def NF{E:af}(HE:aJ E){H:List aw}(hH:E.H=az H){a q:AV}{b:Bool}{c:ao}(h:zA H a=(b,q))(hb:b=true)(d:q.closed=true)(y:ad E a c):ad (E.bare E.w) q c:=by
 unfold zA at h;split at h
 ·split at h
  ·rename_i w id al oF n ks v rZ g
   split at h
   ·rename_i I
    obtain⟨rfl,M,rfl⟩:=I;simp only[bo]at h;obtain⟨h1,rfl⟩:=h;subst hb;exact ND HE hH g M (bz h1) y
   ·cases h; simp[AV.closed]at d
  ·cases h; simp[AV.closed]at d
 ·split at h
  ·rename_i id al k row O _ cells g
   split at h
   ·rename_i I
    obtain⟨rfl,rfl,rfl,N⟩:=I;cases h;exact YD HE hH g N y
   ·cases h; simp[AV.closed]at d
  ·cases h; simp[AV.closed]at d
 ·cases h
  exact fE (rG E) _ d y
def NG{E:af}(HE:aJ E){H:List aw}(hH:E.H=az H):∀{as g:List AV} {b:Bool} {cs:List ao},tQ H as=(b,g)->b=true->AV.bM g=true->ax E as cs ->
  ax (E.bare E.w) g cs
 | [],g,b,cs,h,_,_,d=>by
  simp only[tQ]at h;cases h;cases cs with
  |nil=>simp[ax]
  |cons _ _=>simp[ax]at d
 | a::as,g,b,cs,h,hb,k,d=>by
  cases cs with
  |nil=>simp[ax]at d
  | cons c cs =>
   simp only[ax]at d;cases q:zA H a with
   |mk I M =>
   cases v:tQ H as with
   |mk N y =>
   simp only[tQ,q,v,bo]at h;obtain⟨h1,rfl⟩:=h;subst h1;simp only[aK]at hb;simp only[AV.bM,aK]at k;simp only[ax];exact⟨NF HE hH q hb.1 k.1 d.1,NG HE hH v hb.2 k.2 d.2⟩
def YE{E:af}(HE:aJ E){H:List aw}(hH:E.H=az H){a d:AV}{b:Bool}{c:ao}(h:CS H a=(b,d))(hb:b=true)(k:d.closed=true)(g:ad E a c):ad (E.bare E.w) d c:=by
 unfold CS at h;split at h
 ·rename_i f caps
  cases q:tQ H caps with
  |mk I y =>
  rw[q]at h;cases h;simp only[ad]at g|-;obtain⟨cs,e,v⟩:=g;exact⟨cs,e,NG HE hH q hb (by simpa only[AV.closed]using k) v⟩
 ·exact NF HE hH h hb k g
def NH{E:af}(HE:aJ E){H:List aw}(hH:E.H=az H):∀{as g:List AV} {b:Bool} {cs:List ao},rD H as=(b,g)->b=true->AV.bM g=true->ax E as cs ->
  ax (E.bare E.w) g cs
 | [],g,b,cs,h,_,_,d=>by
  simp only[rD]at h;cases h;cases cs with
  |nil=>simp[ax]
  |cons _ _=>simp[ax]at d
 | a::as,g,b,cs,h,hb,k,d=>by
  cases cs with
  |nil=>simp[ax]at d
  | cons c cs =>
   simp only[ax]at d;cases q:CS H a with
   |mk I M =>
   cases v:rD H as with
   |mk N y =>
   simp only[rD,q,v,bo]at h;obtain⟨h1,rfl⟩:=h;subst h1;simp only[aK]at hb;simp only[AV.bM,aK]at k;simp only[ax];exact⟨YE HE hH q hb.1 k.1 d.1,NH HE hH v hb.2 k.2 d.2⟩
def YF{P:aj}{f:bP}{args d:List AV}{H:List aw}{b:Bool}{v:AV}(I:dP P f d v)(M:rD H args=(b,d))(hb:b=true)(y:AV.bM d=true)
  (N:CU v=true):fO P f args (az H) v (az H):=by
 intro E k hH HE q;refine(I [] (E.bare E.w) k rfl (YC HE) (NH HE hH M hb y q)).mono ?_;rintro _ w' ⟨c,O,H',rfl,⟨rfl,rfl⟩,W,r',U,g2,g⟩;have h:Ext E.w w':=⟨g.size,fun x V=>g.same x V (CX x),g.env⟩
 refine⟨c,O,az H,rfl,⟨rfl,rfl⟩,E.ae,E.X.r,YB N U,?_,?_⟩
 ·rw[<-hH]; exact HE.ext h
 ·rw[<-hH]; exact af.lH h
section sound
variable {P:aj} {τ:aD}
def zI{ah:Array aU}{o:aU}{s:aH}{v:AV}(d:cH ah s.fr o=some true)(g:dG τ.pf o.op=.pure)
  (h:j7 P s.eval o.op=some v\/∃ f args,jK s.eval o.op=some (f,args)/\iJ P f=true/\dP P f args v):Yields P τ.pf ah o s.ar v (az s.H):=by
 unfold Yields;rw[show s.ar.fr=s.fr from rfl,d];simp only[g,aH.po];exact⟨rfl,h⟩
def tT{ah:Array aU}{o:aU}{s:aH}{v:AV}{H':List ai}(d:cH ah s.fr o=some true)(g:dG τ.pf o.op=.write)
  (h:dD P s.eval (az s.H) o.op=some (v,H')\/∃ f args,jK s.eval o.op=some (f,args)/\iJ P f=true/\fO P f args (az s.H) v H'):Yields P τ.pf ah o s.ar v H':=by
 unfold Yields;rw[show s.ar.fr=s.fr from rfl,d];simp only[g,aH.po];exact .inl h
def fP{H:List aw}{id A:Nat}{o:aw}(h:A≠id):(H.set id o)[A]? = H[A]? := bg (Ne.symm h)
def lS{H:List aw}{A:Nat}{o:aw}(h:A<H.length):(H++[o])[A]? = H[A]? := di h
def NI{P:aj}{t:aF}{x v:AV}{H H':List aw}{b:Bool}{A:Nat}(h:vS P t x v H=some (b,H'))(g:eH x≠some A):H'[A]? = H[A]? := by
 unfold vS at h;split at h
 case h_2=>cases h
 rename_i n q cs id al w row k y bT;have d:A≠id:=fun e=>g (by rw[e]; rfl);split at h
 case isFalse=>cases h
 split at h
 ·split at h
  ·split at h
   ·cases h; exact fP d
   ·cases h
  ·split at h
   ·cases h; exact fP d
   ·cases h
 ·split at h
  ·split at h
   ·cases h; exact fP d
   ·cases h
  ·cases h
 ·cases h
def YG{P:aj}{t xt:aF}{s x v:AV}{H H':List aw}{b:Bool}{A:Nat}(h:vT P t xt s x H=some (b,v,H'))(d:A<H.length)(g:eH s≠some A):H'[A]? = H[A]? := by
 unfold vT at h;split at h
 case h_2=>cases h
 split at h
 case h_2=>cases h
 split at h
 case isFalse=>cases h
 split at h
 ·split at h
  ·split at h
   ·cases h; exact lS d
   ·cases h
  ·cases h
 ·split at h
  ·split at h
   ·cases h; exact lS d
   ·cases h
  ·cases h
 ·split at h
  ·split at h
   ·split at h
    ·cases h; exact fP fun e=>g (by rw[e]; rfl)
    ·cases h
   ·cases h
  ·cases h
 ·cases h
def YH{P:aj}{t xt:aF}{s x v:AV}{H H':List aw}{b:Bool}{A:Nat}(h:wa P t xt s x H=some (b,v,H'))(d:A<H.length):H'[A]? = H[A]? := by
 unfold wa at h;split at h
 case h_2=>cases h
 split at h
 case h_2=>cases h
 split at h
 case h_2=>cases h
 split at h
 case h_2=>cases h
 split at h
 ·cases h; exact lS d
 ·cases h
def YI{P:aj}{t:aF}{x:AV}{H H':List aw}{b:Bool}{A:Nat}(h:zu P t x H=some (b,H'))(d:eH x≠some A):H'[A]? = H[A]? := by
 unfold zu at h;split at h
 case h_2=>cases h
 split at h
 case h_2=>cases h
 split at h
 case h_2=>cases h
 split at h
 ·cases h; exact fP fun e=>d (by rw[e]; rfl)
 ·cases h
def NJ{P:aj}{t:aF}{m k v:AV}{H H':List aw}{b:Bool}{A:Nat}(h:vX P t m k v H=some (b,H'))(d:eH m≠some A):H'[A]? = H[A]? := by
 unfold vX at h;split at h
 case h_2=>cases h
 split at h
 case h_2=>cases h
 split at h
 case h_2=>cases h
 split at h
 ·cases h; exact fP fun e=>d (by rw[e]; rfl)
 ·cases h
def YJ{P:aj}{t:aF}{m k v:AV}{H H':List aw}{b:Bool}{A:Nat}(h:zm P t m k v H=some (b,H'))(d:eH m≠some A)(g:eH v≠some A):H'[A]? = H[A]? := by
 unfold zm at h;split at h
 case h_2=>cases h
 split at h
 case h_2=>cases h
 split at h
 case h_2=>cases h
 split at h
 ·cases h
  rw[fP fun e=>g (by rw[e]; rfl)];exact fP fun e=>d (by rw[e]; rfl)
 ·cases h
def YK{P:aj}{t:aF}{m k v:AV}{H H':List aw}{b:Bool}{A:Nat}(h:zw P t m k v H=some (b,H'))(d:eH m≠some A):H'[A]? = H[A]? := by
 unfold zw at h;split at h
 case h_2=>cases h
 split at h
 case h_2=>cases h
 split at h
 case h_2=>cases h
 split at h
 ·cases h
  exact fP fun e=>d (by rw[e]; rfl)
 ·cases h
def YL{P:aj}{t:aF}{m k v:AV}{H H':List aw}{b:Bool}{A:Nat}(h:zx P t m k H=some (b,v,H'))(d:eH m≠some A):H'[A]? = H[A]? := by
 unfold zx at h;split at h
 case h_2=>cases h
 split at h
 case h_2=>cases h
 split at h
 case h_2=>cases h
 split at h
 ·cases h
  exact fP fun e=>d (by rw[e]; rfl)
 ·cases h
def YM{m s v:AV}{H H':List aw}{b:Bool}{A:Nat}(h:zy m s v H=some (b,H'))(d:eH m≠some A)(g:eH v≠some A):H'[A]? = H[A]? := by
 unfold zy at h;split at h
 case h_2=>cases h
 split at h
 case h_2=>cases h
 split at h
 ·cases h
  rw[fP fun e=>g (by rw[e]; rfl)];exact fP fun e=>d (by rw[e]; rfl)
 ·cases h
def YN{P:aj}{t:aF}{m k v:AV}{H H':List aw}{b:Bool}{A:Nat}(h:zl P t m k H=some (b,v,H'))(d:A<H.length)(g:eH m≠some A):H'[A]? = H[A]? := by
 unfold zl at h;split at h
 case h_2=>cases h
 split at h
 case h_2=>cases h
 split at h
 case h_2=>cases h
 split at h
 ·cases h
  rw[lS (by simpa using d)];exact fP fun e=>g (by rw[e]; rfl)
 ·cases h
def YO{P:aj}{t:aF}{x v:AV}{H H':List aw}{b:Bool}{A:Nat}(h:zg P t x v H=some (b,H'))(d:eH x≠some A):H'[A]? = H[A]? := by
 unfold zg at h;split at h
 case h_2=>cases h
 split at h
 case h_2=>cases h
 split at h
 case isFalse=>cases h
 split at h
 ·cases h
  exact fP fun e=>d (by rw[e]; rfl)
 ·cases h
def YP{P:aj}{t:aF}{x v:AV}{H H':List aw}{b:Bool}{A:Nat}(h:zh P t x v H=some (b,H'))(d:eH x≠some A)(g:eH v≠some A):H'[A]? = H[A]? := by
 unfold zh at h;split at h
 case h_2=>cases h
 split at h
 case h_2=>cases h
 split at h
 case isFalse=>cases h
 split at h
 ·cases h
  rw[fP fun e=>g (by rw[e]; rfl)];exact fP fun e=>d (by rw[e]; rfl)
 ·cases h
def YQ{P:aj}{t:aF}{m k v:AV}{H H':List aw}{b:Bool}{A:Nat}(h:zp P t m k H=some (b,v,H'))(d:A<H.length)(g:eH m≠some A):H'[A]? = H[A]? := by
 unfold zp at h;split at h
 case h_2=>cases h
 split at h
 case h_2=>cases h
 split at h
 case h_2=>cases h
 split at h
 ·cases h
  rw[di (by simpa using d)];exact fP fun e=>g (by rw[e]; rfl)
 ·cases h
def YR{P:aj}{t:aF}{m k v:AV}{H H':List aw}{b:Bool}{A:Nat}(h:zq P t m k v H=some (b,H'))(g:eH m≠some A)(d:A∉mG v):H'[A]? = H[A]? := by
 unfold zq at h;split at h
 case h_2=>cases h
 split at h
 case h_2=>cases h
 split at h
 case h_2=>cases h
 split at h
 ·cases h
  rw[fP fun e=>d (by rw[<-e]; simp[mG,eH])];rw[fP fun e=>d (by rw[<-e]; simp[mG,eH])];exact fP fun e=>g (by rw[e]; rfl)
 ·cases h
def YS{m s v:AV}{H H':List aw}{b:Bool}{A:Nat}(h:zo m s v H=some (b,H'))(d:eH m≠some A)(g:eH v≠some A):H'[A]? = H[A]? := by
 unfold zo at h;split at h
 case h_2=>cases h
 split at h
 case h_2=>cases h
 split at h
 ·cases h
  rw[fP fun e=>g (by rw[e]; rfl)];exact fP fun e=>d (by rw[e]; rfl)
 ·cases h
def YT{P:aj}{t:aF}{m k v:AV}{H H':List aw}{b:Bool}{A:Nat}(h:zn P t m k H=some (b,v,H'))(d:A<H.length)(g:eH m≠some A):H'[A]? = H[A]? := by
 unfold zn at h;split at h
 case h_2=>cases h
 split at h
 case h_2=>cases h
 split at h
 case h_2=>cases h
 split at h
 ·cases h
  rw[lS (by simpa using d)];exact fP fun e=>g (by rw[e]; rfl)
 ·cases h
def YU{P:aj}{t:aF}{m k:AV}{H H':List aw}{b:Bool}{A:Nat}(h:zt P t m k H=some (b,H'))(d:eH m≠some A):H'[A]? = H[A]? := by
 unfold zt at h;split at h
 case h_2=>cases h
 split at h
 case h_2=>cases h
 split at h
 ·cases h; exact fP fun e=>d (by rw[e]; rfl)
 ·cases h
def YV{P:aj}{t:aF}{l c v:AV}{H H':List aw}{b:Bool}{A:Nat}(h:zi P t l c H=some (b,v,H'))(d:A<H.length):H'[A]? = H[A]? := by
 unfold zi at h;split at h
 case h_2=>cases h
 split at h
 case h_2=>cases h
 split at h
 case h_2=>cases h
 split at h
 case h_2=>cases h
 split at h
 ·cases h; exact lS d
 ·cases h
def YW{P:aj}{t:aF}{n:Nat}{parts:List (Nat × AV)}{v:AV}{H H':List aw}{b:Bool}{A:Nat}(h:vV P t n parts H=some (b,v,H'))(d:A<H.length):H'[A]? = H[A]? := by
 unfold vV at h;split at h
 case h_2=>cases h
 split at h
 case h_2=>cases h
 split at h
 case h_2=>cases h
 split at h
 case h_2=>cases h
 split at h
 case h_2=>cases h
 split at h
 ·cases h; exact lS d
 ·cases h
def H7{P:aj}{r:cw->AV}{H H':List aw}{o:Op}{v:AV}{b:Bool}{A:Nat}(h:lj P r H o=some (b,v,H'))(g:A<H.length)(hA:A∉o.operands.toList.flatMap fun x=>mG (r x)):H'[A]? = H[A]? := by
 have no:∀ x∈o.operands.toList,eH (r x)≠some A:=fun x I e=>hA (F4.2 ⟨x,I,HV e⟩);cases o<;>simp only[lj]at h<;>try cases h
 case alloc t =>
  split at h
  ·split at h
   ·cases h; exact lS g
   ·cases h
  ·split at h
   ·cases h; exact lS g
   ·cases h
 case box t x =>
  split at h
  ·cases h; exact lS g
  ·cases h
 case store t a x =>
  split at h
  ·rename_i q H1 d
   cases h;exact NI d (no a (by simp[fg]))
  ·split at h
   ·rename_i q H1 d
    cases h;exact YO d (no a (by simp[fg]))
   ·split at h
    ·rename_i q H1 d
     cases h;exact YP d (no a (by simp[fg])) (no x (by simp[fg]))
    ·cases h
 case makeSlice t l c=>exact YV h g
 case buildSlice t n ps=>exact YW h g
 case range t x =>
  split at h
  ·cases h; exact lS g
  ·cases h
 case next it isString =>
  cases isString with
  |false=>cases h
  | true =>
   simp only[]at h;split at h
   ·rename_i id k I
    split at h
    ·split at h
     ·cases h; exact fP fun e=>no it (by simp[fg]) (by rw[I,e]; rfl)
     ·cases h; rfl
    ·cases h
   ·cases h
 case makeMap t res =>
  cases res with
  |some _=>cases h
  | none =>
   simp only[]at h;split at h
   ·split at h
    ·cases h; exact lS g
    ·split at h
     ·cases h; exact lS g
     ·split at h
      ·split at h
       ·cases h; exact lS g
       ·cases h
      ·cases h
    ·cases h
   ·cases h
 case mapUpdate t m k x =>
  split at h
  ·rename_i q H1 d
   cases h;exact NJ d (no m (by simp[fg]))
  ·split at h
   ·rename_i q H1 d
    cases h;exact YJ d (no m (by simp[fg])) (no x (by simp[fg]))
   ·split at h
    ·rename_i q H1 d
     cases h;exact YK d (no m (by simp[fg]))
    ·split at h
     ·rename_i q H1 d
      cases h;exact YR d (no m (by simp[fg])) fun e=>hA (F4.2 ⟨x,by simp[fg],e⟩)
     ·cases h
 case lookup t m k ok =>
  cases ok with
  |true=>cases h
  | false =>
   simp only[]at h;split at h
   ·rename_i y N
    cases h;exact YN N g (no m (by simp[fg]))
   ·exact YQ h g (no m (by simp[fg]))
 case mapEntry t m k =>
  split at h
  ·rename_i y N
   cases h;exact YT N g (no m (by simp[fg]))
  ·exact YL h (no m (by simp[fg]))
 case entryStore t m s x =>
  split at h
  ·rename_i q H1 d
   cases h;exact YS d (no m (by simp[fg])) (no x (by simp[fg]))
  ·split at h
   ·rename_i q H1 d
    cases h;exact YM d (no m (by simp[fg])) (no x (by simp[fg]))
   ·cases h
 case insert t m k x =>
  split at h
  ·rename_i q H1 d
   cases h;exact NJ d (no m (by simp[fg]))
  ·cases h
 case call c =>
  have na:∀ x∈c.args.toList,eH (r x)≠some A:=fun x I=>no x (by
   simp only[fg,uX];simp at I|-;exact .inr I)
  split at h
  ·split at h
   ·rename_i s x t xt M U
    have V:=na s (by rw[M]; simp);split at h
    ·exact YH h g
    ·exact YG h g V
   ·cases h
  ·split at h
   ·rename_i x t M U
    have O:=na x (by rw[M]; simp);split at h
    ·rename_i d; cases h; exact YI d O
    ·cases h
   ·cases h
  ·split at h
   ·rename_i x k t _ M U
    have O:=na x (by rw[M]; simp);split at h
    ·rename_i d; cases h; exact YU d O
    ·cases h
   ·cases h
  ·cases h
def YX{P:aj}{r:cw->AV}{H H':List aw}{o:Op}{b:Bool}{A:Nat}(h:wm P r H o=some (b,H'))(hA:A∉o.operands.toList.flatMap fun x=>mG (r x)):H'[A]? = H[A]? := by
 have no:∀ x∈o.operands.toList,eH (r x)≠some A:=fun x k e=>hA (F4.2 ⟨x,k,HV e⟩);unfold wm at h;split at h
 case h_2=>cases h
 rename_i t a x;split at h
 case h_2=>cases h
 rename_i v y H1 d;split at h
 case h_2=>cases h
 rename_i I M q;simp only[bf,bo]at h;obtain⟨_,rfl⟩:=h;rw[NI q (no a (by simp[fg]))];unfold HS at d;split at d
 case h_3=>cases d
 ·rename_i w id al oF n g
  split at d
  case h_2=>cases d
  split at d
  case isFalse=>cases d
  simp only[bf,bo]at d;obtain⟨_,_,rfl⟩:=d;refine fP fun e=>no x (by simp[fg]) ?_;rw[g,e];rfl
 ·rename_i w id al oF n cs g
  split at d
  case h_2=>cases d
  split at d
  case isFalse=>cases d
  simp only[bf,bo]at d;obtain⟨_,_,rfl⟩:=d;refine fP fun e=>hA (F4.2 ⟨x,by simp[fg],?_⟩);rw[g,e];simp[mG,eH]
def CY(U:aI P τ){ah:Array aU}{o:aU}{s:aH}{k:AV->List aw->bh}{Q:cD->aH->Prop}(q:cH ah s.fr o=some true)
  (h:(nD P τ o s k).holds Q):∃ v H',Yields P τ.pf ah o s.ar v (az H')/\(dG τ.pf o.op=.write->∀ A,A∉lk τ s.eval s.H o.op->A<s.H.length->H'[A]? = s.H[A]?)/\(k v H').holds Q:=by
 unfold nD at h;split at h
 ·rename_i c a b ho
  split at h
  ·rename_i t hb
   have hb:=NB hb;refine⟨bif t then s.eval a else s.eval b,s.H,zI q (by rw[ho]; rfl) (.inl (by rw[ho]; simp only[j7,hb])),fun _ _ _ _=>rfl,?_⟩;simp only[bh.holds]at h;cases t with
   |true=>exact h.1 rfl
   |false=>exact h.2 rfl
  ·exact h.elim
 ·rename_i t a ho
  split at h
  ·rename_i b v V
   simp only[bh.holds]at h;refine⟨v,s.H,?_,fun _ _ _ _=>rfl,h.2⟩;unfold Yields;rw[show s.ar.fr=s.fr from rfl,q];simp only[ho,dG,aH.po];exact⟨rfl,by simp only[gA]; exact XU V h.1⟩
  ·exact h.elim
 ·rename_i t m x ok ho
  have htouch:lk τ s.eval s.H o.op=o.op.operands.toList.flatMap fun x=>mG (s.eval x):=by
   have hnc:jK s.eval o.op=none:=by rw[ho]; rfl
   simp only[lk,hnc]
  split at h
  ·rename_i b v V
   split at h
   ·rename_i g
    simp only[bh.holds]at h;refine⟨v,s.H,?_,fun _ _ _ _=>rfl,h.2⟩;unfold Yields;rw[show s.ar.fr=s.fr from rfl,q];simp only[g,aH.po];rw[ho];exact⟨rfl,by
     have e:=Nh V;rw[show az s.H=s.ar.H from rfl]at e;simp only[gA,e]⟩
   ·rename_i g
    simp only[bh.holds]at h;refine⟨v,s.H,tT q g (.inl ?_),fun _ _ _ _=>rfl,h.2⟩;rw[ho];simp only[dD,Nh V]
   ·exact h.elim
  ·split at h
   ·rename_i g
    split at h
    ·rename_i b v H' d
     simp only[bh.holds]at h;exact⟨v,H',tT q g (.inl (HJ d h.1)),fun _ A hA O=>H7 d O (by rw[htouch]at hA; exact hA),h.2⟩
    ·exact h.elim
   ·rename_i g
    split at h
    ·rename_i b v V
     simp only[bh.holds]at h;obtain⟨q1,q2⟩:=Yf V h.1;refine⟨v,s.H,?_,fun _ _ _ _=>rfl,h.2⟩;unfold Yields;rw[show s.ar.fr=s.fr from rfl,q];simp only[g,aH.po];rw[ho];exact⟨rfl,by simp only[gA]; rw[show ia P t (s.eval m) (s.eval x) ok s.ar.H=none from q1]; exact q2⟩
    ·exact h.elim
   ·exact h.elim
 ·rename_i t x i ho
  have g:dG τ.pf o.op=.pure:=by rw[ho]; rfl
  split at h
  ·rename_i n p0 p1 y
   simp only[bh.holds]at h;refine⟨bif aG n.toNat 0 then p0 else p1,s.H,zI q g (.inl (by rw[ho]; simp only[j7,Yv y h.1])),fun _ _ _ _=>rfl,?_⟩;cases hb:aG n.toNat 0 with
   |true=>exact h.2.1 hb
   |false=>exact h.2.2 hb
  ·split at h
   ·rename_i b v d
    simp only[bh.holds]at h;exact⟨v,s.H,zI q g (.inl (Ns d h.1)),fun _ _ _ _=>rfl,h.2⟩
   ·exact h.elim
 ·split at h
  ·rename_i g
   split at h
   ·rename_i v d
    refine⟨v,s.H,?_,fun _ _ _ _=>rfl,h⟩;unfold Yields;rw[show s.ar.fr=s.fr from rfl,q];simp only[g,aH.po];exact⟨rfl,Yt d⟩
   ·exact h.elim
  ·rename_i g
   split at h
   ·rename_i f args y
    split at h
    ·rename_i b v d
     simp only[bh.holds]at h;obtain⟨M,N⟩:=U.T f args b v d h.1;exact⟨v,s.H,zI q g (.inr ⟨f,args,y,M,N⟩),fun _ _ _ _=>rfl,h.2⟩
    ·exact h.elim
   ·split at h
    ·rename_i b v d
     simp only[bh.holds]at h;exact⟨v,s.H,zI q g (.inl (Ns d h.1)),fun _ _ _ _=>rfl,h.2⟩
    ·exact h.elim
  ·rename_i g
   split at h
   ·rename_i f args y
    split at h
    ·rename_i b v H' d
     simp only[bh.holds]at h;obtain⟨M,N⟩:=U.W f args s.H b v H' d h.1;exact⟨v,H',tT q g (.inr ⟨f,args,y,M,N⟩),fun _ A hA O=>by
      simp only[lk,y]at hA;rcases Nu d hA with h1|h1
      ·exact U.C f args s.H b v H' d A h1 O
      ·exact h1,h.2⟩
    ·rename_i hW0
     split at h
     ·rename_i t hi
      obtain⟨M,v,H',N,g3,g4⟩:=U.I f args s.H t hi _ (bh.CQ h);exact⟨v,H',tT q g (.inr ⟨f,args,y,M,N⟩),fun _ A hA O=>g3 A (by simp only[lk,y]at hA; exact Yx hW0 hA) O,g4⟩
     ·split at h
      ·rename_i b v d
       simp only[bh.holds]at h;obtain⟨M,N⟩:=U.T f args b v d h.1;exact⟨v,s.H,tT q g (.inr ⟨f,args,y,M,N _⟩),fun _ _ _ _=>rfl,h.2⟩
      ·cases hx : rD s.H args with
       |mk vb args' =>
       rw[hx]at h;simp only[]at h;split at h
       ·rename_i b v d
        split at h
        ·rename_i hfl
         simp only[aK]at hfl;simp only[bh.holds,aK]at h;obtain⟨M,N⟩:=U.T f args' b v d h.1.2;exact⟨v,s.H,tT q g (.inr ⟨f,args,y,M,YF N hx h.1.1 hfl.2 hfl.1⟩),fun _ _ _ _=>rfl,h.2⟩
        ·exact h.elim
       ·exact h.elim
   ·rename_i hnc
    split at h
    ·rename_i b v H' d
     simp only[bh.holds]at h;exact⟨v,H',tT q g (.inl (HJ d h.1)),fun _ A hA O=>H7 d O (by simpa only[lk,hnc]using hA),h.2⟩
    ·split at h
     ·rename_i b H' d
      simp only[bh.holds]at h;refine⟨.undef,H',?_,fun _ A hA O=>YX d (by simpa only[lk,hnc]using hA),h.2⟩;unfold Yields;rw[show s.ar.fr=s.fr from rfl,q];simp only[g,aH.po];exact .inr (.inr (Yu d h.1))
     ·exact h.elim
def NK{ah:Array aU}{s:aH}{o:aU}{t:Tmp}{b d:Bool}(h:rC ah s.fr o=.test t b d) :
  s.fr[t]? = some (.lit (.bool b))/\cH ah s.fr o=some (b==d):=by
 unfold rC at h;unfold cH;cases g:o.guard with
 |none=>rw[g]at h; cases h
 | some k =>
  obtain⟨j,w⟩:=k;rw[g]at h;simp only[]at h|-;split at h
  ·rename_i t' q
   split at h
   ·rename_i v hb
    cases h;exact⟨hb,by rw[q]; simp only[hb]⟩
   ·cases h
   ·cases h
  ·cases h
def H8{ah:Array aU}{s:aH}{o:aU}(h:rC ah s.fr o=.no):cH ah s.fr o=some false:=by
 unfold rC at h;unfold cH;cases d:o.guard with
 |none=>rw[d]at h; cases h
 | some g =>
  obtain⟨j,w⟩:=g;rw[d]at h;simp only[]at h|-;split at h
  ·rename_i t' k
   split at h
   ·cases h
   ·rename_i hb
    rw[k];simp only[hb]
   ·cases h
  ·cases h
def NL{ah:Array aU}{s:aH}{o:aU}(h:rC ah s.fr o=.yes):cH ah s.fr o=some true:=by
 unfold rC at h;unfold cH;cases d:o.guard with
 |none=>rfl
 | some g =>
  obtain⟨j,w⟩:=g;rw[d]at h;simp only[]at h;split at h
  ·split at h<;>cases h
  ·cases h
def CZ{s:aH}{t:Tmp}{b:Bool} (h:s.fr[t]? = some (.lit (.bool b))):s.aq t b=s:=by
 unfold aH.aq;rw[ph h]
def YY(M:aI P τ){ah:Array aU}{o:aU}{s:aH}{k:aH->bh}{Q:cD->aH->Prop}(h:(HU P τ ah o s k).holds Q) :
  ∃ v H',Yields P τ.pf ah o s.ar v (az H')/\(k (s.put o.dst v H')).holds Q:=by
 have skip:cH ah s.fr o=some false->Yields P τ.pf ah o s.ar (.tuple []) (az s.H):=by
  intro d;unfold Yields;rw[show s.ar.fr=s.fr from rfl,d];exact⟨rfl,rfl⟩
 unfold HU at h;split at h
 ·exact h.elim
 ·rename_i d
  exact⟨_,_,skip (H8 d),h⟩
 ·rename_i d
  obtain⟨v,H',q,_,y⟩:=CY M (NL d) h;exact⟨v,H',q,y⟩
 ·rename_i t b N d
  obtain⟨h1,I⟩:=NK d;simp only[bh.holds]at h;cases b with
  | true =>
   have g:=h.1 rfl;rw[CZ h1]at g;cases N with
   | true =>
    obtain⟨v,H',q,_,y⟩:=CY M I g;exact⟨v,H',q,y⟩
   |false=>exact⟨_,_,skip I,g⟩
  | false =>
   have g:=h.2 rfl;rw[CZ h1]at g;cases N with
   |true=>exact⟨_,_,skip I,g⟩
   | false =>
    obtain⟨v,H',q,_,y⟩:=CY M I g;exact⟨v,H',q,y⟩
def C0(d:aI P τ){ah:Array aU}{Q:cD->aH->Prop}:∀{l:List aU} {s:aH} {k:aH->bh},(rE P τ ah l s k).holds Q->∃ s',k_ P τ.pf ah l s.ar s'.ar/\(k s').holds Q
 | [],s,k,h=>⟨s,rfl,h⟩
 | o::l,s,k,h=>by
  obtain⟨v,H',h1,g⟩:=YY d h;obtain⟨s',q,y⟩:=C0 d g;exact⟨s',⟨v,az H',h1,q⟩,y⟩
def Acc.le(a b:Acc):Prop:=(∀ x∈a.R,x∈b.R)/\∀ x∈a.W,x∈b.W
def Acc.ok(ah:Array aU)(j:Nat)(a:Acc):Prop:=(∀ x∈a.R,x.1<j)/\(∀ x∈a.W,x.1<j)/\tJ ah a.R a.W
def H9{aA:List Nat}{i:Nat}(h:zF aA i=true):i∉aA:=by
 intro hm;have:aA.any (aG i)=true:=List.any_eq_true.2 ⟨i,hm,by simp⟩;simp[zF,this]at h
def YZ{ah:Array aU}{j id:Nat}{a b:Acc}(ha:a.ok ah j)(h:HW ah j id a=some b):b.ok ah (j+1)/\a.le b/\(j,id)∈b.R:=by
 unfold HW at h;split at h
 ·rename_i g
  cases h;simp only[dN,uY,aK,iZ]at g;obtain⟨h1,k,q⟩:=ha;refine⟨⟨fun x d=>?_,fun x d=>BT (k x d),fun i v hi e he=>?_,q.2⟩,⟨fun x d=>dp _ d,fun x d=>d⟩,cX⟩
  ·rcases cq.1 d with rfl | d
   ·exact Vt _
   ·exact BT (h1 x d)
  ·rcases cq.1 hi with I | hi
   ·cases I
    have N:=k e he;refine⟨fun y=>absurd y (by omega),fun _ M=>?_⟩;rcases g e he with h|h
    ·rw[M]at h; cases h
    ·exact⟨H9 h.1,h.2⟩
   ·exact q.1 i v hi e he
 ·cases h
def NM{ah:Array aU}{j n:Nat}{T:List Nat}{a b:Acc}(ha:a.ok ah j)(h:CV ah j T n a=some b):b.ok ah (j+1)/\a.le b/\(j,T,n)∈b.W:=by
 unfold CV at h;split at h
 ·rename_i hall
  split at h
  case h_2=>cases h
  rename_i N;cases h;simp only[dN,uY,aK,iZ]at hall N;obtain⟨h1,U,V⟩:=ha;refine⟨⟨fun x k=>BT (h1 x k),fun x k=>?_,fun i O hi e he=>?_,fun e he I d g q id y=>?_,fun e he I d g q id y=>?_⟩,⟨fun x k=>k,fun x k=>dp _ k⟩,cX⟩
  ·rcases cq.1 k with rfl | k
   ·exact Vt _
   ·exact BT (U x k)
  ·rcases cq.1 he with M | he
   ·subst M
    have g:=h1 (i,O) hi;refine⟨fun _ hw=>?_,fun hji=>absurd hji (by simp only at hji g; omega)⟩;rcases hall (i,O) hi with h|h
    ·simp only at hw h; rw[hw]at h; cases h
    ·exact⟨H9 h.1,h.2⟩
   ·exact V.1 i O hi e he
  ·rcases cq.1 d with M | d
   ·subst M
    rcases cq.1 he with v|he
    ·subst v
     exact absurd g (BU _)
    ·rcases N e he with h | h
     ·simp only at q h
      rw[q]at h;cases h
     ·have h4 := h.1 id y
      exact⟨H9 h4.1,h4.2⟩
   ·rcases cq.1 he with v | he
    ·subst v
     have h5:=U I d;exact absurd g (by simp only; omega)
    ·exact V.2.1 e he I d g q id y
  ·rcases cq.1 d with M | d
   ·subst M
    rcases cq.1 he with v|he
    ·subst v
     exact absurd g (BU _)
    ·rcases N e he with h | h
     ·simp only at q h
      rw[q]at h;cases h
     ·exact h.2 id y
   ·rcases cq.1 he with v | he
    ·subst v
     have h5:=U I d;exact absurd g (by simp only; omega)
    ·exact V.2.2 e he I d g q id y
 ·cases h
def Acc.zJ{ah:Array aU}{j:Nat}{a:Acc}(h:a.ok ah j):a.ok ah (j+1):=⟨fun x d=>BT (h.1 x d),fun x d=>BT (h.2.1 x d),h.2.2⟩
def Acc.le_refl(a:Acc):a.le a:=⟨fun _ h=>h,fun _ h=>h⟩
def Acc.le_trans{a b c:Acc}(h:a.le b)(h':b.le c):a.le c:=⟨fun x d=>h'.1 x (h.1 x d),fun x d=>h'.2 x (h.2 x d)⟩
def Acc.only(j:Nat)(a b:Acc):Prop:=∀ x∈b.W,x.1<j->x∈a.W
def Y0{ah:Array aU}{j:Nat}{o:aU}{s:aH}{a b:Acc}(ha:a.ok ah j)(h:HX τ ah j o s a=some b) :
  b.ok ah (j+1)/\a.le b/\(dG τ.pf o.op=.read->∀ id,oC s.eval o.op=some id->(j,id)∈b.R)/\(dG τ.pf o.op=.write->(j,lk τ s.eval s.H o.op,s.H.length)∈b.W):=by
 unfold HX at h;split at h
 ·rename_i d
  cases h;exact⟨Acc.zJ ha,a.le_refl,(fun h=>by rw[d]at h; cases h),(fun h=>by rw[d]at h; cases h)⟩
 ·rename_i d
  split at h
  ·rename_i id k
   obtain⟨q,v,y⟩:=YZ ha h;refine⟨q,v,fun _ I g=>?_,(fun h=>by rw[d]at h; cases h)⟩;rw[k]at g;cases g;exact y
  ·rename_i k
   cases h;refine⟨Acc.zJ ha,a.le_refl,fun _ I g=>?_,(fun h=>by rw[d]at h; cases h)⟩;rw[k]at g;cases g
 ·rename_i d
  obtain⟨q,v,y⟩:=NM ha h;exact⟨q,v,(fun h=>by rw[d]at h; cases h),fun _=>y⟩
def H_{ah:Array aU}{j:Nat}{o:aU}{s:aH}{v:AV}{H':List aw}{b c:Acc}(q:b.le c)(M:dG τ.pf o.op=.read->∀ id,oC s.eval o.op=some id->(j,id)∈b.R)
  (N:dG τ.pf o.op=.write->(j,lk τ s.eval s.H o.op,s.H.length)∈b.W) (O:dG τ.pf o.op=.write->∀ A,A∉lk τ s.eval s.H o.op->A<s.H.length->H'[A]? = s.H[A]?)
  (y:ny ah o.op=true->dG τ.pf o.op=.write->cH ah s.ar.fr o=some true->∀ k,CH c.W j s.ar.H k->Yields P τ.pf ah o ⟨s.ar.fr,nz k s.ar.H⟩ v (nz k (az H'))) :
  (g:(nw ah&&fG o.op)=false)->Step P τ.pf ah c.R c.W j o s.ar v (az H'):=by
 intro g;refine⟨fun d A hA=>?_,fun d _ id I=>q.1 _ (M d id (by rw[<-aH.po]; exact I)),fun h1 h _=>(by rw[h1,h]at g; cases g),y⟩;have:=hA _ (q.2 _ (N d)) rfl;have h:=O d A this.1 this.2;show (az H')[A]? = (az s.H)[A]?
 simp only[az,bY,h]
def step_skip{ah:Array aU}{j:Nat}{o:aU}{s:aH}{c:Acc}(d:cH ah s.fr o=some false):Step P τ.pf ah c.R c.W j o s.ar (.tuple []) (az s.H) :=
 ⟨fun _ _ _=>rfl,fun _ h=>(by rw[show s.ar.fr=s.fr from rfl,d]at h; cases h),fun _ _ _=>⟨rfl,fun _ h=>(h rfl).elim⟩,fun _ _ h=>(by rw[show s.ar.fr=s.fr from rfl,d]at h; cases h)⟩
def NN(y:aI P τ){f:bP}{args:List AV}{v:AV}(I:τ.N f=true):∀(d:List (Nat × ai)) (H H':List aw),τ.W f args H=some (true,v,H')->(∀ p∈d,p.1<H.length/\p.1∉τ.C f args H) ->
  ∃ k g,az k=nz d (az H)/\az g=nz d (az H')/\τ.W f args k=some (true,v,g)
 | [],H,H',h,_=>⟨H,H',rfl,rfl,h⟩
 | p::d,H,H',h,M=>by
  obtain⟨O,U⟩:=M p cX;obtain⟨h1,V⟩:=y.F.2 f I args H true v H' h p.1 (.raw p.2) O U;obtain⟨k,g,q1,q2,q3⟩:=NN y I d _ _ h1 fun q hq=>by
   obtain⟨b1,b2⟩:=M q (dp _ hq);rw[V];exact⟨by simpa using b1,b2⟩
  refine⟨k,g,?_,?_,q3⟩
  ·rw [q1, cQ]
   rfl
  ·rw [q2, cQ]
   rfl
def Y1{o:aU}{s:aH}{k:AV->List aw->bh}{f:bP}{args:List AV}{b:Bool}{v:AV}{H':List aw}(d:tH o.op=true)(h:dG τ.pf o.op=.write)(g:jK s.eval o.op=some (f,args))(y:τ.W f args s.H=some (b,v,H')) :
  nD P τ o s k=.side b (k v H'):=by
 unfold tH at d;split at d
 ·rename_i c q
  unfold nD;rw[q]at h g|-;simp only[h,g,y]
 ·cases d
def NO{r:cw->AV}{op:Op}(h:oD op=true):jK r op=none:=by
 unfold oD at h;split at h
 ·rfl
 ·rename_i c
  split at h
  ·rename_i d
   simp only[jK,CA,d]
  ·cases h
 ·cases h
def Y2{o:aU}{s:aH}{k:AV->List aw->bh}{Q:cD->aH->Prop}(g:oD o.op=true)(I:dG τ.pf o.op=.write)(h:(nD P τ o s k).holds Q) :
  ∃ v H',lj P s.eval s.H o.op=some (true,v,H')/\(k v H').holds Q:=by
 have q:=NO (r:=s.eval) g;have y:wm P s.eval s.H o.op=none:=by
  unfold oD at g;split at g
  ·rename_i d; rw[d]; rfl
  ·rename_i d; rw[d]; rfl
  ·cases g
 have M:nD P τ o s k=match lj P s.eval s.H o.op with
   |some (b,v,H')=>.side b (k v H')
   |none=>.fail:=by
  unfold oD at g;split at g
  ·rename_i d
   unfold nD;rw[d]at I q y|-;simp only[I,q,y]
  ·rename_i d
   unfold nD;rw[d]at I q y|-;simp only[I,q,y]
  ·cases g
 rw[M]at h;split at h
 ·rename_i b v H' N
  simp only[bh.holds]at h;obtain⟨rfl,h⟩:=h;exact⟨v,H',N,h⟩
 ·exact h.elim
def NP{sz:Nat}{x:AV}{H g:List aw}{d:Option (List Kd)}(h:∀ id,eH x=some id->g[id]? = H[id]?):ry sz x g d=ry sz x H d:=by
 cases x with
 | vQ w id al oF n =>
  have:=h id rfl;unfold ry;simp only[this]
 | lit v =>
  cases v with
  |slice b n c=>cases b<;>cases n<;>cases c<;>rfl
  |_=>rfl
 |_=>rfl
def NQ{sz:Nat}{x:AV}{H d:List aw}{z:List ao}(h:∀ id,eH x=some id->d[id]? = H[id]?):tN sz x d z=tN sz x H z:=by
 unfold tN;cases x<;>exact NP h
def C1{α:Type}{H:List α}{x o:α}{id:Nat}(h:id<H.length):(H++[x]).set id o=H.set id o++[x]:=List.set_append_left _ _ h
def Y3{r:cw->AV}{op:Op}(q:oD op=true){H H':List aw}{v:AV}{id:Nat}{o:aw}(h:lj P r H op=some (true,v,H'))(U:id<H.length)(hid:id∉op.operands.toList.flatMap fun x=>mG (r x)) :
  lj P r (H.set id o) op=some (true,v,H'.set id o):=by
 have no:∀ x∈op.operands.toList,eH (r x)≠some id:=fun x y e=>hid (F4.2 ⟨x,y,HV e⟩);unfold oD at q;split at q
 ·rename_i t n parts
  simp only[lj]at h|-;unfold vV at h|-;split at h
  case h_2=>cases h
  rename_i I
  try simp only[I]
  split at h
  case h_2=>cases h
  rename_i M
  try simp only[M]
  split at h
  case h_2=>cases h
  rename_i N
  try simp only[N]
  split at h
  case h_2=>cases h
  rename_i O
  try simp only[O]
  split at h
  case h_2=>cases h
  rename_i d
  try simp only[d]
  split at h
  case isFalse=>cases h
  rename_i g
  try rw[iP g]
  simp only[bf,bo,true_and]at h|-;obtain⟨rfl,rfl⟩:=h;exact⟨by rw[iE],(C1 U).symm⟩
 ·rename_i c
  split at q
  case h_2=>cases q
  rename_i hc;simp only[lj,hc]at h|-;split at h
  case h_2=>cases h
  rename_i s x t xt ha ht;have na:∀ x∈c.args.toList,eH (r x)≠some id:=fun x y=>no x (by
   simp only[fg,uX,BQ,db];exact .inr y)
  have hs:eH (r s)≠some id:=na s (by rw[ha]; simp);have y:eH (r x)≠some id:=na x (by rw[ha]; simp);have same:∀ i,eH (r x)=some i->(H.set id o)[i]? = H[i]? := fun i hi=>bg fun e=>y (by rw[hi,e]);split at h
  ·rename_i e0
   try simp only[ha,ht,e0]
   unfold wa at h|-;split at h
   case h_2=>cases h
   rename_i I M N O
   try simp only[I,M,N,O]
   split at h
   case h_2=>cases h
   rename_i d
   try simp only[d]
   split at h
   case h_2=>cases h
   rename_i g
   try simp only[g]
   split at h
   case h_2=>cases h
   rename_i k
   try simp only[k]
   split at h
   case isFalse=>cases h
   rename_i V
   try rw[iP V]
   simp only[bf,bo]at h|-;obtain⟨h1,rfl,rfl⟩:=h;exact⟨h1,by rw[iE],(C1 U).symm⟩
  ·rename_i hno
   try simp only[ha,ht]
   unfold vT at h|-;split at h
   case h_2=>cases h
   rename_i I
   try simp only[I]
   split at h
   case h_2=>cases h
   rename_i M N
   try simp only[M,N]
   split at h
   case isFalse=>cases h
   rename_i O
   try rw[iP O]
   split at h
   ·rename_i d
    try simp only[d,NQ same]
    split at h
    case h_2=>cases h
    rename_i g
    try simp only[g]
    split at h
    case isFalse=>cases h
    rename_i k
    try rw[iP k]
    simp only[bf,bo]at h|-;obtain⟨h1,rfl,rfl⟩:=h;exact⟨h1,by rw[iE],(C1 U).symm⟩
   ·rename_i d
    try simp only[d,NQ same]
    split at h
    case h_2=>cases h
    rename_i g
    try simp only[g]
    split at h
    case isFalse=>cases h
    rename_i k
    try rw[iP k]
    simp only[bf,bo]at h|-;obtain⟨h1,rfl,rfl⟩:=h;exact⟨h1,by rw[iE],(C1 U).symm⟩
   ·rename_i w i al oF n d
    have W:i≠id:=fun e=>hs (by rw[d,<-e]; rfl)
    try simp only[d,bg (Ne.symm W)]
    split at h
    case h_2=>cases h
    rename_i g
    try simp only[g,NP same]
    split at h
    case h_2=>cases h
    rename_i k
    try simp only[k]
    split at h
    case isFalse=>cases h
    rename_i V
    try rw[iP V]
    simp only[bf,bo]at h|-;obtain⟨h1,rfl,rfl⟩:=h;exact⟨h1,rfl,List.set_comm _ _ (Ne.symm W)⟩
   ·cases h
 ·cases q
def NR{r:cw->AV}{op:Op}(y:oD op=true){v:AV}:∀(d:List (Nat × ai)) (H H':List aw),lj P r H op=some (true,v,H')->(∀ p∈d,p.1<H.length/\p.1∉op.operands.toList.flatMap fun x=>mG (r x)) ->
  ∃ k g,az k=nz d (az H)/\az g=nz d (az H')/\lj P r k op=some (true,v,g)
 | [],H,H',h,_=>⟨H,H',rfl,rfl,h⟩
 | p::d,H,H',h,I=>by
  obtain⟨M,N⟩:=I p cX;have h1:=Y3 y (o:=.raw p.2) h M N;obtain⟨k,g,O,U,V⟩:=NR y d _ _ h1 fun q W=>by
   obtain⟨b1,b2⟩:=I q (dp _ W);exact⟨by simpa using b1,b2⟩
  refine⟨k,g,?_,?_,V⟩
  ·rw [O, cQ]
   rfl
  ·rw [U, cQ]
   rfl
def NS{z:List ao}:∀{H:List aw} {i j:Nat} {ks:List Kd} {g:LG},tR z H i=some (j,ks,g)->i<=j/\H[j-i]? = some (.vQ ks 0 [])/\wq ks z=some g
 | [],_,_,_,_,h=>by cases h
 | o::H,i,j,ks,g,h=>by
  have next:tR z H (i+1)=some (j,ks,g)->i<=j/\(o::H)[j-i]? = some (.vQ ks 0 [])/\wq ks z=some g:=by
   intro h;obtain⟨h1,d,k⟩:=NS h;refine⟨by omega,?_,k⟩;rw[show j-i=(j-(i+1))+1 from by omega];simpa using d
  unfold tR at h;split at h
  ·cases ‹_=_›
  ·rename_i y v H' I e
   cases e;split at h
   ·rename_i M q
    split at h
    ·cases h
     exact⟨aM _,by simp,q⟩
    ·exact next h
   ·exact next h
  ·rename_i e
   cases e;exact next h
def Ia:∀{H:List aw} {i j:Nat},wu H i=some j->i<=j/\H[j-i]? = some (.raw .eD)
 | [],_,_,h=>by cases h
 | o::H,i,j,h=>by
  have next:wu H (i+1)=some j->i<=j/\(o::H)[j-i]? = some (.raw .eD):=by
   intro h;obtain⟨h1,d⟩:=Ia h;refine⟨by omega,?_⟩;rw[show j-i=(j-(i+1))+1 from by omega];simpa using d
  unfold wu at h;split at h
  ·cases ‹_=_›
  ·rename_i e
   cases e;cases h;exact⟨aM _,by simp⟩
  ·rename_i e
   cases e;exact next h
def Y4{op:Op}{H H':List aw}{id:Nat}{v:AV}(h:HY P op H=some (id,v,H')) :
  ((∃ t m,op=.alloc t/\q_ P t id m (az H)=some (v,az H'))\/∃ t,op=.makeMap t none/\tn id (az H)=some (v,az H'))/\H'.length=H.length/\∀ A,A≠id->H'[A]? = H[A]? := by
 unfold HY at h;split at h
 ·rename_i t
  split at h
  ·rename_i z q
   split at h
   ·rename_i i ks g k
    cases h;obtain⟨_,d,M⟩:=NS k;rw[fD]at d;have e:=Nv M;refine⟨.inl ⟨t,mZ ks,rfl,?_⟩,by simp,fun A hA=>bg (Ne.symm hA)⟩;have I:ks.length=z.length:=by
     have:=congrArg BS e;simpa[tb,Cm]using this
    rw[Ha (m:=mZ ks) q (y:=.vQ z.length 0 []) (v:=.ptr id 1 z.length 0 0) (x:=.vQ z.length 1 [j5 (mZ ks) z]) (by rw[bu d,<-I]; rfl) (.inl ⟨rfl,rfl,rfl⟩),cQ,<-e,<-I];rfl
   ·split at h
    ·rename_i i k
     cases h;obtain⟨_,d⟩:=Ia k;rw[fD]at d;refine⟨.inl ⟨t,[],rfl,?_⟩,by simp,fun A hA=>bg (Ne.symm hA)⟩;rw[Ha (m:=[]) q (y:=.eD) (v:=.ptr id 0 0 0 0) (x:=.box (z.map .lit)) (by rw[bu d]; rfl) (.inr ⟨rfl,rfl,rfl⟩),cQ];rfl
    ·cases h
  ·cases h
 ·rename_i t
  split at h
  ·rename_i K V _
   split at h
   ·rename_i i k
    cases h;obtain⟨_,d⟩:=Ia k;rw[fD]at d;refine⟨.inr ⟨t,rfl,?_⟩,by simp,fun A hA=>bg (Ne.symm hA)⟩;rw[L6 (by rw[bu d]; rfl),cQ];rfl
   ·cases h
  ·cases h
 ·cases h
def Ib(ht:aI P τ){ah:Array aU}{j:Nat}{o:aU}{s:aH}{a:Acc}{k:aH->Acc->bh}{Q:cD->aH->Prop}(hw:cH ah s.fr o=some true)(ha:a.ok ah j)(h:(zG P τ ah j o s a k).holds Q) :
  ∃ v H' b,Yields P τ.pf ah o s.ar v (az H')/\b.ok ah (j+1)/\a.le b/\(∀ c,b.le c->Step P τ.pf ah c.R c.W j o s.ar v (az H'))/\(k (s.put o.dst v H') b).holds Q:=by
 unfold zG at h;split at h
 ·rename_i y
  simp only[aK]at y;split at h
  ·rename_i id v H' hal
   split at h
   ·rename_i b hb
    obtain⟨hnew,hlen,hkeep⟩:=Y4 hal;obtain⟨g1,g2,g3⟩:=NM ha hb;refine⟨v,H',b,?_,g1,g2,fun c g=>⟨fun _ A hA=>?_,fun hr=>(by rw[qj y.2]at hr; cases hr),fun _ _ _=>⟨?_,fun id' hne=>?_⟩,fun hcv=>(by rw[pn y.2]at hcv; cases hcv)⟩,h⟩
    ·unfold Yields
     rw[show s.ar.fr=s.fr from rfl,hw];simp only[qj y.2];rcases hnew with⟨t,m,hop,U⟩|⟨t,hop,U⟩
     ·exact .inr (.inl (.inl ⟨t,id,m,hop,U⟩))
     ·exact .inr (.inl (.inr ⟨t,id,hop,U⟩))
    ·have := (hA _ (g.2 _ g3) rfl).1
     show (az H')[A]? = (az s.H)[A]?
     simp only[az,bY,hkeep A (by simpa using this)]
    ·show (az H').length = (az s.H).length
     simp only[fA,hlen]
    ·refine ⟨_, g.2 _ g3, rfl, ?_⟩
     have e:id'=id:=F1 fun e=>hne (by
      show (az H')[id']? = (az s.H)[id']?
      simp only[az,bY,hkeep id' e])
     rw[e];exact List.mem_singleton.2 rfl
   ·exact h.elim
  ·exact h.elim
 ·rename_i y
  split at h
  ·exact h.elim
  rename_i hfc;split at h
  ·rename_i b hb
   obtain⟨g1,g2,g3,g4⟩:=Y0 ha hb;by_cases N:ny ah o.op=true/\dG τ.pf o.op=.write
   ·obtain ⟨N, O⟩ := N
    have q:HZ τ o s=true:=by
     rw[N]at hfc;simpa using hfc
    unfold HZ at q;rw[O]at q;simp only[]at q;split at q
    ·rename_i f args M
     split at q
     case h_2=>cases q
     rename_i hN;obtain⟨⟨b0,v,H'⟩,hW⟩:=Option.isSome_iff_exists.1 q;have hcv:tH o.op=true:=by
      unfold ny at N;rw[uY,aK,aK]at N;rcases N with h1|h1
      ·exact h1.1
      ·rw [NO h1.1] at M
       cases M
     rw[Y1 hcv O M hW]at h;simp only[bh.holds]at h;obtain⟨rfl,h⟩:=h;obtain⟨hbody,hcall⟩:=ht.W f args s.H true v H' hW rfl;have htch:lk τ s.eval s.H o.op=(τ.C f args s.H).filter fun id => !rF τ f args s.H id:=by
      unfold lk;rw[M]
     have hcal':∀ d,jK (St.eval ⟨s.ar.fr,d⟩) o.op=some (f,args):=fun d=>by
      have e:St.eval ⟨s.ar.fr,d⟩=s.eval:=by funext x; cases x<;>rfl
      rw[e];exact M
     have yl:∀ d V:List ai,fO P f args d v V->Yields P τ.pf ah o ⟨s.ar.fr,d⟩ v V:=fun d V I=>by
      unfold Yields;rw[show (St.mk s.ar.fr d).fr=s.fr from rfl,hw];simp only[O];exact .inl (.inr ⟨f,args,hcal' d,hbody,I⟩)
     refine⟨v,H',b,yl _ _ hcall,g1,g2,fun c g=>H_ g g3 g4 (fun _ A hA hlt=>?_) (fun _ _ _ σ hσ=>?_) (by simpa using y),h⟩
     ·rcases Nu hW (by rw [<- htch]; exact hA) with h1 | h1
      ·exact ht.C f args s.H true v H' hW A h1 hlt
      ·exact h1
     ·obtain ⟨d,H2',q1,q2,q3⟩:=NN ht hN σ s.H H' hW (fun p hp=>by
       obtain⟨hk,x,I,hh⟩:=hσ p hp;obtain⟨k1,k2⟩:=hk _ (g.2 _ (g4 O)) rfl;rw[htch]at k1;refine⟨k2,fun hm=>k1 (s9.2 ⟨hm,?_⟩)⟩;unfold rF;rw[hW];cases hq:zD H'[p.1]? s.H[p.1]? with
       |false=>simp only[hq]; rfl
       | true =>
        have I:(az s.H)[p.1]? = some x:=I;unfold zD at hq;split at hq
        ·rename_i e
         simp only[az,bY,e,ff,aw.ar]at I;cases I;rcases hh with⟨k,hh⟩|hh<;>cases hh
        ·cases hq)
      rw[<-q2,show nz σ s.ar.H=az d from q1.symm];exact yl _ _ (ht.W f args d true v H2' q3 rfl).2
    ·rename_i M
     obtain⟨v,H',U,h⟩:=Y2 q O h;have htch:lk τ s.eval s.H o.op=o.op.operands.toList.flatMap fun x=>mG (s.eval x):=by
      unfold lk;rw[M]
     have yl:∀ d V:List aw,lj P s.eval d o.op=some (true,v,V)->Yields P τ.pf ah o ⟨s.ar.fr,az d⟩ v (az V):=fun d V I=>by
      unfold Yields;rw[show (St.mk s.ar.fr (az d)).fr=s.fr from rfl,hw];simp only[O];have e:St.eval ⟨s.fr,az d⟩=s.eval:=by funext x; cases x<;>rfl
      rw[e];exact .inl (.inl (HJ I rfl))
     refine⟨v,H',b,yl _ _ U,g1,g2,fun c g=>H_ g g3 g4 (fun _ A hA hlt=>H7 U hlt (by rw[<-htch]; exact hA)) (fun _ _ _ σ hσ=>?_) (by simpa using y),h⟩;obtain⟨d,H2',q1,q2,q3⟩:=NR q σ s.H H' U (fun p hp=>by
      obtain⟨hk,_⟩:=hσ p hp;obtain⟨k1,k2⟩:=hk _ (g.2 _ (g4 O)) rfl;rw[htch]at k1;exact⟨k2,k1⟩)
     rw[<-q2,show nz σ s.ar.H=az d from q1.symm];exact yl _ _ q3
   ·obtain ⟨v, H', q1, q2, q3⟩ := CY ht hw h
    exact⟨v,H',b,q1,g1,g2,fun c g=>H_ g g3 g4 q2 (fun h1 h3=>absurd ⟨h1,h3⟩ N) (by simpa using y),q3⟩
  ·exact h.elim
def Y5(y:aI P τ){ah:Array aU}{j:Nat}{o:aU}{s:aH}{a:Acc}{k:aH->Acc->bh}{Q:cD->aH->Prop}(ha:a.ok ah j)(h:(H4 P τ ah j o s a k).holds Q) :
  ∃ v H' b,Yields P τ.pf ah o s.ar v (az H')/\b.ok ah (j+1)/\a.le b/\(∀ c,b.le c->Step P τ.pf ah c.R c.W j o s.ar v (az H'))/\(k (s.put o.dst v H') b).holds Q:=by
 have skip:cH ah s.fr o=some false->Yields P τ.pf ah o s.ar (.tuple []) (az s.H):=by
  intro d;unfold Yields;rw[show s.ar.fr=s.fr from rfl,d];exact⟨rfl,rfl⟩
 unfold H4 at h;split at h
 ·exact h.elim
 ·rename_i d
  exact⟨_,_,a,skip (H8 d),Acc.zJ ha,a.le_refl,fun _ _=>step_skip (H8 d),h⟩
 ·rename_i d
  exact Ib y (NL d) ha h
 ·rename_i t b I d
  obtain⟨h1,q⟩:=NK d;simp only[bh.holds]at h;cases b with
  | true =>
   have g:=h.1 rfl;rw[CZ h1]at g;cases I with
   |true=>exact Ib y q ha g
   |false=>exact⟨_,_,a,skip q,Acc.zJ ha,a.le_refl,fun _ _=>step_skip q,g⟩
  | false =>
   have g:=h.2 rfl;rw[CZ h1]at g;cases I with
   |true=>exact⟨_,_,a,skip q,Acc.zJ ha,a.le_refl,fun _ _=>step_skip q,g⟩
   |false=>exact Ib y q ha g
def NT(d:aI P τ){ah:Array aU}{Q:cD->aH->Prop}:∀{l:List aU} {j:Nat} {s:aH} {a:Acc} {k:aH->bh},a.ok ah j->(H5 P τ ah l j s a k).holds Q ->
  ∃ s' b,tJ ah b.R b.W/\a.le b/\vP P τ.pf ah b.R b.W l j s.ar s'.ar/\(k s').holds Q
 | [],j,s,a,k,ha,h=>⟨s,a,ha.2.2,a.le_refl,rfl,h⟩
 | o::l,j,s,a,k,ha,h=>by
  obtain⟨v,H',b,q,y,I,M,N⟩:=Y5 d ha h;obtain⟨s',c,O,g,U,V⟩:=NT d y N;exact⟨s',c,O,Acc.le_trans I g,⟨v,az H',q,M c g,U⟩,V⟩
def Y6{m id:Nat}{ah:Array aU}{s s':aH}{b:Acc}(hm:P.follows .mixedOrders=true)(hB:vR τ.pf ah=true)(d:tJ ah b.R b.W)(h:vP P τ.pf ah b.R b.W ah.toList 0 s.ar s'.ar) :
  en P m (.region id ah true) s.ar .normal s'.ar:=fun g _ _ _ k=>XT hm hB d k h (fun _ _ q=>⟨rfl,q.toM⟩) g
def zK{K:cD->aH->bh}{Q:cD->aH->Prop}:∀{t:bh},(t.bind K).holds Q->t.holds fun x s=>(K x s).holds Q
 |.fail,h=>h
 |.done _ _,h=>h
 |.ask _ _ _,h=>⟨fun hb=>zK (h.1 hb),fun hb=>zK (h.2 hb)⟩
 |.side _ _,h=>⟨h.1,zK h.2⟩
def NU{m:Nat}{c:Code}{Q:cD->aH->Prop}{body:aH->(cD->aH->bh)->bh}
  (hb:∀ s K,(body s K).holds Q->∃ x s',en P m c s.ar x s'.ar/\(K x s').holds Q):∀(n:Nat) (s:aH) (K:cD->aH->bh),(CW body n s K).holds Q ->
  ∃ x s',nt P m c s.ar x s'.ar/\(K x s').holds Q
 |0,_,_,h=>h.elim
 | n+1,s,K,h=>by
  simp only[CW]at h;obtain⟨x,s1,h1,d⟩:=hb _ _ h;cases x with
  | normal =>
   obtain⟨y,s2,g,k⟩:=NU hb n s1 K d;exact⟨y,s2,.next h1 g,k⟩
  |exit i=>exact⟨_,s1,.stop h1 (by simp),d⟩
  |ret=>exact⟨_,s1,.stop h1 (by simp),d⟩
def nE(hm:P.follows .mixedOrders=true)(q:aI P τ){m:Nat}{L:LT}{Q:cD->aH->Prop}:∀(c:Code) (s:aH) (K:cD->aH->bh),
  aT P m L c->(il P τ L c s K).holds Q->∃ x s',en P m c s.ar x s'.ar/\(K x s').holds Q
 |.skip,s,K,_,h=>⟨_,_,Xr,h⟩
 | .region id ah W,s,K,k,h=>by
  simp only[il]at h;split at h
  ·rename_i M
   split at h
   ·rename_i hB
    simp only[bh.holds]at h;have hdt:W=true:=by
     cases W with
     |true=>rfl
     |false=>simp at M
    subst hdt;obtain⟨s',b,h1,_,d,v⟩:=NT q (a:=⟨[],[]⟩) ⟨by simp,by simp,⟨fun i id hi=>(nomatch hi),fun e he=>(nomatch he),fun e he=>(nomatch he)⟩⟩ h.2;exact⟨_,_,vL (k.2.1 id s h.1) (Y6 hm hB h1 d),v⟩
   ·exact h.elim
  ·rename_i hd
   simp only[bh.holds]at h;obtain⟨s',h1,d⟩:=C0 q h.2;refine⟨_,_,vL (k.2.1 id s h.1) (Xu hm (fun M=>?_) h1),d⟩;rw[M]at hd;simpa using hd
 | .seq a b,s,K,k,h=>by
  simp only[il]at h;have N:aT P m L a:=k.sub (fun p g=>by simp only[cy]; exact db.2 (.inl g)) (fun p g=>by simp only[cC]; exact db.2 (.inl g));have O:aT P m L b:=k.sub (fun p g=>by simp only[cy]; exact db.2 (.inr g)) (fun p g=>by simp only[cC]; exact db.2 (.inr (db.2 (.inr g))));obtain⟨x,s1,h1,d⟩:=nE hm q a s _ N h;cases x with
  | normal =>
   simp only[Nw]at d;split at d
   ·rename_i t I
    unfold Nz at I;split at I
    ·rename_i i hi
     obtain⟨y,s2,v,V⟩:=k.2.2 i b (by simp only[cC,hi]; exact db.2 (.inr (db.2 (.inl (cX))))) s1 t I _ (zK d);exact⟨y,s2,MO h1 v,V⟩
    ·cases I
   ·obtain ⟨y, s2, v, V⟩ := nE hm q b s1 K O d
    exact⟨y,s2,MO h1 v,V⟩
  |exit id=>exact⟨_,_,MP h1 (by simp),d⟩
  |ret=>exact⟨_,_,MP h1 (by simp),d⟩
 | .cond c a b,s,K,k,h=>by
  simp only[il]at h;have N:aT P m L a:=k.sub (fun p g=>by simp only[cy]; exact db.2 (.inl g)) (fun p g=>by simp only[cC]; exact db.2 (.inl g));have O:aT P m L b:=k.sub (fun p g=>by simp only[cy]; exact db.2 (.inr g)) (fun p g=>by simp only[cC]; exact db.2 (.inr g));split at h
  ·rename_i t hb
   have U:=NB hb;rw[<-aH.po]at U;simp only[bh.holds]at h;cases t with
   | true =>
    obtain⟨x,s1,h1,d⟩:=nE hm q a s K N (h.1 rfl);exact⟨x,s1,MQ U (by simpa using h1),d⟩
   | false =>
    obtain⟨x,s1,h1,d⟩:=nE hm q b s K O (h.2 rfl);exact⟨x,s1,MQ U (by simpa using h1),d⟩
  ·exact h.elim
 | .block id c,s,K,k,h=>by
  simp only[il]at h;obtain⟨x,s1,h1,d⟩:=nE hm q c s _ (k.sub (fun p g=>by simpa only[cy]using g) (fun p g=>by simpa only[cC]using g)) h;refine⟨_,s1,Xv h1,?_⟩;cases x with
  |normal=>exact d
  | exit i =>
   simp only[Nx]at d;simp only[cD.inBlock];split
   ·rename_i e; rw[iP e]at d; exact d
   ·rename_i e; rw[iN e]at d; exact d
  |ret=>exact d
 | .loop c,s,K,k,h=>by
  simp only[il]at h;split at h
  ·rename_i i hi
   split at h
   ·rename_i t hl
    obtain⟨x,s',h1,d⟩:=k.1 i c (by simp only[cy,hi]; exact cX) s t hl _ (zK h);exact⟨x,s',MR h1,d⟩
   ·obtain ⟨x, s', h1, d⟩ := NU (fun s1 K1 hh => nE hm q c s1 K1 (k.sub (fun p g => by simp only [cy, hi]; exact dp _ g) (fun p g => by simpa only [cC] using g)) hh) 400 s K h
    exact⟨x,s',MR h1,d⟩
  ·exact h.elim
 |.exit id,s,K,_,h=>⟨_,_,Xt,h⟩
 |.ret,s,K,_,h=>⟨_,_,Xs,h⟩
 |.rangeFunc ..,_,_,_,h=>by simp[il,bh.holds]at h
 |.scope _,_,_,_,h=>by simp[il,bh.holds]at h
 |.label _,_,_,_,h=>by simp[il,bh.holds]at h
 |.goto _,_,_,_,h=>by simp[il,bh.holds]at h
 |.refuse _,_,_,_,h=>by simp[il,bh.holds]at h
end sound
end Go.AL

namespace Go.AL
open Go
variable [Dr]
inductive lT where
 |fail
 |ret (v:AV) (H:List aw)
 |ask (b:Bool) (t e:lT)
 |side (b:Bool) (t:lT)
def lT.holds(Q:AV->List aw->Prop):lT->Prop
 |.fail=>False
 |.ret v H=>Q v H
 |.ask b t e=>(b=true->t.holds Q)/\(b=false->e.holds Q)
 |.side b t=>b=true/\t.holds Q
def lT.two:lT->Option (AV × List aw)
 |.fail=>none
 |.ret v H=>some (v,H)
 |.ask b t e=>bif b then t.two else e.two
 |.side b t=>bif b then t.two else none
def lT.val:lT->Option AV
 |.fail=>none
 |.ret v _=>some v
 |.ask b t e=>bif b then t.val else e.val
 |.side b t=>bif b then t.val else none
def C2:∀{t:lT} {v:AV},t.val=some v->t.holds fun u _=>u=v
 |.fail,_,h=>by cases h
 |.ret u H,_,h=>by simp only[lT.val,bf]at h; exact h
 | .ask b t e,v,h=>by
  cases b with
  |true=>exact⟨fun _=>C2 (t:=t) (v:=v) h,fun h=>by cases h⟩
  |false=>exact⟨fun h=>(nomatch h),fun _=>C2 (t:=e) (v:=v) h⟩
 | .side b t,v,h=>by
  cases b with
  |true=>exact And.intro rfl (C2 (t:=t) (v:=v) h)
  |false=>cases h
def Ic(H:List aw):Option (List Kd)->AV->Option (Bool × AV)
 |none,a=>some (true,a)
 | some ks,a=>match a with
  |.nils | .lit (.slice none 0 0)=>some (true,.listF ks [])
  |.listF d rZ=>if Kd.gN ks d then some (true,.listF ks rZ) else none
  | .list w rZ=>match bO ks rZ with
   |some g=>if w=ks.length then some (true,.listF ks g) else none
   |none=>none
  | .vQ w id al oF n=>match H[id]? with
   |some (.vQ d v rZ)=>if al=v/\d.length=w/\oF=0/\Kd.gN ks d=true then some (aG n rZ.length,.listF ks rZ) else none
   |_=>none
  |_=>none
def oK(H:List aw):List (Option (List Kd))->List AV->Option (Bool × List AV)
 |_,[]=>some (true,[])
 | [],a::as=>match oK H [] as with
  |some (b,d)=>some (b,a::d)
  |none=>none
 | c::cs,a::as=>match Ic H c a,oK H cs as with
  |some (b,g),some (h,d)=>some (b&&h,g::d)
  |_,_=>none
def Y7{E:af}(HE:aJ E){H:List aw}(hH:E.H=az H){k:Option (List Kd)}{a g:AV}{b:Bool}{c:ao}(h:Ic H k a=some (b,g))(hb:b=true)(v:g.closed=true)(d:ad E a c) :
  ad (E.bare E.w) g c:=by
 unfold Ic at h;split at h
 ·cases h; exact fE (rG E) _ v d
 ·rename_i ks
  split at h
  ·cases h
   simp only[ad,fp,G.rZ]at d|-;obtain⟨aN,rfl⟩:=d;exact⟨aN,0,rfl,aM _,.inl trivial⟩
  ·cases h
   simp only[ad,fp,G.rZ]at d|-;subst d;exact⟨none,0,rfl,aM _,.inl trivial⟩
  ·split at h
   ·rename_i I
    cases h;rw[Kd.je I];exact fE (rG E) _ rfl d
   ·cases h
  ·split at h
   ·rename_i V M
    split at h
    ·rename_i N
     cases h;rw[kq,rq M];subst N;exact fE (rG E) _ rfl d
    ·cases h
   ·cases h
  ·split at h
   ·rename_i y
    split at h
    ·rename_i O
     obtain⟨rfl,U,rfl,q⟩:=O;simp only[bf,bo]at h;obtain⟨h1,rfl⟩:=h;subst hb;have q:=Kd.je q;subst q;exact ND HE hH y U (bz h1) d
    ·cases h
   ·cases h
  ·cases h
def Ie{E:af}(HE:aJ E){H:List aw}(hH:E.H=az H):∀{ks:List (Option (List Kd))} {as q:List AV} {b:Bool} {cs:List ao},oK H ks as=some (b,q)->b=true ->
  AV.bM q=true->ax E as cs->ax (E.bare E.w) q cs
 | ks,[],q,b,cs,h,_,_,d=>by
  cases ks<;>simp only[oK]at h<;>cases h<;>(cases cs with
   |nil=>simp[ax]
   |cons _ _=>simp[ax]at d)
 | [],a::as,q,b,cs,h,hb,g,d=>by
  cases cs with
  |nil=>simp[ax]at d
  | cons c cs =>
   simp only[oK]at h;simp only[ax]at d;split at h
   ·rename_i y v h1
    cases h;simp only[AV.bM,aK]at g;simp only[ax];exact⟨fE (rG E) _ g.1 d.1,Ie HE hH h1 hb g.2 d.2⟩
   ·cases h
 | k::ks,a::as,q,b,cs,h,hb,g,d=>by
  cases cs with
  |nil=>simp[ax]at d
  | cons c cs =>
   simp only[oK]at h;simp only[ax]at d;split at h
   ·rename_i M N y v h0 h1
    simp only[bf,bo]at h;obtain⟨I,rfl⟩:=h;subst I;simp only[aK]at hb;simp only[AV.bM,aK]at g;simp only[ax];exact⟨Y7 HE hH h0 hb.1 g.1 d.1,Ie HE hH h1 hb.2 g.2 d.2⟩
   ·cases h
def bh.toR(P:aj)(rs:List ResultVar) (ks:List (Option (List Kd))):bh->lT
 |.fail=>.fail
 | .done x s=>match x with
  |.exit _=>.fail
  | _=>match oB P s.ar rs with
   | some g=>match oK s.H ks g with
    |some (b,d)=>.side b (.ret (fH d) s.H)
    |none=>.fail
   |none=>.fail
 |.ask b t e=>.ask b (t.toR P rs ks) (e.toR P rs ks)
 |.side b t=>.side b (t.toR P rs ks)
def toR_holds{P:aj}{rs:List ResultVar}{ks:List (Option (List Kd))}{Q:AV->List aw->Prop}:∀{t:bh},(t.toR P rs ks).holds Q ->
  t.holds fun x s=>(x=.normal\/x=.ret)/\∃ g d,oB P s.ar rs=some g/\oK s.H ks g=some (true,d)/\Q (fH d) s.H
 |.fail,h=>h
 | .done x s,h=>by
  have key:∀ y,(y=cD.normal\/y=cD.ret)->(match oB P s.ar rs with
   | some g=>match oK s.H ks g with
    |some (b,d)=>lT.side b (.ret (fH d) s.H)
    |none=>.fail
   |none=>.fail).holds Q->(y=.normal\/y=.ret)/\∃ g d,oB P s.ar rs=some g/\oK s.H ks g=some (true,d)/\Q (fH d) s.H:=by
   intro y k h;split at h
   ·rename_i g q
    split at h
    ·rename_i b d v
     simp only[lT.holds]at h;obtain⟨rfl,h⟩:=h;exact⟨k,g,d,q,v,h⟩
    ·exact h.elim
   ·exact h.elim
  simp only[bh.toR]at h;simp only[bh.holds];cases x with
  |exit i=>exact h.elim
  |normal=>exact key _ (.inl rfl) h
  |ret=>exact key _ (.inr rfl) h
 |.ask _ _ _,h=>⟨fun hb=>toR_holds (h.1 hb),fun hb=>toR_holds (h.2 hb)⟩
 |.side _ _,h=>⟨h.1,toR_holds h.2⟩
def If(P:aj)(τ:aD)(L:LT)(fn:Func) (ks:List (Option (List Kd))) (args:List AV) (H:List aw):lT :=
 match fn.body with
 |some c=>(il P τ L c ⟨rh args fn.ntmps,H⟩ .done).toR P fn.results.toList ks
 |none=>.fail
def NV{E:af}{d:List AV}{g:List ao}(h:ax E d g):ad E (fH d) (if h:g.toArray.size=1 then g.toArray[0] else .tuple g.toArray):=by
 cases g with
 | nil =>
  cases d with
  |nil=>simp[fH,ad,ax]
  |cons _ _=>simp[ax]at h
 | cons u g =>
  cases g with
  | nil =>
   cases d with
   |nil=>simp[ax]at h
   | cons v d =>
    cases d with
    |nil=>simp only[ax]at h; simpa[fH]using h.1
    |cons _ _=>simp[ax]at h
  | cons k g =>
   cases d with
   |nil=>simp[ax]at h
   | cons v d =>
    cases d with
    |nil=>simp[ax]at h
    | cons q d =>
     simp only[fH,ad];exact⟨(u::k::g).toArray,by simp,h⟩
def Y8{P:aj}{f:bP}{fn:Func}{c:Code}{args:List AV}{x:cD}{s':aH}{ks:List (Option (List Kd))}{M d:List AV}
  (hf:P.funcs[f]? = some fn) (hb:fn.body=some c) (hs:en P 0 c ⟨rh args fn.ntmps,[]⟩ x s'.ar) (g:x=.normal\/x=.ret) (hr:oB P s'.ar fn.results.toList=some M)
  (hc:oK s'.H ks M=some (true,d)) (ha:AV.bM args=true) (hv:AV.bM d=true):dP P f args (fH d):=by
 intro H E V hH HE hargs
 let E0:af:={ w:=E.w,H:=[],ae:=[],X:=(E.X.or E.ab).re fh }
 have hown0:∀ b,¬ E0.ab b:=by rintro b (⟨id,c,hid⟩|⟨l,k,c,y⟩); simp[E0]at hid; simp[E0,fh]at y
 have hC:E.bU E0:=⟨fun b hb=>⟨⟨hb.1,hown0 b,fun g=>g.elim hb.2.2 hb.2.1⟩,rfl⟩⟩
 have W:aJ E0:=by
  refine⟨rfl,?_,?_,?_,?_,HE.gL.bU hC,fun l k l' k' b m n y=>by simp[E0,fh]at y,fun i b m l k n hi=>by simp[E0]at hi,fun l k b m y=>by simp[E0,fh]at y,fun i j o o' l hi=>by simp[E0]at hi,fun l _ k q y=>by simp[E0,fh]at y⟩
  ·intro i j b m n hi; simp[E0]at hi
  ·intro i b m hi; simp[E0]at hi
  ·rintro b (g | ho)
   ·exact HE.X b g
   ·exact(HE.B7 ho).1
  ·intro i o hi; simp[E0]at hi
 refine MV hf hb ?_;have hfe:=MX W;have hargs0:=tG hfe _ (qT hC args ha hargs);have hrel:dX ⟨rh args fn.ntmps,[]⟩ { E0 with X:=⟨E0.X.x,fun _=>False,E0.X.r⟩ } { tmps:=V++Array.replicate (fn.ntmps-V.size) undef,defers:=[] }:=by
  refine⟨rfl,?_,Gj _ _,W.jy hfe⟩;simp only[rh,BQ,Array.toList_replicate];refine pe hargs0 ?_;have:=jZ hargs;have e:args.length=V.size:=by simpa using this
  rw[e];have:=Hh (E:={ E0 with X:=⟨E0.X.x,fun _=>False,E0.X.r⟩ }) (cB (fn.ntmps-V.size) undef);simpa using this
 refine wpIn_mono (hs none (MN _) { E0 with X:=⟨E0.X.x,fun _=>False,E0.X.r⟩ } _ hrel) fun e a1 w0 ⟨h3,loc',X',O,U⟩=>?_;refine⟨by subst h3; rcases g with rfl|rfl; exact .inl rfl; exact .inr rfl,X',O.defers,fun I k1 k2 k3=>?_⟩;obtain⟨O,U⟩:=MW W O U k1 k2 k3;obtain⟨N,g1,g2⟩:=Hg O fn.results.toList M hr;have hres:(results fn a1.tmps).run P I=.ok (if h:N.toArray.size=1 then N.toArray[0] else .tuple N.toArray) I:=by
  rw[MS];simp only[Sem.run_bind];rw[Array.mapM_eq_mapM_toList,Sem.run_map,g1];rfl
 have g3:=Ie O.heap rfl hc rfl hv g2;have g4:=NV g3;have hext:Ext E.w I:=⟨U.size,fun b hb=>U.same b hb (hown0 b),U.env⟩
 have hcl:(fH d).closed=true:=by
  cases d with
  |nil=>rfl
  | cons v M =>
   cases M with
   |nil=>simpa[fH,AV.bM]using hv
   |cons v2 M=>simpa only[fH,AV.closed]using hv
 have g5:ad { E with w:=I } (fH d) (if h:N.toArray.size=1 then N.toArray[0] else .tuple N.toArray) :=
  fE (E:=({ w:=I,H:=az s'.H,ae:=loc',X:=E0.X.re X'.r }:af).bare I) (E':={ E with w:=I }) ⟨fun b hb=>⟨⟨hb.1,fun ho=>hb.2.2 (Or.inr ho),fun g=>hb.2.2 (Or.inl g)⟩,rfl⟩⟩ _ hcl g4
 refine⟨_,hres,_,fH d,H,rfl,⟨rfl,rfl⟩,E.ae,E.X.r,?_,?_,?_⟩
 ·rw[<-hH]; exact g5
 ·rw[<-hH]; exact HE.ext hext
 ·rw[<-hH]; exact af.lH hext
def Y9{d:List AV}{v:AV}(h:fH d=v)(g:v.closed=true):AV.bM d=true:=by
 subst h;cases d with
 |nil=>rfl
 | cons v d =>
  cases d with
  |nil=>simpa[fH,AV.bM]using g
  |cons k d=>simpa only[fH,AV.closed]using g
def fk{P:aj}{τ:aD}{L:LT}(hm:P.follows .mixedOrders=true)(g:aI P τ){f:bP}{fn:Func} (ks:List (Option (List Kd))) {args:List AV} {v:AV}
  (k:∀ c,fn.body=some c->aT P 0 L c)
  (q:P.funcs[f]? = some fn) (ha:AV.bM args=true) (y:v.closed=true) (h:(If P τ L fn ks args []).val=some v):dP P f args v:=by
 have h:=C2 h;unfold If at h;split at h
 ·rename_i c hb
  obtain⟨x,s',h1,I,U,O,M,N,d⟩:=nE hm g c _ _ (k c hb) (toR_holds h);rw[<-d];exact Y8 q hb h1 I M N ha (Y9 d y)
 ·exact h.elim
end Go.AL

namespace Go.AL
open Go
variable [Dr]
def NW(d:List Nat):aD:={ pf:=fun g=>d.any fun t=>aG g (t+1000000),T:=fun _ _=>none,W:=fun _ _ _=>none,C:=fun _ _ _=>[],U:=fun _=>false }
def Y_(P:aj)(d:List Nat):aI P (NW d):=⟨fun _ _ _ _ h=>(nomatch h),fun _ _ _ _ _ _ h=>(nomatch h),fun _ _ _ _ _ _ h=>(nomatch h),fun _ _ _ _ h=>(nomatch h),fun _ _ _ _=>⟨rfl,rfl⟩,fun _ h=>(nomatch h)⟩
def aD.add(τ:aD)(f:bP)(c:List AV->Option (Bool × AV)):aD where
 pf g:=match aG g f with
  |true=>true
  |false=>τ.pf g
 T g args:=match aG g f with
  |true=>c args
  |false=>τ.T g args
 W:=τ.W
 C:=τ.C
 I:=τ.I
 N:=τ.N
 U:=τ.U
def aI.add{P:aj}{τ:aD}(h:aI P τ){f:bP}{c:List AV->Option (Bool × AV)}(hb:iJ P f=true)(q:∀ args b v,c args=some (b,v)->b=true->dP P f args v) :
  aI P (τ.add f c):=by
 refine⟨fun g args b v d k=>?_,h.W,h.C,h.I,h.F⟩;simp only[aD.add]at d;split at d
 ·rename_i e
  have e:=bz e;subst e;exact⟨hb,q args b v d k⟩
 ·exact h.T g args b v d k
def bH:LT:=⟨fun _ _=>none,fun _ s=>(true,s),fun _ _=>none⟩
def bI(P:aj)(m:Nat)(c:Code):aT P m bH c:=⟨fun _ _ _ _ _ h=>(nomatch h),fun _ _ _=>bG.refl _,fun _ _ _ _ _ h=>(nomatch h)⟩
def aD.inline(P:aj)(τ:aD)(f:bP)(fn:Func) (ks:List (Option (List Kd))):aD:=τ.add f fun args =>
 match (If P τ bH fn ks args []).val with
 | some v=>match AV.bM args&&v.closed with
  |true=>some (true,v)
  |false=>none
 |none=>none
def aI.inline{P:aj}{τ:aD}(h:aI P τ)(hm:P.follows .mixedOrders=true){f:bP}{fn:Func}(k:P.funcs[f]? = some fn)(hb:iJ P f=true) (ks:List (Option (List Kd))) :
  aI P (τ.inline P f fn ks):=h.add hb fun args b v d _=>by
 split at d
 ·rename_i u q
  split at d
  ·rename_i g
   simp only[aK]at g;cases d;exact fk hm h ks (fun _ _=>bI _ _ _) k g.1 g.2 q
  ·cases d
 ·cases d
abbrev aS(s:BY):AV:=.lit (.string s)
end Go.AL

namespace Go.AL
open Go
variable [Dr]
def zL(aq:Nat)(ks:List Kd)(s:aH):aH:=⟨s.fr.set aq (.vQ ks.length s.H.length 0 0 0),s.H++[.vQ ks 0 []]⟩
def isNil:AV->Bool
 |.nils | .lit (.slice none 0 0)=>true
 |_=>false
def NX{E:af}{a:AV}{c:ao}(h:isNil a=true)(d:ad E a c):∃ aN,c=.slice aN 0 0:=by
 unfold isNil at h;split at h
 ·simpa only[ad]using d
 ·simp only[ad]at d; exact⟨none,d⟩
 ·cases h
def NY{m:Nat}{aq:Nat}{ks:List Kd}{s:aH}(h:isNil (s.fr.getD aq .undef)=true):bG m s.ar (zL aq ks s).ar:=fun E a d=>by
 have hH:E.H=az s.H:=d.H;have q:E.H.length=s.H.length:=by rw[hH,fA]
 have y:E.le (E.push E.w (.vQ ks.length 0 []) none):=af.mv d.heap.len (Ext.refl _) (fun b n h=>by cases h);have I:aZ (E.push E.w (.vQ ks.length 0 []) none) E.H.length (.vQ ks.length 0 []):=by
  simp only[aZ,af.push];refine .inl ⟨?_,trivial⟩;rw[iY (by rw[d.heap.len]; exact aM _),d.heap.len,lF];rfl
 have M:aJ (E.push E.w (.vQ ks.length 0 []) none):=aJ.push d.heap (Ext.refl _) (fun b n h=>by cases h) I;have k:(zL aq ks s).ar.H=E.H++[.vQ ks.length 0 []]:=by
  rw[hH];simp[zL,aH.ar,az,aw.ar]
 refine⟨E.ae++[none],E.X,?_,?_⟩
 ·rw [k]
  refine⟨k.symm,?_,d.defers,M⟩;have h':=eh y _ d.fr;have O:∀(fr:List AV) (cs:List ao) (i:Nat),ax E fr cs->isNil (fr.getD i .undef)=true->ax (E.push E.w (.vQ ks.length 0 []) none) fr cs ->
    ax (E.push E.w (.vQ ks.length 0 []) none) (fr.set i (.vQ ks.length s.H.length 0 0 0)) cs:=by
   intro fr
   induction fr with
   |nil=>intro cs i h0 h1 g; exact g
   | cons b fr U =>
    intro cs i h0 h1 g;cases cs with
    |nil=>simp[ax]at h0
    | cons c cs =>
     simp only[ax]at h0 g;cases i with
     | zero =>
      simp only[List.set_cons_zero,ax];refine⟨?_,g.2⟩;obtain⟨aN,rfl⟩:=NX (by simpa using h1) h0.1;have V:(E.push E.w (.vQ ks.length 0 []) none).H[s.H.length]? = some (.vQ ks.length 0 []):=by
       simp only[af.push];rw[iY (by omega),q,lF];rfl
      have N:(E.push E.w (.vQ ks.length 0 []) none).ae[s.H.length]? = some none:=by
       simp only[af.push];rw[iY (by rw[d.heap.len]; omega),d.heap.len,q,lF];rfl
      simp only[ad];refine⟨⟨aN,0,rfl,aM _,fun h=>absurd h (BU _)⟩,⟨_,V,rfl,fun v h=>eV _⟩,fun _=>⟨fun _=>⟨trivial,trivial,aN,rfl⟩,fun b m hb=>?_⟩⟩;rw[N]at hb;cases hb
     | succ i =>
      simp only[List.set_cons_succ,ax];exact⟨g.1,U cs i h0.2 (by simpa using h1) g.2⟩
  exact O s.fr _ aq d.fr h h'
 ·rw [k]
  exact y.toM
def zM(fn:Func)(k:Nat):Code:=match fn.body with
 | some c=>match (cy c).find? fun p=>aG p.1 k with
  |some p=>p.2
  |none=>.skip
 |none=>.skip
def zN{P:aj}{f:bP}{vs:List ao}{u:ao}(h:∀ w,Calls P f vs.toArray w fun e w'=>e=.returned u/\Ext w w'):dP P f (vs.map .lit) (.lit u):=by
 intro H E g hH HE q;have e:g=vs.toArray:=by
  have:∀(vs d:List ao),ax E (vs.map AV.lit) d->d=vs:=by
   intro vs
   induction vs with
   | nil=>intro d h; cases d with
    |nil=>rfl
    |cons _ _=>simp[ax]at h
   | cons v vs y =>
    intro d h;cases d with
    |nil=>simp[ax]at h
    | cons u d =>
     simp only[dC,ax,ad]at h;rw[h.1,y d h.2]
  have:=this vs g.toList q;rw[<-this]
 rw[e];refine(h E.w).mono ?_;rintro _ w' ⟨rfl,k⟩;refine⟨u,.lit u,H,rfl,⟨rfl,rfl⟩,E.ae,E.X.r,by simp[ad],?_,?_⟩
 ·rw[<-hH]; exact HE.ext k
 ·rw[<-hH]; exact af.lH k
end Go.AL

namespace Go.AL
open Go
variable [Dr]
def qo(ks:List Kd):AV->Option LL
 |.nils | .lit (.slice none 0 0)=>some []
 |.emptyS _=>some []
 |.listF d rZ=>if Kd.gN ks d then some rZ else none
 | .list w rZ=>match bO ks rZ with
  |some g=>if w=ks.length then some g else none
  |none=>none
 |_=>none
def Ig(ks:List Kd):AV->Option LG
 |.agg cells=>iK ks cells
 |_=>none
def NZ{E:af}{ks:List Kd}{a:AV}{rZ:LL}{c:ao}(h:qo ks a=some rZ)(d:ad E a c):ad E (.listF ks rZ) c:=by
 unfold qo at h;split at h
 ·cases h
  simp only[ad,fp,G.rZ]at d|-;obtain⟨aN,rfl⟩:=d;exact⟨aN,0,rfl,aM _,.inl trivial⟩
 ·cases h
  simp only[ad,fp,G.rZ]at d|-;subst d;exact⟨none,0,rfl,aM _,.inl trivial⟩
 ·cases h
  simp only[ad,fp,G.rZ]at d|-;obtain⟨aN,cap,rfl,_⟩:=d;exact⟨aN,cap,rfl,eV _,.inl trivial⟩
 ·split at h
  ·rename_i g
   cases h;rw[Kd.je g];exact d
  ·cases h
 ·split at h
  ·rename_i v k
   split at h
   ·rename_i q
    cases h;rw[kq,rq k];subst q;exact d
   ·cases h
  ·cases h
 ·cases h
def N0{ks:List Kd}{a:AV}{r:LG}(h:Ig ks a=some r):a=.agg (aX ks r):=by
 unfold Ig at h;split at h
 ·rw[mE h]
 ·cases h
end Go.AL

namespace Go.AL
open Go
variable [Dr]
structure cz where
 aA:List Nat
 sh:List Nat
 aN:Nat
def cz.at(e:cz)(j:Nat):Nat:=match e.aA[j]? with
 |some i=>i
 |none=>e.aN+(j-e.aA.length)
def cz.up(e:cz)(j:Nat):Nat:=e.sh.getD j 0
mutual
def AV.cG(e:cz):AV->AV
 |.agg cs=>.agg (AV.mH e cs)
 |.tuple cs=>.tuple (AV.mH e cs)
 |.clo f cs=>.clo f (AV.mH e cs)
 |.ptr id al k row d=>.ptr (e.at id) (al+e.up id) k row d
 |.vQ k id al oF n=>.vQ k (e.at id) (al+e.up id) oF n
 |.map id=>.map (e.at id)
 |.sub ..=>.undef
 |.svec ..=>.undef
 |.sptr ..=>.undef
 |a=>a
def AV.mH(e:cz):List AV->List AV
 | []=>[]
 |a::as=>a.cG e::AV.mH e as
end
def ai.cG(e:cz)(j:Nat):ai->ai
 |.box cells=>.box (AV.mH e cells)
 |.vQ k v rZ=>.vQ k (v+e.up j) rZ
 |o=>o
def N1(e:cz):∀(as:List AV),(AV.mH e as).length=as.length
 | []=>rfl
 |_::as=>by simp[AV.mH,N1 e as]
mutual
def AV.bQ:AV->Bool
 |.agg cs | .tuple cs | .clo _ cs=>AV.c6 cs
 |.list .. | .listF .. | .cptr _=>false
 |_=>true
def AV.c6:List AV->Bool
 | []=>true
 |a::as=>a.bQ&&AV.c6 as
end
structure tU (S:Bool) (e:cz) (E E':af):Prop where
 ok:S=false->∀ b,E.kV b->E'.kV b/\E'.w.heap[b]? = E.w.heap[b]?
 bx:∀ j al,E.bx j al->E'.bx (e.at j) (al+e.up j)
 live:∀ j al,E.bx j al->E'.live (e.at j) (al+e.up j)->E.live j al/\E'.ae[e.at j]? = E.ae[j]?
def tU.bU{e:cz}{E E':af}(h:tU false e E E'):E.bU E':=⟨h.ok rfl⟩
mutual
def Ih{S:Bool}{e:cz}{E E':af}(h:tU S e E E'):∀(a:AV) {c:ao},(S=true->a.bQ=true)->ad E a c->ad E' (a.cG e) c
 |.undef,_,_,_=>by simp[AV.cG,ad]
 |.lit v,c,_,d=>by simpa only[AV.cG,ad]using d
 |.nils,c,_,d=>by simpa only[AV.cG,ad]using d
 | .list k rZ,c,q,d=>by
  cases S with
  |true=>exact absurd (q rfl) (by simp[AV.bQ])
  |false=>exact fE h.bU (.list k rZ) rfl d
 | .listF ks rZ,c,q,d=>by
  cases S with
  |true=>exact absurd (q rfl) (by simp[AV.bQ])
  |false=>exact fE h.bU (.listF ks rZ) rfl d
 | .cptr cells,c,q,d=>by
  cases S with
  |true=>exact absurd (q rfl) (by simp[AV.bQ])
  |false=>exact fE h.bU (.cptr cells) rfl d
 |.ifc,c,_,d=>by simpa only[AV.cG,ad]using d
 |.emptyS n,c,_,d=>by simpa only[AV.cG,ad]using d
 |.sub ..,c,_,_=>by simp only[AV.cG,ad]
 |.svec ..,c,_,_=>by simp only[AV.cG,ad]
 |.sptr ..,c,_,_=>by simp only[AV.cG,ad]
 | .agg cells,c,q,d=>by
  simp only[ad]at d;simp only[AV.cG,ad];obtain⟨cs,I,h1,g⟩:=d;exact⟨cs,I,h1,C3 h cells (fun e=>by simpa only[AV.bQ]using q e) g⟩
 | .tuple cells,c,q,d=>by
  simp only[ad]at d;simp only[AV.cG,ad];obtain⟨cs,I,g⟩:=d;exact⟨cs,I,C3 h cells (fun e=>by simpa only[AV.bQ]using q e) g⟩
 | .clo f cells,c,q,d=>by
  simp only[ad]at d;simp only[AV.cG,ad];obtain⟨cs,I,g⟩:=d;exact⟨cs,I,C3 h cells (fun e=>by simpa only[AV.bQ]using q e) g⟩
 | .ptr id al k row col,c,_,d=>by
  simp only[ad]at d;simp only[AV.cG,ad];obtain⟨h1,g,M⟩:=d;refine⟨h1,h.bx _ _ g,fun y=>?_⟩;obtain⟨N,O⟩:=h.live _ _ g y;rw[O];exact M N
 | .vQ k id al oF n,c,_,d=>by
  simp only[ad]at d;simp only[AV.cG,ad];obtain⟨h1,g,M⟩:=d;refine⟨h1,h.bx _ _ g,fun y=>?_⟩;obtain⟨N,O⟩:=h.live _ _ g y;rw[O];exact M N
 | .map id,c,_,d=>by
  simp only[ad]at d;simp only[AV.cG,ad];obtain⟨h1,g,M⟩:=d;have W:=h.bx _ _ g;refine⟨h1,?_,fun y=>?_⟩
  ·obtain ⟨o, U, V⟩ := W
   exact⟨o,U,V.1,fun v hv=>eV _⟩
  ·have hu:e.up id=0:=by
    obtain⟨o,U,V⟩:=W;obtain⟨o2,q3,q4⟩:=y;rw[U]at q3;cases q3;have:=V.2 0 q4;omega
   obtain⟨N,O⟩:=h.live _ _ g (by rw[hu]; exact y);rw[O];exact M N
def C3{S:Bool}{e:cz}{E E':af}(h:tU S e E E'):∀(as:List AV) {g:List ao},(S=true->AV.c6 as=true)->ax E as g->ax E' (AV.mH e as) g
 | [],[],_,_=>by simp[AV.mH,ax]
 | [],_::_,_,d=>by simp[ax]at d
 |_::_,[],_,d=>by simp[ax]at d
 | a::as,v::g,k,d=>by
  simp only[AV.c6,aK]at k;simp only[ax]at d;simp only[AV.mH,ax];exact⟨Ih h a (fun e=>(k e).1) d.1,C3 h as (fun e=>(k e).2) d.2⟩
end
structure KeepIn (e:cz) (E E':af):Prop where
 ok:∀ b,E.kV b->E'.kV b/\E'.w.heap[b]? = E.w.heap[b]?
 w:E'.w=E.w
 ae:∀ j,j<e.aA.length->E'.ae[j]? = E.ae[e.at j]?
 lU:∀(j:Nat) o l,E'.H[j]? = some o->o.label=some l->E'.X.r l=E.X.r l
def KeepIn.bU{e:cz}{E E':af}(h:KeepIn e E E'):E.bU E':=⟨h.ok⟩
structure wv (e:cz) (lV:List Nat) (E E':af):Prop extends KeepIn e E E' where
 Y':∀ i,i∈lV->∀ b n,E.ae[i]? = some (some (b,n))->E'.kV b
def fI{α:Type}:List α->List Nat->List α->List α
 |l,i::d,x::g=>fI (l.set i x) d g
 |l,_,_=>l
def rH{α:Type}:∀(d:List Nat) (l g:List α),(fI l d g).length=l.length
 | [],_,_=>by simp[fI]
 |_::_,_,[]=>by simp[fI]
 |i::d,l,x::g=>by simp[fI,rH d]
def C5{α:Type}:∀(d:List Nat) (l g:List α) (n:Nat),n∉d->(fI l d g)[n]? = l[n]?
 | [],_,_,_,_=>by simp[fI]
 |_::_,_,[],_,_=>by simp[fI]
 | i::d,l,x::g,n,h=>by
  simp only[cq,not_or]at h;simp only[fI];rw[C5 d _ g n h.2,bg (Ne.symm h.1)]
def N2{α:Type}:∀(d:List Nat) (l g:List α) (j i:Nat) (x:α),d.Nodup->d[j]? = some i->g[j]? = some x->i<l.length->(fI l d g)[i]? = some x
 | [],_,_,_,_,_,_,h,_,_=>by simp at h
 |_::_,_,[],_,_,_,_,_,h,_=>by simp at h
 | k::d,l,y::g,0,i,x,hn,h1,q,v=>by
  simp at h1 q;subst h1; subst q;simp only[fI];have:k∉d:=(pW.1 hn).1;rw[C5 d _ g k this,List.getElem?_set_self v]
 | k::d,l,y::g,j+1,i,x,hn,h1,q,v=>by
  simp only[fI];exact N2 d _ g j i x (pW.1 hn).2 (by simpa using h1) (by simpa using q) (by simpa using v)
def ai.C6(e:cz)(j:Nat):ai->Bool
 |.dead=>true
 |.vQ _ _ _=>true
 |_=>aG (e.up j) 0
def nF(e:cz):Nat->List ai->List ai
 |_,[]=>[]
 |j,o::os=>o.cG e j::nF e (j+1) os
def kE(e:cz):Nat->List ai->Bool
 |_,[]=>true
 |j,o::os=>o.C6 e j&&kE e (j+1) os
def Ii(e:cz):∀(j:Nat) (os:List ai),(nF e j os).length=os.length
 |_,[]=>rfl
 |j,_::os=>by simp[nF,Ii e (j+1) os]
def N3(e:cz):∀(j:Nat) (os:List ai) (i:Nat),(nF e j os)[i]? = (os[i]?).map (ai.cG e (j+i))
 |_,[],i=>by simp[nF]
 |j,o::os,0=>by simp[nF]
 | j,o::os,i+1=>by
  simp only[nF,List.getElem?_cons_succ,N3 e (j+1) os i];rw[show j+1+i=j+(i+1) from by omega]
def N4{e:cz}:∀{j:Nat} {os:List ai} {i:Nat} {o:ai},kE e j os=true->os[i]? = some o->o.C6 e (j+i)=true
 |_,[],i,_,_,h=>by simp at h
 | j,_::os,0,o,h,hi=>by
  simp only[kE,aK]at h;simp at hi;subst hi;exact h.1
 | j,_::os,i+1,o,h,hi=>by
  simp only[kE,aK]at h;have:=N4 h.2 (by simpa using hi)
  rwa [show j+1+i=j+(i+1) from by omega]at this
def zO{e:cz}{j:Nat}{o:ai}(h:o.C6 e j=true)(v:Nat):(o.cG e j).aV = some v↔∃ u,o.aV = some u/\v=u+e.up j:=by
 cases o with
 |dead=>simp[ai.cG,ai.aV]
 |eD=>simp[ai.cG,ai.aV]
 |vQ k u rZ=>simp[ai.cG,ai.aV,eq_comm]
 | box cells =>
  have:=bz h;simp[ai.cG,ai.aV,this,eq_comm]
 | map d cl =>
  have:=bz h;simp[ai.cG,ai.aV,this,eq_comm]
 | iter s p =>
  have:=bz h;simp[ai.cG,ai.aV,this,eq_comm]
 | gy l T B s =>
  have:=bz h;simp[ai.cG,ai.aV,this,eq_comm]
 | a7 l k d cl =>
  have:=bz h;simp[ai.cG,ai.aV,this,eq_comm]
 | mm l d g cl =>
  have:=bz h;simp[ai.cG,ai.aV,this,eq_comm]
 | cM l k n g =>
  have:=bz h;simp[ai.cG,ai.aV,this,eq_comm]
 | bJ l k d cl =>
  have:=bz h;simp[ai.cG,ai.aV,this,eq_comm]
def N5(e:cz)(j:Nat)(o:ai):(o.cG e j).born=o.born:=by cases o<;>rfl
def N6(e:cz)(j:Nat)(o:ai):(o.cG e j).label=o.label:=by cases o<;>rfl
def Za(e:cz)(j:Nat)(o:ai):(o.cG e j).dW=o.dW:=by cases o<;>rfl
def N7{k:AV}(h:k.bQ=true):(hZ k).1.bQ=true/\(hZ k).2.bQ=true:=by
 unfold hZ;split
 ·simpa only[AV.bQ,AV.c6,gX,aK]using h
 ·exact⟨h,rfl⟩
def ai.bQ:ai->Bool
 |.box cells=>AV.c6 cells
 |.vQ _ _ rZ=>rZ.all fun r=>AV.c6 r
 |.map d _=>d.all fun x=>x.1.bQ&&x.2.1.bQ
 | .a7 _ _ d _=>d.all fun x=>x.1.bQ&&(match x.2.1 with
  |some rZ=>rZ.all fun r=>AV.c6 r
  |none=>true)
 |.mm _ d g _=>(d.all fun x=>x.1.bQ)&&g.all fun m=>m.1.all fun x=>x.1.bQ&&x.2.1.bQ
 |.cM _ _ _ g=>g.all fun rZ=>rZ.all fun r=>AV.c6 r
 | .bJ _ _ d _=>d.all fun x=>x.1.bQ&&((match x.2.1.1 with
  |some rZ=>rZ.all fun r=>AV.c6 r
  |none=>true)&&(match x.2.1.2 with
  |some rZ=>rZ.all fun r=>AV.c6 r
  |none=>true))
 |_=>true
def N8{S:Bool}{e:cz}{E E':af}(h:tU S e E E'){b:Nat}(hb:E'.w.heap[b]? = E.w.heap[b]?):∀(as:List AV) {o:Nat},(S=true->AV.c6 as=true)->cV E as b o->cV E' (AV.mH e as) b o
 | [],_,_,_=>by simp[AV.mH,cV]
 | a::as,o,d,g=>by
  simp only[AV.c6,aK]at d;simp only[cV]at g;simp only[AV.mH,cV];obtain⟨⟨v,h1,k,q⟩,y⟩:=g;exact⟨⟨v,by rw[World.vc hb]; exact h1,k,Ih h a (fun e=>(d e).1) q⟩,N8 h hb as (fun e=>(d e).2) y⟩
mutual
def C7{E E':af}:∀(a:AV) {c:ao},a.closed=true->a.bQ=true->ad E a c->ad E' a c
 |.undef,_,_,_,_=>by simp[ad]
 |.lit v,c,_,_,d=>by simpa only[ad]using d
 |.nils,c,_,_,d=>by simpa only[ad]using d
 |.ifc,c,_,_,d=>by simpa only[ad]using d
 |.emptyS n,c,_,_,d=>by simpa only[ad]using d
 |.list ..,_,_,h,_ | .listF ..,_,_,h,_ | .cptr _,_,_,h,_=>by simp[AV.bQ]at h
 |.ptr ..,_,h,_,_ | .vQ ..,_,h,_,_ | .map _,_,h,_,_=>by simp[AV.closed]at h
 | .agg cells,c,g,k,d=>by
  simp only[ad]at d|-;obtain⟨cs,e,h1,q⟩:=d;exact⟨cs,e,h1,C8 cells (by simpa only[AV.closed]using g) (by simpa only[AV.bQ]using k) q⟩
 | .tuple cells,c,g,k,d=>by
  simp only[ad]at d|-;obtain⟨cs,e,q⟩:=d;exact⟨cs,e,C8 cells (by simpa only[AV.closed]using g) (by simpa only[AV.bQ]using k) q⟩
 | .clo f cells,c,g,k,d=>by
  simp only[ad]at d|-;obtain⟨cs,e,q⟩:=d;exact⟨cs,e,C8 cells (by simpa only[AV.closed]using g) (by simpa only[AV.bQ]using k) q⟩
def C8{E E':af}:∀(as:List AV) {g:List ao},AV.bM as=true->AV.c6 as=true->ax E as g->ax E' as g
 | [],[],_,_,_=>by simp[ax]
 | [],_::_,_,_,d=>by simp[ax]at d
 |_::_,[],_,_,d=>by simp[ax]at d
 | a::as,v::g,h,k,d=>by
  simp only[AV.bM,AV.c6,aK]at h k;simp only[ax]at d|-;exact⟨C7 a h.1 k.1 d.1,C8 as h.2 k.2 d.2⟩
end
def N9{E E':af}{b:Nat}(hb:E'.w.heap[b]? = E.w.heap[b]?):∀(as:List AV) {o:Nat},AV.bM as=true->AV.c6 as=true->cV E as b o->cV E' as b o
 | [],_,_,_,_=>by simp[cV]
 | a::as,o,d,g,h=>by
  simp only[AV.bM,AV.c6,aK]at d g;simp only[cV]at h|-;obtain⟨⟨v,h1,k,q⟩,y⟩:=h;exact⟨⟨v,by rw[World.vc hb]; exact h1,k,C7 a d.1 g.1 q⟩,N9 hb as d.2 g.2 y⟩
def zP{E E':af}{b k:Nat}(hb:E'.w.heap[b]? = E.w.heap[b]?):∀(rs:List (List AV)) {o:Nat},fv rs->(rs.all fun r=>AV.c6 r)=true->cY E k rs b o->cY E' k rs b o
 | [],_,_,_,_=>by simp[cY]
 | r::rs,o,h,g,d=>by
  simp only[oa,aK]at g;simp only[cY]at d|-;exact⟨d.1,N9 hb r (h r cX) g.1 d.2.1,zP hb rs (fun x q=>h x (dp _ q)) g.2 d.2.2⟩
def wx{E E':af}:∀{g:List (AV × AV × Nat)} {q:List MapEntry},(g.all fun x=>x.1.bQ&&x.2.1.bQ)=true->bL E g q->bL E' g q
 | [],[],_,_=>by simp[bL]
 | (k,v,n)::g,e::q,h,d=>by
  simp only[oa,aK]at h;simp only[bL]at d|-;obtain⟨h1,M,N,y,I,O⟩:=d;exact⟨C7 k y h.1.1 h1,C7 v I h.1.2 M,N,y,I,wx h.2 O⟩
 | [],_::_,_,d=>by simp[bL]at d
 |_::_,[],_,d=>by simp[bL]at d
def kF{E E':af}(h:E.bU E'):∀{g:List (AV × AV × Nat)} {q:List MapEntry},bL E g q->bL E' g q
 | [],[],_=>by simp[bL]
 | (k,v,n)::g,e::q,d=>by
  simp only[bL]at d|-;obtain⟨h1,M,N,y,I,O⟩:=d;exact⟨fE h k y h1,fE h v I M,N,y,I,kF h O⟩
 | [],_::_,d=>by simp[bL]at d
 |_::_,[],d=>by simp[bL]at d
def Zb{S:Bool}{e:cz}{E E':af}(h:tU S e E E'){j:Nat}{o:ai}(hS:S=true->o.bQ=true)(U:E'.ae[e.at j]? = E.ae[j]?) (hb:∀ b n,E.ae[j]? = some (some (b,n))->E'.w.heap[b]? = E.w.heap[b]?)
  (hg:∀ l,o.label=some l->E'.X.r l=E.X.r l/\∀(h g m:Nat),(E.X.r l)[h]? = some (some (some (g,m)))->E'.w.heap[g]? = E.w.heap[g]?)
  (ho:aZ E j o):aZ E' (e.at j) (o.cG e j):=by
 cases o with
 |dead=>simp only[ai.cG,aZ]at *; rw[U]; exact ho
 |eD=>simp only[ai.cG,aZ]at *; rw[U]; exact ho
 | box cells =>
  simp only[ai.cG,aZ]at *;obtain⟨b,n,h1,I,M⟩:=ho;exact⟨b,n,by rw[U,h1],by rw[N1]; exact ve (hb b n h1) I,N8 h (hb b n h1) cells (fun e=>by simpa only[ai.bQ]using hS e) M⟩
 | vQ k al rZ =>
  simp only[ai.cG,aZ]at *;rcases ho with⟨h1,I⟩|⟨b,m,h1,I,M,V,d⟩
  ·exact .inl ⟨by rw[U,h1],I⟩
  ·refine .inr ⟨b, m, by rw [U, h1], ve (hb b m h1) I, M, V, ?_⟩
   cases S with
   |true=>exact zP (hb b m h1) rZ V (by simpa only[ai.bQ]using hS rfl) d
   |false=>exact kX h.bU rZ V (hb b m h1) d
 | map es clock =>
  simp only[ai.cG,aZ]at *;obtain⟨b,n,ms,h1,I,M⟩:=ho;refine⟨b,n,ms,by rw[U,h1],by rw[hb b n h1,I],?_⟩;cases S with
  |true=>exact wx (by simpa only[ai.bQ]using hS rfl) M
  |false=>exact kF h.bU M
 | iter s pos =>
  simp only[ai.cG,aZ]at *;obtain⟨b,n,h1,I⟩:=ho;exact⟨b,n,by rw[U,h1],by rw[hb b n h1,I]⟩
 | gy l T B s =>
  simp only[ai.cG,aZ]at *;obtain⟨b,n,p,v,k,q,h1,I,M,V,d,h6⟩:=ho;obtain⟨W,g2⟩:=hg l rfl;exact⟨b,n,p,v,k,q,by rw[U,h1],by rw[hb b n h1,I],M,by rw[W,V],by rw[W]; exact d,Gc (fun g m e=>g2 k g m (by rw[V,e])) h6⟩
 | a7 l k es clock =>
  simp only[ai.cG,aZ]at *;obtain⟨b,n,ms,h1,I,M,V⟩:=ho;obtain⟨W,g2⟩:=hg l rfl;have hsol:S=true->∀ x∈es,x.1.bQ=true/\∀ rZ,x.2.1=some rZ->(rZ.all fun r=>AV.c6 r)=true:=fun e x O=>by
   have d:=dN.1 (by simpa only[ai.bQ]using hS e) x O;simp only[aK]at d;exact⟨d.1,fun rZ N=>by rw[N]at d; exact d.2⟩
  refine⟨b,n,ms,by rw[U,h1],by rw[hb b n h1,I],?_,yD (fun h g m hk=>⟨by rw[W]; exact hk,g2 h g m hk⟩) (fun i x rZ hi O b hb2 hc N=>?_) V⟩
  ·cases S with
   | true =>
    refine wx (dN.2 fun x O=>?_) M;obtain⟨y,hy,rfl⟩:=dB.1 O;simp[(N7 (hsol rfl y hy).1).1,(N7 (hsol rfl y hy).1).2]
   |false=>exact kF h.bU M
  ·cases S with
   |true=>exact zP hb2 rZ hc ((hsol rfl x (eS hi)).2 rZ O) N
   |false=>exact kX h.bU rZ hc hb2 N
 | mm l es ms clock =>
  simp only[ai.cG,aZ]at *;obtain⟨b,n,mes,h1,I,M,V⟩:=ho;obtain⟨W,g2⟩:=hg l rfl;have hsol:S=true->(es.all fun x=>x.1.bQ)=true/\∀ m∈ms,(m.1.all fun x=>x.1.bQ&&x.2.1.bQ)=true:=fun e=>by
   have d:=hS e;simp only[ai.bQ,aK]at d;exact⟨d.1,dN.1 d.2⟩
  refine⟨b,n,mes,by rw[U,h1],by rw[hb b n h1,I],?_,Ge W g2 (fun m hm q hq=>?_) V⟩
  ·cases S with
   | true =>
    refine wx (dN.2 fun x O=>?_) M;obtain⟨y,hy,rfl⟩:=dB.1 O;simp[dN.1 (hsol rfl).1 y hy,AV.bQ]
   |false=>exact kF h.bU M
  ·cases S with
   |true=>exact wx ((hsol rfl).2 m hm) hq
   |false=>exact kF h.bU hq
 | cM l k n ms =>
  simp only[ai.cG,aZ]at *;obtain⟨b,m,cs,el,h1,I,M⟩:=ho;obtain⟨W,g2⟩:=hg l rfl;refine⟨b,m,cs,el,by rw[U,h1],by rw[hb b m h1,I],Gg W g2 (fun rZ hm b hb2 hc N=>?_) M⟩;cases S with
  |true=>exact zP hb2 rZ hc (dN.1 (by simpa only[ai.bQ]using hS rfl) rZ hm) N
  |false=>exact kX h.bU rZ hc hb2 N
 | bJ l k es clock =>
  simp only[ai.cG,aZ]at *;obtain⟨b,n,ms,h1,I,M,V⟩:=ho;obtain⟨W,g2⟩:=hg l rfl;have hsol:S=true->∀ x∈es,x.1.bQ=true/\∀ s rZ,(gK s x).2.1=some rZ->(rZ.all fun r=>AV.c6 r)=true:=fun e x O=>by
   have d:=dN.1 (by simpa only[ai.bQ]using hS e) x O;simp only[aK]at d;refine⟨d.1,fun s rZ N=>?_⟩;cases s with
   | true =>
    have N:x.2.1.2=some rZ:=N;rw[N]at d;exact d.2.2
   | false =>
    have N:x.2.1.1=some rZ:=N;rw[N]at d;exact d.2.1
  refine⟨b,n,ms,by rw[U,h1],by rw[hb b n h1,I],?_,B6 (fun h g m hk=>⟨by rw[W]; exact hk,g2 h g m hk⟩) (fun s i x rZ hi O b hb2 hc N=>?_) V⟩
  ·cases S with
   | true =>
    refine wx (dN.2 fun x O=>?_) M;obtain⟨y,hy,rfl⟩:=dB.1 O;simp[(hsol rfl y hy).1,AV.bQ]
   |false=>exact kF h.bU M
  ·cases S with
   |true=>exact zP hb2 rZ hc ((hsol rfl x (eS hi)).2 s rZ O) N
   |false=>exact kX h.bU rZ hc hb2 N
def pq(e:cz)(H H1:List ai):List ai:=fI H e.aA (nF e 0 H1)++(nF e 0 H1).drop e.aA.length
def jP{e:cz}{j:Nat}(h:j<e.aA.length):e.aA[j]? = some (e.at j):=by
 simp[cz.at,h]
def wy{e:cz}{j:Nat}(h:e.aA.length<=j):e.at j=e.aN+(j-e.aA.length):=by
 simp[cz.at,List.getElem?_eq_none h]
def N_{α:Type}{e:cz}{H xs:List α}(hn:e.aA.Nodup)(d:∀ j,j<e.aA.length->e.at j<H.length)(hb:e.aN=H.length)(k:e.aA.length<=xs.length)(j:Nat) :
  (fI H e.aA xs++xs.drop e.aA.length)[e.at j]? = xs[j]? := by
 rcases mo j e.aA.length with h|h
 ·rw [di (by rw [rH]; exact d j h)]
  have g:j<xs.length:=eU h k;rw[N2 e.aA H xs j (e.at j) xs[j] hn (jP h) (bZ g) (d j h),bZ g]
 ·rw [wy h, hb, iY (by rw [rH]; omega), rH, sT]
  congr 1;omega
def Ij{α:Type}{e:cz}{H d:List α}{i:Nat}(hi:i∉e.aA)(g:i<H.length):(fI H e.aA d++d.drop e.aA.length)[i]? = H[i]? := by
 rw[di (by rw[rH]; exact g),C5 e.aA H d i hi]
def rI{α:Type}{e:cz}{H g:List α}{i:Nat}{x:α}(hb:e.aN=H.length)(h:(fI H e.aA g++g.drop e.aA.length)[i]? = some x) :
  (i∉e.aA/\i<H.length/\H[i]? = some x)\/∃ j,i=e.at j:=by
 by_cases hm:i∈e.aA
 ·right
  obtain⟨j,k,rfl⟩:=pR hm;refine⟨j,?_⟩;have:=jP k;rw[bZ k]at this;exact(g_ this)
 ·rcases mo i H.length with d | q
  ·left
   exact⟨hm,d,by rw[Ij hm d]at h; exact h⟩
  ·right
   refine⟨e.aA.length+(i-H.length),?_⟩;rw[wy (by omega)];omega
def Zc(S:Bool)(lV:List Nat){P:aj}{f:bP}{args:List AV}{H0 H:List ai}{α:Type}{Ps:α->Prop}{Vf:α->AV}{Hf:α->List ai}{e:cz}(hc:qg P f args H0 fun v H'=>∃ p,Ps p/\v=Vf p/\H'=Hf p)(hk:e.aA.length=H0.length)(hb:e.aN=H.length)(hn:e.aA.Nodup)
  (hver:∀ j o,H0[j]? = some o->∃ o',H[e.at j]? = some o'/\o.born=true/\∀ v,o'.aV = some v↔∃ u,o.aV = some u/\v=u+e.up j)
  (hobj:∀ E E0,E.H=H->aJ E->wv e lV E E0->E0.H=H0->∀ j o,H0[j]? = some o->aZ E0 j o) (hu1:∀ p,Ps p->kE e 0 (Hf p)=true) (hl1:∀ p,Ps p->H0.length<=(Hf p).length) (hlent:S=false->lV=[])
  (hSv:S=true->∀ p,Ps p->(Vf p).bQ=true) (hSo:S=true->∀ p,Ps p->((Hf p).all ai.bQ)=true) (hdis:∀ i,i∈lV->i∉e.aA)
  (hlab:∀(j:Nat) o o',H0[j]? = some o->H[e.at j]? = some o'->o'.label=o.label) (hlab1:∀ p,Ps p->∀(j:Nat) o l,(Hf p)[j]? = some o->o.label=some l->∃ o0,H0[j]? = some o0/\o0.label=some l)
  (hlabm:∀(j:Nat) o o',H0[j]? = some o->H[e.at j]? = some o'->o'.dW=o.dW) {gE:List AV}
  (hargs0:∀ E E0 cs,E.H=H->aJ E->wv e lV E E0->E0.H=H0->ax E gE cs->ax E0 args cs) :
  qg P f gE H fun v H'=>∃ p,Ps p/\v=(Vf p).cG e/\H'=pq e H (Hf p):=by
 intro E cargs U HE hargs;have hElen:E.ae.length=H.length:=by rw[HE.len,U]
 have hat:∀ j,j<e.aA.length->e.at j<H.length:=fun j I=>by
  have hj':j<H0.length:=by omega
  obtain⟨o',h1,_⟩:=hver j H0[j] (bZ hj');exact aY h1
 have hmem:∀ j,j<e.aA.length->e.at j∈e.aA:=fun j I=>eS (jP I)
 let O:Nat->Prop:=fun l=>∃(j:Nat) (o:ai),H0[j]? = some o/\o.label=some l
 have:DecidablePred O:=fun l=>Classical.propDecidable (O l)
 let r0:Nat->List (Option (Option (Nat × Nat))):=fun l=>if O l then E.X.r l else []
 have r0p:∀ l,O l->r0 l=E.X.r l:=fun l h=>iP h;have r0n:∀ l (h:Nat) q,(r0 l)[h]? = some q->O l/\(E.X.r l)[h]? = some q:=fun l h q hq=>by
  by_cases y:O l
  ·rw[r0p l y]at hq; exact⟨y,hq⟩
  ·rw[show r0 l=[] from iN y]at hq; simp at hq
 let X0:XS:=⟨fun b=>E.X b\/(∃ i c,i∉e.aA/\i∉lV/\E.ae[i]? = some (some (b,c)))\/∃(l h m:Nat),¬ O l/\(E.X.r l)[h]? = some (some (some (b,m))),E.X.z,r0⟩
 let loc0:List (Option (Nat × Nat)):=e.aA.map fun i=>E.ae.getD i none
 let E0:af:={ w:=E.w,H:=H0,ae:=loc0,X:=X0 }
 have hloc0:∀ j,j<e.aA.length->loc0[j]? = E.ae[e.at j]? := fun j I=>by
  simp only[loc0,bY,jP I,ff];have:e.at j<E.ae.length:=by rw[hElen]; exact hat j I
  rw[cd,bZ this];rfl
 have hlen0:loc0.length=e.aA.length:=by simp[loc0]
 have hpast:∀ j al,E.bx (e.at j) al->j<e.aA.length:=by
  rintro j al ⟨o,ho,_⟩;rcases mo j e.aA.length with h|h
  ·exact h
  ·have := aY ho
   rw[U,wy h,hb]at this;omega
 have hobj0:∀ j,j<e.aA.length->∃ o o',H0[j]? = some o/\E.H[e.at j]? = some o'/\o.born=true/\∀ v,o'.aV = some v↔∃ u,o.aV = some u/\v=u+e.up j:=fun j I=>by
  have hj':j<H0.length:=by omega
  obtain⟨o',h1,d⟩:=hver j H0[j] (bZ hj');exact⟨H0[j],o',bZ hj',by rw[U]; exact h1,d⟩
 have hown0:∀ b,E0.ab b->E.ab b:=by
  rintro b (⟨id,c,hid⟩|⟨l,k,c,N⟩)
  case inr=>exact .inr ⟨l,k,c,(r0n l k _ N).2⟩
  have M:=aY hid;rw[show E0.ae=loc0 from rfl]at hid M;rw[hlen0]at M;rw[hloc0 id M]at hid;exact .inl ⟨_,c,hid⟩
 have hin:KeepIn e E E0:=by
  refine⟨fun b hbk=>⟨⟨hbk.1,fun ho=>hbk.2.1 (hown0 b ho),?_⟩,rfl⟩,rfl,hloc0,fun j o l h1 d=>r0p l ⟨j,o,h1,d⟩⟩;rintro(V|⟨i,c,_,_,hi⟩|⟨l,k,c,_,N⟩)
  ·exact hbk.2.2 V
  ·exact hbk.2.1 (.inl ⟨i,c,hi⟩)
  ·exact hbk.2.1 (.inr ⟨l,k,c,N⟩)
 have hpin:∀ j al,E.bx (e.at j) (al+e.up j)->E0.bx j al:=fun j al y=>by
  obtain⟨o,oo,h1,d,W,h3⟩:=hobj0 j (hpast j _ y);obtain⟨o',h4,h5⟩:=y;rw[d]at h4;cases h4;refine⟨o,h1,W,fun v hv=>?_⟩;have:=h5.2 (v+e.up j) ((h3 _).2 ⟨v,hv,rfl⟩);omega
 have hout0:∀ i b n,i∉e.aA->E.ae[i]? = some (some (b,n))->¬ E0.ab b:=by
  rintro i b n hi W (⟨id,c',hid⟩|⟨l,k,c,N⟩)
  case inr=>exact HE.du _ _ _ _ _ _ W (r0n l k _ N).2
  have M:=aY hid;rw[show E0.ae=loc0 from rfl]at hid M;rw[hlen0]at M;rw[hloc0 id M]at hid;have:=HE.inj _ _ _ _ _ W hid;exact hi (this▸hmem id M)
 have hlin:wv e lV E E0:=by
  refine⟨hin,fun i hi b n W=>⟨(HE.lt _ _ _ W).1,hout0 i b n (hdis i hi) W,?_⟩⟩;rintro(V|⟨i',c,_,d,hi'⟩|⟨l,k,c,_,N⟩)
  ·exact(HE.lt _ _ _ W).2 V
  ·have := HE.inj _ _ _ _ _ hi' W
   exact d (this▸hi)
  ·exact HE.du _ _ _ _ _ _ W N
 have HE0:aJ E0:=by
  have conv:∀{j:Nat} {x:Option (Nat × Nat)},loc0[j]? = some x->j<e.aA.length/\E.ae[e.at j]? = some x:=by
   intro j x V;have M:=aY V;rw[hlen0]at M;exact⟨M,by rw[<-hloc0 j M]; exact V⟩
  refine⟨by rw[show E0.ae=loc0 from rfl,hlen0,hk],?_,?_,?_,?_,HE.gL.bU hin.bU,fun l k l' k' b m n h1 d=>HE.fN l k l' k' b m n (r0n l k _ h1).2 (r0n l' k' _ d).2,fun i b m l k n hi d=>HE.du _ b m l k n (conv hi).2 (r0n l k _ d).2,?_,?_,?_⟩
  ·intro i j b m n hi I
   obtain⟨i1,i2⟩:=conv hi
   obtain⟨j1,j2⟩:=conv I
   have:=HE.inj _ _ _ _ _ i2 j2;exact(F0 i1 hn).1 (by rw[jP i1,jP j1,this])
  ·intro i b m hi
   obtain⟨i1,i2⟩:=conv hi
   refine⟨(HE.lt _ _ _ i2).1,?_⟩;rintro(V|⟨i',c,hni,_,hi'⟩|⟨l,k,c,_,N⟩)
   ·exact(HE.lt _ _ _ i2).2 V
   ·have := HE.inj _ _ _ _ _ hi' i2
    exact hni (this▸hmem i i1)
   ·exact HE.du _ _ _ _ _ _ i2 N
  ·rintro b (V | ⟨i', c, _, _, hi'⟩ | ⟨l, k, c, _, N⟩)
   ·exact HE.X b V
   ·exact(HE.lt _ _ _ hi').1
   ·exact(HE.cS _ _ _ _ N).1
  ·intro j o ho
   have I:j<e.aA.length:=by rw[hk]; exact aY ho
   exact hobj E E0 U HE hlin rfl j o ho
  ·intro l k b m h1
   obtain⟨y,d⟩:=r0n l k _ h1;refine⟨(HE.cS _ _ _ _ d).1,?_⟩;rintro(V|⟨i',c,_,_,hi'⟩|⟨l',k',c,hnp,N⟩)
   ·exact(HE.cS _ _ _ _ d).2 V
   ·exact HE.du _ _ _ _ _ _ hi' d
   ·exact hnp ((HE.fN _ _ _ _ _ _ _ d N).1▸y)
  ·intro i j o o' l hi I h1 d
   have i1:i<e.aA.length:=by rw[hk]; exact aY hi
   have j1:j<e.aA.length:=by rw[hk]; exact aY I
   obtain⟨_,oi,a1,a2,_⟩:=hobj0 i i1;obtain⟨_,oj,b1,b2,_⟩:=hobj0 j j1;have ei:=hlab i o oi hi (by rw[<-U]; exact a2);have ej:=hlab j o' oj I (by rw[<-U]; exact b2);have:=HE.uniq _ _ _ _ l a2 b2 (by rw[ei,h1]) (by rw[ej,d]);exact(F0 i1 hn).1 (by rw[jP i1,jP j1,this])
  ·intro l hnl k q hq
   obtain⟨⟨j,o,h1,d⟩,_⟩:=r0n l k _ hq;exact hnl j o h1 d
 refine(hc E0 cargs rfl HE0 (hargs0 E E0 _ U HE hlin rfl hargs)).mono ?_;rintro _ w' ⟨c,v',H',rfl,⟨p,y,hv',hH'⟩,loc1,r1,g1,g2,g3⟩;have hu1:kE e 0 H'=true:=by rw[hH']; exact hu1 p y
 have hl1:H0.length<=H'.length:=by rw[hH']; exact hl1 p y
 have hSv:S=true->v'.bQ=true:=fun h=>by rw[hv']; exact hSv h p y
 have hSo:S=true->(H'.all ai.bQ)=true:=fun h=>by rw[hH']; exact hSo h p y
 have hlab1:∀(j:Nat) o l,H'[j]? = some o->o.label=some l->∃ o0,H0[j]? = some o0/\o0.label=some l:=by rw[hH']; exact hlab1 p y
 let r':Nat->List (Option (Option (Nat × Nat))):=fun l=>if O l then r1 l else E.X.r l
 have rp:∀ l,O l->r' l=r1 l:=fun l h=>iP h;have rn:∀ l,¬ O l->r' l=E.X.r l:=fun l h=>iN h;have hl1':e.aA.length<=H'.length:=by omega
 have hlen1:loc1.length=H'.length:=g2.len;have hbL:e.aN=E.ae.length:=by rw[hElen]; exact hb
 have hbE:e.aN=E.H.length:=by rw[U]; exact hb
 let loc':List (Option (Nat × Nat)):=fI E.ae e.aA loc1++loc1.drop e.aA.length
 let E1:af:={ w:=w',H:=H',ae:=loc1,X:=X0.re r1 }
 let E':af:={ w:=w',H:=pq e H H',ae:=loc',X:=E.X.re r' }
 have Hin:∀ j,E'.H[e.at j]? = (H'[j]?).map (ai.cG e j):=fun j=>by
  have:=N_ (e:=e) (H:=H) (xs:=nF e 0 H') hn hat hb (by rw[Ii]; exact hl1') j;rw[N3,cP]at this;exact this
 have gP:∀ j,E'.ae[e.at j]? = loc1[j]? := fun j =>
  N_ (e:=e) (H:=E.ae) (xs:=loc1) hn (fun j I=>by rw[hElen]; exact hat j I) hbL (by rw[hlen1]; exact hl1') j
 have Hout:∀ i,i∉e.aA->i<H.length->E'.H[i]? = E.H[i]? := fun i hi M=>by
  rw[U];exact Ij (e:=e) hi M
 have Lout:∀ i,i∉e.aA->i<H.length->E'.ae[i]? = E.ae[i]? := fun i hi M=>Ij (e:=e) hi (by rw[hElen]; exact M);have hu1':∀(j:Nat) (o:ai),H'[j]? = some o->o.C6 e j=true:=fun j o ho=>by
  have:=N4 hu1 ho
  rwa [cP]at this
 have own':∀ b,E'.ab b->E1.ab b\/(∃ i c,i∉e.aA/\E.ae[i]? = some (some (b,c)))\/∃(l h m:Nat),¬ O l/\(E.X.r l)[h]? = some (some (some (b,m))):=by
  rintro b (⟨i,c,hi⟩|⟨l,k,c,N⟩)
  ·rcases rI (e := e) hbL hi with ⟨h1, _, h3⟩ | ⟨j, rfl⟩
   ·exact .inr (.inl ⟨i,c,h1,h3⟩)
   ·rw [gP j] at hi
    exact .inl (.inl ⟨j,c,hi⟩)
  ·have N : (r' l)[k]? = some (some (some (b, c))) := N
   by_cases y:O l
   ·rw [rp l y] at N
    exact .inl (.inr ⟨l,k,c,N⟩)
   ·rw [rn l y] at N
    exact .inr (.inr ⟨l,k,c,y,N⟩)
 have hout:tU S e E1 E':=by
  refine⟨fun hS b hbk=>⟨⟨hbk.1,fun ho=>?_,fun V=>hbk.2.2 (Or.inl V)⟩,rfl⟩,fun j al y=>?_,fun j al y hl=>?_⟩
  ·rcases own' b ho with h | ⟨i, c, h1, d⟩ | h
   ·exact hbk.2.1 h
   ·exact hbk.2.2 (Or.inr (.inl ⟨i,c,h1,by rw[hlent hS]; exact List.not_mem_nil,d⟩))
   ·exact hbk.2.2 (Or.inr (.inr h))
  ·obtain ⟨o, h1, d⟩ := y
   refine⟨o.cG e j,by rw[Hin j,show H'[j]? = some o from h1]; rfl,by rw[N5]; exact d.1,fun v hv=>?_⟩;obtain⟨u,q1,rfl⟩:=(zO (hu1' j o h1) v).1 hv;have:=d.2 u q1;omega
  ·obtain ⟨o', h1, d⟩ := hl
   rw[Hin j]at h1;obtain⟨o,h3,rfl⟩:=eL.1 h1;obtain⟨u,q1,q2⟩:=(zO (hu1' j o h3) _).1 d;have:u=al:=by omega
   subst this;exact⟨⟨o,h3,q1⟩,gP j⟩
 have hle:E.le E':=by
  refine⟨fun i al y=>?_,g3.size,fun b M ho=>g3.same b M (fun h=>ho (hown0 b h)),fun b M ho h'=>?_,fun i al y hl=>?_,⟨rfl,rfl⟩,fun l k N=>?_,g3.env,fun i l o h1 d hv=>?_⟩
  rotate_right
  ·by_cases hi : i ∈ e.aA
   ·obtain ⟨j, I, rfl⟩ := pR hi
    have hat':e.aA[j]=e.at j:=by
     have:=jP I;rw[bZ I]at this;exact g_ this
    rw[hat']at h1 hv|-;obtain⟨o0,oo,k1,k2,W,k3⟩:=hobj0 j I;have em:o.dW=o0.dW:=hlabm j o0 o k1 (by rw[<-U]; exact h1);have hl0:o0.label=some l:=ai.og (by rw[<-em]; exact d);have y:O l:=⟨j,o0,k1,hl0⟩
    obtain⟨o',w1,w2⟩:=hv;rw[Hin j]at w1;obtain⟨o1,r3,rfl⟩:=eL.1 w1;obtain⟨u,q1,q2⟩:=(zO (hu1' j o1 r3) _).1 w2;have hu:u=0:=by omega
    subst hu;obtain⟨⟨t,ht⟩,o2,s1,s2⟩:=g3.grow j l o0 k1 (by rw[<-em]; exact d) ⟨o1,r3,q1⟩;have ht':r1 l=E.X.r l++t:=by
     rw[<-r0p l y];exact ht
    refine⟨⟨t,by rw[show E'.X.r l=r' l from rfl,rp l y]; exact ht'⟩,o2.cG e j,?_,by rw[Za]; exact s2⟩;rw[Hin j,show H'[j]? = some o2 from s1];rfl
   ·have M := aY h1
    rw[U]at M;have hnp:¬ O l:=by
     rintro⟨j,o0,a1,a2⟩;have j1:j<e.aA.length:=by rw[hk]; exact aY a1
     obtain⟨_,oj,b1,b2,_⟩:=hobj0 j j1;have h3:=HE.uniq _ _ _ _ l h1 b2 (ai.og d) (by rw[hlab j o0 oj a1 (by rw[<-U]; exact b2),a2]);exact hi (h3▸hmem j j1)
    exact⟨⟨[],by rw[List.append_nil,show E'.X.r l=r' l from rfl,rn l hnp]⟩,o,by rw[Hout i hi M]; exact h1,d⟩
  ·by_cases hi : i ∈ e.aA
   ·obtain ⟨j, I, rfl⟩ := pR hi
    have hat':e.aA[j]=e.at j:=by
     have:=jP I;rw[bZ I]at this;exact g_ this
    rw[hat']at y|-;obtain⟨o0,oo,h1,d,W,h3⟩:=hobj0 j I;obtain⟨o,h4,h5⟩:=y;rw[d]at h4;cases h4;have hj1:j<H'.length:=by omega
    have hbn':H'[j].born=true:=by
     have p0:E0.bx j 0:=⟨o0,h1,W,fun v _=>eV v⟩
     obtain⟨o2,r1,r2⟩:=g3.bx j _ p0;rw[show E1.H=H' from rfl,bZ hj1]at r1;cases r1;exact r2.1
    refine⟨H'[j].cG e j,by rw[Hin j,bZ hj1]; rfl,by rw[N5]; exact hbn',fun v hv=>?_⟩;obtain⟨u,q1,rfl⟩:=(zO (hu1' j _ (bZ hj1)) v).1 hv;cases hz:o0.aV with
    | none =>
     have p0:E0.bx j (u+1):=⟨o0,h1,W,fun v hv=>by rw[hz]at hv; cases hv⟩
     obtain⟨o2,r1,r2⟩:=g3.bx j _ p0;rw[show E1.H=H' from rfl,bZ hj1]at r1;cases r1;have:=r2.2 u q1;omega
    | some u0 =>
     have p0:E0.bx j u0:=⟨o0,h1,W,fun v hv=>by rw[hz]at hv; cases hv; exact aM _⟩
     obtain⟨o2,r1,r2⟩:=g3.bx j _ p0;rw[show E1.H=H' from rfl,bZ hj1]at r1;cases r1;have:=r2.2 u q1;have:=h5.2 (u0+e.up j) ((h3 _).2 ⟨u0,hz,rfl⟩);omega
   ·obtain ⟨o, h1, d⟩ := y
    have M:=aY h1;rw[U]at M;exact⟨o,by rw[Hout i hi M]; exact h1,d⟩
  ·rcases own' b h' with h | ⟨i, c, _, d⟩ | ⟨l, k, c, _, d⟩
   ·exact g3.ab b M (fun h=>ho (hown0 b h)) h
   ·exact ho (.inl ⟨i,c,d⟩)
   ·exact ho (.inr ⟨l,k,c,d⟩)
  ·have M:i<H.length:=by
    obtain⟨o,h1,_⟩:=y;have:=aY h1
    rwa [U]at this
   by_cases hi:i∈e.aA
   ·obtain ⟨j, I, rfl⟩ := pR hi
    have hat':e.aA[j]=e.at j:=by
     have:=jP I;rw[bZ I]at this;exact g_ this
    rw[hat']at y hl|-;obtain⟨o',r1,r2⟩:=hl;rw[Hin j]at r1;obtain⟨o1,r3,rfl⟩:=eL.1 r1;obtain⟨u,q1,rfl⟩:=(zO (hu1' j o1 r3) _).1 r2;have p0:=hpin j u y;obtain⟨⟨o0,s1,s2⟩,s3⟩:=g3.live j u p0 ⟨o1,r3,q1⟩;obtain⟨o0',oo,h1,d,W,h3⟩:=hobj0 j I;rw[show E0.H=H0 from rfl,h1]at s1;cases s1;refine⟨⟨_,d,(h3 _).2 ⟨u,s2,rfl⟩⟩,?_⟩;rw[gP j,<-hloc0 j I];exact s3
   ·obtain ⟨o', r1, r2⟩ := hl
    rw[Hout i hi M]at r1;exact⟨⟨o',r1,r2⟩,Lout i hi M⟩
  ·by_cases y : O l
   ·have := g3.rl l k (by show k < (r0 l).length; rw [r0p l y]; exact N)
    rw[show E0.X.r l=r0 l from rfl,r0p l y]at this;rw[show E'.X.r l=r' l from rfl,rp l y];exact this
   ·rw [show E'.X.r l = r' l from rfl, rn l y]
    exact⟨N,fun _ hq=>hq⟩
 have lab':∀(j:Nat) o l,H'[j]? = some o->o.label=some l->O l:=fun j o l h1 d=>by
  obtain⟨o0,a1,a2⟩:=hlab1 j o l h1 d;exact⟨j,o0,a1,a2⟩
 have labIn:∀(j:Nat) o l,H0[j]? = some o->o.label=some l->∃ o',E.H[e.at j]? = some o'/\o'.label=some l/\e.at j∈e.aA:=fun j o l h1 d=>by
  have j1:j<e.aA.length:=by rw[hk]; exact aY h1
  obtain⟨_,oj,b1,b2,_⟩:=hobj0 j j1;exact⟨oj,b2,by rw[hlab j o oj h1 (by rw[<-U]; exact b2),d],hmem j j1⟩
 have labOut:∀(i:Nat) o l,i∉e.aA->E.H[i]? = some o->o.label=some l->¬ O l:=fun i o l hi h1 d ⟨j,o0,a1,a2⟩=>by
  obtain⟨o',b1,b2,b3⟩:=labIn j o0 l a1 a2;have:=HE.uniq _ _ _ _ l h1 b1 d b2;exact hi (this▸b3)
 have satOut:∀(l k b m:Nat),¬ O l->(E.X.r l)[k]? = some (some (some (b,m)))->¬ E0.ab b:=by
  rintro l k b m y h1 (⟨id,c',hid⟩|⟨l',k',c,N⟩)
  ·have M := aY hid
   rw[show E0.ae=loc0 from rfl]at hid M;rw[hlen0]at M;rw[hloc0 id M]at hid;exact HE.du _ _ _ _ _ _ hid h1
  ·obtain ⟨q1, q2⟩ := r0n l' k' _ N
   exact y ((HE.fN _ _ _ _ _ _ _ h1 q2).1▸q1)
 refine⟨c,v'.cG e,pq e H H',rfl,⟨p,y,by rw[hv'],by rw[hH']⟩,loc',r',Ih hout v' hSv g1,?_,hle⟩;refine⟨?_,?_,?_,fun b V=>eU (HE.X b V) g3.size,?_,HE.gL.bU hle.toC,?_,?_,?_,?_,?_⟩
 ·simp only[loc',pq,fu,rH,List.length_drop,Ii,hElen,hlen1]
 ·intro i j b m n hi I
  rcases rI (e:=e) hbL hi with⟨i1,_,i3⟩|⟨i',rfl⟩<;>rcases rI (e:=e) hbL I with⟨j1,_,j3⟩|⟨j',rfl⟩
  ·exact HE.inj _ _ _ _ _ i3 j3
  ·rw [gP j'] at I
   exact(g3.ab b (HE.lt _ _ _ i3).1 (hout0 i b m i1 i3) (.inl ⟨j',n,I⟩)).elim
  ·rw [gP i'] at hi
   exact(g3.ab b (HE.lt _ _ _ j3).1 (hout0 j b n j1 j3) (.inl ⟨i',m,hi⟩)).elim
  ·rw [gP i'] at hi
   rw[gP j']at I;rw[g2.inj _ _ _ _ _ hi I]
 ·intro i b m hi
  rcases rI (e:=e) hbL hi with⟨i1,_,i3⟩|⟨i',rfl⟩
  ·exact⟨eU (HE.lt _ _ _ i3).1 g3.size,(HE.lt _ _ _ i3).2⟩
  ·rw [gP i'] at hi
   exact⟨(g2.lt _ _ _ hi).1,fun V=>(g2.lt _ _ _ hi).2 (Or.inl V)⟩
 ·intro i o hi
  have hi':=hi;unfold pq at hi';rcases rI (e:=e) hb hi' with⟨i1,i2,i3⟩|⟨j,rfl⟩
  ·refine nh (E := E) (fun a _ hr => bD hle a hr) (Lout i i1 i2) (fun b n W => ?_) (fun l hl => ?_) (HE.obj i o (by rw [U]; exact i3))
   ·exact g3.same b (HE.lt _ _ _ W).1 (hout0 i b n i1 W)
   ·have y := labOut i o l i1 (by rw [U]; exact i3) hl
    exact⟨rn l y,fun k g m h1=>g3.same g (HE.cS _ _ _ _ h1).1 (satOut l k g m y h1)⟩
  ·have h1 := Hin j
   rw[show E'.H=pq e H H' from rfl,hi]at h1;obtain⟨o1,d,rfl⟩:=eL.1 h1.symm;exact Zb hout (fun e=>dN.1 (hSo e) o1 (eS d)) (gP j) (fun _ _ _=>rfl) (fun l hl=>⟨rp l (lab' j o1 l d hl),fun _ _ _ _=>rfl⟩) (g2.obj j o1 d)
 ·intro l k l' k' b m n h1 d
  have h1:(r' l)[k]? = some (some (some (b,m))):=h1;have d:(r' l')[k']? = some (some (some (b,n))):=d;by_cases y:O l<;>by_cases hp':O l'
  ·rw [rp l y] at h1
   rw[rp l' hp']at d;exact g2.fN l k l' k' b m n h1 d
  ·rw [rp l y] at h1
   rw[rn l' hp']at d;exact((g2.cS l k b m h1).2 (.inr (.inr ⟨l',k',n,hp',d⟩))).elim
  ·rw [rn l y] at h1
   rw[rp l' hp']at d;exact((g2.cS l' k' b n d).2 (.inr (.inr ⟨l,k,m,y,h1⟩))).elim
  ·rw [rn l y] at h1
   rw[rn l' hp']at d;exact HE.fN l k l' k' b m n h1 d
 ·intro i b m l k n hi h1
  have h1:(r' l)[k]? = some (some (some (b,n))):=h1;rcases rI (e:=e) hbL hi with⟨i1,_,i3⟩|⟨i',rfl⟩
  ·by_cases y : O l
   ·rw [rp l y] at h1
    exact g3.ab b (HE.lt _ _ _ i3).1 (hout0 i b m i1 i3) (.inr ⟨l,k,n,h1⟩)
   ·rw [rn l y] at h1
    exact HE.du _ _ _ _ _ _ i3 h1
  ·rw [gP i'] at hi
   by_cases y:O l
   ·rw [rp l y] at h1
    exact g2.du _ _ _ _ _ _ hi h1
   ·rw [rn l y] at h1
    exact(g2.lt _ _ _ hi).2 (.inr (.inr ⟨l,k,n,y,h1⟩))
 ·intro l k b m h1
  have h1:(r' l)[k]? = some (some (some (b,m))):=h1;by_cases y:O l
  ·rw [rp l y] at h1
   exact⟨(g2.cS _ _ _ _ h1).1,fun V=>(g2.cS _ _ _ _ h1).2 (.inl V)⟩
  ·rw [rn l y] at h1
   exact⟨eU (HE.cS _ _ _ _ h1).1 g3.size,(HE.cS _ _ _ _ h1).2⟩
 ·have inn:∀ (j:Nat) o,E'.H[e.at j]? = some o->∃ o1,H'[j]? = some o1/\o.label=o1.label:=fun j o h=>by
   rw[Hin j]at h;obtain⟨o1,d,rfl⟩:=eL.1 h;exact⟨o1,d,N6 e j o1⟩
  intro i j o o' l hi I h1 d;have hi':=hi;have hj':=I;unfold pq at hi' hj';rcases rI (e:=e) hb hi' with⟨i1,i2,i3⟩|⟨i',rfl⟩<;>rcases rI (e:=e) hb hj' with⟨j1,j2,j3⟩|⟨j',rfl⟩
  ·exact HE.uniq i j o o' l (by rw[U]; exact i3) (by rw[U]; exact j3) h1 d
  ·obtain ⟨o1, a1, a2⟩ := inn j' o' I
   exact(labOut i o l i1 (by rw[U]; exact i3) h1 (lab' j' o1 l a1 (by rw[<-a2,d]))).elim
  ·obtain ⟨o1, a1, a2⟩ := inn i' o hi
   exact(labOut j o' l j1 (by rw[U]; exact j3) d (lab' i' o1 l a1 (by rw[<-a2,h1]))).elim
  ·obtain ⟨o1, a1, a2⟩ := inn i' o hi
   obtain⟨o2,b1,b2⟩:=inn j' o' I;rw[g2.uniq i' j' o1 o2 l a1 b1 (by rw[<-a2,h1]) (by rw[<-b2,d])]
 ·intro l hnl k q hq
  have hq:(r' l)[k]? = some (some q):=hq;by_cases y:O l
  ·rw [rp l y] at hq
   refine g2.ja l (fun j o h1 d=>?_) k q hq;refine hnl (e.at j) (o.cG e j) ?_ (by rw[N6,d]);rw[Hin j,show H'[j]? = some o from h1];rfl
  ·rw [rn l y] at hq
   refine HE.ja l (fun i o h1 d=>?_) k q hq;have M:=aY h1;rw[U]at M;by_cases hi:i∈e.aA
   ·obtain ⟨j, I, rfl⟩ := pR hi
    have hat':e.aA[j]=e.at j:=by
     have:=jP I;rw[bZ I]at this;exact g_ this
    rw[hat']at h1;obtain⟨o0,oo,a1,a2,_⟩:=hobj0 j I;rw[h1]at a2;cases a2;exact y ⟨j,o0,a1,by rw[<-hlab j o0 o a1 (by rw[<-U]; exact h1),d]⟩
   ·exact hnl i o (by rw[Hout i hi M]; exact h1) d
def frame(S:Bool)(lV:List Nat){P:aj}{f:bP}{args:List AV}{H0 H1 H:List ai}{v:AV}{e:cz}(W:fO P f args H0 v H1)(hk:e.aA.length=H0.length)(hb:e.aN=H.length)(hn:e.aA.Nodup)
  (y:∀ j o,H0[j]? = some o->∃ o',H[e.at j]? = some o'/\o.born=true/\∀ v,o'.aV = some v↔∃ u,o.aV = some u/\v=u+e.up j)
  (I:∀ E E0,E.H=H->aJ E->wv e lV E E0->E0.H=H0->∀ j o,H0[j]? = some o->aZ E0 j o) (N:kE e 0 H1=true) (O:H0.length<=H1.length) (g:S=false->lV=[])
  (U:S=true->v.bQ=true) (V:S=true->(H1.all ai.bQ)=true) (M:∀ i,i∈lV->i∉e.aA)
  (hlab:∀(j:Nat) o o',H0[j]? = some o->H[e.at j]? = some o'->o'.label=o.label) (k:∀(j:Nat) o l,H1[j]? = some o->o.label=some l->∃ o0,H0[j]? = some o0/\o0.label=some l)
  (q:∀(j:Nat) o o',H0[j]? = some o->H[e.at j]? = some o'->o'.dW=o.dW) {gE:List AV}
  (d:∀ E E0 cs,E.H=H->aJ E->wv e lV E E0->E0.H=H0->ax E gE cs->ax E0 args cs) :
  fO P f gE H (v.cG e) (pq e H H1) :=
 qg.mono (Zc (α:=Unit) (Ps:=fun _=>True) (Vf:=fun _=>v) (Hf:=fun _=>H1) S lV (qg.mono W fun v' H' h=>⟨(),trivial,h.1,h.2⟩) hk hb hn y I (fun _ _=>N) (fun _ _=>O) g (fun h _ _=>U h) (fun h _ _=>V h) M hlab (fun _ _=>k) q d) fun v' H' ⟨_,_,h1,h2⟩=>⟨h1,h2⟩
end Go.AL
