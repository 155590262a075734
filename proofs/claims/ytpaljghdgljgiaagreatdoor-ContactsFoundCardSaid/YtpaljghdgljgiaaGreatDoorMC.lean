/-
 What is proved here: owned objects of data,and what operations do to them,with what must hold so that they do it. No program in sight; no condition.
-/
import Derived.Test.YtpaljghdgljgiaaGreatDoorMB
import Derived.Eval
import Derived.KernelRfl
set_option linter.all false
open Array renaming toList_append->Bl
open Bool renaming and_true->gW,and_eq_true->aL,false_eq_true->lk,not_true->xR,not_eq_true'->sL,or_eq_true->uF,eq_iff_iff->mM,and_false->xW
open ByteArray renaming empty->A'
open Decidable renaming byContradiction->Fi
open Function renaming comp->Fk
open Go renaming Value->al,FuncId->bO,TypeId->aD,Program->aj,Operand->ct,Oper->aR
open Go.Call renaming operands->uE
open Go.Op renaming operands->fc
open Go.Utf8 renaming decode->qF
open Go.Value.slice renaming injEq->l6
open List renaming length_cons->cd,getElem?_append_left->di,length_map->c9,mem_map->dw,getElem?_map->bW,getElem_of_mem->pG,getElem?_eq_getElem->bY,mem_of_getElem?->eO,getElem?_append_right->ja,getElem?_set_ne->bf,getElem?_set->ef,all_eq_true->dK,getD_eq_getElem?_getD->cu,getElem?_drop->sI,mem_cons->cq,map_cons->dx,take_append_drop->xS,ext_getElem?->jz,length_set->iv,length_append->fX,mem_append->c_,replicate->cC,mem_cons_self->cW,mem_cons_of_mem->dj,all_cons->nK,getElem?_modify->iy,take_of_length_le->JU,map_append->jM,findIdx?_cons->JW,nodup_cons->pL,getElem?_inj->Fh,map_set->sP,headD_cons->uJ,length_nil->j_,map_nil->uK,length->Bn,mem_filter->sQ,mem_flatMap->Fl
open Nat renaming le_refl->aQ,lt_of_lt_of_le->eQ,zero_le->eR,lt_or_ge->l5,zero_add->cP,sub_zero->fL,add_zero->nJ,beq->ar,eq_of_beq_eq_true->bx,sub_self->l9,ble->eh,blt->cS,ble_eq->sO,blt_eq->iL,beq_refl->iM,lt_succ_self->T8,le_of_ble_eq_true->Bm,mul_one->akn,lt_succ_of_lt->Bo,lt_irrefl->Bp
open Option renaming map_eq_some_iff->eM,isSome_none->Fe,map_some->e_,map_none->uI,isSome_some->Fj,map_map->J2
open Option.some renaming injEq->be,inj->jd
open Prod.mk renaming injEq->bo
namespace Go.AL
open Go
abbrev Kd.I:Kd:=.int .i64
abbrev BY:=ByteArray
abbrev LG:=List G
abbrev LL:=List LG
variable [Dr]
def aM:Int->Bool
 |.ofNat _=>true
 |.negSucc _=>false
def bC:Int->Int->Bool
 |.ofNat x,.ofNat y=>eh x y
 |.ofNat _,.negSucc _=>false
 |.negSucc _,.ofNat _=>true
 |.negSucc x,.negSucc y=>eh y x
def ax:Int->Int->Bool
 |.ofNat x,.ofNat y=>cS x y
 |.ofNat _,.negSucc _=>false
 |.negSucc _,.ofNat _=>true
 |.negSucc x,.negSucc y=>cS y x
def aB(n:Int):Bool:=bC (-9223372036854775808) n&&bC n 9223372036854775807
theorem jm(n:Int):aM n=decide (0<=n):=by
 cases n with
 |ofNat x=>simp[aM]
 |negSucc x=>simp[aM]
theorem eY(a b:Int):bC a b=decide (a<=b):=by
 rw[mM];cases a<;>cases b<;>simp[bC,sO]<;>(try omega)
theorem cB(a b:Int):ax a b=decide (a<b):=by
 rw[mM];cases a<;>cases b<;>simp[ax,iL]<;>(try omega)
theorem c6{n:Int}:aB n=true ↔ -9223372036854775808<=n/\n<=9223372036854775807:=by
 simp[aB,eY]
def g0(r:LG):G:=r.headD default
def gi:LG->Nat->G
 |r,0=>r.headD default
 |r,i+1=>gi r.tail i
def G.rV(g:G):LG:=g.rZ.headD []
def qW:Kd->G->G->Bool
 |.int _,a,b=>a.iV==b.iV
 |.str,a,b=>a.sV.toList==b.sV.toList
 |.bool,a,b=>a.bV==b.bV
 |.list _,_,_=>false
def bq:List Kd->LG->LG->Bool
 | [],_,_=>true
 |k::ks,r,s=>qW k (r.headD default) (s.headD default)&&bq ks r.tail s.tail
inductive Ct where
 |one (k:Kd)
 |agg (ks:List Kd)
 deriving Inhabited
def Ct.ks:Ct->List Kd
 |.one k=>[k]
 |.agg ks=>ks
def Ct.av:Ct->LG->AV
 |.one k,r=>kL k (r.headD default)
 |.agg ks,r=>.agg (aT ks r)
theorem Ct.tu(k:Ct)(r:LG):(k.av r).closed=true:=by
 cases k with
 |one k=>cases k<;>rfl
 |agg ks=>simp only[Ct.av,AV.closed,gJ]
inductive au where
 |raw (o:ai)
 |vQ (ks:List Kd) (ak:Nat) (rZ:LL)
 |map (K V:Ct) (rZ:LL) (clock:Nat)
 |a7 (l:Nat) (K:Ct) (ks:List Kd) (rZ:LL) (clock:Nat)
 |mm (l:Nat) (K KI VI:Ct) (rZ mem:LL) (clock:Nat)
 |cM (l:Nat) (ks:List Kd) (n:Nat) (ms:LL)
 |bH (l:Nat) (K:Ct) (ks:List Kd) (rZ:LL) (clock:Nat)
def dN(K V:Ct)(rZ:LL):List (AV × AV × Nat):=rZ.map fun r=>(K.av (gi r 0).rV,V.av (gi r 1).rV,(gi r 2).iV.toNat)
def jR(r:LG):LL:=((gi r 1).rV.headD default).rZ
def jD(K:Ct)(ks:List Kd)(r:LG):AV × Option (List (List AV)) × Nat:=((bif (gi r 4).bV && !(gi r 3).bV then .tuple [K.av (gi r 0).rV,.listF ks (jR r)] else K.av (gi r 0).rV),(bif (gi r 3).bV then some ((jR r).map (aT ks)) else none),(gi r 2).iV.toNat)
def gC(K:Ct)(ks:List Kd)(rZ:LL):List (AV × Option (List (List AV)) × Nat):=rZ.map (jD K ks)
def yF(m:LG):LL:=(g0 m).rZ
def kl(d:LL)(j:Nat):LL:=yF (d.getD j [])
def mn(r:LG)(s:Nat):LL:=(gi (gi r 1).rV s).rZ
def oc(K:Ct)(ks:List Kd)(r:LG):AV × (Option (List (List AV)) × Option (List (List AV))) × Nat :=
 (K.av (gi r 0).rV,(bif (gi r 3).bV then (some ((mn r 0).map (aT ks)),some ((mn r 1).map (aT ks))) else (none,none)),(gi r 2).iV.toNat)
def lz(K:Ct)(ks:List Kd)(rZ:LL):List (AV × (Option (List (List AV)) × Option (List (List AV))) × Nat):=rZ.map (oc K ks)
def tv(r:LG):Option Nat:=bif bC 0 (gi r 1).iV then some (gi r 1).iV.toNat else none
def km(K:Ct)(rZ:LL):List (AV × Option Nat × Nat):=rZ.map fun r=>(K.av (gi r 0).rV,tv r,(gi r 2).iV.toNat)
def qX(d g:Ct)(mem:LL):List (List (AV × AV × Nat) × Nat):=mem.map fun m=>(dN d g (gi m 0).rZ,(gi m 1).iV.toNat)
def au.ao:au->ai
 |.raw o=>o
 |.a7 l K ks rZ d=>.a7 l ks.length (gC K ks rZ) d
 |.map K V rZ d=>.map (dN K V rZ) d
 |.mm l K g h rZ mem d=>.mm l (km K rZ) (qX g h mem) d
 |.cM l ks n k=>.cM l ks.length n (k.map fun m=>(yF m).map (aT ks))
 |.bH l K ks rZ d=>.bH l ks.length (lz K ks rZ) d
 |.vQ ks ak rZ=>.vQ ks.length ak (rZ.map (aT ks))
def az(H:List au):List ai:=H.map au.ao
structure aF where
 fr:List AV
 H:List au
def aF.ao(s:aF):St:=⟨s.fr,az s.H⟩
def aF.eval(s:aF)(o:ct):AV:=St.eval ⟨s.fr,[]⟩ o
def aF.put(s:aF)(dst:Option Tmp)(v:AV)(H':List au):aF:=⟨ml s.fr dst v,H'⟩
theorem aF.oZ(s:aF):s.ao.eval=s.eval:=by
 funext o
 cases o<;>rfl
theorem bt{H:List au}{id:Nat}{o:au}(h:H[id]? = some o):(az H)[id]? = some o.ao:=by simp[az,h]
theorem cR(H:List au)(id:Nat)(o:au):az (H.set id o)=(az H).set id o.ao:=by simp[az,sP]
theorem jE(H:List au)(o:au):az (H++[o])=az H++[o.ao]:=by simp[az]
theorem fw(H:List au):(az H).length=H.length:=by simp[az]
mutual
def Kd.same:Kd->Kd->Bool
 |.int k,.int g=>decide (k=g)
 |.str,.str=>true
 |.bool,.bool=>true
 |.list ks,.list d=>Kd.gN ks d
 |_,_=>false
def Kd.gN:List Kd->List Kd->Bool
 | [],[]=>true
 |k::ks,g::d=>k.same g&&Kd.gN ks d
 |_,_=>false
end
mutual
theorem Kd.lB:∀{k d:Kd},k.same d=true->k=d
 |.int k,.int d,h=>by simp[Kd.same]at h; rw[h]
 |.str,.str,_=>rfl
 |.bool,.bool,_=>rfl
 |.list ks,.list g,h=>by simp only[Kd.same]at h; rw[Kd.iS h]
 |.int _,.str,h | .int _,.bool,h | .int _,.list _,h | .str,.int _,h | .str,.bool,h | .str,.list _,h=>by simp[Kd.same]at h
 |.bool,.int _,h | .bool,.str,h | .bool,.list _,h | .list _,.int _,h | .list _,.str,h | .list _,.bool,h=>by simp[Kd.same]at h
theorem Kd.iS:∀{k d:List Kd},Kd.gN k d=true->k=d
 | [],[],_=>rfl
 |k::ks,d::g,h=>by simp only[Kd.gN,aL]at h; rw[Kd.lB h.1,Kd.iS h.2]
 | [],_::_,h|_::_,[],h=>by simp[Kd.gN]at h
end
def Ct.same:Ct->Ct->Bool
 |.one k,.one g=>k.same g
 |.agg ks,.agg d=>Kd.gN ks d
 |_,_=>false
theorem Ct.lB{K d:Ct}(h:K.same d=true):K=d:=by
 cases K<;>cases d<;>simp only[Ct.same]at h
 ·rw[Kd.lB h]
 ·cases h
 ·cases h
 ·rw[Kd.iS h]
def yG:Kd->AV->Option G
 |.int k,.lit (.int g n)=>if k=g then some (.i n) else none
 |.str,.lit (.string s)=>some (.s s)
 |.bool,.lit (.bool b)=>some (.t b)
 |.list ks,.listF d rZ=>if Kd.gN ks d then some (.l rZ) else none
 |_,_=>none
def iE:List Kd->List AV->Option LG
 | [],[]=>some []
 | k::ks,a::as=>match yG k a,iE ks as with
  |some g,some d=>some (g::d)
  |_,_=>none
 |_,_=>none
def bN(ks:List Kd):List (List AV)->Option LL
 | []=>some []
 | r::rs=>match iE ks r,bN ks rs with
  |some g,some d=>some (g::d)
  |_,_=>none
theorem GL{k:Kd}{a:AV}{g:G}(h:yG k a=some g):kL k g=a:=by
 unfold yG at h;split at h
 ·split at h
  ·rename_i e; cases h; subst e; rfl
  ·cases h
 ·cases h; rfl
 ·cases h; rfl
 ·split at h
  ·rename_i e; cases h; rw[Kd.iS e]; rfl
  ·cases h
 ·cases h
theorem mo:∀{ks:List Kd} {as:List AV} {d:LG},iE ks as=some d->aT ks d=as
 | [],[],_,h=>by simp[iE]at h; subst h; rfl
 | k::ks,a::as,d,h=>by
  simp only[iE]at h;split at h
  ·rename_i g v h1 q
   cases h;simp[aT,GL h1,mo q]
  ·cases h
 | [],_::_,_,h|_::_,[],_,h=>by simp[iE]at h
theorem L_:∀{ks:List Kd} {as:List AV} {d:LG},iE ks as=some d->d.length=ks.length/\as.length=ks.length
 | [],[],_,h=>by simp[iE]at h; subst h; exact⟨rfl,rfl⟩
 | k::ks,a::as,d,h=>by
  simp only[iE]at h;split at h
  ·rename_i g v h1 q
   cases h;have:=L_ q;simp[this.1,this.2]
  ·cases h
 | [],_::_,_,h|_::_,[],_,h=>by simp[iE]at h
theorem qY{ks:List Kd}:∀{rs:List (List AV)} {d:LL},bN ks rs=some d->d.map (aT ks)=rs
 | [],_,h=>by simp[bN]at h; subst h; rfl
 | r::rs,d,h=>by
  simp only[bN]at h;split at h
  ·rename_i g q h1 k
   cases h;simp[mo h1,qY k]
  ·cases h
def yH:AV->Option Kd
 |.lit (.int k _)=>some (.int k)
 |.lit (.string _)=>some .str
 |.lit (.bool _)=>some .bool
 |.listF ks _=>some (.list ks)
 |_=>none
def qZ:List AV->Option (List Kd)
 | []=>some []
 | a::as=>match yH a,qZ as with
  |some k,some ks=>some (k::ks)
  |_,_=>none
def q9:List Kd->LG->LG
 | [],_=>[]
 |_::ks,r=>r.headD default::q9 ks r.tail
theorem GM:∀(ks:List Kd) (r:LG),(q9 ks r).length=ks.length
 | [],_=>rfl
 |_::ks,r=>by simp[q9,GM ks]
def eo(ks:List Kd)(r:LG)(d:Nat)(g:LG):LG:=(q9 ks r).take d++g++(q9 ks r).drop (d+g.length)
theorem Ma:∀(ks:List Kd) (r:LG) (n:Nat),(aT ks r).take n=aT (ks.take n) r
 | [],_,n=>by simp[aT]
 |_::_,_,0=>by simp[aT]
 |k::ks,r,n+1=>by simp[aT,Ma ks]
theorem Mb:∀(ks:List Kd) (r:LG) (n:Nat),(aT ks r).drop n=aT (ks.drop n) (r.drop n)
 | [],_,n=>by simp[aT]
 |_::_,_,0=>by simp
 |k::ks,r,n+1=>by simp[aT,Mb ks]
theorem GN:∀(ks d:List Kd) (r g:LG),r.length=ks.length->aT (ks++d) (r++g)=aT ks r++aT d g
 | [],d,r,g,h=>by
  have:r=[]:=List.length_eq_zero_iff.1 h;subst this;simp[aT]
 | k::ks,d,r,g,h=>by
  cases r with
  |nil=>simp at h
  |cons x r=>simp[aT,GN ks d r g (by simpa using h)]
theorem GO:∀(ks:List Kd) (r:LG),aT ks (q9 ks r)=aT ks r
 | [],_=>rfl
 |k::ks,r=>by simp[aT,q9,GO ks]
theorem Mc{ks:List Kd}{r q:LG}{cs:List AV}{d:Nat} (h:iE ((ks.drop d).take cs.length) cs=some q) (N:d+cs.length<=ks.length) :
  aT ks (eo ks r d q)=putCells (aT ks r) cs d:=by
 obtain⟨h1,O⟩:=L_ h;have M:((ks.drop d).take cs.length).length=cs.length:=by simp; omega
 have v:q.length=cs.length:=by omega
 have y:ks=(ks.take d++(ks.drop d).take cs.length)++ks.drop (d+cs.length):=by
  rw[List.append_assoc,<-List.drop_drop,xS,xS]
 unfold eo putCells;have g:=GM ks r
 conv=>lhs; arg 1; rw[y]
 rw[GN _ _ _ _ (by simp[g,v]; omega),GN _ _ _ _ (by simp[g]),mo h,v];congr 1
 ·congr 1
  rw[<-GO ks r,Ma];have:∀(ks:List Kd) (r:LG) (n:Nat),ks.length<=n->aT ks (r.take n)=aT ks r:=by
   intro ks
   induction ks with
   |nil=>intros; rfl
   | cons k ks I =>
    intro r n g;cases n with
    |zero=>simp at g
    | succ n =>
     cases r with
     |nil=>rfl
     |cons x r=>simp[aT,I r n (by simpa using g)]
  exact this _ _ _ (by simp; omega)
 ·conv => rhs; rw [<- GO ks r]
  rw[Mb]
end Go.AL

namespace Go.AL
open Go
variable [Dr]
theorem yI{ks:List Kd}{rZ:LL}{row:Nat}(h:row<rZ.length):(rZ.map (aT ks))[row]? = some (aT ks (rZ.getD row [])):=by
 rw[bW,cu,bY h];rfl
def kn:List AV->Option (List Int)
 | []=>some []
 | .lit (.int .i64 n)::l=>match kn l with
  |some q=>some (n::q)
  |none=>none
 |_=>none
theorem GP:∀{cells:List AV} {l:List Int},kn cells=some l->∀ i,i<l.length->cells[i]? = some (.lit (.int .i64 (l.getD i 0)))
 | [],l,h,i,hi=>by
  simp only[kn,be]at h;subst h;simp at hi
 | c::cells,l,h,i,hi=>by
  unfold kn at h;split at h
  ·rename_i he
   cases he
  ·rename_i n l' he
   cases he;split at h
   ·rename_i q d
    cases h;cases i with
    |zero=>rfl
    | succ i =>
     simp only[cd]at hi;have:=GP d i (by omega);simpa using this
   ·cases h
  ·cases h
theorem Md:∀{cells:List AV} {l:List Int},kn cells=some l->cells.length=l.length
 | [],l,h=>by
  simp only[kn,be]at h;subst h;rfl
 | c::cells,l,h=>by
  unfold kn at h;split at h
  ·rename_i he
   cases he
  ·rename_i n l' he
   cases he;split at h
   ·rename_i q d
    cases h;simp[Md d]
   ·cases h
  ·cases h
def tw(v:Int)(d:Nat):Nat->List Int->List AV
 |_,[]=>[]
 |k,n::l=>.lit (.int .i64 (bif ar d k then v else n))::tw v d (k+1) l
theorem Me{v:Int}{d:Nat}:∀{cells:List AV} {l:List Int} {k:Nat},kn cells=some l->d<k->tw v d k l=cells
 | [],l,k,h,_=>by
  simp only[kn,be]at h;subst h;rfl
 | c::cells,l,k,h,y=>by
  unfold kn at h;split at h
  ·rename_i he
   cases he
  ·rename_i n l' he
   cases he;split at h
   ·rename_i q g
    cases h;have hb:ar d k=false:=by
     cases hb:ar d k with
     |false=>rfl
     |true=>have:=bx hb; omega
    simp only[tw,hb,cF,Me g (show d<k+1 by omega)]
   ·cases h
  ·cases h
theorem Mf{v:Int}:∀{cells:List AV} {l:List Int} {k d:Nat},kn cells=some l->d<l.length->tw v (k+d) k l=putCells cells [.lit (.int .i64 v)] d
 | [],l,k,d,h,g=>by
  simp only[kn,be]at h;subst h;simp at g
 | c::cells,l,k,d,h,g=>by
  unfold kn at h;split at h
  ·rename_i he
   cases he
  ·rename_i n l' he
   cases he;split at h
   ·rename_i q y
    cases h;cases d with
    | zero =>
     simp only[tw,nJ,iM,cT,Me y (T8 k)];rfl
    | succ d =>
     have hb:ar (k+(d+1)) k=false:=by
      cases hb:ar (k+(d+1)) k with
      |false=>rfl
      |true=>have:=bx hb; omega
     have I:=Mf (v:=v) (k:=k+1) y (show d<q.length by simp only[cd]at g; omega);rw[show k+1+d=k+(d+1) by omega]at I;simp only[tw,hb,cF,I];rfl
   ·cases h
  ·cases h
def GQ(P:aj)(t:aD)(x:AV)(H:List au):Option (Bool × AV) :=
 match x with
 | .ptr id ak w row d=>match H[id]? with
  | some (.vQ ks v rZ)=>match gk P t with
   | some (n,agg)=>if ak=v/\ks.length=w then (match jB agg n ((aT ks (rZ.getD row [])).drop d) with
     |some u=>some (decide (row<rZ.length),u)
     |none=>none) else none
   |none=>none
  | some (.raw (.box cells))=>match gk P t with
   | some (n,agg)=>if ak=0/\row=0 then (match agg,kn cells with
     |false,some l=>some (cS d l.length,.lit (.int .i64 (l.getD d 0)))
     |_,_=>match jB agg n (cells.drop d)with
     |some u=>some (true,u)
     |none=>none) else none
   |none=>none
  | some (.cM l _ _ g)=>match gk P t with
   | some (n,agg)=>if ak=0/\w=1/\d=0 then (match jB agg n [.svec id l row (kl g row).length] with
     |some u=>some (cS row g.length,u)
     |none=>none) else none
   |none=>none
  |_=>none
 | .sptr id l j w row d=>match H[id]? with
  | some (.cM l' ks _ g)=>match gk P t with
   | some (n,agg)=>if l=l'/\ks.length=w then (match jB agg n ((aT ks ((kl g j).getD row [])).drop d) with
     |some u=>some (cS j g.length&&cS row (kl g j).length,u)
     |none=>none) else none
   |none=>none
  |_=>none
 | .cptr cells=>match gk P t with
  | some (n,agg)=>match jB agg n cells with
   |some u=>some (true,u)
   |none=>none
  |none=>none
 |_=>none
theorem GR{ks:List Kd}{d:LL}{j:Nat}(h:j<d.length):(d.map fun m=>(yF m).map (aT ks))[j]? = some ((kl d j).map (aT ks)):=by
 unfold kl;rw[bW,cu,bY h];rfl
theorem Ww{P:aj}{t:aD}{x:AV}{H:List au}{b:Bool}{u:AV}(h:GQ P t x H=some (b,u))(hb:b=true):mP P t x (az H)=some u:=by
 unfold GQ at h;unfold mP;split at h
 ·rename_i id ak w row I
  split at h
  ·rename_i ks v rZ q
   split at h
   case h_2=>cases h
   rename_i n agg d;split at h
   case isFalse=>cases h
   rename_i k;split at h
   case h_2=>cases h
   rename_i y g;simp only[be,bo]at h;obtain⟨h1,rfl⟩:=h;subst hb;simp only[dT]at h1;rw[d];simp only[bt q,au.ao];rw[iP ⟨k.1,k.2⟩,yI h1];exact g
  ·rename_i cells q
   split at h
   case h_2=>cases h
   rename_i n agg d;split at h
   case isFalse=>cases h
   rename_i k;rw[d];simp only[bt q,au.ao];rw[iP k];split at h
   ·rename_i l M
    simp only[be,bo]at h;obtain⟨h1,rfl⟩:=h;subst hb;rw[iL]at h1;simp only[jB,lk,if_false,sI,nJ];exact GP M I h1
   ·split at h
    case h_2=>cases h
    rename_i y g;cases h;exact g
  ·rename_i l ks N O q
   split at h
   case h_2=>cases h
   rename_i n agg d;split at h
   case isFalse=>cases h
   rename_i k;split at h
   case h_2=>cases h
   rename_i y g;simp only[be,bo]at h;obtain⟨h1,rfl⟩:=h;subst hb;rw[iL]at h1;rw[d];simp only[bt q,au.ao];rw[iP k,GR h1];simp only[c9];exact g
  ·cases h
 ·rename_i id l j w row I
  split at h
  ·rename_i l' ks N O q
   split at h
   case h_2=>cases h
   rename_i n agg d;split at h
   case isFalse=>cases h
   rename_i k;split at h
   case h_2=>cases h
   rename_i y g;simp only[be,bo,aL]at h;obtain⟨h1,rfl⟩:=h;subst hb;rw[aL,iL,iL]at h1;rw[d];simp only[bt q,au.ao];rw[iP k,GR h1.1];simp only[];rw[yI h1.2];exact g
  ·cases h
 ·rename_i cells
  split at h
  case h_2=>cases h
  rename_i n agg d;split at h
  case h_2=>cases h
  rename_i y g;cases h;rw[d];exact g
 ·cases h
def vt(P:aj)(t:aD)(x v:AV)(H:List au):Option (Bool × List au) :=
 match gk P t,oS v,x with
 | some (n,_),some cs,.ptr id ak w row d =>
  if cs.length=n then
   match H[id]? with
   | some (.raw (.box cells))=>match cs,kn cells with
    | [.lit (.int .i64 z)],some l=>if ak=0/\row=0/\n=1 then some (cS d l.length,H.set id (.raw (.box (tw z d 0 l)))) else none
    |_,_=>if ak=0/\row=0/\d+n<=cells.length then some (true,H.set id (.raw (.box (putCells cells cs d)))) else none
   | some (.vQ ks u rZ) =>
    if ak=u/\ks.length=w/\d+cs.length<=ks.length then
     match iE ((ks.drop d).take cs.length) cs with
     |some g=>some (decide (row<rZ.length),H.set id (.vQ ks u (rZ.set row (eo ks (rZ.getD row []) d g))))
     |none=>none
    else none
   |_=>none
  else none
 |_,_,_=>none
theorem GS{P:aj}{t:aD}{x v:AV}{H H':List au}{b:Bool}(h:vt P t x v H=some (b,H'))(hb:b=true):oW P t x v (az H)=some (az H'):=by
 unfold vt at h;unfold oW;split at h
 case h_2=>cases h
 rename_i n ag cs id ak w row col M bX;rw[M,bX];simp only[];split at h
 case isFalse=>cases h
 rename_i N;rw[iP N];split at h
 ·rename_i cells g
  split at h
  ·rename_i z l y
   split at h
   case isFalse=>cases h
   rename_i d;simp only[be,bo]at h;obtain⟨h1,rfl⟩:=h;subst hb;rw[iL]at h1;have W:=Md y;simp only[bt g,au.ao];rw[iP ⟨d.1,d.2.1,by omega⟩,cR];have:=Mf (v:=z) (k:=0) y h1;rw[cP]at this;rw[this];rfl
  ·split at h
   case isFalse=>cases h
   rename_i d;cases h;simp only[bt g,au.ao];rw[iP d,cR];rfl
 ·rename_i ks u rZ g
  split at h
  case isFalse=>cases h
  rename_i d;obtain⟨O,U,V⟩:=d;split at h
  case h_2=>cases h
  rename_i gs q;simp only[be,bo]at h;obtain⟨h1,rfl⟩:=h;subst hb;simp only[dT]at h1;simp only[bt g,au.ao];have I:AV.bK cs=true:=by rw[<-mo q]; exact gJ _ _
  rw[iP ⟨O,U,I⟩,yI h1];simp only[sS];rw[iP (by omega),cR];simp only[au.ao,sP];rw[Mc q V]
 ·cases h
def yJ(P:aj)(t:aD)(x v:AV)(H:List au):Option (Bool × List au) :=
 match gk P t,oS v,x with
 | some (n,_),some cs,.sptr id l j w row g=>match H[id]? with
  | some (.cM l' ks h d)=>if cs.length=n/\l=l'/\ks.length=w/\g+cs.length<=ks.length then
    match iE ((ks.drop g).take cs.length) cs with
    |some k=>some (cS j d.length&&cS row (kl d j).length,H.set id (.cM l ks h (d.set j [.l ((kl d j).set row (eo ks ((kl d j).getD row []) g k))])))
    |none=>none
   else none
  |_=>none
 |_,_,_=>none
theorem Wx{P:aj}{t:aD}{x v:AV}{H H':List au}{b:Bool}(h:yJ P t x v H=some (b,H'))(hb:b=true):te P t x v (az H)=some (az H')/\oW P t x v (az H)=none:=by
 unfold yJ at h;unfold te oW;split at h
 case h_2=>cases h
 rename_i n V cs id l j w row U q bX;rw[q,bX];simp only[];split at h
 case h_2=>cases h
 rename_i l' ks W ms g;split at h
 case isFalse=>cases h
 rename_i y;obtain⟨I,M,N,O⟩:=y;split at h
 case h_2=>cases h
 rename_i gs d;simp only[be,bo]at h;obtain⟨h1,rfl⟩:=h;subst hb;rw[aL,iL,iL]at h1;have k:AV.bK cs=true:=by rw[<-mo d]; exact gJ _ _
 simp only[bt g,au.ao];rw[iP ⟨I,M,N,k⟩,GR h1.1];simp only[];rw[yI h1.2];simp only[sS];rw[iP (by omega),cR];simp only[au.ao,sP,yF,g0,uJ,G.rZ];rw[Mc d O];exact⟨rfl,trivial⟩
def yK(P:aj)(t:aD)(x v:AV)(H:List au):Option (Bool × List au) :=
 match gk P t,x,v with
 | some (sz,_),.ptr id M pw row y,.vQ k j ak oF n=>match H[id]?,H[j]? with
  | some (.cM l ks g h),some (.vQ I q d)=>if sz=1/\M=0/\pw=1/\y=0 then
    match Kd.gN ks I&&(ar k ks.length&&(ar ak q&&ar oF 0))with
    |true=>some ((ar n d.length&&cS 0 n)&&(ar row h.length&&cS row g),(H.set id (.cM l ks g (h++[[.l d]]))).set j (.raw .dead))
    |false=>none
   else none
  |_,_=>none
 |_,_,_=>none
theorem Wy{P:aj}{t:aD}{x v:AV}{H H':List au}{b:Bool}(h:yK P t x v H=some (b,H'))(hb:b=true) :
  yz P t x v (az H)=some (az H')/\oW P t x v (az H)=none/\te P t x v (az H)=none:=by
 unfold yK at h;unfold yz oW te;split at h
 case h_2=>cases h
 rename_i sz ag id pv pw row col k j ak oF n U;rw[U];simp only[oS];split at h
 case h_2=>cases h
 rename_i l ks nn ms ks2 ver' rws y V;split at h
 case isFalse=>cases h
 rename_i W;split at h
 case h_2=>cases h
 rename_i q;simp only[aL]at q;obtain⟨I,M,N,O⟩:=q;have e1:=Kd.iS I;subst e1;have e2:=bx M;have e3:=bx N;have e4:=bx O;subst e2 e3 e4;simp only[be,bo]at h;obtain⟨h1,rfl⟩:=h;rw[hb]at h1;simp only[aL,iL]at h1;obtain⟨⟨d,g2⟩,g,g4⟩:=h1;have d:=bx d;have g:=bx g;simp only[bt y,bt V,au.ao];rw[iP ⟨W,⟨trivial,trivial,trivial,trivial⟩,⟨by simpa using d,g2⟩,by simpa using g,g4⟩];refine⟨?_,?_,trivial⟩
 ·rw [cR, cR]
  simp[au.ao,yF,g0,G.rZ]
 ·split<;>rfl
def q_(sz:Nat)(x:AV)(H:List au)(d:Option (List Kd)):Option (Bool × List Kd × LL) :=
 match x with
 | .nils | .lit (.slice none 0 0)=>match d with
  |some ks=>some (true,ks,[])
  |none=>none
 | .emptyS _=>match d with
  |some ks=>some (true,ks,[])
  |none=>none
 |.listF ks rZ=>if ks.length=sz then some (true,ks,rZ) else none
 | .list w rZ=>match (match d with | some ks=>some ks | none=>qZ (rZ.headD [])) with
  | some ks=>match bN ks rZ with
   |some g=>if w=sz then some (true,ks,g) else none
   |none=>none
  |none=>none
 | .vQ w id ak oF n=>match H[id]? with
  |some (.vQ ks v rZ)=>if w=sz/\ks.length=w/\v=ak/\oF=0 then some (ar n rZ.length,ks,rZ) else none
  |_=>none
 |.lit (.string s)=>if sz=1 then some (true,[.int .u8],s.data.toList.map fun b=>[.i b.toNat]) else none
 |_=>none
theorem Mg{sz:Nat}{x:AV}{H:List au}{g:Option (List Kd)}{b:Bool}{ks:List Kd}{rZ:LL}(h:q_ sz x H g=some (b,ks,rZ))(hb:b=true) :
  nW sz x (az H)=some (rZ.map (aT ks)):=by
 unfold q_ at h;split at h
 ·split at h
  ·cases h; rfl
  ·cases h
 ·split at h
  ·cases h; rfl
  ·cases h
 ·split at h
  ·cases h; rfl
  ·cases h
 ·split at h
  ·rename_i d; cases h; simp only[nW]; rw[iP d]
  ·cases h
 ·split at h
  ·split at h
   ·rename_i W q
    split at h
    ·rename_i d; cases h; simp only[nW]; rw[iP d,qY q]
    ·cases h
   ·cases h
  ·cases h
 ·rename_i w id ak oF n
  split at h
  ·rename_i V v U k
   split at h
   ·rename_i y
    obtain⟨I,M,N,rfl⟩:=y;simp only[be,bo]at h;obtain⟨h1,rfl,rfl⟩:=h;subst hb;have h1:=bx h1;simp only[nW,bt k,au.ao];rw[iP ⟨I,M,N,by simp; omega⟩];simp only[List.drop_zero];rw[JU (by simp; omega)]
   ·cases h
  ·cases h
 ·rename_i s
  split at h
  ·rename_i O
   cases h;simp only[nW];rw[iP O];simp[aT,kL,G.iV]
  ·cases h
 ·cases h
def GU:SK->Bool
 |.slice _ _ _ | .str=>true
 |_=>false
theorem GV{P:aj}{t xt:aD}{s x:AV}{H:List ai}{e sz g:Nat}{z:List al}{d:List (List AV)}(q:cZ P t=.slice e sz g)(y:fC P e=some z)
  (h : GU (cZ P xt) = true) (I : nW sz x H = some d) (M : z.length = sz /\ d.length <= 1048576 /\ g <= 1048576) : u9 P t xt s x H =
   match s with
    |.nils | .lit (.slice none 0 0)=>some (.vQ sz H.length 0 0 d.length,H++[.vQ sz 0 d])
    | .vQ w id ak oF n=>match H[id]? with
     | some (.vQ k v rZ) =>
      if k=w/\w=sz/\v=ak/\oF=0/\n=rZ.length/\rZ.length+d.length<=1048576 then
       some (.vQ w id (ak+1) 0 (n+d.length),H.set id (.vQ k (ak+1) (rZ++d)))
      else none
     |_=>none
    |_=>none:=by
 unfold u9;simp only[q,y,I];cases N:cZ P xt<;>simp only[N,GU]at h|-<;>first
  |(cases h; done)
  |(rw[iP M]; rfl)
def tx(sz:Nat)(x:AV)(H:List au)(z:List al):Option (Bool × List Kd × LL) :=
 match x with
 |.emptyS _=>q_ sz x H (qZ (z.map .lit))
 |_=>q_ sz x H none
theorem Wz{sz:Nat}{x:AV}{H:List au}{z:List al}{b:Bool}{ks:List Kd}{rZ:LL}(h:tx sz x H z=some (b,ks,rZ))(hb:b=true) :
  nW sz x (az H)=some (rZ.map (aT ks)):=by
 unfold tx at h;split at h<;>exact Mg h hb
def vu(P:aj)(t xt:aD)(s x:AV)(H:List au):Option (Bool × AV × List au) :=
 match cZ P t with
 | .slice e sz g =>
  match fC P e,GU (cZ P xt)with
  | some z,true =>
   if z.length=sz/\g<=1048576 then
    match s with
    | .nils | .lit (.slice none 0 0)=>match tx sz x H z with
     |some (b,ks,d)=>if ks.length=sz then some (b&&decide (d.length<=1048576),.vQ sz H.length 0 0 d.length,H++[.vQ ks 0 d]) else none
     |none=>none
    | .vQ w id ak oF n=>match H[id]? with
     | some (.vQ ks v rZ)=>match q_ sz x H (some ks) with
      | some (b,h,d) =>
       if ks.length=w/\w=sz/\v=ak/\oF=0/\Kd.gN ks h=true then
        some (b&&(ar n rZ.length&&decide (rZ.length+d.length<=1048576)),.vQ w id (ak+1) 0 (rZ++d).length,H.set id (.vQ ks (ak+1) (rZ++d)))
       else none
      |none=>none
     |_=>none
    |_=>none
   else none
  |_,_=>none
 |_=>none
theorem WA{P:aj}{t xt:aD}{s x v:AV}{H H':List au}{b:Bool}(h:vu P t xt s x H=some (b,v,H'))(hb:b=true) :
  u9 P t xt s x (az H)=some (v,az H'):=by
 unfold vu at h;split at h
 case h_2=>cases h
 rename_i e sz by_ I;split at h
 case h_2=>cases h
 rename_i z M y;split at h
 case isFalse=>cases h
 rename_i hc;obtain⟨N,O⟩:=hc;have fresh:∀{k:Bool} {ks:List Kd} {d:LL},tx sz x H z=some (k,ks,d) ->
   (if ks.length=sz then some (k&&decide (d.length<=1048576),AV.vQ sz H.length 0 0 d.length,H++[au.vQ ks 0 d]) else none)=some (b,v,H') ->
   ∃ rZ,nW sz x (az H)=some rZ/\rZ.length<=1048576/\v=.vQ sz (az H).length 0 0 rZ.length/\az H'=az H++[.vQ sz 0 rZ]:=by
  intro k ks d g h;split at h
  case isFalse=>cases h
  rename_i hks;simp only[be,bo]at h;obtain⟨h1,rfl,rfl⟩:=h;subst hb;simp only[aL,dT]at h1;refine⟨_,Wz g h1.1,by simpa using h1.2,by simp[fw],?_⟩;rw[jE,au.ao,hks]
 split at h
 ·split at h
  case h_2=>cases h
  rename_i k ks d g;obtain⟨rZ,U,V,W,g4⟩:=fresh g h;rw[GV I M y U ⟨N,V,O⟩,W,g4]
 ·split at h
  case h_2=>cases h
  rename_i k ks d g;obtain⟨rZ,U,V,W,g4⟩:=fresh g h;rw[GV I M y U ⟨N,V,O⟩,W,g4];rfl
 ·rename_i w id ak oF n
  split at h
  case h_2=>cases h
  rename_i ks vv rZ hid;split at h
  case h_2=>cases h
  rename_i k ks' d g;split at h
  case isFalse=>cases h
  rename_i hq;obtain⟨q1,q2,q3,q4,q5⟩:=hq;have q5:=Kd.iS q5;subst q5;simp only[be,bo]at h;obtain⟨h1,rfl,rfl⟩:=h;subst hb;simp only[aL,dT]at h1;obtain⟨h1,q,h3⟩:=h1;have q:=bx q;rw[GV I M y (Mg g h1) ⟨N,by simp; omega,O⟩];simp only[c9,bt hid,au.ao];rw[iP ⟨q1,q2,q3,q4,q,h3⟩,cR];simp only[au.ao,jM,fX,q,q1]
 ·cases h
def ra(len:Nat)(lo hi:Option AV):Option (Bool × Nat × Nat) :=
 match lo,hi with
 |none,none=>some (true,0,len)
 |some (.lit (.int _ l)),none=>some (aM l&&bC l (len:Int),l.toNat,len)
 |none,some (.lit (.int _ h))=>some (aM h&&bC h (len:Int),0,h.toNat)
 |some (.lit (.int _ l)),some (.lit (.int _ h))=>some (aM l&&(bC l h&&bC h (len:Int)),l.toNat,h.toNat)
 |_,_=>none
theorem Cc{len:Nat}{lo hi:Option AV}{b:Bool}{l h:Nat}(d:ra len lo hi=some (b,l,h))(hb:b=true):jf len lo hi=some (l,h):=by
 unfold ra at d;split at d
 ·cases d; simp[jf]
 ·rename_i l'
  simp only[be,bo]at d;obtain⟨h1,rfl,rfl⟩:=d;subst hb;simp only[jm,eY,aL,dT]at h1;simp[jf,mQ,h1.1,h1.2]
 ·rename_i h'
  simp only[be,bo]at d;obtain⟨h1,rfl,rfl⟩:=d;subst hb;simp only[jm,eY,aL,dT]at h1;simp[jf,mQ,h1.1,h1.2]
 ·rename_i l' _ h'
  simp only[be,bo]at d;obtain⟨h1,rfl,rfl⟩:=d;subst hb;simp only[jm,eY,aL,dT]at h1;simp[jf,mQ,h1.1,h1.2.1,h1.2.2]
 ·cases d
def vw(rZ:LL)(lo hi:Option AV)(l h:Nat):LL :=
 match lo,hi with
 |none,none=>rZ
 |some _,none=>rZ.drop l
 |none,some _=>rZ.take h
 |some _,some _=>(rZ.drop l).take (h-l)
theorem Mh{rZ:LL}{lo hi:Option AV}{b:Bool}{l h:Nat}(d:ra rZ.length lo hi=some (b,l,h)):vw rZ lo hi l h=(rZ.drop l).take (h-l):=by
 unfold ra at d;split at d
 ·cases d; simp[vw]
 ·simp only [be, bo] at d
  obtain⟨h1,rfl,rfl⟩:=d;simp only[vw];rw[JU (by simp)]
 ·simp only [be, bo] at d
  obtain⟨h1,rfl,rfl⟩:=d;simp[vw]
 ·rfl
 ·cases d
def GW(P:aj)(t:aD)(x:AV)(lo hi mx:Option AV):Option (Bool × AV) :=
 match mx with
 | some _=>match nU P t x lo hi mx with
  |some v=>some (true,v)
  |none=>none
 | none=>match cZ P t,x with
  | .str,.lit (.string s)=>match ra s.size lo hi with
   |some (b,l,h)=>some (b,.lit (.string (s.extract l h)))
   |none=>none
  | .slice _ sz _,.listF ks rZ=>match ra rZ.length lo hi with
   |some (b,l,h)=>if ks.length=sz then some (b,.listF ks (vw rZ lo hi l h)) else none
   |none=>none
  | .slice _ sz _,.vQ w id ak oF n=>match ra n lo hi with
   |some (b,l,h)=>if w=sz then some (b,.vQ w id ak (oF+l) (h-l)) else none
   |none=>none
  | .slice _ sz _,.list w rZ=>match w,uY rZ with
   | 1,some d=>match ra d.length lo hi with
    |some (b,l,h)=>if 1=sz then some (b,.listF [.str] (vw d lo hi l h)) else none
    |none=>none
   | _,_=>match nU P t x lo hi none with
    |some v=>some (true,v)
    |none=>none
  | _,_=>match nU P t x lo hi none with
   |some v=>some (true,v)
   |none=>none
theorem WB{P:aj}{t:aD}{x v:AV}{lo hi mx:Option AV}{b:Bool}(h:GW P t x lo hi mx=some (b,v))(hb:b=true):nU P t x lo hi mx=some v:=by
 unfold GW at h;split at h
 ·split at h
  ·rename_i u k; cases h; exact k
  ·cases h
 ·split at h
  ·rename_i s g
   split at h
   case h_2=>cases h
   rename_i y l I d;simp only[be,bo]at h;obtain⟨h1,rfl⟩:=h;subst h1;simp[nU,g,Cc d hb]
  ·rename_i e sz M ks rZ g
   split at h
   case h_2=>cases h
   rename_i y l I d;split at h
   case isFalse=>cases h
   rename_i q;simp only[be,bo]at h;obtain⟨h1,rfl⟩:=h;subst h1;simp[nU,g,Cc d hb,q,Mh d]
  ·rename_i e sz M w id ak oF n g
   split at h
   case h_2=>cases h
   rename_i y l I d;split at h
   case isFalse=>cases h
   rename_i q;simp only[be,bo]at h;obtain⟨h1,rfl⟩:=h;subst h1;simp[nU,g,Cc d hb,q]
  ·rename_i e sz M w rZ g
   split at h
   ·rename_i O N
    split at h
    case h_2=>cases h
    rename_i y l I d;split at h
    case isFalse=>cases h
    rename_i q;simp only[be,bo]at h;obtain⟨h1,rfl⟩:=h;subst h1;subst q;have U:rZ.length=O.length:=by rw[<-FI N,c9]
    simp[nU,g,U,Cc d hb,Mh d,BG,N]
   ·split at h
    ·rename_i u k; cases h; exact k
    ·cases h
  ·split at h
   ·rename_i u k; cases h; exact k
   ·cases h
def yL(P:aj)(t:aD)(l c:AV)(H:List au):Option (Bool × AV × List au) :=
 match cZ P t,l,c with
 | .slice e sz d,.lit (.int _ l),.lit (.int _ c) =>
  match fC P e with
  | some z=>match qZ (BT P e z) with
   | some ks=>match iE ks (BT P e z) with
    | some g=>if z.length=sz/\0<sz/\d<=1048576/\ks.length=sz then
      some (aM l&&(bC l c&&bC c 1048576),.vQ sz H.length 0 0 l.toNat,H++[.vQ ks 0 (cC l.toNat g)]) else none
    |none=>none
   |none=>none
  |none=>none
 |_,_,_=>none
theorem WC{P:aj}{t:aD}{l c v:AV}{H H':List au}{b:Bool}(h:yL P t l c H=some (b,v,H'))(hb:b=true) :
  yo P t l c (az H)=some (v,az H'):=by
 unfold yL at h;unfold yo;split at h
 case h_2=>cases h
 rename_i e sz O _ l _ c g;rw[g];simp only[];split at h
 case h_2=>cases h
 rename_i z k;split at h
 case h_2=>cases h
 rename_i ks U;split at h
 case h_2=>cases h
 rename_i V d;split at h
 case isFalse=>cases h
 rename_i q;obtain⟨y,I,M,N⟩:=q;simp only[be,bo]at h;obtain⟨h1,rfl,rfl⟩:=h;subst hb;simp only[jm,eY,aL,dT]at h1;rw[k];simp only[];rw[iP ⟨y,I,h1.1,h1.2.1,h1.2.2,M⟩,jE,fw,au.ao,N,List.map_replicate,mo d]
def vz(P:aj)(t:aD)(n:Nat)(parts:List (Nat × AV))(H:List au):Option (Bool × AV × List au) :=
 match cZ P t with
 | .slice e _ _=>match fC P e with
  | some z=>match qZ (z.map .lit) with
   | some ks=>match vc P t n parts with
    | some (.list sz rZ)=>match bN ks rZ with
     |some d=>if ks.length=sz then some (true,.vQ sz H.length 0 0 d.length,H++[.vQ ks 0 d]) else none
     |none=>none
    |_=>none
   |none=>none
  |none=>none
 |_=>none
theorem WD{P:aj}{t:aD}{n:Nat}{parts:List (Nat × AV)}{v:AV}{H H':List au}{b:Bool}(h:vz P t n parts H=some (b,v,H')) :
  yv P t n parts (az H)=some (v,az H'):=by
 unfold vz at h;split at h
 case h_2=>cases h
 split at h
 case h_2=>cases h
 split at h
 case h_2=>cases h
 rename_i ks k;split at h
 case h_2=>cases h
 rename_i sz rZ hb;split at h
 case h_2=>cases h
 rename_i q d;split at h
 case isFalse=>cases h
 rename_i g;cases h;unfold yv;rw[hb];have e:=qY d;simp only[];rw[jE,fw,au.ao,g,e,<-e,c9]
def Ct.read:Ct->AV->Option LG
 | .one k,a=>match yG k a with
  |some g=>some [g]
  |none=>none
 |.agg ks,.agg cells=>iE ks cells
 |_,_=>none
theorem Ct.lD{K:Ct}{a:AV}{r:LG}(h:K.read a=some r):K.av r=a:=by
 unfold Ct.read at h;split at h
 ·split at h
  ·rename_i g d
   cases h;exact GL d
  ·cases h
 ·simp only[Ct.av,mo h]
 ·cases h
def rb(P:aj)(t:aD):Option (Ct × LG) :=
 match P.info? t with
 | some i=>match i.zero with
  | some (.agg cs)=>match cs.toList.all dW,qZ (cs.toList.map .lit) with
   | true,some ks=>match iE ks (cs.toList.map .lit) with
    |some d=>some (.agg ks,d)
    |none=>none
   |_,_=>none
  | some v=>match yH (.lit v) with
   | some k=>match yG k (.lit v) with
    |some g=>some (.one k,[g])
    |none=>none
   | none=>match jh P t,yn P t with
    |some (.lit (.slice none 0 0)),some ks=>some (.one (.list ks),[.l []])
    |_,_=>none
  |none=>none
 |none=>none
theorem WE{P:aj}{t:aD}{v:AV}(h:jh P t=some v)(d:v=.lit (.slice none 0 0)->False):pW P t=some v:=by
 unfold pW;rw[h];split
 ·rename_i e _
  cases e;exact(d rfl).elim
 ·rename_i e _
  cases e;rfl
 ·rename_i e
  cases e
theorem Mi{P:aj}{t:aD}{V:Ct}{z:LG}(h:rb P t=some (V,z)):pW P t=some (V.av z):=by
 unfold rb at h;have q:∀ v,jh P t=some v->(v=.lit (.slice none 0 0)->False)->pW P t=some v:=fun v h N=>WE h N;split at h
 case h_2=>cases h
 rename_i i hi;split at h
 ·rename_i cs d
  split at h
  ·rename_i ks h1 y
   split at h
   ·rename_i W O
    cases h;refine q _ ?_ fun e=>by cases e
    unfold jh;rw[hi];simp only[];rw[d];simp only[AV.uU,h1,if_true,Ct.av,mo O]
   ·cases h
  ·cases h
 ·rename_i v M d
  split at h
  ·rename_i k I
   split at h
   ·rename_i g U
    cases h;have e:=GL U;simp only[Ct.av,uJ,e];refine q _ ?_ fun e=>by
     simp only[AV.lit.injEq]at e;subst e;simp[yH]at I
    unfold jh;rw[hi];simp only[];rw[d];simp only[];unfold AV.uU;split
    ·rename_i cs; exact(M cs rfl).elim
    ·simp[yH]at I
    ·rfl
   ·cases h
  ·split at h
   ·rename_i ks h1 y
    cases h;unfold pW;rw[h1,y];rfl
   ·cases h
 ·cases h
def Cd:SK->Kd->Bool
 |.int k,.int d=>decide (k=d)
 |.str,.str=>true
 |.bool,.bool=>true
 |_,_=>false
def lE:List SK->List Kd->Bool
 | [],[]=>true
 |a::as,b::d=>Cd a b&&lE as d
 |_,_=>false
def ic(P:aj)(d:aD)(K:Ct):Bool :=
 match flatK P pR d with
 | some g=>lE g K.ks&&(match K with
  |.one _ => !oP (P.underlying d)
  |.agg _=>oP (P.underlying d))
 |none=>false
def rf:Kd->G->al
 |.int k,g=>.int k g.iV
 |.str,g=>.string g.sV
 |.bool,g=>.bool g.bV
 |.list _,_=>.bool false
def er:List Kd->LG->List al
 | [],_=>[]
 |k::ks,r=>rf k (r.headD default)::er ks r.tail
theorem Mj:∀{d:List SK} {ks:List Kd} (r:LG),lE d ks=true->pQ (aT ks r)=some (er ks r)/\du d (er ks r)=true
  | [],[],_,_=>⟨rfl,rfl⟩
  | a::as,k::ks,r,h=>by
    simp only[lE,aL]at h;obtain⟨h1,q⟩:=Mj r.tail h.2;have g:=h.1;cases k<;>cases a<;>simp only[Cd]at g<;>first
      |(cases g; done)
      | (simp only [aT, kL, pQ, h1, er, rf, du, q, gW]
         simp_all[kindOk])
  | [],_::_,_,h|_::_,[],_,h=>by simp[lE]at h
theorem yM:∀{g:List SK} {ks:List Kd} (r s:LG),lE g ks=true->eS (er ks r) (er ks s)=bq ks r s
 | [],[],_,_,_=>rfl
 | a::as,k::ks,r,s,h=>by
  simp only[lE,aL]at h;have q:=yM r.tail s.tail h.2;have d:=h.1;simp only[er,eS,bq,q];cases k<;>cases a<;>simp only[Cd]at d<;>first
   |(cases d; done)
   |rfl
 | [],_::_,_,_,h|_::_,[],_,_,h=>by simp[lE]at h
theorem kp{P:aj}{q:aD}{K:Ct}(h:ic P q K=true)(r:LG):iQ P q (K.av r)=some (er K.ks r):=by
 unfold ic at h;split at h
 case h_2=>cases h
 rename_i I M;simp only[aL]at h;obtain⟨h1,g⟩:=h;obtain⟨v,d⟩:=Mj r h1;unfold iQ;rw[M];simp only[];cases K with
 | one k =>
  simp only[sL]at g;simp only[Ct.ks,er]at d|-;have e:kL k (r.headD default)=.lit (rf k (r.headD default)):=by
   simp only[Ct.ks]at h1;cases I with
   |nil=>simp[lE]at h1
   | cons a as =>
    simp only[lE,aL]at h1;have y:=h1.1;cases k<;>cases a<;>simp only[Cd]at y<;>first
     |(cases y; done)
     |rfl
  simp only[Ct.av,e,d,g,and_self,if_true]
 | agg ks =>
  simp only[Ct.av,Ct.ks]at v d|-;simp only[v,d,g,and_self,if_true]
def bU(ks:List Kd)(key:LG):LL->Nat->Option (Nat × LG)
 | [],_=>none
 |r::rs,i=>bif bq ks key (gi r 0).rV then some (i,r) else bU ks key rs (i+1)
def eH(ks:List Kd)(rZ:LL)(key:LG):Bool:=(bU ks key rZ 0).isSome
def dn(ks:List Kd)(rZ:LL)(key z:LG):LG:=match bU ks key rZ 0 with
 |some (_,r)=>(gi r 1).rV
 |none=>z
def ew(ks:List Kd)(rZ:LL)(key val:LG)(d:Nat):LL:=match bU ks key rZ 0 with
 |some (i,r)=>rZ.set i [.l [key],.l [val],.i (gi r 2).iV]
 |none=>rZ++[[.l [key],.l [val],.i d]]
def dG(ks:List Kd)(rZ:LL)(key:LG)(d:Nat):Nat:=bif eH ks rZ key then d else d+1
def Mk(ks:List Kd)(rZ:LL)(key:LG):LL:=match bU ks key rZ 0 with
 |some (i,_)=>rZ.eraseIdx i
 |none=>rZ
theorem vD{P:aj}{g:aD}{K V:Ct}(h:ic P g K=true)(key:LG):∀(rZ:LL) (i:Nat),ff P g (er K.ks key) (dN K V rZ) i =
  some ((bU K.ks key rZ i).map fun p=>(p.1,V.av (gi p.2 1).rV))
 | [],i=>rfl
 | r::rs,i=>by
  have q:=vD (V:=V) h key rs (i+1);have k:∃ d,lE d K.ks=true:=by
   unfold ic at h;split at h
   ·simp only[aL]at h; exact⟨_,h.1⟩
   ·cases h
  obtain⟨d,v⟩:=k;simp only[dN,dx,ff,kp h,yM _ _ v,bU];cases bq K.ks key (gi r 0).rV with
  |true=>rfl
  |false=>exact q
theorem p8{ks:List Kd}{key:LG}:∀{rZ:LL} {i j:Nat} {r:LG},bU ks key rZ i=some (j,r)->i<=j/\rZ[j-i]? = some r
 | [],_,_,_,h=>by simp[bU]at h
 | x::rs,i,j,r,h=>by
  simp only[bU]at h;cases d:bq ks key (gi x 0).rV with
  | true =>
   rw[d]at h;cases h;exact⟨aQ _,by simp⟩
  | false =>
   rw[d]at h;obtain⟨h1,g⟩:=p8 h;refine⟨by omega,?_⟩;rw[show j-i=(j-(i+1))+1 from by omega];simpa using g
def GX(P:aj)(t:aD)(m k:AV)(ok:Bool)(H:List au):Option (Bool × AV) :=
 match dL P t,m with
 | some (d,g),.map id=>match H[id]? with
  | some (.map K V rZ _)=>match K.read k,rb P g with
   | some key,some (h,z)=>match ic P d K&&V.same h with
    | true=>some (true,match ok with
      |true=>.tuple [V.av (dn K.ks rZ key z),.lit (.bool (eH K.ks rZ key))]
      |false=>V.av (dn K.ks rZ key z))
    |false=>none
   |_,_=>none
  |_=>none
 |_,_=>none
theorem Ml{P:aj}{t:aD}{m k v:AV}{ok b:Bool}{H:List au}(h:GX P t m k ok H=some (b,v)):hZ P t m k ok (az H)=some v:=by
 unfold GX at h;unfold hZ;split at h
 case h_2=>cases h
 rename_i M N id q;rw[q];simp only[];split at h
 case h_2=>cases h
 rename_i K V rZ cl g;rw[bt g];simp only[au.ao];split at h
 case h_2=>cases h
 rename_i key O z y I;split at h
 case h_2=>cases h
 rename_i d;simp only[aL]at d;have e:=Ct.lB d.2;subst e;rw[<-Ct.lD y,kp d.1,Mi I];simp only[vD d.1];cases h;unfold dn eH;cases bU K.ks key rZ 0 with
 |none=>cases ok<;>rfl
 |some p=>cases ok<;>rfl
def vE(P:aj)(t:aD)(m k v:AV)(H:List au):Option (Bool × List au) :=
 match dL P t,m with
 | some (d,_),.map id=>match H[id]? with
  | some (.map K V rZ cl)=>match K.read k,V.read v with
   | some key,some val=>match ic P d K with
    |true=>some (true,H.set id (.map K V (ew K.ks rZ key val cl) (dG K.ks rZ key cl)))
    |false=>none
   |_,_=>none
  |_=>none
 |_,_=>none
def fg(ks:List Kd)(rZ:LL)(key:LG):LL:=match bU ks key rZ 0 with
 |some (_,r)=>jR r
 |none=>[]
def eT(ks:List Kd)(rZ:LL)(key:LG):Bool:=match bU ks key rZ 0 with
 |some (_,r)=>(gi r 3).bV
 |none=>true
def gn(ks:List Kd)(rZ:LL)(key:LG):LL:=match bU ks key rZ 0 with
 |some (i,r)=>rZ.set i [gi r 0,gi r 1,gi r 2,.t false]
 |none=>rZ
def od(ks:List Kd)(rZ:LL)(key:LG)(val:LL)(d:Nat):LL:=match bU ks key rZ 0 with
 |some (i,r)=>rZ.set i [.l [key],.l [[.l val]],.i (gi r 2).iV,.t true]
 |none=>rZ++[[.l [key],.l [[.l val]],.i d,.t true]]
def yN(P:aj)(t:aD)(m k:AV)(H:List au):Option (Bool × AV × List au) :=
 match dL P t,m with
 | some (g,d),.map id=>match H[id]? with
  | some (.a7 l K ks rZ cl)=>match K.read k,B1 P d,jh P d with
   | some key,some w',some (.lit (.slice none 0 0))=>match ar w' ks.length&&ic P g K with
    |true=>some (eT K.ks rZ key,.vQ ks.length H.length 0 0 (fg K.ks rZ key).length,H.set id (.a7 l K ks (gn K.ks rZ key) cl)++[.vQ ks 0 (fg K.ks rZ key)])
    |false=>none
   |_,_,_=>none
  |_=>none
 |_,_=>none
def yO(P:aj)(t:aD)(m k v:AV)(H:List au):Option (Bool × List au) :=
 match dL P t,m,v with
 | some (q,_),.map id,.vQ w j ak oF n=>match H[id]?,H[j]? with
  | some (.a7 l K ks rZ cl),some (.vQ h g d)=>match K.read k with
   | some key=>match ic P q K&&(Kd.gN ks h&&(ar w ks.length&&(ar ak g&&ar oF 0))) with
    |true=>some (ar n d.length,(H.set id (.a7 l K ks (od K.ks rZ key d cl) (dG K.ks rZ key cl))).set j (.raw .dead))
    |false=>none
   |none=>none
  |_,_=>none
 |_,_,_=>none
def p9(ks:List Kd)(rZ:LL)(key:LG)(d:Nat):Nat:=match bU ks key rZ 0 with
 |some (_,r)=>(gi r 2).iV.toNat
 |none=>d
def p_(ks:List Kd)(rZ:LL)(key:LG)(d:Nat):LL:=match bU ks key rZ 0 with
 |some (i,r)=>rZ.set i [.l [key],gi r 1,gi r 2,.t false]
 |none=>rZ++[[.l [key],.l [[.l []]],.i d,.t false]]
def yP(P:aj)(t:aD)(m k:AV)(H:List au):Option (Bool × AV × List au) :=
 match dL P t,m with
 | some (g,d),.map id=>match H[id]? with
  | some (.a7 l K ks rZ cl)=>match K.read k,B1 P d,jh P d with
   | some key,some w',some (.lit (.slice none 0 0))=>match ar w' ks.length&&ic P g K with
    | true=>some (eT K.ks rZ key,.tuple [.vQ ks.length H.length 0 0 (fg K.ks rZ key).length,.lit (.int .i64 (p9 K.ks rZ key cl:Nat))],
      H.set id (.a7 l K ks (p_ K.ks rZ key cl) (dG K.ks rZ key cl))++[.vQ ks 0 (fg K.ks rZ key)])
    |false=>none
   |_,_,_=>none
  |_=>none
 |_,_=>none
def gO(st:Int):LL->Nat->Option (Nat × LG)
 | [],_=>none
 |r::rs,i=>bif ((gi r 2).iV.toNat:Int)==st then some (i,r) else gO st rs (i+1)
def vF(rZ:LL)(st:Int)(val:LL):LL:=match gO st rZ 0 with
 |some (i,r)=>rZ.set i [gi r 0,.l [[.l val]],gi r 2,.t true]
 |none=>rZ
def vG(rZ:LL)(st:Int):Bool:=(gO st rZ 0).isSome
def yQ(m s v:AV)(H:List au):Option (Bool × List au) :=
 match m,s,v with
 | .map id,.lit (.int .i64 st),.vQ w j ak oF n=>match H[id]?,H[j]? with
  | some (.a7 l K ks rZ cl),some (.vQ h g d)=>match Kd.gN ks h&&(ar w ks.length&&(ar ak g&&ar oF 0)) with
   |true=>some (vG rZ st&&ar n d.length,(H.set id (.a7 l K ks (vF rZ st d) cl)).set j (.raw .dead))
   |false=>none
  |_,_=>none
 |_,_,_=>none
def mq(ks:List Kd)(rZ:LL)(key:LG)(s:Nat):LL:=match bU ks key rZ 0 with
 |some (_,r)=>mn r s
 |none=>[]
def tz(ks:List Kd)(rZ:LL)(key:LG)(d g:LL)(h:Nat):LL:=match bU ks key rZ 0 with
 |some (i,r)=>rZ.set i [.l [key],.l [[.l d,.l g]],.i (gi r 2).iV,.t true]
 |none=>rZ++[[.l [key],.l [[.l d,.l g]],.i h,.t true]]
def yR(P:aj)(t:aD)(m k:AV)(H:List au):Option (Bool × AV × List au) :=
 match dL P t,m with
 | some (d,g),.map id=>match H[id]? with
  | some (.bH l K ks rZ cl)=>match K.read k,jh P g with
   | some key,some (.agg [.lit (.slice none 0 0),.lit (.slice none 0 0)])=>match ic P d K with
    | true=>some (eT K.ks rZ key,.agg [.vQ ks.length H.length 0 0 (mq K.ks rZ key 0).length,.vQ ks.length (H.length+1) 0 0 (mq K.ks rZ key 1).length],
      H.set id (.bH l K ks (gn K.ks rZ key) cl)++[.vQ ks 0 (mq K.ks rZ key 0),.vQ ks 0 (mq K.ks rZ key 1)])
    |false=>none
   |_,_=>none
  |_=>none
 |_,_=>none
def yS(P:aj)(t:aD)(m k v:AV)(H:List au):Option (Bool × List au) :=
 match dL P t,m,v with
 | some (M,_),.map id,.agg [.vQ N d O o0 U,.vQ V g W o1 n1]=>match H[id]?,H[d]?,H[g]? with
  | some (.bH l K ks rZ cl),some (.vQ h q r0),some (.vQ y I r1)=>match K.read k with
   | some key=>match ic P M K&&((Kd.gN ks h&&(ar N ks.length&&(ar O q&&ar o0 0)))&&((Kd.gN ks y&&(ar V ks.length&&(ar W I&&ar o1 0))) && !ar d g)) with
    |true=>some (ar U r0.length&&ar n1 r1.length,((H.set id (.bH l K ks (tz K.ks rZ key r0 r1 cl) (dG K.ks rZ key cl))).set d (.raw .dead)).set g (.raw .dead))
    |false=>none
   |none=>none
  |_,_,_=>none
 |_,_,_=>none
theorem GY{P:aj}{g:aD}{K:Ct}{ks:List Kd}(h:ic P g K=true)(key:LG):∀(rZ:LL) (i:Nat),ff P g (er K.ks key) (fY (lz K ks rZ)) i =
  some ((bU K.ks key rZ i).map fun p=>(p.1,.undef))
 | [],i=>rfl
 | r::rs,i=>by
  have q:=GY (ks:=ks) h key rs (i+1);have k:∃ d,lE d K.ks=true:=by
   unfold ic at h;split at h
   ·simp only[aL]at h; exact⟨_,h.1⟩
   ·cases h
  obtain⟨d,v⟩:=k;simp only[lz,fY,dx,ff,oc,kp h,yM _ _ v,bU];cases bq K.ks key (gi r 0).rV with
  |true=>rfl
  |false=>exact q
theorem Ce{K:Ct}{ks:List Kd}{rZ:LL}{i:Nat}{r:LG}(h:rZ[i]? = some r):(lz K ks rZ)[i]? = some (oc K ks r):=by
 unfold lz;rw[bW,h];rfl
theorem Mm(K:Ct)(ks:List Kd)(rZ:LL)(i:Nat)(r:LG):lz K ks (rZ.set i r)=(lz K ks rZ).set i (oc K ks r):=by
 simp[lz,sP]
theorem WG{α:Type}{l:List α}{i:Nat}{x:α}(h:l[i]? = some x):l.set i x=l:=by
 apply jz;intro j;rw[ef];split
 ·rename_i e
  subst e;rw[iP (aV h),h]
 ·rfl
theorem WH{P:aj}{t:aD}{m k v:AV}{b:Bool}{H H':List au}(h:yR P t m k H=some (b,v,H'))(hb:b=true) :
  yA P t m k (az H)=some (v,az H')/\s_ P t m k (az H)=none/\hZ P t m k false (az H)=none:=by
 unfold yR at h;unfold yA s_ hZ;split at h
 case h_2=>cases h
 rename_i kt et id V;rw[V];simp only[];split at h
 case h_2=>cases h
 rename_i l K ks rZ cl O;have g:=bt O;rw[g];simp only[au.ao]at g|-;split at h
 case h_2=>cases h
 rename_i key W hz;split at h
 case h_2=>cases h
 rename_i I;simp only[be,bo]at h;obtain⟨d,rfl,rfl⟩:=h;rw[hb]at d;rw[<-Ct.lD W,kp I,hz];simp only[GY I,and_true];unfold eT at d;unfold mq gn;have q:∀(L:List au) (x y:au),az (L++[x,y])=az L++[x.ao]++[y.ao]:=fun L x y=>by simp[az]
 cases M:bU K.ks key rZ 0 with
 | none =>
  simp only[uI,q,cR,au.ao,fw,j_,uK];rw[WG g]
 | some p =>
  obtain⟨i,r⟩:=p;rw[M]at d;simp only[]at d;obtain⟨_,N⟩:=p8 M;rw[fL]at N;have U:(lz K ks rZ)[i]? = some (K.av (gi r 0).rV,(some ((mn r 0).map (aT ks)),some ((mn r 1).map (aT ks))),(gi r 2).iV.toNat):=by
   rw[Ce N];simp only[oc,d,cT]
  simp only[e_,U,q,cR,au.ao,fw,c9,Mm];rfl
theorem WI{P:aj}{t:aD}{m k v:AV}{b:Bool}{H H':List au}(h:yS P t m k v H=some (b,H'))(hb:b=true) :
  yB P t m k v (az H)=some (az H')/\mR P t m k v (az H)=none/\pX P t m k v (az H)=none/\tc P t m k v (az H)=none:=by
 unfold yS at h;unfold yB pX mR tc;split at h
 case h_2=>cases h
 rename_i kt et id w0 j0 v0 o0 n0 w1 g v1 o1 n1 ht;rw[ht];simp only[];split at h
 case h_2=>cases h
 rename_i l K ks rZ cl ks0 v0' r0 ks1 v1' r1 hid hj0 hj1;rw[bt hid,bt hj0,bt hj1];simp only[au.ao];split at h
 case h_2=>cases h
 rename_i key hk;split at h
 case h_2=>cases h
 rename_i hc;simp only[aL,sL]at hc;obtain⟨W,⟨a1,y,I,M⟩,⟨b1,N,O,U⟩,d⟩:=hc;have e1:=Kd.iS a1;have e2:=Kd.iS b1;subst e1;subst e2;have y:=bx y;have I:=bx I;have M:=bx M;have N:=bx N;have O:=bx O;have U:=bx U;have d:j0≠g:=fun e=>by rw[e,show ar g g=true from iM g]at d; cases d
 simp only[be,bo]at h;obtain⟨q,rfl⟩:=h;rw[hb]at q;simp only[aL]at q;have p0:=bx q.1;have p1:=bx q.2;rw[<-Ct.lD hk,kp W];simp only[];rw[iP ⟨⟨⟨y,trivial⟩,N,trivial⟩,⟨⟨I,O⟩,M,U⟩,⟨by simpa using p0,by simpa using p1⟩,d,Ct.tu _ _⟩];simp only[GY W,and_true];unfold tz dG eH;cases hf:bU K.ks key rZ 0 with
 | none =>
  simp only[uI,cR,au.ao,Fe,cF];simp[lz,oc,mn,gi,G.rV,G.rZ,G.iV,G.bV]
 | some p =>
  obtain⟨i,r⟩:=p;obtain⟨_,V⟩:=p8 hf;rw[fL]at V;have hm:(lz K ks rZ).modify i (fun e=>(K.av key,(some (r0.map (aT ks)),some (r1.map (aT ks))),e.2.2))=(lz K ks rZ).set i (K.av key,(some (r0.map (aT ks)),some (r1.map (aT ks))),(gi r 2).iV.toNat):=by
   apply jz;intro j;rw[iy,ef];by_cases e:i=j
   ·subst e
    rw[iP rfl,iP (aV (Ce V)),Ce V];simp[oc]
   ·rw [iN e]
    simp[e]
  simp only[e_,hm,cR,au.ao,Mm,Fj,cT];simp[oc,mn,gi,G.rV,G.rZ,G.iV,G.bV]
theorem Cf(K:Ct)(ks:List Kd)(r:LG):(gY (jD K ks r).1).1=K.av (gi r 0).rV:=by
 unfold jD;cases (gi r 4).bV && !(gi r 3).bV with
 |true=>rfl
 | false =>
  cases K with
  |one k=>cases k<;>rfl
  |agg ks=>rfl
theorem WJ(K:Ct)(g:LG):plainKey (K.av g)=true:=by
 cases K with
 |one k=>cases k<;>rfl
 |agg ks=>rfl
theorem Cg{P:aj}{g:aD}{K:Ct}{ks:List Kd}(h:ic P g K=true)(key:LG):∀(rZ:LL) (i:Nat),ff P g (er K.ks key) (df (gC K ks rZ)) i =
  some ((bU K.ks key rZ i).map fun p=>(p.1,(gY (jD K ks p.2).1).2))
 | [],i=>rfl
 | r::rs,i=>by
  have q:=Cg (ks:=ks) h key rs (i+1);have k:∃ d,lE d K.ks=true:=by
   unfold ic at h;split at h
   ·simp only[aL]at h; exact⟨_,h.1⟩
   ·cases h
  obtain⟨d,v⟩:=k;simp only[gC,df,dx,ff,Cf,kp h,yM _ _ v,bU];cases bq K.ks key (gi r 0).rV with
  |true=>rfl
  |false=>exact q
theorem vH{K:Ct}{ks:List Kd}{rZ:LL}{i:Nat}{r:LG}(h:rZ[i]? = some r):(gC K ks rZ)[i]? = some (jD K ks r):=by
 unfold gC;rw[bW,h];rfl
theorem Ch(K:Ct)(ks:List Kd)(rZ:LL)(i:Nat)(r:LG):gC K ks (rZ.set i r)=(gC K ks rZ).set i (jD K ks r):=by
 simp[gC,sP]
theorem WK{P:aj}{t:aD}{m k v:AV}{b:Bool}{H H':List au}(h:yN P t m k H=some (b,v,H'))(hb:b=true):s_ P t m k (az H)=some (v,az H')/\hZ P t m k false (az H)=none:=by
 unfold yN at h;unfold s_ hZ;split at h
 case h_2=>cases h
 rename_i kt et id U;rw[U];simp only[];split at h
 case h_2=>cases h
 rename_i l K ks rZ cl N;rw[bt N];simp only[au.ao];split at h
 case h_2=>cases h
 rename_i key w' V W hz;split at h
 case h_2=>cases h
 rename_i y;simp only[aL]at y;obtain⟨g,q⟩:=y;have e:=bx g;simp only[be,bo]at h;obtain⟨d,rfl,rfl⟩:=h;rw[hb]at d;rw[<-Ct.lD V,kp q,W,hz];simp only[g,Cg q,and_true];unfold eT at d;unfold fg gn;cases I:bU K.ks key rZ 0 with
 | none =>
  simp only[uI,jE,cR,au.ao,fw,j_,uK]
 | some p =>
  obtain⟨i,r⟩:=p;rw[I]at d;simp only[]at d;obtain⟨_,M⟩:=p8 I;rw[fL]at M;have O:qT (gC K ks rZ) i=some (K.av (gi r 0).rV,(jR r).map (aT ks),(gi r 2).iV.toNat):=by
   unfold qT;rw[vH M];simp only[jD,d,cT,xR,xW,cF]
  simp only[e_,O,jE,cR,au.ao,fw,c9,Ch];rfl
theorem WL{P:aj}{t:aD}{m k v:AV}{b:Bool}{H H':List au}(h:yO P t m k v H=some (b,H'))(hb:b=true):pX P t m k v (az H)=some (az H')/\mR P t m k v (az H)=none:=by
 unfold yO at h;unfold pX mR;split at h
 case h_2=>cases h
 rename_i kt et id w j ak oF n V;rw[V];simp only[];split at h
 case h_2=>cases h
 rename_i l K ks rZ cl ks2 ver' rws I W;rw[bt I,bt W];simp only[au.ao];split at h
 case h_2=>cases h
 rename_i key hk;split at h
 case h_2=>cases h
 rename_i q;simp only[aL]at q;obtain⟨g,M,N,O,U⟩:=q;have e2:=Kd.iS M;subst e2;have e3:=bx N;have e4:=bx O;have e5:=bx U;subst e3 e4 e5;simp only[be,bo]at h;obtain⟨d,rfl⟩:=h;rw[hb]at d;have d:=bx d;subst d;rw[<-Ct.lD hk,kp g];simp only[Ct.tu,c9,and_self,if_true,Cg g,and_true];unfold od dG eH;cases hf:bU K.ks key rZ 0 with
 | none =>
  simp only[uI,cR,au.ao,Fe,cF];simp[gC,jD,jR,gi,G.rV,G.rZ,G.iV,G.bV]
 | some p =>
  obtain⟨i,r⟩:=p;obtain⟨_,y⟩:=p8 hf;rw[fL]at y;simp only[e_,Gf (vH y),cR,au.ao,Ch,Fj,cT];simp[jD,jR,gi,G.rV,G.rZ,G.iV,G.bV]
theorem WM{P:aj}{t:aD}{m k v:AV}{b:Bool}{H H':List au}(h:yP P t m k H=some (b,v,H'))(hb:b=true):ki P t m k (az H)=some (v,az H'):=by
 unfold yP at h;unfold ki;split at h
 case h_2=>cases h
 rename_i kt et id U;rw[U];simp only[];split at h
 case h_2=>cases h
 rename_i l K ks rZ cl M;rw[bt M];simp only[au.ao];split at h
 case h_2=>cases h
 rename_i key w' V W hz;split at h
 case h_2=>cases h
 rename_i q;simp only[aL]at q;obtain⟨N,g⟩:=q;simp only[be,bo]at h;obtain⟨d,rfl,rfl⟩:=h;rw[hb]at d;rw[<-Ct.lD V,kp g,W,hz];simp only[N,Ct.tu,Bool.and_self,Cg g];unfold eT at d;unfold fg p_ p9 dG eH;cases y:bU K.ks key rZ 0 with
 | none =>
  simp only[uI,jE,cR,au.ao,fw,j_,uK,Fe,cF,goInt];simp[gC,jD,jR,gi,G.rV,G.rZ,G.iV,G.bV]
 | some p =>
  obtain⟨i,r⟩:=p;rw[y]at d;simp only[]at d;obtain⟨_,I⟩:=p8 y;rw[fL]at I;have O:qT (gC K ks rZ) i=some (K.av (gi r 0).rV,(jR r).map (aT ks),(gi r 2).iV.toNat):=by
   unfold qT;rw[vH I];simp only[jD,d,cT,xR,xW,cF]
  simp only[e_,O,jE,cR,au.ao,fw,c9,Ch,Fj,cT,goInt];rfl
theorem GZ{st:Int}:∀{rZ:LL} {i j:Nat} {r:LG},gO st rZ i=some (j,r)->i<=j/\rZ[j-i]? = some r
 | [],_,_,_,h=>by simp[gO]at h
 | x::rs,i,j,r,h=>by
  simp only[gO]at h;cases d:((gi x 2).iV.toNat:Int)==st with
  | true =>
   rw[d]at h;cases h;simp
  | false =>
   rw[d]at h;obtain⟨h1,g⟩:=GZ h;refine⟨by omega,?_⟩;rw[show j-i=(j-(i+1))+1 from by omega];simpa using g
theorem Mn{K:Ct}{ks:List Kd}{st:Int}:∀{rZ:LL} {i:Nat},(gO st rZ i).map (·.1)=(ta (gC K ks rZ) st).map (·+i)
 | [],_=>rfl
 | x::rs,i=>by
  have d:=Mn (K:=K) (ks:=ks) (st:=st) (rZ:=rs) (i:=i+1);unfold ta at d|-;simp only[gO,gC,dx,JW,jD]at d|-;cases g:((gi x 2).iV.toNat:Int)==st with
  |true=>simp
  | false =>
   simp only[cF,d,lk,if_false,J2];congr 1
   funext n
   simp only[Fk];omega
theorem WN{m s v:AV}{b:Bool}{H H':List au}(h:yQ m s v H=some (b,H'))(hb:b=true):mS m s v (az H)=some (az H'):=by
 unfold yQ at h;unfold mS;split at h
 case h_2=>cases h
 rename_i id st w j ak oF n;split at h
 case h_2=>cases h
 rename_i l K ks rZ cl ks2 ver' rws U hj;simp only[];rw[bt U,bt hj];simp only[au.ao];split at h
 case h_2=>cases h
 rename_i M;simp only[aL]at M;obtain⟨V,W,hc4,hc5⟩:=M;have e2:=Kd.iS V;subst e2;have e3:=bx W;have e4:=bx hc4;have e5:=bx hc5;subst e3 e4 e5;simp only[be,bo]at h;obtain⟨q,rfl⟩:=h;rw[hb]at q;simp only[aL]at q;obtain⟨d,g⟩:=q;have g:=bx g;subst g;simp only[c9,and_self,if_true];unfold vG at d;unfold vF;cases I:gO st rZ 0 with
 |none=>rw[I]at d; cases d
 | some p =>
  obtain⟨i,r⟩:=p;obtain⟨_,N⟩:=GZ I;rw[fL]at N;have hi:ta (gC K ks rZ) st=some i:=by
   have:=Mn (K:=K) (ks:=ks) (st:=st) (rZ:=rZ) (i:=0);rw[I]at this;cases O:ta (gC K ks rZ) st with
   |none=>rw[O]at this; cases this
   |some y=>rw[O]at this; simp at this; rw[this]
  rw[hi];obtain⟨k0,o0,ek,ek2⟩:∃ k o,jD K ks r=(k,o,(gi r 2).iV.toNat)/\(gY k).1=K.av (gi r 0).rV:=⟨_,_,rfl,Cf K ks r⟩
  simp only[vH N,ek,ek2,WJ,cR,au.ao,Ch];simp[jD,jR,gi,G.rV,G.rZ,G.bV]
theorem Mo(K V:Ct)(rZ:LL)(i:Nat)(r:LG):dN K V (rZ.set i r)=(dN K V rZ).set i (K.av (gi r 0).rV,V.av (gi r 1).rV,(gi r 2).iV.toNat):=by
 simp[dN,sP]
theorem Mp{α:Type}{l:List α}{i:Nat}{x:α}(f:α->α)(h:l[i]? = some x):l.modify i f=l.set i (f x):=by
 apply jz;intro j;rw[iy,ef];by_cases e:i=j
 ·subst e
  rw[iP rfl,iP (aV h),h];simp
 ·rw [iN e]
  simp[e]
theorem Mq{P:aj}{t:aD}{m k v:AV}{b:Bool}{H H':List au}(h:vE P t m k v H=some (b,H')):mR P t m k v (az H)=some (az H'):=by
 unfold vE at h;unfold mR;split at h
 case h_2=>cases h
 rename_i U W id I;rw[I];simp only[];split at h
 case h_2=>cases h
 rename_i K V rZ cl q;rw[bt q];simp only[au.ao];split at h
 case h_2=>cases h
 rename_i key val M N;split at h
 case h_2=>cases h
 rename_i d;cases h;rw[<-Ct.lD M,<-Ct.lD N,kp d];simp only[Ct.tu,and_self,if_true,vD d,cR,au.ao];unfold ew dG eH;cases O:bU K.ks key rZ 0 with
 |none=>simp[dN,gi,G.rV,G.rZ,G.iV]
 | some p =>
  obtain⟨_,g⟩:=p8 (r:=p.2) (j:=p.1) O;rw[fL]at g;have y:(dN K V rZ)[p.1]? = some (K.av (gi p.2 0).rV,V.av (gi p.2 1).rV,(gi p.2 2).iV.toNat):=by simp[dN,g]
  simp only[e_,Mp _ y,Mo,Fj,cT];simp[gi,G.rV,G.rZ,G.iV]
def yT(P:aj)(t:aD)(m k:AV)(H:List au):Option (Bool × List au) :=
 match dL P t,m with
 | some (d,_),.map id=>match H[id]? with
  | some (.map K V rZ cl)=>match K.read k,ic P d K with
   |some key,true=>some (true,H.set id (.map K V (Mk K.ks rZ key) cl))
   |_,_=>none
  |_=>none
 |_,_=>none
theorem Mr{α β:Type}(f:α->β):∀(l:List α) (i:Nat),(l.map f).eraseIdx i=(l.eraseIdx i).map f
 | [],_=>by simp
 |_::_,0=>by simp
 |_::l,i+1=>by simp[Mr f l i]
theorem WO{P:aj}{t:aD}{m k:AV}{b:Bool}{H H':List au}(h:yT P t m k H=some (b,H')):yt P t m k (az H)=some (az H'):=by
 unfold yT at h;unfold yt;split at h
 case h_2=>cases h
 rename_i y I id q;rw[q];simp only[];split at h
 case h_2=>cases h
 rename_i K V rZ cl g;rw[bt g];simp only[au.ao];split at h
 case h_2=>cases h
 rename_i key v d;cases h;rw[<-Ct.lD v,kp d];simp only[vD d,cR,au.ao];unfold Mk;cases M:bU K.ks key rZ 0 with
 |none=>rfl
 |some p=>simp only[e_,dN,Mr]
def yU(P:aj)(t:aD)(x:AV)(H:List au):Option (Bool × List au) :=
 match cZ P t,x with
 | .slice e sz _,.vQ w id ak oF n=>match fC P e,H[id]? with
  | some z,some (.vQ ks v rZ)=>match iE ks (z.map .lit) with
   | some d=>if ks.length=w/\w=sz/\v=ak/\z.length=sz/\0<sz then
     some (eh (oF+n) rZ.length,H.set id (.vQ ks v (rZ.take oF++cC n d++rZ.drop (oF+n)))) else none
   |none=>none
  |_,_=>none
 |_,_=>none
theorem WQ{P:aj}{t:aD}{x:AV}{b:Bool}{H H':List au}(h:yU P t x H=some (b,H'))(hb:b=true):yu P t x (az H)=some (az H'):=by
 unfold yU at h;unfold yu;split at h
 case h_2=>cases h
 rename_i e sz N w id ak oF n q;rw[q];simp only[];split at h
 case h_2=>cases h
 rename_i z ks v rZ y g;rw[y,bt g];simp only[au.ao];split at h
 case h_2=>cases h
 rename_i O k;split at h
 case isFalse=>cases h
 rename_i I;obtain⟨rfl,rfl,rfl,h1,M⟩:=I;simp only[be,bo]at h;obtain⟨d,rfl⟩:=h;subst hb;have d:=Bm d;simp only[h1,M,c9,d,and_self,if_true,cR,au.ao,be];rw[<-mo k];simp[List.map_take,List.map_drop]
def vI(P:aj)(t xt:aD)(s x:AV)(H:List au):Option (Bool × AV × List au) :=
 match cZ P t,cZ P xt,s,x with
 | .slice e sz d,.int _,.lit (.slice none 0 0),.lit (.int _ n)=>match fC P e with
  | some z=>match qZ (z.map .lit) with
   | some ks=>match iE ks (z.map .lit) with
    | some g=>if z.length=sz/\0<sz/\d<=1048576/\ks.length=sz then
      some (ax 0 n&&bC n 1048576,.vQ sz H.length 0 0 n.toNat,H++[.vQ ks 0 (cC n.toNat g)]) else none
    |none=>none
   |none=>none
  |none=>none
 |_,_,_,_=>none
theorem WR{P:aj}{t xt:aD}{s x v:AV}{b:Bool}{H H':List au}(h:vI P t xt s x H=some (b,v,H'))(hb:b=true):s9 P t xt s x (az H)=some (v,az H'):=by
 unfold vI at h;unfold s9;split at h
 case h_2=>cases h
 rename_i e sz V k k' n y g;rw[y,g];simp only[];split at h
 case h_2=>cases h
 rename_i z I;rw[I];simp only[];split at h
 case h_2=>cases h
 rename_i ks W;split at h
 case h_2=>cases h
 rename_i zr q;split at h
 case isFalse=>cases h
 rename_i M;obtain⟨h1,N,O,U⟩:=M;simp only[be,bo]at h;obtain⟨d,rfl,rfl⟩:=h;subst hb;simp only[cB,eY,aL,dT]at d;simp only[h1,N,O,d.1,d.2,and_self,if_true,jE,au.ao,fw,U,be,bo,true_and];rw[<-mo q];simp
def m_(ks:List Kd)(rZ:LL)(key:LG):Option Nat:=match bU ks key rZ 0 with
 |some (_,r)=>tv r
 |none=>none
def oe(mem:LL):Option Nat->Bool
 |some i=>cS i mem.length
 |none=>false
def kU(mem:LL):Option Nat->LG
 |some i=>mem.getD i []
 |none=>[]
def vJ(mem:LL)(j:Option Nat)(ks:List Kd)(key val:LG):LL:=match j with
 |some i=>mem.set i [.l (ew ks (gi (kU mem j) 0).rZ key val (gi (kU mem j) 1).iV.toNat),.i (dG ks (gi (kU mem j) 0).rZ key (gi (kU mem j) 1).iV.toNat:Nat)]
 |none=>mem
def vK(rZ:LL)(st:Int):Bool:=match gO st rZ 0 with
 |some (_,r) => !bC 0 (gi r 1).iV
 |none=>false
def vL(rZ:LL)(st:Int)(n:Nat):LL:=match gO st rZ 0 with
 |some (i,r)=>rZ.set i [gi r 0,.i n,gi r 2]
 |none=>rZ
theorem G0{P:aj}{g:aD}{K:Ct}(h:ic P g K=true)(key:LG):∀(rZ:LL) (i:Nat),ff P g (er K.ks key) (g_ (km K rZ)) i =
  some ((bU K.ks key rZ i).map fun p=>(p.1,AV.undef))
 | [],i=>rfl
 | r::rs,i=>by
  have q:=G0 h key rs (i+1);have k:∃ d,lE d K.ks=true:=by
   unfold ic at h;split at h
   ·simp only[aL]at h; exact⟨_,h.1⟩
   ·cases h
  obtain⟨d,v⟩:=k;simp only[km,g_,dx,ff,kp h,yM _ _ v,bU];cases bq K.ks key (gi r 0).rV with
  |true=>rfl
  |false=>exact q
theorem Ms{K:Ct}{rZ:LL}{i:Nat}{r:LG}(h:rZ[i]? = some r):(km K rZ)[i]? = some (K.av (gi r 0).rV,tv r,(gi r 2).iV.toNat):=by
 unfold km;rw[bW,h];rfl
theorem Mt{d g:Ct}{mem:LL}{i:Nat}(h:i<mem.length):(qX d g mem)[i]? = some (dN d g (gi (mem.getD i []) 0).rZ,(gi (mem.getD i []) 1).iV.toNat):=by
 unfold qX;rw[bW,cu,bY h];rfl
def G1(P:aj)(t:aD)(m k:AV)(ok:Bool)(H:List au):Option (Bool × AV) :=
 match dL P t,m with
 | some (g,h),.sub id l j=>match H[id]? with
  | some (.mm l' _ d q _ mem _)=>match d.read k,rb P h with
   | some key,some (v,z)=>match ar l l'&&(ic P g d&&q.same v) with
    | true=>some (oe mem j,match ok with
      |true=>.tuple [q.av (dn d.ks (gi (kU mem j) 0).rZ key z),.lit (.bool (eH d.ks (gi (kU mem j) 0).rZ key))]
      |false=>q.av (dn d.ks (gi (kU mem j) 0).rZ key z))
    |false=>none
   |_,_=>none
  |_=>none
 | some (g,h),.map id=>match H[id]?,ok with
  | some (.mm l K _ _ rZ _ _),false=>match K.read k,jh P h with
   | some key,some (.lit (.map none))=>match ic P g K with
    |true=>some (true,.sub id l (m_ K.ks rZ key))
    |false=>none
   |_,_=>none
  |_,_=>none
 |_,_=>none
theorem WS{P:aj}{t:aD}{m k v:AV}{ok b:Bool}{H:List au}(h:G1 P t m k ok H=some (b,v))(hb:b=true):hZ P t m k ok (az H)=none/\mh P t m k ok (az H)=some v:=by
 unfold G1 at h;unfold mh hZ;split at h
 ·rename_i U V id l j g
  rw[g];refine⟨rfl,?_⟩;split at h
  case h_2=>cases h
  rename_i l' K M W rZ mem cl q;split at h
  case h_2=>cases h
  rename_i key V' z y I;split at h
  case h_2=>cases h
  rename_i d;simp only[aL]at d;obtain⟨hl,d,hs⟩:=d;have e:=Ct.lB hs;subst e;simp only[be,bo]at h;obtain⟨hi,rfl⟩:=h;rw[hb]at hi;cases j with
  |none=>cases hi
  | some i =>
   have O:i<mem.length:=by simpa[oe]using hi
   simp only[vf,g];rw[bt q];simp only[au.ao,hl,Mt O,kU];rw[<-Ct.lD y,kp d,Mi I];simp only[vD d];unfold dn eH;cases bU M.ks key (gi (mem.getD i []) 0).rZ 0 with
   |none=>cases ok<;>rfl
   |some p=>cases ok<;>rfl
 ·rename_i U V id g
  rw[g];split at h
  case h_2=>cases h
  rename_i l K M W rZ mem cl q;split at h
  case h_2=>cases h
  rename_i key y I;split at h
  case h_2=>cases h
  rename_i d;simp only[tb,g];rw[bt q];simp only[au.ao];refine⟨trivial,?_⟩;rw[<-Ct.lD y,kp d,I];simp only[G0 d];cases h;unfold m_;cases hf:bU K.ks key rZ 0 with
  |none=>rfl
  | some p =>
   obtain⟨i,r⟩:=p;obtain⟨_,N⟩:=p8 hf;rw[fL]at N;simp only[e_,Ms N]
 ·cases h
def yV(P:aj)(t:aD)(m k v:AV)(H:List au):Option (Bool × List au) :=
 match dL P t,m with
 | some (h,_),.sub id l j=>match H[id]? with
  | some (.mm l' K d g rZ mem cl)=>match d.read k,g.read v with
   | some key,some val=>match ar l l'&&ic P h d with
    |true=>some (oe mem j,H.set id (.mm l' K d g rZ (vJ mem j d.ks key val) cl))
    |false=>none
   |_,_=>none
  |_=>none
 |_,_=>none
theorem WT(d g:Ct)(mem:LL)(i:Nat)(r:LG):qX d g (mem.set i r)=(qX d g mem).set i (dN d g (gi r 0).rZ,(gi r 1).iV.toNat):=by
 simp[qX,sP]
theorem WU(K:Ct)(rZ:LL)(i:Nat)(r:LG):km K (rZ.set i r)=(km K rZ).set i (K.av (gi r 0).rV,tv r,(gi r 2).iV.toNat):=by
 simp[km,sP]
theorem WV{P:aj}{t:aD}{m k v:AV}{b:Bool}{H H':List au}(h:yV P t m k v H=some (b,H'))(hb:b=true) :
  tc P t m k v (az H)=some (az H')/\mR P t m k v (az H)=none/\pX P t m k v (az H)=none:=by
 unfold yV at h;unfold tc mR pX;split at h
 case h_2=>cases h
 rename_i kt et id l j ht;rw[ht];refine⟨?_,rfl,rfl⟩;split at h
 case h_2=>cases h
 rename_i l' K d q rZ mem cl U;split at h
 case h_2=>cases h
 rename_i key val hk hv;split at h
 case h_2=>cases h
 rename_i y;simp only[aL]at y;obtain⟨I,y⟩:=y;have e:=bx I;subst e;simp only[be,bo]at h;obtain⟨hi,rfl⟩:=h;rw[hb]at hi;cases j with
 |none=>cases hi
 | some i =>
  have V:i<mem.length:=by simpa[oe]using hi
  simp only[];rw[bt U];simp only[au.ao,Mt V,I];rw[<-Ct.lD hk,<-Ct.lD hv,kp y];simp only[Ct.tu,and_self,if_true,vD y,cR,au.ao,vJ,kU,WT];generalize mem.getD i []=g;have M:∀(X:LL) (n:Nat),(gi [G.l X,G.i n] 0).rZ=X:=fun _ _=>rfl;have N:∀(X:LL) (n:Nat),(gi [G.l X,G.i n] 1).iV.toNat=n:=fun _ _=>rfl;unfold ew dG eH;cases hf:bU d.ks key (gi g 0).rZ 0 with
  | none =>
   simp only[uI,Fe,cF,M,N];rw[show dN d q ((gi g 0).rZ++[[.l [key],.l [val],.i (gi g 1).iV.toNat]])=dN d q (gi g 0).rZ++[(d.av key,q.av val,(gi g 1).iV.toNat)] from by
    simp only[dN,jM,dx,uK];rfl]
  | some p =>
   obtain⟨_,O⟩:=p8 (r:=p.2) (j:=p.1) hf;rw[fL]at O;have W:(dN d q (gi g 0).rZ)[p.1]? = some (d.av (gi p.2 0).rV,q.av (gi p.2 1).rV,(gi p.2 2).iV.toNat):=by simp[dN,O]
   simp only[e_,Mp _ W,Fj,cT,M,N,Mo];rfl
def yW(P:aj)(t:aD)(m k:AV)(H:List au):Option (Bool × AV × List au) :=
 match dL P t,m with
 | some (d,g),.map id=>match H[id]? with
  | some (.mm l K h q rZ mem cl)=>match K.read k,jh P g with
   | some key,some (.lit (.map none))=>match ic P d K with
    |true=>some (!eH K.ks rZ key,.tuple [.sub id l none,.lit (.int .i64 (cl:Nat))],H.set id (.mm l K h q (rZ++[[.l [key],.i (-1),.i cl]]) mem (cl+1)))
    |false=>none
   |_,_=>none
  |_=>none
 |_,_=>none
theorem WW{P:aj}{t:aD}{m k v:AV}{b:Bool}{H H':List au}(h:yW P t m k H=some (b,v,H'))(hb:b=true) :
  lx P t m k (az H)=some (v,az H')/\ki P t m k (az H)=none:=by
 unfold yW at h;unfold lx ki;split at h
 case h_2=>cases h
 rename_i O U id y;rw[y];split at h
 case h_2=>cases h
 rename_i l K V W rZ mem cl q;simp only[];rw[bt q];simp only[au.ao];split at h
 case h_2=>cases h
 rename_i key I M;split at h
 case h_2=>cases h
 rename_i g;simp only[be,bo]at h;obtain⟨d,rfl,rfl⟩:=h;rw[hb]at d;rw[<-Ct.lD I,kp g,M];simp only[Ct.tu,G0 g,and_true];unfold eH at d;cases N:bU K.ks key rZ 0 with
 |some p=>rw[N]at d; cases d
 | none =>
  simp only[uI,cR,au.ao];rw[show km K (rZ++[[.l [key],.i (-1),.i cl]])=km K rZ++[(K.av key,none,cl)] from by
   simp only[km,jM,dx,uK];rfl]
  rfl
theorem Mu{K:Ct}{st:Int}:∀{rZ:LL} {i:Nat},(gO st rZ i).map (·.1)=(td (km K rZ) st).map (·+i)
 | [],_=>rfl
 | x::rs,i=>by
  have d:=Mu (K:=K) (st:=st) (rZ:=rs) (i:=i+1);unfold td at d|-;simp only[gO,km,dx,JW]at d|-;cases g:((gi x 2).iV.toNat:Int)==st with
  |true=>simp
  | false =>
   simp only[cF,d,lk,if_false,J2];congr 1
   funext n
   simp only[Fk];omega
def yX(m s v:AV)(H:List au):Option (Bool × List au) :=
 match m,s,v with
 | .map id,.lit (.int .i64 st),.map j=>match H[id]?,H[j]? with
  | some (.mm l K d g rZ mem cl),some (.map q y h k)=>match d.same q&&g.same y with
   |true=>some (vK rZ st,(H.set id (.mm l K d g (vL rZ st mem.length) (mem++[[.l h,.i k]]) cl)).set j (.raw .dead))
   |false=>none
  |_,_=>none
 |_,_,_=>none
theorem WX{m s v:AV}{b:Bool}{H H':List au}(h:yX m s v H=some (b,H'))(hb:b=true) :
  nZ m s v (az H)=some (az H')/\mS m s v (az H)=none:=by
 unfold yX at h;unfold nZ mS;split at h
 case h_2=>cases h
 rename_i id st j;split at h
 case h_2=>cases h
 rename_i l K KI VI rZ mem cl K2 V2 W icl M N;refine⟨?_,rfl⟩;simp only[];rw[bt M,bt N];simp only[au.ao];split at h
 case h_2=>cases h
 rename_i k;simp only[aL]at k;have O:=Ct.lB k.1;have U:=Ct.lB k.2;subst O U;simp only[be,bo]at h;obtain⟨d,rfl⟩:=h;rw[hb]at d;unfold vK at d;unfold vL;cases g:gO st rZ 0 with
 |none=>rw[g]at d; cases d
 | some p =>
  obtain⟨i,r⟩:=p;rw[g]at d;obtain⟨_,q⟩:=GZ g;rw[fL]at q;have hi:td (km K rZ) st=some i:=by
   have:=Mu (K:=K) (st:=st) (rZ:=rZ) (i:=0);rw[g]at this;cases I:td (km K rZ) st with
   |none=>rw[I]at this; cases this
   |some y=>rw[I]at this; simp at this; rw[this]
  have hm:tv r=none:=by
   unfold tv;cases V:bC 0 (gi r 1).iV with
   |true=>simp[V]at d
   |false=>rfl
  rw[hi];simp only[Ms q,hm,cR,au.ao,WU];simp[tv,qX,gi,G.rV,G.rZ,G.iV,bC,show ∀ n,eh 0 n=true from fun n=>Nat.ble_eq_true_of_le (eR n)]
def kV(P:aj)(r:ct->AV)(H:List au):Op->Option (Bool × AV × List au)
 | .alloc t=>match BP P t with
  |some e=>if kP (az H) 0=true then some (true,.ptr H.length 0 0 0 0,H++[.raw (.gx 0 t e A')]) else none
  | none=>match fC P t with
   |some z=>some (true,.ptr H.length 0 0 0 0,H++[.raw (.box (z.map .lit))])
   |none=>none
 | .box _ x=>match oS (r x) with
  |some cs=>some (true,.ptr H.length 0 0 0 0,H++[.raw (.box cs)])
  |none=>none
 | .store t a x=>match vt P t (r a) (r x) H with
  |some (b,H')=>some (b,.undef,H')
  | none=>match yJ P t (r a) (r x) H with
   |some (b,H')=>some (b,.undef,H')
   | none=>match yK P t (r a) (r x) H with
    |some (b,H')=>some (b,.undef,H')
    |none=>none
 |.makeSlice t l c=>yL P t (r l) (r c) H
 |.buildSlice t n parts=>vz P t n (parts.toList.map fun p=>(p.1,r p.2)) H
 | .range t x=>match cZ P t,r x with
  |.str,.lit (.string s)=>some (true,.ptr H.length 0 0 0 0,H++[.raw (.iter s 0)])
  |_,_=>none
 | .next it true=>match r it with
  | .ptr id 0 _ 0 0=>match H[id]? with
   | some (.raw (.iter s pos))=>if pos<s.size then some (true,.tuple [.lit (.bool true),.lit (goInt pos),.lit (.int .i32 (qF s pos).1)],H.set id (.raw (.iter s (pos+(qF s pos).2))))
     else some (true,.tuple [.lit (.bool false)],H)
   |_=>none
  |_=>none
 | .makeMap t none=>match dL P t with
  | some (g,d)=>match rb P g,rb P d with
   |some (K,_),some (V,_)=>some (true,.map H.length,H++[.map K V [] 0])
   | some (K,_),none=>match dL P d with
    |some _=>some (true,.map H.length,H++[.map K K [] 0])
    | none=>match cZ P d with
     | .array 2 e 1 _=>match yn P e with
      |some ks=>some (true,.map H.length,H++[.map K (.agg [.list ks,.list ks]) [] 0])
      |none=>none
     |_=>none
   |_,_=>none
  |none=>none
 | .mapUpdate t m k v=>match vE P t (r m) (r k) (r v) H with
  |some (b,H')=>some (b,.undef,H')
  | none=>match yO P t (r m) (r k) (r v) H with
   |some (b,H')=>some (b,.undef,H')
   | none=>match yV P t (r m) (r k) (r v) H with
    |some (b,H')=>some (b,.undef,H')
    | none=>match yS P t (r m) (r k) (r v) H with
     |some (b,H')=>some (b,.undef,H')
     |none=>none
 | .lookup t m k false=>match yN P t (r m) (r k) H with
  |some y=>some y
  |none=>yR P t (r m) (r k) H
 | .mapEntry t m k=>match yP P t (r m) (r k) H with
  |some y=>some y
  |none=>yW P t (r m) (r k) H
 | .entryStore _ m s x=>match yQ (r m) (r s) (r x) H with
  |some (b,H')=>some (b,.undef,H')
  | none=>match yX (r m) (r s) (r x) H with
   |some (b,H')=>some (b,.undef,H')
   |none=>none
 | .insert t m k v=>match vE P t (r m) (r k) (r v) H with
  |some (b,H')=>some (b,.undef,H')
  |none=>none
 | .call c=>match c.callee with
  | .builtin .append=>match c.args.toList,c.argTypes.toList with
   | [s,x],[t,xt]=>match cZ P xt with
    |.int _=>vI P t xt (r s) (r x) H
    |_=>vu P t xt (r s) (r x) H
   |_,_=>none
  | .builtin .clear=>match c.args.toList,c.argTypes.toList with
   | [x],[t]=>match yU P t (r x) H with
    |some (b,H')=>some (b,.tuple [],H')
    |none=>none
   |_,_=>none
  | .builtin .delete=>match c.args.toList,c.argTypes.toList with
   | [x,k],t::_=>match yT P t (r x) (r k) H with
    |some (b,H')=>some (b,.tuple [],H')
    |none=>none
   |_,_=>none
  |_=>none
 |_=>none
theorem WY{P:aj}{t xt:aD}{s x:AV}{H:List ai}(h:∀ k,cZ P xt≠.int k):s9 P t xt s x H=none:=by
 unfold s9;split
 ·rename_i d
  exact(h _ d).elim
 ·rfl
theorem G2{P:aj}{r:ct->AV}{H H':List au}{o:Op}{v:AV}{b:Bool}(h:kV P r H o=some (b,v,H'))(hb:b=true):dy P r (az H) o=some (v,az H'):=by
 cases o<;>simp only[kV]at h<;>try cases h
 case alloc t =>
  split at h
  ·rename_i e he
   split at h
   ·rename_i hn
    cases h;simp only[dy,sZ,he,hn,if_true,fw,jE,au.ao]
   ·cases h
  ·rename_i he
   split at h
   ·rename_i z V; cases h; simp only[dy,sZ,he,V,fw,jE,au.ao]
   ·cases h
 case box t x =>
  split at h
  ·rename_i z V; cases h; simp only[dy,BR,V,fw,jE,au.ao]
  ·cases h
 case store t a x =>
  split at h
  ·rename_i I H1 d; cases h; simp only[dy,GS d hb]
  ·split at h
   ·rename_i I H1 d
    cases h;obtain⟨g,q⟩:=Wx d hb;simp only[dy,g,q]
   ·split at h
    ·rename_i I H1 d
     cases h;obtain⟨g,q,M⟩:=Wy d hb;simp only[dy,g,q,M]
    ·cases h
 case makeSlice t l c=>simp only[dy]; exact WC h hb
 case buildSlice t n ps=>simp only[dy]; exact WD h
 case range t x =>
  split at h
  ·rename_i s hk W
   cases h;simp only[dy,BU,hk,W,fw,jE,au.ao]
  ·cases h
 case next it isString =>
  cases isString with
  |false=>cases h
  | true =>
   simp only[]at h;split at h
   ·rename_i id k W
    split at h
    ·rename_i s pos hid
     simp only[dy,BV,W,bt hid,au.ao];split at h
     ·rename_i U
      cases h;rw[iP U,cR];rfl
     ·rename_i U
      cases h;rw[iN U]
    ·cases h
   ·cases h
 case makeMap t res =>
  cases res with
  |some _=>cases h
  | none =>
   simp only[]at h;split at h
   ·split at h
    ·cases h
     simp only[dy,fw,jE,au.ao];rfl
    ·split at h
     ·cases h
      simp only[dy,fw,jE,au.ao];rfl
     ·split at h
      ·split at h
       ·cases h
        simp only[dy,fw,jE,au.ao];rfl
       ·cases h
      ·cases h
    ·cases h
   ·cases h
 case mapUpdate t m k x =>
  split at h
  ·rename_i I H1 d
   cases h;simp only[dy,Mq d]
  ·split at h
   ·rename_i I H1 d
    cases h;obtain⟨g,q⟩:=WL d hb;simp only[dy,g,q]
   ·split at h
    ·rename_i I H1 d
     cases h;obtain⟨g,q,M⟩:=WV d hb;simp only[dy,g,q,M]
    ·split at h
     ·rename_i I H1 d
      cases h;obtain⟨g,q,M,g4⟩:=WI d hb;simp only[dy,g,q,M,g4]
     ·cases h
 case lookup t m k ok =>
  cases ok with
  |true=>cases h
  | false =>
   simp only[]at h;split at h
   ·rename_i y hy
    cases h;obtain⟨g,q⟩:=WK hy hb;simp only[dy,g,q]
   ·obtain ⟨g, q, M⟩ := WH h hb
    simp only[dy,g,q,M]
 case mapEntry t m k =>
  split at h
  ·rename_i y hy
   cases h;simp only[dy,WM hy hb]
  ·obtain ⟨g, q⟩ := WW h hb
   simp only[dy,g,q]
 case entryStore t m s x =>
  split at h
  ·rename_i I H1 d
   cases h;simp only[dy,WN d hb]
  ·split at h
   ·rename_i I H1 d
    cases h;obtain⟨g,q⟩:=WX d hb;simp only[dy,g,q]
   ·cases h
 case insert t m k x =>
  split at h
  ·rename_i I H1 d
   cases h;simp only[dy,Mq d]
  ·cases h
 case call c =>
  simp only[dy,B3];split at h
  ·rename_i N
   rw[N];split at h
   ·rename_i h1 O
    simp only[h1,O];split at h
    ·rw[WR h hb]
    ·rename_i hno
     rw[WY hno];exact WA h hb
   ·cases h
  ·rename_i N
   rw[N];split at h
   ·rename_i h1 O
    simp only[h1,O];split at h
    ·rename_i d
     cases h;rw[WQ d hb]
    ·cases h
   ·cases h
  ·rename_i N
   rw[N];split at h
   ·rename_i h1 O
    simp only[h1,O];split at h
    ·rename_i d
     cases h;rw[WO d]
    ·cases h
   ·cases h
  ·cases h
end Go.AL

namespace Go.AL
open Go
variable [Dr]
def vM(n:Int):Option (Bool × AV):=some (aB n,.lit (.int .i64 n))
def G3(P:aj)(op:BinOp)(t:aD)(g:Bool)(x y:AV):Option (Bool × AV) :=
 match op,x,y with
 |.add,.lit (.int .i64 a),.lit (.int .i64 b)=>vM (a+b)
 |.sub,.lit (.int .i64 a),.lit (.int .i64 b)=>vM (a-b)
 |.mul,.lit (.int .i64 a),.lit (.int .i64 b)=>vM (a*b)
 |.quo,.lit (.int .i64 a),.lit (.int .i64 b)=>some (!(b==0)&&aB (a.tdiv b),.lit (.int .i64 (a.tdiv b)))
 |.rem,.lit (.int .i64 a),.lit (.int .i64 b)=>some (!(b==0),.lit (.int .i64 (a.tmod b)))
 |.add,.lit (.string a),.lit (.string b)=>some (eh (a.size+b.size) 9223372036854775807,.lit (.string (a++b)))
 |.lss,.lit (.int k a),.lit (.int d b)=>if k=d then some (true,.lit (.bool (ax a b))) else none
 |.leq,.lit (.int k a),.lit (.int d b)=>if k=d then some (true,.lit (.bool (bC a b))) else none
 |.gtr,.lit (.int k a),.lit (.int d b)=>if k=d then some (true,.lit (.bool (ax b a))) else none
 |.geq,.lit (.int k a),.lit (.int d b)=>if k=d then some (true,.lit (.bool (bC b a))) else none
 |.and,.lit (.int k a),.lit (.int d b)=>if k=d then some (true,.lit (.int k (Kq k a b))) else none
 |.or,.lit (.int k a),.lit (.int d b)=>if k=d then some (true,.lit (.int k (Kr k a b))) else none
 |.xor,.lit (.int k a),.lit (.int d b)=>if k=d then some (true,.lit (.int k (Ks k a b))) else none
 |.shl,.lit (.int k a),.lit (.int _ b)=>some (aM b,.lit (.int k (FG k a b)))
 |.shr,.lit (.int k a),.lit (.int _ b)=>some (aM b,.lit (.int k (uV k a b)))
 | op,.listF ks rZ,.lit (.slice none 0 0)=>match P.underlying t,mg op false with
  |some (.slice _),some v=>some (cS 0 rZ.length,v)
  |_,_=>none
 | op,.vQ w id ak oF m,.lit (.slice none 0 0)=>match P.underlying t,mg op false with
  |some (.slice _),some v=>some (cS 0 m,v)
  |_,_=>none
 | _,_,_=>match lv P op t g x y with
  |some v=>some (true,v)
  |none=>none
def G4(m sz:Nat)(cells:List AV):Option (Kd × LL) :=
 match yH (cells.headD .undef)with
 | some k=>match bN [k] (cells.map fun c=>[c]) with
  |some rZ=>if sz=1/\m=cells.length then some (k,rZ) else none
  |none=>none
 |none=>none
theorem WZ{m sz:Nat}{cells:List AV}{k:Kd}{rZ:LL}(h:G4 m sz cells=some (k,rZ)){j:Nat}(g:j<m) :
  aT [k] (rZ.getD j [])=(cells.drop (j*sz)).take sz:=by
 unfold G4 at h;split at h
 ·split at h
  ·rename_i y q
   split at h
   ·rename_i v
    obtain⟨rfl,rfl⟩:=v;cases h;have e:=qY q;have I:rZ.length=cells.length:=by have:=congrArg Bn e; simpa using this
    have d:(rZ.map (aT [k]))[j]? = (cells.map fun c=>[c])[j]? := by rw[e]
    rw[yI (by omega),bW,bY g]at d;simp only[e_,be]at d;rw[d,akn,List.drop_eq_getElem_cons g,List.take_succ_cons,List.take_zero]
   ·cases h
  ·cases h
 ·cases h
def G5(rZ:List (List AV)):Option (List Kd × LL):=match qZ (rZ.headD [])with
 | some ks=>match bN ks rZ with
  |some d=>some (ks,d)
  |none=>none
 |none=>none
theorem W0{rZ:List (List AV)}{ks:List Kd}{d:LL}(h:G5 rZ=some (ks,d)):d.map (aT ks)=rZ:=by
 unfold G5 at h;split at h
 ·split at h
  ·rename_i k g
   cases h;exact qY g
  ·cases h
 ·cases h
def G6(k:SK)(x i:AV):Option (Bool × AV) :=
 match k,x,i with
 |.slice _ sz _,.listF ks rZ,.lit (.int _ j)=>if ks.length=sz then some (aM j&&ax j (rZ.length:Int),.cptr (aT ks (rZ.getD j.toNat []))) else none
 |.slice _ sz _,.vQ w id ak oF m,.lit (.int _ j)=>if w=sz then some (aM j&&ax j (m:Int),.ptr id ak w (oF+j.toNat) 0) else none
 | .slice _ sz _,.list w rZ,.lit (.int d j)=>match G5 rZ with
  |some (ks,g)=>if w=sz then some (aM j&&ax j (g.length:Int),.cptr (aT ks (g.getD j.toNat []))) else none
  | none=>match kh k (.list w rZ) (.lit (.int d j)) with
   |some v=>some (true,v)
   |none=>none
 |.slice _ sz _,.svec id l h m,.lit (.int _ j)=>some (aM j&&ax j (m:Int),.sptr id l h sz j.toNat 0)
 | .array m _ sz _,.cptr cells,.lit (.int d j)=>match G4 m sz cells with
  |some (y,rZ)=>some (aM j&&ax j (m:Int),.cptr (aT [y] (rZ.getD j.toNat [])))
  | none=>match kh k (.cptr cells) (.lit (.int d j)) with
   |some v=>some (true,v)
   |none=>none
 |.array m _ sz _,.ptr id ak w row q,.lit (.int _ j)=>some (aM j&&ax j (m:Int),.ptr id ak w row (q+j.toNat*sz))
 | _,_,_=>match kh k x i with
  |some v=>some (true,v)
  |none=>none
def G7(k:SK)(x i:AV):Option (Bool × AV) :=
 match k,x,i with
 |.str,.lit (.string s),.lit (.int _ j)=>some (aM j&&ax j (s.size:Int),.lit (.int .u8 ((s.data.toList.getD j.toNat 0).toNat)))
 | .array m _ 1 false,.agg cells,.lit (.int _ j)=>match kn cells with
  |some l=>bif eh m l.length then some (aM j&&ax j (m:Int),.lit (.int .i64 (l.getD j.toNat 0))) else none
  | none=>match qR k x i with
   |some v=>some (true,v)
   |none=>none
 | _,_,_=>match qR k x i with
  |some v=>some (true,v)
  |none=>none
def G8(op:UnOp)(x:AV):Option (Bool × AV) :=
 match op,x with
 |.neg,.lit (.int .i64 n)=>some (aB (0-n),.lit (.int .i64 (0-n)))
 | _,_=>match u5 op x with
  |some v=>some (true,v)
  |none=>none
def G9(P:aj)(s d:aD)(x:AV):Option (Bool × AV) :=
 match P.underlying s,cZ P d,x with
 |some _,.int .i64,.lit (.int _ n)=>some (aB n,.lit (.int .i64 n))
 | _,_,_=>match u6 P s d x with
  |some v=>some (true,v)
  |none=>none
def Ci(P:aj)(r:ct->AV)(o:Op):Option (Bool × AV) :=
 match o with
 |.indexAddr t x i=>G6 (cZ P t) (r x) (r i)
 |.index t x i=>G7 (cZ P t) (r x) (r i)
 |.binOp op t x y _=>G3 P op t (B2 x||B2 y) (r x) (r y)
 |.slice t x lo hi mx=>GW P t (r x) (lo.map r) (hi.map r) (mx.map r)
 |.unOp op _ x=>G8 op (r x)
 |.convert s d x=>G9 P s d (r x)
 | o=>match jO P r o with
  |some v=>some (true,v)
  |none=>none
theorem qa{x:Option AV}{b:Bool}{v:AV} (h:(match x with|some v=>some (true,v)|none=>none)=some (b,v)):x=some v:=by
 split at h
 ·cases h; rfl
 ·cases h
theorem vN{n:Int}(h:aB n=true):IntKind.i64.wrap n=n:=by
 rw[c6]at h;simp[IntKind.wrap,IntKind.bits,IntKind.signed];omega
theorem W1{P:aj}{op:BinOp}{t:aD}{q:Bool}{x y v:AV}{b:Bool}(h:G3 P op t q x y=some (b,v))(hb:b=true):lv P op t q x y=some v:=by
  unfold G3 at h;split at h
  · simp only [vM, be, bo] at h
    obtain⟨h1,rfl⟩:=h;subst hb;simp[lv,ls,qO,vN h1]
  · simp only [vM, be, bo] at h
    obtain⟨h1,rfl⟩:=h;subst hb;simp[lv,ls,qO,vN h1]
  · simp only [vM, be, bo] at h
    obtain⟨h1,rfl⟩:=h;subst hb;simp[lv,ls,qO,vN h1]
  · simp only [be, bo] at h
    obtain⟨h1,rfl⟩:=h;subst hb;simp only[aL,sL,beq_eq_false_iff_ne]at h1;simp[lv,ls,qO,h1.1,vN h1.2]
  · simp only [be, bo] at h
    obtain⟨h1,rfl⟩:=h;subst hb;simp only[sL,beq_eq_false_iff_ne]at h1;simp[lv,ls,qO,h1]
  · simp only [be, bo] at h
    obtain⟨h1,rfl⟩:=h;subst hb;have g:=Bm h1;have d:∀ k:Nat,k<=9223372036854775807->¬ ((k:Int)>IntKind.i64.max):=fun k I=>by
      show ¬ ((k:Int)>(9223372036854775807:Int))
      omega
    simp only[lv,ls,FH,iN (d _ g)]
  all_goals first
    |exact qa h
    | (split at h
       case isFalse=>cases h
       rename_i I;subst I;cases h;simp[lv,ls,qO,cB,eY])
    | (simp only [be, bo] at h
       obtain⟨h1,rfl⟩:=h;subst hb;simp only[jm,dT]at h1;simp only[lv,ls,iN (Int.not_lt.2 h1)])
    | (split at h
       · rename_i h1 g
         simp only[be,bo]at h;obtain⟨d,rfl⟩:=h;subst hb;simp only[iL]at d;simp only[lv,h1,iP d,g]
       · cases h)
theorem W2{k:SK}{x i v:AV}{b:Bool}(h:G6 k x i=some (b,v))(hb:b=true):kh k x i=some v:=by
 unfold G6 at h;split at h
 ·split at h
  ·rename_i d
   simp only[be,bo]at h;obtain⟨h1,rfl⟩:=h;subst hb;simp only[jm,cB,aL,dT]at h1;simp[kh,d,h1.1,h1.2]
  ·cases h
 ·split at h
  ·rename_i d
   simp only[be,bo]at h;obtain⟨h1,rfl⟩:=h;subst hb;simp only[jm,cB,aL,dT]at h1;simp[kh,d,h1.1,h1.2]
  ·cases h
 ·split at h
  ·rename_i ks y g
   split at h
   ·rename_i d
    simp only[be,bo]at h;obtain⟨h1,rfl⟩:=h;subst hb;simp only[jm,cB,aL,dT]at h1;have e:=W0 g;subst e;simp only[kh,c9,bW];rw[iP ⟨d,h1.1,h1.2⟩,bY (by omega),cu,bY (by omega)];rfl
   ·cases h
  ·exact qa h
 ·simp only [be, bo] at h
  obtain⟨h1,rfl⟩:=h;subst hb;simp only[jm,cB,aL,dT]at h1;simp[kh,h1.1,h1.2]
 ·split at h
  ·rename_i I rZ q
   simp only[be,bo]at h;obtain⟨h1,rfl⟩:=h;subst hb;simp only[jm,cB,aL,dT]at h1;rw[WZ q (by omega)];simp[kh,h1.1,h1.2]
  ·exact qa h
 ·simp only [be, bo] at h
  obtain⟨h1,rfl⟩:=h;subst hb;simp only[jm,cB,aL,dT]at h1;simp[kh,h1.1,h1.2]
 ·exact qa h
theorem W3{k:SK}{x i v:AV}{b:Bool}(h:G7 k x i=some (b,v))(hb:b=true):qR k x i=some v:=by
 unfold G7 at h;split at h
 ·rename_i s g j
  simp only[be,bo]at h;obtain⟨h1,rfl⟩:=h;subst hb;simp only[jm,cB,aL,dT]at h1;have d:j.toNat<s.size:=by omega
  have e:s[j.toNat]? = some (s.data.toList.getD j.toNat 0):=by
   have q:j.toNat<s.data.toList.length:=by simpa using d
   rw[cu,bY q];simp only[getElem?,decidableGetElem?,d,dite_true,Option.getD_some];rfl
  simp only[qR,h1.1,h1.2,and_self,if_true,e]
 ·rename_i m e cells g j
  split at h
  ·rename_i l y
   cases hm:eh m l.length with
   |false=>rw[hm]at h; cases h
   | true =>
    rw[hm]at h;simp only[cT,be,bo]at h;obtain⟨h1,rfl⟩:=h;subst hb;rw[sO]at hm;simp only[jm,cB,aL,dT]at h1;have I:=GP y j.toNat (by omega);simp only[qR,h1.1,h1.2,and_self,if_true,jB,lk,if_false,akn,sI,nJ,I]
  ·exact qa h
 ·exact qa h
theorem W4{op:UnOp}{x v:AV}{b:Bool}(h:G8 op x=some (b,v))(hb:b=true):u5 op x=some v:=by
 unfold G8 at h;split at h
 ·simp only [be, bo] at h
  obtain⟨h1,rfl⟩:=h;subst hb;simp only[u5,vN h1]
 ·exact qa h
theorem W5{P:aj}{s d:aD}{x v:AV}{b:Bool}(h:G9 P s d x=some (b,v))(hb:b=true):u6 P s d x=some v:=by
 unfold G9 at h;split at h
 ·rename_i g k
  simp only[be,bo]at h;obtain⟨h1,rfl⟩:=h;subst hb;simp only[u6,g,k,vN h1]
 ·exact qa h
theorem Mv{P:aj}{r:ct->AV}{o:Op}{b:Bool}{v:AV}(h:Ci P r o=some (b,v))(hb:b=true):jO P r o=some v:=by
 cases o<;>simp only[Ci]at h<;>try exact qa h
 case binOp=>simp only[jO]; exact W1 h hb
 case indexAddr=>simp only[jO]; exact W2 h hb
 case index=>simp only[jO]; exact W3 h hb
 case slice=>simp only[jO]; exact WB h hb
 case unOp=>simp only[jO]; exact W4 h hb
 case convert=>simp only[jO]; exact W5 h hb
inductive bg where
 |fail
 |done (x:cD) (s:aF)
 |ask (b:Bool) (t e:bg)
 |side (b:Bool) (t:bg)
def bg.holds(Q:cD->aF->Prop):bg->Prop
 |.fail=>False
 |.done x s=>Q x s
 |.ask b t e=>(b=true->t.holds Q)/\(b=false->e.holds Q)
 |.side b t=>b=true/\t.holds Q
structure aH where
 pf:bO->Bool
 T:bO->List AV->Option (Bool × AV)
 W:bO->List AV->List au->Option (Bool × AV × List au)
 C:bO->List AV->List au->List Nat
 I:bO->List AV->List au->Option bg:=fun _ _ _=>none
 N:bO->Bool:=fun _=>false
 U:bO->Bool:=fun _=>true
structure aJ (P:aj) (τ:aH):Prop where
 T:∀ f args b v,τ.T f args=some (b,v)->b=true->iD P f=true/\dM P f args v
 W:∀ f args H b v H',τ.W f args H=some (b,v,H')->b=true->iD P f=true/\fN P f args (az H) v (az H')
 C:∀ f args H b v H',τ.W f args H=some (b,v,H')->∀ A,A∉τ.C f args H->A<H.length->H'[A]? = H[A]?
 I:∀ f args H t,τ.I f args H=some t->∀ Q:cD->aF->Prop,t.holds Q->iD P f=true/\∃ v H',fN P f args (az H) v (az H')/\(∀ A,A∉τ.C f args H->A<H.length->H'[A]? = H[A]?)/\Q .normal ⟨[v],H'⟩
 F:(∀ f,τ.U f=false->∀ args H,τ.W f args H=none/\τ.C f args H=[])/\∀ f,τ.N f=true->∀ args H b v H',τ.W f args H=some (b,v,H')->∀ id o,id<H.length->id∉τ.C f args H ->
  τ.W f args (H.set id o)=some (b,v,H'.set id o)/\τ.C f args (H.set id o)=τ.C f args H
def bg.yY(k:AV->List au->bg):bg->bg
 |.fail=>.fail
 |.done _ s=>k (s.fr.headD .undef) s.H
 |.ask b t e=>.ask b (t.yY k) (e.yY k)
 |.side b t=>.side b (t.yY k)
theorem bg.Cj{k:AV->List au->bg}{Q:cD->aF->Prop}:∀{t:bg},(t.yY k).holds Q->t.holds fun _ s=>(k (s.fr.headD .undef) s.H).holds Q
 |.fail,h=>h
 |.done _ _,h=>h
 |.ask _ t e,h=>⟨fun hb=>Cj (t:=t) (h.1 hb),fun hb=>Cj (t:=e) (h.2 hb)⟩
 |.side _ t,h=>⟨h.1,Cj (t:=t) h.2⟩
inductive Want where
 |bad|yes|no
 |test (t:Tmp) (b:Bool) (want:Bool)
def rh(ah:Array aR)(fr:List AV)(o:aR):Want :=
 match o.guard with
 |none=>.yes
 | some (j,d)=>match (ah[j]?).bind (·.dst) with
  | some t=>match fr[t]? with
   |some (.lit (.bool b))=>.test t b d
   |some (.tuple [])=>.no
   |_=>.bad
  |none=>.bad
def Ck:AV->Option Bool
 |.lit (.bool b)=>some b
 |_=>none
def yZ(H:List au):AV->Bool × AV
 | .vQ w id ak oF n=>match H[id]? with
  |some (.vQ ks v rZ)=>if ak=v/\ks.length=w/\oF=0 then (ar n rZ.length,.listF ks rZ) else (true,.vQ w id ak oF n)
  |_=>(true,.vQ w id ak oF n)
 | .ptr id ak k row d=>match H[id]? with
  |some (.raw (.box cells))=>if ak=0/\row=0/\d=0/\AV.bK cells=true then (true,.cptr cells) else (true,.ptr id ak k row d)
  |_=>(true,.ptr id ak k row d)
 |a=>(true,a)
def tA(H:List au):List AV->Bool × List AV
 | []=>(true,[])
 | a::as=>match yZ H a,tA H as with
  |(b,g),(h,d)=>(b&&h,g::d)
def Cl(H:List au):AV->Bool × AV
 | .clo f caps=>match tA H caps with
  |(b,d)=>(b,.clo f d)
 |a=>yZ H a
def rj(H:List au):List AV->Bool × List AV
 | []=>(true,[])
 | a::as=>match Cl H a,rj H as with
  |(b,g),(h,d)=>(b&&h,g::d)
def Cm:List AV->Bool
 | []=>true
 |.lit _::as=>Cm as
 |_::_=>false
def Cn:AV->Bool
 |.lit _=>true
 |.tuple d=>Cm d
 |_=>false
def G_(P:aj)(r:ct->AV)(H:List au)(o:Op):Option AV :=
 match o with
 | .call c=>match c.callee,c.args.toList,c.argTypes.toList with
  | .builtin .len,[a],[t]=>match dL P t,r a with
   | some _,.map id=>match H[id]? with
    |some (.map _ _ rZ _)=>some (.lit (.int .i64 rZ.length))
    |_=>none
   |_,_=>none
  |_,_,_=>none
 |_=>none
theorem W6{P:aj}{r:ct->AV}{H:List au}{o:Op}{v:AV}(h:G_ P r H o=some v):gz P r (az H) o=some v:=by
 unfold G_ at h;split at h
 ·rename_i c
  simp only[gz];split at h
  ·rename_i a t g ha k
   unfold qU;rw[g,ha,k];simp only[];split at h
   ·rename_i p id q hm
    rw[q,hm];simp only[];split at h
    ·rename_i K V rZ cl d
     cases h;rw[bt d];simp[au.ao,dN]
    ·cases h
   ·cases h
  ·cases h
 ·cases h
def G'(v:AV)(H:List au):Option (Bool × AV × List au) :=
 match v with
 | .vQ w id ak oF n=>match H[id]? with
  |some (.vQ ks u rZ)=>if ak=u/\oF=0/\w=ks.length then some (ar n rZ.length,.listF ks rZ,H.set id (.raw .dead)) else none
  |_=>none
 | .agg (.vQ w id ak oF n::cs)=>match H[id]? with
  |some (.vQ ks u rZ)=>if ak=u/\oF=0/\w=ks.length then some (ar n rZ.length,.agg (.listF ks rZ::cs),H.set id (.raw .dead)) else none
  |_=>none
 |_=>none
def vO(P:aj)(r:ct->AV)(H:List au):Op->Option (Bool × List au)
 | .store t a x=>match G' (r x) H with
  | some (d,g,H1)=>match vt P t (r a) g H1 with
   |some (h,H')=>some (d&&h,H')
   |none=>none
  |none=>none
 |_=>none
theorem W7{P:aj}{r:ct->AV}{H H':List au}{o:Op}{b:Bool}(h:vO P r H o=some (b,H'))(hb:b=true):vh P r (az H) .undef (az H') o:=by
 unfold vO at h;split at h
 case h_2=>cases h
 rename_i t a x;split at h
 case h_2=>cases h
 rename_i I M H1 d;split at h
 case h_2=>cases h
 rename_i N O y;simp only[be,bo]at h;obtain⟨h1,rfl⟩:=h;subst hb;simp only[aL]at h1;unfold G' at d;split at d
 case h_3=>cases d
 ·rename_i w id ak oF n q
  split at d
  case h_2=>cases d
  rename_i ks u rZ k;split at d
  case isFalse=>cases d
  rename_i v;obtain⟨rfl,rfl,rfl⟩:=v;simp only[be,bo]at d;obtain⟨g,rfl,rfl⟩:=d;rw[h1.1]at g;have g:=bx g;subst g;refine⟨.listF ks rZ,(az H).set id .dead,⟨id,ak,ks,rZ,.inl ⟨q,rfl⟩,?_,rfl⟩,?_,rfl⟩
  ·rw [bt k]
   rfl
  ·have := GS y h1.2
   rw[cR]at this;exact this
 ·rename_i w id ak oF n cs q
  split at d
  case h_2=>cases d
  rename_i ks u rZ k;split at d
  case isFalse=>cases d
  rename_i v;obtain⟨rfl,rfl,rfl⟩:=v;simp only[be,bo]at d;obtain⟨g,rfl,rfl⟩:=d;rw[h1.1]at g;have g:=bx g;subst g;refine⟨.agg (.listF ks rZ::cs),(az H).set id .dead,⟨id,ak,ks,rZ,.inr ⟨cs,q,rfl⟩,?_,rfl⟩,?_,rfl⟩
  ·rw [bt k]
   rfl
  ·have := GS y h1.2
   rw[cR]at this;exact this
def Ha(k:SK)(x i:AV)(H:List au):Option (Int × AV × AV):=match k,x,i with
 | .array 2 _ 1 _,.ptr id ak w row d,.lit (.int _ n)=>match H[id]? with
  |some (.raw (.box [.vQ ..,.vQ ..]))=>some (n,.ptr id ak w row d,.ptr id ak w row (d+1))
  |_=>none
 |_,_,_=>none
theorem W8{k:SK}{x i p0 p1:AV}{H:List au}{n:Int}(h:Ha k x i H=some (n,p0,p1))(h1:(aM n&&ax n 2)=true):kh k x i=some (bif ar n.toNat 0 then p0 else p1):=by
 unfold Ha at h;split at h
 case h_2=>cases h
 split at h
 case h_2=>cases h
 cases h;simp only[jm,cB,aL,dT]at h1;have e:n=0\/n=1:=by omega
 rcases e with rfl|rfl<;>simp[kh]<;>rfl
def nc(P:aj)(τ:aH)(o:aR)(s:aF)(k:AV->List au->bg):bg :=
 match o.op with
 | .pick c a b=>match Ck (s.eval c) with
  |some t=>.ask t (k (s.eval a) s.H) (k (s.eval b) s.H)
  |none=>.fail
 | .load t a=>match GQ P t (s.eval a) s.H with
  |some (b,v)=>.side b (k v s.H)
  |none=>.fail
 | .lookup t m x ok=>match GX P t (s.eval m) (s.eval x) ok s.H with
  | some (b,v)=>match dz τ.pf o.op,ok with
   |.read,_=>.side b (k v s.H)
   |.write,false=>.side b (k v s.H)
   |_,_=>.fail
  | none=>match dz τ.pf o.op with
   | .write=>match kV P s.eval s.H o.op with
    |some (b,v,H')=>.side b (k v H')
    |none=>.fail
   | .read=>match G1 P t (s.eval m) (s.eval x) ok s.H with
    |some (b,v)=>.side b (k v s.H)
    |none=>.fail
   |.pure=>.fail
 | .indexAddr t x i=>match Ha (cZ P t) (s.eval x) (s.eval i) s.H with
  |some (n,p0,p1)=>.side (aM n&&ax n 2) (.ask (ar n.toNat 0) (k p0 s.H) (k p1 s.H))
  | none=>match Ci P s.eval o.op with
   |some (b,v)=>.side b (k v s.H)
   |none=>.fail
 | _=>match dz τ.pf o.op with
  | .read=>match G_ P s.eval s.H o.op with
   |some v=>k v s.H
   |none=>.fail
  | .pure=>match jC s.eval o.op with
   | some (f,args)=>match τ.T f args with
    |some (b,v)=>.side b (k v s.H)
    |none=>.fail
   | none=>match Ci P s.eval o.op with
    |some (b,v)=>.side b (k v s.H)
    |none=>.fail
  | .write=>match jC s.eval o.op with
   | some (f,args)=>match τ.W f args s.H with
    |some (b,v,H')=>.side b (k v H')
    | none=>match τ.I f args s.H with
     |some t=>t.yY k
     | none=>match τ.T f args with
      |some (b,v)=>.side b (k v s.H)
      | none=>match rj s.H args with
       | (g,d)=>match τ.T f d with
        | some (b,v)=>match Cn v&&AV.bK d with
         |true=>.side (g&&b) (k v s.H)
         |false=>.fail
        |none=>.fail
   | none=>match kV P s.eval s.H o.op with
    |some (b,v,H')=>.side b (k v H')
    | none=>match vO P s.eval s.H o.op with
     |some (b,H')=>.side b (k .undef H')
     |none=>.fail
def aF.ay(s:aF)(t:Tmp)(b:Bool):aF:=⟨s.fr.set t (.lit (.bool b)),s.H⟩
def Hb(P:aj)(τ:aH)(ah:Array aR)(o:aR)(s:aF)(k:aF->bg):bg :=
 match rh ah s.fr o with
 |.bad=>.fail
 |.no=>k (s.put o.dst (.tuple []) s.H)
 |.yes=>nc P τ o s fun v H'=>k (s.put o.dst v H')
 | .test t b d=>.ask b
   (match d with
    |true=>nc P τ o (s.ay t true) fun v H'=>k ((s.ay t true).put o.dst v H')
    |false=>k ((s.ay t true).put o.dst (.tuple []) s.H))
   (match d with
    |true=>k ((s.ay t false).put o.dst (.tuple []) s.H)
    |false=>nc P τ o (s.ay t false) fun v H'=>k ((s.ay t false).put o.dst v H'))
def rk(P:aj)(τ:aH)(ah:Array aR):List aR->aF->(aF->bg)->bg
 | [],s,k=>k s
 |o::d,s,k=>Hb P τ ah o s fun s1=>rk P τ ah d s1 k
def eD:AV->Option Nat
 |.ptr id _ _ _ _=>some id
 |.vQ _ id _ _ _=>some id
 |.map id=>some id
 |.sub id _ _=>some id
 |.svec id _ _ _=>some id
 |.sptr id _ _ _ _ _=>some id
 |_=>none
def mr:AV->List Nat
 |.agg cs=>cs.filterMap eD
 | a=>match eD a with
  |some i=>[i]
  |none=>[]
theorem Hc{a:AV}{i:Nat}(h:eD a=some i):i∈mr a:=by
 unfold mr;split
 ·cases h
 ·rw [h]
  exact List.mem_singleton_self i
def y8:List AV->List AV->Bool
 | [],[]=>true
 |.ptr a b c d e::as,.ptr g h k q v::y=>(ar a g&&(ar b h&&(ar c k&&(ar d q&&ar e v))))&&y8 as y
 |_,_=>false
def y9:Option au->Option au->Bool
 |some (.raw (.box [.clo f as])),some (.raw (.box [.clo g d]))=>ar f g&&y8 as d
 |_,_=>false
theorem Mw:∀{as d:List AV},y8 as d=true->as=d
 | [],[],_=>rfl
 | [],_::_,h=>by simp[y8]at h
 | a::as,d,h=>by
  unfold y8 at h;split at h
  ·exact absurd ‹a::as=[]› (by simp)
  ·rename_i e
   cases e;simp only[aL,Nat.beq_eq]at h;obtain⟨⟨rfl,rfl,rfl,rfl,rfl⟩,h⟩:=h;rw[Mw h]
  ·cases h
theorem W9{a b:Option au}(h:y9 a b=true):a=b:=by
 unfold y9 at h;split at h
 ·simp only [aL, Nat.beq_eq] at h
  rw[h.1,Mw h.2]
 ·cases h
def rm(τ:aH)(f:bO)(as:List AV)(H:List au)(id:Nat):Bool:=match τ.W f as H with
 |some (_,_,H')=>y9 H'[id]? H[id]?
 |none=>false
def kX(τ:aH)(r:ct->AV)(H:List au)(op:Op):List Nat :=
 match jC r op with
 |some (f,args)=>(τ.C f args H).filter fun id => !rm τ f args H id
 |none=>op.operands.toList.flatMap fun x=>mr (r x)
theorem Mx{τ:aH}{f:bO}{as:List AV}{H H':List au}{b:Bool}{v:AV}{A:Nat}(h:τ.W f as H=some (b,v,H'))(hA:A∉(τ.C f as H).filter fun id => !rm τ f as H id):A∉τ.C f as H\/H'[A]? = H[A]? := by
 by_cases hm:A∈τ.C f as H
 ·right
  cases d:rm τ f as H A with
  | true =>
   unfold rm at d;rw[h]at d;exact W9 d
  |false=>exact(hA (sQ.2 ⟨hm,by rw[d]; rfl⟩)).elim
 ·exact .inl hm
theorem W_{τ:aH}{f:bO}{as:List AV}{H:List au}{A:Nat}(h:τ.W f as H=none)(hA:A∉(τ.C f as H).filter fun id => !rm τ f as H id):A∉τ.C f as H :=
 fun hm=>hA (sQ.2 ⟨hm,by unfold rm; rw[h]; rfl⟩)
structure Acc where
 R:kS
 W:jQ
def y_(aA:List Nat)(i:Nat):Bool := !aA.any (ar i)
def Hd(ah:Array aR)(j id:Nat)(d:Acc):Option Acc :=
 match d.W.all fun e=>waits ah ah.size j e.1||(y_ e.2.1 id&&cS id e.2.2)with
 |true=>some ⟨(j,id)::d.R,d.W⟩
 |false=>none
def Co(ah:Array aR)(j:Nat)(T:List Nat)(n:Nat)(d:Acc):Option Acc :=
 match d.R.all fun e=>waits ah ah.size j e.1||(y_ T e.2&&cS e.2 n)with
 | true=>match d.W.all fun e=>waits ah ah.size j e.1||((T.all fun id=>y_ e.2.1 id&&cS id e.2.2)&&e.2.1.all fun id=>cS id n) with
  |true=>some ⟨d.R,(j,T,n)::d.W⟩
  |false=>none
 |false=>none
def He(τ:aH)(ah:Array aR)(j:Nat)(o:aR)(s:aF)(d:Acc):Option Acc :=
 match dz τ.pf o.op with
 |.pure=>some d
 | .read=>match n_ s.eval o.op with
  |some id=>Hd ah j id d
  |none=>some d
 |.write=>Co ah j (kX τ s.eval s.H o.op) s.H.length d
def gZ:Kd->al->Option G
 |.int k,.int d n=>if k=d then some (.i n) else none
 |.str,.string s=>some (.s s)
 |.bool,.bool b=>some (.t b)
 |.list _,.slice none 0 0=>some (.l [])
 |_,_=>none
def vP:List Kd->List al->Option LG
 | [],[]=>some []
 | k::ks,v::z=>match gZ k v,vP ks z with
  |some g,some d=>some (g::d)
  |_,_=>none
 |_,_=>none
def mK:Kd->Option (List Kd)
 |.list ks=>some ks
 |_=>none
def mZ:List Kd->List (Option (List Kd)):=List.map mK
theorem Xa{k:Kd}{v:al}{g:G}(h:gZ k v=some g):kL k g=zc (mK k) v:=by
 cases k with
 | int k =>
  cases v with
  | int d n =>
   simp only[gZ]at h;by_cases e:k=d
   ·rw [iP e] at h
    cases h;subst e;rfl
   ·rw [iN e] at h
    cases h
  |_=>cases h
 |str=>cases v<;>first|(cases h; rfl)|cases h
 |bool=>cases v<;>first|(cases h; rfl)|cases h
 | list ks =>
  cases v with
  |slice b n c=>cases b<;>cases n<;>cases c<;>first|(cases h; rfl)|cases h
  |_=>cases h
theorem My:∀{ks:List Kd} {z:List al} {g:LG},vP ks z=some g->aT ks g=fm (mZ ks) z
 | [],[],g,h=>by cases h; rfl
 | [],_::_,g,h=>by cases h
 |_::_,[],g,h=>by cases h
 | k::ks,v::z,g,h=>by
  simp only[vP]at h;split at h
  ·rename_i g0 y h1 d
   cases h;have q:=My d;simp only[aT,uJ,List.tail_cons,q,Xa h1];rfl
  ·cases h
def tC(z:List al):List au->Nat->Option (Nat × List Kd × LG)
 | [],_=>none
 | .vQ ks 0 rZ::H,i=>match vP ks z with
  | some g=>match rZ with
   | []=>some (i,ks,g)
   |_::_=>tC z H (i+1)
  |none=>tC z H (i+1)
 |_::H,i=>tC z H (i+1)
def za:List au->Nat->Option Nat
 | [],_=>none
 |.raw .fA::_,i=>some i
 |_::H,i=>za H (i+1)
def Xb(P:aj)(t:aD):Option (Ct × Ct) :=
 match dL P t with
 | some (g,d)=>match rb P g,rb P d with
  |some (K,_),some (V,_)=>some (K,V)
  | some (K,_),none=>match dL P d with
   |some _=>some (K,K)
   |none=>none
  |_,_=>none
 |none=>none
def Hg(P:aj)(op:Op)(H:List au):Option (Nat × AV × List au) :=
 match op with
 | .alloc t=>match fC P t with
  | some z=>match tC z H 0 with
   |some (id,ks,g)=>some (id,.ptr id 1 ks.length 0 0,H.set id (.vQ ks 1 [g]))
   |none=>none
  |none=>none
 | .makeMap t none=>match Xb P t with
  | some (K,V)=>match za H 0 with
   |some id=>some (id,.map id,H.set id (.map K V [] 0))
   |none=>none
  |none=>none
 |_=>none
def Hh(τ:aH)(o:aR)(s:aF):Bool:=match dz τ.pf o.op with
 | .write=>match jC s.eval o.op with
  | some (f,args)=>match τ.N f with
   |true=>(τ.W f args s.H).isSome
   |false=>false
  |none=>oa o.op
 |_=>true
def zb(P:aj)(τ:aH)(ah:Array aR)(j:Nat)(o:aR)(s:aF)(g:Acc)(k:aF->Acc->bg):bg :=
 match mW ah&&fD o.op with
 | true=>match Hg P o.op s.H with
  | some (id,v,H')=>match Co ah j [id] s.H.length g with
   |some d=>k (s.put o.dst v H') d
   |none=>.fail
  |none=>.fail
 | false=>match mX ah o.op && !Hh τ o s with
  |true=>.fail
  | false=>match He τ ah j o s g with
   |some d=>nc P τ o s fun v H'=>k (s.put o.dst v H') d
   |none=>.fail
def Hk(P:aj)(τ:aH)(ah:Array aR)(j:Nat)(o:aR)(s:aF)(d:Acc)(k:aF->Acc->bg):bg :=
 match rh ah s.fr o with
 |.bad=>.fail
 |.no=>k (s.put o.dst (.tuple []) s.H) d
 |.yes=>zb P τ ah j o s d k
 | .test t b g=>.ask b
   (match g with
    |true=>zb P τ ah j o (s.ay t true) d k
    |false=>k ((s.ay t true).put o.dst (.tuple []) s.H) d)
   (match g with
    |true=>k ((s.ay t false).put o.dst (.tuple []) s.H) d
    |false=>zb P τ ah j o (s.ay t false) d k)
def Hl(P:aj)(τ:aH)(ah:Array aR):List aR->Nat->aF->Acc->(aF->bg)->bg
 | [],_,s,_,k=>k s
 |o::d,j,s,h,k=>Hk P τ ah j o s h fun s1 g=>Hl P τ ah d (j+1) s1 g k
def Mz(k:aF->bg)(K:cD->aF->bg):cD->aF->bg
 |.normal,s=>k s
 |x,s=>K x s
def MA(id:Nat)(K:cD->aF->bg):cD->aF->bg
 |.exit i,s=>if i=id then K .normal s else K (.exit i) s
 |x,s=>K x s
def bg.bind(K:cD->aF->bg):bg->bg
 |.fail=>.fail
 |.done x s=>K x s
 |.ask b t e=>.ask b (t.bind K) (e.bind K)
 |.side b t=>.side b (t.bind K)
def og:Code->Option Nat
 |.region id _ _=>some id
 | .seq a b=>match og a with
  |some i=>some i
  |none=>og b
 |.block _ c=>og c
 | .cond _ a b=>match og a with
  |some i=>some i
  |none=>og b
 |.loop c=>og c
 |_=>none
def tD:Code->Nat
 | .seq a b=>match og a with
  |some _=>tD a
  |none=>tD b
 |.block _ c=>tD c
 | .cond _ a b=>match og a with
  |some _=>tD a
  |none=>tD b
 |.loop c=>tD c+1
 |_=>0
def MB(c:Code):Option Nat:=match og c with
 |some i=>some (i+1000*tD c)
 |none=>none
def cw:Code->List (Nat × Code)
 |.seq a b=>cw a++cw b
 |.cond _ a b=>cw a++cw b
 |.block _ c=>cw c
 | .loop c=>match MB c with
  |some k=>(k,c)::cw c
  |none=>cw c
 |_=>[]
def Xc(k:aF->bg)(K:cD->aF->bg):cD->aF->bg
 |.normal,s=>k s
 |.exit i,s=>K (.exit i) s
 |.ret,s=>K .ret s
def Cp(body:aF->(cD->aF->bg)->bg):Nat->aF->(cD->aF->bg)->bg
 |0,_,_=>.fail
 |n+1,s,K=>body s (Xc (fun s'=>Cp body n s' K) K)
def cA:Code->List (Nat × Code)
 | .seq a b=>cA a++((match og b with
  |some k=>[(k,b)]
  |none=>[])++cA b)
 |.cond _ a b=>cA a++cA b
 |.block _ c=>cA c
 |.loop c=>cA c
 |_=>[]
structure LT where
 loops:Nat->aF->Option bg
 pre:Nat->aF->Bool × aF
 zd:Nat->aF->Option bg
def MC(L:LT)(k:Option Nat)(s:aF):Option bg :=
 match k with
 |some i=>L.zd i s
 |none=>none
def ig(P:aj)(τ:aH)(L:LT):Code->aF->(cD->aF->bg)->bg
 |.skip,s,K=>K .normal s
 | .region id ah d,s,K=>match d && !vj τ.pf ah with
  | true=>match vr τ.pf ah with
   |true=>.side (L.pre id s).1 (Hl P τ ah ah.toList 0 (L.pre id s).2 ⟨[],[]⟩ (K .normal))
   |false=>.fail
  |false=>.side (L.pre id s).1 (rk P τ ah ah.toList (L.pre id s).2 (K .normal))
 | .seq a b,s,K=>ig P τ L a s (Mz (fun s1=>match MC L (og b) s1 with
  |some t=>t.bind K
  |none=>ig P τ L b s1 K) K)
 | .cond c a b,s,K=>match Ck (s.eval c) with
  |some t=>.ask t (ig P τ L a s K) (ig P τ L b s K)
  |none=>.fail
 |.block id c,s,K=>ig P τ L c s (MA id K)
 | .loop c,s,K=>match MB c with
  | some i=>match L.loops i s with
   |some t=>t.bind K
   |none=>Cp (fun s1 g=>ig P τ L c s1 g) 400 s K
  |none=>.fail
 |.exit id,s,K=>K (.exit id) s
 |.ret,s,K=>K .ret s
 |_,_,_=>.fail
def MD(P:aj)(m:Nat)(c:Code)(s:aF)(t:bg):Prop:=∀ Q:cD->aF->Prop,t.holds Q->∃ x s',mU P m c s.ao x s'.ao/\Q x s'
def Hm(P:aj)(m:Nat)(c:Code)(s:aF)(t:bg):Prop:=∀ Q:cD->aF->Prop,t.holds Q->∃ x s',dX P m c s.ao x s'.ao/\Q x s'
def aZ(P:aj)(m:Nat)(L:LT)(c:Code):Prop:=(∀ k d,(k,d)∈cw c->∀ s t,L.loops k s=some t->MD P m d s t)/\(∀ id s,(L.pre id s).1=true->bF m s.ao (L.pre id s).2.ao) /\
 ∀ k d,(k,d)∈cA c->∀ s t,L.zd k s=some t->Hm P m d s t
theorem aZ.sub{P:aj}{m:Nat}{L:LT}{c g:Code}(h:aZ P m L c)(h1:∀ p,p∈cw g->p∈cw c)(v:∀ p,p∈cA g->p∈cA c):aZ P m L g :=
 ⟨fun k d q=>h.1 k d (h1 _ q),h.2.1,fun k d q=>h.2.2 k d (v _ q)⟩
theorem ME{a:AV}{b:Bool}(h:Ck a=some b):a=.lit (.bool b):=by
 unfold Ck at h;split at h
 ·cases h; rfl
 ·cases h
theorem MF{E E':af}:∀{g:List AV} {d:List al},Cm g=true->aw E g d->aw E' g d
 | [],[],_,_=>by simp[aw]
 | [],_::_,_,h=>by simp[aw]at h
 | a::g,d,k,h=>by
  unfold Cm at k;split at k
  ·rename_i q; cases q
  ·rename_i q
   cases q;cases d with
   |nil=>simp[aw]at h
   | cons u d =>
    simp only[aw,ad]at h|-;exact⟨h.1,MF k h.2⟩
  ·cases k
theorem Xd{E E':af}{v:AV}{u:al}(d:Cn v=true)(h:ad E v u):ad E' v u:=by
 unfold Cn at d;split at d
 ·simpa only[ad]using h
 ·simp only [ad] at h |-
  obtain⟨cs,e,g⟩:=h;exact⟨cs,e,MF d g⟩
 ·cases d
def af.bare(E:af)(w:World):af:={ w:=w,H:=[],ae:=[],X:=E.X.re fe }
theorem Cq{E:af}{w:World}(b:Nat):¬ (E.bare w).ab b:=by rintro(⟨id,c,h⟩|⟨l,k,c,h⟩); simp[af.bare]at h; simp[af.bare,fe]at h
theorem rq(E:af):E.bT (E.bare E.w):=⟨fun b hb=>⟨⟨hb.1,Cq b,hb.2.2⟩,rfl⟩⟩
theorem Xe{E:af}(HE:aI E):aI (E.bare E.w):=by
 refine⟨rfl,?_,?_,HE.X,?_,HE.gL.bT (rq E),fun l k l' g b m n d=>by simp[af.bare,fe]at d,fun i b m l k n hi=>by simp[af.bare]at hi,fun l k b m d=>by simp[af.bare,fe]at d,fun i j o o' l hi=>by simp[af.bare]at hi,fun l _ k q d=>by simp[af.bare,fe]at d⟩
 ·intro i j b m n hi; simp[af.bare]at hi
 ·intro i b m hi; simp[af.bare]at hi
 ·intro i o hi; simp[af.bare]at hi
theorem MG{E:af}(HE:aI E){H:List au}(hH:E.H=az H){id ak n w:Nat}{ks:List Kd}{rZ:LL}{c:al}
  (I:H[id]? = some (.vQ ks ak rZ)) (M:ks.length=w) (N:n=rZ.length) (d:ad E (.vQ w id ak 0 n) c):ad (E.bare E.w) (.listF ks rZ) c:=by
 subst M N;have h:E.H[id]? = some (.vQ ks.length ak (rZ.map (aT ks))):=by rw[hH]; exact bt I
 have ho:=HE.obj id _ h;rw[kf];simp only[ad]at d|-;obtain⟨⟨aN,cap,rfl,y,_⟩,_,O⟩:=d;obtain⟨q1,U⟩:=O ⟨_,h,rfl⟩;have k:fq (rZ.map (aT ks)):=by
  intro r d;obtain⟨g,_,rfl⟩:=dw.1 d;exact gJ ks g
 refine⟨k,aN,cap,by simp,by simpa using y,?_⟩;simp only[aY]at ho;rcases ho with⟨h1,q⟩|⟨b,m,h1,q,V,_,W⟩
 ·exact .inl q
 ·obtain ⟨g1, o, g2, v⟩ := U b m h1
  by_cases hm:rZ=[]
  ·subst hm; exact .inl rfl
  ·right
   have:0<rZ.length:=by cases rZ with|nil=>exact(hm rfl).elim|cons _ _=>simp
   simp at V;have ho:=g2 (by omega);simp at ho;subst ho;simp only[l6]at v;refine⟨b,0,v.1,⟨(HE.lt id b m h1).1,Cq b,(HE.lt id b m h1).2⟩,?_⟩;exact kN (rq E) _ k rfl W
theorem Xf{E:af}(HE:aI E){H:List au}(hH:E.H=az H){id k:Nat}{cells:List AV}{c:al} (v:H[id]? = some (.raw (.box cells))) (h:AV.bK cells=true)
  (q:ad E (.ptr id 0 k 0 0) c):ad (E.bare E.w) (.cptr cells) c:=by
 have g:E.H[id]? = some (.box cells):=by rw[hH]; exact bt v
 have ho:=HE.obj id _ g;simp only[aY]at ho;obtain⟨b,n,h1,N,y⟩:=ho;simp only[ad]at q|-;obtain⟨_,_,I⟩:=q;obtain⟨O,U,d,M⟩:=I ⟨_,g,rfl⟩;rw[h1]at d;simp only[be,bo]at d;obtain⟨rfl,rfl⟩:=d;refine⟨h,b,0,by rw[M]; simp,⟨(HE.lt id b n h1).1,Cq b,(HE.lt id b n h1).2⟩,?_⟩;exact uQ (rq E) cells h rfl y
theorem MH{E:af}(HE:aI E){H:List au}(hH:E.H=az H){a q:AV}{b:Bool}{c:al}(h:yZ H a=(b,q))(hb:b=true)(d:q.closed=true)(y:ad E a c):ad (E.bare E.w) q c:=by
 unfold yZ at h;split at h
 ·split at h
  ·rename_i w id ak oF n ks v rZ g
   split at h
   ·rename_i I
    obtain⟨rfl,M,rfl⟩:=I;simp only[bo]at h;obtain⟨h1,rfl⟩:=h;subst hb;exact MG HE hH g M (bx h1) y
   ·cases h; simp[AV.closed]at d
  ·cases h; simp[AV.closed]at d
 ·split at h
  ·rename_i id ak k row O _ cells g
   split at h
   ·rename_i I
    obtain⟨rfl,rfl,rfl,N⟩:=I;cases h;exact Xf HE hH g N y
   ·cases h; simp[AV.closed]at d
  ·cases h; simp[AV.closed]at d
 ·cases h
  exact fB (rq E) _ d y
theorem MI{E:af}(HE:aI E){H:List au}(hH:E.H=az H):∀{as g:List AV} {b:Bool} {cs:List al},tA H as=(b,g)->b=true->AV.bK g=true->aw E as cs ->
  aw (E.bare E.w) g cs
 | [],g,b,cs,h,_,_,d=>by
  simp only[tA]at h;cases h;cases cs with
  |nil=>simp[aw]
  |cons _ _=>simp[aw]at d
 | a::as,g,b,cs,h,hb,k,d=>by
  cases cs with
  |nil=>simp[aw]at d
  | cons c cs =>
   simp only[aw]at d;cases q:yZ H a with
   |mk I M =>
   cases v:tA H as with
   |mk N y =>
   simp only[tA,q,v,bo]at h;obtain⟨h1,rfl⟩:=h;subst h1;simp only[aL]at hb;simp only[AV.bK,aL]at k;simp only[aw];exact⟨MH HE hH q hb.1 k.1 d.1,MI HE hH v hb.2 k.2 d.2⟩
theorem Xg{E:af}(HE:aI E){H:List au}(hH:E.H=az H){a d:AV}{b:Bool}{c:al}(h:Cl H a=(b,d))(hb:b=true)(k:d.closed=true)(g:ad E a c):ad (E.bare E.w) d c:=by
 unfold Cl at h;split at h
 ·rename_i f caps
  cases q:tA H caps with
  |mk I y =>
  rw[q]at h;cases h;simp only[ad]at g|-;obtain⟨cs,e,v⟩:=g;exact⟨cs,e,MI HE hH q hb (by simpa only[AV.closed]using k) v⟩
 ·exact MH HE hH h hb k g
theorem MJ{E:af}(HE:aI E){H:List au}(hH:E.H=az H):∀{as g:List AV} {b:Bool} {cs:List al},rj H as=(b,g)->b=true->AV.bK g=true->aw E as cs ->
  aw (E.bare E.w) g cs
 | [],g,b,cs,h,_,_,d=>by
  simp only[rj]at h;cases h;cases cs with
  |nil=>simp[aw]
  |cons _ _=>simp[aw]at d
 | a::as,g,b,cs,h,hb,k,d=>by
  cases cs with
  |nil=>simp[aw]at d
  | cons c cs =>
   simp only[aw]at d;cases q:Cl H a with
   |mk I M =>
   cases v:rj H as with
   |mk N y =>
   simp only[rj,q,v,bo]at h;obtain⟨h1,rfl⟩:=h;subst h1;simp only[aL]at hb;simp only[AV.bK,aL]at k;simp only[aw];exact⟨Xg HE hH q hb.1 k.1 d.1,MJ HE hH v hb.2 k.2 d.2⟩
theorem Xh{P:aj}{f:bO}{args d:List AV}{H:List au}{b:Bool}{v:AV}(I:dM P f d v)(M:rj H args=(b,d))(hb:b=true)(y:AV.bK d=true)
  (N:Cn v=true):fN P f args (az H) v (az H):=by
 intro E k hH HE q;refine(I [] (E.bare E.w) k rfl (Xe HE) (MJ HE hH M hb y q)).mono ?_;rintro _ w' ⟨c,O,H',rfl,⟨rfl,rfl⟩,W,r',U,g2,g⟩;have h:Ext E.w w':=⟨g.size,fun x V=>g.same x V (Cq x),g.env⟩
 refine⟨c,O,az H,rfl,⟨rfl,rfl⟩,E.ae,E.X.r,Xd N U,?_,?_⟩
 ·rw[<-hH]; exact HE.ext h
 ·rw[<-hH]; exact af.lr h
section sound
variable {P:aj} {τ:aH}
theorem ze{ah:Array aR}{o:aR}{s:aF}{v:AV}(d:cH ah s.fr o=some true)(g:dz τ.pf o.op=.pure)
  (h:jO P s.eval o.op=some v\/∃ f args,jC s.eval o.op=some (f,args)/\iD P f=true/\dM P f args v):Yields P τ.pf ah o s.ao v (az s.H):=by
 unfold Yields;rw[show s.ao.fr=s.fr from rfl,d];simp only[g,aF.oZ];exact⟨rfl,h⟩
theorem tF{ah:Array aR}{o:aR}{s:aF}{v:AV}{H':List ai}(d:cH ah s.fr o=some true)(g:dz τ.pf o.op=.write)
  (h:dy P s.eval (az s.H) o.op=some (v,H')\/∃ f args,jC s.eval o.op=some (f,args)/\iD P f=true/\fN P f args (az s.H) v H'):Yields P τ.pf ah o s.ao v H':=by
 unfold Yields;rw[show s.ao.fr=s.fr from rfl,d];simp only[g,aF.oZ];exact .inl h
theorem fO{H:List au}{id A:Nat}{o:au}(h:A≠id):(H.set id o)[A]? = H[A]? := bf (Ne.symm h)
theorem lF{H:List au}{A:Nat}{o:au}(h:A<H.length):(H++[o])[A]? = H[A]? := di h
theorem MK{P:aj}{t:aD}{x v:AV}{H H':List au}{b:Bool}{A:Nat}(h:vt P t x v H=some (b,H'))(g:eD x≠some A):H'[A]? = H[A]? := by
 unfold vt at h;split at h
 case h_2=>cases h
 rename_i n q cs id ak w row k y bX;have d:A≠id:=fun e=>g (by rw[e]; rfl);split at h
 case isFalse=>cases h
 split at h
 ·split at h
  ·split at h
   ·cases h; exact fO d
   ·cases h
  ·split at h
   ·cases h; exact fO d
   ·cases h
 ·split at h
  ·split at h
   ·cases h; exact fO d
   ·cases h
  ·cases h
 ·cases h
theorem Xi{P:aj}{t xt:aD}{s x v:AV}{H H':List au}{b:Bool}{A:Nat}(h:vu P t xt s x H=some (b,v,H'))(d:A<H.length)(g:eD s≠some A):H'[A]? = H[A]? := by
 unfold vu at h;split at h
 case h_2=>cases h
 split at h
 case h_2=>cases h
 split at h
 case isFalse=>cases h
 split at h
 ·split at h
  ·split at h
   ·cases h; exact lF d
   ·cases h
  ·cases h
 ·split at h
  ·split at h
   ·cases h; exact lF d
   ·cases h
  ·cases h
 ·split at h
  ·split at h
   ·split at h
    ·cases h; exact fO fun e=>g (by rw[e]; rfl)
    ·cases h
   ·cases h
  ·cases h
 ·cases h
theorem Xj{P:aj}{t xt:aD}{s x v:AV}{H H':List au}{b:Bool}{A:Nat}(h:vI P t xt s x H=some (b,v,H'))(d:A<H.length):H'[A]? = H[A]? := by
 unfold vI at h;split at h
 case h_2=>cases h
 split at h
 case h_2=>cases h
 split at h
 case h_2=>cases h
 split at h
 case h_2=>cases h
 split at h
 ·cases h; exact lF d
 ·cases h
theorem Xk{P:aj}{t:aD}{x:AV}{H H':List au}{b:Bool}{A:Nat}(h:yU P t x H=some (b,H'))(d:eD x≠some A):H'[A]? = H[A]? := by
 unfold yU at h;split at h
 case h_2=>cases h
 split at h
 case h_2=>cases h
 split at h
 case h_2=>cases h
 split at h
 ·cases h; exact fO fun e=>d (by rw[e]; rfl)
 ·cases h
theorem ML{P:aj}{t:aD}{m k v:AV}{H H':List au}{b:Bool}{A:Nat}(h:vE P t m k v H=some (b,H'))(d:eD m≠some A):H'[A]? = H[A]? := by
 unfold vE at h;split at h
 case h_2=>cases h
 split at h
 case h_2=>cases h
 split at h
 case h_2=>cases h
 split at h
 ·cases h; exact fO fun e=>d (by rw[e]; rfl)
 ·cases h
theorem Xl{P:aj}{t:aD}{m k v:AV}{H H':List au}{b:Bool}{A:Nat}(h:yO P t m k v H=some (b,H'))(d:eD m≠some A)(g:eD v≠some A):H'[A]? = H[A]? := by
 unfold yO at h;split at h
 case h_2=>cases h
 split at h
 case h_2=>cases h
 split at h
 case h_2=>cases h
 split at h
 ·cases h
  rw[fO fun e=>g (by rw[e]; rfl)];exact fO fun e=>d (by rw[e]; rfl)
 ·cases h
theorem Xm{P:aj}{t:aD}{m k v:AV}{H H':List au}{b:Bool}{A:Nat}(h:yV P t m k v H=some (b,H'))(d:eD m≠some A):H'[A]? = H[A]? := by
 unfold yV at h;split at h
 case h_2=>cases h
 split at h
 case h_2=>cases h
 split at h
 case h_2=>cases h
 split at h
 ·cases h
  exact fO fun e=>d (by rw[e]; rfl)
 ·cases h
theorem Xn{P:aj}{t:aD}{m k v:AV}{H H':List au}{b:Bool}{A:Nat}(h:yW P t m k H=some (b,v,H'))(d:eD m≠some A):H'[A]? = H[A]? := by
 unfold yW at h;split at h
 case h_2=>cases h
 split at h
 case h_2=>cases h
 split at h
 case h_2=>cases h
 split at h
 ·cases h
  exact fO fun e=>d (by rw[e]; rfl)
 ·cases h
theorem Xo{m s v:AV}{H H':List au}{b:Bool}{A:Nat}(h:yX m s v H=some (b,H'))(d:eD m≠some A)(g:eD v≠some A):H'[A]? = H[A]? := by
 unfold yX at h;split at h
 case h_2=>cases h
 split at h
 case h_2=>cases h
 split at h
 ·cases h
  rw[fO fun e=>g (by rw[e]; rfl)];exact fO fun e=>d (by rw[e]; rfl)
 ·cases h
theorem Xp{P:aj}{t:aD}{m k v:AV}{H H':List au}{b:Bool}{A:Nat}(h:yN P t m k H=some (b,v,H'))(d:A<H.length)(g:eD m≠some A):H'[A]? = H[A]? := by
 unfold yN at h;split at h
 case h_2=>cases h
 split at h
 case h_2=>cases h
 split at h
 case h_2=>cases h
 split at h
 ·cases h
  rw[lF (by simpa using d)];exact fO fun e=>g (by rw[e]; rfl)
 ·cases h
theorem Xq{P:aj}{t:aD}{x v:AV}{H H':List au}{b:Bool}{A:Nat}(h:yJ P t x v H=some (b,H'))(d:eD x≠some A):H'[A]? = H[A]? := by
 unfold yJ at h;split at h
 case h_2=>cases h
 split at h
 case h_2=>cases h
 split at h
 case isFalse=>cases h
 split at h
 ·cases h
  exact fO fun e=>d (by rw[e]; rfl)
 ·cases h
theorem Xr{P:aj}{t:aD}{x v:AV}{H H':List au}{b:Bool}{A:Nat}(h:yK P t x v H=some (b,H'))(d:eD x≠some A)(g:eD v≠some A):H'[A]? = H[A]? := by
 unfold yK at h;split at h
 case h_2=>cases h
 split at h
 case h_2=>cases h
 split at h
 case isFalse=>cases h
 split at h
 ·cases h
  rw[fO fun e=>g (by rw[e]; rfl)];exact fO fun e=>d (by rw[e]; rfl)
 ·cases h
theorem Xs{P:aj}{t:aD}{m k v:AV}{H H':List au}{b:Bool}{A:Nat}(h:yR P t m k H=some (b,v,H'))(d:A<H.length)(g:eD m≠some A):H'[A]? = H[A]? := by
 unfold yR at h;split at h
 case h_2=>cases h
 split at h
 case h_2=>cases h
 split at h
 case h_2=>cases h
 split at h
 ·cases h
  rw[di (by simpa using d)];exact fO fun e=>g (by rw[e]; rfl)
 ·cases h
theorem Xt{P:aj}{t:aD}{m k v:AV}{H H':List au}{b:Bool}{A:Nat}(h:yS P t m k v H=some (b,H'))(g:eD m≠some A)(d:A∉mr v):H'[A]? = H[A]? := by
 unfold yS at h;split at h
 case h_2=>cases h
 split at h
 case h_2=>cases h
 split at h
 case h_2=>cases h
 split at h
 ·cases h
  rw[fO fun e=>d (by rw[<-e]; simp[mr,eD])];rw[fO fun e=>d (by rw[<-e]; simp[mr,eD])];exact fO fun e=>g (by rw[e]; rfl)
 ·cases h
theorem Xu{m s v:AV}{H H':List au}{b:Bool}{A:Nat}(h:yQ m s v H=some (b,H'))(d:eD m≠some A)(g:eD v≠some A):H'[A]? = H[A]? := by
 unfold yQ at h;split at h
 case h_2=>cases h
 split at h
 case h_2=>cases h
 split at h
 ·cases h
  rw[fO fun e=>g (by rw[e]; rfl)];exact fO fun e=>d (by rw[e]; rfl)
 ·cases h
theorem Xv{P:aj}{t:aD}{m k v:AV}{H H':List au}{b:Bool}{A:Nat}(h:yP P t m k H=some (b,v,H'))(d:A<H.length)(g:eD m≠some A):H'[A]? = H[A]? := by
 unfold yP at h;split at h
 case h_2=>cases h
 split at h
 case h_2=>cases h
 split at h
 case h_2=>cases h
 split at h
 ·cases h
  rw[lF (by simpa using d)];exact fO fun e=>g (by rw[e]; rfl)
 ·cases h
theorem Xw{P:aj}{t:aD}{m k:AV}{H H':List au}{b:Bool}{A:Nat}(h:yT P t m k H=some (b,H'))(d:eD m≠some A):H'[A]? = H[A]? := by
 unfold yT at h;split at h
 case h_2=>cases h
 split at h
 case h_2=>cases h
 split at h
 ·cases h; exact fO fun e=>d (by rw[e]; rfl)
 ·cases h
theorem Xx{P:aj}{t:aD}{l c v:AV}{H H':List au}{b:Bool}{A:Nat}(h:yL P t l c H=some (b,v,H'))(d:A<H.length):H'[A]? = H[A]? := by
 unfold yL at h;split at h
 case h_2=>cases h
 split at h
 case h_2=>cases h
 split at h
 case h_2=>cases h
 split at h
 case h_2=>cases h
 split at h
 ·cases h; exact lF d
 ·cases h
theorem Xy{P:aj}{t:aD}{n:Nat}{parts:List (Nat × AV)}{v:AV}{H H':List au}{b:Bool}{A:Nat}(h:vz P t n parts H=some (b,v,H'))(d:A<H.length):H'[A]? = H[A]? := by
 unfold vz at h;split at h
 case h_2=>cases h
 split at h
 case h_2=>cases h
 split at h
 case h_2=>cases h
 split at h
 case h_2=>cases h
 split at h
 case h_2=>cases h
 split at h
 ·cases h; exact lF d
 ·cases h
theorem Hn{P:aj}{r:ct->AV}{H H':List au}{o:Op}{v:AV}{b:Bool}{A:Nat}(h:kV P r H o=some (b,v,H'))(g:A<H.length)(hA:A∉o.operands.toList.flatMap fun x=>mr (r x)):H'[A]? = H[A]? := by
 have no:∀ x∈o.operands.toList,eD (r x)≠some A:=fun x I e=>hA (Fl.2 ⟨x,I,Hc e⟩);cases o<;>simp only[kV]at h<;>try cases h
 case alloc t =>
  split at h
  ·split at h
   ·cases h; exact lF g
   ·cases h
  ·split at h
   ·cases h; exact lF g
   ·cases h
 case box t x =>
  split at h
  ·cases h; exact lF g
  ·cases h
 case store t a x =>
  split at h
  ·rename_i q H1 d
   cases h;exact MK d (no a (by simp[fc]))
  ·split at h
   ·rename_i q H1 d
    cases h;exact Xq d (no a (by simp[fc]))
   ·split at h
    ·rename_i q H1 d
     cases h;exact Xr d (no a (by simp[fc])) (no x (by simp[fc]))
    ·cases h
 case makeSlice t l c=>exact Xx h g
 case buildSlice t n ps=>exact Xy h g
 case range t x =>
  split at h
  ·cases h; exact lF g
  ·cases h
 case next it isString =>
  cases isString with
  |false=>cases h
  | true =>
   simp only[]at h;split at h
   ·rename_i id k I
    split at h
    ·split at h
     ·cases h; exact fO fun e=>no it (by simp[fc]) (by rw[I,e]; rfl)
     ·cases h; rfl
    ·cases h
   ·cases h
 case makeMap t res =>
  cases res with
  |some _=>cases h
  | none =>
   simp only[]at h;split at h
   ·split at h
    ·cases h; exact lF g
    ·split at h
     ·cases h; exact lF g
     ·split at h
      ·split at h
       ·cases h; exact lF g
       ·cases h
      ·cases h
    ·cases h
   ·cases h
 case mapUpdate t m k x =>
  split at h
  ·rename_i q H1 d
   cases h;exact ML d (no m (by simp[fc]))
  ·split at h
   ·rename_i q H1 d
    cases h;exact Xl d (no m (by simp[fc])) (no x (by simp[fc]))
   ·split at h
    ·rename_i q H1 d
     cases h;exact Xm d (no m (by simp[fc]))
    ·split at h
     ·rename_i q H1 d
      cases h;exact Xt d (no m (by simp[fc])) fun e=>hA (Fl.2 ⟨x,by simp[fc],e⟩)
     ·cases h
 case lookup t m k ok =>
  cases ok with
  |true=>cases h
  | false =>
   simp only[]at h;split at h
   ·rename_i y N
    cases h;exact Xp N g (no m (by simp[fc]))
   ·exact Xs h g (no m (by simp[fc]))
 case mapEntry t m k =>
  split at h
  ·rename_i y N
   cases h;exact Xv N g (no m (by simp[fc]))
  ·exact Xn h (no m (by simp[fc]))
 case entryStore t m s x =>
  split at h
  ·rename_i q H1 d
   cases h;exact Xu d (no m (by simp[fc])) (no x (by simp[fc]))
  ·split at h
   ·rename_i q H1 d
    cases h;exact Xo d (no m (by simp[fc])) (no x (by simp[fc]))
   ·cases h
 case insert t m k x =>
  split at h
  ·rename_i q H1 d
   cases h;exact ML d (no m (by simp[fc]))
  ·cases h
 case call c =>
  have na:∀ x∈c.args.toList,eD (r x)≠some A:=fun x I=>no x (by
   simp only[fc,uE];simp at I|-;exact .inr I)
  split at h
  ·split at h
   ·rename_i s x t xt M U
    have V:=na s (by rw[M]; simp);split at h
    ·exact Xj h g
    ·exact Xi h g V
   ·cases h
  ·split at h
   ·rename_i x t M U
    have O:=na x (by rw[M]; simp);split at h
    ·rename_i d; cases h; exact Xk d O
    ·cases h
   ·cases h
  ·split at h
   ·rename_i x k t _ M U
    have O:=na x (by rw[M]; simp);split at h
    ·rename_i d; cases h; exact Xw d O
    ·cases h
   ·cases h
  ·cases h
theorem Xz{P:aj}{r:ct->AV}{H H':List au}{o:Op}{b:Bool}{A:Nat}(h:vO P r H o=some (b,H'))(hA:A∉o.operands.toList.flatMap fun x=>mr (r x)):H'[A]? = H[A]? := by
 have no:∀ x∈o.operands.toList,eD (r x)≠some A:=fun x k e=>hA (Fl.2 ⟨x,k,Hc e⟩);unfold vO at h;split at h
 case h_2=>cases h
 rename_i t a x;split at h
 case h_2=>cases h
 rename_i v y H1 d;split at h
 case h_2=>cases h
 rename_i I M q;simp only[be,bo]at h;obtain⟨_,rfl⟩:=h;rw[MK q (no a (by simp[fc]))];unfold G' at d;split at d
 case h_3=>cases d
 ·rename_i w id ak oF n g
  split at d
  case h_2=>cases d
  split at d
  case isFalse=>cases d
  simp only[be,bo]at d;obtain⟨_,_,rfl⟩:=d;refine fO fun e=>no x (by simp[fc]) ?_;rw[g,e];rfl
 ·rename_i w id ak oF n cs g
  split at d
  case h_2=>cases d
  split at d
  case isFalse=>cases d
  simp only[be,bo]at d;obtain⟨_,_,rfl⟩:=d;refine fO fun e=>hA (Fl.2 ⟨x,by simp[fc],?_⟩);rw[g,e];simp[mr,eD]
theorem Cr(U:aJ P τ){ah:Array aR}{o:aR}{s:aF}{k:AV->List au->bg}{Q:cD->aF->Prop}(q:cH ah s.fr o=some true)
  (h:(nc P τ o s k).holds Q):∃ v H',Yields P τ.pf ah o s.ao v (az H')/\(dz τ.pf o.op=.write->∀ A,A∉kX τ s.eval s.H o.op->A<s.H.length->H'[A]? = s.H[A]?)/\(k v H').holds Q:=by
 unfold nc at h;split at h
 ·rename_i c a b ho
  split at h
  ·rename_i t hb
   have hb:=ME hb;refine⟨bif t then s.eval a else s.eval b,s.H,ze q (by rw[ho]; rfl) (.inl (by rw[ho]; simp only[jO,hb])),fun _ _ _ _=>rfl,?_⟩;simp only[bg.holds]at h;cases t with
   |true=>exact h.1 rfl
   |false=>exact h.2 rfl
  ·exact h.elim
 ·rename_i t a ho
  split at h
  ·rename_i b v V
   simp only[bg.holds]at h;refine⟨v,s.H,?_,fun _ _ _ _=>rfl,h.2⟩;unfold Yields;rw[show s.ao.fr=s.fr from rfl,q];simp only[ho,dz,aF.oZ];exact⟨rfl,by simp only[gz]; exact Ww V h.1⟩
  ·exact h.elim
 ·rename_i t m x ok ho
  have htouch:kX τ s.eval s.H o.op=o.op.operands.toList.flatMap fun x=>mr (s.eval x):=by
   have hnc:jC s.eval o.op=none:=by rw[ho]; rfl
   simp only[kX,hnc]
  split at h
  ·rename_i b v V
   split at h
   ·rename_i g
    simp only[bg.holds]at h;refine⟨v,s.H,?_,fun _ _ _ _=>rfl,h.2⟩;unfold Yields;rw[show s.ao.fr=s.fr from rfl,q];simp only[g,aF.oZ];rw[ho];exact⟨rfl,by
     have e:=Ml V;rw[show az s.H=s.ao.H from rfl]at e;simp only[gz,e]⟩
   ·rename_i g
    simp only[bg.holds]at h;refine⟨v,s.H,tF q g (.inl ?_),fun _ _ _ _=>rfl,h.2⟩;rw[ho];simp only[dy,Ml V]
   ·exact h.elim
  ·split at h
   ·rename_i g
    split at h
    ·rename_i b v H' d
     simp only[bg.holds]at h;exact⟨v,H',tF q g (.inl (G2 d h.1)),fun _ A hA O=>Hn d O (by rw[htouch]at hA; exact hA),h.2⟩
    ·exact h.elim
   ·rename_i g
    split at h
    ·rename_i b v V
     simp only[bg.holds]at h;obtain⟨q1,q2⟩:=WS V h.1;refine⟨v,s.H,?_,fun _ _ _ _=>rfl,h.2⟩;unfold Yields;rw[show s.ao.fr=s.fr from rfl,q];simp only[g,aF.oZ];rw[ho];exact⟨rfl,by simp only[gz]; rw[show hZ P t (s.eval m) (s.eval x) ok s.ao.H=none from q1]; exact q2⟩
    ·exact h.elim
   ·exact h.elim
 ·rename_i t x i ho
  have g:dz τ.pf o.op=.pure:=by rw[ho]; rfl
  split at h
  ·rename_i n p0 p1 y
   simp only[bg.holds]at h;refine⟨bif ar n.toNat 0 then p0 else p1,s.H,ze q g (.inl (by rw[ho]; simp only[jO,W8 y h.1])),fun _ _ _ _=>rfl,?_⟩;cases hb:ar n.toNat 0 with
   |true=>exact h.2.1 hb
   |false=>exact h.2.2 hb
  ·split at h
   ·rename_i b v d
    simp only[bg.holds]at h;exact⟨v,s.H,ze q g (.inl (Mv d h.1)),fun _ _ _ _=>rfl,h.2⟩
   ·exact h.elim
 ·split at h
  ·rename_i g
   split at h
   ·rename_i v d
    refine⟨v,s.H,?_,fun _ _ _ _=>rfl,h⟩;unfold Yields;rw[show s.ao.fr=s.fr from rfl,q];simp only[g,aF.oZ];exact⟨rfl,W6 d⟩
   ·exact h.elim
  ·rename_i g
   split at h
   ·rename_i f args y
    split at h
    ·rename_i b v d
     simp only[bg.holds]at h;obtain⟨M,N⟩:=U.T f args b v d h.1;exact⟨v,s.H,ze q g (.inr ⟨f,args,y,M,N⟩),fun _ _ _ _=>rfl,h.2⟩
    ·exact h.elim
   ·split at h
    ·rename_i b v d
     simp only[bg.holds]at h;exact⟨v,s.H,ze q g (.inl (Mv d h.1)),fun _ _ _ _=>rfl,h.2⟩
    ·exact h.elim
  ·rename_i g
   split at h
   ·rename_i f args y
    split at h
    ·rename_i b v H' d
     simp only[bg.holds]at h;obtain⟨M,N⟩:=U.W f args s.H b v H' d h.1;exact⟨v,H',tF q g (.inr ⟨f,args,y,M,N⟩),fun _ A hA O=>by
      simp only[kX,y]at hA;rcases Mx d hA with h1|h1
      ·exact U.C f args s.H b v H' d A h1 O
      ·exact h1,h.2⟩
    ·rename_i hW0
     split at h
     ·rename_i t hi
      obtain⟨M,v,H',N,g3,g4⟩:=U.I f args s.H t hi _ (bg.Cj h);exact⟨v,H',tF q g (.inr ⟨f,args,y,M,N⟩),fun _ A hA O=>g3 A (by simp only[kX,y]at hA; exact W_ hW0 hA) O,g4⟩
     ·split at h
      ·rename_i b v d
       simp only[bg.holds]at h;obtain⟨M,N⟩:=U.T f args b v d h.1;exact⟨v,s.H,tF q g (.inr ⟨f,args,y,M,N _⟩),fun _ _ _ _=>rfl,h.2⟩
      ·cases hx : rj s.H args with
       |mk vb args' =>
       rw[hx]at h;simp only[]at h;split at h
       ·rename_i b v d
        split at h
        ·rename_i hfl
         simp only[aL]at hfl;simp only[bg.holds,aL]at h;obtain⟨M,N⟩:=U.T f args' b v d h.1.2;exact⟨v,s.H,tF q g (.inr ⟨f,args,y,M,Xh N hx h.1.1 hfl.2 hfl.1⟩),fun _ _ _ _=>rfl,h.2⟩
        ·exact h.elim
       ·exact h.elim
   ·rename_i hnc
    split at h
    ·rename_i b v H' d
     simp only[bg.holds]at h;exact⟨v,H',tF q g (.inl (G2 d h.1)),fun _ A hA O=>Hn d O (by simpa only[kX,hnc]using hA),h.2⟩
    ·split at h
     ·rename_i b H' d
      simp only[bg.holds]at h;refine⟨.undef,H',?_,fun _ A hA O=>Xz d (by simpa only[kX,hnc]using hA),h.2⟩;unfold Yields;rw[show s.ao.fr=s.fr from rfl,q];simp only[g,aF.oZ];exact .inr (.inr (W7 d h.1))
     ·exact h.elim
theorem MM{ah:Array aR}{s:aF}{o:aR}{t:Tmp}{b d:Bool}(h:rh ah s.fr o=.test t b d) :
  s.fr[t]? = some (.lit (.bool b))/\cH ah s.fr o=some (b==d):=by
 unfold rh at h;unfold cH;cases g:o.guard with
 |none=>rw[g]at h; cases h
 | some k =>
  obtain⟨j,w⟩:=k;rw[g]at h;simp only[]at h|-;split at h
  ·rename_i t' q
   split at h
   ·rename_i v hb
    cases h;exact⟨hb,by rw[q]; simp only[hb]⟩
   ·cases h
   ·cases h
  ·cases h
theorem Ho{ah:Array aR}{s:aF}{o:aR}(h:rh ah s.fr o=.no):cH ah s.fr o=some false:=by
 unfold rh at h;unfold cH;cases d:o.guard with
 |none=>rw[d]at h; cases h
 | some g =>
  obtain⟨j,w⟩:=g;rw[d]at h;simp only[]at h|-;split at h
  ·rename_i t' k
   split at h
   ·cases h
   ·rename_i hb
    rw[k];simp only[hb]
   ·cases h
  ·cases h
theorem MN{ah:Array aR}{s:aF}{o:aR}(h:rh ah s.fr o=.yes):cH ah s.fr o=some true:=by
 unfold rh at h;unfold cH;cases d:o.guard with
 |none=>rfl
 | some g =>
  obtain⟨j,w⟩:=g;rw[d]at h;simp only[]at h;split at h
  ·split at h<;>cases h
  ·cases h
theorem Cs{s:aF}{t:Tmp}{b:Bool} (h:s.fr[t]? = some (.lit (.bool b))):s.ay t b=s:=by
 unfold aF.ay;rw[oV h]
theorem XA(M:aJ P τ){ah:Array aR}{o:aR}{s:aF}{k:aF->bg}{Q:cD->aF->Prop}(h:(Hb P τ ah o s k).holds Q) :
  ∃ v H',Yields P τ.pf ah o s.ao v (az H')/\(k (s.put o.dst v H')).holds Q:=by
 have skip:cH ah s.fr o=some false->Yields P τ.pf ah o s.ao (.tuple []) (az s.H):=by
  intro d;unfold Yields;rw[show s.ao.fr=s.fr from rfl,d];exact⟨rfl,rfl⟩
 unfold Hb at h;split at h
 ·exact h.elim
 ·rename_i d
  exact⟨_,_,skip (Ho d),h⟩
 ·rename_i d
  obtain⟨v,H',q,_,y⟩:=Cr M (MN d) h;exact⟨v,H',q,y⟩
 ·rename_i t b N d
  obtain⟨h1,I⟩:=MM d;simp only[bg.holds]at h;cases b with
  | true =>
   have g:=h.1 rfl;rw[Cs h1]at g;cases N with
   | true =>
    obtain⟨v,H',q,_,y⟩:=Cr M I g;exact⟨v,H',q,y⟩
   |false=>exact⟨_,_,skip I,g⟩
  | false =>
   have g:=h.2 rfl;rw[Cs h1]at g;cases N with
   |true=>exact⟨_,_,skip I,g⟩
   | false =>
    obtain⟨v,H',q,_,y⟩:=Cr M I g;exact⟨v,H',q,y⟩
theorem Cu(d:aJ P τ){ah:Array aR}{Q:cD->aF->Prop}:∀{l:List aR} {s:aF} {k:aF->bg},(rk P τ ah l s k).holds Q->∃ s',kR P τ.pf ah l s.ao s'.ao/\(k s').holds Q
 | [],s,k,h=>⟨s,rfl,h⟩
 | o::l,s,k,h=>by
  obtain⟨v,H',h1,g⟩:=XA d h;obtain⟨s',q,y⟩:=Cu d g;exact⟨s',⟨v,az H',h1,q⟩,y⟩
def Acc.le(a b:Acc):Prop:=(∀ x∈a.R,x∈b.R)/\∀ x∈a.W,x∈b.W
def Acc.ok(ah:Array aR)(j:Nat)(a:Acc):Prop:=(∀ x∈a.R,x.1<j)/\(∀ x∈a.W,x.1<j)/\tq ah a.R a.W
theorem Hp{aA:List Nat}{i:Nat}(h:y_ aA i=true):i∉aA:=by
 intro hm;have:aA.any (ar i)=true:=List.any_eq_true.2 ⟨i,hm,by simp⟩;simp[y_,this]at h
theorem XB{ah:Array aR}{j id:Nat}{a b:Acc}(ha:a.ok ah j)(h:Hd ah j id a=some b):b.ok ah (j+1)/\a.le b/\(j,id)∈b.R:=by
 unfold Hd at h;split at h
 ·rename_i g
  cases h;simp only[dK,uF,aL,iL]at g;obtain⟨h1,k,q⟩:=ha;refine⟨⟨fun x d=>?_,fun x d=>Bo (k x d),fun i v hi e he=>?_,q.2⟩,⟨fun x d=>dj _ d,fun x d=>d⟩,cW⟩
  ·rcases cq.1 d with rfl | d
   ·exact T8 _
   ·exact Bo (h1 x d)
  ·rcases cq.1 hi with I | hi
   ·cases I
    have N:=k e he;refine⟨fun y=>absurd y (by omega),fun _ M=>?_⟩;rcases g e he with h|h
    ·rw[M]at h; cases h
    ·exact⟨Hp h.1,h.2⟩
   ·exact q.1 i v hi e he
 ·cases h
theorem MO{ah:Array aR}{j n:Nat}{T:List Nat}{a b:Acc}(ha:a.ok ah j)(h:Co ah j T n a=some b):b.ok ah (j+1)/\a.le b/\(j,T,n)∈b.W:=by
 unfold Co at h;split at h
 ·rename_i hall
  split at h
  case h_2=>cases h
  rename_i N;cases h;simp only[dK,uF,aL,iL]at hall N;obtain⟨h1,U,V⟩:=ha;refine⟨⟨fun x k=>Bo (h1 x k),fun x k=>?_,fun i O hi e he=>?_,fun e he I d g q id y=>?_,fun e he I d g q id y=>?_⟩,⟨fun x k=>k,fun x k=>dj _ k⟩,cW⟩
  ·rcases cq.1 k with rfl | k
   ·exact T8 _
   ·exact Bo (U x k)
  ·rcases cq.1 he with M | he
   ·subst M
    have g:=h1 (i,O) hi;refine⟨fun _ hw=>?_,fun hji=>absurd hji (by simp only at hji g; omega)⟩;rcases hall (i,O) hi with h|h
    ·simp only at hw h; rw[hw]at h; cases h
    ·exact⟨Hp h.1,h.2⟩
   ·exact V.1 i O hi e he
  ·rcases cq.1 d with M | d
   ·subst M
    rcases cq.1 he with v|he
    ·subst v
     exact absurd g (Bp _)
    ·rcases N e he with h | h
     ·simp only at q h
      rw[q]at h;cases h
     ·have h4 := h.1 id y
      exact⟨Hp h4.1,h4.2⟩
   ·rcases cq.1 he with v | he
    ·subst v
     have h5:=U I d;exact absurd g (by simp only; omega)
    ·exact V.2.1 e he I d g q id y
  ·rcases cq.1 d with M | d
   ·subst M
    rcases cq.1 he with v|he
    ·subst v
     exact absurd g (Bp _)
    ·rcases N e he with h | h
     ·simp only at q h
      rw[q]at h;cases h
     ·exact h.2 id y
   ·rcases cq.1 he with v | he
    ·subst v
     have h5:=U I d;exact absurd g (by simp only; omega)
    ·exact V.2.2 e he I d g q id y
 ·cases h
theorem Acc.zf{ah:Array aR}{j:Nat}{a:Acc}(h:a.ok ah j):a.ok ah (j+1):=⟨fun x d=>Bo (h.1 x d),fun x d=>Bo (h.2.1 x d),h.2.2⟩
theorem Acc.le_refl(a:Acc):a.le a:=⟨fun _ h=>h,fun _ h=>h⟩
theorem Acc.le_trans{a b c:Acc}(h:a.le b)(h':b.le c):a.le c:=⟨fun x d=>h'.1 x (h.1 x d),fun x d=>h'.2 x (h.2 x d)⟩
def Acc.only(j:Nat)(a b:Acc):Prop:=∀ x∈b.W,x.1<j->x∈a.W
theorem XC{ah:Array aR}{j:Nat}{o:aR}{s:aF}{a b:Acc}(ha:a.ok ah j)(h:He τ ah j o s a=some b) :
  b.ok ah (j+1)/\a.le b/\(dz τ.pf o.op=.read->∀ id,n_ s.eval o.op=some id->(j,id)∈b.R)/\(dz τ.pf o.op=.write->(j,kX τ s.eval s.H o.op,s.H.length)∈b.W):=by
 unfold He at h;split at h
 ·rename_i d
  cases h;exact⟨Acc.zf ha,a.le_refl,(fun h=>by rw[d]at h; cases h),(fun h=>by rw[d]at h; cases h)⟩
 ·rename_i d
  split at h
  ·rename_i id k
   obtain⟨q,v,y⟩:=XB ha h;refine⟨q,v,fun _ I g=>?_,(fun h=>by rw[d]at h; cases h)⟩;rw[k]at g;cases g;exact y
  ·rename_i k
   cases h;refine⟨Acc.zf ha,a.le_refl,fun _ I g=>?_,(fun h=>by rw[d]at h; cases h)⟩;rw[k]at g;cases g
 ·rename_i d
  obtain⟨q,v,y⟩:=MO ha h;exact⟨q,v,(fun h=>by rw[d]at h; cases h),fun _=>y⟩
theorem Hq{ah:Array aR}{j:Nat}{o:aR}{s:aF}{v:AV}{H':List au}{b c:Acc}(q:b.le c)(M:dz τ.pf o.op=.read->∀ id,n_ s.eval o.op=some id->(j,id)∈b.R)
  (N:dz τ.pf o.op=.write->(j,kX τ s.eval s.H o.op,s.H.length)∈b.W) (O:dz τ.pf o.op=.write->∀ A,A∉kX τ s.eval s.H o.op->A<s.H.length->H'[A]? = s.H[A]?)
  (y:mX ah o.op=true->dz τ.pf o.op=.write->cH ah s.ao.fr o=some true->∀ k,Ca c.W j s.ao.H k->Yields P τ.pf ah o ⟨s.ao.fr,mY k s.ao.H⟩ v (mY k (az H'))) :
  (g:(mW ah&&fD o.op)=false)->Step P τ.pf ah c.R c.W j o s.ao v (az H'):=by
 intro g;refine⟨fun d A hA=>?_,fun d _ id I=>q.1 _ (M d id (by rw[<-aF.oZ]; exact I)),fun h1 h _=>(by rw[h1,h]at g; cases g),y⟩;have:=hA _ (q.2 _ (N d)) rfl;have h:=O d A this.1 this.2;show (az H')[A]? = (az s.H)[A]?
 simp only[az,bW,h]
theorem step_skip{ah:Array aR}{j:Nat}{o:aR}{s:aF}{c:Acc}(d:cH ah s.fr o=some false):Step P τ.pf ah c.R c.W j o s.ao (.tuple []) (az s.H) :=
 ⟨fun _ _ _=>rfl,fun _ h=>(by rw[show s.ao.fr=s.fr from rfl,d]at h; cases h),fun _ _ _=>⟨rfl,fun _ h=>(h rfl).elim⟩,fun _ _ h=>(by rw[show s.ao.fr=s.fr from rfl,d]at h; cases h)⟩
theorem MP(y:aJ P τ){f:bO}{args:List AV}{v:AV}(I:τ.N f=true):∀(d:List (Nat × ai)) (H H':List au),τ.W f args H=some (true,v,H')->(∀ p∈d,p.1<H.length/\p.1∉τ.C f args H) ->
  ∃ k g,az k=mY d (az H)/\az g=mY d (az H')/\τ.W f args k=some (true,v,g)
 | [],H,H',h,_=>⟨H,H',rfl,rfl,h⟩
 | p::d,H,H',h,M=>by
  obtain⟨O,U⟩:=M p cW;obtain⟨h1,V⟩:=y.F.2 f I args H true v H' h p.1 (.raw p.2) O U;obtain⟨k,g,q1,q2,q3⟩:=MP y I d _ _ h1 fun q hq=>by
   obtain⟨b1,b2⟩:=M q (dj _ hq);rw[V];exact⟨by simpa using b1,b2⟩
  refine⟨k,g,?_,?_,q3⟩
  ·rw [q1, cR]
   rfl
  ·rw [q2, cR]
   rfl
theorem XD{o:aR}{s:aF}{k:AV->List au->bg}{f:bO}{args:List AV}{b:Bool}{v:AV}{H':List au}(d:tn o.op=true)(h:dz τ.pf o.op=.write)(g:jC s.eval o.op=some (f,args))(y:τ.W f args s.H=some (b,v,H')) :
  nc P τ o s k=.side b (k v H'):=by
 unfold tn at d;split at d
 ·rename_i c q
  unfold nc;rw[q]at h g|-;simp only[h,g,y]
 ·cases d
theorem MQ{r:ct->AV}{op:Op}(h:oa op=true):jC r op=none:=by
 unfold oa at h;split at h
 ·rfl
 ·rename_i c
  split at h
  ·rename_i d
   simp only[jC,B4,d]
  ·cases h
 ·cases h
theorem XE{o:aR}{s:aF}{k:AV->List au->bg}{Q:cD->aF->Prop}(g:oa o.op=true)(I:dz τ.pf o.op=.write)(h:(nc P τ o s k).holds Q) :
  ∃ v H',kV P s.eval s.H o.op=some (true,v,H')/\(k v H').holds Q:=by
 have q:=MQ (r:=s.eval) g;have y:vO P s.eval s.H o.op=none:=by
  unfold oa at g;split at g
  ·rename_i d; rw[d]; rfl
  ·rename_i d; rw[d]; rfl
  ·cases g
 have M:nc P τ o s k=match kV P s.eval s.H o.op with
   |some (b,v,H')=>.side b (k v H')
   |none=>.fail:=by
  unfold oa at g;split at g
  ·rename_i d
   unfold nc;rw[d]at I q y|-;simp only[I,q,y]
  ·rename_i d
   unfold nc;rw[d]at I q y|-;simp only[I,q,y]
  ·cases g
 rw[M]at h;split at h
 ·rename_i b v H' N
  simp only[bg.holds]at h;obtain⟨rfl,h⟩:=h;exact⟨v,H',N,h⟩
 ·exact h.elim
theorem MR{sz:Nat}{x:AV}{H g:List au}{d:Option (List Kd)}(h:∀ id,eD x=some id->g[id]? = H[id]?):q_ sz x g d=q_ sz x H d:=by
 cases x with
 | vQ w id ak oF n =>
  have:=h id rfl;unfold q_;simp only[this]
 | lit v =>
  cases v with
  |slice b n c=>cases b<;>cases n<;>cases c<;>rfl
  |_=>rfl
 |_=>rfl
theorem MS{sz:Nat}{x:AV}{H d:List au}{z:List al}(h:∀ id,eD x=some id->d[id]? = H[id]?):tx sz x d z=tx sz x H z:=by
 unfold tx;cases x<;>exact MR h
theorem Cv{α:Type}{H:List α}{x o:α}{id:Nat}(h:id<H.length):(H++[x]).set id o=H.set id o++[x]:=List.set_append_left _ _ h
theorem XF{r:ct->AV}{op:Op}(q:oa op=true){H H':List au}{v:AV}{id:Nat}{o:au}(h:kV P r H op=some (true,v,H'))(U:id<H.length)(hid:id∉op.operands.toList.flatMap fun x=>mr (r x)) :
  kV P r (H.set id o) op=some (true,v,H'.set id o):=by
 have no:∀ x∈op.operands.toList,eD (r x)≠some id:=fun x y e=>hid (Fl.2 ⟨x,y,Hc e⟩);unfold oa at q;split at q
 ·rename_i t n parts
  simp only[kV]at h|-;unfold vz at h|-;split at h
  case h_2=>cases h
  rename_i I
  try simp only[I]
  split at h
  case h_2=>cases h
  rename_i M
  try simp only[M]
  split at h
  case h_2=>cases h
  rename_i N
  try simp only[N]
  split at h
  case h_2=>cases h
  rename_i O
  try simp only[O]
  split at h
  case h_2=>cases h
  rename_i d
  try simp only[d]
  split at h
  case isFalse=>cases h
  rename_i g
  try rw[iP g]
  simp only[be,bo,true_and]at h|-;obtain⟨rfl,rfl⟩:=h;exact⟨by rw[iv],(Cv U).symm⟩
 ·rename_i c
  split at q
  case h_2=>cases q
  rename_i hc;simp only[kV,hc]at h|-;split at h
  case h_2=>cases h
  rename_i s x t xt ha ht;have na:∀ x∈c.args.toList,eD (r x)≠some id:=fun x y=>no x (by
   simp only[fc,uE,Bl,c_];exact .inr y)
  have hs:eD (r s)≠some id:=na s (by rw[ha]; simp);have y:eD (r x)≠some id:=na x (by rw[ha]; simp);have same:∀ i,eD (r x)=some i->(H.set id o)[i]? = H[i]? := fun i hi=>bf fun e=>y (by rw[hi,e]);split at h
  ·rename_i e0
   try simp only[ha,ht,e0]
   unfold vI at h|-;split at h
   case h_2=>cases h
   rename_i I M N O
   try simp only[I,M,N,O]
   split at h
   case h_2=>cases h
   rename_i d
   try simp only[d]
   split at h
   case h_2=>cases h
   rename_i g
   try simp only[g]
   split at h
   case h_2=>cases h
   rename_i k
   try simp only[k]
   split at h
   case isFalse=>cases h
   rename_i V
   try rw[iP V]
   simp only[be,bo]at h|-;obtain⟨h1,rfl,rfl⟩:=h;exact⟨h1,by rw[iv],(Cv U).symm⟩
  ·rename_i hno
   try simp only[ha,ht]
   unfold vu at h|-;split at h
   case h_2=>cases h
   rename_i I
   try simp only[I]
   split at h
   case h_2=>cases h
   rename_i M N
   try simp only[M,N]
   split at h
   case isFalse=>cases h
   rename_i O
   try rw[iP O]
   split at h
   ·rename_i d
    try simp only[d,MS same]
    split at h
    case h_2=>cases h
    rename_i g
    try simp only[g]
    split at h
    case isFalse=>cases h
    rename_i k
    try rw[iP k]
    simp only[be,bo]at h|-;obtain⟨h1,rfl,rfl⟩:=h;exact⟨h1,by rw[iv],(Cv U).symm⟩
   ·rename_i d
    try simp only[d,MS same]
    split at h
    case h_2=>cases h
    rename_i g
    try simp only[g]
    split at h
    case isFalse=>cases h
    rename_i k
    try rw[iP k]
    simp only[be,bo]at h|-;obtain⟨h1,rfl,rfl⟩:=h;exact⟨h1,by rw[iv],(Cv U).symm⟩
   ·rename_i w i ak oF n d
    have W:i≠id:=fun e=>hs (by rw[d,<-e]; rfl)
    try simp only[d,bf (Ne.symm W)]
    split at h
    case h_2=>cases h
    rename_i g
    try simp only[g,MR same]
    split at h
    case h_2=>cases h
    rename_i k
    try simp only[k]
    split at h
    case isFalse=>cases h
    rename_i V
    try rw[iP V]
    simp only[be,bo]at h|-;obtain⟨h1,rfl,rfl⟩:=h;exact⟨h1,rfl,List.set_comm _ _ (Ne.symm W)⟩
   ·cases h
 ·cases q
theorem MT{r:ct->AV}{op:Op}(y:oa op=true){v:AV}:∀(d:List (Nat × ai)) (H H':List au),kV P r H op=some (true,v,H')->(∀ p∈d,p.1<H.length/\p.1∉op.operands.toList.flatMap fun x=>mr (r x)) ->
  ∃ k g,az k=mY d (az H)/\az g=mY d (az H')/\kV P r k op=some (true,v,g)
 | [],H,H',h,_=>⟨H,H',rfl,rfl,h⟩
 | p::d,H,H',h,I=>by
  obtain⟨M,N⟩:=I p cW;have h1:=XF y (o:=.raw p.2) h M N;obtain⟨k,g,O,U,V⟩:=MT y d _ _ h1 fun q W=>by
   obtain⟨b1,b2⟩:=I q (dj _ W);exact⟨by simpa using b1,b2⟩
  refine⟨k,g,?_,?_,V⟩
  ·rw [O, cR]
   rfl
  ·rw [U, cR]
   rfl
theorem MU{z:List al}:∀{H:List au} {i j:Nat} {ks:List Kd} {g:LG},tC z H i=some (j,ks,g)->i<=j/\H[j-i]? = some (.vQ ks 0 [])/\vP ks z=some g
 | [],_,_,_,_,h=>by cases h
 | o::H,i,j,ks,g,h=>by
  have next:tC z H (i+1)=some (j,ks,g)->i<=j/\(o::H)[j-i]? = some (.vQ ks 0 [])/\vP ks z=some g:=by
   intro h;obtain⟨h1,d,k⟩:=MU h;refine⟨by omega,?_,k⟩;rw[show j-i=(j-(i+1))+1 from by omega];simpa using d
  unfold tC at h;split at h
  ·cases ‹_=_›
  ·rename_i y v H' I e
   cases e;split at h
   ·rename_i M q
    split at h
    ·cases h
     exact⟨aQ _,by simp,q⟩
    ·exact next h
   ·exact next h
  ·rename_i e
   cases e;exact next h
theorem MV:∀{H:List au} {i j:Nat},za H i=some j->i<=j/\H[j-i]? = some (.raw .fA)
 | [],_,_,h=>by cases h
 | o::H,i,j,h=>by
  have next:za H (i+1)=some j->i<=j/\(o::H)[j-i]? = some (.raw .fA):=by
   intro h;obtain⟨h1,d⟩:=MV h;refine⟨by omega,?_⟩;rw[show j-i=(j-(i+1))+1 from by omega];simpa using d
  unfold za at h;split at h
  ·cases ‹_=_›
  ·rename_i e
   cases e;cases h;exact⟨aQ _,by simp⟩
  ·rename_i e
   cases e;exact next h
theorem XG{op:Op}{H H':List au}{id:Nat}{v:AV}(h:Hg P op H=some (id,v,H')) :
  ((∃ t m,op=.alloc t/\qS P t id m (az H)=some (v,az H'))\/∃ t,op=.makeMap t none/\s8 id (az H)=some (v,az H'))/\H'.length=H.length/\∀ A,A≠id->H'[A]? = H[A]? := by
 unfold Hg at h;split at h
 ·rename_i t
  split at h
  ·rename_i z y
   split at h
   ·rename_i i ks g q
    cases h;obtain⟨_,d,I⟩:=MU q;rw[fL]at d;have e:=My I;refine⟨.inl ⟨t,mZ ks,rfl,?_⟩,by simp,fun A hA=>bf (Ne.symm hA)⟩;have M:ks.length=z.length:=by
     have:=congrArg Bn e;simpa[sS,BQ]using this
    rw[LI (mZ ks) y (k:=ks.length) (by rw[bt d]; rfl) M,cR,<-e];rfl
   ·cases h
  ·cases h
 ·rename_i t
  split at h
  ·rename_i K V _
   split at h
   ·rename_i i q
    cases h;obtain⟨_,d⟩:=MV q;rw[fL]at d;refine⟨.inr ⟨t,rfl,?_⟩,by simp,fun A hA=>bf (Ne.symm hA)⟩;rw[K5 (by rw[bt d]; rfl),cR];rfl
   ·cases h
  ·cases h
 ·cases h
theorem Hr(ht:aJ P τ){ah:Array aR}{j:Nat}{o:aR}{s:aF}{a:Acc}{k:aF->Acc->bg}{Q:cD->aF->Prop}(hw:cH ah s.fr o=some true)(ha:a.ok ah j)(h:(zb P τ ah j o s a k).holds Q) :
  ∃ v H' b,Yields P τ.pf ah o s.ao v (az H')/\b.ok ah (j+1)/\a.le b/\(∀ c,b.le c->Step P τ.pf ah c.R c.W j o s.ao v (az H'))/\(k (s.put o.dst v H') b).holds Q:=by
 unfold zb at h;split at h
 ·rename_i y
  simp only[aL]at y;split at h
  ·rename_i id v H' hal
   split at h
   ·rename_i b hb
    obtain⟨hnew,hlen,hkeep⟩:=XG hal;obtain⟨g1,g2,g3⟩:=MO ha hb;refine⟨v,H',b,?_,g1,g2,fun c g=>⟨fun _ A hA=>?_,fun hr=>(by rw[p7 y.2]at hr; cases hr),fun _ _ _=>⟨?_,fun id' hne=>?_⟩,fun hcv=>(by rw[oY y.2]at hcv; cases hcv)⟩,h⟩
    ·unfold Yields
     rw[show s.ao.fr=s.fr from rfl,hw];simp only[p7 y.2];rcases hnew with⟨t,m,hop,U⟩|⟨t,hop,U⟩
     ·exact .inr (.inl (.inl ⟨t,id,m,hop,U⟩))
     ·exact .inr (.inl (.inr ⟨t,id,hop,U⟩))
    ·have := (hA _ (g.2 _ g3) rfl).1
     show (az H')[A]? = (az s.H)[A]?
     simp only[az,bW,hkeep A (by simpa using this)]
    ·show (az H').length = (az s.H).length
     simp only[fw,hlen]
    ·refine ⟨_, g.2 _ g3, rfl, ?_⟩
     have e:id'=id:=Fi fun e=>hne (by
      show (az H')[id']? = (az s.H)[id']?
      simp only[az,bW,hkeep id' e])
     rw[e];exact List.mem_singleton.2 rfl
   ·exact h.elim
  ·exact h.elim
 ·rename_i y
  split at h
  ·exact h.elim
  rename_i hfc;split at h
  ·rename_i b hb
   obtain⟨g1,g2,g3,g4⟩:=XC ha hb;by_cases N:mX ah o.op=true/\dz τ.pf o.op=.write
   ·obtain ⟨N, O⟩ := N
    have q:Hh τ o s=true:=by
     rw[N]at hfc;simpa using hfc
    unfold Hh at q;rw[O]at q;simp only[]at q;split at q
    ·rename_i f args M
     split at q
     case h_2=>cases q
     rename_i hN;obtain⟨⟨b0,v,H'⟩,hW⟩:=Option.isSome_iff_exists.1 q;have hcv:tn o.op=true:=by
      unfold mX at N;rw[uF,aL,aL]at N;rcases N with h1|h1
      ·exact h1.1
      ·rw [MQ h1.1] at M
       cases M
     rw[XD hcv O M hW]at h;simp only[bg.holds]at h;obtain⟨rfl,h⟩:=h;obtain⟨hbody,hcall⟩:=ht.W f args s.H true v H' hW rfl;have htch:kX τ s.eval s.H o.op=(τ.C f args s.H).filter fun id => !rm τ f args s.H id:=by
      unfold kX;rw[M]
     have hcal':∀ d,jC (St.eval ⟨s.ao.fr,d⟩) o.op=some (f,args):=fun d=>by
      have e:St.eval ⟨s.ao.fr,d⟩=s.eval:=by funext x; cases x<;>rfl
      rw[e];exact M
     have yl:∀ d V:List ai,fN P f args d v V->Yields P τ.pf ah o ⟨s.ao.fr,d⟩ v V:=fun d V I=>by
      unfold Yields;rw[show (St.mk s.ao.fr d).fr=s.fr from rfl,hw];simp only[O];exact .inl (.inr ⟨f,args,hcal' d,hbody,I⟩)
     refine⟨v,H',b,yl _ _ hcall,g1,g2,fun c g=>Hq g g3 g4 (fun _ A hA hlt=>?_) (fun _ _ _ σ hσ=>?_) (by simpa using y),h⟩
     ·rcases Mx hW (by rw [<- htch]; exact hA) with h1 | h1
      ·exact ht.C f args s.H true v H' hW A h1 hlt
      ·exact h1
     ·obtain ⟨d,H2',q1,q2,q3⟩:=MP ht hN σ s.H H' hW (fun p hp=>by
       obtain⟨hk,x,r,I,_⟩:=hσ p hp;obtain⟨k1,k2⟩:=hk _ (g.2 _ (g4 O)) rfl;rw[htch]at k1;refine⟨k2,fun hm=>k1 (sQ.2 ⟨hm,?_⟩)⟩;unfold rm;rw[hW];cases hq:y9 H'[p.1]? s.H[p.1]? with
       |false=>simp only[hq]; rfl
       | true =>
        have I:(az s.H)[p.1]? = some (.vQ x 0 []):=I;unfold y9 at hq;split at hq
        ·rename_i e
         simp only[az,bW,e,e_,au.ao]at I;cases I
        ·cases hq)
      rw[<-q2,show mY σ s.ao.H=az d from q1.symm];exact yl _ _ (ht.W f args d true v H2' q3 rfl).2
    ·rename_i M
     obtain⟨v,H',U,h⟩:=XE q O h;have htch:kX τ s.eval s.H o.op=o.op.operands.toList.flatMap fun x=>mr (s.eval x):=by
      unfold kX;rw[M]
     have yl:∀ d V:List au,kV P s.eval d o.op=some (true,v,V)->Yields P τ.pf ah o ⟨s.ao.fr,az d⟩ v (az V):=fun d V I=>by
      unfold Yields;rw[show (St.mk s.ao.fr (az d)).fr=s.fr from rfl,hw];simp only[O];have e:St.eval ⟨s.fr,az d⟩=s.eval:=by funext x; cases x<;>rfl
      rw[e];exact .inl (.inl (G2 I rfl))
     refine⟨v,H',b,yl _ _ U,g1,g2,fun c g=>Hq g g3 g4 (fun _ A hA hlt=>Hn U hlt (by rw[<-htch]; exact hA)) (fun _ _ _ σ hσ=>?_) (by simpa using y),h⟩;obtain⟨d,H2',q1,q2,q3⟩:=MT q σ s.H H' U (fun p hp=>by
      obtain⟨hk,_⟩:=hσ p hp;obtain⟨k1,k2⟩:=hk _ (g.2 _ (g4 O)) rfl;rw[htch]at k1;exact⟨k2,k1⟩)
     rw[<-q2,show mY σ s.ao.H=az d from q1.symm];exact yl _ _ q3
   ·obtain ⟨v, H', q1, q2, q3⟩ := Cr ht hw h
    exact⟨v,H',b,q1,g1,g2,fun c g=>Hq g g3 g4 q2 (fun h1 h3=>absurd ⟨h1,h3⟩ N) (by simpa using y),q3⟩
  ·exact h.elim
theorem XH(y:aJ P τ){ah:Array aR}{j:Nat}{o:aR}{s:aF}{a:Acc}{k:aF->Acc->bg}{Q:cD->aF->Prop}(ha:a.ok ah j)(h:(Hk P τ ah j o s a k).holds Q) :
  ∃ v H' b,Yields P τ.pf ah o s.ao v (az H')/\b.ok ah (j+1)/\a.le b/\(∀ c,b.le c->Step P τ.pf ah c.R c.W j o s.ao v (az H'))/\(k (s.put o.dst v H') b).holds Q:=by
 have skip:cH ah s.fr o=some false->Yields P τ.pf ah o s.ao (.tuple []) (az s.H):=by
  intro d;unfold Yields;rw[show s.ao.fr=s.fr from rfl,d];exact⟨rfl,rfl⟩
 unfold Hk at h;split at h
 ·exact h.elim
 ·rename_i d
  exact⟨_,_,a,skip (Ho d),Acc.zf ha,a.le_refl,fun _ _=>step_skip (Ho d),h⟩
 ·rename_i d
  exact Hr y (MN d) ha h
 ·rename_i t b I d
  obtain⟨h1,q⟩:=MM d;simp only[bg.holds]at h;cases b with
  | true =>
   have g:=h.1 rfl;rw[Cs h1]at g;cases I with
   |true=>exact Hr y q ha g
   |false=>exact⟨_,_,a,skip q,Acc.zf ha,a.le_refl,fun _ _=>step_skip q,g⟩
  | false =>
   have g:=h.2 rfl;rw[Cs h1]at g;cases I with
   |true=>exact⟨_,_,a,skip q,Acc.zf ha,a.le_refl,fun _ _=>step_skip q,g⟩
   |false=>exact Hr y q ha g
theorem MW(d:aJ P τ){ah:Array aR}{Q:cD->aF->Prop}:∀{l:List aR} {j:Nat} {s:aF} {a:Acc} {k:aF->bg},a.ok ah j->(Hl P τ ah l j s a k).holds Q ->
  ∃ s' b,tq ah b.R b.W/\a.le b/\vq P τ.pf ah b.R b.W l j s.ao s'.ao/\(k s').holds Q
 | [],j,s,a,k,ha,h=>⟨s,a,ha.2.2,a.le_refl,rfl,h⟩
 | o::l,j,s,a,k,ha,h=>by
  obtain⟨v,H',b,q,y,I,M,N⟩:=XH d ha h;obtain⟨s',c,O,g,U,V⟩:=MW d y N;exact⟨s',c,O,Acc.le_trans I g,⟨v,az H',q,M c g,U⟩,V⟩
theorem XI{m id:Nat}{ah:Array aR}{s s':aF}{b:Acc}(hm:P.follows .mixedOrders=true)(hB:vr τ.pf ah=true)(d:tq ah b.R b.W)(h:vq P τ.pf ah b.R b.W ah.toList 0 s.ao s'.ao) :
  dX P m (.region id ah true) s.ao .normal s'.ao:=fun g _ _ _ k=>Wv hm hB d k h (fun _ _ q=>⟨rfl,q.toM⟩) g
theorem zg{K:cD->aF->bg}{Q:cD->aF->Prop}:∀{t:bg},(t.bind K).holds Q->t.holds fun x s=>(K x s).holds Q
 |.fail,h=>h
 |.done _ _,h=>h
 |.ask _ _ _,h=>⟨fun hb=>zg (h.1 hb),fun hb=>zg (h.2 hb)⟩
 |.side _ _,h=>⟨h.1,zg h.2⟩
theorem MX{m:Nat}{c:Code}{Q:cD->aF->Prop}{body:aF->(cD->aF->bg)->bg}
  (hb:∀ s K,(body s K).holds Q->∃ x s',dX P m c s.ao x s'.ao/\(K x s').holds Q):∀(n:Nat) (s:aF) (K:cD->aF->bg),(Cp body n s K).holds Q ->
  ∃ x s',mU P m c s.ao x s'.ao/\(K x s').holds Q
 |0,_,_,h=>h.elim
 | n+1,s,K,h=>by
  simp only[Cp]at h;obtain⟨x,s1,h1,d⟩:=hb _ _ h;cases x with
  | normal =>
   obtain⟨y,s2,g,k⟩:=MX hb n s1 K d;exact⟨y,s2,.next h1 g,k⟩
  |exit i=>exact⟨_,s1,.stop h1 (by simp),d⟩
  |ret=>exact⟨_,s1,.stop h1 (by simp),d⟩
theorem nf(hm:P.follows .mixedOrders=true)(q:aJ P τ){m:Nat}{L:LT}{Q:cD->aF->Prop}:∀(c:Code) (s:aF) (K:cD->aF->bg),
  aZ P m L c->(ig P τ L c s K).holds Q->∃ x s',dX P m c s.ao x s'.ao/\(K x s').holds Q
 |.skip,s,K,_,h=>⟨_,_,V5,h⟩
 | .region id ah W,s,K,k,h=>by
  simp only[ig]at h;split at h
  ·rename_i M
   split at h
   ·rename_i hB
    simp only[bg.holds]at h;have hdt:W=true:=by
     cases W with
     |true=>rfl
     |false=>simp at M
    subst hdt;obtain⟨s',b,h1,_,d,v⟩:=MW q (a:=⟨[],[]⟩) ⟨by simp,by simp,⟨fun i id hi=>(nomatch hi),fun e he=>(nomatch he),fun e he=>(nomatch he)⟩⟩ h.2;exact⟨_,_,vm (k.2.1 id s h.1) (XI hm hB h1 d),v⟩
   ·exact h.elim
  ·rename_i hd
   simp only[bg.holds]at h;obtain⟨s',h1,d⟩:=Cu q h.2;refine⟨_,_,vm (k.2.1 id s h.1) (V8 hm (fun M=>?_) h1),d⟩;rw[M]at hd;simpa using hd
 | .seq a b,s,K,k,h=>by
  simp only[ig]at h;have N:aZ P m L a:=k.sub (fun p g=>by simp only[cw]; exact c_.2 (.inl g)) (fun p g=>by simp only[cA]; exact c_.2 (.inl g));have O:aZ P m L b:=k.sub (fun p g=>by simp only[cw]; exact c_.2 (.inr g)) (fun p g=>by simp only[cA]; exact c_.2 (.inr (c_.2 (.inr g))));obtain⟨x,s1,h1,d⟩:=nf hm q a s _ N h;cases x with
  | normal =>
   simp only[Mz]at d;split at d
   ·rename_i t I
    unfold MC at I;split at I
    ·rename_i i hi
     obtain⟨y,s2,v,V⟩:=k.2.2 i b (by simp only[cA,hi]; exact c_.2 (.inr (c_.2 (.inl (cW))))) s1 t I _ (zg d);exact⟨y,s2,LR h1 v,V⟩
    ·cases I
   ·obtain ⟨y, s2, v, V⟩ := nf hm q b s1 K O d
    exact⟨y,s2,LR h1 v,V⟩
  |exit id=>exact⟨_,_,LS h1 (by simp),d⟩
  |ret=>exact⟨_,_,LS h1 (by simp),d⟩
 | .cond c a b,s,K,k,h=>by
  simp only[ig]at h;have N:aZ P m L a:=k.sub (fun p g=>by simp only[cw]; exact c_.2 (.inl g)) (fun p g=>by simp only[cA]; exact c_.2 (.inl g));have O:aZ P m L b:=k.sub (fun p g=>by simp only[cw]; exact c_.2 (.inr g)) (fun p g=>by simp only[cA]; exact c_.2 (.inr g));split at h
  ·rename_i t hb
   have U:=ME hb;rw[<-aF.oZ]at U;simp only[bg.holds]at h;cases t with
   | true =>
    obtain⟨x,s1,h1,d⟩:=nf hm q a s K N (h.1 rfl);exact⟨x,s1,LU U (by simpa using h1),d⟩
   | false =>
    obtain⟨x,s1,h1,d⟩:=nf hm q b s K O (h.2 rfl);exact⟨x,s1,LU U (by simpa using h1),d⟩
  ·exact h.elim
 | .block id c,s,K,k,h=>by
  simp only[ig]at h;obtain⟨x,s1,h1,d⟩:=nf hm q c s _ (k.sub (fun p g=>by simpa only[cw]using g) (fun p g=>by simpa only[cA]using g)) h;refine⟨_,s1,V9 h1,?_⟩;cases x with
  |normal=>exact d
  | exit i =>
   simp only[MA]at d;simp only[cD.inBlock];split
   ·rename_i e; rw[iP e]at d; exact d
   ·rename_i e; rw[iN e]at d; exact d
  |ret=>exact d
 | .loop c,s,K,k,h=>by
  simp only[ig]at h;split at h
  ·rename_i i hi
   split at h
   ·rename_i t hl
    obtain⟨x,s',h1,d⟩:=k.1 i c (by simp only[cw,hi]; exact cW) s t hl _ (zg h);exact⟨x,s',LV h1,d⟩
   ·obtain ⟨x, s', h1, d⟩ := MX (fun s1 K1 hh => nf hm q c s1 K1 (k.sub (fun p g => by simp only [cw, hi]; exact dj _ g) (fun p g => by simpa only [cA] using g)) hh) 400 s K h
    exact⟨x,s',LV h1,d⟩
  ·exact h.elim
 |.exit id,s,K,_,h=>⟨_,_,V7,h⟩
 |.ret,s,K,_,h=>⟨_,_,V6,h⟩
 |.rangeFunc ..,_,_,_,h=>by simp[ig,bg.holds]at h
 |.scope _,_,_,_,h=>by simp[ig,bg.holds]at h
 |.label _,_,_,_,h=>by simp[ig,bg.holds]at h
 |.goto _,_,_,_,h=>by simp[ig,bg.holds]at h
 |.refuse _,_,_,_,h=>by simp[ig,bg.holds]at h
end sound
end Go.AL

namespace Go.AL
open Go
variable [Dr]
inductive lG where
 |fail
 |ret (v:AV) (H:List au)
 |ask (b:Bool) (t e:lG)
 |side (b:Bool) (t:lG)
def lG.holds(Q:AV->List au->Prop):lG->Prop
 |.fail=>False
 |.ret v H=>Q v H
 |.ask b t e=>(b=true->t.holds Q)/\(b=false->e.holds Q)
 |.side b t=>b=true/\t.holds Q
def lG.two:lG->Option (AV × List au)
 |.fail=>none
 |.ret v H=>some (v,H)
 |.ask b t e=>bif b then t.two else e.two
 |.side b t=>bif b then t.two else none
def lG.val:lG->Option AV
 |.fail=>none
 |.ret v _=>some v
 |.ask b t e=>bif b then t.val else e.val
 |.side b t=>bif b then t.val else none
theorem Cw:∀{t:lG} {v:AV},t.val=some v->t.holds fun u _=>u=v
 |.fail,_,h=>by cases h
 |.ret u H,_,h=>by simp only[lG.val,be]at h; exact h
 | .ask b t e,v,h=>by
  cases b with
  |true=>exact⟨fun _=>Cw (t:=t) (v:=v) h,fun h=>by cases h⟩
  |false=>exact⟨fun h=>(nomatch h),fun _=>Cw (t:=e) (v:=v) h⟩
 | .side b t,v,h=>by
  cases b with
  |true=>exact And.intro rfl (Cw (t:=t) (v:=v) h)
  |false=>cases h
def Hs(H:List au):Option (List Kd)->AV->Option (Bool × AV)
 |none,a=>some (true,a)
 | some ks,a=>match a with
  |.nils | .lit (.slice none 0 0)=>some (true,.listF ks [])
  |.listF d rZ=>if Kd.gN ks d then some (true,.listF ks rZ) else none
  | .list w rZ=>match bN ks rZ with
   |some g=>if w=ks.length then some (true,.listF ks g) else none
   |none=>none
  | .vQ w id ak oF n=>match H[id]? with
   |some (.vQ d v rZ)=>if ak=v/\d.length=w/\oF=0/\Kd.gN ks d=true then some (ar n rZ.length,.listF ks rZ) else none
   |_=>none
  |_=>none
def oh(H:List au):List (Option (List Kd))->List AV->Option (Bool × List AV)
 |_,[]=>some (true,[])
 | [],a::as=>match oh H [] as with
  |some (b,d)=>some (b,a::d)
  |none=>none
 | c::cs,a::as=>match Hs H c a,oh H cs as with
  |some (b,g),some (h,d)=>some (b&&h,g::d)
  |_,_=>none
theorem XJ{E:af}(HE:aI E){H:List au}(hH:E.H=az H){k:Option (List Kd)}{a g:AV}{b:Bool}{c:al}(h:Hs H k a=some (b,g))(hb:b=true)(v:g.closed=true)(d:ad E a c) :
  ad (E.bare E.w) g c:=by
 unfold Hs at h;split at h
 ·cases h; exact fB (rq E) _ v d
 ·rename_i ks
  split at h
  ·cases h
   simp only[ad,fk,G.rZ]at d|-;obtain⟨aN,rfl⟩:=d;exact⟨aN,0,rfl,aQ _,.inl trivial⟩
  ·cases h
   simp only[ad,fk,G.rZ]at d|-;subst d;exact⟨none,0,rfl,aQ _,.inl trivial⟩
  ·split at h
   ·rename_i I
    cases h;rw[Kd.iS I];exact fB (rq E) _ rfl d
   ·cases h
  ·split at h
   ·rename_i V M
    split at h
    ·rename_i N
     cases h;rw[kf,qY M];subst N;exact fB (rq E) _ rfl d
    ·cases h
   ·cases h
  ·split at h
   ·rename_i y
    split at h
    ·rename_i O
     obtain⟨rfl,U,rfl,q⟩:=O;simp only[be,bo]at h;obtain⟨h1,rfl⟩:=h;subst hb;have q:=Kd.iS q;subst q;exact MG HE hH y U (bx h1) d
    ·cases h
   ·cases h
  ·cases h
theorem Ht{E:af}(HE:aI E){H:List au}(hH:E.H=az H):∀{ks:List (Option (List Kd))} {as q:List AV} {b:Bool} {cs:List al},oh H ks as=some (b,q)->b=true ->
  AV.bK q=true->aw E as cs->aw (E.bare E.w) q cs
 | ks,[],q,b,cs,h,_,_,d=>by
  cases ks<;>simp only[oh]at h<;>cases h<;>(cases cs with
   |nil=>simp[aw]
   |cons _ _=>simp[aw]at d)
 | [],a::as,q,b,cs,h,hb,g,d=>by
  cases cs with
  |nil=>simp[aw]at d
  | cons c cs =>
   simp only[oh]at h;simp only[aw]at d;split at h
   ·rename_i y v h1
    cases h;simp only[AV.bK,aL]at g;simp only[aw];exact⟨fB (rq E) _ g.1 d.1,Ht HE hH h1 hb g.2 d.2⟩
   ·cases h
 | k::ks,a::as,q,b,cs,h,hb,g,d=>by
  cases cs with
  |nil=>simp[aw]at d
  | cons c cs =>
   simp only[oh]at h;simp only[aw]at d;split at h
   ·rename_i M N y v h0 h1
    simp only[be,bo]at h;obtain⟨I,rfl⟩:=h;subst I;simp only[aL]at hb;simp only[AV.bK,aL]at g;simp only[aw];exact⟨XJ HE hH h0 hb.1 g.1 d.1,Ht HE hH h1 hb.2 g.2 d.2⟩
   ·cases h
def bg.toR(P:aj)(rs:List ResultVar) (ks:List (Option (List Kd))):bg->lG
 |.fail=>.fail
 | .done x s=>match x with
  |.exit _=>.fail
  | _=>match n9 P s.ao rs with
   | some g=>match oh s.H ks g with
    |some (b,d)=>.side b (.ret (fE d) s.H)
    |none=>.fail
   |none=>.fail
 |.ask b t e=>.ask b (t.toR P rs ks) (e.toR P rs ks)
 |.side b t=>.side b (t.toR P rs ks)
theorem toR_holds{P:aj}{rs:List ResultVar}{ks:List (Option (List Kd))}{Q:AV->List au->Prop}:∀{t:bg},(t.toR P rs ks).holds Q ->
  t.holds fun x s=>(x=.normal\/x=.ret)/\∃ g d,n9 P s.ao rs=some g/\oh s.H ks g=some (true,d)/\Q (fE d) s.H
 |.fail,h=>h
 | .done x s,h=>by
  have key:∀ y,(y=cD.normal\/y=cD.ret)->(match n9 P s.ao rs with
   | some g=>match oh s.H ks g with
    |some (b,d)=>lG.side b (.ret (fE d) s.H)
    |none=>.fail
   |none=>.fail).holds Q->(y=.normal\/y=.ret)/\∃ g d,n9 P s.ao rs=some g/\oh s.H ks g=some (true,d)/\Q (fE d) s.H:=by
   intro y k h;split at h
   ·rename_i g q
    split at h
    ·rename_i b d v
     simp only[lG.holds]at h;obtain⟨rfl,h⟩:=h;exact⟨k,g,d,q,v,h⟩
    ·exact h.elim
   ·exact h.elim
  simp only[bg.toR]at h;simp only[bg.holds];cases x with
  |exit i=>exact h.elim
  |normal=>exact key _ (.inl rfl) h
  |ret=>exact key _ (.inr rfl) h
 |.ask _ _ _,h=>⟨fun hb=>toR_holds (h.1 hb),fun hb=>toR_holds (h.2 hb)⟩
 |.side _ _,h=>⟨h.1,toR_holds h.2⟩
def Hu(P:aj)(τ:aH)(L:LT)(fn:Func) (ks:List (Option (List Kd))) (args:List AV) (H:List au):lG :=
 match fn.body with
 |some c=>(ig P τ L c ⟨qV args fn.ntmps,H⟩ .done).toR P fn.results.toList ks
 |none=>.fail
theorem MY{E:af}{d:List AV}{g:List al}(h:aw E d g):ad E (fE d) (if h:g.toArray.size=1 then g.toArray[0] else .tuple g.toArray):=by
 cases g with
 | nil =>
  cases d with
  |nil=>simp[fE,ad,aw]
  |cons _ _=>simp[aw]at h
 | cons u g =>
  cases g with
  | nil =>
   cases d with
   |nil=>simp[aw]at h
   | cons v d =>
    cases d with
    |nil=>simp only[aw]at h; simpa[fE]using h.1
    |cons _ _=>simp[aw]at h
  | cons k g =>
   cases d with
   |nil=>simp[aw]at h
   | cons v d =>
    cases d with
    |nil=>simp[aw]at h
    | cons q d =>
     simp only[fE,ad];exact⟨(u::k::g).toArray,by simp,h⟩
theorem XK{P:aj}{f:bO}{fn:Func}{c:Code}{args:List AV}{x:cD}{s':aF}{ks:List (Option (List Kd))}{M d:List AV}
  (hf:P.funcs[f]? = some fn) (hb:fn.body=some c) (hs:dX P 0 c ⟨qV args fn.ntmps,[]⟩ x s'.ao) (g:x=.normal\/x=.ret) (hr:n9 P s'.ao fn.results.toList=some M)
  (hc:oh s'.H ks M=some (true,d)) (ha:AV.bK args=true) (hv:AV.bK d=true):dM P f args (fE d):=by
 intro H E V hH HE hargs
 let E0:af:={ w:=E.w,H:=[],ae:=[],X:=(E.X.or E.ab).re fe }
 have hown0:∀ b,¬ E0.ab b:=by rintro b (⟨id,c,hid⟩|⟨l,k,c,y⟩); simp[E0]at hid; simp[E0,fe]at y
 have hC:E.bT E0:=⟨fun b hb=>⟨⟨hb.1,hown0 b,fun g=>g.elim hb.2.2 hb.2.1⟩,rfl⟩⟩
 have W:aI E0:=by
  refine⟨rfl,?_,?_,?_,?_,HE.gL.bT hC,fun l k l' k' b m n y=>by simp[E0,fe]at y,fun i b m l k n hi=>by simp[E0]at hi,fun l k b m y=>by simp[E0,fe]at y,fun i j o o' l hi=>by simp[E0]at hi,fun l _ k q y=>by simp[E0,fe]at y⟩
  ·intro i j b m n hi; simp[E0]at hi
  ·intro i b m hi; simp[E0]at hi
  ·rintro b (g | ho)
   ·exact HE.X b g
   ·exact(HE.BB ho).1
  ·intro i o hi; simp[E0]at hi
 refine LZ hf hb ?_;have hfe:=L2 W;have hargs0:=tm hfe _ (qJ hC args ha hargs);have hrel:dS ⟨qV args fn.ntmps,[]⟩ { E0 with X:=⟨E0.X.x,fun _=>False,E0.X.r⟩ } { tmps:=V++Array.replicate (fn.ntmps-V.size) undef,defers:=[] }:=by
  refine⟨rfl,?_,FD _ _,W.jl hfe⟩;simp only[qV,Bl,Array.toList_replicate];refine oR hargs0 ?_;have:=ka hargs;have e:args.length=V.size:=by simpa using this
  rw[e];have:=GA (E:={ E0 with X:=⟨E0.X.x,fun _=>False,E0.X.r⟩ }) (cC (fn.ntmps-V.size) undef);simpa using this
 refine wpIn_mono (hs none (LQ _) { E0 with X:=⟨E0.X.x,fun _=>False,E0.X.r⟩ } _ hrel) fun e a1 w0 ⟨h3,loc',X',O,U⟩=>?_;refine⟨by subst h3; rcases g with rfl|rfl; exact .inl rfl; exact .inr rfl,X',O.defers,fun I k1 k2 k3=>?_⟩;obtain⟨O,U⟩:=L1 W O U k1 k2 k3;obtain⟨N,g1,g2⟩:=Gz O fn.results.toList M hr;have hres:(results fn a1.tmps).run P I=.ok (if h:N.toArray.size=1 then N.toArray[0] else .tuple N.toArray) I:=by
  rw[LW];simp only[Sem.run_bind];rw[Array.mapM_eq_mapM_toList,Sem.run_map,g1];rfl
 have g3:=Ht O.heap rfl hc rfl hv g2;have g4:=MY g3;have hext:Ext E.w I:=⟨U.size,fun b hb=>U.same b hb (hown0 b),U.env⟩
 have hcl:(fE d).closed=true:=by
  cases d with
  |nil=>rfl
  | cons v M =>
   cases M with
   |nil=>simpa[fE,AV.bK]using hv
   |cons v2 M=>simpa only[fE,AV.closed]using hv
 have g5:ad { E with w:=I } (fE d) (if h:N.toArray.size=1 then N.toArray[0] else .tuple N.toArray) :=
  fB (E:=({ w:=I,H:=az s'.H,ae:=loc',X:=E0.X.re X'.r }:af).bare I) (E':={ E with w:=I }) ⟨fun b hb=>⟨⟨hb.1,fun ho=>hb.2.2 (Or.inr ho),fun g=>hb.2.2 (Or.inl g)⟩,rfl⟩⟩ _ hcl g4
 refine⟨_,hres,_,fE d,H,rfl,⟨rfl,rfl⟩,E.ae,E.X.r,?_,?_,?_⟩
 ·rw[<-hH]; exact g5
 ·rw[<-hH]; exact HE.ext hext
 ·rw[<-hH]; exact af.lr hext
theorem XL{d:List AV}{v:AV}(h:fE d=v)(g:v.closed=true):AV.bK d=true:=by
 subst h;cases d with
 |nil=>rfl
 | cons v d =>
  cases d with
  |nil=>simpa[fE,AV.bK]using g
  |cons k d=>simpa only[fE,AV.closed]using g
theorem fh{P:aj}{τ:aH}{L:LT}(hm:P.follows .mixedOrders=true)(g:aJ P τ){f:bO}{fn:Func} (ks:List (Option (List Kd))) {args:List AV} {v:AV}
  (k:∀ c,fn.body=some c->aZ P 0 L c)
  (q:P.funcs[f]? = some fn) (ha:AV.bK args=true) (y:v.closed=true) (h:(Hu P τ L fn ks args []).val=some v):dM P f args v:=by
 have h:=Cw h;unfold Hu at h;split at h
 ·rename_i c hb
  obtain⟨x,s',h1,I,U,O,M,N,d⟩:=nf hm g c _ _ (k c hb) (toR_holds h);rw[<-d];exact XK q hb h1 I M N ha (XL d y)
 ·exact h.elim
end Go.AL

namespace Go.AL
open Go
variable [Dr]
def MZ(d:List Nat):aH:={ pf:=fun g=>d.any fun t=>ar g (t+1000000),T:=fun _ _=>none,W:=fun _ _ _=>none,C:=fun _ _ _=>[],U:=fun _=>false }
theorem XM(P:aj)(d:List Nat):aJ P (MZ d):=⟨fun _ _ _ _ h=>(nomatch h),fun _ _ _ _ _ _ h=>(nomatch h),fun _ _ _ _ _ _ h=>(nomatch h),fun _ _ _ _ h=>(nomatch h),fun _ _ _ _=>⟨rfl,rfl⟩,fun _ h=>(nomatch h)⟩
def aH.add(τ:aH)(f:bO)(c:List AV->Option (Bool × AV)):aH where
 pf g:=match ar g f with
  |true=>true
  |false=>τ.pf g
 T g args:=match ar g f with
  |true=>c args
  |false=>τ.T g args
 W:=τ.W
 C:=τ.C
 I:=τ.I
 N:=τ.N
 U:=τ.U
theorem aJ.add{P:aj}{τ:aH}(h:aJ P τ){f:bO}{c:List AV->Option (Bool × AV)}(hb:iD P f=true)(q:∀ args b v,c args=some (b,v)->b=true->dM P f args v) :
  aJ P (τ.add f c):=by
 refine⟨fun g args b v d k=>?_,h.W,h.C,h.I,h.F⟩;simp only[aH.add]at d;split at d
 ·rename_i e
  have e:=bx e;subst e;exact⟨hb,q args b v d k⟩
 ·exact h.T g args b v d k
def bJ:LT:=⟨fun _ _=>none,fun _ s=>(true,s),fun _ _=>none⟩
theorem bL(P:aj)(m:Nat)(c:Code):aZ P m bJ c:=⟨fun _ _ _ _ _ h=>(nomatch h),fun _ _ _=>bF.refl _,fun _ _ _ _ _ h=>(nomatch h)⟩
def aH.inline(P:aj)(τ:aH)(f:bO)(fn:Func) (ks:List (Option (List Kd))):aH:=τ.add f fun args =>
 match (Hu P τ bJ fn ks args []).val with
 | some v=>match AV.bK args&&v.closed with
  |true=>some (true,v)
  |false=>none
 |none=>none
theorem aJ.inline{P:aj}{τ:aH}(h:aJ P τ)(hm:P.follows .mixedOrders=true){f:bO}{fn:Func}(k:P.funcs[f]? = some fn)(hb:iD P f=true) (ks:List (Option (List Kd))) :
  aJ P (τ.inline P f fn ks):=h.add hb fun args b v d _=>by
 split at d
 ·rename_i u q
  split at d
  ·rename_i g
   simp only[aL]at g;cases d;exact fh hm h ks (fun _ _=>bL _ _ _) k g.1 g.2 q
  ·cases d
 ·cases d
abbrev aS(s:BY):AV:=.lit (.string s)
end Go.AL

namespace Go.AL
open Go
variable [Dr]
def zh(ay:Nat)(ks:List Kd)(s:aF):aF:=⟨s.fr.set ay (.vQ ks.length s.H.length 0 0 0),s.H++[.vQ ks 0 []]⟩
def isNil:AV->Bool
 |.nils | .lit (.slice none 0 0)=>true
 |_=>false
theorem M0{E:af}{a:AV}{c:al}(h:isNil a=true)(d:ad E a c):∃ aN,c=.slice aN 0 0:=by
 unfold isNil at h;split at h
 ·simpa only[ad]using d
 ·simp only[ad]at d; exact⟨none,d⟩
 ·cases h
theorem M1{m:Nat}{ay:Nat}{ks:List Kd}{s:aF}(h:isNil (s.fr.getD ay .undef)=true):bF m s.ao (zh ay ks s).ao:=fun E a d=>by
 have hH:E.H=az s.H:=d.H;have q:E.H.length=s.H.length:=by rw[hH,fw]
 have y:E.le (E.push E.w (.vQ ks.length 0 []) none):=af.ma d.heap.len (Ext.refl _) (fun b n h=>by cases h);have I:aY (E.push E.w (.vQ ks.length 0 []) none) E.H.length (.vQ ks.length 0 []):=by
  simp only[aY,af.push];refine .inl ⟨?_,trivial⟩;rw[ja (by rw[d.heap.len]; exact aQ _),d.heap.len,l9];rfl
 have M:aI (E.push E.w (.vQ ks.length 0 []) none):=aI.push d.heap (Ext.refl _) (fun b n h=>by cases h) I;have k:(zh ay ks s).ao.H=E.H++[.vQ ks.length 0 []]:=by
  rw[hH];simp[zh,aF.ao,az,au.ao]
 refine⟨E.ae++[none],E.X,?_,?_⟩
 ·rw [k]
  refine⟨k.symm,?_,d.defers,M⟩;have h':=en y _ d.fr;have O:∀(fr:List AV) (cs:List al) (i:Nat),aw E fr cs->isNil (fr.getD i .undef)=true->aw (E.push E.w (.vQ ks.length 0 []) none) fr cs ->
    aw (E.push E.w (.vQ ks.length 0 []) none) (fr.set i (.vQ ks.length s.H.length 0 0 0)) cs:=by
   intro fr
   induction fr with
   |nil=>intro cs i h0 h1 g; exact g
   | cons b fr U =>
    intro cs i h0 h1 g;cases cs with
    |nil=>simp[aw]at h0
    | cons c cs =>
     simp only[aw]at h0 g;cases i with
     | zero =>
      simp only[List.set_cons_zero,aw];refine⟨?_,g.2⟩;obtain⟨aN,rfl⟩:=M0 (by simpa using h1) h0.1;have V:(E.push E.w (.vQ ks.length 0 []) none).H[s.H.length]? = some (.vQ ks.length 0 []):=by
       simp only[af.push];rw[ja (by omega),q,l9];rfl
      have N:(E.push E.w (.vQ ks.length 0 []) none).ae[s.H.length]? = some none:=by
       simp only[af.push];rw[ja (by rw[d.heap.len]; omega),d.heap.len,q,l9];rfl
      simp only[ad];refine⟨⟨aN,0,rfl,aQ _,fun h=>absurd h (Bp _)⟩,⟨_,V,rfl,fun v h=>eR _⟩,fun _=>⟨fun _=>⟨trivial,trivial,aN,rfl⟩,fun b m hb=>?_⟩⟩;rw[N]at hb;cases hb
     | succ i =>
      simp only[List.set_cons_succ,aw];exact⟨g.1,U cs i h0.2 (by simpa using h1) g.2⟩
  exact O s.fr _ ay d.fr h h'
 ·rw [k]
  exact y.toM
def zi(fn:Func)(k:Nat):Code:=match fn.body with
 | some c=>match (cw c).find? fun p=>ar p.1 k with
  |some p=>p.2
  |none=>.skip
 |none=>.skip
theorem zk{P:aj}{f:bO}{vs:List al}{u:al}(h:∀ w,Calls P f vs.toArray w fun e w'=>e=.returned u/\Ext w w'):dM P f (vs.map .lit) (.lit u):=by
 intro H E g hH HE q;have e:g=vs.toArray:=by
  have:∀(vs d:List al),aw E (vs.map AV.lit) d->d=vs:=by
   intro vs
   induction vs with
   | nil=>intro d h; cases d with
    |nil=>rfl
    |cons _ _=>simp[aw]at h
   | cons v vs y =>
    intro d h;cases d with
    |nil=>simp[aw]at h
    | cons u d =>
     simp only[dx,aw,ad]at h;rw[h.1,y d h.2]
  have:=this vs g.toList q;rw[<-this]
 rw[e];refine(h E.w).mono ?_;rintro _ w' ⟨rfl,k⟩;refine⟨u,.lit u,H,rfl,⟨rfl,rfl⟩,E.ae,E.X.r,by simp[ad],?_,?_⟩
 ·rw[<-hH]; exact HE.ext k
 ·rw[<-hH]; exact af.lr k
end Go.AL

namespace Go.AL
open Go
variable [Dr]
def qb(ks:List Kd):AV->Option LL
 |.nils | .lit (.slice none 0 0)=>some []
 |.emptyS _=>some []
 |.listF d rZ=>if Kd.gN ks d then some rZ else none
 | .list w rZ=>match bN ks rZ with
  |some g=>if w=ks.length then some g else none
  |none=>none
 |_=>none
def Hv(ks:List Kd):AV->Option LG
 |.agg cells=>iE ks cells
 |_=>none
theorem M2{E:af}{ks:List Kd}{a:AV}{rZ:LL}{c:al}(h:qb ks a=some rZ)(d:ad E a c):ad E (.listF ks rZ) c:=by
 unfold qb at h;split at h
 ·cases h
  simp only[ad,fk,G.rZ]at d|-;obtain⟨aN,rfl⟩:=d;exact⟨aN,0,rfl,aQ _,.inl trivial⟩
 ·cases h
  simp only[ad,fk,G.rZ]at d|-;subst d;exact⟨none,0,rfl,aQ _,.inl trivial⟩
 ·cases h
  simp only[ad,fk,G.rZ]at d|-;obtain⟨aN,cap,rfl,_⟩:=d;exact⟨aN,cap,rfl,eR _,.inl trivial⟩
 ·split at h
  ·rename_i g
   cases h;rw[Kd.iS g];exact d
  ·cases h
 ·split at h
  ·rename_i v k
   split at h
   ·rename_i q
    cases h;rw[kf,qY k];subst q;exact d
   ·cases h
  ·cases h
 ·cases h
theorem M3{ks:List Kd}{a:AV}{r:LG}(h:Hv ks a=some r):a=.agg (aT ks r):=by
 unfold Hv at h;split at h
 ·rw[mo h]
 ·cases h
end Go.AL

namespace Go.AL
open Go
variable [Dr]
structure cy where
 aA:List Nat
 sh:List Nat
 aN:Nat
def cy.at(e:cy)(j:Nat):Nat:=match e.aA[j]? with
 |some i=>i
 |none=>e.aN+(j-e.aA.length)
def cy.up(e:cy)(j:Nat):Nat:=e.sh.getD j 0
mutual
def AV.cG(e:cy):AV->AV
 |.agg cs=>.agg (AV.mu e cs)
 |.tuple cs=>.tuple (AV.mu e cs)
 |.clo f cs=>.clo f (AV.mu e cs)
 |.ptr id ak k row d=>.ptr (e.at id) (ak+e.up id) k row d
 |.vQ k id ak oF n=>.vQ k (e.at id) (ak+e.up id) oF n
 |.map id=>.map (e.at id)
 |.sub ..=>.undef
 |.svec ..=>.undef
 |.sptr ..=>.undef
 |a=>a
def AV.mu(e:cy):List AV->List AV
 | []=>[]
 |a::as=>a.cG e::AV.mu e as
end
def ai.cG(e:cy)(j:Nat):ai->ai
 |.box cells=>.box (AV.mu e cells)
 |.vQ k v rZ=>.vQ k (v+e.up j) rZ
 |o=>o
theorem M4(e:cy):∀(as:List AV),(AV.mu e as).length=as.length
 | []=>rfl
 |_::as=>by simp[AV.mu,M4 e as]
mutual
def AV.bP:AV->Bool
 |.agg cs | .tuple cs | .clo _ cs=>AV.c7 cs
 |.list .. | .listF .. | .cptr _=>false
 |_=>true
def AV.c7:List AV->Bool
 | []=>true
 |a::as=>a.bP&&AV.c7 as
end
structure tG (S:Bool) (e:cy) (E E':af):Prop where
 ok:S=false->∀ b,E.kM b->E'.kM b/\E'.w.heap[b]? = E.w.heap[b]?
 bu:∀ j ak,E.bu j ak->E'.bu (e.at j) (ak+e.up j)
 live:∀ j ak,E.bu j ak->E'.live (e.at j) (ak+e.up j)->E.live j ak/\E'.ae[e.at j]? = E.ae[j]?
theorem tG.bT{e:cy}{E E':af}(h:tG false e E E'):E.bT E':=⟨h.ok rfl⟩
mutual
theorem Hw{S:Bool}{e:cy}{E E':af}(h:tG S e E E'):∀(a:AV) {c:al},(S=true->a.bP=true)->ad E a c->ad E' (a.cG e) c
 |.undef,_,_,_=>by simp[AV.cG,ad]
 |.lit v,c,_,d=>by simpa only[AV.cG,ad]using d
 |.nils,c,_,d=>by simpa only[AV.cG,ad]using d
 | .list k rZ,c,q,d=>by
  cases S with
  |true=>exact absurd (q rfl) (by simp[AV.bP])
  |false=>exact fB h.bT (.list k rZ) rfl d
 | .listF ks rZ,c,q,d=>by
  cases S with
  |true=>exact absurd (q rfl) (by simp[AV.bP])
  |false=>exact fB h.bT (.listF ks rZ) rfl d
 | .cptr cells,c,q,d=>by
  cases S with
  |true=>exact absurd (q rfl) (by simp[AV.bP])
  |false=>exact fB h.bT (.cptr cells) rfl d
 |.ifc,c,_,d=>by simpa only[AV.cG,ad]using d
 |.emptyS n,c,_,d=>by simpa only[AV.cG,ad]using d
 |.sub ..,c,_,_=>by simp only[AV.cG,ad]
 |.svec ..,c,_,_=>by simp only[AV.cG,ad]
 |.sptr ..,c,_,_=>by simp only[AV.cG,ad]
 | .agg cells,c,q,d=>by
  simp only[ad]at d;simp only[AV.cG,ad];obtain⟨cs,I,h1,g⟩:=d;exact⟨cs,I,h1,Cx h cells (fun e=>by simpa only[AV.bP]using q e) g⟩
 | .tuple cells,c,q,d=>by
  simp only[ad]at d;simp only[AV.cG,ad];obtain⟨cs,I,g⟩:=d;exact⟨cs,I,Cx h cells (fun e=>by simpa only[AV.bP]using q e) g⟩
 | .clo f cells,c,q,d=>by
  simp only[ad]at d;simp only[AV.cG,ad];obtain⟨cs,I,g⟩:=d;exact⟨cs,I,Cx h cells (fun e=>by simpa only[AV.bP]using q e) g⟩
 | .ptr id ak k row col,c,_,d=>by
  simp only[ad]at d;simp only[AV.cG,ad];obtain⟨h1,g,M⟩:=d;refine⟨h1,h.bu _ _ g,fun y=>?_⟩;obtain⟨N,O⟩:=h.live _ _ g y;rw[O];exact M N
 | .vQ k id ak oF n,c,_,d=>by
  simp only[ad]at d;simp only[AV.cG,ad];obtain⟨h1,g,M⟩:=d;refine⟨h1,h.bu _ _ g,fun y=>?_⟩;obtain⟨N,O⟩:=h.live _ _ g y;rw[O];exact M N
 | .map id,c,_,d=>by
  simp only[ad]at d;simp only[AV.cG,ad];obtain⟨h1,g,M⟩:=d;have W:=h.bu _ _ g;refine⟨h1,?_,fun y=>?_⟩
  ·obtain ⟨o, U, V⟩ := W
   exact⟨o,U,V.1,fun v hv=>eR _⟩
  ·have hu:e.up id=0:=by
    obtain⟨o,U,V⟩:=W;obtain⟨o2,q3,q4⟩:=y;rw[U]at q3;cases q3;have:=V.2 0 q4;omega
   obtain⟨N,O⟩:=h.live _ _ g (by rw[hu]; exact y);rw[O];exact M N
theorem Cx{S:Bool}{e:cy}{E E':af}(h:tG S e E E'):∀(as:List AV) {g:List al},(S=true->AV.c7 as=true)->aw E as g->aw E' (AV.mu e as) g
 | [],[],_,_=>by simp[AV.mu,aw]
 | [],_::_,_,d=>by simp[aw]at d
 |_::_,[],_,d=>by simp[aw]at d
 | a::as,v::g,k,d=>by
  simp only[AV.c7,aL]at k;simp only[aw]at d;simp only[AV.mu,aw];exact⟨Hw h a (fun e=>(k e).1) d.1,Cx h as (fun e=>(k e).2) d.2⟩
end
structure KeepIn (e:cy) (E E':af):Prop where
 ok:∀ b,E.kM b->E'.kM b/\E'.w.heap[b]? = E.w.heap[b]?
 w:E'.w=E.w
 ae:∀ j,j<e.aA.length->E'.ae[j]? = E.ae[e.at j]?
 lH:∀(j:Nat) o l,E'.H[j]? = some o->o.label=some l->E'.X.r l=E.X.r l
theorem KeepIn.bT{e:cy}{E E':af}(h:KeepIn e E E'):E.bT E':=⟨h.ok⟩
structure vR (e:cy) (lI:List Nat) (E E':af):Prop extends KeepIn e E E' where
 XN:∀ i,i∈lI->∀ b n,E.ae[i]? = some (some (b,n))->E'.kM b
def fF{α:Type}:List α->List Nat->List α->List α
 |l,i::d,x::g=>fF (l.set i x) d g
 |l,_,_=>l
theorem rr{α:Type}:∀(d:List Nat) (l g:List α),(fF l d g).length=l.length
 | [],_,_=>by simp[fF]
 |_::_,_,[]=>by simp[fF]
 |i::d,l,x::g=>by simp[fF,rr d]
theorem Cy{α:Type}:∀(d:List Nat) (l g:List α) (n:Nat),n∉d->(fF l d g)[n]? = l[n]?
 | [],_,_,_,_=>by simp[fF]
 |_::_,_,[],_,_=>by simp[fF]
 | i::d,l,x::g,n,h=>by
  simp only[cq,not_or]at h;simp only[fF];rw[Cy d _ g n h.2,bf (Ne.symm h.1)]
theorem M5{α:Type}:∀(d:List Nat) (l g:List α) (j i:Nat) (x:α),d.Nodup->d[j]? = some i->g[j]? = some x->i<l.length->(fF l d g)[i]? = some x
 | [],_,_,_,_,_,_,h,_,_=>by simp at h
 |_::_,_,[],_,_,_,_,_,h,_=>by simp at h
 | k::d,l,y::g,0,i,x,v,h1,q,I=>by
  simp at h1 q;subst h1; subst q;simp only[fF];have:k∉d:=(pL.1 v).1;rw[Cy d _ g k this,List.getElem?_set_self I]
 | k::d,l,y::g,j+1,i,x,v,h1,q,I=>by
  simp only[fF];exact M5 d _ g j i x (pL.1 v).2 (by simpa using h1) (by simpa using q) (by simpa using I)
def ai.Cz(e:cy)(j:Nat):ai->Bool
 |.dead=>true
 |.vQ _ _ _=>true
 |_=>ar (e.up j) 0
def ng(e:cy):Nat->List ai->List ai
 |_,[]=>[]
 |j,o::os=>o.cG e j::ng e (j+1) os
def kq(e:cy):Nat->List ai->Bool
 |_,[]=>true
 |j,o::os=>o.Cz e j&&kq e (j+1) os
theorem Hx(e:cy):∀(j:Nat) (os:List ai),(ng e j os).length=os.length
 |_,[]=>rfl
 |j,_::os=>by simp[ng,Hx e (j+1) os]
theorem M6(e:cy):∀(j:Nat) (os:List ai) (i:Nat),(ng e j os)[i]? = (os[i]?).map (ai.cG e (j+i))
 |_,[],i=>by simp[ng]
 |j,o::os,0=>by simp[ng]
 | j,o::os,i+1=>by
  simp only[ng,List.getElem?_cons_succ,M6 e (j+1) os i];rw[show j+1+i=j+(i+1) from by omega]
theorem M7{e:cy}:∀{j:Nat} {os:List ai} {i:Nat} {o:ai},kq e j os=true->os[i]? = some o->o.Cz e (j+i)=true
 |_,[],i,_,_,h=>by simp at h
 | j,_::os,0,o,h,hi=>by
  simp only[kq,aL]at h;simp at hi;subst hi;exact h.1
 | j,_::os,i+1,o,h,hi=>by
  simp only[kq,aL]at h;have:=M7 h.2 (by simpa using hi)
  rwa [show j+1+i=j+(i+1) from by omega]at this
theorem zl{e:cy}{j:Nat}{o:ai}(h:o.Cz e j=true)(v:Nat):(o.cG e j).aU = some v↔∃ u,o.aU = some u/\v=u+e.up j:=by
 cases o with
 |dead=>simp[ai.cG,ai.aU]
 |fA=>simp[ai.cG,ai.aU]
 |vQ k u rZ=>simp[ai.cG,ai.aU,eq_comm]
 | box cells =>
  have:=bx h;simp[ai.cG,ai.aU,this,eq_comm]
 | map d cl =>
  have:=bx h;simp[ai.cG,ai.aU,this,eq_comm]
 | iter s p =>
  have:=bx h;simp[ai.cG,ai.aU,this,eq_comm]
 | gx l T B s =>
  have:=bx h;simp[ai.cG,ai.aU,this,eq_comm]
 | a7 l k d cl =>
  have:=bx h;simp[ai.cG,ai.aU,this,eq_comm]
 | mm l d g cl =>
  have:=bx h;simp[ai.cG,ai.aU,this,eq_comm]
 | cM l k n g =>
  have:=bx h;simp[ai.cG,ai.aU,this,eq_comm]
 | bH l k d cl =>
  have:=bx h;simp[ai.cG,ai.aU,this,eq_comm]
theorem M8(e:cy)(j:Nat)(o:ai):(o.cG e j).born=o.born:=by cases o<;>rfl
theorem M9(e:cy)(j:Nat)(o:ai):(o.cG e j).label=o.label:=by cases o<;>rfl
theorem XO(e:cy)(j:Nat)(o:ai):(o.cG e j).dR=o.dR:=by cases o<;>rfl
theorem M_{k:AV}(h:k.bP=true):(gY k).1.bP=true/\(gY k).2.bP=true:=by
 unfold gY;split
 ·simpa only[AV.bP,AV.c7,gW,aL]using h
 ·exact⟨h,rfl⟩
def ai.bP:ai->Bool
 |.box cells=>AV.c7 cells
 |.vQ _ _ rZ=>rZ.all fun r=>AV.c7 r
 |.map d _=>d.all fun x=>x.1.bP&&x.2.1.bP
 | .a7 _ _ d _=>d.all fun x=>x.1.bP&&(match x.2.1 with
  |some rZ=>rZ.all fun r=>AV.c7 r
  |none=>true)
 |.mm _ d g _=>(d.all fun x=>x.1.bP)&&g.all fun m=>m.1.all fun x=>x.1.bP&&x.2.1.bP
 |.cM _ _ _ g=>g.all fun rZ=>rZ.all fun r=>AV.c7 r
 | .bH _ _ d _=>d.all fun x=>x.1.bP&&((match x.2.1.1 with
  |some rZ=>rZ.all fun r=>AV.c7 r
  |none=>true)&&(match x.2.1.2 with
  |some rZ=>rZ.all fun r=>AV.c7 r
  |none=>true))
 |_=>true
theorem Na{S:Bool}{e:cy}{E E':af}(h:tG S e E E'){b:Nat}(hb:E'.w.heap[b]? = E.w.heap[b]?):∀(as:List AV) {o:Nat},(S=true->AV.c7 as=true)->cU E as b o->cU E' (AV.mu e as) b o
 | [],_,_,_=>by simp[AV.mu,cU]
 | a::as,o,d,g=>by
  simp only[AV.c7,aL]at d;simp only[cU]at g;simp only[AV.mu,cU];obtain⟨⟨v,h1,k,q⟩,y⟩:=g;exact⟨⟨v,by rw[World.uP hb]; exact h1,k,Hw h a (fun e=>(d e).1) q⟩,Na h hb as (fun e=>(d e).2) y⟩
mutual
theorem CA{E E':af}:∀(a:AV) {c:al},a.closed=true->a.bP=true->ad E a c->ad E' a c
 |.undef,_,_,_,_=>by simp[ad]
 |.lit v,c,_,_,d=>by simpa only[ad]using d
 |.nils,c,_,_,d=>by simpa only[ad]using d
 |.ifc,c,_,_,d=>by simpa only[ad]using d
 |.emptyS n,c,_,_,d=>by simpa only[ad]using d
 |.list ..,_,_,h,_ | .listF ..,_,_,h,_ | .cptr _,_,_,h,_=>by simp[AV.bP]at h
 |.ptr ..,_,h,_,_ | .vQ ..,_,h,_,_ | .map _,_,h,_,_=>by simp[AV.closed]at h
 | .agg cells,c,g,k,d=>by
  simp only[ad]at d|-;obtain⟨cs,e,h1,q⟩:=d;exact⟨cs,e,h1,CB cells (by simpa only[AV.closed]using g) (by simpa only[AV.bP]using k) q⟩
 | .tuple cells,c,g,k,d=>by
  simp only[ad]at d|-;obtain⟨cs,e,q⟩:=d;exact⟨cs,e,CB cells (by simpa only[AV.closed]using g) (by simpa only[AV.bP]using k) q⟩
 | .clo f cells,c,g,k,d=>by
  simp only[ad]at d|-;obtain⟨cs,e,q⟩:=d;exact⟨cs,e,CB cells (by simpa only[AV.closed]using g) (by simpa only[AV.bP]using k) q⟩
theorem CB{E E':af}:∀(as:List AV) {g:List al},AV.bK as=true->AV.c7 as=true->aw E as g->aw E' as g
 | [],[],_,_,_=>by simp[aw]
 | [],_::_,_,_,d=>by simp[aw]at d
 |_::_,[],_,_,d=>by simp[aw]at d
 | a::as,v::g,h,k,d=>by
  simp only[AV.bK,AV.c7,aL]at h k;simp only[aw]at d|-;exact⟨CA a h.1 k.1 d.1,CB as h.2 k.2 d.2⟩
end
theorem Nb{E E':af}{b:Nat}(hb:E'.w.heap[b]? = E.w.heap[b]?):∀(as:List AV) {o:Nat},AV.bK as=true->AV.c7 as=true->cU E as b o->cU E' as b o
 | [],_,_,_,_=>by simp[cU]
 | a::as,o,d,g,h=>by
  simp only[AV.bK,AV.c7,aL]at d g;simp only[cU]at h|-;obtain⟨⟨v,h1,k,q⟩,y⟩:=h;exact⟨⟨v,by rw[World.uP hb]; exact h1,k,CA a d.1 g.1 q⟩,Nb hb as d.2 g.2 y⟩
theorem zm{E E':af}{b k:Nat}(hb:E'.w.heap[b]? = E.w.heap[b]?):∀(rs:List (List AV)) {o:Nat},fq rs->(rs.all fun r=>AV.c7 r)=true->cX E k rs b o->cX E' k rs b o
 | [],_,_,_,_=>by simp[cX]
 | r::rs,o,h,g,d=>by
  simp only[nK,aL]at g;simp only[cX]at d|-;exact⟨d.1,Nb hb r (h r cW) g.1 d.2.1,zm hb rs (fun x q=>h x (dj _ q)) g.2 d.2.2⟩
theorem vS{E E':af}:∀{g:List (AV × AV × Nat)} {q:List MapEntry},(g.all fun x=>x.1.bP&&x.2.1.bP)=true->bI E g q->bI E' g q
 | [],[],_,_=>by simp[bI]
 | (k,v,n)::g,e::q,h,d=>by
  simp only[nK,aL]at h;simp only[bI]at d|-;obtain⟨h1,M,N,y,I,O⟩:=d;exact⟨CA k y h.1.1 h1,CA v I h.1.2 M,N,y,I,vS h.2 O⟩
 | [],_::_,_,d=>by simp[bI]at d
 |_::_,[],_,d=>by simp[bI]at d
theorem kr{E E':af}(h:E.bT E'):∀{g:List (AV × AV × Nat)} {q:List MapEntry},bI E g q->bI E' g q
 | [],[],_=>by simp[bI]
 | (k,v,n)::g,e::q,d=>by
  simp only[bI]at d|-;obtain⟨h1,M,N,y,I,O⟩:=d;exact⟨fB h k y h1,fB h v I M,N,y,I,kr h O⟩
 | [],_::_,d=>by simp[bI]at d
 |_::_,[],d=>by simp[bI]at d
theorem XP{S:Bool}{e:cy}{E E':af}(h:tG S e E E'){j:Nat}{o:ai}(hS:S=true->o.bP=true)(U:E'.ae[e.at j]? = E.ae[j]?) (hb:∀ b n,E.ae[j]? = some (some (b,n))->E'.w.heap[b]? = E.w.heap[b]?)
  (hg:∀ l,o.label=some l->E'.X.r l=E.X.r l/\∀(h g m:Nat),(E.X.r l)[h]? = some (some (some (g,m)))->E'.w.heap[g]? = E.w.heap[g]?)
  (ho:aY E j o):aY E' (e.at j) (o.cG e j):=by
 cases o with
 |dead=>simp only[ai.cG,aY]at *; rw[U]; exact ho
 |fA=>simp only[ai.cG,aY]at *; rw[U]; exact ho
 | box cells =>
  simp only[ai.cG,aY]at *;obtain⟨b,n,h1,I,M⟩:=ho;exact⟨b,n,by rw[U,h1],by rw[M4]; exact uR (hb b n h1) I,Na h (hb b n h1) cells (fun e=>by simpa only[ai.bP]using hS e) M⟩
 | vQ k ak rZ =>
  simp only[ai.cG,aY]at *;rcases ho with⟨h1,I⟩|⟨b,m,h1,I,M,V,d⟩
  ·exact .inl ⟨by rw[U,h1],I⟩
  ·refine .inr ⟨b, m, by rw [U, h1], uR (hb b m h1) I, M, V, ?_⟩
   cases S with
   |true=>exact zm (hb b m h1) rZ V (by simpa only[ai.bP]using hS rfl) d
   |false=>exact kN h.bT rZ V (hb b m h1) d
 | map es clock =>
  simp only[ai.cG,aY]at *;obtain⟨b,n,ms,h1,I,M⟩:=ho;refine⟨b,n,ms,by rw[U,h1],by rw[hb b n h1,I],?_⟩;cases S with
  |true=>exact vS (by simpa only[ai.bP]using hS rfl) M
  |false=>exact kr h.bT M
 | iter s pos =>
  simp only[ai.cG,aY]at *;obtain⟨b,n,h1,I⟩:=ho;exact⟨b,n,by rw[U,h1],by rw[hb b n h1,I]⟩
 | gx l T B s =>
  simp only[ai.cG,aY]at *;obtain⟨b,n,p,v,k,q,h1,I,M,V,d,h6⟩:=ho;obtain⟨W,g2⟩:=hg l rfl;exact⟨b,n,p,v,k,q,by rw[U,h1],by rw[hb b n h1,I],M,by rw[W,V],by rw[W]; exact d,Fw (fun g m e=>g2 k g m (by rw[V,e])) h6⟩
 | a7 l k es clock =>
  simp only[ai.cG,aY]at *;obtain⟨b,n,ms,h1,I,M,V⟩:=ho;obtain⟨W,g2⟩:=hg l rfl;have hsol:S=true->∀ x∈es,x.1.bP=true/\∀ rZ,x.2.1=some rZ->(rZ.all fun r=>AV.c7 r)=true:=fun e x O=>by
   have d:=dK.1 (by simpa only[ai.bP]using hS e) x O;simp only[aL]at d;exact⟨d.1,fun rZ N=>by rw[N]at d; exact d.2⟩
  refine⟨b,n,ms,by rw[U,h1],by rw[hb b n h1,I],?_,yb (fun h g m hk=>⟨by rw[W]; exact hk,g2 h g m hk⟩) (fun i x rZ hi O b hb2 hc N=>?_) V⟩
  ·cases S with
   | true =>
    refine vS (dK.2 fun x O=>?_) M;obtain⟨y,hy,rfl⟩:=dw.1 O;simp[(M_ (hsol rfl y hy).1).1,(M_ (hsol rfl y hy).1).2]
   |false=>exact kr h.bT M
  ·cases S with
   |true=>exact zm hb2 rZ hc ((hsol rfl x (eO hi)).2 rZ O) N
   |false=>exact kN h.bT rZ hc hb2 N
 | mm l es ms clock =>
  simp only[ai.cG,aY]at *;obtain⟨b,n,mes,h1,I,M,V⟩:=ho;obtain⟨W,g2⟩:=hg l rfl;have hsol:S=true->(es.all fun x=>x.1.bP)=true/\∀ m∈ms,(m.1.all fun x=>x.1.bP&&x.2.1.bP)=true:=fun e=>by
   have d:=hS e;simp only[ai.bP,aL]at d;exact⟨d.1,dK.1 d.2⟩
  refine⟨b,n,mes,by rw[U,h1],by rw[hb b n h1,I],?_,Fy W g2 (fun m hm q hq=>?_) V⟩
  ·cases S with
   | true =>
    refine vS (dK.2 fun x O=>?_) M;obtain⟨y,hy,rfl⟩:=dw.1 O;simp[dK.1 (hsol rfl).1 y hy,AV.bP]
   |false=>exact kr h.bT M
  ·cases S with
   |true=>exact vS ((hsol rfl).2 m hm) hq
   |false=>exact kr h.bT hq
 | cM l k n ms =>
  simp only[ai.cG,aY]at *;obtain⟨b,m,cs,el,h1,I,M⟩:=ho;obtain⟨W,g2⟩:=hg l rfl;refine⟨b,m,cs,el,by rw[U,h1],by rw[hb b m h1,I],FA W g2 (fun rZ hm b hb2 hc N=>?_) M⟩;cases S with
  |true=>exact zm hb2 rZ hc (dK.1 (by simpa only[ai.bP]using hS rfl) rZ hm) N
  |false=>exact kN h.bT rZ hc hb2 N
 | bH l k es clock =>
  simp only[ai.cG,aY]at *;obtain⟨b,n,ms,h1,I,M,V⟩:=ho;obtain⟨W,g2⟩:=hg l rfl;have hsol:S=true->∀ x∈es,x.1.bP=true/\∀ s rZ,(gK s x).2.1=some rZ->(rZ.all fun r=>AV.c7 r)=true:=fun e x O=>by
   have d:=dK.1 (by simpa only[ai.bP]using hS e) x O;simp only[aL]at d;refine⟨d.1,fun s rZ N=>?_⟩;cases s with
   | true =>
    have N:x.2.1.2=some rZ:=N;rw[N]at d;exact d.2.2
   | false =>
    have N:x.2.1.1=some rZ:=N;rw[N]at d;exact d.2.1
  refine⟨b,n,ms,by rw[U,h1],by rw[hb b n h1,I],?_,BA (fun h g m hk=>⟨by rw[W]; exact hk,g2 h g m hk⟩) (fun s i x rZ hi O b hb2 hc N=>?_) V⟩
  ·cases S with
   | true =>
    refine vS (dK.2 fun x O=>?_) M;obtain⟨y,hy,rfl⟩:=dw.1 O;simp[(hsol rfl y hy).1,AV.bP]
   |false=>exact kr h.bT M
  ·cases S with
   |true=>exact zm hb2 rZ hc ((hsol rfl x (eO hi)).2 s rZ O) N
   |false=>exact kN h.bT rZ hc hb2 N
def o9(e:cy)(H H1:List ai):List ai:=fF H e.aA (ng e 0 H1)++(ng e 0 H1).drop e.aA.length
theorem jF{e:cy}{j:Nat}(h:j<e.aA.length):e.aA[j]? = some (e.at j):=by
 simp[cy.at,h]
theorem vT{e:cy}{j:Nat}(h:e.aA.length<=j):e.at j=e.aN+(j-e.aA.length):=by
 simp[cy.at,List.getElem?_eq_none h]
theorem Nc{α:Type}{e:cy}{H xs:List α}(k:e.aA.Nodup)(d:∀ j,j<e.aA.length->e.at j<H.length)(hb:e.aN=H.length)(q:e.aA.length<=xs.length)(j:Nat) :
  (fF H e.aA xs++xs.drop e.aA.length)[e.at j]? = xs[j]? := by
 rcases l5 j e.aA.length with h|h
 ·rw [di (by rw [rr]; exact d j h)]
  have g:j<xs.length:=eQ h q;rw[M5 e.aA H xs j (e.at j) xs[j] k (jF h) (bY g) (d j h),bY g]
 ·rw [vT h, hb, ja (by rw [rr]; omega), rr, sI]
  congr 1;omega
theorem Hy{α:Type}{e:cy}{H d:List α}{i:Nat}(hi:i∉e.aA)(g:i<H.length):(fF H e.aA d++d.drop e.aA.length)[i]? = H[i]? := by
 rw[di (by rw[rr]; exact g),Cy e.aA H d i hi]
theorem ru{α:Type}{e:cy}{H g:List α}{i:Nat}{x:α}(hb:e.aN=H.length)(h:(fF H e.aA g++g.drop e.aA.length)[i]? = some x) :
  (i∉e.aA/\i<H.length/\H[i]? = some x)\/∃ j,i=e.at j:=by
 by_cases hm:i∈e.aA
 ·right
  obtain⟨j,k,rfl⟩:=pG hm;refine⟨j,?_⟩;have:=jF k;rw[bY k]at this;exact(jd this)
 ·rcases l5 i H.length with d | q
  ·left
   exact⟨hm,d,by rw[Hy hm d]at h; exact h⟩
  ·right
   refine⟨e.aA.length+(i-H.length),?_⟩;rw[vT (by omega)];omega
theorem XQ(S:Bool)(lI:List Nat){P:aj}{f:bO}{args:List AV}{H0 H:List ai}{α:Type}{Ps:α->Prop}{Vf:α->AV}{Hf:α->List ai}{e:cy}(hc:pY P f args H0 fun v H'=>∃ p,Ps p/\v=Vf p/\H'=Hf p)(hk:e.aA.length=H0.length)(hb:e.aN=H.length)(hn:e.aA.Nodup)
  (hver:∀ j o,H0[j]? = some o->∃ o',H[e.at j]? = some o'/\o.born=true/\∀ v,o'.aU = some v↔∃ u,o.aU = some u/\v=u+e.up j)
  (hobj:∀ E E0,E.H=H->aI E->vR e lI E E0->E0.H=H0->∀ j o,H0[j]? = some o->aY E0 j o) (hu1:∀ p,Ps p->kq e 0 (Hf p)=true) (hl1:∀ p,Ps p->H0.length<=(Hf p).length) (hlent:S=false->lI=[])
  (hSv:S=true->∀ p,Ps p->(Vf p).bP=true) (hSo:S=true->∀ p,Ps p->((Hf p).all ai.bP)=true) (hdis:∀ i,i∈lI->i∉e.aA)
  (hlab:∀(j:Nat) o o',H0[j]? = some o->H[e.at j]? = some o'->o'.label=o.label) (hlab1:∀ p,Ps p->∀(j:Nat) o l,(Hf p)[j]? = some o->o.label=some l->∃ o0,H0[j]? = some o0/\o0.label=some l)
  (hlabm:∀(j:Nat) o o',H0[j]? = some o->H[e.at j]? = some o'->o'.dR=o.dR) {gD:List AV}
  (hargs0:∀ E E0 cs,E.H=H->aI E->vR e lI E E0->E0.H=H0->aw E gD cs->aw E0 args cs) :
  pY P f gD H fun v H'=>∃ p,Ps p/\v=(Vf p).cG e/\H'=o9 e H (Hf p):=by
 intro E cargs U HE hargs;have hElen:E.ae.length=H.length:=by rw[HE.len,U]
 have hat:∀ j,j<e.aA.length->e.at j<H.length:=fun j I=>by
  have hj':j<H0.length:=by omega
  obtain⟨o',h1,_⟩:=hver j H0[j] (bY hj');exact aV h1
 have hmem:∀ j,j<e.aA.length->e.at j∈e.aA:=fun j I=>eO (jF I)
 let O:Nat->Prop:=fun l=>∃(j:Nat) (o:ai),H0[j]? = some o/\o.label=some l
 have:DecidablePred O:=fun l=>Classical.propDecidable (O l)
 let r0:Nat->List (Option (Option (Nat × Nat))):=fun l=>if O l then E.X.r l else []
 have r0p:∀ l,O l->r0 l=E.X.r l:=fun l h=>iP h;have r0n:∀ l (h:Nat) q,(r0 l)[h]? = some q->O l/\(E.X.r l)[h]? = some q:=fun l h q hq=>by
  by_cases y:O l
  ·rw[r0p l y]at hq; exact⟨y,hq⟩
  ·rw[show r0 l=[] from iN y]at hq; simp at hq
 let X0:XS:=⟨fun b=>E.X b\/(∃ i c,i∉e.aA/\i∉lI/\E.ae[i]? = some (some (b,c)))\/∃(l h m:Nat),¬ O l/\(E.X.r l)[h]? = some (some (some (b,m))),E.X.z,r0⟩
 let loc0:List (Option (Nat × Nat)):=e.aA.map fun i=>E.ae.getD i none
 let E0:af:={ w:=E.w,H:=H0,ae:=loc0,X:=X0 }
 have hloc0:∀ j,j<e.aA.length->loc0[j]? = E.ae[e.at j]? := fun j I=>by
  simp only[loc0,bW,jF I,e_];have:e.at j<E.ae.length:=by rw[hElen]; exact hat j I
  rw[cu,bY this];rfl
 have hlen0:loc0.length=e.aA.length:=by simp[loc0]
 have hpast:∀ j ak,E.bu (e.at j) ak->j<e.aA.length:=by
  rintro j ak ⟨o,ho,_⟩;rcases l5 j e.aA.length with h|h
  ·exact h
  ·have := aV ho
   rw[U,vT h,hb]at this;omega
 have hobj0:∀ j,j<e.aA.length->∃ o o',H0[j]? = some o/\E.H[e.at j]? = some o'/\o.born=true/\∀ v,o'.aU = some v↔∃ u,o.aU = some u/\v=u+e.up j:=fun j I=>by
  have hj':j<H0.length:=by omega
  obtain⟨o',h1,d⟩:=hver j H0[j] (bY hj');exact⟨H0[j],o',bY hj',by rw[U]; exact h1,d⟩
 have hown0:∀ b,E0.ab b->E.ab b:=by
  rintro b (⟨id,c,hid⟩|⟨l,k,c,N⟩)
  case inr=>exact .inr ⟨l,k,c,(r0n l k _ N).2⟩
  have M:=aV hid;rw[show E0.ae=loc0 from rfl]at hid M;rw[hlen0]at M;rw[hloc0 id M]at hid;exact .inl ⟨_,c,hid⟩
 have hin:KeepIn e E E0:=by
  refine⟨fun b hbk=>⟨⟨hbk.1,fun ho=>hbk.2.1 (hown0 b ho),?_⟩,rfl⟩,rfl,hloc0,fun j o l h1 d=>r0p l ⟨j,o,h1,d⟩⟩;rintro(V|⟨i,c,_,_,hi⟩|⟨l,k,c,_,N⟩)
  ·exact hbk.2.2 V
  ·exact hbk.2.1 (.inl ⟨i,c,hi⟩)
  ·exact hbk.2.1 (.inr ⟨l,k,c,N⟩)
 have hpin:∀ j ak,E.bu (e.at j) (ak+e.up j)->E0.bu j ak:=fun j ak y=>by
  obtain⟨o,oo,h1,d,W,h3⟩:=hobj0 j (hpast j _ y);obtain⟨o',h4,h5⟩:=y;rw[d]at h4;cases h4;refine⟨o,h1,W,fun v hv=>?_⟩;have:=h5.2 (v+e.up j) ((h3 _).2 ⟨v,hv,rfl⟩);omega
 have hout0:∀ i b n,i∉e.aA->E.ae[i]? = some (some (b,n))->¬ E0.ab b:=by
  rintro i b n hi W (⟨id,c',hid⟩|⟨l,k,c,N⟩)
  case inr=>exact HE.dm _ _ _ _ _ _ W (r0n l k _ N).2
  have M:=aV hid;rw[show E0.ae=loc0 from rfl]at hid M;rw[hlen0]at M;rw[hloc0 id M]at hid;have:=HE.inj _ _ _ _ _ W hid;exact hi (this▸hmem id M)
 have hlin:vR e lI E E0:=by
  refine⟨hin,fun i hi b n W=>⟨(HE.lt _ _ _ W).1,hout0 i b n (hdis i hi) W,?_⟩⟩;rintro(V|⟨i',c,_,d,hi'⟩|⟨l,k,c,_,N⟩)
  ·exact(HE.lt _ _ _ W).2 V
  ·have := HE.inj _ _ _ _ _ hi' W
   exact d (this▸hi)
  ·exact HE.dm _ _ _ _ _ _ W N
 have HE0:aI E0:=by
  have conv:∀{j:Nat} {x:Option (Nat × Nat)},loc0[j]? = some x->j<e.aA.length/\E.ae[e.at j]? = some x:=by
   intro j x V;have M:=aV V;rw[hlen0]at M;exact⟨M,by rw[<-hloc0 j M]; exact V⟩
  refine⟨by rw[show E0.ae=loc0 from rfl,hlen0,hk],?_,?_,?_,?_,HE.gL.bT hin.bT,fun l k l' k' b m n h1 d=>HE.fM l k l' k' b m n (r0n l k _ h1).2 (r0n l' k' _ d).2,fun i b m l k n hi d=>HE.dm _ b m l k n (conv hi).2 (r0n l k _ d).2,?_,?_,?_⟩
  ·intro i j b m n hi I
   obtain⟨i1,i2⟩:=conv hi
   obtain⟨j1,j2⟩:=conv I
   have:=HE.inj _ _ _ _ _ i2 j2;exact(Fh i1 hn).1 (by rw[jF i1,jF j1,this])
  ·intro i b m hi
   obtain⟨i1,i2⟩:=conv hi
   refine⟨(HE.lt _ _ _ i2).1,?_⟩;rintro(V|⟨i',c,hni,_,hi'⟩|⟨l,k,c,_,N⟩)
   ·exact(HE.lt _ _ _ i2).2 V
   ·have := HE.inj _ _ _ _ _ hi' i2
    exact hni (this▸hmem i i1)
   ·exact HE.dm _ _ _ _ _ _ i2 N
  ·rintro b (V | ⟨i', c, _, _, hi'⟩ | ⟨l, k, c, _, N⟩)
   ·exact HE.X b V
   ·exact(HE.lt _ _ _ hi').1
   ·exact(HE.cQ _ _ _ _ N).1
  ·intro j o ho
   have I:j<e.aA.length:=by rw[hk]; exact aV ho
   exact hobj E E0 U HE hlin rfl j o ho
  ·intro l k b m h1
   obtain⟨y,d⟩:=r0n l k _ h1;refine⟨(HE.cQ _ _ _ _ d).1,?_⟩;rintro(V|⟨i',c,_,_,hi'⟩|⟨l',k',c,hnp,N⟩)
   ·exact(HE.cQ _ _ _ _ d).2 V
   ·exact HE.dm _ _ _ _ _ _ hi' d
   ·exact hnp ((HE.fM _ _ _ _ _ _ _ d N).1▸y)
  ·intro i j o o' l hi I h1 d
   have i1:i<e.aA.length:=by rw[hk]; exact aV hi
   have j1:j<e.aA.length:=by rw[hk]; exact aV I
   obtain⟨_,oi,a1,a2,_⟩:=hobj0 i i1;obtain⟨_,oj,b1,b2,_⟩:=hobj0 j j1;have ei:=hlab i o oi hi (by rw[<-U]; exact a2);have ej:=hlab j o' oj I (by rw[<-U]; exact b2);have:=HE.uniq _ _ _ _ l a2 b2 (by rw[ei,h1]) (by rw[ej,d]);exact(Fh i1 hn).1 (by rw[jF i1,jF j1,this])
  ·intro l hnl k q hq
   obtain⟨⟨j,o,h1,d⟩,_⟩:=r0n l k _ hq;exact hnl j o h1 d
 refine(hc E0 cargs rfl HE0 (hargs0 E E0 _ U HE hlin rfl hargs)).mono ?_;rintro _ w' ⟨c,v',H',rfl,⟨p,y,hv',hH'⟩,loc1,r1,g1,g2,g3⟩;have hu1:kq e 0 H'=true:=by rw[hH']; exact hu1 p y
 have hl1:H0.length<=H'.length:=by rw[hH']; exact hl1 p y
 have hSv:S=true->v'.bP=true:=fun h=>by rw[hv']; exact hSv h p y
 have hSo:S=true->(H'.all ai.bP)=true:=fun h=>by rw[hH']; exact hSo h p y
 have hlab1:∀(j:Nat) o l,H'[j]? = some o->o.label=some l->∃ o0,H0[j]? = some o0/\o0.label=some l:=by rw[hH']; exact hlab1 p y
 let r':Nat->List (Option (Option (Nat × Nat))):=fun l=>if O l then r1 l else E.X.r l
 have rp:∀ l,O l->r' l=r1 l:=fun l h=>iP h;have rn:∀ l,¬ O l->r' l=E.X.r l:=fun l h=>iN h;have hl1':e.aA.length<=H'.length:=by omega
 have hlen1:loc1.length=H'.length:=g2.len;have hbL:e.aN=E.ae.length:=by rw[hElen]; exact hb
 have hbE:e.aN=E.H.length:=by rw[U]; exact hb
 let loc':List (Option (Nat × Nat)):=fF E.ae e.aA loc1++loc1.drop e.aA.length
 let E1:af:={ w:=w',H:=H',ae:=loc1,X:=X0.re r1 }
 let E':af:={ w:=w',H:=o9 e H H',ae:=loc',X:=E.X.re r' }
 have Hin:∀ j,E'.H[e.at j]? = (H'[j]?).map (ai.cG e j):=fun j=>by
  have:=Nc (e:=e) (H:=H) (xs:=ng e 0 H') hn hat hb (by rw[Hx]; exact hl1') j;rw[M6,cP]at this;exact this
 have gP:∀ j,E'.ae[e.at j]? = loc1[j]? := fun j =>
  Nc (e:=e) (H:=E.ae) (xs:=loc1) hn (fun j I=>by rw[hElen]; exact hat j I) hbL (by rw[hlen1]; exact hl1') j
 have Hout:∀ i,i∉e.aA->i<H.length->E'.H[i]? = E.H[i]? := fun i hi M=>by
  rw[U];exact Hy (e:=e) hi M
 have Lout:∀ i,i∉e.aA->i<H.length->E'.ae[i]? = E.ae[i]? := fun i hi M=>Hy (e:=e) hi (by rw[hElen]; exact M);have hu1':∀(j:Nat) (o:ai),H'[j]? = some o->o.Cz e j=true:=fun j o ho=>by
  have:=M7 hu1 ho
  rwa [cP]at this
 have own':∀ b,E'.ab b->E1.ab b\/(∃ i c,i∉e.aA/\E.ae[i]? = some (some (b,c)))\/∃(l h m:Nat),¬ O l/\(E.X.r l)[h]? = some (some (some (b,m))):=by
  rintro b (⟨i,c,hi⟩|⟨l,k,c,N⟩)
  ·rcases ru (e := e) hbL hi with ⟨h1, _, h3⟩ | ⟨j, rfl⟩
   ·exact .inr (.inl ⟨i,c,h1,h3⟩)
   ·rw [gP j] at hi
    exact .inl (.inl ⟨j,c,hi⟩)
  ·have N : (r' l)[k]? = some (some (some (b, c))) := N
   by_cases y:O l
   ·rw [rp l y] at N
    exact .inl (.inr ⟨l,k,c,N⟩)
   ·rw [rn l y] at N
    exact .inr (.inr ⟨l,k,c,y,N⟩)
 have hout:tG S e E1 E':=by
  refine⟨fun hS b hbk=>⟨⟨hbk.1,fun ho=>?_,fun V=>hbk.2.2 (Or.inl V)⟩,rfl⟩,fun j ak y=>?_,fun j ak y hl=>?_⟩
  ·rcases own' b ho with h | ⟨i, c, h1, d⟩ | h
   ·exact hbk.2.1 h
   ·exact hbk.2.2 (Or.inr (.inl ⟨i,c,h1,by rw[hlent hS]; exact List.not_mem_nil,d⟩))
   ·exact hbk.2.2 (Or.inr (.inr h))
  ·obtain ⟨o, h1, d⟩ := y
   refine⟨o.cG e j,by rw[Hin j,show H'[j]? = some o from h1]; rfl,by rw[M8]; exact d.1,fun v hv=>?_⟩;obtain⟨u,q1,rfl⟩:=(zl (hu1' j o h1) v).1 hv;have:=d.2 u q1;omega
  ·obtain ⟨o', h1, d⟩ := hl
   rw[Hin j]at h1;obtain⟨o,h3,rfl⟩:=eM.1 h1;obtain⟨u,q1,q2⟩:=(zl (hu1' j o h3) _).1 d;have:u=ak:=by omega
   subst this;exact⟨⟨o,h3,q1⟩,gP j⟩
 have hle:E.le E':=by
  refine⟨fun i ak y=>?_,g3.size,fun b M ho=>g3.same b M (fun h=>ho (hown0 b h)),fun b M ho h'=>?_,fun i ak y hl=>?_,⟨rfl,rfl⟩,fun l k N=>?_,g3.env,fun i l o h1 d hv=>?_⟩
  rotate_right
  ·by_cases hi : i ∈ e.aA
   ·obtain ⟨j, I, rfl⟩ := pG hi
    have hat':e.aA[j]=e.at j:=by
     have:=jF I;rw[bY I]at this;exact jd this
    rw[hat']at h1 hv|-;obtain⟨o0,oo,k1,k2,W,k3⟩:=hobj0 j I;have em:o.dR=o0.dR:=hlabm j o0 o k1 (by rw[<-U]; exact h1);have hl0:o0.label=some l:=ai.nP (by rw[<-em]; exact d);have y:O l:=⟨j,o0,k1,hl0⟩
    obtain⟨o',w1,w2⟩:=hv;rw[Hin j]at w1;obtain⟨o1,r3,rfl⟩:=eM.1 w1;obtain⟨u,q1,q2⟩:=(zl (hu1' j o1 r3) _).1 w2;have hu:u=0:=by omega
    subst hu;obtain⟨⟨t,ht⟩,o2,s1,s2⟩:=g3.grow j l o0 k1 (by rw[<-em]; exact d) ⟨o1,r3,q1⟩;have ht':r1 l=E.X.r l++t:=by
     rw[<-r0p l y];exact ht
    refine⟨⟨t,by rw[show E'.X.r l=r' l from rfl,rp l y]; exact ht'⟩,o2.cG e j,?_,by rw[XO]; exact s2⟩;rw[Hin j,show H'[j]? = some o2 from s1];rfl
   ·have M := aV h1
    rw[U]at M;have hnp:¬ O l:=by
     rintro⟨j,o0,a1,a2⟩;have j1:j<e.aA.length:=by rw[hk]; exact aV a1
     obtain⟨_,oj,b1,b2,_⟩:=hobj0 j j1;have h3:=HE.uniq _ _ _ _ l h1 b2 (ai.nP d) (by rw[hlab j o0 oj a1 (by rw[<-U]; exact b2),a2]);exact hi (h3▸hmem j j1)
    exact⟨⟨[],by rw[List.append_nil,show E'.X.r l=r' l from rfl,rn l hnp]⟩,o,by rw[Hout i hi M]; exact h1,d⟩
  ·by_cases hi : i ∈ e.aA
   ·obtain ⟨j, I, rfl⟩ := pG hi
    have hat':e.aA[j]=e.at j:=by
     have:=jF I;rw[bY I]at this;exact jd this
    rw[hat']at y|-;obtain⟨o0,oo,h1,d,W,h3⟩:=hobj0 j I;obtain⟨o,h4,h5⟩:=y;rw[d]at h4;cases h4;have hj1:j<H'.length:=by omega
    have hbn':H'[j].born=true:=by
     have p0:E0.bu j 0:=⟨o0,h1,W,fun v _=>eR v⟩
     obtain⟨o2,r1,r2⟩:=g3.bu j _ p0;rw[show E1.H=H' from rfl,bY hj1]at r1;cases r1;exact r2.1
    refine⟨H'[j].cG e j,by rw[Hin j,bY hj1]; rfl,by rw[M8]; exact hbn',fun v hv=>?_⟩;obtain⟨u,q1,rfl⟩:=(zl (hu1' j _ (bY hj1)) v).1 hv;cases hz:o0.aU with
    | none =>
     have p0:E0.bu j (u+1):=⟨o0,h1,W,fun v hv=>by rw[hz]at hv; cases hv⟩
     obtain⟨o2,r1,r2⟩:=g3.bu j _ p0;rw[show E1.H=H' from rfl,bY hj1]at r1;cases r1;have:=r2.2 u q1;omega
    | some u0 =>
     have p0:E0.bu j u0:=⟨o0,h1,W,fun v hv=>by rw[hz]at hv; cases hv; exact aQ _⟩
     obtain⟨o2,r1,r2⟩:=g3.bu j _ p0;rw[show E1.H=H' from rfl,bY hj1]at r1;cases r1;have:=r2.2 u q1;have:=h5.2 (u0+e.up j) ((h3 _).2 ⟨u0,hz,rfl⟩);omega
   ·obtain ⟨o, h1, d⟩ := y
    have M:=aV h1;rw[U]at M;exact⟨o,by rw[Hout i hi M]; exact h1,d⟩
  ·rcases own' b h' with h | ⟨i, c, _, d⟩ | ⟨l, k, c, _, d⟩
   ·exact g3.ab b M (fun h=>ho (hown0 b h)) h
   ·exact ho (.inl ⟨i,c,d⟩)
   ·exact ho (.inr ⟨l,k,c,d⟩)
  ·have M:i<H.length:=by
    obtain⟨o,h1,_⟩:=y;have:=aV h1
    rwa [U]at this
   by_cases hi:i∈e.aA
   ·obtain ⟨j, I, rfl⟩ := pG hi
    have hat':e.aA[j]=e.at j:=by
     have:=jF I;rw[bY I]at this;exact jd this
    rw[hat']at y hl|-;obtain⟨o',r1,r2⟩:=hl;rw[Hin j]at r1;obtain⟨o1,r3,rfl⟩:=eM.1 r1;obtain⟨u,q1,rfl⟩:=(zl (hu1' j o1 r3) _).1 r2;have p0:=hpin j u y;obtain⟨⟨o0,s1,s2⟩,s3⟩:=g3.live j u p0 ⟨o1,r3,q1⟩;obtain⟨o0',oo,h1,d,W,h3⟩:=hobj0 j I;rw[show E0.H=H0 from rfl,h1]at s1;cases s1;refine⟨⟨_,d,(h3 _).2 ⟨u,s2,rfl⟩⟩,?_⟩;rw[gP j,<-hloc0 j I];exact s3
   ·obtain ⟨o', r1, r2⟩ := hl
    rw[Hout i hi M]at r1;exact⟨⟨o',r1,r2⟩,Lout i hi M⟩
  ·by_cases y : O l
   ·have := g3.rl l k (by show k < (r0 l).length; rw [r0p l y]; exact N)
    rw[show E0.X.r l=r0 l from rfl,r0p l y]at this;rw[show E'.X.r l=r' l from rfl,rp l y];exact this
   ·rw [show E'.X.r l = r' l from rfl, rn l y]
    exact⟨N,fun _ hq=>hq⟩
 have lab':∀(j:Nat) o l,H'[j]? = some o->o.label=some l->O l:=fun j o l h1 d=>by
  obtain⟨o0,a1,a2⟩:=hlab1 j o l h1 d;exact⟨j,o0,a1,a2⟩
 have labIn:∀(j:Nat) o l,H0[j]? = some o->o.label=some l->∃ o',E.H[e.at j]? = some o'/\o'.label=some l/\e.at j∈e.aA:=fun j o l h1 d=>by
  have j1:j<e.aA.length:=by rw[hk]; exact aV h1
  obtain⟨_,oj,b1,b2,_⟩:=hobj0 j j1;exact⟨oj,b2,by rw[hlab j o oj h1 (by rw[<-U]; exact b2),d],hmem j j1⟩
 have labOut:∀(i:Nat) o l,i∉e.aA->E.H[i]? = some o->o.label=some l->¬ O l:=fun i o l hi h1 d ⟨j,o0,a1,a2⟩=>by
  obtain⟨o',b1,b2,b3⟩:=labIn j o0 l a1 a2;have:=HE.uniq _ _ _ _ l h1 b1 d b2;exact hi (this▸b3)
 have satOut:∀(l k b m:Nat),¬ O l->(E.X.r l)[k]? = some (some (some (b,m)))->¬ E0.ab b:=by
  rintro l k b m y h1 (⟨id,c',hid⟩|⟨l',k',c,N⟩)
  ·have M := aV hid
   rw[show E0.ae=loc0 from rfl]at hid M;rw[hlen0]at M;rw[hloc0 id M]at hid;exact HE.dm _ _ _ _ _ _ hid h1
  ·obtain ⟨q1, q2⟩ := r0n l' k' _ N
   exact y ((HE.fM _ _ _ _ _ _ _ h1 q2).1▸q1)
 refine⟨c,v'.cG e,o9 e H H',rfl,⟨p,y,by rw[hv'],by rw[hH']⟩,loc',r',Hw hout v' hSv g1,?_,hle⟩;refine⟨?_,?_,?_,fun b V=>eQ (HE.X b V) g3.size,?_,HE.gL.bT hle.toC,?_,?_,?_,?_,?_⟩
 ·simp only[loc',o9,fX,rr,List.length_drop,Hx,hElen,hlen1]
 ·intro i j b m n hi I
  rcases ru (e:=e) hbL hi with⟨i1,_,i3⟩|⟨i',rfl⟩<;>rcases ru (e:=e) hbL I with⟨j1,_,j3⟩|⟨j',rfl⟩
  ·exact HE.inj _ _ _ _ _ i3 j3
  ·rw [gP j'] at I
   exact(g3.ab b (HE.lt _ _ _ i3).1 (hout0 i b m i1 i3) (.inl ⟨j',n,I⟩)).elim
  ·rw [gP i'] at hi
   exact(g3.ab b (HE.lt _ _ _ j3).1 (hout0 j b n j1 j3) (.inl ⟨i',m,hi⟩)).elim
  ·rw [gP i'] at hi
   rw[gP j']at I;rw[g2.inj _ _ _ _ _ hi I]
 ·intro i b m hi
  rcases ru (e:=e) hbL hi with⟨i1,_,i3⟩|⟨i',rfl⟩
  ·exact⟨eQ (HE.lt _ _ _ i3).1 g3.size,(HE.lt _ _ _ i3).2⟩
  ·rw [gP i'] at hi
   exact⟨(g2.lt _ _ _ hi).1,fun V=>(g2.lt _ _ _ hi).2 (Or.inl V)⟩
 ·intro i o hi
  have hi':=hi;unfold o9 at hi';rcases ru (e:=e) hb hi' with⟨i1,i2,i3⟩|⟨j,rfl⟩
  ·refine mO (E := E) (fun a _ hr => bD hle a hr) (Lout i i1 i2) (fun b n W => ?_) (fun l hl => ?_) (HE.obj i o (by rw [U]; exact i3))
   ·exact g3.same b (HE.lt _ _ _ W).1 (hout0 i b n i1 W)
   ·have y := labOut i o l i1 (by rw [U]; exact i3) hl
    exact⟨rn l y,fun k g m h1=>g3.same g (HE.cQ _ _ _ _ h1).1 (satOut l k g m y h1)⟩
  ·have h1 := Hin j
   rw[show E'.H=o9 e H H' from rfl,hi]at h1;obtain⟨o1,d,rfl⟩:=eM.1 h1.symm;exact XP hout (fun e=>dK.1 (hSo e) o1 (eO d)) (gP j) (fun _ _ _=>rfl) (fun l hl=>⟨rp l (lab' j o1 l d hl),fun _ _ _ _=>rfl⟩) (g2.obj j o1 d)
 ·intro l k l' k' b m n h1 d
  have h1:(r' l)[k]? = some (some (some (b,m))):=h1;have d:(r' l')[k']? = some (some (some (b,n))):=d;by_cases y:O l<;>by_cases hp':O l'
  ·rw [rp l y] at h1
   rw[rp l' hp']at d;exact g2.fM l k l' k' b m n h1 d
  ·rw [rp l y] at h1
   rw[rn l' hp']at d;exact((g2.cQ l k b m h1).2 (.inr (.inr ⟨l',k',n,hp',d⟩))).elim
  ·rw [rn l y] at h1
   rw[rp l' hp']at d;exact((g2.cQ l' k' b n d).2 (.inr (.inr ⟨l,k,m,y,h1⟩))).elim
  ·rw [rn l y] at h1
   rw[rn l' hp']at d;exact HE.fM l k l' k' b m n h1 d
 ·intro i b m l k n hi h1
  have h1:(r' l)[k]? = some (some (some (b,n))):=h1;rcases ru (e:=e) hbL hi with⟨i1,_,i3⟩|⟨i',rfl⟩
  ·by_cases y : O l
   ·rw [rp l y] at h1
    exact g3.ab b (HE.lt _ _ _ i3).1 (hout0 i b m i1 i3) (.inr ⟨l,k,n,h1⟩)
   ·rw [rn l y] at h1
    exact HE.dm _ _ _ _ _ _ i3 h1
  ·rw [gP i'] at hi
   by_cases y:O l
   ·rw [rp l y] at h1
    exact g2.dm _ _ _ _ _ _ hi h1
   ·rw [rn l y] at h1
    exact(g2.lt _ _ _ hi).2 (.inr (.inr ⟨l,k,n,y,h1⟩))
 ·intro l k b m h1
  have h1:(r' l)[k]? = some (some (some (b,m))):=h1;by_cases y:O l
  ·rw [rp l y] at h1
   exact⟨(g2.cQ _ _ _ _ h1).1,fun V=>(g2.cQ _ _ _ _ h1).2 (.inl V)⟩
  ·rw [rn l y] at h1
   exact⟨eQ (HE.cQ _ _ _ _ h1).1 g3.size,(HE.cQ _ _ _ _ h1).2⟩
 ·have inn:∀ (j:Nat) o,E'.H[e.at j]? = some o->∃ o1,H'[j]? = some o1/\o.label=o1.label:=fun j o h=>by
   rw[Hin j]at h;obtain⟨o1,d,rfl⟩:=eM.1 h;exact⟨o1,d,M9 e j o1⟩
  intro i j o o' l hi I h1 d;have hi':=hi;have hj':=I;unfold o9 at hi' hj';rcases ru (e:=e) hb hi' with⟨i1,i2,i3⟩|⟨i',rfl⟩<;>rcases ru (e:=e) hb hj' with⟨j1,j2,j3⟩|⟨j',rfl⟩
  ·exact HE.uniq i j o o' l (by rw[U]; exact i3) (by rw[U]; exact j3) h1 d
  ·obtain ⟨o1, a1, a2⟩ := inn j' o' I
   exact(labOut i o l i1 (by rw[U]; exact i3) h1 (lab' j' o1 l a1 (by rw[<-a2,d]))).elim
  ·obtain ⟨o1, a1, a2⟩ := inn i' o hi
   exact(labOut j o' l j1 (by rw[U]; exact j3) d (lab' i' o1 l a1 (by rw[<-a2,h1]))).elim
  ·obtain ⟨o1, a1, a2⟩ := inn i' o hi
   obtain⟨o2,b1,b2⟩:=inn j' o' I;rw[g2.uniq i' j' o1 o2 l a1 b1 (by rw[<-a2,h1]) (by rw[<-b2,d])]
 ·intro l hnl k q hq
  have hq:(r' l)[k]? = some (some q):=hq;by_cases y:O l
  ·rw [rp l y] at hq
   refine g2.iO l (fun j o h1 d=>?_) k q hq;refine hnl (e.at j) (o.cG e j) ?_ (by rw[M9,d]);rw[Hin j,show H'[j]? = some o from h1];rfl
  ·rw [rn l y] at hq
   refine HE.iO l (fun i o h1 d=>?_) k q hq;have M:=aV h1;rw[U]at M;by_cases hi:i∈e.aA
   ·obtain ⟨j, I, rfl⟩ := pG hi
    have hat':e.aA[j]=e.at j:=by
     have:=jF I;rw[bY I]at this;exact jd this
    rw[hat']at h1;obtain⟨o0,oo,a1,a2,_⟩:=hobj0 j I;rw[h1]at a2;cases a2;exact y ⟨j,o0,a1,by rw[<-hlab j o0 o a1 (by rw[<-U]; exact h1),d]⟩
   ·exact hnl i o (by rw[Hout i hi M]; exact h1) d
theorem frame(S:Bool)(lI:List Nat){P:aj}{f:bO}{args:List AV}{H0 H1 H:List ai}{v:AV}{e:cy}(W:fN P f args H0 v H1)(hk:e.aA.length=H0.length)(hb:e.aN=H.length)(hn:e.aA.Nodup)
  (y:∀ j o,H0[j]? = some o->∃ o',H[e.at j]? = some o'/\o.born=true/\∀ v,o'.aU = some v↔∃ u,o.aU = some u/\v=u+e.up j)
  (I:∀ E E0,E.H=H->aI E->vR e lI E E0->E0.H=H0->∀ j o,H0[j]? = some o->aY E0 j o) (N:kq e 0 H1=true) (O:H0.length<=H1.length) (g:S=false->lI=[])
  (U:S=true->v.bP=true) (V:S=true->(H1.all ai.bP)=true) (M:∀ i,i∈lI->i∉e.aA)
  (hlab:∀(j:Nat) o o',H0[j]? = some o->H[e.at j]? = some o'->o'.label=o.label) (k:∀(j:Nat) o l,H1[j]? = some o->o.label=some l->∃ o0,H0[j]? = some o0/\o0.label=some l)
  (q:∀(j:Nat) o o',H0[j]? = some o->H[e.at j]? = some o'->o'.dR=o.dR) {gD:List AV}
  (d:∀ E E0 cs,E.H=H->aI E->vR e lI E E0->E0.H=H0->aw E gD cs->aw E0 args cs) :
  fN P f gD H (v.cG e) (o9 e H H1) :=
 pY.mono (XQ (α:=Unit) (Ps:=fun _=>True) (Vf:=fun _=>v) (Hf:=fun _=>H1) S lI (pY.mono W fun v' H' h=>⟨(),trivial,h.1,h.2⟩) hk hb hn y I (fun _ _=>N) (fun _ _=>O) g (fun h _ _=>U h) (fun h _ _=>V h) M hlab (fun _ _=>k) q d) fun v' H' ⟨_,_,h1,h2⟩=>⟨h1,h2⟩
end Go.AL
