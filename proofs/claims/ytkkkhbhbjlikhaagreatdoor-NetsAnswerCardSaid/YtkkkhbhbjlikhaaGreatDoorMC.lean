/-
 What is proved here: owned objects of data,and what operations do to them,with what must hold so that they do it. No program in sight; no condition.
-/
import Derived.Test.YtkkkhbhbjlikhaaGreatDoorMB
import Derived.Eval
import Derived.KernelRfl
set_option linter.all false
open Bool renaming and_eq_true->aR,or_eq_true->lQ,eq_iff_iff->jB
open ByteArray renaming empty->AJ
open Decidable renaming byContradiction->Pj
open Go renaming Value->al,FuncId->bH,TypeId->aJ,Program->ak,Operand->cN,Oper->aN
open Go.Op renaming operands->j_
open Go.Utf8 renaming decode->tf
open Go.Value.slice renaming injEq->oU
open List renaming length_map->bL,getElem?_append_left->fB,getElem?_append_right->ml,getElem?_set_ne->dh,getElem?_eq_getElem->bT,getD_eq_getElem?_getD->dj,mem_of_getElem?->jj,getElem?_map->dw,map_cons->eU,all_eq_true->eX,mem_cons->cy,mem_append->cY,replicate->dz,all_cons->oZ,mem_cons_self->dG,mem_cons_of_mem->cO,take_of_length_le->Z2,mem_map->cM,mem_filterMap->Z8,nodup_cons->mn,map_set->Jn,headD_cons->nE,length_nil->fU,map_nil->mo,length->nF,getElem_of_mem->Ef,getElem?_inj->Pl
open Nat renaming le_refl->bl,lt_of_lt_of_le->fK,lt_or_ge->mh,zero_add->fC,sub_zero->mT,beq->aA,zero_le->lj,eq_of_beq_eq_true->cz,sub_self->xO,ble->bW,blt->fT,ble_eq->fh,blt_eq->jS,le_of_ble_eq_true->lk,lt_succ_of_lt->rH,lt_irrefl->AW
open Option renaming map_eq_some_iff->jA,isSome_none->ZT,map_some->jl,map_none->Z_,isSome_some->Z'
open Option.some renaming injEq->bQ,inj->th
open Prod.mk renaming injEq->cr
namespace Go.AL
open Go
abbrev Kd.I:Kd:=.int .i64
abbrev BY:=ByteArray
abbrev LG:=List G
abbrev bk:=Option (Option Nat × LG)
abbrev LL:=List LG
variable [Dr]
def eg:Int->Bool
 |.ofNat _=>true
 |.negSucc _=>false
def cw:Int->Int->Bool
 |.ofNat x,.ofNat y=>bW x y
 |.ofNat _,.negSucc _=>false
 |.negSucc _,.ofNat _=>true
 |.negSucc x,.negSucc y=>bW y x
def ba:Int->Int->Bool
 |.ofNat x,.ofNat y=>fT x y
 |.ofNat _,.negSucc _=>false
 |.negSucc _,.ofNat _=>true
 |.negSucc x,.negSucc y=>fT y x
def aM(n:Int):Bool:=cw (-9223372036854775808) n&&cw n 9223372036854775807
def jT(n:Int):eg n=decide (0<=n):=by
 cases n with
 |ofNat x=>simp[eg]
 |negSucc x=>simp[eg]
def eh(a b:Int):cw a b=decide (a<=b):=by
 rw[jB];cases a<;>cases b<;>simp[cw,fh]<;>(try omega)
def dX(a b:Int):ba a b=decide (a<b):=by
 rw[jB];cases a<;>cases b<;>simp[ba,jS]<;>(try omega)
def vS{n:Int}:aM n=true↔-9223372036854775808<=n/\n<=9223372036854775807:=by
 simp[aM,eh]
def g0(r:LG):G:=r.headD default
def gi:LG->Nat->G
 |r,0=>r.headD default
 |r,i+1=>gi r.tail i
def G.rV(g:G):LG:=g.rZ.headD []
def nV:Kd->G->G->Bool
 |.int _,a,b=>a.iV==b.iV
 |.str,a,b=>a.sV.toList==b.sV.toList
 |.bool,a,b=>a.bV==b.bV
 |.list _,_,_=>false
def aK:List Kd->LG->LG->Bool
 |[],_,_=>true
 |k::ks,r,s=>nV k (r.headD default) (s.headD default)&&aK ks r.tail s.tail
inductive Ct where
 |one (k:Kd)
 |agg (ks:List Kd)
 deriving Inhabited
def Ct.ks:Ct->List Kd
 |.one k=>[k]
 |.agg ks=>ks
def Ct.av:Ct->LG->AV
 |.one k,r=>mX k (r.headD default)
 |.agg ks,r=>.agg (bh ks r)
def Ct.Fc(k:Ct)(r:LG):(k.av r).closed=true:=by
 cases k with
 |one k=>cases k<;>rfl
 |agg ks=>grind[Ct.av,AV.closed,jC]
inductive aG where
 |raw (o:ay)
 |vQ (ks:List Kd) (ax:Nat) (rZ:LL)
 |map (K V:Ct) (rZ:LL) (aL:Nat)
 |bI (l:Nat) (K:Ct) (ks:List Kd) (rZ:LL) (aL:Nat)
def dH(K V:Ct)(rZ:LL):List (AV × AV × Nat):=rZ.map fun r=>(K.av (gi r 0).rV,V.av (gi r 1).rV,(gi r 2).iV.toNat)
def nW(r:LG):LL:=((gi r 1).rV.headD default).rZ
def ng(K:Ct)(ks:List Kd)(r:LG):AV × Option (List (List AV)) × Nat:=(K.av (gi r 0).rV,(bif (gi r 3).bV then some ((nW r).map (bh ks)) else none),(gi r 2).iV.toNat)
def jU(K:Ct)(ks:List Kd)(rZ:LL):List (AV × Option (List (List AV)) × Nat):=rZ.map (ng K ks)
def aG.au:aG->ay
 |.raw o=>o
 |.bI l K ks rZ aL=>.bI l ks.length (jU K ks rZ) aL
 |.map K V rZ aL=>.map (dH K V rZ) aL
 |.vQ ks ax rZ=>.vQ ks.length ax (rZ.map (bh ks))
def aF(H:List aG):List ay:=H.map aG.au
structure aH where
 fr:List AV
 H:List aG
def aH.au(s:aH):St:=⟨s.fr,aF s.H⟩
def aH.eval(s:aH)(o:cN):AV:=St.eval ⟨s.fr,[]⟩ o
def aH.put(s:aH)(dst:Option Tmp)(v:AV)(H':List aG):aH:=⟨lX s.fr dst v,H'⟩
def aH.qC(s:aH):s.au.eval=s.eval:=by
 funext o
 cases o<;>rfl
variable {id sz n i j A:Nat} {H H':List aG} {a x v k m:AV} {rZ:LL} {P:ak} {b:Bool} {t xt:aJ} {hi lo:Option AV} {K:Ct} {α:Type} {r:cN->AV} {E:af} {c:al} {args d:List AV} {f:bH} {ah:Array aN} {o:aN} {Q:cu->aH->Prop} {s:aH}
theorem cn{o:aG}(h:H[id]?=some o):(aF H)[id]?=some o.au:=by simp[aF,h]
theorem gn(H:List aG)(id:Nat)(o:aG):aF (H.set id o)=(aF H).set id o.au:=by simp[aF,Jn]
theorem lx(H:List aG)(o:aG):aF (H++[o])=aF H++[o.au]:=by simp[aF]
theorem fX(H:List aG):(aF H).length=H.length:=by simp[aF]
mutual
def Kd.same:Kd->Kd->Bool
 |.int k,.int g=>decide (k=g)
 |.str,.str=>true
 |.bool,.bool=>true
 |.list ks,.list d=>Kd.kz ks d
 |_,_=>false
def Kd.kz:List Kd->List Kd->Bool
 |[],[]=>true
 |k::ks,g::d=>k.same g&&Kd.kz ks d
 |_,_=>false
end
mutual
theorem Kd.vT:∀{k d:Kd},k.same d=true->k=d
 |.int k,.int d,h=>by simp[Kd.same]at h; rw[h]
 |.str,.str,_=>rfl
 |.bool,.bool,_=>rfl
 |.list ks,.list g,h=>by simp only[Kd.same]at h; rw[Kd.lY h]
 |.int _,.str,h | .int _,.bool,h | .int _,.list _,h | .str,.int _,h | .str,.bool,h | .str,.list _,h=>by simp[Kd.same]at h
 |.bool,.int _,h | .bool,.str,h | .bool,.list _,h | .list _,.int _,h | .list _,.str,h | .list _,.bool,h=>by simp[Kd.same]at h
theorem Kd.lY:∀{k d:List Kd},Kd.kz k d=true->k=d
 |[],[],_=>rfl
 |k::ks,d::g,h=>by simp only[Kd.kz,aR]at h; rw[Kd.vT h.1,Kd.lY h.2]
 |[],_::_,h|_::_,[],h=>by simp[Kd.kz]at h
end
def Ct.same:Ct->Ct->Bool
 |.one k,.one g=>k.same g
 |.agg ks,.agg d=>Kd.kz ks d
 |_,_=>false
theorem Ct.vT{K d:Ct}(h:K.same d=true):K=d:=by
 cases K<;>cases d<;>simp only[Ct.same]at h<;>grind[Kd.vT,Kd.lY]
def Bn:Kd->AV->Option G
 |.int k,.lit (.int g n)=>if k=g then some (.i n) else none
 |.str,.lit (.string s)=>some (.s s)
 |.bool,.lit (.bool b)=>some (.t b)
 |.list ks,.listF d rZ=>if Kd.kz ks d then some (.l rZ) else none
 |_,_=>none
def jE:List Kd->List AV->Option LG
 |[],[]=>some []
 |k::ks,a::as=>match Bn k a,jE ks as with
  |some g,some d=>some (g::d)
  |_,_=>none
 |_,_=>none
def r8(ks:List Kd):List (List AV)->Option LL
 |[]=>some []
 |r::rs=>match jE ks r,r8 ks rs with
  |some g,some d=>some (g::d)
  |_,_=>none
theorem KB{k:Kd}{g:G}(h:Bn k a=some g):mX k g=a:=by
 unfold Bn at h;split at h
 ·split at h
  ·rename_i e; cases h; subst e; rfl
  ·cases h
 ·cases h; rfl
 ·cases h; rfl
 ·split at h
  ·rename_i e; cases h; rw[Kd.lY e]; rfl
  ·cases h
 ·cases h
theorem nX:∀{ks:List Kd} {as:List AV} {d:LG},jE ks as=some d->bh ks d=as
 |[],[],_,h=>by simp[jE]at h; subst h; rfl
 |k::ks,a::as,d,h=>by
  simp only[jE]at h;split at h
  ·rename_i g B q A
   cases h;simp[bh,KB q,nX A]
  ·cases h
 |[],_::_,_,h|_::_,[],_,h=>by simp[jE]at h
theorem QR:∀{ks:List Kd} {as:List AV} {d:LG},jE ks as=some d->d.length=ks.length/\as.length=ks.length
 |[],[],_,h=>by simp[jE]at h; subst h; exact⟨rfl,rfl⟩
 |k::ks,a::as,d,h=>by
  simp only[jE]at h;split at h
  ·rename_i g A B q
   cases h;have:=QR q
   grind
  ·cases h
 |[],_::_,_,h|_::_,[],_,h=>by simp[jE]at h
theorem yv{ks:List Kd}:∀{rs:List (List AV)} {d:LL},r8 ks rs=some d->d.map (bh ks)=rs
 |[],_,h=>by simp[r8]at h; subst h; rfl
 |r::rs,d,h=>by
  simp only[r8]at h;split at h
  ·rename_i g B q A
   cases h;simp[nX q,yv A]
  ·cases h
def Bo:AV->Option Kd
 |.lit (.int k _)=>some (.int k)
 |.lit (.string _)=>some .str
 |.lit (.bool _)=>some .bool
 |.listF ks _=>some (.list ks)
 |_=>none
def vU:List AV->Option (List Kd)
 |[]=>some []
 |a::as=>match Bo a,vU as with
  |some k,some ks=>some (k::ks)
  |_,_=>none
def vV:List Kd->LG->LG
 |[],_=>[]
 |_::ks,r=>r.headD default::vV ks r.tail
theorem KC:∀(ks:List Kd) (r:LG),(vV ks r).length=ks.length
 |[],_=>rfl
 |_::ks,r=>by simp[vV,KC ks]
def iW(ks:List Kd)(r:LG)(d:Nat)(g:LG):LG:=(vV ks r).take d++g++(vV ks r).drop (d+g.length)
theorem QS:∀(ks:List Kd) (r:LG) (n:Nat),(bh ks r).take n=bh (ks.take n) r
 |[],_,n=>by simp[bh]
 |_::_,_,0=>by simp[bh]
 |k::ks,r,n+1=>by simp[bh,QS ks]
theorem QT:∀(ks:List Kd) (r:LG) (n:Nat),(bh ks r).drop n=bh (ks.drop n) (r.drop n)
 |[],_,n=>by simp[bh]
 |_::_,_,0=>by simp
 |k::ks,r,n+1=>by simp[bh,QT ks]
theorem KD:∀(ks d:List Kd) (r g:LG),r.length=ks.length->bh (ks++d) (r++g)=bh ks r++bh d g
 |[],d,r,g,h=>by
  have:r=[]:=List.length_eq_zero_iff.1 h;subst this;simp[bh]
 |k::ks,d,r,g,h=>by
  cases r with
  |nil=>simp at h
  |cons x r=>simp[bh,KD ks d r g (by simpa using h)]
theorem KE:∀(ks:List Kd) (r:LG),bh ks (vV ks r)=bh ks r
 |[],_=>rfl
 |k::ks,r=>by simp[bh,vV,KE ks]
theorem ab9{ks:List Kd}{r g:LG}{cs:List AV}{d:Nat} (h:jE ((ks.drop d).take cs.length) cs=some g) (hc:d+cs.length<=ks.length) :
  bh ks (iW ks r d g)=putCells (bh ks r) cs d:=by
 obtain⟨F,I⟩:=QR h;have B:((ks.drop d).take cs.length).length=cs.length:=du;have q:g.length=cs.length:=ab;have A:ks=(ks.take d++(ks.drop d).take cs.length)++ks.drop (d+cs.length):=by
  grind[List.take_append_drop]
 unfold iW putCells;have hn:=KC ks r
 conv=>lhs; arg 1; rw[A]
 rw[KD _ _ _ _ (by simp[hn,q]; omega),KD _ _ _ _ (by simp[hn]),nX h,q];congr 1
 ·congr 1
  rw[<-KE ks r,QS];have:∀(ks:List Kd) (r:LG) (n:Nat),ks.length<=n->bh ks (r.take n)=bh ks r:=by
   intro ks
   induction ks with
   |nil=>intros; rfl
   |cons k ks J=>
    intro r n hn;cases n with
    |zero=>simp at hn
    |succ n=>
     cases r with
     |nil=>rfl
     |cons x r=>grind[bh]
  grind
 grind[KE,QT]
theorem KF{ks:List Kd}{row:Nat}(h:row<rZ.length):(rZ.map (bh ks))[row]?=some (bh ks (rZ.getD row [])):=by
 rw[dw,dj,bT h];rfl
def KG(P:ak)(t:aJ)(x:AV)(H:List aG):Option (Bool × AV):=
 match x with
 |.ptr id ax w row d=>match H[id]? with
  |some (.vQ ks v rZ)=>match fj P t with
   |some (n,agg)=>if ax=v/\ks.length=w then (match jo agg n ((bh ks (rZ.getD row [])).drop d) with
     |some u=>some (decide (row<rZ.length),u)
     |none=>none) else none
   |none=>none
  |some (.raw (.box cells))=>match fj P t with
   |some (n,agg)=>if ax=0/\row=0 then (match jo agg n (cells.drop d) with
     |some u=>some (true,u)
     |none=>none) else none
   |none=>none
  |_=>none
 |.cptr cells=>match fj P t with
  |some (n,agg)=>match jo agg n cells with
   |some u=>some (true,u)
   |none=>none
  |none=>none
 |_=>none
theorem ab_{u:AV}(h:KG P t x H=some (b,u))(F:b=true):iS P t x (aF H)=some u:=by
 unfold KG at h;unfold iS;split at h
 ·rename_i id ax w row I
  split at h
  ·rename_i ks v rZ q
   split at h
   case h_2=>cases h
   rename_i n agg d;split at h
   case isFalse=>cases h
   rename_i hc;split at h
   case h_2=>cases h
   rename_i A g;simp only[bQ,cr]at h;obtain⟨B,rfl⟩:=h;subst F;simp only[dT]at B;rw[d];simp only[cn q,aG.au];rw[iP ⟨hc.1,hc.2⟩,KF B];exact g
  ·rename_i cells q
   split at h
   case h_2=>cases h
   rename_i n agg d;split at h
   case isFalse=>cases h
   rename_i hc;split at h
   case h_2=>cases h
   rename_i A g;cases h;rw[d];simp only[cn q,aG.au];rw[iP hc];exact g
  ·cases h
 ·rename_i cells
  split at h
  case h_2=>cases h
  rename_i n agg d;split at h
  case h_2=>cases h
  rename_i A g;cases h;rw[d];exact g
 ·cases h
def yw(P:ak)(t:aJ)(x v:AV)(H:List aG):Option (Bool × List aG):=
 match fj P t,tD v,x with
 |some (n,_),some cs,.ptr id ax w row d=>
  if cs.length=n then
   match H[id]? with
   |some (.raw (.box cells))=>if ax=0/\row=0/\d+n<=cells.length then some (true,H.set id (.raw (.box (putCells cells cs d)))) else none
   |some (.vQ ks u rZ)=>
    if ax=u/\ks.length=w/\d+cs.length<=ks.length then
     match jE ((ks.drop d).take cs.length) cs with
     |some g=>some (decide (row<rZ.length),H.set id (.vQ ks u (rZ.set row (iW ks (rZ.getD row []) d g))))
     |none=>none
    else none
   |_=>none
  else none
 |_,_,_=>none
theorem QU(h:yw P t x v H=some (b,H'))(F:b=true):rT P t x v (aF H)=some (aF H'):=by
 unfold yw at h;unfold rT;split at h
 case h_2=>cases h
 rename_i n O cs id ax w row N I A;rw[I,A];simp only[];split at h
 case isFalse=>cases h
 rename_i hn;rw[iP hn];split at h
 ·rename_i cells d
  split at h
  case isFalse=>cases h
  rename_i hc;cases h;simp only[cn d,aG.au];rw[iP hc,gn];rfl
 ·rename_i ks u rZ d
  split at h
  case isFalse=>cases h
  rename_i hc;obtain⟨J,M,c3⟩:=hc;split at h
  case h_2=>cases h
  rename_i U g;simp only[bQ,cr]at h;obtain⟨q,rfl⟩:=h;subst F;simp only[dT]at q;simp only[cn d,aG.au];have B:AV.ca cs=true:=by rw[<-nX g]; exact jC _ _
  rw[iP ⟨J,M,B⟩,KF q];simp only[vz];rw[iP ab,gn];simp only[aG.au,Jn];rw[ab9 g c3]
 ·cases h
def Bp(sz:Nat)(x:AV)(H:List aG)(d:Option (List Kd)):Option (Bool × List Kd × LL):=
 match x with
 |.nils | .lit (.slice none 0 0)=>match d with
  |some ks=>some (true,ks,[])
  |none=>none
 |.emptyS _=>match d with
  |some ks=>some (true,ks,[])
  |none=>none
 |.listF ks rZ=>if ks.length=sz then some (true,ks,rZ) else none
 |.list w rZ=>match (match d with | some ks=>some ks | none=>vU (rZ.headD [])) with
  |some ks=>match r8 ks rZ with
   |some g=>if w=sz then some (true,ks,g) else none
   |none=>none
  |none=>none
 |.vQ w id ax oF n=>match H[id]? with
  |some (.vQ ks v rZ)=>if w=sz/\ks.length=w/\v=ax/\oF=0 then some (aA n rZ.length,ks,rZ) else none
  |_=>none
 |.lit (.string s)=>if sz=1 then some (true,[.int .u8],s.data.toList.map fun b=>[.i b.toNat]) else none
 |_=>none
theorem QV{d:Option (List Kd)}{ks:List Kd}(h:Bp sz x H d=some (b,ks,rZ))(B:b=true):
  pt sz x (aF H)=some (rZ.map (bh ks)):=by
 unfold Bp at h;split at h
 ·split at h
  ·cases h; rfl
  ·cases h
 ·split at h
  ·cases h; rfl
  ·cases h
 ·split at h
  ·cases h; rfl
  ·cases h
 grind[pt]
 grind[pt,yv]
 ·rename_i w id ax oF n
  split at h
  ·rename_i q v g A
   split at h<;>simp_all[pt,cn,aG.au,Z2]
  ·cases h
 ·rename_i s
  split at h
  ·rename_i hs
   cases h
   simp_all[pt,bh,mX,G.iV]
  ·cases h
 ·cases h
def KH:SK->Bool
 |.slice _ _ _ | .str=>true
 |_=>false
theorem KI{s:AV}{H:List ay}{e c9:Nat}{z:List al}{d:List (List AV)}(g:cZ P t=.slice e sz c9)(q:gK P e=some z)
  (A : KH (cZ P xt) = true) (hr : pt sz x H = some d) (hc : z.length = sz /\ d.length <= 1048576 /\ c9 <= 1048576) : yg P t xt s x H =
   match s with
    |.nils | .lit (.slice none 0 0)=>some (.vQ sz H.length 0 0 d.length,H++[.vQ sz 0 d])
    |.vQ w id ax oF n=>match H[id]? with
     |some (.vQ k v rZ)=>
      if k=w/\w=sz/\v=ax/\oF=0/\n=rZ.length/\rZ.length+d.length<=1048576 then
       some (.vQ w id (ax+1) 0 (n+d.length),H.set id (.vQ k (ax+1) (rZ++d)))
      else none
     |_=>none
    |_=>none:=by
 unfold yg;simp only[g,q,hr]
 grind[KH]
def Fe(sz:Nat)(x:AV)(H:List aG)(z:List al):Option (Bool × List Kd × LL):=
 match x with
 |.emptyS _=>Bp sz x H (vU (z.map .lit))
 |_=>Bp sz x H none
theorem ab'{z:List al}{ks:List Kd}(h:Fe sz x H z=some (b,ks,rZ))(d:b=true):
  pt sz x (aF H)=some (rZ.map (bh ks)):=by
 unfold Fe at h;split at h<;>exact QV h d
def Bq(P:ak)(t xt:aJ)(s x:AV)(H:List aG):Option (Bool × AV × List aG):=
 match cZ P t with
 |.slice e sz c9=>
  match gK P e,KH (cZ P xt)with
  |some z,true=>
   if z.length=sz/\c9<=1048576 then
    match s with
    |.nils | .lit (.slice none 0 0)=>match Fe sz x H z with
     |some (b,ks,d)=>if ks.length=sz then some (b&&decide (d.length<=1048576),.vQ sz H.length 0 0 d.length,H++[.vQ ks 0 d]) else none
     |none=>none
    |.vQ w id ax oF n=>match H[id]? with
     |some (.vQ ks v rZ)=>match Bp sz x H (some ks) with
      |some (b,g,d)=>
       if ks.length=w/\w=sz/\v=ax/\oF=0/\Kd.kz ks g=true then
        some (b&&(aA n rZ.length&&decide (rZ.length+d.length<=1048576)),.vQ w id (ax+1) 0 (rZ++d).length,H.set id (.vQ ks (ax+1) (rZ++d)))
       else none
      |none=>none
     |_=>none
    |_=>none
   else none
  |_,_=>none
 |_=>none
theorem aca{s:AV}(h:Bq P t xt s x H=some (b,v,H'))(B:b=true):
  yg P t xt s x (aF H)=some (v,aF H'):=by
 unfold Bq at h;split at h
 case h_2=>cases h
 rename_i e sz c9 M;split at h
 case h_2=>cases h
 rename_i z N I;split at h
 case isFalse=>cases h
 rename_i hc;obtain⟨O,U⟩:=hc;have Y:∀{q:Bool} {ks:List Kd} {g:LL},Fe sz x H z=some (q,ks,g) ->
   (if ks.length=sz then some (q&&decide (g.length<=1048576),AV.vQ sz H.length 0 0 g.length,H++[aG.vQ ks 0 g]) else none)=some (b,v,H') ->
   ∃rZ,pt sz x (aF H)=some rZ/\rZ.length<=1048576/\v=.vQ sz (aF H).length 0 0 rZ.length/\aF H'=aF H++[.vQ sz 0 rZ]:=by
  intro q ks g hs h;split at h
  case isFalse=>cases h
  rename_i J;simp only[bQ,cr]at h;obtain⟨d,rfl,rfl⟩:=h;subst B;simp only[aR,dT]at d;refine⟨_,ab' hs d.1,by simpa using d.2,by simp[fX],?_⟩;rw[lx,aG.au,J]
 split at h
 grind[KI]
 grind[KI]
 ·rename_i w id ax oF n
  split at h
  case h_2=>cases h
  rename_i ks vv rZ hid;split at h
  case h_2=>cases h
  rename_i q ks' g hs;split at h
  case isFalse=>cases h
  rename_i W;obtain⟨q1,q2,q3,q4,A⟩:=W;have A:=Kd.lY A;subst A;simp only[bQ,cr]at h;obtain⟨d,rfl,rfl⟩:=h;subst B;simp only[aR,dT]at d;obtain⟨d,F,h3⟩:=d;have F:=cz F;rw[KI M N I (QV hs d) ⟨O,du,U⟩]
  simp_all[cn,aG.au,gn]
 ·cases h
def tT(len:Nat)(lo hi:Option AV):Option (Bool × Nat × Nat):=
 match lo,hi with
 |none,none=>some (true,0,len)
 |some (.lit (.int _ l)),none=>some (eg l&&cw l (len:Int),l.toNat,len)
 |none,some (.lit (.int _ h))=>some (eg h&&cw h (len:Int),0,h.toNat)
 |some (.lit (.int _ l)),some (.lit (.int _ h))=>some (eg l&&(cw l h&&cw h (len:Int)),l.toNat,h.toNat)
 |_,_=>none
theorem Ff{len:Nat}{l h:Nat}(d:tT len lo hi=some (b,l,h))(g:b=true):jq len lo hi=some (l,h):=by
 unfold tT at d;split at d
 grind[jq]
 ·rename_i l'
  simp only[bQ,cr]at d;obtain⟨q,rfl,rfl⟩:=d
  simp_all[jT,eh,jq,mu]
 simp_all[jT,eh,jq,mu]
 simp_all[jT,eh,jq,mu]
 ·cases d
def yx(rZ:LL)(lo hi:Option AV)(l h:Nat):LL:=
 match lo,hi with
 |none,none=>rZ
 |some _,none=>rZ.drop l
 |none,some _=>rZ.take h
 |some _,some _=>(rZ.drop l).take (h-l)
theorem QW{l h:Nat}(d:tT rZ.length lo hi=some (b,l,h)):yx rZ lo hi l h=(rZ.drop l).take (h-l):=by
 unfold tT at d;split at d
 ·cases d; simp[yx]
 ·simp only[bQ,cr]at d
  obtain⟨g,rfl,rfl⟩:=d;simp only[yx];rw[Z2 ai]
 ·simp only[bQ,cr]at d
  obtain⟨g,rfl,rfl⟩:=d;simp[yx]
 ·rfl
 ·cases d
def KJ(P:ak)(t:aJ)(x:AV)(lo hi mx:Option AV):Option (Bool × AV):=
 match mx with
 |some _=>match lW P t x lo hi mx with
  |some v=>some (true,v)
  |none=>none
 |none=>match cZ P t,x with
  |.str,.lit (.string s)=>match tT s.size lo hi with
   |some (b,l,h)=>some (b,.lit (.string (s.extract l h)))
   |none=>none
  |.slice _ sz _,.listF ks rZ=>match tT rZ.length lo hi with
   |some (b,l,h)=>if ks.length=sz then some (b,.listF ks (yx rZ lo hi l h)) else none
   |none=>none
  |.slice _ sz _,.vQ w id ax oF n=>match tT n lo hi with
   |some (b,l,h)=>if w=sz then some (b,.vQ w id ax (oF+l) (h-l)) else none
   |none=>none
  |.slice _ sz _,.list w rZ=>match w,ya rZ with
   |1,some d=>match tT d.length lo hi with
    |some (b,l,h)=>if 1=sz then some (b,.listF [.str] (yx d lo hi l h)) else none
    |none=>none
   |_,_=>match lW P t x lo hi none with
    |some v=>some (true,v)
    |none=>none
  |_,_=>match lW P t x lo hi none with
   |some v=>some (true,v)
   |none=>none
theorem acb{mx:Option AV}(h:KJ P t x lo hi mx=some (b,v))(A:b=true):lW P t x lo hi mx=some v:=by
 unfold KJ at h;split at h
 grind
 ·split at h
  ·rename_i s g
   split at h
   case h_2=>cases h
   rename_i B l F d;simp only[bQ,cr]at h;obtain⟨q,rfl⟩:=h;subst q;simp[lW,g,Ff d A]
  ·rename_i e sz c9 ks rZ g
   split at h
   case h_2=>cases h
   rename_i B l F d;split at h
   case isFalse=>cases h
   rename_i hs;simp only[bQ,cr]at h;obtain⟨q,rfl⟩:=h;subst q;simp[lW,g,Ff d A,hs,QW d]
  ·rename_i e sz c9 w id ax oF n g
   split at h
   case h_2=>cases h
   rename_i B l F d;split at h
   case isFalse=>cases h
   rename_i hs;simp only[bQ,cr]at h;obtain⟨q,rfl⟩:=h;subst q;simp[lW,g,Ff d A,hs]
  ·rename_i e sz c9 w rZ g
   split at h
   ·rename_i J I
    split at h
    case h_2=>cases h
    rename_i B l F d;split at h
    case isFalse=>cases h
    rename_i hs;simp only[bQ,cr]at h;obtain⟨q,rfl⟩:=h;subst q;subst hs;have M:rZ.length=J.length:=by rw[<-JI I,bL]
    simp[lW,g,M,Ff d A,QW d,Ex,I]
   grind
  grind
def Br(P:ak)(t:aJ)(l c:AV)(H:List aG):Option (Bool × AV × List aG):=
 match cZ P t,l,c with
 |.slice e sz c9,.lit (.int _ l),.lit (.int _ c)=>
  match gK P e with
  |some z=>match vU (EI P e z) with
   |some ks=>match jE ks (EI P e z) with
    |some d=>if z.length=sz/\0<sz/\c9<=1048576/\ks.length=sz then
      some (eg l&&(cw l c&&cw c 1048576),.vQ sz H.length 0 0 l.toNat,H++[.vQ ks 0 (dz l.toNat d)]) else none
    |none=>none
   |none=>none
  |none=>none
 |_,_,_=>none
theorem acd{l c:AV}(h:Br P t l c H=some (b,v,H'))(d:b=true):
  A8 P t l c (aF H)=some (v,aF H'):=by
 unfold Br at h;unfold A8;split at h
 case h_2=>cases h
 rename_i e sz c9 _ l _ c g;rw[g];simp only[];split at h
 case h_2=>cases h
 rename_i z F;split at h
 case h_2=>cases h
 rename_i ks A;split at h
 case h_2=>cases h
 rename_i I B;split at h
 case isFalse=>cases h
 rename_i hc;obtain⟨J,M,c3,N⟩:=hc;simp only[bQ,cr]at h;obtain⟨q,rfl,rfl⟩:=h;subst d;simp only[jT,eh,aR,dT]at q
 grind[lx,fX,aG.au,List.map_replicate,nX]
def Bs(P:ak)(t:aJ)(n:Nat)(parts:List (Nat × AV))(H:List aG):Option (Bool × AV × List aG):=
 match cZ P t with
 |.slice e _ _=>match gK P e with
  |some z=>match vU (z.map .lit) with
   |some ks=>match yj P t n parts with
    |some (.list sz rZ)=>match r8 ks rZ with
     |some d=>if ks.length=sz then some (true,.vQ sz H.length 0 0 d.length,H++[.vQ ks 0 d]) else none
     |none=>none
    |_=>none
   |none=>none
  |none=>none
 |_=>none
theorem ace{parts:List (Nat × AV)}(h:Bs P t n parts H=some (b,v,H')):
  Bb P t n parts (aF H)=some (v,aF H'):=by
 unfold Bs at h;split at h
 case h_2=>cases h
 split at h
 case h_2=>cases h
 split at h
 case h_2=>cases h
 rename_i ks q;split at h
 case h_2=>cases h
 rename_i sz rZ g;split at h
 case h_2=>cases h
 rename_i A d;split at h
 case isFalse=>cases h
 rename_i hc;cases h;unfold Bb;rw[g];have e:=yv d;simp only[];rw[lx,fX,aG.au,hc,e,<-e,bL]
def Ct.read:Ct->AV->Option LG
 |.one k,a=>match Bn k a with
  |some g=>some [g]
  |none=>none
 |.agg ks,.agg cells=>jE ks cells
 |_,_=>none
theorem Ct.vW{r:LG}(h:K.read a=some r):K.av r=a:=by
 unfold Ct.read at h;split at h
 ·split at h
  ·rename_i g d
   cases h;exact KB d
  ·cases h
 ·simp only[Ct.av,nX h]
 ·cases h
def Bt(P:ak)(t:aJ):Option (Ct × LG):=
 match P.info? t with
 |some i=>match i.zero with
  |some (.agg cs)=>match cs.toList.all fm,vU (cs.toList.map .lit) with
   |true,some ks=>match jE ks (cs.toList.map .lit) with
    |some d=>some (.agg ks,d)
    |none=>none
   |_,_=>none
  |some v=>match Bo (.lit v) with
   |some k=>match Bn k (.lit v) with
    |some g=>some (.one k,[g])
    |none=>none
   |none=>match nT P t,J5 P t with
    |some (.lit (.slice none 0 0)),some ks=>some (.one (.list ks),[.l []])
    |_,_=>none
  |none=>none
 |none=>none
theorem acf(h:nT P t=some v)(hn:v=.lit (.slice none 0 0)->False):tH P t=some v:=by
 unfold tH;rw[h];split
 ·rename_i e _
  cases e;exact(hn rfl).elim
 ·rename_i e _
  cases e;rfl
 ·rename_i e
  cases e
theorem acg{V:Ct}{z:LG}(h:Bt P t=some (V,z)):tH P t=some (V.av z):=by
 unfold Bt at h;have A:∀v,nT P t=some v->(v=.lit (.slice none 0 0)->False)->tH P t=some v:=fun v h hn=>acf h hn;split at h
 case h_2=>cases h
 rename_i i hi;split at h
 ·rename_i cs d
  split at h
  ·rename_i ks q B
   split at h
   ·rename_i N J
    cases h;refine A _ ?_ fun e=>by cases e
    unfold nT;rw[hi];simp only[];rw[d];simp only[AV.x7,q,if_true,Ct.av,nX J]
   ·cases h
  ·cases h
 ·rename_i v I d
  split at h
  ·rename_i k F
   split at h
   ·rename_i g M
    cases h;have e:=KB M;simp only[Ct.av,nE,e];refine A _ ?_ fun e=>by
     simp only[AV.lit.injEq]at e;subst e;simp[Bo]at F
    unfold nT;rw[hi];simp only[];rw[d];simp only[];unfold AV.x7;split
    ·rename_i cs; exact(I cs rfl).elim
    ·simp[Bo]at F
    ·rfl
   ·cases h
  ·split at h
   ·rename_i ks q B
    cases h;unfold tH;rw[q,B];rfl
   ·cases h
 ·cases h
def Fg:SK->Kd->Bool
 |.int k,.int d=>decide (k=d)
 |.str,.str=>true
 |.bool,.bool=>true
 |_,_=>false
def nY:List SK->List Kd->Bool
 |[],[]=>true
 |a::as,b::d=>Fg a b&&nY as d
 |_,_=>false
def nZ(P:ak)(d:aJ)(K:Ct):Bool:=
 match flatK P rQ d with
 |some g=>nY g K.ks&&(match K with
  |.one _ => !rP (P.underlying d)
  |.agg _=>rP (P.underlying d))
 |none=>false
def tU:Kd->G->al
 |.int k,g=>.int k g.iV
 |.str,g=>.string g.sV
 |.bool,g=>.bool g.bV
 |.list _,_=>.bool false
def fc:List Kd->LG->List al
 |[],_=>[]
 |k::ks,r=>tU k (r.headD default)::fc ks r.tail
theorem QX:∀{d:List SK} {ks:List Kd} (r:LG),nY d ks=true->rO (bh ks r)=some (fc ks r)/\d_ d (fc ks r)=true
  |[],[],_,_=>⟨rfl,rfl⟩
  |a::as,k::ks,r,h=>by
    simp only[nY,aR]at h;obtain⟨q,A⟩:=QX r.tail h.2;have g:=h.1;cases k<;>cases a<;>simp only[Fg]at g<;>first
      |(cases g; done)
      | (simp only [bh, mX, rO, q, fc, tU, d_, A, Bool.and_true]
         simp_all[kindOk])
  |[],_::_,_,h|_::_,[],_,h=>by simp[nY]at h
theorem KK:∀{g:List SK} {ks:List Kd} (r s:LG),nY g ks=true->fE (fc ks r) (fc ks s)=aK ks r s
 |[],[],_,_,_=>rfl
 |a::as,k::ks,r,s,h=>by
  simp only[nY,aR]at h;have q:=KK r.tail s.tail h.2;have d:=h.1;simp only[fc,fE,aK,q];cases k<;>cases a<;>simp only[Fg]at d<;>first
   |(cases d; done)
   |rfl
 |[],_::_,_,_,h|_::_,[],_,_,h=>by simp[nY]at h
theorem tV{g:aJ}(h:nZ P g K=true)(r:LG):nR P g (K.av r)=some (fc K.ks r):=by
 unfold nZ at h;split at h
 case h_2=>cases h
 rename_i A B;simp only[aR]at h;obtain⟨d,F⟩:=h;obtain⟨J,I⟩:=QX r d;unfold nR;rw[B];simp only[];cases K with
 |one k=>
  simp only[Bool.not_eq_true']at F;simp only[Ct.ks,fc]at I|-;have e:mX k (r.headD default)=.lit (tU k (r.headD default)):=by
   simp only[Ct.ks]at d;cases A with
   |nil=>simp[nY]at d
   |cons a as=>
    simp only[nY,aR]at d;have q:=d.1;cases k<;>cases a<;>simp only[Fg]at q<;>first
     |(cases q; done)
     |rfl
  simp_all[Ct.av]
 |agg ks=>
  simp_all[Ct.av,Ct.ks]
def fl(ks:List Kd)(key:LG):LL->Nat->Option (Nat × LG)
 |[],_=>none
 |r::rs,i=>bif aK ks key (gi r 0).rV then some (i,r) else fl ks key rs (i+1)
def b_(ks:List Kd)(rZ:LL)(key:LG):Bool:=(fl ks key rZ 0).isSome
def da(ks:List Kd)(rZ:LL)(key z:LG):LG:=match fl ks key rZ 0 with
 |some (_,r)=>(gi r 1).rV
 |none=>z
def cH(ks:List Kd)(rZ:LL)(key val:LG)(aL:Nat):LL:=match fl ks key rZ 0 with
 |some (i,r)=>rZ.set i [.l [key],.l [val],.i (gi r 2).iV]
 |none=>rZ++[[.l [key],.l [val],.i aL]]
def dI(ks:List Kd)(rZ:LL)(key:LG)(aL:Nat):Nat:=bif b_ ks rZ key then aL else aL+1
def mz(ks:List Kd)(rZ:LL)(key:LG):LL:=match fl ks key rZ 0 with
 |some (i,_)=>rZ.eraseIdx i
 |none=>rZ
theorem Fh{P:ak}{g:aJ}{K V:Ct}(h:nZ P g K=true)(key:LG):∀(rZ:LL) (i:Nat),jr P g (fc K.ks key) (dH K V rZ) i =
  some ((fl K.ks key rZ i).map fun p=>(p.1,V.av (gi p.2 1).rV))
 |[],i=>rfl
 |r::rs,i=>by
  have A:=Fh (V:=V) h key rs (i+1);have q:∃d,nY d K.ks=true:=by
   unfold nZ at h;split at h
   ·simp only[aR]at h; exact⟨_,h.1⟩
   ·cases h
  obtain⟨d,hs⟩:=q;simp only[dH,eU,jr,tV h,KK _ _ hs,fl];cases aK K.ks key (gi r 0).rV with
  |true=>rfl
  |false=>exact A
theorem Bu{ks:List Kd}{key:LG}:∀{rZ:LL} {i j:Nat} {r:LG},fl ks key rZ i=some (j,r)->i<=j/\rZ[j-i]? = some r
 |[],_,_,_,h=>by simp[fl]at h
 |x::rs,i,j,r,h=>by
  simp only[fl]at h;cases d:aK ks key (gi x 0).rV with
  |true=>
   grind
  |false=>
   rw[d]at h;obtain⟨g,q⟩:=Bu h
   grind
def KL(P:ak)(t:aJ)(m k:AV)(ok:Bool)(H:List aG):Option (Bool × AV):=
 match iF P t,m with
 |some (d,g),.map id=>match H[id]? with
  |some (.map K V rZ _)=>match K.read k,Bt P g with
   |some key,some (q,z)=>match nZ P d K&&V.same q with
    |true=>some (true,match ok with
      |true=>.tuple [V.av (da K.ks rZ key z),.lit (.bool (b_ K.ks rZ key))]
      |false=>V.av (da K.ks rZ key z))
    |false=>none
   |_,_=>none
  |_=>none
 |_,_=>none
theorem QY{ok:Bool}(h:KL P t m k ok H=some (b,v)):pA P t m k ok (aF H)=some v:=by
 unfold KL at h;unfold pA;split at h
 case h_2=>cases h
 rename_i B F id g;rw[g];simp only[];split at h
 case h_2=>cases h
 rename_i K V rZ cl d;rw[cn d];simp only[aG.au];split at h
 case h_2=>cases h
 rename_i key I z q A;split at h
 case h_2=>cases h
 rename_i hc;simp only[aR]at hc;have e:=Ct.vT hc.2;subst e;rw[<-Ct.vW q,tV hc.1,acg A];simp only[Fh hc.1];cases h;unfold da b_;cases fl K.ks key rZ 0 with
 |none=>cases ok<;>rfl
 |some p=>cases ok<;>rfl
def yz(P:ak)(t:aJ)(m k v:AV)(H:List aG):Option (Bool × List aG):=
 match iF P t,m with
 |some (d,_),.map id=>match H[id]? with
  |some (.map K V rZ cl)=>match K.read k,V.read v with
   |some key,some val=>match nZ P d K with
    |true=>some (true,H.set id (.map K V (cH K.ks rZ key val cl) (dI K.ks rZ key cl)))
    |false=>none
   |_,_=>none
  |_=>none
 |_,_=>none
def fO(ks:List Kd)(rZ:LL)(key:LG):LL:=match fl ks key rZ 0 with
 |some (_,r)=>nW r
 |none=>[]
def iq(ks:List Kd)(rZ:LL)(key:LG):Bool:=match fl ks key rZ 0 with
 |some (_,r)=>(gi r 3).bV
 |none=>true
def jF(ks:List Kd)(rZ:LL)(key:LG):LL:=match fl ks key rZ 0 with
 |some (i,r)=>rZ.set i [gi r 0,gi r 1,gi r 2,.t false]
 |none=>rZ
def mA(ks:List Kd)(rZ:LL)(key:LG)(val:LL)(aL:Nat):LL:=match fl ks key rZ 0 with
 |some (i,r)=>rZ.set i [.l [key],.l [[.l val]],.i (gi r 2).iV,.t true]
 |none=>rZ++[[.l [key],.l [[.l val]],.i aL,.t true]]
def Bv(P:ak)(t:aJ)(m k:AV)(H:List aG):Option (Bool × AV × List aG):=
 match iF P t,m with
 |some (g,d),.map id=>match H[id]? with
  |some (.bI l K ks rZ cl)=>match K.read k,ER P d,nT P d with
   |some key,some w',some (.lit (.slice none 0 0))=>match aA w' ks.length&&nZ P g K with
    |true=>some (iq K.ks rZ key,.vQ ks.length H.length 0 0 (fO K.ks rZ key).length,H.set id (.bI l K ks (jF K.ks rZ key) cl)++[.vQ ks 0 (fO K.ks rZ key)])
    |false=>none
   |_,_,_=>none
  |_=>none
 |_,_=>none
def Bw(P:ak)(t:aJ)(m k v:AV)(H:List aG):Option (Bool × List aG):=
 match iF P t,m,v with
 |some (A,_),.map id,.vQ w j ax oF n=>match H[id]?,H[j]? with
  |some (.bI l K ks rZ cl),some (.vQ q g d)=>match K.read k with
   |some key=>match nZ P A K&&(Kd.kz ks q&&(aA w ks.length&&(aA ax g&&aA oF 0))) with
    |true=>some (aA n d.length,(H.set id (.bI l K ks (mA K.ks rZ key d cl) (dI K.ks rZ key cl))).set j (.raw .dead))
    |false=>none
   |none=>none
  |_,_=>none
 |_,_,_=>none
def QZ(ks:List Kd)(rZ:LL)(key:LG)(aL:Nat):Nat:=match fl ks key rZ 0 with
 |some (_,r)=>(gi r 2).iV.toNat
 |none=>aL
def Q0(ks:List Kd)(rZ:LL)(key:LG)(aL:Nat):LL:=match fl ks key rZ 0 with
 |some (i,r)=>rZ.set i [.l [key],gi r 1,gi r 2,.t false]
 |none=>rZ++[[.l [key],.l [[.l []]],.i aL,.t false]]
def Bx(P:ak)(t:aJ)(m k:AV)(H:List aG):Option (Bool × AV × List aG):=
 match iF P t,m with
 |some (g,d),.map id=>match H[id]? with
  |some (.bI l K ks rZ cl)=>match K.read k,ER P d,nT P d with
   |some key,some w',some (.lit (.slice none 0 0))=>match aA w' ks.length&&nZ P g K with
    |true=>some (iq K.ks rZ key,.tuple [.vQ ks.length H.length 0 0 (fO K.ks rZ key).length,.lit (.int .i64 (QZ K.ks rZ key cl:Nat))],
      H.set id (.bI l K ks (Q0 K.ks rZ key cl) (dI K.ks rZ key cl))++[.vQ ks 0 (fO K.ks rZ key)])
    |false=>none
   |_,_,_=>none
  |_=>none
 |_,_=>none
def r9(st:Int):LL->Nat->Option (Nat × LG)
 |[],_=>none
 |r::rs,i=>bif ((gi r 2).iV.toNat:Int)==st then some (i,r) else r9 st rs (i+1)
def Q1(rZ:LL)(st:Int)(val:LL):LL:=match r9 st rZ 0 with
 |some (i,r)=>rZ.set i [gi r 0,.l [[.l val]],gi r 2,.t true]
 |none=>rZ
def Q2(rZ:LL)(st:Int):Bool:=(r9 st rZ 0).isSome
def By(m s v:AV)(H:List aG):Option (Bool × List aG):=
 match m,s,v with
 |.map id,.lit (.int .i64 st),.vQ w j ax oF n=>match H[id]?,H[j]? with
  |some (.bI l K ks rZ cl),some (.vQ q g d)=>match Kd.kz ks q&&(aA w ks.length&&(aA ax g&&aA oF 0)) with
   |true=>some (Q2 rZ st&&aA n d.length,(H.set id (.bI l K ks (Q1 rZ st d) cl)).set j (.raw .dead))
   |false=>none
  |_,_=>none
 |_,_,_=>none
theorem Fi{P:ak}{g:aJ}{K:Ct}{ks:List Kd}(h:nZ P g K=true)(key:LG):∀(rZ:LL) (i:Nat),jr P g (fc K.ks key) (eu (jU K ks rZ)) i =
  some ((fl K.ks key rZ i).map fun p=>(p.1,AV.undef))
 |[],i=>rfl
 |r::rs,i=>by
  have A:=Fi (ks:=ks) h key rs (i+1);have q:∃d,nY d K.ks=true:=by
   unfold nZ at h;split at h
   ·simp only[aR]at h; exact⟨_,h.1⟩
   ·cases h
  obtain⟨d,hs⟩:=q;simp only[jU,eu,ng,eU,jr,tV h,KK _ _ hs,fl];cases aK K.ks key (gi r 0).rV with
  |true=>rfl
  |false=>exact A
theorem Bz{ks:List Kd}{r:LG}(h:rZ[i]?=some r):(jU K ks rZ)[i]?=some (ng K ks r):=by
 unfold jU;rw[dw,h];rfl
theorem Fj(K:Ct)(ks:List Kd)(rZ:LL)(i:Nat)(r:LG):jU K ks (rZ.set i r)=(jU K ks rZ).set i (ng K ks r):=by
 simp[jU,Jn]
theorem ach(h:Bv P t m k H=some (b,v,H'))(J:b=true):Bc P t m k (aF H)=some (v,aF H')/\pA P t m k false (aF H)=none:=by
 unfold Bv at h;unfold Bc pA;split at h
 case h_2=>cases h
 rename_i W Y id M;rw[M];simp only[];split at h
 case h_2=>cases h
 rename_i l K ks rZ cl F;rw[cn F];simp only[aG.au];split at h
 case h_2=>cases h
 rename_i key w' N O U;split at h
 case h_2=>cases h
 rename_i hc;simp only[aR]at hc;obtain⟨g,q⟩:=hc;have e:=cz g;simp only[bQ,cr]at h;obtain⟨d,rfl,rfl⟩:=h;rw[J]at d;rw[<-Ct.vW N,tV q,O,U];simp only[g,Fi q,and_true];unfold iq at d;unfold fO jF;cases A:fl K.ks key rZ 0 with
 |none=>
  simp only[Z_,lx,gn,aG.au,fX,fU,mo]
 |some p=>
  obtain⟨i,r⟩:=p;rw[A]at d;simp only[]at d;obtain⟨_,B⟩:=Bu A;rw[mT]at B;have I:tL (jU K ks rZ) i=some (K.av (gi r 0).rV,(nW r).map (bh ks),(gi r 2).iV.toNat):=by
   unfold tL;rw[Bz B];simp only[ng,d,cT]
  simp only[jl,I,lx,gn,aG.au,fX,bL,Fj];rfl
theorem aci(h:Bw P t m k v H=some (b,H'))(M:b=true):Bd P t m k v (aF H)=some (aF H')/\tJ P t m k v (aF H)=none:=by
 unfold Bw at h;unfold Bd tJ;split at h
 case h_2=>cases h
 rename_i kt et id w j ax oF n N;rw[N];simp only[];split at h
 case h_2=>cases h
 rename_i l K ks rZ cl ks2 ver' rws A O;rw[cn A,cn O];simp only[aG.au];split at h
 case h_2=>cases h
 rename_i key U;split at h
 case h_2=>cases h
 rename_i hc;simp only[aR]at hc;obtain⟨g,B,F,I,J⟩:=hc;have W:=Kd.lY B;subst W;have Y:=cz F;have e4:=cz I;have e5:=cz J;subst Y e4 e5;simp only[bQ,cr]at h;obtain⟨d,rfl⟩:=h;rw[M]at d;have d:=cz d;subst d;rw[<-Ct.vW U,tV g];simp only[Ct.Fc,bL,and_self,if_true,Fi g,and_true];unfold mA dI b_;cases hf:fl K.ks key rZ 0 with
 |none=>
  simp only[Z_,gn,aG.au,ZT,cF];simp[jU,ng,nW,gi,G.rV,G.rZ,G.iV,G.bV]
 |some p=>
  obtain⟨i,r⟩:=p;obtain⟨_,q⟩:=Bu hf;rw[mT]at q;simp only[jl,Ka (Bz q),gn,aG.au,Fj,Z',cT];simp[ng,nW,gi,G.rV,G.rZ,G.iV,G.bV]
theorem acj(h:Bx P t m k H=some (b,v,H'))(J:b=true):Bf P t m k (aF H)=some (v,aF H'):=by
 unfold Bx at h;unfold Bf;split at h
 case h_2=>cases h
 rename_i W Y id M;rw[M];simp only[];split at h
 case h_2=>cases h
 rename_i l K ks rZ cl B;rw[cn B];simp only[aG.au];split at h
 case h_2=>cases h
 rename_i key w' N O U;split at h
 case h_2=>cases h
 rename_i hc;simp only[aR]at hc;obtain⟨F,g⟩:=hc;simp only[bQ,cr]at h;obtain⟨d,rfl,rfl⟩:=h;rw[J]at d;rw[<-Ct.vW N,tV g,O,U];simp only[F,Ct.Fc,Bool.and_self,Fi g];unfold iq at d;unfold fO Q0 QZ dI b_;cases q:fl K.ks key rZ 0 with
 |none=>
  simp only[Z_,lx,gn,aG.au,fX,fU,mo,ZT,cF,goInt];simp[jU,ng,nW,gi,G.rV,G.rZ,G.iV,G.bV]
 |some p=>
  obtain⟨i,r⟩:=p;rw[q]at d;simp only[]at d;obtain⟨_,A⟩:=Bu q;rw[mT]at A;have I:tL (jU K ks rZ) i=some (K.av (gi r 0).rV,(nW r).map (bh ks),(gi r 2).iV.toNat):=by
   unfold tL;rw[Bz A];simp only[ng,d,cT]
  simp only[jl,I,lx,gn,aG.au,fX,bL,Fj,Z',cT,goInt];rfl
theorem Q3{st:Int}:∀{rZ:LL} {i j:Nat} {r:LG},r9 st rZ i=some (j,r)->i<=j/\rZ[j-i]? = some r
 |[],_,_,_,h=>by simp[r9]at h
 |x::rs,i,j,r,h=>by
  simp only[r9]at h;cases d:((gi x 2).iV.toNat:Int)==st with
  |true=>
   rw[d]at h;cases h;simp
  |false=>
   rw[d]at h;obtain⟨q,g⟩:=Q3 h;refine⟨ab,?_⟩;rw[show j-i=(j-(i+1))+1 from by omega];simpa using g
theorem Q4{K:Ct}{ks:List Kd}{st:Int}:∀{rZ:LL} {i:Nat},(r9 st rZ i).map (·.1)=(vH (jU K ks rZ) st).map (·+i)
 |[],_=>rfl
 |x::rs,i=>by
  have d:=Q4 (K:=K) (ks:=ks) (st:=st) (rZ:=rs) (i:=i+1);unfold vH at d|-;simp only[r9,jU,eU,List.findIdx?_cons,ng]at d|-;cases g:((gi x 2).iV.toNat:Int)==st with
  |true=>simp
  |false=>
   simp only[cF,d,Bool.false_eq_true,if_false,Option.map_map];congr 1
   grind
theorem ack{s:AV}(h:By m s v H=some (b,H'))(U:b=true):Bg m s v (aF H)=some (aF H'):=by
 unfold By at h;unfold Bg;split at h
 case h_2=>cases h
 rename_i id st w j ax oF n;split at h
 case h_2=>cases h
 rename_i l K ks rZ cl ks2 ver' rws I W;simp only[];rw[cn I,cn W];simp only[aG.au];split at h
 case h_2=>cases h
 rename_i hc;simp only[aR]at hc;obtain⟨J,M,N,O⟩:=hc;have Y:=Kd.lY J;subst Y;have e3:=cz M;have e4:=cz N;have e5:=cz O;subst e3 e4 e5;simp only[bQ,cr]at h;obtain⟨q,rfl⟩:=h;rw[U]at q;simp only[aR]at q;obtain⟨d,g⟩:=q;have g:=cz g;subst g;simp only[bL,and_self,if_true];unfold Q2 at d;unfold Q1;cases A:r9 st rZ 0 with
 |none=>rw[A]at d; cases d
 |some p=>
  obtain⟨i,r⟩:=p;obtain⟨_,B⟩:=Q3 A;rw[mT]at B;have hi:vH (jU K ks rZ) st=some i:=by
   have:=Q4 (K:=K) (ks:=ks) (st:=st) (rZ:=rZ) (i:=0);rw[A]at this;cases F:vH (jU K ks rZ) st with
   |none=>rw[F]at this; cases this
   |some y=>rw[F]at this; simp at this; rw[this]
  rw[hi];simp only[Bz B,ng,gn,aG.au,Fj];simp[nW,gi,G.rV,G.rZ,G.bV]
theorem acm(K V:Ct)(rZ:LL)(i:Nat)(r:LG):dH K V (rZ.set i r)=(dH K V rZ).set i (K.av (gi r 0).rV,V.av (gi r 1).rV,(gi r 2).iV.toNat):=by
 simp[dH,Jn]
theorem acn{l:List α}{x:α}(f:α->α)(h:l[i]?=some x):l.modify i f=l.set i (f x):=by
 apply List.ext_getElem?
 grind
theorem Q5(h:yz P t m k v H=some (b,H')):tJ P t m k v (aF H)=some (aF H'):=by
 unfold yz at h;unfold tJ;split at h
 case h_2=>cases h
 rename_i J M id A;rw[A];simp only[];split at h
 case h_2=>cases h
 rename_i K V rZ cl g;rw[cn g];simp only[aG.au];split at h
 case h_2=>cases h
 rename_i key val B F;split at h
 case h_2=>cases h
 rename_i hc;cases h;rw[<-Ct.vW B,<-Ct.vW F,tV hc];simp only[Ct.Fc,and_self,if_true,Fh hc,gn,aG.au];unfold cH dI b_;cases I:fl K.ks key rZ 0 with
 |none=>simp[dH,gi,G.rV,G.rZ,G.iV]
 |some p=>
  obtain⟨_,d⟩:=Bu (r:=p.2) (j:=p.1) I;rw[mT]at d;have q:(dH K V rZ)[p.1]?=some (K.av (gi p.2 0).rV,V.av (gi p.2 1).rV,(gi p.2 2).iV.toNat):=by simp[dH,d]
  simp only[jl,acn _ q,acm,Z',cT];simp[gi,G.rV,G.rZ,G.iV]
def BA(P:ak)(t:aJ)(m k:AV)(H:List aG):Option (Bool × List aG):=
 match iF P t,m with
 |some (d,_),.map id=>match H[id]? with
  |some (.map K V rZ cl)=>match K.read k,nZ P d K with
   |some key,true=>some (true,H.set id (.map K V (mz K.ks rZ key) cl))
   |_,_=>none
  |_=>none
 |_,_=>none
theorem Q6{α β:Type}(f:α->β):∀(l:List α) (i:Nat),(l.map f).eraseIdx i=(l.eraseIdx i).map f
 |[],_=>by simp
 |_::_,0=>by simp
 |_::l,i+1=>by simp[Q6 f l i]
theorem aco(h:BA P t m k H=some (b,H')):A' P t m k (aF H)=some (aF H'):=by
 unfold BA at h;unfold A';split at h
 case h_2=>cases h
 rename_i A B id g;rw[g];simp only[];split at h
 case h_2=>cases h
 rename_i K V rZ cl d;rw[cn d];simp only[aG.au];split at h
 case h_2=>cases h
 rename_i key q hc;cases h;rw[<-Ct.vW q,tV hc];simp only[Fh hc,gn,aG.au];unfold mz;cases F:fl K.ks key rZ 0 with
 |none=>rfl
 |some p=>grind[dH,Q6]
def BB(P:ak)(t:aJ)(x:AV)(H:List aG):Option (Bool × List aG):=
 match cZ P t,x with
 |.slice e sz _,.vQ w id ax oF n=>match gK P e,H[id]? with
  |some z,some (.vQ ks v rZ)=>match jE ks (z.map .lit) with
   |some d=>if ks.length=w/\w=sz/\v=ax/\z.length=sz/\0<sz then
     some (bW (oF+n) rZ.length,H.set id (.vQ ks v (rZ.take oF++dz n d++rZ.drop (oF+n)))) else none
   |none=>none
  |_,_=>none
 |_,_=>none
theorem acp(h:BB P t x H=some (b,H'))(A:b=true):Ba P t x (aF H)=some (aF H'):=by
 unfold BB at h;unfold Ba;split at h
 case h_2=>cases h
 rename_i e sz c9 w id ax oF n B;rw[B];simp only[];split at h
 case h_2=>cases h
 rename_i z ks v rZ F g;rw[F,cn g];simp only[aG.au];split at h
 case h_2=>cases h
 rename_i M q;split at h
 case isFalse=>cases h
 rename_i hc;obtain⟨rfl,rfl,rfl,I,J⟩:=hc;simp only[bQ,cr]at h;obtain⟨d,rfl⟩:=h;subst A;have d:=lk d;simp only[I,J,bL,d,and_self,if_true,gn,aG.au,bQ];rw[<-nX q];simp
def BC(P:ak)(t xt:aJ)(s x:AV)(H:List aG):Option (Bool × AV × List aG):=
 match cZ P t,cZ P xt,s,x with
 |.slice e sz c9,.int _,.lit (.slice none 0 0),.lit (.int _ n)=>match gK P e with
  |some z=>match vU (z.map .lit) with
   |some ks=>match jE ks (z.map .lit) with
    |some d=>if z.length=sz/\0<sz/\c9<=1048576/\ks.length=sz then
      some (ba 0 n&&cw n 1048576,.vQ sz H.length 0 0 n.toNat,H++[.vQ ks 0 (dz n.toNat d)]) else none
    |none=>none
   |none=>none
  |none=>none
 |_,_,_,_=>none
theorem acq{s:AV}(h:BC P t xt s x H=some (b,v,H'))(A:b=true):vG P t xt s x (aF H)=some (v,aF H'):=by
 unfold BC at h;unfold vG;split at h
 case h_2=>cases h
 rename_i e sz c9 k U n B g;rw[B,g];simp only[];split at h
 case h_2=>cases h
 rename_i z F;rw[F];simp only[];split at h
 case h_2=>cases h
 rename_i ks O;split at h
 case h_2=>cases h
 rename_i W q;split at h
 case isFalse=>cases h
 rename_i hc;obtain⟨I,J,M,N⟩:=hc;simp only[bQ,cr]at h;obtain⟨d,rfl,rfl⟩:=h;subst A;simp only[dX,eh,aR,dT]at d;simp only[I,J,M,d.1,d.2,and_self,if_true,lx,aG.au,fX,N,bQ,cr,true_and];rw[<-nX q];simp
def yA(P:ak)(r:cN->AV)(H:List aG):Op->Option (Bool × AV × List aG)
 |.alloc t=>match EF P t with
  |some e=>if yi (aF H) 0=true then some (true,.ptr H.length 0 0 0 0,H++[.raw (.dK 0 t e AJ)]) else none
  |none=>match gK P t with
   |some z=>some (true,.ptr H.length 0 0 0 0,H++[.raw (.box (z.map .lit))])
   |none=>none
 |.box _ x=>match tD (r x) with
  |some cs=>some (true,.ptr H.length 0 0 0 0,H++[.raw (.box cs)])
  |none=>none
 |.store t a x=>match yw P t (r a) (r x) H with
  |some (b,H')=>some (b,.undef,H')
  |none=>none
 |.makeSlice t l c=>Br P t (r l) (r c) H
 |.buildSlice t n parts=>Bs P t n (parts.toList.map fun p=>(p.1,r p.2)) H
 |.range t x=>match cZ P t,r x with
  |.str,.lit (.string s)=>some (true,.ptr H.length 0 0 0 0,H++[.raw (.iter s 0)])
  |_,_=>none
 |.next it true=>match r it with
  |.ptr id 0 _ 0 0=>match H[id]? with
   |some (.raw (.iter s pos))=>if pos<s.size then some (true,.tuple [.lit (.bool true),.lit (goInt pos),.lit (.int .i32 (tf s pos).1)],H.set id (.raw (.iter s (pos+(tf s pos).2))))
     else some (true,.tuple [.lit (.bool false)],H)
   |_=>none
  |_=>none
 |.makeMap t none=>match iF P t with
  |some (d,g)=>match Bt P d,Bt P g with
   |some (K,_),some (V,_)=>some (true,.map H.length,H++[.map K V [] 0])
   |_,_=>none
  |none=>none
 |.mapUpdate t m k v=>match yz P t (r m) (r k) (r v) H with
  |some (b,H')=>some (b,.undef,H')
  |none=>match Bw P t (r m) (r k) (r v) H with
   |some (b,H')=>some (b,.undef,H')
   |none=>none
 |.lookup t m k false=>Bv P t (r m) (r k) H
 |.mapEntry t m k=>Bx P t (r m) (r k) H
 |.entryStore _ m s x=>match By (r m) (r s) (r x) H with
  |some (b,H')=>some (b,.undef,H')
  |none=>none
 |.insert t m k v=>match yz P t (r m) (r k) (r v) H with
  |some (b,H')=>some (b,.undef,H')
  |none=>none
 |.call c=>match c.callee with
  |.builtin .append=>match c.args.toList,c.argTypes.toList with
   |[s,x],[t,xt]=>match cZ P xt with
    |.int _=>BC P t xt (r s) (r x) H
    |_=>Bq P t xt (r s) (r x) H
   |_,_=>none
  |.builtin .clear=>match c.args.toList,c.argTypes.toList with
   |[x],[t]=>match BB P t (r x) H with
    |some (b,H')=>some (b,.tuple [],H')
    |none=>none
   |_,_=>none
  |.builtin .delete=>match c.args.toList,c.argTypes.toList with
   |[x,k],t::_=>match BA P t (r x) (r k) H with
    |some (b,H')=>some (b,.tuple [],H')
    |none=>none
   |_,_=>none
  |_=>none
 |_=>none
theorem acr{s:AV}{H:List ay}(h:∀k,cZ P xt≠.int k):vG P t xt s x H=none:=by
 unfold vG;split
 ·rename_i d
  exact(h _ d).elim
 ·rfl
theorem Q7{o:Op}(h:yA P r H o=some (b,v,H'))(d:b=true):gB P r (aF H) o=some (v,aF H'):=by
 cases o<;>simp only[yA]at h<;>try cases h
 case alloc t=>
  split at h
  ·rename_i e he
   split at h
   ·rename_i hn
    cases h;simp only[gB,vE,he,hn,if_true,fX,lx,aG.au]
   ·cases h
  ·rename_i he
   split at h
   ·rename_i z F; cases h; simp only[gB,vE,he,F,fX,lx,aG.au]
   ·cases h
 case box t x=>
  split at h
  ·rename_i z F; cases h; simp only[gB,EH,F,fX,lx,aG.au]
  ·cases h
 case store t a x=>
  split at h
  ·rename_i A H1 hs; cases h; simp only[gB,QU hs d]
  ·cases h
 case makeSlice t l c=>simp only[gB]; exact acd h d
 case buildSlice t n ps=>simp only[gB]; exact ace h
 case range t x=>
  split at h
  ·rename_i s U I
   cases h;simp only[gB,EJ,U,I,fX,lx,aG.au]
  ·cases h
 case next it isString=>
  cases isString with
  |false=>cases h
  |true=>
   simp only[]at h;split at h
   ·rename_i id k I
    split at h
    ·rename_i s pos N
     simp only[gB,EK,I,cn N,aG.au];split at h
     ·rename_i B
      cases h;rw[iP B,gn];rfl
     ·rename_i B
      cases h;rw[iN B]
    ·cases h
   ·cases h
 case makeMap t res=>
  cases res with
  |some _=>cases h
  |none=>
   simp only[]at h;split at h
   ·split at h
    ·cases h
     simp only[gB,fX,lx,aG.au];rfl
    ·cases h
   ·cases h
 case mapUpdate t m k x=>
  split at h
  ·rename_i A H1 hs
   cases h;simp only[gB,Q5 hs]
  ·split at h
   ·rename_i A H1 hs
    cases h;obtain⟨J,M⟩:=aci hs d;simp only[gB,J,M]
   ·cases h
 case lookup t m k ok=>
  cases ok with
  |true=>cases h
  |false=>
   obtain⟨J,M⟩:=ach h d;simp only[gB,J,M]
 case mapEntry t m k=>simp only[gB,acj h d]
 case entryStore t m s x=>
  split at h
  ·rename_i A H1 hs
   cases h;simp only[gB,ack hs d]
  ·cases h
 case insert t m k x=>
  split at h
  ·rename_i A H1 hs
   cases h;simp only[gB,Q5 hs]
  ·cases h
 case call c=>
  simp only[gB,ES];split at h
  ·rename_i hc
   rw[hc];split at h
   ·rename_i g q
    simp only[g,q];split at h
    ·rw[acq h d]
    ·rename_i O
     rw[acr O];exact aca h d
   ·cases h
  ·rename_i hc
   rw[hc];split at h
   ·rename_i g q
    simp only[g,q];split at h
    ·rename_i hs
     cases h;rw[acp hs d]
    ·cases h
   ·cases h
  ·rename_i hc
   rw[hc];split at h
   ·rename_i g q
    simp only[g,q];split at h
    ·rename_i hs
     cases h;rw[aco hs]
    ·cases h
   ·cases h
  ·cases h
def yB(n:Int):Option (Bool × AV):=some (aM n,.lit (.int .i64 n))
def KM(P:ak)(op:BinOp)(t:aJ)(g:Bool)(x y:AV):Option (Bool × AV):=
 match op,x,y with
 |.add,.lit (.int .i64 a),.lit (.int .i64 b)=>yB (a+b)
 |.sub,.lit (.int .i64 a),.lit (.int .i64 b)=>yB (a-b)
 |.mul,.lit (.int .i64 a),.lit (.int .i64 b)=>yB (a*b)
 |.quo,.lit (.int .i64 a),.lit (.int .i64 b)=>some (!(b==0)&&aM (a.tdiv b),.lit (.int .i64 (a.tdiv b)))
 |.rem,.lit (.int .i64 a),.lit (.int .i64 b)=>some (!(b==0),.lit (.int .i64 (a.tmod b)))
 |.add,.lit (.string a),.lit (.string b)=>some (bW (a.size+b.size) 9223372036854775807,.lit (.string (a++b)))
 |.lss,.lit (.int k a),.lit (.int d b)=>if k=d then some (true,.lit (.bool (ba a b))) else none
 |.leq,.lit (.int k a),.lit (.int d b)=>if k=d then some (true,.lit (.bool (cw a b))) else none
 |.gtr,.lit (.int k a),.lit (.int d b)=>if k=d then some (true,.lit (.bool (ba b a))) else none
 |.geq,.lit (.int k a),.lit (.int d b)=>if k=d then some (true,.lit (.bool (cw b a))) else none
 |.and,.lit (.int k a),.lit (.int d b)=>if k=d then some (true,.lit (.int k (PL k a b))) else none
 |.or,.lit (.int k a),.lit (.int d b)=>if k=d then some (true,.lit (.int k (PM k a b))) else none
 |.xor,.lit (.int k a),.lit (.int d b)=>if k=d then some (true,.lit (.int k (PN k a b))) else none
 |.shl,.lit (.int k a),.lit (.int _ b)=>some (eg b,.lit (.int k (JE k a b)))
 |.shr,.lit (.int k a),.lit (.int _ b)=>some (eg b,.lit (.int k (JF k a b)))
 |op,.listF ks rZ,.lit (.slice none 0 0)=>match P.underlying t,nP op false with
  |some (.slice _),some v=>some (fT 0 rZ.length,v)
  |_,_=>none
 |op,.vQ w id ax oF m,.lit (.slice none 0 0)=>match P.underlying t,nP op false with
  |some (.slice _),some v=>some (fT 0 m,v)
  |_,_=>none
 |_,_,_=>match iT P op t g x y with
  |some v=>some (true,v)
  |none=>none
def KN(m sz:Nat)(cells:List AV):Option (Kd × LL):=
 match Bo (cells.headD .undef)with
 |some k=>match r8 [k] (cells.map fun c=>[c]) with
  |some rZ=>if sz=1/\m=cells.length then some (k,rZ) else none
  |none=>none
 |none=>none
theorem acs{m:Nat}{cells:List AV}{k:Kd}(h:KN m sz cells=some (k,rZ))(g:j<m):
  bh [k] (rZ.getD j [])=(cells.drop (j*sz)).take sz:=by
 unfold KN at h;split at h
 ·split at h
  ·rename_i A q
   split at h
   ·rename_i hc
    obtain⟨rfl,rfl⟩:=hc;cases h;have e:=yv q;have B:rZ.length=cells.length:=by have:=congrArg nF e; grind
    have d:(rZ.map (bh [k]))[j]?=(cells.map fun c=>[c])[j]?:=by rw[e]
    rw[KF ab,dw,bT g]at d;simp only[jl,bQ]at d;rw[d,Nat.mul_one,List.drop_eq_getElem_cons g,List.take_succ_cons,List.take_zero]
   ·cases h
  ·cases h
 ·cases h
def KO(k:SK)(x i:AV):Option (Bool × AV):=
 match k,x,i with
 |.slice _ sz _,.listF ks rZ,.lit (.int _ j)=>if ks.length=sz then some (eg j&&ba j (rZ.length:Int),.cptr (bh ks (rZ.getD j.toNat []))) else none
 |.slice _ sz _,.vQ w id ax oF m,.lit (.int _ j)=>if w=sz then some (eg j&&ba j (m:Int),.ptr id ax w (oF+j.toNat) 0) else none
 |.array m _ sz _,.cptr cells,.lit (.int d j)=>match KN m sz cells with
  |some (kd,rZ)=>some (eg j&&ba j (m:Int),.cptr (bh [kd] (rZ.getD j.toNat [])))
  |none=>match nK k (.cptr cells) (.lit (.int d j)) with
   |some v=>some (true,v)
   |none=>none
 |_,_,_=>match nK k x i with
  |some v=>some (true,v)
  |none=>none
def BD:List AV->Option (List Int)
 |[]=>some []
 |.lit (.int .i64 n)::l=>match BD l with
  |some q=>some (n::q)
  |none=>none
 |_=>none
theorem Q8:∀{cells:List AV} {l:List Int},BD cells=some l->∀ i,i<l.length->cells[i]? = some (.lit (.int .i64 (l.getD i 0)))
 |[],l,h,i,hi=>by
  simp only[BD,bQ]at h;subst h;simp at hi
 |c::cells,l,h,i,hi=>by
  unfold BD at h;split at h
  grind
  ·rename_i n l' he
   cases he;split at h
   ·rename_i q d
    cases h;cases i with
    |zero=>rfl
    |succ i=>
     simp only[List.length_cons]at hi;have:=Q8 d i ab
     grind
   ·cases h
  ·cases h
def KP(k:SK)(x i:AV):Option (Bool × AV):=
 match k,x,i with
 |.str,.lit (.string s),.lit (.int _ j)=>some (eg j&&ba j (s.size:Int),.lit (.int .u8 ((s.data.toList.getD j.toNat 0).toNat)))
 |.array m _ 1 false,.agg cells,.lit (.int _ j)=>match BD cells with
  |some l=>bif bW m l.length then some (eg j&&ba j (m:Int),.lit (.int .i64 (l.getD j.toNat 0))) else none
  |none=>match tC k x i with
   |some v=>some (true,v)
   |none=>none
 |_,_,_=>match tC k x i with
  |some v=>some (true,v)
  |none=>none
def KQ(op:UnOp)(x:AV):Option (Bool × AV):=
 match op,x with
 |.neg,.lit (.int .i64 n)=>some (aM (0-n),.lit (.int .i64 (0-n)))
 |_,_=>match ye op x with
  |some v=>some (true,v)
  |none=>none
def KR(P:ak)(s d:aJ)(x:AV):Option (Bool × AV):=
 match P.underlying s,cZ P d,x with
 |some _,.int .i64,.lit (.int _ n)=>some (aM n,.lit (.int .i64 n))
 |_,_,_=>match yf P s d x with
  |some v=>some (true,v)
  |none=>none
def KS(P:ak)(r:cN->AV)(o:Op):Option (Bool × AV):=
 match o with
 |.indexAddr t x i=>KO (cZ P t) (r x) (r i)
 |.index t x i=>KP (cZ P t) (r x) (r i)
 |.binOp op t x y _=>KM P op t (kr x||kr y) (r x) (r y)
 |.slice t x lo hi mx=>KJ P t (r x) (lo.map r) (hi.map r) (mx.map r)
 |.unOp op _ x=>KQ op (r x)
 |.convert s d x=>KR P s d (r x)
 |o=>match kN P r o with
  |some v=>some (true,v)
  |none=>none
theorem vX{x:Option AV} (h:(match x with|some v=>some (true,v)|none=>none)=some (b,v)):x=some v:=by
 split at h
 ·cases h; rfl
 ·cases h
theorem tX{n:Int}(h:aM n=true):IntKind.i64.wrap n=n:=by
 rw[vS]at h;simp[IntKind.wrap,IntKind.bits,IntKind.signed];omega
theorem acu{op:BinOp}{A:Bool}{y:AV}(h:KM P op t A x y=some (b,v))(g:b=true):iT P op t A x y=some v:=by
  unfold KM at h;split at h
  grind[yB,iT,km,nM,tX]
  grind[yB,iT,km,nM,tX]
  grind[yB,iT,km,nM,tX]
  simp_all[iT,km,nM,tX]
  grind[iT,km,nM]
  · simp only[bQ,cr]at h
    obtain⟨d,rfl⟩:=h;subst g;have B:=lk d;have q:∀k:Nat,k<=9223372036854775807->¬ ((k:Int)>IntKind.i64.max):=fun k F=>by
      show ¬ ((k:Int)>(9223372036854775807:Int))
      omega
    grind[iT,km,JG]
  all_goals first
    |exact vX h
    | (split at h
       case isFalse=>cases h
       rename_i F;subst F;cases h;simp[iT,km,nM,dX,eh])
    | (simp only [bQ, cr] at h
       obtain⟨d,rfl⟩:=h;subst g;simp only[jT,dT]at d;simp only[iT,km,iN (Int.not_lt.2 d)])
    | (split at h
       · rename_i d B
         simp only[bQ,cr]at h;obtain⟨q,rfl⟩:=h;subst g;simp only[jS]at q;simp only[iT,d,iP q,B]
       ·cases h)
theorem acv{k:SK}{i:AV}(h:KO k x i=some (b,v))(g:b=true):nK k x i=some v:=by
 unfold KO at h;split at h
 ·split at h
  ·rename_i q
   simp only[bQ,cr]at h;obtain⟨d,rfl⟩:=h;subst g;simp only[jT,dX,aR,dT]at d;simp[nK,q,d.1,d.2]
  ·cases h
 ·split at h
  ·rename_i q
   simp only[bQ,cr]at h;obtain⟨d,rfl⟩:=h;subst g;simp only[jT,dX,aR,dT]at d;simp[nK,q,d.1,d.2]
  ·cases h
 ·split at h
  ·rename_i kd rZ hc
   simp only[bQ,cr]at h;obtain⟨d,rfl⟩:=h;subst g;simp only[jT,dX,aR,dT]at d;rw[acs hc ab];simp[nK,d.1,d.2]
  ·exact vX h
 ·exact vX h
theorem acw{k:SK}{i:AV}(h:KP k x i=some (b,v))(g:b=true):tC k x i=some v:=by
 unfold KP at h;split at h
 ·rename_i s A j
  simp only[bQ,cr]at h;obtain⟨d,rfl⟩:=h;subst g;simp only[jT,dX,aR,dT]at d;have q:j.toNat<s.size:=ab;have e:s[j.toNat]?=some (s.data.toList.getD j.toNat 0):=by
   have B:j.toNat<s.data.toList.length:=Er;rw[dj,bT B];simp only[getElem?,decidableGetElem?,q,dite_true,Option.getD_some];rfl
  simp_all[tC]
 ·rename_i m e cells A j
  split at h
  ·rename_i l F
   cases hm:bW m l.length with
   |false=>grind
   |true=>
    rw[hm]at h;simp only[cT,bQ,cr]at h;obtain⟨d,rfl⟩:=h;subst g;rw[fh]at hm;simp only[jT,dX,aR,dT]at d;have I:=Q8 F j.toNat ab
    simp_all[tC,jo]
  ·exact vX h
 ·exact vX h
theorem acx{op:UnOp}(h:KQ op x=some (b,v))(d:b=true):ye op x=some v:=by
 unfold KQ at h
 grind[ye,tX]
theorem acy{s d:aJ}(h:KR P s d x=some (b,v))(g:b=true):yf P s d x=some v:=by
 unfold KR at h;split at h
 ·rename_i q A
  simp only[bQ,cr]at h;obtain⟨B,rfl⟩:=h;subst g;simp only[yf,q,A,tX B]
 ·exact vX h
theorem acz{o:Op}(h:KS P r o=some (b,v))(d:b=true):kN P r o=some v:=by
 cases o<;>simp only[KS]at h<;>try exact vX h
 case binOp=>simp only[kN]; exact acu h d
 case indexAddr=>simp only[kN]; exact acv h d
 case index=>simp only[kN]; exact acw h d
 case slice=>simp only[kN]; exact acb h d
 case unOp=>simp only[kN]; exact acx h d
 case convert=>simp only[kN]; exact acy h d
inductive bB where
 |fail
 |done (x:cu) (s:aH)
 |ask (b:Bool) (t e:bB)
 |side (b:Bool) (t:bB)
def bB.holds(Q:cu->aH->Prop):bB->Prop
 |.fail=>False
 |.done x s=>Q x s
 |.ask b t e=>(b=true->t.holds Q)/\(b=false->e.holds Q)
 |.side b t=>b=true/\t.holds Q
structure ar where
 pf:bH->Bool
 T:bH->List AV->Option (Bool × AV)
 W:bH->List AV->List aG->Option (Bool × AV × List aG)
 C:bH->List AV->List aG->List Nat
 I:bH->List AV->List aG->Option bB:=fun _ _ _=>none
 N:bH->Bool:=fun _=>false
 U:bH->Bool:=fun _=>true
structure aw (P:ak) (τ:ar):Prop where
 T:∀f args b v,τ.T f args=some (b,v)->b=true->eC P f=true/\eA P f args v
 W:∀f args H b v H',τ.W f args H=some (b,v,H')->b=true->eC P f=true/\e_ P f args (aF H) v (aF H')
 C:∀f args H b v H',τ.W f args H=some (b,v,H')->∀A,A∉τ.C f args H->A<H.length->H'[A]?=H[A]?
 I:∀f args H t,τ.I f args H=some t->∀Q:cu->aH->Prop,t.holds Q->eC P f=true/\∃v H',e_ P f args (aF H) v (aF H')/\(∀A,A∉τ.C f args H->A<H.length->H'[A]?=H[A]?)/\Q .normal ⟨[v],H'⟩
 F:(∀f,τ.U f=false->∀args H,τ.W f args H=none/\τ.C f args H=[])/\∀f,τ.N f=true->∀args H b v H',τ.W f args H=some (b,v,H')->∀id o,id<H.length->id∉τ.C f args H ->
  τ.W f args (H.set id o)=some (b,v,H'.set id o)/\τ.C f args (H.set id o)=τ.C f args H
def bB.BE(k:AV->List aG->bB):bB->bB
 |.fail=>.fail
 |.done _ s=>k (s.fr.headD .undef) s.H
 |.ask b t e=>.ask b (t.BE k) (e.BE k)
 |.side b t=>.side b (t.BE k)
theorem bB.Fk{k:AV->List aG->bB}{Q:cu->aH->Prop}:∀{t:bB},(t.BE k).holds Q->t.holds fun _ s=>(k (s.fr.headD .undef) s.H).holds Q
 |.fail,h=>h
 |.done _ _,h=>h
 |.ask _ t e,h=>⟨fun d=>Fk (t:=t) (h.1 d),fun d=>Fk (t:=e) (h.2 d)⟩
 |.side _ t,h=>⟨h.1,Fk (t:=t) h.2⟩
inductive Want where
 |bad|yes|no
 |test (t:Tmp) (b:Bool) (want:Bool)
def tY(ah:Array aN)(fr:List AV)(o:aN):Want:=
 match o.guard with
 |none=>.yes
 |some (j,d)=>match (ah[j]?).bind (·.dst) with
  |some t=>match fr[t]? with
   |some (.lit (.bool b))=>.test t b d
   |some (.tuple [])=>.no
   |_=>.bad
  |none=>.bad
def Fl:AV->Option Bool
 |.lit (.bool b)=>some b
 |_=>none
def BF(H:List aG):AV->Bool × AV
 |.vQ w id ax oF n=>match H[id]? with
  |some (.vQ ks v rZ)=>if ax=v/\ks.length=w/\oF=0 then (aA n rZ.length,.listF ks rZ) else (true,.vQ w id ax oF n)
  |_=>(true,.vQ w id ax oF n)
 |.ptr id ax k row d=>match H[id]? with
  |some (.raw (.box cells))=>if ax=0/\row=0/\d=0/\AV.ca cells=true then (true,.cptr cells) else (true,.ptr id ax k row d)
  |_=>(true,.ptr id ax k row d)
 |a=>(true,a)
def vY(H:List aG):List AV->Bool × List AV
 |[]=>(true,[])
 |a::as=>match BF H a,vY H as with
  |(b,g),(q,d)=>(b&&q,g::d)
def Fm(H:List aG):AV->Bool × AV
 |.clo f caps=>match vY H caps with
  |(b,d)=>(b,.clo f d)
 |a=>BF H a
def tZ(H:List aG):List AV->Bool × List AV
 |[]=>(true,[])
 |a::as=>match Fm H a,tZ H as with
  |(b,g),(q,d)=>(b&&q,g::d)
def Fo:List AV->Bool
 |[]=>true
 |.lit _::as=>Fo as
 |_::_=>false
def Fp:AV->Bool
 |.lit _=>true
 |.tuple d=>Fo d
 |_=>false
def KT(P:ak)(r:cN->AV)(H:List aG)(o:Op):Option AV:=
 match o with
 |.call c=>match c.callee,c.args.toList,c.argTypes.toList with
  |.builtin .len,[a],[t]=>match iF P t,r a with
   |some _,.map id=>match H[id]? with
    |some (.map _ _ rZ _)=>some (.lit (.int .i64 rZ.length))
    |_=>none
   |_,_=>none
  |_,_,_=>none
 |_=>none
theorem acA{o:Op}(h:KT P r H o=some v):im P r (aF H) o=some v:=by
 unfold KT at h;split at h
 ·rename_i c
  simp only[im];split at h
  ·rename_i a t hc g q
   unfold tM;rw[hc,g,q];simp only[];split at h
   ·rename_i p id A hm
    rw[A,hm];simp only[];split at h
    ·rename_i K V rZ cl d
     cases h;rw[cn d];simp[aG.au,dH]
    ·cases h
   ·cases h
  ·cases h
 ·cases h
def KU(v:AV)(H:List aG):Option (Bool × AV × List aG):=
 match v with
 |.vQ w id ax oF n=>match H[id]? with
  |some (.vQ ks u rZ)=>if ax=u/\oF=0/\w=ks.length then some (aA n rZ.length,.listF ks rZ,H.set id (.raw .dead)) else none
  |_=>none
 |_=>none
def BG(P:ak)(r:cN->AV)(H:List aG):Op->Option (Bool × List aG)
 |.store t a x=>match KU (r x) H with
  |some (d,g,H1)=>match yw P t (r a) g H1 with
   |some (q,H')=>some (d&&q,H')
   |none=>none
  |none=>none
 |_=>none
theorem acB{o:Op}(h:BG P r H o=some (b,H'))(A:b=true):ym P r (aF H) .undef (aF H') o:=by
 unfold BG at h;split at h
 case h_2=>cases h
 rename_i t a x;split at h
 case h_2=>cases h
 rename_i F I H1 d;split at h
 case h_2=>cases h
 rename_i J M hs;simp only[bQ,cr]at h;obtain⟨g,rfl⟩:=h;subst A;simp only[aR]at g;unfold KU at d;split at d
 case h_2=>cases d
 rename_i w id ax oF n B;split at d
 case h_2=>cases d
 rename_i ks u rZ q;split at d
 case isFalse=>cases d
 rename_i hc;obtain⟨rfl,rfl,rfl⟩:=hc;simp only[bQ,cr]at d;obtain⟨hn,rfl,rfl⟩:=d;rw[g.1]at hn;have hn:=cz hn;subst hn;refine⟨.listF ks rZ,(aF H).set id .dead,⟨id,ax,ks,rZ,B,?_,rfl,rfl⟩,?_,rfl⟩
 ·rw[cn q]
  rfl
 ·have:=QU hs g.2
  rw[gn]at this;exact this
def t_(P:ak)(τ:ar)(o:aN)(s:aH)(k:AV->List aG->bB):bB:=
 match o.op with
 |.pick c a b=>match Fl (s.eval c) with
  |some t=>.ask t (k (s.eval a) s.H) (k (s.eval b) s.H)
  |none=>.fail
 |.load t a=>match KG P t (s.eval a) s.H with
  |some (b,v)=>.side b (k v s.H)
  |none=>.fail
 |.lookup t m x ok=>match KL P t (s.eval m) (s.eval x) ok s.H with
  |some (b,v)=>match ef τ.pf o.op,ok with
   |.read,_=>.side b (k v s.H)
   |.write,false=>.side b (k v s.H)
   |_,_=>.fail
  |none=>match ef τ.pf o.op with
   |.write=>match yA P s.eval s.H o.op with
    |some (b,v,H')=>.side b (k v H')
    |none=>.fail
   |_=>.fail
 |_=>match ef τ.pf o.op with
  |.read=>match KT P s.eval s.H o.op with
   |some v=>k v s.H
   |none=>.fail
  |.pure=>match g_ s.eval o.op with
   |some (f,args)=>match τ.T f args with
    |some (b,v)=>.side b (k v s.H)
    |none=>.fail
   |none=>match KS P s.eval o.op with
    |some (b,v)=>.side b (k v s.H)
    |none=>.fail
  |.write=>match g_ s.eval o.op with
   |some (f,args)=>match τ.W f args s.H with
    |some (b,v,H')=>.side b (k v H')
    |none=>match τ.I f args s.H with
     |some t=>t.BE k
     |none=>match τ.T f args with
      |some (b,v)=>.side b (k v s.H)
      |none=>match tZ s.H args with
       |(g,d)=>match τ.T f d with
        |some (b,v)=>match Fp v&&AV.ca d with
         |true=>.side (g&&b) (k v s.H)
         |false=>.fail
        |none=>.fail
   |none=>match yA P s.eval s.H o.op with
    |some (b,v,H')=>.side b (k v H')
    |none=>match BG P s.eval s.H o.op with
     |some (b,H')=>.side b (k .undef H')
     |none=>.fail
def aH.aU(s:aH)(t:Tmp)(b:Bool):aH:=⟨s.fr.set t (.lit (.bool b)),s.H⟩
def KV(P:ak)(τ:ar)(ah:Array aN)(o:aN)(s:aH)(k:aH->bB):bB:=
 match tY ah s.fr o with
 |.bad=>.fail
 |.no=>k (s.put o.dst (.tuple []) s.H)
 |.yes=>t_ P τ o s fun v H'=>k (s.put o.dst v H')
 |.test t b d=>.ask b
   (match d with
    |true=>t_ P τ o (s.aU t true) fun v H'=>k ((s.aU t true).put o.dst v H')
    |false=>k ((s.aU t true).put o.dst (.tuple []) s.H))
   (match d with
    |true=>k ((s.aU t false).put o.dst (.tuple []) s.H)
    |false=>t_ P τ o (s.aU t false) fun v H'=>k ((s.aU t false).put o.dst v H'))
def fY(P:ak)(τ:ar)(ah:Array aN):List aN->aH->(aH->bB)->bB
 |[],s,k=>k s
 |o::rest,s,k=>KV P τ ah o s fun s1=>fY P τ ah rest s1 k
def kA:AV->Option Nat
 |.ptr id _ _ _ _=>some id
 |.vQ _ id _ _ _=>some id
 |.map id=>some id
 |_=>none
def nh(τ:ar)(r:cN->AV)(H:List aG)(op:Op):List Nat:=
 match g_ r op with
 |some (f,args)=>τ.C f args H
 |none=>op.operands.toList.filterMap fun x=>kA (r x)
structure Acc where
 R:my
 W:lv
def BH(aB:List Nat)(i:Nat):Bool := !aB.any (aA i)
def KW(ah:Array aN)(j id:Nat)(d:Acc):Option Acc:=
 match d.W.all fun e=>waits ah ah.size j e.1||(BH e.2.1 id&&fT id e.2.2)with
 |true=>some ⟨(j,id)::d.R,d.W⟩
 |false=>none
def Fq(ah:Array aN)(j:Nat)(T:List Nat)(n:Nat)(d:Acc):Option Acc:=
 match d.R.all fun e=>waits ah ah.size j e.1||(BH T e.2&&fT e.2 n)with
 |true=>match d.W.all fun e=>waits ah ah.size j e.1||T.all fun id=>BH e.2.1 id&&fT id e.2.2 with
  |true=>some ⟨d.R,(j,T,n)::d.W⟩
  |false=>none
 |false=>none
def KX(τ:ar)(ah:Array aN)(j:Nat)(o:aN)(s:aH)(d:Acc):Option Acc:=
 match ef τ.pf o.op with
 |.pure=>some d
 |.read=>match pC s.eval o.op with
  |some id=>KW ah j id d
  |none=>some d
 |.write=>Fq ah j (nh τ s.eval s.H o.op) s.H.length d
def gZ:Kd->al->Option G
 |.int k,.int d n=>if k=d then some (.i n) else none
 |.str,.string s=>some (.s s)
 |.bool,.bool b=>some (.t b)
 |.list _,.slice none 0 0=>some (.l [])
 |_,_=>none
def yC:List Kd->List al->Option LG
 |[],[]=>some []
 |k::ks,v::z=>match gZ k v,yC ks z with
  |some g,some d=>some (g::d)
  |_,_=>none
 |_,_=>none
def mK:Kd->Option (List Kd)
 |.list ks=>some ks
 |_=>none
def mZ:List Kd->List (Option (List Kd)):=List.map mK
theorem acC{k:Kd}{v:al}{g:G}(h:gZ k v=some g):mX k g=zc (mK k) v:=by
 cases k with
 |int k=>
  cases v with
  |int d n=>
   simp only[gZ]at h;by_cases e:k=d
   ·rw[iP e]at h
    cases h;subst e;rfl
   ·rw[iN e]at h
    cases h
  |_=>cases h
 |str=>cases v<;>first|(cases h; rfl)|cases h
 |bool=>cases v<;>first|(cases h; rfl)|cases h
 |list ks=>
  cases v with
  |slice b n c=>cases b<;>cases n<;>cases c<;>first|(cases h; rfl)|cases h
  |_=>cases h
theorem Q9:∀{ks:List Kd} {z:List al} {g:LG},yC ks z=some g->bh ks g=fv (mZ ks) z
 |[],[],g,h=>by cases h; rfl
 |[],_::_,g,h=>by cases h
 |_::_,[],g,h=>by cases h
 |k::ks,v::z,g,h=>by
  simp only[yC]at h;split at h
  ·rename_i g0 B d q
   cases h;have A:=Q9 q;simp only[bh,nE,List.tail_cons,A,acC d];rfl
  ·cases h
def vZ(z:List al):List aG->Nat->Option (Nat × List Kd × LG)
 |[],_=>none
 |.vQ ks 0 rZ::H,i=>match yC ks z with
  |some g=>match rZ with
   |[]=>some (i,ks,g)
   |_::_=>vZ z H (i+1)
  |none=>vZ z H (i+1)
 |_::H,i=>vZ z H (i+1)
def KY(P:ak)(op:Op)(H:List aG):Option (Nat × AV × List aG):=
 match op with
 |.alloc t=>match gK P t with
  |some z=>match vZ z H 0 with
   |some (id,ks,g)=>some (id,.ptr id 1 ks.length 0 0,H.set id (.vQ ks 1 [g]))
   |none=>none
  |none=>none
 |_=>none
def KZ(τ:ar)(o:aN)(s:aH):Bool:=match ef τ.pf o.op with
 |.write=>match g_ s.eval o.op with
  |some (f,args)=>match τ.N f with
   |true=>(τ.W f args s.H).isSome
   |false=>false
  |none=>false
 |_=>true
def BI(P:ak)(τ:ar)(ah:Array aN)(j:Nat)(o:aN)(s:aH)(g:Acc)(k:aH->Acc->bB):bB:=
 match vP ah&&gC o.op with
 |true=>match KY P o.op s.H with
  |some (id,v,H')=>match Fq ah j [id] s.H.length g with
   |some d=>k (s.put o.dst v H') d
   |none=>.fail
  |none=>.fail
 |false=>match tR ah&&pD o.op && !KZ τ o s with
  |true=>.fail
  |false=>match KX τ ah j o s g with
   |some d=>t_ P τ o s fun v H'=>k (s.put o.dst v H') d
   |none=>.fail
def K2(P:ak)(τ:ar)(ah:Array aN)(j:Nat)(o:aN)(s:aH)(d:Acc)(k:aH->Acc->bB):bB:=
 match tY ah s.fr o with
 |.bad=>.fail
 |.no=>k (s.put o.dst (.tuple []) s.H) d
 |.yes=>BI P τ ah j o s d k
 |.test t b g=>.ask b
   (match g with
    |true=>BI P τ ah j o (s.aU t true) d k
    |false=>k ((s.aU t true).put o.dst (.tuple []) s.H) d)
   (match g with
    |true=>k ((s.aU t false).put o.dst (.tuple []) s.H) d
    |false=>BI P τ ah j o (s.aU t false) d k)
def K4(P:ak)(τ:ar)(ah:Array aN):List aN->Nat->aH->Acc->(aH->bB)->bB
 |[],_,s,_,k=>k s
 |o::rest,j,s,g,k=>K2 P τ ah j o s g fun s1 d=>K4 P τ ah rest (j+1) s1 d k
def Q_(k:aH->bB)(K:cu->aH->bB):cu->aH->bB
 |.normal,s=>k s
 |x,s=>K x s
def Ra(id:Nat)(K:cu->aH->bB):cu->aH->bB
 |.exit i,s=>if i=id then K .normal s else K (.exit i) s
 |x,s=>K x s
def bB.bind(K:cu->aH->bB):bB->bB
 |.fail=>.fail
 |.done x s=>K x s
 |.ask b t e=>.ask b (t.bind K) (e.bind K)
 |.side b t=>.side b (t.bind K)
def pE:Code->Option Nat
 |.region id _ _=>some id
 |.seq a b=>match pE a with
  |some i=>some i
  |none=>pE b
 |.block _ c=>pE c
 |.cond _ a b=>match pE a with
  |some i=>some i
  |none=>pE b
 |.loop c=>pE c
 |_=>none
def v7:Code->Nat
 |.seq a b=>match pE a with
  |some _=>v7 a
  |none=>v7 b
 |.block _ c=>v7 c
 |.cond _ a b=>match pE a with
  |some _=>v7 a
  |none=>v7 b
 |.loop c=>v7 c+1
 |_=>0
def Rb(c:Code):Option Nat:=match pE c with
 |some i=>some (i+1000*v7 c)
 |none=>none
def cI:Code->List (Nat × Code)
 |.seq a b=>cI a++cI b
 |.cond _ a b=>cI a++cI b
 |.block _ c=>cI c
 |.loop c=>match Rb c with
  |some k=>(k,c)::cI c
  |none=>cI c
 |_=>[]
def acD(k:aH->bB)(K:cu->aH->bB):cu->aH->bB
 |.normal,s=>k s
 |.exit i,s=>K (.exit i) s
 |.ret,s=>K .ret s
def Fs(body:aH->(cu->aH->bB)->bB):Nat->aH->(cu->aH->bB)->bB
 |0,_,_=>.fail
 |n+1,s,K=>body s (acD (fun s'=>Fs body n s' K) K)
def cB:Code->List (Nat × Code)
 |.seq a b=>cB a++((match pE b with
  |some k=>[(k,b)]
  |none=>[])++cB b)
 |.cond _ a b=>cB a++cB b
 |.block _ c=>cB c
 |.loop c=>cB c
 |_=>[]
structure LT where
 loops:Nat->aH->Option bB
 pre:Nat->aH->Bool × aH
 yD:Nat->aH->Option bB
def Rc(L:LT)(k:Option Nat)(s:aH):Option bB:=
 match k with
 |some i=>L.yD i s
 |none=>none
def db(P:ak)(τ:ar)(L:LT):Code->aH->(cu->aH->bB)->bB
 |.skip,s,K=>K .normal s
 |.region id ah d,s,K=>match d && !tN τ.pf ah with
  |true=>match yt τ.pf ah with
   |true=>.side (L.pre id s).1 (K4 P τ ah ah.toList 0 (L.pre id s).2 ⟨[],[]⟩ (K .normal))
   |false=>.fail
  |false=>.side (L.pre id s).1 (fY P τ ah ah.toList (L.pre id s).2 (K .normal))
 |.seq a b,s,K=>db P τ L a s (Q_ (fun s1=>match Rc L (pE b) s1 with
  |some t=>t.bind K
  |none=>db P τ L b s1 K) K)
 |.cond c a b,s,K=>match Fl (s.eval c) with
  |some t=>.ask t (db P τ L a s K) (db P τ L b s K)
  |none=>.fail
 |.block id c,s,K=>db P τ L c s (Ra id K)
 |.loop c,s,K=>match Rb c with
  |some i=>match L.loops i s with
   |some t=>t.bind K
   |none=>Fs (fun s1 g=>db P τ L c s1 g) 400 s K
  |none=>.fail
 |.exit id,s,K=>K (.exit id) s
 |.ret,s,K=>K .ret s
 |_,_,_=>.fail
def Re(P:ak)(m:Nat)(c:Code)(s:aH)(t:bB):Prop:=∀Q:cu->aH->Prop,t.holds Q->∃x s',nU P m c s.au x s'.au/\Q x s'
def Ft(P:ak)(m:Nat)(c:Code)(s:aH)(t:bB):Prop:=∀Q:cu->aH->Prop,t.holds Q->∃x s',c_ P m c s.au x s'.au/\Q x s'
def aQ(P:ak)(m:Nat)(L:LT)(c:Code):Prop:=(∀k d,(k,d)∈cI c->∀s t,L.loops k s=some t->Re P m d s t)/\(∀id s,(L.pre id s).1=true->cV m s.au (L.pre id s).2.au) /\
 ∀k d,(k,d)∈cB c->∀s t,L.yD k s=some t->Ft P m d s t
theorem aQ.sub{m:Nat}{L:LT}{c g:Code}(h:aQ P m L c)(A:∀p,p∈cI g->p∈cI c)(B:∀p,p∈cB g->p∈cB c):aQ P m L g:=
 ⟨fun k d q=>h.1 k d (A _ q),h.2.1,fun k d q=>h.2.2 k d (B _ q)⟩
theorem Rf(h:Fl a=some b):a=.lit (.bool b):=by
 unfold Fl at h;split at h
 ·cases h; rfl
 ·cases h
theorem Rg{E E':af}:∀{g:List AV} {d:List al},Fo g=true->aq E g d->aq E' g d
 |[],[],_,_=>by simp[aq]
 |[],_::_,_,h=>by simp[aq]at h
 |a::g,d,q,h=>by
  unfold Fo at q;split at q
  grind
  ·rename_i A
   cases A;cases d with
   |nil=>simp[aq]at h
   |cons u d=>
    simp only[aq,ae]at h|-;exact⟨h.1,Rg q h.2⟩
  ·cases q
theorem acE{E':af}{u:al}(d:Fp v=true)(h:ae E v u):ae E' v u:=by
 unfold Fp at d
 grind[ae,Rg]
def af.bare(E:af)(w:World):af:={ w:=w,H:=[],ad:=[],X:=E.X.re fM }
theorem Fu{w:World}(b:Nat):¬ (E.bare w).bC b:=by rintro(⟨id,c,h⟩|⟨l,k,c,h⟩)<;>simp_all[af.bare,fM]
theorem ua(E:af):E.cQ (E.bare E.w):=⟨fun b d=>⟨⟨d.1,Fu b,d.2.2⟩,rfl⟩⟩
theorem acF(HE:aO E):aO (E.bare E.w):=by
 refine⟨rfl,?_,?_,HE.X,?_,HE.iD.cQ (ua E),fun l k l' g b m n d=>by simp[af.bare,fM]at d,fun i b m l k n hi=>by simp[af.bare]at hi,fun l k b m d=>by simp[af.bare,fM]at d,fun i j o o' l hi=>by simp[af.bare]at hi,fun l _ k q d=>by simp[af.bare,fM]at d⟩
 ·intro i j b m n hi; simp[af.bare]at hi
 ·intro i b m hi; simp[af.bare]at hi
 ·intro i o hi; simp[af.bare]at hi
theorem Rh(HE:aO E)(hH:E.H=aF H){ax w:Nat}{ks:List Kd}
  (J:H[id]?=some (.vQ ks ax rZ)) (M:ks.length=w) (hn:n=rZ.length) (hr:ae E (.vQ w id ax 0 n) c):ae (E.bare E.w) (.listF ks rZ) c:=by
 subst M hn;have A:E.H[id]?=some (.vQ ks.length ax (rZ.map (bh ks))):=by rw[hH]; exact cn J
 have d:=HE.obj id _ A;rw[m_];simp only[ae]at hr|-;obtain⟨⟨bg,cap,rfl,I,_⟩,_,N⟩:=hr;obtain⟨q1,O⟩:=N ⟨_,A,rfl⟩;have B:iC (rZ.map (bh ks)):=by
  intro r hr;obtain⟨g,_,rfl⟩:=cM.1 hr;exact jC ks g
 refine⟨B,bg,cap,ai,by simpa using I,?_⟩;simp only[bK]at d;rcases d with⟨q,U⟩|⟨b,m,q,U,W,_,Y⟩
 grind
 ·obtain⟨g1,o,g2,F⟩:=O b m q
  by_cases hm:rZ=[]
  grind
  ·right
   have:0<rZ.length:=by cases rZ<;>grind
   simp at W;have d:=g2 ab;simp at d;subst d;simp only[oU]at F;refine⟨b,0,F.1,⟨(HE.lt id b m q).1,Fu b,(HE.lt id b m q).2⟩,?_⟩;exact pk (ua E) _ B rfl Y
theorem acG(HE:aO E)(hH:E.H=aF H){k:Nat}{cells:List AV} (F:H[id]? = some (.raw (.box cells))) (A:AV.ca cells=true)
  (hr:ae E (.ptr id 0 k 0 0) c):ae (E.bare E.w) (.cptr cells) c:=by
 have q:E.H[id]?=some (.box cells):=by rw[hH]; exact cn F
 have B:=HE.obj id _ q;simp only[bK]at B;obtain⟨b,n,d,N,I⟩:=B;simp only[ae]at hr|-;obtain⟨_,_,J⟩:=hr;obtain⟨O,U,g,M⟩:=J ⟨_,q,rfl⟩;rw[d]at g;simp only[bQ,cr]at g;obtain⟨rfl,rfl⟩:=g;refine⟨A,b,0,by rw[M]; simp,⟨(HE.lt id b n d).1,Fu b,(HE.lt id b n d).2⟩,?_⟩;exact xZ (ua E) cells A rfl I
theorem Ri(HE:aO E)(hH:E.H=aF H){q:AV}(h:BF H a=(b,q))(A:b=true)(d:q.closed=true)(hr:ae E a c):ae (E.bare E.w) q c:=by
 unfold BF at h;split at h
 ·split at h
  ·rename_i w id ax oF n ks v rZ g
   split at h
   ·rename_i hc
    obtain⟨rfl,B,rfl⟩:=hc;simp only[cr]at h;obtain⟨F,rfl⟩:=h;subst A;exact Rh HE hH g B (cz F) hr
   ·cases h; simp[AV.closed]at d
  ·cases h; simp[AV.closed]at d
 ·split at h
  ·rename_i id ax k row J _ cells g
   split at h
   ·rename_i hc
    obtain⟨rfl,rfl,rfl,I⟩:=hc;cases h;exact acG HE hH g I hr
   ·cases h; simp[AV.closed]at d
  ·cases h; simp[AV.closed]at d
 ·cases h
  exact fD (ua E) _ d hr
theorem Rj{E:af}(HE:aO E){H:List aG}(hH:E.H=aF H):∀{as d:List AV} {b:Bool} {cs:List al},vY H as=(b,d)->b=true->AV.ca d=true->aq E as cs ->
  aq (E.bare E.w) d cs
 |[],d,b,cs,h,_,_,hr=>by
  simp only[vY]at h;cases h;cases cs with
  |nil=>simp[aq]
  |cons _ _=>simp[aq]at hr
 |a::as,d,b,cs,h,q,g,hr=>by
  cases cs with
  |nil=>simp[aq]at hr
  |cons c cs=>
   simp only[aq]at hr;cases A:BF H a with
   |mk J M=>
   cases B:vY H as with
   |mk N I=>
   simp only[vY,A,B,cr]at h;obtain⟨F,rfl⟩:=h;subst F;simp only[aR]at q;simp only[AV.ca,aR]at g;simp only[aq];exact⟨Ri HE hH A q.1 g.1 hr.1,Rj HE hH B q.2 g.2 hr.2⟩
theorem acH(HE:aO E)(hH:E.H=aF H){d:AV}(h:Fm H a=(b,d))(A:b=true)(q:d.closed=true)(hr:ae E a c):ae (E.bare E.w) d c:=by
 unfold Fm at h;split at h
 ·rename_i f caps
  cases B:vY H caps with
  |mk F g=>
  grind[ae,Rj,AV.closed]
 grind[Ri]
theorem Rk{E:af}(HE:aO E){H:List aG}(hH:E.H=aF H):∀{as d:List AV} {b:Bool} {cs:List al},tZ H as=(b,d)->b=true->AV.ca d=true->aq E as cs ->
  aq (E.bare E.w) d cs
 |[],d,b,cs,h,_,_,hr=>by
  simp only[tZ]at h;cases h;cases cs with
  |nil=>simp[aq]
  |cons _ _=>simp[aq]at hr
 |a::as,d,b,cs,h,q,g,hr=>by
  cases cs with
  |nil=>simp[aq]at hr
  |cons c cs=>
   simp only[aq]at hr;cases A:Fm H a with
   |mk J M=>
   cases B:tZ H as with
   |mk N I=>
   simp only[tZ,A,B,cr]at h;obtain⟨F,rfl⟩:=h;subst F;simp only[aR]at q;simp only[AV.ca,aR]at g;simp only[aq];exact⟨acH HE hH A q.1 g.1 hr.1,Rk HE hH B q.2 g.2 hr.2⟩
theorem acI(I:eA P f d v)(J:tZ H args=(b,d))(M:b=true)(F:AV.ca d=true)
  (N:Fp v=true):e_ P f args (aF H) v (aF H):=by
 intro E A hH HE B;refine(I [] (E.bare E.w) A rfl (acF HE) (Rk HE hH J M F B)).mono ?_;rintro _ w' ⟨c,O,H',rfl,⟨rfl,rfl⟩,Y,r',U,g2,g⟩;have q:Ext E.w w':=⟨g.size,fun x W=>g.same x W (Fu x),g.env⟩
 refine⟨c,O,aF H,rfl,⟨rfl,rfl⟩,E.ad,E.X.r,acE N U,?_,?_⟩
 ·rw[<-hH]; exact HE.ext q
 ·rw[<-hH]; exact af.jn q
section sound
variable {P:ak} {τ:ar}
theorem K5(d:dq ah s.fr o=some true)(hc:ef τ.pf o.op=.pure)
  (h:kN P s.eval o.op=some v\/∃f args,g_ s.eval o.op=some (f,args)/\eC P f=true/\eA P f args v):Yields P τ.pf ah o s.au v (aF s.H):=by
 unfold Yields;rw[show s.au.fr=s.fr from rfl,d];simp only[hc,aH.qC];exact⟨rfl,h⟩
theorem v8{H':List ay}(d:dq ah s.fr o=some true)(hc:ef τ.pf o.op=.write)
  (h:gB P s.eval (aF s.H) o.op=some (v,H')\/∃f args,g_ s.eval o.op=some (f,args)/\eC P f=true/\e_ P f args (aF s.H) v H'):Yields P τ.pf ah o s.au v H':=by
 unfold Yields;rw[show s.au.fr=s.fr from rfl,d];simp only[hc,aH.qC];exact .inl h
theorem mB{o:aG}(h:A≠id):(H.set id o)[A]?=H[A]? :=nJ
theorem ub{o:aG}(h:A<H.length):(H++[o])[A]?=H[A]?:=fB h
theorem Rl{P:ak}(h:yw P t x v H=some (b,H'))(g:kA x≠some A):H'[A]?=H[A]?:=by
 unfold yw at h;split at h
 case h_2=>cases h
 rename_i n F cs id ax w row q I B;have d:A≠id:=fun e=>g (by rw[e]; rfl);split at h
 case isFalse=>cases h
 split at h
 ·split at h
  ·cases h; exact mB d
  ·cases h
 ·split at h
  ·split at h
   ·cases h; exact mB d
   ·cases h
  ·cases h
 ·cases h
theorem acJ{P:ak}{s:AV}(h:Bq P t xt s x H=some (b,v,H'))(g:A<H.length)(d:kA s≠some A):H'[A]?=H[A]?:=by
 unfold Bq at h;split at h
 case h_2=>cases h
 split at h
 case h_2=>cases h
 split at h
 case isFalse=>cases h
 split at h
 grind
 grind
 ·split at h
  ·split at h
   ·split at h
    ·cases h; exact mB fun e=>d (by rw[e]; rfl)
    ·cases h
   ·cases h
  ·cases h
 ·cases h
theorem acK{P:ak}{s:AV}(h:BC P t xt s x H=some (b,v,H'))(d:A<H.length):H'[A]?=H[A]?:=by
 unfold BC at h;split at h<;>grind
theorem acL{P:ak}(h:BB P t x H=some (b,H'))(d:kA x≠some A):H'[A]?=H[A]?:=by
 unfold BB at h;split at h
 case h_2=>cases h
 split at h
 case h_2=>cases h
 split at h
 case h_2=>cases h
 split at h
 ·cases h; exact mB fun e=>d (by rw[e]; rfl)
 ·cases h
theorem Rm{P:ak}(h:yz P t m k v H=some (b,H'))(d:kA m≠some A):H'[A]?=H[A]?:=by
 unfold yz at h;split at h
 case h_2=>cases h
 split at h
 case h_2=>cases h
 split at h
 case h_2=>cases h
 split at h
 ·cases h; exact mB fun e=>d (by rw[e]; rfl)
 ·cases h
theorem acM{P:ak}(h:Bw P t m k v H=some (b,H'))(d:kA m≠some A)(g:kA v≠some A):H'[A]?=H[A]?:=by
 unfold Bw at h;split at h
 case h_2=>cases h
 split at h
 case h_2=>cases h
 split at h
 case h_2=>cases h
 split at h
 ·cases h
  rw[mB fun e=>g (by rw[e]; rfl)];exact mB fun e=>d (by rw[e]; rfl)
 ·cases h
theorem acN{P:ak}(h:Bv P t m k H=some (b,v,H'))(d:A<H.length)(g:kA m≠some A):H'[A]?=H[A]?:=by
 unfold Bv at h;split at h
 case h_2=>cases h
 split at h
 case h_2=>cases h
 split at h
 case h_2=>cases h
 split at h
 ·cases h
  rw[ub (by simpa using d)];exact mB fun e=>g (by rw[e]; rfl)
 ·cases h
theorem acO{s:AV}(h:By m s v H=some (b,H'))(d:kA m≠some A)(g:kA v≠some A):H'[A]?=H[A]?:=by
 unfold By at h;split at h
 case h_2=>cases h
 split at h
 case h_2=>cases h
 split at h
 ·cases h
  rw[mB fun e=>g (by rw[e]; rfl)];exact mB fun e=>d (by rw[e]; rfl)
 ·cases h
theorem acP{P:ak}(h:Bx P t m k H=some (b,v,H'))(d:A<H.length)(g:kA m≠some A):H'[A]?=H[A]?:=by
 unfold Bx at h;split at h
 case h_2=>cases h
 split at h
 case h_2=>cases h
 split at h
 case h_2=>cases h
 split at h
 ·cases h
  rw[ub (by simpa using d)];exact mB fun e=>g (by rw[e]; rfl)
 ·cases h
theorem acQ{P:ak}(h:BA P t m k H=some (b,H'))(d:kA m≠some A):H'[A]?=H[A]?:=by
 unfold BA at h;split at h
 case h_2=>cases h
 split at h
 case h_2=>cases h
 split at h
 ·cases h; exact mB fun e=>d (by rw[e]; rfl)
 ·cases h
theorem acR{P:ak}{l c:AV}(h:Br P t l c H=some (b,v,H'))(d:A<H.length):H'[A]?=H[A]?:=by
 unfold Br at h;split at h<;>grind
theorem acS{P:ak}{parts:List (Nat × AV)}(h:Bs P t n parts H=some (b,v,H'))(d:A<H.length):H'[A]?=H[A]?:=by
 unfold Bs at h;split at h
 case h_2=>cases h
 split at h
 case h_2=>cases h
 split at h
 case h_2=>cases h
 split at h
 case h_2=>cases h
 split at h
 case h_2=>cases h
 split at h
 ·cases h; exact ub d
 ·cases h
theorem Rn{P:ak}{o:Op}(h:yA P r H o=some (b,v,H'))(d:A<H.length)(J:A∉o.operands.toList.filterMap fun x=>kA (r x)):H'[A]?=H[A]?:=by
 have no:∀x∈o.operands.toList,kA (r x)≠some A:=fun x g e=>J (Z8.2 ⟨x,g,e⟩);cases o<;>simp only[yA]at h<;>try cases h
 case alloc t=>
  split at h
  ·split at h
   ·cases h; exact ub d
   ·cases h
  ·split at h
   ·cases h; exact ub d
   ·cases h
 case box t x=>
  split at h
  ·cases h; exact ub d
  ·cases h
 case store t a x=>
  split at h
  ·rename_i B H1 hs
   cases h;exact Rl hs (no a (by simp[j_]))
  ·cases h
 case makeSlice t l c=>exact acR h d
 case buildSlice t n ps=>exact acS h d
 case range t x=>
  split at h
  ·cases h; exact ub d
  ·cases h
 case next it isString=>
  cases isString with
  |false=>cases h
  |true=>
   simp only[]at h;split at h
   ·rename_i id k g
    split at h
    ·split at h
     ·cases h; exact mB fun e=>no it (by simp[j_]) (by rw[g,e]; rfl)
     ·cases h; rfl
    ·cases h
   ·cases h
 case makeMap t res=>
  cases res with
  |some _=>cases h
  |none=>
   simp only[]at h;split at h
   ·split at h
    ·cases h; exact ub d
    ·cases h
   ·cases h
 case mapUpdate t m k x=>
  split at h
  ·rename_i B H1 hs
   cases h;exact Rm hs (no m (by simp[j_]))
  ·split at h
   ·rename_i B H1 hs
    cases h;exact acM hs (no m (by simp[j_])) (no x (by simp[j_]))
   ·cases h
 case lookup t m k ok=>
  cases ok with
  |true=>cases h
  |false=>exact acN h d (no m (by simp[j_]))
 case mapEntry t m k=>exact acP h d (no m (by simp[j_]))
 case entryStore t m s x=>
  split at h
  ·rename_i B H1 hs
   cases h;exact acO hs (no m (by simp[j_])) (no x (by simp[j_]))
  ·cases h
 case insert t m k x=>
  split at h
  ·rename_i B H1 hs
   cases h;exact Rm hs (no m (by simp[j_]))
  ·cases h
 case call c=>
  have na:∀x∈c.args.toList,kA (r x)≠some A:=fun x g=>no x (by
   simp only[j_,Call.operands];simp at g|-;exact .inr g)
  split at h
  ·split at h
   ·rename_i s x t xt q I
    have M:=na s (by rw[q]; simp);split at h
    ·exact acK h d
    ·exact acJ h d M
   ·cases h
  ·split at h
   ·rename_i x t q I
    have F:=na x (by rw[q]; simp);split at h
    ·rename_i hs; cases h; exact acL hs F
    ·cases h
   ·cases h
  ·split at h
   ·rename_i x k t _ q I
    have F:=na x (by rw[q]; simp);split at h
    ·rename_i hs; cases h; exact acQ hs F
    ·cases h
   ·cases h
  ·cases h
theorem acT{P:ak}{o:Op}(h:BG P r H o=some (b,H'))(g:A∉o.operands.toList.filterMap fun x=>kA (r x)):H'[A]?=H[A]?:=by
 have no:∀x∈o.operands.toList,kA (r x)≠some A:=fun x q e=>g (Z8.2 ⟨x,q,e⟩);unfold BG at h;split at h
 case h_2=>cases h
 rename_i t a x;split at h
 case h_2=>cases h
 rename_i F I H1 d;split at h
 case h_2=>cases h
 rename_i J M hs;simp only[bQ,cr]at h;obtain⟨_,rfl⟩:=h;rw[Rl hs (no a (by simp[j_]))];unfold KU at d;split at d
 case h_2=>cases d
 rename_i w id ax oF n B;split at d
 case h_2=>cases d
 split at d
 case isFalse=>cases d
 simp only[bQ,cr]at d;obtain⟨_,_,rfl⟩:=d;refine mB fun e=>no x (by simp[j_]) ?_;rw[B,e];rfl
theorem Fv(O:aw P τ){k:AV->List aG->bB}(g:dq ah s.fr o=some true)
  (h:(t_ P τ o s k).holds Q):∃v H',Yields P τ.pf ah o s.au v (aF H')/\(ef τ.pf o.op=.write->∀A,A∉nh τ s.eval s.H o.op->A<s.H.length->H'[A]?=s.H[A]?)/\(k v H').holds Q:=by
 unfold t_ at h;split at h
 ·rename_i c a b M
  split at h
  ·rename_i t hb
   have hb:=Rf hb;refine⟨bif t then s.eval a else s.eval b,s.H,K5 g (by rw[M]; rfl) (.inl (by rw[M]; simp only[kN,hb])),fun _ _ _ _=>rfl,?_⟩;simp only[bB.holds]at h;cases t with
   |true=>exact h.1 rfl
   |false=>exact h.2 rfl
  ·exact h.elim
 ·rename_i t a M
  split at h
  ·rename_i b v Y
   simp only[bB.holds]at h;refine⟨v,s.H,?_,fun _ _ _ _=>rfl,h.2⟩;unfold Yields;rw[show s.au.fr=s.fr from rfl,g];simp only[M,ef,aH.qC];exact⟨rfl,by simp only[im]; exact ab_ Y h.1⟩
  ·exact h.elim
 ·rename_i t m x ok M
  have htouch:nh τ s.eval s.H o.op=o.op.operands.toList.filterMap fun x=>kA (s.eval x):=by
   have U:g_ s.eval o.op=none:=by rw[M]; rfl
   simp only[nh,U]
  split at h
  ·rename_i b v Y
   split at h
   ·rename_i hc
    simp only[bB.holds]at h;refine⟨v,s.H,?_,fun _ _ _ _=>rfl,h.2⟩;unfold Yields;rw[show s.au.fr=s.fr from rfl,g];simp only[hc,aH.qC];rw[M];exact⟨rfl,by simp only[im]; exact QY Y⟩
   ·rename_i hc
    simp only[bB.holds]at h;refine⟨v,s.H,v8 g hc (.inl ?_),fun _ _ _ _=>rfl,h.2⟩;rw[M];simp only[gB,QY Y]
   ·exact h.elim
  ·split at h
   ·rename_i hc
    split at h
    ·rename_i b v H' d
     simp only[bB.holds]at h;exact⟨v,H',v8 g hc (.inl (Q7 d h.1)),fun _ A q J=>Rn d J (by rw[htouch]at q; exact q),h.2⟩
    ·exact h.elim
   ·exact h.elim
 ·split at h
  ·rename_i hc
   split at h
   ·rename_i v d
    refine⟨v,s.H,?_,fun _ _ _ _=>rfl,h⟩;unfold Yields;rw[show s.au.fr=s.fr from rfl,g];simp only[hc,aH.qC];exact⟨rfl,acA d⟩
   ·exact h.elim
  ·rename_i hc
   split at h
   ·rename_i f args N
    split at h
    ·rename_i b v d
     simp only[bB.holds]at h;obtain⟨B,F⟩:=O.T f args b v d h.1;exact⟨v,s.H,K5 g hc (.inr ⟨f,args,N,B,F⟩),fun _ _ _ _=>rfl,h.2⟩
    ·exact h.elim
   ·split at h
    ·rename_i b v d
     simp only[bB.holds]at h;exact⟨v,s.H,K5 g hc (.inl (acz d h.1)),fun _ _ _ _=>rfl,h.2⟩
    ·exact h.elim
  ·rename_i hc
   split at h
   ·rename_i f args N
    split at h
    ·rename_i b v H' d
     simp only[bB.holds]at h;obtain⟨B,F⟩:=O.W f args s.H b v H' d h.1;exact⟨v,H',v8 g hc (.inr ⟨f,args,N,B,F⟩),fun _ A q J=>O.C f args s.H b v H' d A (by simpa only[nh,N]using q) J,h.2⟩
    ·split at h
     ·rename_i t hi
      obtain⟨B,v,H',F,g3,g4⟩:=O.I f args s.H t hi _ (bB.Fk h);exact⟨v,H',v8 g hc (.inr ⟨f,args,N,B,F⟩),fun _ A q J=>g3 A (by simpa only[nh,N]using q) J,g4⟩
     ·split at h
      ·rename_i b v d
       simp only[bB.holds]at h;obtain⟨B,F⟩:=O.T f args b v d h.1;exact⟨v,s.H,v8 g hc (.inr ⟨f,args,N,B,F _⟩),fun _ _ _ _=>rfl,h.2⟩
      ·cases hx:tZ s.H args with
       |mk vb args'=>
       rw[hx]at h;simp only[]at h;split at h
       ·rename_i b v d
        split at h
        ·rename_i hfl
         simp only[aR]at hfl;simp only[bB.holds,aR]at h;obtain⟨B,F⟩:=O.T f args' b v d h.1.2;exact⟨v,s.H,v8 g hc (.inr ⟨f,args,N,B,acI F hx h.1.1 hfl.2 hfl.1⟩),fun _ _ _ _=>rfl,h.2⟩
        ·exact h.elim
       ·exact h.elim
   ·rename_i U
    split at h
    ·rename_i b v H' d
     simp only[bB.holds]at h;exact⟨v,H',v8 g hc (.inl (Q7 d h.1)),fun _ A q J=>Rn d J (by simpa only[nh,U]using q),h.2⟩
    ·split at h
     ·rename_i b H' d
      simp only[bB.holds]at h;refine⟨.undef,H',?_,fun _ A q J=>acT d (by simpa only[nh,U]using q),h.2⟩;unfold Yields;rw[show s.au.fr=s.fr from rfl,g];simp only[hc,aH.qC];exact .inr (.inr (acB d h.1))
     ·exact h.elim
theorem Ro{t:Tmp}{d:Bool}(h:tY ah s.fr o=.test t b d):
  s.fr[t]?=some (.lit (.bool b))/\dq ah s.fr o=some (b==d):=by
 unfold tY at h;unfold dq;cases g:o.guard with
 |none=>rw[g]at h; cases h
 |some A=>
  obtain⟨j,w⟩:=A;rw[g]at h;simp only[]at h|-;split at h
  ·rename_i t' B
   split at h
   ·rename_i F q
    cases h;exact⟨q,by rw[B]; simp only[q]⟩
   ·cases h
   ·cases h
  ·cases h
theorem K6(h:tY ah s.fr o=.no):dq ah s.fr o=some false:=by
 unfold tY at h;unfold dq;cases d:o.guard with
 |none=>rw[d]at h; cases h
 |some g=>
  obtain⟨j,w⟩:=g;rw[d]at h;simp only[]at h|-;split at h
  ·rename_i t' q
   split at h
   ·cases h
   ·rename_i A
    rw[q];simp only[A]
   ·cases h
  ·cases h
theorem Rp(h:tY ah s.fr o=.yes):dq ah s.fr o=some true:=by
 unfold tY at h;unfold dq;cases d:o.guard with
 |none=>rfl
 |some g=>
  obtain⟨j,w⟩:=g;rw[d]at h;simp only[]at h;split at h
  ·split at h<;>cases h
  ·cases h
theorem Fw{t:Tmp} (h:s.fr[t]?=some (.lit (.bool b))):s.aU t b=s:=by
 unfold aH.aU;rw[qA h]
theorem acU(B:aw P τ){k:aH->bB}(h:(KV P τ ah o s k).holds Q):
  ∃v H',Yields P τ.pf ah o s.au v (aF H')/\(k (s.put o.dst v H')).holds Q:=by
 have skip:dq ah s.fr o=some false->Yields P τ.pf ah o s.au (.tuple []) (aF s.H):=by
  intro d;unfold Yields;rw[show s.au.fr=s.fr from rfl,d];exact⟨rfl,rfl⟩
 unfold KV at h;split at h
 ·exact h.elim
 grind[K6]
 grind[Fv,Rp]
 ·rename_i t b q d
  obtain⟨A,F⟩:=Ro d;simp only[bB.holds]at h;cases b with
  |true=>
   have g:=h.1 rfl;rw[Fw A]at g;cases q with
   |true=>
    grind[Fv]
   |false=>grind
  |false=>
   have g:=h.2 rfl;rw[Fw A]at g;cases q with
   |true=>grind
   |false=>
    grind[Fv]
theorem uc(d:aw P τ){ah:Array aN}{Q:cu->aH->Prop}:∀{l:List aN} {s:aH} {k:aH->bB},(fY P τ ah l s k).holds Q->∃ s',fW P τ.pf ah l s.au s'.au/\(k s').holds Q
 |[],s,k,h=>⟨s,rfl,h⟩
 |o::l,s,k,h=>by
  obtain⟨v,H',g,q⟩:=acU d h;obtain⟨s',A,B⟩:=uc d q;exact⟨s',⟨v,aF H',g,A⟩,B⟩
def Acc.le(a b:Acc):Prop:=(∀x∈a.R,x∈b.R)/\∀x∈a.W,x∈b.W
def Acc.ok(ah:Array aN)(j:Nat)(a:Acc):Prop:=(∀x∈a.R,x.1<j)/\(∀x∈a.W,x.1<j)/\yu ah a.R a.W
theorem K7{aB:List Nat}(h:BH aB i=true):i∉aB:=by
 intro hm;have:aB.any (aA i)=true:=List.any_eq_true.2 ⟨i,hm,ai⟩;simp[BH,this]at h
theorem acV{a b:Acc}(I:a.ok ah j)(h:KW ah j id a=some b):b.ok ah (j+1)/\a.le b/\(j,id)∈b.R:=by
 unfold KW at h;split at h
 ·rename_i A
  cases h;simp only[eX,lQ,aR,jS]at A;obtain⟨N,g,q⟩:=I;refine⟨⟨fun x d=>?_,fun x d=>rH (g x d),fun i B hi e he=>?_,q.2⟩,⟨fun x d=>cO _ d,fun x d=>d⟩,dG⟩
  grind
  ·rcases cy.1 hi with J | hi
   ·cases J
    have M:=g e he;refine⟨fun F=>absurd F ab,fun _ O=>?_⟩
    grind[K7]
   ·exact q.1 i B hi e he
 ·cases h
theorem Rq{T:List Nat}{a b:Acc}(ha:a.ok ah j)(h:Fq ah j T n a=some b):b.ok ah (j+1)/\a.le b/\(j,T,n)∈b.W:=by
 unfold Fq at h;split at h
 ·rename_i M
  split at h
  case h_2=>cases h
  rename_i J;cases h;simp only[eX,lQ,aR,jS]at M J;obtain⟨U,Y,h3⟩:=ha;refine⟨⟨fun x d=>rH (U x d),fun x d=>?_,fun i A hi e he=>?_,fun e he e' q g B id N=>?_⟩,⟨fun x d=>d,fun x d=>cO _ d⟩,dG⟩
  ·rcases cy.1 d with rfl | d
   ·exact Nat.lt_succ_self _
   ·exact rH (Y x d)
  ·rcases cy.1 he with F | he
   ·subst F
    have g:=U (i,A) hi;refine⟨fun _ hw=>?_,fun O=>absurd O (by simp only at O g; omega)⟩;rcases M (i,A) hi with h|h
    ·simp only at hw h; rw[hw]at h; cases h
    ·exact⟨K7 h.1,h.2⟩
   ·exact h3.1 i A hi e he
  ·rcases cy.1 q with F | q
   ·subst F
    rcases cy.1 he with I|he
    ·subst I
     exact absurd g (AW _)
    ·rcases J e he with h | h
     ·simp only at B h
      rw[B]at h;cases h
     ·have h4:=h id N
      exact⟨K7 h4.1,h4.2⟩
   ·rcases cy.1 he with I | he
    ·subst I
     have h5:=Y e' q;exact absurd g (by simp only; omega)
    ·exact h3.2 e he e' q g B id N
 ·cases h
theorem Acc.BJ{a:Acc}(h:a.ok ah j):a.ok ah (j+1):=⟨fun x d=>rH (h.1 x d),fun x d=>rH (h.2.1 x d),h.2.2⟩
theorem Acc.le_refl(a:Acc):a.le a:=⟨fun _ h=>h,fun _ h=>h⟩
theorem Acc.le_trans{a b c:Acc}(h:a.le b)(h':b.le c):a.le c:=⟨fun x d=>h'.1 x (h.1 x d),fun x d=>h'.2 x (h.2 x d)⟩
def Acc.only(j:Nat)(a b:Acc):Prop:=∀x∈b.W,x.1<j->x∈a.W
theorem acW{a b:Acc}(d:a.ok ah j)(h:KX τ ah j o s a=some b):
  b.ok ah (j+1)/\a.le b/\(ef τ.pf o.op=.read->∀id,pC s.eval o.op=some id->(j,id)∈b.R)/\(ef τ.pf o.op=.write->(j,nh τ s.eval s.H o.op,s.H.length)∈b.W):=by
 unfold KX at h;split at h
 ·rename_i hc
  cases h;exact⟨Acc.BJ d,a.le_refl,(fun h=>by rw[hc]at h; cases h),(fun h=>by rw[hc]at h; cases h)⟩
 ·rename_i hc
  split at h
  ·rename_i id g
   obtain⟨B,F,I⟩:=acV d h
   grind
  ·rename_i g
   cases h;refine⟨Acc.BJ d,a.le_refl,fun _ A q=>?_,(fun h=>by rw[hc]at h; cases h)⟩
   grind
 grind[Rq]
theorem Rr{b c:Acc}(B:b.le c)(hr:ef τ.pf o.op=.read->∀ id,pC s.eval o.op=some id->(j,id)∈b.R)
  (J:ef τ.pf o.op=.write->(j,nh τ s.eval s.H o.op,s.H.length)∈b.W) (M:ef τ.pf o.op=.write->∀A,A∉nh τ s.eval s.H o.op->A<s.H.length->H'[A]?=s.H[A]?)
  (F:pD o.op=true->tR ah=true->ef τ.pf o.op=.write->dq ah s.au.fr o=some true->∀q,Fb c.W j s.au.H q->Yields P τ.pf ah o ⟨s.au.fr,r7 q s.au.H⟩ v (r7 q (aF H'))) :
  (d:(vP ah&&gC o.op)=false)->Step P τ.pf ah c.R c.W j o s.au v (aF H'):=by
 intro d;refine⟨fun hc A N=>?_,fun hc _ id I=>B.1 _ (hr hc id (by rw[<-aH.qC]; exact I)),fun O g _=>(by rw[O,g]at d; cases d),F⟩;have:=N _ (B.2 _ (J hc)) rfl;have g:=M hc A this.1 this.2;show (aF H')[A]?=(aF s.H)[A]?
 simp only[aF,dw,g]
theorem step_skip{c:Acc}(d:dq ah s.fr o=some false):Step P τ.pf ah c.R c.W j o s.au (.tuple []) (aF s.H):=
 ⟨fun _ _ _=>rfl,fun _ h=>(by rw[show s.au.fr=s.fr from rfl,d]at h; cases h),fun _ _ _=>⟨rfl,fun _ h=>(h rfl).elim⟩,fun _ _ _ h=>(by rw[show s.au.fr=s.fr from rfl,d]at h; cases h)⟩
theorem Rt(B:aw P τ){f:bH}{args:List AV}{v:AV}(I:τ.N f=true):∀(d:List (Nat × ay)) (H H':List aG),τ.W f args H=some (true,v,H')->(∀p∈d,p.1<H.length/\p.1∉τ.C f args H) ->
  ∃A g,aF A=r7 d (aF H)/\aF g=r7 d (aF H')/\τ.W f args A=some (true,v,g)
 |[],H,H',h,_=>⟨H,H',rfl,rfl,h⟩
 |p::d,H,H',h,J=>by
  obtain⟨M,O⟩:=J p dG;obtain⟨U,Y⟩:=B.F.2 f I args H true v H' h p.1 (.raw p.2) M O;obtain⟨A,g,q1,q2,q3⟩:=Rt B I d _ _ U fun q hq=>by
   obtain⟨b1,b2⟩:=J q (cO _ hq);rw[Y];exact⟨by simpa using b1,b2⟩
  refine⟨A,g,?_,?_,q3⟩
  ·rw[q1,gn]
   rfl
  ·rw[q2,gn]
   rfl
theorem acX{k:AV->List aG->bB}(d:pD o.op=true)(hc:ef τ.pf o.op=.write)(g:g_ s.eval o.op=some (f,args))(A:τ.W f args s.H=some (b,v,H')):
  t_ P τ o s k=.side b (k v H'):=by
 unfold pD at d;split at d
 ·rename_i c q
  unfold t_;rw[q]at hc g|-;simp only[hc,g,A]
 ·cases d
theorem Ru{z:List al}:∀{H:List aG} {i j:Nat} {ks:List Kd} {g:LG},vZ z H i=some (j,ks,g)->i<=j/\H[j-i]? = some (.vQ ks 0 [])/\yC ks z=some g
 |[],_,_,_,_,h=>by cases h
 |o::H,i,j,ks,g,h=>by
  have next:vZ z H (i+1)=some (j,ks,g)->i<=j/\(o::H)[j-i]?=some (.vQ ks 0 [])/\yC ks z=some g:=by
   intro h;obtain⟨q,A,d⟩:=Ru h;refine⟨ab,?_,d⟩;rw[show j-i=(j-(i+1))+1 from by omega]
   grind
  unfold vZ at h
  grind
theorem acY{op:Op}(h:KY P op H=some (id,v,H')):
  (∃t m,op=.alloc t/\tG P t id m (aF H)=some (v,aF H'))/\H'.length=H.length/\∀A,A≠id->H'[A]?=H[A]?:=by
 unfold KY at h;split at h
 ·rename_i t
  split at h
  ·rename_i z q
   split at h
   ·rename_i i ks g B
    cases h;obtain⟨_,d,F⟩:=Ru B;rw[mT]at d;have e:=Q9 F;refine⟨⟨t,mZ ks,rfl,?_⟩,ai,fun A I=>dh (Ne.symm I)⟩;have J:ks.length=z.length:=by
     have:=congrArg nF e;simpa[vz,EG]using this
    rw[QD (mZ ks) q (k:=ks.length) (by rw[cn d]; rfl) J,gn,<-e];rfl
   ·cases h
  ·cases h
 ·cases h
theorem K8(F:aw P τ){a:Acc}{k:aH->Acc->bB}(hw:dq ah s.fr o=some true)(ha:a.ok ah j)(h:(BI P τ ah j o s a k).holds Q):
  ∃v H' b,Yields P τ.pf ah o s.au v (aF H')/\b.ok ah (j+1)/\a.le b/\(∀c,b.le c->Step P τ.pf ah c.R c.W j o s.au v (aF H'))/\(k (s.put o.dst v H') b).holds Q:=by
 unfold BI at h;split at h
 ·rename_i q
  simp only[aR]at q;split at h
  ·rename_i id v H' hal
   split at h
   ·rename_i b hb
    obtain⟨⟨t,m,hop,hv⟩,hlen,hkeep⟩:=acY hal;obtain⟨N,O,I⟩:=Rq ha hb;refine⟨v,H',b,?_,N,O,fun c hc=>⟨fun _ A hA=>?_,fun hr=>(by rw[vR q.2]at hr; cases hr),fun _ _ _=>⟨?_,fun J hne=>?_⟩,fun hcv=>(by rw[tS q.2]at hcv; cases hcv)⟩,h⟩
    ·unfold Yields
     rw[show s.au.fr=s.fr from rfl,hw];simp only[vR q.2];exact .inr (.inl ⟨t,id,m,hop,hv⟩)
    ·have:=(hA _ (hc.2 _ I) rfl).1
     show (aF H')[A]?=(aF s.H)[A]?
     simp only[aF,dw,hkeep A (by simpa using this)]
    ·show (aF H').length=(aF s.H).length
     simp only[fX,hlen]
    ·refine⟨_,hc.2 _ I,rfl,?_⟩
     have e:J=id:=Pj fun e=>hne (by
      show (aF H')[J]?=(aF s.H)[J]?
      simp only[aF,dw,hkeep J e])
     rw[e];exact List.mem_singleton.2 rfl
   ·exact h.elim
  ·exact h.elim
 ·rename_i q
  split at h
  ·exact h.elim
  rename_i hfc;split at h
  ·rename_i b hb
   obtain⟨N,O,I,g4⟩:=acW ha hb;by_cases B:(tR ah&&pD o.op)=true/\ef τ.pf o.op=.write
   ·obtain⟨B,M⟩:=B
    have hca2:=B;simp only[aR]at hca2;have g:KZ τ o s=true:=by
     rw[B]at hfc;simpa using hfc
    unfold KZ at g;rw[M]at g;simp only[]at g;split at g
    case h_2=>cases g
    rename_i f args Y;split at g
    case h_2=>cases g
    rename_i hN;obtain⟨⟨b0,v,H'⟩,U⟩:=Option.isSome_iff_exists.1 g;rw[acX hca2.2 M Y U]at h;simp only[bB.holds]at h;obtain⟨rfl,h⟩:=h;obtain⟨hbody,hcall⟩:=F.W f args s.H true v H' U rfl;have htch:nh τ s.eval s.H o.op=τ.C f args s.H:=by
     unfold nh;rw[Y]
    have hcal':∀d,g_ (St.eval ⟨s.au.fr,d⟩) o.op=some (f,args):=fun d=>by
     have e:St.eval ⟨s.au.fr,d⟩=s.eval:=by funext x; cases x<;>rfl
     rw[e];exact Y
    have yl:∀d H3:List ay,e_ P f args d v H3->Yields P τ.pf ah o ⟨s.au.fr,d⟩ v H3:=fun d H3 hx=>by
     unfold Yields;rw[show (St.mk s.au.fr d).fr=s.fr from rfl,hw];simp only[M];exact .inl (.inr ⟨f,args,hcal' d,hbody,hx⟩)
    refine⟨v,H',b,yl _ _ hcall,N,O,fun c hc=>Rr hc I g4 (fun _ A hA hlt=>?_) (fun _ _ _ _ σ hσ=>?_) (by simpa using q),h⟩
    ·exact F.C f args s.H true v H' U A (by rw[<-htch]; exact hA) hlt
    ·obtain⟨d,H2',q1,q2,q3⟩:=Rt F hN σ s.H H' U (fun p hp=>by
      obtain⟨hk,_⟩:=hσ p hp;obtain⟨k1,k2⟩:=hk _ (hc.2 _ (g4 M)) rfl;rw[htch]at k1;exact⟨k2,k1⟩)
     rw[<-q2,show r7 σ s.au.H=aF d from q1.symm];exact yl _ _ (F.W f args d true v H2' q3 rfl).2
   ·obtain⟨v,H',q1,q2,q3⟩:=Fv F hw h
    exact⟨v,H',b,q1,N,O,fun c hc=>Rr hc I g4 q2 (fun h1 h2 h3=>absurd ⟨by rw[h1,h2]; rfl,h3⟩ B) (by simpa using q),q3⟩
  ·exact h.elim
theorem acZ(I:aw P τ){a:Acc}{k:aH->Acc->bB}(A:a.ok ah j)(h:(K2 P τ ah j o s a k).holds Q):
  ∃v H' b,Yields P τ.pf ah o s.au v (aF H')/\b.ok ah (j+1)/\a.le b/\(∀c,b.le c->Step P τ.pf ah c.R c.W j o s.au v (aF H'))/\(k (s.put o.dst v H') b).holds Q:=by
 have skip:dq ah s.fr o=some false->Yields P τ.pf ah o s.au (.tuple []) (aF s.H):=by
  intro d;unfold Yields;rw[show s.au.fr=s.fr from rfl,d];exact⟨rfl,rfl⟩
 unfold K2 at h;split at h
 ·exact h.elim
 ·rename_i d
  exact⟨_,_,a,skip (K6 d),Acc.BJ A,a.le_refl,fun _ _=>step_skip (K6 d),h⟩
 grind[K8,Rp]
 ·rename_i t b B d
  obtain⟨F,q⟩:=Ro d;simp only[bB.holds]at h;cases b with
  |true=>
   have g:=h.1 rfl;rw[Fw F]at g;cases B with
   |true=>grind[K8]
   |false=>exact⟨_,_,a,skip q,Acc.BJ A,a.le_refl,fun _ _=>step_skip q,g⟩
  |false=>
   have g:=h.2 rfl;rw[Fw F]at g;cases B with
   |true=>exact⟨_,_,a,skip q,Acc.BJ A,a.le_refl,fun _ _=>step_skip q,g⟩
   |false=>grind[K8]
theorem Rv(g:aw P τ){ah:Array aN}{Q:cu->aH->Prop}:∀{l:List aN} {j:Nat} {s:aH} {a:Acc} {k:aH->bB},a.ok ah j->(K4 P τ ah l j s a k).holds Q ->
  ∃s' b,yu ah b.R b.W/\a.le b/\yr P τ.pf ah b.R b.W l j s.au s'.au/\(k s').holds Q
 |[],j,s,a,k,d,h=>⟨s,a,d.2.2,a.le_refl,rfl,h⟩
 |o::l,j,s,a,k,d,h=>by
  obtain⟨v,H',b,A,B,F,I,J⟩:=acZ g d h;obtain⟨s',c,M,q,N,O⟩:=Rv g B J;exact⟨s',c,M,Acc.le_trans F q,⟨v,aF H',A,I c q,N⟩,O⟩
theorem ac0{m:Nat}{s':aH}{b:Acc}(hm:P.follows .mixedOrders=true)(d:yt τ.pf ah=true)(g:yu ah b.R b.W)(h:yr P τ.pf ah b.R b.W ah.toList 0 s.au s'.au):
  c_ P m (.region id ah true) s.au .normal s'.au:=fun q _ _ _ hs=>ab8 hm d g hs h (fun _ _ hc=>⟨rfl,hc.toM⟩) q
theorem BK{K:cu->aH->bB}{Q:cu->aH->Prop}:∀{t:bB},(t.bind K).holds Q->t.holds fun x s=>(K x s).holds Q
 |.fail,h=>h
 |.done _ _,h=>h
 |.ask _ _ _,h=>⟨fun d=>BK (h.1 d),fun d=>BK (h.2 d)⟩
 |.side _ _,h=>⟨h.1,BK h.2⟩
theorem Rw{m:Nat}{c:Code}{Q:cu->aH->Prop}{body:aH->(cu->aH->bB)->bB}
  (q:∀s K,(body s K).holds Q->∃x s',c_ P m c s.au x s'.au/\(K x s').holds Q):∀(n:Nat) (s:aH) (K:cu->aH->bB),(Fs body n s K).holds Q ->
  ∃x s',nU P m c s.au x s'.au/\(K x s').holds Q
 |0,_,_,h=>h.elim
 |n+1,s,K,h=>by
  simp only[Fs]at h;obtain⟨x,s1,d,g⟩:=q _ _ h;cases x with
  |normal=>
   obtain⟨y,s2,A,B⟩:=Rw q n s1 K g;exact⟨y,s2,.next d A,B⟩
  |exit i=>exact⟨_,s1,.stop d ai,g⟩
  |ret=>exact⟨_,s1,.stop d ai,g⟩
theorem fo(hm:P.follows .mixedOrders=true)(B:aw P τ){m:Nat}{L:LT}{Q:cu->aH->Prop}:∀(c:Code) (s:aH) (K:cu->aH->bB),
  aQ P m L c->(db P τ L c s K).holds Q->∃x s',c_ P m c s.au x s'.au/\(K x s').holds Q
 |.skip,s,K,_,h=>⟨_,_,abV,h⟩
 |.region id ah W,s,K,A,h=>by
  simp only[db]at h;split at h
  ·rename_i J
   split at h
   ·rename_i hB
    simp only[bB.holds]at h;have hdt:W=true:=by
     cases W with
     |true=>rfl
     |false=>simp at J
    subst hdt;obtain⟨s',b,q,_,d,F⟩:=Rv B (a:=⟨[],[]⟩) ⟨ai,ai,⟨fun i id hi=>(nomatch hi),fun e he=>(nomatch he)⟩⟩ h.2;exact⟨_,_,vM (A.2.1 id s h.1) (ac0 hm hB q d),F⟩
   ·exact h.elim
  ·rename_i Y
   simp only[bB.holds]at h;obtain⟨s',q,d⟩:=uc B h.2;refine⟨_,_,vM (A.2.1 id s h.1) (abY hm (fun J=>?_) q),d⟩;rw[J]at Y;simpa using Y
 |.seq a b,s,K,A,h=>by
  simp only[db]at h;have M:aQ P m L a:=A.sub (fun p g=>by simp only[cI]; exact cY.2 (.inl g)) (fun p g=>by simp only[cB]; exact cY.2 (.inl g));have N:aQ P m L b:=A.sub (fun p g=>by simp only[cI]; exact cY.2 (.inr g)) (fun p g=>by simp only[cB]; exact cY.2 (.inr (cY.2 (.inr g))));obtain⟨x,s1,q,d⟩:=fo hm B a s _ M h;cases x with
  |normal=>
   simp only[Q_]at d;split at d
   ·rename_i t I
    unfold Rc at I;split at I
    ·rename_i i hi
     obtain⟨y,s2,F,U⟩:=A.2.2 i b (by simp only[cB,hi]; exact cY.2 (.inr (cY.2 (.inl (dG))))) s1 t I _ (BK d);exact⟨y,s2,tO q F,U⟩
    ·cases I
   ·obtain⟨y,s2,F,U⟩:=fo hm B b s1 K N d
    exact⟨y,s2,tO q F,U⟩
  |exit id=>exact⟨_,_,QJ q ai,d⟩
  |ret=>exact⟨_,_,QJ q ai,d⟩
 |.cond c a b,s,K,A,h=>by
  simp only[db]at h;have M:aQ P m L a:=A.sub (fun p g=>by simp only[cI]; exact cY.2 (.inl g)) (fun p g=>by simp only[cB]; exact cY.2 (.inl g));have N:aQ P m L b:=A.sub (fun p g=>by simp only[cI]; exact cY.2 (.inr g)) (fun p g=>by simp only[cB]; exact cY.2 (.inr g));split at h
  ·rename_i t hb
   have O:=Rf hb;rw[<-aH.qC]at O;simp only[bB.holds]at h;cases t with
   |true=>
    obtain⟨x,s1,q,d⟩:=fo hm B a s K M (h.1 rfl);exact⟨x,s1,QK O (by simpa using q),d⟩
   |false=>
    obtain⟨x,s1,q,d⟩:=fo hm B b s K N (h.2 rfl);exact⟨x,s1,QK O (by simpa using q),d⟩
  ·exact h.elim
 |.block id c,s,K,A,h=>by
  simp only[db]at h;obtain⟨x,s1,q,d⟩:=fo hm B c s _ (A.sub (fun p g=>by simpa only[cI]using g) (fun p g=>by simpa only[cB]using g)) h;refine⟨_,s1,EZ q,?_⟩;cases x with
  |normal=>exact d
  |exit i=>
   simp only[Ra]at d;simp only[cu.inBlock];split
   ·rename_i e; rw[iP e]at d; exact d
   ·rename_i e; rw[iN e]at d; exact d
  |ret=>exact d
 |.loop c,s,K,A,h=>by
  simp only[db]at h;split at h
  ·rename_i i hi
   split at h
   ·rename_i t hl
    obtain⟨x,s',q,d⟩:=A.1 i c (by simp only[cI,hi]; exact dG) s t hl _ (BK h);exact⟨x,s',QL q,d⟩
   ·obtain⟨x,s',q,d⟩:=Rw (fun s1 K1 hh=>fo hm B c s1 K1 (A.sub (fun p g=>by simp only[cI,hi]; exact cO _ g) (fun p g=>by simpa only[cB] using g)) hh) 400 s K h
    exact⟨x,s',QL q,d⟩
  ·exact h.elim
 |.exit id,s,K,_,h=>⟨_,_,abX,h⟩
 |.ret,s,K,_,h=>⟨_,_,abW,h⟩
 |.rangeFunc ..,_,_,_,h=>by simp[db,bB.holds]at h
 |.scope _,_,_,_,h=>by simp[db,bB.holds]at h
 |.label _,_,_,_,h=>by simp[db,bB.holds]at h
 |.goto _,_,_,_,h=>by simp[db,bB.holds]at h
 |.refuse _,_,_,_,h=>by simp[db,bB.holds]at h
end sound
inductive mC where
 |fail
 |ret (v:AV) (H:List aG)
 |ask (b:Bool) (t e:mC)
 |side (b:Bool) (t:mC)
def mC.holds(Q:AV->List aG->Prop):mC->Prop
 |.fail=>False
 |.ret v H=>Q v H
 |.ask b t e=>(b=true->t.holds Q)/\(b=false->e.holds Q)
 |.side b t=>b=true/\t.holds Q
def mC.two:mC->Option (AV × List aG)
 |.fail=>none
 |.ret v H=>some (v,H)
 |.ask b t e=>bif b then t.two else e.two
 |.side b t=>bif b then t.two else none
def mC.val:mC->Option AV
 |.fail=>none
 |.ret v _=>some v
 |.ask b t e=>bif b then t.val else e.val
 |.side b t=>bif b then t.val else none
theorem Fx:∀{t:mC} {v:AV},t.val=some v->t.holds fun u _=>u=v
 |.fail,_,h=>by cases h
 |.ret u H,_,h=>by simp only[mC.val,bQ]at h; exact h
 |.ask b t e,v,h=>by
  cases b with
  |true=>exact⟨fun _=>Fx (t:=t) (v:=v) h,fun h=>by cases h⟩
  |false=>exact⟨fun h=>(nomatch h),fun _=>Fx (t:=e) (v:=v) h⟩
 |.side b t,v,h=>by
  cases b with
  |true=>exact And.intro rfl (Fx (t:=t) (v:=v) h)
  |false=>cases h
def K9(H:List aG):Option (List Kd)->AV->Option (Bool × AV)
 |none,a=>some (true,a)
 |some ks,a=>match a with
  |.nils | .lit (.slice none 0 0)=>some (true,.listF ks [])
  |.listF d rZ=>if Kd.kz ks d then some (true,.listF ks rZ) else none
  |.list w rZ=>match r8 ks rZ with
   |some g=>if w=ks.length then some (true,.listF ks g) else none
   |none=>none
  |.vQ w id ax oF n=>match H[id]? with
   |some (.vQ d v rZ)=>if ax=v/\d.length=w/\oF=0/\Kd.kz ks d=true then some (aA n rZ.length,.listF ks rZ) else none
   |_=>none
  |_=>none
def pF(H:List aG):List (Option (List Kd))->List AV->Option (Bool × List AV)
 |_,[]=>some (true,[])
 |[],a::as=>match pF H [] as with
  |some (b,d)=>some (b,a::d)
  |none=>none
 |c::cs,a::as=>match K9 H c a,pF H cs as with
  |some (b,g),some (q,d)=>some (b&&q,g::d)
  |_,_=>none
theorem ac1(HE:aO E)(hH:E.H=aF H){k:Option (List Kd)}{d:AV}(h:K9 H k a=some (b,d))(B:b=true)(A:d.closed=true)(hr:ae E a c):
  ae (E.bare E.w) d c:=by
 unfold K9 at h;split at h
 grind[fD,ua]
 ·rename_i ks
  split at h
  ·cases h
   simp only[ae,fN,G.rZ]at hr|-
   grind
  ·cases h
   simp_all[ae,fN,G.rZ]
  ·split at h
   ·rename_i hs
    cases h;rw[Kd.lY hs];exact fD (ua E) _ rfl hr
   ·cases h
  ·split at h
   ·rename_i F g
    split at h
    ·rename_i q
     cases h;rw[m_,yv g];subst q;exact fD (ua E) _ rfl hr
    ·cases h
   ·cases h
  grind[Kd.lY,Rh,cz]
  ·cases h
theorem K_{E:af}(HE:aO E){H:List aG}(hH:E.H=aF H):∀{ks:List (Option (List Kd))} {as g:List AV} {b:Bool} {cs:List al},pF H ks as=some (b,g)->b=true ->
  AV.ca g=true->aq E as cs->aq (E.bare E.w) g cs
 |ks,[],g,b,cs,h,_,_,hr=>by
  cases ks<;>simp only[pF]at h<;>cases h<;>(cases cs with
   |nil=>simp[aq]
   |cons _ _=>simp[aq]at hr)
 |[],a::as,g,b,cs,h,q,d,hr=>by
  cases cs with
  |nil=>simp[aq]at hr
  |cons c cs=>
   simp only[pF]at h;simp only[aq]at hr;split at h
   ·rename_i F B A
    cases h;simp only[AV.ca,aR]at d;simp only[aq];exact⟨fD (ua E) _ d.1 hr.1,K_ HE hH A q d.2 hr.2⟩
   ·cases h
 |k::ks,a::as,g,b,cs,h,q,d,hr=>by
  cases cs with
  |nil=>simp[aq]at hr
  |cons c cs=>
   simp only[pF]at h;simp only[aq]at hr;split at h
   ·rename_i M N F B I A
    simp only[bQ,cr]at h;obtain⟨J,rfl⟩:=h;subst J;simp only[aR]at q;simp only[AV.ca,aR]at d;simp only[aq];exact⟨ac1 HE hH I q.1 d.1 hr.1,K_ HE hH A q.2 d.2 hr.2⟩
   ·cases h
def bB.toR(P:ak)(rs:List ResultVar) (ks:List (Option (List Kd))):bB->mC
 |.fail=>.fail
 |.done x s=>match x with
  |.exit _=>.fail
  |_=>match kO P s.au rs with
   |some g=>match pF s.H ks g with
    |some (b,d)=>.side b (.ret (dA d) s.H)
    |none=>.fail
   |none=>.fail
 |.ask b t e=>.ask b (t.toR P rs ks) (e.toR P rs ks)
 |.side b t=>.side b (t.toR P rs ks)
theorem toR_holds{P:ak}{rs:List ResultVar}{ks:List (Option (List Kd))}{Q:AV->List aG->Prop}:∀{t:bB},(t.toR P rs ks).holds Q ->
  t.holds fun x s=>(x=.normal\/x=.ret)/\∃g d,kO P s.au rs=some g/\pF s.H ks g=some (true,d)/\Q (dA d) s.H
 |.fail,h=>h
 |.done x s,h=>by
  have key:∀y,(y=cu.normal\/y=cu.ret)->(match kO P s.au rs with
   |some g=>match pF s.H ks g with
    |some (b,d)=>mC.side b (.ret (dA d) s.H)
    |none=>.fail
   |none=>.fail).holds Q->(y=.normal\/y=.ret)/\∃g d,kO P s.au rs=some g/\pF s.H ks g=some (true,d)/\Q (dA d) s.H:=by
   intro y A h;split at h
   grind[mC.holds]
   ·exact h.elim
  simp only[bB.toR]at h;simp only[bB.holds];cases x with
  |exit i=>exact h.elim
  |normal=>simp_all
  |ret=>simp_all
 |.ask _ _ _,h=>⟨fun q=>toR_holds (h.1 q),fun q=>toR_holds (h.2 q)⟩
 |.side _ _,h=>⟨h.1,toR_holds h.2⟩
def Fy(P:ak)(τ:ar)(L:LT)(fn:Func) (ks:List (Option (List Kd))) (args:List AV) (H:List aG):mC:=
 match fn.body with
 |some c=>(db P τ L c ⟨gD args fn.ntmps,H⟩ .done).toR P fn.results.toList ks
 |none=>.fail
theorem La{g:List al}(h:aq E d g):ae E (dA d) (if h:g.toArray.size=1 then g.toArray[0] else .tuple g.toArray):=by
 cases g with
 |nil=>
  cases d with
  |nil=>simp[dA,ae,aq]
  |cons _ _=>simp[aq]at h
 |cons u g=>
  cases g with
  |nil=>
   cases d with
   |nil=>simp[aq]at h
   |cons v d=>
    cases d with
    |nil=>grind[aq,dA]
    |cons _ _=>simp[aq]at h
  |cons u2 g=>
   cases d with
   |nil=>simp[aq]at h
   |cons v d=>
    cases d with
    |nil=>simp[aq]at h
    |cons q d=>
     simp_all[dA,ae]
theorem ac2{fn:Func}{c:Code}{x:cu}{s':aH}{ks:List (Option (List Kd))}{I g:List AV}
  (hf:P.funcs[f]?=some fn) (d:fn.body=some c) (hs:c_ P 0 c ⟨gD args fn.ntmps,[]⟩ x s'.au) (A:x=.normal\/x=.ret) (hr:kO P s'.au fn.results.toList=some I)
  (hc:pF s'.H ks I=some (true,g)) (ha:AV.ca args=true) (hv:AV.ca g=true):eA P f args (dA g):=by
 intro H E O hH HE Y
 let E0:af:={ w:=E.w,H:=[],ad:=[],X:=(E.X.or E.bC).re fM }
 have hown0:∀b,¬ E0.bC b:=by rintro b (⟨id,c,hid⟩|⟨l,k,c,B⟩); grind; simp[E0,fM]at B
 have hC:E.cQ E0:=⟨fun b d=>⟨⟨d.1,hown0 b,fun A=>A.elim d.2.2 d.2.1⟩,rfl⟩⟩
 have U:aO E0:=by
  refine⟨rfl,?_,?_,?_,?_,HE.iD.cQ hC,fun l k l' k' b m n B=>by simp[E0,fM]at B,fun i b m l k n hi=>by simp[E0]at hi,fun l k b m B=>by simp[E0,fM]at B,fun i j o o' l hi=>by simp[E0]at hi,fun l _ k q B=>by simp[E0,fM]at B⟩
  grind
  grind
  ·rintro b (A | W)
   ·exact HE.X b A
   ·exact(HE.x2 W).1
  grind
 refine E9 hf d ?_;have hfe:=mw U;have hargs0:=nf hfe _ (tu hC args ha Y);have hrel:bM ⟨gD args fn.ntmps,[]⟩ { E0 with X:=⟨E0.X.x,fun _=>False,E0.X.r⟩ } { tmps:=O++Array.replicate (fn.ntmps-O.size) undef,defers:=[] }:=by
  refine⟨rfl,?_,mr _ _,U.cG hfe⟩;simp only[gD,Array.toList_append,Array.toList_replicate];refine mv hargs0 ?_;have:=il Y;have e:args.length=O.size:=ab;rw[e];have:=tQ (E:={ E0 with X:=⟨E0.X.x,fun _=>False,E0.X.r⟩ }) (dz (fn.ntmps-O.size) undef)
  grind
 refine wpIn_mono (hs none (EY _) { E0 with X:=⟨E0.X.x,fun _=>False,E0.X.r⟩ } _ hrel) fun e a1 w0 ⟨h3,loc',X',M,N⟩=>?_;refine⟨by subst h3; rcases A with rfl|rfl; exact .inl rfl; exact .inr rfl,X',M.defers,fun F k1 k2 k3=>?_⟩;obtain⟨M,N⟩:=E_ U M N k1 k2 k3;obtain⟨J,g1,g2⟩:=Bk M fn.results.toList I hr;have hres:(results fn a1.tmps).run P F=.ok (if h:J.toArray.size=1 then J.toArray[0] else .tuple J.toArray) F:=by
  rw[vO];simp only[Sem.run_bind];rw[Array.mapM_eq_mapM_toList,Sem.run_map,g1];rfl
 have g3:=K_ M.heap rfl hc rfl hv g2;have g4:=La g3;have hext:Ext E.w F:=⟨N.size,fun b d=>N.same b d (hown0 b),N.env⟩
 have hcl:(dA g).closed=true:=by
  cases g with
  |nil=>rfl
  |cons v I=>
   cases I with
   |nil=>grind[dA,AV.ca]
   |cons v2 I=>grind[dA,AV.closed]
 have g5:ae { E with w:=F } (dA g) (if h:J.toArray.size=1 then J.toArray[0] else .tuple J.toArray):=
  fD (E:=({ w:=F,H:=aF s'.H,ad:=loc',X:=E0.X.re X'.r }:af).bare F) (E':={ E with w:=F }) ⟨fun b d=>⟨⟨d.1,fun W=>d.2.2 (Or.inr W),fun A=>d.2.2 (Or.inl A)⟩,rfl⟩⟩ _ hcl g4
 refine⟨_,hres,_,dA g,H,rfl,⟨rfl,rfl⟩,E.ad,E.X.r,?_,?_,?_⟩
 simp_all
 ·rw[<-hH]; exact HE.ext hext
 ·rw[<-hH]; exact af.jn hext
theorem ac3(h:dA d=v)(g:v.closed=true):AV.ca d=true:=by
 subst h;cases d with
 |nil=>rfl
 |cons v d=>
  cases d with
  |nil=>simpa[dA,AV.ca]using g
  |cons q d=>simpa only[dA,AV.closed]using g
theorem fZ{τ:ar}{L:LT}(hm:P.follows .mixedOrders=true)(q:aw P τ){fn:Func} (ks:List (Option (List Kd)))
  (A:∀c,fn.body=some c->aQ P 0 L c)
  (B:P.funcs[f]?=some fn) (F:AV.ca args=true) (I:v.closed=true) (h:(Fy P τ L fn ks args []).val=some v):eA P f args v:=by
 have h:=Fx h;unfold Fy at h;split at h
 ·rename_i c d
  obtain⟨x,s',J,M,W,U,N,O,g⟩:=fo hm q c _ _ (A c d) (toR_holds h);rw[<-g];exact ac2 B d J M N O F (ac3 g I)
 ·exact h.elim
def Rx(d:List Nat):ar:={ pf:=fun g=>d.any fun t=>aA g (t+1000000),T:=fun _ _=>none,W:=fun _ _ _=>none,C:=fun _ _ _=>[],U:=fun _=>false }
theorem ac4(P:ak)(d:List Nat):aw P (Rx d):=⟨fun _ _ _ _ h=>(nomatch h),fun _ _ _ _ _ _ h=>(nomatch h),fun _ _ _ _ _ _ h=>(nomatch h),fun _ _ _ _ h=>(nomatch h),fun _ _ _ _=>⟨rfl,rfl⟩,fun _ h=>(nomatch h)⟩
def ar.add(τ:ar)(f:bH)(c:List AV->Option (Bool × AV)):ar where
 pf g:=match aA g f with
  |true=>true
  |false=>τ.pf g
 T g args:=match aA g f with
  |true=>c args
  |false=>τ.T g args
 W:=τ.W
 C:=τ.C
 I:=τ.I
 N:=τ.N
 U:=τ.U
theorem aw.add{P:ak}{τ:ar}(h:aw P τ){f:bH}{c:List AV->Option (Bool × AV)}(A:eC P f=true)(hc:∀ args b v,c args=some (b,v)->b=true->eA P f args v) :
  aw P (τ.add f c):=by
 refine⟨fun g args b v d q=>?_,h.W,h.C,h.I,h.F⟩;simp only[ar.add]at d;split at d
 ·rename_i e
  have e:=cz e;subst e;exact⟨A,hc args b v d q⟩
 ·exact h.T g args b v d q
def bz:LT:=⟨fun _ _=>none,fun _ s=>(true,s),fun _ _=>none⟩
theorem bN(P:ak)(m:Nat)(c:Code):aQ P m bz c:=⟨fun _ _ _ _ _ h=>(nomatch h),fun _ _ _=>cV.refl _,fun _ _ _ _ _ h=>(nomatch h)⟩
def ar.inline(P:ak)(τ:ar)(f:bH)(fn:Func) (ks:List (Option (List Kd))):ar:=τ.add f fun args=>
 match (Fy P τ bz fn ks args []).val with
 |some v=>match AV.ca args&&v.closed with
  |true=>some (true,v)
  |false=>none
 |none=>none
theorem aw.inline{P:ak}{τ:ar}(h:aw P τ)(hm:P.follows .mixedOrders=true){f:bH}{fn:Func}(q:P.funcs[f]? = some fn)(g:eC P f=true) (ks:List (Option (List Kd))) :
  aw P (τ.inline P f fn ks):=h.add g fun args b v hc _=>by
 split at hc
 ·rename_i u A
  split at hc
  ·rename_i d
   simp only[aR]at d
   grind[fZ,bN]
  ·cases hc
 ·cases hc
abbrev aS(s:BY):AV:=.lit (.string s)
def BL(aU:Nat)(ks:List Kd)(s:aH):aH:=⟨s.fr.set aU (.vQ ks.length s.H.length 0 0 0),s.H++[.vQ ks 0 []]⟩
def isNil:AV->Bool
 |.nils | .lit (.slice none 0 0)=>true
 |_=>false
theorem Ry(h:isNil a=true)(hr:ae E a c):∃bg,c=.slice bg 0 0:=by
 unfold isNil at h;split at h
 ·simpa only[ae]using hr
 ·simp only[ae]at hr; exact⟨none,hr⟩
 ·cases h
theorem Rz{m:Nat}{aU:Nat}{ks:List Kd}(h:isNil (s.fr.getD aU .undef)=true):cV m s.au (BL aU ks s).au:=fun E a hs=>by
 have hH:E.H=aF s.H:=hs.H;have B:E.H.length=s.H.length:=by rw[hH,fX]
 have F:E.le (E.push E.w (.vQ ks.length 0 []) none):=af.nc hs.heap.len (Ext.refl _) (fun b n h=>by cases h);have J:bK (E.push E.w (.vQ ks.length 0 []) none) E.H.length (.vQ ks.length 0 []):=by
  simp only[bK,af.push];refine .inl ⟨?_,trivial⟩;rw[ml (by rw[hs.heap.len]; exact bl _),hs.heap.len,xO];rfl
 have M:aO (E.push E.w (.vQ ks.length 0 []) none):=aO.push hs.heap (Ext.refl _) (fun b n h=>by cases h) J;have q:(BL aU ks s).au.H=E.H++[.vQ ks.length 0 []]:=by
  rw[hH];simp[BL,aH.au,aF,aG.au]
 refine⟨E.ad++[none],E.X,?_,?_⟩
 ·rw[q]
  refine⟨q.symm,?_,hs.defers,M⟩;have h':=gJ F _ hs.fr;have O:∀(fr:List AV) (cs:List al) (i:Nat),aq E fr cs->isNil (fr.getD i .undef)=true->aq (E.push E.w (.vQ ks.length 0 []) none) fr cs ->
    aq (E.push E.w (.vQ ks.length 0 []) none) (fr.set i (.vQ ks.length s.H.length 0 0 0)) cs:=by
   intro fr
   induction fr with
   |nil=>intro cs i g A d; exact d
   |cons b fr U=>
    intro cs i g A d;cases cs with
    |nil=>simp[aq]at g
    |cons c cs=>
     simp only[aq]at g d;cases i with
     |zero=>
      simp only[List.set_cons_zero,aq];refine⟨?_,d.2⟩;obtain⟨bg,rfl⟩:=Ry (by simpa using A) g.1;have W:(E.push E.w (.vQ ks.length 0 []) none).H[s.H.length]?=some (.vQ ks.length 0 []):=by
       simp only[af.push];rw[ml ab,B,xO];rfl
      have N:(E.push E.w (.vQ ks.length 0 []) none).ad[s.H.length]?=some none:=by
       simp only[af.push];rw[ml (by rw[hs.heap.len]; omega),hs.heap.len,B,xO];rfl
      simp only[ae];refine⟨⟨bg,0,rfl,bl _,fun h=>absurd h (AW _)⟩,⟨_,W,fun v h=>lj _⟩,fun _=>⟨fun _=>⟨trivial,trivial,bg,rfl⟩,fun b m I=>?_⟩⟩;rw[N]at I;cases I
     |succ i=>
      simp only[List.set_cons_succ,aq];exact⟨d.1,U cs i g.2 (by simpa using A) d.2⟩
  exact O s.fr _ aU hs.fr h h'
 ·rw[q]
  exact F.toM
def yE(fn:Func)(k:Nat):Code:=match fn.body with
 |some c=>match (cI c).find? fun p=>aA p.1 k with
  |some p=>p.2
  |none=>.skip
 |none=>.skip
theorem BM{vs:List al}{u:al}(h:∀w,Calls P f vs.toArray w fun e w'=>e=.returned u/\Ext w w'):eA P f (vs.map .lit) (.lit u):=by
 intro H E g hH HE A;have e:g=vs.toArray:=by
  have:∀(vs d:List al),aq E (vs.map AV.lit) d->d=vs:=by
   intro vs
   induction vs with
   |nil=>intro d h; cases d with
    |nil=>rfl
    |cons _ _=>simp[aq]at h
   |cons v vs B=>
    intro d h;cases d with
    |nil=>simp[aq]at h
    |cons u d=>
     simp only[eU,aq,ae]at h;rw[h.1,B d h.2]
  have:=this vs g.toList A;rw[<-this]
 rw[e];refine(h E.w).mono ?_;rintro _ w' ⟨rfl,q⟩;refine⟨u,.lit u,H,rfl,⟨rfl,rfl⟩,E.ad,E.X.r,by simp[ae],?_,?_⟩
 ·rw[<-hH]; exact HE.ext q
 ·rw[<-hH]; exact af.jn q
def v_(ks:List Kd):AV->Option LL
 |.nils | .lit (.slice none 0 0)=>some []
 |.emptyS _=>some []
 |.listF d rZ=>if Kd.kz ks d then some rZ else none
 |.list w rZ=>match r8 ks rZ with
  |some g=>if w=ks.length then some g else none
  |none=>none
 |_=>none
def Lb(ks:List Kd):AV->Option LG
 |.agg cells=>jE ks cells
 |_=>none
theorem RB{ks:List Kd}(h:v_ ks a=some rZ)(hr:ae E a c):ae E (.listF ks rZ) c:=by
 unfold v_ at h;split at h
 ·cases h
  simp only[ae,fN,G.rZ]at hr|-
  grind
 simp_all[ae,fN,G.rZ]
 ·cases h
  simp only[ae,fN,G.rZ]at hr|-
  grind
 grind[Kd.lY]
 grind[m_,yv]
 ·cases h
theorem RC{ks:List Kd}{r:LG}(h:Lb ks a=some r):a=.agg (bh ks r):=by
 unfold Lb at h
 grind[nX]
structure cW where
 aB:List Nat
 sh:List Nat
 bg:Nat
def cW.at(e:cW)(j:Nat):Nat:=match e.aB[j]? with
 |some i=>i
 |none=>e.bg+(j-e.aB.length)
def cW.up(e:cW)(j:Nat):Nat:=e.sh.getD j 0
mutual
def AV.dQ(e:cW):AV->AV
 |.agg cs=>.agg (AV.ni e cs)
 |.tuple cs=>.tuple (AV.ni e cs)
 |.clo f cs=>.clo f (AV.ni e cs)
 |.ptr id ax k row d=>.ptr (e.at id) (ax+e.up id) k row d
 |.vQ k id ax oF n=>.vQ k (e.at id) (ax+e.up id) oF n
 |.map id=>.map (e.at id)
 |a=>a
def AV.ni(e:cW):List AV->List AV
 |[]=>[]
 |a::as=>a.dQ e::AV.ni e as
end
def ay.dQ(e:cW)(j:Nat):ay->ay
 |.box cells=>.box (AV.ni e cells)
 |.vQ k v rZ=>.vQ k (v+e.up j) rZ
 |o=>o
theorem RD(e:cW):∀(as:List AV),(AV.ni e as).length=as.length
 |[]=>rfl
 |_::as=>by simp[AV.ni,RD e as]
mutual
def AV.dx:AV->Bool
 |.agg cs | .tuple cs | .clo _ cs=>AV.dM cs
 |.list .. | .listF .. | .cptr _=>false
 |_=>true
def AV.dM:List AV->Bool
 |[]=>true
 |a::as=>a.dx&&AV.dM as
end
structure wa (S:Bool) (e:cW) (E E':af):Prop where
 ok:S=false->∀b,E.lq b->E'.lq b/\E'.w.heap[b]?=E.w.heap[b]?
 cf:∀j ax,E.cf j ax->E'.cf (e.at j) (ax+e.up j)
 live:∀j ax,E.cf j ax->E'.live (e.at j) (ax+e.up j)->E.live j ax/\E'.ad[e.at j]?=E.ad[j]?
theorem wa.cQ{e:cW}{E E':af}(h:wa false e E E'):E.cQ E':=⟨h.ok rfl⟩
mutual
theorem Lc{S:Bool}{e:cW}{E E':af}(h:wa S e E E'):∀(a:AV) {c:al},(S=true->a.dx=true)->ae E a c->ae E' (a.dQ e) c
 |.undef,_,_,_=>by simp[AV.dQ,ae]
 |.lit v,c,_,hr=>by simpa only[AV.dQ,ae]using hr
 |.nils,c,_,hr=>by simpa only[AV.dQ,ae]using hr
 |.list k rZ,c,g,hr=>by
  cases S with
  |true=>exact absurd (g rfl) (by simp[AV.dx])
  |false=>exact fD h.cQ (.list k rZ) rfl hr
 |.listF ks rZ,c,g,hr=>by
  cases S with
  |true=>exact absurd (g rfl) (by simp[AV.dx])
  |false=>exact fD h.cQ (.listF ks rZ) rfl hr
 |.cptr cells,c,g,hr=>by
  cases S with
  |true=>exact absurd (g rfl) (by simp[AV.dx])
  |false=>exact fD h.cQ (.cptr cells) rfl hr
 |.ifc,c,_,hr=>by simpa only[AV.dQ,ae]using hr
 |.emptyS n,c,_,hr=>by simpa only[AV.dQ,ae]using hr
 |.agg cells,c,g,hr=>by
  simp only[ae]at hr;simp only[AV.dQ,ae];obtain⟨cs,B,q,d⟩:=hr;exact⟨cs,B,q,Fz h cells (fun e=>by simpa only[AV.dx]using g e) d⟩
 |.tuple cells,c,g,hr=>by
  simp only[ae]at hr;simp only[AV.dQ,ae];obtain⟨cs,B,d⟩:=hr;exact⟨cs,B,Fz h cells (fun e=>by simpa only[AV.dx]using g e) d⟩
 |.clo f cells,c,g,hr=>by
  simp only[ae]at hr;simp only[AV.dQ,ae];obtain⟨cs,B,d⟩:=hr;exact⟨cs,B,Fz h cells (fun e=>by simpa only[AV.dx]using g e) d⟩
 |.ptr id ax k row col,c,_,hr=>by
  simp only[ae]at hr;simp only[AV.dQ,ae];obtain⟨q,d,F⟩:=hr;refine⟨q,h.cf _ _ d,fun A=>?_⟩;obtain⟨I,J⟩:=h.live _ _ d A;rw[J];exact F I
 |.vQ k id ax oF n,c,_,hr=>by
  simp only[ae]at hr;simp only[AV.dQ,ae];obtain⟨q,d,F⟩:=hr;refine⟨q,h.cf _ _ d,fun A=>?_⟩;obtain⟨I,J⟩:=h.live _ _ d A;rw[J];exact F I
 |.map id,c,_,hr=>by
  simp only[ae]at hr;simp only[AV.dQ,ae];obtain⟨q,d,F⟩:=hr;have N:=h.cf _ _ d;refine⟨q,?_,fun A=>?_⟩
  ·obtain⟨o,M,O⟩:=N
   exact⟨o,M,fun v hv=>lj _⟩
  ·have W:e.up id=0:=by
    obtain⟨o,M,O⟩:=N;obtain⟨o2,U,Y⟩:=A;rw[M]at U;cases U;have:=O 0 Y;omega
   obtain⟨I,J⟩:=h.live _ _ d (by rw[W]; exact A);rw[J];exact F I
theorem Fz{S:Bool}{e:cW}{E E':af}(h:wa S e E E'):∀(as:List AV) {d:List al},(S=true->AV.dM as=true)->aq E as d->aq E' (AV.ni e as) d
 |[],[],_,_=>by simp[AV.ni,aq]
 |[],_::_,_,hr=>by simp[aq]at hr
 |_::_,[],_,hr=>by simp[aq]at hr
 |a::as,v::d,g,hr=>by
  simp only[AV.dM,aR]at g;simp only[aq]at hr;simp only[AV.ni,aq];exact⟨Lc h a (fun e=>(g e).1) hr.1,Fz h as (fun e=>(g e).2) hr.2⟩
end
structure KeepIn (e:cW) (E E':af):Prop where
 ok:∀b,E.lq b->E'.lq b/\E'.w.heap[b]?=E.w.heap[b]?
 w:E'.w=E.w
 ad:∀j,j<e.aB.length->E'.ad[j]?=E.ad[e.at j]?
 mD:∀(j:Nat) o l,E'.H[j]?=some o->o.label=some l->E'.X.r l=E.X.r l
theorem KeepIn.cQ{e:cW}{E E':af}(h:KeepIn e E E'):E.cQ E':=⟨h.ok⟩
structure wb (e:cW) (mE:List Nat) (E E':af):Prop extends KeepIn e E E' where
 RE:∀i,i∈mE->∀b n,E.ad[i]?=some (some (b,n))->E'.lq b
def gE{α:Type}:List α->List Nat->List α->List α
 |l,i::d,x::g=>gE (l.set i x) d g
 |l,_,_=>l
theorem we{α:Type}:∀(d:List Nat) (l g:List α),(gE l d g).length=l.length
 |[],_,_=>by simp[gE]
 |_::_,_,[]=>by simp[gE]
 |i::d,l,x::g=>by simp[gE,we d]
theorem FA{α:Type}:∀(d:List Nat) (l g:List α) (n:Nat),n∉d->(gE l d g)[n]? = l[n]?
 |[],_,_,_,_=>by simp[gE]
 |_::_,_,[],_,_=>by simp[gE]
 |i::d,l,x::g,n,h=>by
  simp only[cy,not_or]at h;simp only[gE];rw[FA d _ g n h.2,dh (Ne.symm h.1)]
theorem RF{α:Type}:∀(d:List Nat) (l g:List α) (j i:Nat) (x:α),d.Nodup->d[j]? = some i->g[j]? = some x->i<l.length->(gE l d g)[i]? = some x
 |[],_,_,_,_,_,_,h,_,_=>by simp at h
 |_::_,_,[],_,_,_,_,_,h,_=>by simp at h
 |k::d,l,y::g,0,i,x,hn,q,A,B=>by
  simp at q A;subst q; subst A;simp only[gE];have:k∉d:=(mn.1 hn).1;rw[FA d _ g k this,List.getElem?_set_self B]
 |k::d,l,y::g,j+1,i,x,hn,q,A,B=>by
  simp only[gE];exact RF d _ g j i x (mn.1 hn).2 (by simpa using q) (by simpa using A) (by simpa using B)
def ay.FB(e:cW)(j:Nat):ay->Bool
 |.dead=>true
 |.vQ _ _ _=>true
 |_=>aA (e.up j) 0
def n_(e:cW):Nat->List ay->List ay
 |_,[]=>[]
 |j,o::os=>o.dQ e j::n_ e (j+1) os
def nj(e:cW):Nat->List ay->Bool
 |_,[]=>true
 |j,o::os=>o.FB e j&&nj e (j+1) os
theorem Ld(e:cW):∀(j:Nat) (os:List ay),(n_ e j os).length=os.length
 |_,[]=>rfl
 |j,_::os=>by simp[n_,Ld e (j+1) os]
theorem RG(e:cW):∀(j:Nat) (os:List ay) (i:Nat),(n_ e j os)[i]? = (os[i]?).map (ay.dQ e (j+i))
 |_,[],i=>by simp[n_]
 |j,o::os,0=>by simp[n_]
 |j,o::os,i+1=>by
  simp only[n_,List.getElem?_cons_succ,RG e (j+1) os i]
  grind
theorem RH{e:cW}:∀{j:Nat} {os:List ay} {i:Nat} {o:ay},nj e j os=true->os[i]? = some o->o.FB e (j+i)=true
 |_,[],i,_,_,h=>by simp at h
 |j,_::os,0,o,h,hi=>by
  simp only[nj,aR]at h;simp at hi;subst hi;exact h.1
 |j,_::os,i+1,o,h,hi=>by
  simp only[nj,aR]at h;have:=RH h.2 (by simpa using hi)
  grind
variable {e:cW}
theorem FC{o:ay}(h:o.FB e j=true)(v:Nat):(o.dQ e j).bt=some v↔∃u,o.bt=some u/\v=u+e.up j:=by
 cases o with
 |dead=>simp[ay.dQ,ay.bt]
 |vQ k u rZ=>simp[ay.dQ,ay.bt,eq_comm]
 |box cells=>
  have:=cz h;simp[ay.dQ,ay.bt,this,eq_comm]
 |map d cl=>
  have:=cz h;simp[ay.dQ,ay.bt,this,eq_comm]
 |iter s p=>
  have:=cz h;simp[ay.dQ,ay.bt,this,eq_comm]
 |dK l T B s=>
  have:=cz h;simp[ay.dQ,ay.bt,this,eq_comm]
 |bI l k d cl=>
  have:=cz h;simp[ay.dQ,ay.bt,this,eq_comm]
theorem RI(e:cW)(j:Nat)(o:ay):(o.dQ e j).label=o.label:=by cases o<;>rfl
def ay.dx:ay->Bool
 |.box cells=>AV.dM cells
 |.vQ _ _ rZ=>rZ.all fun r=>AV.dM r
 |.map d _=>d.all fun x=>x.1.dx&&x.2.1.dx
 |.bI _ _ d _=>d.all fun x=>x.1.dx&&(match x.2.1 with
  |some rZ=>rZ.all fun r=>AV.dM r
  |none=>true)
 |_=>true
theorem RJ{S:Bool}{e:cW}{E E':af}(h:wa S e E E'){b:Nat}(g:E'.w.heap[b]? = E.w.heap[b]?):∀(as:List AV) {o:Nat},(S=true->AV.dM as=true)->dL E as b o->dL E' (AV.ni e as) b o
 |[],_,_,_=>by simp[AV.ni,dL]
 |a::as,o,d,hr=>by
  simp only[AV.dM,aR]at d;simp only[dL]at hr;simp only[AV.ni,dL];obtain⟨⟨v,q,A,B⟩,F⟩:=hr;exact⟨⟨v,by rw[World.xY g]; exact q,A,Lc h a (fun e=>(d e).1) B⟩,RJ h g as (fun e=>(d e).2) F⟩
mutual
theorem FD{E E':af}:∀(a:AV) {c:al},a.closed=true->a.dx=true->ae E a c->ae E' a c
 |.undef,_,_,_,_=>by simp[ae]
 |.lit v,c,_,_,hr=>by simpa only[ae]using hr
 |.nils,c,_,_,hr=>by simpa only[ae]using hr
 |.ifc,c,_,_,hr=>by simpa only[ae]using hr
 |.emptyS n,c,_,_,hr=>by simpa only[ae]using hr
 |.list ..,_,_,h,_ | .listF ..,_,_,h,_ | .cptr _,_,_,h,_=>by simp[AV.dx]at h
 |.ptr ..,_,h,_,_ | .vQ ..,_,h,_,_ | .map _,_,h,_,_=>by simp[AV.closed]at h
 |.agg cells,c,hc,hs,hr=>by
  simp only[ae]at hr|-;obtain⟨cs,e,g,d⟩:=hr;exact⟨cs,e,g,FE cells (by simpa only[AV.closed]using hc) (by simpa only[AV.dx]using hs) d⟩
 |.tuple cells,c,hc,hs,hr=>by
  simp only[ae]at hr|-;obtain⟨cs,e,d⟩:=hr;exact⟨cs,e,FE cells (by simpa only[AV.closed]using hc) (by simpa only[AV.dx]using hs) d⟩
 |.clo f cells,c,hc,hs,hr=>by
  simp only[ae]at hr|-;obtain⟨cs,e,d⟩:=hr;exact⟨cs,e,FE cells (by simpa only[AV.closed]using hc) (by simpa only[AV.dx]using hs) d⟩
theorem FE{E E':af}:∀(as:List AV) {d:List al},AV.ca as=true->AV.dM as=true->aq E as d->aq E' as d
 |[],[],_,_,_=>by simp[aq]
 |[],_::_,_,_,hr=>by simp[aq]at hr
 |_::_,[],_,_,hr=>by simp[aq]at hr
 |a::as,v::d,hc,hs,hr=>by
  simp only[AV.ca,AV.dM,aR]at hc hs;simp only[aq]at hr|-;exact⟨FD a hc.1 hs.1 hr.1,FE as hc.2 hs.2 hr.2⟩
end
theorem RL{E E':af}{b:Nat}(d:E'.w.heap[b]? = E.w.heap[b]?):∀(as:List AV) {o:Nat},AV.ca as=true->AV.dM as=true->dL E as b o->dL E' as b o
 |[],_,_,_,_=>by simp[dL]
 |a::as,o,hc,hs,hr=>by
  simp only[AV.ca,AV.dM,aR]at hc hs;simp only[dL]at hr|-;obtain⟨⟨v,g,q,A⟩,B⟩:=hr;exact⟨⟨v,by rw[World.xY d]; exact g,q,FD a hc.1 hs.1 A⟩,RL d as hc.2 hs.2 B⟩
theorem Le{E E':af}{b k:Nat}(d:E'.w.heap[b]? = E.w.heap[b]?):∀(rs:List (List AV)) {o:Nat},iC rs->(rs.all fun r=>AV.dM r)=true->er E k rs b o->er E' k rs b o
 |[],_,_,_,_=>by simp[er]
 |r::rs,o,hc,hs,hr=>by
  simp only[oZ,aR]at hs;simp only[er]at hr|-;exact⟨hr.1,RL d r (hc r dG) hs.1 hr.2.1,Le d rs (fun x g=>hc x (cO _ g)) hs.2 hr.2.2⟩
theorem Lf{E E':af}:∀{d:List (AV × AV × Nat)} {g:List MapEntry},(d.all fun x=>x.1.dx&&x.2.1.dx)=true->di E d g->di E' d g
 |[],[],_,_=>by simp[di]
 |(k,v,n)::d,e::g,hs,hr=>by
  simp only[oZ,aR]at hs;simp only[di]at hr|-;obtain⟨B,F,I,q,A,J⟩:=hr;exact⟨FD k q hs.1.1 B,FD v A hs.1.2 F,I,q,A,Lf hs.2 J⟩
 |[],_::_,_,hr=>by simp[di]at hr
 |_::_,[],_,hr=>by simp[di]at hr
theorem pG{E E':af}(h:E.cQ E'):∀{d:List (AV × AV × Nat)} {g:List MapEntry},di E d g->di E' d g
 |[],[],_=>by simp[di]
 |(k,v,n)::d,e::g,hr=>by
  simp only[di]at hr|-;obtain⟨B,F,I,q,A,J⟩:=hr;exact⟨fD h k q B,fD h v A F,I,q,A,pG h J⟩
 |[],_::_,hr=>by simp[di]at hr
 |_::_,[],hr=>by simp[di]at hr
theorem ac5{S:Bool}{E':af}(h:wa S e E E'){o:ay}(W:S=true->o.dx=true)(M:E'.ad[e.at j]? = E.ad[j]?) (I:∀ b n,E.ad[j]? = some (some (b,n))->E'.w.heap[b]? = E.w.heap[b]?)
  (hg:∀l,o.label=some l->E'.X.r l=E.X.r l/\∀(h g m:Nat),(E.X.r l)[h]?=some (some (some (g,m)))->E'.w.heap[g]?=E.w.heap[g]?)
  (O:bK E j o):bK E' (e.at j) (o.dQ e j):=by
 cases o with
 |dead=>simp only[ay.dQ,bK]at *; rw[M]; exact O
 |box cells=>
  simp only[ay.dQ,bK]at *;obtain⟨b,n,d,A,F⟩:=O;exact⟨b,n,by rw[M,d],by rw[RD]; exact x4 (I b n d) A,RJ h (I b n d) cells (fun e=>by simpa only[ay.dx]using W e) F⟩
 |vQ k ax rZ=>
  simp only[ay.dQ,bK]at *;rcases O with⟨d,A⟩|⟨b,m,d,A,F,N,J⟩
  ·exact .inl ⟨by rw[M,d],A⟩
  ·refine .inr ⟨b,m,by rw[M,d],x4 (I b m d) A,F,N,?_⟩
   cases S with
   |true=>exact Le (I b m d) rZ N (by simpa only[ay.dx]using W rfl) J
   |false=>exact pk h.cQ rZ N (I b m d) J
 |map es aL=>
  simp only[ay.dQ,bK]at *;obtain⟨b,n,ms,d,A,F⟩:=O;refine⟨b,n,ms,by rw[M,d],by rw[I b n d,A],?_⟩;cases S with
  |true=>exact Lf (by simpa only[ay.dx]using W rfl) F
  |false=>exact pG h.cQ F
 |iter s pos=>
  simp only[ay.dQ,bK]at *;obtain⟨b,n,d,A⟩:=O;exact⟨b,n,by rw[M,d],by rw[I b n d,A]⟩
 |dK l T B s=>
  simp only[ay.dQ,bK]at *;obtain⟨b,n,p,v,k,q,d,A,F,N,J,h6⟩:=O;obtain⟨Y,g2⟩:=hg l rfl;exact⟨b,n,p,v,k,q,by rw[M,d],by rw[I b n d,A],F,by rw[Y,N],by rw[Y]; exact J,Jy (fun g m e=>g2 k g m (by rw[N,e])) h6⟩
 |bI l k es aL=>
  simp only[ay.dQ,bK]at *;obtain⟨b,n,ms,d,A,F,N⟩:=O;obtain⟨Y,g2⟩:=hg l rfl;have hsol:S=true->∀x∈es,x.1.dx=true/\∀rZ,x.2.1=some rZ->(rZ.all fun r=>AV.dM r)=true:=fun e x U=>by
   have J:=eX.1 (by simpa only[ay.dx]using W e) x U;simp only[aR]at J;exact⟨J.1,fun rZ hr=>by rw[hr]at J; exact J.2⟩
  refine⟨b,n,ms,by rw[M,d],by rw[I b n d,A],?_,A1 (fun h g m hk=>⟨by rw[Y]; exact hk,g2 h g m hk⟩) (fun i x rZ hi U b hb2 hc hr=>?_) N⟩
  ·cases S with
   |true=>
    refine Lf (eX.2 fun x U=>?_) F;obtain⟨y,hy,rfl⟩:=cM.1 U;simp[(hsol rfl y hy).1,AV.dx]
   |false=>exact pG h.cQ F
  ·cases S with
   |true=>exact Le hb2 rZ hc ((hsol rfl x (jj hi)).2 rZ U) hr
   |false=>exact pk h.cQ rZ hc hb2 hr
def qD(e:cW)(H H1:List ay):List ay:=gE H e.aB (n_ e 0 H1)++(n_ e 0 H1).drop e.aB.length
theorem jV(h:j<e.aB.length):e.aB[j]?=some (e.at j):=by
 simp[cW.at,h]
theorem wg(h:e.aB.length<=j):e.at j=e.bg+(j-e.aB.length):=by
 simp[cW.at,List.getElem?_eq_none h]
theorem RM{H xs:List α}(hn:e.aB.Nodup)(d:∀ j,j<e.aB.length->e.at j<H.length)(A:e.bg=H.length)(q:e.aB.length<=xs.length)(j:Nat):
  (gE H e.aB xs++xs.drop e.aB.length)[e.at j]?=xs[j]?:=by
 rcases mh j e.aB.length with h|h
 ·rw[fB (by rw[we]; exact d j h)]
  have g:j<xs.length:=fK h q;rw[RF e.aB H xs j (e.at j) xs[j] hn (jV h) (bT g) (d j h),bT g]
 grind[wg,we]
theorem Lh{H d:List α}(hi:i∉e.aB)(g:i<H.length):(gE H e.aB d++d.drop e.aB.length)[i]?=H[i]?:=by
 rw[fB (by rw[we]; exact g),FA e.aB H d i hi]
theorem ud{H g:List α}{x:α}(B:e.bg=H.length)(h:(gE H e.aB g++g.drop e.aB.length)[i]? = some x):
  (i∉e.aB/\i<H.length/\H[i]?=some x)\/∃j,i=e.at j:=by
 by_cases hm:i∈e.aB
 ·right
  obtain⟨j,q,rfl⟩:=Ef hm;refine⟨j,?_⟩;have:=jV q;rw[bT q]at this;exact(th this)
 ·rcases mh i H.length with d | A
  ·left
   exact⟨hm,d,by rw[Lh hm d]at h; exact h⟩
  ·right
   refine⟨e.aB.length+(i-H.length),?_⟩;rw[wg ab];omega
theorem RN(S:Bool)(mE:List Nat){H0 H:List ay}{Ps:α->Prop}{Vf:α->AV}{Hf:α->List ay}(hc:iH P f args H0 fun v H'=>∃ p,Ps p/\v=Vf p/\H'=Hf p)(hk:e.aB.length=H0.length)(hb:e.bg=H.length)(hn:e.aB.Nodup)
  (hver:∀j o,H0[j]?=some o->∃o',H[e.at j]?=some o'/\∀v,o'.bt=some v↔∃u,o.bt=some u/\v=u+e.up j)
  (hobj:∀E E0,E.H=H->aO E->wb e mE E E0->E0.H=H0->∀j o,H0[j]?=some o->bK E0 j o) (hu1:∀p,Ps p->nj e 0 (Hf p)=true) (hl1:∀p,Ps p->H0.length<=(Hf p).length) (hlent:S=false->mE=[])
  (hSv:S=true->∀p,Ps p->(Vf p).dx=true) (hSo:S=true->∀p,Ps p->((Hf p).all ay.dx)=true) (hdis:∀i,i∈mE->i∉e.aB)
  (hlab:∀(j:Nat) o o',H0[j]?=some o->H[e.at j]?=some o'->o'.label=o.label) (hlab1:∀p,Ps p->∀(j:Nat) o l,(Hf p)[j]?=some o->o.label=some l->∃o0,H0[j]?=some o0/\o0.label=some l) {dR:List AV}
  (hargs0:∀E E0 cs,E.H=H->aO E->wb e mE E E0->E0.H=H0->aq E dR cs->aq E0 args cs) :
  iH P f dR H fun v H'=>∃p,Ps p/\v=(Vf p).dQ e/\H'=qD e H (Hf p):=by
 intro E cargs M HE hargs;have hElen:E.ad.length=H.length:=by rw[HE.len,M]
 have hat:∀j,j<e.aB.length->e.at j<H.length:=fun j F=>by
  have hj':j<H0.length:=ab;obtain⟨o',d,_⟩:=hver j H0[j] (bT hj');exact bA d
 have hmem:∀j,j<e.aB.length->e.at j∈e.aB:=fun j F=>jj (jV F)
 let pl:Nat->Prop:=fun l=>∃(j:Nat) (o:ay),H0[j]?=some o/\o.label=some l
 have:DecidablePred pl:=fun l=>Classical.propDecidable (pl l)
 let r0:Nat->List (Option (Option (Nat × Nat))):=fun l=>if pl l then E.X.r l else []
 have r0p:∀l,pl l->r0 l=E.X.r l:=fun l h=>iP h;have r0n:∀l (h:Nat) q,(r0 l)[h]?=some q->pl l/\(E.X.r l)[h]?=some q:=fun l h q hq=>by
  by_cases B:pl l
  ·rw[r0p l B]at hq; exact⟨B,hq⟩
  ·rw[show r0 l=[] from iN B]at hq; simp at hq
 let X0:XS:=⟨fun b=>E.X b\/(∃i c,i∉e.aB/\i∉mE/\E.ad[i]?=some (some (b,c)))\/∃(l h m:Nat),¬ pl l/\(E.X.r l)[h]?=some (some (some (b,m))),E.X.z,r0⟩
 let loc0:List (Option (Nat × Nat)):=e.aB.map fun i=>E.ad.getD i none
 let E0:af:={ w:=E.w,H:=H0,ad:=loc0,X:=X0 }
 have hloc0:∀j,j<e.aB.length->loc0[j]?=E.ad[e.at j]?:=fun j F=>by
  simp only[loc0,dw,jV F,jl];have:e.at j<E.ad.length:=by rw[hElen]; exact hat j F
  rw[dj,bT this];rfl
 have hlen0:loc0.length=e.aB.length:=by simp[loc0]
 have hpast:∀j ax,E.cf (e.at j) ax->j<e.aB.length:=by
  rintro j ax ⟨o,U,_⟩;rcases mh j e.aB.length with h|h
  ·exact h
  ·have:=bA U
   rw[M,wg h,hb]at this;omega
 have hobj0:∀j,j<e.aB.length->∃o o',H0[j]?=some o/\E.H[e.at j]?=some o'/\∀v,o'.bt=some v↔∃u,o.bt=some u/\v=u+e.up j:=fun j F=>by
  have hj':j<H0.length:=ab;obtain⟨o',d,A⟩:=hver j H0[j] (bT hj');exact⟨H0[j],o',bT hj',by rw[M]; exact d,A⟩
 have hown0:∀b,E0.bC b->E.bC b:=by
  rintro b (⟨id,c,hid⟩|⟨l,k,c,J⟩)
  case inr=>exact .inr ⟨l,k,c,(r0n l k _ J).2⟩
  have I:=bA hid;rw[show E0.ad=loc0 from rfl]at hid I;rw[hlen0]at I;rw[hloc0 id I]at hid;exact .inl ⟨_,c,hid⟩
 have hin:KeepIn e E E0:=by
  refine⟨fun b hbk=>⟨⟨hbk.1,fun U=>hbk.2.1 (hown0 b U),?_⟩,rfl⟩,rfl,hloc0,fun j o l d A=>r0p l ⟨j,o,d,A⟩⟩;rintro(N|⟨i,c,_,_,hi⟩|⟨l,k,c,_,J⟩)
  ·exact hbk.2.2 N
  ·exact hbk.2.1 (.inl ⟨i,c,hi⟩)
  ·exact hbk.2.1 (.inr ⟨l,k,c,J⟩)
 have hpin:∀j ax,E.cf (e.at j) (ax+e.up j)->E0.cf j ax:=fun j ax B=>by
  obtain⟨o,oo,d,A,h3⟩:=hobj0 j (hpast j _ B);obtain⟨o',h4,h5⟩:=B;rw[A]at h4;cases h4;refine⟨o,d,fun v hv=>?_⟩;have:=h5 (v+e.up j) ((h3 _).2 ⟨v,hv,rfl⟩);omega
 have hout0:∀i b n,i∉e.aB->E.ad[i]?=some (some (b,n))->¬ E0.bC b:=by
  rintro i b n hi hbn (⟨id,c',hid⟩|⟨l,k,c,J⟩)
  case inr=>exact HE.eY _ _ _ _ _ _ hbn (r0n l k _ J).2
  have I:=bA hid;rw[show E0.ad=loc0 from rfl]at hid I;rw[hlen0]at I;rw[hloc0 id I]at hid;have:=HE.inj _ _ _ _ _ hbn hid;exact hi (this▸hmem id I)
 have hlin:wb e mE E E0:=by
  refine⟨hin,fun i hi b n hbn=>⟨(HE.lt _ _ _ hbn).1,hout0 i b n (hdis i hi) hbn,?_⟩⟩;rintro(N|⟨W,c,_,A,hi'⟩|⟨l,k,c,_,J⟩)
  ·exact(HE.lt _ _ _ hbn).2 N
  ·have:=HE.inj _ _ _ _ _ hi' hbn
   exact A (this▸hi)
  ·exact HE.eY _ _ _ _ _ _ hbn J
 have HE0:aO E0:=by
  have conv:∀{j:Nat} {x:Option (Nat × Nat)},loc0[j]?=some x->j<e.aB.length/\E.ad[e.at j]?=some x:=by
   intro j x N;have I:=bA N;rw[hlen0]at I;exact⟨I,by rw[<-hloc0 j I]; exact N⟩
  refine⟨by rw[show E0.ad=loc0 from rfl,hlen0,hk],?_,?_,?_,?_,HE.iD.cQ hin.cQ,fun l k l' k' b m n d A=>HE.iE l k l' k' b m n (r0n l k _ d).2 (r0n l' k' _ A).2,fun i b m l k n hi A=>HE.eY _ b m l k n (conv hi).2 (r0n l k _ A).2,?_,?_,?_⟩
  ·intro i j b m n hi F
   obtain⟨O,i2⟩:=conv hi
   obtain⟨j1,j2⟩:=conv F
   have:=HE.inj _ _ _ _ _ i2 j2;exact(Pl O hn).1 (by rw[jV O,jV j1,this])
  ·intro i b m hi
   obtain⟨O,i2⟩:=conv hi
   refine⟨(HE.lt _ _ _ i2).1,?_⟩;rintro(N|⟨W,c,hni,_,hi'⟩|⟨l,k,c,_,J⟩)
   ·exact(HE.lt _ _ _ i2).2 N
   ·have:=HE.inj _ _ _ _ _ hi' i2
    exact hni (this▸hmem i O)
   ·exact HE.eY _ _ _ _ _ _ i2 J
  ·rintro b (N | ⟨W,c,_,_,hi'⟩ | ⟨l,k,c,_,J⟩)
   ·exact HE.X b N
   ·exact(HE.lt _ _ _ hi').1
   ·exact(HE.dP _ _ _ _ J).1
  ·intro j o U
   have F:j<e.aB.length:=by rw[hk]; exact bA U
   exact hobj E E0 M HE hlin rfl j o U
  ·intro l k b m d
   obtain⟨B,A⟩:=r0n l k _ d;refine⟨(HE.dP _ _ _ _ A).1,?_⟩;rintro(N|⟨W,c,_,_,hi'⟩|⟨l',k',c,hnp,J⟩)
   ·exact(HE.dP _ _ _ _ A).2 N
   ·exact HE.eY _ _ _ _ _ _ hi' A
   ·exact hnp ((HE.iE _ _ _ _ _ _ _ A J).1▸B)
  ·intro i j o o' l hi F d A
   have O:i<e.aB.length:=by rw[hk]; exact bA hi
   have j1:j<e.aB.length:=by rw[hk]; exact bA F
   obtain⟨_,oi,a1,a2,_⟩:=hobj0 i O;obtain⟨_,oj,b1,b2,_⟩:=hobj0 j j1;have ei:=hlab i o oi hi (by rw[<-M]; exact a2);have ej:=hlab j o' oj F (by rw[<-M]; exact b2);have:=HE.uniq _ _ _ _ l a2 b2 (by rw[ei,d]) (by rw[ej,A]);exact(Pl O hn).1 (by rw[jV O,jV j1,this])
  ·intro l hnl k q hq
   obtain⟨⟨j,o,d,A⟩,_⟩:=r0n l k _ hq;exact hnl j o d A
 refine(hc E0 cargs rfl HE0 (hargs0 E E0 _ M HE hlin rfl hargs)).mono ?_;rintro _ w' ⟨c,v',H',rfl,⟨p,B,hv',hH'⟩,loc1,r1,g1,g2,Y⟩;have hu1:nj e 0 H'=true:=by rw[hH']; exact hu1 p B
 have hl1:H0.length<=H'.length:=by rw[hH']; exact hl1 p B
 have hSv:S=true->v'.dx=true:=fun h=>by rw[hv']; exact hSv h p B
 have hSo:S=true->(H'.all ay.dx)=true:=fun h=>by rw[hH']; exact hSo h p B
 have hlab1:∀(j:Nat) o l,H'[j]?=some o->o.label=some l->∃o0,H0[j]?=some o0/\o0.label=some l:=by rw[hH']; exact hlab1 p B
 let r':Nat->List (Option (Option (Nat × Nat))):=fun l=>if pl l then r1 l else E.X.r l
 have rp:∀l,pl l->r' l=r1 l:=fun l h=>iP h;have rn:∀l,¬ pl l->r' l=E.X.r l:=fun l h=>iN h;have hl1':e.aB.length<=H'.length:=ab;have hlen1:loc1.length=H'.length:=g2.len;have bO:e.bg=E.ad.length:=by rw[hElen]; exact hb
 have hbE:e.bg=E.H.length:=by rw[M]; exact hb
 let loc':List (Option (Nat × Nat)):=gE E.ad e.aB loc1++loc1.drop e.aB.length
 let E1:af:={ w:=w',H:=H',ad:=loc1,X:=X0.re r1 }
 let E':af:={ w:=w',H:=qD e H H',ad:=loc',X:=E.X.re r' }
 have Hin:∀j,E'.H[e.at j]?=(H'[j]?).map (ay.dQ e j):=fun j=>by
  have:=RM (e:=e) (H:=H) (xs:=n_ e 0 H') hn hat hb (by rw[Ld]; exact hl1') j;rw[RG,fC]at this;exact this
 have ir:∀j,E'.ad[e.at j]?=loc1[j]?:=fun j=>
  RM (e:=e) (H:=E.ad) (xs:=loc1) hn (fun j F=>by rw[hElen]; exact hat j F) bO (by rw[hlen1]; exact hl1') j
 have Hout:∀i,i∉e.aB->i<H.length->E'.H[i]?=E.H[i]?:=fun i hi I=>by
  rw[M];exact Lh (e:=e) hi I
 have Lout:∀i,i∉e.aB->i<H.length->E'.ad[i]?=E.ad[i]?:=fun i hi I=>Lh (e:=e) hi (by rw[hElen]; exact I);have hu1':∀(j:Nat) (o:ay),H'[j]?=some o->o.FB e j=true:=fun j o U=>by
  have:=RH hu1 U
  rwa [fC]at this
 have own':∀b,E'.bC b->E1.bC b\/(∃i c,i∉e.aB/\E.ad[i]?=some (some (b,c)))\/∃(l h m:Nat),¬ pl l/\(E.X.r l)[h]?=some (some (some (b,m))):=by
  rintro b (⟨i,c,hi⟩|⟨l,k,c,J⟩)
  ·rcases ud (e:=e) bO hi with⟨d,_,h3⟩ | ⟨j,rfl⟩
   ·exact .inr (.inl ⟨i,c,d,h3⟩)
   ·rw[ir j]at hi
    exact .inl (.inl ⟨j,c,hi⟩)
  ·have J:(r' l)[k]?=some (some (some (b,c))):=J
   by_cases B:pl l
   ·rw[rp l B]at J
    exact .inl (.inr ⟨l,k,c,J⟩)
   ·rw[rn l B]at J
    exact .inr (.inr ⟨l,k,c,B,J⟩)
 have hout:wa S e E1 E':=by
  refine⟨fun hS b hbk=>⟨⟨hbk.1,fun U=>?_,fun N=>hbk.2.2 (Or.inl N)⟩,rfl⟩,fun j ax B=>?_,fun j ax B hl=>?_⟩
  ·rcases own' b U with h | ⟨i,c,d,A⟩ | h
   ·exact hbk.2.1 h
   ·exact hbk.2.2 (Or.inr (.inl ⟨i,c,d,by rw[hlent hS]; exact List.not_mem_nil,A⟩))
   ·exact hbk.2.2 (Or.inr (.inr h))
  ·obtain⟨o,d,A⟩:=B
   refine⟨o.dQ e j,by rw[Hin j,show H'[j]?=some o from d]; rfl,fun v hv=>?_⟩;obtain⟨u,q1,rfl⟩:=(FC (hu1' j o d) v).1 hv;have:=A u q1;omega
  ·obtain⟨o',d,A⟩:=hl
   rw[Hin j]at d;obtain⟨o,h3,rfl⟩:=jA.1 d;obtain⟨u,q1,q2⟩:=(FC (hu1' j o h3) _).1 A;have:u=ax:=ab;subst this;exact⟨⟨o,h3,q1⟩,ir j⟩
 have hle:E.le E':=by
  refine⟨fun i ax B=>?_,Y.size,fun b I U=>Y.same b I (fun h=>U (hown0 b h)),fun b I U h'=>?_,fun i ax B hl=>?_,⟨rfl,rfl⟩,fun l k J=>?_,Y.env⟩
  ·by_cases hi:i∈e.aB
   ·obtain⟨j,F,rfl⟩:=Ef hi
    have hat':e.aB[j]=e.at j:=by
     have:=jV F;rw[bT F]at this;exact th this
    rw[hat']at B|-;obtain⟨o0,oo,d,A,h3⟩:=hobj0 j F;obtain⟨o,h4,h5⟩:=B;rw[A]at h4;cases h4;have hj1:j<H'.length:=ab;refine⟨H'[j].dQ e j,by rw[Hin j,bT hj1]; rfl,fun v hv=>?_⟩;obtain⟨u,q1,rfl⟩:=(FC (hu1' j _ (bT hj1)) v).1 hv;cases hz:o0.bt with
    |none=>
     have p0:E0.cf j (u+1):=⟨o0,d,fun v hv=>by rw[hz]at hv; cases hv⟩
     obtain⟨o2,r1,r2⟩:=Y.cf j _ p0;rw[show E1.H=H' from rfl,bT hj1]at r1;cases r1;have:=r2 u q1;omega
    |some u0=>
     have p0:E0.cf j u0:=⟨o0,d,fun v hv=>by rw[hz]at hv; cases hv; exact bl _⟩
     obtain⟨o2,r1,r2⟩:=Y.cf j _ p0;rw[show E1.H=H' from rfl,bT hj1]at r1;cases r1;have:=r2 u q1;have:=h5 (u0+e.up j) ((h3 _).2 ⟨u0,hz,rfl⟩);omega
   ·obtain⟨o,d,A⟩:=B
    have I:=bA d;rw[M]at I;exact⟨o,by rw[Hout i hi I]; exact d,A⟩
  ·rcases own' b h' with h | ⟨i,c,_,A⟩ | ⟨l,k,c,_,A⟩
   ·exact Y.bC b I (fun h=>U (hown0 b h)) h
   ·exact U (.inl ⟨i,c,A⟩)
   ·exact U (.inr ⟨l,k,c,A⟩)
  ·have I:i<H.length:=by
    obtain⟨o,d,_⟩:=B;have:=bA d
    rwa [M]at this
   by_cases hi:i∈e.aB
   ·obtain⟨j,F,rfl⟩:=Ef hi
    have hat':e.aB[j]=e.at j:=by
     have:=jV F;rw[bT F]at this;exact th this
    rw[hat']at B hl|-;obtain⟨o',r1,r2⟩:=hl;rw[Hin j]at r1;obtain⟨o1,r3,rfl⟩:=jA.1 r1;obtain⟨u,q1,rfl⟩:=(FC (hu1' j o1 r3) _).1 r2;have p0:=hpin j u B;obtain⟨⟨o0,s1,s2⟩,s3⟩:=Y.live j u p0 ⟨o1,r3,q1⟩;obtain⟨o0',oo,d,A,h3⟩:=hobj0 j F;rw[show E0.H=H0 from rfl,d]at s1;cases s1;refine⟨⟨_,A,(h3 _).2 ⟨u,s2,rfl⟩⟩,?_⟩;rw[ir j,<-hloc0 j F];exact s3
   ·obtain⟨o',r1,r2⟩:=hl
    rw[Hout i hi I]at r1;exact⟨⟨o',r1,r2⟩,Lout i hi I⟩
  ·by_cases B:pl l
   ·have:=Y.rl l k (by show k<(r0 l).length; rw[r0p l B]; exact J)
    rw[show E0.X.r l=r0 l from rfl,r0p l B]at this;rw[show E'.X.r l=r' l from rfl,rp l B];exact this
   ·rw[show E'.X.r l=r' l from rfl,rn l B]
    exact⟨J,fun _ hq=>hq⟩
 have lab':∀(j:Nat) o l,H'[j]?=some o->o.label=some l->pl l:=fun j o l d A=>by
  obtain⟨o0,a1,a2⟩:=hlab1 j o l d A;exact⟨j,o0,a1,a2⟩
 have labIn:∀(j:Nat) o l,H0[j]?=some o->o.label=some l->∃o',E.H[e.at j]?=some o'/\o'.label=some l/\e.at j∈e.aB:=fun j o l d A=>by
  have j1:j<e.aB.length:=by rw[hk]; exact bA d
  obtain⟨_,oj,b1,b2,_⟩:=hobj0 j j1;exact⟨oj,b2,by rw[hlab j o oj d (by rw[<-M]; exact b2),A],hmem j j1⟩
 have labOut:∀(i:Nat) o l,i∉e.aB->E.H[i]?=some o->o.label=some l->¬ pl l:=fun i o l hi d A ⟨j,o0,a1,a2⟩=>by
  obtain⟨o',b1,b2,b3⟩:=labIn j o0 l a1 a2;have:=HE.uniq _ _ _ _ l d b1 A b2;exact hi (this▸b3)
 have satOut:∀(l k b m:Nat),¬ pl l->(E.X.r l)[k]?=some (some (some (b,m)))->¬ E0.bC b:=by
  rintro l k b m B d (⟨id,c',hid⟩|⟨l',k',c,J⟩)
  ·have I:=bA hid
   rw[show E0.ad=loc0 from rfl]at hid I;rw[hlen0]at I;rw[hloc0 id I]at hid;exact HE.eY _ _ _ _ _ _ hid d
  ·obtain⟨q1,q2⟩:=r0n l' k' _ J
   exact B ((HE.iE _ _ _ _ _ _ _ d q2).1▸q1)
 refine⟨c,v'.dQ e,qD e H H',rfl,⟨p,B,by rw[hv'],by rw[hH']⟩,loc',r',Lc hout v' hSv g1,?_,hle⟩;refine⟨?_,?_,?_,fun b N=>fK (HE.X b N) Y.size,?_,HE.iD.cQ hle.toC,?_,?_,?_,?_,?_⟩
 ·simp only[loc',qD,List.length_append,we,List.length_drop,Ld,hElen,hlen1]
 ·intro i j b m n hi F
  rcases ud (e:=e) bO hi with⟨O,_,i3⟩|⟨W,rfl⟩<;>rcases ud (e:=e) bO F with⟨j1,_,j3⟩|⟨j',rfl⟩
  ·exact HE.inj _ _ _ _ _ i3 j3
  ·rw[ir j']at F
   exact(Y.bC b (HE.lt _ _ _ i3).1 (hout0 i b m O i3) (.inl ⟨j',n,F⟩)).elim
  ·rw[ir W]at hi
   exact(Y.bC b (HE.lt _ _ _ j3).1 (hout0 j b n j1 j3) (.inl ⟨W,m,hi⟩)).elim
  ·rw[ir W]at hi
   rw[ir j']at F;rw[g2.inj _ _ _ _ _ hi F]
 ·intro i b m hi
  rcases ud (e:=e) bO hi with⟨O,_,i3⟩|⟨W,rfl⟩
  ·exact⟨fK (HE.lt _ _ _ i3).1 Y.size,(HE.lt _ _ _ i3).2⟩
  ·rw[ir W]at hi
   exact⟨(g2.lt _ _ _ hi).1,fun N=>(g2.lt _ _ _ hi).2 (Or.inl N)⟩
 ·intro i o hi
  have hi':=hi;unfold qD at hi';rcases ud (e:=e) hb hi' with⟨O,i2,i3⟩|⟨j,rfl⟩
  ·refine po (E:=E) (fun a _ hr=>dW hle a hr) (Lout i O i2) (fun b n hbn=>?_) (fun l hl=>?_) (HE.obj i o (by rw[M]; exact i3))
   ·exact Y.same b (HE.lt _ _ _ hbn).1 (hout0 i b n O hbn)
   ·have B:=labOut i o l O (by rw[M]; exact i3) hl
    exact⟨rn l B,fun k g m d=>Y.same g (HE.dP _ _ _ _ d).1 (satOut l k g m B d)⟩
  ·have d:=Hin j
   rw[show E'.H=qD e H H' from rfl,hi]at d;obtain⟨o1,A,rfl⟩:=jA.1 d.symm;exact ac5 hout (fun e=>eX.1 (hSo e) o1 (jj A)) (ir j) (fun _ _ _=>rfl) (fun l hl=>⟨rp l (lab' j o1 l A hl),fun _ _ _ _=>rfl⟩) (g2.obj j o1 A)
 ·intro l k l' k' b m n d A
  have d:(r' l)[k]?=some (some (some (b,m))):=d;have A:(r' l')[k']?=some (some (some (b,n))):=A;by_cases B:pl l<;>by_cases hp':pl l'
  ·rw[rp l B]at d
   rw[rp l' hp']at A;exact g2.iE l k l' k' b m n d A
  ·rw[rp l B]at d
   rw[rn l' hp']at A;exact((g2.dP l k b m d).2 (.inr (.inr ⟨l',k',n,hp',A⟩))).elim
  ·rw[rn l B]at d
   rw[rp l' hp']at A;exact((g2.dP l' k' b n A).2 (.inr (.inr ⟨l,k,m,B,d⟩))).elim
  ·rw[rn l B]at d
   rw[rn l' hp']at A;exact HE.iE l k l' k' b m n d A
 ·intro i b m l k n hi d
  have d:(r' l)[k]?=some (some (some (b,n))):=d;rcases ud (e:=e) bO hi with⟨O,_,i3⟩|⟨W,rfl⟩
  ·by_cases B:pl l
   ·rw[rp l B]at d
    exact Y.bC b (HE.lt _ _ _ i3).1 (hout0 i b m O i3) (.inr ⟨l,k,n,d⟩)
   ·rw[rn l B]at d
    exact HE.eY _ _ _ _ _ _ i3 d
  ·rw[ir W]at hi
   by_cases B:pl l
   ·rw[rp l B]at d
    exact g2.eY _ _ _ _ _ _ hi d
   ·rw[rn l B]at d
    exact(g2.lt _ _ _ hi).2 (.inr (.inr ⟨l,k,n,B,d⟩))
 ·intro l k b m d
  have d:(r' l)[k]?=some (some (some (b,m))):=d;by_cases B:pl l
  ·rw[rp l B]at d
   exact⟨(g2.dP _ _ _ _ d).1,fun N=>(g2.dP _ _ _ _ d).2 (.inl N)⟩
  ·rw[rn l B]at d
   exact⟨fK (HE.dP _ _ _ _ d).1 Y.size,(HE.dP _ _ _ _ d).2⟩
 ·have inn:∀ (j:Nat) o,E'.H[e.at j]?=some o->∃o1,H'[j]?=some o1/\o.label=o1.label:=fun j o h=>by
   rw[Hin j]at h;obtain⟨o1,A,rfl⟩:=jA.1 h;exact⟨o1,A,RI e j o1⟩
  intro i j o o' l hi F d A;have hi':=hi;have hj':=F;unfold qD at hi' hj';rcases ud (e:=e) hb hi' with⟨O,i2,i3⟩|⟨W,rfl⟩<;>rcases ud (e:=e) hb hj' with⟨j1,j2,j3⟩|⟨j',rfl⟩
  ·exact HE.uniq i j o o' l (by rw[M]; exact i3) (by rw[M]; exact j3) d A
  ·obtain⟨o1,a1,a2⟩:=inn j' o' F
   exact(labOut i o l O (by rw[M]; exact i3) d (lab' j' o1 l a1 (by rw[<-a2,A]))).elim
  ·obtain⟨o1,a1,a2⟩:=inn W o hi
   exact(labOut j o' l j1 (by rw[M]; exact j3) A (lab' W o1 l a1 (by rw[<-a2,d]))).elim
  ·obtain⟨o1,a1,a2⟩:=inn W o hi
   obtain⟨o2,b1,b2⟩:=inn j' o' F;rw[g2.uniq W j' o1 o2 l a1 b1 (by rw[<-a2,d]) (by rw[<-b2,A])]
 ·intro l hnl k q hq
  have hq:(r' l)[k]?=some (some q):=hq;by_cases B:pl l
  ·rw[rp l B]at hq
   refine g2.kM l (fun j o d A=>?_) k q hq;refine hnl (e.at j) (o.dQ e j) ?_ (by rw[RI,A]);rw[Hin j,show H'[j]?=some o from d];rfl
  ·rw[rn l B]at hq
   refine HE.kM l (fun i o d A=>?_) k q hq;have I:=bA d;rw[M]at I;by_cases hi:i∈e.aB
   ·obtain⟨j,F,rfl⟩:=Ef hi
    have hat':e.aB[j]=e.at j:=by
     have:=jV F;rw[bT F]at this;exact th this
    rw[hat']at d;obtain⟨o0,oo,a1,a2,_⟩:=hobj0 j F;rw[d]at a2;cases a2;exact B ⟨j,o0,a1,by rw[<-hlab j o0 o a1 (by rw[<-M]; exact d),A]⟩
   ·exact hnl i o (by rw[Hout i hi I]; exact d) A
theorem frame(S:Bool)(mE:List Nat){H0 H1 H:List ay}(hc:e_ P f args H0 v H1)(O:e.aB.length=H0.length)(U:e.bg=H.length)(hn:e.aB.Nodup)
  (A:∀j o,H0[j]?=some o->∃o',H[e.at j]?=some o'/\∀v,o'.bt=some v↔∃u,o.bt=some u/\v=u+e.up j)
  (B:∀E E0,E.H=H->aO E->wb e mE E E0->E0.H=H0->∀j o,H0[j]?=some o->bK E0 j o) (I:nj e 0 H1=true) (J:H0.length<=H1.length) (g:S=false->mE=[])
  (M:S=true->v.dx=true) (N:S=true->(H1.all ay.dx)=true) (F:∀i,i∈mE->i∉e.aB)
  (hlab:∀(j:Nat) o o',H0[j]?=some o->H[e.at j]?=some o'->o'.label=o.label) (q:∀(j:Nat) o l,H1[j]?=some o->o.label=some l->∃o0,H0[j]?=some o0/\o0.label=some l) {dR:List AV}
  (d:∀E E0 cs,E.H=H->aO E->wb e mE E E0->E0.H=H0->aq E dR cs->aq E0 args cs) :
  e_ P f dR H (v.dQ e) (qD e H H1):=
 iH.mono (RN (α:=Unit) (Ps:=fun _=>True) (Vf:=fun _=>v) (Hf:=fun _=>H1) S mE (iH.mono hc fun W H' h=>⟨(),trivial,h.1,h.2⟩) O U hn A B (fun _ _=>I) (fun _ _=>J) g (fun h _ _=>M h) (fun h _ _=>N h) F hlab (fun _ _=>q) d) fun W H' ⟨_,_,Y,h2⟩=>⟨Y,h2⟩
end Go.AL
