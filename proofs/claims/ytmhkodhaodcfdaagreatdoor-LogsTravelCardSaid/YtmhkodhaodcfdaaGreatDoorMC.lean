/-
 What is proved here: owned objects of data,and what operations do to them,with what must hold so that they do it. No program in sight; no condition.
-/
import Derived.Test.YtmhkodhaodcfdaaGreatDoorMB
import Derived.Eval
import Derived.KernelRfl
set_option linter.all false
open Bool renaming and_true->gu,and_eq_true->aE,false_eq_true->me,not_true->AS,not_eq_true'->qK,or_eq_true->nu,eq_iff_iff->fP,and_false->J6
open ByteArray renaming empty->uy
open Decidable renaming byContradiction->sC
open Function renaming comp->aj5
open Go renaming Value->ak,FuncId->bC,TypeId->aD,Program->ai,Operand->bX,Oper->aQ
open Go.Call renaming operands->uI
open Go.Op renaming operands->eV
open Go.Utf8 renaming decode->qH
open Go.Value.slice renaming injEq->lv
open List renaming length_cons->bW,getElem?_append_left->dr,length_map->fJ,mem_map->gG,getElem?_map->cX,getElem_of_mem->uz,getElem?_eq_getElem->cn,mem_of_getElem?->eC,getElem?_append_right->jz,getElem?_set_ne->bc,getElem?_set->eU,all_eq_true->cq,getD_eq_getElem?_getD->eh,getElem?_drop->sA,mem_cons->cf,map_cons->eM,take_append_drop->ng,ext_getElem?->ou,length_set->jd,length_append->dG,mem_append->cN,replicate->dz,mem_cons_self->cZ,mem_cons_of_mem->c8,all_cons->jA,getElem?_modify->hY,take_of_length_le->xm,map_append->qJ,findIdx?_cons->J2,nodup_cons->uF,getElem?_inj->E8,map_set->sD,headD_cons->ow,length_nil->kf,map_nil->pA,length->Fb,mem_filter->A6,mem_flatMap->Ff
open Nat renaming le_refl->aY,lt_of_lt_of_le->eF,zero_le->fO,lt_or_ge->kJ,zero_add->eo,sub_zero->ff,add_zero->np,beq->aH,eq_of_beq_eq_true->bA,sub_self->pt,ble->bf,blt->cR,ble_eq->cu,blt_eq->dH,beq_refl->A4,lt_succ_self->Te,le_of_ble_eq_true->qL,mul_one->J7,beq_eq->Fc,lt_succ_of_lt->A7,lt_irrefl->J9
open Option renaming map_eq_some_iff->eG,isSome_none->EX,map_some->fk,map_none->uJ,isSome_some->Fa,map_map->aj4
open Option.some renaming injEq->a_,inj->iA
open Prod.mk renaming injEq->bk
namespace Go.AL
open Go
abbrev Kd.I:Kd:=.int .i64
abbrev BY:=ByteArray
abbrev LG:=List G
abbrev LL:=List LG
variable [Dr]
def cA:Int->Bool
 |.ofNat _=>true
 |.negSucc _=>false
def aR:Int->Int->Bool
 |.ofNat x,.ofNat y=>bf x y
 |.ofNat _,.negSucc _=>false
 |.negSucc _,.ofNat _=>true
 |.negSucc x,.negSucc y=>bf y x
def aK:Int->Int->Bool
 |.ofNat x,.ofNat y=>cR x y
 |.ofNat _,.negSucc _=>false
 |.negSucc _,.ofNat _=>true
 |.negSucc x,.negSucc y=>cR y x
def aF(n:Int):Bool:=aR (-9223372036854775808) n&&aR n 9223372036854775807
def dY(n:Int):cA n=decide (0<=n):=by
 cases n with
 |ofNat x=>simp[cA]
 |negSucc x=>simp[cA]
def bz(a b:Int):aR a b=decide (a<=b):=by
 rw[fP];cases a<;>cases b<;>simp[aR,cu]<;>(try omega)
def be(a b:Int):aK a b=decide (a<b):=by
 rw[fP];cases a<;>cases b<;>simp[aK,dH]<;>(try omega)
def cK{n:Int}:aF n=true ↔ -9223372036854775808<=n/\n<=9223372036854775807:=by
 simp[aF,bz]
def g0(r:LG):G:=r.headD default
def gi:LG->Nat->G
 |r,0=>r.headD default
 |r,i+1=>gi r.tail i
def G.rV(g:G):LG:=g.rZ.headD []
def L5:Kd->G->G->Bool
 |.int _,a,b=>a.iV==b.iV
 |.str,a,b=>a.sV.toList==b.sV.toList
 |.bool,a,b=>a.bV==b.bV
 |.list _,_,_=>false
def kz:List Kd->LG->LG->Bool
 | [],_,_=>true
 |k::ks,r,s=>L5 k (r.headD default) (s.headD default)&&kz ks r.tail s.tail
inductive Ct where
 |one (k:Kd)
 |agg (ks:List Kd)
 deriving Inhabited
def Ct.ks:Ct->List Kd
 |.one k=>[k]
 |.agg ks=>ks
def Ct.av:Ct->LG->AV
 |.one k,r=>lD k (r.headD default)
 |.agg ks,r=>.agg (a8 ks r)
def Ct.td(k:Ct)(r:LG):(k.av r).closed=true:=by
 cases k with
 |one k=>cases k<;>rfl
 |agg ks=>simp only[Ct.av,AV.closed,gI]
inductive au where
 |raw (o:ah)
 |vQ (ks:List Kd) (al:Nat) (rZ:LL)
 |map (K V:Ct) (rZ:LL) (clock:Nat)
 |br (l:Nat) (K:Ct) (ks:List Kd) (rZ:LL) (clock:Nat)
 |mm (l:Nat) (K KI VI:Ct) (rZ mem:LL) (clock:Nat)
 |cM (l:Nat) (ks:List Kd) (n:Nat) (ms:LL)
 |bM (l:Nat) (K:Ct) (ks:List Kd) (rZ:LL) (clock:Nat)
def ep(K V:Ct)(rZ:LL):List (AV × AV × Nat):=rZ.map fun r=>(K.av (gi r 0).rV,V.av (gi r 1).rV,(gi r 2).iV.toNat)
def jU(r:LG):LL:=((gi r 1).rV.headD default).rZ
def jl(K:Ct)(ks:List Kd)(r:LG):AV × Option (List (List AV)) × Nat:=((bif (gi r 4).bV && !(gi r 3).bV then .tuple [K.av (gi r 0).rV,.listF ks (jU r)] else K.av (gi r 0).rV),(bif (gi r 3).bV then some ((jU r).map (a8 ks)) else none),(gi r 2).iV.toNat)
def gg(K:Ct)(ks:List Kd)(rZ:LL):List (AV × Option (List (List AV)) × Nat):=rZ.map (jl K ks)
def x4(m:LG):LL:=(g0 m).rZ
def q9(a:LL)(j:Nat):LL:=x4 (a.getD j [])
def lN(r:LG)(s:Nat):LL:=(gi (gi r 1).rV s).rZ
def nP(K:Ct)(ks:List Kd)(r:LG):AV × (Option (List (List AV)) × Option (List (List AV))) × Nat :=
 (K.av (gi r 0).rV,(bif (gi r 3).bV then (some ((lN r 0).map (a8 ks)),some ((lN r 1).map (a8 ks))) else (none,none)),(gi r 2).iV.toNat)
def kT(K:Ct)(ks:List Kd)(rZ:LL):List (AV × (Option (List (List AV)) × Option (List (List AV))) × Nat):=rZ.map (nP K ks)
def te(r:LG):Option Nat:=bif aR 0 (gi r 1).iV then some (gi r 1).iV.toNat else none
def jV(K:Ct)(rZ:LL):List (AV × Option Nat × Nat):=rZ.map fun r=>(K.av (gi r 0).rV,te r,(gi r 2).iV.toNat)
def q_(a b:Ct)(mem:LL):List (List (AV × AV × Nat) × Nat):=mem.map fun m=>(ep a b (gi m 0).rZ,(gi m 1).iV.toNat)
def au.aw:au->ah
 |.raw o=>o
 |.br l K ks rZ a=>.br l ks.length (gg K ks rZ) a
 |.map K V rZ a=>.map (ep K V rZ) a
 |.mm l K b d rZ mem a=>.mm l (jV K rZ) (q_ b d mem) a
 |.cM l ks n g=>.cM l ks.length n (g.map fun m=>(x4 m).map (a8 ks))
 |.bM l K ks rZ a=>.bM l ks.length (kT K ks rZ) a
 |.vQ ks al rZ=>.vQ ks.length al (rZ.map (a8 ks))
def ax(H:List au):List ah:=H.map au.aw
structure aI where
 fr:List AV
 H:List au
def aI.aw(s:aI):St:=⟨s.fr,ax s.H⟩
def aI.eval(s:aI)(o:bX):AV:=St.eval ⟨s.fr,[]⟩ o
def aI.put(s:aI)(dst:Option Tmp)(v:AV)(H':List au):aI:=⟨kS s.fr dst v,H'⟩
def aI.pU(s:aI):s.aw.eval=s.eval:=by
 funext o
 cases o<;>rfl
def bx{H:List au}{id:Nat}{o:au}(h:H[id]? = some o):(ax H)[id]? = some o.aw:=by simp[ax,h]
def cP(H:List au)(id:Nat)(o:au):ax (H.set id o)=(ax H).set id o.aw:=by simp[ax,sD]
def jm(H:List au)(o:au):ax (H++[o])=ax H++[o.aw]:=by simp[ax]
def fj(H:List au):(ax H).length=H.length:=by simp[ax]
mutual
def Kd.same:Kd->Kd->Bool
 |.int k,.int b=>decide (k=b)
 |.str,.str=>true
 |.bool,.bool=>true
 |.list ks,.list a=>Kd.ib ks a
 |_,_=>false
def Kd.ib:List Kd->List Kd->Bool
 | [],[]=>true
 |k::ks,b::a=>k.same b&&Kd.ib ks a
 |_,_=>false
end
mutual
def Kd.kU:∀{k a:Kd},k.same a=true->k=a
 |.int k,.int a,h=>by simp[Kd.same]at h; rw[h]
 |.str,.str,_=>rfl
 |.bool,.bool,_=>rfl
 |.list ks,.list b,h=>by simp only[Kd.same]at h; rw[Kd.jn h]
 |.int _,.str,h | .int _,.bool,h | .int _,.list _,h | .str,.int _,h | .str,.bool,h | .str,.list _,h=>by simp[Kd.same]at h
 |.bool,.int _,h | .bool,.str,h | .bool,.list _,h | .list _,.int _,h | .list _,.str,h | .list _,.bool,h=>by simp[Kd.same]at h
def Kd.jn:∀{k a:List Kd},Kd.ib k a=true->k=a
 | [],[],_=>rfl
 |k::ks,a::b,h=>by simp only[Kd.ib,aE]at h; rw[Kd.kU h.1,Kd.jn h.2]
 | [],_::_,h|_::_,[],h=>by simp[Kd.ib]at h
end
def Ct.same:Ct->Ct->Bool
 |.one k,.one b=>k.same b
 |.agg ks,.agg a=>Kd.ib ks a
 |_,_=>false
def Ct.kU{K a:Ct}(h:K.same a=true):K=a:=by
 cases K<;>cases a<;>simp only[Ct.same]at h
 ·rw[Kd.kU h]
 ·cases h
 ·cases h
 ·rw[Kd.jn h]
def x5:Kd->AV->Option G
 |.int k,.lit (.int d n)=>if k=d then some (.i n) else none
 |.str,.lit (.string s)=>some (.s s)
 |.bool,.lit (.bool b)=>some (.t b)
 |.list ks,.listF a rZ=>if Kd.ib ks a then some (.l rZ) else none
 |_,_=>none
def ic:List Kd->List AV->Option LG
 | [],[]=>some []
 | k::ks,a::as=>match x5 k a,ic ks as with
  |some g,some b=>some (g::b)
  |_,_=>none
 |_,_=>none
def oI(ks:List Kd):List (List AV)->Option LL
 | []=>some []
 | r::rs=>match ic ks r,oI ks rs with
  |some g,some a=>some (g::a)
  |_,_=>none
def GD{k:Kd}{a:AV}{g:G}(h:x5 k a=some g):lD k g=a:=by
 unfold x5 at h;split at h
 ·split at h
  ·rename_i e; cases h; subst e; rfl
  ·cases h
 ·cases h; rfl
 ·cases h; rfl
 ·split at h
  ·rename_i e; cases h; rw[Kd.jn e]; rfl
  ·cases h
 ·cases h
def lO:∀{ks:List Kd} {as:List AV} {b:LG},ic ks as=some b->a8 ks b=as
 | [],[],_,h=>by simp[ic]at h; subst h; rfl
 | k::ks,a::as,b,h=>by
  simp only[ic]at h;split at h
  ·rename_i g t d q
   cases h;simp[a8,GD d,lO q]
  ·cases h
 | [],_::_,_,h|_::_,[],_,h=>by simp[ic]at h
def L6:∀{ks:List Kd} {as:List AV} {b:LG},ic ks as=some b->b.length=ks.length/\as.length=ks.length
 | [],[],_,h=>by simp[ic]at h; subst h; exact⟨rfl,rfl⟩
 | k::ks,a::as,b,h=>by
  simp only[ic]at h;split at h
  ·rename_i g q t d
   cases h;have:=L6 d;simp[this.1,this.2]
  ·cases h
 | [],_::_,_,h|_::_,[],_,h=>by simp[ic]at h
def tf{ks:List Kd}:∀{rs:List (List AV)} {a:LL},oI ks rs=some a->a.map (a8 ks)=rs
 | [],_,h=>by simp[oI]at h; subst h; rfl
 | r::rs,a,h=>by
  simp only[oI]at h;split at h
  ·rename_i g k b d
   cases h;simp[lO b,tf d]
  ·cases h
def x6:AV->Option Kd
 |.lit (.int k _)=>some (.int k)
 |.lit (.string _)=>some .str
 |.lit (.bool _)=>some .bool
 |.listF ks _=>some (.list ks)
 |_=>none
def ra:List AV->Option (List Kd)
 | []=>some []
 | a::as=>match x6 a,ra as with
  |some k,some ks=>some (k::ks)
  |_,_=>none
def tg:List Kd->LG->LG
 | [],_=>[]
 |_::ks,r=>r.headD default::tg ks r.tail
def GF:∀(ks:List Kd) (r:LG),(tg ks r).length=ks.length
 | [],_=>rfl
 |_::ks,r=>by simp[tg,GF ks]
def fN(ks:List Kd)(r:LG)(a:Nat)(b:LG):LG:=(tg ks r).take a++b++(tg ks r).drop (a+b.length)
def L7:∀(ks:List Kd) (r:LG) (n:Nat),(a8 ks r).take n=a8 (ks.take n) r
 | [],_,n=>by simp[a8]
 |_::_,_,0=>by simp[a8]
 |k::ks,r,n+1=>by simp[a8,L7 ks]
def L8:∀(ks:List Kd) (r:LG) (n:Nat),(a8 ks r).drop n=a8 (ks.drop n) (r.drop n)
 | [],_,n=>by simp[a8]
 |_::_,_,0=>by simp
 |k::ks,r,n+1=>by simp[a8,L8 ks]
def GG:∀(ks a:List Kd) (r b:LG),r.length=ks.length->a8 (ks++a) (r++b)=a8 ks r++a8 a b
 | [],a,r,b,h=>by
  have:r=[]:=List.length_eq_zero_iff.1 h;subst this;simp[a8]
 | k::ks,a,r,b,h=>by
  cases r with
  |nil=>simp at h
  |cons x r=>simp[a8,GG ks a r b (by simpa using h)]
def GH:∀(ks:List Kd) (r:LG),a8 ks (tg ks r)=a8 ks r
 | [],_=>rfl
 |k::ks,r=>by simp[a8,tg,GH ks]
def L9{ks:List Kd}{r g:LG}{a:List AV}{b:Nat} (h:ic ((ks.drop b).take a.length) a=some g) (y:b+a.length<=ks.length) :
  a8 ks (fN ks r b g)=putCells (a8 ks r) a b:=by
 obtain⟨z,A⟩:=L6 h;have w:((ks.drop b).take a.length).length=a.length:=by simp; omega
 have q:g.length=a.length:=by omega
 have t:ks=(ks.take b++(ks.drop b).take a.length)++ks.drop (b+a.length):=by
  rw[List.append_assoc,<-List.drop_drop,ng,ng]
 unfold fN putCells;have d:=GF ks r
 conv=>lhs; arg 1; rw[t]
 rw[GG _ _ _ _ (by simp[d,q]; omega),GG _ _ _ _ (by simp[d]),lO h,q];congr 1
 ·congr 1
  rw[<-GH ks r,L7];have:∀(ks:List Kd) (r:LG) (n:Nat),ks.length<=n->a8 ks (r.take n)=a8 ks r:=by
   intro ks
   induction ks with
   |nil=>intros; rfl
   | cons k ks v =>
    intro r n d;cases n with
    |zero=>simp at d
    | succ n =>
     cases r with
     |nil=>rfl
     |cons x r=>simp[a8,v r n (by simpa using d)]
  exact this _ _ _ (by simp; omega)
 ·conv => rhs; rw [<- GH ks r]
  rw[L8]
end Go.AL

namespace Go.AL
open Go
variable [Dr]
def x7{ks:List Kd}{rZ:LL}{row:Nat}(h:row<rZ.length):(rZ.map (a8 ks))[row]? = some (a8 ks (rZ.getD row [])):=by
 rw[cX,eh,cn h];rfl
def jW:List AV->Option (List Int)
 | []=>some []
 | .lit (.int .i64 n)::l=>match jW l with
  |some q=>some (n::q)
  |none=>none
 |_=>none
def GI:∀{cells:List AV} {l:List Int},jW cells=some l->∀ i,i<l.length->cells[i]? = some (.lit (.int .i64 (l.getD i 0)))
 | [],l,h,i,hi=>by
  simp only[jW,a_]at h;subst h;simp at hi
 | c::cells,l,h,i,hi=>by
  unfold jW at h;split at h
  ·rename_i he
   cases he
  ·rename_i n l' he
   cases he;split at h
   ·rename_i q a
    cases h;cases i with
    |zero=>rfl
    | succ i =>
     simp only[bW]at hi;have:=GI a i (by omega);simpa using this
   ·cases h
  ·cases h
def L_:∀{cells:List AV} {l:List Int},jW cells=some l->cells.length=l.length
 | [],l,h=>by
  simp only[jW,a_]at h;subst h;rfl
 | c::cells,l,h=>by
  unfold jW at h;split at h
  ·rename_i he
   cases he
  ·rename_i n l' he
   cases he;split at h
   ·rename_i q a
    cases h;simp[L_ a]
   ·cases h
  ·cases h
def th(v:Int)(a:Nat):Nat->List Int->List AV
 |_,[]=>[]
 |k,n::l=>.lit (.int .i64 (bif aH a k then v else n))::th v a (k+1) l
def Ma{v:Int}{a:Nat}:∀{cells:List AV} {l:List Int} {k:Nat},jW cells=some l->a<k->th v a k l=cells
 | [],l,k,h,_=>by
  simp only[jW,a_]at h;subst h;rfl
 | c::cells,l,k,h,g=>by
  unfold jW at h;split at h
  ·rename_i he
   cases he
  ·rename_i n l' he
   cases he;split at h
   ·rename_i q d
    cases h;have b:aH a k=false:=by
     cases b:aH a k with
     |false=>rfl
     |true=>have:=bA b; omega
    simp only[th,b,cF,Ma d (show a<k+1 by omega)]
   ·cases h
  ·cases h
def Mb{v:Int}:∀{cells:List AV} {l:List Int} {k a:Nat},jW cells=some l->a<l.length->th v (k+a) k l=putCells cells [.lit (.int .i64 v)] a
 | [],l,k,a,h,b=>by
  simp only[jW,a_]at h;subst h;simp at b
 | c::cells,l,k,a,h,b=>by
  unfold jW at h;split at h
  ·rename_i he
   cases he
  ·rename_i n l' he
   cases he;split at h
   ·rename_i q g
    cases h;cases a with
    | zero =>
     simp only[th,np,A4,cT,Ma g (Te k)];rfl
    | succ a =>
     have d:aH (k+(a+1)) k=false:=by
      cases d:aH (k+(a+1)) k with
      |false=>rfl
      |true=>have:=bA d; omega
     have t:=Mb (v:=v) (k:=k+1) g (show a<q.length by simp only[bW]at b; omega);rw[show k+1+a=k+(a+1) by omega]at t;simp only[th,d,cF,t];rfl
   ·cases h
  ·cases h
def GJ(P:ai)(t:aD)(x:AV)(H:List au):Option (Bool × AV) :=
 match x with
 | .ptr id al w row a=>match H[id]? with
  | some (.vQ ks v rZ)=>match eI P t with
   | some (n,agg)=>if al=v/\ks.length=w then (match iQ agg n ((a8 ks (rZ.getD row [])).drop a) with
     |some u=>some (decide (row<rZ.length),u)
     |none=>none) else none
   |none=>none
  | some (.raw (.box cells))=>match eI P t with
   | some (n,agg)=>if al=0/\row=0 then (match agg,jW cells with
     |false,some l=>some (cR a l.length,.lit (.int .i64 (l.getD a 0)))
     |_,_=>match iQ agg n (cells.drop a)with
     |some u=>some (true,u)
     |none=>none) else none
   |none=>none
  | some (.cM l _ _ b)=>match eI P t with
   | some (n,agg)=>if al=0/\w=1/\a=0 then (match iQ agg n [.svec id l row (q9 b row).length] with
     |some u=>some (cR row b.length,u)
     |none=>none) else none
   |none=>none
  |_=>none
 | .sptr id l j w row a=>match H[id]? with
  | some (.cM l' ks _ b)=>match eI P t with
   | some (n,agg)=>if l=l'/\ks.length=w then (match iQ agg n ((a8 ks ((q9 b j).getD row [])).drop a) with
     |some u=>some (cR j b.length&&cR row (q9 b j).length,u)
     |none=>none) else none
   |none=>none
  |_=>none
 | .cptr cells=>match eI P t with
  | some (n,agg)=>match iQ agg n cells with
   |some u=>some (true,u)
   |none=>none
  |none=>none
 |_=>none
def GK{ks:List Kd}{a:LL}{j:Nat}(h:j<a.length):(a.map fun m=>(x4 m).map (a8 ks))[j]? = some ((q9 a j).map (a8 ks)):=by
 unfold q9;rw[cX,eh,cn h];rfl
def VE{P:ai}{t:aD}{x:AV}{H:List au}{b:Bool}{u:AV}(h:GJ P t x H=some (b,u))(y:b=true):kP P t x (ax H)=some u:=by
 unfold GJ at h;unfold kP;split at h
 ·rename_i id al w row A
  split at h
  ·rename_i ks v rZ q
   split at h
   case h_2=>cases h
   rename_i n agg d;split at h
   case isFalse=>cases h
   rename_i k;split at h
   case h_2=>cases h
   rename_i z g;simp only[a_,bk]at h;obtain⟨a,rfl⟩:=h;subst y;simp only[dT]at a;rw[d];simp only[bx q,au.aw];rw[iP ⟨k.1,k.2⟩,x7 a];exact g
  ·rename_i cells q
   split at h
   case h_2=>cases h
   rename_i n agg d;split at h
   case isFalse=>cases h
   rename_i k;rw[d];simp only[bx q,au.aw];rw[iP k];split at h
   ·rename_i l B
    simp only[a_,bk]at h;obtain⟨a,rfl⟩:=h;subst y;rw[dH]at a;simp only[iQ,me,if_false,sA,np];exact GI B A a
   ·split at h
    case h_2=>cases h
    rename_i z g;cases h;exact g
  ·rename_i l ks F I q
   split at h
   case h_2=>cases h
   rename_i n agg d;split at h
   case isFalse=>cases h
   rename_i k;split at h
   case h_2=>cases h
   rename_i z g;simp only[a_,bk]at h;obtain⟨a,rfl⟩:=h;subst y;rw[dH]at a;rw[d];simp only[bx q,au.aw];rw[iP k,GK a];simp only[fJ];exact g
  ·cases h
 ·rename_i id l j w row A
  split at h
  ·rename_i l' ks F I q
   split at h
   case h_2=>cases h
   rename_i n agg d;split at h
   case isFalse=>cases h
   rename_i k;split at h
   case h_2=>cases h
   rename_i z g;simp only[a_,bk,aE]at h;obtain⟨a,rfl⟩:=h;subst y;rw[aE,dH,dH]at a;rw[d];simp only[bx q,au.aw];rw[iP k,GK a.1];simp only[];rw[x7 a.2];exact g
  ·cases h
 ·rename_i cells
  split at h
  case h_2=>cases h
  rename_i n agg d;split at h
  case h_2=>cases h
  rename_i z g;cases h;rw[d];exact g
 ·cases h
def vw(P:ai)(t:aD)(x v:AV)(H:List au):Option (Bool × List au) :=
 match eI P t,nE v,x with
 | some (n,_),some b,.ptr id al w row a =>
  if b.length=n then
   match H[id]? with
   | some (.raw (.box cells))=>match b,jW cells with
    | [.lit (.int .i64 z)],some l=>if al=0/\row=0/\n=1 then some (cR a l.length,H.set id (.raw (.box (th z a 0 l)))) else none
    |_,_=>if al=0/\row=0/\a+n<=cells.length then some (true,H.set id (.raw (.box (putCells cells b a)))) else none
   | some (.vQ ks u rZ) =>
    if al=u/\ks.length=w/\a+b.length<=ks.length then
     match ic ((ks.drop a).take b.length) b with
     |some d=>some (decide (row<rZ.length),H.set id (.vQ ks u (rZ.set row (fN ks (rZ.getD row []) a d))))
     |none=>none
    else none
   |_=>none
  else none
 |_,_,_=>none
def GL{P:ai}{t:aD}{x v:AV}{H H':List au}{b:Bool}(h:vw P t x v H=some (b,H'))(y:b=true):lK P t x v (ax H)=some (ax H'):=by
 unfold vw at h;unfold lK;split at h
 case h_2=>cases h
 rename_i n W I id al w row V J B;rw[J,B];simp only[];split at h
 case isFalse=>cases h
 rename_i M;rw[iP M];split at h
 ·rename_i cells g
  split at h
  ·rename_i z l A
   split at h
   case isFalse=>cases h
   rename_i a;simp only[a_,bk]at h;obtain⟨d,rfl⟩:=h;subst y;rw[dH]at d;have U:=L_ A;simp only[bx g,au.aw];rw[iP ⟨a.1,a.2.1,by omega⟩,cP];have:=Mb (v:=z) (k:=0) A d;rw[eo]at this;rw[this];rfl
  ·split at h
   case isFalse=>cases h
   rename_i a;cases h;simp only[bx g,au.aw];rw[iP a,cP];rfl
 ·rename_i ks u rZ g
  split at h
  case isFalse=>cases h
  rename_i a;obtain⟨N,O,c3⟩:=a;split at h
  case h_2=>cases h
  rename_i X q;simp only[a_,bk]at h;obtain⟨d,rfl⟩:=h;subst y;simp only[dT]at d;simp only[bx g,au.aw];have F:AV.cb I=true:=by rw[<-lO q]; exact gI _ _
  rw[iP ⟨N,O,F⟩,x7 d];simp only[xu];rw[iP (by omega),cP];simp only[au.aw,sD];rw[L9 q c3]
 ·cases h
def x8(P:ai)(t:aD)(x v:AV)(H:List au):Option (Bool × List au) :=
 match eI P t,nE v,x with
 | some (n,_),some b,.sptr id l j w row d=>match H[id]? with
  | some (.cM l' ks g a)=>if b.length=n/\l=l'/\ks.length=w/\d+b.length<=ks.length then
    match ic ((ks.drop d).take b.length) b with
    |some h=>some (cR j a.length&&cR row (q9 a j).length,H.set id (.cM l ks g (a.set j [.l ((q9 a j).set row (fN ks ((q9 a j).getD row []) d h))])))
    |none=>none
   else none
  |_=>none
 |_,_,_=>none
def VF{P:ai}{t:aD}{x v:AV}{H H':List au}{b:Bool}(h:x8 P t x v H=some (b,H'))(y:b=true):sY P t x v (ax H)=some (ax H')/\lK P t x v (ax H)=none:=by
 unfold x8 at h;unfold sY lK;split at h
 case h_2=>cases h
 rename_i n N z id l j w row M A g;rw[A,g];simp only[];split at h
 case h_2=>cases h
 rename_i l' ks O U k;split at h
 case isFalse=>cases h
 rename_i B;obtain⟨F,I,c3,J⟩:=B;split at h
 case h_2=>cases h
 rename_i V d;simp only[a_,bk]at h;obtain⟨a,rfl⟩:=h;subst y;rw[aE,dH,dH]at a;have q:AV.cb z=true:=by rw[<-lO d]; exact gI _ _
 simp only[bx k,au.aw];rw[iP ⟨F,I,c3,q⟩,GK a.1];simp only[];rw[x7 a.2];simp only[xu];rw[iP (by omega),cP];simp only[au.aw,sD,x4,g0,ow,G.rZ];rw[L9 d J];exact⟨rfl,trivial⟩
def x9(P:ai)(t:aD)(x v:AV)(H:List au):Option (Bool × List au) :=
 match eI P t,x,v with
 | some (sz,_),.ptr id w pw row h,.vQ k j al oF n=>match H[id]?,H[j]? with
  | some (.cM l ks b d),some (.vQ q g a)=>if sz=1/\w=0/\pw=1/\h=0 then
    match Kd.ib ks q&&(aH k ks.length&&(aH al g&&aH oF 0))with
    |true=>some ((aH n a.length&&cR 0 n)&&(aH row d.length&&cR row b),(H.set id (.cM l ks b (d++[[.l a]]))).set j (.raw .dead))
    |false=>none
   else none
  |_,_=>none
 |_,_,_=>none
def VG{P:ai}{t:aD}{x v:AV}{H H':List au}{b:Bool}(h:x9 P t x v H=some (b,H'))(F:b=true) :
  xS P t x v (ax H)=some (ax H')/\lK P t x v (ax H)=none/\sY P t x v (ax H)=none:=by
 unfold x9 at h;unfold xS lK sY;split at h
 case h_2=>cases h
 rename_i sz ag id pv pw row col k j al oF n I;rw[I];simp only[nE];split at h
 case h_2=>cases h
 rename_i l ks nn ms ks2 Y rws w J;split at h
 case isFalse=>cases h
 rename_i M;split at h
 case h_2=>cases h
 rename_i q;simp only[aE]at q;obtain⟨y,z,A,B⟩:=q;have N:=Kd.jn y;subst N;have O:=bA z;have U:=bA A;have V:=bA B;subst O U V;simp only[a_,bk]at h;obtain⟨a,rfl⟩:=h;rw[F]at a;simp only[aE,dH]at a;obtain⟨⟨d,W⟩,g,X⟩:=a;have d:=bA d;have g:=bA g;simp only[bx w,bx J,au.aw];rw[iP ⟨M,⟨trivial,trivial,trivial,trivial⟩,⟨by simpa using d,W⟩,by simpa using g,X⟩];refine⟨?_,?_,trivial⟩
 ·rw [cP, cP]
  simp[au.aw,x4,g0,G.rZ]
 ·split<;>rfl
def rb(sz:Nat)(x:AV)(H:List au)(a:Option (List Kd)):Option (Bool × List Kd × LL) :=
 match x with
 | .nils | .lit (.slice none 0 0)=>match a with
  |some ks=>some (true,ks,[])
  |none=>none
 | .emptyS _=>match a with
  |some ks=>some (true,ks,[])
  |none=>none
 |.listF ks rZ=>if ks.length=sz then some (true,ks,rZ) else none
 | .list w rZ=>match (match a with | some ks=>some ks | none=>ra (rZ.headD [])) with
  | some ks=>match oI ks rZ with
   |some d=>if w=sz then some (true,ks,d) else none
   |none=>none
  |none=>none
 | .vQ w id al oF n=>match H[id]? with
  |some (.vQ ks v rZ)=>if w=sz/\ks.length=w/\v=al/\oF=0 then some (aH n rZ.length,ks,rZ) else none
  |_=>none
 |.lit (.string s)=>if sz=1 then some (true,[.int .u8],s.data.toList.map fun b=>[.i b.toNat]) else none
 |_=>none
def Mc{sz:Nat}{x:AV}{H:List au}{g:Option (List Kd)}{b:Bool}{ks:List Kd}{rZ:LL}(h:rb sz x H g=some (b,ks,rZ))(q:b=true) :
  nH sz x (ax H)=some (rZ.map (a8 ks)):=by
 unfold rb at h;split at h
 ·split at h
  ·cases h; rfl
  ·cases h
 ·split at h
  ·cases h; rfl
  ·cases h
 ·split at h
  ·cases h; rfl
  ·cases h
 ·split at h
  ·rename_i a; cases h; simp only[nH]; rw[iP a]
  ·cases h
 ·split at h
  ·split at h
   ·rename_i J t
    split at h
    ·rename_i a; cases h; simp only[nH]; rw[iP a,tf t]
    ·cases h
   ·cases h
  ·cases h
 ·rename_i w id al oF n
  split at h
  ·rename_i I v F k
   split at h
   ·rename_i y
    obtain⟨z,A,c3,rfl⟩:=y;simp only[a_,bk]at h;obtain⟨d,rfl,rfl⟩:=h;subst q;have d:=bA d;simp only[nH,bx k,au.aw];rw[iP ⟨z,A,c3,by simp; omega⟩];simp only[List.drop_zero];rw[xm (by simp; omega)]
   ·cases h
  ·cases h
 ·rename_i s
  split at h
  ·rename_i B
   cases h;simp only[nH];rw[iP B];simp[a8,lD,G.iV]
  ·cases h
 ·cases h
def GM:SK->Bool
 |.slice _ _ _ | .str=>true
 |_=>false
def GN{P:ai}{t xt:aD}{s x:AV}{H:List ah}{e sz b:Nat}{z:List ak}{a:List (List AV)}(g:cI P t=.slice e sz b)(h:fl P e=some z)
  (d : GM (cI P xt) = true) (q : nH sz x H = some a) (y : z.length = sz /\ a.length <= 1048576 /\ b <= 1048576) : vf P t xt s x H =
   match s with
    |.nils | .lit (.slice none 0 0)=>some (.vQ sz H.length 0 0 a.length,H++[.vQ sz 0 a])
    | .vQ w id al oF n=>match H[id]? with
     | some (.vQ k v rZ) =>
      if k=w/\w=sz/\v=al/\oF=0/\n=rZ.length/\rZ.length+a.length<=1048576 then
       some (.vQ w id (al+1) 0 (n+a.length),H.set id (.vQ k (al+1) (rZ++a)))
      else none
     |_=>none
    |_=>none:=by
 unfold vf;simp only[g,h,q];cases A:cI P xt<;>simp only[A,GM]at d|-<;>first
  |(cases d; done)
  |(rw[iP y]; rfl)
def tk(sz:Nat)(x:AV)(H:List au)(z:List ak):Option (Bool × List Kd × LL) :=
 match x with
 |.emptyS _=>rb sz x H (ra (z.map .lit))
 |_=>rb sz x H none
def VH{sz:Nat}{x:AV}{H:List au}{z:List ak}{b:Bool}{ks:List Kd}{rZ:LL}(h:tk sz x H z=some (b,ks,rZ))(a:b=true) :
  nH sz x (ax H)=some (rZ.map (a8 ks)):=by
 unfold tk at h;split at h<;>exact Mc h a
def vz(P:ai)(t xt:aD)(s x:AV)(H:List au):Option (Bool × AV × List au) :=
 match cI P t with
 | .slice e sz d =>
  match fl P e,GM (cI P xt)with
  | some z,true =>
   if z.length=sz/\d<=1048576 then
    match s with
    | .nils | .lit (.slice none 0 0)=>match tk sz x H z with
     |some (b,ks,a)=>if ks.length=sz then some (b&&decide (a.length<=1048576),.vQ sz H.length 0 0 a.length,H++[.vQ ks 0 a]) else none
     |none=>none
    | .vQ w id al oF n=>match H[id]? with
     | some (.vQ ks v rZ)=>match rb sz x H (some ks) with
      | some (b,g,a) =>
       if ks.length=w/\w=sz/\v=al/\oF=0/\Kd.ib ks g=true then
        some (b&&(aH n rZ.length&&decide (rZ.length+a.length<=1048576)),.vQ w id (al+1) 0 (rZ++a).length,H.set id (.vQ ks (al+1) (rZ++a)))
       else none
      |none=>none
     |_=>none
    |_=>none
   else none
  |_,_=>none
 |_=>none
def VJ{P:ai}{t xt:aD}{s x v:AV}{H H':List au}{b:Bool}(h:vz P t xt s x H=some (b,v,H'))(W:b=true) :
  vf P t xt s x (ax H)=some (v,ax H'):=by
 unfold vz at h;split at h
 case h_2=>cases h
 rename_i e sz by_ A;split at h
 case h_2=>cases h
 rename_i z B y;split at h
 case isFalse=>cases h
 rename_i hc;obtain⟨F,I⟩:=hc;have V:∀{k:Bool} {ks:List Kd} {a:LL},tk sz x H z=some (k,ks,a) ->
   (if ks.length=sz then some (k&&decide (a.length<=1048576),AV.vQ sz H.length 0 0 a.length,H++[au.vQ ks 0 a]) else none)=some (b,v,H') ->
   ∃ rZ,nH sz x (ax H)=some rZ/\rZ.length<=1048576/\v=.vQ sz (ax H).length 0 0 rZ.length/\ax H'=ax H++[.vQ sz 0 rZ]:=by
  intro k ks a g h;split at h
  case isFalse=>cases h
  rename_i Y;simp only[a_,bk]at h;obtain⟨d,rfl,rfl⟩:=h;subst W;simp only[aE,dT]at d;refine⟨_,VH g d.1,by simpa using d.2,by simp[fj],?_⟩;rw[jm,au.aw,Y]
 split at h
 ·split at h
  case h_2=>cases h
  rename_i k ks a g;obtain⟨rZ,J,M,N,O⟩:=V g h;rw[GN A B y J ⟨F,M,I⟩,N,O]
 ·split at h
  case h_2=>cases h
  rename_i k ks a g;obtain⟨rZ,J,M,N,O⟩:=V g h;rw[GN A B y J ⟨F,M,I⟩,N,O];rfl
 ·rename_i w id al oF n
  split at h
  case h_2=>cases h
  rename_i ks vv rZ hid;split at h
  case h_2=>cases h
  rename_i k ks' a g;split at h
  case isFalse=>cases h
  rename_i hq;obtain⟨X,q2,q3,q4,U⟩:=hq;have U:=Kd.jn U;subst U;simp only[a_,bk]at h;obtain⟨d,rfl,rfl⟩:=h;subst W;simp only[aE,dT]at d;obtain⟨d,q,h3⟩:=d;have q:=bA q;rw[GN A B y (Mc g d) ⟨F,by simp; omega,I⟩];simp only[fJ,bx hid,au.aw];rw[iP ⟨X,q2,q3,q4,q,h3⟩,cP];simp only[au.aw,qJ,dG,q,X]
 ·cases h
def rf(len:Nat)(lo hi:Option AV):Option (Bool × Nat × Nat) :=
 match lo,hi with
 |none,none=>some (true,0,len)
 |some (.lit (.int _ l)),none=>some (cA l&&aR l (len:Int),l.toNat,len)
 |none,some (.lit (.int _ h))=>some (cA h&&aR h (len:Int),0,h.toNat)
 |some (.lit (.int _ l)),some (.lit (.int _ h))=>some (cA l&&(aR l h&&aR h (len:Int)),l.toNat,h.toNat)
 |_,_=>none
def BX{len:Nat}{lo hi:Option AV}{b:Bool}{l h:Nat}(d:rf len lo hi=some (b,l,h))(g:b=true):hZ len lo hi=some (l,h):=by
 unfold rf at d;split at d
 ·cases d; simp[hZ]
 ·rename_i l'
  simp only[a_,bk]at d;obtain⟨a,rfl,rfl⟩:=d;subst g;simp only[dY,bz,aE,dT]at a;simp[hZ,kQ,a.1,a.2]
 ·rename_i h'
  simp only[a_,bk]at d;obtain⟨a,rfl,rfl⟩:=d;subst g;simp only[dY,bz,aE,dT]at a;simp[hZ,kQ,a.1,a.2]
 ·rename_i l' _ h'
  simp only[a_,bk]at d;obtain⟨a,rfl,rfl⟩:=d;subst g;simp only[dY,bz,aE,dT]at a;simp[hZ,kQ,a.1,a.2.1,a.2.2]
 ·cases d
def vA(rZ:LL)(lo hi:Option AV)(l h:Nat):LL :=
 match lo,hi with
 |none,none=>rZ
 |some _,none=>rZ.drop l
 |none,some _=>rZ.take h
 |some _,some _=>(rZ.drop l).take (h-l)
def Md{rZ:LL}{lo hi:Option AV}{b:Bool}{l h:Nat}(a:rf rZ.length lo hi=some (b,l,h)):vA rZ lo hi l h=(rZ.drop l).take (h-l):=by
 unfold rf at a;split at a
 ·cases a; simp[vA]
 ·simp only [a_, bk] at a
  obtain⟨d,rfl,rfl⟩:=a;simp only[vA];rw[xm (by simp)]
 ·simp only [a_, bk] at a
  obtain⟨d,rfl,rfl⟩:=a;simp[vA]
 ·rfl
 ·cases a
def GO(P:ai)(t:aD)(x:AV)(lo hi mx:Option AV):Option (Bool × AV) :=
 match mx with
 | some _=>match kl P t x lo hi mx with
  |some v=>some (true,v)
  |none=>none
 | none=>match cI P t,x with
  | .str,.lit (.string s)=>match rf s.size lo hi with
   |some (b,l,h)=>some (b,.lit (.string (s.extract l h)))
   |none=>none
  | .slice _ sz _,.listF ks rZ=>match rf rZ.length lo hi with
   |some (b,l,h)=>if ks.length=sz then some (b,.listF ks (vA rZ lo hi l h)) else none
   |none=>none
  | .slice _ sz _,.vQ w id al oF n=>match rf n lo hi with
   |some (b,l,h)=>if w=sz then some (b,.vQ w id al (oF+l) (h-l)) else none
   |none=>none
  | .slice _ sz _,.list w rZ=>match w,uX rZ with
   | 1,some a=>match rf a.length lo hi with
    |some (b,l,h)=>if 1=sz then some (b,.listF [.str] (vA a lo hi l h)) else none
    |none=>none
   | _,_=>match kl P t x lo hi none with
    |some v=>some (true,v)
    |none=>none
  | _,_=>match kl P t x lo hi none with
   |some v=>some (true,v)
   |none=>none
def VK{P:ai}{t:aD}{x v:AV}{lo hi mx:Option AV}{b:Bool}(h:GO P t x lo hi mx=some (b,v))(y:b=true):kl P t x lo hi mx=some v:=by
 unfold GO at h;split at h
 ·split at h
  ·rename_i u k; cases h; exact k
  ·cases h
 ·split at h
  ·rename_i s d
   split at h
   case h_2=>cases h
   rename_i z l A a;simp only[a_,bk]at h;obtain⟨g,rfl⟩:=h;subst g;simp[kl,d,BX a y]
  ·rename_i e sz B ks rZ d
   split at h
   case h_2=>cases h
   rename_i z l A a;split at h
   case isFalse=>cases h
   rename_i q;simp only[a_,bk]at h;obtain⟨g,rfl⟩:=h;subst g;simp[kl,d,BX a y,q,Md a]
  ·rename_i e sz B w id al oF n d
   split at h
   case h_2=>cases h
   rename_i z l A a;split at h
   case isFalse=>cases h
   rename_i q;simp only[a_,bk]at h;obtain⟨g,rfl⟩:=h;subst g;simp[kl,d,BX a y,q]
  ·rename_i e sz B w rZ d
   split at h
   ·rename_i I F
    split at h
    case h_2=>cases h
    rename_i z l A a;split at h
    case isFalse=>cases h
    rename_i q;simp only[a_,bk]at h;obtain⟨g,rfl⟩:=h;subst g;subst q;have J:rZ.length=I.length:=by rw[<-FH F,fJ]
    simp[kl,d,J,BX a y,Md a,Bn,F]
   ·split at h
    ·rename_i u k; cases h; exact k
    ·cases h
  ·split at h
   ·rename_i u k; cases h; exact k
   ·cases h
def x_(P:ai)(t:aD)(l c:AV)(H:List au):Option (Bool × AV × List au) :=
 match cI P t,l,c with
 | .slice e sz a,.lit (.int _ l),.lit (.int _ c) =>
  match fl P e with
  | some z=>match ra (BB P e z) with
   | some ks=>match ic ks (BB P e z) with
    | some b=>if z.length=sz/\0<sz/\a<=1048576/\ks.length=sz then
      some (cA l&&(aR l c&&aR c 1048576),.vQ sz H.length 0 0 l.toNat,H++[.vQ ks 0 (dz l.toNat b)]) else none
    |none=>none
   |none=>none
  |none=>none
 |_,_,_=>none
def VL{P:ai}{t:aD}{l c v:AV}{H H':List au}{b:Bool}(h:x_ P t l c H=some (b,v,H'))(g:b=true) :
  xH P t l c (ax H)=some (v,ax H'):=by
 unfold x_ at h;unfold xH;split at h
 case h_2=>cases h
 rename_i e sz F _ l _ c k;rw[k];simp only[];split at h
 case h_2=>cases h
 rename_i z q;split at h
 case h_2=>cases h
 rename_i ks I;split at h
 case h_2=>cases h
 rename_i J d;split at h
 case isFalse=>cases h
 rename_i w;obtain⟨y,A,c3,B⟩:=w;simp only[a_,bk]at h;obtain⟨a,rfl,rfl⟩:=h;subst g;simp only[dY,bz,aE,dT]at a;rw[q];simp only[];rw[iP ⟨y,A,a.1,a.2.1,a.2.2,c3⟩,jm,fj,au.aw,B,List.map_replicate,lO d]
def vB(P:ai)(t:aD)(n:Nat)(parts:List (Nat × AV))(H:List au):Option (Bool × AV × List au) :=
 match cI P t with
 | .slice e _ _=>match fl P e with
  | some z=>match ra (z.map .lit) with
   | some ks=>match vh P t n parts with
    | some (.list sz rZ)=>match oI ks rZ with
     |some a=>if ks.length=sz then some (true,.vQ sz H.length 0 0 a.length,H++[.vQ ks 0 a]) else none
     |none=>none
    |_=>none
   |none=>none
  |none=>none
 |_=>none
def VM{P:ai}{t:aD}{n:Nat}{parts:List (Nat × AV)}{v:AV}{H H':List au}{b:Bool}(h:vB P t n parts H=some (b,v,H')) :
  xO P t n parts (ax H)=some (v,ax H'):=by
 unfold vB at h;split at h
 case h_2=>cases h
 split at h
 case h_2=>cases h
 split at h
 case h_2=>cases h
 rename_i ks k;split at h
 case h_2=>cases h
 rename_i sz rZ d;split at h
 case h_2=>cases h
 rename_i q a;split at h
 case isFalse=>cases h
 rename_i g;cases h;unfold xO;rw[d];have e:=tf a;simp only[];rw[jm,fj,au.aw,g,e,<-e,fJ]
def Ct.read:Ct->AV->Option LG
 | .one k,a=>match x5 k a with
  |some g=>some [g]
  |none=>none
 |.agg ks,.agg cells=>ic ks cells
 |_,_=>none
def Ct.kV{K:Ct}{a:AV}{r:LG}(h:K.read a=some r):K.av r=a:=by
 unfold Ct.read at h;split at h
 ·split at h
  ·rename_i g b
   cases h;exact GD b
  ·cases h
 ·simp only[Ct.av,lO h]
 ·cases h
def rh(P:ai)(t:aD):Option (Ct × LG) :=
 match P.info? t with
 | some i=>match i.zero with
  | some (.agg a)=>match a.toList.all dU,ra (a.toList.map .lit) with
   | true,some ks=>match ic ks (a.toList.map .lit) with
    |some b=>some (.agg ks,b)
    |none=>none
   |_,_=>none
  | some v=>match x6 (.lit v) with
   | some k=>match x5 k (.lit v) with
    |some g=>some (.one k,[g])
    |none=>none
   | none=>match iU P t,xG P t with
    |some (.lit (.slice none 0 0)),some ks=>some (.one (.list ks),[.l []])
    |_,_=>none
  |none=>none
 |none=>none
def VN{P:ai}{t:aD}{v:AV}(h:iU P t=some v)(a:v=.lit (.slice none 0 0)->False):pP P t=some v:=by
 unfold pP;rw[h];split
 ·rename_i e _
  cases e;exact(a rfl).elim
 ·rename_i e _
  cases e;rfl
 ·rename_i e
  cases e
def Me{P:ai}{t:aD}{V:Ct}{z:LG}(h:rh P t=some (V,z)):pP P t=some (V.av z):=by
 unfold rh at h;have d:∀ v,iU P t=some v->(v=.lit (.slice none 0 0)->False)->pP P t=some v:=fun v h B=>VN h B;split at h
 case h_2=>cases h
 rename_i i hi;split at h
 ·rename_i q a
  split at h
  ·rename_i ks b w
   split at h
   ·rename_i J F
    cases h;refine d _ ?_ fun e=>by cases e
    unfold iU;rw[hi];simp only[];rw[a];simp only[AV.uT,b,if_true,Ct.av,lO F]
   ·cases h
  ·cases h
 ·rename_i v A a
  split at h
  ·rename_i k y
   split at h
   ·rename_i g I
    cases h;have e:=GD I;simp only[Ct.av,ow,e];refine d _ ?_ fun e=>by
     simp only[AV.lit.injEq]at e;subst e;simp[x6]at y
    unfold iU;rw[hi];simp only[];rw[a];simp only[];unfold AV.uT;split
    ·rename_i q; exact(A q rfl).elim
    ·simp[x6]at y
    ·rfl
   ·cases h
  ·split at h
   ·rename_i ks b w
    cases h;unfold pP;rw[b,w];rfl
   ·cases h
 ·cases h
def BZ:SK->Kd->Bool
 |.int k,.int a=>decide (k=a)
 |.str,.str=>true
 |.bool,.bool=>true
 |_,_=>false
def kW:List SK->List Kd->Bool
 | [],[]=>true
 |a::as,b::d=>BZ a b&&kW as d
 |_,_=>false
def gP(P:ai)(a:aD)(K:Ct):Bool :=
 match iS P pJ a with
 | some b=>kW b K.ks&&(match K with
  |.one _ => !oB (P.underlying a)
  |.agg _=>oB (P.underlying a))
 |none=>false
def GP:Kd->G->ak
 |.int k,g=>.int k g.iV
 |.str,g=>.string g.sV
 |.bool,g=>.bool g.bV
 |.list _,_=>.bool false
def lP:List Kd->LG->List ak
 | [],_=>[]
 |k::ks,r=>GP k (r.headD default)::lP ks r.tail
def Mf:∀{b:List SK} {ks:List Kd} (r:LG),kW b ks=true->pI (a8 ks r)=some (lP ks r)/\dt b (lP ks r)=true
  | [],[],_,_=>⟨rfl,rfl⟩
  | a::as,k::ks,r,h=>by
    simp only[kW,aE]at h;obtain⟨g,q⟩:=Mf r.tail h.2;have d:=h.1;cases k<;>cases a<;>simp only[BZ]at d<;>first
      |(cases d; done)
      | (simp only [a8, lD, pI, g, lP, GP, dt, q, gu]
         simp_all[kindOk])
  | [],_::_,_,h|_::_,[],_,h=>by simp[kW]at h
def yd:∀{d:List SK} {ks:List Kd} (r s:LG),kW d ks=true->eJ (lP ks r) (lP ks s)=kz ks r s
 | [],[],_,_,_=>rfl
 | a::as,k::ks,r,s,h=>by
  simp only[kW,aE]at h;have g:=yd r.tail s.tail h.2;have b:=h.1;simp only[lP,eJ,kz,g];cases k<;>cases a<;>simp only[BZ]at b<;>first
   |(cases b; done)
   |rfl
 | [],_::_,_,_,h|_::_,[],_,_,h=>by simp[kW]at h
def jX{P:ai}{q:aD}{K:Ct}(h:gP P q K=true)(r:LG):iG P q (K.av r)=some (lP K.ks r):=by
 unfold gP at h;split at h
 case h_2=>cases h
 rename_i w y;simp only[aE]at h;obtain⟨b,g⟩:=h;obtain⟨t,d⟩:=Mf r b;unfold iG;rw[y];simp only[];cases K with
 | one k =>
  simp only[qK]at g;simp only[Ct.ks,lP]at d|-;have e:lD k (r.headD default)=.lit (GP k (r.headD default)):=by
   simp only[Ct.ks]at b;cases w with
   |nil=>simp[kW]at b
   | cons a as =>
    simp only[kW,aE]at b;have v:=b.1;cases k<;>cases a<;>simp only[BZ]at v<;>first
     |(cases v; done)
     |rfl
  simp only[Ct.av,e,d,g,and_self,if_true]
 | agg ks =>
  simp only[Ct.av,Ct.ks]at t d|-;simp only[t,d,g,and_self,if_true]
def dZ(ks:List Kd)(key:LG):LL->Nat->Option (Nat × LG)
 | [],_=>none
 |r::rs,i=>bif kz ks key (gi r 0).rV then some (i,r) else dZ ks key rs (i+1)
def mB(ks:List Kd)(rZ:LL)(key:LG):Bool:=(dZ ks key rZ 0).isSome
def tn(ks:List Kd)(rZ:LL)(key z:LG):LG:=match dZ ks key rZ 0 with
 |some (_,r)=>(gi r 1).rV
 |none=>z
def ye(ks:List Kd)(rZ:LL)(key val:LG)(a:Nat):LL:=match dZ ks key rZ 0 with
 |some (i,r)=>rZ.set i [.l [key],.l [val],.i (gi r 2).iV]
 |none=>rZ++[[.l [key],.l [val],.i a]]
def nR(ks:List Kd)(rZ:LL)(key:LG)(a:Nat):Nat:=bif mB ks rZ key then a else a+1
def Mg(ks:List Kd)(rZ:LL)(key:LG):LL:=match dZ ks key rZ 0 with
 |some (i,_)=>rZ.eraseIdx i
 |none=>rZ
def vC{P:ai}{b:aD}{K V:Ct}(h:gP P b K=true)(key:LG):∀(rZ:LL) (i:Nat),eY P b (lP K.ks key) (ep K V rZ) i =
  some ((dZ K.ks key rZ i).map fun p=>(p.1,V.av (gi p.2 1).rV))
 | [],i=>rfl
 | r::rs,i=>by
  have g:=vC (V:=V) h key rs (i+1);have d:∃ a,kW a K.ks=true:=by
   unfold gP at h;split at h
   ·simp only[aE]at h; exact⟨_,h.1⟩
   ·cases h
  obtain⟨a,k⟩:=d;simp only[ep,eM,eY,jX h,yd _ _ k,dZ];cases kz K.ks key (gi r 0).rV with
  |true=>rfl
  |false=>exact g
def pV{ks:List Kd}{key:LG}:∀{rZ:LL} {i j:Nat} {r:LG},dZ ks key rZ i=some (j,r)->i<=j/\rZ[j-i]? = some r
 | [],_,_,_,h=>by simp[dZ]at h
 | x::rs,i,j,r,h=>by
  simp only[dZ]at h;cases a:kz ks key (gi x 0).rV with
  | true =>
   rw[a]at h;cases h;exact⟨aY _,by simp⟩
  | false =>
   rw[a]at h;obtain⟨d,b⟩:=pV h;refine⟨by omega,?_⟩;rw[show j-i=(j-(i+1))+1 from by omega];simpa using b
def GQ(P:ai)(t:aD)(m k:AV)(ok:Bool)(H:List au):Option (Bool × AV) :=
 match dJ P t,m with
 | some (a,b),.map id=>match H[id]? with
  | some (.map K V rZ _)=>match K.read k,rh P b with
   | some key,some (d,z)=>match gP P a K&&V.same d with
    | true=>some (true,match ok with
      |true=>.tuple [V.av (tn K.ks rZ key z),.lit (.bool (mB K.ks rZ key))]
      |false=>V.av (tn K.ks rZ key z))
    |false=>none
   |_,_=>none
  |_=>none
 |_,_=>none
def Mh{P:ai}{t:aD}{m k v:AV}{ok b:Bool}{H:List au}(h:GQ P t m k ok H=some (b,v)):gM P t m k ok (ax H)=some v:=by
 unfold GQ at h;unfold gM;split at h
 case h_2=>cases h
 rename_i y A id g;rw[g];simp only[];split at h
 case h_2=>cases h
 rename_i K V rZ cl d;rw[bx d];simp only[au.aw];split at h
 case h_2=>cases h
 rename_i key B z q w;split at h
 case h_2=>cases h
 rename_i a;simp only[aE]at a;have e:=Ct.kU a.2;subst e;rw[<-Ct.kV q,jX a.1,Me w];simp only[vC a.1];cases h;unfold tn mB;cases dZ K.ks key rZ 0 with
 |none=>cases ok<;>rfl
 |some p=>cases ok<;>rfl
def vD(P:ai)(t:aD)(m k v:AV)(H:List au):Option (Bool × List au) :=
 match dJ P t,m with
 | some (a,_),.map id=>match H[id]? with
  | some (.map K V rZ cl)=>match K.read k,V.read v with
   | some key,some val=>match gP P a K with
    |true=>some (true,H.set id (.map K V (ye K.ks rZ key val cl) (nR K.ks rZ key cl)))
    |false=>none
   |_,_=>none
  |_=>none
 |_,_=>none
def vE(ks:List Kd)(rZ:LL)(key:LG):LL:=match dZ ks key rZ 0 with
 |some (_,r)=>jU r
 |none=>[]
def vF(ks:List Kd)(rZ:LL)(key:LG):Bool:=match dZ ks key rZ 0 with
 |some (_,r)=>(gi r 3).bV
 |none=>true
def B0(ks:List Kd)(rZ:LL)(key:LG):LL:=match dZ ks key rZ 0 with
 |some (i,r)=>rZ.set i [gi r 0,gi r 1,gi r 2,.t false]
 |none=>rZ
def Mi(ks:List Kd)(rZ:LL)(key:LG)(val:LL)(a:Nat):LL:=match dZ ks key rZ 0 with
 |some (i,r)=>rZ.set i [.l [key],.l [[.l val]],.i (gi r 2).iV,.t true]
 |none=>rZ++[[.l [key],.l [[.l val]],.i a,.t true]]
def yf(P:ai)(t:aD)(m k:AV)(H:List au):Option (Bool × AV × List au) :=
 match dJ P t,m with
 | some (b,a),.map id=>match H[id]? with
  | some (.br l K ks rZ cl)=>match K.read k,BI P a,iU P a with
   | some key,some w',some (.lit (.slice none 0 0))=>match aH w' ks.length&&gP P b K with
    |true=>some (vF K.ks rZ key,.vQ ks.length H.length 0 0 (vE K.ks rZ key).length,H.set id (.br l K ks (B0 K.ks rZ key) cl)++[.vQ ks 0 (vE K.ks rZ key)])
    |false=>none
   |_,_,_=>none
  |_=>none
 |_,_=>none
def yg(P:ai)(t:aD)(m k v:AV)(H:List au):Option (Bool × List au) :=
 match dJ P t,m,v with
 | some (g,_),.map id,.vQ w j al oF n=>match H[id]?,H[j]? with
  | some (.br l K ks rZ cl),some (.vQ d b a)=>match K.read k with
   | some key=>match gP P g K&&(Kd.ib ks d&&(aH w ks.length&&(aH al b&&aH oF 0))) with
    |true=>some (aH n a.length,(H.set id (.br l K ks (Mi K.ks rZ key a cl) (nR K.ks rZ key cl))).set j (.raw .dead))
    |false=>none
   |none=>none
  |_,_=>none
 |_,_,_=>none
def Mj(ks:List Kd)(rZ:LL)(key:LG)(a:Nat):Nat:=match dZ ks key rZ 0 with
 |some (_,r)=>(gi r 2).iV.toNat
 |none=>a
def Mk(ks:List Kd)(rZ:LL)(key:LG)(a:Nat):LL:=match dZ ks key rZ 0 with
 |some (i,r)=>rZ.set i [.l [key],gi r 1,gi r 2,.t false]
 |none=>rZ++[[.l [key],.l [[.l []]],.i a,.t false]]
def yh(P:ai)(t:aD)(m k:AV)(H:List au):Option (Bool × AV × List au) :=
 match dJ P t,m with
 | some (b,a),.map id=>match H[id]? with
  | some (.br l K ks rZ cl)=>match K.read k,BI P a,iU P a with
   | some key,some w',some (.lit (.slice none 0 0))=>match aH w' ks.length&&gP P b K with
    | true=>some (vF K.ks rZ key,.tuple [.vQ ks.length H.length 0 0 (vE K.ks rZ key).length,.lit (.int .i64 (Mj K.ks rZ key cl:Nat))],
      H.set id (.br l K ks (Mk K.ks rZ key cl) (nR K.ks rZ key cl))++[.vQ ks 0 (vE K.ks rZ key)])
    |false=>none
   |_,_,_=>none
  |_=>none
 |_,_=>none
def kX(st:Int):LL->Nat->Option (Nat × LG)
 | [],_=>none
 |r::rs,i=>bif ((gi r 2).iV.toNat:Int)==st then some (i,r) else kX st rs (i+1)
def Ml(rZ:LL)(st:Int)(val:LL):LL:=match kX st rZ 0 with
 |some (i,r)=>rZ.set i [gi r 0,.l [[.l val]],gi r 2,.t true]
 |none=>rZ
def Mm(rZ:LL)(st:Int):Bool:=(kX st rZ 0).isSome
def yk(m s v:AV)(H:List au):Option (Bool × List au) :=
 match m,s,v with
 | .map id,.lit (.int .i64 st),.vQ w j al oF n=>match H[id]?,H[j]? with
  | some (.br l K ks rZ cl),some (.vQ d b a)=>match Kd.ib ks d&&(aH w ks.length&&(aH al b&&aH oF 0)) with
   |true=>some (Mm rZ st&&aH n a.length,(H.set id (.br l K ks (Ml rZ st a) cl)).set j (.raw .dead))
   |false=>none
  |_,_=>none
 |_,_,_=>none
def ym(ks:List Kd)(rZ:LL)(key:LG)(s:Nat):LL:=match dZ ks key rZ 0 with
 |some (_,r)=>lN r s
 |none=>[]
def Mn(ks:List Kd)(rZ:LL)(key:LG)(a b:LL)(d:Nat):LL:=match dZ ks key rZ 0 with
 |some (i,r)=>rZ.set i [.l [key],.l [[.l a,.l b]],.i (gi r 2).iV,.t true]
 |none=>rZ++[[.l [key],.l [[.l a,.l b]],.i d,.t true]]
def yn(P:ai)(t:aD)(m k:AV)(H:List au):Option (Bool × AV × List au) :=
 match dJ P t,m with
 | some (a,b),.map id=>match H[id]? with
  | some (.bM l K ks rZ cl)=>match K.read k,iU P b with
   | some key,some (.agg [.lit (.slice none 0 0),.lit (.slice none 0 0)])=>match gP P a K with
    | true=>some (vF K.ks rZ key,.agg [.vQ ks.length H.length 0 0 (ym K.ks rZ key 0).length,.vQ ks.length (H.length+1) 0 0 (ym K.ks rZ key 1).length],
      H.set id (.bM l K ks (B0 K.ks rZ key) cl)++[.vQ ks 0 (ym K.ks rZ key 0),.vQ ks 0 (ym K.ks rZ key 1)])
    |false=>none
   |_,_=>none
  |_=>none
 |_,_=>none
def yo(P:ai)(t:aD)(m k v:AV)(H:List au):Option (Bool × List au) :=
 match dJ P t,m,v with
 | some (w,_),.map id,.agg [.vQ y a z o0 A,.vQ B b F o1 I]=>match H[id]?,H[a]?,H[b]? with
  | some (.bM l K ks rZ cl),some (.vQ d g r0),some (.vQ h q r1)=>match K.read k with
   | some key=>match gP P w K&&((Kd.ib ks d&&(aH y ks.length&&(aH z g&&aH o0 0)))&&((Kd.ib ks h&&(aH B ks.length&&(aH F q&&aH o1 0))) && !aH a b)) with
    |true=>some (aH A r0.length&&aH I r1.length,((H.set id (.bM l K ks (Mn K.ks rZ key r0 r1 cl) (nR K.ks rZ key cl))).set a (.raw .dead)).set b (.raw .dead))
    |false=>none
   |none=>none
  |_,_,_=>none
 |_,_,_=>none
def GR{P:ai}{b:aD}{K:Ct}{ks:List Kd}(h:gP P b K=true)(key:LG):∀(rZ:LL) (i:Nat),eY P b (lP K.ks key) (fK (kT K ks rZ)) i =
  some ((dZ K.ks key rZ i).map fun p=>(p.1,.undef))
 | [],i=>rfl
 | r::rs,i=>by
  have g:=GR (ks:=ks) h key rs (i+1);have d:∃ a,kW a K.ks=true:=by
   unfold gP at h;split at h
   ·simp only[aE]at h; exact⟨_,h.1⟩
   ·cases h
  obtain⟨a,k⟩:=d;simp only[kT,fK,eM,eY,nP,jX h,yd _ _ k,dZ];cases kz K.ks key (gi r 0).rV with
  |true=>rfl
  |false=>exact g
def B1{K:Ct}{ks:List Kd}{rZ:LL}{i:Nat}{r:LG}(h:rZ[i]? = some r):(kT K ks rZ)[i]? = some (nP K ks r):=by
 unfold kT;rw[cX,h];rfl
def Mo(K:Ct)(ks:List Kd)(rZ:LL)(i:Nat)(r:LG):kT K ks (rZ.set i r)=(kT K ks rZ).set i (nP K ks r):=by
 simp[kT,sD]
def VO{α:Type}{l:List α}{i:Nat}{x:α}(h:l[i]? = some x):l.set i x=l:=by
 apply ou;intro j;rw[eU];split
 ·rename_i e
  subst e;rw[iP (aX h),h]
 ·rfl
def VP{P:ai}{t:aD}{m k v:AV}{b:Bool}{H H':List au}(h:yn P t m k H=some (b,v,H'))(F:b=true) :
  xT P t m k (ax H)=some (v,ax H')/\sS P t m k (ax H)=none/\gM P t m k false (ax H)=none:=by
 unfold yn at h;unfold xT sS gM;split at h
 case h_2=>cases h
 rename_i N O id I;rw[I];simp only[];split at h
 case h_2=>cases h
 rename_i l K ks rZ cl A;have d:=bx A;rw[d];simp only[au.aw]at d|-;split at h
 case h_2=>cases h
 rename_i key J M;split at h
 case h_2=>cases h
 rename_i q;simp only[a_,bk]at h;obtain⟨a,rfl,rfl⟩:=h;rw[F]at a;rw[<-Ct.kV J,jX q,M];simp only[GR q,and_true];unfold vF at a;unfold ym B0;have g:∀(L:List au) (x y:au),ax (L++[x,y])=ax L++[x.aw]++[y.aw]:=fun L x y=>by simp[ax]
 cases w:dZ K.ks key rZ 0 with
 | none =>
  simp only[uJ,g,cP,au.aw,fj,kf,pA];rw[VO d]
 | some p =>
  obtain⟨i,r⟩:=p;rw[w]at a;simp only[]at a;obtain⟨_,z⟩:=pV w;rw[ff]at z;have B:(kT K ks rZ)[i]? = some (K.av (gi r 0).rV,(some ((lN r 0).map (a8 ks)),some ((lN r 1).map (a8 ks))),(gi r 2).iV.toNat):=by
   rw[B1 z];simp only[nP,a,cT]
  simp only[fk,B,g,cP,au.aw,fj,fJ,Mo];rfl
def VQ{P:ai}{t:aD}{m k v:AV}{b:Bool}{H H':List au}(h:yo P t m k v H=some (b,H'))(U:b=true) :
  xU P t m k v (ax H)=some (ax H')/\mr P t m k v (ax H)=none/\pQ P t m k v (ax H)=none/\sW P t m k v (ax H)=none:=by
 unfold yo at h;unfold xU pQ mr sW;split at h
 case h_2=>cases h
 rename_i kt et id w0 V v0 o0 n0 w1 d v1 o1 n1 W;rw[W];simp only[];split at h
 case h_2=>cases h
 rename_i l K ks rZ cl ks0 v0' r0 ks1 v1' r1 M N O;rw[bx M,bx N,bx O];simp only[au.aw];split at h
 case h_2=>cases h
 rename_i key X;split at h
 case h_2=>cases h
 rename_i J;simp only[aE,qK]at J;obtain⟨I,⟨Y,q,w,y⟩,⟨b1,z,A,B⟩,a⟩:=J;have e1:=Kd.jn Y;have e2:=Kd.jn b1;subst e1;subst e2;have q:=bA q;have w:=bA w;have y:=bA y;have z:=bA z;have A:=bA A;have B:=bA B;have a:V≠d:=fun e=>by rw[e,show aH d d=true from A4 d]at a; cases a
 simp only[a_,bk]at h;obtain⟨g,rfl⟩:=h;rw[U]at g;simp only[aE]at g;have p0:=bA g.1;have p1:=bA g.2;rw[<-Ct.kV X,jX I];simp only[];rw[iP ⟨⟨⟨q,trivial⟩,z,trivial⟩,⟨⟨w,A⟩,y,B⟩,⟨by simpa using p0,by simpa using p1⟩,a,Ct.td _ _⟩];simp only[GR I,and_true];unfold Mn nR mB;cases hf:dZ K.ks key rZ 0 with
 | none =>
  simp only[uJ,cP,au.aw,EX,cF];simp[kT,nP,lN,gi,G.rV,G.rZ,G.iV,G.bV]
 | some p =>
  obtain⟨i,r⟩:=p;obtain⟨_,F⟩:=pV hf;rw[ff]at F;have hm:(kT K ks rZ).modify i (fun e=>(K.av key,(some (r0.map (a8 ks)),some (r1.map (a8 ks))),e.2.2))=(kT K ks rZ).set i (K.av key,(some (r0.map (a8 ks)),some (r1.map (a8 ks))),(gi r 2).iV.toNat):=by
   apply ou;intro j;rw[hY,eU];by_cases e:i=j
   ·subst e
    rw[iP rfl,iP (aX (B1 F)),B1 F];simp[nP]
   ·rw [iN e]
    simp[e]
  simp only[fk,hm,cP,au.aw,Mo,Fa,cT];simp[nP,lN,gi,G.rV,G.rZ,G.iV,G.bV]
def B2(K:Ct)(ks:List Kd)(r:LG):(gJ (jl K ks r).1).1=K.av (gi r 0).rV:=by
 unfold jl;cases (gi r 4).bV && !(gi r 3).bV with
 |true=>rfl
 | false =>
  cases K with
  |one k=>cases k<;>rfl
  |agg ks=>rfl
def VR(K:Ct)(g:LG):plainKey (K.av g)=true:=by
 cases K with
 |one k=>cases k<;>rfl
 |agg ks=>rfl
def B3{P:ai}{b:aD}{K:Ct}{ks:List Kd}(h:gP P b K=true)(key:LG):∀(rZ:LL) (i:Nat),eY P b (lP K.ks key) (dh (gg K ks rZ)) i =
  some ((dZ K.ks key rZ i).map fun p=>(p.1,(gJ (jl K ks p.2).1).2))
 | [],i=>rfl
 | r::rs,i=>by
  have g:=B3 (ks:=ks) h key rs (i+1);have d:∃ a,kW a K.ks=true:=by
   unfold gP at h;split at h
   ·simp only[aE]at h; exact⟨_,h.1⟩
   ·cases h
  obtain⟨a,k⟩:=d;simp only[gg,dh,eM,eY,B2,jX h,yd _ _ k,dZ];cases kz K.ks key (gi r 0).rV with
  |true=>rfl
  |false=>exact g
def vG{K:Ct}{ks:List Kd}{rZ:LL}{i:Nat}{r:LG}(h:rZ[i]? = some r):(gg K ks rZ)[i]? = some (jl K ks r):=by
 unfold gg;rw[cX,h];rfl
def B4(K:Ct)(ks:List Kd)(rZ:LL)(i:Nat)(r:LG):gg K ks (rZ.set i r)=(gg K ks rZ).set i (jl K ks r):=by
 simp[gg,sD]
def VS{P:ai}{t:aD}{m k v:AV}{b:Bool}{H H':List au}(h:yf P t m k H=some (b,v,H'))(B:b=true):sS P t m k (ax H)=some (v,ax H')/\gM P t m k false (ax H)=none:=by
 unfold yf at h;unfold sS gM;split at h
 case h_2=>cases h
 rename_i N O id F;rw[F];simp only[];split at h
 case h_2=>cases h
 rename_i l K ks rZ cl z;rw[bx z];simp only[au.aw];split at h
 case h_2=>cases h
 rename_i key w' I J M;split at h
 case h_2=>cases h
 rename_i q;simp only[aE]at q;obtain⟨d,g⟩:=q;have e:=bA d;simp only[a_,bk]at h;obtain⟨a,rfl,rfl⟩:=h;rw[B]at a;rw[<-Ct.kV I,jX g,J,M];simp only[d,B3 g,and_true];unfold vF at a;unfold vE B0;cases w:dZ K.ks key rZ 0 with
 | none =>
  simp only[uJ,jm,cP,au.aw,fj,kf,pA]
 | some p =>
  obtain⟨i,r⟩:=p;rw[w]at a;simp only[]at a;obtain⟨_,y⟩:=pV w;rw[ff]at y;have A:qW (gg K ks rZ) i=some (K.av (gi r 0).rV,(jU r).map (a8 ks),(gi r 2).iV.toNat):=by
   unfold qW;rw[vG y];simp only[jl,a,cT,AS,J6,cF]
  simp only[fk,A,jm,cP,au.aw,fj,fJ,B4];rfl
def VT{P:ai}{t:aD}{m k v:AV}{b:Bool}{H H':List au}(h:yg P t m k v H=some (b,H'))(I:b=true):pQ P t m k v (ax H)=some (ax H')/\mr P t m k v (ax H)=none:=by
 unfold yg at h;unfold pQ mr;split at h
 case h_2=>cases h
 rename_i kt et id w j al oF n J;rw[J];simp only[];split at h
 case h_2=>cases h
 rename_i l K ks rZ cl ks2 Y rws y M;rw[bx y,bx M];simp only[au.aw];split at h
 case h_2=>cases h
 rename_i key N;split at h
 case h_2=>cases h
 rename_i g;simp only[aE]at g;obtain⟨d,z,A,B,F⟩:=g;have O:=Kd.jn z;subst O;have U:=bA A;have V:=bA B;have W:=bA F;subst U V W;simp only[a_,bk]at h;obtain⟨a,rfl⟩:=h;rw[I]at a;have a:=bA a;subst a;rw[<-Ct.kV N,jX d];simp only[Ct.td,fJ,and_self,if_true,B3 d,and_true];unfold Mi nR mB;cases X:dZ K.ks key rZ 0 with
 | none =>
  simp only[uJ,cP,au.aw,EX,cF];simp[gg,jl,jU,gi,G.rV,G.rZ,G.iV,G.bV]
 | some p =>
  obtain⟨i,r⟩:=p;obtain⟨_,q⟩:=pV X;rw[ff]at q;simp only[fk,Ga (vG q),cP,au.aw,B4,Fa,cT];simp[jl,jU,gi,G.rV,G.rZ,G.iV,G.bV]
def VU{P:ai}{t:aD}{m k v:AV}{b:Bool}{H H':List au}(h:yh P t m k H=some (b,v,H'))(B:b=true):jT P t m k (ax H)=some (v,ax H'):=by
 unfold yh at h;unfold jT;split at h
 case h_2=>cases h
 rename_i N O id F;rw[F];simp only[];split at h
 case h_2=>cases h
 rename_i l K ks rZ cl y;rw[bx y];simp only[au.aw];split at h
 case h_2=>cases h
 rename_i key w' I J M;split at h
 case h_2=>cases h
 rename_i g;simp only[aE]at g;obtain⟨z,d⟩:=g;simp only[a_,bk]at h;obtain⟨a,rfl,rfl⟩:=h;rw[B]at a;rw[<-Ct.kV I,jX d,J,M];simp only[z,Ct.td,Bool.and_self,B3 d];unfold vF at a;unfold vE Mk Mj nR mB;cases q:dZ K.ks key rZ 0 with
 | none =>
  simp only[uJ,jm,cP,au.aw,fj,kf,pA,EX,cF,goInt];simp[gg,jl,jU,gi,G.rV,G.rZ,G.iV,G.bV]
 | some p =>
  obtain⟨i,r⟩:=p;rw[q]at a;simp only[]at a;obtain⟨_,w⟩:=pV q;rw[ff]at w;have A:qW (gg K ks rZ) i=some (K.av (gi r 0).rV,(jU r).map (a8 ks),(gi r 2).iV.toNat):=by
   unfold qW;rw[vG w];simp only[jl,a,cT,AS,J6,cF]
  simp only[fk,A,jm,cP,au.aw,fj,fJ,B4,Fa,cT,goInt];rfl
def GS{st:Int}:∀{rZ:LL} {i j:Nat} {r:LG},kX st rZ i=some (j,r)->i<=j/\rZ[j-i]? = some r
 | [],_,_,_,h=>by simp[kX]at h
 | x::rs,i,j,r,h=>by
  simp only[kX]at h;cases a:((gi x 2).iV.toNat:Int)==st with
  | true =>
   rw[a]at h;cases h;simp
  | false =>
   rw[a]at h;obtain⟨d,b⟩:=GS h;refine⟨by omega,?_⟩;rw[show j-i=(j-(i+1))+1 from by omega];simpa using b
def Mp{K:Ct}{ks:List Kd}{st:Int}:∀{rZ:LL} {i:Nat},(kX st rZ i).map (·.1)=(sT (gg K ks rZ) st).map (·+i)
 | [],_=>rfl
 | x::rs,i=>by
  have a:=Mp (K:=K) (ks:=ks) (st:=st) (rZ:=rs) (i:=i+1);unfold sT at a|-;simp only[kX,gg,eM,J2,jl]at a|-;cases b:((gi x 2).iV.toNat:Int)==st with
  |true=>simp
  | false =>
   simp only[cF,a,me,if_false,aj4];congr 1
   funext n
   simp only[aj5];omega
def VV{m s v:AV}{b:Bool}{H H':List au}(h:yk m s v H=some (b,H'))(O:b=true):mu m s v (ax H)=some (ax H'):=by
 unfold yk at h;unfold mu;split at h
 case h_2=>cases h
 rename_i id st w j al oF n;split at h
 case h_2=>cases h
 rename_i l K ks rZ cl ks2 ver' rws B U;simp only[];rw[bx B,bx U];simp only[au.aw];split at h
 case h_2=>cases h
 rename_i t;simp only[aE]at t;obtain⟨F,I,J,M⟩:=t;have V:=Kd.jn F;subst V;have W:=bA I;have X:=bA J;have Y:=bA M;subst W X Y;simp only[a_,bk]at h;obtain⟨g,rfl⟩:=h;rw[O]at g;simp only[aE]at g;obtain⟨a,d⟩:=g;have d:=bA d;subst d;simp only[fJ,and_self,if_true];unfold Mm at a;unfold Ml;cases q:kX st rZ 0 with
 |none=>rw[q]at a; cases a
 | some p =>
  obtain⟨i,r⟩:=p;obtain⟨_,z⟩:=GS q;rw[ff]at z;have hi:sT (gg K ks rZ) st=some i:=by
   have:=Mp (K:=K) (ks:=ks) (st:=st) (rZ:=rZ) (i:=0);rw[q]at this;cases A:sT (gg K ks rZ) st with
   |none=>rw[A]at this; cases this
   |some y=>rw[A]at this; simp at this; rw[this]
  rw[hi];obtain⟨k0,o0,ek,N⟩:∃ k o,jl K ks r=(k,o,(gi r 2).iV.toNat)/\(gJ k).1=K.av (gi r 0).rV:=⟨_,_,rfl,B2 K ks r⟩
  simp only[vG z,ek,N,VR,cP,au.aw,B4];simp[jl,jU,gi,G.rV,G.rZ,G.bV]
def Mq(K V:Ct)(rZ:LL)(i:Nat)(r:LG):ep K V (rZ.set i r)=(ep K V rZ).set i (K.av (gi r 0).rV,V.av (gi r 1).rV,(gi r 2).iV.toNat):=by
 simp[ep,sD]
def Mr{α:Type}{l:List α}{i:Nat}{x:α}(f:α->α)(h:l[i]? = some x):l.modify i f=l.set i (f x):=by
 apply ou;intro j;rw[hY,eU];by_cases e:i=j
 ·subst e
  rw[iP rfl,iP (aX h),h];simp
 ·rw [iN e]
  simp[e]
def Ms{P:ai}{t:aD}{m k v:AV}{b:Bool}{H H':List au}(h:vD P t m k v H=some (b,H')):mr P t m k v (ax H)=some (ax H'):=by
 unfold vD at h;unfold mr;split at h
 case h_2=>cases h
 rename_i B F id w;rw[w];simp only[];split at h
 case h_2=>cases h
 rename_i K V rZ cl g;rw[bx g];simp only[au.aw];split at h
 case h_2=>cases h
 rename_i key val y z;split at h
 case h_2=>cases h
 rename_i a;cases h;rw[<-Ct.kV y,<-Ct.kV z,jX a];simp only[Ct.td,and_self,if_true,vC a,cP,au.aw];unfold ye nR mB;cases A:dZ K.ks key rZ 0 with
 |none=>simp[ep,gi,G.rV,G.rZ,G.iV]
 | some p =>
  obtain⟨_,d⟩:=pV (r:=p.2) (j:=p.1) A;rw[ff]at d;have q:(ep K V rZ)[p.1]? = some (K.av (gi p.2 0).rV,V.av (gi p.2 1).rV,(gi p.2 2).iV.toNat):=by simp[ep,d]
  simp only[fk,Mr _ q,Mq,Fa,cT];simp[gi,G.rV,G.rZ,G.iV]
def yp(P:ai)(t:aD)(m k:AV)(H:List au):Option (Bool × List au) :=
 match dJ P t,m with
 | some (a,_),.map id=>match H[id]? with
  | some (.map K V rZ cl)=>match K.read k,gP P a K with
   |some key,true=>some (true,H.set id (.map K V (Mg K.ks rZ key) cl))
   |_,_=>none
  |_=>none
 |_,_=>none
def Mt{α β:Type}(f:α->β):∀(l:List α) (i:Nat),(l.map f).eraseIdx i=(l.eraseIdx i).map f
 | [],_=>by simp
 |_::_,0=>by simp
 |_::l,i+1=>by simp[Mt f l i]
def VW{P:ai}{t:aD}{m k:AV}{b:Bool}{H H':List au}(h:yp P t m k H=some (b,H')):xM P t m k (ax H)=some (ax H'):=by
 unfold yp at h;unfold xM;split at h
 case h_2=>cases h
 rename_i v w id g;rw[g];simp only[];split at h
 case h_2=>cases h
 rename_i K V rZ cl d;rw[bx d];simp only[au.aw];split at h
 case h_2=>cases h
 rename_i key q a;cases h;rw[<-Ct.kV q,jX a];simp only[vC a,cP,au.aw];unfold Mg;cases y:dZ K.ks key rZ 0 with
 |none=>rfl
 |some p=>simp only[fk,ep,Mt]
def yq(P:ai)(t:aD)(x:AV)(H:List au):Option (Bool × List au) :=
 match cI P t,x with
 | .slice e sz _,.vQ w id al oF n=>match fl P e,H[id]? with
  | some z,some (.vQ ks v rZ)=>match ic ks (z.map .lit) with
   | some a=>if ks.length=w/\w=sz/\v=al/\z.length=sz/\0<sz then
     some (bf (oF+n) rZ.length,H.set id (.vQ ks v (rZ.take oF++dz n a++rZ.drop (oF+n)))) else none
   |none=>none
  |_,_=>none
 |_,_=>none
def VX{P:ai}{t:aD}{x:AV}{b:Bool}{H H':List au}(h:yq P t x H=some (b,H'))(k:b=true):xN P t x (ax H)=some (ax H'):=by
 unfold yq at h;unfold xN;split at h
 case h_2=>cases h
 rename_i e sz I w id al oF n q;rw[q];simp only[];split at h
 case h_2=>cases h
 rename_i z ks v rZ y d;rw[y,bx d];simp only[au.aw];split at h
 case h_2=>cases h
 rename_i J g;split at h
 case isFalse=>cases h
 rename_i A;obtain⟨rfl,rfl,rfl,B,F⟩:=A;simp only[a_,bk]at h;obtain⟨a,rfl⟩:=h;subst k;have a:=qL a;simp only[B,F,fJ,a,and_self,if_true,cP,au.aw,a_];rw[<-lO g];simp[List.map_take,List.map_drop]
def vH(P:ai)(t xt:aD)(s x:AV)(H:List au):Option (Bool × AV × List au) :=
 match cI P t,cI P xt,s,x with
 | .slice e sz a,.int _,.lit (.slice none 0 0),.lit (.int _ n)=>match fl P e with
  | some z=>match ra (z.map .lit) with
   | some ks=>match ic ks (z.map .lit) with
    | some b=>if z.length=sz/\0<sz/\a<=1048576/\ks.length=sz then
      some (aK 0 n&&aR n 1048576,.vQ sz H.length 0 0 n.toNat,H++[.vQ ks 0 (dz n.toNat b)]) else none
    |none=>none
   |none=>none
  |none=>none
 |_,_,_,_=>none
def VY{P:ai}{t xt:aD}{s x v:AV}{b:Bool}{H H':List au}(h:vH P t xt s x H=some (b,v,H'))(q:b=true):sR P t xt s x (ax H)=some (v,ax H'):=by
 unfold vH at h;unfold sR;split at h
 case h_2=>cases h
 rename_i e sz M k O n w d;rw[w,d];simp only[];split at h
 case h_2=>cases h
 rename_i z y;rw[y];simp only[];split at h
 case h_2=>cases h
 rename_i ks N;split at h
 case h_2=>cases h
 rename_i U g;split at h
 case isFalse=>cases h
 rename_i A;obtain⟨B,F,I,J⟩:=A;simp only[a_,bk]at h;obtain⟨a,rfl,rfl⟩:=h;subst q;simp only[be,bz,aE,dT]at a;simp only[B,F,I,a.1,a.2,and_self,if_true,jm,au.aw,fj,J,a_,bk,true_and];rw[<-lO g];simp
def Mu(ks:List Kd)(rZ:LL)(key:LG):Option Nat:=match dZ ks key rZ 0 with
 |some (_,r)=>te r
 |none=>none
def B5(mem:LL):Option Nat->Bool
 |some i=>cR i mem.length
 |none=>false
def pW(mem:LL):Option Nat->LG
 |some i=>mem.getD i []
 |none=>[]
def Mv(mem:LL)(j:Option Nat)(ks:List Kd)(key val:LG):LL:=match j with
 |some i=>mem.set i [.l (ye ks (gi (pW mem j) 0).rZ key val (gi (pW mem j) 1).iV.toNat),.i (nR ks (gi (pW mem j) 0).rZ key (gi (pW mem j) 1).iV.toNat:Nat)]
 |none=>mem
def Mw(rZ:LL)(st:Int):Bool:=match kX st rZ 0 with
 |some (_,r) => !aR 0 (gi r 1).iV
 |none=>false
def Mx(rZ:LL)(st:Int)(n:Nat):LL:=match kX st rZ 0 with
 |some (i,r)=>rZ.set i [gi r 0,.i n,gi r 2]
 |none=>rZ
def GU{P:ai}{b:aD}{K:Ct}(h:gP P b K=true)(key:LG):∀(rZ:LL) (i:Nat),eY P b (lP K.ks key) (gK (jV K rZ)) i =
  some ((dZ K.ks key rZ i).map fun p=>(p.1,AV.undef))
 | [],i=>rfl
 | r::rs,i=>by
  have g:=GU h key rs (i+1);have d:∃ a,kW a K.ks=true:=by
   unfold gP at h;split at h
   ·simp only[aE]at h; exact⟨_,h.1⟩
   ·cases h
  obtain⟨a,k⟩:=d;simp only[jV,gK,eM,eY,jX h,yd _ _ k,dZ];cases kz K.ks key (gi r 0).rV with
  |true=>rfl
  |false=>exact g
def My{K:Ct}{rZ:LL}{i:Nat}{r:LG}(h:rZ[i]? = some r):(jV K rZ)[i]? = some (K.av (gi r 0).rV,te r,(gi r 2).iV.toNat):=by
 unfold jV;rw[cX,h];rfl
def Mz{a b:Ct}{mem:LL}{i:Nat}(h:i<mem.length):(q_ a b mem)[i]? = some (ep a b (gi (mem.getD i []) 0).rZ,(gi (mem.getD i []) 1).iV.toNat):=by
 unfold q_;rw[cX,eh,cn h];rfl
def GV(P:ai)(t:aD)(m k:AV)(ok:Bool)(H:List au):Option (Bool × AV) :=
 match dJ P t,m with
 | some (b,d),.sub id l j=>match H[id]? with
  | some (.mm l' _ a g _ mem _)=>match a.read k,rh P d with
   | some key,some (h,z)=>match aH l l'&&(gP P b a&&g.same h) with
    | true=>some (B5 mem j,match ok with
      |true=>.tuple [g.av (tn a.ks (gi (pW mem j) 0).rZ key z),.lit (.bool (mB a.ks (gi (pW mem j) 0).rZ key))]
      |false=>g.av (tn a.ks (gi (pW mem j) 0).rZ key z))
    |false=>none
   |_,_=>none
  |_=>none
 | some (b,d),.map id=>match H[id]?,ok with
  | some (.mm l K _ _ rZ _ _),false=>match K.read k,iU P d with
   | some key,some (.lit (.map none))=>match gP P b K with
    |true=>some (true,.sub id l (Mu K.ks rZ key))
    |false=>none
   |_,_=>none
  |_,_=>none
 |_,_=>none
def VZ{P:ai}{t:aD}{m k v:AV}{ok b:Bool}{H:List au}(h:GV P t m k ok H=some (b,v))(F:b=true):gM P t m k ok (ax H)=none/\lL P t m k ok (ax H)=some v:=by
 unfold GV at h;unfold lL gM;split at h
 ·rename_i I J id l j d
  rw[d];refine⟨rfl,?_⟩;split at h
  case h_2=>cases h
  rename_i l' K y M rZ mem cl g;split at h
  case h_2=>cases h
  rename_i key V z q w;split at h
  case h_2=>cases h
  rename_i a;simp only[aE]at a;obtain⟨N,a,O⟩:=a;have e:=Ct.kU O;subst e;simp only[a_,bk]at h;obtain⟨hi,rfl⟩:=h;rw[F]at hi;cases j with
  |none=>cases hi
  | some i =>
   have B:i<mem.length:=by simpa[B5]using hi
   simp only[vk,d];rw[bx g];simp only[au.aw,N,Mz B,pW];rw[<-Ct.kV q,jX a,Me w];simp only[vC a];unfold tn mB;cases dZ y.ks key (gi (mem.getD i []) 0).rZ 0 with
   |none=>cases ok<;>rfl
   |some p=>cases ok<;>rfl
 ·rename_i I J id d
  rw[d];split at h
  case h_2=>cases h
  rename_i l K y M rZ mem cl g;split at h
  case h_2=>cases h
  rename_i key q w;split at h
  case h_2=>cases h
  rename_i a;simp only[sU,d];rw[bx g];simp only[au.aw];refine⟨trivial,?_⟩;rw[<-Ct.kV q,jX a,w];simp only[GU a];cases h;unfold Mu;cases U:dZ K.ks key rZ 0 with
  |none=>rfl
  | some p =>
   obtain⟨i,r⟩:=p;obtain⟨_,A⟩:=pV U;rw[ff]at A;simp only[fk,My A]
 ·cases h
def yr(P:ai)(t:aD)(m k v:AV)(H:List au):Option (Bool × List au) :=
 match dJ P t,m with
 | some (d,_),.sub id l j=>match H[id]? with
  | some (.mm l' K a b rZ mem cl)=>match a.read k,b.read v with
   | some key,some val=>match aH l l'&&gP P d a with
    |true=>some (B5 mem j,H.set id (.mm l' K a b rZ (Mv mem j a.ks key val) cl))
    |false=>none
   |_,_=>none
  |_=>none
 |_,_=>none
def V0(a b:Ct)(mem:LL)(i:Nat)(r:LG):q_ a b (mem.set i r)=(q_ a b mem).set i (ep a b (gi r 0).rZ,(gi r 1).iV.toNat):=by
 simp[q_,sD]
def V3(K:Ct)(rZ:LL)(i:Nat)(r:LG):jV K (rZ.set i r)=(jV K rZ).set i (K.av (gi r 0).rV,te r,(gi r 2).iV.toNat):=by
 simp[jV,sD]
def V4{P:ai}{t:aD}{m k v:AV}{b:Bool}{H H':List au}(h:yr P t m k v H=some (b,H'))(J:b=true) :
  sW P t m k v (ax H)=some (ax H')/\mr P t m k v (ax H)=none/\pQ P t m k v (ax H)=none:=by
 unfold yr at h;unfold sW mr pQ;split at h
 case h_2=>cases h
 rename_i V W id l j M;rw[M];refine⟨?_,rfl,rfl⟩;split at h
 case h_2=>cases h
 rename_i l' K a g rZ mem cl B;split at h
 case h_2=>cases h
 rename_i key val N O;split at h
 case h_2=>cases h
 rename_i q;simp only[aE]at q;obtain⟨w,q⟩:=q;have e:=bA w;subst e;simp only[a_,bk]at h;obtain⟨hi,rfl⟩:=h;rw[J]at hi;cases j with
 |none=>cases hi
 | some i =>
  have F:i<mem.length:=by simpa[B5]using hi
  simp only[];rw[bx B];simp only[au.aw,Mz F,w];rw[<-Ct.kV N,<-Ct.kV O,jX q];simp only[Ct.td,and_self,if_true,vC q,cP,au.aw,Mv,pW,V0];generalize mem.getD i []=d;have y:∀(X:LL) (n:Nat),(gi [G.l X,G.i n] 0).rZ=X:=fun _ _=>rfl;have z:∀(X:LL) (n:Nat),(gi [G.l X,G.i n] 1).iV.toNat=n:=fun _ _=>rfl;unfold ye nR mB;cases U:dZ a.ks key (gi d 0).rZ 0 with
  | none =>
   simp only[uJ,EX,cF,y,z];rw[show ep a g ((gi d 0).rZ++[[.l [key],.l [val],.i (gi d 1).iV.toNat]])=ep a g (gi d 0).rZ++[(a.av key,g.av val,(gi d 1).iV.toNat)] from by
    simp only[ep,qJ,eM,pA];rfl]
  | some p =>
   obtain⟨_,A⟩:=pV (r:=p.2) (j:=p.1) U;rw[ff]at A;have I:(ep a g (gi d 0).rZ)[p.1]? = some (a.av (gi p.2 0).rV,g.av (gi p.2 1).rV,(gi p.2 2).iV.toNat):=by simp[ep,A]
   simp only[fk,Mr _ I,Fa,cT,y,z,Mq];rfl
def yt(P:ai)(t:aD)(m k:AV)(H:List au):Option (Bool × AV × List au) :=
 match dJ P t,m with
 | some (a,b),.map id=>match H[id]? with
  | some (.mm l K d g rZ mem cl)=>match K.read k,iU P b with
   | some key,some (.lit (.map none))=>match gP P a K with
    |true=>some (!mB K.ks rZ key,.tuple [.sub id l none,.lit (.int .i64 (cl:Nat))],H.set id (.mm l K d g (rZ++[[.l [key],.i (-1),.i cl]]) mem (cl+1)))
    |false=>none
   |_,_=>none
  |_=>none
 |_,_=>none
def V5{P:ai}{t:aD}{m k v:AV}{b:Bool}{H H':List au}(h:yt P t m k H=some (b,v,H'))(q:b=true) :
  kR P t m k (ax H)=some (v,ax H')/\jT P t m k (ax H)=none:=by
 unfold yt at h;unfold kR jT;split at h
 case h_2=>cases h
 rename_i B F id w;rw[w];split at h
 case h_2=>cases h
 rename_i l K I J rZ mem cl g;simp only[];rw[bx g];simp only[au.aw];split at h
 case h_2=>cases h
 rename_i key y z;split at h
 case h_2=>cases h
 rename_i d;simp only[a_,bk]at h;obtain⟨a,rfl,rfl⟩:=h;rw[q]at a;rw[<-Ct.kV y,jX d,z];simp only[Ct.td,GU d,and_true];unfold mB at a;cases A:dZ K.ks key rZ 0 with
 |some p=>rw[A]at a; cases a
 | none =>
  simp only[uJ,cP,au.aw];rw[show jV K (rZ++[[.l [key],.i (-1),.i cl]])=jV K rZ++[(K.av key,none,cl)] from by
   simp only[jV,qJ,eM,pA];rfl]
  rfl
def MA{K:Ct}{st:Int}:∀{rZ:LL} {i:Nat},(kX st rZ i).map (·.1)=(sX (jV K rZ) st).map (·+i)
 | [],_=>rfl
 | x::rs,i=>by
  have a:=MA (K:=K) (st:=st) (rZ:=rs) (i:=i+1);unfold sX at a|-;simp only[kX,jV,eM,J2]at a|-;cases b:((gi x 2).iV.toNat:Int)==st with
  |true=>simp
  | false =>
   simp only[cF,a,me,if_false,aj4];congr 1
   funext n
   simp only[aj5];omega
def yu(m s v:AV)(H:List au):Option (Bool × List au) :=
 match m,s,v with
 | .map id,.lit (.int .i64 st),.map j=>match H[id]?,H[j]? with
  | some (.mm l K a b rZ mem cl),some (.map h k d g)=>match a.same h&&b.same k with
   |true=>some (Mw rZ st,(H.set id (.mm l K a b (Mx rZ st mem.length) (mem++[[.l d,.i g]]) cl)).set j (.raw .dead))
   |false=>none
  |_,_=>none
 |_,_,_=>none
def V6{m s v:AV}{b:Bool}{H H':List au}(h:yu m s v H=some (b,H'))(w:b=true) :
  nI m s v (ax H)=some (ax H')/\mu m s v (ax H)=none:=by
 unfold yu at h;unfold nI mu;split at h
 case h_2=>cases h
 rename_i id st j;split at h
 case h_2=>cases h
 rename_i l K M N rZ mem cl O U I J t z;refine⟨?_,rfl⟩;simp only[];rw[bx t,bx z];simp only[au.aw];split at h
 case h_2=>cases h
 rename_i g;simp only[aE]at g;have A:=Ct.kU g.1;have B:=Ct.kU g.2;subst A B;simp only[a_,bk]at h;obtain⟨a,rfl⟩:=h;rw[w]at a;unfold Mw at a;unfold Mx;cases d:kX st rZ 0 with
 |none=>rw[d]at a; cases a
 | some p =>
  obtain⟨i,r⟩:=p;rw[d]at a;obtain⟨_,k⟩:=GS d;rw[ff]at k;have hi:sX (jV K rZ) st=some i:=by
   have:=MA (K:=K) (st:=st) (rZ:=rZ) (i:=0);rw[d]at this;cases q:sX (jV K rZ) st with
   |none=>rw[q]at this; cases this
   |some y=>rw[q]at this; simp at this; rw[this]
  have hm:te r=none:=by
   unfold te;cases F:aR 0 (gi r 1).iV with
   |true=>simp[F]at a
   |false=>rfl
  rw[hi];simp only[My k,hm,cP,au.aw,V3];simp[te,q_,gi,G.rV,G.rZ,G.iV,aR,show ∀ n,bf 0 n=true from fun n=>Nat.ble_eq_true_of_le (fO n)]
def kA(P:ai)(r:bX->AV)(H:List au):Op->Option (Bool × AV × List au)
 | .alloc t=>match Bx P t with
  |some e=>if km (ax H) 0=true then some (true,.ptr H.length 0 0 0 0,H++[.raw (.cD 0 t e uy)]) else none
  | none=>match fl P t with
   |some z=>some (true,.ptr H.length 0 0 0 0,H++[.raw (.box (z.map .lit))])
   |none=>none
 | .box _ x=>match nE (r x) with
  |some g=>some (true,.ptr H.length 0 0 0 0,H++[.raw (.box g)])
  |none=>none
 | .store t a x=>match vw P t (r a) (r x) H with
  |some (b,H')=>some (b,.undef,H')
  | none=>match x8 P t (r a) (r x) H with
   |some (b,H')=>some (b,.undef,H')
   | none=>match x9 P t (r a) (r x) H with
    |some (b,H')=>some (b,.undef,H')
    |none=>none
 |.makeSlice t l c=>x_ P t (r l) (r c) H
 |.buildSlice t n parts=>vB P t n (parts.toList.map fun p=>(p.1,r p.2)) H
 | .range t x=>match cI P t,r x with
  |.str,.lit (.string s)=>some (true,.ptr H.length 0 0 0 0,H++[.raw (.iter s 0)])
  |_,_=>none
 | .next it true=>match r it with
  | .ptr id 0 _ 0 0=>match H[id]? with
   | some (.raw (.iter s pos))=>if pos<s.size then some (true,.tuple [.lit (.bool true),.lit (goInt pos),.lit (.int .i32 (qH s pos).1)],H.set id (.raw (.iter s (pos+(qH s pos).2))))
     else some (true,.tuple [.lit (.bool false)],H)
   |_=>none
  |_=>none
 | .makeMap t none=>match dJ P t with
  | some (h,d)=>match rh P h,rh P d with
   |some (K,_),some (V,_)=>some (true,.map H.length,H++[.map K V [] 0])
   | some (K,_),none=>match dJ P d with
    |some _=>some (true,.map H.length,H++[.map K K [] 0])
    | none=>match cI P d with
     | .array 2 e 1 _=>match xG P e with
      |some ks=>some (true,.map H.length,H++[.map K (.agg [.list ks,.list ks]) [] 0])
      |none=>none
     |_=>none
   |_,_=>none
  |none=>none
 | .mapUpdate t m k v=>match vD P t (r m) (r k) (r v) H with
  |some (b,H')=>some (b,.undef,H')
  | none=>match yg P t (r m) (r k) (r v) H with
   |some (b,H')=>some (b,.undef,H')
   | none=>match yr P t (r m) (r k) (r v) H with
    |some (b,H')=>some (b,.undef,H')
    | none=>match yo P t (r m) (r k) (r v) H with
     |some (b,H')=>some (b,.undef,H')
     |none=>none
 | .lookup t m k false=>match yf P t (r m) (r k) H with
  |some y=>some y
  |none=>yn P t (r m) (r k) H
 | .mapEntry t m k=>match yh P t (r m) (r k) H with
  |some y=>some y
  |none=>yt P t (r m) (r k) H
 | .entryStore _ m s x=>match yk (r m) (r s) (r x) H with
  |some (b,H')=>some (b,.undef,H')
  | none=>match yu (r m) (r s) (r x) H with
   |some (b,H')=>some (b,.undef,H')
   |none=>none
 | .insert t m k v=>match vD P t (r m) (r k) (r v) H with
  |some (b,H')=>some (b,.undef,H')
  |none=>none
 | .call c=>match c.callee with
  | .builtin .append=>match c.args.toList,c.argTypes.toList with
   | [s,x],[t,xt]=>match cI P xt with
    |.int _=>vH P t xt (r s) (r x) H
    |_=>vz P t xt (r s) (r x) H
   |_,_=>none
  | .builtin .clear=>match c.args.toList,c.argTypes.toList with
   | [x],[t]=>match yq P t (r x) H with
    |some (b,H')=>some (b,.tuple [],H')
    |none=>none
   |_,_=>none
  | .builtin .delete=>match c.args.toList,c.argTypes.toList with
   | [x,k],t::_=>match yp P t (r x) (r k) H with
    |some (b,H')=>some (b,.tuple [],H')
    |none=>none
   |_,_=>none
  |_=>none
 |_=>none
def V7{P:ai}{t xt:aD}{s x:AV}{H:List ah}(h:∀ k,cI P xt≠.int k):sR P t xt s x H=none:=by
 unfold sR;split
 ·rename_i a
  exact(h _ a).elim
 ·rfl
def GW{P:ai}{r:bX->AV}{H H':List au}{o:Op}{v:AV}{b:Bool}(h:kA P r H o=some (b,v,H'))(w:b=true):du P r (ax H) o=some (v,ax H'):=by
 cases o<;>simp only[kA]at h<;>try cases h
 case alloc t =>
  split at h
  ·rename_i e he
   split at h
   ·rename_i X
    cases h;simp only[du,sO,he,X,if_true,fj,jm,au.aw]
   ·cases h
  ·rename_i he
   split at h
   ·rename_i z N; cases h; simp only[du,sO,he,N,fj,jm,au.aw]
   ·cases h
 case box t x =>
  split at h
  ·rename_i z N; cases h; simp only[du,Bz,N,fj,jm,au.aw]
  ·cases h
 case store t a x =>
  split at h
  ·rename_i A H1 d; cases h; simp only[du,GL d w]
  ·split at h
   ·rename_i A H1 d
    cases h;obtain⟨g,q⟩:=VF d w;simp only[du,g,q]
   ·split at h
    ·rename_i A H1 d
     cases h;obtain⟨g,q,B⟩:=VG d w;simp only[du,g,q,B]
    ·cases h
 case makeSlice t l c=>simp only[du]; exact VL h w
 case buildSlice t n ps=>simp only[du]; exact VM h
 case range t x =>
  split at h
  ·rename_i s Y O
   cases h;simp only[du,BC,Y,O,fj,jm,au.aw]
  ·cases h
 case next it isString =>
  cases isString with
  |false=>cases h
  | true =>
   simp only[]at h;split at h
   ·rename_i id k O
    split at h
    ·rename_i s pos V
     simp only[du,BD,O,bx V,au.aw];split at h
     ·rename_i M
      cases h;rw[iP M,cP];rfl
     ·rename_i M
      cases h;rw[iN M]
    ·cases h
   ·cases h
 case makeMap t res =>
  cases res with
  |some _=>cases h
  | none =>
   simp only[]at h;split at h
   ·split at h
    ·cases h
     simp only[du,fj,jm,au.aw];rfl
    ·split at h
     ·cases h
      simp only[du,fj,jm,au.aw];rfl
     ·split at h
      ·split at h
       ·cases h
        simp only[du,fj,jm,au.aw];rfl
       ·cases h
      ·cases h
    ·cases h
   ·cases h
 case mapUpdate t m k x =>
  split at h
  ·rename_i A H1 d
   cases h;simp only[du,Ms d]
  ·split at h
   ·rename_i A H1 d
    cases h;obtain⟨g,q⟩:=VT d w;simp only[du,g,q]
   ·split at h
    ·rename_i A H1 d
     cases h;obtain⟨g,q,B⟩:=V4 d w;simp only[du,g,q,B]
    ·split at h
     ·rename_i A H1 d
      cases h;obtain⟨g,q,B,g4⟩:=VQ d w;simp only[du,g,q,B,g4]
     ·cases h
 case lookup t m k ok =>
  cases ok with
  |true=>cases h
  | false =>
   simp only[]at h;split at h
   ·rename_i y U
    cases h;obtain⟨g,q⟩:=VS U w;simp only[du,g,q]
   ·obtain ⟨g, q, B⟩ := VP h w
    simp only[du,g,q,B]
 case mapEntry t m k =>
  split at h
  ·rename_i y U
   cases h;simp only[du,VU U w]
  ·obtain ⟨g, q⟩ := V5 h w
   simp only[du,g,q]
 case entryStore t m s x =>
  split at h
  ·rename_i A H1 d
   cases h;simp only[du,VV d w]
  ·split at h
   ·rename_i A H1 d
    cases h;obtain⟨g,q⟩:=V6 d w;simp only[du,g,q]
   ·cases h
 case insert t m k x =>
  split at h
  ·rename_i A H1 d
   cases h;simp only[du,Ms d]
  ·cases h
 case call c =>
  simp only[du,BK];split at h
  ·rename_i F
   rw[F];split at h
   ·rename_i I J
    simp only[I,J];split at h
    ·rw[VY h w]
    ·rename_i W
     rw[V7 W];exact VJ h w
   ·cases h
  ·rename_i F
   rw[F];split at h
   ·rename_i I J
    simp only[I,J];split at h
    ·rename_i d
     cases h;rw[VX d w]
    ·cases h
   ·cases h
  ·rename_i F
   rw[F];split at h
   ·rename_i I J
    simp only[I,J];split at h
    ·rename_i d
     cases h;rw[VW d]
    ·cases h
   ·cases h
  ·cases h
end Go.AL

namespace Go.AL
open Go
variable [Dr]
def vI(n:Int):Option (Bool × AV):=some (aF n,.lit (.int .i64 n))
def GX(P:ai)(op:BinOp)(t:aD)(g:Bool)(x y:AV):Option (Bool × AV) :=
 match op,x,y with
 |.add,.lit (.int .i64 a),.lit (.int .i64 b)=>vI (a+b)
 |.sub,.lit (.int .i64 a),.lit (.int .i64 b)=>vI (a-b)
 |.mul,.lit (.int .i64 a),.lit (.int .i64 b)=>vI (a*b)
 |.quo,.lit (.int .i64 a),.lit (.int .i64 b)=>some (!(b==0)&&aF (a.tdiv b),.lit (.int .i64 (a.tdiv b)))
 |.rem,.lit (.int .i64 a),.lit (.int .i64 b)=>some (!(b==0),.lit (.int .i64 (a.tmod b)))
 |.add,.lit (.string a),.lit (.string b)=>some (bf (a.size+b.size) 9223372036854775807,.lit (.string (a++b)))
 |.lss,.lit (.int k a),.lit (.int d b)=>if k=d then some (true,.lit (.bool (aK a b))) else none
 |.leq,.lit (.int k a),.lit (.int d b)=>if k=d then some (true,.lit (.bool (aR a b))) else none
 |.gtr,.lit (.int k a),.lit (.int d b)=>if k=d then some (true,.lit (.bool (aK b a))) else none
 |.geq,.lit (.int k a),.lit (.int d b)=>if k=d then some (true,.lit (.bool (aR b a))) else none
 |.and,.lit (.int k a),.lit (.int d b)=>if k=d then some (true,.lit (.int k (FD k a b))) else none
 |.or,.lit (.int k a),.lit (.int d b)=>if k=d then some (true,.lit (.int k (Kp k a b))) else none
 |.xor,.lit (.int k a),.lit (.int d b)=>if k=d then some (true,.lit (.int k (Kr k a b))) else none
 |.shl,.lit (.int k a),.lit (.int _ b)=>some (cA b,.lit (.int k (FE k a b)))
 |.shr,.lit (.int k a),.lit (.int _ b)=>some (cA b,.lit (.int k (FF k a b)))
 | op,.listF ks rZ,.lit (.slice none 0 0)=>match P.underlying t,lJ op false with
  |some (.slice _),some v=>some (cR 0 rZ.length,v)
  |_,_=>none
 | op,.vQ w id al oF m,.lit (.slice none 0 0)=>match P.underlying t,lJ op false with
  |some (.slice _),some v=>some (cR 0 m,v)
  |_,_=>none
 | _,_,_=>match iF P op t g x y with
  |some v=>some (true,v)
  |none=>none
def GY(m sz:Nat)(cells:List AV):Option (Kd × LL) :=
 match x6 (cells.headD .undef)with
 | some k=>match oI [k] (cells.map fun c=>[c]) with
  |some rZ=>if sz=1/\m=cells.length then some (k,rZ) else none
  |none=>none
 |none=>none
def V8{m sz:Nat}{cells:List AV}{k:Kd}{rZ:LL}(h:GY m sz cells=some (k,rZ)){j:Nat}(b:j<m) :
  a8 [k] (rZ.getD j [])=(cells.drop (j*sz)).take sz:=by
 unfold GY at h;split at h
 ·split at h
  ·rename_i q d
   split at h
   ·rename_i g
    obtain⟨rfl,rfl⟩:=g;cases h;have e:=tf d;have t:rZ.length=cells.length:=by have:=congrArg Fb e; simpa using this
    have a:(rZ.map (a8 [k]))[j]? = (cells.map fun c=>[c])[j]? := by rw[e]
    rw[x7 (by omega),cX,cn b]at a;simp only[fk,a_]at a;rw[a,J7,List.drop_eq_getElem_cons b,List.take_succ_cons,List.take_zero]
   ·cases h
  ·cases h
 ·cases h
def GZ(rZ:List (List AV)):Option (List Kd × LL):=match ra (rZ.headD [])with
 | some ks=>match oI ks rZ with
  |some a=>some (ks,a)
  |none=>none
 |none=>none
def V9{rZ:List (List AV)}{ks:List Kd}{a:LL}(h:GZ rZ=some (ks,a)):a.map (a8 ks)=rZ:=by
 unfold GZ at h;split at h
 ·split at h
  ·rename_i d b
   cases h;exact tf b
  ·cases h
 ·cases h
def G0(k:SK)(x i:AV):Option (Bool × AV) :=
 match k,x,i with
 |.slice _ sz _,.listF ks rZ,.lit (.int _ j)=>if ks.length=sz then some (cA j&&aK j (rZ.length:Int),.cptr (a8 ks (rZ.getD j.toNat []))) else none
 |.slice _ sz _,.vQ w id al oF m,.lit (.int _ j)=>if w=sz then some (cA j&&aK j (m:Int),.ptr id al w (oF+j.toNat) 0) else none
 | .slice _ sz _,.list w rZ,.lit (.int a j)=>match GZ rZ with
  |some (ks,b)=>if w=sz then some (cA j&&aK j (b.length:Int),.cptr (a8 ks (b.getD j.toNat []))) else none
  | none=>match jS k (.list w rZ) (.lit (.int a j)) with
   |some v=>some (true,v)
   |none=>none
 |.slice _ sz _,.svec id l h m,.lit (.int _ j)=>some (cA j&&aK j (m:Int),.sptr id l h sz j.toNat 0)
 | .array m _ sz _,.cptr cells,.lit (.int a j)=>match GY m sz cells with
  |some (g,rZ)=>some (cA j&&aK j (m:Int),.cptr (a8 [g] (rZ.getD j.toNat [])))
  | none=>match jS k (.cptr cells) (.lit (.int a j)) with
   |some v=>some (true,v)
   |none=>none
 |.array m _ sz _,.ptr id al w row d,.lit (.int _ j)=>some (cA j&&aK j (m:Int),.ptr id al w row (d+j.toNat*sz))
 | _,_,_=>match jS k x i with
  |some v=>some (true,v)
  |none=>none
def G1(k:SK)(x i:AV):Option (Bool × AV) :=
 match k,x,i with
 |.str,.lit (.string s),.lit (.int _ j)=>some (cA j&&aK j (s.size:Int),.lit (.int .u8 ((s.data.toList.getD j.toNat 0).toNat)))
 | .array m _ 1 false,.agg cells,.lit (.int _ j)=>match jW cells with
  |some l=>bif bf m l.length then some (cA j&&aK j (m:Int),.lit (.int .i64 (l.getD j.toNat 0))) else none
  | none=>match qU k x i with
   |some v=>some (true,v)
   |none=>none
 | _,_,_=>match qU k x i with
  |some v=>some (true,v)
  |none=>none
def G2(op:UnOp)(x:AV):Option (Bool × AV) :=
 match op,x with
 |.neg,.lit (.int .i64 n)=>some (aF (0-n),.lit (.int .i64 (0-n)))
 | _,_=>match u7 op x with
  |some v=>some (true,v)
  |none=>none
def G3(P:ai)(s d:aD)(x:AV):Option (Bool × AV) :=
 match P.underlying s,cI P d,x with
 |some _,.int .i64,.lit (.int _ n)=>some (aF n,.lit (.int .i64 n))
 | _,_,_=>match u_ P s d x with
  |some v=>some (true,v)
  |none=>none
def B6(P:ai)(r:bX->AV)(o:Op):Option (Bool × AV) :=
 match o with
 |.indexAddr t x i=>G0 (cI P t) (r x) (r i)
 |.index t x i=>G1 (cI P t) (r x) (r i)
 |.binOp op t x y _=>GX P op t (mv x||mv y) (r x) (r y)
 |.slice t x lo hi mx=>GO P t (r x) (lo.map r) (hi.map r) (mx.map r)
 |.unOp op _ x=>G2 op (r x)
 |.convert s d x=>G3 P s d (r x)
 | o=>match jh P r o with
  |some v=>some (true,v)
  |none=>none
def pX{x:Option AV}{b:Bool}{v:AV} (h:(match x with|some v=>some (true,v)|none=>none)=some (b,v)):x=some v:=by
 split at h
 ·cases h; rfl
 ·cases h
def tp{n:Int}(h:aF n=true):IntKind.i64.wrap n=n:=by
 rw[cK]at h;simp[IntKind.wrap,IntKind.bits,IntKind.signed];omega
def V_{P:ai}{op:BinOp}{t:aD}{w:Bool}{x y v:AV}{b:Bool}(h:GX P op t w x y=some (b,v))(d:b=true):iF P op t w x y=some v:=by
  unfold GX at h;split at h
  · simp only [vI, a_, bk] at h
    obtain⟨a,rfl⟩:=h;subst d;simp[iF,jC,nB,tp a]
  · simp only [vI, a_, bk] at h
    obtain⟨a,rfl⟩:=h;subst d;simp[iF,jC,nB,tp a]
  · simp only [vI, a_, bk] at h
    obtain⟨a,rfl⟩:=h;subst d;simp[iF,jC,nB,tp a]
  · simp only [a_, bk] at h
    obtain⟨a,rfl⟩:=h;subst d;simp only[aE,qK,beq_eq_false_iff_ne]at a;simp[iF,jC,nB,a.1,tp a.2]
  · simp only [a_, bk] at h
    obtain⟨a,rfl⟩:=h;subst d;simp only[qK,beq_eq_false_iff_ne]at a;simp[iF,jC,nB,a]
  · simp only [a_, bk] at h
    obtain⟨a,rfl⟩:=h;subst d;have q:=qL a;have g:∀ k:Nat,k<=9223372036854775807->¬ ((k:Int)>IntKind.i64.max):=fun k z=>by
      show ¬ ((k:Int)>(9223372036854775807:Int))
      omega
    simp only[iF,jC,FG,iN (g _ q)]
  all_goals first
    |exact pX h
    | (split at h
       case isFalse=>cases h
       rename_i z;subst z;cases h;simp[iF,jC,nB,be,bz])
    | (simp only [a_, bk] at h
       obtain⟨a,rfl⟩:=h;subst d;simp only[dY,dT]at a;simp only[iF,jC,iN (Int.not_lt.2 a)])
    | (split at h
       · rename_i a q
         simp only[a_,bk]at h;obtain⟨g,rfl⟩:=h;subst d;simp only[dH]at g;simp only[iF,a,iP g,q]
       · cases h)
def Wa{k:SK}{x i v:AV}{b:Bool}(h:G0 k x i=some (b,v))(d:b=true):jS k x i=some v:=by
 unfold G0 at h;split at h
 ·split at h
  ·rename_i g
   simp only[a_,bk]at h;obtain⟨a,rfl⟩:=h;subst d;simp only[dY,be,aE,dT]at a;simp[jS,g,a.1,a.2]
  ·cases h
 ·split at h
  ·rename_i g
   simp only[a_,bk]at h;obtain⟨a,rfl⟩:=h;subst d;simp only[dY,be,aE,dT]at a;simp[jS,g,a.1,a.2]
  ·cases h
 ·split at h
  ·rename_i ks w q
   split at h
   ·rename_i g
    simp only[a_,bk]at h;obtain⟨a,rfl⟩:=h;subst d;simp only[dY,be,aE,dT]at a;have e:=V9 q;subst e;simp only[jS,fJ,cX];rw[iP ⟨g,a.1,a.2⟩,cn (by omega),eh,cn (by omega)];rfl
   ·cases h
  ·exact pX h
 ·simp only [a_, bk] at h
  obtain⟨a,rfl⟩:=h;subst d;simp only[dY,be,aE,dT]at a;simp[jS,a.1,a.2]
 ·split at h
  ·rename_i y rZ t
   simp only[a_,bk]at h;obtain⟨a,rfl⟩:=h;subst d;simp only[dY,be,aE,dT]at a;rw[V8 t (by omega)];simp[jS,a.1,a.2]
  ·exact pX h
 ·simp only [a_, bk] at h
  obtain⟨a,rfl⟩:=h;subst d;simp only[dY,be,aE,dT]at a;simp[jS,a.1,a.2]
 ·exact pX h
def Wb{k:SK}{x i v:AV}{b:Bool}(h:G1 k x i=some (b,v))(g:b=true):qU k x i=some v:=by
 unfold G1 at h;split at h
 ·rename_i s q j
  simp only[a_,bk]at h;obtain⟨a,rfl⟩:=h;subst g;simp only[dY,be,aE,dT]at a;have d:j.toNat<s.size:=by omega
  have e:s[j.toNat]? = some (s.data.toList.getD j.toNat 0):=by
   have t:j.toNat<s.data.toList.length:=by simpa using d
   rw[eh,cn t];simp only[getElem?,decidableGetElem?,d,dite_true,Option.getD_some];rfl
  simp only[qU,a.1,a.2,and_self,if_true,e]
 ·rename_i m e cells q j
  split at h
  ·rename_i l w
   cases hm:bf m l.length with
   |false=>rw[hm]at h; cases h
   | true =>
    rw[hm]at h;simp only[cT,a_,bk]at h;obtain⟨a,rfl⟩:=h;subst g;rw[cu]at hm;simp only[dY,be,aE,dT]at a;have y:=GI w j.toNat (by omega);simp only[qU,a.1,a.2,and_self,if_true,iQ,me,if_false,J7,sA,np,y]
  ·exact pX h
 ·exact pX h
def Wc{op:UnOp}{x v:AV}{b:Bool}(h:G2 op x=some (b,v))(a:b=true):u7 op x=some v:=by
 unfold G2 at h;split at h
 ·simp only [a_, bk] at h
  obtain⟨d,rfl⟩:=h;subst a;simp only[u7,tp d]
 ·exact pX h
def Wd{P:ai}{s d:aD}{x v:AV}{b:Bool}(h:G3 P s d x=some (b,v))(a:b=true):u_ P s d x=some v:=by
 unfold G3 at h;split at h
 ·rename_i g k
  simp only[a_,bk]at h;obtain⟨q,rfl⟩:=h;subst a;simp only[u_,g,k,tp q]
 ·exact pX h
def MB{P:ai}{r:bX->AV}{o:Op}{b:Bool}{v:AV}(h:B6 P r o=some (b,v))(a:b=true):jh P r o=some v:=by
 cases o<;>simp only[B6]at h<;>try exact pX h
 case binOp=>simp only[jh]; exact V_ h a
 case indexAddr=>simp only[jh]; exact Wa h a
 case index=>simp only[jh]; exact Wb h a
 case slice=>simp only[jh]; exact VK h a
 case unOp=>simp only[jh]; exact Wc h a
 case convert=>simp only[jh]; exact Wd h a
inductive bh where
 |fail
 |done (x:cJ) (s:aI)
 |ask (b:Bool) (t e:bh)
 |side (b:Bool) (t:bh)
def bh.holds(Q:cJ->aI->Prop):bh->Prop
 |.fail=>False
 |.done x s=>Q x s
 |.ask b t e=>(b=true->t.holds Q)/\(b=false->e.holds Q)
 |.side b t=>b=true/\t.holds Q
structure aJ where
 pf:bC->Bool
 T:bC->List AV->Option (Bool × AV)
 W:bC->List AV->List au->Option (Bool × AV × List au)
 C:bC->List AV->List au->List Nat
 I:bC->List AV->List au->Option bh:=fun _ _ _=>none
 N:bC->Bool:=fun _=>false
 U:bC->Bool:=fun _=>true
structure aL (P:ai) (τ:aJ):Prop where
 T:∀ f args b v,τ.T f args=some (b,v)->b=true->fM P f=true/\nJ P f args v
 W:∀ f args H b v H',τ.W f args H=some (b,v,H')->b=true->fM P f=true/\eK P f args (ax H) v (ax H')
 C:∀ f args H b v H',τ.W f args H=some (b,v,H')->∀ A,A∉τ.C f args H->A<H.length->H'[A]? = H[A]?
 I:∀ f args H t,τ.I f args H=some t->∀ Q:cJ->aI->Prop,t.holds Q->fM P f=true/\∃ v H',eK P f args (ax H) v (ax H')/\(∀ A,A∉τ.C f args H->A<H.length->H'[A]? = H[A]?)/\Q .normal ⟨[v],H'⟩
 F:(∀ f,τ.U f=false->∀ args H,τ.W f args H=none/\τ.C f args H=[])/\∀ f,τ.N f=true->∀ args H b v H',τ.W f args H=some (b,v,H')->∀ id o,id<H.length->id∉τ.C f args H ->
  τ.W f args (H.set id o)=some (b,v,H'.set id o)/\τ.C f args (H.set id o)=τ.C f args H
def bh.yv(k:AV->List au->bh):bh->bh
 |.fail=>.fail
 |.done _ s=>k (s.fr.headD .undef) s.H
 |.ask b t e=>.ask b (t.yv k) (e.yv k)
 |.side b t=>.side b (t.yv k)
def bh.B7{k:AV->List au->bh}{Q:cJ->aI->Prop}:∀{t:bh},(t.yv k).holds Q->t.holds fun _ s=>(k (s.fr.headD .undef) s.H).holds Q
 |.fail,h=>h
 |.done _ _,h=>h
 |.ask _ t e,h=>⟨fun a=>B7 (t:=t) (h.1 a),fun a=>B7 (t:=e) (h.2 a)⟩
 |.side _ t,h=>⟨h.1,B7 (t:=t) h.2⟩
inductive Want where
 |bad|yes|no
 |test (t:Tmp) (b:Bool) (want:Bool)
def rj(af:Array aQ)(fr:List AV)(o:aQ):Want :=
 match o.guard with
 |none=>.yes
 | some (j,a)=>match (af[j]?).bind (·.dst) with
  | some t=>match fr[t]? with
   |some (.lit (.bool b))=>.test t b a
   |some (.tuple [])=>.no
   |_=>.bad
  |none=>.bad
def B8:AV->Option Bool
 |.lit (.bool b)=>some b
 |_=>none
def yw(H:List au):AV->Bool × AV
 | .vQ w id al oF n=>match H[id]? with
  |some (.vQ ks v rZ)=>if al=v/\ks.length=w/\oF=0 then (aH n rZ.length,.listF ks rZ) else (true,.vQ w id al oF n)
  |_=>(true,.vQ w id al oF n)
 | .ptr id al k row b=>match H[id]? with
  |some (.raw (.box cells))=>if al=0/\row=0/\b=0/\AV.cb cells=true then (true,.cptr cells) else (true,.ptr id al k row b)
  |_=>(true,.ptr id al k row b)
 |a=>(true,a)
def tq(H:List au):List AV->Bool × List AV
 | []=>(true,[])
 | a::as=>match yw H a,tq H as with
  |(b,g),(h,d)=>(b&&h,g::d)
def B9(H:List au):AV->Bool × AV
 | .clo f caps=>match tq H caps with
  |(b,d)=>(b,.clo f d)
 |a=>yw H a
def rk(H:List au):List AV->Bool × List AV
 | []=>(true,[])
 | a::as=>match B9 H a,rk H as with
  |(b,g),(h,d)=>(b&&h,g::d)
def B_:List AV->Bool
 | []=>true
 |.lit _::as=>B_ as
 |_::_=>false
def Ca:AV->Bool
 |.lit _=>true
 |.tuple a=>B_ a
 |_=>false
def G4(P:ai)(r:bX->AV)(H:List au)(o:Op):Option AV :=
 match o with
 | .call c=>match c.callee,c.args.toList,c.argTypes.toList with
  | .builtin .len,[a],[t]=>match dJ P t,r a with
   | some _,.map id=>match H[id]? with
    |some (.map _ _ rZ _)=>some (.lit (.int .i64 rZ.length))
    |_=>none
   |_,_=>none
  |_,_,_=>none
 |_=>none
def We{P:ai}{r:bX->AV}{H:List au}{o:Op}{v:AV}(h:G4 P r H o=some v):fS P r (ax H) o=some v:=by
 unfold G4 at h;split at h
 ·rename_i c
  simp only[fS];split at h
  ·rename_i a t d g k
   unfold qY;rw[d,g,k];simp only[];split at h
   ·rename_i p id q hm
    rw[q,hm];simp only[];split at h
    ·rename_i K V rZ cl b
     cases h;rw[bx b];simp[au.aw,ep]
    ·cases h
   ·cases h
  ·cases h
 ·cases h
def G5(v:AV)(H:List au):Option (Bool × AV × List au) :=
 match v with
 | .vQ w id al oF n=>match H[id]? with
  |some (.vQ ks u rZ)=>if al=u/\oF=0/\w=ks.length then some (aH n rZ.length,.listF ks rZ,H.set id (.raw .dead)) else none
  |_=>none
 | .agg (.vQ w id al oF n::a)=>match H[id]? with
  |some (.vQ ks u rZ)=>if al=u/\oF=0/\w=ks.length then some (aH n rZ.length,.agg (.listF ks rZ::a),H.set id (.raw .dead)) else none
  |_=>none
 |_=>none
def vJ(P:ai)(r:bX->AV)(H:List au):Op->Option (Bool × List au)
 | .store t a x=>match G5 (r x) H with
  | some (b,d,H1)=>match vw P t (r a) d H1 with
   |some (g,H')=>some (b&&g,H')
   |none=>none
  |none=>none
 |_=>none
def Wf{P:ai}{r:bX->AV}{H H':List au}{o:Op}{b:Bool}(h:vJ P r H o=some (b,H'))(B:b=true):vm P r (ax H) .undef (ax H') o:=by
 unfold vJ at h;split at h
 case h_2=>cases h
 rename_i t a x;split at h
 case h_2=>cases h
 rename_i F I H1 d;split at h
 case h_2=>cases h
 rename_i J M z;simp only[a_,bk]at h;obtain⟨k,rfl⟩:=h;subst B;simp only[aE]at k;unfold G5 at d;split at d
 case h_3=>cases d
 ·rename_i w id al oF n v
  split at d
  case h_2=>cases d
  rename_i ks u rZ q;split at d
  case isFalse=>cases d
  rename_i y;obtain⟨rfl,rfl,rfl⟩:=y;simp only[a_,bk]at d;obtain⟨g,rfl,rfl⟩:=d;rw[k.1]at g;have g:=bA g;subst g;refine⟨.listF ks rZ,(ax H).set id .dead,⟨id,al,ks,rZ,.inl ⟨v,rfl⟩,?_,rfl⟩,?_,rfl⟩
  ·rw [bx q]
   rfl
  ·have := GL z k.2
   rw[cP]at this;exact this
 ·rename_i w id al oF n A v
  split at d
  case h_2=>cases d
  rename_i ks u rZ q;split at d
  case isFalse=>cases d
  rename_i y;obtain⟨rfl,rfl,rfl⟩:=y;simp only[a_,bk]at d;obtain⟨g,rfl,rfl⟩:=d;rw[k.1]at g;have g:=bA g;subst g;refine⟨.agg (.listF ks rZ::A),(ax H).set id .dead,⟨id,al,ks,rZ,.inr ⟨A,v,rfl⟩,?_,rfl⟩,?_,rfl⟩
  ·rw [bx q]
   rfl
  ·have := GL z k.2
   rw[cP]at this;exact this
def G6(k:SK)(x i:AV)(H:List au):Option (Int × AV × AV):=match k,x,i with
 | .array 2 _ 1 _,.ptr id al w row a,.lit (.int _ n)=>match H[id]? with
  |some (.raw (.box [.vQ ..,.vQ ..]))=>some (n,.ptr id al w row a,.ptr id al w row (a+1))
  |_=>none
 |_,_,_=>none
def Wg{k:SK}{x i p0 p1:AV}{H:List au}{n:Int}(h:G6 k x i H=some (n,p0,p1))(a:(cA n&&aK n 2)=true):jS k x i=some (bif aH n.toNat 0 then p0 else p1):=by
 unfold G6 at h;split at h
 case h_2=>cases h
 split at h
 case h_2=>cases h
 cases h;simp only[dY,be,aE,dT]at a;have e:n=0\/n=1:=by omega
 rcases e with rfl|rfl<;>simp[jS]<;>rfl
def mC(P:ai)(τ:aJ)(o:aQ)(s:aI)(k:AV->List au->bh):bh :=
 match o.op with
 | .pick c a b=>match B8 (s.eval c) with
  |some t=>.ask t (k (s.eval a) s.H) (k (s.eval b) s.H)
  |none=>.fail
 | .load t a=>match GJ P t (s.eval a) s.H with
  |some (b,v)=>.side b (k v s.H)
  |none=>.fail
 | .lookup t m x ok=>match GQ P t (s.eval m) (s.eval x) ok s.H with
  | some (b,v)=>match db τ.pf o.op,ok with
   |.read,_=>.side b (k v s.H)
   |.write,false=>.side b (k v s.H)
   |_,_=>.fail
  | none=>match db τ.pf o.op with
   | .write=>match kA P s.eval s.H o.op with
    |some (b,v,H')=>.side b (k v H')
    |none=>.fail
   | .read=>match GV P t (s.eval m) (s.eval x) ok s.H with
    |some (b,v)=>.side b (k v s.H)
    |none=>.fail
   |.pure=>.fail
 | .indexAddr t x i=>match G6 (cI P t) (s.eval x) (s.eval i) s.H with
  |some (n,p0,p1)=>.side (cA n&&aK n 2) (.ask (aH n.toNat 0) (k p0 s.H) (k p1 s.H))
  | none=>match B6 P s.eval o.op with
   |some (b,v)=>.side b (k v s.H)
   |none=>.fail
 | _=>match db τ.pf o.op with
  | .read=>match G4 P s.eval s.H o.op with
   |some v=>k v s.H
   |none=>.fail
  | .pure=>match iX s.eval o.op with
   | some (f,args)=>match τ.T f args with
    |some (b,v)=>.side b (k v s.H)
    |none=>.fail
   | none=>match B6 P s.eval o.op with
    |some (b,v)=>.side b (k v s.H)
    |none=>.fail
  | .write=>match iX s.eval o.op with
   | some (f,args)=>match τ.W f args s.H with
    |some (b,v,H')=>.side b (k v H')
    | none=>match τ.I f args s.H with
     |some t=>t.yv k
     | none=>match τ.T f args with
      |some (b,v)=>.side b (k v s.H)
      | none=>match rk s.H args with
       | (g,d)=>match τ.T f d with
        | some (b,v)=>match Ca v&&AV.cb d with
         |true=>.side (g&&b) (k v s.H)
         |false=>.fail
        |none=>.fail
   | none=>match kA P s.eval s.H o.op with
    |some (b,v,H')=>.side b (k v H')
    | none=>match vJ P s.eval s.H o.op with
     |some (b,H')=>.side b (k .undef H')
     |none=>.fail
def aI.aO(s:aI)(t:Tmp)(b:Bool):aI:=⟨s.fr.set t (.lit (.bool b)),s.H⟩
def G7(P:ai)(τ:aJ)(af:Array aQ)(o:aQ)(s:aI)(k:aI->bh):bh :=
 match rj af s.fr o with
 |.bad=>.fail
 |.no=>k (s.put o.dst (.tuple []) s.H)
 |.yes=>mC P τ o s fun v H'=>k (s.put o.dst v H')
 | .test t b a=>.ask b
   (match a with
    |true=>mC P τ o (s.aO t true) fun v H'=>k ((s.aO t true).put o.dst v H')
    |false=>k ((s.aO t true).put o.dst (.tuple []) s.H))
   (match a with
    |true=>k ((s.aO t false).put o.dst (.tuple []) s.H)
    |false=>mC P τ o (s.aO t false) fun v H'=>k ((s.aO t false).put o.dst v H'))
def G8(P:ai)(τ:aJ)(af:Array aQ):List aQ->aI->(aI->bh)->bh
 | [],s,k=>k s
 |o::rest,s,k=>G7 P τ af o s fun s1=>G8 P τ af rest s1 k
def er:AV->Option Nat
 |.ptr id _ _ _ _=>some id
 |.vQ _ id _ _ _=>some id
 |.map id=>some id
 |.sub id _ _=>some id
 |.svec id _ _ _=>some id
 |.sptr id _ _ _ _ _=>some id
 |_=>none
def lQ:AV->List Nat
 |.agg b=>b.filterMap er
 | a=>match er a with
  |some i=>[i]
  |none=>[]
def G9{a:AV}{i:Nat}(h:er a=some i):i∈lQ a:=by
 unfold lQ;split
 ·cases h
 ·rw [h]
  exact List.mem_singleton_self i
def yx:List AV->List AV->Bool
 | [],[]=>true
 |.ptr a b c d e::as,.ptr g h k q t::v=>(aH a g&&(aH b h&&(aH c k&&(aH d q&&aH e t))))&&yx as v
 |_,_=>false
def yy:Option au->Option au->Bool
 |some (.raw (.box [.clo f as])),some (.raw (.box [.clo g a]))=>aH f g&&yx as a
 |_,_=>false
def MC:∀{as b:List AV},yx as b=true->as=b
 | [],[],_=>rfl
 | [],_::_,h=>by simp[yx]at h
 | a::as,b,h=>by
  unfold yx at h;split at h
  ·exact absurd ‹a::as=[]› (by simp)
  ·rename_i e
   cases e;simp only[aE,Fc]at h;obtain⟨⟨rfl,rfl,rfl,rfl,rfl⟩,h⟩:=h;rw[MC h]
  ·cases h
def Wh{a b:Option au}(h:yy a b=true):a=b:=by
 unfold yy at h;split at h
 ·simp only [aE, Fc] at h
  rw[h.1,MC h.2]
 ·cases h
def rm(τ:aJ)(f:bC)(as:List AV)(H:List au)(id:Nat):Bool:=match τ.W f as H with
 |some (_,_,H')=>yy H'[id]? H[id]?
 |none=>false
def kB(τ:aJ)(r:bX->AV)(H:List au)(op:Op):List Nat :=
 match iX r op with
 |some (f,args)=>(τ.C f args H).filter fun id => !rm τ f args H id
 |none=>op.operands.toList.flatMap fun x=>lQ (r x)
def MD{τ:aJ}{f:bC}{as:List AV}{H H':List au}{b:Bool}{v:AV}{A:Nat}(h:τ.W f as H=some (b,v,H'))(d:A∉(τ.C f as H).filter fun id => !rm τ f as H id):A∉τ.C f as H\/H'[A]? = H[A]? := by
 by_cases hm:A∈τ.C f as H
 ·right
  cases a:rm τ f as H A with
  | true =>
   unfold rm at a;rw[h]at a;exact Wh a
  |false=>exact(d (A6.2 ⟨hm,by rw[a]; rfl⟩)).elim
 ·exact .inl hm
def Wi{τ:aJ}{f:bC}{as:List AV}{H:List au}{A:Nat}(h:τ.W f as H=none)(a:A∉(τ.C f as H).filter fun id => !rm τ f as H id):A∉τ.C f as H :=
 fun hm=>a (A6.2 ⟨hm,by unfold rm; rw[h]; rfl⟩)
structure Acc where
 R:kr
 W:jG
def yz(ay:List Nat)(i:Nat):Bool := !ay.any (aH i)
def G_(af:Array aQ)(j id:Nat)(acc:Acc):Option Acc :=
 match acc.W.all fun e=>waits af af.size j e.1||(yz e.2.1 id&&cR id e.2.2)with
 |true=>some ⟨(j,id)::acc.R,acc.W⟩
 |false=>none
def Cb(af:Array aQ)(j:Nat)(T:List Nat)(n:Nat)(acc:Acc):Option Acc :=
 match acc.R.all fun e=>waits af af.size j e.1||(yz T e.2&&cR e.2 n)with
 | true=>match acc.W.all fun e=>waits af af.size j e.1||((T.all fun id=>yz e.2.1 id&&cR id e.2.2)&&e.2.1.all fun id=>cR id n) with
  |true=>some ⟨acc.R,(j,T,n)::acc.W⟩
  |false=>none
 |false=>none
def G'(τ:aJ)(af:Array aQ)(j:Nat)(o:aQ)(s:aI)(acc:Acc):Option Acc :=
 match db τ.pf o.op with
 |.pure=>some acc
 | .read=>match nM s.eval o.op with
  |some id=>G_ af j id acc
  |none=>some acc
 |.write=>Cb af j (kB τ s.eval s.H o.op) s.H.length acc
def gZ:Kd->ak->Option G
 |.int k,.int a n=>if k=a then some (.i n) else none
 |.str,.string s=>some (.s s)
 |.bool,.bool b=>some (.t b)
 |.list _,.slice none 0 0=>some (.l [])
 |_,_=>none
def vK:List Kd->List ak->Option LG
 | [],[]=>some []
 | k::ks,v::z=>match gZ k v,vK ks z with
  |some g,some a=>some (g::a)
  |_,_=>none
 |_,_=>none
def mK:Kd->Option (List Kd)
 |.list ks=>some ks
 |_=>none
def mZ:List Kd->List (Option (List Kd)):=List.map mK
def Wj{k:Kd}{v:ak}{g:G}(h:gZ k v=some g):lD k g=zc (mK k) v:=by
 cases k with
 | int k =>
  cases v with
  | int a n =>
   simp only[gZ]at h;by_cases e:k=a
   ·rw [iP e] at h
    cases h;subst e;rfl
   ·rw [iN e] at h
    cases h
  |_=>cases h
 |str=>cases v<;>first|(cases h; rfl)|cases h
 |bool=>cases v<;>first|(cases h; rfl)|cases h
 | list ks =>
  cases v with
  |slice b n c=>cases b<;>cases n<;>cases c<;>first|(cases h; rfl)|cases h
  |_=>cases h
def ME:∀{ks:List Kd} {z:List ak} {g:LG},vK ks z=some g->a8 ks g=jD (mZ ks) z
 | [],[],g,h=>by cases h; rfl
 | [],_::_,g,h=>by cases h
 |_::_,[],g,h=>by cases h
 | k::ks,v::z,g,h=>by
  simp only[vK]at h;split at h
  ·rename_i g0 q a b
   cases h;have d:=ME b;simp only[a8,ow,List.tail_cons,d,Wj a];rfl
  ·cases h
def tu(z:List ak):List au->Nat->Option (Nat × List Kd × LG)
 | [],_=>none
 | .vQ ks 0 rZ::H,i=>match vK ks z with
  | some g=>match rZ with
   | []=>some (i,ks,g)
   |_::_=>tu z H (i+1)
  |none=>tu z H (i+1)
 |_::H,i=>tu z H (i+1)
def vL:List au->Nat->Option Nat
 | [],_=>none
 |.raw .dP::_,i=>some i
 |_::H,i=>vL H (i+1)
def Wk(P:ai)(t:aD):Option (Ct × Ct) :=
 match dJ P t with
 | some (b,a)=>match rh P b,rh P a with
  |some (K,_),some (V,_)=>some (K,V)
  | some (K,_),none=>match dJ P a with
   |some _=>some (K,K)
   |none=>none
  |_,_=>none
 |none=>none
def Ha(P:ai)(op:Op)(H:List au):Option (Nat × AV × List au) :=
 match op with
 | .alloc t=>match fl P t with
  | some z=>match tu z H 0 with
   |some (id,ks,g)=>some (id,.ptr id 1 ks.length 0 0,H.set id (.vQ ks 1 [g]))
   | none=>match vL H 0 with
    |some id=>some (id,.ptr id 0 0 0 0,H.set id (.raw (.box (z.map .lit))))
    |none=>none
  |none=>none
 | .makeMap t none=>match Wk P t with
  | some (K,V)=>match vL H 0 with
   |some id=>some (id,.map id,H.set id (.map K V [] 0))
   |none=>none
  |none=>none
 |_=>none
def Hb(τ:aJ)(o:aQ)(s:aI):Bool:=match db τ.pf o.op with
 | .write=>match iX s.eval o.op with
  | some (f,args)=>match τ.N f with
   |true=>(τ.W f args s.H).isSome
   |false=>false
  |none=>nN o.op
 |_=>true
def yA(P:ai)(τ:aJ)(af:Array aQ)(j:Nat)(o:aQ)(s:aI)(acc:Acc)(k:aI->Acc->bh):bh :=
 match my af&&fm o.op with
 | true=>match Ha P o.op s.H with
  | some (id,v,H')=>match Cb af j [id] s.H.length acc with
   |some a=>k (s.put o.dst v H') a
   |none=>.fail
  |none=>.fail
 | false=>match mz af o.op && !Hb τ o s with
  |true=>.fail
  | false=>match G' τ af j o s acc with
   |some a=>mC P τ o s fun v H'=>k (s.put o.dst v H') a
   |none=>.fail
def Hc(P:ai)(τ:aJ)(af:Array aQ)(j:Nat)(o:aQ)(s:aI)(acc:Acc)(k:aI->Acc->bh):bh :=
 match rj af s.fr o with
 |.bad=>.fail
 |.no=>k (s.put o.dst (.tuple []) s.H) acc
 |.yes=>yA P τ af j o s acc k
 | .test t b a=>.ask b
   (match a with
    |true=>yA P τ af j o (s.aO t true) acc k
    |false=>k ((s.aO t true).put o.dst (.tuple []) s.H) acc)
   (match a with
    |true=>k ((s.aO t false).put o.dst (.tuple []) s.H) acc
    |false=>yA P τ af j o (s.aO t false) acc k)
def Hd(P:ai)(τ:aJ)(af:Array aQ):List aQ->Nat->aI->Acc->(aI->bh)->bh
 | [],_,s,_,k=>k s
 |o::rest,j,s,acc,k=>Hc P τ af j o s acc fun s1 a=>Hd P τ af rest (j+1) s1 a k
def MF(k:aI->bh)(K:cJ->aI->bh):cJ->aI->bh
 |.normal,s=>k s
 |x,s=>K x s
def MG(id:Nat)(K:cJ->aI->bh):cJ->aI->bh
 |.exit i,s=>if i=id then K .normal s else K (.exit i) s
 |x,s=>K x s
def bh.bind(K:cJ->aI->bh):bh->bh
 |.fail=>.fail
 |.done x s=>K x s
 |.ask b t e=>.ask b (t.bind K) (e.bind K)
 |.side b t=>.side b (t.bind K)
def nS:Code->Option Nat
 |.region id _ _=>some id
 | .seq a b=>match nS a with
  |some i=>some i
  |none=>nS b
 |.block _ c=>nS c
 | .cond _ a b=>match nS a with
  |some i=>some i
  |none=>nS b
 |.loop c=>nS c
 |_=>none
def tw:Code->Nat
 | .seq a b=>match nS a with
  |some _=>tw a
  |none=>tw b
 |.block _ c=>tw c
 | .cond _ a b=>match nS a with
  |some _=>tw a
  |none=>tw b
 |.loop c=>tw c+1
 |_=>0
def MH(c:Code):Option Nat:=match nS c with
 |some i=>some (i+1000*tw c)
 |none=>none
def cC:Code->List (Nat × Code)
 |.seq a b=>cC a++cC b
 |.cond _ a b=>cC a++cC b
 |.block _ c=>cC c
 | .loop c=>match MH c with
  |some k=>(k,c)::cC c
  |none=>cC c
 |_=>[]
def Wl(k:aI->bh)(K:cJ->aI->bh):cJ->aI->bh
 |.normal,s=>k s
 |.exit i,s=>K (.exit i) s
 |.ret,s=>K .ret s
def Cc(body:aI->(cJ->aI->bh)->bh):Nat->aI->(cJ->aI->bh)->bh
 |0,_,_=>.fail
 |n+1,s,K=>body s (Wl (fun s'=>Cc body n s' K) K)
def cB:Code->List (Nat × Code)
 | .seq a b=>cB a++((match nS b with
  |some k=>[(k,b)]
  |none=>[])++cB b)
 |.cond _ a b=>cB a++cB b
 |.block _ c=>cB c
 |.loop c=>cB c
 |_=>[]
structure LT where
 loops:Nat->aI->Option bh
 pre:Nat->aI->Bool × aI
 yB:Nat->aI->Option bh
def MI(L:LT)(k:Option Nat)(s:aI):Option bh :=
 match k with
 |some i=>L.yB i s
 |none=>none
def fD(P:ai)(τ:aJ)(L:LT):Code->aI->(cJ->aI->bh)->bh
 |.skip,s,K=>K .normal s
 | .region id af d,s,K=>match d && !qZ τ.pf af with
  | true=>match vu τ.pf af with
   |true=>.side (L.pre id s).1 (Hd P τ af af.toList 0 (L.pre id s).2 ⟨[],[]⟩ (K .normal))
   |false=>.fail
  |false=>.side (L.pre id s).1 (G8 P τ af af.toList (L.pre id s).2 (K .normal))
 | .seq a b,s,K=>fD P τ L a s (MF (fun s1=>match MI L (nS b) s1 with
  |some t=>t.bind K
  |none=>fD P τ L b s1 K) K)
 | .cond c a b,s,K=>match B8 (s.eval c) with
  |some t=>.ask t (fD P τ L a s K) (fD P τ L b s K)
  |none=>.fail
 |.block id c,s,K=>fD P τ L c s (MG id K)
 | .loop c,s,K=>match MH c with
  | some i=>match L.loops i s with
   |some t=>t.bind K
   |none=>Cc (fun s1 g=>fD P τ L c s1 g) 400 s K
  |none=>.fail
 |.exit id,s,K=>K (.exit id) s
 |.ret,s,K=>K .ret s
 |_,_,_=>.fail
def MJ(P:ai)(m:Nat)(c:Code)(s:aI)(t:bh):Prop:=∀ Q:cJ->aI->Prop,t.holds Q->∃ x s',mw P m c s.aw x s'.aw/\Q x s'
def He(P:ai)(m:Nat)(c:Code)(s:aI)(t:bh):Prop:=∀ Q:cJ->aI->Prop,t.holds Q->∃ x s',dC P m c s.aw x s'.aw/\Q x s'
def ba(P:ai)(m:Nat)(L:LT)(c:Code):Prop:=(∀ k a,(k,a)∈cC c->∀ s t,L.loops k s=some t->MJ P m a s t)/\(∀ id s,(L.pre id s).1=true->bD m s.aw (L.pre id s).2.aw) /\
 ∀ k a,(k,a)∈cB c->∀ s t,L.yB k s=some t->He P m a s t
def ba.sub{P:ai}{m:Nat}{L:LT}{c a:Code}(h:ba P m L c)(g:∀ p,p∈cC a->p∈cC c)(q:∀ p,p∈cB a->p∈cB c):ba P m L a :=
 ⟨fun k d b=>h.1 k d (g _ b),h.2.1,fun k d b=>h.2.2 k d (q _ b)⟩
def MK{a:AV}{b:Bool}(h:B8 a=some b):a=.lit (.bool b):=by
 unfold B8 at h;split at h
 ·cases h; rfl
 ·cases h
def ML{E E':ae}:∀{d:List AV} {b:List ak},B_ d=true->ar E d b->ar E' d b
 | [],[],_,_=>by simp[ar]
 | [],_::_,_,h=>by simp[ar]at h
 | a::d,b,g,h=>by
  unfold B_ at g;split at g
  ·rename_i k; cases k
  ·rename_i k
   cases k;cases b with
   |nil=>simp[ar]at h
   | cons u b =>
    simp only[ar,ab]at h|-;exact⟨h.1,ML g h.2⟩
  ·cases g
def Wm{E E':ae}{v:AV}{u:ak}(a:Ca v=true)(h:ab E v u):ab E' v u:=by
 unfold Ca at a;split at a
 ·simpa only[ab]using h
 ·simp only [ab] at h |-
  obtain⟨b,e,d⟩:=h;exact⟨b,e,ML a d⟩
 ·cases a
def ae.bare(E:ae)(w:World):ae:={ w:=w,H:=[],ad:=[],X:=E.X.re iB }
def Cd{E:ae}{w:World}(b:Nat):¬ (E.bare w).bN b:=by rintro(⟨id,c,h⟩|⟨l,k,c,h⟩); simp[ae.bare]at h; simp[ae.bare,iB]at h
def Ce(E:ae):E.bZ (E.bare E.w):=⟨fun b a=>⟨⟨a.1,Cd b,a.2.2⟩,rfl⟩⟩
def Wn{E:ae}(HE:aG E):aG (E.bare E.w):=by
 refine⟨rfl,?_,?_,HE.X,?_,HE.gL.bZ (Ce E),fun l k l' d b m n a=>by simp[ae.bare,iB]at a,fun i b m l k n hi=>by simp[ae.bare]at hi,fun l k b m a=>by simp[ae.bare,iB]at a,fun i j o o' l hi=>by simp[ae.bare]at hi,fun l _ k q a=>by simp[ae.bare,iB]at a⟩
 ·intro i j b m n hi; simp[ae.bare]at hi
 ·intro i b m hi; simp[ae.bare]at hi
 ·intro i o hi; simp[ae.bare]at hi
def Wo{E:ae}(HE:aG E){H:List au}(hH:E.H=ax H){id al n w:Nat}{ks:List Kd}{rZ:LL}{c:ak}
  (z:H[id]? = some (.vQ ks al rZ)) (A:ks.length=w) (B:n=rZ.length) (d:ab E (.vQ w id al 0 n) c):ab (E.bare E.w) (.listF ks rZ) c:=by
 subst A B;have k:E.H[id]? = some (.vQ ks.length al (rZ.map (a8 ks))):=by rw[hH]; exact bx z
 have a:=HE.obj id _ k;rw[ki];simp only[ab]at d|-;obtain⟨⟨aN,cap,rfl,y,_⟩,_,F⟩:=d;obtain⟨O,I⟩:=F ⟨_,k,rfl⟩;have q:fg (rZ.map (a8 ks)):=by
  intro r d;obtain⟨g,_,rfl⟩:=gG.1 d;exact gI ks g
 refine⟨q,aN,cap,by simp,by simpa using y,?_⟩;simp only[aV]at a;rcases a with⟨h,t⟩|⟨b,m,h,t,J,_,M⟩
 ·exact .inl t
 ·obtain ⟨U, o, N, v⟩ := I b m h
  by_cases hm:rZ=[]
  ·subst hm; exact .inl rfl
  ·right
   have:0<rZ.length:=by cases rZ with|nil=>exact(hm rfl).elim|cons _ _=>simp
   simp at J;have a:=N (by omega);simp at a;subst a;simp only[lv]at v;refine⟨b,0,v.1,⟨(HE.lt id b m h).1,Cd b,(HE.lt id b m h).2⟩,?_⟩;exact kh (Ce E) _ q rfl M
def Wp{E:ae}(HE:aG E){H:List au}(hH:E.H=ax H){id k:Nat}{cells:List AV}{c:ak} (v:H[id]? = some (.raw (.box cells))) (h:AV.cb cells=true)
  (q:ab E (.ptr id 0 k 0 0) c):ab (E.bare E.w) (.cptr cells) c:=by
 have g:E.H[id]? = some (.box cells):=by rw[hH]; exact bx v
 have t:=HE.obj id _ g;simp only[aV]at t;obtain⟨b,n,a,B,y⟩:=t;simp only[ab]at q|-;obtain⟨_,_,z⟩:=q;obtain⟨F,I,d,A⟩:=z ⟨_,g,rfl⟩;rw[a]at d;simp only[a_,bk]at d;obtain⟨rfl,rfl⟩:=d;refine⟨h,b,0,by rw[A]; simp,⟨(HE.lt id b n a).1,Cd b,(HE.lt id b n a).2⟩,?_⟩;exact uP (Ce E) cells h rfl y
def MM{E:ae}(HE:aG E){H:List au}(hH:E.H=ax H){a q:AV}{b:Bool}{c:ak}(h:yw H a=(b,q))(z:b=true)(d:q.closed=true)(t:ab E a c):ab (E.bare E.w) q c:=by
 unfold yw at h;split at h
 ·split at h
  ·rename_i w id al oF n ks v rZ g
   split at h
   ·rename_i y
    obtain⟨rfl,A,rfl⟩:=y;simp only[bk]at h;obtain⟨B,rfl⟩:=h;subst z;exact Wo HE hH g A (bA B) t
   ·cases h; simp[AV.closed]at d
  ·cases h; simp[AV.closed]at d
 ·split at h
  ·rename_i id al k row I _ cells g
   split at h
   ·rename_i y
    obtain⟨rfl,rfl,rfl,F⟩:=y;cases h;exact Wp HE hH g F t
   ·cases h; simp[AV.closed]at d
  ·cases h; simp[AV.closed]at d
 ·cases h
  exact gy (Ce E) _ d t
def MN{E:ae}(HE:aG E){H:List au}(hH:E.H=ax H):∀{as k:List AV} {b:Bool} {d:List ak},tq H as=(b,k)->b=true->AV.cb k=true->ar E as d ->
  ar (E.bare E.w) k d
 | [],k,b,d,h,_,_,g=>by
  simp only[tq]at h;cases h;cases d with
  |nil=>simp[ar]
  |cons _ _=>simp[ar]at g
 | a::as,k,b,d,h,t,q,g=>by
  cases d with
  |nil=>simp[ar]at g
  | cons c d =>
   simp only[ar]at g;cases v:yw H a with
   |mk B F =>
   cases y:tq H as with
   |mk I A =>
   simp only[tq,v,y,bk]at h;obtain⟨z,rfl⟩:=h;subst z;simp only[aE]at t;simp only[AV.cb,aE]at q;simp only[ar];exact⟨MM HE hH v t.1 q.1 g.1,MN HE hH y t.2 q.2 g.2⟩
def Wq{E:ae}(HE:aG E){H:List au}(hH:E.H=ax H){a d:AV}{b:Bool}{c:ak}(h:B9 H a=(b,d))(q:b=true)(k:d.closed=true)(g:ab E a c):ab (E.bare E.w) d c:=by
 unfold B9 at h;split at h
 ·rename_i f caps
  cases t:tq H caps with
  |mk A z =>
  rw[t]at h;cases h;simp only[ab]at g|-;obtain⟨v,e,y⟩:=g;exact⟨v,e,MN HE hH t q (by simpa only[AV.closed]using k) y⟩
 ·exact MM HE hH h q k g
def MO{E:ae}(HE:aG E){H:List au}(hH:E.H=ax H):∀{as k:List AV} {b:Bool} {d:List ak},rk H as=(b,k)->b=true->AV.cb k=true->ar E as d ->
  ar (E.bare E.w) k d
 | [],k,b,d,h,_,_,g=>by
  simp only[rk]at h;cases h;cases d with
  |nil=>simp[ar]
  |cons _ _=>simp[ar]at g
 | a::as,k,b,d,h,t,q,g=>by
  cases d with
  |nil=>simp[ar]at g
  | cons c d =>
   simp only[ar]at g;cases v:B9 H a with
   |mk B F =>
   cases y:rk H as with
   |mk I A =>
   simp only[rk,v,y,bk]at h;obtain⟨z,rfl⟩:=h;subst z;simp only[aE]at t;simp only[AV.cb,aE]at q;simp only[ar];exact⟨Wq HE hH v t.1 q.1 g.1,MO HE hH y t.2 q.2 g.2⟩
def Wr{P:ai}{f:bC}{args a:List AV}{H:List au}{b:Bool}{v:AV}(t:nJ P f a v)(y:rk H args=(b,a))(z:b=true)(q:AV.cb a=true)
  (A:Ca v=true):eK P f args (ax H) v (ax H):=by
 intro E h hH HE k;refine(t [] (E.bare E.w) h rfl (Wn HE) (MO HE hH y z q k)).mono ?_;rintro _ w' ⟨c,B,H',rfl,⟨rfl,rfl⟩,J,M,F,N,d⟩;have g:Ext E.w w':=⟨d.size,fun x I=>d.same x I (Cd x),d.env⟩
 refine⟨c,B,ax H,rfl,⟨rfl,rfl⟩,E.ad,E.X.r,Wm A F,?_,?_⟩
 ·rw[<-hH]; exact HE.ext g
 ·rw[<-hH]; exact ae.iE g
section sound
variable {P:ai} {τ:aJ}
theorem yC{af:Array aQ}{o:aQ}{s:aI}{v:AV}(a:cr af s.fr o=some true)(b:db τ.pf o.op=.pure)
  (h:jh P s.eval o.op=some v\/∃ f args,iX s.eval o.op=some (f,args)/\fM P f=true/\nJ P f args v):Yields P τ.pf af o s.aw v (ax s.H):=by
 unfold Yields;rw[show s.aw.fr=s.fr from rfl,a];simp only[b,aI.pU];exact⟨rfl,h⟩
theorem tx{af:Array aQ}{o:aQ}{s:aI}{v:AV}{H':List ah}(a:cr af s.fr o=some true)(b:db τ.pf o.op=.write)
  (h:du P s.eval (ax s.H) o.op=some (v,H')\/∃ f args,iX s.eval o.op=some (f,args)/\fM P f=true/\eK P f args (ax s.H) v H'):Yields P τ.pf af o s.aw v H':=by
 unfold Yields;rw[show s.aw.fr=s.fr from rfl,a];simp only[b,aI.pU];exact .inl h
theorem fE{H:List au}{id A:Nat}{o:au}(h:A≠id):(H.set id o)[A]? = H[A]? := bc (Ne.symm h)
theorem kY{H:List au}{A:Nat}{o:au}(h:A<H.length):(H++[o])[A]? = H[A]? := dr h
theorem MP{P:ai}{t:aD}{x v:AV}{H H':List au}{b:Bool}{A:Nat}(h:vw P t x v H=some (b,H'))(d:er x≠some A):H'[A]? = H[A]? := by
 unfold vw at h;split at h
 case h_2=>cases h
 rename_i n q y id al w row g z k;have a:A≠id:=fun e=>d (by rw[e]; rfl);split at h
 case isFalse=>cases h
 split at h
 ·split at h
  ·split at h
   ·cases h; exact fE a
   ·cases h
  ·split at h
   ·cases h; exact fE a
   ·cases h
 ·split at h
  ·split at h
   ·cases h; exact fE a
   ·cases h
  ·cases h
 ·cases h
theorem Ws{P:ai}{t xt:aD}{s x v:AV}{H H':List au}{b:Bool}{A:Nat}(h:vz P t xt s x H=some (b,v,H'))(a:A<H.length)(d:er s≠some A):H'[A]? = H[A]? := by
 unfold vz at h;split at h
 case h_2=>cases h
 split at h
 case h_2=>cases h
 split at h
 case isFalse=>cases h
 split at h
 ·split at h
  ·split at h
   ·cases h; exact kY a
   ·cases h
  ·cases h
 ·split at h
  ·split at h
   ·cases h; exact kY a
   ·cases h
  ·cases h
 ·split at h
  ·split at h
   ·split at h
    ·cases h; exact fE fun e=>d (by rw[e]; rfl)
    ·cases h
   ·cases h
  ·cases h
 ·cases h
theorem Wt{P:ai}{t xt:aD}{s x v:AV}{H H':List au}{b:Bool}{A:Nat}(h:vH P t xt s x H=some (b,v,H'))(a:A<H.length):H'[A]? = H[A]? := by
 unfold vH at h;split at h
 case h_2=>cases h
 split at h
 case h_2=>cases h
 split at h
 case h_2=>cases h
 split at h
 case h_2=>cases h
 split at h
 ·cases h; exact kY a
 ·cases h
theorem Wu{P:ai}{t:aD}{x:AV}{H H':List au}{b:Bool}{A:Nat}(h:yq P t x H=some (b,H'))(a:er x≠some A):H'[A]? = H[A]? := by
 unfold yq at h;split at h
 case h_2=>cases h
 split at h
 case h_2=>cases h
 split at h
 case h_2=>cases h
 split at h
 ·cases h; exact fE fun e=>a (by rw[e]; rfl)
 ·cases h
theorem MQ{P:ai}{t:aD}{m k v:AV}{H H':List au}{b:Bool}{A:Nat}(h:vD P t m k v H=some (b,H'))(a:er m≠some A):H'[A]? = H[A]? := by
 unfold vD at h;split at h
 case h_2=>cases h
 split at h
 case h_2=>cases h
 split at h
 case h_2=>cases h
 split at h
 ·cases h; exact fE fun e=>a (by rw[e]; rfl)
 ·cases h
theorem Wv{P:ai}{t:aD}{m k v:AV}{H H':List au}{b:Bool}{A:Nat}(h:yg P t m k v H=some (b,H'))(a:er m≠some A)(d:er v≠some A):H'[A]? = H[A]? := by
 unfold yg at h;split at h
 case h_2=>cases h
 split at h
 case h_2=>cases h
 split at h
 case h_2=>cases h
 split at h
 ·cases h
  rw[fE fun e=>d (by rw[e]; rfl)];exact fE fun e=>a (by rw[e]; rfl)
 ·cases h
theorem Ww{P:ai}{t:aD}{m k v:AV}{H H':List au}{b:Bool}{A:Nat}(h:yr P t m k v H=some (b,H'))(a:er m≠some A):H'[A]? = H[A]? := by
 unfold yr at h;split at h
 case h_2=>cases h
 split at h
 case h_2=>cases h
 split at h
 case h_2=>cases h
 split at h
 ·cases h
  exact fE fun e=>a (by rw[e]; rfl)
 ·cases h
theorem Wx{P:ai}{t:aD}{m k v:AV}{H H':List au}{b:Bool}{A:Nat}(h:yt P t m k H=some (b,v,H'))(a:er m≠some A):H'[A]? = H[A]? := by
 unfold yt at h;split at h
 case h_2=>cases h
 split at h
 case h_2=>cases h
 split at h
 case h_2=>cases h
 split at h
 ·cases h
  exact fE fun e=>a (by rw[e]; rfl)
 ·cases h
theorem Wy{m s v:AV}{H H':List au}{b:Bool}{A:Nat}(h:yu m s v H=some (b,H'))(a:er m≠some A)(d:er v≠some A):H'[A]? = H[A]? := by
 unfold yu at h;split at h
 case h_2=>cases h
 split at h
 case h_2=>cases h
 split at h
 ·cases h
  rw[fE fun e=>d (by rw[e]; rfl)];exact fE fun e=>a (by rw[e]; rfl)
 ·cases h
theorem Wz{P:ai}{t:aD}{m k v:AV}{H H':List au}{b:Bool}{A:Nat}(h:yf P t m k H=some (b,v,H'))(a:A<H.length)(d:er m≠some A):H'[A]? = H[A]? := by
 unfold yf at h;split at h
 case h_2=>cases h
 split at h
 case h_2=>cases h
 split at h
 case h_2=>cases h
 split at h
 ·cases h
  rw[kY (by simpa using a)];exact fE fun e=>d (by rw[e]; rfl)
 ·cases h
theorem WA{P:ai}{t:aD}{x v:AV}{H H':List au}{b:Bool}{A:Nat}(h:x8 P t x v H=some (b,H'))(a:er x≠some A):H'[A]? = H[A]? := by
 unfold x8 at h;split at h
 case h_2=>cases h
 split at h
 case h_2=>cases h
 split at h
 case isFalse=>cases h
 split at h
 ·cases h
  exact fE fun e=>a (by rw[e]; rfl)
 ·cases h
theorem WB{P:ai}{t:aD}{x v:AV}{H H':List au}{b:Bool}{A:Nat}(h:x9 P t x v H=some (b,H'))(a:er x≠some A)(d:er v≠some A):H'[A]? = H[A]? := by
 unfold x9 at h;split at h
 case h_2=>cases h
 split at h
 case h_2=>cases h
 split at h
 case isFalse=>cases h
 split at h
 ·cases h
  rw[fE fun e=>d (by rw[e]; rfl)];exact fE fun e=>a (by rw[e]; rfl)
 ·cases h
theorem WC{P:ai}{t:aD}{m k v:AV}{H H':List au}{b:Bool}{A:Nat}(h:yn P t m k H=some (b,v,H'))(a:A<H.length)(d:er m≠some A):H'[A]? = H[A]? := by
 unfold yn at h;split at h
 case h_2=>cases h
 split at h
 case h_2=>cases h
 split at h
 case h_2=>cases h
 split at h
 ·cases h
  rw[dr (by simpa using a)];exact fE fun e=>d (by rw[e]; rfl)
 ·cases h
theorem WD{P:ai}{t:aD}{m k v:AV}{H H':List au}{b:Bool}{A:Nat}(h:yo P t m k v H=some (b,H'))(d:er m≠some A)(a:A∉lQ v):H'[A]? = H[A]? := by
 unfold yo at h;split at h
 case h_2=>cases h
 split at h
 case h_2=>cases h
 split at h
 case h_2=>cases h
 split at h
 ·cases h
  rw[fE fun e=>a (by rw[<-e]; simp[lQ,er])];rw[fE fun e=>a (by rw[<-e]; simp[lQ,er])];exact fE fun e=>d (by rw[e]; rfl)
 ·cases h
theorem WE{m s v:AV}{H H':List au}{b:Bool}{A:Nat}(h:yk m s v H=some (b,H'))(a:er m≠some A)(d:er v≠some A):H'[A]? = H[A]? := by
 unfold yk at h;split at h
 case h_2=>cases h
 split at h
 case h_2=>cases h
 split at h
 ·cases h
  rw[fE fun e=>d (by rw[e]; rfl)];exact fE fun e=>a (by rw[e]; rfl)
 ·cases h
theorem WG{P:ai}{t:aD}{m k v:AV}{H H':List au}{b:Bool}{A:Nat}(h:yh P t m k H=some (b,v,H'))(a:A<H.length)(d:er m≠some A):H'[A]? = H[A]? := by
 unfold yh at h;split at h
 case h_2=>cases h
 split at h
 case h_2=>cases h
 split at h
 case h_2=>cases h
 split at h
 ·cases h
  rw[kY (by simpa using a)];exact fE fun e=>d (by rw[e]; rfl)
 ·cases h
theorem WH{P:ai}{t:aD}{m k:AV}{H H':List au}{b:Bool}{A:Nat}(h:yp P t m k H=some (b,H'))(a:er m≠some A):H'[A]? = H[A]? := by
 unfold yp at h;split at h
 case h_2=>cases h
 split at h
 case h_2=>cases h
 split at h
 ·cases h; exact fE fun e=>a (by rw[e]; rfl)
 ·cases h
theorem WI{P:ai}{t:aD}{l c v:AV}{H H':List au}{b:Bool}{A:Nat}(h:x_ P t l c H=some (b,v,H'))(a:A<H.length):H'[A]? = H[A]? := by
 unfold x_ at h;split at h
 case h_2=>cases h
 split at h
 case h_2=>cases h
 split at h
 case h_2=>cases h
 split at h
 case h_2=>cases h
 split at h
 ·cases h; exact kY a
 ·cases h
theorem WJ{P:ai}{t:aD}{n:Nat}{parts:List (Nat × AV)}{v:AV}{H H':List au}{b:Bool}{A:Nat}(h:vB P t n parts H=some (b,v,H'))(a:A<H.length):H'[A]? = H[A]? := by
 unfold vB at h;split at h
 case h_2=>cases h
 split at h
 case h_2=>cases h
 split at h
 case h_2=>cases h
 split at h
 case h_2=>cases h
 split at h
 case h_2=>cases h
 split at h
 ·cases h; exact kY a
 ·cases h
theorem Hg{P:ai}{r:bX->AV}{H H':List au}{o:Op}{v:AV}{b:Bool}{A:Nat}(h:kA P r H o=some (b,v,H'))(g:A<H.length)(J:A∉o.operands.toList.flatMap fun x=>lQ (r x)):H'[A]? = H[A]? := by
 have no:∀ x∈o.operands.toList,er (r x)≠some A:=fun x w e=>J (Ff.2 ⟨x,w,G9 e⟩);cases o<;>simp only[kA]at h<;>try cases h
 case alloc t =>
  split at h
  ·split at h
   ·cases h; exact kY g
   ·cases h
  ·split at h
   ·cases h; exact kY g
   ·cases h
 case box t x =>
  split at h
  ·cases h; exact kY g
  ·cases h
 case store t a x =>
  split at h
  ·rename_i q H1 d
   cases h;exact MP d (no a (by simp[eV]))
  ·split at h
   ·rename_i q H1 d
    cases h;exact WA d (no a (by simp[eV]))
   ·split at h
    ·rename_i q H1 d
     cases h;exact WB d (no a (by simp[eV])) (no x (by simp[eV]))
    ·cases h
 case makeSlice t l c=>exact WI h g
 case buildSlice t n ps=>exact WJ h g
 case range t x =>
  split at h
  ·cases h; exact kY g
  ·cases h
 case next it isString =>
  cases isString with
  |false=>cases h
  | true =>
   simp only[]at h;split at h
   ·rename_i id k w
    split at h
    ·split at h
     ·cases h; exact fE fun e=>no it (by simp[eV]) (by rw[w,e]; rfl)
     ·cases h; rfl
    ·cases h
   ·cases h
 case makeMap t res =>
  cases res with
  |some _=>cases h
  | none =>
   simp only[]at h;split at h
   ·split at h
    ·cases h; exact kY g
    ·split at h
     ·cases h; exact kY g
     ·split at h
      ·split at h
       ·cases h; exact kY g
       ·cases h
      ·cases h
    ·cases h
   ·cases h
 case mapUpdate t m k x =>
  split at h
  ·rename_i q H1 d
   cases h;exact MQ d (no m (by simp[eV]))
  ·split at h
   ·rename_i q H1 d
    cases h;exact Wv d (no m (by simp[eV])) (no x (by simp[eV]))
   ·split at h
    ·rename_i q H1 d
     cases h;exact Ww d (no m (by simp[eV]))
    ·split at h
     ·rename_i q H1 d
      cases h;exact WD d (no m (by simp[eV])) fun e=>J (Ff.2 ⟨x,by simp[eV],e⟩)
     ·cases h
 case lookup t m k ok =>
  cases ok with
  |true=>cases h
  | false =>
   simp only[]at h;split at h
   ·rename_i y B
    cases h;exact Wz B g (no m (by simp[eV]))
   ·exact WC h g (no m (by simp[eV]))
 case mapEntry t m k =>
  split at h
  ·rename_i y B
   cases h;exact WG B g (no m (by simp[eV]))
  ·exact Wx h (no m (by simp[eV]))
 case entryStore t m s x =>
  split at h
  ·rename_i q H1 d
   cases h;exact WE d (no m (by simp[eV])) (no x (by simp[eV]))
  ·split at h
   ·rename_i q H1 d
    cases h;exact Wy d (no m (by simp[eV])) (no x (by simp[eV]))
   ·cases h
 case insert t m k x =>
  split at h
  ·rename_i q H1 d
   cases h;exact MQ d (no m (by simp[eV]))
  ·cases h
 case call c =>
  have na:∀ x∈c.args.toList,er (r x)≠some A:=fun x w=>no x (by
   simp only[eV,uI];simp at w|-;exact .inr w)
  split at h
  ·split at h
   ·rename_i s x t xt z I
    have M:=na s (by rw[z]; simp);split at h
    ·exact Wt h g
    ·exact Ws h g M
   ·cases h
  ·split at h
   ·rename_i x t z I
    have F:=na x (by rw[z]; simp);split at h
    ·rename_i d; cases h; exact Wu d F
    ·cases h
   ·cases h
  ·split at h
   ·rename_i x k t _ z I
    have F:=na x (by rw[z]; simp);split at h
    ·rename_i d; cases h; exact WH d F
    ·cases h
   ·cases h
  ·cases h
theorem WK{P:ai}{r:bX->AV}{H H':List au}{o:Op}{b:Bool}{A:Nat}(h:vJ P r H o=some (b,H'))(k:A∉o.operands.toList.flatMap fun x=>lQ (r x)):H'[A]? = H[A]? := by
 have no:∀ x∈o.operands.toList,er (r x)≠some A:=fun x q e=>k (Ff.2 ⟨x,q,G9 e⟩);unfold vJ at h;split at h
 case h_2=>cases h
 rename_i t a x;split at h
 case h_2=>cases h
 rename_i y z H1 d;split at h
 case h_2=>cases h
 rename_i B F v;simp only[a_,bk]at h;obtain⟨_,rfl⟩:=h;rw[MP v (no a (by simp[eV]))];unfold G5 at d;split at d
 case h_3=>cases d
 ·rename_i w id al oF n g
  split at d
  case h_2=>cases d
  split at d
  case isFalse=>cases d
  simp only[a_,bk]at d;obtain⟨_,_,rfl⟩:=d;refine fE fun e=>no x (by simp[eV]) ?_;rw[g,e];rfl
 ·rename_i w id al oF n I g
  split at d
  case h_2=>cases d
  split at d
  case isFalse=>cases d
  simp only[a_,bk]at d;obtain⟨_,_,rfl⟩:=d;refine fE fun e=>k (Ff.2 ⟨x,by simp[eV],?_⟩);rw[g,e];simp[lQ,er]
theorem Cf(M:aL P τ){af:Array aQ}{o:aQ}{s:aI}{k:AV->List au->bh}{Q:cJ->aI->Prop}(q:cr af s.fr o=some true)
  (h:(mC P τ o s k).holds Q):∃ v H',Yields P τ.pf af o s.aw v (ax H')/\(db τ.pf o.op=.write->∀ A,A∉kB τ s.eval s.H o.op->A<s.H.length->H'[A]? = s.H[A]?)/\(k v H').holds Q:=by
 unfold mC at h;split at h
 ·rename_i c a b w
  split at h
  ·rename_i t N
   have N:=MK N;refine⟨bif t then s.eval a else s.eval b,s.H,yC q (by rw[w]; rfl) (.inl (by rw[w]; simp only[jh,N])),fun _ _ _ _=>rfl,?_⟩;simp only[bh.holds]at h;cases t with
   |true=>exact h.1 rfl
   |false=>exact h.2 rfl
  ·exact h.elim
 ·rename_i t a w
  split at h
  ·rename_i b v O
   simp only[bh.holds]at h;refine⟨v,s.H,?_,fun _ _ _ _=>rfl,h.2⟩;unfold Yields;rw[show s.aw.fr=s.fr from rfl,q];simp only[w,db,aI.pU];exact⟨rfl,by simp only[fS]; exact VE O h.1⟩
  ·exact h.elim
 ·rename_i t m x ok w
  have htouch:kB τ s.eval s.H o.op=o.op.operands.toList.flatMap fun x=>lQ (s.eval x):=by
   have U:iX s.eval o.op=none:=by rw[w]; rfl
   simp only[kB,U]
  split at h
  ·rename_i b v O
   split at h
   ·rename_i g
    simp only[bh.holds]at h;refine⟨v,s.H,?_,fun _ _ _ _=>rfl,h.2⟩;unfold Yields;rw[show s.aw.fr=s.fr from rfl,q];simp only[g,aI.pU];rw[w];exact⟨rfl,by
     have e:=Mh O;rw[show ax s.H=s.aw.H from rfl]at e;simp only[fS,e]⟩
   ·rename_i g
    simp only[bh.holds]at h;refine⟨v,s.H,tx q g (.inl ?_),fun _ _ _ _=>rfl,h.2⟩;rw[w];simp only[du,Mh O]
   ·exact h.elim
  ·split at h
   ·rename_i g
    split at h
    ·rename_i b v H' d
     simp only[bh.holds]at h;exact⟨v,H',tx q g (.inl (GW d h.1)),fun _ A y J=>Hg d J (by rw[htouch]at y; exact y),h.2⟩
    ·exact h.elim
   ·rename_i g
    split at h
    ·rename_i b v O
     simp only[bh.holds]at h;obtain⟨q1,q2⟩:=VZ O h.1;refine⟨v,s.H,?_,fun _ _ _ _=>rfl,h.2⟩;unfold Yields;rw[show s.aw.fr=s.fr from rfl,q];simp only[g,aI.pU];rw[w];exact⟨rfl,by simp only[fS]; rw[show gM P t (s.eval m) (s.eval x) ok s.aw.H=none from q1]; exact q2⟩
    ·exact h.elim
   ·exact h.elim
 ·rename_i t x i w
  have g:db τ.pf o.op=.pure:=by rw[w]; rfl
  split at h
  ·rename_i n p0 p1 z
   simp only[bh.holds]at h;refine⟨bif aH n.toNat 0 then p0 else p1,s.H,yC q g (.inl (by rw[w]; simp only[jh,Wg z h.1])),fun _ _ _ _=>rfl,?_⟩;cases N:aH n.toNat 0 with
   |true=>exact h.2.1 N
   |false=>exact h.2.2 N
  ·split at h
   ·rename_i b v d
    simp only[bh.holds]at h;exact⟨v,s.H,yC q g (.inl (MB d h.1)),fun _ _ _ _=>rfl,h.2⟩
   ·exact h.elim
 ·split at h
  ·rename_i g
   split at h
   ·rename_i v d
    refine⟨v,s.H,?_,fun _ _ _ _=>rfl,h⟩;unfold Yields;rw[show s.aw.fr=s.fr from rfl,q];simp only[g,aI.pU];exact⟨rfl,We d⟩
   ·exact h.elim
  ·rename_i g
   split at h
   ·rename_i f args z
    split at h
    ·rename_i b v d
     simp only[bh.holds]at h;obtain⟨B,F⟩:=M.T f args b v d h.1;exact⟨v,s.H,yC q g (.inr ⟨f,args,z,B,F⟩),fun _ _ _ _=>rfl,h.2⟩
    ·exact h.elim
   ·split at h
    ·rename_i b v d
     simp only[bh.holds]at h;exact⟨v,s.H,yC q g (.inl (MB d h.1)),fun _ _ _ _=>rfl,h.2⟩
    ·exact h.elim
  ·rename_i g
   split at h
   ·rename_i f args z
    split at h
    ·rename_i b v H' d
     simp only[bh.holds]at h;obtain⟨B,F⟩:=M.W f args s.H b v H' d h.1;exact⟨v,H',tx q g (.inr ⟨f,args,z,B,F⟩),fun _ A y J=>by
      simp only[kB,z]at y;rcases MD d y with X|X
      ·exact M.C f args s.H b v H' d A X J
      ·exact X,h.2⟩
    ·rename_i hW0
     split at h
     ·rename_i t hi
      obtain⟨B,v,H',F,g3,g4⟩:=M.I f args s.H t hi _ (bh.B7 h);exact⟨v,H',tx q g (.inr ⟨f,args,z,B,F⟩),fun _ A y J=>g3 A (by simp only[kB,z]at y; exact Wi hW0 y) J,g4⟩
     ·split at h
      ·rename_i b v d
       simp only[bh.holds]at h;obtain⟨B,F⟩:=M.T f args b v d h.1;exact⟨v,s.H,tx q g (.inr ⟨f,args,z,B,F _⟩),fun _ _ _ _=>rfl,h.2⟩
      ·cases Y : rk s.H args with
       |mk vb args' =>
       rw[Y]at h;simp only[]at h;split at h
       ·rename_i b v d
        split at h
        ·rename_i V
         simp only[aE]at V;simp only[bh.holds,aE]at h;obtain⟨B,F⟩:=M.T f args' b v d h.1.2;exact⟨v,s.H,tx q g (.inr ⟨f,args,z,B,Wr F Y h.1.1 V.2 V.1⟩),fun _ _ _ _=>rfl,h.2⟩
        ·exact h.elim
       ·exact h.elim
   ·rename_i U
    split at h
    ·rename_i b v H' d
     simp only[bh.holds]at h;exact⟨v,H',tx q g (.inl (GW d h.1)),fun _ A y J=>Hg d J (by simpa only[kB,U]using y),h.2⟩
    ·split at h
     ·rename_i b H' d
      simp only[bh.holds]at h;refine⟨.undef,H',?_,fun _ A y J=>WK d (by simpa only[kB,U]using y),h.2⟩;unfold Yields;rw[show s.aw.fr=s.fr from rfl,q];simp only[g,aI.pU];exact .inr (.inr (Wf d h.1))
     ·exact h.elim
theorem MR{af:Array aQ}{s:aI}{o:aQ}{t:Tmp}{b a:Bool}(h:rj af s.fr o=.test t b a) :
  s.fr[t]? = some (.lit (.bool b))/\cr af s.fr o=some (b==a):=by
 unfold rj at h;unfold cr;cases d:o.guard with
 |none=>rw[d]at h; cases h
 | some k =>
  obtain⟨j,w⟩:=k;rw[d]at h;simp only[]at h|-;split at h
  ·rename_i t' q
   split at h
   ·rename_i v g
    cases h;exact⟨g,by rw[q]; simp only[g]⟩
   ·cases h
   ·cases h
  ·cases h
theorem Hh{af:Array aQ}{s:aI}{o:aQ}(h:rj af s.fr o=.no):cr af s.fr o=some false:=by
 unfold rj at h;unfold cr;cases a:o.guard with
 |none=>rw[a]at h; cases h
 | some b =>
  obtain⟨j,w⟩:=b;rw[a]at h;simp only[]at h|-;split at h
  ·rename_i t' d
   split at h
   ·cases h
   ·rename_i g
    rw[d];simp only[g]
   ·cases h
  ·cases h
theorem MS{af:Array aQ}{s:aI}{o:aQ}(h:rj af s.fr o=.yes):cr af s.fr o=some true:=by
 unfold rj at h;unfold cr;cases a:o.guard with
 |none=>rfl
 | some b =>
  obtain⟨j,w⟩:=b;rw[a]at h;simp only[]at h;split at h
  ·split at h<;>cases h
  ·cases h
theorem Cg{s:aI}{t:Tmp}{b:Bool} (h:s.fr[t]? = some (.lit (.bool b))):s.aO t b=s:=by
 unfold aI.aO;rw[pL h]
theorem WL(y:aL P τ){af:Array aQ}{o:aQ}{s:aI}{k:aI->bh}{Q:cJ->aI->Prop}(h:(G7 P τ af o s k).holds Q) :
  ∃ v H',Yields P τ.pf af o s.aw v (ax H')/\(k (s.put o.dst v H')).holds Q:=by
 have skip:cr af s.fr o=some false->Yields P τ.pf af o s.aw (.tuple []) (ax s.H):=by
  intro a;unfold Yields;rw[show s.aw.fr=s.fr from rfl,a];exact⟨rfl,rfl⟩
 unfold G7 at h;split at h
 ·exact h.elim
 ·rename_i a
  exact⟨_,_,skip (Hh a),h⟩
 ·rename_i a
  obtain⟨v,H',g,_,q⟩:=Cf y (MS a) h;exact⟨v,H',g,q⟩
 ·rename_i t b z a
  obtain⟨A,w⟩:=MR a;simp only[bh.holds]at h;cases b with
  | true =>
   have d:=h.1 rfl;rw[Cg A]at d;cases z with
   | true =>
    obtain⟨v,H',g,_,q⟩:=Cf y w d;exact⟨v,H',g,q⟩
   |false=>exact⟨_,_,skip w,d⟩
  | false =>
   have d:=h.2 rfl;rw[Cg A]at d;cases z with
   |true=>exact⟨_,_,skip w,d⟩
   | false =>
    obtain⟨v,H',g,_,q⟩:=Cf y w d;exact⟨v,H',g,q⟩
theorem MT(a:aL P τ){af:Array aQ}{Q:cJ->aI->Prop}:∀{l:List aQ} {s:aI} {k:aI->bh},(G8 P τ af l s k).holds Q->∃ s',ji P τ.pf af l s.aw s'.aw/\(k s').holds Q
 | [],s,k,h=>⟨s,rfl,h⟩
 | o::l,s,k,h=>by
  obtain⟨v,H',b,d⟩:=WL a h;obtain⟨s',g,q⟩:=MT a d;exact⟨s',⟨v,ax H',b,g⟩,q⟩
def Acc.le(a b:Acc):Prop:=(∀ x∈a.R,x∈b.R)/\∀ x∈a.W,x∈b.W
def Acc.ok(af:Array aQ)(j:Nat)(a:Acc):Prop:=(∀ x∈a.R,x.1<j)/\(∀ x∈a.W,x.1<j)/\tc af a.R a.W
theorem Hk{ay:List Nat}{i:Nat}(h:yz ay i=true):i∉ay:=by
 intro hm;have:ay.any (aH i)=true:=List.any_eq_true.2 ⟨i,hm,by simp⟩;simp[yz,this]at h
theorem WM{af:Array aQ}{j id:Nat}{a b:Acc}(w:a.ok af j)(h:G_ af j id a=some b):b.ok af (j+1)/\a.le b/\(j,id)∈b.R:=by
 unfold G_ at h;split at h
 ·rename_i g
  cases h;simp only[cq,nu,aE,dH]at g;obtain⟨y,k,q⟩:=w;refine⟨⟨fun x d=>?_,fun x d=>A7 (k x d),fun i t hi e he=>?_,q.2⟩,⟨fun x d=>c8 _ d,fun x d=>d⟩,cZ⟩
  ·rcases cf.1 d with rfl | d
   ·exact Te _
   ·exact A7 (y x d)
  ·rcases cf.1 hi with z | hi
   ·cases z
    have B:=k e he;refine⟨fun v=>absurd v (by omega),fun _ A=>?_⟩;rcases g e he with h|h
    ·rw[A]at h; cases h
    ·exact⟨Hk h.1,h.2⟩
   ·exact q.1 i t hi e he
 ·cases h
theorem MU{af:Array aQ}{j n:Nat}{T:List Nat}{a b:Acc}(U:a.ok af j)(h:Cb af j T n a=some b):b.ok af (j+1)/\a.le b/\(j,T,n)∈b.W:=by
 unfold Cb at h;split at h
 ·rename_i I
  split at h
  case h_2=>cases h
  rename_i z;cases h;simp only[cq,nu,aE,dH]at I z;obtain⟨M,B,F⟩:=U;refine⟨⟨fun x k=>A7 (M x k),fun x k=>?_,fun i A hi e he=>?_,fun e he w d g q id v=>?_,fun e he w d g q id v=>?_⟩,⟨fun x k=>k,fun x k=>c8 _ k⟩,cZ⟩
  ·rcases cf.1 k with rfl | k
   ·exact Te _
   ·exact A7 (B x k)
  ·rcases cf.1 he with y | he
   ·subst y
    have g:=M (i,A) hi;refine⟨fun _ N=>?_,fun J=>absurd J (by simp only at J g; omega)⟩;rcases I (i,A) hi with h|h
    ·simp only at N h; rw[N]at h; cases h
    ·exact⟨Hk h.1,h.2⟩
   ·exact F.1 i A hi e he
  ·rcases cf.1 d with y | d
   ·subst y
    rcases cf.1 he with t|he
    ·subst t
     exact absurd g (J9 _)
    ·rcases z e he with h | h
     ·simp only at q h
      rw[q]at h;cases h
     ·have O := h.1 id v
      exact⟨Hk O.1,O.2⟩
   ·rcases cf.1 he with t | he
    ·subst t
     have V:=B w d;exact absurd g (by simp only; omega)
    ·exact F.2.1 e he w d g q id v
  ·rcases cf.1 d with y | d
   ·subst y
    rcases cf.1 he with t|he
    ·subst t
     exact absurd g (J9 _)
    ·rcases z e he with h | h
     ·simp only at q h
      rw[q]at h;cases h
     ·exact h.2 id v
   ·rcases cf.1 he with t | he
    ·subst t
     have V:=B w d;exact absurd g (by simp only; omega)
    ·exact F.2.2 e he w d g q id v
 ·cases h
theorem Acc.yD{af:Array aQ}{j:Nat}{a:Acc}(h:a.ok af j):a.ok af (j+1):=⟨fun x b=>A7 (h.1 x b),fun x b=>A7 (h.2.1 x b),h.2.2⟩
theorem Acc.le_refl(a:Acc):a.le a:=⟨fun _ h=>h,fun _ h=>h⟩
theorem Acc.le_trans{a b c:Acc}(h:a.le b)(h':b.le c):a.le c:=⟨fun x d=>h'.1 x (h.1 x d),fun x d=>h'.2 x (h.2 x d)⟩
def Acc.only(j:Nat)(a b:Acc):Prop:=∀ x∈b.W,x.1<j->x∈a.W
theorem WN{af:Array aQ}{j:Nat}{o:aQ}{s:aI}{a b:Acc}(k:a.ok af j)(h:G' τ af j o s a=some b) :
  b.ok af (j+1)/\a.le b/\(db τ.pf o.op=.read->∀ id,nM s.eval o.op=some id->(j,id)∈b.R)/\(db τ.pf o.op=.write->(j,kB τ s.eval s.H o.op,s.H.length)∈b.W):=by
 unfold G' at h;split at h
 ·rename_i d
  cases h;exact⟨Acc.yD k,a.le_refl,(fun h=>by rw[d]at h; cases h),(fun h=>by rw[d]at h; cases h)⟩
 ·rename_i d
  split at h
  ·rename_i id q
   obtain⟨t,v,w⟩:=WM k h;refine⟨t,v,fun _ y g=>?_,(fun h=>by rw[d]at h; cases h)⟩;rw[q]at g;cases g;exact w
  ·rename_i q
   cases h;refine⟨Acc.yD k,a.le_refl,fun _ y g=>?_,(fun h=>by rw[d]at h; cases h)⟩;rw[q]at g;cases g
 ·rename_i d
  obtain⟨t,v,w⟩:=MU k h;exact⟨t,v,(fun h=>by rw[d]at h; cases h),fun _=>w⟩
theorem Hl{af:Array aQ}{j:Nat}{o:aQ}{s:aI}{v:AV}{H':List au}{b c:Acc}(k:b.le c)(w:db τ.pf o.op=.read->∀ id,nM s.eval o.op=some id->(j,id)∈b.R)
  (y:db τ.pf o.op=.write->(j,kB τ s.eval s.H o.op,s.H.length)∈b.W) (z:db τ.pf o.op=.write->∀ A,A∉kB τ s.eval s.H o.op->A<s.H.length->H'[A]? = s.H[A]?)
  (q:mz af o.op=true->db τ.pf o.op=.write->cr af s.aw.fr o=some true->∀ h,BV c.W j s.aw.H h->Yields P τ.pf af o ⟨s.aw.fr,mA h s.aw.H⟩ v (mA h (ax H'))) :
  (d:(my af&&fm o.op)=false)->Step P τ.pf af c.R c.W j o s.aw v (ax H'):=by
 intro d;refine⟨fun a A B=>?_,fun a _ id t=>k.1 _ (w a id (by rw[<-aI.pU]; exact t)),fun F g _=>(by rw[F,g]at d; cases d),q⟩;have:=B _ (k.2 _ (y a)) rfl;have g:=z a A this.1 this.2;show (ax H')[A]? = (ax s.H)[A]?
 simp only[ax,cX,g]
theorem step_skip{af:Array aQ}{j:Nat}{o:aQ}{s:aI}{c:Acc}(a:cr af s.fr o=some false):Step P τ.pf af c.R c.W j o s.aw (.tuple []) (ax s.H) :=
 ⟨fun _ _ _=>rfl,fun _ h=>(by rw[show s.aw.fr=s.fr from rfl,a]at h; cases h),fun _ _ _=>⟨rfl,fun _ h=>(h rfl).elim⟩,fun _ _ h=>(by rw[show s.aw.fr=s.fr from rfl,a]at h; cases h)⟩
theorem MV(g:aL P τ){f:bC}{args:List AV}{v:AV}(k:τ.N f=true):∀(a:List (Nat × ah)) (H H':List au),τ.W f args H=some (true,v,H')->(∀ p∈a,p.1<H.length/\p.1∉τ.C f args H) ->
  ∃ d b,ax d=mA a (ax H)/\ax b=mA a (ax H')/\τ.W f args d=some (true,v,b)
 | [],H,H',h,_=>⟨H,H',rfl,rfl,h⟩
 | p::a,H,H',h,t=>by
  obtain⟨w,y⟩:=t p cZ;obtain⟨z,A⟩:=g.F.2 f k args H true v H' h p.1 (.raw p.2) w y;obtain⟨d,b,B,I,J⟩:=MV g k a _ _ z fun q M=>by
   obtain⟨O,U⟩:=t q (c8 _ M);rw[A];exact⟨by simpa using O,U⟩
  refine⟨d,b,?_,?_,J⟩
  ·rw [B, cP]
   rfl
  ·rw [I, cP]
   rfl
theorem WO{o:aQ}{s:aI}{k:AV->List au->bh}{f:bC}{args:List AV}{b:Bool}{v:AV}{H':List au}(a:tb o.op=true)(g:db τ.pf o.op=.write)(d:iX s.eval o.op=some (f,args))(q:τ.W f args s.H=some (b,v,H')) :
  mC P τ o s k=.side b (k v H'):=by
 unfold tb at a;split at a
 ·rename_i c h
  unfold mC;rw[h]at g d|-;simp only[g,d,q]
 ·cases a
theorem MW{r:bX->AV}{op:Op}(h:nN op=true):iX r op=none:=by
 unfold nN at h;split at h
 ·rfl
 ·rename_i c
  split at h
  ·rename_i a
   simp only[iX,BL,a]
  ·cases h
 ·cases h
theorem WQ{o:aQ}{s:aI}{k:AV->List au->bh}{Q:cJ->aI->Prop}(d:nN o.op=true)(t:db τ.pf o.op=.write)(h:(mC P τ o s k).holds Q) :
  ∃ v H',kA P s.eval s.H o.op=some (true,v,H')/\(k v H').holds Q:=by
 have g:=MW (r:=s.eval) d;have q:vJ P s.eval s.H o.op=none:=by
  unfold nN at d;split at d
  ·rename_i a; rw[a]; rfl
  ·rename_i a; rw[a]; rfl
  ·cases d
 have w:mC P τ o s k=match kA P s.eval s.H o.op with
   |some (b,v,H')=>.side b (k v H')
   |none=>.fail:=by
  unfold nN at d;split at d
  ·rename_i a
   unfold mC;rw[a]at t g q|-;simp only[t,g,q]
  ·rename_i a
   unfold mC;rw[a]at t g q|-;simp only[t,g,q]
  ·cases d
 rw[w]at h;split at h
 ·rename_i b v H' y
  simp only[bh.holds]at h;obtain⟨rfl,h⟩:=h;exact⟨v,H',y,h⟩
 ·exact h.elim
theorem MX{sz:Nat}{x:AV}{H d:List au}{a:Option (List Kd)}(h:∀ id,er x=some id->d[id]? = H[id]?):rb sz x d a=rb sz x H a:=by
 cases x with
 | vQ w id al oF n =>
  have:=h id rfl;unfold rb;simp only[this]
 | lit v =>
  cases v with
  |slice b n c=>cases b<;>cases n<;>cases c<;>rfl
  |_=>rfl
 |_=>rfl
theorem MY{sz:Nat}{x:AV}{H a:List au}{z:List ak}(h:∀ id,er x=some id->a[id]? = H[id]?):tk sz x a z=tk sz x H z:=by
 unfold tk;cases x<;>exact MX h
theorem Ch{α:Type}{H:List α}{x o:α}{id:Nat}(h:id<H.length):(H++[x]).set id o=H.set id o++[x]:=List.set_append_left _ _ h
theorem WR{r:bX->AV}{op:Op}(k:nN op=true){H H':List au}{v:AV}{id:Nat}{o:au}(h:kA P r H op=some (true,v,H'))(F:id<H.length)(O:id∉op.operands.toList.flatMap fun x=>lQ (r x)) :
  kA P r (H.set id o) op=some (true,v,H'.set id o):=by
 have no:∀ x∈op.operands.toList,er (r x)≠some id:=fun x q e=>O (Ff.2 ⟨x,q,G9 e⟩);unfold nN at k;split at k
 ·rename_i t n parts
  simp only[kA]at h|-;unfold vB at h|-;split at h
  case h_2=>cases h
  rename_i y
  try simp only[y]
  split at h
  case h_2=>cases h
  rename_i z
  try simp only[z]
  split at h
  case h_2=>cases h
  rename_i A
  try simp only[A]
  split at h
  case h_2=>cases h
  rename_i B
  try simp only[B]
  split at h
  case h_2=>cases h
  rename_i a
  try simp only[a]
  split at h
  case isFalse=>cases h
  rename_i b
  try rw[iP b]
  simp only[a_,bk,true_and]at h|-;obtain⟨rfl,rfl⟩:=h;exact⟨by rw[jd],(Ch F).symm⟩
 ·rename_i c
  split at k
  case h_2=>cases k
  rename_i U;simp only[kA,U]at h|-;split at h
  case h_2=>cases h
  rename_i s x t xt I N;have na:∀ x∈c.args.toList,er (r x)≠some id:=fun x q=>no x (by
   simp only[eV,uI,Array.toList_append,cN];exact .inr q)
  have V:er (r s)≠some id:=na s (by rw[I]; simp);have q:er (r x)≠some id:=na x (by rw[I]; simp);have same:∀ i,er (r x)=some i->(H.set id o)[i]? = H[i]? := fun i hi=>bc fun e=>q (by rw[hi,e]);split at h
  ·rename_i W
   try simp only[I,N,W]
   unfold vH at h|-;split at h
   case h_2=>cases h
   rename_i y z A B
   try simp only[y,z,A,B]
   split at h
   case h_2=>cases h
   rename_i a
   try simp only[a]
   split at h
   case h_2=>cases h
   rename_i b
   try simp only[b]
   split at h
   case h_2=>cases h
   rename_i d
   try simp only[d]
   split at h
   case isFalse=>cases h
   rename_i J
   try rw[iP J]
   simp only[a_,bk]at h|-;obtain⟨g,rfl,rfl⟩:=h;exact⟨g,by rw[jd],(Ch F).symm⟩
  ·rename_i X
   try simp only[I,N]
   unfold vz at h|-;split at h
   case h_2=>cases h
   rename_i y
   try simp only[y]
   split at h
   case h_2=>cases h
   rename_i z A
   try simp only[z,A]
   split at h
   case isFalse=>cases h
   rename_i B
   try rw[iP B]
   split at h
   ·rename_i a
    try simp only[a,MY same]
    split at h
    case h_2=>cases h
    rename_i b
    try simp only[b]
    split at h
    case isFalse=>cases h
    rename_i d
    try rw[iP d]
    simp only[a_,bk]at h|-;obtain⟨g,rfl,rfl⟩:=h;exact⟨g,by rw[jd],(Ch F).symm⟩
   ·rename_i a
    try simp only[a,MY same]
    split at h
    case h_2=>cases h
    rename_i b
    try simp only[b]
    split at h
    case isFalse=>cases h
    rename_i d
    try rw[iP d]
    simp only[a_,bk]at h|-;obtain⟨g,rfl,rfl⟩:=h;exact⟨g,by rw[jd],(Ch F).symm⟩
   ·rename_i w i al oF n a
    have M:i≠id:=fun e=>V (by rw[a,<-e]; rfl)
    try simp only[a,bc (Ne.symm M)]
    split at h
    case h_2=>cases h
    rename_i b
    try simp only[b,MX same]
    split at h
    case h_2=>cases h
    rename_i d
    try simp only[d]
    split at h
    case isFalse=>cases h
    rename_i J
    try rw[iP J]
    simp only[a_,bk]at h|-;obtain⟨g,rfl,rfl⟩:=h;exact⟨g,rfl,List.set_comm _ _ (Ne.symm M)⟩
   ·cases h
 ·cases k
theorem MZ{r:bX->AV}{op:Op}(g:nN op=true){v:AV}:∀(a:List (Nat × ah)) (H H':List au),kA P r H op=some (true,v,H')->(∀ p∈a,p.1<H.length/\p.1∉op.operands.toList.flatMap fun x=>lQ (r x)) ->
  ∃ d b,ax d=mA a (ax H)/\ax b=mA a (ax H')/\kA P r d op=some (true,v,b)
 | [],H,H',h,_=>⟨H,H',rfl,rfl,h⟩
 | p::a,H,H',h,k=>by
  obtain⟨t,w⟩:=k p cZ;have y:=WR g (o:=.raw p.2) h t w;obtain⟨d,b,z,A,B⟩:=MZ g a _ _ y fun q F=>by
   obtain⟨I,J⟩:=k q (c8 _ F);exact⟨by simpa using I,J⟩
  refine⟨d,b,?_,?_,B⟩
  ·rw [z, cP]
   rfl
  ·rw [A, cP]
   rfl
theorem M0{z:List ak}:∀{H:List au} {i j:Nat} {ks:List Kd} {g:LG},tu z H i=some (j,ks,g)->i<=j/\H[j-i]? = some (.vQ ks 0 [])/\vK ks z=some g
 | [],_,_,_,_,h=>by cases h
 | o::H,i,j,ks,g,h=>by
  have next:tu z H (i+1)=some (j,ks,g)->i<=j/\(o::H)[j-i]? = some (.vQ ks 0 [])/\vK ks z=some g:=by
   intro h;obtain⟨t,a,b⟩:=M0 h;refine⟨by omega,?_,b⟩;rw[show j-i=(j-(i+1))+1 from by omega];simpa using a
  unfold tu at h;split at h
  ·cases ‹_=_›
  ·rename_i q k H' v e
   cases e;split at h
   ·rename_i w d
    split at h
    ·cases h
     exact⟨aY _,by simp,d⟩
    ·exact next h
   ·exact next h
  ·rename_i e
   cases e;exact next h
theorem Hm:∀{H:List au} {i j:Nat},vL H i=some j->i<=j/\H[j-i]? = some (.raw .dP)
 | [],_,_,h=>by cases h
 | o::H,i,j,h=>by
  have next:vL H (i+1)=some j->i<=j/\(o::H)[j-i]? = some (.raw .dP):=by
   intro h;obtain⟨b,a⟩:=Hm h;refine⟨by omega,?_⟩;rw[show j-i=(j-(i+1))+1 from by omega];simpa using a
  unfold vL at h;split at h
  ·cases ‹_=_›
  ·rename_i e
   cases e;cases h;exact⟨aY _,by simp⟩
  ·rename_i e
   cases e;exact next h
theorem WS{op:Op}{H H':List au}{id:Nat}{v:AV}(h:Ha P op H=some (id,v,H')) :
  ((∃ t m,op=.alloc t/\qV P t id m (ax H)=some (v,ax H'))\/∃ t,op=.makeMap t none/\sQ id (ax H)=some (v,ax H'))/\H'.length=H.length/\∀ A,A≠id->H'[A]? = H[A]? := by
 unfold Ha at h;split at h
 ·rename_i t
  split at h
  ·rename_i z k
   split at h
   ·rename_i i ks g b
    cases h;obtain⟨_,a,w⟩:=M0 b;rw[ff]at a;have e:=ME w;refine⟨.inl ⟨t,mZ ks,rfl,?_⟩,by simp,fun A d=>bc (Ne.symm d)⟩;have q:ks.length=z.length:=by
     have:=congrArg Fb e;simpa[xu,By]using this
    rw[Gp (m:=mZ ks) k (y:=.vQ z.length 0 []) (v:=.ptr id 1 z.length 0 0) (x:=.vQ z.length 1 [jD (mZ ks) z]) (by rw[bx a,<-q]; rfl) (.inl ⟨rfl,rfl,rfl⟩),cP,<-e,<-q];rfl
   ·split at h
    ·rename_i i b
     cases h;obtain⟨_,a⟩:=Hm b;rw[ff]at a;refine⟨.inl ⟨t,[],rfl,?_⟩,by simp,fun A d=>bc (Ne.symm d)⟩;rw[Gp (m:=[]) k (y:=.dP) (v:=.ptr id 0 0 0 0) (x:=.box (z.map .lit)) (by rw[bx a]; rfl) (.inr ⟨rfl,rfl,rfl⟩),cP];rfl
    ·cases h
  ·cases h
 ·rename_i t
  split at h
  ·rename_i K V _
   split at h
   ·rename_i i b
    cases h;obtain⟨_,a⟩:=Hm b;rw[ff]at a;refine⟨.inr ⟨t,rfl,?_⟩,by simp,fun A d=>bc (Ne.symm d)⟩;rw[K4 (by rw[bx a]; rfl),cP];rfl
   ·cases h
  ·cases h
 ·cases h
theorem Hn(V:aL P τ){af:Array aQ}{j:Nat}{o:aQ}{s:aI}{a:Acc}{k:aI->Acc->bh}{Q:cJ->aI->Prop}(hw:cr af s.fr o=some true)(ha:a.ok af j)(h:(yA P τ af j o s a k).holds Q) :
  ∃ v H' b,Yields P τ.pf af o s.aw v (ax H')/\b.ok af (j+1)/\a.le b/\(∀ c,b.le c->Step P τ.pf af c.R c.W j o s.aw v (ax H'))/\(k (s.put o.dst v H') b).holds Q:=by
 unfold yA at h;split at h
 ·rename_i y
  simp only[aE]at y;split at h
  ·rename_i id v H' hal
   split at h
   ·rename_i b hb
    obtain⟨hnew,hlen,hkeep⟩:=WS hal;obtain⟨X,Y,N⟩:=MU ha hb;refine⟨v,H',b,?_,X,Y,fun c g=>⟨fun _ A hA=>?_,fun hr=>(by rw[pT y.2]at hr; cases hr),fun _ _ _=>⟨?_,fun id' hne=>?_⟩,fun hcv=>(by rw[oH y.2]at hcv; cases hcv)⟩,h⟩
    ·unfold Yields
     rw[show s.aw.fr=s.fr from rfl,hw];simp only[pT y.2];rcases hnew with⟨t,m,hop,J⟩|⟨t,hop,J⟩
     ·exact .inr (.inl (.inl ⟨t,id,m,hop,J⟩))
     ·exact .inr (.inl (.inr ⟨t,id,hop,J⟩))
    ·have := (hA _ (g.2 _ N) rfl).1
     show (ax H')[A]? = (ax s.H)[A]?
     simp only[ax,cX,hkeep A (by simpa using this)]
    ·show (ax H').length = (ax s.H).length
     simp only[fj,hlen]
    ·refine ⟨_, g.2 _ N, rfl, ?_⟩
     have e:id'=id:=sC fun e=>hne (by
      show (ax H')[id']? = (ax s.H)[id']?
      simp only[ax,cX,hkeep id' e])
     rw[e];exact List.mem_singleton.2 rfl
   ·exact h.elim
  ·exact h.elim
 ·rename_i y
  split at h
  ·exact h.elim
  rename_i hfc;split at h
  ·rename_i b hb
   obtain⟨X,Y,N,g4⟩:=WN ha hb;by_cases F:mz af o.op=true/\db τ.pf o.op=.write
   ·obtain ⟨F, I⟩ := F
    have q:Hb τ o s=true:=by
     rw[F]at hfc;simpa using hfc
    unfold Hb at q;rw[I]at q;simp only[]at q;split at q
    ·rename_i f args B
     split at q
     case h_2=>cases q
     rename_i hN;obtain⟨⟨b0,v,H'⟩,O⟩:=Option.isSome_iff_exists.1 q;have hcv:tb o.op=true:=by
      unfold mz at F;rw[nu,aE,aE]at F;rcases F with w|w
      ·exact w.1
      ·rw [MW w.1] at B
       cases B
     rw[WO hcv I B O]at h;simp only[bh.holds]at h;obtain⟨rfl,h⟩:=h;obtain⟨hbody,hcall⟩:=V.W f args s.H true v H' O rfl;have U:kB τ s.eval s.H o.op=(τ.C f args s.H).filter fun id => !rm τ f args s.H id:=by
      unfold kB;rw[B]
     have hcal':∀ d,iX (St.eval ⟨s.aw.fr,d⟩) o.op=some (f,args):=fun d=>by
      have e:St.eval ⟨s.aw.fr,d⟩=s.eval:=by funext x; cases x<;>rfl
      rw[e];exact B
     have yl:∀ d M:List ah,eK P f args d v M->Yields P τ.pf af o ⟨s.aw.fr,d⟩ v M:=fun d M z=>by
      unfold Yields;rw[show (St.mk s.aw.fr d).fr=s.fr from rfl,hw];simp only[I];exact .inl (.inr ⟨f,args,hcal' d,hbody,z⟩)
     refine⟨v,H',b,yl _ _ hcall,X,Y,fun c g=>Hl g N g4 (fun _ A hA hlt=>?_) (fun _ _ _ σ hσ=>?_) (by simpa using y),h⟩
     ·rcases MD O (by rw [<- U]; exact hA) with w | w
      ·exact V.C f args s.H true v H' O A w hlt
      ·exact w
     ·obtain ⟨d,H2',q1,q2,q3⟩:=MV V hN σ s.H H' O (fun p hp=>by
       obtain⟨hk,x,z,hh⟩:=hσ p hp;obtain⟨k1,k2⟩:=hk _ (g.2 _ (g4 I)) rfl;rw[U]at k1;refine⟨k2,fun hm=>k1 (A6.2 ⟨hm,?_⟩)⟩;unfold rm;rw[O];cases hq:yy H'[p.1]? s.H[p.1]? with
       |false=>simp only[hq]; rfl
       | true =>
        have z:(ax s.H)[p.1]? = some x:=z;unfold yy at hq;split at hq
        ·rename_i e
         simp only[ax,cX,e,fk,au.aw]at z;cases z;rcases hh with⟨k,hh⟩|hh<;>cases hh
        ·cases hq)
      rw[<-q2,show mA σ s.aw.H=ax d from q1.symm];exact yl _ _ (V.W f args d true v H2' q3 rfl).2
    ·rename_i B
     obtain⟨v,H',J,h⟩:=WQ q I h;have U:kB τ s.eval s.H o.op=o.op.operands.toList.flatMap fun x=>lQ (s.eval x):=by
      unfold kB;rw[B]
     have yl:∀ d M:List au,kA P s.eval d o.op=some (true,v,M)->Yields P τ.pf af o ⟨s.aw.fr,ax d⟩ v (ax M):=fun d M z=>by
      unfold Yields;rw[show (St.mk s.aw.fr (ax d)).fr=s.fr from rfl,hw];simp only[I];have e:St.eval ⟨s.fr,ax d⟩=s.eval:=by funext x; cases x<;>rfl
      rw[e];exact .inl (.inl (GW z rfl))
     refine⟨v,H',b,yl _ _ J,X,Y,fun c g=>Hl g N g4 (fun _ A hA hlt=>Hg J hlt (by rw[<-U]; exact hA)) (fun _ _ _ σ hσ=>?_) (by simpa using y),h⟩;obtain⟨d,H2',q1,q2,q3⟩:=MZ q σ s.H H' J (fun p hp=>by
      obtain⟨hk,_⟩:=hσ p hp;obtain⟨k1,k2⟩:=hk _ (g.2 _ (g4 I)) rfl;rw[U]at k1;exact⟨k2,k1⟩)
     rw[<-q2,show mA σ s.aw.H=ax d from q1.symm];exact yl _ _ q3
   ·obtain ⟨v, H', q1, q2, q3⟩ := Cf V hw h
    exact⟨v,H',b,q1,X,Y,fun c g=>Hl g N g4 q2 (fun w h3=>absurd ⟨w,h3⟩ F) (by simpa using y),q3⟩
  ·exact h.elim
theorem WT(y:aL P τ){af:Array aQ}{j:Nat}{o:aQ}{s:aI}{a:Acc}{k:aI->Acc->bh}{Q:cJ->aI->Prop}(q:a.ok af j)(h:(Hc P τ af j o s a k).holds Q) :
  ∃ v H' b,Yields P τ.pf af o s.aw v (ax H')/\b.ok af (j+1)/\a.le b/\(∀ c,b.le c->Step P τ.pf af c.R c.W j o s.aw v (ax H'))/\(k (s.put o.dst v H') b).holds Q:=by
 have skip:cr af s.fr o=some false->Yields P τ.pf af o s.aw (.tuple []) (ax s.H):=by
  intro d;unfold Yields;rw[show s.aw.fr=s.fr from rfl,d];exact⟨rfl,rfl⟩
 unfold Hc at h;split at h
 ·exact h.elim
 ·rename_i d
  exact⟨_,_,a,skip (Hh d),Acc.yD q,a.le_refl,fun _ _=>step_skip (Hh d),h⟩
 ·rename_i d
  exact Hn y (MS d) q h
 ·rename_i t b z d
  obtain⟨A,w⟩:=MR d;simp only[bh.holds]at h;cases b with
  | true =>
   have g:=h.1 rfl;rw[Cg A]at g;cases z with
   |true=>exact Hn y w q g
   |false=>exact⟨_,_,a,skip w,Acc.yD q,a.le_refl,fun _ _=>step_skip w,g⟩
  | false =>
   have g:=h.2 rfl;rw[Cg A]at g;cases z with
   |true=>exact⟨_,_,a,skip w,Acc.yD q,a.le_refl,fun _ _=>step_skip w,g⟩
   |false=>exact Hn y w q g
theorem M1(g:aL P τ){af:Array aQ}{Q:cJ->aI->Prop}:∀{l:List aQ} {j:Nat} {s:aI} {a:Acc} {k:aI->bh},a.ok af j->(Hd P τ af l j s a k).holds Q ->
  ∃ s' b,tc af b.R b.W/\a.le b/\vt P τ.pf af b.R b.W l j s.aw s'.aw/\(k s').holds Q
 | [],j,s,a,k,d,h=>⟨s,a,d.2.2,a.le_refl,rfl,h⟩
 | o::l,j,s,a,k,d,h=>by
  obtain⟨v,H',b,t,w,y,z,A⟩:=WT g d h;obtain⟨s',c,B,q,F,I⟩:=M1 g w A;exact⟨s',c,B,Acc.le_trans y q,⟨v,ax H',t,z c q,F⟩,I⟩
theorem WU{m id:Nat}{af:Array aQ}{s s':aI}{b:Acc}(hm:P.follows .mixedOrders=true)(a:vu τ.pf af=true)(d:tc af b.R b.W)(h:vt P τ.pf af b.R b.W af.toList 0 s.aw s'.aw) :
  dC P m (.region id af true) s.aw .normal s'.aw:=fun g _ _ _ k=>VD hm a d k h (fun _ _ q=>⟨rfl,q.toM⟩) g
theorem yE{K:cJ->aI->bh}{Q:cJ->aI->Prop}:∀{t:bh},(t.bind K).holds Q->t.holds fun x s=>(K x s).holds Q
 |.fail,h=>h
 |.done _ _,h=>h
 |.ask _ _ _,h=>⟨fun a=>yE (h.1 a),fun a=>yE (h.2 a)⟩
 |.side _ _,h=>⟨h.1,yE h.2⟩
theorem M2{m:Nat}{c:Code}{Q:cJ->aI->Prop}{body:aI->(cJ->aI->bh)->bh}
  (d:∀ s K,(body s K).holds Q->∃ x s',dC P m c s.aw x s'.aw/\(K x s').holds Q):∀(n:Nat) (s:aI) (K:cJ->aI->bh),(Cc body n s K).holds Q ->
  ∃ x s',mw P m c s.aw x s'.aw/\(K x s').holds Q
 |0,_,_,h=>h.elim
 | n+1,s,K,h=>by
  simp only[Cc]at h;obtain⟨x,s1,a,b⟩:=d _ _ h;cases x with
  | normal =>
   obtain⟨y,s2,g,k⟩:=M2 d n s1 K b;exact⟨y,s2,.next a g,k⟩
  |exit i=>exact⟨_,s1,.stop a (by simp),b⟩
  |ret=>exact⟨_,s1,.stop a (by simp),b⟩
theorem kZ(hm:P.follows .mixedOrders=true)(v:aL P τ){m:Nat}{L:LT}{Q:cJ->aI->Prop}:∀(c:Code) (s:aI) (K:cJ->aI->bh),
  ba P m L c->(fD P τ L c s K).holds Q->∃ x s',dC P m c s.aw x s'.aw/\(K x s').holds Q
 |.skip,s,K,_,h=>⟨_,_,Va,h⟩
 | .region id af M,s,K,q,h=>by
  simp only[fD]at h;split at h
  ·rename_i A
   split at h
   ·rename_i U
    simp only[bh.holds]at h;have O:M=true:=by
     cases M with
     |true=>rfl
     |false=>simp at A
    subst O;obtain⟨s',b,k,_,d,w⟩:=M1 v (a:=⟨[],[]⟩) ⟨by simp,by simp,⟨fun i id hi=>(nomatch hi),fun e he=>(nomatch he),fun e he=>(nomatch he)⟩⟩ h.2;exact⟨_,_,s_ (q.2.1 id s h.1) (WU hm U k d),w⟩
   ·exact h.elim
  ·rename_i N
   simp only[bh.holds]at h;obtain⟨s',k,d⟩:=MT v h.2;refine⟨_,_,s_ (q.2.1 id s h.1) (Vd hm (fun A=>?_) k),d⟩;rw[A]at N;simpa using N
 | .seq a b,s,K,q,h=>by
  simp only[fD]at h;have B:ba P m L a:=q.sub (fun p g=>by simp only[cC]; exact cN.2 (.inl g)) (fun p g=>by simp only[cB]; exact cN.2 (.inl g));have F:ba P m L b:=q.sub (fun p g=>by simp only[cC]; exact cN.2 (.inr g)) (fun p g=>by simp only[cB]; exact cN.2 (.inr (cN.2 (.inr g))));obtain⟨x,s1,k,d⟩:=kZ hm v a s _ B h;cases x with
  | normal =>
   simp only[MF]at d;split at d
   ·rename_i t z
    unfold MI at z;split at z
    ·rename_i i hi
     obtain⟨y,s2,w,J⟩:=q.2.2 i b (by simp only[cB,hi]; exact cN.2 (.inr (cN.2 (.inl (cZ))))) s1 t z _ (yE d);exact⟨y,s2,BQ k w,J⟩
    ·cases z
   ·obtain ⟨y, s2, w, J⟩ := kZ hm v b s1 K F d
    exact⟨y,s2,BQ k w,J⟩
  |exit id=>exact⟨_,_,LP k (by simp),d⟩
  |ret=>exact⟨_,_,LP k (by simp),d⟩
 | .cond c a b,s,K,q,h=>by
  simp only[fD]at h;have B:ba P m L a:=q.sub (fun p g=>by simp only[cC]; exact cN.2 (.inl g)) (fun p g=>by simp only[cB]; exact cN.2 (.inl g));have F:ba P m L b:=q.sub (fun p g=>by simp only[cC]; exact cN.2 (.inr g)) (fun p g=>by simp only[cB]; exact cN.2 (.inr g));split at h
  ·rename_i t V
   have I:=MK V;rw[<-aI.pU]at I;simp only[bh.holds]at h;cases t with
   | true =>
    obtain⟨x,s1,k,d⟩:=kZ hm v a s K B (h.1 rfl);exact⟨x,s1,LQ I (by simpa using k),d⟩
   | false =>
    obtain⟨x,s1,k,d⟩:=kZ hm v b s K F (h.2 rfl);exact⟨x,s1,LQ I (by simpa using k),d⟩
  ·exact h.elim
 | .block id c,s,K,q,h=>by
  simp only[fD]at h;obtain⟨x,s1,k,d⟩:=kZ hm v c s _ (q.sub (fun p g=>by simpa only[cC]using g) (fun p g=>by simpa only[cB]using g)) h;refine⟨_,s1,LR k,?_⟩;cases x with
  |normal=>exact d
  | exit i =>
   simp only[MG]at d;simp only[cJ.inBlock];split
   ·rename_i e; rw[iP e]at d; exact d
   ·rename_i e; rw[iN e]at d; exact d
  |ret=>exact d
 | .loop c,s,K,q,h=>by
  simp only[fD]at h;split at h
  ·rename_i i hi
   split at h
   ·rename_i t W
    obtain⟨x,s',k,d⟩:=q.1 i c (by simp only[cC,hi]; exact cZ) s t W _ (yE h);exact⟨x,s',LS k,d⟩
   ·obtain ⟨x, s', k, d⟩ := M2 (fun s1 X Y => kZ hm v c s1 X (q.sub (fun p g => by simp only [cC, hi]; exact c8 _ g) (fun p g => by simpa only [cB] using g)) Y) 400 s K h
    exact⟨x,s',LS k,d⟩
  ·exact h.elim
 |.exit id,s,K,_,h=>⟨_,_,Vc,h⟩
 |.ret,s,K,_,h=>⟨_,_,Vb,h⟩
 |.rangeFunc ..,_,_,_,h=>by simp[fD,bh.holds]at h
 |.scope _,_,_,_,h=>by simp[fD,bh.holds]at h
 |.label _,_,_,_,h=>by simp[fD,bh.holds]at h
 |.goto _,_,_,_,h=>by simp[fD,bh.holds]at h
 |.refuse _,_,_,_,h=>by simp[fD,bh.holds]at h
end sound
end Go.AL

namespace Go.AL
open Go
variable [Dr]
inductive rq where
 |fail
 |ret (v:AV) (H:List au)
 |ask (b:Bool) (t e:rq)
 |side (b:Bool) (t:rq)
def rq.holds(Q:AV->List au->Prop):rq->Prop
 |.fail=>False
 |.ret v H=>Q v H
 |.ask b t e=>(b=true->t.holds Q)/\(b=false->e.holds Q)
 |.side b t=>b=true/\t.holds Q
def rq.two:rq->Option (AV × List au)
 |.fail=>none
 |.ret v H=>some (v,H)
 |.ask b t e=>bif b then t.two else e.two
 |.side b t=>bif b then t.two else none
def rq.val:rq->Option AV
 |.fail=>none
 |.ret v _=>some v
 |.ask b t e=>bif b then t.val else e.val
 |.side b t=>bif b then t.val else none
def WV{E:ae}{a:List AV}{b:List ak}(h:ar E a b):ab E (dp a) (if h:b.toArray.size=1 then b.toArray[0] else .tuple b.toArray):=by
 cases b with
 | nil =>
  cases a with
  |nil=>simp[dp,ab,ar]
  |cons _ _=>simp[ar]at h
 | cons u b =>
  cases b with
  | nil =>
   cases a with
   |nil=>simp[ar]at h
   | cons v a =>
    cases a with
    |nil=>simp only[ar]at h; simpa[dp]using h.1
    |cons _ _=>simp[ar]at h
  | cons d b =>
   cases a with
   |nil=>simp[ar]at h
   | cons v a =>
    cases a with
    |nil=>simp[ar]at h
    | cons g a =>
     simp only[dp,ab];exact⟨(u::d::b).toArray,by simp,h⟩
end Go.AL

namespace Go.AL
open Go
variable [Dr]
def M3(a:List Nat):aJ:={ pf:=fun g=>a.any fun t=>aH g (t+1000000),T:=fun _ _=>none,W:=fun _ _ _=>none,C:=fun _ _ _=>[],U:=fun _=>false }
def WW(P:ai)(a:List Nat):aL P (M3 a):=⟨fun _ _ _ _ h=>(nomatch h),fun _ _ _ _ _ _ h=>(nomatch h),fun _ _ _ _ _ _ h=>(nomatch h),fun _ _ _ _ h=>(nomatch h),fun _ _ _ _=>⟨rfl,rfl⟩,fun _ h=>(nomatch h)⟩
def aJ.add(τ:aJ)(f:bC)(c:List AV->Option (Bool × AV)):aJ where
 pf g:=match aH g f with
  |true=>true
  |false=>τ.pf g
 T g args:=match aH g f with
  |true=>c args
  |false=>τ.T g args
 W:=τ.W
 C:=τ.C
 I:=τ.I
 N:=τ.N
 U:=τ.U
def aL.add{P:ai}{τ:aJ}(h:aL P τ){f:bC}{c:List AV->Option (Bool × AV)}(k:fM P f=true)(q:∀ args b v,c args=some (b,v)->b=true->nJ P f args v) :
  aL P (τ.add f c):=by
 refine⟨fun g args b v a d=>?_,h.W,h.C,h.I,h.F⟩;simp only[aJ.add]at a;split at a
 ·rename_i e
  have e:=bA e;subst e;exact⟨k,q args b v a d⟩
 ·exact h.T g args b v a d
def dc:LT:=⟨fun _ _=>none,fun _ s=>(true,s),fun _ _=>none⟩
def dx(P:ai)(m:Nat)(c:Code):ba P m dc c:=⟨fun _ _ _ _ _ h=>(nomatch h),fun _ _ _=>bD.refl _,fun _ _ _ _ _ h=>(nomatch h)⟩
abbrev aB(b:Bool):AV:=.lit (.bool b)
end Go.AL

namespace Go.AL
open Go
variable [Dr]
def yF(aO:Nat)(ks:List Kd)(s:aI):aI:=⟨s.fr.set aO (.vQ ks.length s.H.length 0 0 0),s.H++[.vQ ks 0 []]⟩
def isNil:AV->Bool
 |.nils | .lit (.slice none 0 0)=>true
 |_=>false
def M4{E:ae}{a:AV}{c:ak}(h:isNil a=true)(b:ab E a c):∃ aN,c=.slice aN 0 0:=by
 unfold isNil at h;split at h
 ·simpa only[ab]using b
 ·simp only[ab]at b; exact⟨none,b⟩
 ·cases h
def M5{m:Nat}{aO:Nat}{ks:List Kd}{s:aI}(h:isNil (s.fr.getD aO .undef)=true):bD m s.aw (yF aO ks s).aw:=fun E a d=>by
 have hH:E.H=ax s.H:=d.H;have z:E.H.length=s.H.length:=by rw[hH,fj]
 have A:E.le (E.push E.w (.vQ ks.length 0 []) none):=ae.lF d.heap.len (Ext.refl _) (fun b n h=>by cases h);have F:aV (E.push E.w (.vQ ks.length 0 []) none) E.H.length (.vQ ks.length 0 []):=by
  simp only[aV,ae.push];refine .inl ⟨?_,trivial⟩;rw[jz (by rw[d.heap.len]; exact aY _),d.heap.len,pt];rfl
 have I:aG (E.push E.w (.vQ ks.length 0 []) none):=aG.push d.heap (Ext.refl _) (fun b n h=>by cases h) F;have t:(yF aO ks s).aw.H=E.H++[.vQ ks.length 0 []]:=by
  rw[hH];simp[yF,aI.aw,ax,au.aw]
 refine⟨E.ad++[none],E.X,?_,?_⟩
 ·rw [t]
  refine⟨t.symm,?_,d.defers,I⟩;have h':=dX A _ d.fr;have M:∀(fr:List AV) (g:List ak) (i:Nat),ar E fr g->isNil (fr.getD i .undef)=true->ar (E.push E.w (.vQ ks.length 0 []) none) fr g ->
    ar (E.push E.w (.vQ ks.length 0 []) none) (fr.set i (.vQ ks.length s.H.length 0 0 0)) g:=by
   intro fr
   induction fr with
   |nil=>intro g i q y k; exact k
   | cons b fr N =>
    intro g i q y k;cases g with
    |nil=>simp[ar]at q
    | cons c g =>
     simp only[ar]at q k;cases i with
     | zero =>
      simp only[List.set_cons_zero,ar];refine⟨?_,k.2⟩;obtain⟨aN,rfl⟩:=M4 (by simpa using y) q.1;have O:(E.push E.w (.vQ ks.length 0 []) none).H[s.H.length]? = some (.vQ ks.length 0 []):=by
       simp only[ae.push];rw[jz (by omega),z,pt];rfl
      have J:(E.push E.w (.vQ ks.length 0 []) none).ad[s.H.length]? = some none:=by
       simp only[ae.push];rw[jz (by rw[d.heap.len]; omega),d.heap.len,z,pt];rfl
      simp only[ab];refine⟨⟨aN,0,rfl,aY _,fun h=>absurd h (J9 _)⟩,⟨_,O,rfl,fun v h=>fO _⟩,fun _=>⟨fun _=>⟨trivial,trivial,aN,rfl⟩,fun b m B=>?_⟩⟩;rw[J]at B;cases B
     | succ i =>
      simp only[List.set_cons_succ,ar];exact⟨k.1,N g i q.2 (by simpa using y) k.2⟩
  exact M s.fr _ aO d.fr h h'
 ·rw [t]
  exact A.toM
def yG(fn:Func)(k:Nat):Code:=match fn.body with
 | some c=>match (cC c).find? fun p=>aH p.1 k with
  |some p=>p.2
  |none=>.skip
 |none=>.skip
def yH{P:ai}{f:bC}{vs:List ak}{u:ak}(h:∀ w,Calls P f vs.toArray w fun e w'=>e=.returned u/\Ext w w'):nJ P f (vs.map .lit) (.lit u):=by
 intro H E b hH HE g;have e:b=vs.toArray:=by
  have:∀(vs a:List ak),ar E (vs.map AV.lit) a->a=vs:=by
   intro vs
   induction vs with
   | nil=>intro a h; cases a with
    |nil=>rfl
    |cons _ _=>simp[ar]at h
   | cons v vs k =>
    intro a h;cases a with
    |nil=>simp[ar]at h
    | cons u a =>
     simp only[eM,ar,ab]at h;rw[h.1,k a h.2]
  have:=this vs b.toList g;rw[<-this]
 rw[e];refine(h E.w).mono ?_;rintro _ w' ⟨rfl,d⟩;refine⟨u,.lit u,H,rfl,⟨rfl,rfl⟩,E.ad,E.X.r,by simp[ab],?_,?_⟩
 ·rw[<-hH]; exact HE.ext d
 ·rw[<-hH]; exact ae.iE d
end Go.AL

namespace Go.AL
open Go
variable [Dr]
def pY(ks:List Kd):AV->Option LL
 |.nils | .lit (.slice none 0 0)=>some []
 |.emptyS _=>some []
 |.listF a rZ=>if Kd.ib ks a then some rZ else none
 | .list w rZ=>match oI ks rZ with
  |some b=>if w=ks.length then some b else none
  |none=>none
 |_=>none
def Ho(ks:List Kd):AV->Option LG
 |.agg cells=>ic ks cells
 |_=>none
def M6{E:ae}{ks:List Kd}{a:AV}{rZ:LL}{c:ak}(h:pY ks a=some rZ)(b:ab E a c):ab E (.listF ks rZ) c:=by
 unfold pY at h;split at h
 ·cases h
  simp only[ab,eX,G.rZ]at b|-;obtain⟨aN,rfl⟩:=b;exact⟨aN,0,rfl,aY _,.inl trivial⟩
 ·cases h
  simp only[ab,eX,G.rZ]at b|-;subst b;exact⟨none,0,rfl,aY _,.inl trivial⟩
 ·cases h
  simp only[ab,eX,G.rZ]at b|-;obtain⟨aN,cap,rfl,_⟩:=b;exact⟨aN,cap,rfl,fO _,.inl trivial⟩
 ·split at h
  ·rename_i d
   cases h;rw[Kd.jn d];exact b
  ·cases h
 ·split at h
  ·rename_i q g
   split at h
   ·rename_i k
    cases h;rw[ki,tf g];subst k;exact b
   ·cases h
  ·cases h
 ·cases h
def M7{ks:List Kd}{a:AV}{r:LG}(h:Ho ks a=some r):a=.agg (a8 ks r):=by
 unfold Ho at h;split at h
 ·rw[lO h]
 ·cases h
end Go.AL

namespace Go.AL
open Go
variable [Dr]
structure cy where
 ay:List Nat
 sh:List Nat
 aN:Nat
def cy.at(e:cy)(j:Nat):Nat:=match e.ay[j]? with
 |some i=>i
 |none=>e.aN+(j-e.ay.length)
def cy.up(e:cy)(j:Nat):Nat:=e.sh.getD j 0
mutual
def AV.cG(e:cy):AV->AV
 |.agg b=>.agg (AV.lR e b)
 |.tuple b=>.tuple (AV.lR e b)
 |.clo f b=>.clo f (AV.lR e b)
 |.ptr id al k row d=>.ptr (e.at id) (al+e.up id) k row d
 |.vQ k id al oF n=>.vQ k (e.at id) (al+e.up id) oF n
 |.map id=>.map (e.at id)
 |.sub ..=>.undef
 |.svec ..=>.undef
 |.sptr ..=>.undef
 |a=>a
def AV.lR(e:cy):List AV->List AV
 | []=>[]
 |a::as=>a.cG e::AV.lR e as
end
def ah.cG(e:cy)(j:Nat):ah->ah
 |.box cells=>.box (AV.lR e cells)
 |.vQ k v rZ=>.vQ k (v+e.up j) rZ
 |o=>o
def M8(e:cy):∀(as:List AV),(AV.lR e as).length=as.length
 | []=>rfl
 |_::as=>by simp[AV.lR,M8 e as]
mutual
def AV.bR:AV->Bool
 |.agg a | .tuple a | .clo _ a=>AV.dN a
 |.list .. | .listF .. | .cptr _=>false
 |_=>true
def AV.dN:List AV->Bool
 | []=>true
 |a::as=>a.bR&&AV.dN as
end
structure tz (S:Bool) (e:cy) (E E':ae):Prop where
 ok:S=false->∀ b,E.jQ b->E'.jQ b/\E'.w.heap[b]? = E.w.heap[b]?
 bu:∀ j al,E.bu j al->E'.bu (e.at j) (al+e.up j)
 live:∀ j al,E.bu j al->E'.live (e.at j) (al+e.up j)->E.live j al/\E'.ad[e.at j]? = E.ad[j]?
def tz.bZ{e:cy}{E E':ae}(h:tz false e E E'):E.bZ E':=⟨h.ok rfl⟩
mutual
def Hp{S:Bool}{e:cy}{E E':ae}(h:tz S e E E'):∀(a:AV) {c:ak},(S=true->a.bR=true)->ab E a c->ab E' (a.cG e) c
 |.undef,_,_,_=>by simp[AV.cG,ab]
 |.lit v,c,_,b=>by simpa only[AV.cG,ab]using b
 |.nils,c,_,b=>by simpa only[AV.cG,ab]using b
 | .list k rZ,c,g,b=>by
  cases S with
  |true=>exact absurd (g rfl) (by simp[AV.bR])
  |false=>exact gy h.bZ (.list k rZ) rfl b
 | .listF ks rZ,c,g,b=>by
  cases S with
  |true=>exact absurd (g rfl) (by simp[AV.bR])
  |false=>exact gy h.bZ (.listF ks rZ) rfl b
 | .cptr cells,c,g,b=>by
  cases S with
  |true=>exact absurd (g rfl) (by simp[AV.bR])
  |false=>exact gy h.bZ (.cptr cells) rfl b
 |.ifc,c,_,b=>by simpa only[AV.cG,ab]using b
 |.emptyS n,c,_,b=>by simpa only[AV.cG,ab]using b
 |.sub ..,c,_,_=>by simp only[AV.cG,ab]
 |.svec ..,c,_,_=>by simp only[AV.cG,ab]
 |.sptr ..,c,_,_=>by simp only[AV.cG,ab]
 | .agg cells,c,g,b=>by
  simp only[ab]at b;simp only[AV.cG,ab];obtain⟨w,y,q,d⟩:=b;exact⟨w,y,q,Ci h cells (fun e=>by simpa only[AV.bR]using g e) d⟩
 | .tuple cells,c,g,b=>by
  simp only[ab]at b;simp only[AV.cG,ab];obtain⟨w,y,d⟩:=b;exact⟨w,y,Ci h cells (fun e=>by simpa only[AV.bR]using g e) d⟩
 | .clo f cells,c,g,b=>by
  simp only[ab]at b;simp only[AV.cG,ab];obtain⟨w,y,d⟩:=b;exact⟨w,y,Ci h cells (fun e=>by simpa only[AV.bR]using g e) d⟩
 | .ptr id al k row U,c,_,b=>by
  simp only[ab]at b;simp only[AV.cG,ab];obtain⟨q,d,z⟩:=b;refine⟨q,h.bu _ _ d,fun t=>?_⟩;obtain⟨A,B⟩:=h.live _ _ d t;rw[B];exact z A
 | .vQ k id al oF n,c,_,b=>by
  simp only[ab]at b;simp only[AV.cG,ab];obtain⟨q,d,z⟩:=b;refine⟨q,h.bu _ _ d,fun t=>?_⟩;obtain⟨A,B⟩:=h.live _ _ d t;rw[B];exact z A
 | .map id,c,_,b=>by
  simp only[ab]at b;simp only[AV.cG,ab];obtain⟨q,d,z⟩:=b;have J:=h.bu _ _ d;refine⟨q,?_,fun t=>?_⟩
  ·obtain ⟨o, F, I⟩ := J
   exact⟨o,F,I.1,fun v V=>fO _⟩
  ·have N:e.up id=0:=by
    obtain⟨o,F,I⟩:=J;obtain⟨o2,M,O⟩:=t;rw[F]at M;cases M;have:=I.2 0 O;omega
   obtain⟨A,B⟩:=h.live _ _ d (by rw[N]; exact t);rw[B];exact z A
def Ci{S:Bool}{e:cy}{E E':ae}(h:tz S e E E'):∀(as:List AV) {d:List ak},(S=true->AV.dN as=true)->ar E as d->ar E' (AV.lR e as) d
 | [],[],_,_=>by simp[AV.lR,ar]
 | [],_::_,_,b=>by simp[ar]at b
 |_::_,[],_,b=>by simp[ar]at b
 | a::as,v::d,g,b=>by
  simp only[AV.dN,aE]at g;simp only[ar]at b;simp only[AV.lR,ar];exact⟨Hp h a (fun e=>(g e).1) b.1,Ci h as (fun e=>(g e).2) b.2⟩
end
structure KeepIn (e:cy) (E E':ae):Prop where
 ok:∀ b,E.jQ b->E'.jQ b/\E'.w.heap[b]? = E.w.heap[b]?
 w:E'.w=E.w
 ad:∀ j,j<e.ay.length->E'.ad[j]? = E.ad[e.at j]?
 k8:∀(j:Nat) o l,E'.H[j]? = some o->o.label=some l->E'.X.r l=E.X.r l
def KeepIn.bZ{e:cy}{E E':ae}(h:KeepIn e E E'):E.bZ E':=⟨h.ok⟩
structure vM (e:cy) (k_:List Nat) (E E':ae):Prop extends KeepIn e E E' where
 WX:∀ i,i∈k_->∀ b n,E.ad[i]? = some (some (b,n))->E'.jQ b
def fo{α:Type}:List α->List Nat->List α->List α
 |l,i::a,x::b=>fo (l.set i x) a b
 |l,_,_=>l
def ru{α:Type}:∀(a:List Nat) (l b:List α),(fo l a b).length=l.length
 | [],_,_=>by simp[fo]
 |_::_,_,[]=>by simp[fo]
 |i::a,l,x::b=>by simp[fo,ru a]
def Cj{α:Type}:∀(a:List Nat) (l b:List α) (n:Nat),n∉a->(fo l a b)[n]? = l[n]?
 | [],_,_,_,_=>by simp[fo]
 |_::_,_,[],_,_=>by simp[fo]
 | i::a,l,x::b,n,h=>by
  simp only[cf,not_or]at h;simp only[fo];rw[Cj a _ b n h.2,bc (Ne.symm h.1)]
def M9{α:Type}:∀(a:List Nat) (l b:List α) (j i:Nat) (x:α),a.Nodup->a[j]? = some i->b[j]? = some x->i<l.length->(fo l a b)[i]? = some x
 | [],_,_,_,_,_,_,h,_,_=>by simp at h
 |_::_,_,[],_,_,_,_,_,h,_=>by simp at h
 | k::a,l,y::b,0,i,x,q,d,g,t=>by
  simp at d g;subst d; subst g;simp only[fo];have:k∉a:=(uF.1 q).1;rw[Cj a _ b k this,List.getElem?_set_self t]
 | k::a,l,y::b,j+1,i,x,q,d,g,t=>by
  simp only[fo];exact M9 a _ b j i x (uF.1 q).2 (by simpa using d) (by simpa using g) (by simpa using t)
def ah.Ck(e:cy)(j:Nat):ah->Bool
 |.dead=>true
 |.vQ _ _ _=>true
 |_=>aH (e.up j) 0
def mD(e:cy):Nat->List ah->List ah
 |_,[]=>[]
 |j,o::os=>o.cG e j::mD e (j+1) os
def jY(e:cy):Nat->List ah->Bool
 |_,[]=>true
 |j,o::os=>o.Ck e j&&jY e (j+1) os
def Hq(e:cy):∀(j:Nat) (os:List ah),(mD e j os).length=os.length
 |_,[]=>rfl
 |j,_::os=>by simp[mD,Hq e (j+1) os]
def M_(e:cy):∀(j:Nat) (os:List ah) (i:Nat),(mD e j os)[i]? = (os[i]?).map (ah.cG e (j+i))
 |_,[],i=>by simp[mD]
 |j,o::os,0=>by simp[mD]
 | j,o::os,i+1=>by
  simp only[mD,List.getElem?_cons_succ,M_ e (j+1) os i];rw[show j+1+i=j+(i+1) from by omega]
def Na{e:cy}:∀{j:Nat} {os:List ah} {i:Nat} {o:ah},jY e j os=true->os[i]? = some o->o.Ck e (j+i)=true
 |_,[],i,_,_,h=>by simp at h
 | j,_::os,0,o,h,hi=>by
  simp only[jY,aE]at h;simp at hi;subst hi;exact h.1
 | j,_::os,i+1,o,h,hi=>by
  simp only[jY,aE]at h;have:=Na h.2 (by simpa using hi)
  rwa [show j+1+i=j+(i+1) from by omega]at this
def yI{e:cy}{j:Nat}{o:ah}(h:o.Ck e j=true)(v:Nat):(o.cG e j).aU = some v↔∃ u,o.aU = some u/\v=u+e.up j:=by
 cases o with
 |dead=>simp[ah.cG,ah.aU]
 |dP=>simp[ah.cG,ah.aU]
 |vQ k u rZ=>simp[ah.cG,ah.aU,eq_comm]
 | box cells =>
  have:=bA h;simp[ah.cG,ah.aU,this,eq_comm]
 | map a cl =>
  have:=bA h;simp[ah.cG,ah.aU,this,eq_comm]
 | iter s p =>
  have:=bA h;simp[ah.cG,ah.aU,this,eq_comm]
 | cD l T B s =>
  have:=bA h;simp[ah.cG,ah.aU,this,eq_comm]
 | br l k a cl =>
  have:=bA h;simp[ah.cG,ah.aU,this,eq_comm]
 | mm l a b cl =>
  have:=bA h;simp[ah.cG,ah.aU,this,eq_comm]
 | cM l k n b =>
  have:=bA h;simp[ah.cG,ah.aU,this,eq_comm]
 | bM l k a cl =>
  have:=bA h;simp[ah.cG,ah.aU,this,eq_comm]
def Nb(e:cy)(j:Nat)(o:ah):(o.cG e j).born=o.born:=by cases o<;>rfl
def Nc(e:cy)(j:Nat)(o:ah):(o.cG e j).label=o.label:=by cases o<;>rfl
def WY(e:cy)(j:Nat)(o:ah):(o.cG e j).dM=o.dM:=by cases o<;>rfl
def Nd{k:AV}(h:k.bR=true):(gJ k).1.bR=true/\(gJ k).2.bR=true:=by
 unfold gJ;split
 ·simpa only[AV.bR,AV.dN,gu,aE]using h
 ·exact⟨h,rfl⟩
def ah.bR:ah->Bool
 |.box cells=>AV.dN cells
 |.vQ _ _ rZ=>rZ.all fun r=>AV.dN r
 |.map a _=>a.all fun x=>x.1.bR&&x.2.1.bR
 | .br _ _ a _=>a.all fun x=>x.1.bR&&(match x.2.1 with
  |some rZ=>rZ.all fun r=>AV.dN r
  |none=>true)
 |.mm _ a b _=>(a.all fun x=>x.1.bR)&&b.all fun m=>m.1.all fun x=>x.1.bR&&x.2.1.bR
 |.cM _ _ _ b=>b.all fun rZ=>rZ.all fun r=>AV.dN r
 | .bM _ _ a _=>a.all fun x=>x.1.bR&&((match x.2.1.1 with
  |some rZ=>rZ.all fun r=>AV.dN r
  |none=>true)&&(match x.2.1.2 with
  |some rZ=>rZ.all fun r=>AV.dN r
  |none=>true))
 |_=>true
def Nf{S:Bool}{e:cy}{E E':ae}(h:tz S e E E'){b:Nat}(g:E'.w.heap[b]? = E.w.heap[b]?):∀(as:List AV) {o:Nat},(S=true->AV.dN as=true)->cY E as b o->cY E' (AV.lR e as) b o
 | [],_,_,_=>by simp[AV.lR,cY]
 | a::as,o,d,k=>by
  simp only[AV.dN,aE]at d;simp only[cY]at k;simp only[AV.lR,cY];obtain⟨⟨v,q,t,y⟩,z⟩:=k;exact⟨⟨v,by rw[World.uO g]; exact q,t,Hp h a (fun e=>(d e).1) y⟩,Nf h g as (fun e=>(d e).2) z⟩
mutual
def Cl{E E':ae}:∀(a:AV) {c:ak},a.closed=true->a.bR=true->ab E a c->ab E' a c
 |.undef,_,_,_,_=>by simp[ab]
 |.lit v,c,_,_,b=>by simpa only[ab]using b
 |.nils,c,_,_,b=>by simpa only[ab]using b
 |.ifc,c,_,_,b=>by simpa only[ab]using b
 |.emptyS n,c,_,_,b=>by simpa only[ab]using b
 |.list ..,_,_,h,_ | .listF ..,_,_,h,_ | .cptr _,_,_,h,_=>by simp[AV.bR]at h
 |.ptr ..,_,h,_,_ | .vQ ..,_,h,_,_ | .map _,_,h,_,_=>by simp[AV.closed]at h
 | .agg cells,c,d,g,b=>by
  simp only[ab]at b|-;obtain⟨k,e,t,q⟩:=b;exact⟨k,e,t,Cm cells (by simpa only[AV.closed]using d) (by simpa only[AV.bR]using g) q⟩
 | .tuple cells,c,d,g,b=>by
  simp only[ab]at b|-;obtain⟨k,e,q⟩:=b;exact⟨k,e,Cm cells (by simpa only[AV.closed]using d) (by simpa only[AV.bR]using g) q⟩
 | .clo f cells,c,d,g,b=>by
  simp only[ab]at b|-;obtain⟨k,e,q⟩:=b;exact⟨k,e,Cm cells (by simpa only[AV.closed]using d) (by simpa only[AV.bR]using g) q⟩
def Cm{E E':ae}:∀(as:List AV) {d:List ak},AV.cb as=true->AV.dN as=true->ar E as d->ar E' as d
 | [],[],_,_,_=>by simp[ar]
 | [],_::_,_,_,b=>by simp[ar]at b
 |_::_,[],_,_,b=>by simp[ar]at b
 | a::as,v::d,g,h,b=>by
  simp only[AV.cb,AV.dN,aE]at g h;simp only[ar]at b|-;exact⟨Cl a g.1 h.1 b.1,Cm as g.2 h.2 b.2⟩
end
def Ng{E E':ae}{b:Nat}(h:E'.w.heap[b]? = E.w.heap[b]?):∀(as:List AV) {o:Nat},AV.cb as=true->AV.dN as=true->cY E as b o->cY E' as b o
 | [],_,_,_,_=>by simp[cY]
 | a::as,o,d,g,k=>by
  simp only[AV.cb,AV.dN,aE]at d g;simp only[cY]at k|-;obtain⟨⟨v,q,t,y⟩,z⟩:=k;exact⟨⟨v,by rw[World.uO h]; exact q,t,Cl a d.1 g.1 y⟩,Ng h as d.2 g.2 z⟩
def yJ{E E':ae}{b k:Nat}(g:E'.w.heap[b]? = E.w.heap[b]?):∀(rs:List (List AV)) {o:Nat},fg rs->(rs.all fun r=>AV.dN r)=true->da E k rs b o->da E' k rs b o
 | [],_,_,_,_=>by simp[da]
 | r::rs,o,h,d,a=>by
  simp only[jA,aE]at d;simp only[da]at a|-;exact⟨a.1,Ng g r (h r cZ) d.1 a.2.1,yJ g rs (fun x q=>h x (c8 _ q)) d.2 a.2.2⟩
def vN{E E':ae}:∀{b:List (AV × AV × Nat)} {g:List MapEntry},(b.all fun x=>x.1.bR&&x.2.1.bR)=true->bO E b g->bO E' b g
 | [],[],_,_=>by simp[bO]
 | (k,v,n)::b,e::g,d,a=>by
  simp only[jA,aE]at d;simp only[bO]at a|-;obtain⟨t,w,y,h,q,z⟩:=a;exact⟨Cl k h d.1.1 t,Cl v q d.1.2 w,y,h,q,vN d.2 z⟩
 | [],_::_,_,a=>by simp[bO]at a
 |_::_,[],_,a=>by simp[bO]at a
def nT{E E':ae}(h:E.bZ E'):∀{b:List (AV × AV × Nat)} {d:List MapEntry},bO E b d->bO E' b d
 | [],[],_=>by simp[bO]
 | (k,v,n)::b,e::d,a=>by
  simp only[bO]at a|-;obtain⟨t,w,y,g,q,z⟩:=a;exact⟨gy h k g t,gy h v q w,y,g,q,nT h z⟩
 | [],_::_,a=>by simp[bO]at a
 |_::_,[],a=>by simp[bO]at a
def WZ{S:Bool}{e:cy}{E E':ae}(h:tz S e E E'){j:Nat}{o:ah}(hS:S=true->o.bR=true)(I:E'.ad[e.at j]? = E.ad[j]?) (J:∀ b n,E.ad[j]? = some (some (b,n))->E'.w.heap[b]? = E.w.heap[b]?)
  (hg:∀ l,o.label=some l->E'.X.r l=E.X.r l/\∀(h g m:Nat),(E.X.r l)[h]? = some (some (some (g,m)))->E'.w.heap[g]? = E.w.heap[g]?)
  (N:aV E j o):aV E' (e.at j) (o.cG e j):=by
 cases o with
 |dead=>simp only[ah.cG,aV]at *; rw[I]; exact N
 |dP=>simp only[ah.cG,aV]at *; rw[I]; exact N
 | box cells =>
  simp only[ah.cG,aV]at *;obtain⟨b,n,a,t,z⟩:=N;exact⟨b,n,by rw[I,a],by rw[M8]; exact uR (J b n a) t,Nf h (J b n a) cells (fun e=>by simpa only[ah.bR]using hS e) z⟩
 | vQ k al rZ =>
  simp only[ah.cG,aV]at *;rcases N with⟨a,t⟩|⟨b,m,a,t,z,M,d⟩
  ·exact .inl ⟨by rw[I,a],t⟩
  ·refine .inr ⟨b, m, by rw [I, a], uR (J b m a) t, z, M, ?_⟩
   cases S with
   |true=>exact yJ (J b m a) rZ M (by simpa only[ah.bR]using hS rfl) d
   |false=>exact kh h.bZ rZ M (J b m a) d
 | map es clock =>
  simp only[ah.cG,aV]at *;obtain⟨b,n,Y,a,t,z⟩:=N;refine⟨b,n,Y,by rw[I,a],by rw[J b n a,t],?_⟩;cases S with
  |true=>exact vN (by simpa only[ah.bR]using hS rfl) z
  |false=>exact nT h.bZ z
 | iter s pos =>
  simp only[ah.cG,aV]at *;obtain⟨b,n,a,t⟩:=N;exact⟨b,n,by rw[I,a],by rw[J b n a,t]⟩
 | cD l T B s =>
  simp only[ah.cG,aV]at *;obtain⟨b,n,p,v,k,q,a,t,z,M,d,h6⟩:=N;obtain⟨O,V⟩:=hg l rfl;exact⟨b,n,p,v,k,q,by rw[I,a],by rw[J b n a,t],z,by rw[O,M],by rw[O]; exact d,Fu (fun g m e=>V k g m (by rw[M,e])) h6⟩
 | br l k es clock =>
  simp only[ah.cG,aV]at *;obtain⟨b,n,Y,a,t,z,M⟩:=N;obtain⟨O,V⟩:=hg l rfl;have U:S=true->∀ x∈es,x.1.bR=true/\∀ rZ,x.2.1=some rZ->(rZ.all fun r=>AV.dN r)=true:=fun e x F=>by
   have d:=cq.1 (by simpa only[ah.bR]using hS e) x F;simp only[aE]at d;exact⟨d.1,fun rZ A=>by rw[A]at d; exact d.2⟩
  refine⟨b,n,Y,by rw[I,a],by rw[J b n a,t],?_,xy (fun h g m hk=>⟨by rw[O]; exact hk,V h g m hk⟩) (fun i x rZ hi F b W hc A=>?_) M⟩
  ·cases S with
   | true =>
    refine vN (cq.2 fun x F=>?_) z;obtain⟨y,hy,rfl⟩:=gG.1 F;simp[(Nd (U rfl y hy).1).1,(Nd (U rfl y hy).1).2]
   |false=>exact nT h.bZ z
  ·cases S with
   |true=>exact yJ W rZ hc ((U rfl x (eC hi)).2 rZ F) A
   |false=>exact kh h.bZ rZ hc W A
 | mm l es Y clock =>
  simp only[ah.cG,aV]at *;obtain⟨b,n,mes,a,t,z,M⟩:=N;obtain⟨O,V⟩:=hg l rfl;have U:S=true->(es.all fun x=>x.1.bR)=true/\∀ m∈Y,(m.1.all fun x=>x.1.bR&&x.2.1.bR)=true:=fun e=>by
   have d:=hS e;simp only[ah.bR,aE]at d;exact⟨d.1,cq.1 d.2⟩
  refine⟨b,n,mes,by rw[I,a],by rw[J b n a,t],?_,Fw O V (fun m hm q hq=>?_) M⟩
  ·cases S with
   | true =>
    refine vN (cq.2 fun x F=>?_) z;obtain⟨y,hy,rfl⟩:=gG.1 F;simp[cq.1 (U rfl).1 y hy,AV.bR]
   |false=>exact nT h.bZ z
  ·cases S with
   |true=>exact vN ((U rfl).2 m hm) hq
   |false=>exact nT h.bZ hq
 | cM l k n Y =>
  simp only[ah.cG,aV]at *;obtain⟨b,m,cs,el,a,t,z⟩:=N;obtain⟨O,V⟩:=hg l rfl;refine⟨b,m,cs,el,by rw[I,a],by rw[J b m a,t],Fy O V (fun rZ hm b W hc A=>?_) z⟩;cases S with
  |true=>exact yJ W rZ hc (cq.1 (by simpa only[ah.bR]using hS rfl) rZ hm) A
  |false=>exact kh h.bZ rZ hc W A
 | bM l k es clock =>
  simp only[ah.cG,aV]at *;obtain⟨b,n,Y,a,t,z,M⟩:=N;obtain⟨O,V⟩:=hg l rfl;have U:S=true->∀ x∈es,x.1.bR=true/\∀ s rZ,(gz s x).2.1=some rZ->(rZ.all fun r=>AV.dN r)=true:=fun e x F=>by
   have d:=cq.1 (by simpa only[ah.bR]using hS e) x F;simp only[aE]at d;refine⟨d.1,fun s rZ A=>?_⟩;cases s with
   | true =>
    have A:x.2.1.2=some rZ:=A;rw[A]at d;exact d.2.2
   | false =>
    have A:x.2.1.1=some rZ:=A;rw[A]at d;exact d.2.1
  refine⟨b,n,Y,by rw[I,a],by rw[J b n a,t],?_,Bf (fun h g m hk=>⟨by rw[O]; exact hk,V h g m hk⟩) (fun s i x rZ hi F b W hc A=>?_) M⟩
  ·cases S with
   | true =>
    refine vN (cq.2 fun x F=>?_) z;obtain⟨y,hy,rfl⟩:=gG.1 F;simp[(U rfl y hy).1,AV.bR]
   |false=>exact nT h.bZ z
  ·cases S with
   |true=>exact yJ W rZ hc ((U rfl x (eC hi)).2 s rZ F) A
   |false=>exact kh h.bZ rZ hc W A
def oJ(e:cy)(H H1:List ah):List ah:=fo H e.ay (mD e 0 H1)++(mD e 0 H1).drop e.ay.length
def jo{e:cy}{j:Nat}(h:j<e.ay.length):e.ay[j]? = some (e.at j):=by
 simp[cy.at,h]
def vO{e:cy}{j:Nat}(h:e.ay.length<=j):e.at j=e.aN+(j-e.ay.length):=by
 simp[cy.at,List.getElem?_eq_none h]
def Nh{α:Type}{e:cy}{H xs:List α}(d:e.ay.Nodup)(a:∀ j,j<e.ay.length->e.at j<H.length)(g:e.aN=H.length)(k:e.ay.length<=xs.length)(j:Nat) :
  (fo H e.ay xs++xs.drop e.ay.length)[e.at j]? = xs[j]? := by
 rcases kJ j e.ay.length with h|h
 ·rw [dr (by rw [ru]; exact a j h)]
  have b:j<xs.length:=eF h k;rw[M9 e.ay H xs j (e.at j) xs[j] d (jo h) (cn b) (a j h),cn b]
 ·rw [vO h, g, jz (by rw [ru]; omega), ru, sA]
  congr 1;omega
def Hr{α:Type}{e:cy}{H a:List α}{i:Nat}(hi:i∉e.ay)(b:i<H.length):(fo H e.ay a++a.drop e.ay.length)[i]? = H[i]? := by
 rw[dr (by rw[ru]; exact b),Cj e.ay H a i hi]
def ry{α:Type}{e:cy}{H b:List α}{i:Nat}{x:α}(k:e.aN=H.length)(h:(fo H e.ay b++b.drop e.ay.length)[i]? = some x) :
  (i∉e.ay/\i<H.length/\H[i]? = some x)\/∃ j,i=e.at j:=by
 by_cases hm:i∈e.ay
 ·right
  obtain⟨j,d,rfl⟩:=uz hm;refine⟨j,?_⟩;have:=jo d;rw[cn d]at this;exact(iA this)
 ·rcases kJ i H.length with a | g
  ·left
   exact⟨hm,a,by rw[Hr hm a]at h; exact h⟩
  ·right
   refine⟨e.ay.length+(i-H.length),?_⟩;rw[vO (by omega)];omega
def W0(S:Bool)(k_:List Nat){P:ai}{f:bC}{args:List AV}{H0 H:List ah}{α:Type}{Ps:α->Prop}{Vf:α->AV}{Hf:α->List ah}{e:cy}(hc:kq P f args H0 fun v H'=>∃ p,Ps p/\v=Vf p/\H'=Hf p)(hk:e.ay.length=H0.length)(hb:e.aN=H.length)(hn:e.ay.Nodup)
  (hver:∀ j o,H0[j]? = some o->∃ o',H[e.at j]? = some o'/\o.born=true/\∀ v,o'.aU = some v↔∃ u,o.aU = some u/\v=u+e.up j)
  (hobj:∀ E E0,E.H=H->aG E->vM e k_ E E0->E0.H=H0->∀ j o,H0[j]? = some o->aV E0 j o) (hu1:∀ p,Ps p->jY e 0 (Hf p)=true) (hl1:∀ p,Ps p->H0.length<=(Hf p).length) (hlent:S=false->k_=[])
  (hSv:S=true->∀ p,Ps p->(Vf p).bR=true) (hSo:S=true->∀ p,Ps p->((Hf p).all ah.bR)=true) (hdis:∀ i,i∈k_->i∉e.ay)
  (hlab:∀(j:Nat) o o',H0[j]? = some o->H[e.at j]? = some o'->o'.label=o.label) (hlab1:∀ p,Ps p->∀(j:Nat) o l,(Hf p)[j]? = some o->o.label=some l->∃ o0,H0[j]? = some o0/\o0.label=some l)
  (hlabm:∀(j:Nat) o o',H0[j]? = some o->H[e.at j]? = some o'->o'.dM=o.dM) {iJ:List AV}
  (hargs0:∀ E E0 cs,E.H=H->aG E->vM e k_ E E0->E0.H=H0->ar E iJ cs->ar E0 args cs) :
  kq P f iJ H fun v H'=>∃ p,Ps p/\v=(Vf p).cG e/\H'=oJ e H (Hf p):=by
 intro E cargs M HE hargs;have hElen:E.ad.length=H.length:=by rw[HE.len,M]
 have hat:∀ j,j<e.ay.length->e.at j<H.length:=fun j B=>by
  have hj':j<H0.length:=by omega
  obtain⟨o',d,_⟩:=hver j H0[j] (cn hj');exact aX d
 have hmem:∀ j,j<e.ay.length->e.at j∈e.ay:=fun j B=>eC (jo B)
 let J:Nat->Prop:=fun l=>∃(j:Nat) (o:ah),H0[j]? = some o/\o.label=some l
 have:DecidablePred J:=fun l=>Classical.propDecidable (J l)
 let r0:Nat->List (Option (Option (Nat × Nat))):=fun l=>if J l then E.X.r l else []
 have r0p:∀ l,J l->r0 l=E.X.r l:=fun l h=>iP h;have r0n:∀ l (h:Nat) q,(r0 l)[h]? = some q->J l/\(E.X.r l)[h]? = some q:=fun l h q hq=>by
  by_cases A:J l
  ·rw[r0p l A]at hq; exact⟨A,hq⟩
  ·rw[show r0 l=[] from iN A]at hq; simp at hq
 let X0:XS:=⟨fun b=>E.X b\/(∃ i c,i∉e.ay/\i∉k_/\E.ad[i]? = some (some (b,c)))\/∃(l h m:Nat),¬ J l/\(E.X.r l)[h]? = some (some (some (b,m))),E.X.z,r0⟩
 let loc0:List (Option (Nat × Nat)):=e.ay.map fun i=>E.ad.getD i none
 let E0:ae:={ w:=E.w,H:=H0,ad:=loc0,X:=X0 }
 have hloc0:∀ j,j<e.ay.length->loc0[j]? = E.ad[e.at j]? := fun j B=>by
  simp only[loc0,cX,jo B,fk];have:e.at j<E.ad.length:=by rw[hElen]; exact hat j B
  rw[eh,cn this];rfl
 have hlen0:loc0.length=e.ay.length:=by simp[loc0]
 have hpast:∀ j al,E.bu (e.at j) al->j<e.ay.length:=by
  rintro j al ⟨o,Y,_⟩;rcases kJ j e.ay.length with h|h
  ·exact h
  ·have := aX Y
   rw[M,vO h,hb]at this;omega
 have hobj0:∀ j,j<e.ay.length->∃ o o',H0[j]? = some o/\E.H[e.at j]? = some o'/\o.born=true/\∀ v,o'.aU = some v↔∃ u,o.aU = some u/\v=u+e.up j:=fun j B=>by
  have hj':j<H0.length:=by omega
  obtain⟨o',d,y⟩:=hver j H0[j] (cn hj');exact⟨H0[j],o',cn hj',by rw[M]; exact d,y⟩
 have hown0:∀ b,E0.bN b->E.bN b:=by
  rintro b (⟨id,c,hid⟩|⟨l,k,c,I⟩)
  case inr=>exact .inr ⟨l,k,c,(r0n l k _ I).2⟩
  have F:=aX hid;rw[show E0.ad=loc0 from rfl]at hid F;rw[hlen0]at F;rw[hloc0 id F]at hid;exact .inl ⟨_,c,hid⟩
 have hin:KeepIn e E E0:=by
  refine⟨fun b hbk=>⟨⟨hbk.1,fun Y=>hbk.2.1 (hown0 b Y),?_⟩,rfl⟩,rfl,hloc0,fun j o l d y=>r0p l ⟨j,o,d,y⟩⟩;rintro(N|⟨i,c,_,_,hi⟩|⟨l,k,c,_,I⟩)
  ·exact hbk.2.2 N
  ·exact hbk.2.1 (.inl ⟨i,c,hi⟩)
  ·exact hbk.2.1 (.inr ⟨l,k,c,I⟩)
 have hpin:∀ j al,E.bu (e.at j) (al+e.up j)->E0.bu j al:=fun j al A=>by
  obtain⟨o,oo,d,y,O,h3⟩:=hobj0 j (hpast j _ A);obtain⟨o',h4,h5⟩:=A;rw[y]at h4;cases h4;refine⟨o,d,O,fun v hv=>?_⟩;have:=h5.2 (v+e.up j) ((h3 _).2 ⟨v,hv,rfl⟩);omega
 have hout0:∀ i b n,i∉e.ay->E.ad[i]? = some (some (b,n))->¬ E0.bN b:=by
  rintro i b n hi O (⟨id,c',hid⟩|⟨l,k,c,I⟩)
  case inr=>exact HE.dm _ _ _ _ _ _ O (r0n l k _ I).2
  have F:=aX hid;rw[show E0.ad=loc0 from rfl]at hid F;rw[hlen0]at F;rw[hloc0 id F]at hid;have:=HE.inj _ _ _ _ _ O hid;exact hi (this▸hmem id F)
 have hlin:vM e k_ E E0:=by
  refine⟨hin,fun i hi b n O=>⟨(HE.lt _ _ _ O).1,hout0 i b n (hdis i hi) O,?_⟩⟩;rintro(N|⟨i',c,_,y,hi'⟩|⟨l,k,c,_,I⟩)
  ·exact(HE.lt _ _ _ O).2 N
  ·have := HE.inj _ _ _ _ _ hi' O
   exact y (this▸hi)
  ·exact HE.dm _ _ _ _ _ _ O I
 have HE0:aG E0:=by
  have conv:∀{j:Nat} {x:Option (Nat × Nat)},loc0[j]? = some x->j<e.ay.length/\E.ad[e.at j]? = some x:=by
   intro j x N;have F:=aX N;rw[hlen0]at F;exact⟨F,by rw[<-hloc0 j F]; exact N⟩
  refine⟨by rw[show E0.ad=loc0 from rfl,hlen0,hk],?_,?_,?_,?_,HE.gL.bZ hin.bZ,fun l k l' k' b m n d y=>HE.fC l k l' k' b m n (r0n l k _ d).2 (r0n l' k' _ y).2,fun i b m l k n hi y=>HE.dm _ b m l k n (conv hi).2 (r0n l k _ y).2,?_,?_,?_⟩
  ·intro i j b m n hi B
   obtain⟨U,i2⟩:=conv hi
   obtain⟨j1,j2⟩:=conv B
   have:=HE.inj _ _ _ _ _ i2 j2;exact(E8 U hn).1 (by rw[jo U,jo j1,this])
  ·intro i b m hi
   obtain⟨U,i2⟩:=conv hi
   refine⟨(HE.lt _ _ _ i2).1,?_⟩;rintro(N|⟨i',c,hni,_,hi'⟩|⟨l,k,c,_,I⟩)
   ·exact(HE.lt _ _ _ i2).2 N
   ·have := HE.inj _ _ _ _ _ hi' i2
    exact hni (this▸hmem i U)
   ·exact HE.dm _ _ _ _ _ _ i2 I
  ·rintro b (N | ⟨i', c, _, _, hi'⟩ | ⟨l, k, c, _, I⟩)
   ·exact HE.X b N
   ·exact(HE.lt _ _ _ hi').1
   ·exact(HE.cS _ _ _ _ I).1
  ·intro j o Y
   have B:j<e.ay.length:=by rw[hk]; exact aX Y
   exact hobj E E0 M HE hlin rfl j o Y
  ·intro l k b m d
   obtain⟨A,y⟩:=r0n l k _ d;refine⟨(HE.cS _ _ _ _ y).1,?_⟩;rintro(N|⟨i',c,_,_,hi'⟩|⟨l',k',c,hnp,I⟩)
   ·exact(HE.cS _ _ _ _ y).2 N
   ·exact HE.dm _ _ _ _ _ _ hi' y
   ·exact hnp ((HE.fC _ _ _ _ _ _ _ y I).1▸A)
  ·intro i j o o' l hi B d y
   have U:i<e.ay.length:=by rw[hk]; exact aX hi
   have j1:j<e.ay.length:=by rw[hk]; exact aX B
   obtain⟨_,oi,a1,W,_⟩:=hobj0 i U;obtain⟨_,oj,b1,b2,_⟩:=hobj0 j j1;have ei:=hlab i o oi hi (by rw[<-M]; exact W);have ej:=hlab j o' oj B (by rw[<-M]; exact b2);have:=HE.uniq _ _ _ _ l W b2 (by rw[ei,d]) (by rw[ej,y]);exact(E8 U hn).1 (by rw[jo U,jo j1,this])
  ·intro l hnl k q hq
   obtain⟨⟨j,o,d,y⟩,_⟩:=r0n l k _ hq;exact hnl j o d y
 refine(hc E0 cargs rfl HE0 (hargs0 E E0 _ M HE hlin rfl hargs)).mono ?_;rintro _ w' ⟨c,v',H',rfl,⟨p,A,hv',hH'⟩,loc1,r1,g1,g2,V⟩;have hu1:jY e 0 H'=true:=by rw[hH']; exact hu1 p A
 have hl1:H0.length<=H'.length:=by rw[hH']; exact hl1 p A
 have hSv:S=true->v'.bR=true:=fun h=>by rw[hv']; exact hSv h p A
 have hSo:S=true->(H'.all ah.bR)=true:=fun h=>by rw[hH']; exact hSo h p A
 have hlab1:∀(j:Nat) o l,H'[j]? = some o->o.label=some l->∃ o0,H0[j]? = some o0/\o0.label=some l:=by rw[hH']; exact hlab1 p A
 let r':Nat->List (Option (Option (Nat × Nat))):=fun l=>if J l then r1 l else E.X.r l
 have rp:∀ l,J l->r' l=r1 l:=fun l h=>iP h;have rn:∀ l,¬ J l->r' l=E.X.r l:=fun l h=>iN h;have hl1':e.ay.length<=H'.length:=by omega
 have hlen1:loc1.length=H'.length:=g2.len;have hbL:e.aN=E.ad.length:=by rw[hElen]; exact hb
 have hbE:e.aN=E.H.length:=by rw[M]; exact hb
 let loc':List (Option (Nat × Nat)):=fo E.ad e.ay loc1++loc1.drop e.ay.length
 let E1:ae:={ w:=w',H:=H',ad:=loc1,X:=X0.re r1 }
 let E':ae:={ w:=w',H:=oJ e H H',ad:=loc',X:=E.X.re r' }
 have Hin:∀ j,E'.H[e.at j]? = (H'[j]?).map (ah.cG e j):=fun j=>by
  have:=Nh (e:=e) (H:=H) (xs:=mD e 0 H') hn hat hb (by rw[Hq]; exact hl1') j;rw[M_,eo]at this;exact this
 have la:∀ j,E'.ad[e.at j]? = loc1[j]? := fun j =>
  Nh (e:=e) (H:=E.ad) (xs:=loc1) hn (fun j B=>by rw[hElen]; exact hat j B) hbL (by rw[hlen1]; exact hl1') j
 have Hout:∀ i,i∉e.ay->i<H.length->E'.H[i]? = E.H[i]? := fun i hi F=>by
  rw[M];exact Hr (e:=e) hi F
 have Lout:∀ i,i∉e.ay->i<H.length->E'.ad[i]? = E.ad[i]? := fun i hi F=>Hr (e:=e) hi (by rw[hElen]; exact F);have hu1':∀(j:Nat) (o:ah),H'[j]? = some o->o.Ck e j=true:=fun j o Y=>by
  have:=Na hu1 Y
  rwa [eo]at this
 have own':∀ b,E'.bN b->E1.bN b\/(∃ i c,i∉e.ay/\E.ad[i]? = some (some (b,c)))\/∃(l h m:Nat),¬ J l/\(E.X.r l)[h]? = some (some (some (b,m))):=by
  rintro b (⟨i,c,hi⟩|⟨l,k,c,I⟩)
  ·rcases ry (e := e) hbL hi with ⟨d, _, h3⟩ | ⟨j, rfl⟩
   ·exact .inr (.inl ⟨i,c,d,h3⟩)
   ·rw [la j] at hi
    exact .inl (.inl ⟨j,c,hi⟩)
  ·have I : (r' l)[k]? = some (some (some (b, c))) := I
   by_cases A:J l
   ·rw [rp l A] at I
    exact .inl (.inr ⟨l,k,c,I⟩)
   ·rw [rn l A] at I
    exact .inr (.inr ⟨l,k,c,A,I⟩)
 have hout:tz S e E1 E':=by
  refine⟨fun hS b hbk=>⟨⟨hbk.1,fun Y=>?_,fun N=>hbk.2.2 (Or.inl N)⟩,rfl⟩,fun j al A=>?_,fun j al A hl=>?_⟩
  ·rcases own' b Y with h | ⟨i, c, d, y⟩ | h
   ·exact hbk.2.1 h
   ·exact hbk.2.2 (Or.inr (.inl ⟨i,c,d,by rw[hlent hS]; exact List.not_mem_nil,y⟩))
   ·exact hbk.2.2 (Or.inr (.inr h))
  ·obtain ⟨o, d, y⟩ := A
   refine⟨o.cG e j,by rw[Hin j,show H'[j]? = some o from d]; rfl,by rw[Nb]; exact y.1,fun v hv=>?_⟩;obtain⟨u,q1,rfl⟩:=(yI (hu1' j o d) v).1 hv;have:=y.2 u q1;omega
  ·obtain ⟨o', d, y⟩ := hl
   rw[Hin j]at d;obtain⟨o,h3,rfl⟩:=eG.1 d;obtain⟨u,q1,q2⟩:=(yI (hu1' j o h3) _).1 y;have:u=al:=by omega
   subst this;exact⟨⟨o,h3,q1⟩,la j⟩
 have hle:E.le E':=by
  refine⟨fun i al A=>?_,V.size,fun b F Y=>V.same b F (fun h=>Y (hown0 b h)),fun b F Y h'=>?_,fun i al A hl=>?_,⟨rfl,rfl⟩,fun l k I=>?_,V.env,fun i l o d y hv=>?_⟩
  rotate_right
  ·by_cases hi : i ∈ e.ay
   ·obtain ⟨j, B, rfl⟩ := uz hi
    have hat':e.ay[j]=e.at j:=by
     have:=jo B;rw[cn B]at this;exact iA this
    rw[hat']at d hv|-;obtain⟨o0,oo,k1,k2,O,k3⟩:=hobj0 j B;have em:o.dM=o0.dM:=hlabm j o0 o k1 (by rw[<-M]; exact d);have hl0:o0.label=some l:=ah.nz (by rw[<-em]; exact y);have A:J l:=⟨j,o0,k1,hl0⟩
    obtain⟨o',w1,w2⟩:=hv;rw[Hin j]at w1;obtain⟨o1,r3,rfl⟩:=eG.1 w1;obtain⟨u,q1,q2⟩:=(yI (hu1' j o1 r3) _).1 w2;have hu:u=0:=by omega
    subst hu;obtain⟨⟨t,ht⟩,o2,s1,s2⟩:=V.grow j l o0 k1 (by rw[<-em]; exact y) ⟨o1,r3,q1⟩;have ht':r1 l=E.X.r l++t:=by
     rw[<-r0p l A];exact ht
    refine⟨⟨t,by rw[show E'.X.r l=r' l from rfl,rp l A]; exact ht'⟩,o2.cG e j,?_,by rw[WY]; exact s2⟩;rw[Hin j,show H'[j]? = some o2 from s1];rfl
   ·have F := aX d
    rw[M]at F;have hnp:¬ J l:=by
     rintro⟨j,o0,a1,W⟩;have j1:j<e.ay.length:=by rw[hk]; exact aX a1
     obtain⟨_,oj,b1,b2,_⟩:=hobj0 j j1;have h3:=HE.uniq _ _ _ _ l d b2 (ah.nz y) (by rw[hlab j o0 oj a1 (by rw[<-M]; exact b2),W]);exact hi (h3▸hmem j j1)
    exact⟨⟨[],by rw[List.append_nil,show E'.X.r l=r' l from rfl,rn l hnp]⟩,o,by rw[Hout i hi F]; exact d,y⟩
  ·by_cases hi : i ∈ e.ay
   ·obtain ⟨j, B, rfl⟩ := uz hi
    have hat':e.ay[j]=e.at j:=by
     have:=jo B;rw[cn B]at this;exact iA this
    rw[hat']at A|-;obtain⟨o0,oo,d,y,O,h3⟩:=hobj0 j B;obtain⟨o,h4,h5⟩:=A;rw[y]at h4;cases h4;have hj1:j<H'.length:=by omega
    have hbn':H'[j].born=true:=by
     have p0:E0.bu j 0:=⟨o0,d,O,fun v _=>fO v⟩
     obtain⟨o2,r1,r2⟩:=V.bu j _ p0;rw[show E1.H=H' from rfl,cn hj1]at r1;cases r1;exact r2.1
    refine⟨H'[j].cG e j,by rw[Hin j,cn hj1]; rfl,by rw[Nb]; exact hbn',fun v hv=>?_⟩;obtain⟨u,q1,rfl⟩:=(yI (hu1' j _ (cn hj1)) v).1 hv;cases hz:o0.aU with
    | none =>
     have p0:E0.bu j (u+1):=⟨o0,d,O,fun v hv=>by rw[hz]at hv; cases hv⟩
     obtain⟨o2,r1,r2⟩:=V.bu j _ p0;rw[show E1.H=H' from rfl,cn hj1]at r1;cases r1;have:=r2.2 u q1;omega
    | some u0 =>
     have p0:E0.bu j u0:=⟨o0,d,O,fun v hv=>by rw[hz]at hv; cases hv; exact aY _⟩
     obtain⟨o2,r1,r2⟩:=V.bu j _ p0;rw[show E1.H=H' from rfl,cn hj1]at r1;cases r1;have:=r2.2 u q1;have:=h5.2 (u0+e.up j) ((h3 _).2 ⟨u0,hz,rfl⟩);omega
   ·obtain ⟨o, d, y⟩ := A
    have F:=aX d;rw[M]at F;exact⟨o,by rw[Hout i hi F]; exact d,y⟩
  ·rcases own' b h' with h | ⟨i, c, _, y⟩ | ⟨l, k, c, _, y⟩
   ·exact V.bN b F (fun h=>Y (hown0 b h)) h
   ·exact Y (.inl ⟨i,c,y⟩)
   ·exact Y (.inr ⟨l,k,c,y⟩)
  ·have F:i<H.length:=by
    obtain⟨o,d,_⟩:=A;have:=aX d
    rwa [M]at this
   by_cases hi:i∈e.ay
   ·obtain ⟨j, B, rfl⟩ := uz hi
    have hat':e.ay[j]=e.at j:=by
     have:=jo B;rw[cn B]at this;exact iA this
    rw[hat']at A hl|-;obtain⟨o',r1,r2⟩:=hl;rw[Hin j]at r1;obtain⟨o1,r3,rfl⟩:=eG.1 r1;obtain⟨u,q1,rfl⟩:=(yI (hu1' j o1 r3) _).1 r2;have p0:=hpin j u A;obtain⟨⟨o0,s1,s2⟩,s3⟩:=V.live j u p0 ⟨o1,r3,q1⟩;obtain⟨o0',oo,d,y,O,h3⟩:=hobj0 j B;rw[show E0.H=H0 from rfl,d]at s1;cases s1;refine⟨⟨_,y,(h3 _).2 ⟨u,s2,rfl⟩⟩,?_⟩;rw[la j,<-hloc0 j B];exact s3
   ·obtain ⟨o', r1, r2⟩ := hl
    rw[Hout i hi F]at r1;exact⟨⟨o',r1,r2⟩,Lout i hi F⟩
  ·by_cases A : J l
   ·have := V.rl l k (by show k < (r0 l).length; rw [r0p l A]; exact I)
    rw[show E0.X.r l=r0 l from rfl,r0p l A]at this;rw[show E'.X.r l=r' l from rfl,rp l A];exact this
   ·rw [show E'.X.r l = r' l from rfl, rn l A]
    exact⟨I,fun _ hq=>hq⟩
 have lab':∀(j:Nat) o l,H'[j]? = some o->o.label=some l->J l:=fun j o l d y=>by
  obtain⟨o0,a1,W⟩:=hlab1 j o l d y;exact⟨j,o0,a1,W⟩
 have labIn:∀(j:Nat) o l,H0[j]? = some o->o.label=some l->∃ o',E.H[e.at j]? = some o'/\o'.label=some l/\e.at j∈e.ay:=fun j o l d y=>by
  have j1:j<e.ay.length:=by rw[hk]; exact aX d
  obtain⟨_,oj,b1,b2,_⟩:=hobj0 j j1;exact⟨oj,b2,by rw[hlab j o oj d (by rw[<-M]; exact b2),y],hmem j j1⟩
 have labOut:∀(i:Nat) o l,i∉e.ay->E.H[i]? = some o->o.label=some l->¬ J l:=fun i o l hi d y ⟨j,o0,a1,W⟩=>by
  obtain⟨o',b1,b2,b3⟩:=labIn j o0 l a1 W;have:=HE.uniq _ _ _ _ l d b1 y b2;exact hi (this▸b3)
 have satOut:∀(l k b m:Nat),¬ J l->(E.X.r l)[k]? = some (some (some (b,m)))->¬ E0.bN b:=by
  rintro l k b m A d (⟨id,c',hid⟩|⟨l',k',c,I⟩)
  ·have F := aX hid
   rw[show E0.ad=loc0 from rfl]at hid F;rw[hlen0]at F;rw[hloc0 id F]at hid;exact HE.dm _ _ _ _ _ _ hid d
  ·obtain ⟨q1, q2⟩ := r0n l' k' _ I
   exact A ((HE.fC _ _ _ _ _ _ _ d q2).1▸q1)
 refine⟨c,v'.cG e,oJ e H H',rfl,⟨p,A,by rw[hv'],by rw[hH']⟩,loc',r',Hp hout v' hSv g1,?_,hle⟩;refine⟨?_,?_,?_,fun b N=>eF (HE.X b N) V.size,?_,HE.gL.bZ hle.toC,?_,?_,?_,?_,?_⟩
 ·simp only[loc',oJ,dG,ru,List.length_drop,Hq,hElen,hlen1]
 ·intro i j b m n hi B
  rcases ry (e:=e) hbL hi with⟨U,_,i3⟩|⟨i',rfl⟩<;>rcases ry (e:=e) hbL B with⟨j1,_,j3⟩|⟨j',rfl⟩
  ·exact HE.inj _ _ _ _ _ i3 j3
  ·rw [la j'] at B
   exact(V.bN b (HE.lt _ _ _ i3).1 (hout0 i b m U i3) (.inl ⟨j',n,B⟩)).elim
  ·rw [la i'] at hi
   exact(V.bN b (HE.lt _ _ _ j3).1 (hout0 j b n j1 j3) (.inl ⟨i',m,hi⟩)).elim
  ·rw [la i'] at hi
   rw[la j']at B;rw[g2.inj _ _ _ _ _ hi B]
 ·intro i b m hi
  rcases ry (e:=e) hbL hi with⟨U,_,i3⟩|⟨i',rfl⟩
  ·exact⟨eF (HE.lt _ _ _ i3).1 V.size,(HE.lt _ _ _ i3).2⟩
  ·rw [la i'] at hi
   exact⟨(g2.lt _ _ _ hi).1,fun N=>(g2.lt _ _ _ hi).2 (Or.inl N)⟩
 ·intro i o hi
  have hi':=hi;unfold oJ at hi';rcases ry (e:=e) hb hi' with⟨U,i2,i3⟩|⟨j,rfl⟩
  ·refine mo (E := E) (fun a _ hr => bG hle a hr) (Lout i U i2) (fun b n O => ?_) (fun l hl => ?_) (HE.obj i o (by rw [M]; exact i3))
   ·exact V.same b (HE.lt _ _ _ O).1 (hout0 i b n U O)
   ·have A := labOut i o l U (by rw [M]; exact i3) hl
    exact⟨rn l A,fun k g m d=>V.same g (HE.cS _ _ _ _ d).1 (satOut l k g m A d)⟩
  ·have d := Hin j
   rw[show E'.H=oJ e H H' from rfl,hi]at d;obtain⟨o1,y,rfl⟩:=eG.1 d.symm;exact WZ hout (fun e=>cq.1 (hSo e) o1 (eC y)) (la j) (fun _ _ _=>rfl) (fun l hl=>⟨rp l (lab' j o1 l y hl),fun _ _ _ _=>rfl⟩) (g2.obj j o1 y)
 ·intro l k l' k' b m n d y
  have d:(r' l)[k]? = some (some (some (b,m))):=d;have y:(r' l')[k']? = some (some (some (b,n))):=y;by_cases A:J l<;>by_cases hp':J l'
  ·rw [rp l A] at d
   rw[rp l' hp']at y;exact g2.fC l k l' k' b m n d y
  ·rw [rp l A] at d
   rw[rn l' hp']at y;exact((g2.cS l k b m d).2 (.inr (.inr ⟨l',k',n,hp',y⟩))).elim
  ·rw [rn l A] at d
   rw[rp l' hp']at y;exact((g2.cS l' k' b n y).2 (.inr (.inr ⟨l,k,m,A,d⟩))).elim
  ·rw [rn l A] at d
   rw[rn l' hp']at y;exact HE.fC l k l' k' b m n d y
 ·intro i b m l k n hi d
  have d:(r' l)[k]? = some (some (some (b,n))):=d;rcases ry (e:=e) hbL hi with⟨U,_,i3⟩|⟨i',rfl⟩
  ·by_cases A : J l
   ·rw [rp l A] at d
    exact V.bN b (HE.lt _ _ _ i3).1 (hout0 i b m U i3) (.inr ⟨l,k,n,d⟩)
   ·rw [rn l A] at d
    exact HE.dm _ _ _ _ _ _ i3 d
  ·rw [la i'] at hi
   by_cases A:J l
   ·rw [rp l A] at d
    exact g2.dm _ _ _ _ _ _ hi d
   ·rw [rn l A] at d
    exact(g2.lt _ _ _ hi).2 (.inr (.inr ⟨l,k,n,A,d⟩))
 ·intro l k b m d
  have d:(r' l)[k]? = some (some (some (b,m))):=d;by_cases A:J l
  ·rw [rp l A] at d
   exact⟨(g2.cS _ _ _ _ d).1,fun N=>(g2.cS _ _ _ _ d).2 (.inl N)⟩
  ·rw [rn l A] at d
   exact⟨eF (HE.cS _ _ _ _ d).1 V.size,(HE.cS _ _ _ _ d).2⟩
 ·have inn:∀ (j:Nat) o,E'.H[e.at j]? = some o->∃ o1,H'[j]? = some o1/\o.label=o1.label:=fun j o h=>by
   rw[Hin j]at h;obtain⟨o1,y,rfl⟩:=eG.1 h;exact⟨o1,y,Nc e j o1⟩
  intro i j o o' l hi B d y;have hi':=hi;have hj':=B;unfold oJ at hi' hj';rcases ry (e:=e) hb hi' with⟨U,i2,i3⟩|⟨i',rfl⟩<;>rcases ry (e:=e) hb hj' with⟨j1,j2,j3⟩|⟨j',rfl⟩
  ·exact HE.uniq i j o o' l (by rw[M]; exact i3) (by rw[M]; exact j3) d y
  ·obtain ⟨o1, a1, W⟩ := inn j' o' B
   exact(labOut i o l U (by rw[M]; exact i3) d (lab' j' o1 l a1 (by rw[<-W,y]))).elim
  ·obtain ⟨o1, a1, W⟩ := inn i' o hi
   exact(labOut j o' l j1 (by rw[M]; exact j3) y (lab' i' o1 l a1 (by rw[<-W,d]))).elim
  ·obtain ⟨o1, a1, W⟩ := inn i' o hi
   obtain⟨o2,b1,b2⟩:=inn j' o' B;rw[g2.uniq i' j' o1 o2 l a1 b1 (by rw[<-W,d]) (by rw[<-b2,y])]
 ·intro l hnl k q hq
  have hq:(r' l)[k]? = some (some q):=hq;by_cases A:J l
  ·rw [rp l A] at hq
   refine g2.iD l (fun j o d y=>?_) k q hq;refine hnl (e.at j) (o.cG e j) ?_ (by rw[Nc,y]);rw[Hin j,show H'[j]? = some o from d];rfl
  ·rw [rn l A] at hq
   refine HE.iD l (fun i o d y=>?_) k q hq;have F:=aX d;rw[M]at F;by_cases hi:i∈e.ay
   ·obtain ⟨j, B, rfl⟩ := uz hi
    have hat':e.ay[j]=e.at j:=by
     have:=jo B;rw[cn B]at this;exact iA this
    rw[hat']at d;obtain⟨o0,oo,a1,W,_⟩:=hobj0 j B;rw[d]at W;cases W;exact A ⟨j,o0,a1,by rw[<-hlab j o0 o a1 (by rw[<-M]; exact d),y]⟩
   ·exact hnl i o (by rw[Hout i hi F]; exact d) y
def frame(S:Bool)(k_:List Nat){P:ai}{f:bC}{args:List AV}{H0 H1 H:List ah}{v:AV}{e:cy}(F:eK P f args H0 v H1)(I:e.ay.length=H0.length)(J:e.aN=H.length)(M:e.ay.Nodup)
  (q:∀ j o,H0[j]? = some o->∃ o',H[e.at j]? = some o'/\o.born=true/\∀ v,o'.aU = some v↔∃ u,o.aU = some u/\v=u+e.up j)
  (t:∀ E E0,E.H=H->aG E->vM e k_ E E0->E0.H=H0->∀ j o,H0[j]? = some o->aV E0 j o) (y:jY e 0 H1=true) (z:H0.length<=H1.length) (d:S=false->k_=[])
  (A:S=true->v.bR=true) (B:S=true->(H1.all ah.bR)=true) (w:∀ i,i∈k_->i∉e.ay)
  (hlab:∀(j:Nat) o o',H0[j]? = some o->H[e.at j]? = some o'->o'.label=o.label) (g:∀(j:Nat) o l,H1[j]? = some o->o.label=some l->∃ o0,H0[j]? = some o0/\o0.label=some l)
  (k:∀(j:Nat) o o',H0[j]? = some o->H[e.at j]? = some o'->o'.dM=o.dM) {iJ:List AV}
  (b:∀ E E0 a,E.H=H->aG E->vM e k_ E E0->E0.H=H0->ar E iJ a->ar E0 args a) :
  eK P f iJ H (v.cG e) (oJ e H H1) :=
 kq.mono (W0 (α:=Unit) (Ps:=fun _=>True) (Vf:=fun _=>v) (Hf:=fun _=>H1) S k_ (kq.mono F fun N H' h=>⟨(),trivial,h.1,h.2⟩) I J M q t (fun _ _=>y) (fun _ _=>z) d (fun h _ _=>A h) (fun h _ _=>B h) w hlab (fun _ _=>g) k b) fun N H' ⟨_,_,O,U⟩=>⟨O,U⟩
end Go.AL
