/-
 What is proved: owned objects of data, and what operations do to them. No condition.
-/
import Derived.Test.YtomcmchdbdnclaaGreatDoorMB
import Derived.Eval
import Derived.KernelRfl
set_option linter.all false
open Array renaming toList_append->Ai
open Bool renaming and_true->gD,and_eq_true->ax,false_eq_true->kV,not_eq_true'->qW,or_eq_true->qZ,not_true->Aj,eq_iff_iff->lJ,and_false->alS
open ByteArray renaming empty->zO
open Decidable renaming byContradiction->Ea
open Function renaming comp->Ak
open Go.Call renaming operands->td
open Go.Op renaming operands->dY
open Go.Utf8 renaming decode->pr
open Go.Value.slice renaming injEq->kX
open List renaming length_cons->bG,getElem?_append_left->cK,length_map->bN,mem_map->cH,getElem?_map->bB,getElem_of_mem->pj,getElem?_eq_getElem->bx,mem_of_getElem?->dJ,getElem?_append_right->iJ,getElem?_set_ne->aQ,getElem?_set->dv,all_eq_true->da,getD_eq_getElem?_getD->bP,getElem?_drop->qU,mem_cons->bC,map_cons->bX,take_append_drop->wF,ext_getElem?->iK,length_set->ib,length_append->en,mem_append->cw,replicate->bQ,all_cons->nm,getElem?_modify->gF,mem_cons_self->bZ,mem_cons_of_mem->cq,take_of_length_le->Wt,map_append->eO,findIdx?_cons->Lc,nodup_cons->nq,getElem?_inj->D_,map_set->q_,headD_cons->tg,length_nil->k6,map_nil->k8,length->Ec,mem_flatMap->Ed
open Nat renaming le_refl->aB,lt_of_lt_of_le->dM,zero_le->dX,lt_or_ge->kU,zero_add->cn,sub_zero->fF,add_zero->mq,beq->ai,eq_of_beq_eq_true->ba,sub_self->lH,ble->dD,blt->cC,ble_eq->q9,blt_eq->gG,beq_refl->fe,lt_succ_self->WE,le_of_ble_eq_true->Al,mul_one->alT,lt_succ_of_lt->Am,lt_irrefl->An
open Option renaming map_eq_some_iff->dI,isSome_none->D4,map_some->dS,map_none->tf,isSome_some->Eb,map_map->Li
open Option.some renaming injEq->aM,inj->iM
open Prod.mk renaming injEq->aU
namespace Go.AL
open Go
variable [Dr]
def az:Int->Bool
 |.ofNat _=>true
 |.negSucc _=>false
def aZ:Int->Int->Bool
 |.ofNat x,.ofNat y=>dD x y
 |.ofNat _,.negSucc _=>false
 |.negSucc _,.ofNat _=>true
 |.negSucc x,.negSucc y=>dD y x
def aj:Int->Int->Bool
 |.ofNat x,.ofNat y=>cC x y
 |.ofNat _,.negSucc _=>false
 |.negSucc _,.ofNat _=>true
 |.negSucc x,.negSucc y=>cC y x
def ao(n:Int):Bool:=aZ (-9223372036854775808) n&&aZ n 9223372036854775807
theorem iP(n:Int):az n=decide (0<=n):=by
 cases n with
 |ofNat x=>simp[az]
 |negSucc x=>simp[az]
theorem eT(a b:Int):aZ a b=decide (a<=b):=by
 rw[lJ];cases a<;>cases b<;>simp[aZ,q9]<;>(try omega)
theorem cd(a b:Int):aj a b=decide (a<b):=by
 rw[lJ];cases a<;>cases b<;>simp[aj,gG]<;>(try omega)
theorem fg{n:Int}:ao n=true ↔ -9223372036854775808<=n/\n<=9223372036854775807:=by
 simp[ao,eT]
def g0(r:List G):G:=r.headD default
def gi:List G->Nat->G
 |r,0=>r.headD default
 |r,i+1=>gi r.tail i
def G.row(g:G):List G:=g.rows.headD []
def rN:Kd->G->G->Bool
 |.int _,a,b=>a.int==b.int
 |.str,a,b=>a.str.toList==b.str.toList
 |.bool,a,b=>a.bool==b.bool
 |.list _,_,_=>false
def a8:List Kd->List G->List G->Bool
 | [],_,_=>true
 |k::ks,r,s=>rN k (r.headD default) (s.headD default)&&a8 ks r.tail s.tail
inductive Ct where
 |one (k:Kd)
 |agg (ks:List Kd)
 deriving Inhabited
def Ct.ks:Ct->List Kd
 |.one k=>[k]
 |.agg ks=>ks
def Ct.av:Ct->List G->AV
 |.one k,r=>jM k (r.headD default)
 |.agg ks,r=>.agg (aD ks r)
theorem Ct.rO(k:Ct)(r:List G):(k.av r).closed=true:=by
 cases k with
 |one k=>cases k<;>rfl
 |agg ks=>simp only[Ct.av,AV.closed,fW]
inductive af where
 |raw (o:ab)
 |vec (ks:List Kd) (ver:Nat) (rows:List (List G))
 |map (K V:Ct) (rows:List (List G)) (clock:Nat)
 |aJ (l:Nat) (K:Ct) (ks:List Kd) (rows:List (List G)) (clock:Nat)
 |mm (l:Nat) (K KI VI:Ct) (rows mem:List (List G)) (clock:Nat)
 |b_ (l:Nat) (ks:List Kd) (n:Nat) (ms:List (List G))
 |bp (l:Nat) (K:Ct) (ks:List Kd) (rows:List (List G)) (clock:Nat)
def c8(K V:Ct)(rows:List (List G)):List (AV × AV × Nat):=rows.map fun r=>(K.av (gi r 0).row,V.av (gi r 1).row,(gi r 2).int.toNat)
def jg(r:List G):List (List G):=((gi r 1).row.headD default).rows
def iQ(K:Ct)(ks:List Kd)(r:List G):AV × Option (List (List AV)) × Nat:=((bif (gi r 4).bool && !(gi r 3).bool then .tuple [K.av (gi r 0).row,.listF ks (jg r)] else K.av (gi r 0).row),(bif (gi r 3).bool then some ((jg r).map (aD ks)) else none),(gi r 2).int.toNat)
def fT(K:Ct)(ks:List Kd)(rows:List (List G)):List (AV × Option (List (List AV)) × Nat):=rows.map (iQ K ks)
def xq(m:List G):List (List G):=(g0 m).rows
def jv(ms:List (List G))(j:Nat):List (List G):=xq (ms.getD j [])
def lk(r:List G)(s:Nat):List (List G):=(gi (gi r 1).row s).rows
def mO(K:Ct)(ks:List Kd)(r:List G):AV × (Option (List (List AV)) × Option (List (List AV))) × Nat :=
 (K.av (gi r 0).row,(bif (gi r 3).bool then (some ((lk r 0).map (aD ks)),some ((lk r 1).map (aD ks))) else (none,none)),(gi r 2).int.toNat)
def kr(K:Ct)(ks:List Kd)(rows:List (List G)):List (AV × (Option (List (List AV)) × Option (List (List AV))) × Nat):=rows.map (mO K ks)
def rP(r:List G):Option Nat:=bif aZ 0 (gi r 1).int then some (gi r 1).int.toNat else none
def jx(K:Ct)(rows:List (List G)):List (AV × Option Nat × Nat):=rows.map fun r=>(K.av (gi r 0).row,rP r,(gi r 2).int.toNat)
def pP(KI VI:Ct)(mem:List (List G)):List (List (AV × AV × Nat) × Nat):=mem.map fun m=>(c8 KI VI (gi m 0).rows,(gi m 1).int.toNat)
def af.den:af->ab
 |.raw o=>o
 |.aJ l K ks rows clock=>.aJ l ks.length (fT K ks rows) clock
 |.map K V rows clock=>.map (c8 K V rows) clock
 |.mm l K KI VI rows mem clock=>.mm l (jx K rows) (pP KI VI mem) clock
 |.b_ l ks n ms=>.b_ l ks.length n (ms.map fun m=>(xq m).map (aD ks))
 |.bp l K ks rows clock=>.bp l ks.length (kr K ks rows) clock
 |.vec ks ver rows=>.vec ks.length ver (rows.map (aD ks))
def ah(H:List af):List ab:=H.map af.den
structure ak where
 fr:List AV
 H:List af
def ak.den(s:ak):St:=⟨s.fr,ah s.H⟩
def ak.eval(s:ak)(o:Operand):AV:=St.eval ⟨s.fr,[]⟩ o
def ak.put(s:ak)(dst:Option Tmp)(v:AV)(H':List af):ak:=⟨lj s.fr dst v,H'⟩
theorem ak.nJ(s:ak):s.den.eval=s.eval:=by
 funext o
 cases o<;>rfl
theorem a7{H:List af}{id:Nat}{o:af}(h:H[id]? = some o):(ah H)[id]? = some o.den:=by simp[ah,h]
theorem ct(H:List af)(id:Nat)(o:af):ah (H.set id o)=(ah H).set id o.den:=by simp[ah,q_]
theorem iR(H:List af)(o:af):ah (H++[o])=ah H++[o.den]:=by simp[ah]
theorem eJ(H:List af):(ah H).length=H.length:=by simp[ah]
mutual
def Kd.same:Kd->Kd->Bool
 |.int k,.int k'=>decide (k=k')
 |.str,.str=>true
 |.bool,.bool=>true
 |.list ks,.list d=>Kd.f_ ks d
 |_,_=>false
def Kd.f_:List Kd->List Kd->Bool
 | [],[]=>true
 |k::ks,k'::d=>k.same k'&&Kd.f_ ks d
 |_,_=>false
end
mutual
theorem Kd.ku:∀{k k':Kd},k.same k'=true->k=k'
 |.int k,.int k',h=>by simp[Kd.same]at h; rw[h]
 |.str,.str,_=>rfl
 |.bool,.bool,_=>rfl
 |.list ks,.list d,h=>by simp only[Kd.same]at h; rw[Kd.gU h]
 |.int _,.str,h | .int _,.bool,h | .int _,.list _,h | .str,.int _,h | .str,.bool,h | .str,.list _,h=>by simp[Kd.same]at h
 |.bool,.int _,h | .bool,.str,h | .bool,.list _,h | .list _,.int _,h | .list _,.str,h | .list _,.bool,h=>by simp[Kd.same]at h
theorem Kd.gU:∀{k k':List Kd},Kd.f_ k k'=true->k=k'
 | [],[],_=>rfl
 |k::ks,k'::d,h=>by simp only[Kd.f_,ax]at h; rw[Kd.ku h.1,Kd.gU h.2]
 | [],_::_,h|_::_,[],h=>by simp[Kd.f_]at h
end
def Ct.same:Ct->Ct->Bool
 |.one k,.one k'=>k.same k'
 |.agg ks,.agg d=>Kd.f_ ks d
 |_,_=>false
theorem Ct.ku{K d:Ct}(h:K.same d=true):K=d:=by
 cases K<;>cases d<;>simp only[Ct.same]at h
 ·rw[Kd.ku h]
 ·cases h
 ·cases h
 ·rw[Kd.gU h]
def xr:Kd->AV->Option G
 |.int k,.lit (.int k' n)=>if k=k' then some (.i n) else none
 |.str,.lit (.string s)=>some (.s s)
 |.bool,.lit (.bool b)=>some (.t b)
 |.list ks,.listF d rows=>if Kd.f_ ks d then some (.l rows) else none
 |_,_=>none
def gI:List Kd->List AV->Option (List G)
 | [],[]=>some []
 | k::ks,a::as=>match xr k a,gI ks as with
  |some g,some gs=>some (g::gs)
  |_,_=>none
 |_,_=>none
def a_(ks:List Kd):List (List AV)->Option (List (List G))
 | []=>some []
 | r::rs=>match gI ks r,a_ ks rs with
  |some g,some gs=>some (g::gs)
  |_,_=>none
theorem FA{k:Kd}{a:AV}{g:G}(h:xr k a=some g):jM k g=a:=by
 unfold xr at h;split at h
 ·split at h
  ·rename_i e; cases h; subst e; rfl
  ·cases h
 ·cases h; rfl
 ·cases h; rfl
 ·split at h
  ·rename_i e; cases h; rw[Kd.gU e]; rfl
  ·cases h
 ·cases h
theorem ll:∀{ks:List Kd} {as:List AV} {gs:List G},gI ks as=some gs->aD ks gs=as
 | [],[],_,h=>by simp[gI]at h; subst h; rfl
 | k::ks,a::as,gs,h=>by
  simp only[gI]at h;split at h
  ·rename_i g q h1 d
   cases h;simp[aD,FA h1,ll d]
  ·cases h
 | [],_::_,_,h|_::_,[],_,h=>by simp[gI]at h
theorem Nk:∀{ks:List Kd} {as:List AV} {gs:List G},gI ks as=some gs->gs.length=ks.length/\as.length=ks.length
 | [],[],_,h=>by simp[gI]at h; subst h; exact⟨rfl,rfl⟩
 | k::ks,a::as,gs,h=>by
  simp only[gI]at h;split at h
  ·rename_i g q h1 d
   cases h;have:=Nk d;simp[this.1,this.2]
  ·cases h
 | [],_::_,_,h|_::_,[],_,h=>by simp[gI]at h
theorem pQ{ks:List Kd}:∀{rs:List (List AV)} {gs:List (List G)},a_ ks rs=some gs->gs.map (aD ks)=rs
 | [],_,h=>by simp[a_]at h; subst h; rfl
 | r::rs,gs,h=>by
  simp only[a_]at h;split at h
  ·rename_i g k h1 d
   cases h;simp[ll h1,pQ d]
  ·cases h
def xu:AV->Option Kd
 |.lit (.int k _)=>some (.int k)
 |.lit (.string _)=>some .str
 |.lit (.bool _)=>some .bool
 |.listF ks _=>some (.list ks)
 |_=>none
def pR:List AV->Option (List Kd)
 | []=>some []
 | a::as=>match xu a,pR as with
  |some k,some ks=>some (k::ks)
  |_,_=>none
def pS:List Kd->List G->List G
 | [],_=>[]
 |_::ks,r=>r.headD default::pS ks r.tail
theorem FB:∀(ks:List Kd) (r:List G),(pS ks r).length=ks.length
 | [],_=>rfl
 |_::ks,r=>by simp[pS,FB ks]
def dx(ks:List Kd)(r:List G)(col:Nat)(gs:List G):List G:=(pS ks r).take col++gs++(pS ks r).drop (col+gs.length)
theorem Nl:∀(ks:List Kd) (r:List G) (n:Nat),(aD ks r).take n=aD (ks.take n) r
 | [],_,n=>by simp[aD]
 |_::_,_,0=>by simp[aD]
 |k::ks,r,n+1=>by simp[aD,Nl ks]
theorem Nn:∀(ks:List Kd) (r:List G) (n:Nat),(aD ks r).drop n=aD (ks.drop n) (r.drop n)
 | [],_,n=>by simp[aD]
 |_::_,_,0=>by simp
 |k::ks,r,n+1=>by simp[aD,Nn ks]
theorem FC:∀(ks d:List Kd) (r r':List G),r.length=ks.length->aD (ks++d) (r++r')=aD ks r++aD d r'
 | [],d,r,r',h=>by
  have:r=[]:=List.length_eq_zero_iff.1 h;subst this;simp[aD]
 | k::ks,d,r,r',h=>by
  cases r with
  |nil=>simp at h
  |cons x r=>simp[aD,FC ks d r r' (by simpa using h)]
theorem FD:∀(ks:List Kd) (r:List G),aD ks (pS ks r)=aD ks r
 | [],_=>rfl
 |k::ks,r=>by simp[aD,pS,FD ks]
theorem No{ks:List Kd}{r gs:List G}{cs:List AV}{col:Nat} (h:gI ((ks.drop col).take cs.length) cs=some gs) (u:col+cs.length<=ks.length) :
  aD ks (dx ks r col gs)=putCells (aD ks r) cs col:=by
 obtain⟨h1,v⟩:=Nk h;have hlen:((ks.drop col).take cs.length).length=cs.length:=by simp; omega
 have g:gs.length=cs.length:=by omega
 have hk:ks=(ks.take col++(ks.drop col).take cs.length)++ks.drop (col+cs.length):=by
  rw[List.append_assoc,<-List.drop_drop,wF,wF]
 unfold dx putCells;have d:=FB ks r
 conv=>lhs; arg 1; rw[hk]
 rw[FC _ _ _ _ (by simp[d,g]; omega),FC _ _ _ _ (by simp[d]),ll h,g];congr 1
 ·congr 1
  rw[<-FD ks r,Nl];have:∀(ks:List Kd) (r:List G) (n:Nat),ks.length<=n->aD ks (r.take n)=aD ks r:=by
   intro ks
   induction ks with
   |nil=>intros; rfl
   | cons k ks q =>
    intro r n d;cases n with
    |zero=>simp at d
    | succ n =>
     cases r with
     |nil=>rfl
     |cons x r=>simp[aD,q r n (by simpa using d)]
  exact this _ _ _ (by simp; omega)
 ·conv => rhs; rw [<- FD ks r]
  rw[Nn]
end Go.AL

namespace Go.AL
open Go
variable [Dr]
theorem xv{ks:List Kd}{rows:List (List G)}{row:Nat}(h:row<rows.length):(rows.map (aD ks))[row]? = some (aD ks (rows.getD row [])):=by
 rw[bB,bP,bx h];rfl
def jy:List AV->Option (List Int)
 | []=>some []
 | .lit (.int .i64 n)::l=>match jy l with
  |some q=>some (n::q)
  |none=>none
 |_=>none
theorem FE:∀{cells:List AV} {l:List Int},jy cells=some l->∀ i,i<l.length->cells[i]? = some (.lit (.int .i64 (l.getD i 0)))
 | [],l,h,i,hi=>by
  simp only[jy,aM]at h;subst h;simp at hi
 | c::cells,l,h,i,hi=>by
  unfold jy at h;split at h
  ·rename_i he
   cases he
  ·rename_i n l' he
   cases he;split at h
   ·rename_i q d
    cases h;cases i with
    |zero=>rfl
    | succ i =>
     simp only[bG]at hi;have:=FE d i (by omega);simpa using this
   ·cases h
  ·cases h
theorem Np:∀{cells:List AV} {l:List Int},jy cells=some l->cells.length=l.length
 | [],l,h=>by
  simp only[jy,aM]at h;subst h;rfl
 | c::cells,l,h=>by
  unfold jy at h;split at h
  ·rename_i he
   cases he
  ·rename_i n l' he
   cases he;split at h
   ·rename_i q d
    cases h;simp[Np d]
   ·cases h
  ·cases h
def rQ(v:Int)(col:Nat):Nat->List Int->List AV
 |_,[]=>[]
 |k,n::l=>.lit (.int .i64 (bif ai col k then v else n))::rQ v col (k+1) l
theorem Nq{v:Int}{col:Nat}:∀{cells:List AV} {l:List Int} {k:Nat},jy cells=some l->col<k->rQ v col k l=cells
 | [],l,k,h,_=>by
  simp only[jy,aM]at h;subst h;rfl
 | c::cells,l,k,h,hk=>by
  unfold jy at h;split at h
  ·rename_i he
   cases he
  ·rename_i n l' he
   cases he;split at h
   ·rename_i q d
    cases h;have hb:ai col k=false:=by
     cases hb:ai col k with
     |false=>rfl
     |true=>have:=ba hb; omega
    simp only[rQ,hb,cond_false,Nq d (show col<k+1 by omega)]
   ·cases h
  ·cases h
theorem Nr{v:Int}:∀{cells:List AV} {l:List Int} {k col:Nat},jy cells=some l->col<l.length->rQ v (k+col) k l=putCells cells [.lit (.int .i64 v)] col
 | [],l,k,col,h,d=>by
  simp only[jy,aM]at h;subst h;simp at d
 | c::cells,l,k,col,h,d=>by
  unfold jy at h;split at h
  ·rename_i he
   cases he
  ·rename_i n l' he
   cases he;split at h
   ·rename_i q g
    cases h;cases col with
    | zero =>
     simp only[rQ,mq,fe,cond_true,Nq g (WE k)];rfl
    | succ col =>
     have hb:ai (k+(col+1)) k=false:=by
      cases hb:ai (k+(col+1)) k with
      |false=>rfl
      |true=>have:=ba hb; omega
     have u:=Nr (v:=v) (k:=k+1) g (show col<q.length by simp only[bG]at d; omega);rw[show k+1+col=k+(col+1) by omega]at u;simp only[rQ,hb,cond_false,u];rfl
   ·cases h
  ·cases h
def FF(P:Program)(t:TypeId)(x:AV)(H:List af):Option (Bool × AV) :=
 match x with
 | .ptr id ver w row col=>match H[id]? with
  | some (.vec ks v rows)=>match fP P t with
   | some (n,agg)=>if ver=v/\ks.length=w then (match iN agg n ((aD ks (rows.getD row [])).drop col) with
     |some u=>some (decide (row<rows.length),u)
     |none=>none) else none
   |none=>none
  | some (.raw (.box cells))=>match fP P t with
   | some (n,agg)=>if ver=0/\row=0 then (match agg,jy cells with
     |false,some l=>some (cC col l.length,.lit (.int .i64 (l.getD col 0)))
     |_,_=>match iN agg n (cells.drop col)with
     |some u=>some (true,u)
     |none=>none) else none
   |none=>none
  | some (.b_ l _ _ ms)=>match fP P t with
   | some (n,agg)=>if ver=0/\w=1/\col=0 then (match iN agg n [.svec id l row (jv ms row).length] with
     |some u=>some (cC row ms.length,u)
     |none=>none) else none
   |none=>none
  |_=>none
 | .sptr id l j w row col=>match H[id]? with
  | some (.b_ l' ks _ ms)=>match fP P t with
   | some (n,agg)=>if l=l'/\ks.length=w then (match iN agg n ((aD ks ((jv ms j).getD row [])).drop col) with
     |some u=>some (cC j ms.length&&cC row (jv ms j).length,u)
     |none=>none) else none
   |none=>none
  |_=>none
 | .cptr cells=>match fP P t with
  | some (n,agg)=>match iN agg n cells with
   |some u=>some (true,u)
   |none=>none
  |none=>none
 |_=>none
theorem FG{ks:List Kd}{ms:List (List G)}{j:Nat}(h:j<ms.length):(ms.map fun m=>(xq m).map (aD ks))[j]? = some ((jv ms j).map (aD ks)):=by
 unfold jv;rw[bB,bP,bx h];rfl
theorem Y7{P:Program}{t:TypeId}{x:AV}{H:List af}{b:Bool}{u:AV}(h:FF P t x H=some (b,u))(hb:b=true):lM P t x (ah H)=some u:=by
 unfold FF at h;unfold lM;split at h
 ·rename_i id ver w row col
  split at h
  ·rename_i ks v rows hid
   split at h
   case h_2=>cases h
   rename_i n agg d;split at h
   case isFalse=>cases h
   rename_i k;split at h
   case h_2=>cases h
   rename_i q g;simp only[aM,aU]at h;obtain⟨h1,rfl⟩:=h;subst hb;simp only[decide_eq_true_eq]at h1;rw[d];simp only[a7 hid,af.den];rw[if_pos ⟨k.1,k.2⟩,xv h1];exact g
  ·rename_i cells hid
   split at h
   case h_2=>cases h
   rename_i n agg d;split at h
   case isFalse=>cases h
   rename_i k;rw[d];simp only[a7 hid,af.den];rw[if_pos k];split at h
   ·rename_i l y
    simp only[aM,aU]at h;obtain⟨h1,rfl⟩:=h;subst hb;rw[gG]at h1;simp only[iN,kV,if_false,qU,mq];exact FE y col h1
   ·split at h
    case h_2=>cases h
    rename_i q g;cases h;exact g
  ·rename_i l ks I ms hid
   split at h
   case h_2=>cases h
   rename_i n agg d;split at h
   case isFalse=>cases h
   rename_i k;split at h
   case h_2=>cases h
   rename_i q g;simp only[aM,aU]at h;obtain⟨h1,rfl⟩:=h;subst hb;rw[gG]at h1;rw[d];simp only[a7 hid,af.den];rw[if_pos k,FG h1];simp only[bN];exact g
  ·cases h
 ·rename_i id l j w row col
  split at h
  ·rename_i l' ks I ms hid
   split at h
   case h_2=>cases h
   rename_i n agg d;split at h
   case isFalse=>cases h
   rename_i k;split at h
   case h_2=>cases h
   rename_i q g;simp only[aM,aU,ax]at h;obtain⟨h1,rfl⟩:=h;subst hb;rw[ax,gG,gG]at h1;rw[d];simp only[a7 hid,af.den];rw[if_pos k,FG h1.1];simp only[];rw[xv h1.2];exact g
  ·cases h
 ·rename_i cells
  split at h
  case h_2=>cases h
  rename_i n agg d;split at h
  case h_2=>cases h
  rename_i q g;cases h;rw[d];exact g
 ·cases h
def uf(P:Program)(t:TypeId)(x v:AV)(H:List af):Option (Bool × List af) :=
 match fP P t,nz v,x with
 | some (n,_),some cs,.ptr id ver w row col =>
  if cs.length=n then
   match H[id]? with
   | some (.raw (.box cells))=>match cs,jy cells with
    | [.lit (.int .i64 z)],some l=>if ver=0/\row=0/\n=1 then some (cC col l.length,H.set id (.raw (.box (rQ z col 0 l)))) else none
    |_,_=>if ver=0/\row=0/\col+n<=cells.length then some (true,H.set id (.raw (.box (putCells cells cs col)))) else none
   | some (.vec ks u rows) =>
    if ver=u/\ks.length=w/\col+cs.length<=ks.length then
     match gI ((ks.drop col).take cs.length) cs with
     |some gs=>some (decide (row<rows.length),H.set id (.vec ks u (rows.set row (dx ks (rows.getD row []) col gs))))
     |none=>none
    else none
   |_=>none
  else none
 |_,_,_=>none
theorem FH{P:Program}{t:TypeId}{x v:AV}{H H':List af}{b:Bool}(h:uf P t x v H=some (b,H'))(hb:b=true):nF P t x v (ah H)=some (ah H'):=by
 unfold uf at h;unfold nF;split at h
 case h_2=>cases h
 rename_i n U cs id ver w row col M y;rw[M,y];simp only[];split at h
 case isFalse=>cases h
 rename_i N;rw[if_pos N];split at h
 ·rename_i cells hid
  split at h
  ·rename_i z l q
   split at h
   case isFalse=>cases h
   rename_i d;simp only[aM,aU]at h;obtain⟨h1,rfl⟩:=h;subst hb;rw[gG]at h1;have hlen:=Np q;simp only[a7 hid,af.den];rw[if_pos ⟨d.1,d.2.1,by omega⟩,ct];have:=Nr (v:=z) (k:=0) q h1;rw[cn]at this;rw[this];rfl
  ·split at h
   case isFalse=>cases h
   rename_i d;cases h;simp only[a7 hid,af.den];rw[if_pos d,ct];rfl
 ·rename_i ks u rows hid
  split at h
  case isFalse=>cases h
  rename_i d;obtain⟨c1,c2,O⟩:=d;split at h
  case h_2=>cases h
  rename_i gs g;simp only[aM,aU]at h;obtain⟨h1,rfl⟩:=h;subst hb;simp only[decide_eq_true_eq]at h1;simp only[a7 hid,af.den];have I:AV.bu cs=true:=by rw[<-ll g]; exact fW _ _
  rw[if_pos ⟨c1,c2,I⟩,xv h1];simp only[rh];rw[if_pos (by omega),ct];simp only[af.den,q_];rw[No g O]
 ·cases h
def xw(P:Program)(t:TypeId)(x v:AV)(H:List af):Option (Bool × List af) :=
 match fP P t,nz v,x with
 | some (n,_),some cs,.sptr id l j w row col=>match H[id]? with
  | some (.b_ l' ks nn ms)=>if cs.length=n/\l=l'/\ks.length=w/\col+cs.length<=ks.length then
    match gI ((ks.drop col).take cs.length) cs with
    |some gs=>some (cC j ms.length&&cC row (jv ms j).length,H.set id (.b_ l ks nn (ms.set j [.l ((jv ms j).set row (dx ks ((jv ms j).getD row []) col gs))])))
    |none=>none
   else none
  |_=>none
 |_,_,_=>none
theorem Y8{P:Program}{t:TypeId}{x v:AV}{H H':List af}{b:Bool}(h:xw P t x v H=some (b,H'))(hb:b=true):rG P t x v (ah H)=some (ah H')/\nF P t x v (ah H)=none:=by
 unfold xw at h;unfold rG nF;split at h
 case h_2=>cases h
 rename_i n M cs id l j w row col q g;rw[q,g];simp only[];split at h
 case h_2=>cases h
 rename_i l' ks nn ms hid;split at h
 case isFalse=>cases h
 rename_i u;obtain⟨c1,c2,y,I⟩:=u;split at h
 case h_2=>cases h
 rename_i gs d;simp only[aM,aU]at h;obtain⟨h1,rfl⟩:=h;subst hb;rw[ax,gG,gG]at h1;have k:AV.bu cs=true:=by rw[<-ll d]; exact fW _ _
 simp only[a7 hid,af.den];rw[if_pos ⟨c1,c2,y,k⟩,FG h1.1];simp only[];rw[xv h1.2];simp only[rh];rw[if_pos (by omega),ct];simp only[af.den,q_,xq,g0,tg,G.rows];rw[No d I];exact⟨rfl,trivial⟩
def xy(P:Program)(t:TypeId)(x v:AV)(H:List af):Option (Bool × List af) :=
 match fP P t,x,v with
 | some (sz,_),.ptr id q pw row col,.vec k j ver off n=>match H[id]?,H[j]? with
  | some (.b_ l ks nn ms),some (.vec g d rws)=>if sz=1/\q=0/\pw=1/\col=0 then
    match Kd.f_ ks g&&(ai k ks.length&&(ai ver d&&ai off 0))with
    |true=>some ((ai n rws.length&&cC 0 n)&&(ai row ms.length&&cC row nn),(H.set id (.b_ l ks nn (ms++[[.l rws]]))).set j (.raw .dead))
    |false=>none
   else none
  |_,_=>none
 |_,_,_=>none
theorem Y9{P:Program}{t:TypeId}{x v:AV}{H H':List af}{b:Bool}(h:xy P t x v H=some (b,H'))(hb:b=true) :
  xk P t x v (ah H)=some (ah H')/\nF P t x v (ah H)=none/\rG P t x v (ah H)=none:=by
 unfold xy at h;unfold xk nF rG;split at h
 case h_2=>cases h
 rename_i sz ag id pv pw row col k j ver off n I;rw[I];simp only[nz];split at h
 case h_2=>cases h
 rename_i l ks nn ms ks2 ver' rws hid M;split at h
 case isFalse=>cases h
 rename_i N;split at h
 case h_2=>cases h
 rename_i d;simp only[ax]at d;obtain⟨g,q,u,y⟩:=d;have O:=Kd.gU g;subst O;have U:=ba q;have V:=ba u;have W:=ba y;subst U V W;simp only[aM,aU]at h;obtain⟨h1,rfl⟩:=h;rw[hb]at h1;simp only[ax,gG]at h1;obtain⟨⟨g1,g2⟩,g3,g4⟩:=h1;have g1:=ba g1;have g3:=ba g3;simp only[a7 hid,a7 M,af.den];rw[if_pos ⟨N,⟨trivial,trivial,trivial,trivial⟩,⟨by simpa using g1,g2⟩,by simpa using g3,g4⟩];refine⟨?_,?_,trivial⟩
 ·rw [ct, ct]
  simp[af.den,xq,g0,G.rows]
 ·split<;>rfl
def pT(sz:Nat)(x:AV)(H:List af)(want:Option (List Kd)):Option (Bool × List Kd × List (List G)) :=
 match x with
 | .nils | .lit (.slice none 0 0)=>match want with
  |some ks=>some (true,ks,[])
  |none=>none
 | .emptyS _=>match want with
  |some ks=>some (true,ks,[])
  |none=>none
 |.listF ks rows=>if ks.length=sz then some (true,ks,rows) else none
 | .list w rows=>match (match want with | some ks=>some ks | none=>pR (rows.headD [])) with
  | some ks=>match a_ ks rows with
   |some gs=>if w=sz then some (true,ks,gs) else none
   |none=>none
  |none=>none
 | .vec w id ver off n=>match H[id]? with
  |some (.vec ks v rows)=>if w=sz/\ks.length=w/\v=ver/\off=0 then some (ai n rows.length,ks,rows) else none
  |_=>none
 |.lit (.string s)=>if sz=1 then some (true,[.int .u8],s.data.toList.map fun b=>[.i b.toNat]) else none
 |_=>none
theorem Ns{sz:Nat}{x:AV}{H:List af}{want:Option (List Kd)}{b:Bool}{ks:List Kd}{rows:List (List G)}(h:pT sz x H want=some (b,ks,rows))(hb:b=true) :
  mH sz x (ah H)=some (rows.map (aD ks)):=by
 unfold pT at h;split at h
 ·split at h
  ·cases h; rfl
  ·cases h
 ·split at h
  ·cases h; rfl
  ·cases h
 ·split at h
  ·cases h; rfl
  ·cases h
 ·split at h
  ·rename_i hw; cases h; simp only[mH]; rw[if_pos hw]
  ·cases h
 ·split at h
  ·split at h
   ·rename_i gs d
    split at h
    ·rename_i hw; cases h; simp only[mH]; rw[if_pos hw,pQ d]
    ·cases h
   ·cases h
  ·cases h
 ·rename_i w id ver off n
  split at h
  ·rename_i u v rows' hid
   split at h
   ·rename_i g
    obtain⟨c1,c2,k,rfl⟩:=g;simp only[aM,aU]at h;obtain⟨h1,rfl,rfl⟩:=h;subst hb;have h1:=ba h1;simp only[mH,a7 hid,af.den];rw[if_pos ⟨c1,c2,k,by simp; omega⟩];simp only[List.drop_zero];rw[Wt (by simp; omega)]
   ·cases h
  ·cases h
 ·rename_i s
  split at h
  ·rename_i q
   cases h;simp only[mH];rw[if_pos q];simp[aD,jM,G.int]
  ·cases h
 ·cases h
def FI:SK->Bool
 |.slice _ _ _ | .str=>true
 |_=>false
theorem FJ{P:Program}{t xt:TypeId}{s x:AV}{H:List ab}{e sz d:Nat}{z:List Value}{new:List (List AV)}(hk:cD P t=.slice e sz d)(q:eR P e=some z)
  (g : FI (cD P xt) = true) (hr : mH sz x H = some new) (u : z.length = sz /\ new.length <= 1048576 /\ d <= 1048576) : tP P t xt s x H =
   match s with
    |.nils | .lit (.slice none 0 0)=>some (.vec sz H.length 0 0 new.length,H++[.vec sz 0 new])
    | .vec w id ver off n=>match H[id]? with
     | some (.vec k v rows) =>
      if k=w/\w=sz/\v=ver/\off=0/\n=rows.length/\rows.length+new.length<=1048576 then
       some (.vec w id (ver+1) 0 (n+new.length),H.set id (.vec k (ver+1) (rows++new)))
      else none
     |_=>none
    |_=>none:=by
 unfold tP;simp only[hk,q,hr];cases y:cD P xt<;>simp only[y,FI]at g|-<;>first
  |(cases g; done)
  |(rw[if_pos u]; rfl)
def rR(sz:Nat)(x:AV)(H:List af)(z:List Value):Option (Bool × List Kd × List (List G)) :=
 match x with
 |.emptyS _=>pT sz x H (pR (z.map .lit))
 |_=>pT sz x H none
theorem Y_{sz:Nat}{x:AV}{H:List af}{z:List Value}{b:Bool}{ks:List Kd}{rows:List (List G)}(h:rR sz x H z=some (b,ks,rows))(hb:b=true) :
  mH sz x (ah H)=some (rows.map (aD ks)):=by
 unfold rR at h;split at h<;>exact Ns h hb
def ug(P:Program)(t xt:TypeId)(s x:AV)(H:List af):Option (Bool × AV × List af) :=
 match cD P t with
 | .slice e sz d =>
  match eR P e,FI (cD P xt)with
  | some z,true =>
   if z.length=sz/\d<=1048576 then
    match s with
    | .nils | .lit (.slice none 0 0)=>match rR sz x H z with
     |some (b,ks,new)=>if ks.length=sz then some (b&&decide (new.length<=1048576),.vec sz H.length 0 0 new.length,H++[.vec ks 0 new]) else none
     |none=>none
    | .vec w id ver off n=>match H[id]? with
     | some (.vec ks v rows)=>match pT sz x H (some ks) with
      | some (b,g,new) =>
       if ks.length=w/\w=sz/\v=ver/\off=0/\Kd.f_ ks g=true then
        some (b&&(ai n rows.length&&decide (rows.length+new.length<=1048576)),.vec w id (ver+1) 0 (rows++new).length,H.set id (.vec ks (ver+1) (rows++new)))
       else none
      |none=>none
     |_=>none
    |_=>none
   else none
  |_,_=>none
 |_=>none
theorem Y'{P:Program}{t xt:TypeId}{s x v:AV}{H H':List af}{b:Bool}(h:ug P t xt s x H=some (b,v,H'))(hb:b=true) :
  tP P t xt s x (ah H)=some (v,ah H'):=by
 unfold ug at h;split at h
 case h_2=>cases h
 rename_i e sz by_ hk;split at h
 case h_2=>cases h
 rename_i z q k;split at h
 case isFalse=>cases h
 rename_i M;obtain⟨c1,c2⟩:=M;have fresh:∀{b1:Bool} {ks:List Kd} {new:List (List G)},rR sz x H z=some (b1,ks,new) ->
   (if ks.length=sz then some (b1&&decide (new.length<=1048576),AV.vec sz H.length 0 0 new.length,H++[af.vec ks 0 new]) else none)=some (b,v,H') ->
   ∃ rows,mH sz x (ah H)=some rows/\rows.length<=1048576/\v=.vec sz (ah H).length 0 0 rows.length/\ah H'=ah H++[.vec sz 0 rows]:=by
  intro b1 ks new d h;split at h
  case isFalse=>cases h
  rename_i I;simp only[aM,aU]at h;obtain⟨h1,rfl,rfl⟩:=h;subst hb;simp only[ax,decide_eq_true_eq]at h1;refine⟨_,Y_ d h1.1,by simpa using h1.2,by simp[eJ],?_⟩;rw[iR,af.den,I]
 split at h
 ·split at h
  case h_2=>cases h
  rename_i b1 ks new d;obtain⟨rows,g1,g2,g3,g4⟩:=fresh d h;rw[FJ hk q k g1 ⟨c1,g2,c2⟩,g3,g4]
 ·split at h
  case h_2=>cases h
  rename_i b1 ks new d;obtain⟨rows,g1,g2,g3,g4⟩:=fresh d h;rw[FJ hk q k g1 ⟨c1,g2,c2⟩,g3,g4];rfl
 ·rename_i w id ver off n
  split at h
  case h_2=>cases h
  rename_i ks vv rows hid;split at h
  case h_2=>cases h
  rename_i b1 ks' new d;split at h
  case isFalse=>cases h
  rename_i N;obtain⟨y,O,U,V,u⟩:=N;have u:=Kd.gU u;subst u;simp only[aM,aU]at h;obtain⟨h1,rfl,rfl⟩:=h;subst hb;simp only[ax,decide_eq_true_eq]at h1;obtain⟨h1,g,W⟩:=h1;have g:=ba g;rw[FJ hk q k (Ns d h1) ⟨c1,by simp; omega,c2⟩];simp only[bN,a7 hid,af.den];rw[if_pos ⟨y,O,U,V,g,W⟩,ct];simp only[af.den,eO,en,g,y]
 ·cases h
def pU(len:Nat)(lo hi:Option AV):Option (Bool × Nat × Nat) :=
 match lo,hi with
 |none,none=>some (true,0,len)
 |some (.lit (.int _ l)),none=>some (az l&&aZ l (len:Int),l.toNat,len)
 |none,some (.lit (.int _ h))=>some (az h&&aZ h (len:Int),0,h.toNat)
 |some (.lit (.int _ l)),some (.lit (.int _ h))=>some (az l&&(aZ l h&&aZ h (len:Int)),l.toNat,h.toNat)
 |_,_=>none
theorem Bd{len:Nat}{lo hi:Option AV}{b:Bool}{l h:Nat}(d:pU len lo hi=some (b,l,h))(hb:b=true):ij len lo hi=some (l,h):=by
 unfold pU at d;split at d
 ·cases d; simp[ij]
 ·rename_i l'
  simp only[aM,aU]at d;obtain⟨h1,rfl,rfl⟩:=d;subst hb;simp only[iP,eT,ax,decide_eq_true_eq]at h1;simp[ij,lO,h1.1,h1.2]
 ·rename_i h'
  simp only[aM,aU]at d;obtain⟨h1,rfl,rfl⟩:=d;subst hb;simp only[iP,eT,ax,decide_eq_true_eq]at h1;simp[ij,lO,h1.1,h1.2]
 ·rename_i l' _ h'
  simp only[aM,aU]at d;obtain⟨h1,rfl,rfl⟩:=d;subst hb;simp only[iP,eT,ax,decide_eq_true_eq]at h1;simp[ij,lO,h1.1,h1.2.1,h1.2.2]
 ·cases d
def uh(rows:List (List G))(lo hi:Option AV)(l h:Nat):List (List G) :=
 match lo,hi with
 |none,none=>rows
 |some _,none=>rows.drop l
 |none,some _=>rows.take h
 |some _,some _=>(rows.drop l).take (h-l)
theorem Nt{rows:List (List G)}{lo hi:Option AV}{b:Bool}{l h:Nat}(d:pU rows.length lo hi=some (b,l,h)):uh rows lo hi l h=(rows.drop l).take (h-l):=by
 unfold pU at d;split at d
 ·cases d; simp[uh]
 ·simp only [aM, aU] at d
  obtain⟨h1,rfl,rfl⟩:=d;simp only[uh];rw[Wt (by simp)]
 ·simp only [aM, aU] at d
  obtain⟨h1,rfl,rfl⟩:=d;simp[uh]
 ·rfl
 ·cases d
def FL(P:Program)(t:TypeId)(x:AV)(lo hi mx:Option AV):Option (Bool × AV) :=
 match mx with
 | some _=>match mF P t x lo hi mx with
  |some v=>some (true,v)
  |none=>none
 | none=>match cD P t,x with
  | .str,.lit (.string s)=>match pU s.size lo hi with
   |some (b,l,h)=>some (b,.lit (.string (s.extract l h)))
   |none=>none
  | .slice _ sz _,.listF ks rows=>match pU rows.length lo hi with
   |some (b,l,h)=>if ks.length=sz then some (b,.listF ks (uh rows lo hi l h)) else none
   |none=>none
  | .slice _ sz _,.vec w id ver off n=>match pU n lo hi with
   |some (b,l,h)=>if w=sz then some (b,.vec w id ver (off+l) (h-l)) else none
   |none=>none
  | .slice _ sz _,.list w rows=>match w,tH rows with
   | 1,some gs=>match pU gs.length lo hi with
    |some (b,l,h)=>if 1=sz then some (b,.listF [.str] (uh gs lo hi l h)) else none
    |none=>none
   | _,_=>match mF P t x lo hi none with
    |some v=>some (true,v)
    |none=>none
  | _,_=>match mF P t x lo hi none with
   |some v=>some (true,v)
   |none=>none
theorem Za{P:Program}{t:TypeId}{x v:AV}{lo hi mx:Option AV}{b:Bool}(h:FL P t x lo hi mx=some (b,v))(hb:b=true):mF P t x lo hi mx=some v:=by
 unfold FL at h;split at h
 ·split at h
  ·rename_i u hu; cases h; exact hu
  ·cases h
 ·split at h
  ·rename_i s hk
   split at h
   case h_2=>cases h
   rename_i k l q d;simp only[aM,aU]at h;obtain⟨h1,rfl⟩:=h;subst h1;simp[mF,hk,Bd d hb]
  ·rename_i e sz y ks rows hk
   split at h
   case h_2=>cases h
   rename_i k l q d;split at h
   case isFalse=>cases h
   rename_i g;simp only[aM,aU]at h;obtain⟨h1,rfl⟩:=h;subst h1;simp[mF,hk,Bd d hb,g,Nt d]
  ·rename_i e sz y w id ver off n hk
   split at h
   case h_2=>cases h
   rename_i k l q d;split at h
   case isFalse=>cases h
   rename_i g;simp only[aM,aU]at h;obtain⟨h1,rfl⟩:=h;subst h1;simp[mF,hk,Bd d hb,g]
  ·rename_i e sz y w rows hk
   split at h
   ·rename_i gs I
    split at h
    case h_2=>cases h
    rename_i k l q d;split at h
    case isFalse=>cases h
    rename_i g;simp only[aM,aU]at h;obtain⟨h1,rfl⟩:=h;subst h1;subst g;have M:rows.length=gs.length:=by rw[<-EB I,bN]
    simp[mF,hk,M,Bd d hb,Nt d,AG,I]
   ·split at h
    ·rename_i u hu; cases h; exact hu
    ·cases h
  ·split at h
   ·rename_i u hu; cases h; exact hu
   ·cases h
def xz(P:Program)(t:TypeId)(l c:AV)(H:List af):Option (Bool × AV × List af) :=
 match cD P t,l,c with
 | .slice e sz d,.lit (.int _ l),.lit (.int _ c) =>
  match eR P e with
  | some z=>match pR (AU P e z) with
   | some ks=>match gI ks (AU P e z) with
    | some gs=>if z.length=sz/\0<sz/\d<=1048576/\ks.length=sz then
      some (az l&&(aZ l c&&aZ c 1048576),.vec sz H.length 0 0 l.toNat,H++[.vec ks 0 (bQ l.toNat gs)]) else none
    |none=>none
   |none=>none
  |none=>none
 |_,_,_=>none
theorem Zb{P:Program}{t:TypeId}{l c v:AV}{H H':List af}{b:Bool}(h:xz P t l c H=some (b,v,H'))(hb:b=true) :
  w8 P t l c (ah H)=some (v,ah H'):=by
 unfold xz at h;unfold w8;split at h
 case h_2=>cases h
 rename_i e sz y _ l _ c hk;rw[hk];simp only[];split at h
 case h_2=>cases h
 rename_i z g;split at h
 case h_2=>cases h
 rename_i ks I;split at h
 case h_2=>cases h
 rename_i gs d;split at h
 case isFalse=>cases h
 rename_i k;obtain⟨c1,c2,q,u⟩:=k;simp only[aM,aU]at h;obtain⟨h1,rfl,rfl⟩:=h;subst hb;simp only[iP,eT,ax,decide_eq_true_eq]at h1;rw[g];simp only[];rw[if_pos ⟨c1,c2,h1.1,h1.2.1,h1.2.2,q⟩,iR,eJ,af.den,u,List.map_replicate,ll d]
def ui(P:Program)(t:TypeId)(n:Nat)(parts:List (Nat × AV))(H:List af):Option (Bool × AV × List af) :=
 match cD P t with
 | .slice e _ _=>match eR P e with
  | some z=>match pR (z.map .lit) with
   | some ks=>match tR P t n parts with
    | some (.list sz rows)=>match a_ ks rows with
     |some gs=>if ks.length=sz then some (true,.vec sz H.length 0 0 gs.length,H++[.vec ks 0 gs]) else none
     |none=>none
    |_=>none
   |none=>none
  |none=>none
 |_=>none
theorem Zc{P:Program}{t:TypeId}{n:Nat}{parts:List (Nat × AV)}{v:AV}{H H':List af}{b:Bool}(h:ui P t n parts H=some (b,v,H')) :
  xd P t n parts (ah H)=some (v,ah H'):=by
 unfold ui at h;split at h
 case h_2=>cases h
 split at h
 case h_2=>cases h
 split at h
 case h_2=>cases h
 rename_i ks k;split at h
 case h_2=>cases h
 rename_i sz rows hb;split at h
 case h_2=>cases h
 rename_i gs d;split at h
 case isFalse=>cases h
 rename_i g;cases h;unfold xd;rw[hb];have e:=pQ d;simp only[];rw[iR,eJ,af.den,g,e,<-e,bN]
def Ct.read:Ct->AV->Option (List G)
 | .one k,a=>match xr k a with
  |some g=>some [g]
  |none=>none
 |.agg ks,.agg cells=>gI ks cells
 |_,_=>none
theorem Ct.kz{K:Ct}{a:AV}{r:List G}(h:K.read a=some r):K.av r=a:=by
 unfold Ct.read at h;split at h
 ·split at h
  ·rename_i g d
   cases h;exact FA d
  ·cases h
 ·simp only[Ct.av,ll h]
 ·cases h
def pV(P:Program)(t:TypeId):Option (Ct × List G) :=
 match P.info? t with
 | some i=>match i.zero with
  | some (.agg cs)=>match cs.toList.all dm,pR (cs.toList.map .lit) with
   | true,some ks=>match gI ks (cs.toList.map .lit) with
    |some gs=>some (.agg ks,gs)
    |none=>none
   |_,_=>none
  | some v=>match xu (.lit v) with
   | some k=>match xr k (.lit v) with
    |some g=>some (.one k,[g])
    |none=>none
   | none=>match im P t,w7 P t with
    |some (.lit (.slice none 0 0)),some ks=>some (.one (.list ks),[.l []])
    |_,_=>none
  |none=>none
 |none=>none
theorem Zd{P:Program}{t:TypeId}{v:AV}(h:im P t=some v)(d:v=.lit (.slice none 0 0)->False):oE P t=some v:=by
 unfold oE;rw[h];split
 ·rename_i e _
  cases e;exact(d rfl).elim
 ·rename_i e _
  cases e;rfl
 ·rename_i e
  cases e
theorem Nu{P:Program}{t:TypeId}{V:Ct}{z:List G}(h:pV P t=some (V,z)):oE P t=some (V.av z):=by
 unfold pV at h;have q:∀ v,im P t=some v->(v=.lit (.slice none 0 0)->False)->oE P t=some v:=fun v h I=>Zd h I;split at h
 case h_2=>cases h
 rename_i i hi;split at h
 ·rename_i cs d
  split at h
  ·rename_i ks h1 u
   split at h
   ·rename_i gs M
    cases h;refine q _ ?_ fun e=>by cases e
    unfold im;rw[hi];simp only[];rw[d];simp only[AV.tC,h1,if_true,Ct.av,ll M]
   ·cases h
  ·cases h
 ·rename_i v y d
  split at h
  ·rename_i k hk
   split at h
   ·rename_i g N
    cases h;have e:=FA N;simp only[Ct.av,tg,e];refine q _ ?_ fun e=>by
     simp only[AV.lit.injEq]at e;subst e;simp[xu]at hk
    unfold im;rw[hi];simp only[];rw[d];simp only[];unfold AV.tC;split
    ·rename_i cs; exact(y cs rfl).elim
    ·simp[xu]at hk
    ·rfl
   ·cases h
  ·split at h
   ·rename_i ks h1 u
    cases h;unfold oE;rw[h1,u];rfl
   ·cases h
 ·cases h
def Be:SK->Kd->Bool
 |.int k,.int k'=>decide (k=k')
 |.str,.str=>true
 |.bool,.bool=>true
 |_,_=>false
def kB:List SK->List Kd->Bool
 | [],[]=>true
 |a::as,b::d=>Be a b&&kB as d
 |_,_=>false
def gr(P:Program)(d:TypeId)(K:Ct):Bool :=
 match flatK P oz d with
 | some g=>kB g K.ks&&(match K with
  |.one _ => !oy (P.underlying d)
  |.agg _=>oy (P.underlying d))
 |none=>false
def pW:Kd->G->Value
 |.int k,g=>.int k g.int
 |.str,g=>.string g.str
 |.bool,g=>.bool g.bool
 |.list _,_=>.bool false
def dq:List Kd->List G->List Value
 | [],_=>[]
 |k::ks,r=>pW k (r.headD default)::dq ks r.tail
theorem Nv:∀{d:List SK} {ks:List Kd} (r:List G),kB d ks=true->ox (aD ks r)=some (dq ks r)/\cR d (dq ks r)=true
  | [],[],_,_=>⟨rfl,rfl⟩
  | a::as,k::ks,r,h=>by
    simp only[kB,ax]at h;obtain⟨h1,g⟩:=Nv r.tail h.2;have hk:=h.1;cases k<;>cases a<;>simp only[Be]at hk<;>first
      |(cases hk; done)
      | (simp only [aD, jM, ox, h1, dq, pW, cR, g, gD]
         simp_all[kindOk])
  | [],_::_,_,h|_::_,[],_,h=>by simp[kB]at h
theorem xA:∀{d:List SK} {ks:List Kd} (r s:List G),kB d ks=true->dN (dq ks r) (dq ks s)=a8 ks r s
 | [],[],_,_,_=>rfl
 | a::as,k::ks,r,s,h=>by
  simp only[kB,ax]at h;have g:=xA r.tail s.tail h.2;have hk:=h.1;simp only[dq,dN,a8,g];cases k<;>cases a<;>simp only[Be]at hk<;>first
   |(cases hk; done)
   |rfl
 | [],_::_,_,_,h|_::_,[],_,_,h=>by simp[kB]at h
theorem jz{P:Program}{g:TypeId}{K:Ct}(h:gr P g K=true)(r:List G):gS P g (K.av r)=some (dq K.ks r):=by
 unfold gr at h;split at h
 case h_2=>cases h
 rename_i q u;simp only[ax]at h;obtain⟨h1,d⟩:=h;obtain⟨g1,g2⟩:=Nv r h1;unfold gS;rw[u];simp only[];cases K with
 | one k =>
  simp only[qW]at d;simp only[Ct.ks,dq]at g2|-;have e:jM k (r.headD default)=.lit (pW k (r.headD default)):=by
   simp only[Ct.ks]at h1;cases q with
   |nil=>simp[kB]at h1
   | cons a as =>
    simp only[kB,ax]at h1;have hk:=h1.1;cases k<;>cases a<;>simp only[Be]at hk<;>first
     |(cases hk; done)
     |rfl
  simp only[Ct.av,e,g2,d,and_self,if_true]
 | agg ks =>
  simp only[Ct.av,Ct.ks]at g1 g2|-;simp only[g1,g2,d,and_self,if_true]
def bF(ks:List Kd)(key:List G):List (List G)->Nat->Option (Nat × List G)
 | [],_=>none
 |r::rs,i=>bif a8 ks key (gi r 0).row then some (i,r) else bF ks key rs (i+1)
def dK(ks:List Kd)(rows:List (List G))(key:List G):Bool:=(bF ks key rows 0).isSome
def cS(ks:List Kd)(rows:List (List G))(key z:List G):List G:=match bF ks key rows 0 with
 |some (_,r)=>(gi r 1).row
 |none=>z
def fx(ks:List Kd)(rows:List (List G))(key val:List G)(clock:Nat):List (List G):=match bF ks key rows 0 with
 |some (i,r)=>rows.set i [.l [key],.l [val],.i (gi r 2).int]
 |none=>rows++[[.l [key],.l [val],.i clock]]
def dE(ks:List Kd)(rows:List (List G))(key:List G)(clock:Nat):Nat:=bif dK ks rows key then clock else clock+1
def Nw(ks:List Kd)(rows:List (List G))(key:List G):List (List G):=match bF ks key rows 0 with
 |some (i,_)=>rows.eraseIdx i
 |none=>rows
theorem uj{P:Program}{g:TypeId}{K V:Ct}(h:gr P g K=true)(key:List G):∀(rows:List (List G)) (i:Nat),d_ P g (dq K.ks key) (c8 K V rows) i =
  some ((bF K.ks key rows i).map fun p=>(p.1,V.av (gi p.2 1).row))
 | [],i=>rfl
 | r::rs,i=>by
  have q:=uj (V:=V) h key rs (i+1);have k:∃ d,kB d K.ks=true:=by
   unfold gr at h;split at h
   ·simp only[ax]at h; exact⟨_,h.1⟩
   ·cases h
  obtain⟨d,u⟩:=k;simp only[c8,bX,d_,jz h,xA _ _ u,bF];cases a8 K.ks key (gi r 0).row with
  |true=>rfl
  |false=>exact q
theorem oJ{ks:List Kd}{key:List G}:∀{rows:List (List G)} {i j:Nat} {r:List G},bF ks key rows i=some (j,r)->i<=j/\rows[j-i]? = some r
 | [],_,_,_,h=>by simp[bF]at h
 | x::rs,i,j,r,h=>by
  simp only[bF]at h;cases d:a8 ks key (gi x 0).row with
  | true =>
   rw[d]at h;cases h;exact⟨aB _,by simp⟩
  | false =>
   rw[d]at h;obtain⟨h1,g⟩:=oJ h;refine⟨by omega,?_⟩;rw[show j-i=(j-(i+1))+1 from by omega];simpa using g
def FM(P:Program)(t:TypeId)(m k:AV)(ok:Bool)(H:List af):Option (Bool × AV) :=
 match c6 P t,m with
 | some (d,g),.map id=>match H[id]? with
  | some (.map K V rows _)=>match K.read k,pV P g with
   | some key,some (q,z)=>match gr P d K&&V.same q with
    | true=>some (true,match ok with
      |true=>.tuple [V.av (cS K.ks rows key z),.lit (.bool (dK K.ks rows key))]
      |false=>V.av (cS K.ks rows key z))
    |false=>none
   |_,_=>none
  |_=>none
 |_,_=>none
theorem Nx{P:Program}{t:TypeId}{m k v:AV}{ok b:Bool}{H:List af}(h:FM P t m k ok H=some (b,v)):gl P t m k ok (ah H)=some v:=by
 unfold FM at h;unfold gl;split at h
 case h_2=>cases h
 rename_i u y id g;rw[g];simp only[];split at h
 case h_2=>cases h
 rename_i K V rows cl hid;rw[a7 hid];simp only[af.den];split at h
 case h_2=>cases h
 rename_i key I z hk q;split at h
 case h_2=>cases h
 rename_i d;simp only[ax]at d;have e:=Ct.ku d.2;subst e;rw[<-Ct.kz hk,jz d.1,Nu q];simp only[uj d.1];cases h;unfold cS dK;cases bF K.ks key rows 0 with
 |none=>cases ok<;>rfl
 |some p=>cases ok<;>rfl
def uk(P:Program)(t:TypeId)(m k v:AV)(H:List af):Option (Bool × List af) :=
 match c6 P t,m with
 | some (d,_),.map id=>match H[id]? with
  | some (.map K V rows cl)=>match K.read k,V.read v with
   | some key,some val=>match gr P d K with
    |true=>some (true,H.set id (.map K V (fx K.ks rows key val cl) (dE K.ks rows key cl)))
    |false=>none
   |_,_=>none
  |_=>none
 |_,_=>none
def ef(ks:List Kd)(rows:List (List G))(key:List G):List (List G):=match bF ks key rows 0 with
 |some (_,r)=>jg r
 |none=>[]
def dO(ks:List Kd)(rows:List (List G))(key:List G):Bool:=match bF ks key rows 0 with
 |some (_,r)=>(gi r 3).bool
 |none=>true
def fH(ks:List Kd)(rows:List (List G))(key:List G):List (List G):=match bF ks key rows 0 with
 |some (i,r)=>rows.set i [gi r 0,gi r 1,gi r 2,.t false]
 |none=>rows
def mP(ks:List Kd)(rows:List (List G))(key:List G)(val:List (List G))(clock:Nat):List (List G):=match bF ks key rows 0 with
 |some (i,r)=>rows.set i [.l [key],.l [[.l val]],.i (gi r 2).int,.t true]
 |none=>rows++[[.l [key],.l [[.l val]],.i clock,.t true]]
def xB(P:Program)(t:TypeId)(m k:AV)(H:List af):Option (Bool × AV × List af) :=
 match c6 P t,m with
 | some (g,d),.map id=>match H[id]? with
  | some (.aJ l K ks rows cl)=>match K.read k,A3 P d,im P d with
   | some key,some w',some (.lit (.slice none 0 0))=>match ai w' ks.length&&gr P g K with
    |true=>some (dO K.ks rows key,.vec ks.length H.length 0 0 (ef K.ks rows key).length,H.set id (.aJ l K ks (fH K.ks rows key) cl)++[.vec ks 0 (ef K.ks rows key)])
    |false=>none
   |_,_,_=>none
  |_=>none
 |_,_=>none
def xC(P:Program)(t:TypeId)(m k v:AV)(H:List af):Option (Bool × List af) :=
 match c6 P t,m,v with
 | some (q,_),.map id,.vec w j ver off n=>match H[id]?,H[j]? with
  | some (.aJ l K ks rows cl),some (.vec g d rws)=>match K.read k with
   | some key=>match gr P q K&&(Kd.f_ ks g&&(ai w ks.length&&(ai ver d&&ai off 0))) with
    |true=>some (ai n rws.length,(H.set id (.aJ l K ks (mP K.ks rows key rws cl) (dE K.ks rows key cl))).set j (.raw .dead))
    |false=>none
   |none=>none
  |_,_=>none
 |_,_,_=>none
def oK(ks:List Kd)(rows:List (List G))(key:List G)(clock:Nat):Nat:=match bF ks key rows 0 with
 |some (_,r)=>(gi r 2).int.toNat
 |none=>clock
def oL(ks:List Kd)(rows:List (List G))(key:List G)(clock:Nat):List (List G):=match bF ks key rows 0 with
 |some (i,r)=>rows.set i [.l [key],gi r 1,gi r 2,.t false]
 |none=>rows++[[.l [key],.l [[.l []]],.i clock,.t false]]
def xD(P:Program)(t:TypeId)(m k:AV)(H:List af):Option (Bool × AV × List af) :=
 match c6 P t,m with
 | some (g,d),.map id=>match H[id]? with
  | some (.aJ l K ks rows cl)=>match K.read k,A3 P d,im P d with
   | some key,some w',some (.lit (.slice none 0 0))=>match ai w' ks.length&&gr P g K with
    | true=>some (dO K.ks rows key,.tuple [.vec ks.length H.length 0 0 (ef K.ks rows key).length,.lit (.int .i64 (oK K.ks rows key cl:Nat))],
      H.set id (.aJ l K ks (oL K.ks rows key cl) (dE K.ks rows key cl))++[.vec ks 0 (ef K.ks rows key)])
    |false=>none
   |_,_,_=>none
  |_=>none
 |_,_=>none
def gd(st:Int):List (List G)->Nat->Option (Nat × List G)
 | [],_=>none
 |r::rs,i=>bif ((gi r 2).int.toNat:Int)==st then some (i,r) else gd st rs (i+1)
def um(rows:List (List G))(st:Int)(val:List (List G)):List (List G):=match gd st rows 0 with
 |some (i,r)=>rows.set i [gi r 0,.l [[.l val]],gi r 2,.t true]
 |none=>rows
def uo(rows:List (List G))(st:Int):Bool:=(gd st rows 0).isSome
def xE(m s v:AV)(H:List af):Option (Bool × List af) :=
 match m,s,v with
 | .map id,.lit (.int .i64 st),.vec w j ver off n=>match H[id]?,H[j]? with
  | some (.aJ l K ks rows cl),some (.vec g d rws)=>match Kd.f_ ks g&&(ai w ks.length&&(ai ver d&&ai off 0)) with
   |true=>some (uo rows st&&ai n rws.length,(H.set id (.aJ l K ks (um rows st rws) cl)).set j (.raw .dead))
   |false=>none
  |_,_=>none
 |_,_,_=>none
def ln(ks:List Kd)(rows:List (List G))(key:List G)(s:Nat):List (List G):=match bF ks key rows 0 with
 |some (_,r)=>lk r s
 |none=>[]
def rS(ks:List Kd)(rows:List (List G))(key:List G)(v0 v1:List (List G))(clock:Nat):List (List G):=match bF ks key rows 0 with
 |some (i,r)=>rows.set i [.l [key],.l [[.l v0,.l v1]],.i (gi r 2).int,.t true]
 |none=>rows++[[.l [key],.l [[.l v0,.l v1]],.i clock,.t true]]
def xF(P:Program)(t:TypeId)(m k:AV)(H:List af):Option (Bool × AV × List af) :=
 match c6 P t,m with
 | some (d,g),.map id=>match H[id]? with
  | some (.bp l K ks rows cl)=>match K.read k,im P g with
   | some key,some (.agg [.lit (.slice none 0 0),.lit (.slice none 0 0)])=>match gr P d K with
    | true=>some (dO K.ks rows key,.agg [.vec ks.length H.length 0 0 (ln K.ks rows key 0).length,.vec ks.length (H.length+1) 0 0 (ln K.ks rows key 1).length],
      H.set id (.bp l K ks (fH K.ks rows key) cl)++[.vec ks 0 (ln K.ks rows key 0),.vec ks 0 (ln K.ks rows key 1)])
    |false=>none
   |_,_=>none
  |_=>none
 |_,_=>none
def xG(P:Program)(t:TypeId)(m k v:AV)(H:List af):Option (Bool × List af) :=
 match c6 P t,m,v with
 | some (M,_),.map id,.agg [.vec N d v0 o0 O,.vec U g v1 o1 V]=>match H[id]?,H[d]?,H[g]? with
  | some (.bp l K ks rows cl),some (.vec q u r0),some (.vec y I r1)=>match K.read k with
   | some key=>match gr P M K&&((Kd.f_ ks q&&(ai N ks.length&&(ai v0 u&&ai o0 0)))&&((Kd.f_ ks y&&(ai U ks.length&&(ai v1 I&&ai o1 0))) && !ai d g)) with
    |true=>some (ai O r0.length&&ai V r1.length,((H.set id (.bp l K ks (rS K.ks rows key r0 r1 cl) (dE K.ks rows key cl))).set d (.raw .dead)).set g (.raw .dead))
    |false=>none
   |none=>none
  |_,_,_=>none
 |_,_,_=>none
theorem FN{P:Program}{g:TypeId}{K:Ct}{ks:List Kd}(h:gr P g K=true)(key:List G):∀(rows:List (List G)) (i:Nat),d_ P g (dq K.ks key) (fv (kr K ks rows)) i =
  some ((bF K.ks key rows i).map fun p=>(p.1,.undef))
 | [],i=>rfl
 | r::rs,i=>by
  have q:=FN (ks:=ks) h key rs (i+1);have k:∃ d,kB d K.ks=true:=by
   unfold gr at h;split at h
   ·simp only[ax]at h; exact⟨_,h.1⟩
   ·cases h
  obtain⟨d,u⟩:=k;simp only[kr,fv,bX,d_,mO,jz h,xA _ _ u,bF];cases a8 K.ks key (gi r 0).row with
  |true=>rfl
  |false=>exact q
theorem Bf{K:Ct}{ks:List Kd}{rows:List (List G)}{i:Nat}{r:List G}(h:rows[i]? = some r):(kr K ks rows)[i]? = some (mO K ks r):=by
 unfold kr;rw[bB,h];rfl
theorem Ny(K:Ct)(ks:List Kd)(rows:List (List G))(i:Nat)(r:List G):kr K ks (rows.set i r)=(kr K ks rows).set i (mO K ks r):=by
 simp[kr,q_]
theorem Ze{α:Type}{l:List α}{i:Nat}{x:α}(h:l[i]? = some x):l.set i x=l:=by
 apply iK;intro j;rw[dv];split
 ·rename_i e
  subst e;rw[if_pos (aG h),h]
 ·rfl
theorem Zf{P:Program}{t:TypeId}{m k v:AV}{b:Bool}{H H':List af}(h:xF P t m k H=some (b,v,H'))(hb:b=true) :
  xl P t m k (ah H)=some (v,ah H')/\rB P t m k (ah H)=none/\gl P t m k false (ah H)=none:=by
 unfold xF at h;unfold xl rB gl;split at h
 case h_2=>cases h
 rename_i V W id O;rw[O];simp only[];split at h
 case h_2=>cases h
 rename_i l K ks rows cl hid;have g:=a7 hid;rw[g];simp only[af.den]at g|-;split at h
 case h_2=>cases h
 rename_i key hk U;split at h
 case h_2=>cases h
 rename_i u;simp only[aM,aU]at h;obtain⟨d,rfl,rfl⟩:=h;rw[hb]at d;rw[<-Ct.kz hk,jz u,U];simp only[FN u,and_true];unfold dO at d;unfold ln fH;have q:∀(L:List af) (x y:af),ah (L++[x,y])=ah L++[x.den]++[y.den]:=fun L x y=>by simp[ah]
 cases I:bF K.ks key rows 0 with
 | none =>
  simp only[tf,q,ct,af.den,eJ,k6,k8];rw[Ze g]
 | some p =>
  obtain⟨i,r⟩:=p;rw[I]at d;simp only[]at d;obtain⟨_,M⟩:=oJ I;rw[fF]at M;have N:(kr K ks rows)[i]? = some (K.av (gi r 0).row,(some ((lk r 0).map (aD ks)),some ((lk r 1).map (aD ks))),(gi r 2).int.toNat):=by
   rw[Bf M];simp only[mO,d,cond_true]
  simp only[dS,N,q,ct,af.den,eJ,bN,Ny];rfl
theorem Zg{P:Program}{t:TypeId}{m k v:AV}{b:Bool}{H H':List af}(h:xG P t m k v H=some (b,H'))(hb:b=true) :
  xm P t m k v (ah H)=some (ah H')/\lP P t m k v (ah H)=none/\oF P t m k v (ah H)=none/\rE P t m k v (ah H)=none:=by
 unfold xG at h;unfold xm oF lP rE;split at h
 case h_2=>cases h
 rename_i kt et id w0 W v0 o0 n0 w1 g v1 o1 n1 ht;rw[ht];simp only[];split at h
 case h_2=>cases h
 rename_i l K ks rows cl ks0 v0' r0 ks1 v1' r1 hid U V;rw[a7 hid,a7 U,a7 V];simp only[af.den];split at h
 case h_2=>cases h
 rename_i key hk;split at h
 case h_2=>cases h
 rename_i O;simp only[ax,qW]at O;obtain⟨N,⟨a1,a2,a3,a4⟩,⟨b1,u,y,I⟩,d⟩:=O;have e1:=Kd.gU a1;have e2:=Kd.gU b1;subst e1;subst e2;have a2:=ba a2;have a3:=ba a3;have a4:=ba a4;have u:=ba u;have y:=ba y;have I:=ba I;have d:W≠g:=fun e=>by rw[e,show ai g g=true from fe g]at d; cases d
 simp only[aM,aU]at h;obtain⟨q,rfl⟩:=h;rw[hb]at q;simp only[ax]at q;have p0:=ba q.1;have p1:=ba q.2;rw[<-Ct.kz hk,jz N];simp only[];rw[if_pos ⟨⟨⟨a2,trivial⟩,u,trivial⟩,⟨⟨a3,y⟩,a4,I⟩,⟨by simpa using p0,by simpa using p1⟩,d,Ct.rO _ _⟩];simp only[FN N,and_true];unfold rS dE dK;cases hf:bF K.ks key rows 0 with
 | none =>
  simp only[tf,ct,af.den,D4,cond_false];simp[kr,mO,lk,gi,G.row,G.rows,G.int,G.bool]
 | some p =>
  obtain⟨i,r⟩:=p;obtain⟨_,M⟩:=oJ hf;rw[fF]at M;have hm:(kr K ks rows).modify i (fun e=>(K.av key,(some (r0.map (aD ks)),some (r1.map (aD ks))),e.2.2))=(kr K ks rows).set i (K.av key,(some (r0.map (aD ks)),some (r1.map (aD ks))),(gi r 2).int.toNat):=by
   apply iK;intro j;rw[gF,dv];by_cases e:i=j
   ·subst e
    rw[if_pos rfl,if_pos (aG (Bf M)),Bf M];simp[mO]
   ·rw [if_neg e]
    simp[e]
  simp only[dS,hm,ct,af.den,Ny,Eb,cond_true];simp[mO,lk,gi,G.row,G.rows,G.int,G.bool]
theorem Bg(K:Ct)(ks:List Kd)(r:List G):(gj (iQ K ks r).1).1=K.av (gi r 0).row:=by
 unfold iQ;cases (gi r 4).bool && !(gi r 3).bool with
 |true=>rfl
 | false =>
  cases K with
  |one k=>cases k<;>rfl
  |agg ks=>rfl
theorem Zh(K:Ct)(g:List G):plainKey (K.av g)=true:=by
 cases K with
 |one k=>cases k<;>rfl
 |agg ks=>rfl
theorem Bh{P:Program}{g:TypeId}{K:Ct}{ks:List Kd}(h:gr P g K=true)(key:List G):∀(rows:List (List G)) (i:Nat),d_ P g (dq K.ks key) (cL (fT K ks rows)) i =
  some ((bF K.ks key rows i).map fun p=>(p.1,(gj (iQ K ks p.2).1).2))
 | [],i=>rfl
 | r::rs,i=>by
  have q:=Bh (ks:=ks) h key rs (i+1);have k:∃ d,kB d K.ks=true:=by
   unfold gr at h;split at h
   ·simp only[ax]at h; exact⟨_,h.1⟩
   ·cases h
  obtain⟨d,u⟩:=k;simp only[fT,cL,bX,d_,Bg,jz h,xA _ _ u,bF];cases a8 K.ks key (gi r 0).row with
  |true=>rfl
  |false=>exact q
theorem uq{K:Ct}{ks:List Kd}{rows:List (List G)}{i:Nat}{r:List G}(h:rows[i]? = some r):(fT K ks rows)[i]? = some (iQ K ks r):=by
 unfold fT;rw[bB,h];rfl
theorem Bi(K:Ct)(ks:List Kd)(rows:List (List G))(i:Nat)(r:List G):fT K ks (rows.set i r)=(fT K ks rows).set i (iQ K ks r):=by
 simp[fT,q_]
theorem Zi{P:Program}{t:TypeId}{m k v:AV}{b:Bool}{H H':List af}(h:xB P t m k H=some (b,v,H'))(hb:b=true):rB P t m k (ah H)=some (v,ah H')/\gl P t m k false (ah H)=none:=by
 unfold xB at h;unfold rB gl;split at h
 case h_2=>cases h
 rename_i U V id N;rw[N];simp only[];split at h
 case h_2=>cases h
 rename_i l K ks rows cl hid;rw[a7 hid];simp only[af.den];split at h
 case h_2=>cases h
 rename_i key w' hk hw O;split at h
 case h_2=>cases h
 rename_i u;simp only[ax]at u;obtain⟨g,q⟩:=u;have e:=ba g;simp only[aM,aU]at h;obtain⟨d,rfl,rfl⟩:=h;rw[hb]at d;rw[<-Ct.kz hk,jz q,hw,O];simp only[g,Bh q,and_true];unfold dO at d;unfold ef fH;cases y:bF K.ks key rows 0 with
 | none =>
  simp only[tf,iR,ct,af.den,eJ,k6,k8]
 | some p =>
  obtain⟨i,r⟩:=p;rw[y]at d;simp only[]at d;obtain⟨_,I⟩:=oJ y;rw[fF]at I;have M:pM (fT K ks rows) i=some (K.av (gi r 0).row,(jg r).map (aD ks),(gi r 2).int.toNat):=by
   unfold pM;rw[uq I];simp only[iQ,d,cond_true,Aj,alS,cond_false]
  simp only[dS,M,iR,ct,af.den,eJ,bN,Bi];rfl
theorem Zj{P:Program}{t:TypeId}{m k v:AV}{b:Bool}{H H':List af}(h:xC P t m k v H=some (b,H'))(hb:b=true):oF P t m k v (ah H)=some (ah H')/\lP P t m k v (ah H)=none:=by
 unfold xC at h;unfold oF lP;split at h
 case h_2=>cases h
 rename_i kt et id w j ver off n O;rw[O];simp only[];split at h
 case h_2=>cases h
 rename_i l K ks rows cl ks2 ver' rws hid U;rw[a7 hid,a7 U];simp only[af.den];split at h
 case h_2=>cases h
 rename_i key hk;split at h
 case h_2=>cases h
 rename_i q;simp only[ax]at q;obtain⟨g,y,I,M,N⟩:=q;have V:=Kd.gU y;subst V;have W:=ba I;have e4:=ba M;have e5:=ba N;subst W e4 e5;simp only[aM,aU]at h;obtain⟨d,rfl⟩:=h;rw[hb]at d;have d:=ba d;subst d;rw[<-Ct.kz hk,jz g];simp only[Ct.rO,bN,and_self,if_true,Bh g,and_true];unfold mP dE dK;cases hf:bF K.ks key rows 0 with
 | none =>
  simp only[tf,ct,af.den,D4,cond_false];simp[fT,iQ,jg,gi,G.row,G.rows,G.int,G.bool]
 | some p =>
  obtain⟨i,r⟩:=p;obtain⟨_,u⟩:=oJ hf;rw[fF]at u;simp only[dS,E6 (uq u),ct,af.den,Bi,Eb,cond_true];simp[iQ,jg,gi,G.row,G.rows,G.int,G.bool]
theorem Zk{P:Program}{t:TypeId}{m k v:AV}{b:Bool}{H H':List af}(h:xD P t m k H=some (b,v,H'))(hb:b=true):ju P t m k (ah H)=some (v,ah H'):=by
 unfold xD at h;unfold ju;split at h
 case h_2=>cases h
 rename_i U V id N;rw[N];simp only[];split at h
 case h_2=>cases h
 rename_i l K ks rows cl hid;rw[a7 hid];simp only[af.den];split at h
 case h_2=>cases h
 rename_i key w' hk hw O;split at h
 case h_2=>cases h
 rename_i q;simp only[ax]at q;obtain⟨I,g⟩:=q;simp only[aM,aU]at h;obtain⟨d,rfl,rfl⟩:=h;rw[hb]at d;rw[<-Ct.kz hk,jz g,hw,O];simp only[I,Ct.rO,Bool.and_self,Bh g];unfold dO at d;unfold ef oL oK dE dK;cases u:bF K.ks key rows 0 with
 | none =>
  simp only[tf,iR,ct,af.den,eJ,k6,k8,D4,cond_false,goInt];simp[fT,iQ,jg,gi,G.row,G.rows,G.int,G.bool]
 | some p =>
  obtain⟨i,r⟩:=p;rw[u]at d;simp only[]at d;obtain⟨_,y⟩:=oJ u;rw[fF]at y;have M:pM (fT K ks rows) i=some (K.av (gi r 0).row,(jg r).map (aD ks),(gi r 2).int.toNat):=by
   unfold pM;rw[uq y];simp only[iQ,d,cond_true,Aj,alS,cond_false]
  simp only[dS,M,iR,ct,af.den,eJ,bN,Bi,Eb,cond_true,goInt];rfl
theorem FO{st:Int}:∀{rows:List (List G)} {i j:Nat} {r:List G},gd st rows i=some (j,r)->i<=j/\rows[j-i]? = some r
 | [],_,_,_,h=>by simp[gd]at h
 | x::rs,i,j,r,h=>by
  simp only[gd]at h;cases d:((gi x 2).int.toNat:Int)==st with
  | true =>
   rw[d]at h;cases h;simp
  | false =>
   rw[d]at h;obtain⟨h1,g⟩:=FO h;refine⟨by omega,?_⟩;rw[show j-i=(j-(i+1))+1 from by omega];simpa using g
theorem Nz{K:Ct}{ks:List Kd}{st:Int}:∀{rows:List (List G)} {i:Nat},(gd st rows i).map (·.1)=(rC (fT K ks rows) st).map (·+i)
 | [],_=>rfl
 | x::rs,i=>by
  have d:=Nz (K:=K) (ks:=ks) (st:=st) (rows:=rs) (i:=i+1);unfold rC at d|-;simp only[gd,fT,bX,Lc,iQ]at d|-;cases g:((gi x 2).int.toNat:Int)==st with
  |true=>simp
  | false =>
   simp only[cond_false,d,kV,if_false,Li];congr 1
   funext n
   simp only[Ak];omega
theorem Zl{m s v:AV}{b:Bool}{H H':List af}(h:xE m s v H=some (b,H'))(hb:b=true):lQ m s v (ah H)=some (ah H'):=by
 unfold xE at h;unfold lQ;split at h
 case h_2=>cases h
 rename_i id st w j ver off n;split at h
 case h_2=>cases h
 rename_i l K ks rows cl ks2 ver' rws hid hj;simp only[];rw[a7 hid,a7 hj];simp only[af.den];split at h
 case h_2=>cases h
 rename_i I;simp only[ax]at I;obtain⟨O,U,V,W⟩:=I;have e2:=Kd.gU O;subst e2;have e3:=ba U;have e4:=ba V;have e5:=ba W;subst e3 e4 e5;simp only[aM,aU]at h;obtain⟨q,rfl⟩:=h;rw[hb]at q;simp only[ax]at q;obtain⟨d,g⟩:=q;have g:=ba g;subst g;simp only[bN,and_self,if_true];unfold uo at d;unfold um;cases u:gd st rows 0 with
 |none=>rw[u]at d; cases d
 | some p =>
  obtain⟨i,r⟩:=p;obtain⟨_,M⟩:=FO u;rw[fF]at M;have hi:rC (fT K ks rows) st=some i:=by
   have:=Nz (K:=K) (ks:=ks) (st:=st) (rows:=rows) (i:=0);rw[u]at this;cases N:rC (fT K ks rows) st with
   |none=>rw[N]at this; cases this
   |some y=>rw[N]at this; simp at this; rw[this]
  rw[hi];obtain⟨k0,o0,ek,ek2⟩:∃ k o,iQ K ks r=(k,o,(gi r 2).int.toNat)/\(gj k).1=K.av (gi r 0).row:=⟨_,_,rfl,Bg K ks r⟩
  simp only[uq M,ek,ek2,Zh,ct,af.den,Bi];simp[iQ,jg,gi,G.row,G.rows,G.bool]
theorem NA(K V:Ct)(rows:List (List G))(i:Nat)(r:List G):c8 K V (rows.set i r)=(c8 K V rows).set i (K.av (gi r 0).row,V.av (gi r 1).row,(gi r 2).int.toNat):=by
 simp[c8,q_]
theorem NB{α:Type}{l:List α}{i:Nat}{x:α}(f:α->α)(h:l[i]? = some x):l.modify i f=l.set i (f x):=by
 apply iK;intro j;rw[gF,dv];by_cases e:i=j
 ·subst e
  rw[if_pos rfl,if_pos (aG h),h];simp
 ·rw [if_neg e]
  simp[e]
theorem NC{P:Program}{t:TypeId}{m k v:AV}{b:Bool}{H H':List af}(h:uk P t m k v H=some (b,H')):lP P t m k v (ah H)=some (ah H'):=by
 unfold uk at h;unfold lP;split at h
 case h_2=>cases h
 rename_i M N id u;rw[u];simp only[];split at h
 case h_2=>cases h
 rename_i K V rows cl hid;rw[a7 hid];simp only[af.den];split at h
 case h_2=>cases h
 rename_i key val hk y;split at h
 case h_2=>cases h
 rename_i d;cases h;rw[<-Ct.kz hk,<-Ct.kz y,jz d];simp only[Ct.rO,and_self,if_true,uj d,ct,af.den];unfold fx dE dK;cases I:bF K.ks key rows 0 with
 |none=>simp[c8,gi,G.row,G.rows,G.int]
 | some p =>
  obtain⟨_,g⟩:=oJ (r:=p.2) (j:=p.1) I;rw[fF]at g;have q:(c8 K V rows)[p.1]? = some (K.av (gi p.2 0).row,V.av (gi p.2 1).row,(gi p.2 2).int.toNat):=by simp[c8,g]
  simp only[dS,NB _ q,NA,Eb,cond_true];simp[gi,G.row,G.rows,G.int]
def xH(P:Program)(t:TypeId)(m k:AV)(H:List af):Option (Bool × List af) :=
 match c6 P t,m with
 | some (d,_),.map id=>match H[id]? with
  | some (.map K V rows cl)=>match K.read k,gr P d K with
   |some key,true=>some (true,H.set id (.map K V (Nw K.ks rows key) cl))
   |_,_=>none
  |_=>none
 |_,_=>none
theorem ND{α β:Type}(f:α->β):∀(l:List α) (i:Nat),(l.map f).eraseIdx i=(l.eraseIdx i).map f
 | [],_=>by simp
 |_::_,0=>by simp
 |_::l,i+1=>by simp[ND f l i]
theorem Zm{P:Program}{t:TypeId}{m k:AV}{b:Bool}{H H':List af}(h:xH P t m k H=some (b,H')):xb P t m k (ah H)=some (ah H'):=by
 unfold xH at h;unfold xb;split at h
 case h_2=>cases h
 rename_i q u id g;rw[g];simp only[];split at h
 case h_2=>cases h
 rename_i K V rows cl hid;rw[a7 hid];simp only[af.den];split at h
 case h_2=>cases h
 rename_i key hk d;cases h;rw[<-Ct.kz hk,jz d];simp only[uj d,ct,af.den];unfold Nw;cases v:bF K.ks key rows 0 with
 |none=>rfl
 |some p=>simp only[dS,c8,ND]
def xI(P:Program)(t:TypeId)(x:AV)(H:List af):Option (Bool × List af) :=
 match cD P t,x with
 | .slice e sz _,.vec w id ver off n=>match eR P e,H[id]? with
  | some z,some (.vec ks v rows)=>match gI ks (z.map .lit) with
   | some d=>if ks.length=w/\w=sz/\v=ver/\z.length=sz/\0<sz then
     some (dD (off+n) rows.length,H.set id (.vec ks v (rows.take off++bQ n d++rows.drop (off+n)))) else none
   |none=>none
  |_,_=>none
 |_,_=>none
theorem Zn{P:Program}{t:TypeId}{x:AV}{b:Bool}{H H':List af}(h:xI P t x H=some (b,H'))(hb:b=true):xc P t x (ah H)=some (ah H'):=by
 unfold xI at h;unfold xc;split at h
 case h_2=>cases h
 rename_i e sz y w id ver off n hk;rw[hk];simp only[];split at h
 case h_2=>cases h
 rename_i z ks v rows k hid;rw[k,a7 hid];simp only[af.den];split at h
 case h_2=>cases h
 rename_i I g;split at h
 case isFalse=>cases h
 rename_i q;obtain⟨rfl,rfl,rfl,h1,u⟩:=q;simp only[aM,aU]at h;obtain⟨d,rfl⟩:=h;subst hb;have d:=Al d;simp only[h1,u,bN,d,and_self,if_true,ct,af.den,aM];rw[<-ll g];simp[List.map_take,List.map_drop]
def ur(P:Program)(t xt:TypeId)(s x:AV)(H:List af):Option (Bool × AV × List af) :=
 match cD P t,cD P xt,s,x with
 | .slice e sz d,.int _,.lit (.slice none 0 0),.lit (.int _ n)=>match eR P e with
  | some z=>match pR (z.map .lit) with
   | some ks=>match gI ks (z.map .lit) with
    | some g=>if z.length=sz/\0<sz/\d<=1048576/\ks.length=sz then
      some (aj 0 n&&aZ n 1048576,.vec sz H.length 0 0 n.toNat,H++[.vec ks 0 (bQ n.toNat g)]) else none
    |none=>none
   |none=>none
  |none=>none
 |_,_,_,_=>none
theorem Zo{P:Program}{t xt:TypeId}{s x v:AV}{b:Bool}{H H':List af}(h:ur P t xt s x H=some (b,v,H'))(hb:b=true):rA P t xt s x (ah H)=some (v,ah H'):=by
 unfold ur at h;unfold rA;split at h
 case h_2=>cases h
 rename_i e sz O k k' n hk g;rw[hk,g];simp only[];split at h
 case h_2=>cases h
 rename_i z u;rw[u];simp only[];split at h
 case h_2=>cases h
 rename_i ks U;split at h
 case h_2=>cases h
 rename_i V q;split at h
 case isFalse=>cases h
 rename_i y;obtain⟨h1,I,M,N⟩:=y;simp only[aM,aU]at h;obtain⟨d,rfl,rfl⟩:=h;subst hb;simp only[cd,eT,ax,decide_eq_true_eq]at d;simp only[h1,I,M,d.1,d.2,and_self,if_true,iR,af.den,eJ,N,aM,aU,true_and];rw[<-ll q];simp
def lX(ks:List Kd)(rows:List (List G))(key:List G):Option Nat:=match bF ks key rows 0 with
 |some (_,r)=>rP r
 |none=>none
def mQ(mem:List (List G)):Option Nat->Bool
 |some i=>cC i mem.length
 |none=>false
def kC(mem:List (List G)):Option Nat->List G
 |some i=>mem.getD i []
 |none=>[]
def uu(mem:List (List G))(j:Option Nat)(ks:List Kd)(key val:List G):List (List G):=match j with
 |some i=>mem.set i [.l (fx ks (gi (kC mem j) 0).rows key val (gi (kC mem j) 1).int.toNat),.i (dE ks (gi (kC mem j) 0).rows key (gi (kC mem j) 1).int.toNat:Nat)]
 |none=>mem
def uv(rows:List (List G))(st:Int):Bool:=match gd st rows 0 with
 |some (_,r) => !aZ 0 (gi r 1).int
 |none=>false
def uw(rows:List (List G))(st:Int)(n:Nat):List (List G):=match gd st rows 0 with
 |some (i,r)=>rows.set i [gi r 0,.i n,gi r 2]
 |none=>rows
theorem FP{P:Program}{g:TypeId}{K:Ct}(h:gr P g K=true)(key:List G):∀(rows:List (List G)) (i:Nat),d_ P g (dq K.ks key) (gk (jx K rows)) i =
  some ((bF K.ks key rows i).map fun p=>(p.1,AV.undef))
 | [],i=>rfl
 | r::rs,i=>by
  have q:=FP h key rs (i+1);have k:∃ d,kB d K.ks=true:=by
   unfold gr at h;split at h
   ·simp only[ax]at h; exact⟨_,h.1⟩
   ·cases h
  obtain⟨d,u⟩:=k;simp only[jx,gk,bX,d_,jz h,xA _ _ u,bF];cases a8 K.ks key (gi r 0).row with
  |true=>rfl
  |false=>exact q
theorem NF{K:Ct}{rows:List (List G)}{i:Nat}{r:List G}(h:rows[i]? = some r):(jx K rows)[i]? = some (K.av (gi r 0).row,rP r,(gi r 2).int.toNat):=by
 unfold jx;rw[bB,h];rfl
theorem NG{KI VI:Ct}{mem:List (List G)}{i:Nat}(h:i<mem.length):(pP KI VI mem)[i]? = some (c8 KI VI (gi (mem.getD i []) 0).rows,(gi (mem.getD i []) 1).int.toNat):=by
 unfold pP;rw[bB,bP,bx h];rfl
def FQ(P:Program)(t:TypeId)(m k:AV)(ok:Bool)(H:List af):Option (Bool × AV) :=
 match c6 P t,m with
 | some (d,g),.sub id l j=>match H[id]? with
  | some (.mm l' _ KI VI _ mem _)=>match KI.read k,pV P g with
   | some key,some (q,z)=>match ai l l'&&(gr P d KI&&VI.same q) with
    | true=>some (mQ mem j,match ok with
      |true=>.tuple [VI.av (cS KI.ks (gi (kC mem j) 0).rows key z),.lit (.bool (dK KI.ks (gi (kC mem j) 0).rows key))]
      |false=>VI.av (cS KI.ks (gi (kC mem j) 0).rows key z))
    |false=>none
   |_,_=>none
  |_=>none
 | some (d,g),.map id=>match H[id]?,ok with
  | some (.mm l K _ _ rows _ _),false=>match K.read k,im P g with
   | some key,some (.lit (.map none))=>match gr P d K with
    |true=>some (true,.sub id l (lX K.ks rows key))
    |false=>none
   |_,_=>none
  |_,_=>none
 |_,_=>none
theorem Zp{P:Program}{t:TypeId}{m k v:AV}{ok b:Bool}{H:List af}(h:FQ P t m k ok H=some (b,v))(hb:b=true):gl P t m k ok (ah H)=none/\lh P t m k ok (ah H)=some v:=by
 unfold FQ at h;unfold lh gl;split at h
 ·rename_i I M id l j g
  rw[g];refine⟨rfl,?_⟩;split at h
  case h_2=>cases h
  rename_i l' K KI VI rows mem cl hid;split at h
  case h_2=>cases h
  rename_i key V z hk q;split at h
  case h_2=>cases h
  rename_i d;simp only[ax]at d;obtain⟨N,d,O⟩:=d;have e:=Ct.ku O;subst e;simp only[aM,aU]at h;obtain⟨hi,rfl⟩:=h;rw[hb]at hi;cases j with
  |none=>cases hi
  | some i =>
   have y:i<mem.length:=by simpa[mQ]using hi
   simp only[tU,g];rw[a7 hid];simp only[af.den,N,NG y,kC];rw[<-Ct.kz hk,jz d,Nu q];simp only[uj d];unfold cS dK;cases bF KI.ks key (gi (mem.getD i []) 0).rows 0 with
   |none=>cases ok<;>rfl
   |some p=>cases ok<;>rfl
 ·rename_i I M id g
  rw[g];split at h
  case h_2=>cases h
  rename_i l K KI VI rows mem cl hid;split at h
  case h_2=>cases h
  rename_i key hk q;split at h
  case h_2=>cases h
  rename_i d;simp only[rD,g];rw[a7 hid];simp only[af.den];refine⟨trivial,?_⟩;rw[<-Ct.kz hk,jz d,q];simp only[FP d];cases h;unfold lX;cases U:bF K.ks key rows 0 with
  |none=>rfl
  | some p =>
   obtain⟨i,r⟩:=p;obtain⟨_,u⟩:=oJ U;rw[fF]at u;simp only[dS,NF u]
 ·cases h
def xJ(P:Program)(t:TypeId)(m k v:AV)(H:List af):Option (Bool × List af) :=
 match c6 P t,m with
 | some (d,_),.sub id l j=>match H[id]? with
  | some (.mm l' K KI VI rows mem cl)=>match KI.read k,VI.read v with
   | some key,some val=>match ai l l'&&gr P d KI with
    |true=>some (mQ mem j,H.set id (.mm l' K KI VI rows (uu mem j KI.ks key val) cl))
    |false=>none
   |_,_=>none
  |_=>none
 |_,_=>none
theorem Zq(KI VI:Ct)(mem:List (List G))(i:Nat)(r:List G):pP KI VI (mem.set i r)=(pP KI VI mem).set i (c8 KI VI (gi r 0).rows,(gi r 1).int.toNat):=by
 simp[pP,q_]
theorem Zr(K:Ct)(rows:List (List G))(i:Nat)(r:List G):jx K (rows.set i r)=(jx K rows).set i (K.av (gi r 0).row,rP r,(gi r 2).int.toNat):=by
 simp[jx,q_]
theorem Zs{P:Program}{t:TypeId}{m k v:AV}{b:Bool}{H H':List af}(h:xJ P t m k v H=some (b,H'))(hb:b=true) :
  rE P t m k v (ah H)=some (ah H')/\lP P t m k v (ah H)=none/\oF P t m k v (ah H)=none:=by
 unfold xJ at h;unfold rE lP oF;split at h
 case h_2=>cases h
 rename_i V W id l j N;rw[N];refine⟨?_,rfl,rfl⟩;split at h
 case h_2=>cases h
 rename_i l' K KI VI rows mem cl hid;split at h
 case h_2=>cases h
 rename_i key val hk O;split at h
 case h_2=>cases h
 rename_i d;simp only[ax]at d;obtain⟨g,d⟩:=d;have e:=ba g;subst e;simp only[aM,aU]at h;obtain⟨hi,rfl⟩:=h;rw[hb]at hi;cases j with
 |none=>cases hi
 | some i =>
  have I:i<mem.length:=by simpa[mQ]using hi
  simp only[];rw[a7 hid];simp only[af.den,NG I,g];rw[<-Ct.kz hk,<-Ct.kz O,jz d];simp only[Ct.rO,and_self,if_true,uj d,ct,af.den,uu,kC,Zq];generalize mem.getD i []=m0;have q:∀(X:List (List G)) (n:Nat),(gi [G.l X,G.i n] 0).rows=X:=fun _ _=>rfl;have u:∀(X:List (List G)) (n:Nat),(gi [G.l X,G.i n] 1).int.toNat=n:=fun _ _=>rfl;unfold fx dE dK;cases U:bF KI.ks key (gi m0 0).rows 0 with
  | none =>
   simp only[tf,D4,cond_false,q,u];rw[show c8 KI VI ((gi m0 0).rows++[[.l [key],.l [val],.i (gi m0 1).int.toNat]])=c8 KI VI (gi m0 0).rows++[(KI.av key,VI.av val,(gi m0 1).int.toNat)] from by
    simp only[c8,eO,bX,k8];rfl]
  | some p =>
   obtain⟨_,y⟩:=oJ (r:=p.2) (j:=p.1) U;rw[fF]at y;have M:(c8 KI VI (gi m0 0).rows)[p.1]? = some (KI.av (gi p.2 0).row,VI.av (gi p.2 1).row,(gi p.2 2).int.toNat):=by simp[c8,y]
   simp only[dS,NB _ M,Eb,cond_true,q,u,NA];rfl
def xK(P:Program)(t:TypeId)(m k:AV)(H:List af):Option (Bool × AV × List af) :=
 match c6 P t,m with
 | some (d,g),.map id=>match H[id]? with
  | some (.mm l K KI VI rows mem cl)=>match K.read k,im P g with
   | some key,some (.lit (.map none))=>match gr P d K with
    |true=>some (!dK K.ks rows key,.tuple [.sub id l none,.lit (.int .i64 (cl:Nat))],H.set id (.mm l K KI VI (rows++[[.l [key],.i (-1),.i cl]]) mem (cl+1)))
    |false=>none
   |_,_=>none
  |_=>none
 |_,_=>none
theorem Zt{P:Program}{t:TypeId}{m k v:AV}{b:Bool}{H H':List af}(h:xK P t m k H=some (b,v,H'))(hb:b=true) :
  kp P t m k (ah H)=some (v,ah H')/\ju P t m k (ah H)=none:=by
 unfold xK at h;unfold kp ju;split at h
 case h_2=>cases h
 rename_i I M id q;rw[q];split at h
 case h_2=>cases h
 rename_i l K KI VI rows mem cl hid;simp only[];rw[a7 hid];simp only[af.den];split at h
 case h_2=>cases h
 rename_i key hk u;split at h
 case h_2=>cases h
 rename_i g;simp only[aM,aU]at h;obtain⟨d,rfl,rfl⟩:=h;rw[hb]at d;rw[<-Ct.kz hk,jz g,u];simp only[Ct.rO,FP g,and_true];unfold dK at d;cases y:bF K.ks key rows 0 with
 |some p=>rw[y]at d; cases d
 | none =>
  simp only[tf,ct,af.den];rw[show jx K (rows++[[.l [key],.i (-1),.i cl]])=jx K rows++[(K.av key,none,cl)] from by
   simp only[jx,eO,bX,k8];rfl]
  rfl
theorem NH{K:Ct}{st:Int}:∀{rows:List (List G)} {i:Nat},(gd st rows i).map (·.1)=(rF (jx K rows) st).map (·+i)
 | [],_=>rfl
 | x::rs,i=>by
  have d:=NH (K:=K) (st:=st) (rows:=rs) (i:=i+1);unfold rF at d|-;simp only[gd,jx,bX,Lc]at d|-;cases g:((gi x 2).int.toNat:Int)==st with
  |true=>simp
  | false =>
   simp only[cond_false,d,kV,if_false,Li];congr 1
   funext n
   simp only[Ak];omega
def xL(m s v:AV)(H:List af):Option (Bool × List af) :=
 match m,s,v with
 | .map id,.lit (.int .i64 st),.map j=>match H[id]?,H[j]? with
  | some (.mm l K KI VI rows mem cl),some (.map k q d g)=>match KI.same k&&VI.same q with
   |true=>some (uv rows st,(H.set id (.mm l K KI VI (uw rows st mem.length) (mem++[[.l d,.i g]]) cl)).set j (.raw .dead))
   |false=>none
  |_,_=>none
 |_,_,_=>none
theorem Zu{m s v:AV}{b:Bool}{H H':List af}(h:xL m s v H=some (b,H'))(hb:b=true) :
  mI m s v (ah H)=some (ah H')/\lQ m s v (ah H)=none:=by
 unfold xL at h;unfold mI lQ;split at h
 case h_2=>cases h
 rename_i id st j;split at h
 case h_2=>cases h
 rename_i l K KI VI rows mem cl W V2 U V hid I;refine⟨?_,rfl⟩;simp only[];rw[a7 hid,a7 I];simp only[af.den];split at h
 case h_2=>cases h
 rename_i k;simp only[ax]at k;have M:=Ct.ku k.1;have N:=Ct.ku k.2;subst M N;simp only[aM,aU]at h;obtain⟨d,rfl⟩:=h;rw[hb]at d;unfold uv at d;unfold uw;cases g:gd st rows 0 with
 |none=>rw[g]at d; cases d
 | some p =>
  obtain⟨i,r⟩:=p;rw[g]at d;obtain⟨_,q⟩:=FO g;rw[fF]at q;have hi:rF (jx K rows) st=some i:=by
   have:=NH (K:=K) (st:=st) (rows:=rows) (i:=0);rw[g]at this;cases u:rF (jx K rows) st with
   |none=>rw[u]at this; cases this
   |some y=>rw[u]at this; simp at this; rw[this]
  have hm:rP r=none:=by
   unfold rP;cases O:aZ 0 (gi r 1).int with
   |true=>simp[O]at d
   |false=>rfl
  rw[hi];simp only[NF q,hm,ct,af.den,Zr];simp[rP,pP,gi,G.row,G.rows,G.int,aZ,show ∀ n,dD 0 n=true from fun n=>Nat.ble_eq_true_of_le (dX n)]
def jV(P:Program)(r:Operand->AV)(H:List af):Op->Option (Bool × AV × List af)
 | .alloc t=>match AQ P t with
  |some e=>if jQ (ah H) 0=true then some (true,.ptr H.length 0 0 0 0,H++[.raw (.fN 0 t e zO)]) else none
  | none=>match eR P t with
   |some z=>some (true,.ptr H.length 0 0 0 0,H++[.raw (.box (z.map .lit))])
   |none=>none
 | .box _ x=>match nz (r x) with
  |some cs=>some (true,.ptr H.length 0 0 0 0,H++[.raw (.box cs)])
  |none=>none
 | .store t a x=>match uf P t (r a) (r x) H with
  |some (b,H')=>some (b,.undef,H')
  | none=>match xw P t (r a) (r x) H with
   |some (b,H')=>some (b,.undef,H')
   | none=>match xy P t (r a) (r x) H with
    |some (b,H')=>some (b,.undef,H')
    |none=>none
 |.makeSlice t l c=>xz P t (r l) (r c) H
 |.buildSlice t n parts=>ui P t n (parts.toList.map fun p=>(p.1,r p.2)) H
 | .range t x=>match cD P t,r x with
  |.str,.lit (.string s)=>some (true,.ptr H.length 0 0 0 0,H++[.raw (.iter s 0)])
  |_,_=>none
 | .next it true=>match r it with
  | .ptr id 0 _ 0 0=>match H[id]? with
   | some (.raw (.iter s pos))=>if pos<s.size then some (true,.tuple [.lit (.bool true),.lit (goInt pos),.lit (.int .i32 (pr s pos).1)],H.set id (.raw (.iter s (pos+(pr s pos).2))))
     else some (true,.tuple [.lit (.bool false)],H)
   |_=>none
  |_=>none
 | .makeMap t none=>match c6 P t with
  | some (g,d)=>match pV P g,pV P d with
   |some (K,_),some (V,_)=>some (true,.map H.length,H++[.map K V [] 0])
   | some (K,_),none=>match c6 P d with
    |some _=>some (true,.map H.length,H++[.map K K [] 0])
    | none=>match cD P d with
     | .array 2 e 1 _=>match w7 P e with
      |some ks=>some (true,.map H.length,H++[.map K (.agg [.list ks,.list ks]) [] 0])
      |none=>none
     |_=>none
   |_,_=>none
  |none=>none
 | .mapUpdate t m k v=>match uk P t (r m) (r k) (r v) H with
  |some (b,H')=>some (b,.undef,H')
  | none=>match xC P t (r m) (r k) (r v) H with
   |some (b,H')=>some (b,.undef,H')
   | none=>match xJ P t (r m) (r k) (r v) H with
    |some (b,H')=>some (b,.undef,H')
    | none=>match xG P t (r m) (r k) (r v) H with
     |some (b,H')=>some (b,.undef,H')
     |none=>none
 | .lookup t m k false=>match xB P t (r m) (r k) H with
  |some y=>some y
  |none=>xF P t (r m) (r k) H
 | .mapEntry t m k=>match xD P t (r m) (r k) H with
  |some y=>some y
  |none=>xK P t (r m) (r k) H
 | .entryStore _ m s x=>match xE (r m) (r s) (r x) H with
  |some (b,H')=>some (b,.undef,H')
  | none=>match xL (r m) (r s) (r x) H with
   |some (b,H')=>some (b,.undef,H')
   |none=>none
 | .insert t m k v=>match uk P t (r m) (r k) (r v) H with
  |some (b,H')=>some (b,.undef,H')
  |none=>none
 | .call c=>match c.callee with
  | .builtin .append=>match c.args.toList,c.argTypes.toList with
   | [s,x],[t,xt]=>match cD P xt with
    |.int _=>ur P t xt (r s) (r x) H
    |_=>ug P t xt (r s) (r x) H
   |_,_=>none
  | .builtin .clear=>match c.args.toList,c.argTypes.toList with
   | [x],[t]=>match xI P t (r x) H with
    |some (b,H')=>some (b,.tuple [],H')
    |none=>none
   |_,_=>none
  | .builtin .delete=>match c.args.toList,c.argTypes.toList with
   | [x,k],t::_=>match xH P t (r x) (r k) H with
    |some (b,H')=>some (b,.tuple [],H')
    |none=>none
   |_,_=>none
  |_=>none
 |_=>none
theorem Zv{P:Program}{t xt:TypeId}{s x:AV}{H:List ab}(h:∀ k,cD P xt≠.int k):rA P t xt s x H=none:=by
 unfold rA;split
 ·rename_i hk
  exact(h _ hk).elim
 ·rfl
theorem FR{P:Program}{r:Operand->AV}{H H':List af}{o:Op}{v:AV}{b:Bool}(h:jV P r H o=some (b,v,H'))(hb:b=true):cW P r (ah H) o=some (v,ah H'):=by
 cases o<;>simp only[jV]at h<;>try cases h
 case alloc t =>
  split at h
  ·rename_i e he
   split at h
   ·rename_i V
    cases h;simp only[cW,ru,he,V,if_true,eJ,iR,af.den]
   ·cases h
  ·rename_i he
   split at h
   ·rename_i z M; cases h; simp only[cW,ru,he,M,eJ,iR,af.den]
   ·cases h
 case box t x =>
  split at h
  ·rename_i z M; cases h; simp only[cW,AS,M,eJ,iR,af.den]
  ·cases h
 case store t a x =>
  split at h
  ·rename_i g H1 d; cases h; simp only[cW,FH d hb]
  ·split at h
   ·rename_i g H1 d
    cases h;obtain⟨g1,g2⟩:=Y8 d hb;simp only[cW,g1,g2]
   ·split at h
    ·rename_i g H1 d
     cases h;obtain⟨g1,g2,g3⟩:=Y9 d hb;simp only[cW,g1,g2,g3]
    ·cases h
 case makeSlice t l c=>simp only[cW]; exact Zb h hb
 case buildSlice t n ps=>simp only[cW]; exact Zc h
 case range t x =>
  split at h
  ·rename_i s hk N
   cases h;simp only[cW,AW,hk,N,eJ,iR,af.den]
  ·cases h
 case next it isString =>
  cases isString with
  |false=>cases h
  | true =>
   simp only[]at h;split at h
   ·rename_i id k N
    split at h
    ·rename_i s pos hid
     simp only[cW,AX,N,a7 hid,af.den];split at h
     ·rename_i I
      cases h;rw[if_pos I,ct];rfl
     ·rename_i I
      cases h;rw[if_neg I]
    ·cases h
   ·cases h
 case makeMap t res =>
  cases res with
  |some _=>cases h
  | none =>
   simp only[]at h;split at h
   ·split at h
    ·cases h
     simp only[cW,eJ,iR,af.den];rfl
    ·split at h
     ·cases h
      simp only[cW,eJ,iR,af.den];rfl
     ·split at h
      ·split at h
       ·cases h
        simp only[cW,eJ,iR,af.den];rfl
       ·cases h
      ·cases h
    ·cases h
   ·cases h
 case mapUpdate t m k x =>
  split at h
  ·rename_i g H1 d
   cases h;simp only[cW,NC d]
  ·split at h
   ·rename_i g H1 d
    cases h;obtain⟨g1,g2⟩:=Zj d hb;simp only[cW,g1,g2]
   ·split at h
    ·rename_i g H1 d
     cases h;obtain⟨g1,g2,g3⟩:=Zs d hb;simp only[cW,g1,g2,g3]
    ·split at h
     ·rename_i g H1 d
      cases h;obtain⟨g1,g2,g3,g4⟩:=Zg d hb;simp only[cW,g1,g2,g3,g4]
     ·cases h
 case lookup t m k ok =>
  cases ok with
  |true=>cases h
  | false =>
   simp only[]at h;split at h
   ·rename_i y O
    cases h;obtain⟨g1,g2⟩:=Zi O hb;simp only[cW,g1,g2]
   ·obtain ⟨g1, g2, g3⟩ := Zf h hb
    simp only[cW,g1,g2,g3]
 case mapEntry t m k =>
  split at h
  ·rename_i y O
   cases h;simp only[cW,Zk O hb]
  ·obtain ⟨g1, g2⟩ := Zt h hb
   simp only[cW,g1,g2]
 case entryStore t m s x =>
  split at h
  ·rename_i g H1 d
   cases h;simp only[cW,Zl d hb]
  ·split at h
   ·rename_i g H1 d
    cases h;obtain⟨g1,g2⟩:=Zu d hb;simp only[cW,g1,g2]
   ·cases h
 case insert t m k x =>
  split at h
  ·rename_i g H1 d
   cases h;simp only[cW,NC d]
  ·cases h
 case call c =>
  simp only[cW,A5];split at h
  ·rename_i q
   rw[q];split at h
   ·rename_i h1 u
    simp only[h1,u];split at h
    ·rw[Zo h hb]
    ·rename_i U
     rw[Zv U];exact Y' h hb
   ·cases h
  ·rename_i q
   rw[q];split at h
   ·rename_i h1 u
    simp only[h1,u];split at h
    ·rename_i d
     cases h;rw[Zn d hb]
    ·cases h
   ·cases h
  ·rename_i q
   rw[q];split at h
   ·rename_i h1 u
    simp only[h1,u];split at h
    ·rename_i d
     cases h;rw[Zm d]
    ·cases h
   ·cases h
  ·cases h
end Go.AL

namespace Go.AL
open Go
variable [Dr]
def ux(n:Int):Option (Bool × AV):=some (ao n,.lit (.int .i64 n))
def FT(P:Program)(op:BinOp)(t:TypeId)(d:Bool)(x y:AV):Option (Bool × AV) :=
 match op,x,y with
 |.add,.lit (.int .i64 a),.lit (.int .i64 b)=>ux (a+b)
 |.sub,.lit (.int .i64 a),.lit (.int .i64 b)=>ux (a-b)
 |.mul,.lit (.int .i64 a),.lit (.int .i64 b)=>ux (a*b)
 |.quo,.lit (.int .i64 a),.lit (.int .i64 b)=>some (!(b==0)&&ao (a.tdiv b),.lit (.int .i64 (a.tdiv b)))
 |.rem,.lit (.int .i64 a),.lit (.int .i64 b)=>some (!(b==0),.lit (.int .i64 (a.tmod b)))
 |.add,.lit (.string a),.lit (.string b)=>some (dD (a.size+b.size) 9223372036854775807,.lit (.string (a++b)))
 |.lss,.lit (.int k a),.lit (.int k' b)=>if k=k' then some (true,.lit (.bool (aj a b))) else none
 |.leq,.lit (.int k a),.lit (.int k' b)=>if k=k' then some (true,.lit (.bool (aZ a b))) else none
 |.gtr,.lit (.int k a),.lit (.int k' b)=>if k=k' then some (true,.lit (.bool (aj b a))) else none
 |.geq,.lit (.int k a),.lit (.int k' b)=>if k=k' then some (true,.lit (.bool (aZ b a))) else none
 |.and,.lit (.int k a),.lit (.int k' b)=>if k=k' then some (true,.lit (.int k (LD k a b))) else none
 |.or,.lit (.int k a),.lit (.int k' b)=>if k=k' then some (true,.lit (.int k (LF k a b))) else none
 |.xor,.lit (.int k a),.lit (.int k' b)=>if k=k' then some (true,.lit (.int k (LG k a b))) else none
 |.shl,.lit (.int k a),.lit (.int _ b)=>some (az b,.lit (.int k (Ez k a b)))
 |.shr,.lit (.int k a),.lit (.int _ b)=>some (az b,.lit (.int k (tD k a b)))
 | op,.listF ks rows,.lit (.slice none 0 0)=>match P.underlying t,lg op false with
  |some (.slice _),some v=>some (cC 0 rows.length,v)
  |_,_=>none
 | op,.vec w id ver off m,.lit (.slice none 0 0)=>match P.underlying t,lg op false with
  |some (.slice _),some v=>some (cC 0 m,v)
  |_,_=>none
 | _,_,_=>match kn P op t d x y with
  |some v=>some (true,v)
  |none=>none
def FU(m sz:Nat)(cells:List AV):Option (Kd × List (List G)) :=
 match xu (cells.headD .undef)with
 | some k=>match a_ [k] (cells.map fun c=>[c]) with
  |some rows=>if sz=1/\m=cells.length then some (k,rows) else none
  |none=>none
 |none=>none
theorem Zw{m sz:Nat}{cells:List AV}{k:Kd}{rows:List (List G)}(h:FU m sz cells=some (k,rows)){j:Nat}(g:j<m) :
  aD [k] (rows.getD j [])=(cells.drop (j*sz)).take sz:=by
 unfold FU at h;split at h
 ·split at h
  ·rename_i rows' q
   split at h
   ·rename_i u
    obtain⟨rfl,rfl⟩:=u;cases h;have e:=pQ q;have v:rows.length=cells.length:=by have:=congrArg Ec e; simpa using this
    have d:(rows.map (aD [k]))[j]? = (cells.map fun c=>[c])[j]? := by rw[e]
    rw[xv (by omega),bB,bx g]at d;simp only[dS,aM]at d;rw[d,alT,List.drop_eq_getElem_cons g,List.take_succ_cons,List.take_zero]
   ·cases h
  ·cases h
 ·cases h
def FV(rows:List (List AV)):Option (List Kd × List (List G)):=match pR (rows.headD [])with
 | some ks=>match a_ ks rows with
  |some gs=>some (ks,gs)
  |none=>none
 |none=>none
theorem Zx{rows:List (List AV)}{ks:List Kd}{gs:List (List G)}(h:FV rows=some (ks,gs)):gs.map (aD ks)=rows:=by
 unfold FV at h;split at h
 ·split at h
  ·rename_i g d
   cases h;exact pQ d
  ·cases h
 ·cases h
def FW(k:SK)(x i:AV):Option (Bool × AV) :=
 match k,x,i with
 |.slice _ sz _,.listF ks rows,.lit (.int _ j)=>if ks.length=sz then some (az j&&aj j (rows.length:Int),.cptr (aD ks (rows.getD j.toNat []))) else none
 |.slice _ sz _,.vec w id ver off m,.lit (.int _ j)=>if w=sz then some (az j&&aj j (m:Int),.ptr id ver w (off+j.toNat) 0) else none
 | .slice _ sz _,.list w rows,.lit (.int d j)=>match FV rows with
  |some (ks,gs)=>if w=sz then some (az j&&aj j (gs.length:Int),.cptr (aD ks (gs.getD j.toNat []))) else none
  | none=>match jt k (.list w rows) (.lit (.int d j)) with
   |some v=>some (true,v)
   |none=>none
 |.slice _ sz _,.svec id l h m,.lit (.int _ j)=>some (az j&&aj j (m:Int),.sptr id l h sz j.toNat 0)
 | .array m _ sz _,.cptr cells,.lit (.int d j)=>match FU m sz cells with
  |some (g,rows)=>some (az j&&aj j (m:Int),.cptr (aD [g] (rows.getD j.toNat [])))
  | none=>match jt k (.cptr cells) (.lit (.int d j)) with
   |some v=>some (true,v)
   |none=>none
 |.array m _ sz _,.ptr id ver w row col,.lit (.int _ j)=>some (az j&&aj j (m:Int),.ptr id ver w row (col+j.toNat*sz))
 | _,_,_=>match jt k x i with
  |some v=>some (true,v)
  |none=>none
def FX(k:SK)(x i:AV):Option (Bool × AV) :=
 match k,x,i with
 |.str,.lit (.string s),.lit (.int _ j)=>some (az j&&aj j (s.size:Int),.lit (.int .u8 ((s.data.toList.getD j.toNat 0).toNat)))
 | .array m _ 1 false,.agg cells,.lit (.int _ j)=>match jy cells with
  |some l=>bif dD m l.length then some (az j&&aj j (m:Int),.lit (.int .i64 (l.getD j.toNat 0))) else none
  | none=>match pK k x i with
   |some v=>some (true,v)
   |none=>none
 | _,_,_=>match pK k x i with
  |some v=>some (true,v)
  |none=>none
def FY(op:UnOp)(x:AV):Option (Bool × AV) :=
 match op,x with
 |.neg,.lit (.int .i64 n)=>some (ao (0-n),.lit (.int .i64 (0-n)))
 | _,_=>match tM op x with
  |some v=>some (true,v)
  |none=>none
def FZ(P:Program)(s d:TypeId)(x:AV):Option (Bool × AV) :=
 match P.underlying s,cD P d,x with
 |some _,.int .i64,.lit (.int _ n)=>some (ao n,.lit (.int .i64 n))
 | _,_,_=>match tN P s d x with
  |some v=>some (true,v)
  |none=>none
def Bj(P:Program)(r:Operand->AV)(o:Op):Option (Bool × AV) :=
 match o with
 |.indexAddr t x i=>FW (cD P t) (r x) (r i)
 |.index t x i=>FX (cD P t) (r x) (r i)
 |.binOp op t x y _=>FT P op t (A4 x||A4 y) (r x) (r y)
 |.slice t x lo hi mx=>FL P t (r x) (lo.map r) (hi.map r) (mx.map r)
 |.unOp op _ x=>FY op (r x)
 |.convert s d x=>FZ P s d (r x)
 | o=>match jb P r o with
  |some v=>some (true,v)
  |none=>none
theorem oM{x:Option AV}{b:Bool}{v:AV} (h:(match x with|some v=>some (true,v)|none=>none)=some (b,v)):x=some v:=by
 split at h
 ·cases h; rfl
 ·cases h
theorem uy{n:Int}(h:ao n=true):IntKind.i64.wrap n=n:=by
 rw[fg]at h;simp[IntKind.wrap,IntKind.bits,IntKind.signed];omega
theorem Zy{P:Program}{op:BinOp}{t:TypeId}{q:Bool}{x y v:AV}{b:Bool}(h:FT P op t q x y=some (b,v))(hb:b=true):kn P op t q x y=some v:=by
  unfold FT at h;split at h
  · simp only [ux, aM, aU] at h
    obtain⟨h1,rfl⟩:=h;subst hb;simp[kn,km,pG,uy h1]
  · simp only [ux, aM, aU] at h
    obtain⟨h1,rfl⟩:=h;subst hb;simp[kn,km,pG,uy h1]
  · simp only [ux, aM, aU] at h
    obtain⟨h1,rfl⟩:=h;subst hb;simp[kn,km,pG,uy h1]
  · simp only [aM, aU] at h
    obtain⟨h1,rfl⟩:=h;subst hb;simp only[ax,qW,beq_eq_false_iff_ne]at h1;simp[kn,km,pG,h1.1,uy h1.2]
  · simp only [aM, aU] at h
    obtain⟨h1,rfl⟩:=h;subst hb;simp only[qW,beq_eq_false_iff_ne]at h1;simp[kn,km,pG,h1]
  · simp only [aM, aU] at h
    obtain⟨h1,rfl⟩:=h;subst hb;have g:=Al h1;have d:∀ k:Nat,k<=9223372036854775807->¬ ((k:Int)>IntKind.i64.max):=fun k hk=>by
      show ¬ ((k:Int)>(9223372036854775807:Int))
      omega
    simp only[kn,km,EA,if_neg (d _ g)]
  all_goals first
    |exact oM h
    | (split at h
       case isFalse=>cases h
       rename_i hk;subst hk;cases h;simp[kn,km,pG,cd,eT])
    | (simp only [aM, aU] at h
       obtain⟨h1,rfl⟩:=h;subst hb;simp only[iP,decide_eq_true_eq]at h1;simp only[kn,km,if_neg (Int.not_lt.2 h1)])
    | (split at h
       · rename_i h1 g
         simp only[aM,aU]at h;obtain⟨d,rfl⟩:=h;subst hb;simp only[gG]at d;simp only[kn,h1,if_pos d,g]
       · cases h)
theorem Zz{k:SK}{x i v:AV}{b:Bool}(h:FW k x i=some (b,v))(hb:b=true):jt k x i=some v:=by
 unfold FW at h;split at h
 ·split at h
  ·rename_i hw
   simp only[aM,aU]at h;obtain⟨h1,rfl⟩:=h;subst hb;simp only[iP,cd,ax,decide_eq_true_eq]at h1;simp[jt,hw,h1.1,h1.2]
  ·cases h
 ·split at h
  ·rename_i hw
   simp only[aM,aU]at h;obtain⟨h1,rfl⟩:=h;subst hb;simp only[iP,cd,ax,decide_eq_true_eq]at h1;simp[jt,hw,h1.1,h1.2]
  ·cases h
 ·split at h
  ·rename_i ks gs d
   split at h
   ·rename_i hw
    simp only[aM,aU]at h;obtain⟨h1,rfl⟩:=h;subst hb;simp only[iP,cd,ax,decide_eq_true_eq]at h1;have e:=Zx d;subst e;simp only[jt,bN,bB];rw[if_pos ⟨hw,h1.1,h1.2⟩,bx (by omega),bP,bx (by omega)];rfl
   ·cases h
  ·exact oM h
 ·simp only [aM, aU] at h
  obtain⟨h1,rfl⟩:=h;subst hb;simp only[iP,cd,ax,decide_eq_true_eq]at h1;simp[jt,h1.1,h1.2]
 ·split at h
  ·rename_i q rows g
   simp only[aM,aU]at h;obtain⟨h1,rfl⟩:=h;subst hb;simp only[iP,cd,ax,decide_eq_true_eq]at h1;rw[Zw g (by omega)];simp[jt,h1.1,h1.2]
  ·exact oM h
 ·simp only [aM, aU] at h
  obtain⟨h1,rfl⟩:=h;subst hb;simp only[iP,cd,ax,decide_eq_true_eq]at h1;simp[jt,h1.1,h1.2]
 ·exact oM h
theorem ZA{k:SK}{x i v:AV}{b:Bool}(h:FX k x i=some (b,v))(hb:b=true):pK k x i=some v:=by
 unfold FX at h;split at h
 ·rename_i s g j
  simp only[aM,aU]at h;obtain⟨h1,rfl⟩:=h;subst hb;simp only[iP,cd,ax,decide_eq_true_eq]at h1;have d:j.toNat<s.size:=by omega
  have e:s[j.toNat]? = some (s.data.toList.getD j.toNat 0):=by
   have q:j.toNat<s.data.toList.length:=by simpa using d
   rw[bP,bx q];simp only[getElem?,decidableGetElem?,d,dite_true,Option.getD_some];rfl
  simp only[pK,h1.1,h1.2,and_self,if_true,e]
 ·rename_i m e cells g j
  split at h
  ·rename_i l u
   cases hm:dD m l.length with
   |false=>rw[hm]at h; cases h
   | true =>
    rw[hm]at h;simp only[cond_true,aM,aU]at h;obtain⟨h1,rfl⟩:=h;subst hb;rw[q9]at hm;simp only[iP,cd,ax,decide_eq_true_eq]at h1;have y:=FE u j.toNat (by omega);simp only[pK,h1.1,h1.2,and_self,if_true,iN,kV,if_false,alT,qU,mq,y]
  ·exact oM h
 ·exact oM h
theorem ZB{op:UnOp}{x v:AV}{b:Bool}(h:FY op x=some (b,v))(hb:b=true):tM op x=some v:=by
 unfold FY at h;split at h
 ·simp only [aM, aU] at h
  obtain⟨h1,rfl⟩:=h;subst hb;simp only[tM,uy h1]
 ·exact oM h
theorem ZC{P:Program}{s d:TypeId}{x v:AV}{b:Bool}(h:FZ P s d x=some (b,v))(hb:b=true):tN P s d x=some v:=by
 unfold FZ at h;split at h
 ·rename_i g k
  simp only[aM,aU]at h;obtain⟨h1,rfl⟩:=h;subst hb;simp only[tN,g,k,uy h1]
 ·exact oM h
theorem NI{P:Program}{r:Operand->AV}{o:Op}{b:Bool}{v:AV}(h:Bj P r o=some (b,v))(hb:b=true):jb P r o=some v:=by
 cases o<;>simp only[Bj]at h<;>try exact oM h
 case binOp=>simp only[jb]; exact Zy h hb
 case indexAddr=>simp only[jb]; exact Zz h hb
 case index=>simp only[jb]; exact ZA h hb
 case slice=>simp only[jb]; exact Za h hb
 case unOp=>simp only[jb]; exact ZB h hb
 case convert=>simp only[jb]; exact ZC h hb
inductive Tree where
 |fail
 |done (x:bU) (s:ak)
 |ask (b:Bool) (t e:Tree)
 |side (b:Bool) (t:Tree)
def Tree.holds(Q:bU->ak->Prop):Tree->Prop
 |.fail=>False
 |.done x s=>Q x s
 |.ask b t e=>(b=true->t.holds Q)/\(b=false->e.holds Q)
 |.side b t=>b=true/\t.holds Q
structure au where
 pf:FuncId->Bool
 T:FuncId->List AV->Option (Bool × AV)
 W:FuncId->List AV->List af->Option (Bool × AV × List af)
 C:FuncId->List AV->List af->List Nat
 I:FuncId->List AV->List af->Option Tree:=fun _ _ _=>none
 N:FuncId->Bool:=fun _=>false
 U:FuncId->Bool:=fun _=>true
structure aw (P:Program) (τ:au):Prop where
 T:∀ f args b v,τ.T f args=some (b,v)->b=true->jd P f=true/\c7 P f args v
 W:∀ f args H b v H',τ.W f args H=some (b,v,H')->b=true->jd P f=true/\dn P f args (ah H) v (ah H')
 C:∀ f args H b v H',τ.W f args H=some (b,v,H')->∀ A,A∉τ.C f args H->A<H.length->H'[A]? = H[A]?
 I:∀ f args H t,τ.I f args H=some t->∀ Q:bU->ak->Prop,t.holds Q->jd P f=true/\∃ v H',dn P f args (ah H) v (ah H')/\(∀ A,A∉τ.C f args H->A<H.length->H'[A]? = H[A]?)/\Q .normal ⟨[v],H'⟩
 F:(∀ f,τ.U f=false->∀ args H,τ.W f args H=none/\τ.C f args H=[])/\∀ f,τ.N f=true->∀ args H b v H',τ.W f args H=some (b,v,H')->∀ id o,id<H.length->id∉τ.C f args H ->
  τ.W f args (H.set id o)=some (b,v,H'.set id o)/\τ.C f args (H.set id o)=τ.C f args H
def Tree.xM(k:AV->List af->Tree):Tree->Tree
 |.fail=>.fail
 |.done _ s=>k (s.fr.headD .undef) s.H
 |.ask b t e=>.ask b (t.xM k) (e.xM k)
 |.side b t=>.side b (t.xM k)
theorem Tree.Bk{k:AV->List af->Tree}{Q:bU->ak->Prop}:∀{t:Tree},(t.xM k).holds Q->t.holds fun _ s=>(k (s.fr.headD .undef) s.H).holds Q
 |.fail,h=>h
 |.done _ _,h=>h
 |.ask _ t e,h=>⟨fun hb=>Bk (t:=t) (h.1 hb),fun hb=>Bk (t:=e) (h.2 hb)⟩
 |.side _ t,h=>⟨h.1,Bk (t:=t) h.2⟩
inductive Want where
 |bad|yes|no
 |test (t:Tmp) (b:Bool) (want:Bool)
def pX(ops:Array Oper)(fr:List AV)(o:Oper):Want :=
 match o.guard with
 |none=>.yes
 | some (j,want)=>match (ops[j]?).bind (·.dst) with
  | some t=>match fr[t]? with
   |some (.lit (.bool b))=>.test t b want
   |some (.tuple [])=>.no
   |_=>.bad
  |none=>.bad
def Bl:AV->Option Bool
 |.lit (.bool b)=>some b
 |_=>none
def xN(H:List af):AV->Bool × AV
 | .vec w id ver off n=>match H[id]? with
  |some (.vec ks v rows)=>if ver=v/\ks.length=w/\off=0 then (ai n rows.length,.listF ks rows) else (true,.vec w id ver off n)
  |_=>(true,.vec w id ver off n)
 | .ptr id ver k row col=>match H[id]? with
  |some (.raw (.box cells))=>if ver=0/\row=0/\col=0/\AV.bu cells=true then (true,.cptr cells) else (true,.ptr id ver k row col)
  |_=>(true,.ptr id ver k row col)
 |a=>(true,a)
def rT(H:List af):List AV->Bool × List AV
 | []=>(true,[])
 | a::as=>match xN H a,rT H as with
  |(b,g),(k,d)=>(b&&k,g::d)
def Bm(H:List af):AV->Bool × AV
 | .clo f caps=>match rT H caps with
  |(b,d)=>(b,.clo f d)
 |a=>xN H a
def pY(H:List af):List AV->Bool × List AV
 | []=>(true,[])
 | a::as=>match Bm H a,pY H as with
  |(b,g),(k,d)=>(b&&k,g::d)
def Bn:List AV->Bool
 | []=>true
 |.lit _::as=>Bn as
 |_::_=>false
def Bo:AV->Bool
 |.lit _=>true
 |.tuple vs=>Bn vs
 |_=>false
def F0(P:Program)(r:Operand->AV)(H:List af)(o:Op):Option AV :=
 match o with
 | .call c=>match c.callee,c.args.toList,c.argTypes.toList with
  | .builtin .len,[a],[t]=>match c6 P t,r a with
   | some _,.map id=>match H[id]? with
    |some (.map _ _ rows _)=>some (.lit (.int .i64 rows.length))
    |_=>none
   |_,_=>none
  |_,_,_=>none
 |_=>none
theorem ZD{P:Program}{r:Operand->AV}{H:List af}{o:Op}{v:AV}(h:F0 P r H o=some v):fQ P r (ah H) o=some v:=by
 unfold F0 at h;split at h
 ·rename_i c
  simp only[fQ];split at h
  ·rename_i a t d ha g
   unfold pN;rw[d,ha,g];simp only[];split at h
   ·rename_i p id k hm
    rw[k,hm];simp only[];split at h
    ·rename_i K V rows cl hid
     cases h;rw[a7 hid];simp[af.den,c8]
    ·cases h
   ·cases h
  ·cases h
 ·cases h
def F1(v:AV)(H:List af):Option (Bool × AV × List af) :=
 match v with
 | .vec w id ver off n=>match H[id]? with
  |some (.vec ks u rows)=>if ver=u/\off=0/\w=ks.length then some (ai n rows.length,.listF ks rows,H.set id (.raw .dead)) else none
  |_=>none
 | .agg (.vec w id ver off n::cs)=>match H[id]? with
  |some (.vec ks u rows)=>if ver=u/\off=0/\w=ks.length then some (ai n rows.length,.agg (.listF ks rows::cs),H.set id (.raw .dead)) else none
  |_=>none
 |_=>none
def uz(P:Program)(r:Operand->AV)(H:List af):Op->Option (Bool × List af)
 | .store t a x=>match F1 (r x) H with
  | some (b0,v1,H1)=>match uf P t (r a) v1 H1 with
   |some (b1,H')=>some (b0&&b1,H')
   |none=>none
  |none=>none
 |_=>none
theorem ZE{P:Program}{r:Operand->AV}{H H':List af}{o:Op}{b:Bool}(h:uz P r H o=some (b,H'))(hb:b=true):tW P r (ah H) .undef (ah H') o:=by
 unfold uz at h;split at h
 case h_2=>cases h
 rename_i t a x;split at h
 case h_2=>cases h
 rename_i b0 v1 H1 d;split at h
 case h_2=>cases h
 rename_i b1 H2 v;simp only[aM,aU]at h;obtain⟨h1,rfl⟩:=h;subst hb;simp only[ax]at h1;unfold F1 at d;split at d
 case h_3=>cases d
 ·rename_i w id ver off n k
  split at d
  case h_2=>cases d
  rename_i ks u rows hid;split at d
  case isFalse=>cases d
  rename_i q;obtain⟨rfl,rfl,rfl⟩:=q;simp only[aM,aU]at d;obtain⟨g,rfl,rfl⟩:=d;rw[h1.1]at g;have g:=ba g;subst g;refine⟨.listF ks rows,(ah H).set id .dead,⟨id,ver,ks,rows,.inl ⟨k,rfl⟩,?_,rfl⟩,?_,rfl⟩
  ·rw [a7 hid]
   rfl
  ·have := FH v h1.2
   rw[ct]at this;exact this
 ·rename_i w id ver off n cs k
  split at d
  case h_2=>cases d
  rename_i ks u rows hid;split at d
  case isFalse=>cases d
  rename_i q;obtain⟨rfl,rfl,rfl⟩:=q;simp only[aM,aU]at d;obtain⟨g,rfl,rfl⟩:=d;rw[h1.1]at g;have g:=ba g;subst g;refine⟨.agg (.listF ks rows::cs),(ah H).set id .dead,⟨id,ver,ks,rows,.inr ⟨cs,k,rfl⟩,?_,rfl⟩,?_,rfl⟩
  ·rw [a7 hid]
   rfl
  ·have := FH v h1.2
   rw[ct]at this;exact this
def F2(k:SK)(x i:AV)(H:List af):Option (Int × AV × AV):=match k,x,i with
 | .array 2 _ 1 _,.ptr id ver w row col,.lit (.int _ n)=>match H[id]? with
  |some (.raw (.box [.vec ..,.vec ..]))=>some (n,.ptr id ver w row col,.ptr id ver w row (col+1))
  |_=>none
 |_,_,_=>none
theorem ZF{k:SK}{x i p0 p1:AV}{H:List af}{n:Int}(h:F2 k x i H=some (n,p0,p1))(h1:(az n&&aj n 2)=true):jt k x i=some (bif ai n.toNat 0 then p0 else p1):=by
 unfold F2 at h;split at h
 case h_2=>cases h
 split at h
 case h_2=>cases h
 cases h;simp only[iP,cd,ax,decide_eq_true_eq]at h1;have e:n=0\/n=1:=by omega
 rcases e with rfl|rfl<;>simp[jt]<;>rfl
def lY(P:Program)(τ:au)(o:Oper)(s:ak)(k:AV->List af->Tree):Tree :=
 match o.op with
 | .pick c a b=>match Bl (s.eval c) with
  |some t=>.ask t (k (s.eval a) s.H) (k (s.eval b) s.H)
  |none=>.fail
 | .load t a=>match FF P t (s.eval a) s.H with
  |some (b,v)=>.side b (k v s.H)
  |none=>.fail
 | .lookup t m x ok=>match FM P t (s.eval m) (s.eval x) ok s.H with
  | some (b,v)=>match cX τ.pf o.op,ok with
   |.read,_=>.side b (k v s.H)
   |.write,false=>.side b (k v s.H)
   |_,_=>.fail
  | none=>match cX τ.pf o.op with
   | .write=>match jV P s.eval s.H o.op with
    |some (b,v,H')=>.side b (k v H')
    |none=>.fail
   | .read=>match FQ P t (s.eval m) (s.eval x) ok s.H with
    |some (b,v)=>.side b (k v s.H)
    |none=>.fail
   |.pure=>.fail
 | .indexAddr t x i=>match F2 (cD P t) (s.eval x) (s.eval i) s.H with
  |some (n,p0,p1)=>.side (az n&&aj n 2) (.ask (ai n.toNat 0) (k p0 s.H) (k p1 s.H))
  | none=>match Bj P s.eval o.op with
   |some (b,v)=>.side b (k v s.H)
   |none=>.fail
 | _=>match cX τ.pf o.op with
  | .read=>match F0 P s.eval s.H o.op with
   |some v=>k v s.H
   |none=>.fail
  | .pure=>match iO s.eval o.op with
   | some (f,args)=>match τ.T f args with
    |some (b,v)=>.side b (k v s.H)
    |none=>.fail
   | none=>match Bj P s.eval o.op with
    |some (b,v)=>.side b (k v s.H)
    |none=>.fail
  | .write=>match iO s.eval o.op with
   | some (f,args)=>match τ.W f args s.H with
    |some (b,v,H')=>.side b (k v H')
    | none=>match τ.I f args s.H with
     |some t=>t.xM k
     | none=>match τ.T f args with
      |some (b,v)=>.side b (k v s.H)
      | none=>match pY s.H args with
       | (g,d)=>match τ.T f d with
        | some (b,v)=>match Bo v&&AV.bu d with
         |true=>.side (g&&b) (k v s.H)
         |false=>.fail
        |none=>.fail
   | none=>match jV P s.eval s.H o.op with
    |some (b,v,H')=>.side b (k v H')
    | none=>match uz P s.eval s.H o.op with
     |some (b,H')=>.side b (k .undef H')
     |none=>.fail
def ak.slot(s:ak)(t:Tmp)(b:Bool):ak:=⟨s.fr.set t (.lit (.bool b)),s.H⟩
def F3(P:Program)(τ:au)(ops:Array Oper)(o:Oper)(s:ak)(k:ak->Tree):Tree :=
 match pX ops s.fr o with
 |.bad=>.fail
 |.no=>k (s.put o.dst (.tuple []) s.H)
 |.yes=>lY P τ o s fun v H'=>k (s.put o.dst v H')
 | .test t b want=>.ask b
   (match want with
    |true=>lY P τ o (s.slot t true) fun v H'=>k ((s.slot t true).put o.dst v H')
    |false=>k ((s.slot t true).put o.dst (.tuple []) s.H))
   (match want with
    |true=>k ((s.slot t false).put o.dst (.tuple []) s.H)
    |false=>lY P τ o (s.slot t false) fun v H'=>k ((s.slot t false).put o.dst v H'))
def pZ(P:Program)(τ:au)(ops:Array Oper):List Oper->ak->(ak->Tree)->Tree
 | [],s,k=>k s
 |o::rest,s,k=>F3 P τ ops o s fun s1=>pZ P τ ops rest s1 k
def dy:AV->Option Nat
 |.ptr id _ _ _ _=>some id
 |.vec _ id _ _ _=>some id
 |.map id=>some id
 |.sub id _ _=>some id
 |.svec id _ _ _=>some id
 |.sptr id _ _ _ _ _=>some id
 |_=>none
def lp:AV->List Nat
 |.agg cs=>cs.filterMap dy
 | a=>match dy a with
  |some i=>[i]
  |none=>[]
theorem F4{a:AV}{i:Nat}(h:dy a=some i):i∈lp a:=by
 unfold lp;split
 ·cases h
 ·rw [h]
  exact List.mem_singleton_self i
def jW(τ:au)(r:Operand->AV)(H:List af)(op:Op):List Nat :=
 match iO r op with
 |some (f,args)=>τ.C f args H
 |none=>op.operands.toList.flatMap fun x=>lp (r x)
structure Acc where
 R:jT
 W:jf
def xO(ids:List Nat)(i:Nat):Bool := !ids.any (ai i)
def F5(ops:Array Oper)(j id:Nat)(acc:Acc):Option Acc :=
 match acc.W.all fun e=>waits ops ops.size j e.1||(xO e.2.1 id&&cC id e.2.2)with
 |true=>some ⟨(j,id)::acc.R,acc.W⟩
 |false=>none
def Bp(ops:Array Oper)(j:Nat)(T:List Nat)(n:Nat)(acc:Acc):Option Acc :=
 match acc.R.all fun e=>waits ops ops.size j e.1||(xO T e.2&&cC e.2 n)with
 | true=>match acc.W.all fun e=>waits ops ops.size j e.1||((T.all fun id=>xO e.2.1 id&&cC id e.2.2)&&e.2.1.all fun id=>cC id n) with
  |true=>some ⟨acc.R,(j,T,n)::acc.W⟩
  |false=>none
 |false=>none
def F6(τ:au)(ops:Array Oper)(j:Nat)(o:Oper)(s:ak)(acc:Acc):Option Acc :=
 match cX τ.pf o.op with
 |.pure=>some acc
 | .read=>match mL s.eval o.op with
  |some id=>F5 ops j id acc
  |none=>some acc
 |.write=>Bp ops j (jW τ s.eval s.H o.op) s.H.length acc
def gZ:Kd->Value->Option G
 |.int k,.int k' n=>if k=k' then some (.i n) else none
 |.str,.string s=>some (.s s)
 |.bool,.bool b=>some (.t b)
 |.list _,.slice none 0 0=>some (.l [])
 |_,_=>none
def uA:List Kd->List Value->Option (List G)
 | [],[]=>some []
 | k::ks,v::z=>match gZ k v,uA ks z with
  |some g,some gs=>some (g::gs)
  |_,_=>none
 |_,_=>none
def mK:Kd->Option (List Kd)
 |.list ks=>some ks
 |_=>none
def mZ:List Kd->List (Option (List Kd)):=List.map mK
theorem ZG{k:Kd}{v:Value}{g:G}(h:gZ k v=some g):jM k g=zc (mK k) v:=by
 cases k with
 | int k =>
  cases v with
  | int k' n =>
   simp only[gZ]at h;by_cases e:k=k'
   ·rw [if_pos e] at h
    cases h;subst e;rfl
   ·rw [if_neg e] at h
    cases h
  |_=>cases h
 |str=>cases v<;>first|(cases h; rfl)|cases h
 |bool=>cases v<;>first|(cases h; rfl)|cases h
 | list ks =>
  cases v with
  |slice b n c=>cases b<;>cases n<;>cases c<;>first|(cases h; rfl)|cases h
  |_=>cases h
theorem NJ:∀{ks:List Kd} {z:List Value} {g:List G},uA ks z=some g->aD ks g=er (mZ ks) z
 | [],[],g,h=>by cases h; rfl
 | [],_::_,g,h=>by cases h
 |_::_,[],g,h=>by cases h
 | k::ks,v::z,g,h=>by
  simp only[uA]at h;split at h
  ·rename_i g0 gs h1 d
   cases h;have q:=NJ d;simp only[aD,tg,List.tail_cons,q,ZG h1];rfl
  ·cases h
def rU(z:List Value):List af->Nat->Option (Nat × List Kd × List G)
 | [],_=>none
 | .vec ks 0 rows::H,i=>match uA ks z with
  | some g=>match rows with
   | []=>some (i,ks,g)
   |_::_=>rU z H (i+1)
  |none=>rU z H (i+1)
 |_::H,i=>rU z H (i+1)
def xP:List af->Nat->Option Nat
 | [],_=>none
 |.raw .eP::_,i=>some i
 |_::H,i=>xP H (i+1)
def ZH(P:Program)(t:TypeId):Option (Ct × Ct) :=
 match c6 P t with
 | some (g,d)=>match pV P g,pV P d with
  |some (K,_),some (V,_)=>some (K,V)
  | some (K,_),none=>match c6 P d with
   |some _=>some (K,K)
   |none=>none
  |_,_=>none
 |none=>none
def F7(P:Program)(op:Op)(H:List af):Option (Nat × AV × List af) :=
 match op with
 | .alloc t=>match eR P t with
  | some z=>match rU z H 0 with
   |some (id,ks,g)=>some (id,.ptr id 1 ks.length 0 0,H.set id (.vec ks 1 [g]))
   |none=>none
  |none=>none
 | .makeMap t none=>match ZH P t with
  | some (K,V)=>match xP H 0 with
   |some id=>some (id,.map id,H.set id (.map K V [] 0))
   |none=>none
  |none=>none
 |_=>none
def F8(τ:au)(o:Oper)(s:ak):Bool:=match cX τ.pf o.op with
 | .write=>match iO s.eval o.op with
  | some (f,args)=>match τ.N f with
   |true=>(τ.W f args s.H).isSome
   |false=>false
  |none=>mM o.op
 |_=>true
def xQ(P:Program)(τ:au)(ops:Array Oper)(j:Nat)(o:Oper)(s:ak)(acc:Acc)(k:ak->Acc->Tree):Tree :=
 match lU ops&&eS o.op with
 | true=>match F7 P o.op s.H with
  | some (id,v,H')=>match Bp ops j [id] s.H.length acc with
   |some d=>k (s.put o.dst v H') d
   |none=>.fail
  |none=>.fail
 | false=>match lV ops o.op && !F8 τ o s with
  |true=>.fail
  | false=>match F6 τ ops j o s acc with
   |some d=>lY P τ o s fun v H'=>k (s.put o.dst v H') d
   |none=>.fail
def F9(P:Program)(τ:au)(ops:Array Oper)(j:Nat)(o:Oper)(s:ak)(acc:Acc)(k:ak->Acc->Tree):Tree :=
 match pX ops s.fr o with
 |.bad=>.fail
 |.no=>k (s.put o.dst (.tuple []) s.H) acc
 |.yes=>xQ P τ ops j o s acc k
 | .test t b want=>.ask b
   (match want with
    |true=>xQ P τ ops j o (s.slot t true) acc k
    |false=>k ((s.slot t true).put o.dst (.tuple []) s.H) acc)
   (match want with
    |true=>k ((s.slot t false).put o.dst (.tuple []) s.H) acc
    |false=>xQ P τ ops j o (s.slot t false) acc k)
def F_(P:Program)(τ:au)(ops:Array Oper):List Oper->Nat->ak->Acc->(ak->Tree)->Tree
 | [],_,s,_,k=>k s
 |o::rest,j,s,acc,k=>F9 P τ ops j o s acc fun s1 d=>F_ P τ ops rest (j+1) s1 d k
def NK(k:ak->Tree)(K:bU->ak->Tree):bU->ak->Tree
 |.normal,s=>k s
 |x,s=>K x s
def NL(id:Nat)(K:bU->ak->Tree):bU->ak->Tree
 |.exit i,s=>if i=id then K .normal s else K (.exit i) s
 |x,s=>K x s
def Tree.bind(K:bU->ak->Tree):Tree->Tree
 |.fail=>.fail
 |.done x s=>K x s
 |.ask b t e=>.ask b (t.bind K) (e.bind K)
 |.side b t=>.side b (t.bind K)
def mR:Code->Option Nat
 |.region id _ _=>some id
 | .seq a b=>match mR a with
  |some i=>some i
  |none=>mR b
 |.block _ c=>mR c
 | .cond _ a b=>match mR a with
  |some i=>some i
  |none=>mR b
 |.loop c=>mR c
 |_=>none
def rV:Code->Nat
 | .seq a b=>match mR a with
  |some _=>rV a
  |none=>rV b
 |.block _ c=>rV c
 | .cond _ a b=>match mR a with
  |some _=>rV a
  |none=>rV b
 |.loop c=>rV c+1
 |_=>0
def NM(c:Code):Option Nat:=match mR c with
 |some i=>some (i+1000*rV c)
 |none=>none
def bO:Code->List (Nat × Code)
 |.seq a b=>bO a++bO b
 |.cond _ a b=>bO a++bO b
 |.block _ c=>bO c
 | .loop c=>match NM c with
  |some k=>(k,c)::bO c
  |none=>bO c
 |_=>[]
def ZI(k:ak->Tree)(K:bU->ak->Tree):bU->ak->Tree
 |.normal,s=>k s
 |.exit i,s=>K (.exit i) s
 |.ret,s=>K .ret s
def Bq(body:ak->(bU->ak->Tree)->Tree):Nat->ak->(bU->ak->Tree)->Tree
 |0,_,_=>.fail
 |n+1,s,K=>body s (ZI (fun s'=>Bq body n s' K) K)
def bR:Code->List (Nat × Code)
 | .seq a b=>bR a++((match mR b with
  |some k=>[(k,b)]
  |none=>[])++bR b)
 |.cond _ a b=>bR a++bR b
 |.block _ c=>bR c
 |.loop c=>bR c
 |_=>[]
structure LT where
 loops:Nat->ak->Option Tree
 pre:Nat->ak->Bool × ak
 xR:Nat->ak->Option Tree
def NN(L:LT)(k:Option Nat)(s:ak):Option Tree :=
 match k with
 |some i=>L.xR i s
 |none=>none
def gu(P:Program)(τ:au)(L:LT):Code->ak->(bU->ak->Tree)->Tree
 |.skip,s,K=>K .normal s
 | .region id ops draw,s,K=>match draw && !tX τ.pf ops with
  | true=>match ue τ.pf ops with
   |true=>.side (L.pre id s).1 (F_ P τ ops ops.toList 0 (L.pre id s).2 ⟨[],[]⟩ (K .normal))
   |false=>.fail
  |false=>.side (L.pre id s).1 (pZ P τ ops ops.toList (L.pre id s).2 (K .normal))
 | .seq a b,s,K=>gu P τ L a s (NK (fun s1=>match NN L (mR b) s1 with
  |some t=>t.bind K
  |none=>gu P τ L b s1 K) K)
 | .cond c a b,s,K=>match Bl (s.eval c) with
  |some t=>.ask t (gu P τ L a s K) (gu P τ L b s K)
  |none=>.fail
 |.block id c,s,K=>gu P τ L c s (NL id K)
 | .loop c,s,K=>match NM c with
  | some i=>match L.loops i s with
   |some t=>t.bind K
   |none=>Bq (fun s1 d=>gu P τ L c s1 d) 400 s K
  |none=>.fail
 |.exit id,s,K=>K (.exit id) s
 |.ret,s,K=>K .ret s
 |_,_,_=>.fail
def NO(P:Program)(m:Nat)(c:Code)(s:ak)(t:Tree):Prop:=∀ Q:bU->ak->Prop,t.holds Q->∃ x s',lS P m c s.den x s'.den/\Q x s'
def Ga(P:Program)(m:Nat)(c:Code)(s:ak)(t:Tree):Prop:=∀ Q:bU->ak->Prop,t.holds Q->∃ x s',dp P m c s.den x s'.den/\Q x s'
def ay(P:Program)(m:Nat)(L:LT)(c:Code):Prop:=(∀ k d,(k,d)∈bO c->∀ s t,L.loops k s=some t->NO P m d s t)/\(∀ id s,(L.pre id s).1=true->bh m s.den (L.pre id s).2.den) /\
 ∀ k d,(k,d)∈bR c->∀ s t,L.xR k s=some t->Ga P m d s t
theorem ay.sub{P:Program}{m:Nat}{L:LT}{c g:Code}(h:ay P m L c)(h1:∀ p,p∈bO g->p∈bO c)(q:∀ p,p∈bR g->p∈bR c):ay P m L g :=
 ⟨fun k d hk=>h.1 k d (h1 _ hk),h.2.1,fun k d hk=>h.2.2 k d (q _ hk)⟩
theorem NP{a:AV}{b:Bool}(h:Bl a=some b):a=.lit (.bool b):=by
 unfold Bl at h;split at h
 ·cases h; rfl
 ·cases h
theorem NQ{E E':Env}:∀{vs:List AV} {us:List Value},Bn vs=true->ae E vs us->ae E' vs us
 | [],[],_,_=>by simp[ae]
 | [],_::_,_,h=>by simp[ae]at h
 | a::vs,us,d,h=>by
  unfold Bn at d;split at d
  ·rename_i heq; cases heq
  ·rename_i heq
   cases heq;cases us with
   |nil=>simp[ae]at h
   | cons u us =>
    simp only[ae,rel]at h|-;exact⟨h.1,NQ d h.2⟩
  ·cases d
theorem ZJ{E E':Env}{v:AV}{u:Value}(d:Bo v=true)(h:rel E v u):rel E' v u:=by
 unfold Bo at d;split at d
 ·simpa only[rel]using h
 ·simp only [rel] at h |-
  obtain⟨cs,e,g⟩:=h;exact⟨cs,e,NQ d g⟩
 ·cases d
def Env.bare(E:Env)(w:World):Env:={ w:=w,H:=[],loc:=[],X:=E.X.re dZ }
theorem Br{E:Env}{w:World}(b:Nat):¬ (E.bare w).own b:=by rintro(⟨id,c,h⟩|⟨l,k,c,h⟩); simp[Env.bare]at h; simp[Env.bare,dZ]at h
theorem p8(E:Env):E.bE (E.bare E.w):=⟨fun b hb=>⟨⟨hb.1,Br b,hb.2.2⟩,rfl⟩⟩
theorem ZK{E:Env}(HE:al E):al (E.bare E.w):=by
 refine⟨rfl,?_,?_,HE.X,?_,HE.fY.bE (p8 E),fun l k l' k' b m n hk=>by simp[Env.bare,dZ]at hk,fun i b m l k n hi=>by simp[Env.bare]at hi,fun l k b m hk=>by simp[Env.bare,dZ]at hk,fun i j o o' l hi=>by simp[Env.bare]at hi,fun l _ k q hk=>by simp[Env.bare,dZ]at hk⟩
 ·intro i j b m n hi; simp[Env.bare]at hi
 ·intro i b m hi; simp[Env.bare]at hi
 ·intro i o hi; simp[Env.bare]at hi
theorem NR{E:Env}(HE:al E){H:List af}(hH:E.H=ah H){id ver n w:Nat}{ks:List Kd}{rows:List (List G)}{c:Value}
  (hid:H[id]? = some (.vec ks ver rows)) (hw:ks.length=w) (v:n=rows.length) (hr:rel E (.vec w id ver 0 n) c):rel (E.bare E.w) (.listF ks rows) c:=by
 subst hw v;have d:E.H[id]? = some (.vec ks.length ver (rows.map (aD ks))):=by rw[hH]; exact a7 hid
 have ho:=HE.obj id _ d;rw[jq];simp only[rel]at hr|-;obtain⟨⟨base,cap,rfl,u,_⟩,_,y⟩:=hr;obtain⟨O,I⟩:=y ⟨_,d,rfl⟩;have k:eD (rows.map (aD ks)):=by
  intro r hr;obtain⟨g,_,rfl⟩:=cH.1 hr;exact fW ks g
 refine⟨k,base,cap,by simp,by simpa using u,?_⟩;simp only[aI]at ho;rcases ho with⟨h1,q⟩|⟨b,m,h1,q,M,_,N⟩
 ·exact .inl q
 ·obtain ⟨g1, o, g2, g3⟩ := I b m h1
  by_cases hm:rows=[]
  ·subst hm; exact .inl rfl
  ·right
   have:0<rows.length:=by cases rows with|nil=>exact(hm rfl).elim|cons _ _=>simp
   simp at M;have ho:=g2 (by omega);simp at ho;subst ho;simp only[kX]at g3;refine⟨b,0,g3.1,⟨(HE.lt id b m h1).1,Br b,(HE.lt id b m h1).2⟩,?_⟩;exact jO (p8 E) _ k rfl N
theorem ZL{E:Env}(HE:al E){H:List af}(hH:E.H=ah H){id k:Nat}{cells:List AV}{c:Value} (hid:H[id]? = some (.raw (.box cells))) (g:AV.bu cells=true)
  (hr:rel E (.ptr id 0 k 0 0) c):rel (E.bare E.w) (.cptr cells) c:=by
 have d:E.H[id]? = some (.box cells):=by rw[hH]; exact a7 hid
 have ho:=HE.obj id _ d;simp only[aI]at ho;obtain⟨b,n,h1,v,q⟩:=ho;simp only[rel]at hr|-;obtain⟨_,_,u⟩:=hr;obtain⟨y,I,g1,g2⟩:=u ⟨_,d,rfl⟩;rw[h1]at g1;simp only[aM,aU]at g1;obtain⟨rfl,rfl⟩:=g1;refine⟨g,b,0,by rw[g2]; simp,⟨(HE.lt id b n h1).1,Br b,(HE.lt id b n h1).2⟩,?_⟩;exact tw (p8 E) cells g rfl q
theorem NS{E:Env}(HE:al E){H:List af}(hH:E.H=ah H){a g:AV}{b:Bool}{c:Value}(h:xN H a=(b,g))(hb:b=true)(d:g.closed=true)(hr:rel E a c):rel (E.bare E.w) g c:=by
 unfold xN at h;split at h
 ·split at h
  ·rename_i w id ver off n ks v rows hid
   split at h
   ·rename_i q
    obtain⟨rfl,u,rfl⟩:=q;simp only[aU]at h;obtain⟨h1,rfl⟩:=h;subst hb;exact NR HE hH hid u (ba h1) hr
   ·cases h; simp[AV.closed]at d
  ·cases h; simp[AV.closed]at d
 ·split at h
  ·rename_i id ver k row col _ cells hid
   split at h
   ·rename_i q
    obtain⟨rfl,rfl,rfl,y⟩:=q;cases h;exact ZL HE hH hid y hr
   ·cases h; simp[AV.closed]at d
  ·cases h; simp[AV.closed]at d
 ·cases h
  exact eQ (p8 E) _ d hr
theorem NT{E:Env}(HE:al E){H:List af}(hH:E.H=ah H):∀{as d:List AV} {b:Bool} {cs:List Value},rT H as=(b,d)->b=true->AV.bu d=true->ae E as cs ->
  ae (E.bare E.w) d cs
 | [],d,b,cs,h,_,_,hr=>by
  simp only[rT]at h;cases h;cases cs with
  |nil=>simp[ae]
  |cons _ _=>simp[ae]at hr
 | a::as,d,b,cs,h,hb,g,hr=>by
  cases cs with
  |nil=>simp[ae]at hr
  | cons c cs =>
   simp only[ae]at hr;cases k:xN H a with
   |mk b1 v =>
   cases q:rT H as with
   |mk y u =>
   simp only[rT,k,q,aU]at h;obtain⟨h1,rfl⟩:=h;subst h1;simp only[ax]at hb;simp only[AV.bu,ax]at g;simp only[ae];exact⟨NS HE hH k hb.1 g.1 hr.1,NT HE hH q hb.2 g.2 hr.2⟩
theorem ZM{E:Env}(HE:al E){H:List af}(hH:E.H=ah H){a d:AV}{b:Bool}{c:Value}(h:Bm H a=(b,d))(hb:b=true)(g:d.closed=true)(hr:rel E a c):rel (E.bare E.w) d c:=by
 unfold Bm at h;split at h
 ·rename_i f caps
  cases k:rT H caps with
  |mk b1 u =>
  rw[k]at h;cases h;simp only[rel]at hr|-;obtain⟨cs,e,q⟩:=hr;exact⟨cs,e,NT HE hH k hb (by simpa only[AV.closed]using g) q⟩
 ·exact NS HE hH h hb g hr
theorem NU{E:Env}(HE:al E){H:List af}(hH:E.H=ah H):∀{as d:List AV} {b:Bool} {cs:List Value},pY H as=(b,d)->b=true->AV.bu d=true->ae E as cs ->
  ae (E.bare E.w) d cs
 | [],d,b,cs,h,_,_,hr=>by
  simp only[pY]at h;cases h;cases cs with
  |nil=>simp[ae]
  |cons _ _=>simp[ae]at hr
 | a::as,d,b,cs,h,hb,g,hr=>by
  cases cs with
  |nil=>simp[ae]at hr
  | cons c cs =>
   simp only[ae]at hr;cases k:Bm H a with
   |mk b1 v =>
   cases q:pY H as with
   |mk y u =>
   simp only[pY,k,q,aU]at h;obtain⟨h1,rfl⟩:=h;subst h1;simp only[ax]at hb;simp only[AV.bu,ax]at g;simp only[ae];exact⟨ZM HE hH k hb.1 g.1 hr.1,NU HE hH q hb.2 g.2 hr.2⟩
theorem ZN{P:Program}{f:FuncId}{args d:List AV}{H:List af}{b:Bool}{v:AV}(u:c7 P f d v)(y:pY H args=(b,d))(hb:b=true)(q:AV.bu d=true)
  (I:Bo v=true):dn P f args (ah H) v (ah H):=by
 intro E cargs hH HE k;refine(u [] (E.bare E.w) cargs rfl (ZK HE) (NU HE hH y hb q k)).mono ?_;rintro _ w' ⟨c,M,H',rfl,⟨rfl,rfl⟩,O,r',g1,g2,g3⟩;have g:Ext E.w w':=⟨g3.size,fun x N=>g3.same x N (Br x),g3.env⟩
 refine⟨c,M,ah H,rfl,⟨rfl,rfl⟩,E.loc,E.X.r,ZJ I g1,?_,?_⟩
 ·rw[<-hH]; exact HE.ext g
 ·rw[<-hH]; exact Env.kl g
section sound
variable {P:Program} {τ:au}
theorem xS{ops:Array Oper}{o:Oper}{s:ak}{v:AV}(hw:bY ops s.fr o=some true)(d:cX τ.pf o.op=.pure)
  (h:jb P s.eval o.op=some v\/∃ f args,iO s.eval o.op=some (f,args)/\jd P f=true/\c7 P f args v):Yields P τ.pf ops o s.den v (ah s.H):=by
 unfold Yields;rw[show s.den.fr=s.fr from rfl,hw];simp only[d,ak.nJ];exact⟨rfl,h⟩
theorem rW{ops:Array Oper}{o:Oper}{s:ak}{v:AV}{H':List ab}(hw:bY ops s.fr o=some true)(d:cX τ.pf o.op=.write)
  (h:cW P s.eval (ah s.H) o.op=some (v,H')\/∃ f args,iO s.eval o.op=some (f,args)/\jd P f=true/\dn P f args (ah s.H) v H'):Yields P τ.pf ops o s.den v H':=by
 unfold Yields;rw[show s.den.fr=s.fr from rfl,hw];simp only[d,ak.nJ];exact .inl h
theorem fh{H:List af}{id A:Nat}{o:af}(h:A≠id):(H.set id o)[A]? = H[A]? := aQ (Ne.symm h)
theorem kD{H:List af}{A:Nat}{o:af}(h:A<H.length):(H++[o])[A]? = H[A]? := cK h
theorem NV{P:Program}{t:TypeId}{x v:AV}{H H':List af}{b:Bool}{A:Nat}(h:uf P t x v H=some (b,H'))(g:dy x≠some A):H'[A]? = H[A]? := by
 unfold uf at h;split at h
 case h_2=>cases h
 rename_i n q cs id ver w row col u k;have d:A≠id:=fun e=>g (by rw[e]; rfl);split at h
 case isFalse=>cases h
 split at h
 ·split at h
  ·split at h
   ·cases h; exact fh d
   ·cases h
  ·split at h
   ·cases h; exact fh d
   ·cases h
 ·split at h
  ·split at h
   ·cases h; exact fh d
   ·cases h
  ·cases h
 ·cases h
theorem ZO{P:Program}{t xt:TypeId}{s x v:AV}{H H':List af}{b:Bool}{A:Nat}(h:ug P t xt s x H=some (b,v,H'))(d:A<H.length)(g:dy s≠some A):H'[A]? = H[A]? := by
 unfold ug at h;split at h
 case h_2=>cases h
 split at h
 case h_2=>cases h
 split at h
 case isFalse=>cases h
 split at h
 ·split at h
  ·split at h
   ·cases h; exact kD d
   ·cases h
  ·cases h
 ·split at h
  ·split at h
   ·cases h; exact kD d
   ·cases h
  ·cases h
 ·split at h
  ·split at h
   ·split at h
    ·cases h; exact fh fun e=>g (by rw[e]; rfl)
    ·cases h
   ·cases h
  ·cases h
 ·cases h
theorem ZP{P:Program}{t xt:TypeId}{s x v:AV}{H H':List af}{b:Bool}{A:Nat}(h:ur P t xt s x H=some (b,v,H'))(d:A<H.length):H'[A]? = H[A]? := by
 unfold ur at h;split at h
 case h_2=>cases h
 split at h
 case h_2=>cases h
 split at h
 case h_2=>cases h
 split at h
 case h_2=>cases h
 split at h
 ·cases h; exact kD d
 ·cases h
theorem ZQ{P:Program}{t:TypeId}{x:AV}{H H':List af}{b:Bool}{A:Nat}(h:xI P t x H=some (b,H'))(d:dy x≠some A):H'[A]? = H[A]? := by
 unfold xI at h;split at h
 case h_2=>cases h
 split at h
 case h_2=>cases h
 split at h
 case h_2=>cases h
 split at h
 ·cases h; exact fh fun e=>d (by rw[e]; rfl)
 ·cases h
theorem NW{P:Program}{t:TypeId}{m k v:AV}{H H':List af}{b:Bool}{A:Nat}(h:uk P t m k v H=some (b,H'))(d:dy m≠some A):H'[A]? = H[A]? := by
 unfold uk at h;split at h
 case h_2=>cases h
 split at h
 case h_2=>cases h
 split at h
 case h_2=>cases h
 split at h
 ·cases h; exact fh fun e=>d (by rw[e]; rfl)
 ·cases h
theorem ZR{P:Program}{t:TypeId}{m k v:AV}{H H':List af}{b:Bool}{A:Nat}(h:xC P t m k v H=some (b,H'))(d:dy m≠some A)(g:dy v≠some A):H'[A]? = H[A]? := by
 unfold xC at h;split at h
 case h_2=>cases h
 split at h
 case h_2=>cases h
 split at h
 case h_2=>cases h
 split at h
 ·cases h
  rw[fh fun e=>g (by rw[e]; rfl)];exact fh fun e=>d (by rw[e]; rfl)
 ·cases h
theorem ZS{P:Program}{t:TypeId}{m k v:AV}{H H':List af}{b:Bool}{A:Nat}(h:xJ P t m k v H=some (b,H'))(d:dy m≠some A):H'[A]? = H[A]? := by
 unfold xJ at h;split at h
 case h_2=>cases h
 split at h
 case h_2=>cases h
 split at h
 case h_2=>cases h
 split at h
 ·cases h
  exact fh fun e=>d (by rw[e]; rfl)
 ·cases h
theorem ZT{P:Program}{t:TypeId}{m k v:AV}{H H':List af}{b:Bool}{A:Nat}(h:xK P t m k H=some (b,v,H'))(d:dy m≠some A):H'[A]? = H[A]? := by
 unfold xK at h;split at h
 case h_2=>cases h
 split at h
 case h_2=>cases h
 split at h
 case h_2=>cases h
 split at h
 ·cases h
  exact fh fun e=>d (by rw[e]; rfl)
 ·cases h
theorem ZU{m s v:AV}{H H':List af}{b:Bool}{A:Nat}(h:xL m s v H=some (b,H'))(d:dy m≠some A)(g:dy v≠some A):H'[A]? = H[A]? := by
 unfold xL at h;split at h
 case h_2=>cases h
 split at h
 case h_2=>cases h
 split at h
 ·cases h
  rw[fh fun e=>g (by rw[e]; rfl)];exact fh fun e=>d (by rw[e]; rfl)
 ·cases h
theorem ZV{P:Program}{t:TypeId}{m k v:AV}{H H':List af}{b:Bool}{A:Nat}(h:xB P t m k H=some (b,v,H'))(d:A<H.length)(g:dy m≠some A):H'[A]? = H[A]? := by
 unfold xB at h;split at h
 case h_2=>cases h
 split at h
 case h_2=>cases h
 split at h
 case h_2=>cases h
 split at h
 ·cases h
  rw[kD (by simpa using d)];exact fh fun e=>g (by rw[e]; rfl)
 ·cases h
theorem ZW{P:Program}{t:TypeId}{x v:AV}{H H':List af}{b:Bool}{A:Nat}(h:xw P t x v H=some (b,H'))(d:dy x≠some A):H'[A]? = H[A]? := by
 unfold xw at h;split at h
 case h_2=>cases h
 split at h
 case h_2=>cases h
 split at h
 case isFalse=>cases h
 split at h
 ·cases h
  exact fh fun e=>d (by rw[e]; rfl)
 ·cases h
theorem ZX{P:Program}{t:TypeId}{x v:AV}{H H':List af}{b:Bool}{A:Nat}(h:xy P t x v H=some (b,H'))(d:dy x≠some A)(g:dy v≠some A):H'[A]? = H[A]? := by
 unfold xy at h;split at h
 case h_2=>cases h
 split at h
 case h_2=>cases h
 split at h
 case isFalse=>cases h
 split at h
 ·cases h
  rw[fh fun e=>g (by rw[e]; rfl)];exact fh fun e=>d (by rw[e]; rfl)
 ·cases h
theorem ZY{P:Program}{t:TypeId}{m k v:AV}{H H':List af}{b:Bool}{A:Nat}(h:xF P t m k H=some (b,v,H'))(d:A<H.length)(g:dy m≠some A):H'[A]? = H[A]? := by
 unfold xF at h;split at h
 case h_2=>cases h
 split at h
 case h_2=>cases h
 split at h
 case h_2=>cases h
 split at h
 ·cases h
  rw[cK (by simpa using d)];exact fh fun e=>g (by rw[e]; rfl)
 ·cases h
theorem ZZ{P:Program}{t:TypeId}{m k v:AV}{H H':List af}{b:Bool}{A:Nat}(h:xG P t m k v H=some (b,H'))(g:dy m≠some A)(d:A∉lp v):H'[A]? = H[A]? := by
 unfold xG at h;split at h
 case h_2=>cases h
 split at h
 case h_2=>cases h
 split at h
 case h_2=>cases h
 split at h
 ·cases h
  rw[fh fun e=>d (by rw[<-e]; simp[lp,dy])];rw[fh fun e=>d (by rw[<-e]; simp[lp,dy])];exact fh fun e=>g (by rw[e]; rfl)
 ·cases h
theorem Z0{m s v:AV}{H H':List af}{b:Bool}{A:Nat}(h:xE m s v H=some (b,H'))(d:dy m≠some A)(g:dy v≠some A):H'[A]? = H[A]? := by
 unfold xE at h;split at h
 case h_2=>cases h
 split at h
 case h_2=>cases h
 split at h
 ·cases h
  rw[fh fun e=>g (by rw[e]; rfl)];exact fh fun e=>d (by rw[e]; rfl)
 ·cases h
theorem Z1{P:Program}{t:TypeId}{m k v:AV}{H H':List af}{b:Bool}{A:Nat}(h:xD P t m k H=some (b,v,H'))(d:A<H.length)(g:dy m≠some A):H'[A]? = H[A]? := by
 unfold xD at h;split at h
 case h_2=>cases h
 split at h
 case h_2=>cases h
 split at h
 case h_2=>cases h
 split at h
 ·cases h
  rw[kD (by simpa using d)];exact fh fun e=>g (by rw[e]; rfl)
 ·cases h
theorem Z2{P:Program}{t:TypeId}{m k:AV}{H H':List af}{b:Bool}{A:Nat}(h:xH P t m k H=some (b,H'))(d:dy m≠some A):H'[A]? = H[A]? := by
 unfold xH at h;split at h
 case h_2=>cases h
 split at h
 case h_2=>cases h
 split at h
 ·cases h; exact fh fun e=>d (by rw[e]; rfl)
 ·cases h
theorem Z3{P:Program}{t:TypeId}{l c v:AV}{H H':List af}{b:Bool}{A:Nat}(h:xz P t l c H=some (b,v,H'))(d:A<H.length):H'[A]? = H[A]? := by
 unfold xz at h;split at h
 case h_2=>cases h
 split at h
 case h_2=>cases h
 split at h
 case h_2=>cases h
 split at h
 case h_2=>cases h
 split at h
 ·cases h; exact kD d
 ·cases h
theorem Z4{P:Program}{t:TypeId}{n:Nat}{parts:List (Nat × AV)}{v:AV}{H H':List af}{b:Bool}{A:Nat}(h:ui P t n parts H=some (b,v,H'))(d:A<H.length):H'[A]? = H[A]? := by
 unfold ui at h;split at h
 case h_2=>cases h
 split at h
 case h_2=>cases h
 split at h
 case h_2=>cases h
 split at h
 case h_2=>cases h
 split at h
 case h_2=>cases h
 split at h
 ·cases h; exact kD d
 ·cases h
theorem Gb{P:Program}{r:Operand->AV}{H H':List af}{o:Op}{v:AV}{b:Bool}{A:Nat}(h:jV P r H o=some (b,v,H'))(g:A<H.length)(hA:A∉o.operands.toList.flatMap fun x=>lp (r x)):H'[A]? = H[A]? := by
 have no:∀ x∈o.operands.toList,dy (r x)≠some A:=fun x u e=>hA (Ed.2 ⟨x,u,F4 e⟩);cases o<;>simp only[jV]at h<;>try cases h
 case alloc t =>
  split at h
  ·split at h
   ·cases h; exact kD g
   ·cases h
  ·split at h
   ·cases h; exact kD g
   ·cases h
 case box t x =>
  split at h
  ·cases h; exact kD g
  ·cases h
 case store t a x =>
  split at h
  ·rename_i q H1 d
   cases h;exact NV d (no a (by simp[dY]))
  ·split at h
   ·rename_i q H1 d
    cases h;exact ZW d (no a (by simp[dY]))
   ·split at h
    ·rename_i q H1 d
     cases h;exact ZX d (no a (by simp[dY])) (no x (by simp[dY]))
    ·cases h
 case makeSlice t l c=>exact Z3 h g
 case buildSlice t n ps=>exact Z4 h g
 case range t x =>
  split at h
  ·cases h; exact kD g
  ·cases h
 case next it isString =>
  cases isString with
  |false=>cases h
  | true =>
   simp only[]at h;split at h
   ·rename_i id k u
    split at h
    ·split at h
     ·cases h; exact fh fun e=>no it (by simp[dY]) (by rw[u,e]; rfl)
     ·cases h; rfl
    ·cases h
   ·cases h
 case makeMap t res =>
  cases res with
  |some _=>cases h
  | none =>
   simp only[]at h;split at h
   ·split at h
    ·cases h; exact kD g
    ·split at h
     ·cases h; exact kD g
     ·split at h
      ·split at h
       ·cases h; exact kD g
       ·cases h
      ·cases h
    ·cases h
   ·cases h
 case mapUpdate t m k x =>
  split at h
  ·rename_i q H1 d
   cases h;exact NW d (no m (by simp[dY]))
  ·split at h
   ·rename_i q H1 d
    cases h;exact ZR d (no m (by simp[dY])) (no x (by simp[dY]))
   ·split at h
    ·rename_i q H1 d
     cases h;exact ZS d (no m (by simp[dY]))
    ·split at h
     ·rename_i q H1 d
      cases h;exact ZZ d (no m (by simp[dY])) fun e=>hA (Ed.2 ⟨x,by simp[dY],e⟩)
     ·cases h
 case lookup t m k ok =>
  cases ok with
  |true=>cases h
  | false =>
   simp only[]at h;split at h
   ·rename_i y M
    cases h;exact ZV M g (no m (by simp[dY]))
   ·exact ZY h g (no m (by simp[dY]))
 case mapEntry t m k =>
  split at h
  ·rename_i y M
   cases h;exact Z1 M g (no m (by simp[dY]))
  ·exact ZT h (no m (by simp[dY]))
 case entryStore t m s x =>
  split at h
  ·rename_i q H1 d
   cases h;exact Z0 d (no m (by simp[dY])) (no x (by simp[dY]))
  ·split at h
   ·rename_i q H1 d
    cases h;exact ZU d (no m (by simp[dY])) (no x (by simp[dY]))
   ·cases h
 case insert t m k x =>
  split at h
  ·rename_i q H1 d
   cases h;exact NW d (no m (by simp[dY]))
  ·cases h
 case call c =>
  have na:∀ x∈c.args.toList,dy (r x)≠some A:=fun x u=>no x (by
   simp only[dY,td];simp at u|-;exact .inr u)
  split at h
  ·split at h
   ·rename_i s x t xt I O
    have U:=na s (by rw[I]; simp);split at h
    ·exact ZP h g
    ·exact ZO h g U
   ·cases h
  ·split at h
   ·rename_i x t I O
    have N:=na x (by rw[I]; simp);split at h
    ·rename_i d; cases h; exact ZQ d N
    ·cases h
   ·cases h
  ·split at h
   ·rename_i x k t _ I O
    have N:=na x (by rw[I]; simp);split at h
    ·rename_i d; cases h; exact Z2 d N
    ·cases h
   ·cases h
  ·cases h
theorem Z5{P:Program}{r:Operand->AV}{H H':List af}{o:Op}{b:Bool}{A:Nat}(h:uz P r H o=some (b,H'))(hA:A∉o.operands.toList.flatMap fun x=>lp (r x)):H'[A]? = H[A]? := by
 have no:∀ x∈o.operands.toList,dy (r x)≠some A:=fun x k e=>hA (Ed.2 ⟨x,k,F4 e⟩);unfold uz at h;split at h
 case h_2=>cases h
 rename_i t a x;split at h
 case h_2=>cases h
 rename_i b0 v1 H1 d;split at h
 case h_2=>cases h
 rename_i b1 H2 q;simp only[aM,aU]at h;obtain⟨_,rfl⟩:=h;rw[NV q (no a (by simp[dY]))];unfold F1 at d;split at d
 case h_3=>cases d
 ·rename_i w id ver off n g
  split at d
  case h_2=>cases d
  split at d
  case isFalse=>cases d
  simp only[aM,aU]at d;obtain⟨_,_,rfl⟩:=d;refine fh fun e=>no x (by simp[dY]) ?_;rw[g,e];rfl
 ·rename_i w id ver off n cs g
  split at d
  case h_2=>cases d
  split at d
  case isFalse=>cases d
  simp only[aM,aU]at d;obtain⟨_,_,rfl⟩:=d;refine fh fun e=>hA (Ed.2 ⟨x,by simp[dY],?_⟩);rw[g,e];simp[lp,dy]
theorem Bs(y:aw P τ){ops:Array Oper}{o:Oper}{s:ak}{k:AV->List af->Tree}{Q:bU->ak->Prop}(hw:bY ops s.fr o=some true)
  (h:(lY P τ o s k).holds Q):∃ v H',Yields P τ.pf ops o s.den v (ah H')/\(cX τ.pf o.op=.write->∀ A,A∉jW τ s.eval s.H o.op->A<s.H.length->H'[A]? = s.H[A]?)/\(k v H').holds Q:=by
 unfold lY at h;split at h
 ·rename_i c a b ho
  split at h
  ·rename_i t hb
   have hb:=NP hb;refine⟨bif t then s.eval a else s.eval b,s.H,xS hw (by rw[ho]; rfl) (.inl (by rw[ho]; simp only[jb,hb])),fun _ _ _ _=>rfl,?_⟩;simp only[Tree.holds]at h;cases t with
   |true=>exact h.1 rfl
   |false=>exact h.2 rfl
  ·exact h.elim
 ·rename_i t a ho
  split at h
  ·rename_i b v M
   simp only[Tree.holds]at h;refine⟨v,s.H,?_,fun _ _ _ _=>rfl,h.2⟩;unfold Yields;rw[show s.den.fr=s.fr from rfl,hw];simp only[ho,cX,ak.nJ];exact⟨rfl,by simp only[fQ]; exact Y7 M h.1⟩
  ·exact h.elim
 ·rename_i t m x ok ho
  have V:jW τ s.eval s.H o.op=o.op.operands.toList.flatMap fun x=>lp (s.eval x):=by
   have N:iO s.eval o.op=none:=by rw[ho]; rfl
   simp only[jW,N]
  split at h
  ·rename_i b v M
   split at h
   ·rename_i g
    simp only[Tree.holds]at h;refine⟨v,s.H,?_,fun _ _ _ _=>rfl,h.2⟩;unfold Yields;rw[show s.den.fr=s.fr from rfl,hw];simp only[g,ak.nJ];rw[ho];exact⟨rfl,by
     have e:=Nx M;rw[show ah s.H=s.den.H from rfl]at e;simp only[fQ,e]⟩
   ·rename_i g
    simp only[Tree.holds]at h;refine⟨v,s.H,rW hw g (.inl ?_),fun _ _ _ _=>rfl,h.2⟩;rw[ho];simp only[cW,Nx M]
   ·exact h.elim
  ·split at h
   ·rename_i g
    split at h
    ·rename_i b v H' d
     simp only[Tree.holds]at h;exact⟨v,H',rW hw g (.inl (FR d h.1)),fun _ A hA u=>Gb d u (by rw[V]at hA; exact hA),h.2⟩
    ·exact h.elim
   ·rename_i g
    split at h
    ·rename_i b v M
     simp only[Tree.holds]at h;obtain⟨q1,q2⟩:=Zp M h.1;refine⟨v,s.H,?_,fun _ _ _ _=>rfl,h.2⟩;unfold Yields;rw[show s.den.fr=s.fr from rfl,hw];simp only[g,ak.nJ];rw[ho];exact⟨rfl,by simp only[fQ]; rw[show gl P t (s.eval m) (s.eval x) ok s.den.H=none from q1]; exact q2⟩
    ·exact h.elim
   ·exact h.elim
 ·rename_i t x i ho
  have g:cX τ.pf o.op=.pure:=by rw[ho]; rfl
  split at h
  ·rename_i n p0 p1 q
   simp only[Tree.holds]at h;refine⟨bif ai n.toNat 0 then p0 else p1,s.H,xS hw g (.inl (by rw[ho]; simp only[jb,ZF q h.1])),fun _ _ _ _=>rfl,?_⟩;cases hb:ai n.toNat 0 with
   |true=>exact h.2.1 hb
   |false=>exact h.2.2 hb
  ·split at h
   ·rename_i b v d
    simp only[Tree.holds]at h;exact⟨v,s.H,xS hw g (.inl (NI d h.1)),fun _ _ _ _=>rfl,h.2⟩
   ·exact h.elim
 ·split at h
  ·rename_i g
   split at h
   ·rename_i v d
    refine⟨v,s.H,?_,fun _ _ _ _=>rfl,h⟩;unfold Yields;rw[show s.den.fr=s.fr from rfl,hw];simp only[g,ak.nJ];exact⟨rfl,ZD d⟩
   ·exact h.elim
  ·rename_i g
   split at h
   ·rename_i f args q
    split at h
    ·rename_i b v d
     simp only[Tree.holds]at h;obtain⟨g1,g2⟩:=y.T f args b v d h.1;exact⟨v,s.H,xS hw g (.inr ⟨f,args,q,g1,g2⟩),fun _ _ _ _=>rfl,h.2⟩
    ·exact h.elim
   ·split at h
    ·rename_i b v d
     simp only[Tree.holds]at h;exact⟨v,s.H,xS hw g (.inl (NI d h.1)),fun _ _ _ _=>rfl,h.2⟩
    ·exact h.elim
  ·rename_i g
   split at h
   ·rename_i f args q
    split at h
    ·rename_i b v H' d
     simp only[Tree.holds]at h;obtain⟨g1,g2⟩:=y.W f args s.H b v H' d h.1;exact⟨v,H',rW hw g (.inr ⟨f,args,q,g1,g2⟩),fun _ A hA u=>y.C f args s.H b v H' d A (by simpa only[jW,q]using hA) u,h.2⟩
    ·split at h
     ·rename_i t hi
      obtain⟨g1,v,H',g2,g3,g4⟩:=y.I f args s.H t hi _ (Tree.Bk h);exact⟨v,H',rW hw g (.inr ⟨f,args,q,g1,g2⟩),fun _ A hA u=>g3 A (by simpa only[jW,q]using hA) u,g4⟩
     ·split at h
      ·rename_i b v d
       simp only[Tree.holds]at h;obtain⟨g1,g2⟩:=y.T f args b v d h.1;exact⟨v,s.H,rW hw g (.inr ⟨f,args,q,g1,g2 _⟩),fun _ _ _ _=>rfl,h.2⟩
      ·cases U : pY s.H args with
       |mk vb args' =>
       rw[U]at h;simp only[]at h;split at h
       ·rename_i b v d
        split at h
        ·rename_i O
         simp only[ax]at O;simp only[Tree.holds,ax]at h;obtain⟨g1,g2⟩:=y.T f args' b v d h.1.2;exact⟨v,s.H,rW hw g (.inr ⟨f,args,q,g1,ZN g2 U h.1.1 O.2 O.1⟩),fun _ _ _ _=>rfl,h.2⟩
        ·exact h.elim
       ·exact h.elim
   ·rename_i N
    split at h
    ·rename_i b v H' d
     simp only[Tree.holds]at h;exact⟨v,H',rW hw g (.inl (FR d h.1)),fun _ A hA u=>Gb d u (by simpa only[jW,N]using hA),h.2⟩
    ·split at h
     ·rename_i b H' d
      simp only[Tree.holds]at h;refine⟨.undef,H',?_,fun _ A hA u=>Z5 d (by simpa only[jW,N]using hA),h.2⟩;unfold Yields;rw[show s.den.fr=s.fr from rfl,hw];simp only[g,ak.nJ];exact .inr (.inr (ZE d h.1))
     ·exact h.elim
theorem NX{ops:Array Oper}{s:ak}{o:Oper}{t:Tmp}{b want:Bool}(h:pX ops s.fr o=.test t b want) :
  s.fr[t]? = some (.lit (.bool b))/\bY ops s.fr o=some (b==want):=by
 unfold pX at h;unfold bY;cases d:o.guard with
 |none=>rw[d]at h; cases h
 | some g =>
  obtain⟨j,w⟩:=g;rw[d]at h;simp only[]at h|-;split at h
  ·rename_i t' k
   split at h
   ·rename_i q hb
    cases h;exact⟨hb,by rw[k]; simp only[hb]⟩
   ·cases h
   ·cases h
  ·cases h
theorem Gc{ops:Array Oper}{s:ak}{o:Oper}(h:pX ops s.fr o=.no):bY ops s.fr o=some false:=by
 unfold pX at h;unfold bY;cases d:o.guard with
 |none=>rw[d]at h; cases h
 | some g =>
  obtain⟨j,w⟩:=g;rw[d]at h;simp only[]at h|-;split at h
  ·rename_i t' k
   split at h
   ·cases h
   ·rename_i hb
    rw[k];simp only[hb]
   ·cases h
  ·cases h
theorem NY{ops:Array Oper}{s:ak}{o:Oper}(h:pX ops s.fr o=.yes):bY ops s.fr o=some true:=by
 unfold pX at h;unfold bY;cases d:o.guard with
 |none=>rfl
 | some g =>
  obtain⟨j,w⟩:=g;rw[d]at h;simp only[]at h;split at h
  ·split at h<;>cases h
  ·cases h
theorem Bt{s:ak}{t:Tmp}{b:Bool} (h:s.fr[t]? = some (.lit (.bool b))):s.slot t b=s:=by
 unfold ak.slot;rw[nE h]
theorem Z6(q:aw P τ){ops:Array Oper}{o:Oper}{s:ak}{k:ak->Tree}{Q:bU->ak->Prop}(h:(F3 P τ ops o s k).holds Q) :
  ∃ v H',Yields P τ.pf ops o s.den v (ah H')/\(k (s.put o.dst v H')).holds Q:=by
 have skip:bY ops s.fr o=some false->Yields P τ.pf ops o s.den (.tuple []) (ah s.H):=by
  intro hw;unfold Yields;rw[show s.den.fr=s.fr from rfl,hw];exact⟨rfl,rfl⟩
 unfold F3 at h;split at h
 ·exact h.elim
 ·rename_i hw
  exact⟨_,_,skip (Gc hw),h⟩
 ·rename_i hw
  obtain⟨v,H',g1,_,g2⟩:=Bs q (NY hw) h;exact⟨v,H',g1,g2⟩
 ·rename_i t b want hw
  obtain⟨h1,g⟩:=NX hw;simp only[Tree.holds]at h;cases b with
  | true =>
   have d:=h.1 rfl;rw[Bt h1]at d;cases want with
   | true =>
    obtain⟨v,H',g1,_,g2⟩:=Bs q g d;exact⟨v,H',g1,g2⟩
   |false=>exact⟨_,_,skip g,d⟩
  | false =>
   have d:=h.2 rfl;rw[Bt h1]at d;cases want with
   |true=>exact⟨_,_,skip g,d⟩
   | false =>
    obtain⟨v,H',g1,_,g2⟩:=Bs q g d;exact⟨v,H',g1,g2⟩
theorem Bu(d:aw P τ){ops:Array Oper}{Q:bU->ak->Prop}:∀{l:List Oper} {s:ak} {k:ak->Tree},(pZ P τ ops l s k).holds Q->∃ s',jS P τ.pf ops l s.den s'.den/\(k s').holds Q
 | [],s,k,h=>⟨s,rfl,h⟩
 | o::l,s,k,h=>by
  obtain⟨v,H',h1,g⟩:=Z6 d h;obtain⟨s',q,u⟩:=Bu d g;exact⟨s',⟨v,ah H',h1,q⟩,u⟩
def Acc.le(a b:Acc):Prop:=(∀ x∈a.R,x∈b.R)/\∀ x∈a.W,x∈b.W
def Acc.ok(ops:Array Oper)(j:Nat)(a:Acc):Prop:=(∀ x∈a.R,x.1<j)/\(∀ x∈a.W,x.1<j)/\rM ops a.R a.W
theorem Gd{ids:List Nat}{i:Nat}(h:xO ids i=true):i∉ids:=by
 intro hm;have:ids.any (ai i)=true:=List.any_eq_true.2 ⟨i,hm,by simp⟩;simp[xO,this]at h
theorem Z7{ops:Array Oper}{j id:Nat}{a b:Acc}(ha:a.ok ops j)(h:F5 ops j id a=some b):b.ok ops (j+1)/\a.le b/\(j,id)∈b.R:=by
 unfold F5 at h;split at h
 ·rename_i g
  cases h;simp only[da,qZ,ax,gG]at g;obtain⟨h1,k,q⟩:=ha;refine⟨⟨fun x d=>?_,fun x d=>Am (k x d),fun i u hi e he=>?_,q.2⟩,⟨fun x d=>cq _ d,fun x d=>d⟩,bZ⟩
  ·rcases bC.1 d with rfl | d
   ·exact WE _
   ·exact Am (h1 x d)
  ·rcases bC.1 hi with y | hi
   ·cases y
    have I:=k e he;refine⟨fun v=>absurd v (by omega),fun _ hw=>?_⟩;rcases g e he with h|h
    ·rw[hw]at h; cases h
    ·exact⟨Gd h.1,h.2⟩
   ·exact q.1 i u hi e he
 ·cases h
theorem NZ{ops:Array Oper}{j n:Nat}{T:List Nat}{a b:Acc}(ha:a.ok ops j)(h:Bp ops j T n a=some b):b.ok ops (j+1)/\a.le b/\(j,T,n)∈b.W:=by
 unfold Bp at h;split at h
 ·rename_i O
  split at h
  case h_2=>cases h
  rename_i y;cases h;simp only[da,qZ,ax,gG]at O y;obtain⟨h1,M,N⟩:=ha;refine⟨⟨fun x k=>Am (h1 x k),fun x k=>?_,fun i I hi e he=>?_,fun e he e' d g q id hid=>?_,fun e he e' d g q id hid=>?_⟩,⟨fun x k=>k,fun x k=>cq _ k⟩,bZ⟩
  ·rcases bC.1 k with rfl | k
   ·exact WE _
   ·exact Am (M x k)
  ·rcases bC.1 he with v | he
   ·subst v
    have g:=h1 (i,I) hi;refine⟨fun _ hw=>?_,fun U=>absurd U (by simp only at U g; omega)⟩;rcases O (i,I) hi with h|h
    ·simp only at hw h; rw[hw]at h; cases h
    ·exact⟨Gd h.1,h.2⟩
   ·exact N.1 i I hi e he
  ·rcases bC.1 d with v | d
   ·subst v
    rcases bC.1 he with u|he
    ·subst u
     exact absurd g (An _)
    ·rcases y e he with h | h
     ·simp only at q h
      rw[q]at h;cases h
     ·have V := h.1 id hid
      exact⟨Gd V.1,V.2⟩
   ·rcases bC.1 he with u | he
    ·subst u
     have h5:=M e' d;exact absurd g (by simp only; omega)
    ·exact N.2.1 e he e' d g q id hid
  ·rcases bC.1 d with v | d
   ·subst v
    rcases bC.1 he with u|he
    ·subst u
     exact absurd g (An _)
    ·rcases y e he with h | h
     ·simp only at q h
      rw[q]at h;cases h
     ·exact h.2 id hid
   ·rcases bC.1 he with u | he
    ·subst u
     have h5:=M e' d;exact absurd g (by simp only; omega)
    ·exact N.2.2 e he e' d g q id hid
 ·cases h
theorem Acc.xT{ops:Array Oper}{j:Nat}{a:Acc}(h:a.ok ops j):a.ok ops (j+1):=⟨fun x d=>Am (h.1 x d),fun x d=>Am (h.2.1 x d),h.2.2⟩
theorem Acc.le_refl(a:Acc):a.le a:=⟨fun _ h=>h,fun _ h=>h⟩
theorem Acc.le_trans{a b c:Acc}(h:a.le b)(h':b.le c):a.le c:=⟨fun x d=>h'.1 x (h.1 x d),fun x d=>h'.2 x (h.2 x d)⟩
def Acc.only(j:Nat)(a b:Acc):Prop:=∀ x∈b.W,x.1<j->x∈a.W
theorem Z8{ops:Array Oper}{j:Nat}{o:Oper}{s:ak}{a b:Acc}(ha:a.ok ops j)(h:F6 τ ops j o s a=some b) :
  b.ok ops (j+1)/\a.le b/\(cX τ.pf o.op=.read->∀ id,mL s.eval o.op=some id->(j,id)∈b.R)/\(cX τ.pf o.op=.write->(j,jW τ s.eval s.H o.op,s.H.length)∈b.W):=by
 unfold F6 at h;split at h
 ·rename_i d
  cases h;exact⟨Acc.xT ha,a.le_refl,(fun h=>by rw[d]at h; cases h),(fun h=>by rw[d]at h; cases h)⟩
 ·rename_i d
  split at h
  ·rename_i id hid
   obtain⟨g1,g2,g3⟩:=Z7 ha h;refine⟨g1,g2,fun _ k g=>?_,(fun h=>by rw[d]at h; cases h)⟩;rw[hid]at g;cases g;exact g3
  ·rename_i hid
   cases h;refine⟨Acc.xT ha,a.le_refl,fun _ k g=>?_,(fun h=>by rw[d]at h; cases h)⟩;rw[hid]at g;cases g
 ·rename_i d
  obtain⟨g1,g2,g3⟩:=NZ ha h;exact⟨g1,g2,(fun h=>by rw[d]at h; cases h),fun _=>g3⟩
theorem Ge{ops:Array Oper}{j:Nat}{o:Oper}{s:ak}{v:AV}{H':List af}{b c:Acc}(q:b.le c)(hr:cX τ.pf o.op=.read->∀ id,mL s.eval o.op=some id->(j,id)∈b.R)
  (hw:cX τ.pf o.op=.write->(j,jW τ s.eval s.H o.op,s.H.length)∈b.W) (hk:cX τ.pf o.op=.write->∀ A,A∉jW τ s.eval s.H o.op->A<s.H.length->H'[A]? = s.H[A]?)
  (u:lV ops o.op=true->cX τ.pf o.op=.write->bY ops s.den.fr o=some true->∀ σ,Bb c.W j s.den.H σ->Yields P τ.pf ops o ⟨s.den.fr,lW σ s.den.H⟩ v (lW σ (ah H'))) :
  (g:(lU ops&&eS o.op)=false)->Step P τ.pf ops c.R c.W j o s.den v (ah H'):=by
 intro g;refine⟨fun d A hA=>?_,fun d _ id hid=>q.1 _ (hr d id (by rw[<-ak.nJ]; exact hid)),fun h1 k _=>(by rw[h1,k]at g; cases g),u⟩;have:=hA _ (q.2 _ (hw d)) rfl;have k:=hk d A this.1 this.2;show (ah H')[A]? = (ah s.H)[A]?
 simp only[ah,bB,k]
theorem step_skip{ops:Array Oper}{j:Nat}{o:Oper}{s:ak}{c:Acc}(hw:bY ops s.fr o=some false):Step P τ.pf ops c.R c.W j o s.den (.tuple []) (ah s.H) :=
 ⟨fun _ _ _=>rfl,fun _ h=>(by rw[show s.den.fr=s.fr from rfl,hw]at h; cases h),fun _ _ _=>⟨rfl,fun _ h=>(h rfl).elim⟩,fun _ _ h=>(by rw[show s.den.fr=s.fr from rfl,hw]at h; cases h)⟩
theorem N0(g:aw P τ){f:FuncId}{args:List AV}{v:AV}(k:τ.N f=true):∀(σ:List (Nat × ab)) (H H':List af),τ.W f args H=some (true,v,H')->(∀ p∈σ,p.1<H.length/\p.1∉τ.C f args H) ->
  ∃ H2 d,ah H2=lW σ (ah H)/\ah d=lW σ (ah H')/\τ.W f args H2=some (true,v,d)
 | [],H,H',h,_=>⟨H,H',rfl,rfl,h⟩
 | p::σ,H,H',h,u=>by
  obtain⟨y,a2⟩:=u p bZ;obtain⟨h1,I⟩:=g.F.2 f k args H true v H' h p.1 (.raw p.2) y a2;obtain⟨H2,d,M,O,U⟩:=N0 g k σ _ _ h1 fun q V=>by
   obtain⟨b1,b2⟩:=u q (cq _ V);rw[I];exact⟨by simpa using b1,b2⟩
  refine⟨H2,d,?_,?_,U⟩
  ·rw [M, ct]
   rfl
  ·rw [O, ct]
   rfl
theorem Z9{o:Oper}{s:ak}{k:AV->List af->Tree}{f:FuncId}{args:List AV}{b:Bool}{v:AV}{H':List af}(d:rL o.op=true)(q:cX τ.pf o.op=.write)(g:iO s.eval o.op=some (f,args))(y:τ.W f args s.H=some (b,v,H')) :
  lY P τ o s k=.side b (k v H'):=by
 unfold rL at d;split at d
 ·rename_i c u
  unfold lY;rw[u]at q g|-;simp only[q,g,y]
 ·cases d
theorem N1{r:Operand->AV}{op:Op}(h:mM op=true):iO r op=none:=by
 unfold mM at h;split at h
 ·rfl
 ·rename_i c
  split at h
  ·rename_i d
   simp only[iO,A6,d]
  ·cases h
 ·cases h
theorem Z_{o:Oper}{s:ak}{k:AV->List af->Tree}{Q:bU->ak->Prop}(g:mM o.op=true)(y:cX τ.pf o.op=.write)(h:(lY P τ o s k).holds Q) :
  ∃ v H',jV P s.eval s.H o.op=some (true,v,H')/\(k v H').holds Q:=by
 have q:=N1 (r:=s.eval) g;have u:uz P s.eval s.H o.op=none:=by
  unfold mM at g;split at g
  ·rename_i d; rw[d]; rfl
  ·rename_i d; rw[d]; rfl
  ·cases g
 have I:lY P τ o s k=match jV P s.eval s.H o.op with
   |some (b,v,H')=>.side b (k v H')
   |none=>.fail:=by
  unfold mM at g;split at g
  ·rename_i d
   unfold lY;rw[d]at y q u|-;simp only[y,q,u]
  ·rename_i d
   unfold lY;rw[d]at y q u|-;simp only[y,q,u]
  ·cases g
 rw[I]at h;split at h
 ·rename_i b v H' M
  simp only[Tree.holds]at h;obtain⟨rfl,h⟩:=h;exact⟨v,H',M,h⟩
 ·exact h.elim
theorem N2{sz:Nat}{x:AV}{H H2:List af}{want:Option (List Kd)}(h:∀ id,dy x=some id->H2[id]? = H[id]?):pT sz x H2 want=pT sz x H want:=by
 cases x with
 | vec w id ver off n =>
  have:=h id rfl;unfold pT;simp only[this]
 | lit v =>
  cases v with
  |slice b n c=>cases b<;>cases n<;>cases c<;>rfl
  |_=>rfl
 |_=>rfl
theorem N3{sz:Nat}{x:AV}{H H2:List af}{z:List Value}(h:∀ id,dy x=some id->H2[id]? = H[id]?):rR sz x H2 z=rR sz x H z:=by
 unfold rR;cases x<;>exact N2 h
theorem Bv{α:Type}{H:List α}{x o:α}{id:Nat}(h:id<H.length):(H++[x]).set id o=H.set id o++[x]:=List.set_append_left _ _ h
theorem Z'{r:Operand->AV}{op:Op}(q:mM op=true){H H':List af}{v:AV}{id:Nat}{o:af}(h:jV P r H op=some (true,v,H'))(O:id<H.length)(hid:id∉op.operands.toList.flatMap fun x=>lp (r x)) :
  jV P r (H.set id o) op=some (true,v,H'.set id o):=by
 have no:∀ x∈op.operands.toList,dy (r x)≠some id:=fun x u e=>hid (Ed.2 ⟨x,u,F4 e⟩);unfold mM at q;split at q
 ·rename_i t n parts
  simp only[jV]at h|-;unfold ui at h|-;split at h
  case h_2=>cases h
  rename_i y
  try simp only[y]
  split at h
  case h_2=>cases h
  rename_i I
  try simp only[I]
  split at h
  case h_2=>cases h
  rename_i M
  try simp only[M]
  split at h
  case h_2=>cases h
  rename_i N
  try simp only[N]
  split at h
  case h_2=>cases h
  rename_i d
  try simp only[d]
  split at h
  case isFalse=>cases h
  rename_i g
  try rw[if_pos g]
  simp only[aM,aU,true_and]at h|-;obtain⟨rfl,rfl⟩:=h;exact⟨by rw[ib],(Bv O).symm⟩
 ·rename_i c
  split at q
  case h_2=>cases q
  rename_i hc;simp only[jV,hc]at h|-;split at h
  case h_2=>cases h
  rename_i s x t xt ha W;have na:∀ x∈c.args.toList,dy (r x)≠some id:=fun x u=>no x (by
   simp only[dY,td,Ai,cw];exact .inr u)
  have hs:dy (r s)≠some id:=na s (by rw[ha]; simp);have u:dy (r x)≠some id:=na x (by rw[ha]; simp);have same:∀ i,dy (r x)=some i->(H.set id o)[i]? = H[i]? := fun i hi=>aQ fun e=>u (by rw[hi,e]);split at h
  ·rename_i e0
   try simp only[ha,W,e0]
   unfold ur at h|-;split at h
   case h_2=>cases h
   rename_i y I M N
   try simp only[y,I,M,N]
   split at h
   case h_2=>cases h
   rename_i d
   try simp only[d]
   split at h
   case h_2=>cases h
   rename_i g
   try simp only[g]
   split at h
   case h_2=>cases h
   rename_i k
   try simp only[k]
   split at h
   case isFalse=>cases h
   rename_i U
   try rw[if_pos U]
   simp only[aM,aU]at h|-;obtain⟨h1,rfl,rfl⟩:=h;exact⟨h1,by rw[ib],(Bv O).symm⟩
  ·rename_i hno
   try simp only[ha,W]
   unfold ug at h|-;split at h
   case h_2=>cases h
   rename_i y
   try simp only[y]
   split at h
   case h_2=>cases h
   rename_i I M
   try simp only[I,M]
   split at h
   case isFalse=>cases h
   rename_i N
   try rw[if_pos N]
   split at h
   ·rename_i d
    try simp only[d,N3 same]
    split at h
    case h_2=>cases h
    rename_i g
    try simp only[g]
    split at h
    case isFalse=>cases h
    rename_i k
    try rw[if_pos k]
    simp only[aM,aU]at h|-;obtain⟨h1,rfl,rfl⟩:=h;exact⟨h1,by rw[ib],(Bv O).symm⟩
   ·rename_i d
    try simp only[d,N3 same]
    split at h
    case h_2=>cases h
    rename_i g
    try simp only[g]
    split at h
    case isFalse=>cases h
    rename_i k
    try rw[if_pos k]
    simp only[aM,aU]at h|-;obtain⟨h1,rfl,rfl⟩:=h;exact⟨h1,by rw[ib],(Bv O).symm⟩
   ·rename_i w i ver off n d
    have V:i≠id:=fun e=>hs (by rw[d,<-e]; rfl)
    try simp only[d,aQ (Ne.symm V)]
    split at h
    case h_2=>cases h
    rename_i g
    try simp only[g,N2 same]
    split at h
    case h_2=>cases h
    rename_i k
    try simp only[k]
    split at h
    case isFalse=>cases h
    rename_i U
    try rw[if_pos U]
    simp only[aM,aU]at h|-;obtain⟨h1,rfl,rfl⟩:=h;exact⟨h1,rfl,List.set_comm _ _ (Ne.symm V)⟩
   ·cases h
 ·cases q
theorem N4{r:Operand->AV}{op:Op}(g:mM op=true){v:AV}:∀(σ:List (Nat × ab)) (H H':List af),jV P r H op=some (true,v,H')->(∀ p∈σ,p.1<H.length/\p.1∉op.operands.toList.flatMap fun x=>lp (r x)) ->
  ∃ H2 d,ah H2=lW σ (ah H)/\ah d=lW σ (ah H')/\jV P r H2 op=some (true,v,d)
 | [],H,H',h,_=>⟨H,H',rfl,rfl,h⟩
 | p::σ,H,H',h,k=>by
  obtain⟨u,a2⟩:=k p bZ;have h1:=Z' g (o:=.raw p.2) h u a2;obtain⟨H2,d,y,I,M⟩:=N4 g σ _ _ h1 fun q N=>by
   obtain⟨b1,O⟩:=k q (cq _ N);exact⟨by simpa using b1,O⟩
  refine⟨H2,d,?_,?_,M⟩
  ·rw [y, ct]
   rfl
  ·rw [I, ct]
   rfl
theorem N5{z:List Value}:∀{H:List af} {i j:Nat} {ks:List Kd} {g:List G},rU z H i=some (j,ks,g)->i<=j/\H[j-i]? = some (.vec ks 0 [])/\uA ks z=some g
 | [],_,_,_,_,h=>by cases h
 | o::H,i,j,ks,g,h=>by
  have next:rU z H (i+1)=some (j,ks,g)->i<=j/\(o::H)[j-i]? = some (.vec ks 0 [])/\uA ks z=some g:=by
   intro h;obtain⟨h1,d,k⟩:=N5 h;refine⟨by omega,?_,k⟩;rw[show j-i=(j-(i+1))+1 from by omega];simpa using d
  unfold rU at h;split at h
  ·cases ‹_=_›
  ·rename_i u rows' H' v e
   cases e;split at h
   ·rename_i y q
    split at h
    ·cases h
     exact⟨aB _,by simp,q⟩
    ·exact next h
   ·exact next h
  ·rename_i e
   cases e;exact next h
theorem N6:∀{H:List af} {i j:Nat},xP H i=some j->i<=j/\H[j-i]? = some (.raw .eP)
 | [],_,_,h=>by cases h
 | o::H,i,j,h=>by
  have next:xP H (i+1)=some j->i<=j/\(o::H)[j-i]? = some (.raw .eP):=by
   intro h;obtain⟨h1,d⟩:=N6 h;refine⟨by omega,?_⟩;rw[show j-i=(j-(i+1))+1 from by omega];simpa using d
  unfold xP at h;split at h
  ·cases ‹_=_›
  ·rename_i e
   cases e;cases h;exact⟨aB _,by simp⟩
  ·rename_i e
   cases e;exact next h
theorem aaa{op:Op}{H H':List af}{id:Nat}{v:AV}(h:F7 P op H=some (id,v,H')) :
  ((∃ t m,op=.alloc t/\pL P t id m (ah H)=some (v,ah H'))\/∃ t,op=.makeMap t none/\rz id (ah H)=some (v,ah H'))/\H'.length=H.length/\∀ A,A≠id->H'[A]? = H[A]? := by
 unfold F7 at h;split at h
 ·rename_i t
  split at h
  ·rename_i z u
   split at h
   ·rename_i i ks g q
    cases h;obtain⟨_,d,y⟩:=N5 q;rw[fF]at d;have e:=NJ y;refine⟨.inl ⟨t,mZ ks,rfl,?_⟩,by simp,fun A hA=>aQ (Ne.symm hA)⟩;have hk:ks.length=z.length:=by
     have:=congrArg Ec e;simpa[rh,AR]using this
    rw[MV (mZ ks) u (k:=ks.length) (by rw[a7 d]; rfl) hk,ct,<-e];rfl
   ·cases h
  ·cases h
 ·rename_i t
  split at h
  ·rename_i K V _
   split at h
   ·rename_i i q
    cases h;obtain⟨_,d⟩:=N6 q;rw[fF]at d;refine⟨.inr ⟨t,rfl,?_⟩,by simp,fun A hA=>aQ (Ne.symm hA)⟩;rw[Mj (by rw[a7 d]; rfl),ct];rfl
   ·cases h
  ·cases h
 ·cases h
theorem Gf(U:aw P τ){ops:Array Oper}{j:Nat}{o:Oper}{s:ak}{a:Acc}{k:ak->Acc->Tree}{Q:bU->ak->Prop}(hw:bY ops s.fr o=some true)(ha:a.ok ops j)(h:(xQ P τ ops j o s a k).holds Q) :
  ∃ v H' b,Yields P τ.pf ops o s.den v (ah H')/\b.ok ops (j+1)/\a.le b/\(∀ c,b.le c->Step P τ.pf ops c.R c.W j o s.den v (ah H'))/\(k (s.put o.dst v H') b).holds Q:=by
 unfold xQ at h;split at h
 ·rename_i q
  simp only[ax]at q;split at h
  ·rename_i id v H' hal
   split at h
   ·rename_i b hb
    obtain⟨hnew,hlen,hkeep⟩:=aaa hal;obtain⟨g1,g2,g3⟩:=NZ ha hb;refine⟨v,H',b,?_,g1,g2,fun c d=>⟨fun _ A hA=>?_,fun hr=>(by rw[oI q.2]at hr; cases hr),fun _ _ _=>⟨?_,fun id' hne=>?_⟩,fun hcv=>(by rw[nI q.2]at hcv; cases hcv)⟩,h⟩
    ·unfold Yields
     rw[show s.den.fr=s.fr from rfl,hw];simp only[oI q.2];rcases hnew with⟨t,m,hop,M⟩|⟨t,hop,M⟩
     ·exact .inr (.inl (.inl ⟨t,id,m,hop,M⟩))
     ·exact .inr (.inl (.inr ⟨t,id,hop,M⟩))
    ·have := (hA _ (d.2 _ g3) rfl).1
     show (ah H')[A]? = (ah s.H)[A]?
     simp only[ah,bB,hkeep A (by simpa using this)]
    ·show (ah H').length = (ah s.H).length
     simp only[eJ,hlen]
    ·refine ⟨_, d.2 _ g3, rfl, ?_⟩
     have e:id'=id:=Ea fun e=>hne (by
      show (ah H')[id']? = (ah s.H)[id']?
      simp only[ah,bB,hkeep id' e])
     rw[e];exact List.mem_singleton.2 rfl
   ·exact h.elim
  ·exact h.elim
 ·rename_i q
  split at h
  ·exact h.elim
  rename_i hfc;split at h
  ·rename_i b hb
   obtain⟨g1,g2,g3,g4⟩:=Z8 ha hb;by_cases y:lV ops o.op=true/\cX τ.pf o.op=.write
   ·obtain ⟨y, I⟩ := y
    have g:F8 τ o s=true:=by
     rw[y]at hfc;simpa using hfc
    unfold F8 at g;rw[I]at g;simp only[]at g;split at g
    ·rename_i f args u
     split at g
     case h_2=>cases g
     rename_i hN;obtain⟨⟨b0,v,H'⟩,hW⟩:=Option.isSome_iff_exists.1 g;have hcv:rL o.op=true:=by
      unfold lV at y;rw[qZ,ax,ax]at y;rcases y with h1|h1
      ·exact h1.1
      ·rw [N1 h1.1] at u
       cases u
     rw[Z9 hcv I u hW]at h;simp only[Tree.holds]at h;obtain⟨rfl,h⟩:=h;obtain⟨hbody,hcall⟩:=U.W f args s.H true v H' hW rfl;have O:jW τ s.eval s.H o.op=τ.C f args s.H:=by
      unfold jW;rw[u]
     have hcal':∀ H2,iO (St.eval ⟨s.den.fr,H2⟩) o.op=some (f,args):=fun H2=>by
      have e:St.eval ⟨s.den.fr,H2⟩=s.eval:=by funext x; cases x<;>rfl
      rw[e];exact u
     have V:∀ H2 N:List ab,dn P f args H2 v N->Yields P τ.pf ops o ⟨s.den.fr,H2⟩ v N:=fun H2 N hx=>by
      unfold Yields;rw[show (St.mk s.den.fr H2).fr=s.fr from rfl,hw];simp only[I];exact .inl (.inr ⟨f,args,hcal' H2,hbody,hx⟩)
     refine⟨v,H',b,V _ _ hcall,g1,g2,fun c d=>Ge d g3 g4 (fun _ A hA hlt=>?_) (fun _ _ _ σ hσ=>?_) (by simpa using q),h⟩
     ·exact U.C f args s.H true v H' hW A (by rw[<-O]; exact hA) hlt
     ·obtain ⟨H2,H2',q1,q2,q3⟩:=N0 U hN σ s.H H' hW (fun p hp=>by
       obtain⟨hk,_⟩:=hσ p hp;obtain⟨k1,k2⟩:=hk _ (d.2 _ (g4 I)) rfl;rw[O]at k1;exact⟨k2,k1⟩)
      rw[<-q2,show lW σ s.den.H=ah H2 from q1.symm];exact V _ _ (U.W f args H2 true v H2' q3 rfl).2
    ·rename_i u
     obtain⟨v,H',M,h⟩:=Z_ g I h;have O:jW τ s.eval s.H o.op=o.op.operands.toList.flatMap fun x=>lp (s.eval x):=by
      unfold jW;rw[u]
     have V:∀ H2 N:List af,jV P s.eval H2 o.op=some (true,v,N)->Yields P τ.pf ops o ⟨s.den.fr,ah H2⟩ v (ah N):=fun H2 N hx=>by
      unfold Yields;rw[show (St.mk s.den.fr (ah H2)).fr=s.fr from rfl,hw];simp only[I];have e:St.eval ⟨s.fr,ah H2⟩=s.eval:=by funext x; cases x<;>rfl
      rw[e];exact .inl (.inl (FR hx rfl))
     refine⟨v,H',b,V _ _ M,g1,g2,fun c d=>Ge d g3 g4 (fun _ A hA hlt=>Gb M hlt (by rw[<-O]; exact hA)) (fun _ _ _ σ hσ=>?_) (by simpa using q),h⟩;obtain⟨H2,H2',q1,q2,q3⟩:=N4 g σ s.H H' M (fun p hp=>by
      obtain⟨hk,_⟩:=hσ p hp;obtain⟨k1,k2⟩:=hk _ (d.2 _ (g4 I)) rfl;rw[O]at k1;exact⟨k2,k1⟩)
     rw[<-q2,show lW σ s.den.H=ah H2 from q1.symm];exact V _ _ q3
   ·obtain ⟨v, H', q1, q2, q3⟩ := Bs U hw h
    exact⟨v,H',b,q1,g1,g2,fun c d=>Ge d g3 g4 q2 (fun h1 h3=>absurd ⟨h1,h3⟩ y) (by simpa using q),q3⟩
  ·exact h.elim
theorem aab(q:aw P τ){ops:Array Oper}{j:Nat}{o:Oper}{s:ak}{a:Acc}{k:ak->Acc->Tree}{Q:bU->ak->Prop}(ha:a.ok ops j)(h:(F9 P τ ops j o s a k).holds Q) :
  ∃ v H' b,Yields P τ.pf ops o s.den v (ah H')/\b.ok ops (j+1)/\a.le b/\(∀ c,b.le c->Step P τ.pf ops c.R c.W j o s.den v (ah H'))/\(k (s.put o.dst v H') b).holds Q:=by
 have skip:bY ops s.fr o=some false->Yields P τ.pf ops o s.den (.tuple []) (ah s.H):=by
  intro hw;unfold Yields;rw[show s.den.fr=s.fr from rfl,hw];exact⟨rfl,rfl⟩
 unfold F9 at h;split at h
 ·exact h.elim
 ·rename_i hw
  exact⟨_,_,a,skip (Gc hw),Acc.xT ha,a.le_refl,fun _ _=>step_skip (Gc hw),h⟩
 ·rename_i hw
  exact Gf q (NY hw) ha h
 ·rename_i t b want hw
  obtain⟨h1,g⟩:=NX hw;simp only[Tree.holds]at h;cases b with
  | true =>
   have d:=h.1 rfl;rw[Bt h1]at d;cases want with
   |true=>exact Gf q g ha d
   |false=>exact⟨_,_,a,skip g,Acc.xT ha,a.le_refl,fun _ _=>step_skip g,d⟩
  | false =>
   have d:=h.2 rfl;rw[Bt h1]at d;cases want with
   |true=>exact⟨_,_,a,skip g,Acc.xT ha,a.le_refl,fun _ _=>step_skip g,d⟩
   |false=>exact Gf q g ha d
theorem N7(d:aw P τ){ops:Array Oper}{Q:bU->ak->Prop}:∀{l:List Oper} {j:Nat} {s:ak} {a:Acc} {k:ak->Tree},a.ok ops j->(F_ P τ ops l j s a k).holds Q ->
  ∃ s' b,rM ops b.R b.W/\a.le b/\ud P τ.pf ops b.R b.W l j s.den s'.den/\(k s').holds Q
 | [],j,s,a,k,ha,h=>⟨s,a,ha.2.2,a.le_refl,rfl,h⟩
 | o::l,j,s,a,k,ha,h=>by
  obtain⟨v,H',b,g1,g2,g3,g4,g5⟩:=aab d ha h;obtain⟨s',c,q,g,u,y⟩:=N7 d g2 g5;exact⟨s',c,q,Acc.le_trans g3 g,⟨v,ah H',g1,g4 c g,u⟩,y⟩
theorem aac{m id:Nat}{ops:Array Oper}{s s':ak}{b:Acc}(hm:P.follows .mixedOrders=true)(hB:ue τ.pf ops=true)(d:rM ops b.R b.W)(h:ud P τ.pf ops b.R b.W ops.toList 0 s.den s'.den) :
  dp P m (.region id ops true) s.den .normal s'.den:=fun ro _ _ _ g=>Y6 hm hB d g h (fun _ _ k=>⟨rfl,k.toM⟩) ro
theorem xU{K:bU->ak->Tree}{Q:bU->ak->Prop}:∀{t:Tree},(t.bind K).holds Q->t.holds fun x s=>(K x s).holds Q
 |.fail,h=>h
 |.done _ _,h=>h
 |.ask _ _ _,h=>⟨fun hb=>xU (h.1 hb),fun hb=>xU (h.2 hb)⟩
 |.side _ _,h=>⟨h.1,xU h.2⟩
theorem N8{m:Nat}{c:Code}{Q:bU->ak->Prop}{body:ak->(bU->ak->Tree)->Tree}
  (hb:∀ s K,(body s K).holds Q->∃ x s',dp P m c s.den x s'.den/\(K x s').holds Q):∀(n:Nat) (s:ak) (K:bU->ak->Tree),(Bq body n s K).holds Q ->
  ∃ x s',lS P m c s.den x s'.den/\(K x s').holds Q
 |0,_,_,h=>h.elim
 | n+1,s,K,h=>by
  simp only[Bq]at h;obtain⟨x,s1,h1,d⟩:=hb _ _ h;cases x with
  | normal =>
   obtain⟨y,s2,g,k⟩:=N8 hb n s1 K d;exact⟨y,s2,.next h1 g,k⟩
  |exit i=>exact⟨_,s1,.stop h1 (by simp),d⟩
  |ret=>exact⟨_,s1,.stop h1 (by simp),d⟩
theorem lZ(hm:P.follows .mixedOrders=true)(q:aw P τ){m:Nat}{L:LT}{Q:bU->ak->Prop}:∀(c:Code) (s:ak) (K:bU->ak->Tree),
  ay P m L c->(gu P τ L c s K).holds Q->∃ x s',dp P m c s.den x s'.den/\(K x s').holds Q
 |.skip,s,K,_,h=>⟨_,_,YF,h⟩
 | .region id ops draw,s,K,k,h=>by
  simp only[gu]at h;split at h
  ·rename_i I
   split at h
   ·rename_i hB
    simp only[Tree.holds]at h;have W:draw=true:=by
     cases draw with
     |true=>rfl
     |false=>simp at I
    subst W;obtain⟨s',b,h1,_,d,u⟩:=N7 q (a:=⟨[],[]⟩) ⟨by simp,by simp,⟨fun i id hi=>(nomatch hi),fun e he=>(nomatch he),fun e he=>(nomatch he)⟩⟩ h.2;exact⟨_,_,t_ (k.2.1 id s h.1) (aac hm hB h1 d),u⟩
   ·exact h.elim
  ·rename_i V
   simp only[Tree.holds]at h;obtain⟨s',h1,d⟩:=Bu q h.2;refine⟨_,_,t_ (k.2.1 id s h.1) (YI hm (fun I=>?_) h1),d⟩;rw[I]at V;simpa using V
 | .seq a b,s,K,k,h=>by
  simp only[gu]at h;have M:ay P m L a:=k.sub (fun p g=>by simp only[bO]; exact cw.2 (.inl g)) (fun p g=>by simp only[bR]; exact cw.2 (.inl g));have N:ay P m L b:=k.sub (fun p g=>by simp only[bO]; exact cw.2 (.inr g)) (fun p g=>by simp only[bR]; exact cw.2 (.inr (cw.2 (.inr g))));obtain⟨x,s1,h1,d⟩:=lZ hm q a s _ M h;cases x with
  | normal =>
   simp only[NK]at d;split at d
   ·rename_i t v
    unfold NN at v;split at v
    ·rename_i i hi
     obtain⟨y,s2,u,U⟩:=k.2.2 i b (by simp only[bR,hi]; exact cw.2 (.inr (cw.2 (.inl (bZ))))) s1 t v _ (xU d);exact⟨y,s2,M3 h1 u,U⟩
    ·cases v
   ·obtain ⟨y, s2, u, U⟩ := lZ hm q b s1 K N d
    exact⟨y,s2,M3 h1 u,U⟩
  |exit id=>exact⟨_,_,M4 h1 (by simp),d⟩
  |ret=>exact⟨_,_,M4 h1 (by simp),d⟩
 | .cond c a b,s,K,k,h=>by
  simp only[gu]at h;have M:ay P m L a:=k.sub (fun p g=>by simp only[bO]; exact cw.2 (.inl g)) (fun p g=>by simp only[bR]; exact cw.2 (.inl g));have N:ay P m L b:=k.sub (fun p g=>by simp only[bO]; exact cw.2 (.inr g)) (fun p g=>by simp only[bR]; exact cw.2 (.inr g));split at h
  ·rename_i t hb
   have O:=NP hb;rw[<-ak.nJ]at O;simp only[Tree.holds]at h;cases t with
   | true =>
    obtain⟨x,s1,h1,d⟩:=lZ hm q a s K M (h.1 rfl);exact⟨x,s1,M5 O (by simpa using h1),d⟩
   | false =>
    obtain⟨x,s1,h1,d⟩:=lZ hm q b s K N (h.2 rfl);exact⟨x,s1,M5 O (by simpa using h1),d⟩
  ·exact h.elim
 | .block id c,s,K,k,h=>by
  simp only[gu]at h;obtain⟨x,s1,h1,d⟩:=lZ hm q c s _ (k.sub (fun p g=>by simpa only[bO]using g) (fun p g=>by simpa only[bR]using g)) h;refine⟨_,s1,YJ h1,?_⟩;cases x with
  |normal=>exact d
  | exit i =>
   simp only[NL]at d;simp only[bU.inBlock];split
   ·rename_i e; rw[if_pos e]at d; exact d
   ·rename_i e; rw[if_neg e]at d; exact d
  |ret=>exact d
 | .loop c,s,K,k,h=>by
  simp only[gu]at h;split at h
  ·rename_i i hi
   split at h
   ·rename_i t hl
    obtain⟨x,s',h1,d⟩:=k.1 i c (by simp only[bO,hi]; exact bZ) s t hl _ (xU h);exact⟨x,s',M6 h1,d⟩
   ·obtain ⟨x, s', h1, d⟩ := N8 (fun s1 K1 hh => lZ hm q c s1 K1 (k.sub (fun p g => by simp only [bO, hi]; exact cq _ g) (fun p g => by simpa only [bR] using g)) hh) 400 s K h
    exact⟨x,s',M6 h1,d⟩
  ·exact h.elim
 |.exit id,s,K,_,h=>⟨_,_,YH,h⟩
 |.ret,s,K,_,h=>⟨_,_,YG,h⟩
 |.rangeFunc ..,_,_,_,h=>by simp[gu,Tree.holds]at h
 |.scope _,_,_,_,h=>by simp[gu,Tree.holds]at h
 |.label _,_,_,_,h=>by simp[gu,Tree.holds]at h
 |.goto _,_,_,_,h=>by simp[gu,Tree.holds]at h
 |.refuse _,_,_,_,h=>by simp[gu,Tree.holds]at h
end sound
end Go.AL

namespace Go.AL
open Go
variable [Dr]
inductive kE where
 |fail
 |ret (v:AV) (H:List af)
 |ask (b:Bool) (t e:kE)
 |side (b:Bool) (t:kE)
def kE.holds(Q:AV->List af->Prop):kE->Prop
 |.fail=>False
 |.ret v H=>Q v H
 |.ask b t e=>(b=true->t.holds Q)/\(b=false->e.holds Q)
 |.side b t=>b=true/\t.holds Q
def kE.two:kE->Option (AV × List af)
 |.fail=>none
 |.ret v H=>some (v,H)
 |.ask b t e=>bif b then t.two else e.two
 |.side b t=>bif b then t.two else none
def kE.val:kE->Option AV
 |.fail=>none
 |.ret v _=>some v
 |.ask b t e=>bif b then t.val else e.val
 |.side b t=>bif b then t.val else none
theorem Bw:∀{t:kE} {v:AV},t.val=some v->t.holds fun u _=>u=v
 |.fail,_,h=>by cases h
 |.ret u H,_,h=>by simp only[kE.val,aM]at h; exact h
 | .ask b t e,v,h=>by
  cases b with
  |true=>exact⟨fun _=>Bw (t:=t) (v:=v) h,fun h=>by cases h⟩
  |false=>exact⟨fun h=>(nomatch h),fun _=>Bw (t:=e) (v:=v) h⟩
 | .side b t,v,h=>by
  cases b with
  |true=>exact And.intro rfl (Bw (t:=t) (v:=v) h)
  |false=>cases h
def Gg(H:List af):Option (List Kd)->AV->Option (Bool × AV)
 |none,a=>some (true,a)
 | some ks,a=>match a with
  |.nils | .lit (.slice none 0 0)=>some (true,.listF ks [])
  |.listF d rows=>if Kd.f_ ks d then some (true,.listF ks rows) else none
  | .list w rows=>match a_ ks rows with
   |some gs=>if w=ks.length then some (true,.listF ks gs) else none
   |none=>none
  | .vec w id ver off n=>match H[id]? with
   |some (.vec d v rows)=>if ver=v/\d.length=w/\off=0/\Kd.f_ ks d=true then some (ai n rows.length,.listF ks rows) else none
   |_=>none
  |_=>none
def mS(H:List af):List (Option (List Kd))->List AV->Option (Bool × List AV)
 |_,[]=>some (true,[])
 | [],a::as=>match mS H [] as with
  |some (b,d)=>some (b,a::d)
  |none=>none
 | c::cs,a::as=>match Gg H c a,mS H cs as with
  |some (b,g),some (k,d)=>some (b&&k,g::d)
  |_,_=>none
theorem aad{E:Env}(HE:al E){H:List af}(hH:E.H=ah H){k:Option (List Kd)}{a d:AV}{b:Bool}{c:Value}(h:Gg H k a=some (b,d))(hb:b=true)(q:d.closed=true)(hr:rel E a c) :
  rel (E.bare E.w) d c:=by
 unfold Gg at h;split at h
 ·cases h; exact eQ (p8 E) _ q hr
 ·rename_i ks
  split at h
  ·cases h
   simp only[rel,eo,G.rows]at hr|-;obtain⟨base,rfl⟩:=hr;exact⟨base,0,rfl,aB _,.inl trivial⟩
  ·cases h
   simp only[rel,eo,G.rows]at hr|-;subst hr;exact⟨none,0,rfl,aB _,.inl trivial⟩
  ·split at h
   ·rename_i u
    cases h;rw[Kd.gU u];exact eQ (p8 E) _ rfl hr
   ·cases h
  ·split at h
   ·rename_i gs v
    split at h
    ·rename_i hw
     cases h;rw[jq,pQ v];subst hw;exact eQ (p8 E) _ rfl hr
    ·cases h
   ·cases h
  ·split at h
   ·rename_i hid
    split at h
    ·rename_i y
     obtain⟨rfl,I,rfl,g⟩:=y;simp only[aM,aU]at h;obtain⟨h1,rfl⟩:=h;subst hb;have g:=Kd.gU g;subst g;exact NR HE hH hid I (ba h1) hr
    ·cases h
   ·cases h
  ·cases h
theorem Gh{E:Env}(HE:al E){H:List af}(hH:E.H=ah H):∀{ks:List (Option (List Kd))} {as g:List AV} {b:Bool} {cs:List Value},mS H ks as=some (b,g)->b=true ->
  AV.bu g=true->ae E as cs->ae (E.bare E.w) g cs
 | ks,[],g,b,cs,h,_,_,hr=>by
  cases ks<;>simp only[mS]at h<;>cases h<;>(cases cs with
   |nil=>simp[ae]
   |cons _ _=>simp[ae]at hr)
 | [],a::as,g,b,cs,h,hb,d,hr=>by
  cases cs with
  |nil=>simp[ae]at hr
  | cons c cs =>
   simp only[mS]at h;simp only[ae]at hr;split at h
   ·rename_i b1 q h1
    cases h;simp only[AV.bu,ax]at d;simp only[ae];exact⟨eQ (p8 E) _ d.1 hr.1,Gh HE hH h1 hb d.2 hr.2⟩
   ·cases h
 | k::ks,a::as,g,b,cs,h,hb,d,hr=>by
  cases cs with
  |nil=>simp[ae]at hr
  | cons c cs =>
   simp only[mS]at h;simp only[ae]at hr;split at h
   ·rename_i b0 a0 b1 q h0 h1
    simp only[aM,aU]at h;obtain⟨u,rfl⟩:=h;subst u;simp only[ax]at hb;simp only[AV.bu,ax]at d;simp only[ae];exact⟨aad HE hH h0 hb.1 d.1 hr.1,Gh HE hH h1 hb.2 d.2 hr.2⟩
   ·cases h
def Tree.toR(P:Program)(rs:List ResultVar) (ks:List (Option (List Kd))):Tree->kE
 |.fail=>.fail
 | .done x s=>match x with
  |.exit _=>.fail
  | _=>match mJ P s.den rs with
   | some vs=>match mS s.H ks vs with
    |some (b,d)=>.side b (.ret (eI d) s.H)
    |none=>.fail
   |none=>.fail
 |.ask b t e=>.ask b (t.toR P rs ks) (e.toR P rs ks)
 |.side b t=>.side b (t.toR P rs ks)
theorem toR_holds{P:Program}{rs:List ResultVar}{ks:List (Option (List Kd))}{Q:AV->List af->Prop}:∀{t:Tree},(t.toR P rs ks).holds Q ->
  t.holds fun x s=>(x=.normal\/x=.ret)/\∃ vs d,mJ P s.den rs=some vs/\mS s.H ks vs=some (true,d)/\Q (eI d) s.H
 |.fail,h=>h
 | .done x s,h=>by
  have key:∀ y,(y=bU.normal\/y=bU.ret)->(match mJ P s.den rs with
   | some vs=>match mS s.H ks vs with
    |some (b,d)=>kE.side b (.ret (eI d) s.H)
    |none=>.fail
   |none=>.fail).holds Q->(y=.normal\/y=.ret)/\∃ vs d,mJ P s.den rs=some vs/\mS s.H ks vs=some (true,d)/\Q (eI d) s.H:=by
   intro y g h;split at h
   ·rename_i vs k
    split at h
    ·rename_i b d q
     simp only[kE.holds]at h;obtain⟨rfl,h⟩:=h;exact⟨g,vs,d,k,q,h⟩
    ·exact h.elim
   ·exact h.elim
  simp only[Tree.toR]at h;simp only[Tree.holds];cases x with
  |exit i=>exact h.elim
  |normal=>exact key _ (.inl rfl) h
  |ret=>exact key _ (.inr rfl) h
 |.ask _ _ _,h=>⟨fun hb=>toR_holds (h.1 hb),fun hb=>toR_holds (h.2 hb)⟩
 |.side _ _,h=>⟨h.1,toR_holds h.2⟩
def Gi(P:Program)(τ:au)(L:LT)(fn:Func) (ks:List (Option (List Kd))) (args:List AV) (H:List af):kE :=
 match fn.body with
 |some c=>(gu P τ L c ⟨pO args fn.ntmps,H⟩ .done).toR P fn.results.toList ks
 |none=>.fail
theorem N9{E:Env}{vs:List AV}{us:List Value}(h:ae E vs us):rel E (eI vs) (if h:us.toArray.size=1 then us.toArray[0] else .tuple us.toArray):=by
 cases us with
 | nil =>
  cases vs with
  |nil=>simp[eI,rel,ae]
  |cons _ _=>simp[ae]at h
 | cons u us =>
  cases us with
  | nil =>
   cases vs with
   |nil=>simp[ae]at h
   | cons v vs =>
    cases vs with
    |nil=>simp only[ae]at h; simpa[eI]using h.1
    |cons _ _=>simp[ae]at h
  | cons d us =>
   cases vs with
   |nil=>simp[ae]at h
   | cons v vs =>
    cases vs with
    |nil=>simp[ae]at h
    | cons v2 vs =>
     simp only[eI,rel];exact⟨(u::d::us).toArray,by simp,h⟩
theorem aae{P:Program}{f:FuncId}{fn:Func}{c:Code}{args:List AV}{x:bU}{s':ak}{ks:List (Option (List Kd))}{vs d:List AV}
  (hf:P.funcs[f]? = some fn) (hb:fn.body=some c) (hs:dp P 0 c ⟨pO args fn.ntmps,[]⟩ x s'.den) (g:x=.normal\/x=.ret) (hr:mJ P s'.den fn.results.toList=some vs)
  (hc:mS s'.H ks vs=some (true,d)) (ha:AV.bu args=true) (N:AV.bu d=true):c7 P f args (eI d):=by
 intro H E cargs hH HE O
 let E0:Env:={ w:=E.w,H:=[],loc:=[],X:=(E.X.or E.own).re dZ }
 have U:∀ b,¬ E0.own b:=by rintro b (⟨id,c,hid⟩|⟨l,k,c,hk⟩); simp[E0]at hid; simp[E0,dZ]at hk
 have hC:E.bE E0:=⟨fun b hb=>⟨⟨hb.1,U b,fun g=>g.elim hb.2.2 hb.2.1⟩,rfl⟩⟩
 have M:al E0:=by
  refine⟨rfl,?_,?_,?_,?_,HE.fY.bE hC,fun l k l' k' b m n hk=>by simp[E0,dZ]at hk,fun i b m l k n hi=>by simp[E0]at hi,fun l k b m hk=>by simp[E0,dZ]at hk,fun i j o o' l hi=>by simp[E0]at hi,fun l _ k q hk=>by simp[E0,dZ]at hk⟩
  ·intro i j b m n hi; simp[E0]at hi
  ·intro i b m hi; simp[E0]at hi
  ·rintro b (g | ho)
   ·exact HE.X b g
   ·exact(HE.AA ho).1
  ·intro i o hi; simp[E0]at hi
 refine M_ hf hb ?_;have W:=Nb M;have hargs0:=rK W _ (pz hC args ha O);have hrel:df ⟨pO args fn.ntmps,[]⟩ { E0 with X:=⟨E0.X.x,fun _=>False,E0.X.r⟩ } { tmps:=cargs++Array.replicate (fn.ntmps-cargs.size) undef,defers:=[] }:=by
  refine⟨rfl,?_,Ew _ _,M.ir W⟩;simp only[pO,Ai,Array.toList_replicate];refine ny hargs0 ?_;have:=jn O;have e:args.length=cargs.size:=by simpa using this
  rw[e];have:=Fs (E:={ E0 with X:=⟨E0.X.x,fun _=>False,E0.X.r⟩ }) (bQ (fn.ntmps-cargs.size) undef);simpa using this
 refine wpIn_mono (hs none (M2 _) { E0 with X:=⟨E0.X.x,fun _=>False,E0.X.r⟩ } _ hrel) fun e a1 w0 ⟨h3,loc',X',y,I⟩=>?_;refine⟨by subst h3; rcases g with rfl|rfl; exact .inl rfl; exact .inr rfl,X',y.defers,fun u k1 k2 k3=>?_⟩;obtain⟨y,I⟩:=Na M y I k1 k2 k3;obtain⟨us,g1,g2⟩:=Fq y fn.results.toList vs hr;have hres:(results fn a1.tmps).run P u=.ok (if h:us.toArray.size=1 then us.toArray[0] else .tuple us.toArray) u:=by
  rw[M7];simp only[Sem.run_bind];rw[Array.mapM_eq_mapM_toList,Sem.run_map,g1];rfl
 have g3:=Gh y.heap rfl hc rfl N g2;have g4:=N9 g3;have V:Ext E.w u:=⟨I.size,fun b hb=>I.same b hb (U b),I.env⟩
 have hcl:(eI d).closed=true:=by
  cases d with
  |nil=>rfl
  | cons v vs =>
   cases vs with
   |nil=>simpa[eI,AV.bu]using N
   |cons v2 vs=>simpa only[eI,AV.closed]using N
 have g5:rel { E with w:=u } (eI d) (if h:us.toArray.size=1 then us.toArray[0] else .tuple us.toArray) :=
  eQ (E:=({ w:=u,H:=ah s'.H,loc:=loc',X:=E0.X.re X'.r }:Env).bare u) (E':={ E with w:=u }) ⟨fun b hb=>⟨⟨hb.1,fun ho=>hb.2.2 (Or.inr ho),fun g=>hb.2.2 (Or.inl g)⟩,rfl⟩⟩ _ hcl g4
 refine⟨_,hres,_,eI d,H,rfl,⟨rfl,rfl⟩,E.loc,E.X.r,?_,?_,?_⟩
 ·rw[<-hH]; exact g5
 ·rw[<-hH]; exact HE.ext V
 ·rw[<-hH]; exact Env.kl V
theorem aaf{vs:List AV}{v:AV}(h:eI vs=v)(d:v.closed=true):AV.bu vs=true:=by
 subst h;cases vs with
 |nil=>rfl
 | cons v vs =>
  cases vs with
  |nil=>simpa[eI,AV.bu]using d
  |cons v2 vs=>simpa only[eI,AV.closed]using d
theorem eg{P:Program}{τ:au}{L:LT}(hm:P.follows .mixedOrders=true)(g:aw P τ){f:FuncId}{fn:Func} (ks:List (Option (List Kd))) {args:List AV} {v:AV}
  (k:∀ c,fn.body=some c->ay P 0 L c)
  (q:P.funcs[f]? = some fn) (ha:AV.bu args=true) (u:v.closed=true) (h:(Gi P τ L fn ks args []).val=some v):c7 P f args v:=by
 have h:=Bw h;unfold Gi at h;split at h
 ·rename_i c hb
  obtain⟨x,s',h1,y,vs,N,I,M,d⟩:=lZ hm g c _ _ (k c hb) (toR_holds h);rw[<-d];exact aae q hb h1 y I M ha (aaf d u)
 ·exact h.elim
end Go.AL

namespace Go.AL
open Go
variable [Dr]
def N_(ms:List Nat):au:={ pf:=fun g=>ms.any fun t=>ai g (t+1000000),T:=fun _ _=>none,W:=fun _ _ _=>none,C:=fun _ _ _=>[],U:=fun _=>false }
theorem aag(P:Program)(ms:List Nat):aw P (N_ ms):=⟨fun _ _ _ _ h=>(nomatch h),fun _ _ _ _ _ _ h=>(nomatch h),fun _ _ _ _ _ _ h=>(nomatch h),fun _ _ _ _ h=>(nomatch h),fun _ _ _ _=>⟨rfl,rfl⟩,fun _ h=>(nomatch h)⟩
def au.add(τ:au)(f:FuncId)(c:List AV->Option (Bool × AV)):au where
 pf g:=match ai g f with
  |true=>true
  |false=>τ.pf g
 T g args:=match ai g f with
  |true=>c args
  |false=>τ.T g args
 W:=τ.W
 C:=τ.C
 I:=τ.I
 N:=τ.N
 U:=τ.U
theorem aw.add{P:Program}{τ:au}(h:aw P τ){f:FuncId}{c:List AV->Option (Bool × AV)}(hb:jd P f=true)(q:∀ args b v,c args=some (b,v)->b=true->c7 P f args v) :
  aw P (τ.add f c):=by
 refine⟨fun g args b v d k=>?_,h.W,h.C,h.I,h.F⟩;simp only[au.add]at d;split at d
 ·rename_i e
  have e:=ba e;subst e;exact⟨hb,q args b v d k⟩
 ·exact h.T g args b v d k
def aA:LT:=⟨fun _ _=>none,fun _ s=>(true,s),fun _ _=>none⟩
theorem aO(P:Program)(m:Nat)(c:Code):ay P m aA c:=⟨fun _ _ _ _ _ h=>(nomatch h),fun _ _ _=>bh.refl _,fun _ _ _ _ _ h=>(nomatch h)⟩
def au.inline(P:Program)(τ:au)(f:FuncId)(fn:Func) (ks:List (Option (List Kd))):au:=τ.add f fun args =>
 match (Gi P τ aA fn ks args []).val with
 | some v=>match AV.bu args&&v.closed with
  |true=>some (true,v)
  |false=>none
 |none=>none
theorem aw.inline{P:Program}{τ:au}(h:aw P τ)(hm:P.follows .mixedOrders=true){f:FuncId}{fn:Func}(k:P.funcs[f]? = some fn)(hb:jd P f=true) (ks:List (Option (List Kd))) :
  aw P (τ.inline P f fn ks):=h.add hb fun args b v d _=>by
 split at d
 ·rename_i u hu
  split at d
  ·rename_i g
   simp only[ax]at g;cases d;exact eg hm h ks (fun _ _=>aO _ _ _) k g.1 g.2 hu
  ·cases d
 ·cases d
abbrev aS(s:ByteArray):AV:=.lit (.string s)
end Go.AL

namespace Go.AL
open Go
variable [Dr]
def xV(slot:Nat)(ks:List Kd)(s:ak):ak:=⟨s.fr.set slot (.vec ks.length s.H.length 0 0 0),s.H++[.vec ks 0 []]⟩
def isNil:AV->Bool
 |.nils | .lit (.slice none 0 0)=>true
 |_=>false
theorem N'{E:Env}{a:AV}{c:Value}(h:isNil a=true)(hr:rel E a c):∃ base,c=.slice base 0 0:=by
 unfold isNil at h;split at h
 ·simpa only[rel]using hr
 ·simp only[rel]at hr; exact⟨none,hr⟩
 ·cases h
theorem Oa{m:Nat}{slot:Nat}{ks:List Kd}{s:ak}(h:isNil (s.fr.getD slot .undef)=true):bh m s.den (xV slot ks s).den:=fun E a d=>by
 have hH:E.H=ah s.H:=d.H;have hlen:E.H.length=s.H.length:=by rw[hH,eJ]
 have hle:E.le (E.push E.w (.vec ks.length 0 []) none):=Env.k9 d.heap.len (Ext.refl _) (fun b n h=>by cases h);have q:aI (E.push E.w (.vec ks.length 0 []) none) E.H.length (.vec ks.length 0 []):=by
  simp only[aI,Env.push];refine .inl ⟨?_,trivial⟩;rw[iJ (by rw[d.heap.len]; exact aB _),d.heap.len,lH];rfl
 have u:al (E.push E.w (.vec ks.length 0 []) none):=al.push d.heap (Ext.refl _) (fun b n h=>by cases h) q;have k:(xV slot ks s).den.H=E.H++[.vec ks.length 0 []]:=by
  rw[hH];simp[xV,ak.den,ah,af.den]
 refine⟨E.loc++[none],E.X,?_,?_⟩
 ·rw [k]
  refine⟨k.symm,?_,d.defers,u⟩;have h':=dw hle _ d.fr;have I:∀(fr:List AV) (cs:List Value) (i:Nat),ae E fr cs->isNil (fr.getD i .undef)=true->ae (E.push E.w (.vec ks.length 0 []) none) fr cs ->
    ae (E.push E.w (.vec ks.length 0 []) none) (fr.set i (.vec ks.length s.H.length 0 0 0)) cs:=by
   intro fr
   induction fr with
   |nil=>intro cs i h0 h1 g; exact g
   | cons b fr M =>
    intro cs i h0 h1 g;cases cs with
    |nil=>simp[ae]at h0
    | cons c cs =>
     simp only[ae]at h0 g;cases i with
     | zero =>
      simp only[List.set_cons_zero,ae];refine⟨?_,g.2⟩;obtain⟨base,rfl⟩:=N' (by simpa using h1) h0.1;have N:(E.push E.w (.vec ks.length 0 []) none).H[s.H.length]? = some (.vec ks.length 0 []):=by
       simp only[Env.push];rw[iJ (by omega),hlen,lH];rfl
      have y:(E.push E.w (.vec ks.length 0 []) none).loc[s.H.length]? = some none:=by
       simp only[Env.push];rw[iJ (by rw[d.heap.len]; omega),d.heap.len,hlen,lH];rfl
      simp only[rel];refine⟨⟨base,0,rfl,aB _,fun h=>absurd h (An _)⟩,⟨_,N,rfl,fun v h=>dX _⟩,fun _=>⟨fun _=>⟨trivial,trivial,base,rfl⟩,fun b m hb=>?_⟩⟩;rw[y]at hb;cases hb
     | succ i =>
      simp only[List.set_cons_succ,ae];exact⟨g.1,M cs i h0.2 (by simpa using h1) g.2⟩
  exact I s.fr _ slot d.fr h h'
 ·rw [k]
  exact hle.toM
def cF(fn:Func)(k:Nat):Code:=match fn.body with
 | some c=>match (bO c).find? fun p=>ai p.1 k with
  |some p=>p.2
  |none=>.skip
 |none=>.skip
theorem xW{P:Program}{f:FuncId}{vs:List Value}{u:Value}(h:∀ w,Calls P f vs.toArray w fun e w'=>e=.returned u/\Ext w w'):c7 P f (vs.map .lit) (.lit u):=by
 intro H E cargs hH HE g;have e:cargs=vs.toArray:=by
  have:∀(vs us:List Value),ae E (vs.map AV.lit) us->us=vs:=by
   intro vs
   induction vs with
   | nil=>intro us h; cases us with
    |nil=>rfl
    |cons _ _=>simp[ae]at h
   | cons v vs k =>
    intro us h;cases us with
    |nil=>simp[ae]at h
    | cons u us =>
     simp only[bX,ae,rel]at h;rw[h.1,k us h.2]
  have:=this vs cargs.toList g;rw[<-this]
 rw[e];refine(h E.w).mono ?_;rintro _ w' ⟨rfl,d⟩;refine⟨u,.lit u,H,rfl,⟨rfl,rfl⟩,E.loc,E.X.r,by simp[rel],?_,?_⟩
 ·rw[<-hH]; exact HE.ext d
 ·rw[<-hH]; exact Env.kl d
end Go.AL

namespace Go.AL
open Go
variable [Dr]
def oN(ks:List Kd):AV->Option (List (List G))
 |.nils | .lit (.slice none 0 0)=>some []
 |.emptyS _=>some []
 |.listF d rows=>if Kd.f_ ks d then some rows else none
 | .list w rows=>match a_ ks rows with
  |some gs=>if w=ks.length then some gs else none
  |none=>none
 |_=>none
def Gj(ks:List Kd):AV->Option (List G)
 |.agg cells=>gI ks cells
 |_=>none
theorem Ob{E:Env}{ks:List Kd}{a:AV}{rows:List (List G)}{c:Value}(h:oN ks a=some rows)(hr:rel E a c):rel E (.listF ks rows) c:=by
 unfold oN at h;split at h
 ·cases h
  simp only[rel,eo,G.rows]at hr|-;obtain⟨base,rfl⟩:=hr;exact⟨base,0,rfl,aB _,.inl trivial⟩
 ·cases h
  simp only[rel,eo,G.rows]at hr|-;subst hr;exact⟨none,0,rfl,aB _,.inl trivial⟩
 ·cases h
  simp only[rel,eo,G.rows]at hr|-;obtain⟨base,cap,rfl,_⟩:=hr;exact⟨base,cap,rfl,dX _,.inl trivial⟩
 ·split at h
  ·rename_i d
   cases h;rw[Kd.gU d];exact hr
  ·cases h
 ·split at h
  ·rename_i gs g
   split at h
   ·rename_i hw
    cases h;rw[jq,pQ g];subst hw;exact hr
   ·cases h
  ·cases h
 ·cases h
theorem Oc{ks:List Kd}{a:AV}{r:List G}(h:Gj ks a=some r):a=.agg (aD ks r):=by
 unfold Gj at h;split at h
 ·rw[ll h]
 ·cases h
end Go.AL

namespace Go.AL
open Go
variable [Dr]
structure bL where
 ids:List Nat
 sh:List Nat
 base:Nat
def bL.at(e:bL)(j:Nat):Nat:=match e.ids[j]? with
 |some i=>i
 |none=>e.base+(j-e.ids.length)
def bL.up(e:bL)(j:Nat):Nat:=e.sh.getD j 0
mutual
def AV.bW(e:bL):AV->AV
 |.agg cs=>.agg (AV.lq e cs)
 |.tuple cs=>.tuple (AV.lq e cs)
 |.clo f cs=>.clo f (AV.lq e cs)
 |.ptr id ver k row col=>.ptr (e.at id) (ver+e.up id) k row col
 |.vec k id ver off n=>.vec k (e.at id) (ver+e.up id) off n
 |.map id=>.map (e.at id)
 |.sub ..=>.undef
 |.svec ..=>.undef
 |.sptr ..=>.undef
 |a=>a
def AV.lq(e:bL):List AV->List AV
 | []=>[]
 |a::as=>a.bW e::AV.lq e as
end
def ab.bW(e:bL)(j:Nat):ab->ab
 |.box cells=>.box (AV.lq e cells)
 |.vec k v rows=>.vec k (v+e.up j) rows
 |o=>o
theorem Od(e:bL):∀(as:List AV),(AV.lq e as).length=as.length
 | []=>rfl
 |_::as=>by simp[AV.lq,Od e as]
mutual
def AV.bz:AV->Bool
 |.agg cs | .tuple cs | .clo _ cs=>AV.cz cs
 |.list .. | .listF .. | .cptr _=>false
 |_=>true
def AV.cz:List AV->Bool
 | []=>true
 |a::as=>a.bz&&AV.cz as
end
structure rX (S:Bool) (e:bL) (E E':Env):Prop where
 ok:S=false->∀ b,E.jN b->E'.jN b/\E'.w.heap[b]? = E.w.heap[b]?
 past:∀ j ver,E.past j ver->E'.past (e.at j) (ver+e.up j)
 live:∀ j ver,E.past j ver->E'.live (e.at j) (ver+e.up j)->E.live j ver/\E'.loc[e.at j]? = E.loc[j]?
theorem rX.bE{e:bL}{E E':Env}(h:rX false e E E'):E.bE E':=⟨h.ok rfl⟩
mutual
theorem Gk{S:Bool}{e:bL}{E E':Env}(h:rX S e E E'):∀(a:AV) {c:Value},(S=true->a.bz=true)->rel E a c->rel E' (a.bW e) c
 |.undef,_,_,_=>by simp[AV.bW,rel]
 |.lit v,c,_,hr=>by simpa only[AV.bW,rel]using hr
 |.nils,c,_,hr=>by simpa only[AV.bW,rel]using hr
 | .list k rows,c,g,hr=>by
  cases S with
  |true=>exact absurd (g rfl) (by simp[AV.bz])
  |false=>exact eQ h.bE (.list k rows) rfl hr
 | .listF ks rows,c,g,hr=>by
  cases S with
  |true=>exact absurd (g rfl) (by simp[AV.bz])
  |false=>exact eQ h.bE (.listF ks rows) rfl hr
 | .cptr cells,c,g,hr=>by
  cases S with
  |true=>exact absurd (g rfl) (by simp[AV.bz])
  |false=>exact eQ h.bE (.cptr cells) rfl hr
 |.ifc,c,_,hr=>by simpa only[AV.bW,rel]using hr
 |.emptyS n,c,_,hr=>by simpa only[AV.bW,rel]using hr
 |.sub ..,c,_,_=>by simp only[AV.bW,rel]
 |.svec ..,c,_,_=>by simp only[AV.bW,rel]
 |.sptr ..,c,_,_=>by simp only[AV.bW,rel]
 | .agg cells,c,g,hr=>by
  simp only[rel]at hr;simp only[AV.bW,rel];obtain⟨cs,u,h1,d⟩:=hr;exact⟨cs,u,h1,Bx h cells (fun e=>by simpa only[AV.bz]using g e) d⟩
 | .tuple cells,c,g,hr=>by
  simp only[rel]at hr;simp only[AV.bW,rel];obtain⟨cs,u,d⟩:=hr;exact⟨cs,u,Bx h cells (fun e=>by simpa only[AV.bz]using g e) d⟩
 | .clo f cells,c,g,hr=>by
  simp only[rel]at hr;simp only[AV.bW,rel];obtain⟨cs,u,d⟩:=hr;exact⟨cs,u,Bx h cells (fun e=>by simpa only[AV.bz]using g e) d⟩
 | .ptr id ver k row col,c,_,hr=>by
  simp only[rel]at hr;simp only[AV.bW,rel];obtain⟨h1,d,y⟩:=hr;refine⟨h1,h.past _ _ d,fun q=>?_⟩;obtain⟨g1,g2⟩:=h.live _ _ d q;rw[g2];exact y g1
 | .vec k id ver off n,c,_,hr=>by
  simp only[rel]at hr;simp only[AV.bW,rel];obtain⟨h1,d,y⟩:=hr;refine⟨h1,h.past _ _ d,fun q=>?_⟩;obtain⟨g1,g2⟩:=h.live _ _ d q;rw[g2];exact y g1
 | .map id,c,_,hr=>by
  simp only[rel]at hr;simp only[AV.bW,rel];obtain⟨h1,d,y⟩:=hr;have N:=h.past _ _ d;refine⟨h1,?_,fun q=>?_⟩
  ·obtain ⟨o, I, M⟩ := N
   exact⟨o,I,M.1,fun v V=>dX _⟩
  ·have hu:e.up id=0:=by
    obtain⟨o,I,M⟩:=N;obtain⟨o2,O,U⟩:=q;rw[I]at O;cases O;have:=M.2 0 U;omega
   obtain⟨g1,g2⟩:=h.live _ _ d (by rw[hu]; exact q);rw[g2];exact y g1
theorem Bx{S:Bool}{e:bL}{E E':Env}(h:rX S e E E'):∀(as:List AV) {vs:List Value},(S=true->AV.cz as=true)->ae E as vs->ae E' (AV.lq e as) vs
 | [],[],_,_=>by simp[AV.lq,ae]
 | [],_::_,_,hr=>by simp[ae]at hr
 |_::_,[],_,hr=>by simp[ae]at hr
 | a::as,v::vs,d,hr=>by
  simp only[AV.cz,ax]at d;simp only[ae]at hr;simp only[AV.lq,ae];exact⟨Gk h a (fun e=>(d e).1) hr.1,Bx h as (fun e=>(d e).2) hr.2⟩
end
structure KeepIn (e:bL) (E E':Env):Prop where
 ok:∀ b,E.jN b->E'.jN b/\E'.w.heap[b]? = E.w.heap[b]?
 w:E'.w=E.w
 loc:∀ j,j<e.ids.length->E'.loc[j]? = E.loc[e.at j]?
 kF:∀(j:Nat) o l,E'.H[j]? = some o->o.label=some l->E'.X.r l=E.X.r l
theorem KeepIn.bE{e:bL}{E E':Env}(h:KeepIn e E E'):E.bE E':=⟨h.ok⟩
structure uB (e:bL) (kG:List Nat) (E E':Env):Prop extends KeepIn e E E' where
 aah:∀ i,i∈kG->∀ b n,E.loc[i]? = some (some (b,n))->E'.jN b
def eU{α:Type}:List α->List Nat->List α->List α
 |l,i::is,x::xs=>eU (l.set i x) is xs
 |l,_,_=>l
theorem p9{α:Type}:∀(is:List Nat) (l xs:List α),(eU l is xs).length=l.length
 | [],_,_=>by simp[eU]
 |_::_,_,[]=>by simp[eU]
 |i::is,l,x::xs=>by simp[eU,p9 is]
theorem By{α:Type}:∀(is:List Nat) (l xs:List α) (n:Nat),n∉is->(eU l is xs)[n]? = l[n]?
 | [],_,_,_,_=>by simp[eU]
 |_::_,_,[],_,_=>by simp[eU]
 | i::is,l,x::xs,n,h=>by
  simp only[bC,not_or]at h;simp only[eU];rw[By is _ xs n h.2,aQ (Ne.symm h.1)]
theorem Oe{α:Type}:∀(is:List Nat) (l xs:List α) (j i:Nat) (x:α),is.Nodup->is[j]? = some i->xs[j]? = some x->i<l.length->(eU l is xs)[i]? = some x
 | [],_,_,_,_,_,_,h,_,_=>by simp at h
 |_::_,_,[],_,_,_,_,_,h,_=>by simp at h
 | k::is,l,y::xs,0,i,x,g,h1,d,q=>by
  simp at h1 d;subst h1; subst d;simp only[eU];have:k∉is:=(nq.1 g).1;rw[By is _ xs k this,List.getElem?_set_self q]
 | k::is,l,y::xs,j+1,i,x,g,h1,d,q=>by
  simp only[eU];exact Oe is _ xs j i x (nq.1 g).2 (by simpa using h1) (by simpa using d) (by simpa using q)
def ab.Bz(e:bL)(j:Nat):ab->Bool
 |.dead=>true
 |.vec _ _ _=>true
 |_=>ai (e.up j) 0
def l4(e:bL):Nat->List ab->List ab
 |_,[]=>[]
 |j,o::os=>o.bW e j::l4 e (j+1) os
def jA(e:bL):Nat->List ab->Bool
 |_,[]=>true
 |j,o::os=>o.Bz e j&&jA e (j+1) os
theorem Gl(e:bL):∀(j:Nat) (os:List ab),(l4 e j os).length=os.length
 |_,[]=>rfl
 |j,_::os=>by simp[l4,Gl e (j+1) os]
theorem Of(e:bL):∀(j:Nat) (os:List ab) (i:Nat),(l4 e j os)[i]? = (os[i]?).map (ab.bW e (j+i))
 |_,[],i=>by simp[l4]
 |j,o::os,0=>by simp[l4]
 | j,o::os,i+1=>by
  simp only[l4,List.getElem?_cons_succ,Of e (j+1) os i];rw[show j+1+i=j+(i+1) from by omega]
theorem Og{e:bL}:∀{j:Nat} {os:List ab} {i:Nat} {o:ab},jA e j os=true->os[i]? = some o->o.Bz e (j+i)=true
 |_,[],i,_,_,h=>by simp at h
 | j,_::os,0,o,h,hi=>by
  simp only[jA,ax]at h;simp at hi;subst hi;exact h.1
 | j,_::os,i+1,o,h,hi=>by
  simp only[jA,ax]at h;have:=Og h.2 (by simpa using hi)
  rwa [show j+1+i=j+(i+1) from by omega]at this
theorem xX{e:bL}{j:Nat}{o:ab}(h:o.Bz e j=true)(v:Nat):(o.bW e j).aF = some v↔∃ u,o.aF = some u/\v=u+e.up j:=by
 cases o with
 |dead=>simp[ab.bW,ab.aF]
 |eP=>simp[ab.bW,ab.aF]
 |vec k u rows=>simp[ab.bW,ab.aF,eq_comm]
 | box cells =>
  have:=ba h;simp[ab.bW,ab.aF,this,eq_comm]
 | map es cl =>
  have:=ba h;simp[ab.bW,ab.aF,this,eq_comm]
 | iter s p =>
  have:=ba h;simp[ab.bW,ab.aF,this,eq_comm]
 | fN l T B s =>
  have:=ba h;simp[ab.bW,ab.aF,this,eq_comm]
 | aJ l k es cl =>
  have:=ba h;simp[ab.bW,ab.aF,this,eq_comm]
 | mm l es ms cl =>
  have:=ba h;simp[ab.bW,ab.aF,this,eq_comm]
 | b_ l k n ms =>
  have:=ba h;simp[ab.bW,ab.aF,this,eq_comm]
 | bp l k es cl =>
  have:=ba h;simp[ab.bW,ab.aF,this,eq_comm]
theorem Oh(e:bL)(j:Nat)(o:ab):(o.bW e j).born=o.born:=by cases o<;>rfl
theorem Oi(e:bL)(j:Nat)(o:ab):(o.bW e j).label=o.label:=by cases o<;>rfl
theorem aai(e:bL)(j:Nat)(o:ab):(o.bW e j).dc=o.dc:=by cases o<;>rfl
theorem Oj{k:AV}(h:k.bz=true):(gj k).1.bz=true/\(gj k).2.bz=true:=by
 unfold gj;split
 ·simpa only[AV.bz,AV.cz,gD,ax]using h
 ·exact⟨h,rfl⟩
def ab.bz:ab->Bool
 |.box cells=>AV.cz cells
 |.vec _ _ rows=>rows.all fun r=>AV.cz r
 |.map es _=>es.all fun x=>x.1.bz&&x.2.1.bz
 | .aJ _ _ es _=>es.all fun x=>x.1.bz&&(match x.2.1 with
  |some rows=>rows.all fun r=>AV.cz r
  |none=>true)
 |.mm _ es ms _=>(es.all fun x=>x.1.bz)&&ms.all fun m=>m.1.all fun x=>x.1.bz&&x.2.1.bz
 |.b_ _ _ _ ms=>ms.all fun rows=>rows.all fun r=>AV.cz r
 | .bp _ _ es _=>es.all fun x=>x.1.bz&&((match x.2.1.1 with
  |some rows=>rows.all fun r=>AV.cz r
  |none=>true)&&(match x.2.1.2 with
  |some rows=>rows.all fun r=>AV.cz r
  |none=>true))
 |_=>true
theorem Ol{S:Bool}{e:bL}{E E':Env}(h:rX S e E E'){b:Nat}(hb:E'.w.heap[b]? = E.w.heap[b]?):∀(as:List AV) {o:Nat},(S=true->AV.cz as=true)->cu E as b o->cu E' (AV.lq e as) b o
 | [],_,_,_=>by simp[AV.lq,cu]
 | a::as,o,d,hr=>by
  simp only[AV.cz,ax]at d;simp only[cu]at hr;simp only[AV.lq,cu];obtain⟨⟨v,h1,g,k⟩,q⟩:=hr;exact⟨⟨v,by rw[World.tv hb]; exact h1,g,Gk h a (fun e=>(d e).1) k⟩,Ol h hb as (fun e=>(d e).2) q⟩
mutual
theorem BA{E E':Env}:∀(a:AV) {c:Value},a.closed=true->a.bz=true->rel E a c->rel E' a c
 |.undef,_,_,_,_=>by simp[rel]
 |.lit v,c,_,_,hr=>by simpa only[rel]using hr
 |.nils,c,_,_,hr=>by simpa only[rel]using hr
 |.ifc,c,_,_,hr=>by simpa only[rel]using hr
 |.emptyS n,c,_,_,hr=>by simpa only[rel]using hr
 |.list ..,_,_,h,_ | .listF ..,_,_,h,_ | .cptr _,_,_,h,_=>by simp[AV.bz]at h
 |.ptr ..,_,h,_,_ | .vec ..,_,h,_,_ | .map _,_,h,_,_=>by simp[AV.closed]at h
 | .agg cells,c,d,g,hr=>by
  simp only[rel]at hr|-;obtain⟨cs,e,h1,k⟩:=hr;exact⟨cs,e,h1,BB cells (by simpa only[AV.closed]using d) (by simpa only[AV.bz]using g) k⟩
 | .tuple cells,c,d,g,hr=>by
  simp only[rel]at hr|-;obtain⟨cs,e,k⟩:=hr;exact⟨cs,e,BB cells (by simpa only[AV.closed]using d) (by simpa only[AV.bz]using g) k⟩
 | .clo f cells,c,d,g,hr=>by
  simp only[rel]at hr|-;obtain⟨cs,e,k⟩:=hr;exact⟨cs,e,BB cells (by simpa only[AV.closed]using d) (by simpa only[AV.bz]using g) k⟩
theorem BB{E E':Env}:∀(as:List AV) {vs:List Value},AV.bu as=true->AV.cz as=true->ae E as vs->ae E' as vs
 | [],[],_,_,_=>by simp[ae]
 | [],_::_,_,_,hr=>by simp[ae]at hr
 |_::_,[],_,_,hr=>by simp[ae]at hr
 | a::as,v::vs,d,g,hr=>by
  simp only[AV.bu,AV.cz,ax]at d g;simp only[ae]at hr|-;exact⟨BA a d.1 g.1 hr.1,BB as d.2 g.2 hr.2⟩
end
theorem Om{E E':Env}{b:Nat}(hb:E'.w.heap[b]? = E.w.heap[b]?):∀(as:List AV) {o:Nat},AV.bu as=true->AV.cz as=true->cu E as b o->cu E' as b o
 | [],_,_,_,_=>by simp[cu]
 | a::as,o,d,g,hr=>by
  simp only[AV.bu,AV.cz,ax]at d g;simp only[cu]at hr|-;obtain⟨⟨v,h1,k,q⟩,u⟩:=hr;exact⟨⟨v,by rw[World.tv hb]; exact h1,k,BA a d.1 g.1 q⟩,Om hb as d.2 g.2 u⟩
theorem xY{E E':Env}{b k:Nat}(hb:E'.w.heap[b]? = E.w.heap[b]?):∀(rs:List (List AV)) {o:Nat},eD rs->(rs.all fun r=>AV.cz r)=true->cy E k rs b o->cy E' k rs b o
 | [],_,_,_,_=>by simp[cy]
 | r::rs,o,g,d,hr=>by
  simp only[nm,ax]at d;simp only[cy]at hr|-;exact⟨hr.1,Om hb r (g r bZ) d.1 hr.2.1,xY hb rs (fun x q=>g x (cq _ q)) d.2 hr.2.2⟩
theorem uC{E E':Env}:∀{es:List (AV × AV × Nat)} {ms:List MapEntry},(es.all fun x=>x.1.bz&&x.2.1.bz)=true->bt E es ms->bt E' es ms
 | [],[],_,_=>by simp[bt]
 | (k,v,n)::es,e::ms,d,hr=>by
  simp only[nm,ax]at d;simp only[bt]at hr|-;obtain⟨h1,u,y,g,q,I⟩:=hr;exact⟨BA k g d.1.1 h1,BA v q d.1.2 u,y,g,q,uC d.2 I⟩
 | [],_::_,_,hr=>by simp[bt]at hr
 |_::_,[],_,hr=>by simp[bt]at hr
theorem jB{E E':Env}(h:E.bE E'):∀{es:List (AV × AV × Nat)} {ms:List MapEntry},bt E es ms->bt E' es ms
 | [],[],_=>by simp[bt]
 | (k,v,n)::es,e::ms,hr=>by
  simp only[bt]at hr|-;obtain⟨h1,q,u,d,g,y⟩:=hr;exact⟨eQ h k d h1,eQ h v g q,u,d,g,jB h y⟩
 | [],_::_,hr=>by simp[bt]at hr
 |_::_,[],hr=>by simp[bt]at hr
theorem aaj{S:Bool}{e:bL}{E E':Env}(h:rX S e E E'){j:Nat}{o:ab}(hS:S=true->o.bz=true)(N:E'.loc[e.at j]? = E.loc[j]?) (hb:∀ b n,E.loc[j]? = some (some (b,n))->E'.w.heap[b]? = E.w.heap[b]?)
  (hg:∀ l,o.label=some l->E'.X.r l=E.X.r l/\∀(h g m:Nat),(E.X.r l)[h]? = some (some (some (g,m)))->E'.w.heap[g]? = E.w.heap[g]?)
  (ho:aI E j o):aI E' (e.at j) (o.bW e j):=by
 cases o with
 |dead=>simp only[ab.bW,aI]at *; rw[N]; exact ho
 |eP=>simp only[ab.bW,aI]at *; rw[N]; exact ho
 | box cells =>
  simp only[ab.bW,aI]at *;obtain⟨b,n,h1,u,I⟩:=ho;exact⟨b,n,by rw[N,h1],by rw[Od]; exact tx (hb b n h1) u,Ol h (hb b n h1) cells (fun e=>by simpa only[ab.bz]using hS e) I⟩
 | vec k ver rows =>
  simp only[ab.bW,aI]at *;rcases ho with⟨h1,u⟩|⟨b,m,h1,u,I,O,d⟩
  ·exact .inl ⟨by rw[N,h1],u⟩
  ·refine .inr ⟨b, m, by rw [N, h1], tx (hb b m h1) u, I, O, ?_⟩
   cases S with
   |true=>exact xY (hb b m h1) rows O (by simpa only[ab.bz]using hS rfl) d
   |false=>exact jO h.bE rows O (hb b m h1) d
 | map es clock =>
  simp only[ab.bW,aI]at *;obtain⟨b,n,ms,h1,u,I⟩:=ho;refine⟨b,n,ms,by rw[N,h1],by rw[hb b n h1,u],?_⟩;cases S with
  |true=>exact uC (by simpa only[ab.bz]using hS rfl) I
  |false=>exact jB h.bE I
 | iter s pos =>
  simp only[ab.bW,aI]at *;obtain⟨b,n,h1,u⟩:=ho;exact⟨b,n,by rw[N,h1],by rw[hb b n h1,u]⟩
 | fN l T B s =>
  simp only[ab.bW,aI]at *;obtain⟨b,n,p,v,k,q,h1,u,I,O,d,h6⟩:=ho;obtain⟨g1,g2⟩:=hg l rfl;exact⟨b,n,p,v,k,q,by rw[N,h1],by rw[hb b n h1,u],I,by rw[g1,O],by rw[g1]; exact d,Eo (fun g m e=>g2 k g m (by rw[O,e])) h6⟩
 | aJ l k es clock =>
  simp only[ab.bW,aI]at *;obtain⟨b,n,ms,h1,u,I,O⟩:=ho;obtain⟨g1,g2⟩:=hg l rfl;have U:S=true->∀ x∈es,x.1.bz=true/\∀ rows,x.2.1=some rows->(rows.all fun r=>AV.cz r)=true:=fun e x M=>by
   have d:=da.1 (by simpa only[ab.bz]using hS e) x M;simp only[ax]at d;exact⟨d.1,fun rows hr=>by rw[hr]at d; exact d.2⟩
  refine⟨b,n,ms,by rw[N,h1],by rw[hb b n h1,u],?_,wT (fun h g m hk=>⟨by rw[g1]; exact hk,g2 h g m hk⟩) (fun i x rows hi M b V W hr=>?_) O⟩
  ·cases S with
   | true =>
    refine uC (da.2 fun x M=>?_) I;obtain⟨y,hy,rfl⟩:=cH.1 M;simp[(Oj (U rfl y hy).1).1,(Oj (U rfl y hy).1).2]
   |false=>exact jB h.bE I
  ·cases S with
   |true=>exact xY V rows W ((U rfl x (dJ hi)).2 rows M) hr
   |false=>exact jO h.bE rows W V hr
 | mm l es ms clock =>
  simp only[ab.bW,aI]at *;obtain⟨b,n,mes,h1,u,I,O⟩:=ho;obtain⟨g1,g2⟩:=hg l rfl;have U:S=true->(es.all fun x=>x.1.bz)=true/\∀ m∈ms,(m.1.all fun x=>x.1.bz&&x.2.1.bz)=true:=fun e=>by
   have d:=hS e;simp only[ab.bz,ax]at d;exact⟨d.1,da.1 d.2⟩
  refine⟨b,n,mes,by rw[N,h1],by rw[hb b n h1,u],?_,Er g1 g2 (fun m hm q hq=>?_) O⟩
  ·cases S with
   | true =>
    refine uC (da.2 fun x M=>?_) I;obtain⟨y,hy,rfl⟩:=cH.1 M;simp[da.1 (U rfl).1 y hy,AV.bz]
   |false=>exact jB h.bE I
  ·cases S with
   |true=>exact uC ((U rfl).2 m hm) hq
   |false=>exact jB h.bE hq
 | b_ l k n ms =>
  simp only[ab.bW,aI]at *;obtain⟨b,m,cs,el,h1,u,I⟩:=ho;obtain⟨g1,g2⟩:=hg l rfl;refine⟨b,m,cs,el,by rw[N,h1],by rw[hb b m h1,u],Et g1 g2 (fun rows hm b V W hr=>?_) I⟩;cases S with
  |true=>exact xY V rows W (da.1 (by simpa only[ab.bz]using hS rfl) rows hm) hr
  |false=>exact jO h.bE rows W V hr
 | bp l k es clock =>
  simp only[ab.bW,aI]at *;obtain⟨b,n,ms,h1,u,I,O⟩:=ho;obtain⟨g1,g2⟩:=hg l rfl;have U:S=true->∀ x∈es,x.1.bz=true/\∀ s rows,(fX s x).2.1=some rows->(rows.all fun r=>AV.cz r)=true:=fun e x M=>by
   have d:=da.1 (by simpa only[ab.bz]using hS e) x M;simp only[ax]at d;refine⟨d.1,fun s rows hr=>?_⟩;cases s with
   | true =>
    have hr:x.2.1.2=some rows:=hr;rw[hr]at d;exact d.2.2
   | false =>
    have hr:x.2.1.1=some rows:=hr;rw[hr]at d;exact d.2.1
  refine⟨b,n,ms,by rw[N,h1],by rw[hb b n h1,u],?_,Az (fun h g m hk=>⟨by rw[g1]; exact hk,g2 h g m hk⟩) (fun s i x rows hi M b V W hr=>?_) O⟩
  ·cases S with
   | true =>
    refine uC (da.2 fun x M=>?_) I;obtain⟨y,hy,rfl⟩:=cH.1 M;simp[(U rfl y hy).1,AV.bz]
   |false=>exact jB h.bE I
  ·cases S with
   |true=>exact xY V rows W ((U rfl x (dJ hi)).2 s rows M) hr
   |false=>exact jO h.bE rows W V hr
def nK(e:bL)(H H1:List ab):List ab:=eU H e.ids (l4 e 0 H1)++(l4 e 0 H1).drop e.ids.length
theorem iS{e:bL}{j:Nat}(h:j<e.ids.length):e.ids[j]? = some (e.at j):=by
 simp[bL.at,h]
theorem uD{e:bL}{j:Nat}(h:e.ids.length<=j):e.at j=e.base+(j-e.ids.length):=by
 simp[bL.at,List.getElem?_eq_none h]
theorem On{α:Type}{e:bL}{H xs:List α}(k:e.ids.Nodup)(d:∀ j,j<e.ids.length->e.at j<H.length)(hb:e.base=H.length)(q:e.ids.length<=xs.length)(j:Nat) :
  (eU H e.ids xs++xs.drop e.ids.length)[e.at j]? = xs[j]? := by
 rcases kU j e.ids.length with h|h
 ·rw [cK (by rw [p9]; exact d j h)]
  have g:j<xs.length:=dM h q;rw[Oe e.ids H xs j (e.at j) xs[j] k (iS h) (bx g) (d j h),bx g]
 ·rw [uD h, hb, iJ (by rw [p9]; omega), p9, qU]
  congr 1;omega
theorem Gm{α:Type}{e:bL}{H xs:List α}{i:Nat}(hi:i∉e.ids)(d:i<H.length):(eU H e.ids xs++xs.drop e.ids.length)[i]? = H[i]? := by
 rw[cK (by rw[p9]; exact d),By e.ids H xs i hi]
theorem p_{α:Type}{e:bL}{H xs:List α}{i:Nat}{x:α}(hb:e.base=H.length)(h:(eU H e.ids xs++xs.drop e.ids.length)[i]? = some x) :
  (i∉e.ids/\i<H.length/\H[i]? = some x)\/∃ j,i=e.at j:=by
 by_cases hm:i∈e.ids
 ·right
  obtain⟨j,g,rfl⟩:=pj hm;refine⟨j,?_⟩;have:=iS g;rw[bx g]at this;exact(iM this)
 ·rcases kU i H.length with d | k
  ·left
   exact⟨hm,d,by rw[Gm hm d]at h; exact h⟩
  ·right
   refine⟨e.ids.length+(i-H.length),?_⟩;rw[uD (by omega)];omega
theorem aak(S:Bool)(kG:List Nat){P:Program}{f:FuncId}{args:List AV}{H0 H:List ab}{α:Type}{Ps:α->Prop}{Vf:α->AV}{Hf:α->List ab}{e:bL}(hc:oG P f args H0 fun v H'=>∃ p,Ps p/\v=Vf p/\H'=Hf p)(hk:e.ids.length=H0.length)(hb:e.base=H.length)(hn:e.ids.Nodup)
  (hver:∀ j o,H0[j]? = some o->∃ o',H[e.at j]? = some o'/\o.born=true/\∀ v,o'.aF = some v↔∃ u,o.aF = some u/\v=u+e.up j)
  (hobj:∀ E E0,E.H=H->al E->uB e kG E E0->E0.H=H0->∀ j o,H0[j]? = some o->aI E0 j o) (hu1:∀ p,Ps p->jA e 0 (Hf p)=true) (hl1:∀ p,Ps p->H0.length<=(Hf p).length) (hlent:S=false->kG=[])
  (hSv:S=true->∀ p,Ps p->(Vf p).bz=true) (hSo:S=true->∀ p,Ps p->((Hf p).all ab.bz)=true) (hdis:∀ i,i∈kG->i∉e.ids)
  (hlab:∀(j:Nat) o o',H0[j]? = some o->H[e.at j]? = some o'->o'.label=o.label) (hlab1:∀ p,Ps p->∀(j:Nat) o l,(Hf p)[j]? = some o->o.label=some l->∃ o0,H0[j]? = some o0/\o0.label=some l)
  (hlabm:∀(j:Nat) o o',H0[j]? = some o->H[e.at j]? = some o'->o'.dc=o.dc) {args0:List AV}
  (hargs0:∀ E E0 cs,E.H=H->al E->uB e kG E E0->E0.H=H0->ae E args0 cs->ae E0 args cs) :
  oG P f args0 H fun v H'=>∃ p,Ps p/\v=(Vf p).bW e/\H'=nK e H (Hf p):=by
 intro E cargs O HE hargs;have hElen:E.loc.length=H.length:=by rw[HE.len,O]
 have hat:∀ j,j<e.ids.length->e.at j<H.length:=fun j I=>by
  have hj':j<H0.length:=by omega
  obtain⟨o',h1,_⟩:=hver j H0[j] (bx hj');exact aG h1
 have hmem:∀ j,j<e.ids.length->e.at j∈e.ids:=fun j I=>dJ (iS I)
 let pl:Nat->Prop:=fun l=>∃(j:Nat) (o:ab),H0[j]? = some o/\o.label=some l
 have:DecidablePred pl:=fun l=>Classical.propDecidable (pl l)
 let r0:Nat->List (Option (Option (Nat × Nat))):=fun l=>if pl l then E.X.r l else []
 have r0p:∀ l,pl l->r0 l=E.X.r l:=fun l h=>if_pos h;have r0n:∀ l (h:Nat) q,(r0 l)[h]? = some q->pl l/\(E.X.r l)[h]? = some q:=fun l h q hq=>by
  by_cases y:pl l
  ·rw[r0p l y]at hq; exact⟨y,hq⟩
  ·rw[show r0 l=[] from if_neg y]at hq; simp at hq
 let X0:XS:=⟨fun b=>E.X b\/(∃ i c,i∉e.ids/\i∉kG/\E.loc[i]? = some (some (b,c)))\/∃(l h m:Nat),¬ pl l/\(E.X.r l)[h]? = some (some (some (b,m))),E.X.z,r0⟩
 let loc0:List (Option (Nat × Nat)):=e.ids.map fun i=>E.loc.getD i none
 let E0:Env:={ w:=E.w,H:=H0,loc:=loc0,X:=X0 }
 have hloc0:∀ j,j<e.ids.length->loc0[j]? = E.loc[e.at j]? := fun j I=>by
  simp only[loc0,bB,iS I,dS];have:e.at j<E.loc.length:=by rw[hElen]; exact hat j I
  rw[bP,bx this];rfl
 have hlen0:loc0.length=e.ids.length:=by simp[loc0]
 have hpast:∀ j ver,E.past (e.at j) ver->j<e.ids.length:=by
  rintro j ver ⟨o,ho,_⟩;rcases kU j e.ids.length with h|h
  ·exact h
  ·have := aG ho
   rw[O,uD h,hb]at this;omega
 have hobj0:∀ j,j<e.ids.length->∃ o o',H0[j]? = some o/\E.H[e.at j]? = some o'/\o.born=true/\∀ v,o'.aF = some v↔∃ u,o.aF = some u/\v=u+e.up j:=fun j I=>by
  have hj':j<H0.length:=by omega
  obtain⟨o',h1,d⟩:=hver j H0[j] (bx hj');exact⟨H0[j],o',bx hj',by rw[O]; exact h1,d⟩
 have hown0:∀ b,E0.own b->E.own b:=by
  rintro b (⟨id,c,hid⟩|⟨l,k,c,N⟩)
  case inr=>exact .inr ⟨l,k,c,(r0n l k _ N).2⟩
  have M:=aG hid;rw[show E0.loc=loc0 from rfl]at hid M;rw[hlen0]at M;rw[hloc0 id M]at hid;exact .inl ⟨_,c,hid⟩
 have hin:KeepIn e E E0:=by
  refine⟨fun b hbk=>⟨⟨hbk.1,fun ho=>hbk.2.1 (hown0 b ho),?_⟩,rfl⟩,rfl,hloc0,fun j o l h1 d=>r0p l ⟨j,o,h1,d⟩⟩;rintro(U|⟨i,c,_,_,hi⟩|⟨l,k,c,_,N⟩)
  ·exact hbk.2.2 U
  ·exact hbk.2.1 (.inl ⟨i,c,hi⟩)
  ·exact hbk.2.1 (.inr ⟨l,k,c,N⟩)
 have hpin:∀ j ver,E.past (e.at j) (ver+e.up j)->E0.past j ver:=fun j ver y=>by
  obtain⟨o,oo,h1,d,V,h3⟩:=hobj0 j (hpast j _ y);obtain⟨o',h4,h5⟩:=y;rw[d]at h4;cases h4;refine⟨o,h1,V,fun v hv=>?_⟩;have:=h5.2 (v+e.up j) ((h3 _).2 ⟨v,hv,rfl⟩);omega
 have hout0:∀ i b n,i∉e.ids->E.loc[i]? = some (some (b,n))->¬ E0.own b:=by
  rintro i b n hi V (⟨id,c',hid⟩|⟨l,k,c,N⟩)
  case inr=>exact HE.cQ _ _ _ _ _ _ V (r0n l k _ N).2
  have M:=aG hid;rw[show E0.loc=loc0 from rfl]at hid M;rw[hlen0]at M;rw[hloc0 id M]at hid;have:=HE.inj _ _ _ _ _ V hid;exact hi (this▸hmem id M)
 have hlin:uB e kG E E0:=by
  refine⟨hin,fun i hi b n V=>⟨(HE.lt _ _ _ V).1,hout0 i b n (hdis i hi) V,?_⟩⟩;rintro(U|⟨W,c,_,d,hi'⟩|⟨l,k,c,_,N⟩)
  ·exact(HE.lt _ _ _ V).2 U
  ·have := HE.inj _ _ _ _ _ hi' V
   exact d (this▸hi)
  ·exact HE.cQ _ _ _ _ _ _ V N
 have HE0:al E0:=by
  have conv:∀{j:Nat} {x:Option (Nat × Nat)},loc0[j]? = some x->j<e.ids.length/\E.loc[e.at j]? = some x:=by
   intro j x U;have M:=aG U;rw[hlen0]at M;exact⟨M,by rw[<-hloc0 j M]; exact U⟩
  refine⟨by rw[show E0.loc=loc0 from rfl,hlen0,hk],?_,?_,?_,?_,HE.fY.bE hin.bE,fun l k l' k' b m n h1 d=>HE.ff l k l' k' b m n (r0n l k _ h1).2 (r0n l' k' _ d).2,fun i b m l k n hi d=>HE.cQ _ b m l k n (conv hi).2 (r0n l k _ d).2,?_,?_,?_⟩
  ·intro i j b m n hi I
   obtain⟨i1,i2⟩:=conv hi
   obtain⟨j1,j2⟩:=conv I
   have:=HE.inj _ _ _ _ _ i2 j2;exact(D_ i1 hn).1 (by rw[iS i1,iS j1,this])
  ·intro i b m hi
   obtain⟨i1,i2⟩:=conv hi
   refine⟨(HE.lt _ _ _ i2).1,?_⟩;rintro(U|⟨W,c,hni,_,hi'⟩|⟨l,k,c,_,N⟩)
   ·exact(HE.lt _ _ _ i2).2 U
   ·have := HE.inj _ _ _ _ _ hi' i2
    exact hni (this▸hmem i i1)
   ·exact HE.cQ _ _ _ _ _ _ i2 N
  ·rintro b (U | ⟨W, c, _, _, hi'⟩ | ⟨l, k, c, _, N⟩)
   ·exact HE.X b U
   ·exact(HE.lt _ _ _ hi').1
   ·exact(HE.cr _ _ _ _ N).1
  ·intro j o ho
   have I:j<e.ids.length:=by rw[hk]; exact aG ho
   exact hobj E E0 O HE hlin rfl j o ho
  ·intro l k b m h1
   obtain⟨y,d⟩:=r0n l k _ h1;refine⟨(HE.cr _ _ _ _ d).1,?_⟩;rintro(U|⟨W,c,_,_,hi'⟩|⟨l',k',c,hnp,N⟩)
   ·exact(HE.cr _ _ _ _ d).2 U
   ·exact HE.cQ _ _ _ _ _ _ hi' d
   ·exact hnp ((HE.ff _ _ _ _ _ _ _ d N).1▸y)
  ·intro i j o o' l hi I h1 d
   have i1:i<e.ids.length:=by rw[hk]; exact aG hi
   have j1:j<e.ids.length:=by rw[hk]; exact aG I
   obtain⟨_,oi,a1,a2,_⟩:=hobj0 i i1;obtain⟨_,oj,b1,b2,_⟩:=hobj0 j j1;have ei:=hlab i o oi hi (by rw[<-O]; exact a2);have ej:=hlab j o' oj I (by rw[<-O]; exact b2);have:=HE.uniq _ _ _ _ l a2 b2 (by rw[ei,h1]) (by rw[ej,d]);exact(D_ i1 hn).1 (by rw[iS i1,iS j1,this])
  ·intro l hnl k q hq
   obtain⟨⟨j,o,h1,d⟩,_⟩:=r0n l k _ hq;exact hnl j o h1 d
 refine(hc E0 cargs rfl HE0 (hargs0 E E0 _ O HE hlin rfl hargs)).mono ?_;rintro _ w' ⟨c,v',H',rfl,⟨p,y,hv',hH'⟩,loc1,r1,g1,g2,g3⟩;have hu1:jA e 0 H'=true:=by rw[hH']; exact hu1 p y
 have hl1:H0.length<=H'.length:=by rw[hH']; exact hl1 p y
 have hSv:S=true->v'.bz=true:=fun h=>by rw[hv']; exact hSv h p y
 have hSo:S=true->(H'.all ab.bz)=true:=fun h=>by rw[hH']; exact hSo h p y
 have hlab1:∀(j:Nat) o l,H'[j]? = some o->o.label=some l->∃ o0,H0[j]? = some o0/\o0.label=some l:=by rw[hH']; exact hlab1 p y
 let r':Nat->List (Option (Option (Nat × Nat))):=fun l=>if pl l then r1 l else E.X.r l
 have rp:∀ l,pl l->r' l=r1 l:=fun l h=>if_pos h;have rn:∀ l,¬ pl l->r' l=E.X.r l:=fun l h=>if_neg h;have hl1':e.ids.length<=H'.length:=by omega
 have hlen1:loc1.length=H'.length:=g2.len;have hbL:e.base=E.loc.length:=by rw[hElen]; exact hb
 have hbE:e.base=E.H.length:=by rw[O]; exact hb
 let loc':List (Option (Nat × Nat)):=eU E.loc e.ids loc1++loc1.drop e.ids.length
 let E1:Env:={ w:=w',H:=H',loc:=loc1,X:=X0.re r1 }
 let E':Env:={ w:=w',H:=nK e H H',loc:=loc',X:=E.X.re r' }
 have Hin:∀ j,E'.H[e.at j]? = (H'[j]?).map (ab.bW e j):=fun j=>by
  have:=On (e:=e) (H:=H) (xs:=l4 e 0 H') hn hat hb (by rw[Gl]; exact hl1') j;rw[Of,cn]at this;exact this
 have gf:∀ j,E'.loc[e.at j]? = loc1[j]? := fun j =>
  On (e:=e) (H:=E.loc) (xs:=loc1) hn (fun j I=>by rw[hElen]; exact hat j I) hbL (by rw[hlen1]; exact hl1') j
 have Hout:∀ i,i∉e.ids->i<H.length->E'.H[i]? = E.H[i]? := fun i hi M=>by
  rw[O];exact Gm (e:=e) hi M
 have Lout:∀ i,i∉e.ids->i<H.length->E'.loc[i]? = E.loc[i]? := fun i hi M=>Gm (e:=e) hi (by rw[hElen]; exact M);have hu1':∀(j:Nat) (o:ab),H'[j]? = some o->o.Bz e j=true:=fun j o ho=>by
  have:=Og hu1 ho
  rwa [cn]at this
 have own':∀ b,E'.own b->E1.own b\/(∃ i c,i∉e.ids/\E.loc[i]? = some (some (b,c)))\/∃(l h m:Nat),¬ pl l/\(E.X.r l)[h]? = some (some (some (b,m))):=by
  rintro b (⟨i,c,hi⟩|⟨l,k,c,N⟩)
  ·rcases p_ (e := e) hbL hi with ⟨h1, _, h3⟩ | ⟨j, rfl⟩
   ·exact .inr (.inl ⟨i,c,h1,h3⟩)
   ·rw [gf j] at hi
    exact .inl (.inl ⟨j,c,hi⟩)
  ·have N : (r' l)[k]? = some (some (some (b, c))) := N
   by_cases y:pl l
   ·rw [rp l y] at N
    exact .inl (.inr ⟨l,k,c,N⟩)
   ·rw [rn l y] at N
    exact .inr (.inr ⟨l,k,c,y,N⟩)
 have hout:rX S e E1 E':=by
  refine⟨fun hS b hbk=>⟨⟨hbk.1,fun ho=>?_,fun U=>hbk.2.2 (Or.inl U)⟩,rfl⟩,fun j ver y=>?_,fun j ver y hl=>?_⟩
  ·rcases own' b ho with h | ⟨i, c, h1, d⟩ | h
   ·exact hbk.2.1 h
   ·exact hbk.2.2 (Or.inr (.inl ⟨i,c,h1,by rw[hlent hS]; exact List.not_mem_nil,d⟩))
   ·exact hbk.2.2 (Or.inr (.inr h))
  ·obtain ⟨o, h1, d⟩ := y
   refine⟨o.bW e j,by rw[Hin j,show H'[j]? = some o from h1]; rfl,by rw[Oh]; exact d.1,fun v hv=>?_⟩;obtain⟨u,q1,rfl⟩:=(xX (hu1' j o h1) v).1 hv;have:=d.2 u q1;omega
  ·obtain ⟨o', h1, d⟩ := hl
   rw[Hin j]at h1;obtain⟨o,h3,rfl⟩:=dI.1 h1;obtain⟨u,q1,q2⟩:=(xX (hu1' j o h3) _).1 d;have:u=ver:=by omega
   subst this;exact⟨⟨o,h3,q1⟩,gf j⟩
 have hle:E.le E':=by
  refine⟨fun i ver y=>?_,g3.size,fun b M ho=>g3.same b M (fun h=>ho (hown0 b h)),fun b M ho h'=>?_,fun i ver y hl=>?_,⟨rfl,rfl⟩,fun l k N=>?_,g3.env,fun i l o h1 d hv=>?_⟩
  rotate_right
  ·by_cases hi : i ∈ e.ids
   ·obtain ⟨j, I, rfl⟩ := pj hi
    have hat':e.ids[j]=e.at j:=by
     have:=iS I;rw[bx I]at this;exact iM this
    rw[hat']at h1 hv|-;obtain⟨o0,oo,k1,k2,V,k3⟩:=hobj0 j I;have em:o.dc=o0.dc:=hlabm j o0 o k1 (by rw[<-O]; exact h1);have hl0:o0.label=some l:=ab.mz (by rw[<-em]; exact d);have y:pl l:=⟨j,o0,k1,hl0⟩
    obtain⟨o',w1,w2⟩:=hv;rw[Hin j]at w1;obtain⟨o1,r3,rfl⟩:=dI.1 w1;obtain⟨u,q1,q2⟩:=(xX (hu1' j o1 r3) _).1 w2;have hu:u=0:=by omega
    subst hu;obtain⟨⟨t,ht⟩,o2,s1,s2⟩:=g3.grow j l o0 k1 (by rw[<-em]; exact d) ⟨o1,r3,q1⟩;have ht':r1 l=E.X.r l++t:=by
     rw[<-r0p l y];exact ht
    refine⟨⟨t,by rw[show E'.X.r l=r' l from rfl,rp l y]; exact ht'⟩,o2.bW e j,?_,by rw[aai]; exact s2⟩;rw[Hin j,show H'[j]? = some o2 from s1];rfl
   ·have M := aG h1
    rw[O]at M;have hnp:¬ pl l:=by
     rintro⟨j,o0,a1,a2⟩;have j1:j<e.ids.length:=by rw[hk]; exact aG a1
     obtain⟨_,oj,b1,b2,_⟩:=hobj0 j j1;have h3:=HE.uniq _ _ _ _ l h1 b2 (ab.mz d) (by rw[hlab j o0 oj a1 (by rw[<-O]; exact b2),a2]);exact hi (h3▸hmem j j1)
    exact⟨⟨[],by rw[List.append_nil,show E'.X.r l=r' l from rfl,rn l hnp]⟩,o,by rw[Hout i hi M]; exact h1,d⟩
  ·by_cases hi : i ∈ e.ids
   ·obtain ⟨j, I, rfl⟩ := pj hi
    have hat':e.ids[j]=e.at j:=by
     have:=iS I;rw[bx I]at this;exact iM this
    rw[hat']at y|-;obtain⟨o0,oo,h1,d,V,h3⟩:=hobj0 j I;obtain⟨o,h4,h5⟩:=y;rw[d]at h4;cases h4;have hj1:j<H'.length:=by omega
    have hbn':H'[j].born=true:=by
     have p0:E0.past j 0:=⟨o0,h1,V,fun v _=>dX v⟩
     obtain⟨o2,r1,r2⟩:=g3.past j _ p0;rw[show E1.H=H' from rfl,bx hj1]at r1;cases r1;exact r2.1
    refine⟨H'[j].bW e j,by rw[Hin j,bx hj1]; rfl,by rw[Oh]; exact hbn',fun v hv=>?_⟩;obtain⟨u,q1,rfl⟩:=(xX (hu1' j _ (bx hj1)) v).1 hv;cases hz:o0.aF with
    | none =>
     have p0:E0.past j (u+1):=⟨o0,h1,V,fun v hv=>by rw[hz]at hv; cases hv⟩
     obtain⟨o2,r1,r2⟩:=g3.past j _ p0;rw[show E1.H=H' from rfl,bx hj1]at r1;cases r1;have:=r2.2 u q1;omega
    | some u0 =>
     have p0:E0.past j u0:=⟨o0,h1,V,fun v hv=>by rw[hz]at hv; cases hv; exact aB _⟩
     obtain⟨o2,r1,r2⟩:=g3.past j _ p0;rw[show E1.H=H' from rfl,bx hj1]at r1;cases r1;have:=r2.2 u q1;have:=h5.2 (u0+e.up j) ((h3 _).2 ⟨u0,hz,rfl⟩);omega
   ·obtain ⟨o, h1, d⟩ := y
    have M:=aG h1;rw[O]at M;exact⟨o,by rw[Hout i hi M]; exact h1,d⟩
  ·rcases own' b h' with h | ⟨i, c, _, d⟩ | ⟨l, k, c, _, d⟩
   ·exact g3.own b M (fun h=>ho (hown0 b h)) h
   ·exact ho (.inl ⟨i,c,d⟩)
   ·exact ho (.inr ⟨l,k,c,d⟩)
  ·have M:i<H.length:=by
    obtain⟨o,h1,_⟩:=y;have:=aG h1
    rwa [O]at this
   by_cases hi:i∈e.ids
   ·obtain ⟨j, I, rfl⟩ := pj hi
    have hat':e.ids[j]=e.at j:=by
     have:=iS I;rw[bx I]at this;exact iM this
    rw[hat']at y hl|-;obtain⟨o',r1,r2⟩:=hl;rw[Hin j]at r1;obtain⟨o1,r3,rfl⟩:=dI.1 r1;obtain⟨u,q1,rfl⟩:=(xX (hu1' j o1 r3) _).1 r2;have p0:=hpin j u y;obtain⟨⟨o0,s1,s2⟩,s3⟩:=g3.live j u p0 ⟨o1,r3,q1⟩;obtain⟨o0',oo,h1,d,V,h3⟩:=hobj0 j I;rw[show E0.H=H0 from rfl,h1]at s1;cases s1;refine⟨⟨_,d,(h3 _).2 ⟨u,s2,rfl⟩⟩,?_⟩;rw[gf j,<-hloc0 j I];exact s3
   ·obtain ⟨o', r1, r2⟩ := hl
    rw[Hout i hi M]at r1;exact⟨⟨o',r1,r2⟩,Lout i hi M⟩
  ·by_cases y : pl l
   ·have := g3.rl l k (by show k < (r0 l).length; rw [r0p l y]; exact N)
    rw[show E0.X.r l=r0 l from rfl,r0p l y]at this;rw[show E'.X.r l=r' l from rfl,rp l y];exact this
   ·rw [show E'.X.r l = r' l from rfl, rn l y]
    exact⟨N,fun _ hq=>hq⟩
 have lab':∀(j:Nat) o l,H'[j]? = some o->o.label=some l->pl l:=fun j o l h1 d=>by
  obtain⟨o0,a1,a2⟩:=hlab1 j o l h1 d;exact⟨j,o0,a1,a2⟩
 have labIn:∀(j:Nat) o l,H0[j]? = some o->o.label=some l->∃ o',E.H[e.at j]? = some o'/\o'.label=some l/\e.at j∈e.ids:=fun j o l h1 d=>by
  have j1:j<e.ids.length:=by rw[hk]; exact aG h1
  obtain⟨_,oj,b1,b2,_⟩:=hobj0 j j1;exact⟨oj,b2,by rw[hlab j o oj h1 (by rw[<-O]; exact b2),d],hmem j j1⟩
 have labOut:∀(i:Nat) o l,i∉e.ids->E.H[i]? = some o->o.label=some l->¬ pl l:=fun i o l hi h1 d ⟨j,o0,a1,a2⟩=>by
  obtain⟨o',b1,b2,b3⟩:=labIn j o0 l a1 a2;have:=HE.uniq _ _ _ _ l h1 b1 d b2;exact hi (this▸b3)
 have satOut:∀(l k b m:Nat),¬ pl l->(E.X.r l)[k]? = some (some (some (b,m)))->¬ E0.own b:=by
  rintro l k b m y h1 (⟨id,c',hid⟩|⟨l',k',c,N⟩)
  ·have M := aG hid
   rw[show E0.loc=loc0 from rfl]at hid M;rw[hlen0]at M;rw[hloc0 id M]at hid;exact HE.cQ _ _ _ _ _ _ hid h1
  ·obtain ⟨q1, q2⟩ := r0n l' k' _ N
   exact y ((HE.ff _ _ _ _ _ _ _ h1 q2).1▸q1)
 refine⟨c,v'.bW e,nK e H H',rfl,⟨p,y,by rw[hv'],by rw[hH']⟩,loc',r',Gk hout v' hSv g1,?_,hle⟩;refine⟨?_,?_,?_,fun b U=>dM (HE.X b U) g3.size,?_,HE.fY.bE hle.toC,?_,?_,?_,?_,?_⟩
 ·simp only[loc',nK,en,p9,List.length_drop,Gl,hElen,hlen1]
 ·intro i j b m n hi I
  rcases p_ (e:=e) hbL hi with⟨i1,_,i3⟩|⟨W,rfl⟩<;>rcases p_ (e:=e) hbL I with⟨j1,_,j3⟩|⟨j',rfl⟩
  ·exact HE.inj _ _ _ _ _ i3 j3
  ·rw [gf j'] at I
   exact(g3.own b (HE.lt _ _ _ i3).1 (hout0 i b m i1 i3) (.inl ⟨j',n,I⟩)).elim
  ·rw [gf W] at hi
   exact(g3.own b (HE.lt _ _ _ j3).1 (hout0 j b n j1 j3) (.inl ⟨W,m,hi⟩)).elim
  ·rw [gf W] at hi
   rw[gf j']at I;rw[g2.inj _ _ _ _ _ hi I]
 ·intro i b m hi
  rcases p_ (e:=e) hbL hi with⟨i1,_,i3⟩|⟨W,rfl⟩
  ·exact⟨dM (HE.lt _ _ _ i3).1 g3.size,(HE.lt _ _ _ i3).2⟩
  ·rw [gf W] at hi
   exact⟨(g2.lt _ _ _ hi).1,fun U=>(g2.lt _ _ _ hi).2 (Or.inl U)⟩
 ·intro i o hi
  have hi':=hi;unfold nK at hi';rcases p_ (e:=e) hb hi' with⟨i1,i2,i3⟩|⟨j,rfl⟩
  ·refine lK (E := E) (fun a _ hr => bg hle a hr) (Lout i i1 i2) (fun b n V => ?_) (fun l hl => ?_) (HE.obj i o (by rw [O]; exact i3))
   ·exact g3.same b (HE.lt _ _ _ V).1 (hout0 i b n i1 V)
   ·have y := labOut i o l i1 (by rw [O]; exact i3) hl
    exact⟨rn l y,fun k g m h1=>g3.same g (HE.cr _ _ _ _ h1).1 (satOut l k g m y h1)⟩
  ·have h1 := Hin j
   rw[show E'.H=nK e H H' from rfl,hi]at h1;obtain⟨o1,d,rfl⟩:=dI.1 h1.symm;exact aaj hout (fun e=>da.1 (hSo e) o1 (dJ d)) (gf j) (fun _ _ _=>rfl) (fun l hl=>⟨rp l (lab' j o1 l d hl),fun _ _ _ _=>rfl⟩) (g2.obj j o1 d)
 ·intro l k l' k' b m n h1 d
  have h1:(r' l)[k]? = some (some (some (b,m))):=h1;have d:(r' l')[k']? = some (some (some (b,n))):=d;by_cases y:pl l<;>by_cases hp':pl l'
  ·rw [rp l y] at h1
   rw[rp l' hp']at d;exact g2.ff l k l' k' b m n h1 d
  ·rw [rp l y] at h1
   rw[rn l' hp']at d;exact((g2.cr l k b m h1).2 (.inr (.inr ⟨l',k',n,hp',d⟩))).elim
  ·rw [rn l y] at h1
   rw[rp l' hp']at d;exact((g2.cr l' k' b n d).2 (.inr (.inr ⟨l,k,m,y,h1⟩))).elim
  ·rw [rn l y] at h1
   rw[rn l' hp']at d;exact HE.ff l k l' k' b m n h1 d
 ·intro i b m l k n hi h1
  have h1:(r' l)[k]? = some (some (some (b,n))):=h1;rcases p_ (e:=e) hbL hi with⟨i1,_,i3⟩|⟨W,rfl⟩
  ·by_cases y : pl l
   ·rw [rp l y] at h1
    exact g3.own b (HE.lt _ _ _ i3).1 (hout0 i b m i1 i3) (.inr ⟨l,k,n,h1⟩)
   ·rw [rn l y] at h1
    exact HE.cQ _ _ _ _ _ _ i3 h1
  ·rw [gf W] at hi
   by_cases y:pl l
   ·rw [rp l y] at h1
    exact g2.cQ _ _ _ _ _ _ hi h1
   ·rw [rn l y] at h1
    exact(g2.lt _ _ _ hi).2 (.inr (.inr ⟨l,k,n,y,h1⟩))
 ·intro l k b m h1
  have h1:(r' l)[k]? = some (some (some (b,m))):=h1;by_cases y:pl l
  ·rw [rp l y] at h1
   exact⟨(g2.cr _ _ _ _ h1).1,fun U=>(g2.cr _ _ _ _ h1).2 (.inl U)⟩
  ·rw [rn l y] at h1
   exact⟨dM (HE.cr _ _ _ _ h1).1 g3.size,(HE.cr _ _ _ _ h1).2⟩
 ·have inn:∀ (j:Nat) o,E'.H[e.at j]? = some o->∃ o1,H'[j]? = some o1/\o.label=o1.label:=fun j o h=>by
   rw[Hin j]at h;obtain⟨o1,d,rfl⟩:=dI.1 h;exact⟨o1,d,Oi e j o1⟩
  intro i j o o' l hi I h1 d;have hi':=hi;have hj':=I;unfold nK at hi' hj';rcases p_ (e:=e) hb hi' with⟨i1,i2,i3⟩|⟨W,rfl⟩<;>rcases p_ (e:=e) hb hj' with⟨j1,j2,j3⟩|⟨j',rfl⟩
  ·exact HE.uniq i j o o' l (by rw[O]; exact i3) (by rw[O]; exact j3) h1 d
  ·obtain ⟨o1, a1, a2⟩ := inn j' o' I
   exact(labOut i o l i1 (by rw[O]; exact i3) h1 (lab' j' o1 l a1 (by rw[<-a2,d]))).elim
  ·obtain ⟨o1, a1, a2⟩ := inn W o hi
   exact(labOut j o' l j1 (by rw[O]; exact j3) d (lab' W o1 l a1 (by rw[<-a2,h1]))).elim
  ·obtain ⟨o1, a1, a2⟩ := inn W o hi
   obtain⟨o2,b1,b2⟩:=inn j' o' I;rw[g2.uniq W j' o1 o2 l a1 b1 (by rw[<-a2,h1]) (by rw[<-b2,d])]
 ·intro l hnl k q hq
  have hq:(r' l)[k]? = some (some q):=hq;by_cases y:pl l
  ·rw [rp l y] at hq
   refine g2.gR l (fun j o h1 d=>?_) k q hq;refine hnl (e.at j) (o.bW e j) ?_ (by rw[Oi,d]);rw[Hin j,show H'[j]? = some o from h1];rfl
  ·rw [rn l y] at hq
   refine HE.gR l (fun i o h1 d=>?_) k q hq;have M:=aG h1;rw[O]at M;by_cases hi:i∈e.ids
   ·obtain ⟨j, I, rfl⟩ := pj hi
    have hat':e.ids[j]=e.at j:=by
     have:=iS I;rw[bx I]at this;exact iM this
    rw[hat']at h1;obtain⟨o0,oo,a1,a2,_⟩:=hobj0 j I;rw[h1]at a2;cases a2;exact y ⟨j,o0,a1,by rw[<-hlab j o0 o a1 (by rw[<-O]; exact h1),d]⟩
   ·exact hnl i o (by rw[Hout i hi M]; exact h1) d
theorem frame(S:Bool)(kG:List Nat){P:Program}{f:FuncId}{args:List AV}{H0 H1 H:List ab}{v:AV}{e:bL}(W:dn P f args H0 v H1)(hk:e.ids.length=H0.length)(hb:e.base=H.length)(hn:e.ids.Nodup)
  (y:∀ j o,H0[j]? = some o->∃ o',H[e.at j]? = some o'/\o.born=true/\∀ v,o'.aF = some v↔∃ u,o.aF = some u/\v=u+e.up j)
  (I:∀ E E0,E.H=H->al E->uB e kG E E0->E0.H=H0->∀ j o,H0[j]? = some o->aI E0 j o) (N:jA e 0 H1=true) (O:H0.length<=H1.length) (g:S=false->kG=[])
  (U:S=true->v.bz=true) (V:S=true->(H1.all ab.bz)=true) (M:∀ i,i∈kG->i∉e.ids)
  (hlab:∀(j:Nat) o o',H0[j]? = some o->H[e.at j]? = some o'->o'.label=o.label) (k:∀(j:Nat) o l,H1[j]? = some o->o.label=some l->∃ o0,H0[j]? = some o0/\o0.label=some l)
  (q:∀(j:Nat) o o',H0[j]? = some o->H[e.at j]? = some o'->o'.dc=o.dc) {args0:List AV}
  (d:∀ E E0 cs,E.H=H->al E->uB e kG E E0->E0.H=H0->ae E args0 cs->ae E0 args cs) :
  dn P f args0 H (v.bW e) (nK e H H1) :=
 oG.mono (aak (α:=Unit) (Ps:=fun _=>True) (Vf:=fun _=>v) (Hf:=fun _=>H1) S kG (oG.mono W fun v' H' h=>⟨(),trivial,h.1,h.2⟩) hk hb hn y I (fun _ _=>N) (fun _ _=>O) g (fun h _ _=>U h) (fun h _ _=>V h) M hlab (fun _ _=>k) q d) fun v' H' ⟨_,_,h1,h2⟩=>⟨h1,h2⟩
end Go.AL
