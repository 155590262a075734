/-
 What is proved here: owned objects of data,and what operations do to them,with what must hold so that they do it. No program in sight; no condition.
-/
import Derived.Test.YtnijefkndkgebaaGreatDoorMB
import Derived.Eval
import Derived.KernelRfl
set_option linter.all false
open Bool renaming and_eq_true→aA,false_eq_true→kS,not_eq_true'→mM,or_eq_true→wC,eq_iff_iff→oF
open ByteArray renaming empty→we
open Decidable renaming byContradiction→AI
open Function renaming comp→HA
open Go.Op renaming operands→eP
open Go.Utf8 renaming decode→mJ
open Go.Value.slice renaming injEq→jE
open List renaming getElem?_append_left→cK,length_map→dz,mem_map→dF,getElem?_map→cd,mem_filterMap→G9,getElem_of_mem→ow,getElem?_eq_getElem→bO,mem_of_getElem?→eO,getElem?_append_right→gL,getElem?_set_ne→aU,all_eq_true→cR,getD_eq_getElem?_getD→cr,getElem?_drop→p7,mem_cons→bZ,map_cons→dw,take_append_drop→sP,length_append→e9,mem_append→cS,replicate→bL,all_cons→kU,mem_cons_self→cT,mem_cons_of_mem→cY,take_of_length_le→SF,map_append→kf,findIdx?_cons→Ho,nodup_cons→lQ,getElem?_inj→AF,map_set→sV,headD_cons→wF,length_nil→kV,map_nil→sW,length→HB
open Nat renaming le_refl→aG,lt_of_lt_of_le→dv,zero_le→eh,lt_or_ge→jg,zero_add→cF,sub_zero→fZ,beq→ad,eq_of_beq_eq_true→bu,sub_self→mL,ble→dH,blt→fa,ble_eq→AJ,blt_eq→kh,le_of_ble_eq_true→sY,mul_one→ahQ,lt_succ_of_lt→wG,lt_succ_self→ahR,lt_irrefl→qe
open Option renaming map_eq_some_iff→dQ,isSome_none→Hg,map_some→eF,map_none→wD,isSome_some→Hy,map_map→Hz
open Option.some renaming injEq→aY,inj→gd
open Prod.mk renaming injEq→bg
namespace Go.AL
open Go
variable [Dr]
def aw:Int→Bool
 |.ofNat _=>true
 |.negSucc _=>false
def bl:Int→Int→Bool
 |.ofNat x,.ofNat y=>dH x y
 |.ofNat _,.negSucc _=>false
 |.negSucc _,.ofNat _=>true
 |.negSucc x,.negSucc y=>dH y x
def aj:Int→Int→Bool
 |.ofNat x,.ofNat y=>fa x y
 |.ofNat _,.negSucc _=>false
 |.negSucc _,.ofNat _=>true
 |.negSucc x,.negSucc y=>fa y x
def aq(n:Int):Bool:=bl (-9223372036854775808) n&&bl n 9223372036854775807
theorem jQ(n:Int):aw n=decide (0≤n):=by
 cases n with
 |ofNat x=>simp[aw]
 |negSucc x=>simp[aw]
theorem ff(a b:Int):bl a b=decide (a≤b):=by
 rw[oF];cases a<;>cases b<;>simp[bl,AJ]<;>(try omega)
theorem dY(a b:Int):aj a b=decide (a<b):=by
 rw[oF];cases a<;>cases b<;>simp[aj,kh]<;>(try omega)
theorem kD{n:Int}:aq n=true ↔ -9223372036854775808≤n∧n≤9223372036854775807:=by
 simp[aq,ff]
def g0(r:List G):G:=r.headD default
def gi:List G→Nat→G
 |r,0=>r.headD default
 |r,i+1=>gi r.tail i
def G.row(g:G):List G:=g.rows.headD []
def ng:Kd→G→G→Bool
 |.int _,a,b=>a.int==b.int
 |.str,a,b=>a.str.toList==b.str.toList
 |.bool,a,b=>a.bool==b.bool
 |.list _,_,_=>false
def a_:List Kd→List G→List G→Bool
 | [],_,_=>true
 |k::ks,r,s=>ng k (r.headD default) (s.headD default)&&a_ ks r.tail s.tail
inductive Ct where
 |one (k:Kd)
 |agg (ks:List Kd)
 deriving Inhabited
def Ct.ks:Ct→List Kd
 |.one k=>[k]
 |.agg ks=>ks
def Ct.av:Ct→List G→AV
 |.one k,r=>il k (r.headD default)
 |.agg ks,r=>.agg (aJ ks r)
theorem Ct.tM(k:Ct)(r:List G):(k.av r).closed=true:=by
 cases k with
 |one k=>cases k<;>rfl
 |agg ks=>simp only[Ct.av,AV.closed,fD]
inductive ai where
 |raw (o:ab)
 |vec (ks:List Kd) (af:Nat) (rows:List (List G))
 |map (K V:Ct) (rows:List (List G)) (clock:Nat)
 |aI (l:Nat) (K:Ct) (ks:List Kd) (rows:List (List G)) (clock:Nat)
 |mm (l:Nat) (K KI VI:Ct) (rows mem:List (List G)) (clock:Nat)
def dh(K V:Ct)(rows:List (List G)):List (AV × AV × Nat):=rows.map fun r=>(K.av (gi r 0).row,V.av (gi r 1).row,(gi r 2).int.toNat)
def jR(r:List G):List (List G):=((gi r 1).row.headD default).rows
def jo(K:Ct)(ks:List Kd)(r:List G):AV × Option (List (List AV)) × Nat:=(K.av (gi r 0).row,(bif (gi r 3).bool then some ((jR r).map (aJ ks)) else none),(gi r 2).int.toNat)
def fS(K:Ct)(ks:List Kd)(rows:List (List G)):List (AV × Option (List (List AV)) × Nat):=rows.map (jo K ks)
def oZ(r:List G):Option Nat:=bif bl 0 (gi r 1).int then some (gi r 1).int.toNat else none
def gX(K:Ct)(rows:List (List G)):List (AV × Option Nat × Nat):=rows.map fun r=>(K.av (gi r 0).row,oZ r,(gi r 2).int.toNat)
def nh(KI VI:Ct)(mem:List (List G)):List (List (AV × AV × Nat) × Nat):=mem.map fun m=>(dh KI VI (gi m 0).rows,(gi m 1).int.toNat)
def ai.den:ai→ab
 |.raw o=>o
 |.aI l K ks rows clock=>.aI l ks.length (fS K ks rows) clock
 |.map K V rows clock=>.map (dh K V rows) clock
 |.mm l K KI VI rows mem clock=>.mm l (gX K rows) (nh KI VI mem) clock
 |.vec ks af rows=>.vec ks.length af (rows.map (aJ ks))
def ao(H:List ai):List ab:=H.map ai.den
structure ar where
 fr:List AV
 H:List ai
def ar.den(s:ar):St:=⟨s.fr,ao s.H⟩
def ar.eval(s:ar)(o:Operand):AV:=St.eval ⟨s.fr,[]⟩ o
def ar.put(s:ar)(dst:Option Tmp)(v:AV)(H':List ai):ar:=⟨iM s.fr dst v,H'⟩
theorem ar.kE(s:ar):s.den.eval=s.eval:=by
 funext o
 cases o<;>rfl
theorem bq{H:List ai}{id:Nat}{o:ai}(h:H[id]? = some o):(ao H)[id]? = some o.den:=by simp[ao,h]
theorem df(H:List ai)(id:Nat)(o:ai):ao (H.set id o)=(ao H).set id o.den:=by simp[ao,sV]
theorem gF(H:List ai)(o:ai):ao (H++[o])=ao H++[o.den]:=by simp[ao]
theorem en(H:List ai):(ao H).length=H.length:=by simp[ao]
mutual
def Kd.same:Kd→Kd→Bool
 |.int k,.int k'=>decide (k=k')
 |.str,.str=>true
 |.bool,.bool=>true
 |.list ks,.list d=>Kd.gj ks d
 |_,_=>false
def Kd.gj:List Kd→List Kd→Bool
 | [],[]=>true
 |k::ks,k'::d=>k.same k'&&Kd.gj ks d
 |_,_=>false
end
mutual
theorem Kd.jq:∀{k k':Kd},k.same k'=true→k=k'
 |.int k,.int k',h=>by simp[Kd.same]at h; rw[h]
 |.str,.str,_=>rfl
 |.bool,.bool,_=>rfl
 |.list ks,.list d,h=>by simp only[Kd.same]at h; rw[Kd.ix h]
 |.int _,.str,h | .int _,.bool,h | .int _,.list _,h | .str,.int _,h | .str,.bool,h | .str,.list _,h=>by simp[Kd.same]at h
 |.bool,.int _,h | .bool,.str,h | .bool,.list _,h | .list _,.int _,h | .list _,.str,h | .list _,.bool,h=>by simp[Kd.same]at h
theorem Kd.ix:∀{k k':List Kd},Kd.gj k k'=true→k=k'
 | [],[],_=>rfl
 |k::ks,k'::d,h=>by simp only[Kd.gj,aA]at h; rw[Kd.jq h.1,Kd.ix h.2]
 | [],_::_,h|_::_,[],h=>by simp[Kd.gj]at h
end
def Ct.same:Ct→Ct→Bool
 |.one k,.one k'=>k.same k'
 |.agg ks,.agg d=>Kd.gj ks d
 |_,_=>false
theorem Ct.jq{K d:Ct}(h:K.same d=true):K=d:=by
 cases K<;>cases d<;>simp only[Ct.same]at h
 ·rw[Kd.jq h]
 ·cases h
 ·cases h
 ·rw[Kd.ix h]
def tN:Kd→AV→Option G
 |.int k,.lit (.int k' n)=>if k=k' then some (.i n) else none
 |.str,.lit (.string s)=>some (.s s)
 |.bool,.lit (.bool b)=>some (.t b)
 |.list ks,.listF d rows=>if Kd.gj ks d then some (.l rows) else none
 |_,_=>none
def fJ:List Kd→List AV→Option (List G)
 | [],[]=>some []
 | k::ks,a::as=>match tN k a,fJ ks as with
  |some g,some gs=>some (g::gs)
  |_,_=>none
 |_,_=>none
def bh(ks:List Kd):List (List AV)→Option (List (List G))
 | []=>some []
 | r::rs=>match fJ ks r,bh ks rs with
  |some g,some gs=>some (g::gs)
  |_,_=>none
theorem BX{k:Kd}{a:AV}{g:G}(h:tN k a=some g):il k g=a:=by
 unfold tN at h;split at h
 ·split at h
  ·rename_i e; cases h; subst e; rfl
  ·cases h
 ·cases h; rfl
 ·cases h; rfl
 ·split at h
  ·rename_i e; cases h; rw[Kd.ix e]; rfl
  ·cases h
 ·cases h
theorem jS:∀{ks:List Kd} {as:List AV} {gs:List G},fJ ks as=some gs→aJ ks gs=as
 | [],[],_,h=>by simp[fJ]at h; subst h; rfl
 | k::ks,a::as,gs,h=>by
  simp only[fJ]at h;split at h
  ·rename_i g q h1 d
   cases h;simp[aJ,BX h1,jS d]
  ·cases h
 | [],_::_,_,h|_::_,[],_,h=>by simp[fJ]at h
theorem Jo:∀{ks:List Kd} {as:List AV} {gs:List G},fJ ks as=some gs→gs.length=ks.length∧as.length=ks.length
 | [],[],_,h=>by simp[fJ]at h; subst h; exact⟨rfl,rfl⟩
 | k::ks,a::as,gs,h=>by
  simp only[fJ]at h;split at h
  ·rename_i g q h1 d
   cases h;have:=Jo d;simp[this.1,this.2]
  ·cases h
 | [],_::_,_,h|_::_,[],_,h=>by simp[fJ]at h
theorem o9{ks:List Kd}:∀{rs:List (List AV)} {gs:List (List G)},bh ks rs=some gs→gs.map (aJ ks)=rs
 | [],_,h=>by simp[bh]at h; subst h; rfl
 | r::rs,gs,h=>by
  simp only[bh]at h;split at h
  ·rename_i g k h1 d
   cases h;simp[jS h1,o9 d]
  ·cases h
def tO:AV→Option Kd
 |.lit (.int k _)=>some (.int k)
 |.lit (.string _)=>some .str
 |.lit (.bool _)=>some .bool
 |.listF ks _=>some (.list ks)
 |_=>none
def o_:List AV→Option (List Kd)
 | []=>some []
 | a::as=>match tO a,o_ as with
  |some k,some ks=>some (k::ks)
  |_,_=>none
def nk:List Kd→List G→List G
 | [],_=>[]
 |_::ks,r=>r.headD default::nk ks r.tail
theorem BY:∀(ks:List Kd) (r:List G),(nk ks r).length=ks.length
 | [],_=>rfl
 |_::ks,r=>by simp[nk,BY ks]
def aV(ks:List Kd)(r:List G)(col:Nat)(gs:List G):List G:=(nk ks r).take col++gs++(nk ks r).drop (col+gs.length)
theorem Jp:∀(ks:List Kd) (r:List G) (n:Nat),(aJ ks r).take n=aJ (ks.take n) r
 | [],_,n=>by simp[aJ]
 |_::_,_,0=>by simp[aJ]
 |k::ks,r,n+1=>by simp[aJ,Jp ks]
theorem Jq:∀(ks:List Kd) (r:List G) (n:Nat),(aJ ks r).drop n=aJ (ks.drop n) (r.drop n)
 | [],_,n=>by simp[aJ]
 |_::_,_,0=>by simp
 |k::ks,r,n+1=>by simp[aJ,Jq ks]
theorem BZ:∀(ks d:List Kd) (r r':List G),r.length=ks.length→aJ (ks++d) (r++r')=aJ ks r++aJ d r'
 | [],d,r,r',h=>by
  have:r=[]:=List.length_eq_zero_iff.1 h;subst this;simp[aJ]
 | k::ks,d,r,r',h=>by
  cases r with
  |nil=>simp at h
  |cons x r=>simp[aJ,BZ ks d r r' (by simpa using h)]
theorem B0:∀(ks:List Kd) (r:List G),aJ ks (nk ks r)=aJ ks r
 | [],_=>rfl
 |k::ks,r=>by simp[aJ,nk,B0 ks]
theorem U3{ks:List Kd}{r gs:List G}{cs:List AV}{col:Nat} (h:fJ ((ks.drop col).take cs.length) cs=some gs) (u:col+cs.length≤ks.length) :
  aJ ks (aV ks r col gs)=putCells (aJ ks r) cs col:=by
 obtain⟨h1,v⟩:=Jo h;have hlen:((ks.drop col).take cs.length).length=cs.length:=by simp; omega
 have g:gs.length=cs.length:=by omega
 have hk:ks=(ks.take col++(ks.drop col).take cs.length)++ks.drop (col+cs.length):=by
  rw[List.append_assoc,←List.drop_drop,sP,sP]
 unfold aV putCells;have d:=BY ks r
 conv=>lhs; arg 1; rw[hk]
 rw[BZ _ _ _ _ (by simp[d,g]; omega),BZ _ _ _ _ (by simp[d]),jS h,g];congr 1
 ·congr 1
  rw[←B0 ks r,Jp];have:∀(ks:List Kd) (r:List G) (n:Nat),ks.length≤n→aJ ks (r.take n)=aJ ks r:=by
   intro ks
   induction ks with
   |nil=>intros; rfl
   | cons k ks q =>
    intro r n d;cases n with
    |zero=>simp at d
    | succ n =>
     cases r with
     |nil=>rfl
     |cons x r=>simp[aJ,q r n (by simpa using d)]
  exact this _ _ _ (by simp; omega)
 ·conv => rhs; rw [← B0 ks r]
  rw[Jq]
end Go.AL

namespace Go.AL
open Go
variable [Dr]
theorem B1{ks:List Kd}{rows:List (List G)}{row:Nat}(h:row<rows.length):(rows.map (aJ ks))[row]? = some (aJ ks (rows.getD row [])):=by
 rw[cd,cr,bO h];rfl
def B2(P:Program)(t:TypeId)(x:AV)(H:List ai):Option (Bool × AV) :=
 match x with
 | .ptr id af w row col=>match H[id]? with
  | some (.vec ks v rows)=>match eG P t with
   | some (n,agg)=>if af=v∧ks.length=w then (match gB agg n ((aJ ks (rows.getD row [])).drop col) with
     |some u=>some (decide (row<rows.length),u)
     |none=>none) else none
   |none=>none
  | some (.raw (.box cells))=>match eG P t with
   | some (n,agg)=>if af=0∧row=0 then (match gB agg n (cells.drop col) with
     |some u=>some (true,u)
     |none=>none) else none
   |none=>none
  |_=>none
 | .cptr cells=>match eG P t with
  | some (n,agg)=>match gB agg n cells with
   |some u=>some (true,u)
   |none=>none
  |none=>none
 |_=>none
theorem U4{P:Program}{t:TypeId}{x:AV}{H:List ai}{b:Bool}{u:AV}(h:B2 P t x H=some (b,u))(hb:b=true):gP P t x (ao H)=some u:=by
 unfold B2 at h;unfold gP;split at h
 ·rename_i id af w row col
  split at h
  ·rename_i ks v rows hid
   split at h
   case h_2=>cases h
   rename_i n agg d;split at h
   case isFalse=>cases h
   rename_i k;split at h
   case h_2=>cases h
   rename_i q g;simp only[aY,bg]at h;obtain⟨h1,rfl⟩:=h;subst hb;simp only[decide_eq_true_eq]at h1;rw[d];simp only[bq hid,ai.den];rw[if_pos ⟨k.1,k.2⟩,B1 h1];exact g
  ·rename_i cells hid
   split at h
   case h_2=>cases h
   rename_i n agg d;split at h
   case isFalse=>cases h
   rename_i k;split at h
   case h_2=>cases h
   rename_i q g;cases h;rw[d];simp only[bq hid,ai.den];rw[if_pos k];exact g
  ·cases h
 ·rename_i cells
  split at h
  case h_2=>cases h
  rename_i n agg d;split at h
  case h_2=>cases h
  rename_i q g;cases h;rw[d];exact g
 ·cases h
def qO(P:Program)(t:TypeId)(x v:AV)(H:List ai):Option (Bool × List ai) :=
 match eG P t,oM v,x with
 | some (n,_),some cs,.ptr id af w row col =>
  if cs.length=n then
   match H[id]? with
   |some (.raw (.box cells))=>if af=0∧row=0∧col+n≤cells.length then some (true,H.set id (.raw (.box (putCells cells cs col)))) else none
   | some (.vec ks u rows) =>
    if af=u∧ks.length=w∧col+cs.length≤ks.length then
     match fJ ((ks.drop col).take cs.length) cs with
     |some gs=>some (decide (row<rows.length),H.set id (.vec ks u (rows.set row (aV ks (rows.getD row []) col gs))))
     |none=>none
    else none
   |_=>none
  else none
 |_,_,_=>none
theorem Jr{P:Program}{t:TypeId}{x v:AV}{H H':List ai}{b:Bool}(h:qO P t x v H=some (b,H'))(hb:b=true):qy P t x v (ao H)=some (ao H'):=by
 unfold qO at h;unfold qy;split at h
 case h_2=>cases h
 rename_i n J cs id af w row col y k;rw[y,k];simp only[];split at h
 case isFalse=>cases h
 rename_i B;rw[if_pos B];split at h
 ·rename_i cells hid
  split at h
  case isFalse=>cases h
  rename_i d;cases h;simp only[bq hid,ai.den];rw[if_pos d,df];rfl
 ·rename_i ks u rows hid
  split at h
  case isFalse=>cases h
  rename_i d;obtain⟨c1,c2,I⟩:=d;split at h
  case h_2=>cases h
  rename_i gs g;simp only[aY,bg]at h;obtain⟨h1,rfl⟩:=h;subst hb;simp only[decide_eq_true_eq]at h1;simp only[bq hid,ai.den];have q:AV.br cs=true:=by rw[←jS g]; exact fD _ _
  rw[if_pos ⟨c1,c2,q⟩,B1 h1];simp only[qf];rw[if_pos (by omega),df];simp only[ai.den,sV];rw[U3 g I]
 ·cases h
def tP(sz:Nat)(x:AV)(H:List ai)(want:Option (List Kd)):Option (Bool × List Kd × List (List G)) :=
 match x with
 | .nils | .lit (.slice none 0 0)=>match want with
  |some ks=>some (true,ks,[])
  |none=>none
 | .emptyS _=>match want with
  |some ks=>some (true,ks,[])
  |none=>none
 |.listF ks rows=>if ks.length=sz then some (true,ks,rows) else none
 | .list w rows=>match (match want with | some ks=>some ks | none=>o_ (rows.headD [])) with
  | some ks=>match bh ks rows with
   |some gs=>if w=sz then some (true,ks,gs) else none
   |none=>none
  |none=>none
 | .vec w id af off n=>match H[id]? with
  |some (.vec ks v rows)=>if w=sz∧ks.length=w∧v=af∧off=0 then some (ad n rows.length,ks,rows) else none
  |_=>none
 |.lit (.string s)=>if sz=1 then some (true,[.int .u8],s.data.toList.map fun b=>[.i b.toNat]) else none
 |_=>none
theorem Js{sz:Nat}{x:AV}{H:List ai}{want:Option (List Kd)}{b:Bool}{ks:List Kd}{rows:List (List G)}(h:tP sz x H want=some (b,ks,rows))(hb:b=true) :
  kz sz x (ao H)=some (rows.map (aJ ks)):=by
 unfold tP at h;split at h
 ·split at h
  ·cases h; rfl
  ·cases h
 ·split at h
  ·cases h; rfl
  ·cases h
 ·split at h
  ·cases h; rfl
  ·cases h
 ·split at h
  ·rename_i hw; cases h; simp only[kz]; rw[if_pos hw]
  ·cases h
 ·split at h
  ·split at h
   ·rename_i gs d
    split at h
    ·rename_i hw; cases h; simp only[kz]; rw[if_pos hw,o9 d]
    ·cases h
   ·cases h
  ·cases h
 ·rename_i w id af off n
  split at h
  ·rename_i u v rows' hid
   split at h
   ·rename_i g
    obtain⟨c1,c2,k,rfl⟩:=g;simp only[aY,bg]at h;obtain⟨h1,rfl,rfl⟩:=h;subst hb;have h1:=bu h1;simp only[kz,bq hid,ai.den];rw[if_pos ⟨c1,c2,k,by simp; omega⟩];simp only[List.drop_zero];rw[SF (by simp; omega)]
   ·cases h
  ·cases h
 ·rename_i s
  split at h
  ·rename_i q
   cases h;simp only[kz];rw[if_pos q];simp[aJ,il,G.int]
  ·cases h
 ·cases h
def B3:SK→Bool
 |.slice _ _ _ | .str=>true
 |_=>false
theorem B4{P:Program}{t xt:TypeId}{s x:AV}{H:List ab}{e sz d:Nat}{z:List Value}{new:List (List AV)}(hk:cf P t=.slice e sz d)(h:dV P e=some z)
  (g : B3 (cf P xt) = true) (q : kz sz x H = some new) (u : z.length = sz ∧ new.length ≤ 1048576 ∧ d ≤ 1048576) : qw P t xt s x H =
   match s with
    |.nils | .lit (.slice none 0 0)=>some (.vec sz H.length 0 0 new.length,H++[.vec sz 0 new])
    | .vec w id af off n=>match H[id]? with
     | some (.vec k v rows) =>
      if k=w∧w=sz∧v=af∧off=0∧n=rows.length∧rows.length+new.length≤1048576 then
       some (.vec w id (af+1) 0 (n+new.length),H.set id (.vec k (af+1) (rows++new)))
      else none
     |_=>none
    |_=>none:=by
 unfold qw;simp only[hk,h,q];cases y:cf P xt<;>simp only[y,B3]at g⊢<;>first
  |(cases g; done)
  |(rw[if_pos u]; rfl)
def xF(sz:Nat)(x:AV)(H:List ai)(z:List Value):Option (Bool × List Kd × List (List G)) :=
 match x with
 |.emptyS _=>tP sz x H (o_ (z.map .lit))
 |_=>tP sz x H none
theorem U5{sz:Nat}{x:AV}{H:List ai}{z:List Value}{b:Bool}{ks:List Kd}{rows:List (List G)}(h:xF sz x H z=some (b,ks,rows))(hb:b=true) :
  kz sz x (ao H)=some (rows.map (aJ ks)):=by
 unfold xF at h;split at h<;>exact Js h hb
def tQ(P:Program)(t xt:TypeId)(s x:AV)(H:List ai):Option (Bool × AV × List ai) :=
 match cf P t with
 | .slice e sz d =>
  match dV P e,B3 (cf P xt)with
  | some z,true =>
   if z.length=sz∧d≤1048576 then
    match s with
    | .nils | .lit (.slice none 0 0)=>match xF sz x H z with
     |some (b,ks,new)=>if ks.length=sz then some (b&&decide (new.length≤1048576),.vec sz H.length 0 0 new.length,H++[.vec ks 0 new]) else none
     |none=>none
    | .vec w id af off n=>match H[id]? with
     | some (.vec ks v rows)=>match tP sz x H (some ks) with
      | some (b,g,new) =>
       if ks.length=w∧w=sz∧v=af∧off=0∧Kd.gj ks g=true then
        some (b&&(ad n rows.length&&decide (rows.length+new.length≤1048576)),.vec w id (af+1) 0 (rows++new).length,H.set id (.vec ks (af+1) (rows++new)))
       else none
      |none=>none
     |_=>none
    |_=>none
   else none
  |_,_=>none
 |_=>none
theorem U6{P:Program}{t xt:TypeId}{s x v:AV}{H H':List ai}{b:Bool}(h:tQ P t xt s x H=some (b,v,H'))(hb:b=true) :
  qw P t xt s x (ao H)=some (v,ao H'):=by
 unfold tQ at h;split at h
 case h_2=>cases h
 rename_i e sz V hk;split at h
 case h_2=>cases h
 rename_i z q k;split at h
 case isFalse=>cases h
 rename_i I;obtain⟨c1,c2⟩:=I;have fresh:∀{b1:Bool} {ks:List Kd} {new:List (List G)},xF sz x H z=some (b1,ks,new) →
   (if ks.length=sz then some (b1&&decide (new.length≤1048576),AV.vec sz H.length 0 0 new.length,H++[ai.vec ks 0 new]) else none)=some (b,v,H') →
   ∃ rows,kz sz x (ao H)=some rows∧rows.length≤1048576∧v=.vec sz (ao H).length 0 0 rows.length∧ao H'=ao H++[.vec sz 0 rows]:=by
  intro b1 ks new d h;split at h
  case isFalse=>cases h
  rename_i B;simp only[aY,bg]at h;obtain⟨h1,rfl,rfl⟩:=h;subst hb;simp only[aA,decide_eq_true_eq]at h1;refine⟨_,U5 d h1.1,by simpa using h1.2,by simp[en],?_⟩;rw[gF,ai.den,B]
 split at h
 ·split at h
  case h_2=>cases h
  rename_i b1 ks new d;obtain⟨rows,g1,g2,g3,g4⟩:=fresh d h;rw[B4 hk q k g1 ⟨c1,g2,c2⟩,g3,g4]
 ·split at h
  case h_2=>cases h
  rename_i b1 ks new d;obtain⟨rows,g1,g2,g3,g4⟩:=fresh d h;rw[B4 hk q k g1 ⟨c1,g2,c2⟩,g3,g4];rfl
 ·rename_i w id af off n
  split at h
  case h_2=>cases h
  rename_i ks vv rows hid;split at h
  case h_2=>cases h
  rename_i b1 W new d;split at h
  case isFalse=>cases h
  rename_i J;obtain⟨y,M,N,O,u⟩:=J;have u:=Kd.ix u;subst u;simp only[aY,bg]at h;obtain⟨h1,rfl,rfl⟩:=h;subst hb;simp only[aA,decide_eq_true_eq]at h1;obtain⟨h1,g,U⟩:=h1;have g:=bu g;rw[B4 hk q k (Js d h1) ⟨c1,by simp; omega,c2⟩];simp only[dz,bq hid,ai.den];rw[if_pos ⟨y,M,N,O,g,U⟩,df];simp only[ai.den,kf,e9,g,y]
 ·cases h
def nl(len:Nat)(lo hi:Option AV):Option (Bool × Nat × Nat) :=
 match lo,hi with
 |none,none=>some (true,0,len)
 |some (.lit (.int _ l)),none=>some (aw l&&bl l (len:Int),l.toNat,len)
 |none,some (.lit (.int _ h))=>some (aw h&&bl h (len:Int),0,h.toNat)
 |some (.lit (.int _ l)),some (.lit (.int _ h))=>some (aw l&&(bl l h&&bl h (len:Int)),l.toNat,h.toNat)
 |_,_=>none
theorem xG{len:Nat}{lo hi:Option AV}{b:Bool}{l h:Nat}(d:nl len lo hi=some (b,l,h))(hb:b=true):fP len lo hi=some (l,h):=by
 unfold nl at d;split at d
 ·cases d; simp[fP]
 ·rename_i l'
  simp only[aY,bg]at d;obtain⟨h1,rfl,rfl⟩:=d;subst hb;simp only[jQ,ff,aA,decide_eq_true_eq]at h1;simp[fP,jK,h1.1,h1.2]
 ·rename_i h'
  simp only[aY,bg]at d;obtain⟨h1,rfl,rfl⟩:=d;subst hb;simp only[jQ,ff,aA,decide_eq_true_eq]at h1;simp[fP,jK,h1.1,h1.2]
 ·rename_i l' _ h'
  simp only[aY,bg]at d;obtain⟨h1,rfl,rfl⟩:=d;subst hb;simp only[jQ,ff,aA,decide_eq_true_eq]at h1;simp[fP,jK,h1.1,h1.2.1,h1.2.2]
 ·cases d
def qP(rows:List (List G))(lo hi:Option AV)(l h:Nat):List (List G) :=
 match lo,hi with
 |none,none=>rows
 |some _,none=>rows.drop l
 |none,some _=>rows.take h
 |some _,some _=>(rows.drop l).take (h-l)
theorem Jt{rows:List (List G)}{lo hi:Option AV}{b:Bool}{l h:Nat}(d:nl rows.length lo hi=some (b,l,h)):qP rows lo hi l h=(rows.drop l).take (h-l):=by
 unfold nl at d;split at d
 ·cases d; simp[qP]
 ·simp only [aY, bg] at d
  obtain⟨h1,rfl,rfl⟩:=d;simp only[qP];rw[SF (by simp)]
 ·simp only [aY, bg] at d
  obtain⟨h1,rfl,rfl⟩:=d;simp[qP]
 ·rfl
 ·cases d
def B5(P:Program)(t:TypeId)(x:AV)(lo hi mx:Option AV):Option (Bool × AV) :=
 match mx with
 | some _=>match kr P t x lo hi mx with
  |some v=>some (true,v)
  |none=>none
 | none=>match cf P t,x with
  | .str,.lit (.string s)=>match nl s.size lo hi with
   |some (b,l,h)=>some (b,.lit (.string (s.extract l h)))
   |none=>none
  | .slice _ sz _,.listF ks rows=>match nl rows.length lo hi with
   |some (b,l,h)=>if ks.length=sz then some (b,.listF ks (qP rows lo hi l h)) else none
   |none=>none
  | .slice _ sz _,.vec w id af off n=>match nl n lo hi with
   |some (b,l,h)=>if w=sz then some (b,.vec w id af (off+l) (h-l)) else none
   |none=>none
  | .slice _ sz _,.list w rows=>match w,qo rows with
   | 1,some gs=>match nl gs.length lo hi with
    |some (b,l,h)=>if 1=sz then some (b,.listF [.str] (qP gs lo hi l h)) else none
    |none=>none
   | _,_=>match kr P t x lo hi none with
    |some v=>some (true,v)
    |none=>none
  | _,_=>match kr P t x lo hi none with
   |some v=>some (true,v)
   |none=>none
theorem U7{P:Program}{t:TypeId}{x v:AV}{lo hi mx:Option AV}{b:Bool}(h:B5 P t x lo hi mx=some (b,v))(hb:b=true):kr P t x lo hi mx=some v:=by
 unfold B5 at h;split at h
 ·split at h
  ·rename_i u hu; cases h; exact hu
  ·cases h
 ·split at h
  ·rename_i s hk
   split at h
   case h_2=>cases h
   rename_i k l q d;simp only[aY,bg]at h;obtain⟨h1,rfl⟩:=h;subst h1;simp[kr,hk,xG d hb]
  ·rename_i e sz y ks rows hk
   split at h
   case h_2=>cases h
   rename_i k l q d;split at h
   case isFalse=>cases h
   rename_i g;simp only[aY,bg]at h;obtain⟨h1,rfl⟩:=h;subst h1;simp[kr,hk,xG d hb,g,Jt d]
  ·rename_i e sz y w id af off n hk
   split at h
   case h_2=>cases h
   rename_i k l q d;split at h
   case isFalse=>cases h
   rename_i g;simp only[aY,bg]at h;obtain⟨h1,rfl⟩:=h;subst h1;simp[kr,hk,xG d hb,g]
  ·rename_i e sz y w rows hk
   split at h
   ·rename_i gs B
    split at h
    case h_2=>cases h
    rename_i k l q d;split at h
    case isFalse=>cases h
    rename_i g;simp only[aY,bg]at h;obtain⟨h1,rfl⟩:=h;subst h1;subst g;have I:rows.length=gs.length:=by rw[←A3 B,dz]
    simp[kr,hk,I,xG d hb,Jt d,wZ,B]
   ·split at h
    ·rename_i u hu; cases h; exact hu
    ·cases h
  ·split at h
   ·rename_i u hu; cases h; exact hu
   ·cases h
def tR(P:Program)(t:TypeId)(l c:AV)(H:List ai):Option (Bool × AV × List ai) :=
 match cf P t,l,c with
 | .slice e sz d,.lit (.int _ l),.lit (.int _ c) =>
  match dV P e with
  | some z=>match o_ (xe P e z) with
   | some ks=>match fJ ks (xe P e z) with
    | some gs=>if z.length=sz∧0<sz∧d≤1048576∧ks.length=sz then
      some (aw l&&(bl l c&&bl c 1048576),.vec sz H.length 0 0 l.toNat,H++[.vec ks 0 (bL l.toNat gs)]) else none
    |none=>none
   |none=>none
  |none=>none
 |_,_,_=>none
theorem U8{P:Program}{t:TypeId}{l c v:AV}{H H':List ai}{b:Bool}(h:tR P t l c H=some (b,v,H'))(hb:b=true) :
  tn P t l c (ao H)=some (v,ao H'):=by
 unfold tR at h;unfold tn;split at h
 case h_2=>cases h
 rename_i e sz y _ l _ c hk;rw[hk];simp only[];split at h
 case h_2=>cases h
 rename_i z g;split at h
 case h_2=>cases h
 rename_i ks B;split at h
 case h_2=>cases h
 rename_i gs d;split at h
 case isFalse=>cases h
 rename_i k;obtain⟨c1,c2,q,u⟩:=k;simp only[aY,bg]at h;obtain⟨h1,rfl,rfl⟩:=h;subst hb;simp only[jQ,ff,aA,decide_eq_true_eq]at h1;rw[g];simp only[];rw[if_pos ⟨c1,c2,h1.1,h1.2.1,h1.2.2,q⟩,gF,en,ai.den,u,List.map_replicate,jS d]
def tS(P:Program)(t:TypeId)(n:Nat)(parts:List (Nat × AV))(H:List ai):Option (Bool × AV × List ai) :=
 match cf P t with
 | .slice e _ _=>match dV P e with
  | some z=>match o_ (z.map .lit) with
   | some ks=>match qz P t n parts with
    | some (.list sz rows)=>match bh ks rows with
     |some gs=>if ks.length=sz then some (true,.vec sz H.length 0 0 gs.length,H++[.vec ks 0 gs]) else none
     |none=>none
    |_=>none
   |none=>none
  |none=>none
 |_=>none
theorem U9{P:Program}{t:TypeId}{n:Nat}{parts:List (Nat × AV)}{v:AV}{H H':List ai}{b:Bool}(h:tS P t n parts H=some (b,v,H')) :
  tz P t n parts (ao H)=some (v,ao H'):=by
 unfold tS at h;split at h
 case h_2=>cases h
 split at h
 case h_2=>cases h
 split at h
 case h_2=>cases h
 rename_i ks k;split at h
 case h_2=>cases h
 rename_i sz rows hb;split at h
 case h_2=>cases h
 rename_i gs d;split at h
 case isFalse=>cases h
 rename_i g;cases h;unfold tz;rw[hb];have e:=o9 d;simp only[];rw[gF,en,ai.den,g,e,←e,dz]
/-! ### Maps -/
def Ct.read:Ct→AV→Option (List G)
 | .one k,a=>match tN k a with
  |some g=>some [g]
  |none=>none
 |.agg ks,.agg cells=>fJ ks cells
 |_,_=>none
theorem Ct.jT{K:Ct}{a:AV}{r:List G}(h:K.read a=some r):K.av r=a:=by
 unfold Ct.read at h;split at h
 ·split at h
  ·rename_i g d
   cases h;exact BX d
  ·cases h
 ·simp only[Ct.av,jS h]
 ·cases h
def nm(P:Program)(t:TypeId):Option (Ct × List G) :=
 match P.info? t with
 | some i=>match i.zero with
  | some (.agg cs)=>match cs.toList.all dq,o_ (cs.toList.map .lit) with
   | true,some ks=>match fJ ks (cs.toList.map .lit) with
    |some gs=>some (.agg ks,gs)
    |none=>none
   |_,_=>none
  | some v=>match tO (.lit v) with
   | some k=>match tN k (.lit v) with
    |some g=>some (.one k,[g])
    |none=>none
   | none=>match gD P t,Bn P t with
    |some (.lit (.slice none 0 0)),some ks=>some (.one (.list ks),[.l []])
    |_,_=>none
  |none=>none
 |none=>none
theorem U_{P:Program}{t:TypeId}{v:AV}(h:gD P t=some v)(d:v=.lit (.slice none 0 0)→False):l6 P t=some v:=by
 unfold l6;rw[h];split
 ·rename_i e _
  cases e;exact(d rfl).elim
 ·rename_i e _
  cases e;rfl
 ·rename_i e
  cases e
theorem Ju{P:Program}{t:TypeId}{V:Ct}{z:List G}(h:nm P t=some (V,z)):l6 P t=some (V.av z):=by
 unfold nm at h;have q:∀ v,gD P t=some v→(v=.lit (.slice none 0 0)→False)→l6 P t=some v:=fun v h B=>U_ h B;split at h
 case h_2=>cases h
 rename_i i hi;split at h
 ·rename_i cs d
  split at h
  ·rename_i ks h1 u
   split at h
   ·rename_i gs I
    cases h;refine q _ ?_ fun e=>by cases e
    unfold gD;rw[hi];simp only[];rw[d];simp only[AV.ql,h1,if_true,Ct.av,jS I]
   ·cases h
  ·cases h
 ·rename_i v y d
  split at h
  ·rename_i k hk
   split at h
   ·rename_i g J
    cases h;have e:=BX J;simp only[Ct.av,wF,e];refine q _ ?_ fun e=>by
     simp only[AV.lit.injEq]at e;subst e;simp[tO]at hk
    unfold gD;rw[hi];simp only[];rw[d];simp only[];unfold AV.ql;split
    ·rename_i cs; exact(y cs rfl).elim
    ·simp[tO]at hk
    ·rfl
   ·cases h
  ·split at h
   ·rename_i ks h1 u
    cases h;unfold l6;rw[h1,u];rfl
   ·cases h
 ·cases h
def xH:SK→Kd→Bool
 |.int k,.int k'=>decide (k=k')
 |.str,.str=>true
 |.bool,.bool=>true
 |_,_=>false
def jr:List SK→List Kd→Bool
 | [],[]=>true
 |a::as,b::d=>xH a b&&jr as d
 |_,_=>false
def gk(P:Program)(d:TypeId)(K:Ct):Bool :=
 match flatK P lW d with
 | some g=>jr g K.ks&&(match K with
  |.one _ => !lV (P.underlying d)
  |.agg _=>lV (P.underlying d))
 |none=>false
def np:Kd→G→Value
 |.int k,g=>.int k g.int
 |.str,g=>.string g.str
 |.bool,g=>.bool g.bool
 |.list _,_=>.bool false
def di:List Kd→List G→List Value
 | [],_=>[]
 |k::ks,r=>np k (r.headD default)::di ks r.tail
theorem Jv:∀{d:List SK} {ks:List Kd} (r:List G),jr d ks=true→lU (aJ ks r)=some (di ks r)∧cC d (di ks r)=true
  | [],[],_,_=>⟨rfl,rfl⟩
  | a::as,k::ks,r,h=>by
    simp only[jr,aA]at h;obtain⟨h1,g⟩:=Jv r.tail h.2;have hk:=h.1;cases k<;>cases a<;>simp only[xH]at hk<;>first
      |(cases hk; done)
      | (simp only [aJ, il, lU, h1, di, np, cC, g, Bool.and_true]
         simp_all[kindOk])
  | [],_::_,_,h|_::_,[],_,h=>by simp[jr]at h
theorem xI:∀{d:List SK} {ks:List Kd} (r s:List G),jr d ks=true→dx (di ks r) (di ks s)=a_ ks r s
 | [],[],_,_,_=>rfl
 | a::as,k::ks,r,s,h=>by
  simp only[jr,aA]at h;have g:=xI r.tail s.tail h.2;have hk:=h.1;simp only[di,dx,a_,g];cases k<;>cases a<;>simp only[xH]at hk<;>first
   |(cases hk; done)
   |rfl
 | [],_::_,_,_,h|_::_,[],_,_,h=>by simp[jr]at h
theorem jt{P:Program}{g:TypeId}{K:Ct}(h:gk P g K=true)(r:List G):gQ P g (K.av r)=some (di K.ks r):=by
 unfold gk at h;split at h
 case h_2=>cases h
 rename_i q u;simp only[aA]at h;obtain⟨h1,d⟩:=h;obtain⟨g1,g2⟩:=Jv r h1;unfold gQ;rw[u];simp only[];cases K with
 | one k =>
  simp only[mM]at d;simp only[Ct.ks,di]at g2⊢;have e:il k (r.headD default)=.lit (np k (r.headD default)):=by
   simp only[Ct.ks]at h1;cases q with
   |nil=>simp[jr]at h1
   | cons a as =>
    simp only[jr,aA]at h1;have hk:=h1.1;cases k<;>cases a<;>simp only[xH]at hk<;>first
     |(cases hk; done)
     |rfl
  simp only[Ct.av,e,g2,d,and_self,if_true]
 | agg ks =>
  simp only[Ct.av,Ct.ks]at g1 g2⊢;simp only[g1,g2,d,and_self,if_true]
def bW(ks:List Kd)(key:List G):List (List G)→Nat→Option (Nat × List G)
 | [],_=>none
 |r::rs,i=>bif a_ ks key (gi r 0).row then some (i,r) else bW ks key rs (i+1)
def dO(ks:List Kd)(rows:List (List G))(key:List G):Bool:=(bW ks key rows 0).isSome
def az(ks:List Kd)(rows:List (List G))(key z:List G):List G:=match bW ks key rows 0 with
 |some (_,r)=>(gi r 1).row
 |none=>z
def aL(ks:List Kd)(rows:List (List G))(key val:List G)(clock:Nat):List (List G):=match bW ks key rows 0 with
 |some (i,r)=>rows.set i [.l [key],.l [val],.i (gi r 2).int]
 |none=>rows++[[.l [key],.l [val],.i clock]]
def bz(ks:List Kd)(rows:List (List G))(key:List G)(clock:Nat):Nat:=bif dO ks rows key then clock else clock+1
def Jw(ks:List Kd)(rows:List (List G))(key:List G):List (List G):=match bW ks key rows 0 with
 |some (i,_)=>rows.eraseIdx i
 |none=>rows
theorem qQ{P:Program}{g:TypeId}{K V:Ct}(h:gk P g K=true)(key:List G):∀(rows:List (List G)) (i:Nat),eb P g (di K.ks key) (dh K V rows) i =
  some ((bW K.ks key rows i).map fun p=>(p.1,V.av (gi p.2 1).row))
 | [],i=>rfl
 | r::rs,i=>by
  have q:=qQ (V:=V) h key rs (i+1);have k:∃ d,jr d K.ks=true:=by
   unfold gk at h;split at h
   ·simp only[aA]at h; exact⟨_,h.1⟩
   ·cases h
  obtain⟨d,u⟩:=k;simp only[dh,dw,eb,jt h,xI _ _ u,bW];cases a_ K.ks key (gi r 0).row with
  |true=>rfl
  |false=>exact q
theorem pb{ks:List Kd}{key:List G}:∀{rows:List (List G)} {i j:Nat} {r:List G},bW ks key rows i=some (j,r)→i≤j∧rows[j-i]? = some r
 | [],_,_,_,h=>by simp[bW]at h
 | x::rs,i,j,r,h=>by
  simp only[bW]at h;cases d:a_ ks key (gi x 0).row with
  | true =>
   rw[d]at h;cases h;exact⟨aG _,by simp⟩
  | false =>
   rw[d]at h;obtain⟨h1,g⟩:=pb h;refine⟨by omega,?_⟩;rw[show j-i=(j-(i+1))+1 from by omega];simpa using g
def B6(P:Program)(t:TypeId)(m k:AV)(ok:Bool)(H:List ai):Option (Bool × AV) :=
 match c7 P t,m with
 | some (d,g),.map id=>match H[id]? with
  | some (.map K V rows _)=>match K.read k,nm P g with
   | some key,some (h,z)=>match gk P d K&&V.same h with
    | true=>some (true,match ok with
      |true=>.tuple [V.av (az K.ks rows key z),.lit (.bool (dO K.ks rows key))]
      |false=>V.av (az K.ks rows key z))
    |false=>none
   |_,_=>none
  |_=>none
 |_,_=>none
theorem Jx{P:Program}{t:TypeId}{m k v:AV}{ok b:Bool}{H:List ai}(h:B6 P t m k ok H=some (b,v)):fF P t m k ok (ao H)=some v:=by
 unfold B6 at h;unfold fF;split at h
 case h_2=>cases h
 rename_i u y id g;rw[g];simp only[];split at h
 case h_2=>cases h
 rename_i K V rows cl hid;rw[bq hid];simp only[ai.den];split at h
 case h_2=>cases h
 rename_i key B z hk q;split at h
 case h_2=>cases h
 rename_i d;simp only[aA]at d;have e:=Ct.jq d.2;subst e;rw[←Ct.jT hk,jt d.1,Ju q];simp only[qQ d.1];cases h;unfold az dO;cases bW K.ks key rows 0 with
 |none=>cases ok<;>rfl
 |some p=>cases ok<;>rfl
def qR(P:Program)(t:TypeId)(m k v:AV)(H:List ai):Option (Bool × List ai) :=
 match c7 P t,m with
 | some (d,_),.map id=>match H[id]? with
  | some (.map K V rows cl)=>match K.read k,V.read v with
   | some key,some val=>match gk P d K with
    |true=>some (true,H.set id (.map K V (aL K.ks rows key val cl) (bz K.ks rows key cl)))
    |false=>none
   |_,_=>none
  |_=>none
 |_,_=>none
def cu(ks:List Kd)(rows:List (List G))(key:List G):List (List G):=match bW ks key rows 0 with
 |some (_,r)=>jR r
 |none=>[]
def ed(ks:List Kd)(rows:List (List G))(key:List G):Bool:=match bW ks key rows 0 with
 |some (_,r)=>(gi r 3).bool
 |none=>true
def gl(ks:List Kd)(rows:List (List G))(key:List G):List (List G):=match bW ks key rows 0 with
 |some (i,r)=>rows.set i [gi r 0,gi r 1,gi r 2,.t false]
 |none=>rows
def kF(ks:List Kd)(rows:List (List G))(key:List G)(val:List (List G))(clock:Nat):List (List G):=match bW ks key rows 0 with
 |some (i,r)=>rows.set i [.l [key],.l [[.l val]],.i (gi r 2).int,.t true]
 |none=>rows++[[.l [key],.l [[.l val]],.i clock,.t true]]
def tT(P:Program)(t:TypeId)(m k:AV)(H:List ai):Option (Bool × AV × List ai) :=
 match c7 P t,m with
 | some (g,d),.map id=>match H[id]? with
  | some (.aI l K ks rows cl)=>match K.read k,xn P d,gD P d with
   | some key,some w',some (.lit (.slice none 0 0))=>match ad w' ks.length&&gk P g K with
    |true=>some (ed K.ks rows key,.vec ks.length H.length 0 0 (cu K.ks rows key).length,H.set id (.aI l K ks (gl K.ks rows key) cl)++[.vec ks 0 (cu K.ks rows key)])
    |false=>none
   |_,_,_=>none
  |_=>none
 |_,_=>none
def tU(P:Program)(t:TypeId)(m k v:AV)(H:List ai):Option (Bool × List ai) :=
 match c7 P t,m,v with
 | some (h,_),.map id,.vec w j af off n=>match H[id]?,H[j]? with
  | some (.aI l K ks rows cl),some (.vec g d rws)=>match K.read k with
   | some key=>match gk P h K&&(Kd.gj ks g&&(ad w ks.length&&(ad af d&&ad off 0))) with
    |true=>some (ad n rws.length,(H.set id (.aI l K ks (kF K.ks rows key rws cl) (bz K.ks rows key cl))).set j (.raw .dead))
    |false=>none
   |none=>none
  |_,_=>none
 |_,_,_=>none
def lh(ks:List Kd)(rows:List (List G))(key:List G)(clock:Nat):Nat:=match bW ks key rows 0 with
 |some (_,r)=>(gi r 2).int.toNat
 |none=>clock
def lj(ks:List Kd)(rows:List (List G))(key:List G)(clock:Nat):List (List G):=match bW ks key rows 0 with
 |some (i,r)=>rows.set i [.l [key],gi r 1,gi r 2,.t false]
 |none=>rows++[[.l [key],.l [[.l []]],.i clock,.t false]]
def tV(P:Program)(t:TypeId)(m k:AV)(H:List ai):Option (Bool × AV × List ai) :=
 match c7 P t,m with
 | some (g,d),.map id=>match H[id]? with
  | some (.aI l K ks rows cl)=>match K.read k,xn P d,gD P d with
   | some key,some w',some (.lit (.slice none 0 0))=>match ad w' ks.length&&gk P g K with
    | true=>some (ed K.ks rows key,.tuple [.vec ks.length H.length 0 0 (cu K.ks rows key).length,.lit (.int .i64 (lh K.ks rows key cl:Nat))],
      H.set id (.aI l K ks (lj K.ks rows key cl) (bz K.ks rows key cl))++[.vec ks 0 (cu K.ks rows key)])
    |false=>none
   |_,_,_=>none
  |_=>none
 |_,_=>none
def eT(st:Int):List (List G)→Nat→Option (Nat × List G)
 | [],_=>none
 |r::rs,i=>bif ((gi r 2).int.toNat:Int)==st then some (i,r) else eT st rs (i+1)
def qS(rows:List (List G))(st:Int)(val:List (List G)):List (List G):=match eT st rows 0 with
 |some (i,r)=>rows.set i [gi r 0,.l [[.l val]],gi r 2,.t true]
 |none=>rows
def qT(rows:List (List G))(st:Int):Bool:=(eT st rows 0).isSome
def tW(m s v:AV)(H:List ai):Option (Bool × List ai) :=
 match m,s,v with
 | .map id,.lit (.int .i64 st),.vec w j af off n=>match H[id]?,H[j]? with
  | some (.aI l K ks rows cl),some (.vec g d rws)=>match Kd.gj ks g&&(ad w ks.length&&(ad af d&&ad off 0)) with
   |true=>some (qT rows st&&ad n rws.length,(H.set id (.aI l K ks (qS rows st rws) cl)).set j (.raw .dead))
   |false=>none
  |_,_=>none
 |_,_,_=>none
theorem xJ{P:Program}{g:TypeId}{K:Ct}{ks:List Kd}(h:gk P g K=true)(key:List G):∀(rows:List (List G)) (i:Nat),eb P g (di K.ks key) (cG (fS K ks rows)) i =
  some ((bW K.ks key rows i).map fun p=>(p.1,AV.undef))
 | [],i=>rfl
 | r::rs,i=>by
  have q:=xJ (ks:=ks) h key rs (i+1);have k:∃ d,jr d K.ks=true:=by
   unfold gk at h;split at h
   ·simp only[aA]at h; exact⟨_,h.1⟩
   ·cases h
  obtain⟨d,u⟩:=k;simp only[fS,cG,jo,dw,eb,jt h,xI _ _ u,bW];cases a_ K.ks key (gi r 0).row with
  |true=>rfl
  |false=>exact q
theorem tX{K:Ct}{ks:List Kd}{rows:List (List G)}{i:Nat}{r:List G}(h:rows[i]? = some r):(fS K ks rows)[i]? = some (jo K ks r):=by
 unfold fS;rw[cd,h];rfl
theorem xK(K:Ct)(ks:List Kd)(rows:List (List G))(i:Nat)(r:List G):fS K ks (rows.set i r)=(fS K ks rows).set i (jo K ks r):=by
 simp[fS,sV]
theorem U'{P:Program}{t:TypeId}{m k v:AV}{b:Bool}{H H':List ai}(h:tT P t m k H=some (b,v,H'))(hb:b=true):tA P t m k (ao H)=some (v,ao H')∧fF P t m k false (ao H)=none:=by
 unfold tT at h;unfold tA fF;split at h
 case h_2=>cases h
 rename_i N O id J;rw[J];simp only[];split at h
 case h_2=>cases h
 rename_i l K ks rows cl hid;rw[bq hid];simp only[ai.den];split at h
 case h_2=>cases h
 rename_i key w' hk hw M;split at h
 case h_2=>cases h
 rename_i u;simp only[aA]at u;obtain⟨g,q⟩:=u;have e:=bu g;simp only[aY,bg]at h;obtain⟨d,rfl,rfl⟩:=h;rw[hb]at d;rw[←Ct.jT hk,jt q,hw,M];simp only[g,xJ q,and_true];unfold ed at d;unfold cu gl;cases y:bW K.ks key rows 0 with
 | none =>
  simp only[wD,gF,df,ai.den,en,kV,sW]
 | some p =>
  obtain⟨i,r⟩:=p;rw[y]at d;simp only[]at d;obtain⟨_,B⟩:=pb y;rw[fZ]at B;have I:m_ (fS K ks rows) i=some (K.av (gi r 0).row,(jR r).map (aJ ks),(gi r 2).int.toNat):=by
   unfold m_;rw[tX B];simp only[jo,d,cond_true]
  simp only[eF,I,gF,df,ai.den,en,dz,xK];rfl
theorem Va{P:Program}{t:TypeId}{m k v:AV}{b:Bool}{H H':List ai}(h:tU P t m k v H=some (b,H'))(hb:b=true):oS P t m k v (ao H)=some (ao H')∧lb P t m k v (ao H)=none:=by
 unfold tU at h;unfold oS lb;split at h
 case h_2=>cases h
 rename_i kt et id w j af off n M;rw[M];simp only[];split at h
 case h_2=>cases h
 rename_i l K ks rows cl ks2 ver' rws hid N;rw[bq hid,bq N];simp only[ai.den];split at h
 case h_2=>cases h
 rename_i key hk;split at h
 case h_2=>cases h
 rename_i q;simp only[aA]at q;obtain⟨g,y,B,I,J⟩:=q;have O:=Kd.ix y;subst O;have U:=bu B;have V:=bu I;have W:=bu J;subst U V W;simp only[aY,bg]at h;obtain⟨d,rfl⟩:=h;rw[hb]at d;have d:=bu d;subst d;rw[←Ct.jT hk,jt g];simp only[Ct.tM,dz,and_self,if_true,xJ g,and_true];unfold kF bz dO;cases hf:bW K.ks key rows 0 with
 | none =>
  simp only[wD,df,ai.den,Hg,cond_false];simp[fS,jo,jR,gi,G.row,G.rows,G.int,G.bool]
 | some p =>
  obtain⟨i,r⟩:=p;obtain⟨_,u⟩:=pb hf;rw[fZ]at u;simp only[eF,Bu (tX u),df,ai.den,xK,Hy,cond_true];simp[jo,jR,gi,G.row,G.rows,G.int,G.bool]
theorem Vb{P:Program}{t:TypeId}{m k v:AV}{b:Bool}{H H':List ai}(h:tV P t m k H=some (b,v,H'))(hb:b=true):gT P t m k (ao H)=some (v,ao H'):=by
 unfold tV at h;unfold gT;split at h
 case h_2=>cases h
 rename_i N O id J;rw[J];simp only[];split at h
 case h_2=>cases h
 rename_i l K ks rows cl hid;rw[bq hid];simp only[ai.den];split at h
 case h_2=>cases h
 rename_i key w' hk hw M;split at h
 case h_2=>cases h
 rename_i q;simp only[aA]at q;obtain⟨B,g⟩:=q;simp only[aY,bg]at h;obtain⟨d,rfl,rfl⟩:=h;rw[hb]at d;rw[←Ct.jT hk,jt g,hw,M];simp only[B,Ct.tM,Bool.and_self,xJ g];unfold ed at d;unfold cu lj lh bz dO;cases u:bW K.ks key rows 0 with
 | none =>
  simp only[wD,gF,df,ai.den,en,kV,sW,Hg,cond_false,goInt];simp[fS,jo,jR,gi,G.row,G.rows,G.int,G.bool]
 | some p =>
  obtain⟨i,r⟩:=p;rw[u]at d;simp only[]at d;obtain⟨_,y⟩:=pb u;rw[fZ]at y;have I:m_ (fS K ks rows) i=some (K.av (gi r 0).row,(jR r).map (aJ ks),(gi r 2).int.toNat):=by
   unfold m_;rw[tX y];simp only[jo,d,cond_true]
  simp only[eF,I,gF,df,ai.den,en,dz,xK,Hy,cond_true,goInt];rfl
theorem B7{st:Int}:∀{rows:List (List G)} {i j:Nat} {r:List G},eT st rows i=some (j,r)→i≤j∧rows[j-i]? = some r
 | [],_,_,_,h=>by simp[eT]at h
 | x::rs,i,j,r,h=>by
  simp only[eT]at h;cases d:((gi x 2).int.toNat:Int)==st with
  | true =>
   rw[d]at h;cases h;simp
  | false =>
   rw[d]at h;obtain⟨h1,g⟩:=B7 h;refine⟨by omega,?_⟩;rw[show j-i=(j-(i+1))+1 from by omega];simpa using g
theorem Jy{K:Ct}{ks:List Kd}{st:Int}:∀{rows:List (List G)} {i:Nat},(eT st rows i).map (·.1)=(oT (fS K ks rows) st).map (·+i)
 | [],_=>rfl
 | x::rs,i=>by
  have d:=Jy (K:=K) (ks:=ks) (st:=st) (rows:=rs) (i:=i+1);unfold oT at d⊢;simp only[eT,fS,dw,Ho,jo]at d⊢;cases g:((gi x 2).int.toNat:Int)==st with
  |true=>simp
  | false =>
   simp only[cond_false,d,kS,if_false,Hz];congr 1
   funext n
   simp only[HA];omega
theorem Vc{m s v:AV}{b:Bool}{H H':List ai}(h:tW m s v H=some (b,H'))(hb:b=true):jM m s v (ao H)=some (ao H'):=by
 unfold tW at h;unfold jM;split at h
 case h_2=>cases h
 rename_i id st w j af off n;split at h
 case h_2=>cases h
 rename_i l K ks rows cl ks2 ver' rws hid U;simp only[];rw[bq hid,bq U];simp only[ai.den];split at h
 case h_2=>cases h
 rename_i u;simp only[aA]at u;obtain⟨J,M,N,O⟩:=u;have V:=Kd.ix J;subst V;have W:=bu M;have e4:=bu N;have e5:=bu O;subst W e4 e5;simp only[aY,bg]at h;obtain⟨k,rfl⟩:=h;rw[hb]at k;simp only[aA]at k;obtain⟨d,g⟩:=k;have g:=bu g;subst g;simp only[dz,and_self,if_true];unfold qT at d;unfold qS;cases q:eT st rows 0 with
 |none=>rw[q]at d; cases d
 | some p =>
  obtain⟨i,r⟩:=p;obtain⟨_,B⟩:=B7 q;rw[fZ]at B;have hi:oT (fS K ks rows) st=some i:=by
   have:=Jy (K:=K) (ks:=ks) (st:=st) (rows:=rows) (i:=0);rw[q]at this;cases I:oT (fS K ks rows) st with
   |none=>rw[I]at this; cases this
   |some y=>rw[I]at this; simp at this; rw[this]
  rw[hi];simp only[tX B,jo,df,ai.den,xK];simp[jR,gi,G.row,G.rows,G.bool]
theorem Jz(K V:Ct)(rows:List (List G))(i:Nat)(r:List G):dh K V (rows.set i r)=(dh K V rows).set i (K.av (gi r 0).row,V.av (gi r 1).row,(gi r 2).int.toNat):=by
 simp[dh,sV]
theorem JA{α:Type}{l:List α}{i:Nat}{x:α}(f:α→α)(h:l[i]? = some x):l.modify i f=l.set i (f x):=by
 apply List.ext_getElem?;intro j;rw[List.getElem?_modify,List.getElem?_set];by_cases e:i=j
 ·subst e
  rw[if_pos rfl,if_pos (aK h),h];simp
 ·rw [if_neg e]
  simp[e]
theorem JB{P:Program}{t:TypeId}{m k v:AV}{b:Bool}{H H':List ai}(h:qR P t m k v H=some (b,H')):lb P t m k v (ao H)=some (ao H'):=by
 unfold qR at h;unfold lb;split at h
 case h_2=>cases h
 rename_i I J id u;rw[u];simp only[];split at h
 case h_2=>cases h
 rename_i K V rows cl hid;rw[bq hid];simp only[ai.den];split at h
 case h_2=>cases h
 rename_i key val hk y;split at h
 case h_2=>cases h
 rename_i d;cases h;rw[←Ct.jT hk,←Ct.jT y,jt d];simp only[Ct.tM,and_self,if_true,qQ d,df,ai.den];unfold aL bz dO;cases B:bW K.ks key rows 0 with
 |none=>simp[dh,gi,G.row,G.rows,G.int]
 | some p =>
  obtain⟨_,g⟩:=pb (r:=p.2) (j:=p.1) B;rw[fZ]at g;have q:(dh K V rows)[p.1]? = some (K.av (gi p.2 0).row,V.av (gi p.2 1).row,(gi p.2 2).int.toNat):=by simp[dh,g]
  simp only[eF,JA _ q,Jz,Hy,cond_true];simp[gi,G.row,G.rows,G.int]
def tY(P:Program)(t:TypeId)(m k:AV)(H:List ai):Option (Bool × List ai) :=
 match c7 P t,m with
 | some (d,_),.map id=>match H[id]? with
  | some (.map K V rows cl)=>match K.read k,gk P d K with
   |some key,true=>some (true,H.set id (.map K V (Jw K.ks rows key) cl))
   |_,_=>none
  |_=>none
 |_,_=>none
theorem JD{α β:Type}(f:α→β):∀(l:List α) (i:Nat),(l.map f).eraseIdx i=(l.eraseIdx i).map f
 | [],_=>by simp
 |_::_,0=>by simp
 |_::l,i+1=>by simp[JD f l i]
theorem Vd{P:Program}{t:TypeId}{m k:AV}{b:Bool}{H H':List ai}(h:tY P t m k H=some (b,H')):tw P t m k (ao H)=some (ao H'):=by
 unfold tY at h;unfold tw;split at h
 case h_2=>cases h
 rename_i q u id g;rw[g];simp only[];split at h
 case h_2=>cases h
 rename_i K V rows cl hid;rw[bq hid];simp only[ai.den];split at h
 case h_2=>cases h
 rename_i key hk d;cases h;rw[←Ct.jT hk,jt d];simp only[qQ d,df,ai.den];unfold Jw;cases v:bW K.ks key rows 0 with
 |none=>rfl
 |some p=>simp only[eF,dh,JD]
def tZ(P:Program)(t:TypeId)(x:AV)(H:List ai):Option (Bool × List ai) :=
 match cf P t,x with
 | .slice e sz _,.vec w id af off n=>match dV P e,H[id]? with
  | some z,some (.vec ks v rows)=>match fJ ks (z.map .lit) with
   | some d=>if ks.length=w∧w=sz∧v=af∧z.length=sz∧0<sz then
     some (dH (off+n) rows.length,H.set id (.vec ks v (rows.take off++bL n d++rows.drop (off+n)))) else none
   |none=>none
  |_,_=>none
 |_,_=>none
theorem Ve{P:Program}{t:TypeId}{x:AV}{b:Bool}{H H':List ai}(h:tZ P t x H=some (b,H'))(hb:b=true):tx P t x (ao H)=some (ao H'):=by
 unfold tZ at h;unfold tx;split at h
 case h_2=>cases h
 rename_i e sz y w id af off n hk;rw[hk];simp only[];split at h
 case h_2=>cases h
 rename_i z ks v rows k hid;rw[k,bq hid];simp only[ai.den];split at h
 case h_2=>cases h
 rename_i B g;split at h
 case isFalse=>cases h
 rename_i q;obtain⟨rfl,rfl,rfl,h1,u⟩:=q;simp only[aY,bg]at h;obtain⟨d,rfl⟩:=h;subst hb;have d:=sY d;simp only[h1,u,dz,d,and_self,if_true,df,ai.den,aY];rw[←jS g];simp[List.map_take,List.map_drop]
def t_(P:Program)(t xt:TypeId)(s x:AV)(H:List ai):Option (Bool × AV × List ai) :=
 match cf P t,cf P xt,s,x with
 | .slice e sz d,.int _,.lit (.slice none 0 0),.lit (.int _ n)=>match dV P e with
  | some z=>match o_ (z.map .lit) with
   | some ks=>match fJ ks (z.map .lit) with
    | some g=>if z.length=sz∧0<sz∧d≤1048576∧ks.length=sz then
      some (aj 0 n&&bl n 1048576,.vec sz H.length 0 0 n.toNat,H++[.vec ks 0 (bL n.toNat g)]) else none
    |none=>none
   |none=>none
  |none=>none
 |_,_,_,_=>none
theorem Vf{P:Program}{t xt:TypeId}{s x v:AV}{b:Bool}{H H':List ai}(h:t_ P t xt s x H=some (b,v,H'))(hb:b=true):oR P t xt s x (ao H)=some (v,ao H'):=by
 unfold t_ at h;unfold oR;split at h
 case h_2=>cases h
 rename_i e sz M k k' n hk g;rw[hk,g];simp only[];split at h
 case h_2=>cases h
 rename_i z u;rw[u];simp only[];split at h
 case h_2=>cases h
 rename_i ks N;split at h
 case h_2=>cases h
 rename_i O q;split at h
 case isFalse=>cases h
 rename_i y;obtain⟨h1,B,I,J⟩:=y;simp only[aY,bg]at h;obtain⟨d,rfl,rfl⟩:=h;subst hb;simp only[dY,ff,aA,decide_eq_true_eq]at d;simp only[h1,B,I,d.1,d.2,and_self,if_true,gF,ai.den,en,J,aY,bg,true_and];rw[←jS q];simp
def fp(ks:List Kd)(rows:List (List G))(key:List G):Option Nat:=match bW ks key rows 0 with
 |some (_,r)=>oZ r
 |none=>none
def kG(mem:List (List G)):Option Nat→Bool
 |some i=>fa i mem.length
 |none=>false
def gn(mem:List (List G)):Option Nat→List G
 |some i=>mem.getD i []
 |none=>[]
def qU(mem:List (List G))(j:Option Nat)(ks:List Kd)(key val:List G):List (List G):=match j with
 |some i=>mem.set i [.l (aL ks (gi (gn mem j) 0).rows key val (gi (gn mem j) 1).int.toNat),.i (bz ks (gi (gn mem j) 0).rows key (gi (gn mem j) 1).int.toNat:Nat)]
 |none=>mem
def qV(rows:List (List G))(st:Int):Bool:=match eT st rows 0 with
 |some (_,r) => !bl 0 (gi r 1).int
 |none=>false
def qW(rows:List (List G))(st:Int)(n:Nat):List (List G):=match eT st rows 0 with
 |some (i,r)=>rows.set i [gi r 0,.i n,gi r 2]
 |none=>rows
theorem B8{P:Program}{g:TypeId}{K:Ct}(h:gk P g K=true)(key:List G):∀(rows:List (List G)) (i:Nat),eb P g (di K.ks key) (fb (gX K rows)) i =
  some ((bW K.ks key rows i).map fun p=>(p.1,AV.undef))
 | [],i=>rfl
 | r::rs,i=>by
  have q:=B8 h key rs (i+1);have k:∃ d,jr d K.ks=true:=by
   unfold gk at h;split at h
   ·simp only[aA]at h; exact⟨_,h.1⟩
   ·cases h
  obtain⟨d,u⟩:=k;simp only[gX,fb,dw,eb,jt h,xI _ _ u,bW];cases a_ K.ks key (gi r 0).row with
  |true=>rfl
  |false=>exact q
theorem JE{K:Ct}{rows:List (List G)}{i:Nat}{r:List G}(h:rows[i]? = some r):(gX K rows)[i]? = some (K.av (gi r 0).row,oZ r,(gi r 2).int.toNat):=by
 unfold gX;rw[cd,h];rfl
theorem JF{KI VI:Ct}{mem:List (List G)}{i:Nat}(h:i<mem.length):(nh KI VI mem)[i]? = some (dh KI VI (gi (mem.getD i []) 0).rows,(gi (mem.getD i []) 1).int.toNat):=by
 unfold nh;rw[cd,cr,bO h];rfl
def B9(P:Program)(t:TypeId)(m k:AV)(ok:Bool)(H:List ai):Option (Bool × AV) :=
 match c7 P t,m with
 | some (d,g),.sub id l j=>match H[id]? with
  | some (.mm l' _ KI VI _ mem _)=>match KI.read k,nm P g with
   | some key,some (h,z)=>match ad l l'&&(gk P d KI&&VI.same h) with
    | true=>some (kG mem j,match ok with
      |true=>.tuple [VI.av (az KI.ks (gi (gn mem j) 0).rows key z),.lit (.bool (dO KI.ks (gi (gn mem j) 0).rows key))]
      |false=>VI.av (az KI.ks (gi (gn mem j) 0).rows key z))
    |false=>none
   |_,_=>none
  |_=>none
 | some (d,g),.map id=>match H[id]?,ok with
  | some (.mm l K _ _ rows _ _),false=>match K.read k,gD P g with
   | some key,some (.lit (.map none))=>match gk P d K with
    |true=>some (true,.sub id l (fp K.ks rows key))
    |false=>none
   |_,_=>none
  |_,_=>none
 |_,_=>none
theorem Vg{P:Program}{t:TypeId}{m k v:AV}{ok b:Bool}{H:List ai}(h:B9 P t m k ok H=some (b,v))(hb:b=true):fF P t m k ok (ao H)=none∧jn P t m k ok (ao H)=some v:=by
 unfold B9 at h;unfold jn fF;split at h
 ·rename_i B I id l j g
  rw[g];refine⟨rfl,?_⟩;split at h
  case h_2=>cases h
  rename_i l' K KI VI rows mem cl hid;split at h
  case h_2=>cases h
  rename_i key O z hk q;split at h
  case h_2=>cases h
  rename_i d;simp only[aA]at d;obtain⟨J,d,M⟩:=d;have e:=Ct.jq M;subst e;simp only[aY,bg]at h;obtain⟨hi,rfl⟩:=h;rw[hb]at hi;cases j with
  |none=>cases hi
  | some i =>
   have y:i<mem.length:=by simpa[kG]using hi
   simp only[qB,g];rw[bq hid];simp only[ai.den,J,JF y,gn];rw[←Ct.jT hk,jt d,Ju q];simp only[qQ d];unfold az dO;cases bW KI.ks key (gi (mem.getD i []) 0).rows 0 with
   |none=>cases ok<;>rfl
   |some p=>cases ok<;>rfl
 ·rename_i B I id g
  rw[g];split at h
  case h_2=>cases h
  rename_i l K KI VI rows mem cl hid;split at h
  case h_2=>cases h
  rename_i key hk q;split at h
  case h_2=>cases h
  rename_i d;simp only[oU,g];rw[bq hid];simp only[ai.den];refine⟨trivial,?_⟩;rw[←Ct.jT hk,jt d,q];simp only[B8 d];cases h;unfold fp;cases N:bW K.ks key rows 0 with
  |none=>rfl
  | some p =>
   obtain⟨i,r⟩:=p;obtain⟨_,u⟩:=pb N;rw[fZ]at u;simp only[eF,JE u]
 ·cases h
def ua(P:Program)(t:TypeId)(m k v:AV)(H:List ai):Option (Bool × List ai) :=
 match c7 P t,m with
 | some (d,_),.sub id l j=>match H[id]? with
  | some (.mm l' K KI VI rows mem cl)=>match KI.read k,VI.read v with
   | some key,some val=>match ad l l'&&gk P d KI with
    |true=>some (kG mem j,H.set id (.mm l' K KI VI rows (qU mem j KI.ks key val) cl))
    |false=>none
   |_,_=>none
  |_=>none
 |_,_=>none
theorem Vh(KI VI:Ct)(mem:List (List G))(i:Nat)(r:List G):nh KI VI (mem.set i r)=(nh KI VI mem).set i (dh KI VI (gi r 0).rows,(gi r 1).int.toNat):=by
 simp[nh,sV]
theorem Vi(K:Ct)(rows:List (List G))(i:Nat)(r:List G):gX K (rows.set i r)=(gX K rows).set i (K.av (gi r 0).row,oZ r,(gi r 2).int.toNat):=by
 simp[gX,sV]
theorem Vj{P:Program}{t:TypeId}{m k v:AV}{b:Bool}{H H':List ai}(h:ua P t m k v H=some (b,H'))(hb:b=true) :
  tD P t m k v (ao H)=some (ao H')∧lb P t m k v (ao H)=none∧oS P t m k v (ao H)=none:=by
 unfold ua at h;unfold tD lb oS;split at h
 case h_2=>cases h
 rename_i O U id l j J;rw[J];refine⟨?_,rfl,rfl⟩;split at h
 case h_2=>cases h
 rename_i l' K KI VI rows mem cl hid;split at h
 case h_2=>cases h
 rename_i key val hk M;split at h
 case h_2=>cases h
 rename_i d;simp only[aA]at d;obtain⟨g,d⟩:=d;have e:=bu g;subst e;simp only[aY,bg]at h;obtain⟨hi,rfl⟩:=h;rw[hb]at hi;cases j with
 |none=>cases hi
 | some i =>
  have B:i<mem.length:=by simpa[kG]using hi
  simp only[];rw[bq hid];simp only[ai.den,JF B,g];rw[←Ct.jT hk,←Ct.jT M,jt d];simp only[Ct.tM,and_self,if_true,qQ d,df,ai.den,qU,gn,Vh];generalize mem.getD i []=m0;have q:∀(X:List (List G)) (n:Nat),(gi [G.l X,G.i n] 0).rows=X:=fun _ _=>rfl;have u:∀(X:List (List G)) (n:Nat),(gi [G.l X,G.i n] 1).int.toNat=n:=fun _ _=>rfl;unfold aL bz dO;cases N:bW KI.ks key (gi m0 0).rows 0 with
  | none =>
   simp only[wD,Hg,cond_false,q,u];rw[show dh KI VI ((gi m0 0).rows++[[.l [key],.l [val],.i (gi m0 1).int.toNat]])=dh KI VI (gi m0 0).rows++[(KI.av key,VI.av val,(gi m0 1).int.toNat)] from by
    simp only[dh,kf,dw,sW];rfl]
  | some p =>
   obtain⟨_,y⟩:=pb (r:=p.2) (j:=p.1) N;rw[fZ]at y;have I:(dh KI VI (gi m0 0).rows)[p.1]? = some (KI.av (gi p.2 0).row,VI.av (gi p.2 1).row,(gi p.2 2).int.toNat):=by simp[dh,y]
   simp only[eF,JA _ I,Hy,cond_true,q,u,Jz];rfl
def ub(P:Program)(t:TypeId)(m k:AV)(H:List ai):Option (Bool × AV × List ai) :=
 match c7 P t,m with
 | some (d,g),.map id=>match H[id]? with
  | some (.mm l K KI VI rows mem cl)=>match K.read k,gD P g with
   | some key,some (.lit (.map none))=>match gk P d K with
    |true=>some (!dO K.ks rows key,.tuple [.sub id l none,.lit (.int .i64 (cl:Nat))],H.set id (.mm l K KI VI (rows++[[.l [key],.i (-1),.i cl]]) mem (cl+1)))
    |false=>none
   |_,_=>none
  |_=>none
 |_,_=>none
theorem Vk{P:Program}{t:TypeId}{m k v:AV}{b:Bool}{H H':List ai}(h:ub P t m k H=some (b,v,H'))(hb:b=true) :
  iL P t m k (ao H)=some (v,ao H')∧gT P t m k (ao H)=none:=by
 unfold ub at h;unfold iL gT;split at h
 case h_2=>cases h
 rename_i B I id q;rw[q];split at h
 case h_2=>cases h
 rename_i l K KI VI rows mem cl hid;simp only[];rw[bq hid];simp only[ai.den];split at h
 case h_2=>cases h
 rename_i key hk u;split at h
 case h_2=>cases h
 rename_i g;simp only[aY,bg]at h;obtain⟨d,rfl,rfl⟩:=h;rw[hb]at d;rw[←Ct.jT hk,jt g,u];simp only[Ct.tM,B8 g,and_true];unfold dO at d;cases y:bW K.ks key rows 0 with
 |some p=>rw[y]at d; cases d
 | none =>
  simp only[wD,df,ai.den];rw[show gX K (rows++[[.l [key],.i (-1),.i cl]])=gX K rows++[(K.av key,none,cl)] from by
   simp only[gX,kf,dw,sW];rfl]
  rfl
theorem JG{K:Ct}{st:Int}:∀{rows:List (List G)} {i:Nat},(eT st rows i).map (·.1)=(oV (gX K rows) st).map (·+i)
 | [],_=>rfl
 | x::rs,i=>by
  have d:=JG (K:=K) (st:=st) (rows:=rs) (i:=i+1);unfold oV at d⊢;simp only[eT,gX,dw,Ho]at d⊢;cases g:((gi x 2).int.toNat:Int)==st with
  |true=>simp
  | false =>
   simp only[cond_false,d,kS,if_false,Hz];congr 1
   funext n
   simp only[HA];omega
def uc(m s v:AV)(H:List ai):Option (Bool × List ai) :=
 match m,s,v with
 | .map id,.lit (.int .i64 st),.map j=>match H[id]?,H[j]? with
  | some (.mm l K KI VI rows mem cl),some (.map h k d g)=>match KI.same h&&VI.same k with
   |true=>some (qV rows st,(H.set id (.mm l K KI VI (qW rows st mem.length) (mem++[[.l d,.i g]]) cl)).set j (.raw .dead))
   |false=>none
  |_,_=>none
 |_,_,_=>none
theorem Vl{m s v:AV}{b:Bool}{H H':List ai}(h:uc m s v H=some (b,H'))(hb:b=true) :
  kA m s v (ao H)=some (ao H')∧jM m s v (ao H)=none:=by
 unfold uc at h;unfold kA jM;split at h
 case h_2=>cases h
 rename_i id st j;split at h
 case h_2=>cases h
 rename_i l K KI VI rows mem cl U V N O hid B;refine⟨?_,rfl⟩;simp only[];rw[bq hid,bq B];simp only[ai.den];split at h
 case h_2=>cases h
 rename_i k;simp only[aA]at k;have I:=Ct.jq k.1;have J:=Ct.jq k.2;subst I J;simp only[aY,bg]at h;obtain⟨d,rfl⟩:=h;rw[hb]at d;unfold qV at d;unfold qW;cases g:eT st rows 0 with
 |none=>rw[g]at d; cases d
 | some p =>
  obtain⟨i,r⟩:=p;rw[g]at d;obtain⟨_,q⟩:=B7 g;rw[fZ]at q;have hi:oV (gX K rows) st=some i:=by
   have:=JG (K:=K) (st:=st) (rows:=rows) (i:=0);rw[g]at this;cases u:oV (gX K rows) st with
   |none=>rw[u]at this; cases this
   |some y=>rw[u]at this; simp at this; rw[this]
  have hm:oZ r=none:=by
   unfold oZ;cases M:bl 0 (gi r 1).int with
   |true=>simp[M]at d
   |false=>rfl
  rw[hi];simp only[JE q,hm,df,ai.den,Vi];simp[oZ,nh,gi,G.row,G.rows,G.int,bl,show ∀ n,dH 0 n=true from fun n=>Nat.ble_eq_true_of_le (eh n)]
def qX(P:Program)(r:Operand→AV)(H:List ai):Op→Option (Bool × AV × List ai)
 | .alloc t=>match xb P t with
  |some e=>if lZ (ao H) 0=true then some (true,.ptr H.length 0 0 0 0,H++[.raw (.ev 0 t e we)]) else none
  | none=>match dV P t with
   |some z=>some (true,.ptr H.length 0 0 0 0,H++[.raw (.box (z.map .lit))])
   |none=>none
 | .box _ x=>match oM (r x) with
  |some cs=>some (true,.ptr H.length 0 0 0 0,H++[.raw (.box cs)])
  |none=>none
 | .store t a x=>match qO P t (r a) (r x) H with
  |some (b,H')=>some (b,.undef,H')
  |none=>none
 |.makeSlice t l c=>tR P t (r l) (r c) H
 |.buildSlice t n parts=>tS P t n (parts.toList.map fun p=>(p.1,r p.2)) H
 | .range t x=>match cf P t,r x with
  |.str,.lit (.string s)=>some (true,.ptr H.length 0 0 0 0,H++[.raw (.iter s 0)])
  |_,_=>none
 | .next it true=>match r it with
  | .ptr id 0 _ 0 0=>match H[id]? with
   | some (.raw (.iter s pos))=>if pos<s.size then some (true,.tuple [.lit (.bool true),.lit (goInt pos),.lit (.int .i32 (mJ s pos).1)],H.set id (.raw (.iter s (pos+(mJ s pos).2))))
     else some (true,.tuple [.lit (.bool false)],H)
   |_=>none
  |_=>none
 | .makeMap t none=>match c7 P t with
  | some (g,d)=>match nm P g,nm P d with
   |some (K,_),some (V,_)=>some (true,.map H.length,H++[.map K V [] 0])
   | some (K,_),none=>match c7 P d with
    |some _=>some (true,.map H.length,H++[.map K K [] 0])
    |none=>none
   |_,_=>none
  |none=>none
 | .mapUpdate t m k v=>match qR P t (r m) (r k) (r v) H with
  |some (b,H')=>some (b,.undef,H')
  | none=>match tU P t (r m) (r k) (r v) H with
   |some (b,H')=>some (b,.undef,H')
   | none=>match ua P t (r m) (r k) (r v) H with
    |some (b,H')=>some (b,.undef,H')
    |none=>none
 |.lookup t m k false=>tT P t (r m) (r k) H
 | .mapEntry t m k=>match tV P t (r m) (r k) H with
  |some y=>some y
  |none=>ub P t (r m) (r k) H
 | .entryStore _ m s x=>match tW (r m) (r s) (r x) H with
  |some (b,H')=>some (b,.undef,H')
  | none=>match uc (r m) (r s) (r x) H with
   |some (b,H')=>some (b,.undef,H')
   |none=>none
 | .insert t m k v=>match qR P t (r m) (r k) (r v) H with
  |some (b,H')=>some (b,.undef,H')
  |none=>none
 | .call c=>match c.callee with
  | .builtin .append=>match c.args.toList,c.argTypes.toList with
   | [s,x],[t,xt]=>match cf P xt with
    |.int _=>t_ P t xt (r s) (r x) H
    |_=>tQ P t xt (r s) (r x) H
   |_,_=>none
  | .builtin .clear=>match c.args.toList,c.argTypes.toList with
   | [x],[t]=>match tZ P t (r x) H with
    |some (b,H')=>some (b,.tuple [],H')
    |none=>none
   |_,_=>none
  | .builtin .delete=>match c.args.toList,c.argTypes.toList with
   | [x,k],t::_=>match tY P t (r x) (r k) H with
    |some (b,H')=>some (b,.tuple [],H')
    |none=>none
   |_,_=>none
  |_=>none
 |_=>none
theorem Vm{P:Program}{t xt:TypeId}{s x:AV}{H:List ab}(h:∀ k,cf P xt≠.int k):oR P t xt s x H=none:=by
 unfold oR;split
 ·rename_i hk
  exact(h _ hk).elim
 ·rfl
theorem JH{P:Program}{r:Operand→AV}{H H':List ai}{o:Op}{v:AV}{b:Bool}(h:qX P r H o=some (b,v,H'))(hb:b=true):cZ P r (ao H) o=some (v,ao H'):=by
 cases o<;>simp only[qX]at h<;>try cases h
 case alloc t =>
  split at h
  ·rename_i e he
   split at h
   ·rename_i N
    cases h;simp only[cZ,oO,he,N,if_true,en,gF,ai.den]
   ·cases h
  ·rename_i he
   split at h
   ·rename_i z I; cases h; simp only[cZ,oO,he,I,en,gF,ai.den]
   ·cases h
 case box t x =>
  split at h
  ·rename_i z I; cases h; simp only[cZ,xd,I,en,gF,ai.den]
  ·cases h
 case store t a x =>
  split at h
  ·rename_i g H1 d; cases h; simp only[cZ,Jr d hb]
  ·cases h
 case makeSlice t l c=>simp only[cZ]; exact U8 h hb
 case buildSlice t n ps=>simp only[cZ]; exact U9 h
 case range t x =>
  split at h
  ·rename_i s hk J
   cases h;simp only[cZ,xf,hk,J,en,gF,ai.den]
  ·cases h
 case next it isString =>
  cases isString with
  |false=>cases h
  | true =>
   simp only[]at h;split at h
   ·rename_i id k J
    split at h
    ·rename_i s pos hid
     simp only[cZ,xg,J,bq hid,ai.den];split at h
     ·rename_i B
      cases h;rw[if_pos B,df];rfl
     ·rename_i B
      cases h;rw[if_neg B]
    ·cases h
   ·cases h
 case makeMap t res =>
  cases res with
  |some _=>cases h
  | none =>
   simp only[]at h;split at h
   ·split at h
    ·cases h
     simp only[cZ,en,gF,ai.den];rfl
    ·split at h
     ·cases h
      simp only[cZ,en,gF,ai.den];rfl
     ·cases h
    ·cases h
   ·cases h
 case mapUpdate t m k x =>
  split at h
  ·rename_i g H1 d
   cases h;simp only[cZ,JB d]
  ·split at h
   ·rename_i g H1 d
    cases h;obtain⟨g1,g2⟩:=Va d hb;simp only[cZ,g1,g2]
   ·split at h
    ·rename_i g H1 d
     cases h;obtain⟨g1,g2,g3⟩:=Vj d hb;simp only[cZ,g1,g2,g3]
    ·cases h
 case lookup t m k ok =>
  cases ok with
  |true=>cases h
  | false =>
   obtain⟨g1,g2⟩:=U' h hb;simp only[cZ,g1,g2]
 case mapEntry t m k =>
  split at h
  ·rename_i y O
   cases h;simp only[cZ,Vb O hb]
  ·obtain ⟨g1, g2⟩ := Vk h hb
   simp only[cZ,g1,g2]
 case entryStore t m s x =>
  split at h
  ·rename_i g H1 d
   cases h;simp only[cZ,Vc d hb]
  ·split at h
   ·rename_i g H1 d
    cases h;obtain⟨g1,g2⟩:=Vl d hb;simp only[cZ,g1,g2]
   ·cases h
 case insert t m k x =>
  split at h
  ·rename_i g H1 d
   cases h;simp only[cZ,JB d]
  ·cases h
 case call c =>
  simp only[cZ,xp];split at h
  ·rename_i q
   rw[q];split at h
   ·rename_i h1 u
    simp only[h1,u];split at h
    ·rw[Vf h hb]
    ·rename_i M
     rw[Vm M];exact U6 h hb
   ·cases h
  ·rename_i q
   rw[q];split at h
   ·rename_i h1 u
    simp only[h1,u];split at h
    ·rename_i d
     cases h;rw[Ve d hb]
    ·cases h
   ·cases h
  ·rename_i q
   rw[q];split at h
   ·rename_i h1 u
    simp only[h1,u];split at h
    ·rename_i d
     cases h;rw[Vd d]
    ·cases h
   ·cases h
  ·cases h
end Go.AL

namespace Go.AL
open Go
variable [Dr]
def qY(n:Int):Option (Bool × AV):=some (aq n,.lit (.int .i64 n))
def B_(P:Program)(op:BinOp)(t:TypeId)(d:Bool)(x y:AV):Option (Bool × AV) :=
 match op,x,y with
 |.add,.lit (.int .i64 a),.lit (.int .i64 b)=>qY (a+b)
 |.sub,.lit (.int .i64 a),.lit (.int .i64 b)=>qY (a-b)
 |.mul,.lit (.int .i64 a),.lit (.int .i64 b)=>qY (a*b)
 |.quo,.lit (.int .i64 a),.lit (.int .i64 b)=>some (!(b==0)&&aq (a.tdiv b),.lit (.int .i64 (a.tdiv b)))
 |.rem,.lit (.int .i64 a),.lit (.int .i64 b)=>some (!(b==0),.lit (.int .i64 (a.tmod b)))
 |.add,.lit (.string a),.lit (.string b)=>some (dH (a.size+b.size) 9223372036854775807,.lit (.string (a++b)))
 |.lss,.lit (.int k a),.lit (.int k' b)=>if k=k' then some (true,.lit (.bool (aj a b))) else none
 |.leq,.lit (.int k a),.lit (.int k' b)=>if k=k' then some (true,.lit (.bool (bl a b))) else none
 |.gtr,.lit (.int k a),.lit (.int k' b)=>if k=k' then some (true,.lit (.bool (aj b a))) else none
 |.geq,.lit (.int k a),.lit (.int k' b)=>if k=k' then some (true,.lit (.bool (bl b a))) else none
 |.and,.lit (.int k a),.lit (.int k' b)=>if k=k' then some (true,.lit (.int k (HS k a b))) else none
 |.or,.lit (.int k a),.lit (.int k' b)=>if k=k' then some (true,.lit (.int k (HT k a b))) else none
 |.xor,.lit (.int k a),.lit (.int k' b)=>if k=k' then some (true,.lit (.int k (HU k a b))) else none
 |.shl,.lit (.int k a),.lit (.int _ b)=>some (aw b,.lit (.int k (A0 k a b)))
 |.shr,.lit (.int k a),.lit (.int _ b)=>some (aw b,.lit (.int k (dT k a b)))
 | op,.listF ks rows,.lit (.slice none 0 0)=>match P.underlying t,jm op false with
  |some (.slice _),some v=>some (fa 0 rows.length,v)
  |_,_=>none
 | op,.vec w id af off m,.lit (.slice none 0 0)=>match P.underlying t,jm op false with
  |some (.slice _),some v=>some (fa 0 m,v)
  |_,_=>none
 | _,_,_=>match gg P op t d x y with
  |some v=>some (true,v)
  |none=>none
def Ca(m sz:Nat)(cells:List AV):Option (Kd × List (List G)) :=
 match tO (cells.headD .undef)with
 | some k=>match bh [k] (cells.map fun c=>[c]) with
  |some rows=>if sz=1∧m=cells.length then some (k,rows) else none
  |none=>none
 |none=>none
theorem Vn{m sz:Nat}{cells:List AV}{k:Kd}{rows:List (List G)}(h:Ca m sz cells=some (k,rows)){j:Nat}(g:j<m) :
  aJ [k] (rows.getD j [])=(cells.drop (j*sz)).take sz:=by
 unfold Ca at h;split at h
 ·split at h
  ·rename_i rows' q
   split at h
   ·rename_i u
    obtain⟨rfl,rfl⟩:=u;cases h;have e:=o9 q;have v:rows.length=cells.length:=by have:=congrArg HB e; simpa using this
    have d:(rows.map (aJ [k]))[j]? = (cells.map fun c=>[c])[j]? := by rw[e]
    rw[B1 (by omega),cd,bO g]at d;simp only[eF,aY]at d;rw[d,ahQ,List.drop_eq_getElem_cons g,List.take_succ_cons,List.take_zero]
   ·cases h
  ·cases h
 ·cases h
def Cb(k:SK)(x i:AV):Option (Bool × AV) :=
 match k,x,i with
 |.slice _ sz _,.listF ks rows,.lit (.int _ j)=>if ks.length=sz then some (aw j&&aj j (rows.length:Int),.cptr (aJ ks (rows.getD j.toNat []))) else none
 |.slice _ sz _,.vec w id af off m,.lit (.int _ j)=>if w=sz then some (aw j&&aj j (m:Int),.ptr id af w (off+j.toNat) 0) else none
 | .array m _ sz _,.cptr cells,.lit (.int d j)=>match Ca m sz cells with
  |some (g,rows)=>some (aw j&&aj j (m:Int),.cptr (aJ [g] (rows.getD j.toNat [])))
  | none=>match kq k (.cptr cells) (.lit (.int d j)) with
   |some v=>some (true,v)
   |none=>none
 | _,_,_=>match kq k x i with
  |some v=>some (true,v)
  |none=>none
def ud:List AV→Option (List Int)
 | []=>some []
 | .lit (.int .i64 n)::l=>match ud l with
  |some q=>some (n::q)
  |none=>none
 |_=>none
theorem JI:∀{cells:List AV} {l:List Int},ud cells=some l→∀ i,i<l.length→cells[i]? = some (.lit (.int .i64 (l.getD i 0)))
 | [],l,h,i,hi=>by
  simp only[ud,aY]at h;subst h;simp at hi
 | c::cells,l,h,i,hi=>by
  unfold ud at h;split at h
  ·rename_i he
   cases he
  ·rename_i n l' he
   cases he;split at h
   ·rename_i q d
    cases h;cases i with
    |zero=>rfl
    | succ i =>
     simp only[List.length_cons]at hi;have:=JI d i (by omega);simpa using this
   ·cases h
  ·cases h
def Cc(k:SK)(x i:AV):Option (Bool × AV) :=
 match k,x,i with
 |.str,.lit (.string s),.lit (.int _ j)=>some (aw j&&aj j (s.size:Int),.lit (.int .u8 ((s.data.toList.getD j.toNat 0).toNat)))
 | .array m _ 1 false,.agg cells,.lit (.int _ j)=>match ud cells with
  |some l=>bif dH m l.length then some (aw j&&aj j (m:Int),.lit (.int .i64 (l.getD j.toNat 0))) else none
  | none=>match mX k x i with
   |some v=>some (true,v)
   |none=>none
 | _,_,_=>match mX k x i with
  |some v=>some (true,v)
  |none=>none
def Cd(op:UnOp)(x:AV):Option (Bool × AV) :=
 match op,x with
 |.neg,.lit (.int .i64 n)=>some (aq (0-n),.lit (.int .i64 (0-n)))
 | _,_=>match qu op x with
  |some v=>some (true,v)
  |none=>none
def Ce(P:Program)(s d:TypeId)(x:AV):Option (Bool × AV) :=
 match P.underlying s,cf P d,x with
 |some _,.int .i64,.lit (.int _ n)=>some (aq n,.lit (.int .i64 n))
 | _,_,_=>match qv P s d x with
  |some v=>some (true,v)
  |none=>none
def Cf(P:Program)(r:Operand→AV)(o:Op):Option (Bool × AV) :=
 match o with
 |.indexAddr t x i=>Cb (cf P t) (r x) (r i)
 |.index t x i=>Cc (cf P t) (r x) (r i)
 |.binOp op t x y _=>B_ P op t (lf x||lf y) (r x) (r y)
 |.slice t x lo hi mx=>B5 P t (r x) (lo.map r) (hi.map r) (mx.map r)
 |.unOp op _ x=>Cd op (r x)
 |.convert s d x=>Ce P s d (r x)
 | o=>match gE P r o with
  |some v=>some (true,v)
  |none=>none
theorem nq{x:Option AV}{b:Bool}{v:AV} (h:(match x with|some v=>some (true,v)|none=>none)=some (b,v)):x=some v:=by
 split at h
 ·cases h; rfl
 ·cases h
theorem pc{n:Int}(h:aq n=true):IntKind.i64.wrap n=n:=by
 rw[kD]at h;simp[IntKind.wrap,IntKind.bits,IntKind.signed];omega
theorem Vo{P:Program}{op:BinOp}{t:TypeId}{q:Bool}{x y v:AV}{b:Bool}(h:B_ P op t q x y=some (b,v))(hb:b=true):gg P op t q x y=some v:=by
  unfold B_ at h;split at h
  · simp only [qY, aY, bg] at h
    obtain⟨h1,rfl⟩:=h;subst hb;simp[gg,gO,kY,pc h1]
  · simp only [qY, aY, bg] at h
    obtain⟨h1,rfl⟩:=h;subst hb;simp[gg,gO,kY,pc h1]
  · simp only [qY, aY, bg] at h
    obtain⟨h1,rfl⟩:=h;subst hb;simp[gg,gO,kY,pc h1]
  · simp only [aY, bg] at h
    obtain⟨h1,rfl⟩:=h;subst hb;simp only[aA,mM,beq_eq_false_iff_ne]at h1;simp[gg,gO,kY,h1.1,pc h1.2]
  · simp only [aY, bg] at h
    obtain⟨h1,rfl⟩:=h;subst hb;simp only[mM,beq_eq_false_iff_ne]at h1;simp[gg,gO,kY,h1]
  · simp only [aY, bg] at h
    obtain⟨h1,rfl⟩:=h;subst hb;have g:=sY h1;have d:∀ k:Nat,k≤9223372036854775807→¬ ((k:Int)>IntKind.i64.max):=fun k hk=>by
      show ¬ ((k:Int)>(9223372036854775807:Int))
      omega
    simp only[gg,gO,A1,if_neg (d _ g)]
  all_goals first
    |exact nq h
    | (split at h
       case isFalse=>cases h
       rename_i hk;subst hk;cases h;simp[gg,gO,kY,dY,ff])
    | (simp only [aY, bg] at h
       obtain⟨h1,rfl⟩:=h;subst hb;simp only[jQ,decide_eq_true_eq]at h1;simp only[gg,gO,if_neg (Int.not_lt.2 h1)])
    | (split at h
       · rename_i h1 g
         simp only[aY,bg]at h;obtain⟨d,rfl⟩:=h;subst hb;simp only[kh]at d;simp only[gg,h1,if_pos d,g]
       · cases h)
theorem Vp{k:SK}{x i v:AV}{b:Bool}(h:Cb k x i=some (b,v))(hb:b=true):kq k x i=some v:=by
 unfold Cb at h;split at h
 ·split at h
  ·rename_i hw
   simp only[aY,bg]at h;obtain⟨h1,rfl⟩:=h;subst hb;simp only[jQ,dY,aA,decide_eq_true_eq]at h1;simp[kq,hw,h1.1,h1.2]
  ·cases h
 ·split at h
  ·rename_i hw
   simp only[aY,bg]at h;obtain⟨h1,rfl⟩:=h;subst hb;simp only[jQ,dY,aA,decide_eq_true_eq]at h1;simp[kq,hw,h1.1,h1.2]
  ·cases h
 ·split at h
  ·rename_i g rows d
   simp only[aY,bg]at h;obtain⟨h1,rfl⟩:=h;subst hb;simp only[jQ,dY,aA,decide_eq_true_eq]at h1;rw[Vn d (by omega)];simp[kq,h1.1,h1.2]
  ·exact nq h
 ·exact nq h
theorem Vq{k:SK}{x i v:AV}{b:Bool}(h:Cc k x i=some (b,v))(hb:b=true):mX k x i=some v:=by
 unfold Cc at h;split at h
 ·rename_i s g j
  simp only[aY,bg]at h;obtain⟨h1,rfl⟩:=h;subst hb;simp only[jQ,dY,aA,decide_eq_true_eq]at h1;have d:j.toNat<s.size:=by omega
  have e:s[j.toNat]? = some (s.data.toList.getD j.toNat 0):=by
   have q:j.toNat<s.data.toList.length:=by simpa using d
   rw[cr,bO q];simp only[getElem?,decidableGetElem?,d,dite_true,Option.getD_some];rfl
  simp only[mX,h1.1,h1.2,and_self,if_true,e]
 ·rename_i m e cells g j
  split at h
  ·rename_i l u
   cases hm:dH m l.length with
   |false=>rw[hm]at h; cases h
   | true =>
    rw[hm]at h;simp only[cond_true,aY,bg]at h;obtain⟨h1,rfl⟩:=h;subst hb;rw[AJ]at hm;simp only[jQ,dY,aA,decide_eq_true_eq]at h1;have y:=JI u j.toNat (by omega);simp only[mX,h1.1,h1.2,and_self,if_true,gB,kS,if_false,ahQ,p7,Nat.add_zero,y]
  ·exact nq h
 ·exact nq h
theorem Vr{op:UnOp}{x v:AV}{b:Bool}(h:Cd op x=some (b,v))(hb:b=true):qu op x=some v:=by
 unfold Cd at h;split at h
 ·simp only [aY, bg] at h
  obtain⟨h1,rfl⟩:=h;subst hb;simp only[qu,pc h1]
 ·exact nq h
theorem Vs{P:Program}{s d:TypeId}{x v:AV}{b:Bool}(h:Ce P s d x=some (b,v))(hb:b=true):qv P s d x=some v:=by
 unfold Ce at h;split at h
 ·rename_i g k
  simp only[aY,bg]at h;obtain⟨h1,rfl⟩:=h;subst hb;simp only[qv,g,k,pc h1]
 ·exact nq h
theorem Vt{P:Program}{r:Operand→AV}{o:Op}{b:Bool}{v:AV}(h:Cf P r o=some (b,v))(hb:b=true):gE P r o=some v:=by
 cases o<;>simp only[Cf]at h<;>try exact nq h
 case binOp=>simp only[gE]; exact Vo h hb
 case indexAddr=>simp only[gE]; exact Vp h hb
 case index=>simp only[gE]; exact Vq h hb
 case slice=>simp only[gE]; exact U7 h hb
 case unOp=>simp only[gE]; exact Vr h hb
 case convert=>simp only[gE]; exact Vs h hb
inductive Tree where
 |fail
 |done (x:bU) (s:ar)
 |ask (b:Bool) (t e:Tree)
 |side (b:Bool) (t:Tree)
def Tree.holds(Q:bU→ar→Prop):Tree→Prop
 |.fail=>False
 |.done x s=>Q x s
 |.ask b t e=>(b=true→t.holds Q)∧(b=false→e.holds Q)
 |.side b t=>b=true∧t.holds Q
structure ak where
 pf:FuncId→Bool
 T:FuncId→List AV→Option (Bool × AV)
 W:FuncId→List AV→List ai→Option (Bool × AV × List ai)
 C:FuncId→List AV→List ai→List Nat
 I:FuncId→List AV→List ai→Option Tree:=fun _ _ _=>none
 N:FuncId→Bool:=fun _=>false
 U:FuncId→Bool:=fun _=>true
structure al (P:Program) (τ:ak):Prop where
 T:∀ f args b v,τ.T f args=some (b,v)→b=true→eS P f=true∧cL P f args v
 W:∀ f args H b v H',τ.W f args H=some (b,v,H')→b=true→eS P f=true∧dB P f args (ao H) v (ao H')
 C:∀ f args H b v H',τ.W f args H=some (b,v,H')→∀ A,A∉τ.C f args H→A<H.length→H'[A]? = H[A]?
 I:∀ f args H t,τ.I f args H=some t→∀ Q:bU→ar→Prop,t.holds Q→eS P f=true∧∃ v H',dB P f args (ao H) v (ao H')∧(∀ A,A∉τ.C f args H→A<H.length→H'[A]? = H[A]?)∧Q .normal ⟨[v],H'⟩
 F:(∀ f,τ.U f=false→∀ args H,τ.W f args H=none∧τ.C f args H=[])∧∀ f,τ.N f=true→∀ args H b v H',τ.W f args H=some (b,v,H')→∀ id o,id<H.length→id∉τ.C f args H →
  τ.W f args (H.set id o)=some (b,v,H'.set id o)∧τ.C f args (H.set id o)=τ.C f args H
def Tree.ue(k:AV→List ai→Tree):Tree→Tree
 |.fail=>.fail
 |.done _ s=>k (s.fr.headD .undef) s.H
 |.ask b t e=>.ask b (t.ue k) (e.ue k)
 |.side b t=>.side b (t.ue k)
theorem Tree.xL{k:AV→List ai→Tree}{Q:bU→ar→Prop}:∀{t:Tree},(t.ue k).holds Q→t.holds fun _ s=>(k (s.fr.headD .undef) s.H).holds Q
 |.fail,h=>h
 |.done _ _,h=>h
 |.ask _ t e,h=>⟨fun hb=>xL (t:=t) (h.1 hb),fun hb=>xL (t:=e) (h.2 hb)⟩
 |.side _ t,h=>⟨h.1,xL (t:=t) h.2⟩
inductive Want where
 |bad|yes|no
 |test (t:Tmp) (b:Bool) (want:Bool)
def nr(ops:Array Oper)(fr:List AV)(o:Oper):Want :=
 match o.guard with
 |none=>.yes
 | some (j,want)=>match (ops[j]?).bind (·.dst) with
  | some t=>match fr[t]? with
   |some (.lit (.bool b))=>.test t b want
   |some (.tuple [])=>.no
   |_=>.bad
  |none=>.bad
def xM:AV→Option Bool
 |.lit (.bool b)=>some b
 |_=>none
def uf(H:List ai):AV→Bool × AV
 | .vec w id af off n=>match H[id]? with
  |some (.vec ks v rows)=>if af=v∧ks.length=w∧off=0 then (ad n rows.length,.listF ks rows) else (true,.vec w id af off n)
  |_=>(true,.vec w id af off n)
 | .ptr id af k row col=>match H[id]? with
  |some (.raw (.box cells))=>if af=0∧row=0∧col=0∧AV.br cells=true then (true,.cptr cells) else (true,.ptr id af k row col)
  |_=>(true,.ptr id af k row col)
 |a=>(true,a)
def pd(H:List ai):List AV→Bool × List AV
 | []=>(true,[])
 | a::as=>match uf H a,pd H as with
  |(b,g),(h,d)=>(b&&h,g::d)
def xN(H:List ai):AV→Bool × AV
 | .clo f caps=>match pd H caps with
  |(b,d)=>(b,.clo f d)
 |a=>uf H a
def nt(H:List ai):List AV→Bool × List AV
 | []=>(true,[])
 | a::as=>match xN H a,nt H as with
  |(b,g),(h,d)=>(b&&h,g::d)
def xO:List AV→Bool
 | []=>true
 |.lit _::as=>xO as
 |_::_=>false
def xP:AV→Bool
 |.lit _=>true
 |.tuple vs=>xO vs
 |_=>false
def Cg(P:Program)(r:Operand→AV)(H:List ai)(o:Op):Option AV :=
 match o with
 | .call c=>match c.callee,c.args.toList,c.argTypes.toList with
  | .builtin .len,[a],[t]=>match c7 P t,r a with
   | some _,.map id=>match H[id]? with
    |some (.map _ _ rows _)=>some (.lit (.int .i64 rows.length))
    |_=>none
   |_,_=>none
  |_,_,_=>none
 |_=>none
theorem Vu{P:Program}{r:Operand→AV}{H:List ai}{o:Op}{v:AV}(h:Cg P r H o=some v):eA P r (ao H) o=some v:=by
 unfold Cg at h;split at h
 ·rename_i c
  simp only[eA];split at h
  ·rename_i a t d ha g
   unfold nc;rw[d,ha,g];simp only[];split at h
   ·rename_i p id k hm
    rw[k,hm];simp only[];split at h
    ·rename_i K V rows cl hid
     cases h;rw[bq hid];simp[ai.den,dh]
    ·cases h
   ·cases h
  ·cases h
 ·cases h
def Ch(v:AV)(H:List ai):Option (Bool × AV × List ai) :=
 match v with
 | .vec w id af off n=>match H[id]? with
  |some (.vec ks u rows)=>if af=u∧off=0∧w=ks.length then some (ad n rows.length,.listF ks rows,H.set id (.raw .dead)) else none
  |_=>none
 |_=>none
def ug(P:Program)(r:Operand→AV)(H:List ai):Op→Option (Bool × List ai)
 | .store t a x=>match Ch (r x) H with
  | some (b0,v1,H1)=>match qO P t (r a) v1 H1 with
   |some (b1,H')=>some (b0&&b1,H')
   |none=>none
  |none=>none
 |_=>none
theorem Vv{P:Program}{r:Operand→AV}{H H':List ai}{o:Op}{b:Bool}(h:ug P r H o=some (b,H'))(hb:b=true):qD P r (ao H) .undef (ao H') o:=by
 unfold ug at h;split at h
 case h_2=>cases h
 rename_i t a x;split at h
 case h_2=>cases h
 rename_i b0 v1 H1 d;split at h
 case h_2=>cases h
 rename_i b1 H2 k;simp only[aY,bg]at h;obtain⟨h1,rfl⟩:=h;subst hb;simp only[aA]at h1;unfold Ch at d;split at d
 case h_2=>cases d
 rename_i w id af off n q;split at d
 case h_2=>cases d
 rename_i ks u rows hid;split at d
 case isFalse=>cases d
 rename_i v;obtain⟨rfl,rfl,rfl⟩:=v;simp only[aY,bg]at d;obtain⟨g,rfl,rfl⟩:=d;rw[h1.1]at g;have g:=bu g;subst g;refine⟨.listF ks rows,(ao H).set id .dead,⟨id,af,ks,rows,q,?_,rfl,rfl⟩,?_,rfl⟩
 ·rw [bq hid]
  rfl
 ·have := Jr k h1.2
  rw[df]at this;exact this
def nu(P:Program)(τ:ak)(o:Oper)(s:ar)(k:AV→List ai→Tree):Tree :=
 match o.op with
 | .pick c a b=>match xM (s.eval c) with
  |some t=>.ask t (k (s.eval a) s.H) (k (s.eval b) s.H)
  |none=>.fail
 | .load t a=>match B2 P t (s.eval a) s.H with
  |some (b,v)=>.side b (k v s.H)
  |none=>.fail
 | .lookup t m x ok=>match B6 P t (s.eval m) (s.eval x) ok s.H with
  | some (b,v)=>match cM τ.pf o.op,ok with
   |.read,_=>.side b (k v s.H)
   |.write,false=>.side b (k v s.H)
   |_,_=>.fail
  | none=>match cM τ.pf o.op with
   | .write=>match qX P s.eval s.H o.op with
    |some (b,v,H')=>.side b (k v H')
    |none=>.fail
   | .read=>match B9 P t (s.eval m) (s.eval x) ok s.H with
    |some (b,v)=>.side b (k v s.H)
    |none=>.fail
   |.pure=>.fail
 | _=>match cM τ.pf o.op with
  | .read=>match Cg P s.eval s.H o.op with
   |some v=>k v s.H
   |none=>.fail
  | .pure=>match gU s.eval o.op with
   | some (f,args)=>match τ.T f args with
    |some (b,v)=>.side b (k v s.H)
    |none=>.fail
   | none=>match Cf P s.eval o.op with
    |some (b,v)=>.side b (k v s.H)
    |none=>.fail
  | .write=>match gU s.eval o.op with
   | some (f,args)=>match τ.W f args s.H with
    |some (b,v,H')=>.side b (k v H')
    | none=>match τ.I f args s.H with
     |some t=>t.ue k
     | none=>match τ.T f args with
      |some (b,v)=>.side b (k v s.H)
      | none=>match nt s.H args with
       | (g,d)=>match τ.T f d with
        | some (b,v)=>match xP v&&AV.br d with
         |true=>.side (g&&b) (k v s.H)
         |false=>.fail
        |none=>.fail
   | none=>match qX P s.eval s.H o.op with
    |some (b,v,H')=>.side b (k v H')
    | none=>match ug P s.eval s.H o.op with
     |some (b,H')=>.side b (k .undef H')
     |none=>.fail
def ar.slot(s:ar)(t:Tmp)(b:Bool):ar:=⟨s.fr.set t (.lit (.bool b)),s.H⟩
def Ci(P:Program)(τ:ak)(ops:Array Oper)(o:Oper)(s:ar)(k:ar→Tree):Tree :=
 match nr ops s.fr o with
 |.bad=>.fail
 |.no=>k (s.put o.dst (.tuple []) s.H)
 |.yes=>nu P τ o s fun v H'=>k (s.put o.dst v H')
 | .test t b want=>.ask b
   (match want with
    |true=>nu P τ o (s.slot t true) fun v H'=>k ((s.slot t true).put o.dst v H')
    |false=>k ((s.slot t true).put o.dst (.tuple []) s.H))
   (match want with
    |true=>k ((s.slot t false).put o.dst (.tuple []) s.H)
    |false=>nu P τ o (s.slot t false) fun v H'=>k ((s.slot t false).put o.dst v H'))
def lk(P:Program)(τ:ak)(ops:Array Oper):List Oper→ar→(ar→Tree)→Tree
 | [],s,k=>k s
 |o::rest,s,k=>Ci P τ ops o s fun s1=>lk P τ ops rest s1 k
def fg:AV→Option Nat
 |.ptr id _ _ _ _=>some id
 |.vec _ id _ _ _=>some id
 |.map id=>some id
 |.sub id _ _=>some id
 |_=>none
def ju(τ:ak)(r:Operand→AV)(H:List ai)(op:Op):List Nat :=
 match gU r op with
 |some (f,args)=>τ.C f args H
 |none=>op.operands.toList.filterMap fun x=>fg (r x)
structure Acc where
 R:iO
 W:gW
def uh(ids:List Nat)(i:Nat):Bool := !ids.any (ad i)
def Cj(ops:Array Oper)(j id:Nat)(acc:Acc):Option Acc :=
 match acc.W.all fun e=>waits ops ops.size j e.1||(uh e.2.1 id&&fa id e.2.2)with
 |true=>some ⟨(j,id)::acc.R,acc.W⟩
 |false=>none
def xQ(ops:Array Oper)(j:Nat)(T:List Nat)(n:Nat)(acc:Acc):Option Acc :=
 match acc.R.all fun e=>waits ops ops.size j e.1||(uh T e.2&&fa e.2 n)with
 | true=>match acc.W.all fun e=>waits ops ops.size j e.1||((T.all fun id=>uh e.2.1 id&&fa id e.2.2)&&e.2.1.all fun id=>fa id n) with
  |true=>some ⟨acc.R,(j,T,n)::acc.W⟩
  |false=>none
 |false=>none
def Ck(τ:ak)(ops:Array Oper)(j:Nat)(o:Oper)(s:ar)(acc:Acc):Option Acc :=
 match cM τ.pf o.op with
 |.pure=>some acc
 | .read=>match kB s.eval o.op with
  |some id=>Cj ops j id acc
  |none=>some acc
 |.write=>xQ ops j (ju τ s.eval s.H o.op) s.H.length acc
def gZ:Kd→Value→Option G
 |.int k,.int k' n=>if k=k' then some (.i n) else none
 |.str,.string s=>some (.s s)
 |.bool,.bool b=>some (.t b)
 |.list _,.slice none 0 0=>some (.l [])
 |_,_=>none
def qZ:List Kd→List Value→Option (List G)
 | [],[]=>some []
 | k::ks,v::z=>match gZ k v,qZ ks z with
  |some g,some gs=>some (g::gs)
  |_,_=>none
 |_,_=>none
def mK:Kd→Option (List Kd)
 |.list ks=>some ks
 |_=>none
def mZ:List Kd→List (Option (List Kd)):=List.map mK
theorem Vw{k:Kd}{v:Value}{g:G}(h:gZ k v=some g):il k g=zc (mK k) v:=by
 cases k with
 | int k =>
  cases v with
  | int k' n =>
   simp only[gZ]at h;by_cases e:k=k'
   ·rw [if_pos e] at h
    cases h;subst e;rfl
   ·rw [if_neg e] at h
    cases h
  |_=>cases h
 |str=>cases v<;>first|(cases h; rfl)|cases h
 |bool=>cases v<;>first|(cases h; rfl)|cases h
 | list ks =>
  cases v with
  |slice b n c=>cases b<;>cases n<;>cases c<;>first|(cases h; rfl)|cases h
  |_=>cases h
theorem JJ:∀{ks:List Kd} {z:List Value} {g:List G},qZ ks z=some g→aJ ks g=dN (mZ ks) z
 | [],[],g,h=>by cases h; rfl
 | [],_::_,g,h=>by cases h
 |_::_,[],g,h=>by cases h
 | k::ks,v::z,g,h=>by
  simp only[qZ]at h;split at h
  ·rename_i g0 gs h1 d
   cases h;have q:=JJ d;simp only[aJ,wF,List.tail_cons,q,Vw h1];rfl
  ·cases h
def pe(z:List Value):List ai→Nat→Option (Nat × List Kd × List G)
 | [],_=>none
 | .vec ks 0 rows::H,i=>match qZ ks z with
  | some g=>match rows with
   | []=>some (i,ks,g)
   |_::_=>pe z H (i+1)
  |none=>pe z H (i+1)
 |_::H,i=>pe z H (i+1)
def ui:List ai→Nat→Option Nat
 | [],_=>none
 |.raw .dL::_,i=>some i
 |_::H,i=>ui H (i+1)
def Vx(P:Program)(t:TypeId):Option (Ct × Ct) :=
 match c7 P t with
 | some (g,d)=>match nm P g,nm P d with
  |some (K,_),some (V,_)=>some (K,V)
  | some (K,_),none=>match c7 P d with
   |some _=>some (K,K)
   |none=>none
  |_,_=>none
 |none=>none
def Cl(P:Program)(op:Op)(H:List ai):Option (Nat × AV × List ai) :=
 match op with
 | .alloc t=>match dV P t with
  | some z=>match pe z H 0 with
   |some (id,ks,g)=>some (id,.ptr id 1 ks.length 0 0,H.set id (.vec ks 1 [g]))
   |none=>none
  |none=>none
 | .makeMap t none=>match Vx P t with
  | some (K,V)=>match ui H 0 with
   |some id=>some (id,.map id,H.set id (.map K V [] 0))
   |none=>none
  |none=>none
 |_=>none
def Cm(τ:ak)(o:Oper)(s:ar):Bool:=match cM τ.pf o.op with
 | .write=>match gU s.eval o.op with
  | some (f,args)=>match τ.N f with
   |true=>(τ.W f args s.H).isSome
   |false=>false
  |none=>false
 |_=>true
def uj(P:Program)(τ:ak)(ops:Array Oper)(j:Nat)(o:Oper)(s:ar)(acc:Acc)(k:ar→Acc→Tree):Tree :=
 match l9 ops&&dX o.op with
 | true=>match Cl P o.op s.H with
  | some (id,v,H')=>match xQ ops j [id] s.H.length acc with
   |some d=>k (s.put o.dst v H') d
   |none=>.fail
  |none=>.fail
 | false=>match nf ops&&jP o.op && !Cm τ o s with
  |true=>.fail
  | false=>match Ck τ ops j o s acc with
   |some d=>nu P τ o s fun v H'=>k (s.put o.dst v H') d
   |none=>.fail
def Cn(P:Program)(τ:ak)(ops:Array Oper)(j:Nat)(o:Oper)(s:ar)(acc:Acc)(k:ar→Acc→Tree):Tree :=
 match nr ops s.fr o with
 |.bad=>.fail
 |.no=>k (s.put o.dst (.tuple []) s.H) acc
 |.yes=>uj P τ ops j o s acc k
 | .test t b want=>.ask b
   (match want with
    |true=>uj P τ ops j o (s.slot t true) acc k
    |false=>k ((s.slot t true).put o.dst (.tuple []) s.H) acc)
   (match want with
    |true=>k ((s.slot t false).put o.dst (.tuple []) s.H) acc
    |false=>uj P τ ops j o (s.slot t false) acc k)
def Co(P:Program)(τ:ak)(ops:Array Oper):List Oper→Nat→ar→Acc→(ar→Tree)→Tree
 | [],_,s,_,k=>k s
 |o::rest,j,s,acc,k=>Cn P τ ops j o s acc fun s1 d=>Co P τ ops rest (j+1) s1 d k
def JK(k:ar→Tree)(K:bU→ar→Tree):bU→ar→Tree
 |.normal,s=>k s
 |x,s=>K x s
def JL(id:Nat)(K:bU→ar→Tree):bU→ar→Tree
 |.exit i,s=>if i=id then K .normal s else K (.exit i) s
 |x,s=>K x s
def Tree.bind(K:bU→ar→Tree):Tree→Tree
 |.fail=>.fail
 |.done x s=>K x s
 |.ask b t e=>.ask b (t.bind K) (e.bind K)
 |.side b t=>.side b (t.bind K)
def kH:Code→Option Nat
 |.region id _ _=>some id
 | .seq a b=>match kH a with
  |some i=>some i
  |none=>kH b
 |.block _ c=>kH c
 | .cond _ a b=>match kH a with
  |some i=>some i
  |none=>kH b
 |.loop c=>kH c
 |_=>none
def pg:Code→Nat
 | .seq a b=>match kH a with
  |some _=>pg a
  |none=>pg b
 |.block _ c=>pg c
 | .cond _ a b=>match kH a with
  |some _=>pg a
  |none=>pg b
 |.loop c=>pg c+1
 |_=>0
def JM(c:Code):Option Nat:=match kH c with
 |some i=>some (i+1000*pg c)
 |none=>none
def bM:Code→List (Nat × Code)
 |.seq a b=>bM a++bM b
 |.cond _ a b=>bM a++bM b
 |.block _ c=>bM c
 | .loop c=>match JM c with
  |some k=>(k,c)::bM c
  |none=>bM c
 |_=>[]
def Vy(k:ar→Tree)(K:bU→ar→Tree):bU→ar→Tree
 |.normal,s=>k s
 |.exit i,s=>K (.exit i) s
 |.ret,s=>K .ret s
def xR(body:ar→(bU→ar→Tree)→Tree):Nat→ar→(bU→ar→Tree)→Tree
 |0,_,_=>.fail
 |n+1,s,K=>body s (Vy (fun s'=>xR body n s' K) K)
def bH:Code→List (Nat × Code)
 | .seq a b=>bH a++((match kH b with
  |some k=>[(k,b)]
  |none=>[])++bH b)
 |.cond _ a b=>bH a++bH b
 |.block _ c=>bH c
 |.loop c=>bH c
 |_=>[]
structure LT where
 loops:Nat→ar→Option Tree
 pre:Nat→ar→Bool × ar
 uk:Nat→ar→Option Tree
def JN(L:LT)(k:Option Nat)(s:ar):Option Tree :=
 match k with
 |some i=>L.uk i s
 |none=>none
def dZ(P:Program)(τ:ak)(L:LT):Code→ar→(bU→ar→Tree)→Tree
 |.skip,s,K=>K .normal s
 | .region id ops draw,s,K=>match draw && !qE τ.pf ops with
  | true=>match qM τ.pf ops with
   |true=>.side (L.pre id s).1 (Co P τ ops ops.toList 0 (L.pre id s).2 ⟨[],[]⟩ (K .normal))
   |false=>.fail
  |false=>.side (L.pre id s).1 (lk P τ ops ops.toList (L.pre id s).2 (K .normal))
 | .seq a b,s,K=>dZ P τ L a s (JK (fun s1=>match JN L (kH b) s1 with
  |some t=>t.bind K
  |none=>dZ P τ L b s1 K) K)
 | .cond c a b,s,K=>match xM (s.eval c) with
  |some t=>.ask t (dZ P τ L a s K) (dZ P τ L b s K)
  |none=>.fail
 |.block id c,s,K=>dZ P τ L c s (JL id K)
 | .loop c,s,K=>match JM c with
  | some i=>match L.loops i s with
   |some t=>t.bind K
   |none=>xR (fun s1 d=>dZ P τ L c s1 d) 400 s K
  |none=>.fail
 |.exit id,s,K=>K (.exit id) s
 |.ret,s,K=>K .ret s
 |_,_,_=>.fail
def JO(P:Program)(m:Nat)(c:Code)(s:ar)(t:Tree):Prop:=∀ Q:bU→ar→Prop,t.holds Q→∃ x s',jO P m c s.den x s'.den∧Q x s'
def xS(P:Program)(m:Nat)(c:Code)(s:ar)(t:Tree):Prop:=∀ Q:bU→ar→Prop,t.holds Q→∃ x s',c5 P m c s.den x s'.den∧Q x s'
def ax(P:Program)(m:Nat)(L:LT)(c:Code):Prop:=(∀ k d,(k,d)∈bM c→∀ s t,L.loops k s=some t→JO P m d s t)∧(∀ id s,(L.pre id s).1=true→bx m s.den (L.pre id s).2.den) ∧
 ∀ k d,(k,d)∈bH c→∀ s t,L.uk k s=some t→xS P m d s t
theorem ax.sub{P:Program}{m:Nat}{L:LT}{c g:Code}(h:ax P m L c)(h1:∀ p,p∈bM g→p∈bM c)(q:∀ p,p∈bH g→p∈bH c):ax P m L g :=
 ⟨fun k d hk=>h.1 k d (h1 _ hk),h.2.1,fun k d hk=>h.2.2 k d (q _ hk)⟩
theorem JP{a:AV}{b:Bool}(h:xM a=some b):a=.lit (.bool b):=by
 unfold xM at h;split at h
 ·cases h; rfl
 ·cases h
theorem JQ{E E':Env}:∀{vs:List AV} {us:List Value},xO vs=true→ah E vs us→ah E' vs us
 | [],[],_,_=>by simp[ah]
 | [],_::_,_,h=>by simp[ah]at h
 | a::vs,us,d,h=>by
  unfold xO at d;split at d
  ·rename_i heq; cases heq
  ·rename_i heq
   cases heq;cases us with
   |nil=>simp[ah]at h
   | cons u us =>
    simp only[ah,rel]at h⊢;exact⟨h.1,JQ d h.2⟩
  ·cases d
theorem Vz{E E':Env}{v:AV}{u:Value}(d:xP v=true)(h:rel E v u):rel E' v u:=by
 unfold xP at d;split at d
 ·simpa only[rel]using h
 ·simp only [rel] at h ⊢
  obtain⟨cs,e,g⟩:=h;exact⟨cs,e,JQ d g⟩
 ·cases d
def Env.bare(E:Env)(w:World):Env:={ w:=w,H:=[],loc:=[],X:=E.X.re dI }
theorem xT{E:Env}{w:World}(b:Nat):¬ (E.bare w).own b:=by rintro(⟨id,c,h⟩|⟨l,k,c,h⟩); simp[Env.bare]at h; simp[Env.bare,dI]at h
theorem nv(E:Env):E.bG (E.bare E.w):=⟨fun b hb=>⟨⟨hb.1,xT b,hb.2.2⟩,rfl⟩⟩
theorem VA{E:Env}(HE:au E):au (E.bare E.w):=by
 refine⟨rfl,?_,?_,HE.X,?_,HE.eR.bG (nv E),fun l k l' k' b m n hk=>by simp[Env.bare,dI]at hk,fun i b m l k n hi=>by simp[Env.bare]at hi,fun l k b m hk=>by simp[Env.bare,dI]at hk,fun i j o o' l hi=>by simp[Env.bare]at hi,fun l _ k q hk=>by simp[Env.bare,dI]at hk⟩
 ·intro i j b m n hi; simp[Env.bare]at hi
 ·intro i b m hi; simp[Env.bare]at hi
 ·intro i o hi; simp[Env.bare]at hi
theorem JR{E:Env}(HE:au E){H:List ai}(hH:E.H=ao H){id af n w:Nat}{ks:List Kd}{rows:List (List G)}{c:Value}
  (hid:H[id]? = some (.vec ks af rows)) (hw:ks.length=w) (v:n=rows.length) (d:rel E (.vec w id af 0 n) c):rel (E.bare E.w) (.listF ks rows) c:=by
 subst hw v;have h:E.H[id]? = some (.vec ks.length af (rows.map (aJ ks))):=by rw[hH]; exact bq hid
 have ho:=HE.obj id _ h;rw[iI];simp only[rel]at d⊢;obtain⟨⟨base,cap,rfl,u,_⟩,_,y⟩:=d;obtain⟨M,B⟩:=y ⟨_,h,rfl⟩;have k:eQ (rows.map (aJ ks)):=by
  intro r d;obtain⟨g,_,rfl⟩:=dF.1 d;exact fD ks g
 refine⟨k,base,cap,by simp,by simpa using u,?_⟩;simp only[aO]at ho;rcases ho with⟨h1,q⟩|⟨b,m,h1,q,I,_,J⟩
 ·exact .inl q
 ·obtain ⟨g1, o, g2, g3⟩ := B b m h1
  by_cases hm:rows=[]
  ·subst hm; exact .inl rfl
  ·right
   have:0<rows.length:=by cases rows with|nil=>exact(hm rfl).elim|cons _ _=>simp
   simp at I;have ho:=g2 (by omega);simp at ho;subst ho;simp only[jE]at g3;refine⟨b,0,g3.1,⟨(HE.lt id b m h1).1,xT b,(HE.lt id b m h1).2⟩,?_⟩;exact km (nv E) _ k rfl J
theorem VB{E:Env}(HE:au E){H:List ai}(hH:E.H=ao H){id k:Nat}{cells:List AV}{c:Value} (hid:H[id]? = some (.raw (.box cells))) (g:AV.br cells=true)
  (h:rel E (.ptr id 0 k 0 0) c):rel (E.bare E.w) (.cptr cells) c:=by
 have d:E.H[id]? = some (.box cells):=by rw[hH]; exact bq hid
 have ho:=HE.obj id _ d;simp only[aO]at ho;obtain⟨b,n,h1,v,q⟩:=ho;simp only[rel]at h⊢;obtain⟨_,_,u⟩:=h;obtain⟨y,B,g1,g2⟩:=u ⟨_,d,rfl⟩;rw[h1]at g1;simp only[aY,bg]at g1;obtain⟨rfl,rfl⟩:=g1;refine⟨g,b,0,by rw[g2]; simp,⟨(HE.lt id b n h1).1,xT b,(HE.lt id b n h1).2⟩,?_⟩;exact qh (nv E) cells g rfl q
theorem JS{E:Env}(HE:au E){H:List ai}(hH:E.H=ao H){a g:AV}{b:Bool}{c:Value}(h:uf H a=(b,g))(hb:b=true)(d:g.closed=true)(q:rel E a c):rel (E.bare E.w) g c:=by
 unfold uf at h;split at h
 ·split at h
  ·rename_i w id af off n ks v rows hid
   split at h
   ·rename_i u
    obtain⟨rfl,y,rfl⟩:=u;simp only[bg]at h;obtain⟨h1,rfl⟩:=h;subst hb;exact JR HE hH hid y (bu h1) q
   ·cases h; simp[AV.closed]at d
  ·cases h; simp[AV.closed]at d
 ·split at h
  ·rename_i id af k row col _ cells hid
   split at h
   ·rename_i u
    obtain⟨rfl,rfl,rfl,B⟩:=u;cases h;exact VB HE hH hid B q
   ·cases h; simp[AV.closed]at d
  ·cases h; simp[AV.closed]at d
 ·cases h
  exact dJ (nv E) _ d q
theorem JT{E:Env}(HE:au E){H:List ai}(hH:E.H=ao H):∀{as g:List AV} {b:Bool} {cs:List Value},pd H as=(b,g)→b=true→AV.br g=true→ah E as cs →
  ah (E.bare E.w) g cs
 | [],g,b,cs,h,_,_,d=>by
  simp only[pd]at h;cases h;cases cs with
  |nil=>simp[ah]
  |cons _ _=>simp[ah]at d
 | a::as,g,b,cs,h,hb,k,d=>by
  cases cs with
  |nil=>simp[ah]at d
  | cons c cs =>
   simp only[ah]at d;cases q:uf H a with
   |mk b1 y =>
   cases u:pd H as with
   |mk B v =>
   simp only[pd,q,u,bg]at h;obtain⟨h1,rfl⟩:=h;subst h1;simp only[aA]at hb;simp only[AV.br,aA]at k;simp only[ah];exact⟨JS HE hH q hb.1 k.1 d.1,JT HE hH u hb.2 k.2 d.2⟩
theorem VC{E:Env}(HE:au E){H:List ai}(hH:E.H=ao H){a d:AV}{b:Bool}{c:Value}(h:xN H a=(b,d))(hb:b=true)(k:d.closed=true)(g:rel E a c):rel (E.bare E.w) d c:=by
 unfold xN at h;split at h
 ·rename_i f caps
  cases q:pd H caps with
  |mk b1 v =>
  rw[q]at h;cases h;simp only[rel]at g⊢;obtain⟨cs,e,u⟩:=g;exact⟨cs,e,JT HE hH q hb (by simpa only[AV.closed]using k) u⟩
 ·exact JS HE hH h hb k g
theorem JU{E:Env}(HE:au E){H:List ai}(hH:E.H=ao H):∀{as g:List AV} {b:Bool} {cs:List Value},nt H as=(b,g)→b=true→AV.br g=true→ah E as cs →
  ah (E.bare E.w) g cs
 | [],g,b,cs,h,_,_,d=>by
  simp only[nt]at h;cases h;cases cs with
  |nil=>simp[ah]
  |cons _ _=>simp[ah]at d
 | a::as,g,b,cs,h,hb,k,d=>by
  cases cs with
  |nil=>simp[ah]at d
  | cons c cs =>
   simp only[ah]at d;cases q:xN H a with
   |mk b1 y =>
   cases u:nt H as with
   |mk B v =>
   simp only[nt,q,u,bg]at h;obtain⟨h1,rfl⟩:=h;subst h1;simp only[aA]at hb;simp only[AV.br,aA]at k;simp only[ah];exact⟨VC HE hH q hb.1 k.1 d.1,JU HE hH u hb.2 k.2 d.2⟩
theorem VD{P:Program}{f:FuncId}{args d:List AV}{H:List ai}{b:Bool}{v:AV}(q:cL P f d v)(u:nt H args=(b,d))(hb:b=true)(k:AV.br d=true)
  (y:xP v=true):dB P f args (ao H) v (ao H):=by
 intro E cargs hH HE h;refine(q [] (E.bare E.w) cargs rfl (VA HE) (JU HE hH u hb k h)).mono ?_;rintro _ w' ⟨c,B,H',rfl,⟨rfl,rfl⟩,J,r',g1,g2,g3⟩;have g:Ext E.w w':=⟨g3.size,fun x I=>g3.same x I (xT x),g3.env⟩
 refine⟨c,B,ao H,rfl,⟨rfl,rfl⟩,E.loc,E.X.r,Vz y g1,?_,?_⟩
 ·rw[←hH]; exact HE.ext g
 ·rw[←hH]; exact Env.iJ g
section sound
variable {P:Program} {τ:ak}
theorem Cp{ops:Array Oper}{o:Oper}{s:ar}{v:AV}(hw:bQ ops s.fr o=some true)(d:cM τ.pf o.op=.pure)
  (h:gE P s.eval o.op=some v∨∃ f args,gU s.eval o.op=some (f,args)∧eS P f=true∧cL P f args v):Yields P τ.pf ops o s.den v (ao s.H):=by
 unfold Yields;rw[show s.den.fr=s.fr from rfl,hw];simp only[d,ar.kE];exact⟨rfl,h⟩
theorem ph{ops:Array Oper}{o:Oper}{s:ar}{v:AV}{H':List ab}(hw:bQ ops s.fr o=some true)(d:cM τ.pf o.op=.write)
  (h:cZ P s.eval (ao s.H) o.op=some (v,H')∨∃ f args,gU s.eval o.op=some (f,args)∧eS P f=true∧dB P f args (ao s.H) v H'):Yields P τ.pf ops o s.den v H':=by
 unfold Yields;rw[show s.den.fr=s.fr from rfl,hw];simp only[d,ar.kE];exact .inl h
/-! ### d g operation leaves alone -/
theorem gp{H:List ai}{id A:Nat}{o:ai}(h:A≠id):(H.set id o)[A]? = H[A]? := aU (Ne.symm h)
theorem jv{H:List ai}{A:Nat}{o:ai}(h:A<H.length):(H++[o])[A]? = H[A]? := cK h
theorem JV{P:Program}{t:TypeId}{x v:AV}{H H':List ai}{b:Bool}{A:Nat}(h:qO P t x v H=some (b,H'))(g:fg x≠some A):H'[A]? = H[A]? := by
 unfold qO at h;split at h
 case h_2=>cases h
 rename_i n q cs id af w row col u k;have d:A≠id:=fun e=>g (by rw[e]; rfl);split at h
 case isFalse=>cases h
 split at h
 ·split at h
  ·cases h; exact gp d
  ·cases h
 ·split at h
  ·split at h
   ·cases h; exact gp d
   ·cases h
  ·cases h
 ·cases h
theorem VE{P:Program}{t xt:TypeId}{s x v:AV}{H H':List ai}{b:Bool}{A:Nat}(h:tQ P t xt s x H=some (b,v,H'))(d:A<H.length)(g:fg s≠some A):H'[A]? = H[A]? := by
 unfold tQ at h;split at h
 case h_2=>cases h
 split at h
 case h_2=>cases h
 split at h
 case isFalse=>cases h
 split at h
 ·split at h
  ·split at h
   ·cases h; exact jv d
   ·cases h
  ·cases h
 ·split at h
  ·split at h
   ·cases h; exact jv d
   ·cases h
  ·cases h
 ·split at h
  ·split at h
   ·split at h
    ·cases h; exact gp fun e=>g (by rw[e]; rfl)
    ·cases h
   ·cases h
  ·cases h
 ·cases h
theorem VF{P:Program}{t xt:TypeId}{s x v:AV}{H H':List ai}{b:Bool}{A:Nat}(h:t_ P t xt s x H=some (b,v,H'))(d:A<H.length):H'[A]? = H[A]? := by
 unfold t_ at h;split at h
 case h_2=>cases h
 split at h
 case h_2=>cases h
 split at h
 case h_2=>cases h
 split at h
 case h_2=>cases h
 split at h
 ·cases h; exact jv d
 ·cases h
theorem VG{P:Program}{t:TypeId}{x:AV}{H H':List ai}{b:Bool}{A:Nat}(h:tZ P t x H=some (b,H'))(d:fg x≠some A):H'[A]? = H[A]? := by
 unfold tZ at h;split at h
 case h_2=>cases h
 split at h
 case h_2=>cases h
 split at h
 case h_2=>cases h
 split at h
 ·cases h; exact gp fun e=>d (by rw[e]; rfl)
 ·cases h
theorem JW{P:Program}{t:TypeId}{m k v:AV}{H H':List ai}{b:Bool}{A:Nat}(h:qR P t m k v H=some (b,H'))(d:fg m≠some A):H'[A]? = H[A]? := by
 unfold qR at h;split at h
 case h_2=>cases h
 split at h
 case h_2=>cases h
 split at h
 case h_2=>cases h
 split at h
 ·cases h; exact gp fun e=>d (by rw[e]; rfl)
 ·cases h
theorem VH{P:Program}{t:TypeId}{m k v:AV}{H H':List ai}{b:Bool}{A:Nat}(h:tU P t m k v H=some (b,H'))(d:fg m≠some A)(g:fg v≠some A):H'[A]? = H[A]? := by
 unfold tU at h;split at h
 case h_2=>cases h
 split at h
 case h_2=>cases h
 split at h
 case h_2=>cases h
 split at h
 ·cases h
  rw[gp fun e=>g (by rw[e]; rfl)];exact gp fun e=>d (by rw[e]; rfl)
 ·cases h
theorem VJ{P:Program}{t:TypeId}{m k v:AV}{H H':List ai}{b:Bool}{A:Nat}(h:ua P t m k v H=some (b,H'))(d:fg m≠some A):H'[A]? = H[A]? := by
 unfold ua at h;split at h
 case h_2=>cases h
 split at h
 case h_2=>cases h
 split at h
 case h_2=>cases h
 split at h
 ·cases h
  exact gp fun e=>d (by rw[e]; rfl)
 ·cases h
theorem VK{P:Program}{t:TypeId}{m k v:AV}{H H':List ai}{b:Bool}{A:Nat}(h:ub P t m k H=some (b,v,H'))(d:fg m≠some A):H'[A]? = H[A]? := by
 unfold ub at h;split at h
 case h_2=>cases h
 split at h
 case h_2=>cases h
 split at h
 case h_2=>cases h
 split at h
 ·cases h
  exact gp fun e=>d (by rw[e]; rfl)
 ·cases h
theorem VL{m s v:AV}{H H':List ai}{b:Bool}{A:Nat}(h:uc m s v H=some (b,H'))(d:fg m≠some A)(g:fg v≠some A):H'[A]? = H[A]? := by
 unfold uc at h;split at h
 case h_2=>cases h
 split at h
 case h_2=>cases h
 split at h
 ·cases h
  rw[gp fun e=>g (by rw[e]; rfl)];exact gp fun e=>d (by rw[e]; rfl)
 ·cases h
theorem VM{P:Program}{t:TypeId}{m k v:AV}{H H':List ai}{b:Bool}{A:Nat}(h:tT P t m k H=some (b,v,H'))(d:A<H.length)(g:fg m≠some A):H'[A]? = H[A]? := by
 unfold tT at h;split at h
 case h_2=>cases h
 split at h
 case h_2=>cases h
 split at h
 case h_2=>cases h
 split at h
 ·cases h
  rw[jv (by simpa using d)];exact gp fun e=>g (by rw[e]; rfl)
 ·cases h
theorem VN{m s v:AV}{H H':List ai}{b:Bool}{A:Nat}(h:tW m s v H=some (b,H'))(d:fg m≠some A)(g:fg v≠some A):H'[A]? = H[A]? := by
 unfold tW at h;split at h
 case h_2=>cases h
 split at h
 case h_2=>cases h
 split at h
 ·cases h
  rw[gp fun e=>g (by rw[e]; rfl)];exact gp fun e=>d (by rw[e]; rfl)
 ·cases h
theorem VO{P:Program}{t:TypeId}{m k v:AV}{H H':List ai}{b:Bool}{A:Nat}(h:tV P t m k H=some (b,v,H'))(d:A<H.length)(g:fg m≠some A):H'[A]? = H[A]? := by
 unfold tV at h;split at h
 case h_2=>cases h
 split at h
 case h_2=>cases h
 split at h
 case h_2=>cases h
 split at h
 ·cases h
  rw[jv (by simpa using d)];exact gp fun e=>g (by rw[e]; rfl)
 ·cases h
theorem VP{P:Program}{t:TypeId}{m k:AV}{H H':List ai}{b:Bool}{A:Nat}(h:tY P t m k H=some (b,H'))(d:fg m≠some A):H'[A]? = H[A]? := by
 unfold tY at h;split at h
 case h_2=>cases h
 split at h
 case h_2=>cases h
 split at h
 ·cases h; exact gp fun e=>d (by rw[e]; rfl)
 ·cases h
theorem VQ{P:Program}{t:TypeId}{l c v:AV}{H H':List ai}{b:Bool}{A:Nat}(h:tR P t l c H=some (b,v,H'))(d:A<H.length):H'[A]? = H[A]? := by
 unfold tR at h;split at h
 case h_2=>cases h
 split at h
 case h_2=>cases h
 split at h
 case h_2=>cases h
 split at h
 case h_2=>cases h
 split at h
 ·cases h; exact jv d
 ·cases h
theorem VR{P:Program}{t:TypeId}{n:Nat}{parts:List (Nat × AV)}{v:AV}{H H':List ai}{b:Bool}{A:Nat}(h:tS P t n parts H=some (b,v,H'))(d:A<H.length):H'[A]? = H[A]? := by
 unfold tS at h;split at h
 case h_2=>cases h
 split at h
 case h_2=>cases h
 split at h
 case h_2=>cases h
 split at h
 case h_2=>cases h
 split at h
 case h_2=>cases h
 split at h
 ·cases h; exact jv d
 ·cases h
theorem JX{P:Program}{r:Operand→AV}{H H':List ai}{o:Op}{v:AV}{b:Bool}{A:Nat}(h:qX P r H o=some (b,v,H'))(g:A<H.length)(M:A∉o.operands.toList.filterMap fun x=>fg (r x)):H'[A]? = H[A]? := by
 have no:∀ x∈o.operands.toList,fg (r x)≠some A:=fun x q e=>M (G9.2 ⟨x,q,e⟩);cases o<;>simp only[qX]at h<;>try cases h
 case alloc t =>
  split at h
  ·split at h
   ·cases h; exact jv g
   ·cases h
  ·split at h
   ·cases h; exact jv g
   ·cases h
 case box t x =>
  split at h
  ·cases h; exact jv g
  ·cases h
 case store t a x =>
  split at h
  ·rename_i u H1 d
   cases h;exact JV d (no a (by simp[eP]))
  ·cases h
 case makeSlice t l c=>exact VQ h g
 case buildSlice t n ps=>exact VR h g
 case range t x =>
  split at h
  ·cases h; exact jv g
  ·cases h
 case next it isString =>
  cases isString with
  |false=>cases h
  | true =>
   simp only[]at h;split at h
   ·rename_i id k q
    split at h
    ·split at h
     ·cases h; exact gp fun e=>no it (by simp[eP]) (by rw[q,e]; rfl)
     ·cases h; rfl
    ·cases h
   ·cases h
 case makeMap t res =>
  cases res with
  |some _=>cases h
  | none =>
   simp only[]at h;split at h
   ·split at h
    ·cases h; exact jv g
    ·split at h
     ·cases h; exact jv g
     ·cases h
    ·cases h
   ·cases h
 case mapUpdate t m k x =>
  split at h
  ·rename_i u H1 d
   cases h;exact JW d (no m (by simp[eP]))
  ·split at h
   ·rename_i u H1 d
    cases h;exact VH d (no m (by simp[eP])) (no x (by simp[eP]))
   ·split at h
    ·rename_i u H1 d
     cases h;exact VJ d (no m (by simp[eP]))
    ·cases h
 case lookup t m k ok =>
  cases ok with
  |true=>cases h
  |false=>exact VM h g (no m (by simp[eP]))
 case mapEntry t m k =>
  split at h
  ·rename_i y N
   cases h;exact VO N g (no m (by simp[eP]))
  ·exact VK h (no m (by simp[eP]))
 case entryStore t m s x =>
  split at h
  ·rename_i u H1 d
   cases h;exact VN d (no m (by simp[eP])) (no x (by simp[eP]))
  ·split at h
   ·rename_i u H1 d
    cases h;exact VL d (no m (by simp[eP])) (no x (by simp[eP]))
   ·cases h
 case insert t m k x =>
  split at h
  ·rename_i u H1 d
   cases h;exact JW d (no m (by simp[eP]))
  ·cases h
 case call c =>
  have na:∀ x∈c.args.toList,fg (r x)≠some A:=fun x q=>no x (by
   simp only[eP,Call.operands];simp at q⊢;exact .inr q)
  split at h
  ·split at h
   ·rename_i s x t xt B J
    have O:=na s (by rw[B]; simp);split at h
    ·exact VF h g
    ·exact VE h g O
   ·cases h
  ·split at h
   ·rename_i x t B J
    have I:=na x (by rw[B]; simp);split at h
    ·rename_i d; cases h; exact VG d I
    ·cases h
   ·cases h
  ·split at h
   ·rename_i x k t _ B J
    have I:=na x (by rw[B]; simp);split at h
    ·rename_i d; cases h; exact VP d I
    ·cases h
   ·cases h
  ·cases h
theorem VS{P:Program}{r:Operand→AV}{H H':List ai}{o:Op}{b:Bool}{A:Nat}(h:ug P r H o=some (b,H'))(g:A∉o.operands.toList.filterMap fun x=>fg (r x)):H'[A]? = H[A]? := by
 have no:∀ x∈o.operands.toList,fg (r x)≠some A:=fun x k e=>g (G9.2 ⟨x,k,e⟩);unfold ug at h;split at h
 case h_2=>cases h
 rename_i t a x;split at h
 case h_2=>cases h
 rename_i b0 v1 H1 d;split at h
 case h_2=>cases h
 rename_i b1 H2 q;simp only[aY,bg]at h;obtain⟨_,rfl⟩:=h;rw[JV q (no a (by simp[eP]))];unfold Ch at d;split at d
 case h_2=>cases d
 rename_i w id af off n u;split at d
 case h_2=>cases d
 split at d
 case isFalse=>cases d
 simp only[aY,bg]at d;obtain⟨_,_,rfl⟩:=d;refine gp fun e=>no x (by simp[eP]) ?_;rw[u,e];rfl
theorem xU(B:al P τ){ops:Array Oper}{o:Oper}{s:ar}{k:AV→List ai→Tree}{Q:bU→ar→Prop}(hw:bQ ops s.fr o=some true)
  (h:(nu P τ o s k).holds Q):∃ v H',Yields P τ.pf ops o s.den v (ao H')∧(cM τ.pf o.op=.write→∀ A,A∉ju τ s.eval s.H o.op→A<s.H.length→H'[A]? = s.H[A]?)∧(k v H').holds Q:=by
 unfold nu at h;split at h
 ·rename_i c a b ho
  split at h
  ·rename_i t hb
   have hb:=JP hb;refine⟨bif t then s.eval a else s.eval b,s.H,Cp hw (by rw[ho]; rfl) (.inl (by rw[ho]; simp only[gE,hb])),fun _ _ _ _=>rfl,?_⟩;simp only[Tree.holds]at h;cases t with
   |true=>exact h.1 rfl
   |false=>exact h.2 rfl
  ·exact h.elim
 ·rename_i t a ho
  split at h
  ·rename_i b v J
   simp only[Tree.holds]at h;refine⟨v,s.H,?_,fun _ _ _ _=>rfl,h.2⟩;unfold Yields;rw[show s.den.fr=s.fr from rfl,hw];simp only[ho,cM,ar.kE];exact⟨rfl,by simp only[eA]; exact U4 J h.1⟩
  ·exact h.elim
 ·rename_i t m x ok ho
  have U:ju τ s.eval s.H o.op=o.op.operands.toList.filterMap fun x=>fg (s.eval x):=by
   have M:gU s.eval o.op=none:=by rw[ho]; rfl
   simp only[ju,M]
  split at h
  ·rename_i b v J
   split at h
   ·rename_i g
    simp only[Tree.holds]at h;refine⟨v,s.H,?_,fun _ _ _ _=>rfl,h.2⟩;unfold Yields;rw[show s.den.fr=s.fr from rfl,hw];simp only[g,ar.kE];rw[ho];exact⟨rfl,by
     have e:=Jx J;rw[show ao s.H=s.den.H from rfl]at e;simp only[eA,e]⟩
   ·rename_i g
    simp only[Tree.holds]at h;refine⟨v,s.H,ph hw g (.inl ?_),fun _ _ _ _=>rfl,h.2⟩;rw[ho];simp only[cZ,Jx J]
   ·exact h.elim
  ·split at h
   ·rename_i g
    split at h
    ·rename_i b v H' d
     simp only[Tree.holds]at h;exact⟨v,H',ph hw g (.inl (JH d h.1)),fun _ A q u=>JX d u (by rw[U]at q; exact q),h.2⟩
    ·exact h.elim
   ·rename_i g
    split at h
    ·rename_i b v J
     simp only[Tree.holds]at h;obtain⟨q1,q2⟩:=Vg J h.1;refine⟨v,s.H,?_,fun _ _ _ _=>rfl,h.2⟩;unfold Yields;rw[show s.den.fr=s.fr from rfl,hw];simp only[g,ar.kE];rw[ho];exact⟨rfl,by simp only[eA]; rw[show fF P t (s.eval m) (s.eval x) ok s.den.H=none from q1]; exact q2⟩
    ·exact h.elim
   ·exact h.elim
 ·split at h
  ·rename_i g
   split at h
   ·rename_i v d
    refine⟨v,s.H,?_,fun _ _ _ _=>rfl,h⟩;unfold Yields;rw[show s.den.fr=s.fr from rfl,hw];simp only[g,ar.kE];exact⟨rfl,Vu d⟩
   ·exact h.elim
  ·rename_i g
   split at h
   ·rename_i f args y
    split at h
    ·rename_i b v d
     simp only[Tree.holds]at h;obtain⟨g1,g2⟩:=B.T f args b v d h.1;exact⟨v,s.H,Cp hw g (.inr ⟨f,args,y,g1,g2⟩),fun _ _ _ _=>rfl,h.2⟩
    ·exact h.elim
   ·split at h
    ·rename_i b v d
     simp only[Tree.holds]at h;exact⟨v,s.H,Cp hw g (.inl (Vt d h.1)),fun _ _ _ _=>rfl,h.2⟩
    ·exact h.elim
  ·rename_i g
   split at h
   ·rename_i f args y
    split at h
    ·rename_i b v H' d
     simp only[Tree.holds]at h;obtain⟨g1,g2⟩:=B.W f args s.H b v H' d h.1;exact⟨v,H',ph hw g (.inr ⟨f,args,y,g1,g2⟩),fun _ A q u=>B.C f args s.H b v H' d A (by simpa only[ju,y]using q) u,h.2⟩
    ·split at h
     ·rename_i t hi
      obtain⟨g1,v,H',g2,g3,g4⟩:=B.I f args s.H t hi _ (Tree.xL h);exact⟨v,H',ph hw g (.inr ⟨f,args,y,g1,g2⟩),fun _ A q u=>g3 A (by simpa only[ju,y]using q) u,g4⟩
     ·split at h
      ·rename_i b v d
       simp only[Tree.holds]at h;obtain⟨g1,g2⟩:=B.T f args b v d h.1;exact⟨v,s.H,ph hw g (.inr ⟨f,args,y,g1,g2 _⟩),fun _ _ _ _=>rfl,h.2⟩
      ·cases O : nt s.H args with
       |mk vb V =>
       rw[O]at h;simp only[]at h;split at h
       ·rename_i b v d
        split at h
        ·rename_i N
         simp only[aA]at N;simp only[Tree.holds,aA]at h;obtain⟨g1,g2⟩:=B.T f V b v d h.1.2;exact⟨v,s.H,ph hw g (.inr ⟨f,args,y,g1,VD g2 O h.1.1 N.2 N.1⟩),fun _ _ _ _=>rfl,h.2⟩
        ·exact h.elim
       ·exact h.elim
   ·rename_i M
    split at h
    ·rename_i b v H' d
     simp only[Tree.holds]at h;exact⟨v,H',ph hw g (.inl (JH d h.1)),fun _ A q u=>JX d u (by simpa only[ju,M]using q),h.2⟩
    ·split at h
     ·rename_i b H' d
      simp only[Tree.holds]at h;refine⟨.undef,H',?_,fun _ A q u=>VS d (by simpa only[ju,M]using q),h.2⟩;unfold Yields;rw[show s.den.fr=s.fr from rfl,hw];simp only[g,ar.kE];exact .inr (.inr (Vv d h.1))
     ·exact h.elim
theorem JY{ops:Array Oper}{s:ar}{o:Oper}{t:Tmp}{b want:Bool}(h:nr ops s.fr o=.test t b want) :
  s.fr[t]? = some (.lit (.bool b))∧bQ ops s.fr o=some (b==want):=by
 unfold nr at h;unfold bQ;cases d:o.guard with
 |none=>rw[d]at h; cases h
 | some g =>
  obtain⟨j,w⟩:=g;rw[d]at h;simp only[]at h⊢;split at h
  ·rename_i t' k
   split at h
   ·rename_i q hb
    cases h;exact⟨hb,by rw[k]; simp only[hb]⟩
   ·cases h
   ·cases h
  ·cases h
theorem Cq{ops:Array Oper}{s:ar}{o:Oper}(h:nr ops s.fr o=.no):bQ ops s.fr o=some false:=by
 unfold nr at h;unfold bQ;cases d:o.guard with
 |none=>rw[d]at h; cases h
 | some g =>
  obtain⟨j,w⟩:=g;rw[d]at h;simp only[]at h⊢;split at h
  ·rename_i t' k
   split at h
   ·cases h
   ·rename_i hb
    rw[k];simp only[hb]
   ·cases h
  ·cases h
theorem JZ{ops:Array Oper}{s:ar}{o:Oper}(h:nr ops s.fr o=.yes):bQ ops s.fr o=some true:=by
 unfold nr at h;unfold bQ;cases d:o.guard with
 |none=>rfl
 | some g =>
  obtain⟨j,w⟩:=g;rw[d]at h;simp only[]at h;split at h
  ·split at h<;>cases h
  ·cases h
theorem xV{s:ar}{t:Tmp}{b:Bool} (h:s.fr[t]? = some (.lit (.bool b))):s.slot t b=s:=by
 unfold ar.slot;rw[la h]
theorem VT(q:al P τ){ops:Array Oper}{o:Oper}{s:ar}{k:ar→Tree}{Q:bU→ar→Prop}(h:(Ci P τ ops o s k).holds Q) :
  ∃ v H',Yields P τ.pf ops o s.den v (ao H')∧(k (s.put o.dst v H')).holds Q:=by
 have skip:bQ ops s.fr o=some false→Yields P τ.pf ops o s.den (.tuple []) (ao s.H):=by
  intro hw;unfold Yields;rw[show s.den.fr=s.fr from rfl,hw];exact⟨rfl,rfl⟩
 unfold Ci at h;split at h
 ·exact h.elim
 ·rename_i hw
  exact⟨_,_,skip (Cq hw),h⟩
 ·rename_i hw
  obtain⟨v,H',g1,_,g2⟩:=xU q (JZ hw) h;exact⟨v,H',g1,g2⟩
 ·rename_i t b want hw
  obtain⟨h1,g⟩:=JY hw;simp only[Tree.holds]at h;cases b with
  | true =>
   have d:=h.1 rfl;rw[xV h1]at d;cases want with
   | true =>
    obtain⟨v,H',g1,_,g2⟩:=xU q g d;exact⟨v,H',g1,g2⟩
   |false=>exact⟨_,_,skip g,d⟩
  | false =>
   have d:=h.2 rfl;rw[xV h1]at d;cases want with
   |true=>exact⟨_,_,skip g,d⟩
   | false =>
    obtain⟨v,H',g1,_,g2⟩:=xU q g d;exact⟨v,H',g1,g2⟩
theorem xW(d:al P τ){ops:Array Oper}{Q:bU→ar→Prop}:∀{l:List Oper} {s:ar} {k:ar→Tree},(lk P τ ops l s k).holds Q→∃ s',fH P τ.pf ops l s.den s'.den∧(k s').holds Q
 | [],s,k,h=>⟨s,rfl,h⟩
 | o::l,s,k,h=>by
  obtain⟨v,H',h1,g⟩:=VT d h;obtain⟨s',q,u⟩:=xW d g;exact⟨s',⟨v,ao H',h1,q⟩,u⟩
def Acc.le(a b:Acc):Prop:=(∀ x∈a.R,x∈b.R)∧∀ x∈a.W,x∈b.W
def Acc.ok(ops:Array Oper)(j:Nat)(a:Acc):Prop:=(∀ x∈a.R,x.1<j)∧(∀ x∈a.W,x.1<j)∧qN ops a.R a.W
theorem Cr{ids:List Nat}{i:Nat}(h:uh ids i=true):i∉ids:=by
 intro hm;have:ids.any (ad i)=true:=List.any_eq_true.2 ⟨i,hm,by simp⟩;simp[uh,this]at h
theorem VU{ops:Array Oper}{j id:Nat}{a b:Acc}(ha:a.ok ops j)(h:Cj ops j id a=some b):b.ok ops (j+1)∧a.le b∧(j,id)∈b.R:=by
 unfold Cj at h;split at h
 ·rename_i g
  cases h;simp only[cR,wC,aA,kh]at g;obtain⟨h1,k,q⟩:=ha;refine⟨⟨fun x d=>?_,fun x d=>wG (k x d),fun i u hi e he=>?_,q.2⟩,⟨fun x d=>cY _ d,fun x d=>d⟩,cT⟩
  ·rcases bZ.1 d with rfl | d
   ·exact ahR _
   ·exact wG (h1 x d)
  ·rcases bZ.1 hi with y | hi
   ·cases y
    have B:=k e he;refine⟨fun v=>absurd v (by omega),fun _ hw=>?_⟩;rcases g e he with h|h
    ·rw[hw]at h; cases h
    ·exact⟨Cr h.1,h.2⟩
   ·exact q.1 i u hi e he
 ·cases h
theorem J0{ops:Array Oper}{j n:Nat}{T:List Nat}{a b:Acc}(ha:a.ok ops j)(h:xQ ops j T n a=some b):b.ok ops (j+1)∧a.le b∧(j,T,n)∈b.W:=by
 unfold xQ at h;split at h
 ·rename_i M
  split at h
  case h_2=>cases h
  rename_i y;cases h;simp only[cR,wC,aA,kh]at M y;obtain⟨h1,I,J⟩:=ha;refine⟨⟨fun x k=>wG (h1 x k),fun x k=>?_,fun i B hi e he=>?_,fun e he e' d g q id hid=>?_,fun e he e' d g q id hid=>?_⟩,⟨fun x k=>k,fun x k=>cY _ k⟩,cT⟩
  ·rcases bZ.1 k with rfl | k
   ·exact ahR _
   ·exact wG (I x k)
  ·rcases bZ.1 he with v | he
   ·subst v
    have g:=h1 (i,B) hi;refine⟨fun _ hw=>?_,fun N=>absurd N (by simp only at N g; omega)⟩;rcases M (i,B) hi with h|h
    ·simp only at hw h; rw[hw]at h; cases h
    ·exact⟨Cr h.1,h.2⟩
   ·exact J.1 i B hi e he
  ·rcases bZ.1 d with v | d
   ·subst v
    rcases bZ.1 he with u|he
    ·subst u
     exact absurd g (qe _)
    ·rcases y e he with h | h
     ·simp only at q h
      rw[q]at h;cases h
     ·have O := h.1 id hid
      exact⟨Cr O.1,O.2⟩
   ·rcases bZ.1 he with u | he
    ·subst u
     have U:=I e' d;exact absurd g (by simp only; omega)
    ·exact J.2.1 e he e' d g q id hid
  ·rcases bZ.1 d with v | d
   ·subst v
    rcases bZ.1 he with u|he
    ·subst u
     exact absurd g (qe _)
    ·rcases y e he with h | h
     ·simp only at q h
      rw[q]at h;cases h
     ·exact h.2 id hid
   ·rcases bZ.1 he with u | he
    ·subst u
     have U:=I e' d;exact absurd g (by simp only; omega)
    ·exact J.2.2 e he e' d g q id hid
 ·cases h
theorem Acc.um{ops:Array Oper}{j:Nat}{a:Acc}(h:a.ok ops j):a.ok ops (j+1):=⟨fun x d=>wG (h.1 x d),fun x d=>wG (h.2.1 x d),h.2.2⟩
theorem Acc.le_refl(a:Acc):a.le a:=⟨fun _ h=>h,fun _ h=>h⟩
theorem Acc.le_trans{a b c:Acc}(h:a.le b)(h':b.le c):a.le c:=⟨fun x d=>h'.1 x (h.1 x d),fun x d=>h'.2 x (h.2 x d)⟩
def Acc.only(j:Nat)(a b:Acc):Prop:=∀ x∈b.W,x.1<j→x∈a.W
theorem VV{ops:Array Oper}{j:Nat}{o:Oper}{s:ar}{a b:Acc}(ha:a.ok ops j)(h:Ck τ ops j o s a=some b) :
  b.ok ops (j+1)∧a.le b∧(cM τ.pf o.op=.read→∀ id,kB s.eval o.op=some id→(j,id)∈b.R)∧(cM τ.pf o.op=.write→(j,ju τ s.eval s.H o.op,s.H.length)∈b.W):=by
 unfold Ck at h;split at h
 ·rename_i d
  cases h;exact⟨Acc.um ha,a.le_refl,(fun h=>by rw[d]at h; cases h),(fun h=>by rw[d]at h; cases h)⟩
 ·rename_i d
  split at h
  ·rename_i id hid
   obtain⟨g1,g2,g3⟩:=VU ha h;refine⟨g1,g2,fun _ k g=>?_,(fun h=>by rw[d]at h; cases h)⟩;rw[hid]at g;cases g;exact g3
  ·rename_i hid
   cases h;refine⟨Acc.um ha,a.le_refl,fun _ k g=>?_,(fun h=>by rw[d]at h; cases h)⟩;rw[hid]at g;cases g
 ·rename_i d
  obtain⟨g1,g2,g3⟩:=J0 ha h;exact⟨g1,g2,(fun h=>by rw[d]at h; cases h),fun _=>g3⟩
theorem J1{ops:Array Oper}{j:Nat}{o:Oper}{s:ar}{v:AV}{H':List ai}{b c:Acc}(k:b.le c)(u:cM τ.pf o.op=.read→∀ id,kB s.eval o.op=some id→(j,id)∈b.R)
  (hw:cM τ.pf o.op=.write→(j,ju τ s.eval s.H o.op,s.H.length)∈b.W) (hk:cM τ.pf o.op=.write→∀ A,A∉ju τ s.eval s.H o.op→A<s.H.length→H'[A]? = s.H[A]?)
  (q:jP o.op=true→nf ops=true→cM τ.pf o.op=.write→bQ ops s.den.fr o=some true→∀ σ,xE c.W j s.den.H σ→Yields P τ.pf ops o ⟨s.den.fr,ma σ s.den.H⟩ v (ma σ (ao H'))) :
  (g:(l9 ops&&dX o.op)=false)→Step P τ.pf ops c.R c.W j o s.den v (ao H'):=by
 intro g;refine⟨fun d A y=>?_,fun d _ id hid=>k.1 _ (u d id (by rw[←ar.kE]; exact hid)),fun h1 h _=>(by rw[h1,h]at g; cases g),q⟩;have:=y _ (k.2 _ (hw d)) rfl;have h:=hk d A this.1 this.2;show (ao H')[A]? = (ao s.H)[A]?
 simp only[ao,cd,h]
theorem step_skip{ops:Array Oper}{j:Nat}{o:Oper}{s:ar}{c:Acc}(hw:bQ ops s.fr o=some false):Step P τ.pf ops c.R c.W j o s.den (.tuple []) (ao s.H) :=
 ⟨fun _ _ _=>rfl,fun _ h=>(by rw[show s.den.fr=s.fr from rfl,hw]at h; cases h),fun _ _ _=>⟨rfl,fun _ h=>(h rfl).elim⟩,fun _ _ _ h=>(by rw[show s.den.fr=s.fr from rfl,hw]at h; cases h)⟩
theorem J2(g:al P τ){f:FuncId}{args:List AV}{v:AV}(k:τ.N f=true):∀(σ:List (Nat × ab)) (H H':List ai),τ.W f args H=some (true,v,H')→(∀ p∈σ,p.1<H.length∧p.1∉τ.C f args H) →
  ∃ H2 d,ao H2=ma σ (ao H)∧ao d=ma σ (ao H')∧τ.W f args H2=some (true,v,d)
 | [],H,H',h,_=>⟨H,H',rfl,rfl,h⟩
 | p::σ,H,H',h,u=>by
  obtain⟨y,a2⟩:=u p cT;obtain⟨h1,B⟩:=g.F.2 f k args H true v H' h p.1 (.raw p.2) y a2;obtain⟨H2,d,I,J,M⟩:=J2 g k σ _ _ h1 fun q O=>by
   obtain⟨b1,U⟩:=u q (cY _ O);rw[B];exact⟨by simpa using b1,U⟩
  refine⟨H2,d,?_,?_,M⟩
  ·rw [I, df]
   rfl
  ·rw [J, df]
   rfl
theorem VW{o:Oper}{s:ar}{k:AV→List ai→Tree}{f:FuncId}{args:List AV}{b:Bool}{v:AV}{H':List ai}(d:jP o.op=true)(h:cM τ.pf o.op=.write)(g:gU s.eval o.op=some (f,args))(u:τ.W f args s.H=some (b,v,H')) :
  nu P τ o s k=.side b (k v H'):=by
 unfold jP at d;split at d
 ·rename_i c q
  unfold nu;rw[q]at h g⊢;simp only[h,g,u]
 ·cases d
theorem J3{z:List Value}:∀{H:List ai} {i j:Nat} {ks:List Kd} {g:List G},pe z H i=some (j,ks,g)→i≤j∧H[j-i]? = some (.vec ks 0 [])∧qZ ks z=some g
 | [],_,_,_,_,h=>by cases h
 | o::H,i,j,ks,g,h=>by
  have next:pe z H (i+1)=some (j,ks,g)→i≤j∧(o::H)[j-i]? = some (.vec ks 0 [])∧qZ ks z=some g:=by
   intro h;obtain⟨h1,d,k⟩:=J3 h;refine⟨by omega,?_,k⟩;rw[show j-i=(j-(i+1))+1 from by omega];simpa using d
  unfold pe at h;split at h
  ·cases ‹_=_›
  ·rename_i u rows' H' v e
   cases e;split at h
   ·rename_i y q
    split at h
    ·cases h
     exact⟨aG _,by simp,q⟩
    ·exact next h
   ·exact next h
  ·rename_i e
   cases e;exact next h
theorem J4:∀{H:List ai} {i j:Nat},ui H i=some j→i≤j∧H[j-i]? = some (.raw .dL)
 | [],_,_,h=>by cases h
 | o::H,i,j,h=>by
  have next:ui H (i+1)=some j→i≤j∧(o::H)[j-i]? = some (.raw .dL):=by
   intro h;obtain⟨h1,d⟩:=J4 h;refine⟨by omega,?_⟩;rw[show j-i=(j-(i+1))+1 from by omega];simpa using d
  unfold ui at h;split at h
  ·cases ‹_=_›
  ·rename_i e
   cases e;cases h;exact⟨aG _,by simp⟩
  ·rename_i e
   cases e;exact next h
theorem VX{op:Op}{H H':List ai}{id:Nat}{v:AV}(h:Cl P op H=some (id,v,H')) :
  ((∃ t m,op=.alloc t∧mY P t id m (ao H)=some (v,ao H'))∨∃ t,op=.makeMap t none∧oQ id (ao H)=some (v,ao H'))∧H'.length=H.length∧∀ A,A≠id→H'[A]? = H[A]? := by
 unfold Cl at h;split at h
 ·rename_i t
  split at h
  ·rename_i z y
   split at h
   ·rename_i i ks g q
    cases h;obtain⟨_,d,B⟩:=J3 q;rw[fZ]at d;have e:=JJ B;refine⟨.inl ⟨t,mZ ks,rfl,?_⟩,by simp,fun A u=>aU (Ne.symm u)⟩;have hk:ks.length=z.length:=by
     have:=congrArg HB e;simpa[qf,xc]using this
    rw[I8 (mZ ks) y (k:=ks.length) (by rw[bq d]; rfl) hk,df,←e];rfl
   ·cases h
  ·cases h
 ·rename_i t
  split at h
  ·rename_i K V _
   split at h
   ·rename_i i q
    cases h;obtain⟨_,d⟩:=J4 q;rw[fZ]at d;refine⟨.inr ⟨t,rfl,?_⟩,by simp,fun A u=>aU (Ne.symm u)⟩;rw[IC (by rw[bq d]; rfl),df];rfl
   ·cases h
  ·cases h
 ·cases h
theorem Cs(y:al P τ){ops:Array Oper}{j:Nat}{o:Oper}{s:ar}{a:Acc}{k:ar→Acc→Tree}{Q:bU→ar→Prop}(hw:bQ ops s.fr o=some true)(ha:a.ok ops j)(h:(uj P τ ops j o s a k).holds Q) :
  ∃ v H' b,Yields P τ.pf ops o s.den v (ao H')∧b.ok ops (j+1)∧a.le b∧(∀ c,b.le c→Step P τ.pf ops c.R c.W j o s.den v (ao H'))∧(k (s.put o.dst v H') b).holds Q:=by
 unfold uj at h;split at h
 ·rename_i g
  simp only[aA]at g;split at h
  ·rename_i id v H' hal
   split at h
   ·rename_i b hb
    obtain⟨hnew,hlen,hkeep⟩:=VX hal;obtain⟨g1,g2,g3⟩:=J0 ha hb;refine⟨v,H',b,?_,g1,g2,fun c q=>⟨fun _ A O=>?_,fun hr=>(by rw[l_ g.2]at hr; cases hr),fun _ _ _=>⟨?_,fun B hne=>?_⟩,fun hcv=>(by rw[lg g.2]at hcv; cases hcv)⟩,h⟩
    ·unfold Yields
     rw[show s.den.fr=s.fr from rfl,hw];simp only[l_ g.2];rcases hnew with⟨t,m,N,U⟩|⟨t,N,U⟩
     ·exact .inr (.inl (.inl ⟨t,id,m,N,U⟩))
     ·exact .inr (.inl (.inr ⟨t,id,N,U⟩))
    ·have := (O _ (q.2 _ g3) rfl).1
     show (ao H')[A]? = (ao s.H)[A]?
     simp only[ao,cd,hkeep A (by simpa using this)]
    ·show (ao H').length = (ao s.H).length
     simp only[en,hlen]
    ·refine ⟨_, q.2 _ g3, rfl, ?_⟩
     have e:B=id:=AI fun e=>hne (by
      show (ao H')[B]? = (ao s.H)[B]?
      simp only[ao,cd,hkeep B e])
     rw[e];exact List.mem_singleton.2 rfl
   ·exact h.elim
  ·exact h.elim
 ·rename_i g
  split at h
  ·exact h.elim
  rename_i hfc;split at h
  ·rename_i b hb
   obtain⟨g1,g2,g3,g4⟩:=VV ha hb;by_cases u:(nf ops&&jP o.op)=true∧cM τ.pf o.op=.write
   ·obtain ⟨u, I⟩ := u
    have hca2:=u;simp only[aA]at hca2;have d:Cm τ o s=true:=by
     rw[u]at hfc;simpa using hfc
    unfold Cm at d;rw[I]at d;simp only[]at d;split at d
    case h_2=>cases d
    rename_i f args M;split at d
    case h_2=>cases d
    rename_i hN;obtain⟨⟨b0,v,H'⟩,J⟩:=Option.isSome_iff_exists.1 d;rw[VW hca2.2 I M J]at h;simp only[Tree.holds]at h;obtain⟨rfl,h⟩:=h;obtain⟨hbody,hcall⟩:=y.W f args s.H true v H' J rfl;have htch:ju τ s.eval s.H o.op=τ.C f args s.H:=by
     unfold ju;rw[M]
    have hcal':∀ H2,gU (St.eval ⟨s.den.fr,H2⟩) o.op=some (f,args):=fun H2=>by
     have e:St.eval ⟨s.den.fr,H2⟩=s.eval:=by funext x; cases x<;>rfl
     rw[e];exact M
    have yl:∀ H2 V:List ab,dB P f args H2 v V→Yields P τ.pf ops o ⟨s.den.fr,H2⟩ v V:=fun H2 V hx=>by
     unfold Yields;rw[show (St.mk s.den.fr H2).fr=s.fr from rfl,hw];simp only[I];exact .inl (.inr ⟨f,args,hcal' H2,hbody,hx⟩)
    refine⟨v,H',b,yl _ _ hcall,g1,g2,fun c q=>J1 q g3 g4 (fun _ A O hlt=>?_) (fun _ _ _ _ σ hσ=>?_) (by simpa using g),h⟩
    ·exact y.C f args s.H true v H' J A (by rw[←htch]; exact O) hlt
    ·obtain ⟨H2,H2',q1,q2,q3⟩:=J2 y hN σ s.H H' J (fun p hp=>by
      obtain⟨hk,_⟩:=hσ p hp;obtain⟨k1,k2⟩:=hk _ (q.2 _ (g4 I)) rfl;rw[htch]at k1;exact⟨k2,k1⟩)
     rw[←q2,show ma σ s.den.H=ao H2 from q1.symm];exact yl _ _ (y.W f args H2 true v H2' q3 rfl).2
   ·obtain ⟨v, H', q1, q2, q3⟩ := xU y hw h
    exact⟨v,H',b,q1,g1,g2,fun c q=>J1 q g3 g4 q2 (fun h1 h2 h3=>absurd ⟨by rw[h1,h2]; rfl,h3⟩ u) (by simpa using g),q3⟩
  ·exact h.elim
theorem VY(q:al P τ){ops:Array Oper}{j:Nat}{o:Oper}{s:ar}{a:Acc}{k:ar→Acc→Tree}{Q:bU→ar→Prop}(ha:a.ok ops j)(h:(Cn P τ ops j o s a k).holds Q) :
  ∃ v H' b,Yields P τ.pf ops o s.den v (ao H')∧b.ok ops (j+1)∧a.le b∧(∀ c,b.le c→Step P τ.pf ops c.R c.W j o s.den v (ao H'))∧(k (s.put o.dst v H') b).holds Q:=by
 have skip:bQ ops s.fr o=some false→Yields P τ.pf ops o s.den (.tuple []) (ao s.H):=by
  intro hw;unfold Yields;rw[show s.den.fr=s.fr from rfl,hw];exact⟨rfl,rfl⟩
 unfold Cn at h;split at h
 ·exact h.elim
 ·rename_i hw
  exact⟨_,_,a,skip (Cq hw),Acc.um ha,a.le_refl,fun _ _=>step_skip (Cq hw),h⟩
 ·rename_i hw
  exact Cs q (JZ hw) ha h
 ·rename_i t b want hw
  obtain⟨h1,g⟩:=JY hw;simp only[Tree.holds]at h;cases b with
  | true =>
   have d:=h.1 rfl;rw[xV h1]at d;cases want with
   |true=>exact Cs q g ha d
   |false=>exact⟨_,_,a,skip g,Acc.um ha,a.le_refl,fun _ _=>step_skip g,d⟩
  | false =>
   have d:=h.2 rfl;rw[xV h1]at d;cases want with
   |true=>exact⟨_,_,a,skip g,Acc.um ha,a.le_refl,fun _ _=>step_skip g,d⟩
   |false=>exact Cs q g ha d
theorem J5(d:al P τ){ops:Array Oper}{Q:bU→ar→Prop}:∀{l:List Oper} {j:Nat} {s:ar} {a:Acc} {k:ar→Tree},a.ok ops j→(Co P τ ops l j s a k).holds Q →
  ∃ s' b,qN ops b.R b.W∧a.le b∧qL P τ.pf ops b.R b.W l j s.den s'.den∧(k s').holds Q
 | [],j,s,a,k,ha,h=>⟨s,a,ha.2.2,a.le_refl,rfl,h⟩
 | o::l,j,s,a,k,ha,h=>by
  obtain⟨v,H',b,g1,g2,g3,g4,g5⟩:=VY d ha h;obtain⟨s',c,q,g,u,y⟩:=J5 d g2 g5;exact⟨s',c,q,Acc.le_trans g3 g,⟨v,ao H',g1,g4 c g,u⟩,y⟩
theorem VZ{m id:Nat}{ops:Array Oper}{s s':ar}{b:Acc}(hm:P.follows .mixedOrders=true)(d:qM τ.pf ops=true)(g:qN ops b.R b.W)(h:qL P τ.pf ops b.R b.W ops.toList 0 s.den s'.den) :
  c5 P m (.region id ops true) s.den .normal s'.den:=fun ro _ _ _ k=>U2 hm d g k h (fun _ _ q=>⟨rfl,q.toM⟩) ro
theorem uo{K:bU→ar→Tree}{Q:bU→ar→Prop}:∀{t:Tree},(t.bind K).holds Q→t.holds fun x s=>(K x s).holds Q
 |.fail,h=>h
 |.done _ _,h=>h
 |.ask _ _ _,h=>⟨fun hb=>uo (h.1 hb),fun hb=>uo (h.2 hb)⟩
 |.side _ _,h=>⟨h.1,uo h.2⟩
theorem J6{m:Nat}{c:Code}{Q:bU→ar→Prop}{body:ar→(bU→ar→Tree)→Tree}
  (hb:∀ s K,(body s K).holds Q→∃ x s',c5 P m c s.den x s'.den∧(K x s').holds Q):∀(n:Nat) (s:ar) (K:bU→ar→Tree),(xR body n s K).holds Q →
  ∃ x s',jO P m c s.den x s'.den∧(K x s').holds Q
 |0,_,_,h=>h.elim
 | n+1,s,K,h=>by
  simp only[xR]at h;obtain⟨x,s1,h1,d⟩:=hb _ _ h;cases x with
  | normal =>
   obtain⟨y,s2,g,k⟩:=J6 hb n s1 K d;exact⟨y,s2,.next h1 g,k⟩
  |exit i=>exact⟨_,s1,.stop h1 (by simp),d⟩
  |ret=>exact⟨_,s1,.stop h1 (by simp),d⟩
theorem gG(hm:P.follows .mixedOrders=true)(q:al P τ){m:Nat}{L:LT}{Q:bU→ar→Prop}:∀(c:Code) (s:ar) (K:bU→ar→Tree),
  ax P m L c→(dZ P τ L c s K).holds Q→∃ x s',c5 P m c s.den x s'.den∧(K x s').holds Q
 |.skip,s,K,_,h=>⟨_,_,UB,h⟩
 | .region id ops draw,s,K,k,h=>by
  simp only[dZ]at h;split at h
  ·rename_i B
   split at h
   ·rename_i V
    simp only[Tree.holds]at h;have U:draw=true:=by
     cases draw with
     |true=>rfl
     |false=>simp at B
    subst U;obtain⟨s',b,h1,_,d,u⟩:=J5 q (a:=⟨[],[]⟩) ⟨by simp,by simp,⟨fun i id hi=>(nomatch hi),fun e he=>(nomatch he),fun e he=>(nomatch he)⟩⟩ h.2;exact⟨_,_,qH (k.2.1 id s h.1) (VZ hm V h1 d),u⟩
   ·exact h.elim
  ·rename_i O
   simp only[Tree.holds]at h;obtain⟨s',h1,d⟩:=xW q h.2;refine⟨_,_,qH (k.2.1 id s h.1) (UE hm (fun B=>?_) h1),d⟩;rw[B]at O;simpa using O
 | .seq a b,s,K,k,h=>by
  simp only[dZ]at h;have I:ax P m L a:=k.sub (fun p g=>by simp only[bM]; exact cS.2 (.inl g)) (fun p g=>by simp only[bH]; exact cS.2 (.inl g));have J:ax P m L b:=k.sub (fun p g=>by simp only[bM]; exact cS.2 (.inr g)) (fun p g=>by simp only[bH]; exact cS.2 (.inr (cS.2 (.inr g))));obtain⟨x,s1,h1,d⟩:=gG hm q a s _ I h;cases x with
  | normal =>
   simp only[JK]at d;split at d
   ·rename_i t v
    unfold JN at v;split at v
    ·rename_i i hi
     obtain⟨y,s2,u,N⟩:=k.2.2 i b (by simp only[bH,hi]; exact cS.2 (.inr (cS.2 (.inl (cT))))) s1 t v _ (uo d);exact⟨y,s2,xz h1 u,N⟩
    ·cases v
   ·obtain ⟨y, s2, u, N⟩ := gG hm q b s1 K J d
    exact⟨y,s2,xz h1 u,N⟩
  |exit id=>exact⟨_,_,Jc h1 (by simp),d⟩
  |ret=>exact⟨_,_,Jc h1 (by simp),d⟩
 | .cond c a b,s,K,k,h=>by
  simp only[dZ]at h;have I:ax P m L a:=k.sub (fun p g=>by simp only[bM]; exact cS.2 (.inl g)) (fun p g=>by simp only[bH]; exact cS.2 (.inl g));have J:ax P m L b:=k.sub (fun p g=>by simp only[bM]; exact cS.2 (.inr g)) (fun p g=>by simp only[bH]; exact cS.2 (.inr g));split at h
  ·rename_i t hb
   have M:=JP hb;rw[←ar.kE]at M;simp only[Tree.holds]at h;cases t with
   | true =>
    obtain⟨x,s1,h1,d⟩:=gG hm q a s K I (h.1 rfl);exact⟨x,s1,Jd M (by simpa using h1),d⟩
   | false =>
    obtain⟨x,s1,h1,d⟩:=gG hm q b s K J (h.2 rfl);exact⟨x,s1,Jd M (by simpa using h1),d⟩
  ·exact h.elim
 | .block id c,s,K,k,h=>by
  simp only[dZ]at h;obtain⟨x,s1,h1,d⟩:=gG hm q c s _ (k.sub (fun p g=>by simpa only[bM]using g) (fun p g=>by simpa only[bH]using g)) h;refine⟨_,s1,Je h1,?_⟩;cases x with
  |normal=>exact d
  | exit i =>
   simp only[JL]at d;simp only[bU.inBlock];split
   ·rename_i e; rw[if_pos e]at d; exact d
   ·rename_i e; rw[if_neg e]at d; exact d
  |ret=>exact d
 | .loop c,s,K,k,h=>by
  simp only[dZ]at h;split at h
  ·rename_i i hi
   split at h
   ·rename_i t W
    obtain⟨x,s',h1,d⟩:=k.1 i c (by simp only[bM,hi]; exact cT) s t W _ (uo h);exact⟨x,s',Jf h1,d⟩
   ·obtain ⟨x, s', h1, d⟩ := J6 (fun s1 K1 hh => gG hm q c s1 K1 (k.sub (fun p g => by simp only [bM, hi]; exact cY _ g) (fun p g => by simpa only [bH] using g)) hh) 400 s K h
    exact⟨x,s',Jf h1,d⟩
  ·exact h.elim
 |.exit id,s,K,_,h=>⟨_,_,UD,h⟩
 |.ret,s,K,_,h=>⟨_,_,UC,h⟩
 |.rangeFunc ..,_,_,_,h=>by simp[dZ,Tree.holds]at h
 |.scope _,_,_,_,h=>by simp[dZ,Tree.holds]at h
 |.label _,_,_,_,h=>by simp[dZ,Tree.holds]at h
 |.goto _,_,_,_,h=>by simp[dZ,Tree.holds]at h
 |.refuse _,_,_,_,h=>by simp[dZ,Tree.holds]at h
end sound
end Go.AL

namespace Go.AL
open Go
variable [Dr]
inductive iQ where
 |fail
 |ret (v:AV) (H:List ai)
 |ask (b:Bool) (t e:iQ)
 |side (b:Bool) (t:iQ)
def iQ.holds(Q:AV→List ai→Prop):iQ→Prop
 |.fail=>False
 |.ret v H=>Q v H
 |.ask b t e=>(b=true→t.holds Q)∧(b=false→e.holds Q)
 |.side b t=>b=true∧t.holds Q
def iQ.two:iQ→Option (AV × List ai)
 |.fail=>none
 |.ret v H=>some (v,H)
 |.ask b t e=>bif b then t.two else e.two
 |.side b t=>bif b then t.two else none
def iQ.val:iQ→Option AV
 |.fail=>none
 |.ret v _=>some v
 |.ask b t e=>bif b then t.val else e.val
 |.side b t=>bif b then t.val else none
theorem xX:∀{t:iQ} {v:AV},t.val=some v→t.holds fun u _=>u=v
 |.fail,_,h=>by cases h
 |.ret u H,_,h=>by simp only[iQ.val,aY]at h; exact h
 | .ask b t e,v,h=>by
  cases b with
  |true=>exact⟨fun _=>xX (t:=t) (v:=v) h,fun h=>by cases h⟩
  |false=>exact⟨fun h=>(nomatch h),fun _=>xX (t:=e) (v:=v) h⟩
 | .side b t,v,h=>by
  cases b with
  |true=>exact And.intro rfl (xX (t:=t) (v:=v) h)
  |false=>cases h
def Cu(H:List ai):Option (List Kd)→AV→Option (Bool × AV)
 |none,a=>some (true,a)
 | some ks,a=>match a with
  |.nils | .lit (.slice none 0 0)=>some (true,.listF ks [])
  |.listF d rows=>if Kd.gj ks d then some (true,.listF ks rows) else none
  | .list w rows=>match bh ks rows with
   |some gs=>if w=ks.length then some (true,.listF ks gs) else none
   |none=>none
  | .vec w id af off n=>match H[id]? with
   |some (.vec d v rows)=>if af=v∧d.length=w∧off=0∧Kd.gj ks d=true then some (ad n rows.length,.listF ks rows) else none
   |_=>none
  |_=>none
def kI(H:List ai):List (Option (List Kd))→List AV→Option (Bool × List AV)
 |_,[]=>some (true,[])
 | [],a::as=>match kI H [] as with
  |some (b,d)=>some (b,a::d)
  |none=>none
 | c::cs,a::as=>match Cu H c a,kI H cs as with
  |some (b,g),some (h,d)=>some (b&&h,g::d)
  |_,_=>none
theorem V3{E:Env}(HE:au E){H:List ai}(hH:E.H=ao H){k:Option (List Kd)}{a g:AV}{b:Bool}{c:Value}(h:Cu H k a=some (b,g))(hb:b=true)(u:g.closed=true)(d:rel E a c) :
  rel (E.bare E.w) g c:=by
 unfold Cu at h;split at h
 ·cases h; exact dJ (nv E) _ u d
 ·rename_i ks
  split at h
  ·cases h
   simp only[rel,dS,G.rows]at d⊢;obtain⟨base,rfl⟩:=d;exact⟨base,0,rfl,aG _,.inl trivial⟩
  ·cases h
   simp only[rel,dS,G.rows]at d⊢;subst d;exact⟨none,0,rfl,aG _,.inl trivial⟩
  ·split at h
   ·rename_i v
    cases h;rw[Kd.ix v];exact dJ (nv E) _ rfl d
   ·cases h
  ·split at h
   ·rename_i gs y
    split at h
    ·rename_i hw
     cases h;rw[iI,o9 y];subst hw;exact dJ (nv E) _ rfl d
    ·cases h
   ·cases h
  ·split at h
   ·rename_i hid
    split at h
    ·rename_i B
     obtain⟨rfl,I,rfl,q⟩:=B;simp only[aY,bg]at h;obtain⟨h1,rfl⟩:=h;subst hb;have q:=Kd.ix q;subst q;exact JR HE hH hid I (bu h1) d
    ·cases h
   ·cases h
  ·cases h
theorem Cv{E:Env}(HE:au E){H:List ai}(hH:E.H=ao H):∀{ks:List (Option (List Kd))} {as q:List AV} {b:Bool} {cs:List Value},kI H ks as=some (b,q)→b=true →
  AV.br q=true→ah E as cs→ah (E.bare E.w) q cs
 | ks,[],q,b,cs,h,_,_,d=>by
  cases ks<;>simp only[kI]at h<;>cases h<;>(cases cs with
   |nil=>simp[ah]
   |cons _ _=>simp[ah]at d)
 | [],a::as,q,b,cs,h,hb,g,d=>by
  cases cs with
  |nil=>simp[ah]at d
  | cons c cs =>
   simp only[kI]at h;simp only[ah]at d;split at h
   ·rename_i b1 u h1
    cases h;simp only[AV.br,aA]at g;simp only[ah];exact⟨dJ (nv E) _ g.1 d.1,Cv HE hH h1 hb g.2 d.2⟩
   ·cases h
 | k::ks,a::as,q,b,cs,h,hb,g,d=>by
  cases cs with
  |nil=>simp[ah]at d
  | cons c cs =>
   simp only[kI]at h;simp only[ah]at d;split at h
   ·rename_i b0 a0 b1 u h0 h1
    simp only[aY,bg]at h;obtain⟨v,rfl⟩:=h;subst v;simp only[aA]at hb;simp only[AV.br,aA]at g;simp only[ah];exact⟨V3 HE hH h0 hb.1 g.1 d.1,Cv HE hH h1 hb.2 g.2 d.2⟩
   ·cases h
def Tree.toR(P:Program)(rs:List ResultVar) (ks:List (Option (List Kd))):Tree→iQ
 |.fail=>.fail
 | .done x s=>match x with
  |.exit _=>.fail
  | _=>match gV P s.den rs with
   | some vs=>match kI s.H ks vs with
    |some (b,d)=>.side b (.ret (dc d) s.H)
    |none=>.fail
   |none=>.fail
 |.ask b t e=>.ask b (t.toR P rs ks) (e.toR P rs ks)
 |.side b t=>.side b (t.toR P rs ks)
theorem toR_holds{P:Program}{rs:List ResultVar}{ks:List (Option (List Kd))}{Q:AV→List ai→Prop}:∀{t:Tree},(t.toR P rs ks).holds Q →
  t.holds fun x s=>(x=.normal∨x=.ret)∧∃ vs d,gV P s.den rs=some vs∧kI s.H ks vs=some (true,d)∧Q (dc d) s.H
 |.fail,h=>h
 | .done x s,h=>by
  have key:∀ y,(y=bU.normal∨y=bU.ret)→(match gV P s.den rs with
   | some vs=>match kI s.H ks vs with
    |some (b,d)=>iQ.side b (.ret (dc d) s.H)
    |none=>.fail
   |none=>.fail).holds Q→(y=.normal∨y=.ret)∧∃ vs d,gV P s.den rs=some vs∧kI s.H ks vs=some (true,d)∧Q (dc d) s.H:=by
   intro y g h;split at h
   ·rename_i vs k
    split at h
    ·rename_i b d q
     simp only[iQ.holds]at h;obtain⟨rfl,h⟩:=h;exact⟨g,vs,d,k,q,h⟩
    ·exact h.elim
   ·exact h.elim
  simp only[Tree.toR]at h;simp only[Tree.holds];cases x with
  |exit i=>exact h.elim
  |normal=>exact key _ (.inl rfl) h
  |ret=>exact key _ (.inr rfl) h
 |.ask _ _ _,h=>⟨fun hb=>toR_holds (h.1 hb),fun hb=>toR_holds (h.2 hb)⟩
 |.side _ _,h=>⟨h.1,toR_holds h.2⟩
def xY(P:Program)(τ:ak)(L:LT)(fn:Func) (ks:List (Option (List Kd))) (args:List AV) (H:List ai):iQ :=
 match fn.body with
 |some c=>(dZ P τ L c ⟨iN args fn.ntmps,H⟩ .done).toR P fn.results.toList ks
 |none=>.fail
theorem J7{E:Env}{vs:List AV}{us:List Value}(h:ah E vs us):rel E (dc vs) (if h:us.toArray.size=1 then us.toArray[0] else .tuple us.toArray):=by
 cases us with
 | nil =>
  cases vs with
  |nil=>simp[dc,rel,ah]
  |cons _ _=>simp[ah]at h
 | cons u us =>
  cases us with
  | nil =>
   cases vs with
   |nil=>simp[ah]at h
   | cons v vs =>
    cases vs with
    |nil=>simp only[ah]at h; simpa[dc]using h.1
    |cons _ _=>simp[ah]at h
  | cons d us =>
   cases vs with
   |nil=>simp[ah]at h
   | cons v vs =>
    cases vs with
    |nil=>simp[ah]at h
    | cons v2 vs =>
     simp only[dc,rel];exact⟨(u::d::us).toArray,by simp,h⟩
theorem V4{P:Program}{f:FuncId}{fn:Func}{c:Code}{args:List AV}{x:bU}{s':ar}{ks:List (Option (List Kd))}{vs d:List AV}
  (hf:P.funcs[f]? = some fn) (hb:fn.body=some c) (hs:c5 P 0 c ⟨iN args fn.ntmps,[]⟩ x s'.den) (g:x=.normal∨x=.ret) (hr:gV P s'.den fn.results.toList=some vs)
  (hc:kI s'.H ks vs=some (true,d)) (ha:AV.br args=true) (J:AV.br d=true):cL P f args (dc d):=by
 intro H E cargs hH HE M
 let E0:Env:={ w:=E.w,H:=[],loc:=[],X:=(E.X.or E.own).re dI }
 have N:∀ b,¬ E0.own b:=by rintro b (⟨id,c,hid⟩|⟨l,k,c,hk⟩); simp[E0]at hid; simp[E0,dI]at hk
 have hC:E.bG E0:=⟨fun b hb=>⟨⟨hb.1,N b,fun g=>g.elim hb.2.2 hb.2.1⟩,rfl⟩⟩
 have I:au E0:=by
  refine⟨rfl,?_,?_,?_,?_,HE.eR.bG hC,fun l k l' k' b m n hk=>by simp[E0,dI]at hk,fun i b m l k n hi=>by simp[E0]at hi,fun l k b m hk=>by simp[E0,dI]at hk,fun i j o o' l hi=>by simp[E0]at hi,fun l _ k q hk=>by simp[E0,dI]at hk⟩
  ·intro i j b m n hi; simp[E0]at hi
  ·intro i b m hi; simp[E0]at hi
  ·rintro b (g | ho)
   ·exact HE.X b g
   ·exact(HE.wS ho).1
  ·intro i o hi; simp[E0]at hi
 refine BO hf hb ?_;have U:=qJ I;have V:=l8 U _ (mR hC args ha M);have W:bP ⟨iN args fn.ntmps,[]⟩ { E0 with X:=⟨E0.X.x,fun _=>False,E0.X.r⟩ } { tmps:=cargs++Array.replicate (fn.ntmps-cargs.size) undef,defers:=[] }:=by
  refine⟨rfl,?_,oK _ _,I.cH U⟩;simp only[iN,Array.toList_append,Array.toList_replicate];refine jL V ?_;have:=fN M;have e:args.length=cargs.size:=by simpa using this
  rw[e];have:=tH (E:={ E0 with X:=⟨E0.X.x,fun _=>False,E0.X.r⟩ }) (bL (fn.ntmps-cargs.size) undef);simpa using this
 refine wpIn_mono (hs none (BL _) { E0 with X:=⟨E0.X.x,fun _=>False,E0.X.r⟩ } _ W) fun e a1 w0 ⟨h3,loc',X',y,B⟩=>?_;refine⟨by subst h3; rcases g with rfl|rfl; exact .inl rfl; exact .inr rfl,X',y.defers,fun u k1 k2 k3=>?_⟩;obtain⟨y,B⟩:=BP I y B k1 k2 k3;obtain⟨us,g1,g2⟩:=xB y fn.results.toList vs hr;have hres:(results fn a1.tmps).run P u=.ok (if h:us.toArray.size=1 then us.toArray[0] else .tuple us.toArray) u:=by
  rw[xC];simp only[Sem.run_bind];rw[Array.mapM_eq_mapM_toList,Sem.run_map,g1];rfl
 have g3:=Cv y.heap rfl hc rfl J g2;have g4:=J7 g3;have O:Ext E.w u:=⟨B.size,fun b hb=>B.same b hb (N b),B.env⟩
 have hcl:(dc d).closed=true:=by
  cases d with
  |nil=>rfl
  | cons v vs =>
   cases vs with
   |nil=>simpa[dc,AV.br]using J
   |cons v2 vs=>simpa only[dc,AV.closed]using J
 have g5:rel { E with w:=u } (dc d) (if h:us.toArray.size=1 then us.toArray[0] else .tuple us.toArray) :=
  dJ (E:=({ w:=u,H:=ao s'.H,loc:=loc',X:=E0.X.re X'.r }:Env).bare u) (E':={ E with w:=u }) ⟨fun b hb=>⟨⟨hb.1,fun ho=>hb.2.2 (Or.inr ho),fun g=>hb.2.2 (Or.inl g)⟩,rfl⟩⟩ _ hcl g4
 refine⟨_,hres,_,dc d,H,rfl,⟨rfl,rfl⟩,E.loc,E.X.r,?_,?_,?_⟩
 ·rw[←hH]; exact g5
 ·rw[←hH]; exact HE.ext O
 ·rw[←hH]; exact Env.iJ O
theorem V5{vs:List AV}{v:AV}(h:dc vs=v)(d:v.closed=true):AV.br vs=true:=by
 subst h;cases vs with
 |nil=>rfl
 | cons v vs =>
  cases vs with
  |nil=>simpa[dc,AV.br]using d
  |cons v2 vs=>simpa only[dc,AV.closed]using d
theorem dy{P:Program}{τ:ak}{L:LT}(hm:P.follows .mixedOrders=true)(g:al P τ){f:FuncId}{fn:Func} (ks:List (Option (List Kd))) {args:List AV} {v:AV}
  (k:∀ c,fn.body=some c→ax P 0 L c)
  (q:P.funcs[f]? = some fn) (ha:AV.br args=true) (u:v.closed=true) (h:(xY P τ L fn ks args []).val=some v):cL P f args v:=by
 have h:=xX h;unfold xY at h;split at h
 ·rename_i c hb
  obtain⟨x,s',h1,y,vs,J,B,I,d⟩:=gG hm g c _ _ (k c hb) (toR_holds h);rw[←d];exact V4 q hb h1 y B I ha (V5 d u)
 ·exact h.elim
end Go.AL

namespace Go.AL
open Go
variable [Dr]
def J8(ms:List Nat):ak:={ pf:=fun g=>ms.any fun t=>ad g (t+1000000),T:=fun _ _=>none,W:=fun _ _ _=>none,C:=fun _ _ _=>[],U:=fun _=>false }
theorem V6(P:Program)(ms:List Nat):al P (J8 ms):=⟨fun _ _ _ _ h=>(nomatch h),fun _ _ _ _ _ _ h=>(nomatch h),fun _ _ _ _ _ _ h=>(nomatch h),fun _ _ _ _ h=>(nomatch h),fun _ _ _ _=>⟨rfl,rfl⟩,fun _ h=>(nomatch h)⟩
def ak.add(τ:ak)(f:FuncId)(c:List AV→Option (Bool × AV)):ak where
 pf g:=match ad g f with
  |true=>true
  |false=>τ.pf g
 T g args:=match ad g f with
  |true=>c args
  |false=>τ.T g args
 W:=τ.W
 C:=τ.C
 I:=τ.I
 N:=τ.N
 U:=τ.U
theorem al.add{P:Program}{τ:ak}(h:al P τ){f:FuncId}{c:List AV→Option (Bool × AV)}(hb:eS P f=true)(q:∀ args b v,c args=some (b,v)→b=true→cL P f args v) :
  al P (τ.add f c):=by
 refine⟨fun g args b v d k=>?_,h.W,h.C,h.I,h.F⟩;simp only[ak.add]at d;split at d
 ·rename_i e
  have e:=bu e;subst e;exact⟨hb,q args b v d k⟩
 ·exact h.T g args b v d k
def ay:LT:=⟨fun _ _=>none,fun _ s=>(true,s),fun _ _=>none⟩
theorem aN(P:Program)(m:Nat)(c:Code):ax P m ay c:=⟨fun _ _ _ _ _ h=>(nomatch h),fun _ _ _=>bx.refl _,fun _ _ _ _ _ h=>(nomatch h)⟩
def ak.inline(P:Program)(τ:ak)(f:FuncId)(fn:Func) (ks:List (Option (List Kd))):ak:=τ.add f fun args =>
 match (xY P τ ay fn ks args []).val with
 | some v=>match AV.br args&&v.closed with
  |true=>some (true,v)
  |false=>none
 |none=>none
theorem al.inline{P:Program}{τ:ak}(h:al P τ)(hm:P.follows .mixedOrders=true){f:FuncId}{fn:Func}(k:P.funcs[f]? = some fn)(hb:eS P f=true) (ks:List (Option (List Kd))) :
  al P (τ.inline P f fn ks):=h.add hb fun args b v d _=>by
 split at d
 ·rename_i u hu
  split at d
  ·rename_i g
   simp only[aA]at g;cases d;exact dy hm h ks (fun _ _=>aN _ _ _) k g.1 g.2 hu
  ·cases d
 ·cases d
abbrev aS(s:ByteArray):AV:=.lit (.string s)
end Go.AL

namespace Go.AL
open Go
variable [Dr]
def uq(slot:Nat)(ks:List Kd)(s:ar):ar:=⟨s.fr.set slot (.vec ks.length s.H.length 0 0 0),s.H++[.vec ks 0 []]⟩
def isNil:AV→Bool
 |.nils | .lit (.slice none 0 0)=>true
 |_=>false
theorem J9{E:Env}{a:AV}{c:Value}(h:isNil a=true)(d:rel E a c):∃ base,c=.slice base 0 0:=by
 unfold isNil at h;split at h
 ·simpa only[rel]using d
 ·simp only[rel]at d; exact⟨none,d⟩
 ·cases h
theorem J_{m:Nat}{slot:Nat}{ks:List Kd}{s:ar}(h:isNil (s.fr.getD slot .undef)=true):bx m s.den (uq slot ks s).den:=fun E a d=>by
 have hH:E.H=ao s.H:=d.H;have hlen:E.H.length=s.H.length:=by rw[hH,en]
 have hle:E.le (E.push E.w (.vec ks.length 0 []) none):=Env.jk d.heap.len (Ext.refl _) (fun b n h=>by cases h);have q:aO (E.push E.w (.vec ks.length 0 []) none) E.H.length (.vec ks.length 0 []):=by
  simp only[aO,Env.push];refine .inl ⟨?_,trivial⟩;rw[gL (by rw[d.heap.len]; exact aG _),d.heap.len,mL];rfl
 have u:au (E.push E.w (.vec ks.length 0 []) none):=au.push d.heap (Ext.refl _) (fun b n h=>by cases h) q;have k:(uq slot ks s).den.H=E.H++[.vec ks.length 0 []]:=by
  rw[hH];simp[uq,ar.den,ao,ai.den]
 refine⟨E.loc++[none],E.X,?_,?_⟩
 ·rw [k]
  refine⟨k.symm,?_,d.defers,u⟩;have h':=dA hle _ d.fr;have B:∀(fr:List AV) (cs:List Value) (i:Nat),ah E fr cs→isNil (fr.getD i .undef)=true→ah (E.push E.w (.vec ks.length 0 []) none) fr cs →
    ah (E.push E.w (.vec ks.length 0 []) none) (fr.set i (.vec ks.length s.H.length 0 0 0)) cs:=by
   intro fr
   induction fr with
   |nil=>intro cs i h0 h1 g; exact g
   | cons b fr I =>
    intro cs i h0 h1 g;cases cs with
    |nil=>simp[ah]at h0
    | cons c cs =>
     simp only[ah]at h0 g;cases i with
     | zero =>
      simp only[List.set_cons_zero,ah];refine⟨?_,g.2⟩;obtain⟨base,rfl⟩:=J9 (by simpa using h1) h0.1;have J:(E.push E.w (.vec ks.length 0 []) none).H[s.H.length]? = some (.vec ks.length 0 []):=by
       simp only[Env.push];rw[gL (by omega),hlen,mL];rfl
      have y:(E.push E.w (.vec ks.length 0 []) none).loc[s.H.length]? = some none:=by
       simp only[Env.push];rw[gL (by rw[d.heap.len]; omega),d.heap.len,hlen,mL];rfl
      simp only[rel];refine⟨⟨base,0,rfl,aG _,fun h=>absurd h (qe _)⟩,⟨_,J,rfl,fun v h=>eh _⟩,fun _=>⟨fun _=>⟨trivial,trivial,base,rfl⟩,fun b m hb=>?_⟩⟩;rw[y]at hb;cases hb
     | succ i =>
      simp only[List.set_cons_succ,ah];exact⟨g.1,I cs i h0.2 (by simpa using h1) g.2⟩
  exact B s.fr _ slot d.fr h h'
 ·rw [k]
  exact hle.toM
def b_(fn:Func)(k:Nat):Code:=match fn.body with
 | some c=>match (bM c).find? fun p=>ad p.1 k with
  |some p=>p.2
  |none=>.skip
 |none=>.skip
theorem ur{P:Program}{f:FuncId}{vs:List Value}{u:Value}(h:∀ w,Calls P f vs.toArray w fun e w'=>e=.returned u∧Ext w w'):cL P f (vs.map .lit) (.lit u):=by
 intro H E cargs hH HE g;have e:cargs=vs.toArray:=by
  have:∀(vs us:List Value),ah E (vs.map AV.lit) us→us=vs:=by
   intro vs
   induction vs with
   | nil=>intro us h; cases us with
    |nil=>rfl
    |cons _ _=>simp[ah]at h
   | cons v vs k =>
    intro us h;cases us with
    |nil=>simp[ah]at h
    | cons u us =>
     simp only[dw,ah,rel]at h;rw[h.1,k us h.2]
  have:=this vs cargs.toList g;rw[←this]
 rw[e];refine(h E.w).mono ?_;rintro _ w' ⟨rfl,d⟩;refine⟨u,.lit u,H,rfl,⟨rfl,rfl⟩,E.loc,E.X.r,by simp[rel],?_,?_⟩
 ·rw[←hH]; exact HE.ext d
 ·rw[←hH]; exact Env.iJ d
end Go.AL

namespace Go.AL
open Go
variable [Dr]
def me(ks:List Kd):AV→Option (List (List G))
 |.nils | .lit (.slice none 0 0)=>some []
 |.emptyS _=>some []
 |.listF d rows=>if Kd.gj ks d then some rows else none
 | .list w rows=>match bh ks rows with
  |some gs=>if w=ks.length then some gs else none
  |none=>none
 |_=>none
def Cw(ks:List Kd):AV→Option (List G)
 |.agg cells=>fJ ks cells
 |_=>none
theorem J'{E:Env}{ks:List Kd}{a:AV}{rows:List (List G)}{c:Value}(h:me ks a=some rows)(d:rel E a c):rel E (.listF ks rows) c:=by
 unfold me at h;split at h
 ·cases h
  simp only[rel,dS,G.rows]at d⊢;obtain⟨base,rfl⟩:=d;exact⟨base,0,rfl,aG _,.inl trivial⟩
 ·cases h
  simp only[rel,dS,G.rows]at d⊢;subst d;exact⟨none,0,rfl,aG _,.inl trivial⟩
 ·cases h
  simp only[rel,dS,G.rows]at d⊢;obtain⟨base,cap,rfl,_⟩:=d;exact⟨base,cap,rfl,eh _,.inl trivial⟩
 ·split at h
  ·rename_i g
   cases h;rw[Kd.ix g];exact d
  ·cases h
 ·split at h
  ·rename_i gs k
   split at h
   ·rename_i hw
    cases h;rw[iI,o9 k];subst hw;exact d
   ·cases h
  ·cases h
 ·cases h
theorem Ka{ks:List Kd}{a:AV}{r:List G}(h:Cw ks a=some r):a=.agg (aJ ks r):=by
 unfold Cw at h;split at h
 ·rw[jS h]
 ·cases h
end Go.AL

namespace Go.AL
open Go
variable [Dr]
structure bN where
 ids:List Nat
 sh:List Nat
 base:Nat
def bN.at(e:bN)(j:Nat):Nat:=match e.ids[j]? with
 |some i=>i
 |none=>e.base+(j-e.ids.length)
def bN.up(e:bN)(j:Nat):Nat:=e.sh.getD j 0
mutual
def AV.ch(e:bN):AV→AV
 |.agg cs=>.agg (AV.jx e cs)
 |.tuple cs=>.tuple (AV.jx e cs)
 |.clo f cs=>.clo f (AV.jx e cs)
 |.ptr id af k row col=>.ptr (e.at id) (af+e.up id) k row col
 |.vec k id af off n=>.vec k (e.at id) (af+e.up id) off n
 |.map id=>.map (e.at id)
 |.sub ..=>.undef
 |a=>a
def AV.jx(e:bN):List AV→List AV
 | []=>[]
 |a::as=>a.ch e::AV.jx e as
end
def ab.ch(e:bN)(j:Nat):ab→ab
 |.box cells=>.box (AV.jx e cells)
 |.vec k v rows=>.vec k (v+e.up j) rows
 |o=>o
theorem Kb(e:bN):∀(as:List AV),(AV.jx e as).length=as.length
 | []=>rfl
 |_::as=>by simp[AV.jx,Kb e as]
mutual
def AV.bI:AV→Bool
 |.agg cs | .tuple cs | .clo _ cs=>AV.cA cs
 |.list .. | .listF .. | .cptr _=>false
 |_=>true
def AV.cA:List AV→Bool
 | []=>true
 |a::as=>a.bI&&AV.cA as
end
structure pj (S:Bool) (e:bN) (E E':Env):Prop where
 ok:S=false→∀ b,E.im b→E'.im b∧E'.w.heap[b]? = E.w.heap[b]?
 past:∀ j af,E.past j af→E'.past (e.at j) (af+e.up j)
 live:∀ j af,E.past j af→E'.live (e.at j) (af+e.up j)→E.live j af∧E'.loc[e.at j]? = E.loc[j]?
theorem pj.bG{e:bN}{E E':Env}(h:pj false e E E'):E.bG E':=⟨h.ok rfl⟩
mutual
theorem Cx{S:Bool}{e:bN}{E E':Env}(h:pj S e E E'):∀(a:AV) {c:Value},(S=true→a.bI=true)→rel E a c→rel E' (a.ch e) c
 |.undef,_,_,_=>by simp[AV.ch,rel]
 |.lit v,c,_,d=>by simpa only[AV.ch,rel]using d
 |.nils,c,_,d=>by simpa only[AV.ch,rel]using d
 | .list k rows,c,q,d=>by
  cases S with
  |true=>exact absurd (q rfl) (by simp[AV.bI])
  |false=>exact dJ h.bG (.list k rows) rfl d
 | .listF ks rows,c,q,d=>by
  cases S with
  |true=>exact absurd (q rfl) (by simp[AV.bI])
  |false=>exact dJ h.bG (.listF ks rows) rfl d
 | .cptr cells,c,q,d=>by
  cases S with
  |true=>exact absurd (q rfl) (by simp[AV.bI])
  |false=>exact dJ h.bG (.cptr cells) rfl d
 |.ifc,c,_,d=>by simpa only[AV.ch,rel]using d
 |.emptyS n,c,_,d=>by simpa only[AV.ch,rel]using d
 |.sub ..,c,_,_=>by simp only[AV.ch,rel]
 | .agg cells,c,q,d=>by
  simp only[rel]at d;simp only[AV.ch,rel];obtain⟨cs,y,h1,g⟩:=d;exact⟨cs,y,h1,xZ h cells (fun e=>by simpa only[AV.bI]using q e) g⟩
 | .tuple cells,c,q,d=>by
  simp only[rel]at d;simp only[AV.ch,rel];obtain⟨cs,y,g⟩:=d;exact⟨cs,y,xZ h cells (fun e=>by simpa only[AV.bI]using q e) g⟩
 | .clo f cells,c,q,d=>by
  simp only[rel]at d;simp only[AV.ch,rel];obtain⟨cs,y,g⟩:=d;exact⟨cs,y,xZ h cells (fun e=>by simpa only[AV.bI]using q e) g⟩
 | .ptr id af k row col,c,_,d=>by
  simp only[rel]at d;simp only[AV.ch,rel];obtain⟨h1,g,B⟩:=d;refine⟨h1,h.past _ _ g,fun u=>?_⟩;obtain⟨g1,g2⟩:=h.live _ _ g u;rw[g2];exact B g1
 | .vec k id af off n,c,_,d=>by
  simp only[rel]at d;simp only[AV.ch,rel];obtain⟨h1,g,B⟩:=d;refine⟨h1,h.past _ _ g,fun u=>?_⟩;obtain⟨g1,g2⟩:=h.live _ _ g u;rw[g2];exact B g1
 | .map id,c,_,d=>by
  simp only[rel]at d;simp only[AV.ch,rel];obtain⟨h1,g,B⟩:=d;have M:=h.past _ _ g;refine⟨h1,?_,fun u=>?_⟩
  ·obtain ⟨o, I, J⟩ := M
   exact⟨o,I,J.1,fun v U=>eh _⟩
  ·have hu:e.up id=0:=by
    obtain⟨o,I,J⟩:=M;obtain⟨o2,N,O⟩:=u;rw[I]at N;cases N;have:=J.2 0 O;omega
   obtain⟨g1,g2⟩:=h.live _ _ g (by rw[hu]; exact u);rw[g2];exact B g1
theorem xZ{S:Bool}{e:bN}{E E':Env}(h:pj S e E E'):∀(as:List AV) {vs:List Value},(S=true→AV.cA as=true)→ah E as vs→ah E' (AV.jx e as) vs
 | [],[],_,_=>by simp[AV.jx,ah]
 | [],_::_,_,d=>by simp[ah]at d
 |_::_,[],_,d=>by simp[ah]at d
 | a::as,v::vs,g,d=>by
  simp only[AV.cA,aA]at g;simp only[ah]at d;simp only[AV.jx,ah];exact⟨Cx h a (fun e=>(g e).1) d.1,xZ h as (fun e=>(g e).2) d.2⟩
end
structure KeepIn (e:bN) (E E':Env):Prop where
 ok:∀ b,E.im b→E'.im b∧E'.w.heap[b]? = E.w.heap[b]?
 w:E'.w=E.w
 loc:∀ j,j<e.ids.length→E'.loc[j]? = E.loc[e.at j]?
 iR:∀(j:Nat) o l,E'.H[j]? = some o→o.label=some l→E'.X.r l=E.X.r l
theorem KeepIn.bG{e:bN}{E E':Env}(h:KeepIn e E E'):E.bG E':=⟨h.ok⟩
structure x9 (e:bN) (nw:List Nat) (E E':Env):Prop extends KeepIn e E E' where
 V7:∀ i,i∈nw→∀ b n,E.loc[i]? = some (some (b,n))→E'.im b
def d_{α:Type}:List α→List Nat→List α→List α
 |l,i::is,x::xs=>d_ (l.set i x) is xs
 |l,_,_=>l
theorem ny{α:Type}:∀(is:List Nat) (l xs:List α),(d_ l is xs).length=l.length
 | [],_,_=>by simp[d_]
 |_::_,_,[]=>by simp[d_]
 |i::is,l,x::xs=>by simp[d_,ny is]
theorem x_{α:Type}:∀(is:List Nat) (l xs:List α) (n:Nat),n∉is→(d_ l is xs)[n]? = l[n]?
 | [],_,_,_,_=>by simp[d_]
 |_::_,_,[],_,_=>by simp[d_]
 | i::is,l,x::xs,n,h=>by
  simp only[bZ,not_or]at h;simp only[d_];rw[x_ is _ xs n h.2,aU (Ne.symm h.1)]
theorem Kc{α:Type}:∀(is:List Nat) (l xs:List α) (j i:Nat) (x:α),is.Nodup→is[j]? = some i→xs[j]? = some x→i<l.length→(d_ l is xs)[i]? = some x
 | [],_,_,_,_,_,_,h,_,_=>by simp at h
 |_::_,_,[],_,_,_,_,_,h,_=>by simp at h
 | k::is,l,y::xs,0,i,x,g,h1,d,q=>by
  simp at h1 d;subst h1; subst d;simp only[d_];have:k∉is:=(lQ.1 g).1;rw[x_ is _ xs k this,List.getElem?_set_self q]
 | k::is,l,y::xs,j+1,i,x,g,h1,d,q=>by
  simp only[d_];exact Kc is _ xs j i x (lQ.1 g).2 (by simpa using h1) (by simpa using d) (by simpa using q)
def ab.ya(e:bN)(j:Nat):ab→Bool
 |.dead=>true
 |.vec _ _ _=>true
 |_=>ad (e.up j) 0
def jU(e:bN):Nat→List ab→List ab
 |_,[]=>[]
 |j,o::os=>o.ch e j::jU e (j+1) os
def jV(e:bN):Nat→List ab→Bool
 |_,[]=>true
 |j,o::os=>o.ya e j&&jV e (j+1) os
theorem Cy(e:bN):∀(j:Nat) (os:List ab),(jU e j os).length=os.length
 |_,[]=>rfl
 |j,_::os=>by simp[jU,Cy e (j+1) os]
theorem Ke(e:bN):∀(j:Nat) (os:List ab) (i:Nat),(jU e j os)[i]? = (os[i]?).map (ab.ch e (j+i))
 |_,[],i=>by simp[jU]
 |j,o::os,0=>by simp[jU]
 | j,o::os,i+1=>by
  simp only[jU,List.getElem?_cons_succ,Ke e (j+1) os i];rw[show j+1+i=j+(i+1) from by omega]
theorem Kf{e:bN}:∀{j:Nat} {os:List ab} {i:Nat} {o:ab},jV e j os=true→os[i]? = some o→o.ya e (j+i)=true
 |_,[],i,_,_,h=>by simp at h
 | j,_::os,0,o,h,hi=>by
  simp only[jV,aA]at h;simp at hi;subst hi;exact h.1
 | j,_::os,i+1,o,h,hi=>by
  simp only[jV,aA]at h;have:=Kf h.2 (by simpa using hi)
  rwa [show j+1+i=j+(i+1) from by omega]at this
theorem uu{e:bN}{j:Nat}{o:ab}(h:o.ya e j=true)(v:Nat):(o.ch e j).aF = some v↔∃ u,o.aF = some u∧v=u+e.up j:=by
 cases o with
 |dead=>simp[ab.ch,ab.aF]
 |dL=>simp[ab.ch,ab.aF]
 |vec k u rows=>simp[ab.ch,ab.aF,eq_comm]
 | box cells =>
  have:=bu h;simp[ab.ch,ab.aF,this,eq_comm]
 | map es cl =>
  have:=bu h;simp[ab.ch,ab.aF,this,eq_comm]
 | iter s p =>
  have:=bu h;simp[ab.ch,ab.aF,this,eq_comm]
 | ev l T B s =>
  have:=bu h;simp[ab.ch,ab.aF,this,eq_comm]
 | aI l k es cl =>
  have:=bu h;simp[ab.ch,ab.aF,this,eq_comm]
 | mm l es ms cl =>
  have:=bu h;simp[ab.ch,ab.aF,this,eq_comm]
theorem Kg(e:bN)(j:Nat)(o:ab):(o.ch e j).born=o.born:=by cases o<;>rfl
theorem Kh(e:bN)(j:Nat)(o:ab):(o.ch e j).label=o.label:=by cases o<;>rfl
theorem V8(e:bN)(j:Nat)(o:ab):(o.ch e j).da=o.da:=by cases o<;>rfl
def ab.bI:ab→Bool
 |.box cells=>AV.cA cells
 |.vec _ _ rows=>rows.all fun r=>AV.cA r
 |.map es _=>es.all fun x=>x.1.bI&&x.2.1.bI
 | .aI _ _ es _=>es.all fun x=>x.1.bI&&(match x.2.1 with
  |some rows=>rows.all fun r=>AV.cA r
  |none=>true)
 |.mm _ es ms _=>(es.all fun x=>x.1.bI)&&ms.all fun m=>m.1.all fun x=>x.1.bI&&x.2.1.bI
 |_=>true
theorem Ki{S:Bool}{e:bN}{E E':Env}(h:pj S e E E'){b:Nat}(hb:E'.w.heap[b]? = E.w.heap[b]?):∀(as:List AV) {o:Nat},(S=true→AV.cA as=true)→ct E as b o→ct E' (AV.jx e as) b o
 | [],_,_,_=>by simp[AV.jx,ct]
 | a::as,o,d,g=>by
  simp only[AV.cA,aA]at d;simp only[ct]at g;simp only[AV.jx,ct];obtain⟨⟨v,h1,k,q⟩,u⟩:=g;exact⟨⟨v,by rw[World.qg hb]; exact h1,k,Cx h a (fun e=>(d e).1) q⟩,Ki h hb as (fun e=>(d e).2) u⟩
mutual
theorem yb{E E':Env}:∀(a:AV) {c:Value},a.closed=true→a.bI=true→rel E a c→rel E' a c
 |.undef,_,_,_,_=>by simp[rel]
 |.lit v,c,_,_,d=>by simpa only[rel]using d
 |.nils,c,_,_,d=>by simpa only[rel]using d
 |.ifc,c,_,_,d=>by simpa only[rel]using d
 |.emptyS n,c,_,_,d=>by simpa only[rel]using d
 |.list ..,_,_,h,_ | .listF ..,_,_,h,_ | .cptr _,_,_,h,_=>by simp[AV.bI]at h
 |.ptr ..,_,h,_,_ | .vec ..,_,h,_,_ | .map _,_,h,_,_=>by simp[AV.closed]at h
 | .agg cells,c,g,k,d=>by
  simp only[rel]at d⊢;obtain⟨cs,e,h1,q⟩:=d;exact⟨cs,e,h1,yc cells (by simpa only[AV.closed]using g) (by simpa only[AV.bI]using k) q⟩
 | .tuple cells,c,g,k,d=>by
  simp only[rel]at d⊢;obtain⟨cs,e,q⟩:=d;exact⟨cs,e,yc cells (by simpa only[AV.closed]using g) (by simpa only[AV.bI]using k) q⟩
 | .clo f cells,c,g,k,d=>by
  simp only[rel]at d⊢;obtain⟨cs,e,q⟩:=d;exact⟨cs,e,yc cells (by simpa only[AV.closed]using g) (by simpa only[AV.bI]using k) q⟩
theorem yc{E E':Env}:∀(as:List AV) {vs:List Value},AV.br as=true→AV.cA as=true→ah E as vs→ah E' as vs
 | [],[],_,_,_=>by simp[ah]
 | [],_::_,_,_,d=>by simp[ah]at d
 |_::_,[],_,_,d=>by simp[ah]at d
 | a::as,v::vs,g,h,d=>by
  simp only[AV.br,AV.cA,aA]at g h;simp only[ah]at d⊢;exact⟨yb a g.1 h.1 d.1,yc as g.2 h.2 d.2⟩
end
theorem Kj{E E':Env}{b:Nat}(hb:E'.w.heap[b]? = E.w.heap[b]?):∀(as:List AV) {o:Nat},AV.br as=true→AV.cA as=true→ct E as b o→ct E' as b o
 | [],_,_,_,_=>by simp[ct]
 | a::as,o,d,g,h=>by
  simp only[AV.br,AV.cA,aA]at d g;simp only[ct]at h⊢;obtain⟨⟨v,h1,k,q⟩,u⟩:=h;exact⟨⟨v,by rw[World.qg hb]; exact h1,k,yb a d.1 g.1 q⟩,Kj hb as d.2 g.2 u⟩
theorem Cz{E E':Env}{b k:Nat}(hb:E'.w.heap[b]? = E.w.heap[b]?):∀(rs:List (List AV)) {o:Nat},eQ rs→(rs.all fun r=>AV.cA r)=true→cB E k rs b o→cB E' k rs b o
 | [],_,_,_,_=>by simp[cB]
 | r::rs,o,h,g,d=>by
  simp only[kU,aA]at g;simp only[cB]at d⊢;exact⟨d.1,Kj hb r (h r cT) g.1 d.2.1,Cz hb rs (fun x q=>h x (cY _ q)) g.2 d.2.2⟩
theorem uv{E E':Env}:∀{es:List (AV × AV × Nat)} {ms:List MapEntry},(es.all fun x=>x.1.bI&&x.2.1.bI)=true→bC E es ms→bC E' es ms
 | [],[],_,_=>by simp[bC]
 | (k,v,n)::es,e::ms,g,d=>by
  simp only[kU,aA]at g;simp only[bC]at d⊢;obtain⟨h1,u,y,h,q,B⟩:=d;exact⟨yb k h g.1.1 h1,yb v q g.1.2 u,y,h,q,uv g.2 B⟩
 | [],_::_,_,d=>by simp[bC]at d
 |_::_,[],_,d=>by simp[bC]at d
theorem iy{E E':Env}(h:E.bG E'):∀{es:List (AV × AV × Nat)} {ms:List MapEntry},bC E es ms→bC E' es ms
 | [],[],_=>by simp[bC]
 | (k,v,n)::es,e::ms,d=>by
  simp only[bC]at d⊢;obtain⟨h1,u,y,g,q,B⟩:=d;exact⟨dJ h k g h1,dJ h v q u,y,g,q,iy h B⟩
 | [],_::_,d=>by simp[bC]at d
 |_::_,[],d=>by simp[bC]at d
theorem V9{S:Bool}{e:bN}{E E':Env}(h:pj S e E E'){j:Nat}{o:ab}(U:S=true→o.bI=true)(J:E'.loc[e.at j]? = E.loc[j]?) (hb:∀ b n,E.loc[j]? = some (some (b,n))→E'.w.heap[b]? = E.w.heap[b]?)
  (W:∀ l,o.label=some l→E'.X.r l=E.X.r l∧∀(h g m:Nat),(E.X.r l)[h]? = some (some (some (g,m)))→E'.w.heap[g]? = E.w.heap[g]?)
  (ho:aO E j o):aO E' (e.at j) (o.ch e j):=by
 cases o with
 |dead=>simp only[ab.ch,aO]at *; rw[J]; exact ho
 |dL=>simp only[ab.ch,aO]at *; rw[J]; exact ho
 | box cells =>
  simp only[ab.ch,aO]at *;obtain⟨b,n,h1,d,u⟩:=ho;exact⟨b,n,by rw[J,h1],by rw[Kb]; exact qi (hb b n h1) d,Ki h (hb b n h1) cells (fun e=>by simpa only[ab.bI]using U e) u⟩
 | vec k af rows =>
  simp only[ab.ch,aO]at *;rcases ho with⟨h1,d⟩|⟨b,m,h1,d,u,M,I⟩
  ·exact .inl ⟨by rw[J,h1],d⟩
  ·refine .inr ⟨b, m, by rw [J, h1], qi (hb b m h1) d, u, M, ?_⟩
   cases S with
   |true=>exact Cz (hb b m h1) rows M (by simpa only[ab.bI]using U rfl) I
   |false=>exact km h.bG rows M (hb b m h1) I
 | map es clock =>
  simp only[ab.ch,aO]at *;obtain⟨b,n,ms,h1,d,u⟩:=ho;refine⟨b,n,ms,by rw[J,h1],by rw[hb b n h1,d],?_⟩;cases S with
  |true=>exact uv (by simpa only[ab.bI]using U rfl) u
  |false=>exact iy h.bG u
 | iter s pos =>
  simp only[ab.ch,aO]at *;obtain⟨b,n,h1,d⟩:=ho;exact⟨b,n,by rw[J,h1],by rw[hb b n h1,d]⟩
 | ev l T B s =>
  simp only[ab.ch,aO]at *;obtain⟨b,n,p,v,k,q,h1,d,u,M,I,h6⟩:=ho;obtain⟨g1,g2⟩:=W l rfl;exact⟨b,n,p,v,k,q,by rw[J,h1],by rw[hb b n h1,d],u,by rw[g1,M],by rw[g1]; exact I,AS (fun g m e=>g2 k g m (by rw[M,e])) h6⟩
 | aI l k es clock =>
  simp only[ab.ch,aO]at *;obtain⟨b,n,ms,h1,d,u,M⟩:=ho;obtain⟨g1,g2⟩:=W l rfl;have O:S=true→∀ x∈es,x.1.bI=true∧∀ rows,x.2.1=some rows→(rows.all fun r=>AV.cA r)=true:=fun e x N=>by
   have I:=cR.1 (by simpa only[ab.bI]using U e) x N;simp only[aA]at I;exact⟨I.1,fun rows V=>by rw[V]at I; exact I.2⟩
  refine⟨b,n,ms,by rw[J,h1],by rw[hb b n h1,d],?_,tb (fun h g m hk=>⟨by rw[g1]; exact hk,g2 h g m hk⟩) (fun i x rows hi N b hb2 hc V=>?_) M⟩
  ·cases S with
   | true =>
    refine uv (cR.2 fun x N=>?_) u;obtain⟨y,hy,rfl⟩:=dF.1 N;simp[(O rfl y hy).1,AV.bI]
   |false=>exact iy h.bG u
  ·cases S with
   |true=>exact Cz hb2 rows hc ((O rfl x (eO hi)).2 rows N) V
   |false=>exact km h.bG rows hc hb2 V
 | mm l es ms clock =>
  simp only[ab.ch,aO]at *;obtain⟨b,n,mes,h1,d,u,M⟩:=ho;obtain⟨g1,g2⟩:=W l rfl;have O:S=true→(es.all fun x=>x.1.bI)=true∧∀ m∈ms,(m.1.all fun x=>x.1.bI&&x.2.1.bI)=true:=fun e=>by
   have I:=U e;simp only[ab.bI,aA]at I;exact⟨I.1,cR.1 I.2⟩
  refine⟨b,n,mes,by rw[J,h1],by rw[hb b n h1,d],?_,AW g1 g2 (fun m hm q hq=>?_) M⟩
  ·cases S with
   | true =>
    refine uv (cR.2 fun x N=>?_) u;obtain⟨y,hy,rfl⟩:=dF.1 N;simp[cR.1 (O rfl).1 y hy,AV.bI]
   |false=>exact iy h.bG u
  ·cases S with
   |true=>exact uv ((O rfl).2 m hm) hq
   |false=>exact iy h.bG hq
def nz(e:bN)(H H1:List ab):List ab:=d_ H e.ids (jU e 0 H1)++(jU e 0 H1).drop e.ids.length
theorem gq{e:bN}{j:Nat}(h:j<e.ids.length):e.ids[j]? = some (e.at j):=by
 simp[bN.at,h]
theorem q_{e:bN}{j:Nat}(h:e.ids.length≤j):e.at j=e.base+(j-e.ids.length):=by
 simp[bN.at,List.getElem?_eq_none h]
theorem Kk{α:Type}{e:bN}{H xs:List α}(k:e.ids.Nodup)(d:∀ j,j<e.ids.length→e.at j<H.length)(hb:e.base=H.length)(q:e.ids.length≤xs.length)(j:Nat) :
  (d_ H e.ids xs++xs.drop e.ids.length)[e.at j]? = xs[j]? := by
 rcases jg j e.ids.length with h|h
 ·rw [cK (by rw [ny]; exact d j h)]
  have g:j<xs.length:=dv h q;rw[Kc e.ids H xs j (e.at j) xs[j] k (gq h) (bO g) (d j h),bO g]
 ·rw [q_ h, hb, gL (by rw [ny]; omega), ny, p7]
  congr 1;omega
theorem CA{α:Type}{e:bN}{H xs:List α}{i:Nat}(hi:i∉e.ids)(d:i<H.length):(d_ H e.ids xs++xs.drop e.ids.length)[i]? = H[i]? := by
 rw[cK (by rw[ny]; exact d),x_ e.ids H xs i hi]
theorem nA{α:Type}{e:bN}{H xs:List α}{i:Nat}{x:α}(hb:e.base=H.length)(h:(d_ H e.ids xs++xs.drop e.ids.length)[i]? = some x) :
  (i∉e.ids∧i<H.length∧H[i]? = some x)∨∃ j,i=e.at j:=by
 by_cases hm:i∈e.ids
 ·right
  obtain⟨j,g,rfl⟩:=ow hm;refine⟨j,?_⟩;have:=gq g;rw[bO g]at this;exact(gd this)
 ·rcases jg i H.length with d | k
  ·left
   exact⟨hm,d,by rw[CA hm d]at h; exact h⟩
  ·right
   refine⟨e.ids.length+(i-H.length),?_⟩;rw[q_ (by omega)];omega
theorem frame(S:Bool)(nw:List Nat){P:Program}{f:FuncId}{args:List AV}{H0 H1 H:List ab}{v:AV}{e:bN}(hc:dB P f args H0 v H1)(hk:e.ids.length=H0.length)(hb:e.base=H.length)(hn:e.ids.Nodup)
  (hver:∀ j o,H0[j]? = some o→∃ o',H[e.at j]? = some o'∧o.born=true∧∀ v,o'.aF = some v↔∃ u,o.aF = some u∧v=u+e.up j)
  (hobj:∀ E E0,E.H=H→au E→x9 e nw E E0→E0.H=H0→∀ j o,H0[j]? = some o→aO E0 j o) (hu1:jV e 0 H1=true) (hl1:H0.length≤H1.length) (hlent:S=false→nw=[])
  (hSv:S=true→v.bI=true) (hSo:S=true→(H1.all ab.bI)=true) (hdis:∀ i,i∈nw→i∉e.ids)
  (hlab:∀(j:Nat) o o',H0[j]? = some o→H[e.at j]? = some o'→o'.label=o.label) (hlab1:∀(j:Nat) o l,H1[j]? = some o→o.label=some l→∃ o0,H0[j]? = some o0∧o0.label=some l)
  (hlabm:∀(j:Nat) o o',H0[j]? = some o→H[e.at j]? = some o'→o'.da=o.da) {args0:List AV}
  (hargs0:∀ E E0 cs,E.H=H→au E→x9 e nw E E0→E0.H=H0→ah E args0 cs→ah E0 args cs) :
  dB P f args0 H (v.ch e) (nz e H H1):=by
 intro E cargs M HE hargs;have hElen:E.loc.length=H.length:=by rw[HE.len,M]
 have hat:∀ j,j<e.ids.length→e.at j<H.length:=fun j B=>by
  have hj':j<H0.length:=by omega
  obtain⟨o',h1,_⟩:=hver j H0[j] (bO hj');exact aK h1
 have hmem:∀ j,j<e.ids.length→e.at j∈e.ids:=fun j B=>eO (gq B)
 let pl:Nat→Prop:=fun l=>∃(j:Nat) (o:ab),H0[j]? = some o∧o.label=some l
 have:DecidablePred pl:=fun l=>Classical.propDecidable (pl l)
 let r0:Nat→List (Option (Option (Nat × Nat))):=fun l=>if pl l then E.X.r l else []
 have r0p:∀ l,pl l→r0 l=E.X.r l:=fun l h=>if_pos h;have r0n:∀ l (h:Nat) q,(r0 l)[h]? = some q→pl l∧(E.X.r l)[h]? = some q:=fun l h q W=>by
  by_cases y:pl l
  ·rw[r0p l y]at W; exact⟨y,W⟩
  ·rw[show r0 l=[] from if_neg y]at W; simp at W
 let X0:XS:=⟨fun b=>E.X b∨(∃ i c,i∉e.ids∧i∉nw∧E.loc[i]? = some (some (b,c)))∨∃(l h m:Nat),¬ pl l∧(E.X.r l)[h]? = some (some (some (b,m))),E.X.z,r0⟩
 let loc0:List (Option (Nat × Nat)):=e.ids.map fun i=>E.loc.getD i none
 let E0:Env:={ w:=E.w,H:=H0,loc:=loc0,X:=X0 }
 have hloc0:∀ j,j<e.ids.length→loc0[j]? = E.loc[e.at j]? := fun j B=>by
  simp only[loc0,cd,gq B,eF];have:e.at j<E.loc.length:=by rw[hElen]; exact hat j B
  rw[cr,bO this];rfl
 have hlen0:loc0.length=e.ids.length:=by simp[loc0]
 have hpast:∀ j af,E.past (e.at j) af→j<e.ids.length:=by
  rintro j af ⟨o,ho,_⟩;rcases jg j e.ids.length with h|h
  ·exact h
  ·have := aK ho
   rw[M,q_ h,hb]at this;omega
 have hobj0:∀ j,j<e.ids.length→∃ o o',H0[j]? = some o∧E.H[e.at j]? = some o'∧o.born=true∧∀ v,o'.aF = some v↔∃ u,o.aF = some u∧v=u+e.up j:=fun j B=>by
  have hj':j<H0.length:=by omega
  obtain⟨o',h1,d⟩:=hver j H0[j] (bO hj');exact⟨H0[j],o',bO hj',by rw[M]; exact h1,d⟩
 have hown0:∀ b,E0.own b→E.own b:=by
  rintro b (⟨id,c,hid⟩|⟨l,k,c,J⟩)
  case inr=>exact .inr ⟨l,k,c,(r0n l k _ J).2⟩
  have I:=aK hid;rw[show E0.loc=loc0 from rfl]at hid I;rw[hlen0]at I;rw[hloc0 id I]at hid;exact .inl ⟨_,c,hid⟩
 have hin:KeepIn e E E0:=by
  refine⟨fun b hbk=>⟨⟨hbk.1,fun ho=>hbk.2.1 (hown0 b ho),?_⟩,rfl⟩,rfl,hloc0,fun j o l h1 d=>r0p l ⟨j,o,h1,d⟩⟩;rintro(N|⟨i,c,_,_,hi⟩|⟨l,k,c,_,J⟩)
  ·exact hbk.2.2 N
  ·exact hbk.2.1 (.inl ⟨i,c,hi⟩)
  ·exact hbk.2.1 (.inr ⟨l,k,c,J⟩)
 have hpin:∀ j af,E.past (e.at j) (af+e.up j)→E0.past j af:=fun j af y=>by
  obtain⟨o,oo,h1,d,O,h3⟩:=hobj0 j (hpast j _ y);obtain⟨o',h4,h5⟩:=y;rw[d]at h4;cases h4;refine⟨o,h1,O,fun v hv=>?_⟩;have:=h5.2 (v+e.up j) ((h3 _).2 ⟨v,hv,rfl⟩);omega
 have hout0:∀ i b n,i∉e.ids→E.loc[i]? = some (some (b,n))→¬ E0.own b:=by
  rintro i b n hi O (⟨id,c',hid⟩|⟨l,k,c,J⟩)
  case inr=>exact HE.cQ _ _ _ _ _ _ O (r0n l k _ J).2
  have I:=aK hid;rw[show E0.loc=loc0 from rfl]at hid I;rw[hlen0]at I;rw[hloc0 id I]at hid;have:=HE.inj _ _ _ _ _ O hid;exact hi (this▸hmem id I)
 have hlin:x9 e nw E E0:=by
  refine⟨hin,fun i hi b n O=>⟨(HE.lt _ _ _ O).1,hout0 i b n (hdis i hi) O,?_⟩⟩;rintro(N|⟨U,c,_,d,hi'⟩|⟨l,k,c,_,J⟩)
  ·exact(HE.lt _ _ _ O).2 N
  ·have := HE.inj _ _ _ _ _ hi' O
   exact d (this▸hi)
  ·exact HE.cQ _ _ _ _ _ _ O J
 have HE0:au E0:=by
  have conv:∀{j:Nat} {x:Option (Nat × Nat)},loc0[j]? = some x→j<e.ids.length∧E.loc[e.at j]? = some x:=by
   intro j x N;have I:=aK N;rw[hlen0]at I;exact⟨I,by rw[←hloc0 j I]; exact N⟩
  refine⟨by rw[show E0.loc=loc0 from rfl,hlen0,hk],?_,?_,?_,?_,HE.eR.bG hin.bG,fun l k l' k' b m n h1 d=>HE.ew l k l' k' b m n (r0n l k _ h1).2 (r0n l' k' _ d).2,fun i b m l k n hi d=>HE.cQ _ b m l k n (conv hi).2 (r0n l k _ d).2,?_,?_,?_⟩
  ·intro i j b m n hi B
   obtain⟨i1,i2⟩:=conv hi
   obtain⟨j1,j2⟩:=conv B
   have:=HE.inj _ _ _ _ _ i2 j2;exact(AF i1 hn).1 (by rw[gq i1,gq j1,this])
  ·intro i b m hi
   obtain⟨i1,i2⟩:=conv hi
   refine⟨(HE.lt _ _ _ i2).1,?_⟩;rintro(N|⟨U,c,hni,_,hi'⟩|⟨l,k,c,_,J⟩)
   ·exact(HE.lt _ _ _ i2).2 N
   ·have := HE.inj _ _ _ _ _ hi' i2
    exact hni (this▸hmem i i1)
   ·exact HE.cQ _ _ _ _ _ _ i2 J
  ·rintro b (N | ⟨U, c, _, _, hi'⟩ | ⟨l, k, c, _, J⟩)
   ·exact HE.X b N
   ·exact(HE.lt _ _ _ hi').1
   ·exact(HE.cy _ _ _ _ J).1
  ·intro j o ho
   have B:j<e.ids.length:=by rw[hk]; exact aK ho
   exact hobj E E0 M HE hlin rfl j o ho
  ·intro l k b m h1
   obtain⟨y,d⟩:=r0n l k _ h1;refine⟨(HE.cy _ _ _ _ d).1,?_⟩;rintro(N|⟨U,c,_,_,hi'⟩|⟨l',k',c,hnp,J⟩)
   ·exact(HE.cy _ _ _ _ d).2 N
   ·exact HE.cQ _ _ _ _ _ _ hi' d
   ·exact hnp ((HE.ew _ _ _ _ _ _ _ d J).1▸y)
  ·intro i j o o' l hi B h1 d
   have i1:i<e.ids.length:=by rw[hk]; exact aK hi
   have j1:j<e.ids.length:=by rw[hk]; exact aK B
   obtain⟨_,oi,V,a2,_⟩:=hobj0 i i1;obtain⟨_,oj,b1,b2,_⟩:=hobj0 j j1;have ei:=hlab i o oi hi (by rw[←M]; exact a2);have ej:=hlab j o' oj B (by rw[←M]; exact b2);have:=HE.uniq _ _ _ _ l a2 b2 (by rw[ei,h1]) (by rw[ej,d]);exact(AF i1 hn).1 (by rw[gq i1,gq j1,this])
  ·intro l hnl k q W
   obtain⟨⟨j,o,h1,d⟩,_⟩:=r0n l k _ W;exact hnl j o h1 d
 refine(hc E0 cargs rfl HE0 (hargs0 E E0 _ M HE hlin rfl hargs)).mono ?_;rintro _ w' ⟨c,v',H',rfl,⟨rfl,rfl⟩,loc1,r1,g1,g2,g3⟩
 let r':Nat→List (Option (Option (Nat × Nat))):=fun l=>if pl l then r1 l else E.X.r l
 have rp:∀ l,pl l→r' l=r1 l:=fun l h=>if_pos h;have rn:∀ l,¬ pl l→r' l=E.X.r l:=fun l h=>if_neg h;have hl1':e.ids.length≤H'.length:=by omega
 have hlen1:loc1.length=H'.length:=g2.len;have hbL:e.base=E.loc.length:=by rw[hElen]; exact hb
 have hbE:e.base=E.H.length:=by rw[M]; exact hb
 let loc':List (Option (Nat × Nat)):=d_ E.loc e.ids loc1++loc1.drop e.ids.length
 let E1:Env:={ w:=w',H:=H',loc:=loc1,X:=X0.re r1 }
 let E':Env:={ w:=w',H:=nz e H H',loc:=loc',X:=E.X.re r' }
 have Hin:∀ j,E'.H[e.at j]? = (H'[j]?).map (ab.ch e j):=fun j=>by
  have:=Kk (e:=e) (H:=H) (xs:=jU e 0 H') hn hat hb (by rw[Cy]; exact hl1') j;rw[Ke,cF]at this;exact this
 have eJ:∀ j,E'.loc[e.at j]? = loc1[j]? := fun j =>
  Kk (e:=e) (H:=E.loc) (xs:=loc1) hn (fun j B=>by rw[hElen]; exact hat j B) hbL (by rw[hlen1]; exact hl1') j
 have Hout:∀ i,i∉e.ids→i<H.length→E'.H[i]? = E.H[i]? := fun i hi I=>by
  rw[M];exact CA (e:=e) hi I
 have Lout:∀ i,i∉e.ids→i<H.length→E'.loc[i]? = E.loc[i]? := fun i hi I=>CA (e:=e) hi (by rw[hElen]; exact I);have hu1':∀(j:Nat) (o:ab),H'[j]? = some o→o.ya e j=true:=fun j o ho=>by
  have:=Kf hu1 ho
  rwa [cF]at this
 have own':∀ b,E'.own b→E1.own b∨(∃ i c,i∉e.ids∧E.loc[i]? = some (some (b,c)))∨∃(l h m:Nat),¬ pl l∧(E.X.r l)[h]? = some (some (some (b,m))):=by
  rintro b (⟨i,c,hi⟩|⟨l,k,c,J⟩)
  ·rcases nA (e := e) hbL hi with ⟨h1, _, h3⟩ | ⟨j, rfl⟩
   ·exact .inr (.inl ⟨i,c,h1,h3⟩)
   ·rw [eJ j] at hi
    exact .inl (.inl ⟨j,c,hi⟩)
  ·have J : (r' l)[k]? = some (some (some (b, c))) := J
   by_cases y:pl l
   ·rw [rp l y] at J
    exact .inl (.inr ⟨l,k,c,J⟩)
   ·rw [rn l y] at J
    exact .inr (.inr ⟨l,k,c,y,J⟩)
 have hout:pj S e E1 E':=by
  refine⟨fun hS b hbk=>⟨⟨hbk.1,fun ho=>?_,fun N=>hbk.2.2 (Or.inl N)⟩,rfl⟩,fun j af y=>?_,fun j af y hl=>?_⟩
  ·rcases own' b ho with h | ⟨i, c, h1, d⟩ | h
   ·exact hbk.2.1 h
   ·exact hbk.2.2 (Or.inr (.inl ⟨i,c,h1,by rw[hlent hS]; exact List.not_mem_nil,d⟩))
   ·exact hbk.2.2 (Or.inr (.inr h))
  ·obtain ⟨o, h1, d⟩ := y
   refine⟨o.ch e j,by rw[Hin j,show H'[j]? = some o from h1]; rfl,by rw[Kg]; exact d.1,fun v hv=>?_⟩;obtain⟨u,q1,rfl⟩:=(uu (hu1' j o h1) v).1 hv;have:=d.2 u q1;omega
  ·obtain ⟨o', h1, d⟩ := hl
   rw[Hin j]at h1;obtain⟨o,h3,rfl⟩:=dQ.1 h1;obtain⟨u,q1,q2⟩:=(uu (hu1' j o h3) _).1 d;have:u=af:=by omega
   subst this;exact⟨⟨o,h3,q1⟩,eJ j⟩
 have hle:E.le E':=by
  refine⟨fun i af y=>?_,g3.size,fun b I ho=>g3.same b I (fun h=>ho (hown0 b h)),fun b I ho h'=>?_,fun i af y hl=>?_,⟨rfl,rfl⟩,fun l k J=>?_,g3.env,fun i l o h1 d hv=>?_⟩
  rotate_right
  ·by_cases hi : i ∈ e.ids
   ·obtain ⟨j, B, rfl⟩ := ow hi
    have hat':e.ids[j]=e.at j:=by
     have:=gq B;rw[bO B]at this;exact gd this
    rw[hat']at h1 hv⊢;obtain⟨o0,oo,k1,k2,O,k3⟩:=hobj0 j B;have em:o.da=o0.da:=hlabm j o0 o k1 (by rw[←M]; exact h1);have hl0:o0.label=some l:=ab.ki (by rw[←em]; exact d);have y:pl l:=⟨j,o0,k1,hl0⟩
    obtain⟨o',w1,w2⟩:=hv;rw[Hin j]at w1;obtain⟨o1,r3,rfl⟩:=dQ.1 w1;obtain⟨u,q1,q2⟩:=(uu (hu1' j o1 r3) _).1 w2;have hu:u=0:=by omega
    subst hu;obtain⟨⟨t,ht⟩,o2,s1,s2⟩:=g3.grow j l o0 k1 (by rw[←em]; exact d) ⟨o1,r3,q1⟩;have ht':r1 l=E.X.r l++t:=by
     rw[←r0p l y];exact ht
    refine⟨⟨t,by rw[show E'.X.r l=r' l from rfl,rp l y]; exact ht'⟩,o2.ch e j,?_,by rw[V8]; exact s2⟩;rw[Hin j,show H'[j]? = some o2 from s1];rfl
   ·have I := aK h1
    rw[M]at I;have hnp:¬ pl l:=by
     rintro⟨j,o0,V,a2⟩;have j1:j<e.ids.length:=by rw[hk]; exact aK V
     obtain⟨_,oj,b1,b2,_⟩:=hobj0 j j1;have h3:=HE.uniq _ _ _ _ l h1 b2 (ab.ki d) (by rw[hlab j o0 oj V (by rw[←M]; exact b2),a2]);exact hi (h3▸hmem j j1)
    exact⟨⟨[],by rw[List.append_nil,show E'.X.r l=r' l from rfl,rn l hnp]⟩,o,by rw[Hout i hi I]; exact h1,d⟩
  ·by_cases hi : i ∈ e.ids
   ·obtain ⟨j, B, rfl⟩ := ow hi
    have hat':e.ids[j]=e.at j:=by
     have:=gq B;rw[bO B]at this;exact gd this
    rw[hat']at y⊢;obtain⟨o0,oo,h1,d,O,h3⟩:=hobj0 j B;obtain⟨o,h4,h5⟩:=y;rw[d]at h4;cases h4;have hj1:j<H'.length:=by omega
    have hbn':H'[j].born=true:=by
     have p0:E0.past j 0:=⟨o0,h1,O,fun v _=>eh v⟩
     obtain⟨o2,r1,r2⟩:=g3.past j _ p0;rw[show E1.H=H' from rfl,bO hj1]at r1;cases r1;exact r2.1
    refine⟨H'[j].ch e j,by rw[Hin j,bO hj1]; rfl,by rw[Kg]; exact hbn',fun v hv=>?_⟩;obtain⟨u,q1,rfl⟩:=(uu (hu1' j _ (bO hj1)) v).1 hv;cases hz:o0.aF with
    | none =>
     have p0:E0.past j (u+1):=⟨o0,h1,O,fun v hv=>by rw[hz]at hv; cases hv⟩
     obtain⟨o2,r1,r2⟩:=g3.past j _ p0;rw[show E1.H=H' from rfl,bO hj1]at r1;cases r1;have:=r2.2 u q1;omega
    | some u0 =>
     have p0:E0.past j u0:=⟨o0,h1,O,fun v hv=>by rw[hz]at hv; cases hv; exact aG _⟩
     obtain⟨o2,r1,r2⟩:=g3.past j _ p0;rw[show E1.H=H' from rfl,bO hj1]at r1;cases r1;have:=r2.2 u q1;have:=h5.2 (u0+e.up j) ((h3 _).2 ⟨u0,hz,rfl⟩);omega
   ·obtain ⟨o, h1, d⟩ := y
    have I:=aK h1;rw[M]at I;exact⟨o,by rw[Hout i hi I]; exact h1,d⟩
  ·rcases own' b h' with h | ⟨i, c, _, d⟩ | ⟨l, k, c, _, d⟩
   ·exact g3.own b I (fun h=>ho (hown0 b h)) h
   ·exact ho (.inl ⟨i,c,d⟩)
   ·exact ho (.inr ⟨l,k,c,d⟩)
  ·have I:i<H.length:=by
    obtain⟨o,h1,_⟩:=y;have:=aK h1
    rwa [M]at this
   by_cases hi:i∈e.ids
   ·obtain ⟨j, B, rfl⟩ := ow hi
    have hat':e.ids[j]=e.at j:=by
     have:=gq B;rw[bO B]at this;exact gd this
    rw[hat']at y hl⊢;obtain⟨o',r1,r2⟩:=hl;rw[Hin j]at r1;obtain⟨o1,r3,rfl⟩:=dQ.1 r1;obtain⟨u,q1,rfl⟩:=(uu (hu1' j o1 r3) _).1 r2;have p0:=hpin j u y;obtain⟨⟨o0,s1,s2⟩,s3⟩:=g3.live j u p0 ⟨o1,r3,q1⟩;obtain⟨o0',oo,h1,d,O,h3⟩:=hobj0 j B;rw[show E0.H=H0 from rfl,h1]at s1;cases s1;refine⟨⟨_,d,(h3 _).2 ⟨u,s2,rfl⟩⟩,?_⟩;rw[eJ j,←hloc0 j B];exact s3
   ·obtain ⟨o', r1, r2⟩ := hl
    rw[Hout i hi I]at r1;exact⟨⟨o',r1,r2⟩,Lout i hi I⟩
  ·by_cases y : pl l
   ·have := g3.rl l k (by show k < (r0 l).length; rw [r0p l y]; exact J)
    rw[show E0.X.r l=r0 l from rfl,r0p l y]at this;rw[show E'.X.r l=r' l from rfl,rp l y];exact this
   ·rw [show E'.X.r l = r' l from rfl, rn l y]
    exact⟨J,fun _ W=>W⟩
 have lab':∀(j:Nat) o l,H'[j]? = some o→o.label=some l→pl l:=fun j o l h1 d=>by
  obtain⟨o0,V,a2⟩:=hlab1 j o l h1 d;exact⟨j,o0,V,a2⟩
 have labIn:∀(j:Nat) o l,H0[j]? = some o→o.label=some l→∃ o',E.H[e.at j]? = some o'∧o'.label=some l∧e.at j∈e.ids:=fun j o l h1 d=>by
  have j1:j<e.ids.length:=by rw[hk]; exact aK h1
  obtain⟨_,oj,b1,b2,_⟩:=hobj0 j j1;exact⟨oj,b2,by rw[hlab j o oj h1 (by rw[←M]; exact b2),d],hmem j j1⟩
 have labOut:∀(i:Nat) o l,i∉e.ids→E.H[i]? = some o→o.label=some l→¬ pl l:=fun i o l hi h1 d ⟨j,o0,V,a2⟩=>by
  obtain⟨o',b1,b2,b3⟩:=labIn j o0 l V a2;have:=HE.uniq _ _ _ _ l h1 b1 d b2;exact hi (this▸b3)
 have satOut:∀(l k b m:Nat),¬ pl l→(E.X.r l)[k]? = some (some (some (b,m)))→¬ E0.own b:=by
  rintro l k b m y h1 (⟨id,c',hid⟩|⟨l',k',c,J⟩)
  ·have I := aK hid
   rw[show E0.loc=loc0 from rfl]at hid I;rw[hlen0]at I;rw[hloc0 id I]at hid;exact HE.cQ _ _ _ _ _ _ hid h1
  ·obtain ⟨q1, q2⟩ := r0n l' k' _ J
   exact y ((HE.ew _ _ _ _ _ _ _ h1 q2).1▸q1)
 refine⟨c,_,_,rfl,⟨rfl,rfl⟩,loc',r',Cx hout v' hSv g1,?_,hle⟩;refine⟨?_,?_,?_,fun b N=>dv (HE.X b N) g3.size,?_,HE.eR.bG hle.toC,?_,?_,?_,?_,?_⟩
 ·simp only[loc',nz,e9,ny,List.length_drop,Cy,hElen,hlen1]
 ·intro i j b m n hi B
  rcases nA (e:=e) hbL hi with⟨i1,_,i3⟩|⟨U,rfl⟩<;>rcases nA (e:=e) hbL B with⟨j1,_,j3⟩|⟨j',rfl⟩
  ·exact HE.inj _ _ _ _ _ i3 j3
  ·rw [eJ j'] at B
   exact(g3.own b (HE.lt _ _ _ i3).1 (hout0 i b m i1 i3) (.inl ⟨j',n,B⟩)).elim
  ·rw [eJ U] at hi
   exact(g3.own b (HE.lt _ _ _ j3).1 (hout0 j b n j1 j3) (.inl ⟨U,m,hi⟩)).elim
  ·rw [eJ U] at hi
   rw[eJ j']at B;rw[g2.inj _ _ _ _ _ hi B]
 ·intro i b m hi
  rcases nA (e:=e) hbL hi with⟨i1,_,i3⟩|⟨U,rfl⟩
  ·exact⟨dv (HE.lt _ _ _ i3).1 g3.size,(HE.lt _ _ _ i3).2⟩
  ·rw [eJ U] at hi
   exact⟨(g2.lt _ _ _ hi).1,fun N=>(g2.lt _ _ _ hi).2 (Or.inl N)⟩
 ·intro i o hi
  have hi':=hi;unfold nz at hi';rcases nA (e:=e) hb hi' with⟨i1,i2,i3⟩|⟨j,rfl⟩
  ·refine jI (E := E) (fun a _ hr => bR hle a hr) (Lout i i1 i2) (fun b n O => ?_) (fun l hl => ?_) (HE.obj i o (by rw [M]; exact i3))
   ·exact g3.same b (HE.lt _ _ _ O).1 (hout0 i b n i1 O)
   ·have y := labOut i o l i1 (by rw [M]; exact i3) hl
    exact⟨rn l y,fun k g m h1=>g3.same g (HE.cy _ _ _ _ h1).1 (satOut l k g m y h1)⟩
  ·have h1 := Hin j
   rw[show E'.H=nz e H H' from rfl,hi]at h1;obtain⟨o1,d,rfl⟩:=dQ.1 h1.symm;exact V9 hout (fun e=>cR.1 (hSo e) o1 (eO d)) (eJ j) (fun _ _ _=>rfl) (fun l hl=>⟨rp l (lab' j o1 l d hl),fun _ _ _ _=>rfl⟩) (g2.obj j o1 d)
 ·intro l k l' k' b m n h1 d
  have h1:(r' l)[k]? = some (some (some (b,m))):=h1;have d:(r' l')[k']? = some (some (some (b,n))):=d;by_cases y:pl l<;>by_cases hp':pl l'
  ·rw [rp l y] at h1
   rw[rp l' hp']at d;exact g2.ew l k l' k' b m n h1 d
  ·rw [rp l y] at h1
   rw[rn l' hp']at d;exact((g2.cy l k b m h1).2 (.inr (.inr ⟨l',k',n,hp',d⟩))).elim
  ·rw [rn l y] at h1
   rw[rp l' hp']at d;exact((g2.cy l' k' b n d).2 (.inr (.inr ⟨l,k,m,y,h1⟩))).elim
  ·rw [rn l y] at h1
   rw[rn l' hp']at d;exact HE.ew l k l' k' b m n h1 d
 ·intro i b m l k n hi h1
  have h1:(r' l)[k]? = some (some (some (b,n))):=h1;rcases nA (e:=e) hbL hi with⟨i1,_,i3⟩|⟨U,rfl⟩
  ·by_cases y : pl l
   ·rw [rp l y] at h1
    exact g3.own b (HE.lt _ _ _ i3).1 (hout0 i b m i1 i3) (.inr ⟨l,k,n,h1⟩)
   ·rw [rn l y] at h1
    exact HE.cQ _ _ _ _ _ _ i3 h1
  ·rw [eJ U] at hi
   by_cases y:pl l
   ·rw [rp l y] at h1
    exact g2.cQ _ _ _ _ _ _ hi h1
   ·rw [rn l y] at h1
    exact(g2.lt _ _ _ hi).2 (.inr (.inr ⟨l,k,n,y,h1⟩))
 ·intro l k b m h1
  have h1:(r' l)[k]? = some (some (some (b,m))):=h1;by_cases y:pl l
  ·rw [rp l y] at h1
   exact⟨(g2.cy _ _ _ _ h1).1,fun N=>(g2.cy _ _ _ _ h1).2 (.inl N)⟩
  ·rw [rn l y] at h1
   exact⟨dv (HE.cy _ _ _ _ h1).1 g3.size,(HE.cy _ _ _ _ h1).2⟩
 ·have inn:∀ (j:Nat) o,E'.H[e.at j]? = some o→∃ o1,H'[j]? = some o1∧o.label=o1.label:=fun j o h=>by
   rw[Hin j]at h;obtain⟨o1,d,rfl⟩:=dQ.1 h;exact⟨o1,d,Kh e j o1⟩
  intro i j o o' l hi B h1 d;have hi':=hi;have hj':=B;unfold nz at hi' hj';rcases nA (e:=e) hb hi' with⟨i1,i2,i3⟩|⟨U,rfl⟩<;>rcases nA (e:=e) hb hj' with⟨j1,j2,j3⟩|⟨j',rfl⟩
  ·exact HE.uniq i j o o' l (by rw[M]; exact i3) (by rw[M]; exact j3) h1 d
  ·obtain ⟨o1, V, a2⟩ := inn j' o' B
   exact(labOut i o l i1 (by rw[M]; exact i3) h1 (lab' j' o1 l V (by rw[←a2,d]))).elim
  ·obtain ⟨o1, V, a2⟩ := inn U o hi
   exact(labOut j o' l j1 (by rw[M]; exact j3) d (lab' U o1 l V (by rw[←a2,h1]))).elim
  ·obtain ⟨o1, V, a2⟩ := inn U o hi
   obtain⟨o2,b1,b2⟩:=inn j' o' B;rw[g2.uniq U j' o1 o2 l V b1 (by rw[←a2,h1]) (by rw[←b2,d])]
 ·intro l hnl k q W
  have W:(r' l)[k]? = some (some q):=W;by_cases y:pl l
  ·rw [rp l y] at W
   refine g2.fO l (fun j o h1 d=>?_) k q W;refine hnl (e.at j) (o.ch e j) ?_ (by rw[Kh,d]);rw[Hin j,show H'[j]? = some o from h1];rfl
  ·rw [rn l y] at W
   refine HE.fO l (fun i o h1 d=>?_) k q W;have I:=aK h1;rw[M]at I;by_cases hi:i∈e.ids
   ·obtain ⟨j, B, rfl⟩ := ow hi
    have hat':e.ids[j]=e.at j:=by
     have:=gq B;rw[bO B]at this;exact gd this
    rw[hat']at h1;obtain⟨o0,oo,V,a2,_⟩:=hobj0 j B;rw[h1]at a2;cases a2;exact y ⟨j,o0,V,by rw[←hlab j o0 o V (by rw[←M]; exact h1),d]⟩
   ·exact hnl i o (by rw[Hout i hi I]; exact h1) d
end Go.AL
