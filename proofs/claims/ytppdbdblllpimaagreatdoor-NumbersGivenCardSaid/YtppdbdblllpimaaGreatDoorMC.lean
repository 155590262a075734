/-
 What is proved here: owned objects of data,and what operations do to them,with what must hold so that they do it. No program in sight; no condition.
-/
import Derived.Test.YtppdbdblllpimaaGreatDoorMB
import Derived.Eval
import Derived.KernelRfl
set_option linter.all false
open Bool renaming and_eq_true→ay,false_eq_true→nL,not_eq_true'→ka,or_eq_true→jC,eq_iff_iff→g_
open ByteArray renaming empty→zb
open Decidable renaming byContradiction→Kv
open Go.Op renaming operands→gI
open Go.Utf8 renaming decode→pd
open Go.Value.slice renaming injEq→kJ
open List renaming length_map→bu,mem_map→bR,getElem?_map→cy,getElem?_append_left→dI,getElem?_append_right→ix,getElem?_set_ne→bL,all_eq_true→ep,getElem?_eq_getElem→bA,getD_eq_getElem?_getD→cG,getElem?_drop→sT,mem_cons→bC,mem_of_getElem?→fy,map_cons→dK,take_append_drop→sV,length_append→eY,mem_append→bV,replicate→cI,all_cons→nR,mem_cons_self→cJ,mem_cons_of_mem→bS,take_of_length_le→Ux,mem_filterMap→UF,nodup_cons→kg,map_set→DO,headD_cons→ph,length_nil→gK,map_nil→pj,length→pk,getElem_of_mem→zB,getElem?_inj→Ky
open Nat renaming le_refl→aI,lt_of_lt_of_le→dV,lt_or_ge→kI,zero_add→dJ,sub_zero→j8,beq→ab,zero_le→kL,eq_of_beq_eq_true→bD,sub_self→sY,ble→db,blt→eZ,ble_eq→zA,blt_eq→iA,le_of_ble_eq_true→kM,mul_one→Kw,lt_succ_of_lt→mN,lt_succ_self→DP,lt_irrefl→vR
open Option renaming map_eq_some_iff→fM,isSome_none→Uo,map_some→iO,map_none→UI,isSome_some→UJ
open Option.some renaming injEq→aX,inj→nT
open Prod.mk renaming injEq→be
namespace Go.AL
open Go
variable [Dr]
def a_:Int→Bool
 |.ofNat _=>true
 |.negSucc _=>false
def bM:Int→Int→Bool
 |.ofNat x,.ofNat y=>db x y
 |.ofNat _,.negSucc _=>false
 |.negSucc _,.ofNat _=>true
 |.negSucc x,.negSucc y=>db y x
def aB:Int→Int→Bool
 |.ofNat x,.ofNat y=>eZ x y
 |.ofNat _,.negSucc _=>false
 |.negSucc _,.ofNat _=>true
 |.negSucc x,.negSucc y=>eZ y x
def aw(n:Int):Bool:=bM (-9223372036854775808) n&&bM n 9223372036854775807
theorem l9(n:Int):a_ n=decide (0≤n):=by
 cases n with
 |ofNat x=>simp[a_]
 |negSucc x=>simp[a_]
theorem eD(a b:Int):bM a b=decide (a≤b):=by
 rw[g_];cases a<;>cases b<;>simp[bM,zA]<;>(try omega)
theorem dG(a b:Int):aB a b=decide (a<b):=by
 rw[g_];cases a<;>cases b<;>simp[aB,iA]<;>(try omega)
theorem L7{n:Int}:aw n=true ↔ -9223372036854775808≤n∧n≤9223372036854775807:=by
 simp[aw,eD]
def g0(r:List G):G:=r.headD default
def gi:List G→Nat→G
 |r,0=>r.headD default
 |r,i+1=>gi r.tail i
def G.row(g:G):List G:=g.rows.headD []
def kW:Kd→G→G→Bool
 |.int _,a,b=>a.int==b.int
 |.str,a,b=>a.str.toList==b.str.toList
 |.bool,a,b=>a.bool==b.bool
 |.list _,_,_=>false
def aq:List Kd→List G→List G→Bool
 | [],_,_=>true
 |k::ks,r,s=>kW k (r.headD default) (s.headD default)&&aq ks r.tail s.tail
inductive Ct where
 |one (k:Kd)
 |agg (ks:List Kd)
 deriving Inhabited
def Ct.ks:Ct→List Kd
 |.one k=>[k]
 |.agg ks=>ks
def Ct.av:Ct→List G→AV
 |.one k,r=>iP k (r.headD default)
 |.agg ks,r=>.agg (aG ks r)
theorem Ct.AE(k:Ct)(r:List G):(k.av r).closed=true:=by
 cases k with
 |one k=>cases k<;>rfl
 |agg ks=>simp only[Ct.av,AV.closed,gl]
inductive al where
 |raw (o:af)
 |vec (ks:List Kd) (ae:Nat) (rows:List (List G))
 |map (K V:Ct) (rows:List (List G)) (clock:Nat)
 |aQ (l:Nat) (K:Ct) (ks:List Kd) (rows:List (List G)) (clock:Nat)
def cC(K V:Ct)(rows:List (List G)):List (AV × AV × Nat):=rows.map fun r=>(K.av (gi r 0).row,V.av (gi r 1).row,(gi r 2).int.toNat)
def kX(r:List G):List (List G):=((gi r 1).row.headD default).rows
def kq(K:Ct)(ks:List Kd)(r:List G):AV × Option (List (List AV)) × Nat:=(K.av (gi r 0).row,(bif (gi r 3).bool then some ((kX r).map (aG ks)) else none),(gi r 2).int.toNat)
def gO(K:Ct)(ks:List Kd)(rows:List (List G)):List (AV × Option (List (List AV)) × Nat):=rows.map (kq K ks)
def al.den:al→af
 |.raw o=>o
 |.aQ l K ks rows clock=>.aQ l ks.length (gO K ks rows) clock
 |.map K V rows clock=>.map (cC K V rows) clock
 |.vec ks ae rows=>.vec ks.length ae (rows.map (aG ks))
def ai(H:List al):List af:=H.map al.den
structure ao where
 fr:List AV
 H:List al
def ao.den(s:ao):St:=⟨s.fr,ai s.H⟩
def ao.eval(s:ao)(o:Operand):AV:=St.eval ⟨s.fr,[]⟩ o
def ao.put(s:ao)(dst:Option Tmp)(v:AV)(H':List al):ao:=⟨jH s.fr dst v,H'⟩
theorem ao.ng(s:ao):s.den.eval=s.eval:=by
 funext o
 cases o<;>rfl
theorem bx{H:List al}{id:Nat}{o:al}(h:H[id]? = some o):(ai H)[id]? = some o.den:=by simp[ai,h]
theorem eE(H:List al)(id:Nat)(o:al):ai (H.set id o)=(ai H).set id o.den:=by simp[ai,DO]
theorem iV(H:List al)(o:al):ai (H++[o])=ai H++[o.den]:=by simp[ai]
theorem ef(H:List al):(ai H).length=H.length:=by simp[ai]
mutual
def Kd.same:Kd→Kd→Bool
 |.int k,.int k'=>decide (k=k')
 |.str,.str=>true
 |.bool,.bool=>true
 |.list ks,.list d=>Kd.ia ks d
 |_,_=>false
def Kd.ia:List Kd→List Kd→Bool
 | [],[]=>true
 |k::ks,k'::d=>k.same k'&&Kd.ia ks d
 |_,_=>false
end
mutual
theorem Kd.ry:∀{k k':Kd},k.same k'=true→k=k'
 |.int k,.int k',h=>by simp[Kd.same]at h; rw[h]
 |.str,.str,_=>rfl
 |.bool,.bool,_=>rfl
 |.list ks,.list d,h=>by simp only[Kd.same]at h; rw[Kd.jq h]
 |.int _,.str,h | .int _,.bool,h | .int _,.list _,h | .str,.int _,h | .str,.bool,h | .str,.list _,h=>by simp[Kd.same]at h
 |.bool,.int _,h | .bool,.str,h | .bool,.list _,h | .list _,.int _,h | .list _,.str,h | .list _,.bool,h=>by simp[Kd.same]at h
theorem Kd.jq:∀{k k':List Kd},Kd.ia k k'=true→k=k'
 | [],[],_=>rfl
 |k::ks,k'::d,h=>by simp only[Kd.ia,ay]at h; rw[Kd.ry h.1,Kd.jq h.2]
 | [],_::_,h|_::_,[],h=>by simp[Kd.ia]at h
end
def Ct.same:Ct→Ct→Bool
 |.one k,.one k'=>k.same k'
 |.agg ks,.agg d=>Kd.ia ks d
 |_,_=>false
theorem Ct.ry{K d:Ct}(h:K.same d=true):K=d:=by
 cases K<;>cases d<;>simp only[Ct.same]at h
 ·rw[Kd.ry h]
 ·cases h
 ·cases h
 ·rw[Kd.jq h]
def wB:Kd→AV→Option G
 |.int k,.lit (.int k' n)=>if k=k' then some (.i n) else none
 |.str,.lit (.string s)=>some (.s s)
 |.bool,.lit (.bool b)=>some (.t b)
 |.list ks,.listF d rows=>if Kd.ia ks d then some (.l rows) else none
 |_,_=>none
def gu:List Kd→List AV→Option (List G)
 | [],[]=>some []
 | k::ks,a::as=>match wB k a,gu ks as with
  |some g,some gs=>some (g::gs)
  |_,_=>none
 |_,_=>none
def om(ks:List Kd):List (List AV)→Option (List (List G))
 | []=>some []
 | r::rs=>match gu ks r,om ks rs with
  |some g,some gs=>some (g::gs)
  |_,_=>none
theorem E7{k:Kd}{a:AV}{g:G}(h:wB k a=some g):iP k g=a:=by
 unfold wB at h;split at h
 ·split at h
  ·rename_i e; cases h; subst e; rfl
  ·cases h
 ·cases h; rfl
 ·cases h; rfl
 ·split at h
  ·rename_i e; cases h; rw[Kd.jq e]; rfl
  ·cases h
 ·cases h
theorem kY:∀{ks:List Kd} {as:List AV} {gs:List G},gu ks as=some gs→aG ks gs=as
 | [],[],_,h=>by simp[gu]at h; subst h; rfl
 | k::ks,a::as,gs,h=>by
  simp only[gu]at h;split at h
  ·rename_i g q h1 d
   cases h;simp[aG,E7 h1,kY d]
  ·cases h
 | [],_::_,_,h|_::_,[],_,h=>by simp[gu]at h
theorem L8:∀{ks:List Kd} {as:List AV} {gs:List G},gu ks as=some gs→gs.length=ks.length∧as.length=ks.length
 | [],[],_,h=>by simp[gu]at h; subst h; exact⟨rfl,rfl⟩
 | k::ks,a::as,gs,h=>by
  simp only[gu]at h;split at h
  ·rename_i g q h1 d
   cases h;have:=L8 d;simp[this.1,this.2]
  ·cases h
 | [],_::_,_,h|_::_,[],_,h=>by simp[gu]at h
theorem tY{ks:List Kd}:∀{rs:List (List AV)} {gs:List (List G)},om ks rs=some gs→gs.map (aG ks)=rs
 | [],_,h=>by simp[om]at h; subst h; rfl
 | r::rs,gs,h=>by
  simp only[om]at h;split at h
  ·rename_i g k h1 d
   cases h;simp[kY h1,tY d]
  ·cases h
def wC:AV→Option Kd
 |.lit (.int k _)=>some (.int k)
 |.lit (.string _)=>some .str
 |.lit (.bool _)=>some .bool
 |.listF ks _=>some (.list ks)
 |_=>none
def rz:List AV→Option (List Kd)
 | []=>some []
 | a::as=>match wC a,rz as with
  |some k,some ks=>some (k::ks)
  |_,_=>none
def rA:List Kd→List G→List G
 | [],_=>[]
 |_::ks,r=>r.headD default::rA ks r.tail
theorem E8:∀(ks:List Kd) (r:List G),(rA ks r).length=ks.length
 | [],_=>rfl
 |_::ks,r=>by simp[rA,E8 ks]
def fP(ks:List Kd)(r:List G)(col:Nat)(gs:List G):List G:=(rA ks r).take col++gs++(rA ks r).drop (col+gs.length)
theorem L9:∀(ks:List Kd) (r:List G) (n:Nat),(aG ks r).take n=aG (ks.take n) r
 | [],_,n=>by simp[aG]
 |_::_,_,0=>by simp[aG]
 |k::ks,r,n+1=>by simp[aG,L9 ks]
theorem L_:∀(ks:List Kd) (r:List G) (n:Nat),(aG ks r).drop n=aG (ks.drop n) (r.drop n)
 | [],_,n=>by simp[aG]
 |_::_,_,0=>by simp
 |k::ks,r,n+1=>by simp[aG,L_ ks]
theorem E9:∀(ks d:List Kd) (r r':List G),r.length=ks.length→aG (ks++d) (r++r')=aG ks r++aG d r'
 | [],d,r,r',h=>by
  have:r=[]:=List.length_eq_zero_iff.1 h;subst this;simp[aG]
 | k::ks,d,r,r',h=>by
  cases r with
  |nil=>simp at h
  |cons x r=>simp[aG,E9 ks d r r' (by simpa using h)]
theorem E_:∀(ks:List Kd) (r:List G),aG ks (rA ks r)=aG ks r
 | [],_=>rfl
 |k::ks,r=>by simp[aG,rA,E_ ks]
theorem WE{ks:List Kd}{r gs:List G}{cs:List AV}{col:Nat} (h:gu ((ks.drop col).take cs.length) cs=some gs) (hc:col+cs.length≤ks.length) :
  aG ks (fP ks r col gs)=putCells (aG ks r) cs col:=by
 obtain⟨h1,q⟩:=L8 h;have hlen:((ks.drop col).take cs.length).length=cs.length:=by simp; omega
 have d:gs.length=cs.length:=by omega
 have hk:ks=(ks.take col++(ks.drop col).take cs.length)++ks.drop (col+cs.length):=by
  rw[List.append_assoc,←List.drop_drop,sV,sV]
 unfold fP putCells;have hn:=E8 ks r
 conv=>lhs; arg 1; rw[hk]
 rw[E9 _ _ _ _ (by simp[hn,d]; omega),E9 _ _ _ _ (by simp[hn]),kY h,d];congr 1
 ·congr 1
  rw[←E_ ks r,L9];have:∀(ks:List Kd) (r:List G) (n:Nat),ks.length≤n→aG ks (r.take n)=aG ks r:=by
   intro ks
   induction ks with
   |nil=>intros; rfl
   | cons k ks g =>
    intro r n hn;cases n with
    |zero=>simp at hn
    | succ n =>
     cases r with
     |nil=>rfl
     |cons x r=>simp[aG,g r n (by simpa using hn)]
  exact this _ _ _ (by simp; omega)
 ·conv => rhs; rw [← E_ ks r]
  rw[L_]
end Go.AL

namespace Go.AL
open Go
variable [Dr]
theorem Fa{ks:List Kd}{rows:List (List G)}{row:Nat}(h:row<rows.length):(rows.map (aG ks))[row]? = some (aG ks (rows.getD row [])):=by
 rw[cy,cG,bA h];rfl
def Fb(P:Program)(t:TypeId)(x:AV)(H:List al):Option (Bool × AV) :=
 match x with
 | .ptr id ae w row col=>match H[id]? with
  | some (.vec ks v rows)=>match eJ P t with
   | some (n,agg)=>if ae=v∧ks.length=w then (match gn agg n ((aG ks (rows.getD row [])).drop col) with
     |some u=>some (decide (row<rows.length),u)
     |none=>none) else none
   |none=>none
  | some (.raw (.box cells))=>match eJ P t with
   | some (n,agg)=>if ae=0∧row=0 then (match gn agg n (cells.drop col) with
     |some u=>some (true,u)
     |none=>none) else none
   |none=>none
  |_=>none
 | .cptr cells=>match eJ P t with
  | some (n,agg)=>match gn agg n cells with
   |some u=>some (true,u)
   |none=>none
  |none=>none
 |_=>none
theorem WG{P:Program}{t:TypeId}{x:AV}{H:List al}{b:Bool}{u:AV}(h:Fb P t x H=some (b,u))(q:b=true):gp P t x (ai H)=some u:=by
 unfold Fb at h;unfold gp;split at h
 ·rename_i id ae w row col
  split at h
  ·rename_i ks v rows hid
   split at h
   case h_2=>cases h
   rename_i n agg d;split at h
   case isFalse=>cases h
   rename_i hc;split at h
   case h_2=>cases h
   rename_i k g;simp only[aX,be]at h;obtain⟨h1,rfl⟩:=h;subst q;simp only[decide_eq_true_eq]at h1;rw[d];simp only[bx hid,al.den];rw[if_pos ⟨hc.1,hc.2⟩,Fa h1];exact g
  ·rename_i cells hid
   split at h
   case h_2=>cases h
   rename_i n agg d;split at h
   case isFalse=>cases h
   rename_i hc;split at h
   case h_2=>cases h
   rename_i k g;cases h;rw[d];simp only[bx hid,al.den];rw[if_pos hc];exact g
  ·cases h
 ·rename_i cells
  split at h
  case h_2=>cases h
  rename_i n agg d;split at h
  case h_2=>cases h
  rename_i k g;cases h;rw[d];exact g
 ·cases h
def tZ(P:Program)(t:TypeId)(x v:AV)(H:List al):Option (Bool × List al) :=
 match eJ P t,qW v,x with
 | some (n,_),some cs,.ptr id ae w row col =>
  if cs.length=n then
   match H[id]? with
   |some (.raw (.box cells))=>if ae=0∧row=0∧col+n≤cells.length then some (true,H.set id (.raw (.box (putCells cells cs col)))) else none
   | some (.vec ks u rows) =>
    if ae=u∧ks.length=w∧col+cs.length≤ks.length then
     match gu ((ks.drop col).take cs.length) cs with
     |some gs=>some (decide (row<rows.length),H.set id (.vec ks u (rows.set row (fP ks (rows.getD row []) col gs))))
     |none=>none
    else none
   |_=>none
  else none
 |_,_,_=>none
theorem L'{P:Program}{t:TypeId}{x v:AV}{H H':List al}{b:Bool}(h:tZ P t x v H=some (b,H'))(q:b=true):tG P t x v (ai H)=some (ai H'):=by
 unfold tZ at h;unfold tG;split at h
 case h_2=>cases h
 rename_i n F cs id ae w row col A g;rw[A,g];simp only[];split at h
 case isFalse=>cases h
 rename_i hn;rw[if_pos hn];split at h
 ·rename_i cells hid
  split at h
  case isFalse=>cases h
  rename_i hc;cases h;simp only[bx hid,al.den];rw[if_pos hc,eE];rfl
 ·rename_i ks u rows hid
  split at h
  case isFalse=>cases h
  rename_i hc;obtain⟨c1,c2,B⟩:=hc;split at h
  case h_2=>cases h
  rename_i gs d;simp only[aX,be]at h;obtain⟨h1,rfl⟩:=h;subst q;simp only[decide_eq_true_eq]at h1;simp only[bx hid,al.den];have k:AV.br cs=true:=by rw[←kY d]; exact gl _ _
  rw[if_pos ⟨c1,c2,k⟩,Fa h1];simp only[qT];rw[if_pos (by omega),eE];simp only[al.den,DO];rw[WE d B]
 ·cases h
def wD(sz:Nat)(x:AV)(H:List al)(want:Option (List Kd)):Option (Bool × List Kd × List (List G)) :=
 match x with
 | .nils | .lit (.slice none 0 0)=>match want with
  |some ks=>some (true,ks,[])
  |none=>none
 | .emptyS _=>match want with
  |some ks=>some (true,ks,[])
  |none=>none
 |.listF ks rows=>if ks.length=sz then some (true,ks,rows) else none
 | .list w rows=>match (match want with | some ks=>some ks | none=>rz (rows.headD [])) with
  | some ks=>match om ks rows with
   |some gs=>if w=sz then some (true,ks,gs) else none
   |none=>none
  |none=>none
 | .vec w id ae off n=>match H[id]? with
  |some (.vec ks v rows)=>if w=sz∧ks.length=w∧v=ae∧off=0 then some (ab n rows.length,ks,rows) else none
  |_=>none
 |.lit (.string s)=>if sz=1 then some (true,[.int .u8],s.data.toList.map fun b=>[.i b.toNat]) else none
 |_=>none
theorem Ma{sz:Nat}{x:AV}{H:List al}{want:Option (List Kd)}{b:Bool}{ks:List Kd}{rows:List (List G)}(h:wD sz x H want=some (b,ks,rows))(d:b=true) :
  lY sz x (ai H)=some (rows.map (aG ks)):=by
 unfold wD at h;split at h
 ·split at h
  ·cases h; rfl
  ·cases h
 ·split at h
  ·cases h; rfl
  ·cases h
 ·split at h
  ·cases h; rfl
  ·cases h
 ·split at h
  ·rename_i hw; cases h; simp only[lY]; rw[if_pos hw]
  ·cases h
 ·split at h
  ·split at h
   ·rename_i gs g
    split at h
    ·rename_i hw; cases h; simp only[lY]; rw[if_pos hw,tY g]
    ·cases h
   ·cases h
  ·cases h
 ·rename_i w id ae off n
  split at h
  ·rename_i q v rows' hid
   split at h
   ·rename_i hc
    obtain⟨c1,c2,k,rfl⟩:=hc;simp only[aX,be]at h;obtain⟨h1,rfl,rfl⟩:=h;subst d;have h1:=bD h1;simp only[lY,bx hid,al.den];rw[if_pos ⟨c1,c2,k,by simp; omega⟩];simp only[List.drop_zero];rw[Ux (by simp; omega)]
   ·cases h
  ·cases h
 ·rename_i s
  split at h
  ·rename_i hs
   cases h;simp only[lY];rw[if_pos hs];simp[aG,iP,G.int]
  ·cases h
 ·cases h
def Fc:SK→Bool
 |.slice _ _ _ | .str=>true
 |_=>false
theorem Fe{P:Program}{t xt:TypeId}{s x:AV}{H:List af}{e sz bO:Nat}{z:List Value}{new:List (List AV)}(hk:cw P t=.slice e sz bO)(g:eQ P e=some z)
  (d : Fc (cw P xt) = true) (hr : lY sz x H = some new) (hc : z.length = sz ∧ new.length ≤ 1048576 ∧ bO ≤ 1048576) : tD P t xt s x H =
   match s with
    |.nils | .lit (.slice none 0 0)=>some (.vec sz H.length 0 0 new.length,H++[.vec sz 0 new])
    | .vec w id ae off n=>match H[id]? with
     | some (.vec k v rows) =>
      if k=w∧w=sz∧v=ae∧off=0∧n=rows.length∧rows.length+new.length≤1048576 then
       some (.vec w id (ae+1) 0 (n+new.length),H.set id (.vec k (ae+1) (rows++new)))
      else none
     |_=>none
    |_=>none:=by
 unfold tD;simp only[hk,g,hr];cases q:cw P xt<;>simp only[q,Fc]at d⊢<;>first
  |(cases d; done)
  |(rw[if_pos hc]; rfl)
def AF(sz:Nat)(x:AV)(H:List al)(z:List Value):Option (Bool × List Kd × List (List G)) :=
 match x with
 |.emptyS _=>wD sz x H (rz (z.map .lit))
 |_=>wD sz x H none
theorem WH{sz:Nat}{x:AV}{H:List al}{z:List Value}{b:Bool}{ks:List Kd}{rows:List (List G)}(h:AF sz x H z=some (b,ks,rows))(d:b=true) :
  lY sz x (ai H)=some (rows.map (aG ks)):=by
 unfold AF at h;split at h<;>exact Ma h d
def wE(P:Program)(t xt:TypeId)(s x:AV)(H:List al):Option (Bool × AV × List al) :=
 match cw P t with
 | .slice e sz bO =>
  match eQ P e,Fc (cw P xt)with
  | some z,true =>
   if z.length=sz∧bO≤1048576 then
    match s with
    | .nils | .lit (.slice none 0 0)=>match AF sz x H z with
     |some (b,ks,new)=>if ks.length=sz then some (b&&decide (new.length≤1048576),.vec sz H.length 0 0 new.length,H++[.vec ks 0 new]) else none
     |none=>none
    | .vec w id ae off n=>match H[id]? with
     | some (.vec ks v rows)=>match wD sz x H (some ks) with
      | some (b,d,new) =>
       if ks.length=w∧w=sz∧v=ae∧off=0∧Kd.ia ks d=true then
        some (b&&(ab n rows.length&&decide (rows.length+new.length≤1048576)),.vec w id (ae+1) 0 (rows++new).length,H.set id (.vec ks (ae+1) (rows++new)))
       else none
      |none=>none
     |_=>none
    |_=>none
   else none
  |_,_=>none
 |_=>none
theorem WI{P:Program}{t xt:TypeId}{s x v:AV}{H H':List al}{b:Bool}(h:wE P t xt s x H=some (b,v,H'))(A:b=true) :
  tD P t xt s x (ai H)=some (v,ai H'):=by
 unfold wE at h;split at h
 case h_2=>cases h
 rename_i e sz bO hk;split at h
 case h_2=>cases h
 rename_i z k g;split at h
 case isFalse=>cases h
 rename_i hc;obtain⟨c1,c2⟩:=hc;have fresh:∀{b1:Bool} {ks:List Kd} {new:List (List G)},AF sz x H z=some (b1,ks,new) →
   (if ks.length=sz then some (b1&&decide (new.length≤1048576),AV.vec sz H.length 0 0 new.length,H++[al.vec ks 0 new]) else none)=some (b,v,H') →
   ∃ rows,lY sz x (ai H)=some rows∧rows.length≤1048576∧v=.vec sz (ai H).length 0 0 rows.length∧ai H'=ai H++[.vec sz 0 rows]:=by
  intro b1 ks new hs h;split at h
  case isFalse=>cases h
  rename_i F;simp only[aX,be]at h;obtain⟨h1,rfl,rfl⟩:=h;subst A;simp only[ay,decide_eq_true_eq]at h1;refine⟨_,WH hs h1.1,by simpa using h1.2,by simp[ef],?_⟩;rw[iV,al.den,F]
 split at h
 ·split at h
  case h_2=>cases h
  rename_i b1 ks new hs;obtain⟨rows,g1,g2,g3,g4⟩:=fresh hs h;rw[Fe hk k g g1 ⟨c1,g2,c2⟩,g3,g4]
 ·split at h
  case h_2=>cases h
  rename_i b1 ks new hs;obtain⟨rows,g1,g2,g3,g4⟩:=fresh hs h;rw[Fe hk k g g1 ⟨c1,g2,c2⟩,g3,g4];rfl
 ·rename_i w id ae off n
  split at h
  case h_2=>cases h
  rename_i ks U rows hid;split at h
  case h_2=>cases h
  rename_i b1 R new hs;split at h
  case isFalse=>cases h
  rename_i I;obtain⟨B,J,M,N,q⟩:=I;have q:=Kd.jq q;subst q;simp only[aX,be]at h;obtain⟨h1,rfl,rfl⟩:=h;subst A;simp only[ay,decide_eq_true_eq]at h1;obtain⟨h1,d,O⟩:=h1;have d:=bD d;rw[Fe hk k g (Ma hs h1) ⟨c1,by simp; omega,c2⟩];simp only[bu,bx hid,al.den];rw[if_pos ⟨B,J,M,N,d,O⟩,eE];simp only[al.den,List.map_append,eY,d,B]
 ·cases h
def pN(len:Nat)(lo hi:Option AV):Option (Bool × Nat × Nat) :=
 match lo,hi with
 |none,none=>some (true,0,len)
 |some (.lit (.int _ l)),none=>some (a_ l&&bM l (len:Int),l.toNat,len)
 |none,some (.lit (.int _ h))=>some (a_ h&&bM h (len:Int),0,h.toNat)
 |some (.lit (.int _ l)),some (.lit (.int _ h))=>some (a_ l&&(bM l h&&bM h (len:Int)),l.toNat,h.toNat)
 |_,_=>none
theorem AG{len:Nat}{lo hi:Option AV}{b:Bool}{l h:Nat}(d:pN len lo hi=some (b,l,h))(g:b=true):gM len lo hi=some (l,h):=by
 unfold pN at d;split at d
 ·cases d; simp[gM]
 ·rename_i l'
  simp only[aX,be]at d;obtain⟨h1,rfl,rfl⟩:=d;subst g;simp only[l9,eD,ay,decide_eq_true_eq]at h1;simp[gM,kR,h1.1,h1.2]
 ·rename_i h'
  simp only[aX,be]at d;obtain⟨h1,rfl,rfl⟩:=d;subst g;simp only[l9,eD,ay,decide_eq_true_eq]at h1;simp[gM,kR,h1.1,h1.2]
 ·rename_i l' _ h'
  simp only[aX,be]at d;obtain⟨h1,rfl,rfl⟩:=d;subst g;simp only[l9,eD,ay,decide_eq_true_eq]at h1;simp[gM,kR,h1.1,h1.2.1,h1.2.2]
 ·cases d
def t_(rows:List (List G))(lo hi:Option AV)(l h:Nat):List (List G) :=
 match lo,hi with
 |none,none=>rows
 |some _,none=>rows.drop l
 |none,some _=>rows.take h
 |some _,some _=>(rows.drop l).take (h-l)
theorem Mb{rows:List (List G)}{lo hi:Option AV}{b:Bool}{l h:Nat}(d:pN rows.length lo hi=some (b,l,h)):t_ rows lo hi l h=(rows.drop l).take (h-l):=by
 unfold pN at d;split at d
 ·cases d; simp[t_]
 ·simp only [aX, be] at d
  obtain⟨h1,rfl,rfl⟩:=d;simp only[t_];rw[Ux (by simp)]
 ·simp only [aX, be] at d
  obtain⟨h1,rfl,rfl⟩:=d;simp[t_]
 ·rfl
 ·cases d
def Ff(P:Program)(t:TypeId)(x:AV)(lo hi mx:Option AV):Option (Bool × AV) :=
 match mx with
 | some _=>match lX P t x lo hi mx with
  |some v=>some (true,v)
  |none=>none
 | none=>match cw P t,x with
  | .str,.lit (.string s)=>match pN s.size lo hi with
   |some (b,l,h)=>some (b,.lit (.string (s.extract l h)))
   |none=>none
  | .slice _ sz _,.listF ks rows=>match pN rows.length lo hi with
   |some (b,l,h)=>if ks.length=sz then some (b,.listF ks (t_ rows lo hi l h)) else none
   |none=>none
  | .slice _ sz _,.vec w id ae off n=>match pN n lo hi with
   |some (b,l,h)=>if w=sz then some (b,.vec w id ae (off+l) (h-l)) else none
   |none=>none
  | .slice _ sz _,.list w rows=>match w,tv rows with
   | 1,some gs=>match pN gs.length lo hi with
    |some (b,l,h)=>if 1=sz then some (b,.listF [.str] (t_ gs lo hi l h)) else none
    |none=>none
   | _,_=>match lX P t x lo hi none with
    |some v=>some (true,v)
    |none=>none
  | _,_=>match lX P t x lo hi none with
   |some v=>some (true,v)
   |none=>none
theorem WJ{P:Program}{t:TypeId}{x v:AV}{lo hi mx:Option AV}{b:Bool}(h:Ff P t x lo hi mx=some (b,v))(g:b=true):lX P t x lo hi mx=some v:=by
 unfold Ff at h;split at h
 ·split at h
  ·rename_i u hu; cases h; exact hu
  ·cases h
 ·split at h
  ·rename_i s hk
   split at h
   case h_2=>cases h
   rename_i k l q d;simp only[aX,be]at h;obtain⟨h1,rfl⟩:=h;subst h1;simp[lX,hk,AG d g]
  ·rename_i e sz bO ks rows hk
   split at h
   case h_2=>cases h
   rename_i k l q d;split at h
   case isFalse=>cases h
   rename_i hs;simp only[aX,be]at h;obtain⟨h1,rfl⟩:=h;subst h1;simp[lX,hk,AG d g,hs,Mb d]
  ·rename_i e sz bO w id ae off n hk
   split at h
   case h_2=>cases h
   rename_i k l q d;split at h
   case isFalse=>cases h
   rename_i hs;simp only[aX,be]at h;obtain⟨h1,rfl⟩:=h;subst h1;simp[lX,hk,AG d g,hs]
  ·rename_i e sz bO w rows hk
   split at h
   ·rename_i gs A
    split at h
    case h_2=>cases h
    rename_i k l q d;split at h
    case isFalse=>cases h
    rename_i hs;simp only[aX,be]at h;obtain⟨h1,rfl⟩:=h;subst h1;subst hs;have B:rows.length=gs.length:=by rw[←D6 A,bu]
    simp[lX,hk,B,AG d g,Mb d,zP,A]
   ·split at h
    ·rename_i u hu; cases h; exact hu
    ·cases h
  ·split at h
   ·rename_i u hu; cases h; exact hu
   ·cases h
def wF(P:Program)(t:TypeId)(l c:AV)(H:List al):Option (Bool × AV × List al) :=
 match cw P t,l,c with
 | .slice e sz bO,.lit (.int _ l),.lit (.int _ c) =>
  match eQ P e with
  | some z=>match rz (z_ P e z) with
   | some ks=>match gu ks (z_ P e z) with
    | some gs=>if z.length=sz∧0<sz∧bO≤1048576∧ks.length=sz then
      some (a_ l&&(bM l c&&bM c 1048576),.vec sz H.length 0 0 l.toNat,H++[.vec ks 0 (cI l.toNat gs)]) else none
    |none=>none
   |none=>none
  |none=>none
 |_,_,_=>none
theorem WK{P:Program}{t:TypeId}{l c v:AV}{H H':List al}{b:Bool}(h:wF P t l c H=some (b,v,H'))(g:b=true) :
  v8 P t l c (ai H)=some (v,ai H'):=by
 unfold wF at h;unfold v8;split at h
 case h_2=>cases h
 rename_i e sz bO _ l _ c hk;rw[hk];simp only[];split at h
 case h_2=>cases h
 rename_i z k;split at h
 case h_2=>cases h
 rename_i ks B;split at h
 case h_2=>cases h
 rename_i gs d;split at h
 case isFalse=>cases h
 rename_i hc;obtain⟨c1,c2,q,A⟩:=hc;simp only[aX,be]at h;obtain⟨h1,rfl,rfl⟩:=h;subst g;simp only[l9,eD,ay,decide_eq_true_eq]at h1;rw[k];simp only[];rw[if_pos ⟨c1,c2,h1.1,h1.2.1,h1.2.2,q⟩,iV,ef,al.den,A,List.map_replicate,kY d]
def wG(P:Program)(t:TypeId)(n:Nat)(parts:List (Nat × AV))(H:List al):Option (Bool × AV × List al) :=
 match cw P t with
 | .slice e _ _=>match eQ P e with
  | some z=>match rz (z.map .lit) with
   | some ks=>match tJ P t n parts with
    | some (.list sz rows)=>match om ks rows with
     |some gs=>if ks.length=sz then some (true,.vec sz H.length 0 0 gs.length,H++[.vec ks 0 gs]) else none
     |none=>none
    |_=>none
   |none=>none
  |none=>none
 |_=>none
theorem WL{P:Program}{t:TypeId}{n:Nat}{parts:List (Nat × AV)}{v:AV}{H H':List al}{b:Bool}(h:wG P t n parts H=some (b,v,H')) :
  wg P t n parts (ai H)=some (v,ai H'):=by
 unfold wG at h;split at h
 case h_2=>cases h
 split at h
 case h_2=>cases h
 split at h
 case h_2=>cases h
 rename_i ks k;split at h
 case h_2=>cases h
 rename_i sz rows g;split at h
 case h_2=>cases h
 rename_i gs d;split at h
 case isFalse=>cases h
 rename_i hc;cases h;unfold wg;rw[g];have e:=tY d;simp only[];rw[iV,ef,al.den,hc,e,←e,bu]
def Ct.read:Ct→AV→Option (List G)
 | .one k,a=>match wB k a with
  |some g=>some [g]
  |none=>none
 |.agg ks,.agg cells=>gu ks cells
 |_,_=>none
theorem Ct.rB{K:Ct}{a:AV}{r:List G}(h:K.read a=some r):K.av r=a:=by
 unfold Ct.read at h;split at h
 ·split at h
  ·rename_i g d
   cases h;exact E7 d
  ·cases h
 ·simp only[Ct.av,kY h]
 ·cases h
def wI(P:Program)(t:TypeId):Option (Ct × List G) :=
 match P.info? t with
 | some i=>match i.zero with
  | some (.agg cs)=>match cs.toList.all dL,rz (cs.toList.map .lit) with
   | true,some ks=>match gu ks (cs.toList.map .lit) with
    |some gs=>some (.agg ks,gs)
    |none=>none
   |_,_=>none
  | some v=>match wC (.lit v) with
   | some k=>match wB k (.lit v) with
    |some g=>some (.one k,[g])
    |none=>none
   | none=>match kp P t,Et P t with
    |some (.lit (.slice none 0 0)),some ks=>some (.one (.list ks),[.l []])
    |_,_=>none
  |none=>none
 |none=>none
theorem WM{P:Program}{t:TypeId}{v:AV}(h:kp P t=some v)(hn:v=.lit (.slice none 0 0)→False):pG P t=some v:=by
 unfold pG;rw[h];split
 ·rename_i e _
  cases e;exact(hn rfl).elim
 ·rename_i e _
  cases e;rfl
 ·rename_i e
  cases e
theorem WN{P:Program}{t:TypeId}{V:Ct}{z:List G}(h:wI P t=some (V,z)):pG P t=some (V.av z):=by
 unfold wI at h;have q:∀ v,kp P t=some v→(v=.lit (.slice none 0 0)→False)→pG P t=some v:=fun v h hn=>WM h hn;split at h
 case h_2=>cases h
 rename_i i hi;split at h
 ·rename_i cs d
  split at h
  ·rename_i ks h1 A
   split at h
   ·rename_i gs F
    cases h;refine q _ ?_ fun e=>by cases e
    unfold kp;rw[hi];simp only[];rw[d];simp only[AV.tk,h1,if_true,Ct.av,kY F]
   ·cases h
  ·cases h
 ·rename_i v B d
  split at h
  ·rename_i k hk
   split at h
   ·rename_i g I
    cases h;have e:=E7 I;simp only[Ct.av,ph,e];refine q _ ?_ fun e=>by
     simp only[AV.lit.injEq]at e;subst e;simp[wC]at hk
    unfold kp;rw[hi];simp only[];rw[d];simp only[];unfold AV.tk;split
    ·rename_i cs; exact(B cs rfl).elim
    ·simp[wC]at hk
    ·rfl
   ·cases h
  ·split at h
   ·rename_i ks h1 A
    cases h;unfold pG;rw[h1,A];rfl
   ·cases h
 ·cases h
def AH:SK→Kd→Bool
 |.int k,.int k'=>decide (k=k')
 |.str,.str=>true
 |.bool,.bool=>true
 |_,_=>false
def kZ:List SK→List Kd→Bool
 | [],[]=>true
 |a::as,b::d=>AH a b&&kZ as d
 |_,_=>false
def k8(P:Program)(d:TypeId)(K:Ct):Bool :=
 match flatK P n_ d with
 | some g=>kZ g K.ks&&(match K with
  |.one _ => !nZ (P.underlying d)
  |.agg _=>nZ (P.underlying d))
 |none=>false
def pO:Kd→G→Value
 |.int k,g=>.int k g.int
 |.str,g=>.string g.str
 |.bool,g=>.bool g.bool
 |.list _,_=>.bool false
def dA:List Kd→List G→List Value
 | [],_=>[]
 |k::ks,r=>pO k (r.headD default)::dA ks r.tail
theorem Mc:∀{d:List SK} {ks:List Kd} (r:List G),kZ d ks=true→nY (aG ks r)=some (dA ks r)∧cZ d (dA ks r)=true
  | [],[],_,_=>⟨rfl,rfl⟩
  | a::as,k::ks,r,h=>by
    simp only[kZ,ay]at h;obtain⟨h1,g⟩:=Mc r.tail h.2;have hk:=h.1;cases k<;>cases a<;>simp only[AH]at hk<;>first
      |(cases hk; done)
      | (simp only [aG, iP, nY, h1, dA, pO, cZ, g, Bool.and_true]
         simp_all[kindOk])
  | [],_::_,_,h|_::_,[],_,h=>by simp[kZ]at h
theorem Fg:∀{d:List SK} {ks:List Kd} (r s:List G),kZ d ks=true→dR (dA ks r) (dA ks s)=aq ks r s
 | [],[],_,_,_=>rfl
 | a::as,k::ks,r,s,h=>by
  simp only[kZ,ay]at h;have g:=Fg r.tail s.tail h.2;have hk:=h.1;simp only[dA,dR,aq,g];cases k<;>cases a<;>simp only[AH]at hk<;>first
   |(cases hk; done)
   |rfl
 | [],_::_,_,_,h|_::_,[],_,_,h=>by simp[kZ]at h
theorem pP{P:Program}{g:TypeId}{K:Ct}(h:k8 P g K=true)(r:List G):kT P g (K.av r)=some (dA K.ks r):=by
 unfold k8 at h;split at h
 case h_2=>cases h
 rename_i q A;simp only[ay]at h;obtain⟨h1,d⟩:=h;obtain⟨g1,g2⟩:=Mc r h1;unfold kT;rw[A];simp only[];cases K with
 | one k =>
  simp only[ka]at d;simp only[Ct.ks,dA]at g2⊢;have e:iP k (r.headD default)=.lit (pO k (r.headD default)):=by
   simp only[Ct.ks]at h1;cases q with
   |nil=>simp[kZ]at h1
   | cons a as =>
    simp only[kZ,ay]at h1;have hk:=h1.1;cases k<;>cases a<;>simp only[AH]at hk<;>first
     |(cases hk; done)
     |rfl
  simp only[Ct.av,e,g2,d,and_self,if_true]
 | agg ks =>
  simp only[Ct.av,Ct.ks]at g1 g2⊢;simp only[g1,g2,d,and_self,if_true]
def c_(ks:List Kd)(key:List G):List (List G)→Nat→Option (Nat × List G)
 | [],_=>none
 |r::rs,i=>bif aq ks key (gi r 0).row then some (i,r) else c_ ks key rs (i+1)
def bp(ks:List Kd)(rows:List (List G))(key:List G):Bool:=(c_ ks key rows 0).isSome
def bZ(ks:List Kd)(rows:List (List G))(key z:List G):List G:=match c_ ks key rows 0 with
 |some (_,r)=>(gi r 1).row
 |none=>z
def bK(ks:List Kd)(rows:List (List G))(key val:List G)(clock:Nat):List (List G):=match c_ ks key rows 0 with
 |some (i,r)=>rows.set i [.l [key],.l [val],.i (gi r 2).int]
 |none=>rows++[[.l [key],.l [val],.i clock]]
def cU(ks:List Kd)(rows:List (List G))(key:List G)(clock:Nat):Nat:=bif bp ks rows key then clock else clock+1
def jJ(ks:List Kd)(rows:List (List G))(key:List G):List (List G):=match c_ ks key rows 0 with
 |some (i,_)=>rows.eraseIdx i
 |none=>rows
theorem AI{P:Program}{g:TypeId}{K V:Ct}(h:k8 P g K=true)(key:List G):∀(rows:List (List G)) (i:Nat),f_ P g (dA K.ks key) (cC K V rows) i =
  some ((c_ K.ks key rows i).map fun p=>(p.1,V.av (gi p.2 1).row))
 | [],i=>rfl
 | r::rs,i=>by
  have q:=AI (V:=V) h key rs (i+1);have k:∃ d,kZ d K.ks=true:=by
   unfold k8 at h;split at h
   ·simp only[ay]at h; exact⟨_,h.1⟩
   ·cases h
  obtain⟨d,hs⟩:=k;simp only[cC,dK,f_,pP h,Fg _ _ hs,c_];cases aq K.ks key (gi r 0).row with
  |true=>rfl
  |false=>exact q
theorem wJ{ks:List Kd}{key:List G}:∀{rows:List (List G)} {i j:Nat} {r:List G},c_ ks key rows i=some (j,r)→i≤j∧rows[j-i]? = some r
 | [],_,_,_,h=>by simp[c_]at h
 | x::rs,i,j,r,h=>by
  simp only[c_]at h;cases d:aq ks key (gi x 0).row with
  | true =>
   rw[d]at h;cases h;exact⟨aI _,by simp⟩
  | false =>
   rw[d]at h;obtain⟨h1,g⟩:=wJ h;refine⟨by omega,?_⟩;rw[show j-i=(j-(i+1))+1 from by omega];simpa using g
def Fh(P:Program)(t:TypeId)(m k:AV)(ok:Bool)(H:List al):Option (Bool × AV) :=
 match fD P t,m with
 | some (d,g),.map id=>match H[id]? with
  | some (.map K V rows _)=>match K.read k,wI P g with
   | some key,some (q,z)=>match k8 P d K&&V.same q with
    | true=>some (true,match ok with
      |true=>.tuple [V.av (bZ K.ks rows key z),.lit (.bool (bp K.ks rows key))]
      |false=>V.av (bZ K.ks rows key z))
    |false=>none
   |_,_=>none
  |_=>none
 |_,_=>none
theorem Md{P:Program}{t:TypeId}{m k v:AV}{ok b:Bool}{H:List al}(h:Fh P t m k ok H=some (b,v)):l5 P t m k ok (ai H)=some v:=by
 unfold Fh at h;unfold l5;split at h
 case h_2=>cases h
 rename_i q A id d;rw[d];simp only[];split at h
 case h_2=>cases h
 rename_i K V rows cl hid;rw[bx hid];simp only[al.den];split at h
 case h_2=>cases h
 rename_i key B z hk g;split at h
 case h_2=>cases h
 rename_i hc;simp only[ay]at hc;have e:=Ct.ry hc.2;subst e;rw[←Ct.rB hk,pP hc.1,WN g];simp only[AI hc.1];cases h;unfold bZ bp;cases c_ K.ks key rows 0 with
 |none=>cases ok<;>rfl
 |some p=>cases ok<;>rfl
def ua(P:Program)(t:TypeId)(m k v:AV)(H:List al):Option (Bool × List al) :=
 match fD P t,m with
 | some (d,_),.map id=>match H[id]? with
  | some (.map K V rows cl)=>match K.read k,V.read v with
   | some key,some val=>match k8 P d K with
    |true=>some (true,H.set id (.map K V (bK K.ks rows key val cl) (cU K.ks rows key cl)))
    |false=>none
   |_,_=>none
  |_=>none
 |_,_=>none
def dX(ks:List Kd)(rows:List (List G))(key:List G):List (List G):=match c_ ks key rows 0 with
 |some (_,r)=>kX r
 |none=>[]
def ft(ks:List Kd)(rows:List (List G))(key:List G):Bool:=match c_ ks key rows 0 with
 |some (_,r)=>(gi r 3).bool
 |none=>true
def gv(ks:List Kd)(rows:List (List G))(key:List G):List (List G):=match c_ ks key rows 0 with
 |some (i,r)=>rows.set i [gi r 0,gi r 1,gi r 2,.t false]
 |none=>rows
def jK(ks:List Kd)(rows:List (List G))(key:List G)(val:List (List G))(clock:Nat):List (List G):=match c_ ks key rows 0 with
 |some (i,r)=>rows.set i [.l [key],.l [[.l val]],.i (gi r 2).int,.t true]
 |none=>rows++[[.l [key],.l [[.l val]],.i clock,.t true]]
def wK(P:Program)(t:TypeId)(m k:AV)(H:List al):Option (Bool × AV × List al) :=
 match fD P t,m with
 | some (g,d),.map id=>match H[id]? with
  | some (.aQ l K ks rows cl)=>match K.read k,Ao P d,kp P d with
   | some key,some w',some (.lit (.slice none 0 0))=>match ab w' ks.length&&k8 P g K with
    |true=>some (ft K.ks rows key,.vec ks.length H.length 0 0 (dX K.ks rows key).length,H.set id (.aQ l K ks (gv K.ks rows key) cl)++[.vec ks 0 (dX K.ks rows key)])
    |false=>none
   |_,_,_=>none
  |_=>none
 |_,_=>none
def wM(P:Program)(t:TypeId)(m k v:AV)(H:List al):Option (Bool × List al) :=
 match fD P t,m,v with
 | some (q,_),.map id,.vec w j ae off n=>match H[id]?,H[j]? with
  | some (.aQ l K ks rows cl),some (.vec g d rws)=>match K.read k with
   | some key=>match k8 P q K&&(Kd.ia ks g&&(ab w ks.length&&(ab ae d&&ab off 0))) with
    |true=>some (ab n rws.length,(H.set id (.aQ l K ks (jK K.ks rows key rws cl) (cU K.ks rows key cl))).set j (.raw .dead))
    |false=>none
   |none=>none
  |_,_=>none
 |_,_,_=>none
def Me(ks:List Kd)(rows:List (List G))(key:List G)(clock:Nat):Nat:=match c_ ks key rows 0 with
 |some (_,r)=>(gi r 2).int.toNat
 |none=>clock
def Mf(ks:List Kd)(rows:List (List G))(key:List G)(clock:Nat):List (List G):=match c_ ks key rows 0 with
 |some (i,r)=>rows.set i [.l [key],gi r 1,gi r 2,.t false]
 |none=>rows++[[.l [key],.l [[.l []]],.i clock,.t false]]
def wN(P:Program)(t:TypeId)(m k:AV)(H:List al):Option (Bool × AV × List al) :=
 match fD P t,m with
 | some (g,d),.map id=>match H[id]? with
  | some (.aQ l K ks rows cl)=>match K.read k,Ao P d,kp P d with
   | some key,some w',some (.lit (.slice none 0 0))=>match ab w' ks.length&&k8 P g K with
    | true=>some (ft K.ks rows key,.tuple [.vec ks.length H.length 0 0 (dX K.ks rows key).length,.lit (.int .i64 (Me K.ks rows key cl:Nat))],
      H.set id (.aQ l K ks (Mf K.ks rows key cl) (cU K.ks rows key cl))++[.vec ks 0 (dX K.ks rows key)])
    |false=>none
   |_,_,_=>none
  |_=>none
 |_,_=>none
def oq(st:Int):List (List G)→Nat→Option (Nat × List G)
 | [],_=>none
 |r::rs,i=>bif ((gi r 2).int.toNat:Int)==st then some (i,r) else oq st rs (i+1)
def Mg(rows:List (List G))(st:Int)(val:List (List G)):List (List G):=match oq st rows 0 with
 |some (i,r)=>rows.set i [gi r 0,.l [[.l val]],gi r 2,.t true]
 |none=>rows
def Mh(rows:List (List G))(st:Int):Bool:=(oq st rows 0).isSome
def wO(m s v:AV)(H:List al):Option (Bool × List al) :=
 match m,s,v with
 | .map id,.lit (.int .i64 st),.vec w j ae off n=>match H[id]?,H[j]? with
  | some (.aQ l K ks rows cl),some (.vec g d rws)=>match Kd.ia ks g&&(ab w ks.length&&(ab ae d&&ab off 0)) with
   |true=>some (Mh rows st&&ab n rws.length,(H.set id (.aQ l K ks (Mg rows st rws) cl)).set j (.raw .dead))
   |false=>none
  |_,_=>none
 |_,_,_=>none
theorem AJ{P:Program}{g:TypeId}{K:Ct}{ks:List Kd}(h:k8 P g K=true)(key:List G):∀(rows:List (List G)) (i:Nat),f_ P g (dA K.ks key) (c9 (gO K ks rows)) i =
  some ((c_ K.ks key rows i).map fun p=>(p.1,AV.undef))
 | [],i=>rfl
 | r::rs,i=>by
  have q:=AJ (ks:=ks) h key rs (i+1);have k:∃ d,kZ d K.ks=true:=by
   unfold k8 at h;split at h
   ·simp only[ay]at h; exact⟨_,h.1⟩
   ·cases h
  obtain⟨d,hs⟩:=k;simp only[gO,c9,kq,dK,f_,pP h,Fg _ _ hs,c_];cases aq K.ks key (gi r 0).row with
  |true=>rfl
  |false=>exact q
theorem wP{K:Ct}{ks:List Kd}{rows:List (List G)}{i:Nat}{r:List G}(h:rows[i]? = some r):(gO K ks rows)[i]? = some (kq K ks r):=by
 unfold gO;rw[cy,h];rfl
theorem AK(K:Ct)(ks:List Kd)(rows:List (List G))(i:Nat)(r:List G):gO K ks (rows.set i r)=(gO K ks rows).set i (kq K ks r):=by
 simp[gO,DO]
theorem WO{P:Program}{t:TypeId}{m k v:AV}{b:Bool}{H H':List al}(h:wK P t m k H=some (b,v,H'))(I:b=true):wh P t m k (ai H)=some (v,ai H')∧l5 P t m k false (ai H)=none:=by
 unfold wK at h;unfold wh l5;split at h
 case h_2=>cases h
 rename_i N O id J;rw[J];simp only[];split at h
 case h_2=>cases h
 rename_i l K ks rows cl hid;rw[bx hid];simp only[al.den];split at h
 case h_2=>cases h
 rename_i key w' hk hw M;split at h
 case h_2=>cases h
 rename_i hc;simp only[ay]at hc;obtain⟨g,q⟩:=hc;have e:=bD g;simp only[aX,be]at h;obtain⟨d,rfl,rfl⟩:=h;rw[I]at d;rw[←Ct.rB hk,pP q,hw,M];simp only[g,AJ q,and_true];unfold ft at d;unfold dX gv;cases A:c_ K.ks key rows 0 with
 | none =>
  simp only[UI,iV,eE,al.den,ef,gK,pj]
 | some p =>
  obtain⟨i,r⟩:=p;rw[A]at d;simp only[]at d;obtain⟨_,B⟩:=wJ A;rw[j8]at B;have F:pJ (gO K ks rows) i=some (K.av (gi r 0).row,(kX r).map (aG ks),(gi r 2).int.toNat):=by
   unfold pJ;rw[wP B];simp only[kq,d,cond_true]
  simp only[iO,F,iV,eE,al.den,ef,bu,AK];rfl
theorem WQ{P:Program}{t:TypeId}{m k v:AV}{b:Bool}{H H':List al}(h:wM P t m k v H=some (b,H'))(J:b=true):wk P t m k v (ai H)=some (ai H')∧pH P t m k v (ai H)=none:=by
 unfold wM at h;unfold wk pH;split at h
 case h_2=>cases h
 rename_i kt et id w j ae off n M;rw[M];simp only[];split at h
 case h_2=>cases h
 rename_i l K ks rows cl ks2 ver' rws hid N;rw[bx hid,bx N];simp only[al.den];split at h
 case h_2=>cases h
 rename_i key hk;split at h
 case h_2=>cases h
 rename_i hc;simp only[ay]at hc;obtain⟨g,A,B,F,I⟩:=hc;have O:=Kd.jq A;subst O;have R:=bD B;have U:=bD F;have W:=bD I;subst R U W;simp only[aX,be]at h;obtain⟨d,rfl⟩:=h;rw[J]at d;have d:=bD d;subst d;rw[←Ct.rB hk,pP g];simp only[Ct.AE,bu,and_self,if_true,AJ g,and_true];unfold jK cU bp;cases Y:c_ K.ks key rows 0 with
 | none =>
  simp only[UI,eE,al.den,Uo,cond_false];simp[gO,kq,kX,gi,G.row,G.rows,G.int,G.bool]
 | some p =>
  obtain⟨i,r⟩:=p;obtain⟨_,q⟩:=wJ Y;rw[j8]at q;simp only[iO,EA (wP q),eE,al.den,AK,UJ,cond_true];simp[kq,kX,gi,G.row,G.rows,G.int,G.bool]
theorem WR{P:Program}{t:TypeId}{m k v:AV}{b:Bool}{H H':List al}(h:wN P t m k H=some (b,v,H'))(I:b=true):wo P t m k (ai H)=some (v,ai H'):=by
 unfold wN at h;unfold wo;split at h
 case h_2=>cases h
 rename_i N O id J;rw[J];simp only[];split at h
 case h_2=>cases h
 rename_i l K ks rows cl hid;rw[bx hid];simp only[al.den];split at h
 case h_2=>cases h
 rename_i key w' hk hw M;split at h
 case h_2=>cases h
 rename_i hc;simp only[ay]at hc;obtain⟨B,g⟩:=hc;simp only[aX,be]at h;obtain⟨d,rfl,rfl⟩:=h;rw[I]at d;rw[←Ct.rB hk,pP g,hw,M];simp only[B,Ct.AE,Bool.and_self,AJ g];unfold ft at d;unfold dX Mf Me cU bp;cases q:c_ K.ks key rows 0 with
 | none =>
  simp only[UI,iV,eE,al.den,ef,gK,pj,Uo,cond_false,goInt];simp[gO,kq,kX,gi,G.row,G.rows,G.int,G.bool]
 | some p =>
  obtain⟨i,r⟩:=p;rw[q]at d;simp only[]at d;obtain⟨_,A⟩:=wJ q;rw[j8]at A;have F:pJ (gO K ks rows) i=some (K.av (gi r 0).row,(kX r).map (aG ks),(gi r 2).int.toNat):=by
   unfold pJ;rw[wP A];simp only[kq,d,cond_true]
  simp only[iO,F,iV,eE,al.den,ef,bu,AK,UJ,cond_true,goInt];rfl
theorem Mi{st:Int}:∀{rows:List (List G)} {i j:Nat} {r:List G},oq st rows i=some (j,r)→i≤j∧rows[j-i]? = some r
 | [],_,_,_,h=>by simp[oq]at h
 | x::rs,i,j,r,h=>by
  simp only[oq]at h;cases d:((gi x 2).int.toNat:Int)==st with
  | true =>
   rw[d]at h;cases h;simp
  | false =>
   rw[d]at h;obtain⟨h1,g⟩:=Mi h;refine⟨by omega,?_⟩;rw[show j-i=(j-(i+1))+1 from by omega];simpa using g
theorem Mj{K:Ct}{ks:List Kd}{st:Int}:∀{rows:List (List G)} {i:Nat},(oq st rows i).map (·.1)=(rf (gO K ks rows) st).map (·+i)
 | [],_=>rfl
 | x::rs,i=>by
  have d:=Mj (K:=K) (ks:=ks) (st:=st) (rows:=rs) (i:=i+1);unfold rf at d⊢;simp only[oq,gO,dK,List.findIdx?_cons,kq]at d⊢;cases g:((gi x 2).int.toNat:Int)==st with
  |true=>simp
  | false =>
   simp only[cond_false,d,nL,if_false,Option.map_map];congr 1
   funext n
   simp only[Function.comp];omega
theorem WS{m s v:AV}{b:Bool}{H H':List al}(h:wO m s v H=some (b,H'))(N:b=true):wq m s v (ai H)=some (ai H'):=by
 unfold wO at h;unfold wq;split at h
 case h_2=>cases h
 rename_i id st w j ae off n;split at h
 case h_2=>cases h
 rename_i l K ks rows cl ks2 ver' rws hid O;simp only[];rw[bx hid,bx O];simp only[al.den];split at h
 case h_2=>cases h
 rename_i hc;simp only[ay]at hc;obtain⟨F,I,J,M⟩:=hc;have R:=Kd.jq F;subst R;have U:=bD I;have W:=bD J;have Y:=bD M;subst U W Y;simp only[aX,be]at h;obtain⟨k,rfl⟩:=h;rw[N]at k;simp only[ay]at k;obtain⟨d,g⟩:=k;have g:=bD g;subst g;simp only[bu,and_self,if_true];unfold Mh at d;unfold Mg;cases q:oq st rows 0 with
 |none=>rw[q]at d; cases d
 | some p =>
  obtain⟨i,r⟩:=p;obtain⟨_,A⟩:=Mi q;rw[j8]at A;have hi:rf (gO K ks rows) st=some i:=by
   have:=Mj (K:=K) (ks:=ks) (st:=st) (rows:=rows) (i:=0);rw[q]at this;cases B:rf (gO K ks rows) st with
   |none=>rw[B]at this; cases this
   |some y=>rw[B]at this; simp at this; rw[this]
  rw[hi];simp only[wP A,kq,eE,al.den,AK];simp[kX,gi,G.row,G.rows,G.bool]
theorem WT(K V:Ct)(rows:List (List G))(i:Nat)(r:List G):cC K V (rows.set i r)=(cC K V rows).set i (K.av (gi r 0).row,V.av (gi r 1).row,(gi r 2).int.toNat):=by
 simp[cC,DO]
theorem WU{α:Type}{l:List α}{i:Nat}{x:α}(f:α→α)(h:l[i]? = some x):l.modify i f=l.set i (f x):=by
 apply List.ext_getElem?;intro j;rw[List.getElem?_modify,List.getElem?_set];by_cases e:i=j
 ·subst e
  rw[if_pos rfl,if_pos (aM h),h];simp
 ·rw [if_neg e]
  simp[e]
theorem Mk{P:Program}{t:TypeId}{m k v:AV}{b:Bool}{H H':List al}(h:ua P t m k v H=some (b,H')):pH P t m k v (ai H)=some (ai H'):=by
 unfold ua at h;unfold pH;split at h
 case h_2=>cases h
 rename_i F I id q;rw[q];simp only[];split at h
 case h_2=>cases h
 rename_i K V rows cl hid;rw[bx hid];simp only[al.den];split at h
 case h_2=>cases h
 rename_i key val hk A;split at h
 case h_2=>cases h
 rename_i hc;cases h;rw[←Ct.rB hk,←Ct.rB A,pP hc];simp only[Ct.AE,and_self,if_true,AI hc,eE,al.den];unfold bK cU bp;cases B:c_ K.ks key rows 0 with
 |none=>simp[cC,gi,G.row,G.rows,G.int]
 | some p =>
  obtain⟨_,d⟩:=wJ (r:=p.2) (j:=p.1) B;rw[j8]at d;have g:(cC K V rows)[p.1]? = some (K.av (gi p.2 0).row,V.av (gi p.2 1).row,(gi p.2 2).int.toNat):=by simp[cC,d]
  simp only[iO,WU _ g,WT,UJ,cond_true];simp[gi,G.row,G.rows,G.int]
def wQ(P:Program)(t:TypeId)(m k:AV)(H:List al):Option (Bool × List al) :=
 match fD P t,m with
 | some (d,_),.map id=>match H[id]? with
  | some (.map K V rows cl)=>match K.read k,k8 P d K with
   |some key,true=>some (true,H.set id (.map K V (jJ K.ks rows key) cl))
   |_,_=>none
  |_=>none
 |_,_=>none
theorem Ml{α β:Type}(f:α→β):∀(l:List α) (i:Nat),(l.map f).eraseIdx i=(l.eraseIdx i).map f
 | [],_=>by simp
 |_::_,0=>by simp
 |_::l,i+1=>by simp[Ml f l i]
theorem WV{P:Program}{t:TypeId}{m k:AV}{b:Bool}{H H':List al}(h:wQ P t m k H=some (b,H')):wb P t m k (ai H)=some (ai H'):=by
 unfold wQ at h;unfold wb;split at h
 case h_2=>cases h
 rename_i g q id d;rw[d];simp only[];split at h
 case h_2=>cases h
 rename_i K V rows cl hid;rw[bx hid];simp only[al.den];split at h
 case h_2=>cases h
 rename_i key hk hc;cases h;rw[←Ct.rB hk,pP hc];simp only[AI hc,eE,al.den];unfold jJ;cases A:c_ K.ks key rows 0 with
 |none=>rfl
 |some p=>simp only[iO,cC,Ml]
def wR(P:Program)(t:TypeId)(x:AV)(H:List al):Option (Bool × List al) :=
 match cw P t,x with
 | .slice e sz _,.vec w id ae off n=>match eQ P e,H[id]? with
  | some z,some (.vec ks v rows)=>match gu ks (z.map .lit) with
   | some d=>if ks.length=w∧w=sz∧v=ae∧z.length=sz∧0<sz then
     some (db (off+n) rows.length,H.set id (.vec ks v (rows.take off++cI n d++rows.drop (off+n)))) else none
   |none=>none
  |_,_=>none
 |_,_=>none
theorem WW{P:Program}{t:TypeId}{x:AV}{b:Bool}{H H':List al}(h:wR P t x H=some (b,H'))(k:b=true):we P t x (ai H)=some (ai H'):=by
 unfold wR at h;unfold we;split at h
 case h_2=>cases h
 rename_i e sz bO w id ae off n hk;rw[hk];simp only[];split at h
 case h_2=>cases h
 rename_i z ks v rows q hid;rw[q,bx hid];simp only[al.den];split at h
 case h_2=>cases h
 rename_i B g;split at h
 case isFalse=>cases h
 rename_i hc;obtain⟨rfl,rfl,rfl,h1,A⟩:=hc;simp only[aX,be]at h;obtain⟨d,rfl⟩:=h;subst k;have d:=kM d;simp only[h1,A,bu,d,and_self,if_true,eE,al.den,aX];rw[←kY g];simp[List.map_take,List.map_drop]
def wS(P:Program)(t xt:TypeId)(s x:AV)(H:List al):Option (Bool × AV × List al) :=
 match cw P t,cw P xt,s,x with
 | .slice e sz bO,.int _,.lit (.slice none 0 0),.lit (.int _ n)=>match eQ P e with
  | some z=>match rz (z.map .lit) with
   | some ks=>match gu ks (z.map .lit) with
    | some d=>if z.length=sz∧0<sz∧bO≤1048576∧ks.length=sz then
      some (aB 0 n&&bM n 1048576,.vec sz H.length 0 0 n.toNat,H++[.vec ks 0 (cI n.toNat d)]) else none
    |none=>none
   |none=>none
  |none=>none
 |_,_,_,_=>none
theorem WX{P:Program}{t xt:TypeId}{s x v:AV}{b:Bool}{H H':List al}(h:wS P t xt s x H=some (b,v,H'))(A:b=true):q_ P t xt s x (ai H)=some (v,ai H'):=by
 unfold wS at h;unfold q_;split at h
 case h_2=>cases h
 rename_i e sz bO k k' n hk g;rw[hk,g];simp only[];split at h
 case h_2=>cases h
 rename_i z B;rw[B];simp only[];split at h
 case h_2=>cases h
 rename_i ks M;split at h
 case h_2=>cases h
 rename_i N q;split at h
 case isFalse=>cases h
 rename_i hc;obtain⟨h1,F,I,J⟩:=hc;simp only[aX,be]at h;obtain⟨d,rfl,rfl⟩:=h;subst A;simp only[dG,eD,ay,decide_eq_true_eq]at d;simp only[h1,F,I,d.1,d.2,and_self,if_true,iV,al.den,ef,J,aX,be,true_and];rw[←kY q];simp
def ub(P:Program)(r:Operand→AV)(H:List al):Op→Option (Bool × AV × List al)
 | .alloc t=>match zX P t with
  |some e=>if tH (ai H) 0=true then some (true,.ptr H.length 0 0 0 0,H++[.raw (.fc 0 t e zb)]) else none
  | none=>match eQ P t with
   |some z=>some (true,.ptr H.length 0 0 0 0,H++[.raw (.box (z.map .lit))])
   |none=>none
 | .box _ x=>match qW (r x) with
  |some cs=>some (true,.ptr H.length 0 0 0 0,H++[.raw (.box cs)])
  |none=>none
 | .store t a x=>match tZ P t (r a) (r x) H with
  |some (b,H')=>some (b,.undef,H')
  |none=>none
 |.makeSlice t l c=>wF P t (r l) (r c) H
 |.buildSlice t n parts=>wG P t n (parts.toList.map fun p=>(p.1,r p.2)) H
 | .range t x=>match cw P t,r x with
  |.str,.lit (.string s)=>some (true,.ptr H.length 0 0 0 0,H++[.raw (.iter s 0)])
  |_,_=>none
 | .next it true=>match r it with
  | .ptr id 0 _ 0 0=>match H[id]? with
   | some (.raw (.iter s pos))=>if pos<s.size then some (true,.tuple [.lit (.bool true),.lit (goInt pos),.lit (.int .i32 (pd s pos).1)],H.set id (.raw (.iter s (pos+(pd s pos).2))))
     else some (true,.tuple [.lit (.bool false)],H)
   |_=>none
  |_=>none
 | .makeMap t none=>match fD P t with
  | some (d,g)=>match wI P d,wI P g with
   |some (K,_),some (V,_)=>some (true,.map H.length,H++[.map K V [] 0])
   |_,_=>none
  |none=>none
 | .mapUpdate t m k v=>match ua P t (r m) (r k) (r v) H with
  |some (b,H')=>some (b,.undef,H')
  | none=>match wM P t (r m) (r k) (r v) H with
   |some (b,H')=>some (b,.undef,H')
   |none=>none
 |.lookup t m k false=>wK P t (r m) (r k) H
 |.mapEntry t m k=>wN P t (r m) (r k) H
 | .entryStore _ m s x=>match wO (r m) (r s) (r x) H with
  |some (b,H')=>some (b,.undef,H')
  |none=>none
 | .insert t m k v=>match ua P t (r m) (r k) (r v) H with
  |some (b,H')=>some (b,.undef,H')
  |none=>none
 | .call c=>match c.callee with
  | .builtin .append=>match c.args.toList,c.argTypes.toList with
   | [s,x],[t,xt]=>match cw P xt with
    |.int _=>wS P t xt (r s) (r x) H
    |_=>wE P t xt (r s) (r x) H
   |_,_=>none
  | .builtin .clear=>match c.args.toList,c.argTypes.toList with
   | [x],[t]=>match wR P t (r x) H with
    |some (b,H')=>some (b,.tuple [],H')
    |none=>none
   |_,_=>none
  | .builtin .delete=>match c.args.toList,c.argTypes.toList with
   | [x,k],t::_=>match wQ P t (r x) (r k) H with
    |some (b,H')=>some (b,.tuple [],H')
    |none=>none
   |_,_=>none
  |_=>none
 |_=>none
theorem WY{P:Program}{t xt:TypeId}{s x:AV}{H:List af}(h:∀ k,cw P xt≠.int k):q_ P t xt s x H=none:=by
 unfold q_;split
 ·rename_i hk
  exact(h _ hk).elim
 ·rfl
theorem Mm{P:Program}{r:Operand→AV}{H H':List al}{o:Op}{v:AV}{b:Bool}(h:ub P r H o=some (b,v,H'))(d:b=true):eS P r (ai H) o=some (v,ai H'):=by
 cases o<;>simp only[ub]at h<;>try cases h
 case alloc t =>
  split at h
  ·rename_i e he
   split at h
   ·rename_i hn
    cases h;simp only[eS,qY,he,hn,if_true,ef,iV,al.den]
   ·cases h
  ·rename_i he
   split at h
   ·rename_i z B; cases h; simp only[eS,qY,he,B,ef,iV,al.den]
   ·cases h
 case box t x =>
  split at h
  ·rename_i z B; cases h; simp only[eS,zZ,B,ef,iV,al.den]
  ·cases h
 case store t a x =>
  split at h
  ·rename_i q H1 hs; cases h; simp only[eS,L' hs d]
  ·cases h
 case makeSlice t l c=>simp only[eS]; exact WK h d
 case buildSlice t n ps=>simp only[eS]; exact WL h
 case range t x =>
  split at h
  ·rename_i s hk F
   cases h;simp only[eS,Ah,hk,F,ef,iV,al.den]
  ·cases h
 case next it isString =>
  cases isString with
  |false=>cases h
  | true =>
   simp only[]at h;split at h
   ·rename_i id k F
    split at h
    ·rename_i s pos hid
     simp only[eS,Ai,F,bx hid,al.den];split at h
     ·rename_i A
      cases h;rw[if_pos A,eE];rfl
     ·rename_i A
      cases h;rw[if_neg A]
    ·cases h
   ·cases h
 case makeMap t res =>
  cases res with
  |some _=>cases h
  | none =>
   simp only[]at h;split at h
   ·split at h
    ·cases h
     simp only[eS,ef,iV,al.den];rfl
    ·cases h
   ·cases h
 case mapUpdate t m k x =>
  split at h
  ·rename_i q H1 hs
   cases h;simp only[eS,Mk hs]
  ·split at h
   ·rename_i q H1 hs
    cases h;obtain⟨g1,g2⟩:=WQ hs d;simp only[eS,g1,g2]
   ·cases h
 case lookup t m k ok =>
  cases ok with
  |true=>cases h
  | false =>
   obtain⟨g1,g2⟩:=WO h d;simp only[eS,g1,g2]
 case mapEntry t m k=>simp only[eS,WR h d]
 case entryStore t m s x =>
  split at h
  ·rename_i q H1 hs
   cases h;simp only[eS,WS hs d]
  ·cases h
 case insert t m k x =>
  split at h
  ·rename_i q H1 hs
   cases h;simp only[eS,Mk hs]
  ·cases h
 case call c =>
  simp only[eS,Aq];split at h
  ·rename_i hc
   rw[hc];split at h
   ·rename_i h1 g
    simp only[h1,g];split at h
    ·rw[WX h d]
    ·rename_i I
     rw[WY I];exact WI h d
   ·cases h
  ·rename_i hc
   rw[hc];split at h
   ·rename_i h1 g
    simp only[h1,g];split at h
    ·rename_i hs
     cases h;rw[WW hs d]
    ·cases h
   ·cases h
  ·rename_i hc
   rw[hc];split at h
   ·rename_i h1 g
    simp only[h1,g];split at h
    ·rename_i hs
     cases h;rw[WV hs]
    ·cases h
   ·cases h
  ·cases h
end Go.AL

namespace Go.AL
open Go
variable [Dr]
def uc(n:Int):Option (Bool × AV):=some (aw n,.lit (.int .i64 n))
def Fi(P:Program)(op:BinOp)(t:TypeId)(d:Bool)(x y:AV):Option (Bool × AV) :=
 match op,x,y with
 |.add,.lit (.int .i64 a),.lit (.int .i64 b)=>uc (a+b)
 |.sub,.lit (.int .i64 a),.lit (.int .i64 b)=>uc (a-b)
 |.mul,.lit (.int .i64 a),.lit (.int .i64 b)=>uc (a*b)
 |.quo,.lit (.int .i64 a),.lit (.int .i64 b)=>some (!(b==0)&&aw (a.tdiv b),.lit (.int .i64 (a.tdiv b)))
 |.rem,.lit (.int .i64 a),.lit (.int .i64 b)=>some (!(b==0),.lit (.int .i64 (a.tmod b)))
 |.add,.lit (.string a),.lit (.string b)=>some (db (a.size+b.size) 9223372036854775807,.lit (.string (a++b)))
 |.lss,.lit (.int k a),.lit (.int k' b)=>if k=k' then some (true,.lit (.bool (aB a b))) else none
 |.leq,.lit (.int k a),.lit (.int k' b)=>if k=k' then some (true,.lit (.bool (bM a b))) else none
 |.gtr,.lit (.int k a),.lit (.int k' b)=>if k=k' then some (true,.lit (.bool (aB b a))) else none
 |.geq,.lit (.int k a),.lit (.int k' b)=>if k=k' then some (true,.lit (.bool (bM b a))) else none
 |.and,.lit (.int k a),.lit (.int k' b)=>if k=k' then some (true,.lit (.int k (KT k a b))) else none
 |.or,.lit (.int k a),.lit (.int k' b)=>if k=k' then some (true,.lit (.int k (KU k a b))) else none
 |.xor,.lit (.int k a),.lit (.int k' b)=>if k=k' then some (true,.lit (.int k (KV k a b))) else none
 |.shl,.lit (.int k a),.lit (.int _ b)=>some (a_ b,.lit (.int k (D2 k a b)))
 |.shr,.lit (.int k a),.lit (.int _ b)=>some (a_ b,.lit (.int k (D3 k a b)))
 | op,.listF ks rows,.lit (.slice none 0 0)=>match P.underlying t,kS op false with
  |some (.slice _),some v=>some (eZ 0 rows.length,v)
  |_,_=>none
 | op,.vec w id ae off m,.lit (.slice none 0 0)=>match P.underlying t,kS op false with
  |some (.slice _),some v=>some (eZ 0 m,v)
  |_,_=>none
 | _,_,_=>match hZ P op t d x y with
  |some v=>some (true,v)
  |none=>none
def Fj(m sz:Nat)(cells:List AV):Option (Kd × List (List G)) :=
 match wC (cells.headD .undef)with
 | some k=>match om [k] (cells.map fun c=>[c]) with
  |some rows=>if sz=1∧m=cells.length then some (k,rows) else none
  |none=>none
 |none=>none
theorem WZ{m sz:Nat}{cells:List AV}{k:Kd}{rows:List (List G)}(h:Fj m sz cells=some (k,rows)){j:Nat}(g:j<m) :
  aG [k] (rows.getD j [])=(cells.drop (j*sz)).take sz:=by
 unfold Fj at h;split at h
 ·split at h
  ·rename_i rows' q
   split at h
   ·rename_i hc
    obtain⟨rfl,rfl⟩:=hc;cases h;have e:=tY q;have A:rows.length=cells.length:=by have:=congrArg pk e; simpa using this
    have d:(rows.map (aG [k]))[j]? = (cells.map fun c=>[c])[j]? := by rw[e]
    rw[Fa (by omega),cy,bA g]at d;simp only[iO,aX]at d;rw[d,Kw,List.drop_eq_getElem_cons g,List.take_succ_cons,List.take_zero]
   ·cases h
  ·cases h
 ·cases h
def Fk(k:SK)(x i:AV):Option (Bool × AV) :=
 match k,x,i with
 |.slice _ sz _,.listF ks rows,.lit (.int _ j)=>if ks.length=sz then some (a_ j&&aB j (rows.length:Int),.cptr (aG ks (rows.getD j.toNat []))) else none
 |.slice _ sz _,.vec w id ae off m,.lit (.int _ j)=>if w=sz then some (a_ j&&aB j (m:Int),.ptr id ae w (off+j.toNat) 0) else none
 | .array m _ sz _,.cptr cells,.lit (.int d j)=>match Fj m sz cells with
  |some (kd,rows)=>some (a_ j&&aB j (m:Int),.cptr (aG [kd] (rows.getD j.toNat [])))
  | none=>match kP k (.cptr cells) (.lit (.int d j)) with
   |some v=>some (true,v)
   |none=>none
 | _,_,_=>match kP k x i with
  |some v=>some (true,v)
  |none=>none
def wT:List AV→Option (List Int)
 | []=>some []
 | .lit (.int .i64 n)::l=>match wT l with
  |some q=>some (n::q)
  |none=>none
 |_=>none
theorem Mn:∀{cells:List AV} {l:List Int},wT cells=some l→∀ i,i<l.length→cells[i]? = some (.lit (.int .i64 (l.getD i 0)))
 | [],l,h,i,hi=>by
  simp only[wT,aX]at h;subst h;simp at hi
 | c::cells,l,h,i,hi=>by
  unfold wT at h;split at h
  ·rename_i he
   cases he
  ·rename_i n l' he
   cases he;split at h
   ·rename_i q d
    cases h;cases i with
    |zero=>rfl
    | succ i =>
     simp only[List.length_cons]at hi;have:=Mn d i (by omega);simpa using this
   ·cases h
  ·cases h
def Fl(k:SK)(x i:AV):Option (Bool × AV) :=
 match k,x,i with
 |.str,.lit (.string s),.lit (.int _ j)=>some (a_ j&&aB j (s.size:Int),.lit (.int .u8 ((s.data.toList.getD j.toNat 0).toNat)))
 | .array m _ 1 false,.agg cells,.lit (.int _ j)=>match wT cells with
  |some l=>bif db m l.length then some (a_ j&&aB j (m:Int),.lit (.int .i64 (l.getD j.toNat 0))) else none
  | none=>match pD k x i with
   |some v=>some (true,v)
   |none=>none
 | _,_,_=>match pD k x i with
  |some v=>some (true,v)
  |none=>none
def Fm(op:UnOp)(x:AV):Option (Bool × AV) :=
 match op,x with
 |.neg,.lit (.int .i64 n)=>some (aw (0-n),.lit (.int .i64 (0-n)))
 | _,_=>match tA op x with
  |some v=>some (true,v)
  |none=>none
def Fo(P:Program)(s d:TypeId)(x:AV):Option (Bool × AV) :=
 match P.underlying s,cw P d,x with
 |some _,.int .i64,.lit (.int _ n)=>some (aw n,.lit (.int .i64 n))
 | _,_,_=>match tC P s d x with
  |some v=>some (true,v)
  |none=>none
def Fp(P:Program)(r:Operand→AV)(o:Op):Option (Bool × AV) :=
 match o with
 |.indexAddr t x i=>Fk (cw P t) (r x) (r i)
 |.index t x i=>Fl (cw P t) (r x) (r i)
 |.binOp op t x y _=>Fi P op t (mY x||mY y) (r x) (r y)
 |.slice t x lo hi mx=>Ff P t (r x) (lo.map r) (hi.map r) (mx.map r)
 |.unOp op _ x=>Fm op (r x)
 |.convert s d x=>Fo P s d (r x)
 | o=>match iC P r o with
  |some v=>some (true,v)
  |none=>none
theorem pQ{x:Option AV}{b:Bool}{v:AV} (h:(match x with|some v=>some (true,v)|none=>none)=some (b,v)):x=some v:=by
 split at h
 ·cases h; rfl
 ·cases h
theorem rC{n:Int}(h:aw n=true):IntKind.i64.wrap n=n:=by
 rw[L7]at h;simp[IntKind.wrap,IntKind.bits,IntKind.signed];omega
theorem W0{P:Program}{op:BinOp}{t:TypeId}{A:Bool}{x y v:AV}{b:Bool}(h:Fi P op t A x y=some (b,v))(d:b=true):hZ P op t A x y=some v:=by
  unfold Fi at h;split at h
  · simp only [uc, aX, be] at h
    obtain⟨h1,rfl⟩:=h;subst d;simp[hZ,iS,mT,rC h1]
  · simp only [uc, aX, be] at h
    obtain⟨h1,rfl⟩:=h;subst d;simp[hZ,iS,mT,rC h1]
  · simp only [uc, aX, be] at h
    obtain⟨h1,rfl⟩:=h;subst d;simp[hZ,iS,mT,rC h1]
  · simp only [aX, be] at h
    obtain⟨h1,rfl⟩:=h;subst d;simp only[ay,ka,beq_eq_false_iff_ne]at h1;simp[hZ,iS,mT,h1.1,rC h1.2]
  · simp only [aX, be] at h
    obtain⟨h1,rfl⟩:=h;subst d;simp only[ka,beq_eq_false_iff_ne]at h1;simp[hZ,iS,mT,h1]
  · simp only [aX, be] at h
    obtain⟨h1,rfl⟩:=h;subst d;have q:=kM h1;have g:∀ k:Nat,k≤9223372036854775807→¬ ((k:Int)>IntKind.i64.max):=fun k hk=>by
      show ¬ ((k:Int)>(9223372036854775807:Int))
      omega
    simp only[hZ,iS,D4,if_neg (g _ q)]
  all_goals first
    |exact pQ h
    | (split at h
       case isFalse=>cases h
       rename_i hk;subst hk;cases h;simp[hZ,iS,mT,dG,eD])
    | (simp only [aX, be] at h
       obtain⟨h1,rfl⟩:=h;subst d;simp only[l9,decide_eq_true_eq]at h1;simp only[hZ,iS,if_neg (Int.not_lt.2 h1)])
    | (split at h
       · rename_i h1 q
         simp only[aX,be]at h;obtain⟨g,rfl⟩:=h;subst d;simp only[iA]at g;simp only[hZ,h1,if_pos g,q]
       · cases h)
theorem W1{k:SK}{x i v:AV}{b:Bool}(h:Fk k x i=some (b,v))(d:b=true):kP k x i=some v:=by
 unfold Fk at h;split at h
 ·split at h
  ·rename_i hw
   simp only[aX,be]at h;obtain⟨h1,rfl⟩:=h;subst d;simp only[l9,dG,ay,decide_eq_true_eq]at h1;simp[kP,hw,h1.1,h1.2]
  ·cases h
 ·split at h
  ·rename_i hw
   simp only[aX,be]at h;obtain⟨h1,rfl⟩:=h;subst d;simp only[l9,dG,ay,decide_eq_true_eq]at h1;simp[kP,hw,h1.1,h1.2]
  ·cases h
 ·split at h
  ·rename_i kd rows hc
   simp only[aX,be]at h;obtain⟨h1,rfl⟩:=h;subst d;simp only[l9,dG,ay,decide_eq_true_eq]at h1;rw[WZ hc (by omega)];simp[kP,h1.1,h1.2]
  ·exact pQ h
 ·exact pQ h
theorem W2{k:SK}{x i v:AV}{b:Bool}(h:Fl k x i=some (b,v))(g:b=true):pD k x i=some v:=by
 unfold Fl at h;split at h
 ·rename_i s q j
  simp only[aX,be]at h;obtain⟨h1,rfl⟩:=h;subst g;simp only[l9,dG,ay,decide_eq_true_eq]at h1;have d:j.toNat<s.size:=by omega
  have e:s[j.toNat]? = some (s.data.toList.getD j.toNat 0):=by
   have A:j.toNat<s.data.toList.length:=by simpa using d
   rw[cG,bA A];simp only[getElem?,decidableGetElem?,d,dite_true,Option.getD_some];rfl
  simp only[pD,h1.1,h1.2,and_self,if_true,e]
 ·rename_i m e cells q j
  split at h
  ·rename_i l B
   cases hm:db m l.length with
   |false=>rw[hm]at h; cases h
   | true =>
    rw[hm]at h;simp only[cond_true,aX,be]at h;obtain⟨h1,rfl⟩:=h;subst g;rw[zA]at hm;simp only[l9,dG,ay,decide_eq_true_eq]at h1;have F:=Mn B j.toNat (by omega);simp only[pD,h1.1,h1.2,and_self,if_true,gn,nL,if_false,Kw,sT,Nat.add_zero,F]
  ·exact pQ h
 ·exact pQ h
theorem W3{op:UnOp}{x v:AV}{b:Bool}(h:Fm op x=some (b,v))(d:b=true):tA op x=some v:=by
 unfold Fm at h;split at h
 ·simp only [aX, be] at h
  obtain⟨h1,rfl⟩:=h;subst d;simp only[tA,rC h1]
 ·exact pQ h
theorem W4{P:Program}{s d:TypeId}{x v:AV}{b:Bool}(h:Fo P s d x=some (b,v))(g:b=true):tC P s d x=some v:=by
 unfold Fo at h;split at h
 ·rename_i k q
  simp only[aX,be]at h;obtain⟨h1,rfl⟩:=h;subst g;simp only[tC,k,q,rC h1]
 ·exact pQ h
theorem W5{P:Program}{r:Operand→AV}{o:Op}{b:Bool}{v:AV}(h:Fp P r o=some (b,v))(d:b=true):iC P r o=some v:=by
 cases o<;>simp only[Fp]at h<;>try exact pQ h
 case binOp=>simp only[iC]; exact W0 h d
 case indexAddr=>simp only[iC]; exact W1 h d
 case index=>simp only[iC]; exact W2 h d
 case slice=>simp only[iC]; exact WJ h d
 case unOp=>simp only[iC]; exact W3 h d
 case convert=>simp only[iC]; exact W4 h d
inductive Tree where
 |fail
 |done (x:bB) (s:ao)
 |ask (b:Bool) (t e:Tree)
 |side (b:Bool) (t:Tree)
def Tree.holds(Q:bB→ao→Prop):Tree→Prop
 |.fail=>False
 |.done x s=>Q x s
 |.ask b t e=>(b=true→t.holds Q)∧(b=false→e.holds Q)
 |.side b t=>b=true∧t.holds Q
structure ah where
 pf:FuncId→Bool
 T:FuncId→List AV→Option (Bool × AV)
 W:FuncId→List AV→List al→Option (Bool × AV × List al)
 C:FuncId→List AV→List al→List Nat
 I:FuncId→List AV→List al→Option Tree:=fun _ _ _=>none
 N:FuncId→Bool:=fun _=>false
 U:FuncId→Bool:=fun _=>true
structure aj (P:Program) (τ:ah):Prop where
 T:∀ f args b v,τ.T f args=some (b,v)→b=true→dN P f=true∧dc P f args v
 W:∀ f args H b v H',τ.W f args H=some (b,v,H')→b=true→dN P f=true∧cz P f args (ai H) v (ai H')
 C:∀ f args H b v H',τ.W f args H=some (b,v,H')→∀ A,A∉τ.C f args H→A<H.length→H'[A]? = H[A]?
 I:∀ f args H t,τ.I f args H=some t→∀ Q:bB→ao→Prop,t.holds Q→dN P f=true∧∃ v H',cz P f args (ai H) v (ai H')∧(∀ A,A∉τ.C f args H→A<H.length→H'[A]? = H[A]?)∧Q .normal ⟨[v],H'⟩
 F:(∀ f,τ.U f=false→∀ args H,τ.W f args H=none∧τ.C f args H=[])∧∀ f,τ.N f=true→∀ args H b v H',τ.W f args H=some (b,v,H')→∀ id o,id<H.length→id∉τ.C f args H →
  τ.W f args (H.set id o)=some (b,v,H'.set id o)∧τ.C f args (H.set id o)=τ.C f args H
def Tree.wU(k:AV→List al→Tree):Tree→Tree
 |.fail=>.fail
 |.done _ s=>k (s.fr.headD .undef) s.H
 |.ask b t e=>.ask b (t.wU k) (e.wU k)
 |.side b t=>.side b (t.wU k)
theorem Tree.AM{k:AV→List al→Tree}{Q:bB→ao→Prop}:∀{t:Tree},(t.wU k).holds Q→t.holds fun _ s=>(k (s.fr.headD .undef) s.H).holds Q
 |.fail,h=>h
 |.done _ _,h=>h
 |.ask _ t e,h=>⟨fun d=>AM (t:=t) (h.1 d),fun d=>AM (t:=e) (h.2 d)⟩
 |.side _ t,h=>⟨h.1,AM (t:=t) h.2⟩
inductive Want where
 |bad|yes|no
 |test (t:Tmp) (b:Bool) (want:Bool)
def pR(ops:Array Oper)(fr:List AV)(o:Oper):Want :=
 match o.guard with
 |none=>.yes
 | some (j,want)=>match (ops[j]?).bind (·.dst) with
  | some t=>match fr[t]? with
   |some (.lit (.bool b))=>.test t b want
   |some (.tuple [])=>.no
   |_=>.bad
  |none=>.bad
def AN:AV→Option Bool
 |.lit (.bool b)=>some b
 |_=>none
def wV(H:List al):AV→Bool × AV
 | .vec w id ae off n=>match H[id]? with
  |some (.vec ks v rows)=>if ae=v∧ks.length=w∧off=0 then (ab n rows.length,.listF ks rows) else (true,.vec w id ae off n)
  |_=>(true,.vec w id ae off n)
 | .ptr id ae k row col=>match H[id]? with
  |some (.raw (.box cells))=>if ae=0∧row=0∧col=0∧AV.br cells=true then (true,.cptr cells) else (true,.ptr id ae k row col)
  |_=>(true,.ptr id ae k row col)
 |a=>(true,a)
def rD(H:List al):List AV→Bool × List AV
 | []=>(true,[])
 | a::as=>match wV H a,rD H as with
  |(b,g),(k,d)=>(b&&k,g::d)
def AO(H:List al):AV→Bool × AV
 | .clo f caps=>match rD H caps with
  |(b,d)=>(b,.clo f d)
 |a=>wV H a
def pS(H:List al):List AV→Bool × List AV
 | []=>(true,[])
 | a::as=>match AO H a,pS H as with
  |(b,g),(k,d)=>(b&&k,g::d)
def AP:List AV→Bool
 | []=>true
 |.lit _::as=>AP as
 |_::_=>false
def AQ:AV→Bool
 |.lit _=>true
 |.tuple vs=>AP vs
 |_=>false
def Fq(P:Program)(r:Operand→AV)(H:List al)(o:Op):Option AV :=
 match o with
 | .call c=>match c.callee,c.args.toList,c.argTypes.toList with
  | .builtin .len,[a],[t]=>match fD P t,r a with
   | some _,.map id=>match H[id]? with
    |some (.map _ _ rows _)=>some (.lit (.int .i64 rows.length))
    |_=>none
   |_,_=>none
  |_,_,_=>none
 |_=>none
theorem W6{P:Program}{r:Operand→AV}{H:List al}{o:Op}{v:AV}(h:Fq P r H o=some v):fp P r (ai H) o=some v:=by
 unfold Fq at h;split at h
 ·rename_i c
  simp only[fp];split at h
  ·rename_i a t hc d g
   unfold pK;rw[hc,d,g];simp only[];split at h
   ·rename_i p id k hm
    rw[k,hm];simp only[];split at h
    ·rename_i K V rows cl hid
     cases h;rw[bx hid];simp[al.den,cC]
    ·cases h
   ·cases h
  ·cases h
 ·cases h
def Fs(v:AV)(H:List al):Option (Bool × AV × List al) :=
 match v with
 | .vec w id ae off n=>match H[id]? with
  |some (.vec ks u rows)=>if ae=u∧off=0∧w=ks.length then some (ab n rows.length,.listF ks rows,H.set id (.raw .dead)) else none
  |_=>none
 |_=>none
def wW(P:Program)(r:Operand→AV)(H:List al):Op→Option (Bool × List al)
 | .store t a x=>match Fs (r x) H with
  | some (b0,v1,H1)=>match tZ P t (r a) v1 H1 with
   |some (b1,H')=>some (b0&&b1,H')
   |none=>none
  |none=>none
 |_=>none
theorem W7{P:Program}{r:Operand→AV}{H H':List al}{o:Op}{b:Bool}(h:wW P r H o=some (b,H'))(g:b=true):tM P r (ai H) .undef (ai H') o:=by
 unfold wW at h;split at h
 case h_2=>cases h
 rename_i t a x;split at h
 case h_2=>cases h
 rename_i b0 v1 H1 d;split at h
 case h_2=>cases h
 rename_i b1 q hs;simp only[aX,be]at h;obtain⟨h1,rfl⟩:=h;subst g;simp only[ay]at h1;unfold Fs at d;split at d
 case h_2=>cases d
 rename_i w id ae off n k;split at d
 case h_2=>cases d
 rename_i ks u rows hid;split at d
 case isFalse=>cases d
 rename_i hc;obtain⟨rfl,rfl,rfl⟩:=hc;simp only[aX,be]at d;obtain⟨hn,rfl,rfl⟩:=d;rw[h1.1]at hn;have hn:=bD hn;subst hn;refine⟨.listF ks rows,(ai H).set id .dead,⟨id,ae,ks,rows,k,?_,rfl,rfl⟩,?_,rfl⟩
 ·rw [bx hid]
  rfl
 ·have := L' hs h1.2
  rw[eE]at this;exact this
def pT(P:Program)(τ:ah)(o:Oper)(s:ao)(k:AV→List al→Tree):Tree :=
 match o.op with
 | .pick c a b=>match AN (s.eval c) with
  |some t=>.ask t (k (s.eval a) s.H) (k (s.eval b) s.H)
  |none=>.fail
 | .load t a=>match Fb P t (s.eval a) s.H with
  |some (b,v)=>.side b (k v s.H)
  |none=>.fail
 | .lookup t m x ok=>match Fh P t (s.eval m) (s.eval x) ok s.H with
  | some (b,v)=>match df τ.pf o.op,ok with
   |.read,_=>.side b (k v s.H)
   |.write,false=>.side b (k v s.H)
   |_,_=>.fail
  | none=>match df τ.pf o.op with
   | .write=>match ub P s.eval s.H o.op with
    |some (b,v,H')=>.side b (k v H')
    |none=>.fail
   |_=>.fail
 | _=>match df τ.pf o.op with
  | .read=>match Fq P s.eval s.H o.op with
   |some v=>k v s.H
   |none=>.fail
  | .pure=>match fo s.eval o.op with
   | some (f,args)=>match τ.T f args with
    |some (b,v)=>.side b (k v s.H)
    |none=>.fail
   | none=>match Fp P s.eval o.op with
    |some (b,v)=>.side b (k v s.H)
    |none=>.fail
  | .write=>match fo s.eval o.op with
   | some (f,args)=>match τ.W f args s.H with
    |some (b,v,H')=>.side b (k v H')
    | none=>match τ.I f args s.H with
     |some t=>t.wU k
     | none=>match τ.T f args with
      |some (b,v)=>.side b (k v s.H)
      | none=>match pS s.H args with
       | (g,d)=>match τ.T f d with
        | some (b,v)=>match AQ v&&AV.br d with
         |true=>.side (g&&b) (k v s.H)
         |false=>.fail
        |none=>.fail
   | none=>match ub P s.eval s.H o.op with
    |some (b,v,H')=>.side b (k v H')
    | none=>match wW P s.eval s.H o.op with
     |some (b,H')=>.side b (k .undef H')
     |none=>.fail
def ao.slot(s:ao)(t:Tmp)(b:Bool):ao:=⟨s.fr.set t (.lit (.bool b)),s.H⟩
def Ft(P:Program)(τ:ah)(ops:Array Oper)(o:Oper)(s:ao)(k:ao→Tree):Tree :=
 match pR ops s.fr o with
 |.bad=>.fail
 |.no=>k (s.put o.dst (.tuple []) s.H)
 |.yes=>pT P τ o s fun v H'=>k (s.put o.dst v H')
 | .test t b want=>.ask b
   (match want with
    |true=>pT P τ o (s.slot t true) fun v H'=>k ((s.slot t true).put o.dst v H')
    |false=>k ((s.slot t true).put o.dst (.tuple []) s.H))
   (match want with
    |true=>k ((s.slot t false).put o.dst (.tuple []) s.H)
    |false=>pT P τ o (s.slot t false) fun v H'=>k ((s.slot t false).put o.dst v H'))
def eg(P:Program)(τ:ah)(ops:Array Oper):List Oper→ao→(ao→Tree)→Tree
 | [],s,k=>k s
 |o::rest,s,k=>Ft P τ ops o s fun s1=>eg P τ ops rest s1 k
def ib:AV→Option Nat
 |.ptr id _ _ _ _=>some id
 |.vec _ id _ _ _=>some id
 |.map id=>some id
 |_=>none
def kr(τ:ah)(r:Operand→AV)(H:List al)(op:Op):List Nat :=
 match fo r op with
 |some (f,args)=>τ.C f args H
 |none=>op.operands.toList.filterMap fun x=>ib (r x)
structure Acc where
 R:jI
 W:iU
def wX(ids:List Nat)(i:Nat):Bool := !ids.any (ab i)
def Fu(ops:Array Oper)(j id:Nat)(acc:Acc):Option Acc :=
 match acc.W.all fun e=>waits ops ops.size j e.1||(wX e.2.1 id&&eZ id e.2.2)with
 |true=>some ⟨(j,id)::acc.R,acc.W⟩
 |false=>none
def AR(ops:Array Oper)(j:Nat)(T:List Nat)(n:Nat)(acc:Acc):Option Acc :=
 match acc.R.all fun e=>waits ops ops.size j e.1||(wX T e.2&&eZ e.2 n)with
 | true=>match acc.W.all fun e=>waits ops ops.size j e.1||T.all fun id=>wX e.2.1 id&&eZ id e.2.2 with
  |true=>some ⟨acc.R,(j,T,n)::acc.W⟩
  |false=>none
 |false=>none
def Fv(τ:ah)(ops:Array Oper)(j:Nat)(o:Oper)(s:ao)(acc:Acc):Option Acc :=
 match df τ.pf o.op with
 |.pure=>some acc
 | .read=>match l7 s.eval o.op with
  |some id=>Fu ops j id acc
  |none=>some acc
 |.write=>AR ops j (kr τ s.eval s.H o.op) s.H.length acc
def gZ:Kd→Value→Option G
 |.int k,.int k' n=>if k=k' then some (.i n) else none
 |.str,.string s=>some (.s s)
 |.bool,.bool b=>some (.t b)
 |.list _,.slice none 0 0=>some (.l [])
 |_,_=>none
def ud:List Kd→List Value→Option (List G)
 | [],[]=>some []
 | k::ks,v::z=>match gZ k v,ud ks z with
  |some g,some gs=>some (g::gs)
  |_,_=>none
 |_,_=>none
def mK:Kd→Option (List Kd)
 |.list ks=>some ks
 |_=>none
def mZ:List Kd→List (Option (List Kd)):=List.map mK
theorem W8{k:Kd}{v:Value}{g:G}(h:gZ k v=some g):iP k g=zc (mK k) v:=by
 cases k with
 | int k =>
  cases v with
  | int k' n =>
   simp only[gZ]at h;by_cases e:k=k'
   ·rw [if_pos e] at h
    cases h;subst e;rfl
   ·rw [if_neg e] at h
    cases h
  |_=>cases h
 |str=>cases v<;>first|(cases h; rfl)|cases h
 |bool=>cases v<;>first|(cases h; rfl)|cases h
 | list ks =>
  cases v with
  |slice b n c=>cases b<;>cases n<;>cases c<;>first|(cases h; rfl)|cases h
  |_=>cases h
theorem Mo:∀{ks:List Kd} {z:List Value} {g:List G},ud ks z=some g→aG ks g=dM (mZ ks) z
 | [],[],g,h=>by cases h; rfl
 | [],_::_,g,h=>by cases h
 |_::_,[],g,h=>by cases h
 | k::ks,v::z,g,h=>by
  simp only[ud]at h;split at h
  ·rename_i g0 gs h1 d
   cases h;have q:=Mo d;simp only[aG,ph,List.tail_cons,q,W8 h1];rfl
  ·cases h
def rE(z:List Value):List al→Nat→Option (Nat × List Kd × List G)
 | [],_=>none
 | .vec ks 0 rows::H,i=>match ud ks z with
  | some g=>match rows with
   | []=>some (i,ks,g)
   |_::_=>rE z H (i+1)
  |none=>rE z H (i+1)
 |_::H,i=>rE z H (i+1)
def Fw(P:Program)(op:Op)(H:List al):Option (Nat × AV × List al) :=
 match op with
 | .alloc t=>match eQ P t with
  | some z=>match rE z H 0 with
   |some (id,ks,g)=>some (id,.ptr id 1 ks.length 0 0,H.set id (.vec ks 1 [g]))
   |none=>none
  |none=>none
 |_=>none
def Fx(τ:ah)(o:Oper)(s:ao):Bool:=match df τ.pf o.op with
 | .write=>match fo s.eval o.op with
  | some (f,args)=>match τ.N f with
   |true=>(τ.W f args s.H).isSome
   |false=>false
  |none=>false
 |_=>true
def wY(P:Program)(τ:ah)(ops:Array Oper)(j:Nat)(o:Oper)(s:ao)(acc:Acc)(k:ao→Acc→Tree):Tree :=
 match rr ops&&eK o.op with
 | true=>match Fw P o.op s.H with
  | some (id,v,H')=>match AR ops j [id] s.H.length acc with
   |some d=>k (s.put o.dst v H') d
   |none=>.fail
  |none=>.fail
 | false=>match pL ops&&l8 o.op && !Fx τ o s with
  |true=>.fail
  | false=>match Fv τ ops j o s acc with
   |some d=>pT P τ o s fun v H'=>k (s.put o.dst v H') d
   |none=>.fail
def Fy(P:Program)(τ:ah)(ops:Array Oper)(j:Nat)(o:Oper)(s:ao)(acc:Acc)(k:ao→Acc→Tree):Tree :=
 match pR ops s.fr o with
 |.bad=>.fail
 |.no=>k (s.put o.dst (.tuple []) s.H) acc
 |.yes=>wY P τ ops j o s acc k
 | .test t b want=>.ask b
   (match want with
    |true=>wY P τ ops j o (s.slot t true) acc k
    |false=>k ((s.slot t true).put o.dst (.tuple []) s.H) acc)
   (match want with
    |true=>k ((s.slot t false).put o.dst (.tuple []) s.H) acc
    |false=>wY P τ ops j o (s.slot t false) acc k)
def Fz(P:Program)(τ:ah)(ops:Array Oper):List Oper→Nat→ao→Acc→(ao→Tree)→Tree
 | [],_,s,_,k=>k s
 |o::rest,j,s,acc,k=>Fy P τ ops j o s acc fun s1 d=>Fz P τ ops rest (j+1) s1 d k
def Mp(k:ao→Tree)(K:bB→ao→Tree):bB→ao→Tree
 |.normal,s=>k s
 |x,s=>K x s
def Mq(id:Nat)(K:bB→ao→Tree):bB→ao→Tree
 |.exit i,s=>if i=id then K .normal s else K (.exit i) s
 |x,s=>K x s
def Tree.bind(K:bB→ao→Tree):Tree→Tree
 |.fail=>.fail
 |.done x s=>K x s
 |.ask b t e=>.ask b (t.bind K) (e.bind K)
 |.side b t=>.side b (t.bind K)
def l_:Code→Option Nat
 |.region id _ _=>some id
 | .seq a b=>match l_ a with
  |some i=>some i
  |none=>l_ b
 |.block _ c=>l_ c
 | .cond _ a b=>match l_ a with
  |some i=>some i
  |none=>l_ b
 |.loop c=>l_ c
 |_=>none
def rF:Code→Nat
 | .seq a b=>match l_ a with
  |some _=>rF a
  |none=>rF b
 |.block _ c=>rF c
 | .cond _ a b=>match l_ a with
  |some _=>rF a
  |none=>rF b
 |.loop c=>rF c+1
 |_=>0
def Mr(c:Code):Option Nat:=match l_ c with
 |some i=>some (i+1000*rF c)
 |none=>none
def bH:Code→List (Nat × Code)
 |.seq a b=>bH a++bH b
 |.cond _ a b=>bH a++bH b
 |.block _ c=>bH c
 | .loop c=>match Mr c with
  |some k=>(k,c)::bH c
  |none=>bH c
 |_=>[]
def W9(k:ao→Tree)(K:bB→ao→Tree):bB→ao→Tree
 |.normal,s=>k s
 |.exit i,s=>K (.exit i) s
 |.ret,s=>K .ret s
def AS(body:ao→(bB→ao→Tree)→Tree):Nat→ao→(bB→ao→Tree)→Tree
 |0,_,_=>.fail
 |n+1,s,K=>body s (W9 (fun s'=>AS body n s' K) K)
def bG:Code→List (Nat × Code)
 | .seq a b=>bG a++((match l_ b with
  |some k=>[(k,b)]
  |none=>[])++bG b)
 |.cond _ a b=>bG a++bG b
 |.block _ c=>bG c
 |.loop c=>bG c
 |_=>[]
structure LT where
 loops:Nat→ao→Option Tree
 pre:Nat→ao→Bool × ao
 wZ:Nat→ao→Option Tree
def Ms(L:LT)(k:Option Nat)(s:ao):Option Tree :=
 match k with
 |some i=>L.wZ i s
 |none=>none
def bW(P:Program)(τ:ah)(L:LT):Code→ao→(bB→ao→Tree)→Tree
 |.skip,s,K=>K .normal s
 | .region id ops draw,s,K=>match draw && !tN τ.pf ops with
  | true=>match tW τ.pf ops with
   |true=>.side (L.pre id s).1 (Fz P τ ops ops.toList 0 (L.pre id s).2 ⟨[],[]⟩ (K .normal))
   |false=>.fail
  |false=>.side (L.pre id s).1 (eg P τ ops ops.toList (L.pre id s).2 (K .normal))
 | .seq a b,s,K=>bW P τ L a s (Mp (fun s1=>match Ms L (l_ b) s1 with
  |some t=>t.bind K
  |none=>bW P τ L b s1 K) K)
 | .cond c a b,s,K=>match AN (s.eval c) with
  |some t=>.ask t (bW P τ L a s K) (bW P τ L b s K)
  |none=>.fail
 |.block id c,s,K=>bW P τ L c s (Mq id K)
 | .loop c,s,K=>match Mr c with
  | some i=>match L.loops i s with
   |some t=>t.bind K
   |none=>AS (fun s1 d=>bW P τ L c s1 d) 400 s K
  |none=>.fail
 |.exit id,s,K=>K (.exit id) s
 |.ret,s,K=>K .ret s
 |_,_,_=>.fail
def Mt(P:Program)(m:Nat)(c:Code)(s:ao)(t:Tree):Prop:=∀ Q:bB→ao→Prop,t.holds Q→∃ x s',kV P m c s.den x s'.den∧Q x s'
def AT(P:Program)(m:Nat)(c:Code)(s:ao)(t:Tree):Prop:=∀ Q:bB→ao→Prop,t.holds Q→∃ x s',cn P m c s.den x s'.den∧Q x s'
def ax(P:Program)(m:Nat)(L:LT)(c:Code):Prop:=(∀ k d,(k,d)∈bH c→∀ s t,L.loops k s=some t→Mt P m d s t)∧(∀ id s,(L.pre id s).1=true→bQ m s.den (L.pre id s).2.den) ∧
 ∀ k d,(k,d)∈bG c→∀ s t,L.wZ k s=some t→AT P m d s t
theorem ax.sub{P:Program}{m:Nat}{L:LT}{c g:Code}(h:ax P m L c)(h1:∀ p,p∈bH g→p∈bH c)(q:∀ p,p∈bG g→p∈bG c):ax P m L g :=
 ⟨fun k d hk=>h.1 k d (h1 _ hk),h.2.1,fun k d hk=>h.2.2 k d (q _ hk)⟩
theorem Mu{a:AV}{b:Bool}(h:AN a=some b):a=.lit (.bool b):=by
 unfold AN at h;split at h
 ·cases h; rfl
 ·cases h
theorem Mv{E E':Env}:∀{vs:List AV} {us:List Value},AP vs=true→ad E vs us→ad E' vs us
 | [],[],_,_=>by simp[ad]
 | [],_::_,_,h=>by simp[ad]at h
 | a::vs,us,d,h=>by
  unfold AP at d;split at d
  ·rename_i heq; cases heq
  ·rename_i heq
   cases heq;cases us with
   |nil=>simp[ad]at h
   | cons u us =>
    simp only[ad,rel]at h⊢;exact⟨h.1,Mv d h.2⟩
  ·cases d
theorem W_{E E':Env}{v:AV}{u:Value}(d:AQ v=true)(h:rel E v u):rel E' v u:=by
 unfold AQ at d;split at d
 ·simpa only[rel]using h
 ·simp only [rel] at h ⊢
  obtain⟨cs,e,g⟩:=h;exact⟨cs,e,Mv d g⟩
 ·cases d
def Env.bare(E:Env)(w:World):Env:={ w:=w,H:=[],loc:=[],X:=E.X.re dW }
theorem AU{E:Env}{w:World}(b:Nat):¬ (E.bare w).own b:=by rintro(⟨id,c,h⟩|⟨l,k,c,h⟩); simp[Env.bare]at h; simp[Env.bare,dW]at h
theorem pU(E:Env):E.bJ (E.bare E.w):=⟨fun b d=>⟨⟨d.1,AU b,d.2.2⟩,rfl⟩⟩
theorem Xa{E:Env}(HE:au E):au (E.bare E.w):=by
 refine⟨rfl,?_,?_,HE.X,?_,HE.fB.bJ (pU E),fun l k l' k' b m n hk=>by simp[Env.bare,dW]at hk,fun i b m l k n hi=>by simp[Env.bare]at hi,fun l k b m hk=>by simp[Env.bare,dW]at hk,fun i j o o' l hi=>by simp[Env.bare]at hi,fun l _ k q hk=>by simp[Env.bare,dW]at hk⟩
 ·intro i j b m n hi; simp[Env.bare]at hi
 ·intro i b m hi; simp[Env.bare]at hi
 ·intro i o hi; simp[Env.bare]at hi
theorem Mw{E:Env}(HE:au E){H:List al}(hH:E.H=ai H){id ae n w:Nat}{ks:List Kd}{rows:List (List G)}{c:Value}
  (hid:H[id]? = some (.vec ks ae rows)) (hw:ks.length=w) (hn:n=rows.length) (hr:rel E (.vec w id ae 0 n) c):rel (E.bare E.w) (.listF ks rows) c:=by
 subst hw hn;have k:E.H[id]? = some (.vec ks.length ae (rows.map (aG ks))):=by rw[hH]; exact bx hid
 have d:=HE.obj id _ k;rw[km];simp only[rel]at hr⊢;obtain⟨⟨base,cap,rfl,B,_⟩,_,F⟩:=hr;obtain⟨N,I⟩:=F ⟨_,k,rfl⟩;have q:fA (rows.map (aG ks)):=by
  intro r hr;obtain⟨g,_,rfl⟩:=bR.1 hr;exact gl ks g
 refine⟨q,base,cap,by simp,by simpa using B,?_⟩;simp only[aU]at d;rcases d with⟨h1,A⟩|⟨b,m,h1,A,J,_,M⟩
 ·exact .inl A
 ·obtain ⟨g1, o, g2, g3⟩ := I b m h1
  by_cases hm:rows=[]
  ·subst hm; exact .inl rfl
  ·right
   have:0<rows.length:=by cases rows with|nil=>exact(hm rfl).elim|cons _ _=>simp
   simp at J;have d:=g2 (by omega);simp at d;subst d;simp only[kJ]at g3;refine⟨b,0,g3.1,⟨(HE.lt id b m h1).1,AU b,(HE.lt id b m h1).2⟩,?_⟩;exact lR (pU E) _ q rfl M
theorem Xb{E:Env}(HE:au E){H:List al}(hH:E.H=ai H){id k:Nat}{cells:List AV}{c:Value} (hid:H[id]? = some (.raw (.box cells))) (g:AV.br cells=true)
  (hr:rel E (.ptr id 0 k 0 0) c):rel (E.bare E.w) (.cptr cells) c:=by
 have d:E.H[id]? = some (.box cells):=by rw[hH]; exact bx hid
 have q:=HE.obj id _ d;simp only[aU]at q;obtain⟨b,n,h1,F,A⟩:=q;simp only[rel]at hr⊢;obtain⟨_,_,B⟩:=hr;obtain⟨I,J,g1,g2⟩:=B ⟨_,d,rfl⟩;rw[h1]at g1;simp only[aX,be]at g1;obtain⟨rfl,rfl⟩:=g1;refine⟨g,b,0,by rw[g2]; simp,⟨(HE.lt id b n h1).1,AU b,(HE.lt id b n h1).2⟩,?_⟩;exact te (pU E) cells g rfl A
theorem Mx{E:Env}(HE:au E){H:List al}(hH:E.H=ai H){a g:AV}{b:Bool}{c:Value}(h:wV H a=(b,g))(q:b=true)(d:g.closed=true)(hr:rel E a c):rel (E.bare E.w) g c:=by
 unfold wV at h;split at h
 ·split at h
  ·rename_i w id ae off n ks v rows hid
   split at h
   ·rename_i hc
    obtain⟨rfl,A,rfl⟩:=hc;simp only[be]at h;obtain⟨h1,rfl⟩:=h;subst q;exact Mw HE hH hid A (bD h1) hr
   ·cases h; simp[AV.closed]at d
  ·cases h; simp[AV.closed]at d
 ·split at h
  ·rename_i id ae k row col _ cells hid
   split at h
   ·rename_i hc
    obtain⟨rfl,rfl,rfl,B⟩:=hc;cases h;exact Xb HE hH hid B hr
   ·cases h; simp[AV.closed]at d
  ·cases h; simp[AV.closed]at d
 ·cases h
  exact dQ (pU E) _ d hr
theorem My{E:Env}(HE:au E){H:List al}(hH:E.H=ai H):∀{as d:List AV} {b:Bool} {cs:List Value},rD H as=(b,d)→b=true→AV.br d=true→ad E as cs →
  ad (E.bare E.w) d cs
 | [],d,b,cs,h,_,_,hr=>by
  simp only[rD]at h;cases h;cases cs with
  |nil=>simp[ad]
  |cons _ _=>simp[ad]at hr
 | a::as,d,b,cs,h,k,g,hr=>by
  cases cs with
  |nil=>simp[ad]at hr
  | cons c cs =>
   simp only[ad]at hr;cases q:wV H a with
   |mk b1 F =>
   cases A:rD H as with
   |mk I B =>
   simp only[rD,q,A,be]at h;obtain⟨h1,rfl⟩:=h;subst h1;simp only[ay]at k;simp only[AV.br,ay]at g;simp only[ad];exact⟨Mx HE hH q k.1 g.1 hr.1,My HE hH A k.2 g.2 hr.2⟩
theorem Xc{E:Env}(HE:au E){H:List al}(hH:E.H=ai H){a d:AV}{b:Bool}{c:Value}(h:AO H a=(b,d))(k:b=true)(g:d.closed=true)(hr:rel E a c):rel (E.bare E.w) d c:=by
 unfold AO at h;split at h
 ·rename_i f caps
  cases q:rD H caps with
  |mk b1 B =>
  rw[q]at h;cases h;simp only[rel]at hr⊢;obtain⟨cs,e,A⟩:=hr;exact⟨cs,e,My HE hH q k (by simpa only[AV.closed]using g) A⟩
 ·exact Mx HE hH h k g hr
theorem Mz{E:Env}(HE:au E){H:List al}(hH:E.H=ai H):∀{as d:List AV} {b:Bool} {cs:List Value},pS H as=(b,d)→b=true→AV.br d=true→ad E as cs →
  ad (E.bare E.w) d cs
 | [],d,b,cs,h,_,_,hr=>by
  simp only[pS]at h;cases h;cases cs with
  |nil=>simp[ad]
  |cons _ _=>simp[ad]at hr
 | a::as,d,b,cs,h,k,g,hr=>by
  cases cs with
  |nil=>simp[ad]at hr
  | cons c cs =>
   simp only[ad]at hr;cases q:AO H a with
   |mk b1 F =>
   cases A:pS H as with
   |mk I B =>
   simp only[pS,q,A,be]at h;obtain⟨h1,rfl⟩:=h;subst h1;simp only[ay]at k;simp only[AV.br,ay]at g;simp only[ad];exact⟨Xc HE hH q k.1 g.1 hr.1,Mz HE hH A k.2 g.2 hr.2⟩
theorem Xd{P:Program}{f:FuncId}{args d:List AV}{H:List al}{b:Bool}{v:AV}(A:dc P f d v)(B:pS H args=(b,d))(F:b=true)(q:AV.br d=true)
  (I:AQ v=true):cz P f args (ai H) v (ai H):=by
 intro E cargs hH HE k;refine(A [] (E.bare E.w) cargs rfl (Xa HE) (Mz HE hH B F q k)).mono ?_;rintro _ w' ⟨c,J,H',rfl,⟨rfl,rfl⟩,N,r',g1,g2,g3⟩;have g:Ext E.w w':=⟨g3.size,fun x M=>g3.same x M (AU x),g3.env⟩
 refine⟨c,J,ai H,rfl,⟨rfl,rfl⟩,E.loc,E.X.r,W_ I g1,?_,?_⟩
 ·rw[←hH]; exact HE.ext g
 ·rw[←hH]; exact Env.gL g
section sound
variable {P:Program} {τ:ah}
theorem FA{ops:Array Oper}{o:Oper}{s:ao}{v:AV}(hw:ch ops s.fr o=some true)(hc:df τ.pf o.op=.pure)
  (h:iC P s.eval o.op=some v∨∃ f args,fo s.eval o.op=some (f,args)∧dN P f=true∧dc P f args v):Yields P τ.pf ops o s.den v (ai s.H):=by
 unfold Yields;rw[show s.den.fr=s.fr from rfl,hw];simp only[hc,ao.ng];exact⟨rfl,h⟩
theorem rG{ops:Array Oper}{o:Oper}{s:ao}{v:AV}{H':List af}(hw:ch ops s.fr o=some true)(hc:df τ.pf o.op=.write)
  (h:eS P s.eval (ai s.H) o.op=some (v,H')∨∃ f args,fo s.eval o.op=some (f,args)∧dN P f=true∧cz P f args (ai s.H) v H'):Yields P τ.pf ops o s.den v H':=by
 unfold Yields;rw[show s.den.fr=s.fr from rfl,hw];simp only[hc,ao.ng];exact .inl h
theorem jL{H:List al}{id A:Nat}{o:al}(h:A≠id):(H.set id o)[A]? = H[A]? := bL (Ne.symm h)
theorem k9{H:List al}{A:Nat}{o:al}(h:A<H.length):(H++[o])[A]? = H[A]? := dI h
theorem MA{P:Program}{t:TypeId}{x v:AV}{H H':List al}{b:Bool}{A:Nat}(h:tZ P t x v H=some (b,H'))(g:ib x≠some A):H'[A]? = H[A]? := by
 unfold tZ at h;split at h
 case h_2=>cases h
 rename_i n q cs id ae w row col B k;have d:A≠id:=fun e=>g (by rw[e]; rfl);split at h
 case isFalse=>cases h
 split at h
 ·split at h
  ·cases h; exact jL d
  ·cases h
 ·split at h
  ·split at h
   ·cases h; exact jL d
   ·cases h
  ·cases h
 ·cases h
theorem Xe{P:Program}{t xt:TypeId}{s x v:AV}{H H':List al}{b:Bool}{A:Nat}(h:wE P t xt s x H=some (b,v,H'))(d:A<H.length)(g:ib s≠some A):H'[A]? = H[A]? := by
 unfold wE at h;split at h
 case h_2=>cases h
 split at h
 case h_2=>cases h
 split at h
 case isFalse=>cases h
 split at h
 ·split at h
  ·split at h
   ·cases h; exact k9 d
   ·cases h
  ·cases h
 ·split at h
  ·split at h
   ·cases h; exact k9 d
   ·cases h
  ·cases h
 ·split at h
  ·split at h
   ·split at h
    ·cases h; exact jL fun e=>g (by rw[e]; rfl)
    ·cases h
   ·cases h
  ·cases h
 ·cases h
theorem Xf{P:Program}{t xt:TypeId}{s x v:AV}{H H':List al}{b:Bool}{A:Nat}(h:wS P t xt s x H=some (b,v,H'))(d:A<H.length):H'[A]? = H[A]? := by
 unfold wS at h;split at h
 case h_2=>cases h
 split at h
 case h_2=>cases h
 split at h
 case h_2=>cases h
 split at h
 case h_2=>cases h
 split at h
 ·cases h; exact k9 d
 ·cases h
theorem Xg{P:Program}{t:TypeId}{x:AV}{H H':List al}{b:Bool}{A:Nat}(h:wR P t x H=some (b,H'))(d:ib x≠some A):H'[A]? = H[A]? := by
 unfold wR at h;split at h
 case h_2=>cases h
 split at h
 case h_2=>cases h
 split at h
 case h_2=>cases h
 split at h
 ·cases h; exact jL fun e=>d (by rw[e]; rfl)
 ·cases h
theorem MB{P:Program}{t:TypeId}{m k v:AV}{H H':List al}{b:Bool}{A:Nat}(h:ua P t m k v H=some (b,H'))(d:ib m≠some A):H'[A]? = H[A]? := by
 unfold ua at h;split at h
 case h_2=>cases h
 split at h
 case h_2=>cases h
 split at h
 case h_2=>cases h
 split at h
 ·cases h; exact jL fun e=>d (by rw[e]; rfl)
 ·cases h
theorem Xh{P:Program}{t:TypeId}{m k v:AV}{H H':List al}{b:Bool}{A:Nat}(h:wM P t m k v H=some (b,H'))(d:ib m≠some A)(g:ib v≠some A):H'[A]? = H[A]? := by
 unfold wM at h;split at h
 case h_2=>cases h
 split at h
 case h_2=>cases h
 split at h
 case h_2=>cases h
 split at h
 ·cases h
  rw[jL fun e=>g (by rw[e]; rfl)];exact jL fun e=>d (by rw[e]; rfl)
 ·cases h
theorem Xi{P:Program}{t:TypeId}{m k v:AV}{H H':List al}{b:Bool}{A:Nat}(h:wK P t m k H=some (b,v,H'))(d:A<H.length)(g:ib m≠some A):H'[A]? = H[A]? := by
 unfold wK at h;split at h
 case h_2=>cases h
 split at h
 case h_2=>cases h
 split at h
 case h_2=>cases h
 split at h
 ·cases h
  rw[k9 (by simpa using d)];exact jL fun e=>g (by rw[e]; rfl)
 ·cases h
theorem Xj{m s v:AV}{H H':List al}{b:Bool}{A:Nat}(h:wO m s v H=some (b,H'))(d:ib m≠some A)(g:ib v≠some A):H'[A]? = H[A]? := by
 unfold wO at h;split at h
 case h_2=>cases h
 split at h
 case h_2=>cases h
 split at h
 ·cases h
  rw[jL fun e=>g (by rw[e]; rfl)];exact jL fun e=>d (by rw[e]; rfl)
 ·cases h
theorem Xk{P:Program}{t:TypeId}{m k v:AV}{H H':List al}{b:Bool}{A:Nat}(h:wN P t m k H=some (b,v,H'))(d:A<H.length)(g:ib m≠some A):H'[A]? = H[A]? := by
 unfold wN at h;split at h
 case h_2=>cases h
 split at h
 case h_2=>cases h
 split at h
 case h_2=>cases h
 split at h
 ·cases h
  rw[k9 (by simpa using d)];exact jL fun e=>g (by rw[e]; rfl)
 ·cases h
theorem Xl{P:Program}{t:TypeId}{m k:AV}{H H':List al}{b:Bool}{A:Nat}(h:wQ P t m k H=some (b,H'))(d:ib m≠some A):H'[A]? = H[A]? := by
 unfold wQ at h;split at h
 case h_2=>cases h
 split at h
 case h_2=>cases h
 split at h
 ·cases h; exact jL fun e=>d (by rw[e]; rfl)
 ·cases h
theorem Xm{P:Program}{t:TypeId}{l c v:AV}{H H':List al}{b:Bool}{A:Nat}(h:wF P t l c H=some (b,v,H'))(d:A<H.length):H'[A]? = H[A]? := by
 unfold wF at h;split at h
 case h_2=>cases h
 split at h
 case h_2=>cases h
 split at h
 case h_2=>cases h
 split at h
 case h_2=>cases h
 split at h
 ·cases h; exact k9 d
 ·cases h
theorem Xn{P:Program}{t:TypeId}{n:Nat}{parts:List (Nat × AV)}{v:AV}{H H':List al}{b:Bool}{A:Nat}(h:wG P t n parts H=some (b,v,H'))(d:A<H.length):H'[A]? = H[A]? := by
 unfold wG at h;split at h
 case h_2=>cases h
 split at h
 case h_2=>cases h
 split at h
 case h_2=>cases h
 split at h
 case h_2=>cases h
 split at h
 case h_2=>cases h
 split at h
 ·cases h; exact k9 d
 ·cases h
theorem MC{P:Program}{r:Operand→AV}{H H':List al}{o:Op}{v:AV}{b:Bool}{A:Nat}(h:ub P r H o=some (b,v,H'))(d:A<H.length)(J:A∉o.operands.toList.filterMap fun x=>ib (r x)):H'[A]? = H[A]? := by
 have no:∀ x∈o.operands.toList,ib (r x)≠some A:=fun x g e=>J (UF.2 ⟨x,g,e⟩);cases o<;>simp only[ub]at h<;>try cases h
 case alloc t =>
  split at h
  ·split at h
   ·cases h; exact k9 d
   ·cases h
  ·split at h
   ·cases h; exact k9 d
   ·cases h
 case box t x =>
  split at h
  ·cases h; exact k9 d
  ·cases h
 case store t a x =>
  split at h
  ·rename_i B H1 hs
   cases h;exact MA hs (no a (by simp[gI]))
  ·cases h
 case makeSlice t l c=>exact Xm h d
 case buildSlice t n ps=>exact Xn h d
 case range t x =>
  split at h
  ·cases h; exact k9 d
  ·cases h
 case next it isString =>
  cases isString with
  |false=>cases h
  | true =>
   simp only[]at h;split at h
   ·rename_i id k g
    split at h
    ·split at h
     ·cases h; exact jL fun e=>no it (by simp[gI]) (by rw[g,e]; rfl)
     ·cases h; rfl
    ·cases h
   ·cases h
 case makeMap t res =>
  cases res with
  |some _=>cases h
  | none =>
   simp only[]at h;split at h
   ·split at h
    ·cases h; exact k9 d
    ·cases h
   ·cases h
 case mapUpdate t m k x =>
  split at h
  ·rename_i B H1 hs
   cases h;exact MB hs (no m (by simp[gI]))
  ·split at h
   ·rename_i B H1 hs
    cases h;exact Xh hs (no m (by simp[gI])) (no x (by simp[gI]))
   ·cases h
 case lookup t m k ok =>
  cases ok with
  |true=>cases h
  |false=>exact Xi h d (no m (by simp[gI]))
 case mapEntry t m k=>exact Xk h d (no m (by simp[gI]))
 case entryStore t m s x =>
  split at h
  ·rename_i B H1 hs
   cases h;exact Xj hs (no m (by simp[gI])) (no x (by simp[gI]))
  ·cases h
 case insert t m k x =>
  split at h
  ·rename_i B H1 hs
   cases h;exact MB hs (no m (by simp[gI]))
  ·cases h
 case call c =>
  have na:∀ x∈c.args.toList,ib (r x)≠some A:=fun x g=>no x (by
   simp only[gI,Call.operands];simp at g⊢;exact .inr g)
  split at h
  ·split at h
   ·rename_i s x t xt q I
    have M:=na s (by rw[q]; simp);split at h
    ·exact Xf h d
    ·exact Xe h d M
   ·cases h
  ·split at h
   ·rename_i x t q I
    have F:=na x (by rw[q]; simp);split at h
    ·rename_i hs; cases h; exact Xg hs F
    ·cases h
   ·cases h
  ·split at h
   ·rename_i x k t _ q I
    have F:=na x (by rw[q]; simp);split at h
    ·rename_i hs; cases h; exact Xl hs F
    ·cases h
   ·cases h
  ·cases h
theorem Xo{P:Program}{r:Operand→AV}{H H':List al}{o:Op}{b:Bool}{A:Nat}(h:wW P r H o=some (b,H'))(g:A∉o.operands.toList.filterMap fun x=>ib (r x)):H'[A]? = H[A]? := by
 have no:∀ x∈o.operands.toList,ib (r x)≠some A:=fun x k e=>g (UF.2 ⟨x,k,e⟩);unfold wW at h;split at h
 case h_2=>cases h
 rename_i t a x;split at h
 case h_2=>cases h
 rename_i b0 v1 H1 d;split at h
 case h_2=>cases h
 rename_i b1 B hs;simp only[aX,be]at h;obtain⟨_,rfl⟩:=h;rw[MA hs (no a (by simp[gI]))];unfold Fs at d;split at d
 case h_2=>cases d
 rename_i w id ae off n q;split at d
 case h_2=>cases d
 split at d
 case isFalse=>cases d
 simp only[aX,be]at d;obtain⟨_,_,rfl⟩:=d;refine jL fun e=>no x (by simp[gI]) ?_;rw[q,e];rfl
theorem AW(J:aj P τ){ops:Array Oper}{o:Oper}{s:ao}{k:AV→List al→Tree}{Q:bB→ao→Prop}(hw:ch ops s.fr o=some true)
  (h:(pT P τ o s k).holds Q):∃ v H',Yields P τ.pf ops o s.den v (ai H')∧(df τ.pf o.op=.write→∀ A,A∉kr τ s.eval s.H o.op→A<s.H.length→H'[A]? = s.H[A]?)∧(k v H').holds Q:=by
 unfold pT at h;split at h
 ·rename_i c a b B
  split at h
  ·rename_i t R
   have R:=Mu R;refine⟨bif t then s.eval a else s.eval b,s.H,FA hw (by rw[B]; rfl) (.inl (by rw[B]; simp only[iC,R])),fun _ _ _ _=>rfl,?_⟩;simp only[Tree.holds]at h;cases t with
   |true=>exact h.1 rfl
   |false=>exact h.2 rfl
  ·exact h.elim
 ·rename_i t a B
  split at h
  ·rename_i b v N
   simp only[Tree.holds]at h;refine⟨v,s.H,?_,fun _ _ _ _=>rfl,h.2⟩;unfold Yields;rw[show s.den.fr=s.fr from rfl,hw];simp only[B,df,ao.ng];exact⟨rfl,by simp only[fp]; exact WG N h.1⟩
  ·exact h.elim
 ·rename_i t m x ok B
  have Y:kr τ s.eval s.H o.op=o.op.operands.toList.filterMap fun x=>ib (s.eval x):=by
   have M:fo s.eval o.op=none:=by rw[B]; rfl
   simp only[kr,M]
  split at h
  ·rename_i b v N
   split at h
   ·rename_i hc
    simp only[Tree.holds]at h;refine⟨v,s.H,?_,fun _ _ _ _=>rfl,h.2⟩;unfold Yields;rw[show s.den.fr=s.fr from rfl,hw];simp only[hc,ao.ng];rw[B];exact⟨rfl,by simp only[fp]; exact Md N⟩
   ·rename_i hc
    simp only[Tree.holds]at h;refine⟨v,s.H,rG hw hc (.inl ?_),fun _ _ _ _=>rfl,h.2⟩;rw[B];simp only[eS,Md N]
   ·exact h.elim
  ·split at h
   ·rename_i hc
    split at h
    ·rename_i b v H' d
     simp only[Tree.holds]at h;exact⟨v,H',rG hw hc (.inl (Mm d h.1)),fun _ A g q=>MC d q (by rw[Y]at g; exact g),h.2⟩
    ·exact h.elim
   ·exact h.elim
 ·split at h
  ·rename_i hc
   split at h
   ·rename_i v d
    refine⟨v,s.H,?_,fun _ _ _ _=>rfl,h⟩;unfold Yields;rw[show s.den.fr=s.fr from rfl,hw];simp only[hc,ao.ng];exact⟨rfl,W6 d⟩
   ·exact h.elim
  ·rename_i hc
   split at h
   ·rename_i f args F
    split at h
    ·rename_i b v d
     simp only[Tree.holds]at h;obtain⟨g1,g2⟩:=J.T f args b v d h.1;exact⟨v,s.H,FA hw hc (.inr ⟨f,args,F,g1,g2⟩),fun _ _ _ _=>rfl,h.2⟩
    ·exact h.elim
   ·split at h
    ·rename_i b v d
     simp only[Tree.holds]at h;exact⟨v,s.H,FA hw hc (.inl (W5 d h.1)),fun _ _ _ _=>rfl,h.2⟩
    ·exact h.elim
  ·rename_i hc
   split at h
   ·rename_i f args F
    split at h
    ·rename_i b v H' d
     simp only[Tree.holds]at h;obtain⟨g1,g2⟩:=J.W f args s.H b v H' d h.1;exact⟨v,H',rG hw hc (.inr ⟨f,args,F,g1,g2⟩),fun _ A g q=>J.C f args s.H b v H' d A (by simpa only[kr,F]using g) q,h.2⟩
    ·split at h
     ·rename_i t hi
      obtain⟨g1,v,H',g2,g3,g4⟩:=J.I f args s.H t hi _ (Tree.AM h);exact⟨v,H',rG hw hc (.inr ⟨f,args,F,g1,g2⟩),fun _ A g q=>g3 A (by simpa only[kr,F]using g) q,g4⟩
     ·split at h
      ·rename_i b v d
       simp only[Tree.holds]at h;obtain⟨g1,g2⟩:=J.T f args b v d h.1;exact⟨v,s.H,rG hw hc (.inr ⟨f,args,F,g1,g2 _⟩),fun _ _ _ _=>rfl,h.2⟩
      ·cases U : pS s.H args with
       |mk vb args' =>
       rw[U]at h;simp only[]at h;split at h
       ·rename_i b v d
        split at h
        ·rename_i O
         simp only[ay]at O;simp only[Tree.holds,ay]at h;obtain⟨g1,g2⟩:=J.T f args' b v d h.1.2;exact⟨v,s.H,rG hw hc (.inr ⟨f,args,F,g1,Xd g2 U h.1.1 O.2 O.1⟩),fun _ _ _ _=>rfl,h.2⟩
        ·exact h.elim
       ·exact h.elim
   ·rename_i M
    split at h
    ·rename_i b v H' d
     simp only[Tree.holds]at h;exact⟨v,H',rG hw hc (.inl (Mm d h.1)),fun _ A g q=>MC d q (by simpa only[kr,M]using g),h.2⟩
    ·split at h
     ·rename_i b H' d
      simp only[Tree.holds]at h;refine⟨.undef,H',?_,fun _ A g q=>Xo d (by simpa only[kr,M]using g),h.2⟩;unfold Yields;rw[show s.den.fr=s.fr from rfl,hw];simp only[hc,ao.ng];exact .inr (.inr (W7 d h.1))
     ·exact h.elim
theorem MD{ops:Array Oper}{s:ao}{o:Oper}{t:Tmp}{b want:Bool}(h:pR ops s.fr o=.test t b want) :
  s.fr[t]? = some (.lit (.bool b))∧ch ops s.fr o=some (b==want):=by
 unfold pR at h;unfold ch;cases d:o.guard with
 |none=>rw[d]at h; cases h
 | some k =>
  obtain⟨j,w⟩:=k;rw[d]at h;simp only[]at h⊢;split at h
  ·rename_i t' q
   split at h
   ·rename_i A g
    cases h;exact⟨g,by rw[q]; simp only[g]⟩
   ·cases h
   ·cases h
  ·cases h
theorem FB{ops:Array Oper}{s:ao}{o:Oper}(h:pR ops s.fr o=.no):ch ops s.fr o=some false:=by
 unfold pR at h;unfold ch;cases d:o.guard with
 |none=>rw[d]at h; cases h
 | some g =>
  obtain⟨j,w⟩:=g;rw[d]at h;simp only[]at h⊢;split at h
  ·rename_i t' k
   split at h
   ·cases h
   ·rename_i q
    rw[k];simp only[q]
   ·cases h
  ·cases h
theorem ME{ops:Array Oper}{s:ao}{o:Oper}(h:pR ops s.fr o=.yes):ch ops s.fr o=some true:=by
 unfold pR at h;unfold ch;cases d:o.guard with
 |none=>rfl
 | some g =>
  obtain⟨j,w⟩:=g;rw[d]at h;simp only[]at h;split at h
  ·split at h<;>cases h
  ·cases h
theorem AX{s:ao}{t:Tmp}{b:Bool} (h:s.fr[t]? = some (.lit (.bool b))):s.slot t b=s:=by
 unfold ao.slot;rw[mX h]
theorem Xp(q:aj P τ){ops:Array Oper}{o:Oper}{s:ao}{k:ao→Tree}{Q:bB→ao→Prop}(h:(Ft P τ ops o s k).holds Q) :
  ∃ v H',Yields P τ.pf ops o s.den v (ai H')∧(k (s.put o.dst v H')).holds Q:=by
 have skip:ch ops s.fr o=some false→Yields P τ.pf ops o s.den (.tuple []) (ai s.H):=by
  intro hw;unfold Yields;rw[show s.den.fr=s.fr from rfl,hw];exact⟨rfl,rfl⟩
 unfold Ft at h;split at h
 ·exact h.elim
 ·rename_i hw
  exact⟨_,_,skip (FB hw),h⟩
 ·rename_i hw
  obtain⟨v,H',g1,_,g2⟩:=AW q (ME hw) h;exact⟨v,H',g1,g2⟩
 ·rename_i t b want hw
  obtain⟨h1,g⟩:=MD hw;simp only[Tree.holds]at h;cases b with
  | true =>
   have d:=h.1 rfl;rw[AX h1]at d;cases want with
   | true =>
    obtain⟨v,H',g1,_,g2⟩:=AW q g d;exact⟨v,H',g1,g2⟩
   |false=>exact⟨_,_,skip g,d⟩
  | false =>
   have d:=h.2 rfl;rw[AX h1]at d;cases want with
   |true=>exact⟨_,_,skip g,d⟩
   | false =>
    obtain⟨v,H',g1,_,g2⟩:=AW q g d;exact⟨v,H',g1,g2⟩
theorem pV(d:aj P τ){ops:Array Oper}{Q:bB→ao→Prop}:∀{l:List Oper} {s:ao} {k:ao→Tree},(eg P τ ops l s k).holds Q→∃ s',eT P τ.pf ops l s.den s'.den∧(k s').holds Q
 | [],s,k,h=>⟨s,rfl,h⟩
 | o::l,s,k,h=>by
  obtain⟨v,H',h1,g⟩:=Xp d h;obtain⟨s',q,A⟩:=pV d g;exact⟨s',⟨v,ai H',h1,q⟩,A⟩
def Acc.le(a b:Acc):Prop:=(∀ x∈a.R,x∈b.R)∧∀ x∈a.W,x∈b.W
def Acc.ok(ops:Array Oper)(j:Nat)(a:Acc):Prop:=(∀ x∈a.R,x.1<j)∧(∀ x∈a.W,x.1<j)∧tX ops a.R a.W
theorem FC{ids:List Nat}{i:Nat}(h:wX ids i=true):i∉ids:=by
 intro hm;have:ids.any (ab i)=true:=List.any_eq_true.2 ⟨i,hm,by simp⟩;simp[wX,this]at h
theorem Xq{ops:Array Oper}{j id:Nat}{a b:Acc}(F:a.ok ops j)(h:Fu ops j id a=some b):b.ok ops (j+1)∧a.le b∧(j,id)∈b.R:=by
 unfold Fu at h;split at h
 ·rename_i g
  cases h;simp only[ep,jC,ay,iA]at g;obtain⟨h1,k,q⟩:=F;refine⟨⟨fun x d=>?_,fun x d=>mN (k x d),fun i A hi e he=>?_,q.2⟩,⟨fun x d=>bS _ d,fun x d=>d⟩,cJ⟩
  ·rcases bC.1 d with rfl | d
   ·exact DP _
   ·exact mN (h1 x d)
  ·rcases bC.1 hi with I | hi
   ·cases I
    have J:=k e he;refine⟨fun B=>absurd B (by omega),fun _ hw=>?_⟩;rcases g e he with h|h
    ·rw[hw]at h; cases h
    ·exact⟨FC h.1,h.2⟩
   ·exact q.1 i A hi e he
 ·cases h
theorem MF{ops:Array Oper}{j n:Nat}{T:List Nat}{a b:Acc}(U:a.ok ops j)(h:AR ops j T n a=some b):b.ok ops (j+1)∧a.le b∧(j,T,n)∈b.W:=by
 unfold AR at h;split at h
 ·rename_i J
  split at h
  case h_2=>cases h
  rename_i I;cases h;simp only[ep,jC,ay,iA]at J I;obtain⟨h1,N,O⟩:=U;refine⟨⟨fun x d=>mN (h1 x d),fun x d=>?_,fun i q hi e he=>?_,fun e he e' k g A id hid=>?_⟩,⟨fun x d=>d,fun x d=>bS _ d⟩,cJ⟩
  ·rcases bC.1 d with rfl | d
   ·exact DP _
   ·exact mN (N x d)
  ·rcases bC.1 he with B | he
   ·subst B
    have g:=h1 (i,q) hi;refine⟨fun _ hw=>?_,fun M=>absurd M (by simp only at M g; omega)⟩;rcases J (i,q) hi with h|h
    ·simp only at hw h; rw[hw]at h; cases h
    ·exact⟨FC h.1,h.2⟩
   ·exact O.1 i q hi e he
  ·rcases bC.1 k with B | k
   ·subst B
    rcases bC.1 he with F|he
    ·subst F
     exact absurd g (vR _)
    ·rcases I e he with h | h
     ·simp only at A h
      rw[A]at h;cases h
     ·have R := h id hid
      exact⟨FC R.1,R.2⟩
   ·rcases bC.1 he with F | he
    ·subst F
     have Y:=N e' k;exact absurd g (by simp only; omega)
    ·exact O.2 e he e' k g A id hid
 ·cases h
theorem Acc.w6{ops:Array Oper}{j:Nat}{a:Acc}(h:a.ok ops j):a.ok ops (j+1):=⟨fun x d=>mN (h.1 x d),fun x d=>mN (h.2.1 x d),h.2.2⟩
theorem Acc.le_refl(a:Acc):a.le a:=⟨fun _ h=>h,fun _ h=>h⟩
theorem Acc.le_trans{a b c:Acc}(h:a.le b)(h':b.le c):a.le c:=⟨fun x d=>h'.1 x (h.1 x d),fun x d=>h'.2 x (h.2 x d)⟩
def Acc.only(j:Nat)(a b:Acc):Prop:=∀ x∈b.W,x.1<j→x∈a.W
theorem Xr{ops:Array Oper}{j:Nat}{o:Oper}{s:ao}{a b:Acc}(g:a.ok ops j)(h:Fv τ ops j o s a=some b) :
  b.ok ops (j+1)∧a.le b∧(df τ.pf o.op=.read→∀ id,l7 s.eval o.op=some id→(j,id)∈b.R)∧(df τ.pf o.op=.write→(j,kr τ s.eval s.H o.op,s.H.length)∈b.W):=by
 unfold Fv at h;split at h
 ·rename_i hc
  cases h;exact⟨Acc.w6 g,a.le_refl,(fun h=>by rw[hc]at h; cases h),(fun h=>by rw[hc]at h; cases h)⟩
 ·rename_i hc
  split at h
  ·rename_i id hid
   obtain⟨g1,g2,g3⟩:=Xq g h;refine⟨g1,g2,fun _ k d=>?_,(fun h=>by rw[hc]at h; cases h)⟩;rw[hid]at d;cases d;exact g3
  ·rename_i hid
   cases h;refine⟨Acc.w6 g,a.le_refl,fun _ k d=>?_,(fun h=>by rw[hc]at h; cases h)⟩;rw[hid]at d;cases d
 ·rename_i hc
  obtain⟨g1,g2,g3⟩:=MF g h;exact⟨g1,g2,(fun h=>by rw[hc]at h; cases h),fun _=>g3⟩
theorem MG{ops:Array Oper}{j:Nat}{o:Oper}{s:ao}{v:AV}{H':List al}{b c:Acc}(k:b.le c)(hr:df τ.pf o.op=.read→∀ id,l7 s.eval o.op=some id→(j,id)∈b.R)
  (hw:df τ.pf o.op=.write→(j,kr τ s.eval s.H o.op,s.H.length)∈b.W) (hk:df τ.pf o.op=.write→∀ A,A∉kr τ s.eval s.H o.op→A<s.H.length→H'[A]? = s.H[A]?)
  (q:l8 o.op=true→pL ops=true→df τ.pf o.op=.write→ch ops s.den.fr o=some true→∀ σ,AD c.W j s.den.H σ→Yields P τ.pf ops o ⟨s.den.fr,oh σ s.den.H⟩ v (oh σ (ai H'))) :
  (d:(rr ops&&eK o.op)=false)→Step P τ.pf ops c.R c.W j o s.den v (ai H'):=by
 intro d;refine⟨fun hc A B=>?_,fun hc _ id hid=>k.1 _ (hr hc id (by rw[←ao.ng]; exact hid)),fun h1 g _=>(by rw[h1,g]at d; cases d),q⟩;have:=B _ (k.2 _ (hw hc)) rfl;have g:=hk hc A this.1 this.2;show (ai H')[A]? = (ai s.H)[A]?
 simp only[ai,cy,g]
theorem step_skip{ops:Array Oper}{j:Nat}{o:Oper}{s:ao}{c:Acc}(hw:ch ops s.fr o=some false):Step P τ.pf ops c.R c.W j o s.den (.tuple []) (ai s.H) :=
 ⟨fun _ _ _=>rfl,fun _ h=>(by rw[show s.den.fr=s.fr from rfl,hw]at h; cases h),fun _ _ _=>⟨rfl,fun _ h=>(h rfl).elim⟩,fun _ _ _ h=>(by rw[show s.den.fr=s.fr from rfl,hw]at h; cases h)⟩
theorem MH(k:aj P τ){f:FuncId}{args:List AV}{v:AV}(A:τ.N f=true):∀(σ:List (Nat × af)) (H H':List al),τ.W f args H=some (true,v,H')→(∀ p∈σ,p.1<H.length∧p.1∉τ.C f args H) →
  ∃ g d,ai g=oh σ (ai H)∧ai d=oh σ (ai H')∧τ.W f args g=some (true,v,d)
 | [],H,H',h,_=>⟨H,H',rfl,rfl,h⟩
 | p::σ,H,H',h,B=>by
  obtain⟨I,a2⟩:=B p cJ;obtain⟨h1,J⟩:=k.F.2 f A args H true v H' h p.1 (.raw p.2) I a2;obtain⟨g,d,M,O,R⟩:=MH k A σ _ _ h1 fun q U=>by
   obtain⟨b1,Y⟩:=B q (bS _ U);rw[J];exact⟨by simpa using b1,Y⟩
  refine⟨g,d,?_,?_,R⟩
  ·rw [M, eE]
   rfl
  ·rw [O, eE]
   rfl
theorem Xs{o:Oper}{s:ao}{k:AV→List al→Tree}{f:FuncId}{args:List AV}{b:Bool}{v:AV}{H':List al}(d:l8 o.op=true)(hc:df τ.pf o.op=.write)(g:fo s.eval o.op=some (f,args))(A:τ.W f args s.H=some (b,v,H')) :
  pT P τ o s k=.side b (k v H'):=by
 unfold l8 at d;split at d
 ·rename_i c q
  unfold pT;rw[q]at hc g⊢;simp only[hc,g,A]
 ·cases d
theorem MI{z:List Value}:∀{H:List al} {i j:Nat} {ks:List Kd} {g:List G},rE z H i=some (j,ks,g)→i≤j∧H[j-i]? = some (.vec ks 0 [])∧ud ks z=some g
 | [],_,_,_,_,h=>by cases h
 | o::H,i,j,ks,g,h=>by
  have next:rE z H (i+1)=some (j,ks,g)→i≤j∧(o::H)[j-i]? = some (.vec ks 0 [])∧ud ks z=some g:=by
   intro h;obtain⟨h1,d,k⟩:=MI h;refine⟨by omega,?_,k⟩;rw[show j-i=(j-(i+1))+1 from by omega];simpa using d
  unfold rE at h;split at h
  ·cases ‹_=_›
  ·rename_i A rows' H' B e
   cases e;split at h
   ·rename_i F q
    split at h
    ·cases h
     exact⟨aI _,by simp,q⟩
    ·exact next h
   ·exact next h
  ·rename_i e
   cases e;exact next h
theorem Xt{op:Op}{H H':List al}{id:Nat}{v:AV}(h:Fw P op H=some (id,v,H')) :
  (∃ t m,op=.alloc t∧pF P t id m (ai H)=some (v,ai H'))∧H'.length=H.length∧∀ A,A≠id→H'[A]? = H[A]? := by
 unfold Fw at h;split at h
 ·rename_i t
  split at h
  ·rename_i z q
   split at h
   ·rename_i i ks g B
    cases h;obtain⟨_,d,F⟩:=MI B;rw[j8]at d;have e:=Mo F;refine⟨⟨t,mZ ks,rfl,?_⟩,by simp,fun A I=>bL (Ne.symm I)⟩;have hk:ks.length=z.length:=by
     have:=congrArg pk e;simpa[qT,zY]using this
    rw[LP (mZ ks) q (k:=ks.length) (by rw[bx d]; rfl) hk,eE,←e];rfl
   ·cases h
  ·cases h
 ·cases h
theorem FD(F:aj P τ){ops:Array Oper}{j:Nat}{o:Oper}{s:ao}{a:Acc}{k:ao→Acc→Tree}{Q:bB→ao→Prop}(hw:ch ops s.fr o=some true)(ha:a.ok ops j)(h:(wY P τ ops j o s a k).holds Q) :
  ∃ v H' b,Yields P τ.pf ops o s.den v (ai H')∧b.ok ops (j+1)∧a.le b∧(∀ c,b.le c→Step P τ.pf ops c.R c.W j o s.den v (ai H'))∧(k (s.put o.dst v H') b).holds Q:=by
 unfold wY at h;split at h
 ·rename_i q
  simp only[ay]at q;split at h
  ·rename_i id v H' hal
   split at h
   ·rename_i b O
    obtain⟨⟨t,m,hop,hv⟩,hlen,hkeep⟩:=Xt hal;obtain⟨g1,g2,g3⟩:=MF ha O;refine⟨v,H',b,?_,g1,g2,fun c hc=>⟨fun _ A U=>?_,fun hr=>(by rw[ru q.2]at hr; cases hr),fun _ _ _=>⟨?_,fun I hne=>?_⟩,fun hcv=>(by rw[pM q.2]at hcv; cases hcv)⟩,h⟩
    ·unfold Yields
     rw[show s.den.fr=s.fr from rfl,hw];simp only[ru q.2];exact .inr (.inl ⟨t,id,m,hop,hv⟩)
    ·have := (U _ (hc.2 _ g3) rfl).1
     show (ai H')[A]? = (ai s.H)[A]?
     simp only[ai,cy,hkeep A (by simpa using this)]
    ·show (ai H').length = (ai s.H).length
     simp only[ef,hlen]
    ·refine ⟨_, hc.2 _ g3, rfl, ?_⟩
     have e:I=id:=Kv fun e=>hne (by
      show (ai H')[I]? = (ai s.H)[I]?
      simp only[ai,cy,hkeep I e])
     rw[e];exact List.mem_singleton.2 rfl
   ·exact h.elim
  ·exact h.elim
 ·rename_i q
  split at h
  ·exact h.elim
  rename_i hfc;split at h
  ·rename_i b O
   obtain⟨g1,g2,g3,g4⟩:=Xr ha O;by_cases B:(pL ops&&l8 o.op)=true∧df τ.pf o.op=.write
   ·obtain ⟨B, J⟩ := B
    have hca2:=B;simp only[ay]at hca2;have g:Fx τ o s=true:=by
     rw[B]at hfc;simpa using hfc
    unfold Fx at g;rw[J]at g;simp only[]at g;split at g
    case h_2=>cases g
    rename_i f args N;split at g
    case h_2=>cases g
    rename_i hN;obtain⟨⟨b0,v,H'⟩,M⟩:=Option.isSome_iff_exists.1 g;rw[Xs hca2.2 J N M]at h;simp only[Tree.holds]at h;obtain⟨rfl,h⟩:=h;obtain⟨hbody,hcall⟩:=F.W f args s.H true v H' M rfl;have htch:kr τ s.eval s.H o.op=τ.C f args s.H:=by
     unfold kr;rw[N]
    have hcal':∀ d,fo (St.eval ⟨s.den.fr,d⟩) o.op=some (f,args):=fun d=>by
     have e:St.eval ⟨s.den.fr,d⟩=s.eval:=by funext x; cases x<;>rfl
     rw[e];exact N
    have yl:∀ d Y:List af,cz P f args d v Y→Yields P τ.pf ops o ⟨s.den.fr,d⟩ v Y:=fun d Y hx=>by
     unfold Yields;rw[show (St.mk s.den.fr d).fr=s.fr from rfl,hw];simp only[J];exact .inl (.inr ⟨f,args,hcal' d,hbody,hx⟩)
    refine⟨v,H',b,yl _ _ hcall,g1,g2,fun c hc=>MG hc g3 g4 (fun _ A U hlt=>?_) (fun _ _ _ _ σ hσ=>?_) (by simpa using q),h⟩
    ·exact F.C f args s.H true v H' M A (by rw[←htch]; exact U) hlt
    ·obtain ⟨d,H2',q1,q2,q3⟩:=MH F hN σ s.H H' M (fun p hp=>by
      obtain⟨hk,_⟩:=hσ p hp;obtain⟨k1,k2⟩:=hk _ (hc.2 _ (g4 J)) rfl;rw[htch]at k1;exact⟨k2,k1⟩)
     rw[←q2,show oh σ s.den.H=ai d from q1.symm];exact yl _ _ (F.W f args d true v H2' q3 rfl).2
   ·obtain ⟨v, H', q1, q2, q3⟩ := AW F hw h
    exact⟨v,H',b,q1,g1,g2,fun c hc=>MG hc g3 g4 q2 (fun h1 h2 h3=>absurd ⟨by rw[h1,h2]; rfl,h3⟩ B) (by simpa using q),q3⟩
  ·exact h.elim
theorem Xu(A:aj P τ){ops:Array Oper}{j:Nat}{o:Oper}{s:ao}{a:Acc}{k:ao→Acc→Tree}{Q:bB→ao→Prop}(g:a.ok ops j)(h:(Fy P τ ops j o s a k).holds Q) :
  ∃ v H' b,Yields P τ.pf ops o s.den v (ai H')∧b.ok ops (j+1)∧a.le b∧(∀ c,b.le c→Step P τ.pf ops c.R c.W j o s.den v (ai H'))∧(k (s.put o.dst v H') b).holds Q:=by
 have skip:ch ops s.fr o=some false→Yields P τ.pf ops o s.den (.tuple []) (ai s.H):=by
  intro hw;unfold Yields;rw[show s.den.fr=s.fr from rfl,hw];exact⟨rfl,rfl⟩
 unfold Fy at h;split at h
 ·exact h.elim
 ·rename_i hw
  exact⟨_,_,a,skip (FB hw),Acc.w6 g,a.le_refl,fun _ _=>step_skip (FB hw),h⟩
 ·rename_i hw
  exact FD A (ME hw) g h
 ·rename_i t b want hw
  obtain⟨h1,q⟩:=MD hw;simp only[Tree.holds]at h;cases b with
  | true =>
   have d:=h.1 rfl;rw[AX h1]at d;cases want with
   |true=>exact FD A q g d
   |false=>exact⟨_,_,a,skip q,Acc.w6 g,a.le_refl,fun _ _=>step_skip q,d⟩
  | false =>
   have d:=h.2 rfl;rw[AX h1]at d;cases want with
   |true=>exact⟨_,_,a,skip q,Acc.w6 g,a.le_refl,fun _ _=>step_skip q,d⟩
   |false=>exact FD A q g d
theorem MJ(g:aj P τ){ops:Array Oper}{Q:bB→ao→Prop}:∀{l:List Oper} {j:Nat} {s:ao} {a:Acc} {k:ao→Tree},a.ok ops j→(Fz P τ ops l j s a k).holds Q →
  ∃ s' b,tX ops b.R b.W∧a.le b∧tV P τ.pf ops b.R b.W l j s.den s'.den∧(k s').holds Q
 | [],j,s,a,k,d,h=>⟨s,a,d.2.2,a.le_refl,rfl,h⟩
 | o::l,j,s,a,k,d,h=>by
  obtain⟨v,H',b,g1,g2,g3,g4,g5⟩:=Xu g d h;obtain⟨s',c,A,q,B,F⟩:=MJ g g2 g5;exact⟨s',c,A,Acc.le_trans g3 q,⟨v,ai H',g1,g4 c q,B⟩,F⟩
theorem Xv{m id:Nat}{ops:Array Oper}{s s':ao}{b:Acc}(hm:P.follows .mixedOrders=true)(d:tW τ.pf ops=true)(g:tX ops b.R b.W)(h:tV P τ.pf ops b.R b.W ops.toList 0 s.den s'.den) :
  cn P m (.region id ops true) s.den .normal s'.den:=fun ro _ _ _ hs=>WD hm d g hs h (fun _ _ hc=>⟨rfl,hc.toM⟩) ro
theorem w7{K:bB→ao→Tree}{Q:bB→ao→Prop}:∀{t:Tree},(t.bind K).holds Q→t.holds fun x s=>(K x s).holds Q
 |.fail,h=>h
 |.done _ _,h=>h
 |.ask _ _ _,h=>⟨fun d=>w7 (h.1 d),fun d=>w7 (h.2 d)⟩
 |.side _ _,h=>⟨h.1,w7 h.2⟩
theorem MK{m:Nat}{c:Code}{Q:bB→ao→Prop}{body:ao→(bB→ao→Tree)→Tree}
  (g:∀ s K,(body s K).holds Q→∃ x s',cn P m c s.den x s'.den∧(K x s').holds Q):∀(n:Nat) (s:ao) (K:bB→ao→Tree),(AS body n s K).holds Q →
  ∃ x s',kV P m c s.den x s'.den∧(K x s').holds Q
 |0,_,_,h=>h.elim
 | n+1,s,K,h=>by
  simp only[AS]at h;obtain⟨x,s1,h1,d⟩:=g _ _ h;cases x with
  | normal =>
   obtain⟨y,s2,k,q⟩:=MK g n s1 K d;exact⟨y,s2,.next h1 k,q⟩
  |exit i=>exact⟨_,s1,.stop h1 (by simp),d⟩
  |ret=>exact⟨_,s1,.stop h1 (by simp),d⟩
theorem dS(hm:P.follows .mixedOrders=true)(q:aj P τ){m:Nat}{L:LT}{Q:bB→ao→Prop}:∀(c:Code) (s:ao) (K:bB→ao→Tree),
  ax P m L c→(bW P τ L c s K).holds Q→∃ x s',cn P m c s.den x s'.den∧(K x s').holds Q
 |.skip,s,K,_,h=>⟨_,_,Wr,h⟩
 | .region id ops draw,s,K,k,h=>by
  simp only[bW]at h;split at h
  ·rename_i F
   split at h
   ·rename_i U
    simp only[Tree.holds]at h;have R:draw=true:=by
     cases draw with
     |true=>rfl
     |false=>simp at F
    subst R;obtain⟨s',b,h1,_,d,A⟩:=MJ q (a:=⟨[],[]⟩) ⟨by simp,by simp,⟨fun i id hi=>(nomatch hi),fun e he=>(nomatch he)⟩⟩ h.2;exact⟨_,_,tQ (k.2.1 id s h.1) (Xv hm U h1 d),A⟩
   ·exact h.elim
  ·rename_i O
   simp only[Tree.holds]at h;obtain⟨s',h1,d⟩:=pV q h.2;refine⟨_,_,tQ (k.2.1 id s h.1) (Wu hm (fun F=>?_) h1),d⟩;rw[F]at O;simpa using O
 | .seq a b,s,K,k,h=>by
  simp only[bW]at h;have I:ax P m L a:=k.sub (fun p g=>by simp only[bH]; exact bV.2 (.inl g)) (fun p g=>by simp only[bG]; exact bV.2 (.inl g));have J:ax P m L b:=k.sub (fun p g=>by simp only[bH]; exact bV.2 (.inr g)) (fun p g=>by simp only[bG]; exact bV.2 (.inr (bV.2 (.inr g))));obtain⟨x,s1,h1,d⟩:=dS hm q a s _ I h;cases x with
  | normal =>
   simp only[Mp]at d;split at d
   ·rename_i t B
    unfold Ms at B;split at B
    ·rename_i i hi
     obtain⟨y,s2,A,N⟩:=k.2.2 i b (by simp only[bG,hi]; exact bV.2 (.inr (bV.2 (.inl (cJ))))) s1 t B _ (w7 d);exact⟨y,s2,tR h1 A,N⟩
    ·cases B
   ·obtain ⟨y, s2, A, N⟩ := dS hm q b s1 K J d
    exact⟨y,s2,tR h1 A,N⟩
  |exit id=>exact⟨_,_,LX h1 (by simp),d⟩
  |ret=>exact⟨_,_,LX h1 (by simp),d⟩
 | .cond c a b,s,K,k,h=>by
  simp only[bW]at h;have I:ax P m L a:=k.sub (fun p g=>by simp only[bH]; exact bV.2 (.inl g)) (fun p g=>by simp only[bG]; exact bV.2 (.inl g));have J:ax P m L b:=k.sub (fun p g=>by simp only[bH]; exact bV.2 (.inr g)) (fun p g=>by simp only[bG]; exact bV.2 (.inr g));split at h
  ·rename_i t W
   have M:=Mu W;rw[←ao.ng]at M;simp only[Tree.holds]at h;cases t with
   | true =>
    obtain⟨x,s1,h1,d⟩:=dS hm q a s K I (h.1 rfl);exact⟨x,s1,LY M (by simpa using h1),d⟩
   | false =>
    obtain⟨x,s1,h1,d⟩:=dS hm q b s K J (h.2 rfl);exact⟨x,s1,LY M (by simpa using h1),d⟩
  ·exact h.elim
 | .block id c,s,K,k,h=>by
  simp only[bW]at h;obtain⟨x,s1,h1,d⟩:=dS hm q c s _ (k.sub (fun p g=>by simpa only[bH]using g) (fun p g=>by simpa only[bG]using g)) h;refine⟨_,s1,ES h1,?_⟩;cases x with
  |normal=>exact d
  | exit i =>
   simp only[Mq]at d;simp only[bB.inBlock];split
   ·rename_i e; rw[if_pos e]at d; exact d
   ·rename_i e; rw[if_neg e]at d; exact d
  |ret=>exact d
 | .loop c,s,K,k,h=>by
  simp only[bW]at h;split at h
  ·rename_i i hi
   split at h
   ·rename_i t Y
    obtain⟨x,s',h1,d⟩:=k.1 i c (by simp only[bH,hi]; exact cJ) s t Y _ (w7 h);exact⟨x,s',LZ h1,d⟩
   ·obtain ⟨x, s', h1, d⟩ := MK (fun s1 K1 hh => dS hm q c s1 K1 (k.sub (fun p g => by simp only [bH, hi]; exact bS _ g) (fun p g => by simpa only [bG] using g)) hh) 400 s K h
    exact⟨x,s',LZ h1,d⟩
  ·exact h.elim
 |.exit id,s,K,_,h=>⟨_,_,Wt,h⟩
 |.ret,s,K,_,h=>⟨_,_,Ws,h⟩
 |.rangeFunc ..,_,_,_,h=>by simp[bW,Tree.holds]at h
 |.scope _,_,_,_,h=>by simp[bW,Tree.holds]at h
 |.label _,_,_,_,h=>by simp[bW,Tree.holds]at h
 |.goto _,_,_,_,h=>by simp[bW,Tree.holds]at h
 |.refuse _,_,_,_,h=>by simp[bW,Tree.holds]at h
end sound
end Go.AL

namespace Go.AL
open Go
variable [Dr]
inductive jM where
 |fail
 |ret (v:AV) (H:List al)
 |ask (b:Bool) (t e:jM)
 |side (b:Bool) (t:jM)
def jM.holds(Q:AV→List al→Prop):jM→Prop
 |.fail=>False
 |.ret v H=>Q v H
 |.ask b t e=>(b=true→t.holds Q)∧(b=false→e.holds Q)
 |.side b t=>b=true∧t.holds Q
def jM.two:jM→Option (AV × List al)
 |.fail=>none
 |.ret v H=>some (v,H)
 |.ask b t e=>bif b then t.two else e.two
 |.side b t=>bif b then t.two else none
def jM.val:jM→Option AV
 |.fail=>none
 |.ret v _=>some v
 |.ask b t e=>bif b then t.val else e.val
 |.side b t=>bif b then t.val else none
theorem AY:∀{t:jM} {v:AV},t.val=some v→t.holds fun u _=>u=v
 |.fail,_,h=>by cases h
 |.ret u H,_,h=>by simp only[jM.val,aX]at h; exact h
 | .ask b t e,v,h=>by
  cases b with
  |true=>exact⟨fun _=>AY (t:=t) (v:=v) h,fun h=>by cases h⟩
  |false=>exact⟨fun h=>(nomatch h),fun _=>AY (t:=e) (v:=v) h⟩
 | .side b t,v,h=>by
  cases b with
  |true=>exact And.intro rfl (AY (t:=t) (v:=v) h)
  |false=>cases h
def FE(H:List al):Option (List Kd)→AV→Option (Bool × AV)
 |none,a=>some (true,a)
 | some ks,a=>match a with
  |.nils | .lit (.slice none 0 0)=>some (true,.listF ks [])
  |.listF d rows=>if Kd.ia ks d then some (true,.listF ks rows) else none
  | .list w rows=>match om ks rows with
   |some gs=>if w=ks.length then some (true,.listF ks gs) else none
   |none=>none
  | .vec w id ae off n=>match H[id]? with
   |some (.vec d v rows)=>if ae=v∧d.length=w∧off=0∧Kd.ia ks d=true then some (ab n rows.length,.listF ks rows) else none
   |_=>none
  |_=>none
def ma(H:List al):List (Option (List Kd))→List AV→Option (Bool × List AV)
 |_,[]=>some (true,[])
 | [],a::as=>match ma H [] as with
  |some (b,d)=>some (b,a::d)
  |none=>none
 | c::cs,a::as=>match FE H c a,ma H cs as with
  |some (b,g),some (k,d)=>some (b&&k,g::d)
  |_,_=>none
theorem Xw{E:Env}(HE:au E){H:List al}(hH:E.H=ai H){k:Option (List Kd)}{a d:AV}{b:Bool}{c:Value}(h:FE H k a=some (b,d))(A:b=true)(q:d.closed=true)(hr:rel E a c) :
  rel (E.bare E.w) d c:=by
 unfold FE at h;split at h
 ·cases h; exact dQ (pU E) _ q hr
 ·rename_i ks
  split at h
  ·cases h
   simp only[rel,dP,G.rows]at hr⊢;obtain⟨base,rfl⟩:=hr;exact⟨base,0,rfl,aI _,.inl trivial⟩
  ·cases h
   simp only[rel,dP,G.rows]at hr⊢;subst hr;exact⟨none,0,rfl,aI _,.inl trivial⟩
  ·split at h
   ·rename_i hs
    cases h;rw[Kd.jq hs];exact dQ (pU E) _ rfl hr
   ·cases h
  ·split at h
   ·rename_i gs B
    split at h
    ·rename_i hw
     cases h;rw[km,tY B];subst hw;exact dQ (pU E) _ rfl hr
    ·cases h
   ·cases h
  ·split at h
   ·rename_i hid
    split at h
    ·rename_i hc
     obtain⟨rfl,F,rfl,g⟩:=hc;simp only[aX,be]at h;obtain⟨h1,rfl⟩:=h;subst A;have g:=Kd.jq g;subst g;exact Mw HE hH hid F (bD h1) hr
    ·cases h
   ·cases h
  ·cases h
theorem FF{E:Env}(HE:au E){H:List al}(hH:E.H=ai H):∀{ks:List (Option (List Kd))} {as g:List AV} {b:Bool} {cs:List Value},ma H ks as=some (b,g)→b=true →
  AV.br g=true→ad E as cs→ad (E.bare E.w) g cs
 | ks,[],g,b,cs,h,_,_,hr=>by
  cases ks<;>simp only[ma]at h<;>cases h<;>(cases cs with
   |nil=>simp[ad]
   |cons _ _=>simp[ad]at hr)
 | [],a::as,g,b,cs,h,q,d,hr=>by
  cases cs with
  |nil=>simp[ad]at hr
  | cons c cs =>
   simp only[ma]at h;simp only[ad]at hr;split at h
   ·rename_i b1 A h1
    cases h;simp only[AV.br,ay]at d;simp only[ad];exact⟨dQ (pU E) _ d.1 hr.1,FF HE hH h1 q d.2 hr.2⟩
   ·cases h
 | k::ks,a::as,g,b,cs,h,q,d,hr=>by
  cases cs with
  |nil=>simp[ad]at hr
  | cons c cs =>
   simp only[ma]at h;simp only[ad]at hr;split at h
   ·rename_i b0 a0 b1 A h0 h1
    simp only[aX,be]at h;obtain⟨B,rfl⟩:=h;subst B;simp only[ay]at q;simp only[AV.br,ay]at d;simp only[ad];exact⟨Xw HE hH h0 q.1 d.1 hr.1,FF HE hH h1 q.2 d.2 hr.2⟩
   ·cases h
def Tree.toR(P:Program)(rs:List ResultVar) (ks:List (Option (List Kd))):Tree→jM
 |.fail=>.fail
 | .done x s=>match x with
  |.exit _=>.fail
  | _=>match gr P s.den rs with
   | some vs=>match ma s.H ks vs with
    |some (b,d)=>.side b (.ret (cK d) s.H)
    |none=>.fail
   |none=>.fail
 |.ask b t e=>.ask b (t.toR P rs ks) (e.toR P rs ks)
 |.side b t=>.side b (t.toR P rs ks)
theorem toR_holds{P:Program}{rs:List ResultVar}{ks:List (Option (List Kd))}{Q:AV→List al→Prop}:∀{t:Tree},(t.toR P rs ks).holds Q →
  t.holds fun x s=>(x=.normal∨x=.ret)∧∃ vs d,gr P s.den rs=some vs∧ma s.H ks vs=some (true,d)∧Q (cK d) s.H
 |.fail,h=>h
 | .done x s,h=>by
  have key:∀ y,(y=bB.normal∨y=bB.ret)→(match gr P s.den rs with
   | some vs=>match ma s.H ks vs with
    |some (b,d)=>jM.side b (.ret (cK d) s.H)
    |none=>.fail
   |none=>.fail).holds Q→(y=.normal∨y=.ret)∧∃ vs d,gr P s.den rs=some vs∧ma s.H ks vs=some (true,d)∧Q (cK d) s.H:=by
   intro y k h;split at h
   ·rename_i vs q
    split at h
    ·rename_i b d hc
     simp only[jM.holds]at h;obtain⟨rfl,h⟩:=h;exact⟨k,vs,d,q,hc,h⟩
    ·exact h.elim
   ·exact h.elim
  simp only[Tree.toR]at h;simp only[Tree.holds];cases x with
  |exit i=>exact h.elim
  |normal=>exact key _ (.inl rfl) h
  |ret=>exact key _ (.inr rfl) h
 |.ask _ _ _,h=>⟨fun g=>toR_holds (h.1 g),fun g=>toR_holds (h.2 g)⟩
 |.side _ _,h=>⟨h.1,toR_holds h.2⟩
def AZ(P:Program)(τ:ah)(L:LT)(fn:Func) (ks:List (Option (List Kd))) (args:List AV) (H:List al):jM :=
 match fn.body with
 |some c=>(bW P τ L c ⟨er args fn.ntmps,H⟩ .done).toR P fn.results.toList ks
 |none=>.fail
theorem FG{E:Env}{vs:List AV}{us:List Value}(h:ad E vs us):rel E (cK vs) (if h:us.toArray.size=1 then us.toArray[0] else .tuple us.toArray):=by
 cases us with
 | nil =>
  cases vs with
  |nil=>simp[cK,rel,ad]
  |cons _ _=>simp[ad]at h
 | cons u us =>
  cases us with
  | nil =>
   cases vs with
   |nil=>simp[ad]at h
   | cons v vs =>
    cases vs with
    |nil=>simp only[ad]at h; simpa[cK]using h.1
    |cons _ _=>simp[ad]at h
  | cons u2 us =>
   cases vs with
   |nil=>simp[ad]at h
   | cons v vs =>
    cases vs with
    |nil=>simp[ad]at h
    | cons v2 vs =>
     simp only[cK,rel];exact⟨(u::u2::us).toArray,by simp,h⟩
theorem Xx{P:Program}{f:FuncId}{fn:Func}{c:Code}{args:List AV}{x:bB}{s':ao}{ks:List (Option (List Kd))}{vs g:List AV}
  (hf:P.funcs[f]? = some fn) (d:fn.body=some c) (hs:cn P 0 c ⟨er args fn.ntmps,[]⟩ x s'.den) (A:x=.normal∨x=.ret) (hr:gr P s'.den fn.results.toList=some vs)
  (hc:ma s'.H ks vs=some (true,g)) (ha:AV.br args=true) (M:AV.br g=true):dc P f args (cK g):=by
 intro H E cargs hH HE O
 let E0:Env:={ w:=E.w,H:=[],loc:=[],X:=(E.X.or E.own).re dW }
 have R:∀ b,¬ E0.own b:=by rintro b (⟨id,c,hid⟩|⟨l,k,c,hk⟩); simp[E0]at hid; simp[E0,dW]at hk
 have hC:E.bJ E0:=⟨fun b d=>⟨⟨d.1,R b,fun A=>A.elim d.2.2 d.2.1⟩,rfl⟩⟩
 have J:au E0:=by
  refine⟨rfl,?_,?_,?_,?_,HE.fB.bJ hC,fun l k l' k' b m n hk=>by simp[E0,dW]at hk,fun i b m l k n hi=>by simp[E0]at hi,fun l k b m hk=>by simp[E0,dW]at hk,fun i j o o' l hi=>by simp[E0]at hi,fun l _ k q hk=>by simp[E0,dW]at hk⟩
  ·intro i j b m n hi; simp[E0]at hi
  ·intro i b m hi; simp[E0]at hi
  ·rintro b (A | N)
   ·exact HE.X b A
   ·exact(HE.vU N).1
  ·intro i o hi; simp[E0]at hi
 refine Az hf d ?_;have W:=nf J;have Y:=nc W _ (pt hC args ha O);have hrel:bl ⟨er args fn.ntmps,[]⟩ { E0 with X:=⟨E0.X.x,fun _=>False,E0.X.r⟩ } { tmps:=cargs++Array.replicate (fn.ntmps-cargs.size) undef,defers:=[] }:=by
  refine⟨rfl,?_,lV _ _,J.b_ W⟩;simp only[er,Array.toList_append,Array.toList_replicate];refine jG Y ?_;have:=fO O;have e:args.length=cargs.size:=by simpa using this
  rw[e];have:=rq (E:={ E0 with X:=⟨E0.X.x,fun _=>False,E0.X.r⟩ }) (cI (fn.ntmps-cargs.size) undef);simpa using this
 refine wpIn_mono (hs none (Ax _) { E0 with X:=⟨E0.X.x,fun _=>False,E0.X.r⟩ } _ hrel) fun e a1 w0 ⟨h3,loc',X',F,I⟩=>?_;refine⟨by subst h3; rcases A with rfl|rfl; exact .inl rfl; exact .inr rfl,X',F.defers,fun B k1 k2 k3=>?_⟩;obtain⟨F,I⟩:=AA J F I k1 k2 k3;obtain⟨us,g1,g2⟩:=wy F fn.results.toList vs hr;have hres:(results fn a1.tmps).run P B=.ok (if h:us.toArray.size=1 then us.toArray[0] else .tuple us.toArray) B:=by
  rw[tT];simp only[Sem.run_bind];rw[Array.mapM_eq_mapM_toList,Sem.run_map,g1];rfl
 have g3:=FF F.heap rfl hc rfl M g2;have g4:=FG g3;have U:Ext E.w B:=⟨I.size,fun b d=>I.same b d (R b),I.env⟩
 have hcl:(cK g).closed=true:=by
  cases g with
  |nil=>rfl
  | cons v vs =>
   cases vs with
   |nil=>simpa[cK,AV.br]using M
   |cons v2 vs=>simpa only[cK,AV.closed]using M
 have g5:rel { E with w:=B } (cK g) (if h:us.toArray.size=1 then us.toArray[0] else .tuple us.toArray) :=
  dQ (E:=({ w:=B,H:=ai s'.H,loc:=loc',X:=E0.X.re X'.r }:Env).bare B) (E':={ E with w:=B }) ⟨fun b d=>⟨⟨d.1,fun N=>d.2.2 (Or.inr N),fun A=>d.2.2 (Or.inl A)⟩,rfl⟩⟩ _ hcl g4
 refine⟨_,hres,_,cK g,H,rfl,⟨rfl,rfl⟩,E.loc,E.X.r,?_,?_,?_⟩
 ·rw[←hH]; exact g5
 ·rw[←hH]; exact HE.ext U
 ·rw[←hH]; exact Env.gL U
theorem Xy{vs:List AV}{v:AV}(h:cK vs=v)(d:v.closed=true):AV.br vs=true:=by
 subst h;cases vs with
 |nil=>rfl
 | cons v vs =>
  cases vs with
  |nil=>simpa[cK,AV.br]using d
  |cons v2 vs=>simpa only[cK,AV.closed]using d
theorem eh{P:Program}{τ:ah}{L:LT}(hm:P.follows .mixedOrders=true)(k:aj P τ){f:FuncId}{fn:Func} (ks:List (Option (List Kd))) {args:List AV} {v:AV}
  (q:∀ c,fn.body=some c→ax P 0 L c)
  (A:P.funcs[f]? = some fn) (B:AV.br args=true) (F:v.closed=true) (h:(AZ P τ L fn ks args []).val=some v):dc P f args v:=by
 have h:=AY h;unfold AZ at h;split at h
 ·rename_i c d
  obtain⟨x,s',h1,I,vs,N,J,M,g⟩:=dS hm k c _ _ (q c d) (toR_holds h);rw[←g];exact Xx A d h1 I J M B (Xy g F)
 ·exact h.elim
end Go.AL

namespace Go.AL
open Go
variable [Dr]
def ML(ms:List Nat):ah:={ pf:=fun g=>ms.any fun t=>ab g (t+1000000),T:=fun _ _=>none,W:=fun _ _ _=>none,C:=fun _ _ _=>[],U:=fun _=>false }
theorem Xz(P:Program)(ms:List Nat):aj P (ML ms):=⟨fun _ _ _ _ h=>(nomatch h),fun _ _ _ _ _ _ h=>(nomatch h),fun _ _ _ _ _ _ h=>(nomatch h),fun _ _ _ _ h=>(nomatch h),fun _ _ _ _=>⟨rfl,rfl⟩,fun _ h=>(nomatch h)⟩
def ah.add(τ:ah)(f:FuncId)(c:List AV→Option (Bool × AV)):ah where
 pf g:=match ab g f with
  |true=>true
  |false=>τ.pf g
 T g args:=match ab g f with
  |true=>c args
  |false=>τ.T g args
 W:=τ.W
 C:=τ.C
 I:=τ.I
 N:=τ.N
 U:=τ.U
theorem aj.add{P:Program}{τ:ah}(h:aj P τ){f:FuncId}{c:List AV→Option (Bool × AV)}(q:dN P f=true)(hc:∀ args b v,c args=some (b,v)→b=true→dc P f args v) :
  aj P (τ.add f c):=by
 refine⟨fun g args b v d k=>?_,h.W,h.C,h.I,h.F⟩;simp only[ah.add]at d;split at d
 ·rename_i e
  have e:=bD e;subst e;exact⟨q,hc args b v d k⟩
 ·exact h.T g args b v d k
def az:LT:=⟨fun _ _=>none,fun _ s=>(true,s),fun _ _=>none⟩
theorem aK(P:Program)(m:Nat)(c:Code):ax P m az c:=⟨fun _ _ _ _ _ h=>(nomatch h),fun _ _ _=>bQ.refl _,fun _ _ _ _ _ h=>(nomatch h)⟩
def ah.inline(P:Program)(τ:ah)(f:FuncId)(fn:Func) (ks:List (Option (List Kd))):ah:=τ.add f fun args =>
 match (AZ P τ az fn ks args []).val with
 | some v=>match AV.br args&&v.closed with
  |true=>some (true,v)
  |false=>none
 |none=>none
theorem aj.inline{P:Program}{τ:ah}(h:aj P τ)(hm:P.follows .mixedOrders=true){f:FuncId}{fn:Func}(g:P.funcs[f]? = some fn)(k:dN P f=true) (ks:List (Option (List Kd))) :
  aj P (τ.inline P f fn ks):=h.add k fun args b v hc _=>by
 split at hc
 ·rename_i u hu
  split at hc
  ·rename_i d
   simp only[ay]at d;cases hc;exact eh hm h ks (fun _ _=>aK _ _ _) g d.1 d.2 hu
  ·cases hc
 ·cases hc
abbrev aS(s:ByteArray):AV:=.lit (.string s)
end Go.AL

namespace Go.AL
open Go
variable [Dr]
def w9(slot:Nat)(ks:List Kd)(s:ao):ao:=⟨s.fr.set slot (.vec ks.length s.H.length 0 0 0),s.H++[.vec ks 0 []]⟩
def isNil:AV→Bool
 |.nils | .lit (.slice none 0 0)=>true
 |_=>false
theorem MM{E:Env}{a:AV}{c:Value}(h:isNil a=true)(hr:rel E a c):∃ base,c=.slice base 0 0:=by
 unfold isNil at h;split at h
 ·simpa only[rel]using hr
 ·simp only[rel]at hr; exact⟨none,hr⟩
 ·cases h
theorem MN{m:Nat}{slot:Nat}{ks:List Kd}{s:ao}(h:isNil (s.fr.getD slot .undef)=true):bQ m s.den (w9 slot ks s).den:=fun E a hs=>by
 have hH:E.H=ai s.H:=hs.H;have hlen:E.H.length=s.H.length:=by rw[hH,ef]
 have hle:E.le (E.push E.w (.vec ks.length 0 []) none):=Env.kn hs.heap.len (Ext.refl _) (fun b n h=>by cases h);have q:aU (E.push E.w (.vec ks.length 0 []) none) E.H.length (.vec ks.length 0 []):=by
  simp only[aU,Env.push];refine .inl ⟨?_,trivial⟩;rw[ix (by rw[hs.heap.len]; exact aI _),hs.heap.len,sY];rfl
 have A:au (E.push E.w (.vec ks.length 0 []) none):=au.push hs.heap (Ext.refl _) (fun b n h=>by cases h) q;have g:(w9 slot ks s).den.H=E.H++[.vec ks.length 0 []]:=by
  rw[hH];simp[w9,ao.den,ai,al.den]
 refine⟨E.loc++[none],E.X,?_,?_⟩
 ·rw [g]
  refine⟨g.symm,?_,hs.defers,A⟩;have h':=eP hle _ hs.fr;have F:∀(fr:List AV) (cs:List Value) (i:Nat),ad E fr cs→isNil (fr.getD i .undef)=true→ad (E.push E.w (.vec ks.length 0 []) none) fr cs →
    ad (E.push E.w (.vec ks.length 0 []) none) (fr.set i (.vec ks.length s.H.length 0 0 0)) cs:=by
   intro fr
   induction fr with
   |nil=>intro cs i h0 h1 d; exact d
   | cons b fr I =>
    intro cs i h0 h1 d;cases cs with
    |nil=>simp[ad]at h0
    | cons c cs =>
     simp only[ad]at h0 d;cases i with
     | zero =>
      simp only[List.set_cons_zero,ad];refine⟨?_,d.2⟩;obtain⟨base,rfl⟩:=MM (by simpa using h1) h0.1;have J:(E.push E.w (.vec ks.length 0 []) none).H[s.H.length]? = some (.vec ks.length 0 []):=by
       simp only[Env.push];rw[ix (by omega),hlen,sY];rfl
      have B:(E.push E.w (.vec ks.length 0 []) none).loc[s.H.length]? = some none:=by
       simp only[Env.push];rw[ix (by rw[hs.heap.len]; omega),hs.heap.len,hlen,sY];rfl
      simp only[rel];refine⟨⟨base,0,rfl,aI _,fun h=>absurd h (vR _)⟩,⟨_,J,fun v h=>kL _⟩,fun _=>⟨fun _=>⟨trivial,trivial,base,rfl⟩,fun b m k=>?_⟩⟩;rw[B]at k;cases k
     | succ i =>
      simp only[List.set_cons_succ,ad];exact⟨d.1,I cs i h0.2 (by simpa using h1) d.2⟩
  exact F s.fr _ slot hs.fr h h'
 ·rw [g]
  exact hle.toM
def cX(fn:Func)(k:Nat):Code:=match fn.body with
 | some c=>match (bH c).find? fun p=>ab p.1 k with
  |some p=>p.2
  |none=>.skip
 |none=>.skip
theorem A0{P:Program}{f:FuncId}{vs:List Value}{u:Value}(h:∀ w,Calls P f vs.toArray w fun e w'=>e=.returned u∧Ext w w'):dc P f (vs.map .lit) (.lit u):=by
 intro H E cargs hH HE g;have e:cargs=vs.toArray:=by
  have:∀(vs us:List Value),ad E (vs.map AV.lit) us→us=vs:=by
   intro vs
   induction vs with
   | nil=>intro us h; cases us with
    |nil=>rfl
    |cons _ _=>simp[ad]at h
   | cons v vs k =>
    intro us h;cases us with
    |nil=>simp[ad]at h
    | cons u us =>
     simp only[dK,ad,rel]at h;rw[h.1,k us h.2]
  have:=this vs cargs.toList g;rw[←this]
 rw[e];refine(h E.w).mono ?_;rintro _ w' ⟨rfl,d⟩;refine⟨u,.lit u,H,rfl,⟨rfl,rfl⟩,E.loc,E.X.r,by simp[rel],?_,?_⟩
 ·rw[←hH]; exact HE.ext d
 ·rw[←hH]; exact Env.gL d
end Go.AL

namespace Go.AL
open Go
variable [Dr]
def ow(ks:List Kd):AV→Option (List (List G))
 |.nils | .lit (.slice none 0 0)=>some []
 |.emptyS _=>some []
 |.listF d rows=>if Kd.ia ks d then some rows else none
 | .list w rows=>match om ks rows with
  |some gs=>if w=ks.length then some gs else none
  |none=>none
 |_=>none
def FH(ks:List Kd):AV→Option (List G)
 |.agg cells=>gu ks cells
 |_=>none
theorem MO{E:Env}{ks:List Kd}{a:AV}{rows:List (List G)}{c:Value}(h:ow ks a=some rows)(hr:rel E a c):rel E (.listF ks rows) c:=by
 unfold ow at h;split at h
 ·cases h
  simp only[rel,dP,G.rows]at hr⊢;obtain⟨base,rfl⟩:=hr;exact⟨base,0,rfl,aI _,.inl trivial⟩
 ·cases h
  simp only[rel,dP,G.rows]at hr⊢;subst hr;exact⟨none,0,rfl,aI _,.inl trivial⟩
 ·cases h
  simp only[rel,dP,G.rows]at hr⊢;obtain⟨base,cap,rfl,_⟩:=hr;exact⟨base,cap,rfl,kL _,.inl trivial⟩
 ·split at h
  ·rename_i hs
   cases h;rw[Kd.jq hs];exact hr
  ·cases h
 ·split at h
  ·rename_i gs d
   split at h
   ·rename_i hw
    cases h;rw[km,tY d];subst hw;exact hr
   ·cases h
  ·cases h
 ·cases h
theorem MP{ks:List Kd}{a:AV}{r:List G}(h:FH ks a=some r):a=.agg (aG ks r):=by
 unfold FH at h;split at h
 ·rw[kY h]
 ·cases h
end Go.AL

namespace Go.AL
open Go
variable [Dr]
structure bN where
 ids:List Nat
 sh:List Nat
 base:Nat
def bN.at(e:bN)(j:Nat):Nat:=match e.ids[j]? with
 |some i=>i
 |none=>e.base+(j-e.ids.length)
def bN.up(e:bN)(j:Nat):Nat:=e.sh.getD j 0
mutual
def AV.cV(e:bN):AV→AV
 |.agg cs=>.agg (AV.ku e cs)
 |.tuple cs=>.tuple (AV.ku e cs)
 |.clo f cs=>.clo f (AV.ku e cs)
 |.ptr id ae k row col=>.ptr (e.at id) (ae+e.up id) k row col
 |.vec k id ae off n=>.vec k (e.at id) (ae+e.up id) off n
 |.map id=>.map (e.at id)
 |a=>a
def AV.ku(e:bN):List AV→List AV
 | []=>[]
 |a::as=>a.cV e::AV.ku e as
end
def af.cV(e:bN)(j:Nat):af→af
 |.box cells=>.box (AV.ku e cells)
 |.vec k v rows=>.vec k (v+e.up j) rows
 |o=>o
theorem MQ(e:bN):∀(as:List AV),(AV.ku e as).length=as.length
 | []=>rfl
 |_::as=>by simp[AV.ku,MQ e as]
mutual
def AV.cr:AV→Bool
 |.agg cs | .tuple cs | .clo _ cs=>AV.cL cs
 |.list .. | .listF .. | .cptr _=>false
 |_=>true
def AV.cL:List AV→Bool
 | []=>true
 |a::as=>a.cr&&AV.cL as
end
structure rH (S:Bool) (e:bN) (E E':Env):Prop where
 ok:S=false→∀ b,E.iQ b→E'.iQ b∧E'.w.heap[b]? = E.w.heap[b]?
 past:∀ j ae,E.past j ae→E'.past (e.at j) (ae+e.up j)
 live:∀ j ae,E.past j ae→E'.live (e.at j) (ae+e.up j)→E.live j ae∧E'.loc[e.at j]? = E.loc[j]?
theorem rH.bJ{e:bN}{E E':Env}(h:rH false e E E'):E.bJ E':=⟨h.ok rfl⟩
mutual
theorem FI{S:Bool}{e:bN}{E E':Env}(h:rH S e E E'):∀(a:AV) {c:Value},(S=true→a.cr=true)→rel E a c→rel E' (a.cV e) c
 |.undef,_,_,_=>by simp[AV.cV,rel]
 |.lit v,c,_,hr=>by simpa only[AV.cV,rel]using hr
 |.nils,c,_,hr=>by simpa only[AV.cV,rel]using hr
 | .list k rows,c,g,hr=>by
  cases S with
  |true=>exact absurd (g rfl) (by simp[AV.cr])
  |false=>exact dQ h.bJ (.list k rows) rfl hr
 | .listF ks rows,c,g,hr=>by
  cases S with
  |true=>exact absurd (g rfl) (by simp[AV.cr])
  |false=>exact dQ h.bJ (.listF ks rows) rfl hr
 | .cptr cells,c,g,hr=>by
  cases S with
  |true=>exact absurd (g rfl) (by simp[AV.cr])
  |false=>exact dQ h.bJ (.cptr cells) rfl hr
 |.ifc,c,_,hr=>by simpa only[AV.cV,rel]using hr
 |.emptyS n,c,_,hr=>by simpa only[AV.cV,rel]using hr
 | .agg cells,c,g,hr=>by
  simp only[rel]at hr;simp only[AV.cV,rel];obtain⟨cs,A,h1,d⟩:=hr;exact⟨cs,A,h1,A1 h cells (fun e=>by simpa only[AV.cr]using g e) d⟩
 | .tuple cells,c,g,hr=>by
  simp only[rel]at hr;simp only[AV.cV,rel];obtain⟨cs,A,d⟩:=hr;exact⟨cs,A,A1 h cells (fun e=>by simpa only[AV.cr]using g e) d⟩
 | .clo f cells,c,g,hr=>by
  simp only[rel]at hr;simp only[AV.cV,rel];obtain⟨cs,A,d⟩:=hr;exact⟨cs,A,A1 h cells (fun e=>by simpa only[AV.cr]using g e) d⟩
 | .ptr id ae k row col,c,_,hr=>by
  simp only[rel]at hr;simp only[AV.cV,rel];obtain⟨h1,d,B⟩:=hr;refine⟨h1,h.past _ _ d,fun q=>?_⟩;obtain⟨g1,g2⟩:=h.live _ _ d q;rw[g2];exact B g1
 | .vec k id ae off n,c,_,hr=>by
  simp only[rel]at hr;simp only[AV.cV,rel];obtain⟨h1,d,B⟩:=hr;refine⟨h1,h.past _ _ d,fun q=>?_⟩;obtain⟨g1,g2⟩:=h.live _ _ d q;rw[g2];exact B g1
 | .map id,c,_,hr=>by
  simp only[rel]at hr;simp only[AV.cV,rel];obtain⟨h1,d,B⟩:=hr;have I:=h.past _ _ d;refine⟨h1,?_,fun q=>?_⟩
  ·obtain ⟨o, F, J⟩ := I
   exact⟨o,F,fun v O=>kL _⟩
  ·have hu:e.up id=0:=by
    obtain⟨o,F,J⟩:=I;obtain⟨o2,M,N⟩:=q;rw[F]at M;cases M;have:=J 0 N;omega
   obtain⟨g1,g2⟩:=h.live _ _ d (by rw[hu]; exact q);rw[g2];exact B g1
theorem A1{S:Bool}{e:bN}{E E':Env}(h:rH S e E E'):∀(as:List AV) {vs:List Value},(S=true→AV.cL as=true)→ad E as vs→ad E' (AV.ku e as) vs
 | [],[],_,_=>by simp[AV.ku,ad]
 | [],_::_,_,hr=>by simp[ad]at hr
 |_::_,[],_,hr=>by simp[ad]at hr
 | a::as,v::vs,d,hr=>by
  simp only[AV.cL,ay]at d;simp only[ad]at hr;simp only[AV.ku,ad];exact⟨FI h a (fun e=>(d e).1) hr.1,A1 h as (fun e=>(d e).2) hr.2⟩
end
structure KeepIn (e:bN) (E E':Env):Prop where
 ok:∀ b,E.iQ b→E'.iQ b∧E'.w.heap[b]? = E.w.heap[b]?
 w:E'.w=E.w
 loc:∀ j,j<e.ids.length→E'.loc[j]? = E.loc[e.at j]?
 jN:∀(j:Nat) o l,E'.H[j]? = some o→o.label=some l→E'.X.r l=E.X.r l
theorem KeepIn.bJ{e:bN}{E E':Env}(h:KeepIn e E E'):E.bJ E':=⟨h.ok⟩
structure rI (e:bN) (jO:List Nat) (E E':Env):Prop extends KeepIn e E E' where
 MR:∀ i,i∈jO→∀ b n,E.loc[i]? = some (some (b,n))→E'.iQ b
def eL{α:Type}:List α→List Nat→List α→List α
 |l,i::is,x::xs=>eL (l.set i x) is xs
 |l,_,_=>l
theorem pW{α:Type}:∀(is:List Nat) (l xs:List α),(eL l is xs).length=l.length
 | [],_,_=>by simp[eL]
 |_::_,_,[]=>by simp[eL]
 |i::is,l,x::xs=>by simp[eL,pW is]
theorem A2{α:Type}:∀(is:List Nat) (l xs:List α) (n:Nat),n∉is→(eL l is xs)[n]? = l[n]?
 | [],_,_,_,_=>by simp[eL]
 |_::_,_,[],_,_=>by simp[eL]
 | i::is,l,x::xs,n,h=>by
  simp only[bC,not_or]at h;simp only[eL];rw[A2 is _ xs n h.2,bL (Ne.symm h.1)]
theorem MS{α:Type}:∀(is:List Nat) (l xs:List α) (j i:Nat) (x:α),is.Nodup→is[j]? = some i→xs[j]? = some x→i<l.length→(eL l is xs)[i]? = some x
 | [],_,_,_,_,_,_,h,_,_=>by simp at h
 |_::_,_,[],_,_,_,_,_,h,_=>by simp at h
 | k::is,l,y::xs,0,i,x,hn,h1,d,g=>by
  simp at h1 d;subst h1; subst d;simp only[eL];have:k∉is:=(kg.1 hn).1;rw[A2 is _ xs k this,List.getElem?_set_self g]
 | k::is,l,y::xs,j+1,i,x,hn,h1,d,g=>by
  simp only[eL];exact MS is _ xs j i x (kg.1 hn).2 (by simpa using h1) (by simpa using d) (by simpa using g)
def af.A3(e:bN)(j:Nat):af→Bool
 |.dead=>true
 |.vec _ _ _=>true
 |_=>ab (e.up j) 0
def k_(e:bN):Nat→List af→List af
 |_,[]=>[]
 |j,o::os=>o.cV e j::k_ e (j+1) os
def kz(e:bN):Nat→List af→Bool
 |_,[]=>true
 |j,o::os=>o.A3 e j&&kz e (j+1) os
theorem FJ(e:bN):∀(j:Nat) (os:List af),(k_ e j os).length=os.length
 |_,[]=>rfl
 |j,_::os=>by simp[k_,FJ e (j+1) os]
theorem MT(e:bN):∀(j:Nat) (os:List af) (i:Nat),(k_ e j os)[i]? = (os[i]?).map (af.cV e (j+i))
 |_,[],i=>by simp[k_]
 |j,o::os,0=>by simp[k_]
 | j,o::os,i+1=>by
  simp only[k_,List.getElem?_cons_succ,MT e (j+1) os i];rw[show j+1+i=j+(i+1) from by omega]
theorem MU{e:bN}:∀{j:Nat} {os:List af} {i:Nat} {o:af},kz e j os=true→os[i]? = some o→o.A3 e (j+i)=true
 |_,[],i,_,_,h=>by simp at h
 | j,_::os,0,o,h,hi=>by
  simp only[kz,ay]at h;simp at hi;subst hi;exact h.1
 | j,_::os,i+1,o,h,hi=>by
  simp only[kz,ay]at h;have:=MU h.2 (by simpa using hi)
  rwa [show j+1+i=j+(i+1) from by omega]at this
theorem A4{e:bN}{j:Nat}{o:af}(h:o.A3 e j=true)(v:Nat):(o.cV e j).aJ = some v↔∃ u,o.aJ = some u∧v=u+e.up j:=by
 cases o with
 |dead=>simp[af.cV,af.aJ]
 |vec k u rows=>simp[af.cV,af.aJ,eq_comm]
 | box cells =>
  have:=bD h;simp[af.cV,af.aJ,this,eq_comm]
 | map es cl =>
  have:=bD h;simp[af.cV,af.aJ,this,eq_comm]
 | iter s p =>
  have:=bD h;simp[af.cV,af.aJ,this,eq_comm]
 | fc l T B s =>
  have:=bD h;simp[af.cV,af.aJ,this,eq_comm]
 | aQ l k es cl =>
  have:=bD h;simp[af.cV,af.aJ,this,eq_comm]
theorem MV(e:bN)(j:Nat)(o:af):(o.cV e j).label=o.label:=by cases o<;>rfl
def af.cr:af→Bool
 |.box cells=>AV.cL cells
 |.vec _ _ rows=>rows.all fun r=>AV.cL r
 |.map es _=>es.all fun x=>x.1.cr&&x.2.1.cr
 | .aQ _ _ es _=>es.all fun x=>x.1.cr&&(match x.2.1 with
  |some rows=>rows.all fun r=>AV.cL r
  |none=>true)
 |_=>true
theorem MW{S:Bool}{e:bN}{E E':Env}(h:rH S e E E'){b:Nat}(g:E'.w.heap[b]? = E.w.heap[b]?):∀(as:List AV) {o:Nat},(S=true→AV.cL as=true)→cB E as b o→cB E' (AV.ku e as) b o
 | [],_,_,_=>by simp[AV.ku,cB]
 | a::as,o,d,hr=>by
  simp only[AV.cL,ay]at d;simp only[cB]at hr;simp only[AV.ku,cB];obtain⟨⟨v,h1,k,q⟩,A⟩:=hr;exact⟨⟨v,by rw[World.td g]; exact h1,k,FI h a (fun e=>(d e).1) q⟩,MW h g as (fun e=>(d e).2) A⟩
mutual
theorem A5{E E':Env}:∀(a:AV) {c:Value},a.closed=true→a.cr=true→rel E a c→rel E' a c
 |.undef,_,_,_,_=>by simp[rel]
 |.lit v,c,_,_,hr=>by simpa only[rel]using hr
 |.nils,c,_,_,hr=>by simpa only[rel]using hr
 |.ifc,c,_,_,hr=>by simpa only[rel]using hr
 |.emptyS n,c,_,_,hr=>by simpa only[rel]using hr
 |.list ..,_,_,h,_ | .listF ..,_,_,h,_ | .cptr _,_,_,h,_=>by simp[AV.cr]at h
 |.ptr ..,_,h,_,_ | .vec ..,_,h,_,_ | .map _,_,h,_,_=>by simp[AV.closed]at h
 | .agg cells,c,hc,hs,hr=>by
  simp only[rel]at hr⊢;obtain⟨cs,e,h1,d⟩:=hr;exact⟨cs,e,h1,A6 cells (by simpa only[AV.closed]using hc) (by simpa only[AV.cr]using hs) d⟩
 | .tuple cells,c,hc,hs,hr=>by
  simp only[rel]at hr⊢;obtain⟨cs,e,d⟩:=hr;exact⟨cs,e,A6 cells (by simpa only[AV.closed]using hc) (by simpa only[AV.cr]using hs) d⟩
 | .clo f cells,c,hc,hs,hr=>by
  simp only[rel]at hr⊢;obtain⟨cs,e,d⟩:=hr;exact⟨cs,e,A6 cells (by simpa only[AV.closed]using hc) (by simpa only[AV.cr]using hs) d⟩
theorem A6{E E':Env}:∀(as:List AV) {vs:List Value},AV.br as=true→AV.cL as=true→ad E as vs→ad E' as vs
 | [],[],_,_,_=>by simp[ad]
 | [],_::_,_,_,hr=>by simp[ad]at hr
 |_::_,[],_,_,hr=>by simp[ad]at hr
 | a::as,v::vs,hc,hs,hr=>by
  simp only[AV.br,AV.cL,ay]at hc hs;simp only[ad]at hr⊢;exact⟨A5 a hc.1 hs.1 hr.1,A6 as hc.2 hs.2 hr.2⟩
end
theorem MX{E E':Env}{b:Nat}(d:E'.w.heap[b]? = E.w.heap[b]?):∀(as:List AV) {o:Nat},AV.br as=true→AV.cL as=true→cB E as b o→cB E' as b o
 | [],_,_,_,_=>by simp[cB]
 | a::as,o,hc,hs,hr=>by
  simp only[AV.br,AV.cL,ay]at hc hs;simp only[cB]at hr⊢;obtain⟨⟨v,h1,g,k⟩,q⟩:=hr;exact⟨⟨v,by rw[World.td d]; exact h1,g,A5 a hc.1 hs.1 k⟩,MX d as hc.2 hs.2 q⟩
theorem FL{E E':Env}{b k:Nat}(d:E'.w.heap[b]? = E.w.heap[b]?):∀(rs:List (List AV)) {o:Nat},fA rs→(rs.all fun r=>AV.cL r)=true→cY E k rs b o→cY E' k rs b o
 | [],_,_,_,_=>by simp[cY]
 | r::rs,o,hc,hs,hr=>by
  simp only[nR,ay]at hs;simp only[cY]at hr⊢;exact⟨hr.1,MX d r (hc r cJ) hs.1 hr.2.1,FL d rs (fun x g=>hc x (bS _ g)) hs.2 hr.2.2⟩
theorem FM{E E':Env}:∀{es:List (AV × AV × Nat)} {ms:List MapEntry},(es.all fun x=>x.1.cr&&x.2.1.cr)=true→bT E es ms→bT E' es ms
 | [],[],_,_=>by simp[bT]
 | (k,v,n)::es,e::ms,hs,hr=>by
  simp only[nR,ay]at hs;simp only[bT]at hr⊢;obtain⟨h1,q,A,d,g,B⟩:=hr;exact⟨A5 k d hs.1.1 h1,A5 v g hs.1.2 q,A,d,g,FM hs.2 B⟩
 | [],_::_,_,hr=>by simp[bT]at hr
 |_::_,[],_,hr=>by simp[bT]at hr
theorem mc{E E':Env}(h:E.bJ E'):∀{es:List (AV × AV × Nat)} {ms:List MapEntry},bT E es ms→bT E' es ms
 | [],[],_=>by simp[bT]
 | (k,v,n)::es,e::ms,hr=>by
  simp only[bT]at hr⊢;obtain⟨h1,q,A,d,g,B⟩:=hr;exact⟨dQ h k d h1,dQ h v g q,A,d,g,mc h B⟩
 | [],_::_,hr=>by simp[bT]at hr
 |_::_,[],hr=>by simp[bT]at hr
theorem XA{S:Bool}{e:bN}{E E':Env}(h:rH S e E E'){j:Nat}{o:af}(R:S=true→o.cr=true)(J:E'.loc[e.at j]? = E.loc[j]?) (F:∀ b n,E.loc[j]? = some (some (b,n))→E'.w.heap[b]? = E.w.heap[b]?)
  (Y:∀ l,o.label=some l→E'.X.r l=E.X.r l∧∀(h g m:Nat),(E.X.r l)[h]? = some (some (some (g,m)))→E'.w.heap[g]? = E.w.heap[g]?)
  (N:aU E j o):aU E' (e.at j) (o.cV e j):=by
 cases o with
 |dead=>simp only[af.cV,aU]at *; rw[J]; exact N
 | box cells =>
  simp only[af.cV,aU]at *;obtain⟨b,n,h1,d,A⟩:=N;exact⟨b,n,by rw[J,h1],by rw[MQ]; exact tf (F b n h1) d,MW h (F b n h1) cells (fun e=>by simpa only[af.cr]using R e) A⟩
 | vec k ae rows =>
  simp only[af.cV,aU]at *;rcases N with⟨h1,d⟩|⟨b,m,h1,d,A,M,I⟩
  ·exact .inl ⟨by rw[J,h1],d⟩
  ·refine .inr ⟨b, m, by rw [J, h1], tf (F b m h1) d, A, M, ?_⟩
   cases S with
   |true=>exact FL (F b m h1) rows M (by simpa only[af.cr]using R rfl) I
   |false=>exact lR h.bJ rows M (F b m h1) I
 | map es clock =>
  simp only[af.cV,aU]at *;obtain⟨b,n,ms,h1,d,A⟩:=N;refine⟨b,n,ms,by rw[J,h1],by rw[F b n h1,d],?_⟩;cases S with
  |true=>exact FM (by simpa only[af.cr]using R rfl) A
  |false=>exact mc h.bJ A
 | iter s pos =>
  simp only[af.cV,aU]at *;obtain⟨b,n,h1,d⟩:=N;exact⟨b,n,by rw[J,h1],by rw[F b n h1,d]⟩
 | fc l T B s =>
  simp only[af.cV,aU]at *;obtain⟨b,n,p,v,k,q,h1,d,A,M,I,h6⟩:=N;obtain⟨g1,g2⟩:=Y l rfl;exact⟨b,n,p,v,k,q,by rw[J,h1],by rw[F b n h1,d],A,by rw[g1,M],by rw[g1]; exact I,DX (fun g m e=>g2 k g m (by rw[M,e])) h6⟩
 | aQ l k es clock =>
  simp only[af.cV,aU]at *;obtain⟨b,n,ms,h1,d,A,M⟩:=N;obtain⟨g1,g2⟩:=Y l rfl;have U:S=true→∀ x∈es,x.1.cr=true∧∀ rows,x.2.1=some rows→(rows.all fun r=>AV.cL r)=true:=fun e x O=>by
   have I:=ep.1 (by simpa only[af.cr]using R e) x O;simp only[ay]at I;exact⟨I.1,fun rows hr=>by rw[hr]at I; exact I.2⟩
  refine⟨b,n,ms,by rw[J,h1],by rw[F b n h1,d],?_,vT (fun h g m hk=>⟨by rw[g1]; exact hk,g2 h g m hk⟩) (fun i x rows hi O b W hc hr=>?_) M⟩
  ·cases S with
   | true =>
    refine FM (ep.2 fun x O=>?_) A;obtain⟨y,hy,rfl⟩:=bR.1 O;simp[(U rfl y hy).1,AV.cr]
   |false=>exact mc h.bJ A
  ·cases S with
   |true=>exact FL W rows hc ((U rfl x (fy hi)).2 rows O) hr
   |false=>exact lR h.bJ rows hc W hr
def nh(e:bN)(H H1:List af):List af:=eL H e.ids (k_ e 0 H1)++(k_ e 0 H1).drop e.ids.length
theorem gP{e:bN}{j:Nat}(h:j<e.ids.length):e.ids[j]? = some (e.at j):=by
 simp[bN.at,h]
theorem rJ{e:bN}{j:Nat}(h:e.ids.length≤j):e.at j=e.base+(j-e.ids.length):=by
 simp[bN.at,List.getElem?_eq_none h]
theorem MY{α:Type}{e:bN}{H xs:List α}(hn:e.ids.Nodup)(d:∀ j,j<e.ids.length→e.at j<H.length)(k:e.base=H.length)(q:e.ids.length≤xs.length)(j:Nat) :
  (eL H e.ids xs++xs.drop e.ids.length)[e.at j]? = xs[j]? := by
 rcases kI j e.ids.length with h|h
 ·rw [dI (by rw [pW]; exact d j h)]
  have g:j<xs.length:=dV h q;rw[MS e.ids H xs j (e.at j) xs[j] hn (gP h) (bA g) (d j h),bA g]
 ·rw [rJ h, k, ix (by rw [pW]; omega), pW, sT]
  congr 1;omega
theorem FN{α:Type}{e:bN}{H xs:List α}{i:Nat}(hi:i∉e.ids)(d:i<H.length):(eL H e.ids xs++xs.drop e.ids.length)[i]? = H[i]? := by
 rw[dI (by rw[pW]; exact d),A2 e.ids H xs i hi]
theorem pX{α:Type}{e:bN}{H xs:List α}{i:Nat}{x:α}(q:e.base=H.length)(h:(eL H e.ids xs++xs.drop e.ids.length)[i]? = some x) :
  (i∉e.ids∧i<H.length∧H[i]? = some x)∨∃ j,i=e.at j:=by
 by_cases hm:i∈e.ids
 ·right
  obtain⟨j,g,rfl⟩:=zB hm;refine⟨j,?_⟩;have:=gP g;rw[bA g]at this;exact(nT this)
 ·rcases kI i H.length with d | k
  ·left
   exact⟨hm,d,by rw[FN hm d]at h; exact h⟩
  ·right
   refine⟨e.ids.length+(i-H.length),?_⟩;rw[rJ (by omega)];omega
theorem MZ(S:Bool)(jO:List Nat){P:Program}{f:FuncId}{args:List AV}{H0 H:List af}{α:Type}{Ps:α→Prop}{Vf:α→AV}{Hf:α→List af}{e:bN}(hc:fF P f args H0 fun v H'=>∃ p,Ps p∧v=Vf p∧H'=Hf p)(hk:e.ids.length=H0.length)(hb:e.base=H.length)(hn:e.ids.Nodup)
  (hver:∀ j o,H0[j]? = some o→∃ o',H[e.at j]? = some o'∧∀ v,o'.aJ = some v↔∃ u,o.aJ = some u∧v=u+e.up j)
  (hobj:∀ E E0,E.H=H→au E→rI e jO E E0→E0.H=H0→∀ j o,H0[j]? = some o→aU E0 j o) (hu1:∀ p,Ps p→kz e 0 (Hf p)=true) (hl1:∀ p,Ps p→H0.length≤(Hf p).length) (hlent:S=false→jO=[])
  (hSv:S=true→∀ p,Ps p→(Vf p).cr=true) (hSo:S=true→∀ p,Ps p→((Hf p).all af.cr)=true) (hdis:∀ i,i∈jO→i∉e.ids)
  (hlab:∀(j:Nat) o o',H0[j]? = some o→H[e.at j]? = some o'→o'.label=o.label) (hlab1:∀ p,Ps p→∀(j:Nat) o l,(Hf p)[j]? = some o→o.label=some l→∃ o0,H0[j]? = some o0∧o0.label=some l) {args0:List AV}
  (hargs0:∀ E E0 cs,E.H=H→au E→rI e jO E E0→E0.H=H0→ad E args0 cs→ad E0 args cs) :
  fF P f args0 H fun v H'=>∃ p,Ps p∧v=(Vf p).cV e∧H'=nh e H (Hf p):=by
 intro E cargs J HE hargs;have hElen:E.loc.length=H.length:=by rw[HE.len,J]
 have hat:∀ j,j<e.ids.length→e.at j<H.length:=fun j B=>by
  have hj':j<H0.length:=by omega
  obtain⟨o',h1,_⟩:=hver j H0[j] (bA hj');exact aM h1
 have hmem:∀ j,j<e.ids.length→e.at j∈e.ids:=fun j B=>fy (gP B)
 let pl:Nat→Prop:=fun l=>∃(j:Nat) (o:af),H0[j]? = some o∧o.label=some l
 have:DecidablePred pl:=fun l=>Classical.propDecidable (pl l)
 let r0:Nat→List (Option (Option (Nat × Nat))):=fun l=>if pl l then E.X.r l else []
 have r0p:∀ l,pl l→r0 l=E.X.r l:=fun l h=>if_pos h;have r0n:∀ l (h:Nat) q,(r0 l)[h]? = some q→pl l∧(E.X.r l)[h]? = some q:=fun l h q R=>by
  by_cases A:pl l
  ·rw[r0p l A]at R; exact⟨A,R⟩
  ·rw[show r0 l=[] from if_neg A]at R; simp at R
 let X0:XS:=⟨fun b=>E.X b∨(∃ i c,i∉e.ids∧i∉jO∧E.loc[i]? = some (some (b,c)))∨∃(l h m:Nat),¬ pl l∧(E.X.r l)[h]? = some (some (some (b,m))),E.X.z,r0⟩
 let loc0:List (Option (Nat × Nat)):=e.ids.map fun i=>E.loc.getD i none
 let E0:Env:={ w:=E.w,H:=H0,loc:=loc0,X:=X0 }
 have hloc0:∀ j,j<e.ids.length→loc0[j]? = E.loc[e.at j]? := fun j B=>by
  simp only[loc0,cy,gP B,iO];have:e.at j<E.loc.length:=by rw[hElen]; exact hat j B
  rw[cG,bA this];rfl
 have hlen0:loc0.length=e.ids.length:=by simp[loc0]
 have hpast:∀ j ae,E.past (e.at j) ae→j<e.ids.length:=by
  rintro j ae ⟨o,N,_⟩;rcases kI j e.ids.length with h|h
  ·exact h
  ·have := aM N
   rw[J,rJ h,hb]at this;omega
 have hobj0:∀ j,j<e.ids.length→∃ o o',H0[j]? = some o∧E.H[e.at j]? = some o'∧∀ v,o'.aJ = some v↔∃ u,o.aJ = some u∧v=u+e.up j:=fun j B=>by
  have hj':j<H0.length:=by omega
  obtain⟨o',h1,d⟩:=hver j H0[j] (bA hj');exact⟨H0[j],o',bA hj',by rw[J]; exact h1,d⟩
 have hown0:∀ b,E0.own b→E.own b:=by
  rintro b (⟨id,c,hid⟩|⟨l,k,c,I⟩)
  case inr=>exact .inr ⟨l,k,c,(r0n l k _ I).2⟩
  have F:=aM hid;rw[show E0.loc=loc0 from rfl]at hid F;rw[hlen0]at F;rw[hloc0 id F]at hid;exact .inl ⟨_,c,hid⟩
 have hin:KeepIn e E E0:=by
  refine⟨fun b Y=>⟨⟨Y.1,fun N=>Y.2.1 (hown0 b N),?_⟩,rfl⟩,rfl,hloc0,fun j o l h1 d=>r0p l ⟨j,o,h1,d⟩⟩;rintro(M|⟨i,c,_,_,hi⟩|⟨l,k,c,_,I⟩)
  ·exact Y.2.2 M
  ·exact Y.2.1 (.inl ⟨i,c,hi⟩)
  ·exact Y.2.1 (.inr ⟨l,k,c,I⟩)
 have hpin:∀ j ae,E.past (e.at j) (ae+e.up j)→E0.past j ae:=fun j ae A=>by
  obtain⟨o,oo,h1,d,h3⟩:=hobj0 j (hpast j _ A);obtain⟨o',h4,h5⟩:=A;rw[d]at h4;cases h4;refine⟨o,h1,fun v hv=>?_⟩;have:=h5 (v+e.up j) ((h3 _).2 ⟨v,hv,rfl⟩);omega
 have hout0:∀ i b n,i∉e.ids→E.loc[i]? = some (some (b,n))→¬ E0.own b:=by
  rintro i b n hi hbn (⟨id,c',hid⟩|⟨l,k,c,I⟩)
  case inr=>exact HE.dy _ _ _ _ _ _ hbn (r0n l k _ I).2
  have F:=aM hid;rw[show E0.loc=loc0 from rfl]at hid F;rw[hlen0]at F;rw[hloc0 id F]at hid;have:=HE.inj _ _ _ _ _ hbn hid;exact hi (this▸hmem id F)
 have hlin:rI e jO E E0:=by
  refine⟨hin,fun i hi b n hbn=>⟨(HE.lt _ _ _ hbn).1,hout0 i b n (hdis i hi) hbn,?_⟩⟩;rintro(M|⟨O,c,_,d,U⟩|⟨l,k,c,_,I⟩)
  ·exact(HE.lt _ _ _ hbn).2 M
  ·have := HE.inj _ _ _ _ _ U hbn
   exact d (this▸hi)
  ·exact HE.dy _ _ _ _ _ _ hbn I
 have HE0:au E0:=by
  have conv:∀{j:Nat} {x:Option (Nat × Nat)},loc0[j]? = some x→j<e.ids.length∧E.loc[e.at j]? = some x:=by
   intro j x M;have F:=aM M;rw[hlen0]at F;exact⟨F,by rw[←hloc0 j F]; exact M⟩
  refine⟨by rw[show E0.loc=loc0 from rfl,hlen0,hk],?_,?_,?_,?_,HE.fB.bJ hin.bJ,fun l k l' k' b m n h1 d=>HE.fC l k l' k' b m n (r0n l k _ h1).2 (r0n l' k' _ d).2,fun i b m l k n hi d=>HE.dy _ b m l k n (conv hi).2 (r0n l k _ d).2,?_,?_,?_⟩
  ·intro i j b m n hi B
   obtain⟨i1,i2⟩:=conv hi
   obtain⟨j1,j2⟩:=conv B
   have:=HE.inj _ _ _ _ _ i2 j2;exact(Ky i1 hn).1 (by rw[gP i1,gP j1,this])
  ·intro i b m hi
   obtain⟨i1,i2⟩:=conv hi
   refine⟨(HE.lt _ _ _ i2).1,?_⟩;rintro(M|⟨O,c,hni,_,U⟩|⟨l,k,c,_,I⟩)
   ·exact(HE.lt _ _ _ i2).2 M
   ·have := HE.inj _ _ _ _ _ U i2
    exact hni (this▸hmem i i1)
   ·exact HE.dy _ _ _ _ _ _ i2 I
  ·rintro b (M | ⟨O, c, _, _, U⟩ | ⟨l, k, c, _, I⟩)
   ·exact HE.X b M
   ·exact(HE.lt _ _ _ U).1
   ·exact(HE.cT _ _ _ _ I).1
  ·intro j o N
   have B:j<e.ids.length:=by rw[hk]; exact aM N
   exact hobj E E0 J HE hlin rfl j o N
  ·intro l k b m h1
   obtain⟨A,d⟩:=r0n l k _ h1;refine⟨(HE.cT _ _ _ _ d).1,?_⟩;rintro(M|⟨O,c,_,_,U⟩|⟨l',k',c,hnp,I⟩)
   ·exact(HE.cT _ _ _ _ d).2 M
   ·exact HE.dy _ _ _ _ _ _ U d
   ·exact hnp ((HE.fC _ _ _ _ _ _ _ d I).1▸A)
  ·intro i j o o' l hi B h1 d
   have i1:i<e.ids.length:=by rw[hk]; exact aM hi
   have j1:j<e.ids.length:=by rw[hk]; exact aM B
   obtain⟨_,oi,W,a2,_⟩:=hobj0 i i1;obtain⟨_,oj,b1,b2,_⟩:=hobj0 j j1;have ei:=hlab i o oi hi (by rw[←J]; exact a2);have ej:=hlab j o' oj B (by rw[←J]; exact b2);have:=HE.uniq _ _ _ _ l a2 b2 (by rw[ei,h1]) (by rw[ej,d]);exact(Ky i1 hn).1 (by rw[gP i1,gP j1,this])
  ·intro l hnl k q R
   obtain⟨⟨j,o,h1,d⟩,_⟩:=r0n l k _ R;exact hnl j o h1 d
 refine(hc E0 cargs rfl HE0 (hargs0 E E0 _ J HE hlin rfl hargs)).mono ?_;rintro _ w' ⟨c,v',H',rfl,⟨p,A,hv',hH'⟩,loc1,r1,g1,g2,g3⟩;have hu1:kz e 0 H'=true:=by rw[hH']; exact hu1 p A
 have hl1:H0.length≤H'.length:=by rw[hH']; exact hl1 p A
 have hSv:S=true→v'.cr=true:=fun h=>by rw[hv']; exact hSv h p A
 have hSo:S=true→(H'.all af.cr)=true:=fun h=>by rw[hH']; exact hSo h p A
 have hlab1:∀(j:Nat) o l,H'[j]? = some o→o.label=some l→∃ o0,H0[j]? = some o0∧o0.label=some l:=by rw[hH']; exact hlab1 p A
 let r':Nat→List (Option (Option (Nat × Nat))):=fun l=>if pl l then r1 l else E.X.r l
 have rp:∀ l,pl l→r' l=r1 l:=fun l h=>if_pos h;have rn:∀ l,¬ pl l→r' l=E.X.r l:=fun l h=>if_neg h;have hl1':e.ids.length≤H'.length:=by omega
 have hlen1:loc1.length=H'.length:=g2.len;have bg:e.base=E.loc.length:=by rw[hElen]; exact hb
 have hbE:e.base=E.H.length:=by rw[J]; exact hb
 let loc':List (Option (Nat × Nat)):=eL E.loc e.ids loc1++loc1.drop e.ids.length
 let E1:Env:={ w:=w',H:=H',loc:=loc1,X:=X0.re r1 }
 let E':Env:={ w:=w',H:=nh e H H',loc:=loc',X:=E.X.re r' }
 have Hin:∀ j,E'.H[e.at j]? = (H'[j]?).map (af.cV e j):=fun j=>by
  have:=MY (e:=e) (H:=H) (xs:=k_ e 0 H') hn hat hb (by rw[FJ]; exact hl1') j;rw[MT,dJ]at this;exact this
 have fu:∀ j,E'.loc[e.at j]? = loc1[j]? := fun j =>
  MY (e:=e) (H:=E.loc) (xs:=loc1) hn (fun j B=>by rw[hElen]; exact hat j B) bg (by rw[hlen1]; exact hl1') j
 have Hout:∀ i,i∉e.ids→i<H.length→E'.H[i]? = E.H[i]? := fun i hi F=>by
  rw[J];exact FN (e:=e) hi F
 have Lout:∀ i,i∉e.ids→i<H.length→E'.loc[i]? = E.loc[i]? := fun i hi F=>FN (e:=e) hi (by rw[hElen]; exact F);have hu1':∀(j:Nat) (o:af),H'[j]? = some o→o.A3 e j=true:=fun j o N=>by
  have:=MU hu1 N
  rwa [dJ]at this
 have own':∀ b,E'.own b→E1.own b∨(∃ i c,i∉e.ids∧E.loc[i]? = some (some (b,c)))∨∃(l h m:Nat),¬ pl l∧(E.X.r l)[h]? = some (some (some (b,m))):=by
  rintro b (⟨i,c,hi⟩|⟨l,k,c,I⟩)
  ·rcases pX (e := e) bg hi with ⟨h1, _, h3⟩ | ⟨j, rfl⟩
   ·exact .inr (.inl ⟨i,c,h1,h3⟩)
   ·rw [fu j] at hi
    exact .inl (.inl ⟨j,c,hi⟩)
  ·have I : (r' l)[k]? = some (some (some (b, c))) := I
   by_cases A:pl l
   ·rw [rp l A] at I
    exact .inl (.inr ⟨l,k,c,I⟩)
   ·rw [rn l A] at I
    exact .inr (.inr ⟨l,k,c,A,I⟩)
 have hout:rH S e E1 E':=by
  refine⟨fun hS b Y=>⟨⟨Y.1,fun N=>?_,fun M=>Y.2.2 (Or.inl M)⟩,rfl⟩,fun j ae A=>?_,fun j ae A hl=>?_⟩
  ·rcases own' b N with h | ⟨i, c, h1, d⟩ | h
   ·exact Y.2.1 h
   ·exact Y.2.2 (Or.inr (.inl ⟨i,c,h1,by rw[hlent hS]; exact List.not_mem_nil,d⟩))
   ·exact Y.2.2 (Or.inr (.inr h))
  ·obtain ⟨o, h1, d⟩ := A
   refine⟨o.cV e j,by rw[Hin j,show H'[j]? = some o from h1]; rfl,fun v hv=>?_⟩;obtain⟨u,q1,rfl⟩:=(A4 (hu1' j o h1) v).1 hv;have:=d u q1;omega
  ·obtain ⟨o', h1, d⟩ := hl
   rw[Hin j]at h1;obtain⟨o,h3,rfl⟩:=fM.1 h1;obtain⟨u,q1,q2⟩:=(A4 (hu1' j o h3) _).1 d;have:u=ae:=by omega
   subst this;exact⟨⟨o,h3,q1⟩,fu j⟩
 have hle:E.le E':=by
  refine⟨fun i ae A=>?_,g3.size,fun b F N=>g3.same b F (fun h=>N (hown0 b h)),fun b F N h'=>?_,fun i ae A hl=>?_,⟨rfl,rfl⟩,fun l k I=>?_,g3.env⟩
  ·by_cases hi : i ∈ e.ids
   ·obtain ⟨j, B, rfl⟩ := zB hi
    have hat':e.ids[j]=e.at j:=by
     have:=gP B;rw[bA B]at this;exact nT this
    rw[hat']at A⊢;obtain⟨o0,oo,h1,d,h3⟩:=hobj0 j B;obtain⟨o,h4,h5⟩:=A;rw[d]at h4;cases h4;have hj1:j<H'.length:=by omega
    refine⟨H'[j].cV e j,by rw[Hin j,bA hj1]; rfl,fun v hv=>?_⟩;obtain⟨u,q1,rfl⟩:=(A4 (hu1' j _ (bA hj1)) v).1 hv;cases hz:o0.aJ with
    | none =>
     have p0:E0.past j (u+1):=⟨o0,h1,fun v hv=>by rw[hz]at hv; cases hv⟩
     obtain⟨o2,r1,r2⟩:=g3.past j _ p0;rw[show E1.H=H' from rfl,bA hj1]at r1;cases r1;have:=r2 u q1;omega
    | some u0 =>
     have p0:E0.past j u0:=⟨o0,h1,fun v hv=>by rw[hz]at hv; cases hv; exact aI _⟩
     obtain⟨o2,r1,r2⟩:=g3.past j _ p0;rw[show E1.H=H' from rfl,bA hj1]at r1;cases r1;have:=r2 u q1;have:=h5 (u0+e.up j) ((h3 _).2 ⟨u0,hz,rfl⟩);omega
   ·obtain ⟨o, h1, d⟩ := A
    have F:=aM h1;rw[J]at F;exact⟨o,by rw[Hout i hi F]; exact h1,d⟩
  ·rcases own' b h' with h | ⟨i, c, _, d⟩ | ⟨l, k, c, _, d⟩
   ·exact g3.own b F (fun h=>N (hown0 b h)) h
   ·exact N (.inl ⟨i,c,d⟩)
   ·exact N (.inr ⟨l,k,c,d⟩)
  ·have F:i<H.length:=by
    obtain⟨o,h1,_⟩:=A;have:=aM h1
    rwa [J]at this
   by_cases hi:i∈e.ids
   ·obtain ⟨j, B, rfl⟩ := zB hi
    have hat':e.ids[j]=e.at j:=by
     have:=gP B;rw[bA B]at this;exact nT this
    rw[hat']at A hl⊢;obtain⟨o',r1,r2⟩:=hl;rw[Hin j]at r1;obtain⟨o1,r3,rfl⟩:=fM.1 r1;obtain⟨u,q1,rfl⟩:=(A4 (hu1' j o1 r3) _).1 r2;have p0:=hpin j u A;obtain⟨⟨o0,s1,s2⟩,s3⟩:=g3.live j u p0 ⟨o1,r3,q1⟩;obtain⟨o0',oo,h1,d,h3⟩:=hobj0 j B;rw[show E0.H=H0 from rfl,h1]at s1;cases s1;refine⟨⟨_,d,(h3 _).2 ⟨u,s2,rfl⟩⟩,?_⟩;rw[fu j,←hloc0 j B];exact s3
   ·obtain ⟨o', r1, r2⟩ := hl
    rw[Hout i hi F]at r1;exact⟨⟨o',r1,r2⟩,Lout i hi F⟩
  ·by_cases A : pl l
   ·have := g3.rl l k (by show k < (r0 l).length; rw [r0p l A]; exact I)
    rw[show E0.X.r l=r0 l from rfl,r0p l A]at this;rw[show E'.X.r l=r' l from rfl,rp l A];exact this
   ·rw [show E'.X.r l = r' l from rfl, rn l A]
    exact⟨I,fun _ R=>R⟩
 have lab':∀(j:Nat) o l,H'[j]? = some o→o.label=some l→pl l:=fun j o l h1 d=>by
  obtain⟨o0,W,a2⟩:=hlab1 j o l h1 d;exact⟨j,o0,W,a2⟩
 have labIn:∀(j:Nat) o l,H0[j]? = some o→o.label=some l→∃ o',E.H[e.at j]? = some o'∧o'.label=some l∧e.at j∈e.ids:=fun j o l h1 d=>by
  have j1:j<e.ids.length:=by rw[hk]; exact aM h1
  obtain⟨_,oj,b1,b2,_⟩:=hobj0 j j1;exact⟨oj,b2,by rw[hlab j o oj h1 (by rw[←J]; exact b2),d],hmem j j1⟩
 have labOut:∀(i:Nat) o l,i∉e.ids→E.H[i]? = some o→o.label=some l→¬ pl l:=fun i o l hi h1 d ⟨j,o0,W,a2⟩=>by
  obtain⟨o',b1,b2,b3⟩:=labIn j o0 l W a2;have:=HE.uniq _ _ _ _ l h1 b1 d b2;exact hi (this▸b3)
 have satOut:∀(l k b m:Nat),¬ pl l→(E.X.r l)[k]? = some (some (some (b,m)))→¬ E0.own b:=by
  rintro l k b m A h1 (⟨id,c',hid⟩|⟨l',k',c,I⟩)
  ·have F := aM hid
   rw[show E0.loc=loc0 from rfl]at hid F;rw[hlen0]at F;rw[hloc0 id F]at hid;exact HE.dy _ _ _ _ _ _ hid h1
  ·obtain ⟨q1, q2⟩ := r0n l' k' _ I
   exact A ((HE.fC _ _ _ _ _ _ _ h1 q2).1▸q1)
 refine⟨c,v'.cV e,nh e H H',rfl,⟨p,A,by rw[hv'],by rw[hH']⟩,loc',r',FI hout v' hSv g1,?_,hle⟩;refine⟨?_,?_,?_,fun b M=>dV (HE.X b M) g3.size,?_,HE.fB.bJ hle.toC,?_,?_,?_,?_,?_⟩
 ·simp only[loc',nh,eY,pW,List.length_drop,FJ,hElen,hlen1]
 ·intro i j b m n hi B
  rcases pX (e:=e) bg hi with⟨i1,_,i3⟩|⟨O,rfl⟩<;>rcases pX (e:=e) bg B with⟨j1,_,j3⟩|⟨j',rfl⟩
  ·exact HE.inj _ _ _ _ _ i3 j3
  ·rw [fu j'] at B
   exact(g3.own b (HE.lt _ _ _ i3).1 (hout0 i b m i1 i3) (.inl ⟨j',n,B⟩)).elim
  ·rw [fu O] at hi
   exact(g3.own b (HE.lt _ _ _ j3).1 (hout0 j b n j1 j3) (.inl ⟨O,m,hi⟩)).elim
  ·rw [fu O] at hi
   rw[fu j']at B;rw[g2.inj _ _ _ _ _ hi B]
 ·intro i b m hi
  rcases pX (e:=e) bg hi with⟨i1,_,i3⟩|⟨O,rfl⟩
  ·exact⟨dV (HE.lt _ _ _ i3).1 g3.size,(HE.lt _ _ _ i3).2⟩
  ·rw [fu O] at hi
   exact⟨(g2.lt _ _ _ hi).1,fun M=>(g2.lt _ _ _ hi).2 (Or.inl M)⟩
 ·intro i o hi
  have U:=hi;unfold nh at U;rcases pX (e:=e) hb U with⟨i1,i2,i3⟩|⟨j,rfl⟩
  ·refine lT (E := E) (fun a _ hr => cR hle a hr) (Lout i i1 i2) (fun b n hbn => ?_) (fun l hl => ?_) (HE.obj i o (by rw [J]; exact i3))
   ·exact g3.same b (HE.lt _ _ _ hbn).1 (hout0 i b n i1 hbn)
   ·have A := labOut i o l i1 (by rw [J]; exact i3) hl
    exact⟨rn l A,fun k g m h1=>g3.same g (HE.cT _ _ _ _ h1).1 (satOut l k g m A h1)⟩
  ·have h1 := Hin j
   rw[show E'.H=nh e H H' from rfl,hi]at h1;obtain⟨o1,d,rfl⟩:=fM.1 h1.symm;exact XA hout (fun e=>ep.1 (hSo e) o1 (fy d)) (fu j) (fun _ _ _=>rfl) (fun l hl=>⟨rp l (lab' j o1 l d hl),fun _ _ _ _=>rfl⟩) (g2.obj j o1 d)
 ·intro l k l' k' b m n h1 d
  have h1:(r' l)[k]? = some (some (some (b,m))):=h1;have d:(r' l')[k']? = some (some (some (b,n))):=d;by_cases A:pl l<;>by_cases hp':pl l'
  ·rw [rp l A] at h1
   rw[rp l' hp']at d;exact g2.fC l k l' k' b m n h1 d
  ·rw [rp l A] at h1
   rw[rn l' hp']at d;exact((g2.cT l k b m h1).2 (.inr (.inr ⟨l',k',n,hp',d⟩))).elim
  ·rw [rn l A] at h1
   rw[rp l' hp']at d;exact((g2.cT l' k' b n d).2 (.inr (.inr ⟨l,k,m,A,h1⟩))).elim
  ·rw [rn l A] at h1
   rw[rn l' hp']at d;exact HE.fC l k l' k' b m n h1 d
 ·intro i b m l k n hi h1
  have h1:(r' l)[k]? = some (some (some (b,n))):=h1;rcases pX (e:=e) bg hi with⟨i1,_,i3⟩|⟨O,rfl⟩
  ·by_cases A : pl l
   ·rw [rp l A] at h1
    exact g3.own b (HE.lt _ _ _ i3).1 (hout0 i b m i1 i3) (.inr ⟨l,k,n,h1⟩)
   ·rw [rn l A] at h1
    exact HE.dy _ _ _ _ _ _ i3 h1
  ·rw [fu O] at hi
   by_cases A:pl l
   ·rw [rp l A] at h1
    exact g2.dy _ _ _ _ _ _ hi h1
   ·rw [rn l A] at h1
    exact(g2.lt _ _ _ hi).2 (.inr (.inr ⟨l,k,n,A,h1⟩))
 ·intro l k b m h1
  have h1:(r' l)[k]? = some (some (some (b,m))):=h1;by_cases A:pl l
  ·rw [rp l A] at h1
   exact⟨(g2.cT _ _ _ _ h1).1,fun M=>(g2.cT _ _ _ _ h1).2 (.inl M)⟩
  ·rw [rn l A] at h1
   exact⟨dV (HE.cT _ _ _ _ h1).1 g3.size,(HE.cT _ _ _ _ h1).2⟩
 ·have inn:∀ (j:Nat) o,E'.H[e.at j]? = some o→∃ o1,H'[j]? = some o1∧o.label=o1.label:=fun j o h=>by
   rw[Hin j]at h;obtain⟨o1,d,rfl⟩:=fM.1 h;exact⟨o1,d,MV e j o1⟩
  intro i j o o' l hi B h1 d;have U:=hi;have hj':=B;unfold nh at U hj';rcases pX (e:=e) hb U with⟨i1,i2,i3⟩|⟨O,rfl⟩<;>rcases pX (e:=e) hb hj' with⟨j1,j2,j3⟩|⟨j',rfl⟩
  ·exact HE.uniq i j o o' l (by rw[J]; exact i3) (by rw[J]; exact j3) h1 d
  ·obtain ⟨o1, W, a2⟩ := inn j' o' B
   exact(labOut i o l i1 (by rw[J]; exact i3) h1 (lab' j' o1 l W (by rw[←a2,d]))).elim
  ·obtain ⟨o1, W, a2⟩ := inn O o hi
   exact(labOut j o' l j1 (by rw[J]; exact j3) d (lab' O o1 l W (by rw[←a2,h1]))).elim
  ·obtain ⟨o1, W, a2⟩ := inn O o hi
   obtain⟨o2,b1,b2⟩:=inn j' o' B;rw[g2.uniq O j' o1 o2 l W b1 (by rw[←a2,h1]) (by rw[←b2,d])]
 ·intro l hnl k q R
  have R:(r' l)[k]? = some (some q):=R;by_cases A:pl l
  ·rw [rp l A] at R
   refine g2.iB l (fun j o h1 d=>?_) k q R;refine hnl (e.at j) (o.cV e j) ?_ (by rw[MV,d]);rw[Hin j,show H'[j]? = some o from h1];rfl
  ·rw [rn l A] at R
   refine HE.iB l (fun i o h1 d=>?_) k q R;have F:=aM h1;rw[J]at F;by_cases hi:i∈e.ids
   ·obtain ⟨j, B, rfl⟩ := zB hi
    have hat':e.ids[j]=e.at j:=by
     have:=gP B;rw[bA B]at this;exact nT this
    rw[hat']at h1;obtain⟨o0,oo,W,a2,_⟩:=hobj0 j B;rw[h1]at a2;cases a2;exact A ⟨j,o0,W,by rw[←hlab j o0 o W (by rw[←J]; exact h1),d]⟩
   ·exact hnl i o (by rw[Hout i hi F]; exact h1) d
theorem frame(S:Bool)(jO:List Nat){P:Program}{f:FuncId}{args:List AV}{H0 H1 H:List af}{v:AV}{e:bN}(hc:cz P f args H0 v H1)(hk:e.ids.length=H0.length)(N:e.base=H.length)(hn:e.ids.Nodup)
  (q:∀ j o,H0[j]? = some o→∃ o',H[e.at j]? = some o'∧∀ v,o'.aJ = some v↔∃ u,o.aJ = some u∧v=u+e.up j)
  (A:∀ E E0,E.H=H→au E→rI e jO E E0→E0.H=H0→∀ j o,H0[j]? = some o→aU E0 j o) (F:kz e 0 H1=true) (I:H0.length≤H1.length) (g:S=false→jO=[])
  (J:S=true→v.cr=true) (M:S=true→(H1.all af.cr)=true) (B:∀ i,i∈jO→i∉e.ids)
  (hlab:∀(j:Nat) o o',H0[j]? = some o→H[e.at j]? = some o'→o'.label=o.label) (k:∀(j:Nat) o l,H1[j]? = some o→o.label=some l→∃ o0,H0[j]? = some o0∧o0.label=some l) {args0:List AV}
  (d:∀ E E0 cs,E.H=H→au E→rI e jO E E0→E0.H=H0→ad E args0 cs→ad E0 args cs) :
  cz P f args0 H (v.cV e) (nh e H H1) :=
 fF.mono (MZ (α:=Unit) (Ps:=fun _=>True) (Vf:=fun _=>v) (Hf:=fun _=>H1) S jO (fF.mono hc fun O H' h=>⟨(),trivial,h.1,h.2⟩) hk N hn q A (fun _ _=>F) (fun _ _=>I) g (fun h _ _=>J h) (fun h _ _=>M h) B hlab (fun _ _=>k) d) fun O H' ⟨_,_,h1,R⟩=>⟨h1,R⟩
end Go.AL
