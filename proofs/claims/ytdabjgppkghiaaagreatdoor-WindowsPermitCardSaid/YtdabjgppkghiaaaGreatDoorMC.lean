/-
 What is proved here: owned objects of data,and what operations do to them,with what must hold so that they do it. No program in sight; no condition.
-/
import Derived.Test.YtdabjgppkghiaaaGreatDoorMB
import Derived.Eval
import Derived.KernelRfl
set_option linter.all false
open Bool renaming and_eq_true→aq,false_eq_true→jO,not_eq_true'→nZ,or_eq_true→xf,eq_iff_iff→tq
open ByteArray renaming empty→sX
open Classical renaming propDecidable→X8
open Decidable renaming byContradiction→n4
open Function renaming comp→Xm
open Go.Op renaming operands→dU
open Go.Utf8 renaming decode→lr
open Go.Value.slice renaming injEq→iM
open List renaming getElem?_append_left→cn,length_map→eY,mem_map→dJ,getElem?_map→b7,mem_filterMap→Ck,getElem_of_mem→pM,getElem?_eq_getElem→bC,mem_of_getElem?→dK,getElem?_append_right→gI,getElem?_set_ne→aJ,all_eq_true→cC,getD_eq_getElem?_getD→cD,getElem?_drop→nP,mem_cons→bN,map_cons→dg,take_append_drop→pN,length_append→gu,mem_append→bQ,replicate→cu,all_cons→ls,mem_cons_self→cW,mem_cons_of_mem→da,take_of_length_le→K6,map_append→nY,findIdx?_cons→CA,nodup_cons→gJ,getElem?_inj→xc,map_set→pV,headD_cons→tu,length_nil→tv,map_nil→xk,length→Le
open Nat renaming le_refl→aB,lt_of_lt_of_le→cM,zero_le→fI,lt_or_ge→gr,zero_add→dL,sub_zero→fm,beq→ah,eq_of_beq_eq_true→aR,sub_self→mE,ble→eM,blt→eg,ble_eq→CG,blt_eq→fJ,le_of_ble_eq_true→pX,mul_one→Xn,lt_succ_of_lt→tw,lt_succ_self→Lg,lt_irrefl→n5
open Option renaming map_eq_some_iff→df,isSome_none→Cu,map_some→eZ,map_none→tn,isSome_some→CH,map_map→Ld
open Option.some renaming injEq→aK,inj→fa
open Prod.mk renaming injEq→aN
namespace Go.AL
open Go
variable [Dr]
def aO:Int→Bool
 |.ofNat _=>true
 |.negSucc _=>false
def aZ:Int→Int→Bool
 |.ofNat x,.ofNat y=>eM x y
 |.ofNat _,.negSucc _=>false
 |.negSucc _,.ofNat _=>true
 |.negSucc x,.negSucc y=>eM y x
def au:Int→Int→Bool
 |.ofNat x,.ofNat y=>eg x y
 |.ofNat _,.negSucc _=>false
 |.negSucc _,.ofNat _=>true
 |.negSucc x,.negSucc y=>eg y x
def ar(n:Int):Bool:=aZ (-9223372036854775808) n&&aZ n 9223372036854775807
theorem jy(n:Int):aO n=decide (0≤n):=by
 cases n with
 |ofNat x=>simp[aO]
 |negSucc x=>simp[aO]
theorem dp(a b:Int):aZ a b=decide (a≤b):=by
 rw[tq];cases a<;>cases b<;>simp[aZ,CG]<;>(try omega)
theorem eu(a b:Int):au a b=decide (a<b):=by
 rw[tq];cases a<;>cases b<;>simp[au,fJ]<;>(try omega)
theorem Eg{n:Int}:ar n=true ↔ -9223372036854775808≤n∧n≤9223372036854775807:=by
 simp[ar,dp]
def g0(r:List G):G:=r.headD default
def gi:List G→Nat→G
 |r,0=>r.headD default
 |r,i+1=>gi r.tail i
def G.row(g:G):List G:=g.rows.headD []
def Np:Kd→G→G→Bool
 |.int _,a,b=>a.int==b.int
 |.str,a,b=>a.str.toList==b.str.toList
 |.bool,a,b=>a.bool==b.bool
 |.list _,_,_=>false
def gS:List Kd→List G→List G→Bool
 | [],_,_=>true
 |k::ks,r,s=>Np k (r.headD default) (s.headD default)&&gS ks r.tail s.tail
inductive Ct where
 |one (k:Kd)
 |agg (ks:List Kd)
 deriving Inhabited
def Ct.ks:Ct→List Kd
 |.one k=>[k]
 |.agg ks=>ks
def Ct.av:Ct→List G→AV
 |.one k,r=>gx k (r.headD default)
 |.agg ks,r=>.agg (ax ks r)
theorem Ct.qA(k:Ct)(r:List G):(k.av r).closed=true:=by
 cases k with
 |one k=>cases k<;>rfl
 |agg ks=>simp only[Ct.av,AV.closed,eO]
inductive af where
 |raw (o:ab)
 |vec (ks:List Kd) (ad:Nat) (rows:List (List G))
 |map (K V:Ct) (rows:List (List G)) (clock:Nat)
 |aM (l:Nat) (K:Ct) (ks:List Kd) (rows:List (List G)) (clock:Nat)
 |mm (l:Nat) (K KI VI:Ct) (rows mem:List (List G)) (clock:Nat)
def cK(K V:Ct)(rows:List (List G)):List (AV × AV × Nat):=rows.map fun r=>(K.av (gi r 0).row,V.av (gi r 1).row,(gi r 2).int.toNat)
def jz(r:List G):List (List G):=((gi r 1).row.headD default).rows
def iu(K:Ct)(ks:List Kd)(r:List G):AV × Option (List (List AV)) × Nat:=(K.av (gi r 0).row,(bif (gi r 3).bool then some ((jz r).map (ax ks)) else none),(gi r 2).int.toNat)
def fh(K:Ct)(ks:List Kd)(rows:List (List G)):List (AV × Option (List (List AV)) × Nat):=rows.map (iu K ks)
def m_(r:List G):Option Nat:=bif aZ 0 (gi r 1).int then some (gi r 1).int.toNat else none
def gd(K:Ct)(rows:List (List G)):List (AV × Option Nat × Nat):=rows.map fun r=>(K.av (gi r 0).row,m_ r,(gi r 2).int.toNat)
def lK(KI VI:Ct)(mem:List (List G)):List (List (AV × AV × Nat) × Nat):=mem.map fun m=>(cK KI VI (gi m 0).rows,(gi m 1).int.toNat)
def af.den:af→ab
 |.raw o=>o
 |.aM l K ks rows clock=>.aM l ks.length (fh K ks rows) clock
 |.map K V rows clock=>.map (cK K V rows) clock
 |.mm l K KI VI rows mem clock=>.mm l (gd K rows) (lK KI VI mem) clock
 |.vec ks ad rows=>.vec ks.length ad (rows.map (ax ks))
def ai(H:List af):List ab:=H.map af.den
structure aj where
 fr:List AV
 H:List af
def aj.den(s:aj):St:=⟨s.fr,ai s.H⟩
def aj.eval(s:aj)(o:Operand):AV:=St.eval ⟨s.fr,[]⟩ o
def aj.put(s:aj)(dst:Option Tmp)(v:AV)(H':List af):aj:=⟨gP s.fr dst v,H'⟩
theorem aj.jA(s:aj):s.den.eval=s.eval:=by
 funext o
 cases o<;>rfl
theorem aU{H:List af}{id:Nat}{o:af}(h:H[id]? = some o):(ai H)[id]? = some o.den:=by simp[ai,h]
theorem cI(H:List af)(id:Nat)(o:af):ai (H.set id o)=(ai H).set id o.den:=by simp[ai,pV]
theorem fQ(H:List af)(o:af):ai (H++[o])=ai H++[o.den]:=by simp[ai]
theorem dA(H:List af):(ai H).length=H.length:=by simp[ai]
mutual
def Kd.same:Kd→Kd→Bool
 |.int k,.int k'=>decide (k=k')
 |.str,.str=>true
 |.bool,.bool=>true
 |.list ks,.list a=>Kd.fy ks a
 |_,_=>false
def Kd.fy:List Kd→List Kd→Bool
 | [],[]=>true
 |k::ks,k'::a=>k.same k'&&Kd.fy ks a
 |_,_=>false
end
mutual
theorem Kd.iw:∀{k k':Kd},k.same k'=true→k=k'
 |.int k,.int k',h=>by simp[Kd.same]at h; rw[h]
 |.str,.str,_=>rfl
 |.bool,.bool,_=>rfl
 |.list ks,.list a,h=>by simp only[Kd.same]at h; rw[Kd.gE h]
 |.int _,.str,h | .int _,.bool,h | .int _,.list _,h | .str,.int _,h | .str,.bool,h | .str,.list _,h=>by simp[Kd.same]at h
 |.bool,.int _,h | .bool,.str,h | .bool,.list _,h | .list _,.int _,h | .list _,.str,h | .list _,.bool,h=>by simp[Kd.same]at h
theorem Kd.gE:∀{k k':List Kd},Kd.fy k k'=true→k=k'
 | [],[],_=>rfl
 |k::ks,k'::a,h=>by simp only[Kd.fy,aq]at h; rw[Kd.iw h.1,Kd.gE h.2]
 | [],_::_,h|_::_,[],h=>by simp[Kd.fy]at h
end
def Ct.same:Ct→Ct→Bool
 |.one k,.one k'=>k.same k'
 |.agg ks,.agg a=>Kd.fy ks a
 |_,_=>false
theorem Ct.iw{K a:Ct}(h:K.same a=true):K=a:=by
 cases K<;>cases a<;>simp only[Ct.same]at h
 ·rw[Kd.iw h]
 ·cases h
 ·cases h
 ·rw[Kd.gE h]
def qB:Kd→AV→Option G
 |.int k,.lit (.int k' n)=>if k=k' then some (.i n) else none
 |.str,.lit (.string s)=>some (.s s)
 |.bool,.lit (.bool b)=>some (.t b)
 |.list ks,.listF a rows=>if Kd.fy ks a then some (.l rows) else none
 |_,_=>none
def eU:List Kd→List AV→Option (List G)
 | [],[]=>some []
 | k::ks,a::as=>match qB k a,eU ks as with
  |some g,some gs=>some (g::gs)
  |_,_=>none
 |_,_=>none
def j5(ks:List Kd):List (List AV)→Option (List (List G))
 | []=>some []
 | r::rs=>match eU ks r,j5 ks rs with
  |some g,some gs=>some (g::gs)
  |_,_=>none
theorem yC{k:Kd}{a:AV}{g:G}(h:qB k a=some g):gx k g=a:=by
 unfold qB at h;split at h
 ·split at h
  ·rename_i e; cases h; subst e; rfl
  ·cases h
 ·cases h; rfl
 ·cases h; rfl
 ·split at h
  ·rename_i e; cases h; rw[Kd.gE e]; rfl
  ·cases h
 ·cases h
theorem iV:∀{ks:List Kd} {as:List AV} {gs:List G},eU ks as=some gs→ax ks gs=as
 | [],[],_,h=>by simp[eU]at h; subst h; rfl
 | k::ks,a::as,gs,h=>by
  simp only[eU]at h;split at h
  ·rename_i g d h1 b
   cases h;simp[ax,yC h1,iV b]
  ·cases h
 | [],_::_,_,h|_::_,[],_,h=>by simp[eU]at h
theorem Eh:∀{ks:List Kd} {as:List AV} {gs:List G},eU ks as=some gs→gs.length=ks.length∧as.length=ks.length
 | [],[],_,h=>by simp[eU]at h; subst h; exact⟨rfl,rfl⟩
 | k::ks,a::as,gs,h=>by
  simp only[eU]at h;split at h
  ·rename_i g d h1 b
   cases h;have:=Eh b;simp[this.1,this.2]
  ·cases h
 | [],_::_,_,h|_::_,[],_,h=>by simp[eU]at h
theorem nc{ks:List Kd}:∀{rs:List (List AV)} {gs:List (List G)},j5 ks rs=some gs→gs.map (ax ks)=rs
 | [],_,h=>by simp[j5]at h; subst h; rfl
 | r::rs,gs,h=>by
  simp only[j5]at h;split at h
  ·rename_i g b h1 a
   cases h;simp[iV h1,nc a]
  ·cases h
def qC:AV→Option Kd
 |.lit (.int k _)=>some (.int k)
 |.lit (.string _)=>some .str
 |.lit (.bool _)=>some .bool
 |.listF ks _=>some (.list ks)
 |_=>none
def nd:List AV→Option (List Kd)
 | []=>some []
 | a::as=>match qC a,nd as with
  |some k,some ks=>some (k::ks)
  |_,_=>none
def nf:List Kd→List G→List G
 | [],_=>[]
 |_::ks,r=>r.headD default::nf ks r.tail
theorem yD:∀(ks:List Kd) (r:List G),(nf ks r).length=ks.length
 | [],_=>rfl
 |_::ks,r=>by simp[nf,yD ks]
def bT(ks:List Kd)(r:List G)(col:Nat)(gs:List G):List G:=(nf ks r).take col++gs++(nf ks r).drop (col+gs.length)
theorem Ei:∀(ks:List Kd) (r:List G) (n:Nat),(ax ks r).take n=ax (ks.take n) r
 | [],_,n=>by simp[ax]
 |_::_,_,0=>by simp[ax]
 |k::ks,r,n+1=>by simp[ax,Ei ks]
theorem Ej:∀(ks:List Kd) (r:List G) (n:Nat),(ax ks r).drop n=ax (ks.drop n) (r.drop n)
 | [],_,n=>by simp[ax]
 |_::_,_,0=>by simp
 |k::ks,r,n+1=>by simp[ax,Ej ks]
theorem yE:∀(ks a:List Kd) (r r':List G),r.length=ks.length→ax (ks++a) (r++r')=ax ks r++ax a r'
 | [],a,r,r',h=>by
  have:r=[]:=List.length_eq_zero_iff.1 h;subst this;simp[ax]
 | k::ks,a,r,r',h=>by
  cases r with
  |nil=>simp at h
  |cons x r=>simp[ax,yE ks a r r' (by simpa using h)]
theorem yF:∀(ks:List Kd) (r:List G),ax ks (nf ks r)=ax ks r
 | [],_=>rfl
 |k::ks,r=>by simp[ax,nf,yF ks]
theorem Nq{ks:List Kd}{r gs:List G}{cs:List AV}{col:Nat} (h:eU ((ks.drop col).take cs.length) cs=some gs) (g:col+cs.length≤ks.length) :
  ax ks (bT ks r col gs)=putCells (ax ks r) cs col:=by
 obtain⟨h1,i⟩:=Eh h;have hlen:((ks.drop col).take cs.length).length=cs.length:=by simp; omega
 have b:gs.length=cs.length:=by omega
 have hk:ks=(ks.take col++(ks.drop col).take cs.length)++ks.drop (col+cs.length):=by
  rw[List.append_assoc,←List.drop_drop,pN,pN]
 unfold bT putCells;have a:=yD ks r
 conv=>lhs; arg 1; rw[hk]
 rw[yE _ _ _ _ (by simp[a,b]; omega),yE _ _ _ _ (by simp[a]),iV h,b];congr 1
 ·congr 1
  rw[←yF ks r,Ei];have:∀(ks:List Kd) (r:List G) (n:Nat),ks.length≤n→ax ks (r.take n)=ax ks r:=by
   intro ks
   induction ks with
   |nil=>intros; rfl
   | cons k ks d =>
    intro r n a;cases n with
    |zero=>simp at a
    | succ n =>
     cases r with
     |nil=>rfl
     |cons x r=>simp[ax,d r n (by simpa using a)]
  exact this _ _ _ (by simp; omega)
 ·conv => rhs; rw [← yF ks r]
  rw[Ej]
end Go.AL

namespace Go.AL
open Go
variable [Dr]
theorem yG{ks:List Kd}{rows:List (List G)}{row:Nat}(h:row<rows.length):(rows.map (ax ks))[row]? = some (ax ks (rows.getD row [])):=by
 rw[b7,cD,bC h];rfl
def yH(P:Program)(t:TypeId)(x:AV)(H:List af):Option (Bool × AV) :=
 match x with
 | .ptr id ad w row col=>match H[id]? with
  | some (.vec ks v rows)=>match dN P t with
   | some (n,agg)=>if ad=v∧ks.length=w then (match fL agg n ((ax ks (rows.getD row [])).drop col) with
     |some u=>some (decide (row<rows.length),u)
     |none=>none) else none
   |none=>none
  | some (.raw (.box cells))=>match dN P t with
   | some (n,agg)=>if ad=0∧row=0 then (match fL agg n (cells.drop col) with
     |some u=>some (true,u)
     |none=>none) else none
   |none=>none
  |_=>none
 | .cptr cells=>match dN P t with
  | some (n,agg)=>match fL agg n cells with
   |some u=>some (true,u)
   |none=>none
  |none=>none
 |_=>none
theorem Nr{P:Program}{t:TypeId}{x:AV}{H:List af}{b:Bool}{u:AV}(h:yH P t x H=some (b,u))(k:b=true):fW P t x (ai H)=some u:=by
 unfold yH at h;unfold fW;split at h
 ·rename_i id ad w row col
  split at h
  ·rename_i ks v rows hid
   split at h
   case h_2=>cases h
   rename_i n agg a;split at h
   case isFalse=>cases h
   rename_i g;split at h
   case h_2=>cases h
   rename_i i d;simp only[aK,aN]at h;obtain⟨h1,rfl⟩:=h;subst k;simp only[decide_eq_true_eq]at h1;rw[a];simp only[aU hid,af.den];rw[if_pos ⟨g.1,g.2⟩,yG h1];exact d
  ·rename_i cells hid
   split at h
   case h_2=>cases h
   rename_i n agg a;split at h
   case isFalse=>cases h
   rename_i g;split at h
   case h_2=>cases h
   rename_i i d;cases h;rw[a];simp only[aU hid,af.den];rw[if_pos g];exact d
  ·cases h
 ·rename_i cells
  split at h
  case h_2=>cases h
  rename_i n agg a;split at h
  case h_2=>cases h
  rename_i i d;cases h;rw[a];exact d
 ·cases h
def oO(P:Program)(t:TypeId)(x v:AV)(H:List af):Option (Bool × List af) :=
 match dN P t,mL v,x with
 | some (n,_),some cs,.ptr id ad w row col =>
  if cs.length=n then
   match H[id]? with
   |some (.raw (.box cells))=>if ad=0∧row=0∧col+n≤cells.length then some (true,H.set id (.raw (.box (putCells cells cs col)))) else none
   | some (.vec ks u rows) =>
    if ad=u∧ks.length=w∧col+cs.length≤ks.length then
     match eU ((ks.drop col).take cs.length) cs with
     |some gs=>some (decide (row<rows.length),H.set id (.vec ks u (rows.set row (bT ks (rows.getD row []) col gs))))
     |none=>none
    else none
   |_=>none
  else none
 |_,_,_=>none
theorem Ek{P:Program}{t:TypeId}{x v:AV}{H H':List af}{b:Bool}(h:oO P t x v H=some (b,H'))(k:b=true):oE P t x v (ai H)=some (ai H'):=by
 unfold oO at h;unfold oE;split at h
 case h_2=>cases h
 rename_i n y cs id ad w row col l g;rw[l,g];simp only[];split at h
 case isFalse=>cases h
 rename_i q;rw[if_pos q];split at h
 ·rename_i cells hid
  split at h
  case isFalse=>cases h
  rename_i a;cases h;simp only[aU hid,af.den];rw[if_pos a,cI];rfl
 ·rename_i ks u rows hid
  split at h
  case isFalse=>cases h
  rename_i a;obtain⟨c1,c2,r⟩:=a;split at h
  case h_2=>cases h
  rename_i gs d;simp only[aK,aN]at h;obtain⟨h1,rfl⟩:=h;subst k;simp only[decide_eq_true_eq]at h1;simp only[aU hid,af.den];have i:AV.aV cs=true:=by rw[←iV d]; exact eO _ _
  rw[if_pos ⟨c1,c2,i⟩,yG h1];simp only[oa];rw[if_pos (by omega),cI];simp only[af.den,pV];rw[Nq d r]
 ·cases h
def qD(sz:Nat)(x:AV)(H:List af)(want:Option (List Kd)):Option (Bool × List Kd × List (List G)) :=
 match x with
 | .nils | .lit (.slice none 0 0)=>match want with
  |some ks=>some (true,ks,[])
  |none=>none
 | .emptyS _=>match want with
  |some ks=>some (true,ks,[])
  |none=>none
 |.listF ks rows=>if ks.length=sz then some (true,ks,rows) else none
 | .list w rows=>match (match want with | some ks=>some ks | none=>nd (rows.headD [])) with
  | some ks=>match j5 ks rows with
   |some gs=>if w=sz then some (true,ks,gs) else none
   |none=>none
  |none=>none
 | .vec w id ad off n=>match H[id]? with
  |some (.vec ks v rows)=>if w=sz∧ks.length=w∧v=ad∧off=0 then some (ah n rows.length,ks,rows) else none
  |_=>none
 |.lit (.string s)=>if sz=1 then some (true,[.int .u8],s.data.toList.map fun b=>[.i b.toNat]) else none
 |_=>none
theorem El{sz:Nat}{x:AV}{H:List af}{want:Option (List Kd)}{b:Bool}{ks:List Kd}{rows:List (List G)}(h:qD sz x H want=some (b,ks,rows))(a:b=true) :
  jr sz x (ai H)=some (rows.map (ax ks)):=by
 unfold qD at h;split at h
 ·split at h
  ·cases h; rfl
  ·cases h
 ·split at h
  ·cases h; rfl
  ·cases h
 ·split at h
  ·cases h; rfl
  ·cases h
 ·split at h
  ·rename_i hw; cases h; simp only[jr]; rw[if_pos hw]
  ·cases h
 ·split at h
  ·split at h
   ·rename_i gs d
    split at h
    ·rename_i hw; cases h; simp only[jr]; rw[if_pos hw,nc d]
    ·cases h
   ·cases h
  ·cases h
 ·rename_i w id ad off n
  split at h
  ·rename_i k v rows' hid
   split at h
   ·rename_i g
    obtain⟨c1,c2,i,rfl⟩:=g;simp only[aK,aN]at h;obtain⟨h1,rfl,rfl⟩:=h;subst a;have h1:=aR h1;simp only[jr,aU hid,af.den];rw[if_pos ⟨c1,c2,i,by simp; omega⟩];simp only[List.drop_zero];rw[K6 (by simp; omega)]
   ·cases h
  ·cases h
 ·rename_i s
  split at h
  ·rename_i hs
   cases h;simp only[jr];rw[if_pos hs];simp[ax,gx,G.int]
  ·cases h
 ·cases h
def yI:SK→Bool
 |.slice _ _ _ | .str=>true
 |_=>false
theorem yJ{P:Program}{t xt:TypeId}{s x:AV}{H:List ab}{e sz a:Nat}{z:List Value}{new:List (List AV)}(hk:bJ P t=.slice e sz a)(d:di P e=some z)
  (b : yI (bJ P xt) = true) (hr : jr sz x H = some new) (g : z.length = sz ∧ new.length ≤ 1048576 ∧ a ≤ 1048576) : oC P t xt s x H =
   match s with
    |.nils | .lit (.slice none 0 0)=>some (.vec sz H.length 0 0 new.length,H++[.vec sz 0 new])
    | .vec w id ad off n=>match H[id]? with
     | some (.vec k v rows) =>
      if k=w∧w=sz∧v=ad∧off=0∧n=rows.length∧rows.length+new.length≤1048576 then
       some (.vec w id (ad+1) 0 (n+new.length),H.set id (.vec k (ad+1) (rows++new)))
      else none
     |_=>none
    |_=>none:=by
 unfold oC;simp only[hk,d,hr];cases h:bJ P xt<;>simp only[h,yI]at b⊢<;>first
  |(cases b; done)
  |(rw[if_pos g]; rfl)
def uD(sz:Nat)(x:AV)(H:List af)(z:List Value):Option (Bool × List Kd × List (List G)) :=
 match x with
 |.emptyS _=>qD sz x H (nd (z.map .lit))
 |_=>qD sz x H none
theorem Ns{sz:Nat}{x:AV}{H:List af}{z:List Value}{b:Bool}{ks:List Kd}{rows:List (List G)}(h:uD sz x H z=some (b,ks,rows))(a:b=true) :
  jr sz x (ai H)=some (rows.map (ax ks)):=by
 unfold uD at h;split at h<;>exact El h a
def qE(P:Program)(t xt:TypeId)(s x:AV)(H:List af):Option (Bool × AV × List af) :=
 match bJ P t with
 | .slice e sz a =>
  match di P e,yI (bJ P xt)with
  | some z,true =>
   if z.length=sz∧a≤1048576 then
    match s with
    | .nils | .lit (.slice none 0 0)=>match uD sz x H z with
     |some (b,ks,new)=>if ks.length=sz then some (b&&decide (new.length≤1048576),.vec sz H.length 0 0 new.length,H++[.vec ks 0 new]) else none
     |none=>none
    | .vec w id ad off n=>match H[id]? with
     | some (.vec ks v rows)=>match qD sz x H (some ks) with
      | some (b,d,new) =>
       if ks.length=w∧w=sz∧v=ad∧off=0∧Kd.fy ks d=true then
        some (b&&(ah n rows.length&&decide (rows.length+new.length≤1048576)),.vec w id (ad+1) 0 (rows++new).length,H.set id (.vec ks (ad+1) (rows++new)))
       else none
      |none=>none
     |_=>none
    |_=>none
   else none
  |_,_=>none
 |_=>none
theorem Nt{P:Program}{t xt:TypeId}{s x v:AV}{H H':List af}{b:Bool}(h:qE P t xt s x H=some (b,v,H'))(k:b=true) :
  oC P t xt s x (ai H)=some (v,ai H'):=by
 unfold qE at h;split at h
 case h_2=>cases h
 rename_i e sz I hk;split at h
 case h_2=>cases h
 rename_i z g d;split at h
 case isFalse=>cases h
 rename_i r;obtain⟨c1,c2⟩:=r;have fresh:∀{b1:Bool} {ks:List Kd} {new:List (List G)},uD sz x H z=some (b1,ks,new) →
   (if ks.length=sz then some (b1&&decide (new.length≤1048576),AV.vec sz H.length 0 0 new.length,H++[af.vec ks 0 new]) else none)=some (b,v,H') →
   ∃ rows,jr sz x (ai H)=some rows∧rows.length≤1048576∧v=.vec sz (ai H).length 0 0 rows.length∧ai H'=ai H++[.vec sz 0 rows]:=by
  intro b1 ks new hs h;split at h
  case isFalse=>cases h
  rename_i q;simp only[aK,aN]at h;obtain⟨h1,rfl,rfl⟩:=h;subst k;simp only[aq,decide_eq_true_eq]at h1;refine⟨_,Ns hs h1.1,by simpa using h1.2,by simp[dA],?_⟩;rw[fQ,af.den,q]
 split at h
 ·split at h
  case h_2=>cases h
  rename_i b1 ks new hs;obtain⟨rows,g1,g2,g3,g4⟩:=fresh hs h;rw[yJ hk g d g1 ⟨c1,g2,c2⟩,g3,g4]
 ·split at h
  case h_2=>cases h
  rename_i b1 ks new hs;obtain⟨rows,g1,g2,g3,g4⟩:=fresh hs h;rw[yJ hk g d g1 ⟨c1,g2,c2⟩,g3,g4];rfl
 ·rename_i w id ad off n
  split at h
  case h_2=>cases h
  rename_i ks M rows hid;split at h
  case h_2=>cases h
  rename_i b1 J new hs;split at h
  case isFalse=>cases h
  rename_i u;obtain⟨l,y,A,B,i⟩:=u;have i:=Kd.gE i;subst i;simp only[aK,aN]at h;obtain⟨h1,rfl,rfl⟩:=h;subst k;simp only[aq,decide_eq_true_eq]at h1;obtain⟨h1,a,D⟩:=h1;have a:=aR a;rw[yJ hk g d (El hs h1) ⟨c1,by simp; omega,c2⟩];simp only[eY,aU hid,af.den];rw[if_pos ⟨l,y,A,B,a,D⟩,cI];simp only[af.den,nY,gu,a,l]
 ·cases h
def lL(len:Nat)(lo hi:Option AV):Option (Bool × Nat × Nat) :=
 match lo,hi with
 |none,none=>some (true,0,len)
 |some (.lit (.int _ l)),none=>some (aO l&&aZ l (len:Int),l.toNat,len)
 |none,some (.lit (.int _ h))=>some (aO h&&aZ h (len:Int),0,h.toNat)
 |some (.lit (.int _ l)),some (.lit (.int _ h))=>some (aO l&&(aZ l h&&aZ h (len:Int)),l.toNat,h.toNat)
 |_,_=>none
theorem uE{len:Nat}{lo hi:Option AV}{b:Bool}{l h:Nat}(a:lL len lo hi=some (b,l,h))(d:b=true):fe len lo hi=some (l,h):=by
 unfold lL at a;split at a
 ·cases a; simp[fe]
 ·rename_i l'
  simp only[aK,aN]at a;obtain⟨h1,rfl,rfl⟩:=a;subst d;simp only[jy,dp,aq,decide_eq_true_eq]at h1;simp[fe,iP,h1.1,h1.2]
 ·rename_i h'
  simp only[aK,aN]at a;obtain⟨h1,rfl,rfl⟩:=a;subst d;simp only[jy,dp,aq,decide_eq_true_eq]at h1;simp[fe,iP,h1.1,h1.2]
 ·rename_i l' _ h'
  simp only[aK,aN]at a;obtain⟨h1,rfl,rfl⟩:=a;subst d;simp only[jy,dp,aq,decide_eq_true_eq]at h1;simp[fe,iP,h1.1,h1.2.1,h1.2.2]
 ·cases a
def oP(rows:List (List G))(lo hi:Option AV)(l h:Nat):List (List G) :=
 match lo,hi with
 |none,none=>rows
 |some _,none=>rows.drop l
 |none,some _=>rows.take h
 |some _,some _=>(rows.drop l).take (h-l)
theorem Em{rows:List (List G)}{lo hi:Option AV}{b:Bool}{l h:Nat}(a:lL rows.length lo hi=some (b,l,h)):oP rows lo hi l h=(rows.drop l).take (h-l):=by
 unfold lL at a;split at a
 ·cases a; simp[oP]
 ·simp only [aK, aN] at a
  obtain⟨h1,rfl,rfl⟩:=a;simp only[oP];rw[K6 (by simp)]
 ·simp only [aK, aN] at a
  obtain⟨h1,rfl,rfl⟩:=a;simp[oP]
 ·rfl
 ·cases a
def yK(P:Program)(t:TypeId)(x:AV)(lo hi mx:Option AV):Option (Bool × AV) :=
 match mx with
 | some _=>match jo P t x lo hi mx with
  |some v=>some (true,v)
  |none=>none
 | none=>match bJ P t,x with
  | .str,.lit (.string s)=>match lL s.size lo hi with
   |some (b,l,h)=>some (b,.lit (.string (s.extract l h)))
   |none=>none
  | .slice _ sz _,.listF ks rows=>match lL rows.length lo hi with
   |some (b,l,h)=>if ks.length=sz then some (b,.listF ks (oP rows lo hi l h)) else none
   |none=>none
  | .slice _ sz _,.vec w id ad off n=>match lL n lo hi with
   |some (b,l,h)=>if w=sz then some (b,.vec w id ad (off+l) (h-l)) else none
   |none=>none
  | .slice _ sz _,.list w rows=>match w,ow rows with
   | 1,some gs=>match lL gs.length lo hi with
    |some (b,l,h)=>if 1=sz then some (b,.listF [.str] (oP gs lo hi l h)) else none
    |none=>none
   | _,_=>match jo P t x lo hi none with
    |some v=>some (true,v)
    |none=>none
  | _,_=>match jo P t x lo hi none with
   |some v=>some (true,v)
   |none=>none
theorem Nu{P:Program}{t:TypeId}{x v:AV}{lo hi mx:Option AV}{b:Bool}(h:yK P t x lo hi mx=some (b,v))(d:b=true):jo P t x lo hi mx=some v:=by
 unfold yK at h;split at h
 ·split at h
  ·rename_i u hu; cases h; exact hu
  ·cases h
 ·split at h
  ·rename_i s hk
   split at h
   case h_2=>cases h
   rename_i g l i a;simp only[aK,aN]at h;obtain⟨h1,rfl⟩:=h;subst h1;simp[jo,hk,uE a d]
  ·rename_i e sz k ks rows hk
   split at h
   case h_2=>cases h
   rename_i g l i a;split at h
   case isFalse=>cases h
   rename_i hs;simp only[aK,aN]at h;obtain⟨h1,rfl⟩:=h;subst h1;simp[jo,hk,uE a d,hs,Em a]
  ·rename_i e sz k w id ad off n hk
   split at h
   case h_2=>cases h
   rename_i g l i a;split at h
   case isFalse=>cases h
   rename_i hs;simp only[aK,aN]at h;obtain⟨h1,rfl⟩:=h;subst h1;simp[jo,hk,uE a d,hs]
  ·rename_i e sz k w rows hk
   split at h
   ·rename_i gs q
    split at h
    case h_2=>cases h
    rename_i g l i a;split at h
    case isFalse=>cases h
    rename_i hs;simp only[aK,aN]at h;obtain⟨h1,rfl⟩:=h;subst h1;subst hs;have r:rows.length=gs.length:=by rw[←xE q,eY]
    simp[jo,hk,r,uE a d,Em a,tP,q]
   ·split at h
    ·rename_i u hu; cases h; exact hu
    ·cases h
  ·split at h
   ·rename_i u hu; cases h; exact hu
   ·cases h
def qF(P:Program)(t:TypeId)(l c:AV)(H:List af):Option (Bool × AV × List af) :=
 match bJ P t,l,c with
 | .slice e sz a,.lit (.int _ l),.lit (.int _ c) =>
  match di P e with
  | some z=>match nd (t_ P e z) with
   | some ks=>match eU ks (t_ P e z) with
    | some gs=>if z.length=sz∧0<sz∧a≤1048576∧ks.length=sz then
      some (aO l&&(aZ l c&&aZ c 1048576),.vec sz H.length 0 0 l.toNat,H++[.vec ks 0 (cu l.toNat gs)]) else none
    |none=>none
   |none=>none
  |none=>none
 |_,_,_=>none
theorem Nv{P:Program}{t:TypeId}{l c v:AV}{H H':List af}{b:Bool}(h:qF P t l c H=some (b,v,H'))(d:b=true) :
  qh P t l c (ai H)=some (v,ai H'):=by
 unfold qF at h;unfold qh;split at h
 case h_2=>cases h
 rename_i e sz r _ l _ c hk;rw[hk];simp only[];split at h
 case h_2=>cases h
 rename_i z g;split at h
 case h_2=>cases h
 rename_i ks u;split at h
 case h_2=>cases h
 rename_i gs a;split at h
 case isFalse=>cases h
 rename_i i;obtain⟨c1,c2,k,q⟩:=i;simp only[aK,aN]at h;obtain⟨h1,rfl,rfl⟩:=h;subst d;simp only[jy,dp,aq,decide_eq_true_eq]at h1;rw[g];simp only[];rw[if_pos ⟨c1,c2,h1.1,h1.2.1,h1.2.2,k⟩,fQ,dA,af.den,q,List.map_replicate,iV a]
def qG(P:Program)(t:TypeId)(n:Nat)(parts:List (Nat × AV))(H:List af):Option (Bool × AV × List af) :=
 match bJ P t with
 | .slice e _ _=>match di P e with
  | some z=>match nd (z.map .lit) with
   | some ks=>match oF P t n parts with
    | some (.list sz rows)=>match j5 ks rows with
     |some gs=>if ks.length=sz then some (true,.vec sz H.length 0 0 gs.length,H++[.vec ks 0 gs]) else none
     |none=>none
    |_=>none
   |none=>none
  |none=>none
 |_=>none
theorem Nw{P:Program}{t:TypeId}{n:Nat}{parts:List (Nat × AV)}{v:AV}{H H':List af}{b:Bool}(h:qG P t n parts H=some (b,v,H')) :
  qn P t n parts (ai H)=some (v,ai H'):=by
 unfold qG at h;split at h
 case h_2=>cases h
 split at h
 case h_2=>cases h
 split at h
 case h_2=>cases h
 rename_i ks i;split at h
 case h_2=>cases h
 rename_i sz rows d;split at h
 case h_2=>cases h
 rename_i gs a;split at h
 case isFalse=>cases h
 rename_i g;cases h;unfold qn;rw[d];have e:=nc a;simp only[];rw[fQ,dA,af.den,g,e,←e,eY]
/-! ### Maps -/
def Ct.read:Ct→AV→Option (List G)
 | .one k,a=>match qB k a with
  |some g=>some [g]
  |none=>none
 |.agg ks,.agg cells=>eU ks cells
 |_,_=>none
theorem Ct.iW{K:Ct}{a:AV}{r:List G}(h:K.read a=some r):K.av r=a:=by
 unfold Ct.read at h;split at h
 ·split at h
  ·rename_i g b
   cases h;exact yC b
  ·cases h
 ·simp only[Ct.av,iV h]
 ·cases h
def lM(P:Program)(t:TypeId):Option (Ct × List G) :=
 match P.info? t with
 | some i=>match i.zero with
  | some (.agg cs)=>match cs.toList.all cN,nd (cs.toList.map .lit) with
   | true,some ks=>match eU ks (cs.toList.map .lit) with
    |some gs=>some (.agg ks,gs)
    |none=>none
   |_,_=>none
  | some v=>match qC (.lit v) with
   | some k=>match qB k (.lit v) with
    |some g=>some (.one k,[g])
    |none=>none
   | none=>match fN P t,x2 P t with
    |some (.lit (.slice none 0 0)),some ks=>some (.one (.list ks),[.l []])
    |_,_=>none
  |none=>none
 |none=>none
theorem Nx{P:Program}{t:TypeId}{v:AV}(h:fN P t=some v)(a:v=.lit (.slice none 0 0)→False):kL P t=some v:=by
 unfold kL;rw[h];split
 ·rename_i e _
  cases e;exact(a rfl).elim
 ·rename_i e _
  cases e;rfl
 ·rename_i e
  cases e
theorem En{P:Program}{t:TypeId}{V:Ct}{z:List G}(h:lM P t=some (V,z)):kL P t=some (V.av z):=by
 unfold lM at h;have b:∀ v,fN P t=some v→(v=.lit (.slice none 0 0)→False)→kL P t=some v:=fun v h q=>Nx h q;split at h
 case h_2=>cases h
 rename_i i hi;split at h
 ·rename_i cs a
  split at h
  ·rename_i ks h1 d
   split at h
   ·rename_i gs r
    cases h;refine b _ ?_ fun e=>by cases e
    unfold fN;rw[hi];simp only[];rw[a];simp only[AV.om,h1,if_true,Ct.av,iV r]
   ·cases h
  ·cases h
 ·rename_i v l a
  split at h
  ·rename_i k hk
   split at h
   ·rename_i g u
    cases h;have e:=yC u;simp only[Ct.av,tu,e];refine b _ ?_ fun e=>by
     simp only[AV.lit.injEq]at e;subst e;simp[qC]at hk
    unfold fN;rw[hi];simp only[];rw[a];simp only[];unfold AV.om;split
    ·rename_i cs; exact(l cs rfl).elim
    ·simp[qC]at hk
    ·rfl
   ·cases h
  ·split at h
   ·rename_i ks h1 d
    cases h;unfold kL;rw[h1,d];rfl
   ·cases h
 ·cases h
def uF:SK→Kd→Bool
 |.int k,.int k'=>decide (k=k')
 |.str,.str=>true
 |.bool,.bool=>true
 |_,_=>false
def ix:List SK→List Kd→Bool
 | [],[]=>true
 |a::as,b::d=>uF a b&&ix as d
 |_,_=>false
def fA(P:Program)(a:TypeId)(K:Ct):Bool :=
 match flatK P kF a with
 | some b=>ix b K.ks&&(match K with
  |.one _ => !kE (P.underlying a)
  |.agg _=>kE (P.underlying a))
 |none=>false
def lN:Kd→G→Value
 |.int k,g=>.int k g.int
 |.str,g=>.string g.str
 |.bool,g=>.bool g.bool
 |.list _,_=>.bool false
def cL:List Kd→List G→List Value
 | [],_=>[]
 |k::ks,r=>lN k (r.headD default)::cL ks r.tail
theorem Eo:∀{b:List SK} {ks:List Kd} (r:List G),ix b ks=true→kD (ax ks r)=some (cL ks r)∧bV b (cL ks r)=true
  | [],[],_,_=>⟨rfl,rfl⟩
  | a::as,k::ks,r,h=>by
    simp only[ix,aq]at h;obtain⟨h1,d⟩:=Eo r.tail h.2;have hk:=h.1;cases k<;>cases a<;>simp only[uF]at hk<;>first
      |(cases hk; done)
      | (simp only [ax, gx, kD, h1, cL, lN, bV, d, Bool.and_true]
         simp_all[kindOk])
  | [],_::_,_,h|_::_,[],_,h=>by simp[ix]at h
theorem uG:∀{b:List SK} {ks:List Kd} (r s:List G),ix b ks=true→cS (cL ks r) (cL ks s)=gS ks r s
 | [],[],_,_,_=>rfl
 | a::as,k::ks,r,s,h=>by
  simp only[ix,aq]at h;have d:=uG r.tail s.tail h.2;have hk:=h.1;simp only[cL,cS,gS,d];cases k<;>cases a<;>simp only[uF]at hk<;>first
   |(cases hk; done)
   |rfl
 | [],_::_,_,_,h|_::_,[],_,_,h=>by simp[ix]at h
theorem iy{P:Program}{d:TypeId}{K:Ct}(h:fA P d K=true)(r:List G):fX P d (K.av r)=some (cL K.ks r):=by
 unfold fA at h;split at h
 case h_2=>cases h
 rename_i g hf;simp only[aq]at h;obtain⟨h1,b⟩:=h;obtain⟨g1,g2⟩:=Eo r h1;unfold fX;rw[hf];simp only[];cases K with
 | one k =>
  simp only[nZ]at b;simp only[Ct.ks,cL]at g2⊢;have e:gx k (r.headD default)=.lit (lN k (r.headD default)):=by
   simp only[Ct.ks]at h1;cases g with
   |nil=>simp[ix]at h1
   | cons a as =>
    simp only[ix,aq]at h1;have hk:=h1.1;cases k<;>cases a<;>simp only[uF]at hk<;>first
     |(cases hk; done)
     |rfl
  simp only[Ct.av,e,g2,b,and_self,if_true]
 | agg ks =>
  simp only[Ct.av,Ct.ks]at g1 g2⊢;simp only[g1,g2,b,and_self,if_true]
def cA(ks:List Kd)(key:List G):List (List G)→Nat→Option (Nat × List G)
 | [],_=>none
 |r::rs,i=>bif gS ks key (gi r 0).row then some (i,r) else cA ks key rs (i+1)
def gf(ks:List Kd)(rows:List (List G))(key:List G):Bool:=(cA ks key rows 0).isSome
def kR(ks:List Kd)(rows:List (List G))(key z:List G):List G:=match cA ks key rows 0 with
 |some (_,r)=>(gi r 1).row
 |none=>z
def fB(ks:List Kd)(rows:List (List G))(key val:List G)(clock:Nat):List (List G):=match cA ks key rows 0 with
 |some (i,r)=>rows.set i [.l [key],.l [val],.i (gi r 2).int]
 |none=>rows++[[.l [key],.l [val],.i clock]]
def dP(ks:List Kd)(rows:List (List G))(key:List G)(clock:Nat):Nat:=bif gf ks rows key then clock else clock+1
def Ep(ks:List Kd)(rows:List (List G))(key:List G):List (List G):=match cA ks key rows 0 with
 |some (i,_)=>rows.eraseIdx i
 |none=>rows
theorem oQ{P:Program}{b:TypeId}{K V:Ct}(h:fA P b K=true)(key:List G):∀(rows:List (List G)) (i:Nat),du P b (cL K.ks key) (cK K V rows) i =
  some ((cA K.ks key rows i).map fun p=>(p.1,V.av (gi p.2 1).row))
 | [],i=>rfl
 | r::rs,i=>by
  have g:=oQ (V:=V) h key rs (i+1);have d:∃ a,ix a K.ks=true:=by
   unfold fA at h;split at h
   ·simp only[aq]at h; exact⟨_,h.1⟩
   ·cases h
  obtain⟨a,hs⟩:=d;simp only[cK,dg,du,iy h,uG _ _ hs,cA];cases gS K.ks key (gi r 0).row with
  |true=>rfl
  |false=>exact g
theorem ng{ks:List Kd}{key:List G}:∀{rows:List (List G)} {i j:Nat} {r:List G},cA ks key rows i=some (j,r)→i≤j∧rows[j-i]? = some r
 | [],_,_,_,h=>by simp[cA]at h
 | x::rs,i,j,r,h=>by
  simp only[cA]at h;cases a:gS ks key (gi x 0).row with
  | true =>
   rw[a]at h;cases h;exact⟨aB _,by simp⟩
  | false =>
   rw[a]at h;obtain⟨h1,b⟩:=ng h;refine⟨by omega,?_⟩;rw[show j-i=(j-(i+1))+1 from by omega];simpa using b
def yL(P:Program)(t:TypeId)(m k:AV)(ok:Bool)(H:List af):Option (Bool × AV) :=
 match cz P t,m with
 | some (a,b),.map id=>match H[id]? with
  | some (.map K V rows _)=>match K.read k,lM P b with
   | some key,some (d,z)=>match fA P a K&&V.same d with
    | true=>some (true,match ok with
      |true=>.tuple [V.av (kR K.ks rows key z),.lit (.bool (gf K.ks rows key))]
      |false=>V.av (kR K.ks rows key z))
    |false=>none
   |_,_=>none
  |_=>none
 |_,_=>none
theorem Er{P:Program}{t:TypeId}{m k v:AV}{ok b:Bool}{H:List af}(h:yL P t m k ok H=some (b,v)):eR P t m k ok (ai H)=some v:=by
 unfold yL at h;unfold eR;split at h
 case h_2=>cases h
 rename_i i l id d;rw[d];simp only[];split at h
 case h_2=>cases h
 rename_i K V rows cl hid;rw[aU hid];simp only[af.den];split at h
 case h_2=>cases h
 rename_i key q z hk g;split at h
 case h_2=>cases h
 rename_i a;simp only[aq]at a;have e:=Ct.iw a.2;subst e;rw[←Ct.iW hk,iy a.1,En g];simp only[oQ a.1];cases h;unfold kR gf;cases cA K.ks key rows 0 with
 |none=>cases ok<;>rfl
 |some p=>cases ok<;>rfl
def oR(P:Program)(t:TypeId)(m k v:AV)(H:List af):Option (Bool × List af) :=
 match cz P t,m with
 | some (a,_),.map id=>match H[id]? with
  | some (.map K V rows cl)=>match K.read k,V.read v with
   | some key,some val=>match fA P a K with
    |true=>some (true,H.set id (.map K V (fB K.ks rows key val cl) (dP K.ks rows key cl)))
    |false=>none
   |_,_=>none
  |_=>none
 |_,_=>none
def oS(ks:List Kd)(rows:List (List G))(key:List G):List (List G):=match cA ks key rows 0 with
 |some (_,r)=>jz r
 |none=>[]
def uH(ks:List Kd)(rows:List (List G))(key:List G):Bool:=match cA ks key rows 0 with
 |some (_,r)=>(gi r 3).bool
 |none=>true
def Es(ks:List Kd)(rows:List (List G))(key:List G):List (List G):=match cA ks key rows 0 with
 |some (i,r)=>rows.set i [gi r 0,gi r 1,gi r 2,.t false]
 |none=>rows
def Et(ks:List Kd)(rows:List (List G))(key:List G)(val:List (List G))(clock:Nat):List (List G):=match cA ks key rows 0 with
 |some (i,r)=>rows.set i [.l [key],.l [[.l val]],.i (gi r 2).int,.t true]
 |none=>rows++[[.l [key],.l [[.l val]],.i clock,.t true]]
def qH(P:Program)(t:TypeId)(m k:AV)(H:List af):Option (Bool × AV × List af) :=
 match cz P t,m with
 | some (b,a),.map id=>match H[id]? with
  | some (.aM l K ks rows cl)=>match K.read k,ug P a,fN P a with
   | some key,some w',some (.lit (.slice none 0 0))=>match ah w' ks.length&&fA P b K with
    |true=>some (uH K.ks rows key,.vec ks.length H.length 0 0 (oS K.ks rows key).length,H.set id (.aM l K ks (Es K.ks rows key) cl)++[.vec ks 0 (oS K.ks rows key)])
    |false=>none
   |_,_,_=>none
  |_=>none
 |_,_=>none
def qI(P:Program)(t:TypeId)(m k v:AV)(H:List af):Option (Bool × List af) :=
 match cz P t,m,v with
 | some (d,_),.map id,.vec w j ad off n=>match H[id]?,H[j]? with
  | some (.aM l K ks rows cl),some (.vec b a rws)=>match K.read k with
   | some key=>match fA P d K&&(Kd.fy ks b&&(ah w ks.length&&(ah ad a&&ah off 0))) with
    |true=>some (ah n rws.length,(H.set id (.aM l K ks (Et K.ks rows key rws cl) (dP K.ks rows key cl))).set j (.raw .dead))
    |false=>none
   |none=>none
  |_,_=>none
 |_,_,_=>none
def Eu(ks:List Kd)(rows:List (List G))(key:List G)(clock:Nat):Nat:=match cA ks key rows 0 with
 |some (_,r)=>(gi r 2).int.toNat
 |none=>clock
def Ev(ks:List Kd)(rows:List (List G))(key:List G)(clock:Nat):List (List G):=match cA ks key rows 0 with
 |some (i,r)=>rows.set i [.l [key],gi r 1,gi r 2,.t false]
 |none=>rows++[[.l [key],.l [[.l []]],.i clock,.t false]]
def qJ(P:Program)(t:TypeId)(m k:AV)(H:List af):Option (Bool × AV × List af) :=
 match cz P t,m with
 | some (b,a),.map id=>match H[id]? with
  | some (.aM l K ks rows cl)=>match K.read k,ug P a,fN P a with
   | some key,some w',some (.lit (.slice none 0 0))=>match ah w' ks.length&&fA P b K with
    | true=>some (uH K.ks rows key,.tuple [.vec ks.length H.length 0 0 (oS K.ks rows key).length,.lit (.int .i64 (Eu K.ks rows key cl:Nat))],
      H.set id (.aM l K ks (Ev K.ks rows key cl) (dP K.ks rows key cl))++[.vec ks 0 (oS K.ks rows key)])
    |false=>none
   |_,_,_=>none
  |_=>none
 |_,_=>none
def gT(st:Int):List (List G)→Nat→Option (Nat × List G)
 | [],_=>none
 |r::rs,i=>bif ((gi r 2).int.toNat:Int)==st then some (i,r) else gT st rs (i+1)
def Ew(rows:List (List G))(st:Int)(val:List (List G)):List (List G):=match gT st rows 0 with
 |some (i,r)=>rows.set i [gi r 0,.l [[.l val]],gi r 2,.t true]
 |none=>rows
def Ex(rows:List (List G))(st:Int):Bool:=(gT st rows 0).isSome
def qK(m s v:AV)(H:List af):Option (Bool × List af) :=
 match m,s,v with
 | .map id,.lit (.int .i64 st),.vec w j ad off n=>match H[id]?,H[j]? with
  | some (.aM l K ks rows cl),some (.vec b a rws)=>match Kd.fy ks b&&(ah w ks.length&&(ah ad a&&ah off 0)) with
   |true=>some (Ex rows st&&ah n rws.length,(H.set id (.aM l K ks (Ew rows st rws) cl)).set j (.raw .dead))
   |false=>none
  |_,_=>none
 |_,_,_=>none
theorem uI{P:Program}{b:TypeId}{K:Ct}{ks:List Kd}(h:fA P b K=true)(key:List G):∀(rows:List (List G)) (i:Nat),du P b (cL K.ks key) (bX (fh K ks rows)) i =
  some ((cA K.ks key rows i).map fun p=>(p.1,AV.undef))
 | [],i=>rfl
 | r::rs,i=>by
  have g:=uI (ks:=ks) h key rs (i+1);have d:∃ a,ix a K.ks=true:=by
   unfold fA at h;split at h
   ·simp only[aq]at h; exact⟨_,h.1⟩
   ·cases h
  obtain⟨a,hs⟩:=d;simp only[fh,bX,iu,dg,du,iy h,uG _ _ hs,cA];cases gS K.ks key (gi r 0).row with
  |true=>rfl
  |false=>exact g
theorem qL{K:Ct}{ks:List Kd}{rows:List (List G)}{i:Nat}{r:List G}(h:rows[i]? = some r):(fh K ks rows)[i]? = some (iu K ks r):=by
 unfold fh;rw[b7,h];rfl
theorem uJ(K:Ct)(ks:List Kd)(rows:List (List G))(i:Nat)(r:List G):fh K ks (rows.set i r)=(fh K ks rows).set i (iu K ks r):=by
 simp[fh,pV]
theorem Ny{P:Program}{t:TypeId}{m k v:AV}{b:Bool}{H H':List af}(h:qH P t m k H=some (b,v,H'))(y:b=true):qo P t m k (ai H)=some (v,ai H')∧eR P t m k false (ai H)=none:=by
 unfold qH at h;unfold qo eR;split at h
 case h_2=>cases h
 rename_i D I id A;rw[A];simp only[];split at h
 case h_2=>cases h
 rename_i l K ks rows cl hid;rw[aU hid];simp only[af.den];split at h
 case h_2=>cases h
 rename_i key w' hk hw B;split at h
 case h_2=>cases h
 rename_i q;simp only[aq]at q;obtain⟨d,g⟩:=q;have e:=aR d;simp only[aK,aN]at h;obtain⟨a,rfl,rfl⟩:=h;rw[y]at a;rw[←Ct.iW hk,iy g,hw,B];simp only[d,uI g,and_true];unfold uH at a;unfold oS Es;cases hf:cA K.ks key rows 0 with
 | none =>
  simp only[tn,fQ,cI,af.den,dA,tv,xk]
 | some p =>
  obtain⟨i,r⟩:=p;rw[hf]at a;simp only[]at a;obtain⟨_,u⟩:=ng hf;rw[fm]at u;have w:lE (fh K ks rows) i=some (K.av (gi r 0).row,(jz r).map (ax ks),(gi r 2).int.toNat):=by
   unfold lE;rw[qL u];simp only[iu,a,cond_true]
  simp only[eZ,w,fQ,cI,af.den,dA,eY,uJ];rfl
theorem Nz{P:Program}{t:TypeId}{m k v:AV}{b:Bool}{H H':List af}(h:qI P t m k v H=some (b,H'))(D:b=true):mR P t m k v (ai H)=some (ai H')∧jX P t m k v (ai H)=none:=by
 unfold qI at h;unfold mR jX;split at h
 case h_2=>cases h
 rename_i W X id w j ad off n I;rw[I];simp only[];split at h
 case h_2=>cases h
 rename_i l K ks rows cl V U rws hid J;rw[aU hid,aU J];simp only[af.den];split at h
 case h_2=>cases h
 rename_i key hk;split at h
 case h_2=>cases h
 rename_i g;simp only[aq]at g;obtain⟨d,u,y,A,B⟩:=g;have M:=Kd.gE u;subst M;have N:=aR y;have O:=aR A;have R:=aR B;subst N O R;simp only[aK,aN]at h;obtain⟨a,rfl⟩:=h;rw[D]at a;have a:=aR a;subst a;rw[←Ct.iW hk,iy d];simp only[Ct.qA,eY,and_self,if_true,uI d,and_true];unfold Et dP gf;cases hf:cA K.ks key rows 0 with
 | none =>
  simp only[tn,cI,af.den,Cu,cond_false];simp[fh,iu,jz,gi,G.row,G.rows,G.int,G.bool]
 | some p =>
  obtain⟨i,r⟩:=p;obtain⟨_,q⟩:=ng hf;rw[fm]at q;simp only[eZ,x9 (qL q),cI,af.den,uJ,CH,cond_true];simp[iu,jz,gi,G.row,G.rows,G.int,G.bool]
theorem NA{P:Program}{t:TypeId}{m k v:AV}{b:Bool}{H H':List af}(h:qJ P t m k H=some (b,v,H'))(y:b=true):f_ P t m k (ai H)=some (v,ai H'):=by
 unfold qJ at h;unfold f_;split at h
 case h_2=>cases h
 rename_i D I id A;rw[A];simp only[];split at h
 case h_2=>cases h
 rename_i l K ks rows cl hid;rw[aU hid];simp only[af.den];split at h
 case h_2=>cases h
 rename_i key w' hk hw B;split at h
 case h_2=>cases h
 rename_i g;simp only[aq]at g;obtain⟨u,d⟩:=g;simp only[aK,aN]at h;obtain⟨a,rfl,rfl⟩:=h;rw[y]at a;rw[←Ct.iW hk,iy d,hw,B];simp only[u,Ct.qA,Bool.and_self,uI d];unfold uH at a;unfold oS Ev Eu dP gf;cases hf:cA K.ks key rows 0 with
 | none =>
  simp only[tn,fQ,cI,af.den,dA,tv,xk,Cu,cond_false,goInt];simp[fh,iu,jz,gi,G.row,G.rows,G.int,G.bool]
 | some p =>
  obtain⟨i,r⟩:=p;rw[hf]at a;simp only[]at a;obtain⟨_,q⟩:=ng hf;rw[fm]at q;have w:lE (fh K ks rows) i=some (K.av (gi r 0).row,(jz r).map (ax ks),(gi r 2).int.toNat):=by
   unfold lE;rw[qL q];simp only[iu,a,cond_true]
  simp only[eZ,w,fQ,cI,af.den,dA,eY,uJ,CH,cond_true,goInt];rfl
theorem yM{st:Int}:∀{rows:List (List G)} {i j:Nat} {r:List G},gT st rows i=some (j,r)→i≤j∧rows[j-i]? = some r
 | [],_,_,_,h=>by simp[gT]at h
 | x::rs,i,j,r,h=>by
  simp only[gT]at h;cases a:((gi x 2).int.toNat:Int)==st with
  | true =>
   rw[a]at h;cases h;simp
  | false =>
   rw[a]at h;obtain⟨h1,b⟩:=yM h;refine⟨by omega,?_⟩;rw[show j-i=(j-(i+1))+1 from by omega];simpa using b
theorem Ey{K:Ct}{ks:List Kd}{st:Int}:∀{rows:List (List G)} {i:Nat},(gT st rows i).map (·.1)=(mS (fh K ks rows) st).map (·+i)
 | [],_=>rfl
 | x::rs,i=>by
  have a:=Ey (K:=K) (ks:=ks) (st:=st) (rows:=rs) (i:=i+1);unfold mS at a⊢;simp only[gT,fh,dg,CA,iu]at a⊢;cases b:((gi x 2).int.toNat:Int)==st with
  |true=>simp
  | false =>
   simp only[cond_false,a,jO,if_false,Ld];congr 1
   funext n
   simp only[Xm];omega
theorem NB{m s v:AV}{b:Bool}{H H':List af}(h:qK m s v H=some (b,H'))(I:b=true):iR m s v (ai H)=some (ai H'):=by
 unfold qK at h;unfold iR;split at h
 case h_2=>cases h
 rename_i id st w j ad off n;split at h
 case h_2=>cases h
 rename_i l K ks rows cl V U rws hid J;simp only[];rw[aU hid,aU J];simp only[af.den];split at h
 case h_2=>cases h
 rename_i k;simp only[aq]at k;obtain⟨u,A,B,D⟩:=k;have M:=Kd.gE u;subst M;have N:=aR A;have O:=aR B;have R:=aR D;subst N O R;simp only[aK,aN]at h;obtain⟨g,rfl⟩:=h;rw[I]at g;simp only[aq]at g;obtain⟨a,d⟩:=g;have d:=aR d;subst d;simp only[eY,and_self,if_true];unfold Ex at a;unfold Ew;cases hf:gT st rows 0 with
 |none=>rw[hf]at a; cases a
 | some p =>
  obtain⟨i,r⟩:=p;obtain⟨_,q⟩:=yM hf;rw[fm]at q;have hi:mS (fh K ks rows) st=some i:=by
   have:=Ey (K:=K) (ks:=ks) (st:=st) (rows:=rows) (i:=0);rw[hf]at this;cases t:mS (fh K ks rows) st with
   |none=>rw[t]at this; cases this
   |some y=>rw[t]at this; simp at this; rw[this]
  rw[hi];simp only[qL q,iu,cI,af.den,uJ];simp[jz,gi,G.row,G.rows,G.bool]
theorem Ez(K V:Ct)(rows:List (List G))(i:Nat)(r:List G):cK K V (rows.set i r)=(cK K V rows).set i (K.av (gi r 0).row,V.av (gi r 1).row,(gi r 2).int.toNat):=by
 simp[cK,pV]
theorem EA{α:Type}{l:List α}{i:Nat}{x:α}(f:α→α)(h:l[i]? = some x):l.modify i f=l.set i (f x):=by
 apply List.ext_getElem?;intro j;rw[List.getElem?_modify,List.getElem?_set];by_cases e:i=j
 ·subst e
  rw[if_pos rfl,if_pos (az h),h];simp
 ·rw [if_neg e]
  simp[e]
theorem EB{P:Program}{t:TypeId}{m k v:AV}{b:Bool}{H H':List af}(h:oR P t m k v H=some (b,H')):jX P t m k v (ai H)=some (ai H'):=by
 unfold oR at h;unfold jX;split at h
 case h_2=>cases h
 rename_i q u id i;rw[i];simp only[];split at h
 case h_2=>cases h
 rename_i K V rows cl hid;rw[aU hid];simp only[af.den];split at h
 case h_2=>cases h
 rename_i key val hk l;split at h
 case h_2=>cases h
 rename_i a;cases h;rw[←Ct.iW hk,←Ct.iW l,iy a];simp only[Ct.qA,and_self,if_true,oQ a,cI,af.den];unfold fB dP gf;cases hf:cA K.ks key rows 0 with
 |none=>simp[cK,gi,G.row,G.rows,G.int]
 | some p =>
  obtain⟨_,d⟩:=ng (r:=p.2) (j:=p.1) hf;rw[fm]at d;have g:(cK K V rows)[p.1]? = some (K.av (gi p.2 0).row,V.av (gi p.2 1).row,(gi p.2 2).int.toNat):=by simp[cK,d]
  simp only[eZ,EA _ g,Ez,CH,cond_true];simp[gi,G.row,G.rows,G.int]
def qM(P:Program)(t:TypeId)(m k:AV)(H:List af):Option (Bool × List af) :=
 match cz P t,m with
 | some (a,_),.map id=>match H[id]? with
  | some (.map K V rows cl)=>match K.read k,fA P a K with
   |some key,true=>some (true,H.set id (.map K V (Ep K.ks rows key) cl))
   |_,_=>none
  |_=>none
 |_,_=>none
theorem EC{α β:Type}(f:α→β):∀(l:List α) (i:Nat),(l.map f).eraseIdx i=(l.eraseIdx i).map f
 | [],_=>by simp
 |_::_,0=>by simp
 |_::l,i+1=>by simp[EC f l i]
theorem NC{P:Program}{t:TypeId}{m k:AV}{b:Bool}{H H':List af}(h:qM P t m k H=some (b,H')):ql P t m k (ai H)=some (ai H'):=by
 unfold qM at h;unfold ql;split at h
 case h_2=>cases h
 rename_i g i id d;rw[d];simp only[];split at h
 case h_2=>cases h
 rename_i K V rows cl hid;rw[aU hid];simp only[af.den];split at h
 case h_2=>cases h
 rename_i key hk a;cases h;rw[←Ct.iW hk,iy a];simp only[oQ a,cI,af.den];unfold Ep;cases hf:cA K.ks key rows 0 with
 |none=>rfl
 |some p=>simp only[eZ,cK,EC]
def qN(P:Program)(t:TypeId)(x:AV)(H:List af):Option (Bool × List af) :=
 match bJ P t,x with
 | .slice e sz _,.vec w id ad off n=>match di P e,H[id]? with
  | some z,some (.vec ks v rows)=>match eU ks (z.map .lit) with
   | some a=>if ks.length=w∧w=sz∧v=ad∧z.length=sz∧0<sz then
     some (eM (off+n) rows.length,H.set id (.vec ks v (rows.take off++cu n a++rows.drop (off+n)))) else none
   |none=>none
  |_,_=>none
 |_,_=>none
theorem ND{P:Program}{t:TypeId}{x:AV}{b:Bool}{H H':List af}(h:qN P t x H=some (b,H'))(g:b=true):qm P t x (ai H)=some (ai H'):=by
 unfold qN at h;unfold qm;split at h
 case h_2=>cases h
 rename_i e sz q w id ad off n hk;rw[hk];simp only[];split at h
 case h_2=>cases h
 rename_i z ks v rows i hid;rw[i,aU hid];simp only[af.den];split at h
 case h_2=>cases h
 rename_i r d;split at h
 case isFalse=>cases h
 rename_i k;obtain⟨rfl,rfl,rfl,h1,l⟩:=k;simp only[aK,aN]at h;obtain⟨a,rfl⟩:=h;subst g;have a:=pX a;simp only[h1,l,eY,a,and_self,if_true,cI,af.den,aK];rw[←iV d];simp[List.map_take,List.map_drop]
def qO(P:Program)(t xt:TypeId)(s x:AV)(H:List af):Option (Bool × AV × List af) :=
 match bJ P t,bJ P xt,s,x with
 | .slice e sz a,.int _,.lit (.slice none 0 0),.lit (.int _ n)=>match di P e with
  | some z=>match nd (z.map .lit) with
   | some ks=>match eU ks (z.map .lit) with
    | some b=>if z.length=sz∧0<sz∧a≤1048576∧ks.length=sz then
      some (au 0 n&&aZ n 1048576,.vec sz H.length 0 0 n.toNat,H++[.vec ks 0 (cu n.toNat b)]) else none
    |none=>none
   |none=>none
  |none=>none
 |_,_,_,_=>none
theorem NF{P:Program}{t xt:TypeId}{s x v:AV}{b:Bool}{H H':List af}(h:qO P t xt s x H=some (b,v,H'))(i:b=true):mQ P t xt s x (ai H)=some (v,ai H'):=by
 unfold qO at h;unfold mQ;split at h
 case h_2=>cases h
 rename_i e sz y k k' n hk d;rw[hk,d];simp only[];split at h
 case h_2=>cases h
 rename_i z l;rw[l];simp only[];split at h
 case h_2=>cases h
 rename_i ks A;split at h
 case h_2=>cases h
 rename_i B g;split at h
 case isFalse=>cases h
 rename_i q;obtain⟨h1,r,u,w⟩:=q;simp only[aK,aN]at h;obtain⟨a,rfl,rfl⟩:=h;subst i;simp only[eu,dp,aq,decide_eq_true_eq]at a;simp only[h1,r,u,a.1,a.2,and_self,if_true,fQ,af.den,dA,w,aK,aN,true_and];rw[←iV g];simp
def ED(ks:List Kd)(rows:List (List G))(key:List G):Option Nat:=match cA ks key rows 0 with
 |some (_,r)=>m_ r
 |none=>none
def uK(mem:List (List G)):Option Nat→Bool
 |some i=>eg i mem.length
 |none=>false
def kS(mem:List (List G)):Option Nat→List G
 |some i=>mem.getD i []
 |none=>[]
def EE(mem:List (List G))(j:Option Nat)(ks:List Kd)(key val:List G):List (List G):=match j with
 |some i=>mem.set i [.l (fB ks (gi (kS mem j) 0).rows key val (gi (kS mem j) 1).int.toNat),.i (dP ks (gi (kS mem j) 0).rows key (gi (kS mem j) 1).int.toNat:Nat)]
 |none=>mem
def EF(rows:List (List G))(st:Int):Bool:=match gT st rows 0 with
 |some (_,r) => !aZ 0 (gi r 1).int
 |none=>false
def EG(rows:List (List G))(st:Int)(n:Nat):List (List G):=match gT st rows 0 with
 |some (i,r)=>rows.set i [gi r 0,.i n,gi r 2]
 |none=>rows
theorem yN{P:Program}{b:TypeId}{K:Ct}(h:fA P b K=true)(key:List G):∀(rows:List (List G)) (i:Nat),du P b (cL K.ks key) (eh (gd K rows)) i =
  some ((cA K.ks key rows i).map fun p=>(p.1,AV.undef))
 | [],i=>rfl
 | r::rs,i=>by
  have g:=yN h key rs (i+1);have d:∃ a,ix a K.ks=true:=by
   unfold fA at h;split at h
   ·simp only[aq]at h; exact⟨_,h.1⟩
   ·cases h
  obtain⟨a,hs⟩:=d;simp only[gd,eh,dg,du,iy h,uG _ _ hs,cA];cases gS K.ks key (gi r 0).row with
  |true=>rfl
  |false=>exact g
theorem EH{K:Ct}{rows:List (List G)}{i:Nat}{r:List G}(h:rows[i]? = some r):(gd K rows)[i]? = some (K.av (gi r 0).row,m_ r,(gi r 2).int.toNat):=by
 unfold gd;rw[b7,h];rfl
theorem EI{KI VI:Ct}{mem:List (List G)}{i:Nat}(h:i<mem.length):(lK KI VI mem)[i]? = some (cK KI VI (gi (mem.getD i []) 0).rows,(gi (mem.getD i []) 1).int.toNat):=by
 unfold lK;rw[b7,cD,bC h];rfl
def yO(P:Program)(t:TypeId)(m k:AV)(ok:Bool)(H:List af):Option (Bool × AV) :=
 match cz P t,m with
 | some (a,b),.sub id l j=>match H[id]? with
  | some (.mm l' _ KI VI _ mem _)=>match KI.read k,lM P b with
   | some key,some (d,z)=>match ah l l'&&(fA P a KI&&VI.same d) with
    | true=>some (uK mem j,match ok with
      |true=>.tuple [VI.av (kR KI.ks (gi (kS mem j) 0).rows key z),.lit (.bool (gf KI.ks (gi (kS mem j) 0).rows key))]
      |false=>VI.av (kR KI.ks (gi (kS mem j) 0).rows key z))
    |false=>none
   |_,_=>none
  |_=>none
 | some (a,b),.map id=>match H[id]?,ok with
  | some (.mm l K _ _ rows _ _),false=>match K.read k,fN P b with
   | some key,some (.lit (.map none))=>match fA P a K with
    |true=>some (true,.sub id l (ED K.ks rows key))
    |false=>none
   |_,_=>none
  |_,_=>none
 |_,_=>none
theorem NG{P:Program}{t:TypeId}{m k v:AV}{ok b:Bool}{H:List af}(h:yO P t m k ok H=some (b,v))(w:b=true):eR P t m k ok (ai H)=none∧ir P t m k ok (ai H)=some v:=by
 unfold yO at h;unfold ir eR;split at h
 ·rename_i y A id l j d
  rw[d];refine⟨rfl,?_⟩;split at h
  case h_2=>cases h
  rename_i l' K KI VI rows mem cl hid;split at h
  case h_2=>cases h
  rename_i key D z hk g;split at h
  case h_2=>cases h
  rename_i a;simp only[aq]at a;obtain⟨B,a,hs⟩:=a;have e:=Ct.iw hs;subst e;simp only[aK,aN]at h;obtain⟨hi,rfl⟩:=h;rw[w]at hi;cases j with
  |none=>cases hi
  | some i =>
   have u:i<mem.length:=by simpa[uK]using hi
   simp only[oH,d];rw[aU hid];simp only[af.den,B,EI u,kS];rw[←Ct.iW hk,iy a,En g];simp only[oQ a];unfold kR gf;cases cA KI.ks key (gi (mem.getD i []) 0).rows 0 with
   |none=>cases ok<;>rfl
   |some p=>cases ok<;>rfl
 ·rename_i y A id d
  rw[d];split at h
  case h_2=>cases h
  rename_i l K KI VI rows mem cl hid;split at h
  case h_2=>cases h
  rename_i key hk g;split at h
  case h_2=>cases h
  rename_i a;simp only[mT,d];rw[aU hid];simp only[af.den];refine⟨trivial,?_⟩;rw[←Ct.iW hk,iy a,g];simp only[yN a];cases h;unfold ED;cases hf:cA K.ks key rows 0 with
  |none=>rfl
  | some p =>
   obtain⟨i,r⟩:=p;obtain⟨_,q⟩:=ng hf;rw[fm]at q;simp only[eZ,EH q]
 ·cases h
def qP(P:Program)(t:TypeId)(m k v:AV)(H:List af):Option (Bool × List af) :=
 match cz P t,m with
 | some (a,_),.sub id l j=>match H[id]? with
  | some (.mm l' K KI VI rows mem cl)=>match KI.read k,VI.read v with
   | some key,some val=>match ah l l'&&fA P a KI with
    |true=>some (uK mem j,H.set id (.mm l' K KI VI rows (EE mem j KI.ks key val) cl))
    |false=>none
   |_,_=>none
  |_=>none
 |_,_=>none
theorem NH(KI VI:Ct)(mem:List (List G))(i:Nat)(r:List G):lK KI VI (mem.set i r)=(lK KI VI mem).set i (cK KI VI (gi r 0).rows,(gi r 1).int.toNat):=by
 simp[lK,pV]
theorem NI(K:Ct)(rows:List (List G))(i:Nat)(r:List G):gd K (rows.set i r)=(gd K rows).set i (K.av (gi r 0).row,m_ r,(gi r 2).int.toNat):=by
 simp[gd,pV]
theorem NJ{P:Program}{t:TypeId}{m k v:AV}{b:Bool}{H H':List af}(h:qP P t m k v H=some (b,H'))(A:b=true) :
  qs P t m k v (ai H)=some (ai H')∧jX P t m k v (ai H)=none∧mR P t m k v (ai H)=none:=by
 unfold qP at h;unfold qs jX mR;split at h
 case h_2=>cases h
 rename_i I J id l j B;rw[B];refine⟨?_,rfl,rfl⟩;split at h
 case h_2=>cases h
 rename_i l' K KI VI rows mem cl hid;split at h
 case h_2=>cases h
 rename_i key val hk D;split at h
 case h_2=>cases h
 rename_i a;simp only[aq]at a;obtain⟨d,a⟩:=a;have e:=aR d;subst e;simp only[aK,aN]at h;obtain⟨hi,rfl⟩:=h;rw[A]at hi;cases j with
 |none=>cases hi
 | some i =>
  have w:i<mem.length:=by simpa[uK]using hi
  simp only[];rw[aU hid];simp only[af.den,EI w,d];rw[←Ct.iW hk,←Ct.iW D,iy a];simp only[Ct.qA,and_self,if_true,oQ a,cI,af.den,EE,kS,NH];generalize mem.getD i []=m0;have g:∀(X:List (List G)) (n:Nat),(gi [G.l X,G.i n] 0).rows=X:=fun _ _=>rfl;have q:∀(X:List (List G)) (n:Nat),(gi [G.l X,G.i n] 1).int.toNat=n:=fun _ _=>rfl;unfold fB dP gf;cases hf:cA KI.ks key (gi m0 0).rows 0 with
  | none =>
   simp only[tn,Cu,cond_false,g,q];rw[show cK KI VI ((gi m0 0).rows++[[.l [key],.l [val],.i (gi m0 1).int.toNat]])=cK KI VI (gi m0 0).rows++[(KI.av key,VI.av val,(gi m0 1).int.toNat)] from by
    simp only[cK,nY,dg,xk];rfl]
  | some p =>
   obtain⟨_,u⟩:=ng (r:=p.2) (j:=p.1) hf;rw[fm]at u;have y:(cK KI VI (gi m0 0).rows)[p.1]? = some (KI.av (gi p.2 0).row,VI.av (gi p.2 1).row,(gi p.2 2).int.toNat):=by simp[cK,u]
   simp only[eZ,EA _ y,CH,cond_true,g,q,Ez];rfl
def qQ(P:Program)(t:TypeId)(m k:AV)(H:List af):Option (Bool × AV × List af) :=
 match cz P t,m with
 | some (a,b),.map id=>match H[id]? with
  | some (.mm l K KI VI rows mem cl)=>match K.read k,fN P b with
   | some key,some (.lit (.map none))=>match fA P a K with
    |true=>some (!gf K.ks rows key,.tuple [.sub id l none,.lit (.int .i64 (cl:Nat))],H.set id (.mm l K KI VI (rows++[[.l [key],.i (-1),.i cl]]) mem (cl+1)))
    |false=>none
   |_,_=>none
  |_=>none
 |_,_=>none
theorem NK{P:Program}{t:TypeId}{m k v:AV}{b:Bool}{H H':List af}(h:qQ P t m k H=some (b,v,H'))(g:b=true) :
  gO P t m k (ai H)=some (v,ai H')∧f_ P t m k (ai H)=none:=by
 unfold qQ at h;unfold gO f_;split at h
 case h_2=>cases h
 rename_i u w id q;rw[q];split at h
 case h_2=>cases h
 rename_i l K KI VI rows mem cl hid;simp only[];rw[aU hid];simp only[af.den];split at h
 case h_2=>cases h
 rename_i key hk r;split at h
 case h_2=>cases h
 rename_i d;simp only[aK,aN]at h;obtain⟨a,rfl,rfl⟩:=h;rw[g]at a;rw[←Ct.iW hk,iy d,r];simp only[Ct.qA,yN d,and_true];unfold gf at a;cases hf:cA K.ks key rows 0 with
 |some p=>rw[hf]at a; cases a
 | none =>
  simp only[tn,cI,af.den];rw[show gd K (rows++[[.l [key],.i (-1),.i cl]])=gd K rows++[(K.av key,none,cl)] from by
   simp only[gd,nY,dg,xk];rfl]
  rfl
theorem EJ{K:Ct}{st:Int}:∀{rows:List (List G)} {i:Nat},(gT st rows i).map (·.1)=(mU (gd K rows) st).map (·+i)
 | [],_=>rfl
 | x::rs,i=>by
  have a:=EJ (K:=K) (st:=st) (rows:=rs) (i:=i+1);unfold mU at a⊢;simp only[gT,gd,dg,CA]at a⊢;cases b:((gi x 2).int.toNat:Int)==st with
  |true=>simp
  | false =>
   simp only[cond_false,a,jO,if_false,Ld];congr 1
   funext n
   simp only[Xm];omega
def qR(m s v:AV)(H:List af):Option (Bool × List af) :=
 match m,s,v with
 | .map id,.lit (.int .i64 st),.map j=>match H[id]?,H[j]? with
  | some (.mm l K KI VI rows mem cl),some (.map d g a b)=>match KI.same d&&VI.same g with
   |true=>some (EF rows st,(H.set id (.mm l K KI VI (EG rows st mem.length) (mem++[[.l a,.i b]]) cl)).set j (.raw .dead))
   |false=>none
  |_,_=>none
 |_,_,_=>none
theorem NL{m s v:AV}{b:Bool}{H H':List af}(h:qR m s v H=some (b,H'))(q:b=true) :
  jt m s v (ai H)=some (ai H')∧iR m s v (ai H)=none:=by
 unfold qR at h;unfold jt iR;split at h
 case h_2=>cases h
 rename_i id st j;split at h
 case h_2=>cases h
 rename_i l K KI VI rows mem cl I J B D hid t;refine⟨?_,rfl⟩;simp only[];rw[aU hid,aU t];simp only[af.den];split at h
 case h_2=>cases h
 rename_i d;simp only[aq]at d;have u:=Ct.iw d.1;have w:=Ct.iw d.2;subst u w;simp only[aK,aN]at h;obtain⟨a,rfl⟩:=h;rw[q]at a;unfold EF at a;unfold EG;cases hf:gT st rows 0 with
 |none=>rw[hf]at a; cases a
 | some p =>
  obtain⟨i,r⟩:=p;rw[hf]at a;obtain⟨_,g⟩:=yM hf;rw[fm]at g;have hi:mU (gd K rows) st=some i:=by
   have:=EJ (K:=K) (st:=st) (rows:=rows) (i:=0);rw[hf]at this;cases k:mU (gd K rows) st with
   |none=>rw[k]at this; cases this
   |some y=>rw[k]at this; simp at this; rw[this]
  have hm:m_ r=none:=by
   unfold m_;cases A:aZ 0 (gi r 1).int with
   |true=>simp[A]at a
   |false=>rfl
  rw[hi];simp only[EH g,hm,cI,af.den,NI];simp[m_,lK,gi,G.row,G.rows,G.int,aZ,show ∀ n,eM 0 n=true from fun n=>Nat.ble_eq_true_of_le (fI n)]
def oT(P:Program)(r:Operand→AV)(H:List af):Op→Option (Bool × AV × List af)
 | .alloc t=>match tX P t with
  |some e=>if kI (ai H) 0=true then some (true,.ptr H.length 0 0 0 0,H++[.raw (.dC 0 t e sX)]) else none
  | none=>match di P t with
   |some z=>some (true,.ptr H.length 0 0 0 0,H++[.raw (.box (z.map .lit))])
   |none=>none
 | .box _ x=>match mL (r x) with
  |some cs=>some (true,.ptr H.length 0 0 0 0,H++[.raw (.box cs)])
  |none=>none
 | .store t a x=>match oO P t (r a) (r x) H with
  |some (b,H')=>some (b,.undef,H')
  |none=>none
 |.makeSlice t l c=>qF P t (r l) (r c) H
 |.buildSlice t n parts=>qG P t n (parts.toList.map fun p=>(p.1,r p.2)) H
 | .range t x=>match bJ P t,r x with
  |.str,.lit (.string s)=>some (true,.ptr H.length 0 0 0 0,H++[.raw (.iter s 0)])
  |_,_=>none
 | .next it true=>match r it with
  | .ptr id 0 _ 0 0=>match H[id]? with
   | some (.raw (.iter s pos))=>if pos<s.size then some (true,.tuple [.lit (.bool true),.lit (goInt pos),.lit (.int .i32 (lr s pos).1)],H.set id (.raw (.iter s (pos+(lr s pos).2))))
     else some (true,.tuple [.lit (.bool false)],H)
   |_=>none
  |_=>none
 | .makeMap t none=>match cz P t with
  | some (g,d)=>match lM P g,lM P d with
   |some (K,_),some (V,_)=>some (true,.map H.length,H++[.map K V [] 0])
   | some (K,_),none=>match cz P d with
    |some _=>some (true,.map H.length,H++[.map K K [] 0])
    |none=>none
   |_,_=>none
  |none=>none
 | .mapUpdate t m k v=>match oR P t (r m) (r k) (r v) H with
  |some (b,H')=>some (b,.undef,H')
  | none=>match qI P t (r m) (r k) (r v) H with
   |some (b,H')=>some (b,.undef,H')
   | none=>match qP P t (r m) (r k) (r v) H with
    |some (b,H')=>some (b,.undef,H')
    |none=>none
 |.lookup t m k false=>qH P t (r m) (r k) H
 | .mapEntry t m k=>match qJ P t (r m) (r k) H with
  |some y=>some y
  |none=>qQ P t (r m) (r k) H
 | .entryStore _ m s x=>match qK (r m) (r s) (r x) H with
  |some (b,H')=>some (b,.undef,H')
  | none=>match qR (r m) (r s) (r x) H with
   |some (b,H')=>some (b,.undef,H')
   |none=>none
 | .insert t m k v=>match oR P t (r m) (r k) (r v) H with
  |some (b,H')=>some (b,.undef,H')
  |none=>none
 | .call c=>match c.callee with
  | .builtin .append=>match c.args.toList,c.argTypes.toList with
   | [s,x],[t,xt]=>match bJ P xt with
    |.int _=>qO P t xt (r s) (r x) H
    |_=>qE P t xt (r s) (r x) H
   |_,_=>none
  | .builtin .clear=>match c.args.toList,c.argTypes.toList with
   | [x],[t]=>match qN P t (r x) H with
    |some (b,H')=>some (b,.tuple [],H')
    |none=>none
   |_,_=>none
  | .builtin .delete=>match c.args.toList,c.argTypes.toList with
   | [x,k],t::_=>match qM P t (r x) (r k) H with
    |some (b,H')=>some (b,.tuple [],H')
    |none=>none
   |_,_=>none
  |_=>none
 |_=>none
theorem NM{P:Program}{t xt:TypeId}{s x:AV}{H:List ab}(h:∀ k,bJ P xt≠.int k):mQ P t xt s x H=none:=by
 unfold mQ;split
 ·rename_i hk
  exact(h _ hk).elim
 ·rfl
theorem EK{P:Program}{r:Operand→AV}{H H':List af}{o:Op}{v:AV}{b:Bool}(h:oT P r H o=some (b,v,H'))(d:b=true):cw P r (ai H) o=some (v,ai H'):=by
 cases o<;>simp only[oT]at h<;>try cases h
 case alloc t =>
  split at h
  ·rename_i e he
   split at h
   ·rename_i D
    cases h;simp only[cw,mN,he,D,if_true,dA,fQ,af.den]
   ·cases h
  ·rename_i he
   split at h
   ·rename_i z w; cases h; simp only[cw,mN,he,w,dA,fQ,af.den]
   ·cases h
 case box t x =>
  split at h
  ·rename_i z w; cases h; simp only[cw,tZ,w,dA,fQ,af.den]
  ·cases h
 case store t a x =>
  split at h
  ·rename_i g H1 hs; cases h; simp only[cw,Ek hs d]
  ·cases h
 case makeSlice t l c=>simp only[cw]; exact Nv h d
 case buildSlice t n ps=>simp only[cw]; exact Nw h
 case range t x =>
  split at h
  ·rename_i s hk A
   cases h;simp only[cw,ua,hk,A,dA,fQ,af.den]
  ·cases h
 case next it isString =>
  cases isString with
  |false=>cases h
  | true =>
   simp only[]at h;split at h
   ·rename_i id k A
    split at h
    ·rename_i s pos hid
     simp only[cw,ub,A,aU hid,af.den];split at h
     ·rename_i u
      cases h;rw[if_pos u,cI];rfl
     ·rename_i u
      cases h;rw[if_neg u]
    ·cases h
   ·cases h
 case makeMap t res =>
  cases res with
  |some _=>cases h
  | none =>
   simp only[]at h;split at h
   ·split at h
    ·cases h
     simp only[cw,dA,fQ,af.den];rfl
    ·split at h
     ·cases h
      simp only[cw,dA,fQ,af.den];rfl
     ·cases h
    ·cases h
   ·cases h
 case mapUpdate t m k x =>
  split at h
  ·rename_i g H1 hs
   cases h;simp only[cw,EB hs]
  ·split at h
   ·rename_i g H1 hs
    cases h;obtain⟨g1,g2⟩:=Nz hs d;simp only[cw,g1,g2]
   ·split at h
    ·rename_i g H1 hs
     cases h;obtain⟨g1,g2,g3⟩:=NJ hs d;simp only[cw,g1,g2,g3]
    ·cases h
 case lookup t m k ok =>
  cases ok with
  |true=>cases h
  | false =>
   obtain⟨g1,g2⟩:=Ny h d;simp only[cw,g1,g2]
 case mapEntry t m k =>
  split at h
  ·rename_i y I
   cases h;simp only[cw,NA I d]
  ·obtain ⟨g1, g2⟩ := NK h d
   simp only[cw,g1,g2]
 case entryStore t m s x =>
  split at h
  ·rename_i g H1 hs
   cases h;simp only[cw,NB hs d]
  ·split at h
   ·rename_i g H1 hs
    cases h;obtain⟨g1,g2⟩:=NL hs d;simp only[cw,g1,g2]
   ·cases h
 case insert t m k x =>
  split at h
  ·rename_i g H1 hs
   cases h;simp only[cw,EB hs]
  ·cases h
 case call c =>
  simp only[cw,ui];split at h
  ·rename_i i
   rw[i];split at h
   ·rename_i h1 q
    simp only[h1,q];split at h
    ·rw[NF h d]
    ·rename_i B
     rw[NM B];exact Nt h d
   ·cases h
  ·rename_i i
   rw[i];split at h
   ·rename_i h1 q
    simp only[h1,q];split at h
    ·rename_i hs
     cases h;rw[ND hs d]
    ·cases h
   ·cases h
  ·rename_i i
   rw[i];split at h
   ·rename_i h1 q
    simp only[h1,q];split at h
    ·rename_i hs
     cases h;rw[NC hs]
    ·cases h
   ·cases h
  ·cases h
end Go.AL

namespace Go.AL
open Go
variable [Dr]
def oU(n:Int):Option (Bool × AV):=some (ar n,.lit (.int .i64 n))
def yP(P:Program)(op:BinOp)(t:TypeId)(d:Bool)(x y:AV):Option (Bool × AV) :=
 match op,x,y with
 |.add,.lit (.int .i64 a),.lit (.int .i64 b)=>oU (a+b)
 |.sub,.lit (.int .i64 a),.lit (.int .i64 b)=>oU (a-b)
 |.mul,.lit (.int .i64 a),.lit (.int .i64 b)=>oU (a*b)
 |.quo,.lit (.int .i64 a),.lit (.int .i64 b)=>some (!(b==0)&&ar (a.tdiv b),.lit (.int .i64 (a.tdiv b)))
 |.rem,.lit (.int .i64 a),.lit (.int .i64 b)=>some (!(b==0),.lit (.int .i64 (a.tmod b)))
 |.add,.lit (.string a),.lit (.string b)=>some (eM (a.size+b.size) 9223372036854775807,.lit (.string (a++b)))
 |.lss,.lit (.int k a),.lit (.int k' b)=>if k=k' then some (true,.lit (.bool (au a b))) else none
 |.leq,.lit (.int k a),.lit (.int k' b)=>if k=k' then some (true,.lit (.bool (aZ a b))) else none
 |.gtr,.lit (.int k a),.lit (.int k' b)=>if k=k' then some (true,.lit (.bool (au b a))) else none
 |.geq,.lit (.int k a),.lit (.int k' b)=>if k=k' then some (true,.lit (.bool (aZ b a))) else none
 |.and,.lit (.int k a),.lit (.int k' b)=>if k=k' then some (true,.lit (.int k (CT k a b))) else none
 |.or,.lit (.int k a),.lit (.int k' b)=>if k=k' then some (true,.lit (.int k (CU k a b))) else none
 |.xor,.lit (.int k a),.lit (.int k' b)=>if k=k' then some (true,.lit (.int k (CV k a b))) else none
 |.shl,.lit (.int k a),.lit (.int _ b)=>some (aO b,.lit (.int k (xB k a b)))
 |.shr,.lit (.int k a),.lit (.int _ b)=>some (aO b,.lit (.int k (eQ k a b)))
 | op,.listF ks rows,.lit (.slice none 0 0)=>match P.underlying t,iq op false with
  |some (.slice _),some v=>some (eg 0 rows.length,v)
  |_,_=>none
 | op,.vec w id ad off m,.lit (.slice none 0 0)=>match P.underlying t,iq op false with
  |some (.slice _),some v=>some (eg 0 m,v)
  |_,_=>none
 | _,_,_=>match fu P op t d x y with
  |some v=>some (true,v)
  |none=>none
def yQ(m sz:Nat)(cells:List AV):Option (Kd × List (List G)) :=
 match qC (cells.headD .undef)with
 | some k=>match j5 [k] (cells.map fun c=>[c]) with
  |some rows=>if sz=1∧m=cells.length then some (k,rows) else none
  |none=>none
 |none=>none
theorem NN{m sz:Nat}{cells:List AV}{k:Kd}{rows:List (List G)}(h:yQ m sz cells=some (k,rows)){j:Nat}(b:j<m) :
  ax [k] (rows.getD j [])=(cells.drop (j*sz)).take sz:=by
 unfold yQ at h;split at h
 ·split at h
  ·rename_i rows' d
   split at h
   ·rename_i g
    obtain⟨rfl,rfl⟩:=g;cases h;have e:=nc d;have i:rows.length=cells.length:=by have:=congrArg Le e; simpa using this
    have a:(rows.map (ax [k]))[j]? = (cells.map fun c=>[c])[j]? := by rw[e]
    rw[yG (by omega),b7,bC b]at a;simp only[eZ,aK]at a;rw[a,Xn,List.drop_eq_getElem_cons b,List.take_succ_cons,List.take_zero]
   ·cases h
  ·cases h
 ·cases h
def yR(k:SK)(x i:AV):Option (Bool × AV) :=
 match k,x,i with
 |.slice _ sz _,.listF ks rows,.lit (.int _ j)=>if ks.length=sz then some (aO j&&au j (rows.length:Int),.cptr (ax ks (rows.getD j.toNat []))) else none
 |.slice _ sz _,.vec w id ad off m,.lit (.int _ j)=>if w=sz then some (aO j&&au j (m:Int),.ptr id ad w (off+j.toNat) 0) else none
 | .array m _ sz _,.cptr cells,.lit (.int a j)=>match yQ m sz cells with
  |some (b,rows)=>some (aO j&&au j (m:Int),.cptr (ax [b] (rows.getD j.toNat [])))
  | none=>match jn k (.cptr cells) (.lit (.int a j)) with
   |some v=>some (true,v)
   |none=>none
 | _,_,_=>match jn k x i with
  |some v=>some (true,v)
  |none=>none
def qS:List AV→Option (List Int)
 | []=>some []
 | .lit (.int .i64 n)::l=>match qS l with
  |some q=>some (n::q)
  |none=>none
 |_=>none
theorem EL:∀{cells:List AV} {l:List Int},qS cells=some l→∀ i,i<l.length→cells[i]? = some (.lit (.int .i64 (l.getD i 0)))
 | [],l,h,i,hi=>by
  simp only[qS,aK]at h;subst h;simp at hi
 | c::cells,l,h,i,hi=>by
  unfold qS at h;split at h
  ·rename_i he
   cases he
  ·rename_i n l' he
   cases he;split at h
   ·rename_i q a
    cases h;cases i with
    |zero=>rfl
    | succ i =>
     simp only[List.length_cons]at hi;have:=EL a i (by omega);simpa using this
   ·cases h
  ·cases h
def yS(k:SK)(x i:AV):Option (Bool × AV) :=
 match k,x,i with
 |.str,.lit (.string s),.lit (.int _ j)=>some (aO j&&au j (s.size:Int),.lit (.int .u8 ((s.data.toList.getD j.toNat 0).toNat)))
 | .array m _ 1 false,.agg cells,.lit (.int _ j)=>match qS cells with
  |some l=>bif eM m l.length then some (aO j&&au j (m:Int),.lit (.int .i64 (l.getD j.toNat 0))) else none
  | none=>match lC k x i with
   |some v=>some (true,v)
   |none=>none
 | _,_,_=>match lC k x i with
  |some v=>some (true,v)
  |none=>none
def yT(op:UnOp)(x:AV):Option (Bool × AV) :=
 match op,x with
 |.neg,.lit (.int .i64 n)=>some (ar (0-n),.lit (.int .i64 (0-n)))
 | _,_=>match oA op x with
  |some v=>some (true,v)
  |none=>none
def yU(P:Program)(s d:TypeId)(x:AV):Option (Bool × AV) :=
 match P.underlying s,bJ P d,x with
 |some _,.int .i64,.lit (.int _ n)=>some (ar n,.lit (.int .i64 n))
 | _,_,_=>match oB P s d x with
  |some v=>some (true,v)
  |none=>none
def yV(P:Program)(r:Operand→AV)(o:Op):Option (Bool × AV) :=
 match o with
 |.indexAddr t x i=>yR (bJ P t) (r x) (r i)
 |.index t x i=>yS (bJ P t) (r x) (r i)
 |.binOp op t x y _=>yP P op t (jY x||jY y) (r x) (r y)
 |.slice t x lo hi mx=>yK P t (r x) (lo.map r) (hi.map r) (mx.map r)
 |.unOp op _ x=>yT op (r x)
 |.convert s d x=>yU P s d (r x)
 | o=>match fO P r o with
  |some v=>some (true,v)
  |none=>none
theorem lO{x:Option AV}{b:Bool}{v:AV} (h:(match x with|some v=>some (true,v)|none=>none)=some (b,v)):x=some v:=by
 split at h
 ·cases h; rfl
 ·cases h
theorem nh{n:Int}(h:ar n=true):IntKind.i64.wrap n=n:=by
 rw[Eg]at h;simp[IntKind.wrap,IntKind.bits,IntKind.signed];omega
theorem NO{P:Program}{op:BinOp}{t:TypeId}{i:Bool}{x y v:AV}{b:Bool}(h:yP P op t i x y=some (b,v))(a:b=true):fu P op t i x y=some v:=by
  unfold yP at h;split at h
  · simp only [oU, aK, aN] at h
    obtain⟨h1,rfl⟩:=h;subst a;simp[fu,fV,jR,nh h1]
  · simp only [oU, aK, aN] at h
    obtain⟨h1,rfl⟩:=h;subst a;simp[fu,fV,jR,nh h1]
  · simp only [oU, aK, aN] at h
    obtain⟨h1,rfl⟩:=h;subst a;simp[fu,fV,jR,nh h1]
  · simp only [aK, aN] at h
    obtain⟨h1,rfl⟩:=h;subst a;simp only[aq,nZ,beq_eq_false_iff_ne]at h1;simp[fu,fV,jR,h1.1,nh h1.2]
  · simp only [aK, aN] at h
    obtain⟨h1,rfl⟩:=h;subst a;simp only[nZ,beq_eq_false_iff_ne]at h1;simp[fu,fV,jR,h1]
  · simp only [aK, aN] at h
    obtain⟨h1,rfl⟩:=h;subst a;have g:=pX h1;have d:∀ k:Nat,k≤9223372036854775807→¬ ((k:Int)>IntKind.i64.max):=fun k hk=>by
      show ¬ ((k:Int)>(9223372036854775807:Int))
      omega
    simp only[fu,fV,xC,if_neg (d _ g)]
  all_goals first
    |exact lO h
    | (split at h
       case isFalse=>cases h
       rename_i hk;subst hk;cases h;simp[fu,fV,jR,eu,dp])
    | (simp only [aK, aN] at h
       obtain⟨h1,rfl⟩:=h;subst a;simp only[jy,decide_eq_true_eq]at h1;simp only[fu,fV,if_neg (Int.not_lt.2 h1)])
    | (split at h
       · rename_i h1 g
         simp only[aK,aN]at h;obtain⟨d,rfl⟩:=h;subst a;simp only[fJ]at d;simp only[fu,h1,if_pos d,g]
       · cases h)
theorem NP{k:SK}{x i v:AV}{b:Bool}(h:yR k x i=some (b,v))(a:b=true):jn k x i=some v:=by
 unfold yR at h;split at h
 ·split at h
  ·rename_i hw
   simp only[aK,aN]at h;obtain⟨h1,rfl⟩:=h;subst a;simp only[jy,eu,aq,decide_eq_true_eq]at h1;simp[jn,hw,h1.1,h1.2]
  ·cases h
 ·split at h
  ·rename_i hw
   simp only[aK,aN]at h;obtain⟨h1,rfl⟩:=h;subst a;simp only[jy,eu,aq,decide_eq_true_eq]at h1;simp[jn,hw,h1.1,h1.2]
  ·cases h
 ·split at h
  ·rename_i g rows d
   simp only[aK,aN]at h;obtain⟨h1,rfl⟩:=h;subst a;simp only[jy,eu,aq,decide_eq_true_eq]at h1;rw[NN d (by omega)];simp[jn,h1.1,h1.2]
  ·exact lO h
 ·exact lO h
theorem NQ{k:SK}{x i v:AV}{b:Bool}(h:yS k x i=some (b,v))(d:b=true):lC k x i=some v:=by
 unfold yS at h;split at h
 ·rename_i s g j
  simp only[aK,aN]at h;obtain⟨h1,rfl⟩:=h;subst d;simp only[jy,eu,aq,decide_eq_true_eq]at h1;have a:j.toNat<s.size:=by omega
  have e:s[j.toNat]? = some (s.data.toList.getD j.toNat 0):=by
   have q:j.toNat<s.data.toList.length:=by simpa using a
   rw[cD,bC q];simp only[getElem?,decidableGetElem?,a,dite_true,Option.getD_some];rfl
  simp only[lC,h1.1,h1.2,and_self,if_true,e]
 ·rename_i m e cells g j
  split at h
  ·rename_i l r
   cases hm:eM m l.length with
   |false=>rw[hm]at h; cases h
   | true =>
    rw[hm]at h;simp only[cond_true,aK,aN]at h;obtain⟨h1,rfl⟩:=h;subst d;rw[CG]at hm;simp only[jy,eu,aq,decide_eq_true_eq]at h1;have t:=EL r j.toNat (by omega);simp only[lC,h1.1,h1.2,and_self,if_true,fL,jO,if_false,Xn,nP,Nat.add_zero,t]
  ·exact lO h
 ·exact lO h
theorem NR{op:UnOp}{x v:AV}{b:Bool}(h:yT op x=some (b,v))(a:b=true):oA op x=some v:=by
 unfold yT at h;split at h
 ·simp only [aK, aN] at h
  obtain⟨h1,rfl⟩:=h;subst a;simp only[oA,nh h1]
 ·exact lO h
theorem NS{P:Program}{s d:TypeId}{x v:AV}{b:Bool}(h:yU P s d x=some (b,v))(a:b=true):oB P s d x=some v:=by
 unfold yU at h;split at h
 ·rename_i g i
  simp only[aK,aN]at h;obtain⟨h1,rfl⟩:=h;subst a;simp only[oB,g,i,nh h1]
 ·exact lO h
theorem NT{P:Program}{r:Operand→AV}{o:Op}{b:Bool}{v:AV}(h:yV P r o=some (b,v))(a:b=true):fO P r o=some v:=by
 cases o<;>simp only[yV]at h<;>try exact lO h
 case binOp=>simp only[fO]; exact NO h a
 case indexAddr=>simp only[fO]; exact NP h a
 case index=>simp only[fO]; exact NQ h a
 case slice=>simp only[fO]; exact Nu h a
 case unOp=>simp only[fO]; exact NR h a
 case convert=>simp only[fO]; exact NS h a
inductive Tree where
 |fail
 |done (x:bt) (s:aj)
 |ask (b:Bool) (t e:Tree)
 |side (b:Bool) (t:Tree)
def Tree.holds(Q:bt→aj→Prop):Tree→Prop
 |.fail=>False
 |.done x s=>Q x s
 |.ask b t e=>(b=true→t.holds Q)∧(b=false→e.holds Q)
 |.side b t=>b=true∧t.holds Q
structure al where
 pf:FuncId→Bool
 T:FuncId→List AV→Option (Bool × AV)
 W:FuncId→List AV→List af→Option (Bool × AV × List af)
 C:FuncId→List AV→List af→List Nat
 I:FuncId→List AV→List af→Option Tree:=fun _ _ _=>none
 N:FuncId→Bool:=fun _=>false
 U:FuncId→Bool:=fun _=>true
structure ao (P:Program) (τ:al):Prop where
 T:∀ f args b v,τ.T f args=some (b,v)→b=true→dY P f=true∧dE P f args v
 W:∀ f args H b v H',τ.W f args H=some (b,v,H')→b=true→dY P f=true∧c9 P f args (ai H) v (ai H')
 C:∀ f args H b v H',τ.W f args H=some (b,v,H')→∀ A,A∉τ.C f args H→A<H.length→H'[A]? = H[A]?
 I:∀ f args H t,τ.I f args H=some t→∀ Q:bt→aj→Prop,t.holds Q→dY P f=true∧∃ v H',c9 P f args (ai H) v (ai H')∧(∀ A,A∉τ.C f args H→A<H.length→H'[A]? = H[A]?)∧Q .normal ⟨[v],H'⟩
 F:(∀ f,τ.U f=false→∀ args H,τ.W f args H=none∧τ.C f args H=[])∧∀ f,τ.N f=true→∀ args H b v H',τ.W f args H=some (b,v,H')→∀ id o,id<H.length→id∉τ.C f args H →
  τ.W f args (H.set id o)=some (b,v,H'.set id o)∧τ.C f args (H.set id o)=τ.C f args H
def Tree.qT(k:AV→List af→Tree):Tree→Tree
 |.fail=>.fail
 |.done _ s=>k (s.fr.headD .undef) s.H
 |.ask b t e=>.ask b (t.qT k) (e.qT k)
 |.side b t=>.side b (t.qT k)
theorem Tree.uL{k:AV→List af→Tree}{Q:bt→aj→Prop}:∀{t:Tree},(t.qT k).holds Q→t.holds fun _ s=>(k (s.fr.headD .undef) s.H).holds Q
 |.fail,h=>h
 |.done _ _,h=>h
 |.ask _ t e,h=>⟨fun a=>uL (t:=t) (h.1 a),fun a=>uL (t:=e) (h.2 a)⟩
 |.side _ t,h=>⟨h.1,uL (t:=t) h.2⟩
inductive Want where
 |bad|yes|no
 |test (t:Tmp) (b:Bool) (want:Bool)
def lP(ops:Array Oper)(fr:List AV)(o:Oper):Want :=
 match o.guard with
 |none=>.yes
 | some (j,want)=>match (ops[j]?).bind (·.dst) with
  | some t=>match fr[t]? with
   |some (.lit (.bool b))=>.test t b want
   |some (.tuple [])=>.no
   |_=>.bad
  |none=>.bad
def uM:AV→Option Bool
 |.lit (.bool b)=>some b
 |_=>none
def qU(H:List af):AV→Bool × AV
 | .vec w id ad off n=>match H[id]? with
  |some (.vec ks v rows)=>if ad=v∧ks.length=w∧off=0 then (ah n rows.length,.listF ks rows) else (true,.vec w id ad off n)
  |_=>(true,.vec w id ad off n)
 | .ptr id ad k row col=>match H[id]? with
  |some (.raw (.box cells))=>if ad=0∧row=0∧col=0∧AV.aV cells=true then (true,.cptr cells) else (true,.ptr id ad k row col)
  |_=>(true,.ptr id ad k row col)
 |a=>(true,a)
def nk(H:List af):List AV→Bool × List AV
 | []=>(true,[])
 | a::as=>match qU H a,nk H as with
  |(b,g),(h,d)=>(b&&h,g::d)
def uN(H:List af):AV→Bool × AV
 | .clo f caps=>match nk H caps with
  |(b,d)=>(b,.clo f d)
 |a=>qU H a
def lQ(H:List af):List AV→Bool × List AV
 | []=>(true,[])
 | a::as=>match uN H a,lQ H as with
  |(b,g),(h,d)=>(b&&h,g::d)
def uO:List AV→Bool
 | []=>true
 |.lit _::as=>uO as
 |_::_=>false
def uP:AV→Bool
 |.lit _=>true
 |.tuple vs=>uO vs
 |_=>false
def yW(P:Program)(r:Operand→AV)(H:List af)(o:Op):Option AV :=
 match o with
 | .call c=>match c.callee,c.args.toList,c.argTypes.toList with
  | .builtin .len,[a],[t]=>match cz P t,r a with
   | some _,.map id=>match H[id]? with
    |some (.map _ _ rows _)=>some (.lit (.int .i64 rows.length))
    |_=>none
   |_,_=>none
  |_,_,_=>none
 |_=>none
theorem NU{P:Program}{r:Operand→AV}{H:List af}{o:Op}{v:AV}(h:yW P r H o=some v):dF P r (ai H) o=some v:=by
 unfold yW at h;split at h
 ·rename_i c
  simp only[dF];split at h
  ·rename_i a t b d g
   unfold lF;rw[b,d,g];simp only[];split at h
   ·rename_i p id i hm
    rw[i,hm];simp only[];split at h
    ·rename_i K V rows cl hid
     cases h;rw[aU hid];simp[af.den,cK]
    ·cases h
   ·cases h
  ·cases h
 ·cases h
def yX(v:AV)(H:List af):Option (Bool × AV × List af) :=
 match v with
 | .vec w id ad off n=>match H[id]? with
  |some (.vec ks u rows)=>if ad=u∧off=0∧w=ks.length then some (ah n rows.length,.listF ks rows,H.set id (.raw .dead)) else none
  |_=>none
 |_=>none
def qV(P:Program)(r:Operand→AV)(H:List af):Op→Option (Bool × List af)
 | .store t a x=>match yX (r x) H with
  | some (b0,v1,H1)=>match oO P t (r a) v1 H1 with
   |some (b1,H')=>some (b0&&b1,H')
   |none=>none
  |none=>none
 |_=>none
theorem NV{P:Program}{r:Operand→AV}{H H':List af}{o:Op}{b:Bool}(h:qV P r H o=some (b,H'))(g:b=true):oJ P r (ai H) .undef (ai H') o:=by
 unfold qV at h;split at h
 case h_2=>cases h
 rename_i t a x;split at h
 case h_2=>cases h
 rename_i b0 v1 H1 hf;split at h
 case h_2=>cases h
 rename_i b1 H2 hs;simp only[aK,aN]at h;obtain⟨h1,rfl⟩:=h;subst g;simp only[aq]at h1;unfold yX at hf;split at hf
 case h_2=>cases hf
 rename_i w id ad off n i;split at hf
 case h_2=>cases hf
 rename_i ks u rows hid;split at hf
 case isFalse=>cases hf
 rename_i k;obtain⟨rfl,rfl,rfl⟩:=k;simp only[aK,aN]at hf;obtain⟨d,rfl,rfl⟩:=hf;rw[h1.1]at d;have d:=aR d;subst d;refine⟨.listF ks rows,(ai H).set id .dead,⟨id,ad,ks,rows,i,?_,rfl,rfl⟩,?_,rfl⟩
 ·rw [aU hid]
  rfl
 ·have := Ek hs h1.2
  rw[cI]at this;exact this
def lR(P:Program)(τ:al)(o:Oper)(s:aj)(k:AV→List af→Tree):Tree :=
 match o.op with
 | .pick c a b=>match uM (s.eval c) with
  |some t=>.ask t (k (s.eval a) s.H) (k (s.eval b) s.H)
  |none=>.fail
 | .load t a=>match yH P t (s.eval a) s.H with
  |some (b,v)=>.side b (k v s.H)
  |none=>.fail
 | .lookup t m x ok=>match yL P t (s.eval m) (s.eval x) ok s.H with
  | some (b,v)=>match b8 τ.pf o.op,ok with
   |.read,_=>.side b (k v s.H)
   |.write,false=>.side b (k v s.H)
   |_,_=>.fail
  | none=>match b8 τ.pf o.op with
   | .write=>match oT P s.eval s.H o.op with
    |some (b,v,H')=>.side b (k v H')
    |none=>.fail
   | .read=>match yO P t (s.eval m) (s.eval x) ok s.H with
    |some (b,v)=>.side b (k v s.H)
    |none=>.fail
   |.pure=>.fail
 | _=>match b8 τ.pf o.op with
  | .read=>match yW P s.eval s.H o.op with
   |some v=>k v s.H
   |none=>.fail
  | .pure=>match ga s.eval o.op with
   | some (f,args)=>match τ.T f args with
    |some (b,v)=>.side b (k v s.H)
    |none=>.fail
   | none=>match yV P s.eval o.op with
    |some (b,v)=>.side b (k v s.H)
    |none=>.fail
  | .write=>match ga s.eval o.op with
   | some (f,args)=>match τ.W f args s.H with
    |some (b,v,H')=>.side b (k v H')
    | none=>match τ.I f args s.H with
     |some t=>t.qT k
     | none=>match τ.T f args with
      |some (b,v)=>.side b (k v s.H)
      | none=>match lQ s.H args with
       | (g,d)=>match τ.T f d with
        | some (b,v)=>match uP v&&AV.aV d with
         |true=>.side (g&&b) (k v s.H)
         |false=>.fail
        |none=>.fail
   | none=>match oT P s.eval s.H o.op with
    |some (b,v,H')=>.side b (k v H')
    | none=>match qV P s.eval s.H o.op with
     |some (b,H')=>.side b (k .undef H')
     |none=>.fail
def aj.slot(s:aj)(t:Tmp)(b:Bool):aj:=⟨s.fr.set t (.lit (.bool b)),s.H⟩
def yY(P:Program)(τ:al)(ops:Array Oper)(o:Oper)(s:aj)(k:aj→Tree):Tree :=
 match lP ops s.fr o with
 |.bad=>.fail
 |.no=>k (s.put o.dst (.tuple []) s.H)
 |.yes=>lR P τ o s fun v H'=>k (s.put o.dst v H')
 | .test t b want=>.ask b
   (match want with
    |true=>lR P τ o (s.slot t true) fun v H'=>k ((s.slot t true).put o.dst v H')
    |false=>k ((s.slot t true).put o.dst (.tuple []) s.H))
   (match want with
    |true=>k ((s.slot t false).put o.dst (.tuple []) s.H)
    |false=>lR P τ o (s.slot t false) fun v H'=>k ((s.slot t false).put o.dst v H'))
def kT(P:Program)(τ:al)(ops:Array Oper):List Oper→aj→(aj→Tree)→Tree
 | [],s,k=>k s
 |o::rest,s,k=>yY P τ ops o s fun s1=>kT P τ ops rest s1 k
def ev:AV→Option Nat
 |.ptr id _ _ _ _=>some id
 |.vec _ id _ _ _=>some id
 |.map id=>some id
 |.sub id _ _=>some id
 |_=>none
def iz(τ:al)(r:Operand→AV)(H:List af)(op:Op):List Nat :=
 match ga r op with
 |some (f,args)=>τ.C f args H
 |none=>op.operands.toList.filterMap fun x=>ev (r x)
structure Acc where
 R:gC
 W:fP
def qW(ids:List Nat)(i:Nat):Bool := !ids.any (ah i)
def yZ(ops:Array Oper)(j id:Nat)(acc:Acc):Option Acc :=
 match acc.W.all fun e=>waits ops ops.size j e.1||(qW e.2.1 id&&eg id e.2.2)with
 |true=>some ⟨(j,id)::acc.R,acc.W⟩
 |false=>none
def uQ(ops:Array Oper)(j:Nat)(T:List Nat)(n:Nat)(acc:Acc):Option Acc :=
 match acc.R.all fun e=>waits ops ops.size j e.1||(qW T e.2&&eg e.2 n)with
 | true=>match acc.W.all fun e=>waits ops ops.size j e.1||((T.all fun id=>qW e.2.1 id&&eg id e.2.2)&&e.2.1.all fun id=>eg id n) with
  |true=>some ⟨acc.R,(j,T,n)::acc.W⟩
  |false=>none
 |false=>none
def y4(τ:al)(ops:Array Oper)(j:Nat)(o:Oper)(s:aj)(acc:Acc):Option Acc :=
 match b8 τ.pf o.op with
 |.pure=>some acc
 | .read=>match ju s.eval o.op with
  |some id=>yZ ops j id acc
  |none=>some acc
 |.write=>uQ ops j (iz τ s.eval s.H o.op) s.H.length acc
def gZ:Kd→Value→Option G
 |.int k,.int k' n=>if k=k' then some (.i n) else none
 |.str,.string s=>some (.s s)
 |.bool,.bool b=>some (.t b)
 |.list _,.slice none 0 0=>some (.l [])
 |_,_=>none
def oV:List Kd→List Value→Option (List G)
 | [],[]=>some []
 | k::ks,v::z=>match gZ k v,oV ks z with
  |some g,some gs=>some (g::gs)
  |_,_=>none
 |_,_=>none
def mK:Kd→Option (List Kd)
 |.list ks=>some ks
 |_=>none
def mZ:List Kd→List (Option (List Kd)):=List.map mK
theorem NW{k:Kd}{v:Value}{g:G}(h:gZ k v=some g):gx k g=zc (mK k) v:=by
 cases k with
 | int k =>
  cases v with
  | int k' n =>
   simp only[gZ]at h;by_cases e:k=k'
   ·rw [if_pos e] at h
    cases h;subst e;rfl
   ·rw [if_neg e] at h
    cases h
  |_=>cases h
 |str=>cases v<;>first|(cases h; rfl)|cases h
 |bool=>cases v<;>first|(cases h; rfl)|cases h
 | list ks =>
  cases v with
  |slice b n c=>cases b<;>cases n<;>cases c<;>first|(cases h; rfl)|cases h
  |_=>cases h
theorem EM:∀{ks:List Kd} {z:List Value} {g:List G},oV ks z=some g→ax ks g=c8 (mZ ks) z
 | [],[],g,h=>by cases h; rfl
 | [],_::_,g,h=>by cases h
 |_::_,[],g,h=>by cases h
 | k::ks,v::z,g,h=>by
  simp only[oV]at h;split at h
  ·rename_i g0 gs h1 a
   cases h;have b:=EM a;simp only[ax,tu,List.tail_cons,b,NW h1];rfl
  ·cases h
def nl(z:List Value):List af→Nat→Option (Nat × List Kd × List G)
 | [],_=>none
 | .vec ks 0 rows::H,i=>match oV ks z with
  | some g=>match rows with
   | []=>some (i,ks,g)
   |_::_=>nl z H (i+1)
  |none=>nl z H (i+1)
 |_::H,i=>nl z H (i+1)
def qX:List af→Nat→Option Nat
 | [],_=>none
 |.raw .c6::_,i=>some i
 |_::H,i=>qX H (i+1)
def NX(P:Program)(t:TypeId):Option (Ct × Ct) :=
 match cz P t with
 | some (b,a)=>match lM P b,lM P a with
  |some (K,_),some (V,_)=>some (K,V)
  | some (K,_),none=>match cz P a with
   |some _=>some (K,K)
   |none=>none
  |_,_=>none
 |none=>none
def y5(P:Program)(op:Op)(H:List af):Option (Nat × AV × List af) :=
 match op with
 | .alloc t=>match di P t with
  | some z=>match nl z H 0 with
   |some (id,ks,g)=>some (id,.ptr id 1 ks.length 0 0,H.set id (.vec ks 1 [g]))
   |none=>none
  |none=>none
 | .makeMap t none=>match NX P t with
  | some (K,V)=>match qX H 0 with
   |some id=>some (id,.map id,H.set id (.map K V [] 0))
   |none=>none
  |none=>none
 |_=>none
def y6(τ:al)(o:Oper)(s:aj):Bool:=match b8 τ.pf o.op with
 | .write=>match ga s.eval o.op with
  | some (f,args)=>match τ.N f with
   |true=>(τ.W f args s.H).isSome
   |false=>false
  |none=>false
 |_=>true
def qY(P:Program)(τ:al)(ops:Array Oper)(j:Nat)(o:Oper)(s:aj)(acc:Acc)(k:aj→Acc→Tree):Tree :=
 match kO ops&&dn o.op with
 | true=>match y5 P o.op s.H with
  | some (id,v,H')=>match uQ ops j [id] s.H.length acc with
   |some a=>k (s.put o.dst v H') a
   |none=>.fail
  |none=>.fail
 | false=>match lI ops&&iU o.op && !y6 τ o s with
  |true=>.fail
  | false=>match y4 τ ops j o s acc with
   |some a=>lR P τ o s fun v H'=>k (s.put o.dst v H') a
   |none=>.fail
def y7(P:Program)(τ:al)(ops:Array Oper)(j:Nat)(o:Oper)(s:aj)(acc:Acc)(k:aj→Acc→Tree):Tree :=
 match lP ops s.fr o with
 |.bad=>.fail
 |.no=>k (s.put o.dst (.tuple []) s.H) acc
 |.yes=>qY P τ ops j o s acc k
 | .test t b want=>.ask b
   (match want with
    |true=>qY P τ ops j o (s.slot t true) acc k
    |false=>k ((s.slot t true).put o.dst (.tuple []) s.H) acc)
   (match want with
    |true=>k ((s.slot t false).put o.dst (.tuple []) s.H) acc
    |false=>qY P τ ops j o (s.slot t false) acc k)
def lS(P:Program)(τ:al)(ops:Array Oper):List Oper→Nat→aj→Acc→(aj→Tree)→Tree
 | [],_,s,_,k=>k s
 |o::rest,j,s,acc,k=>y7 P τ ops j o s acc fun s1 a=>lS P τ ops rest (j+1) s1 a k
def EN(k:aj→Tree)(K:bt→aj→Tree):bt→aj→Tree
 |.normal,s=>k s
 |x,s=>K x s
def EO(id:Nat)(K:bt→aj→Tree):bt→aj→Tree
 |.exit i,s=>if i=id then K .normal s else K (.exit i) s
 |x,s=>K x s
def Tree.bind(K:bt→aj→Tree):Tree→Tree
 |.fail=>.fail
 |.done x s=>K x s
 |.ask b t e=>.ask b (t.bind K) (e.bind K)
 |.side b t=>.side b (t.bind K)
def jB:Code→Option Nat
 |.region id _ _=>some id
 | .seq a b=>match jB a with
  |some i=>some i
  |none=>jB b
 |.block _ c=>jB c
 | .cond _ a b=>match jB a with
  |some i=>some i
  |none=>jB b
 |.loop c=>jB c
 |_=>none
def nm:Code→Nat
 | .seq a b=>match jB a with
  |some _=>nm a
  |none=>nm b
 |.block _ c=>nm c
 | .cond _ a b=>match jB a with
  |some _=>nm a
  |none=>nm b
 |.loop c=>nm c+1
 |_=>0
def EP(c:Code):Option Nat:=match jB c with
 |some i=>some (i+1000*nm c)
 |none=>none
def bk:Code→List (Nat × Code)
 |.seq a b=>bk a++bk b
 |.cond _ a b=>bk a++bk b
 |.block _ c=>bk c
 | .loop c=>match EP c with
  |some k=>(k,c)::bk c
  |none=>bk c
 |_=>[]
def NY(k:aj→Tree)(K:bt→aj→Tree):bt→aj→Tree
 |.normal,s=>k s
 |.exit i,s=>K (.exit i) s
 |.ret,s=>K .ret s
def uR(body:aj→(bt→aj→Tree)→Tree):Nat→aj→(bt→aj→Tree)→Tree
 |0,_,_=>.fail
 |n+1,s,K=>body s (NY (fun s'=>uR body n s' K) K)
def bl:Code→List (Nat × Code)
 | .seq a b=>bl a++((match jB b with
  |some k=>[(k,b)]
  |none=>[])++bl b)
 |.cond _ a b=>bl a++bl b
 |.block _ c=>bl c
 |.loop c=>bl c
 |_=>[]
structure LT where
 loops:Nat→aj→Option Tree
 pre:Nat→aj→Bool × aj
 qZ:Nat→aj→Option Tree
def ER(L:LT)(k:Option Nat)(s:aj):Option Tree :=
 match k with
 |some i=>L.qZ i s
 |none=>none
def dc(P:Program)(τ:al)(L:LT):Code→aj→(bt→aj→Tree)→Tree
 |.skip,s,K=>K .normal s
 | .region id ops draw,s,K=>match draw && !oK τ.pf ops with
  | true=>match jx τ.pf ops with
   |true=>.side (L.pre id s).1 (lS P τ ops ops.toList 0 (L.pre id s).2 ⟨[],[]⟩ (K .normal))
   |false=>.fail
  |false=>.side (L.pre id s).1 (kT P τ ops ops.toList (L.pre id s).2 (K .normal))
 | .seq a b,s,K=>dc P τ L a s (EN (fun s1=>match ER L (jB b) s1 with
  |some t=>t.bind K
  |none=>dc P τ L b s1 K) K)
 | .cond c a b,s,K=>match uM (s.eval c) with
  |some t=>.ask t (dc P τ L a s K) (dc P τ L b s K)
  |none=>.fail
 |.block id c,s,K=>dc P τ L c s (EO id K)
 | .loop c,s,K=>match EP c with
  | some i=>match L.loops i s with
   |some t=>t.bind K
   |none=>uR (fun s1 d=>dc P τ L c s1 d) 400 s K
  |none=>.fail
 |.exit id,s,K=>K (.exit id) s
 |.ret,s,K=>K .ret s
 |_,_,_=>.fail
def ES(P:Program)(m:Nat)(c:Code)(s:aj)(t:Tree):Prop:=∀ Q:bt→aj→Prop,t.holds Q→∃ x s',iT P m c s.den x s'.den∧Q x s'
def uS(P:Program)(m:Nat)(c:Code)(s:aj)(t:Tree):Prop:=∀ Q:bt→aj→Prop,t.holds Q→∃ x s',cq P m c s.den x s'.den∧Q x s'
def ay(P:Program)(m:Nat)(L:LT)(c:Code):Prop:=(∀ k a,(k,a)∈bk c→∀ s t,L.loops k s=some t→ES P m a s t)∧(∀ id s,(L.pre id s).1=true→a7 m s.den (L.pre id s).2.den) ∧
 ∀ k a,(k,a)∈bl c→∀ s t,L.qZ k s=some t→uS P m a s t
theorem ay.sub{P:Program}{m:Nat}{L:LT}{c a:Code}(h:ay P m L c)(h1:∀ p,p∈bk a→p∈bk c)(b:∀ p,p∈bl a→p∈bl c):ay P m L a :=
 ⟨fun k d hk=>h.1 k d (h1 _ hk),h.2.1,fun k d hk=>h.2.2 k d (b _ hk)⟩
theorem ET{a:AV}{b:Bool}(h:uM a=some b):a=.lit (.bool b):=by
 unfold uM at h;split at h
 ·cases h; rfl
 ·cases h
theorem EU{E E':Env}:∀{vs:List AV} {us:List Value},uO vs=true→ae E vs us→ae E' vs us
 | [],[],_,_=>by simp[ae]
 | [],_::_,_,h=>by simp[ae]at h
 | a::vs,us,hf,h=>by
  unfold uO at hf;split at hf
  ·rename_i heq; cases heq
  ·rename_i heq
   cases heq;cases us with
   |nil=>simp[ae]at h
   | cons u us =>
    simp only[ae,rel]at h⊢;exact⟨h.1,EU hf h.2⟩
  ·cases hf
theorem NZ{E E':Env}{v:AV}{u:Value}(hf:uP v=true)(h:rel E v u):rel E' v u:=by
 unfold uP at hf;split at hf
 ·simpa only[rel]using h
 ·simp only [rel] at h ⊢
  obtain⟨cs,e,a⟩:=h;exact⟨cs,e,EU hf a⟩
 ·cases hf
def Env.bare(E:Env)(w:World):Env:={ w:=w,H:=[],loc:=[],X:=E.X.re cY }
theorem uT{E:Env}{w:World}(b:Nat):¬ (E.bare w).own b:=by rintro(⟨id,c,h⟩|⟨l,k,c,h⟩); simp[Env.bare]at h; simp[Env.bare,cY]at h
theorem lT(E:Env):E.bh (E.bare E.w):=⟨fun b a=>⟨⟨a.1,uT b,a.2.2⟩,rfl⟩⟩
theorem N0{E:Env}(HE:ak E):ak (E.bare E.w):=by
 refine⟨rfl,?_,?_,HE.X,?_,HE.dX.bh (lT E),fun l k l' k' b m n hk=>by simp[Env.bare,cY]at hk,fun i b m l k n hi=>by simp[Env.bare]at hi,fun l k b m hk=>by simp[Env.bare,cY]at hk,fun i j o o' l hi=>by simp[Env.bare]at hi,fun l _ k q hk=>by simp[Env.bare,cY]at hk⟩
 ·intro i j b m n hi; simp[Env.bare]at hi
 ·intro i b m hi; simp[Env.bare]at hi
 ·intro i o hi; simp[Env.bare]at hi
theorem EV{E:Env}(HE:ak E){H:List af}(hH:E.H=ai H){id ad n w:Nat}{ks:List Kd}{rows:List (List G)}{c:Value}
  (hid:H[id]? = some (.vec ks ad rows)) (hw:ks.length=w) (l:n=rows.length) (hr:rel E (.vec w id ad 0 n) c):rel (E.bare E.w) (.listF ks rows) c:=by
 subst hw l;have d:E.H[id]? = some (.vec ks.length ad (rows.map (ax ks))):=by rw[hH]; exact aU hid
 have a:=HE.obj id _ d;rw[gM];simp only[rel]at hr⊢;obtain⟨⟨base,cap,rfl,k,_⟩,_,q⟩:=hr;obtain⟨y,t⟩:=q ⟨_,d,rfl⟩;have h:dW (rows.map (ax ks)):=by
  intro r hr;obtain⟨g,_,rfl⟩:=dJ.1 hr;exact eO ks g
 refine⟨h,base,cap,by simp,by simpa using k,?_⟩;simp only[aD]at a;rcases a with⟨h1,i⟩|⟨b,m,h1,i,u,_,v⟩
 ·exact .inl i
 ·obtain ⟨g1, o, g2, g3⟩ := t b m h1
  by_cases hm:rows=[]
  ·subst hm; exact .inl rfl
  ·right
   have:0<rows.length:=by cases rows with|nil=>exact(hm rfl).elim|cons _ _=>simp
   simp at u;have a:=g2 (by omega);simp at a;subst a;simp only[iM]at g3;refine⟨b,0,g3.1,⟨(HE.lt id b m h1).1,uT b,(HE.lt id b m h1).2⟩,?_⟩;exact jk (lT E) _ h rfl v
theorem N1{E:Env}(HE:ak E){H:List af}(hH:E.H=ai H){id k:Nat}{cells:List AV}{c:Value} (hid:H[id]? = some (.raw (.box cells))) (d:AV.aV cells=true)
  (hr:rel E (.ptr id 0 k 0 0) c):rel (E.bare E.w) (.cptr cells) c:=by
 have a:E.H[id]? = some (.box cells):=by rw[hH]; exact aU hid
 have g:=HE.obj id _ a;simp only[aD]at g;obtain⟨b,n,h1,l,h⟩:=g;simp only[rel]at hr⊢;obtain⟨_,_,i⟩:=hr;obtain⟨q,r,g1,g2⟩:=i ⟨_,a,rfl⟩;rw[h1]at g1;simp only[aK,aN]at g1;obtain⟨rfl,rfl⟩:=g1;refine⟨d,b,0,by rw[g2]; simp,⟨(HE.lt id b n h1).1,uT b,(HE.lt id b n h1).2⟩,?_⟩;exact od (lT E) cells d rfl h
theorem EW{E:Env}(HE:ak E){H:List af}(hH:E.H=ai H){a g:AV}{b:Bool}{c:Value}(h:qU H a=(b,g))(l:b=true)(d:g.closed=true)(hr:rel E a c):rel (E.bare E.w) g c:=by
 unfold qU at h;split at h
 ·split at h
  ·rename_i w id ad off n ks v rows hid
   split at h
   ·rename_i i
    obtain⟨rfl,q,rfl⟩:=i;simp only[aN]at h;obtain⟨h1,rfl⟩:=h;subst l;exact EV HE hH hid q (aR h1) hr
   ·cases h; simp[AV.closed]at d
  ·cases h; simp[AV.closed]at d
 ·split at h
  ·rename_i id ad k row col _ cells hid
   split at h
   ·rename_i i
    obtain⟨rfl,rfl,rfl,r⟩:=i;cases h;exact N1 HE hH hid r hr
   ·cases h; simp[AV.closed]at d
  ·cases h; simp[AV.closed]at d
 ·cases h
  exact cZ (lT E) _ d hr
theorem EX{E:Env}(HE:ak E){H:List af}(hH:E.H=ai H):∀{as d:List AV} {b:Bool} {cs:List Value},nk H as=(b,d)→b=true→AV.aV d=true→ae E as cs →
  ae (E.bare E.w) d cs
 | [],d,b,cs,h,_,_,hr=>by
  simp only[nk]at h;cases h;cases cs with
  |nil=>simp[ae]
  |cons _ _=>simp[ae]at hr
 | a::as,d,b,cs,h,i,g,hr=>by
  cases cs with
  |nil=>simp[ae]at hr
  | cons c cs =>
   simp only[ae]at hr;cases k:qU H a with
   |mk b1 r =>
   cases l:nk H as with
   |mk t q =>
   simp only[nk,k,l,aN]at h;obtain⟨h1,rfl⟩:=h;subst h1;simp only[aq]at i;simp only[AV.aV,aq]at g;simp only[ae];exact⟨EW HE hH k i.1 g.1 hr.1,EX HE hH l i.2 g.2 hr.2⟩
theorem N2{E:Env}(HE:ak E){H:List af}(hH:E.H=ai H){a d:AV}{b:Bool}{c:Value}(h:uN H a=(b,d))(i:b=true)(g:d.closed=true)(hr:rel E a c):rel (E.bare E.w) d c:=by
 unfold uN at h;split at h
 ·rename_i f caps
  cases k:nk H caps with
  |mk b1 q =>
  rw[k]at h;cases h;simp only[rel]at hr⊢;obtain⟨cs,e,l⟩:=hr;exact⟨cs,e,EX HE hH k i (by simpa only[AV.closed]using g) l⟩
 ·exact EW HE hH h i g hr
theorem EY{E:Env}(HE:ak E){H:List af}(hH:E.H=ai H):∀{as d:List AV} {b:Bool} {cs:List Value},lQ H as=(b,d)→b=true→AV.aV d=true→ae E as cs →
  ae (E.bare E.w) d cs
 | [],d,b,cs,h,_,_,hr=>by
  simp only[lQ]at h;cases h;cases cs with
  |nil=>simp[ae]
  |cons _ _=>simp[ae]at hr
 | a::as,d,b,cs,h,i,g,hr=>by
  cases cs with
  |nil=>simp[ae]at hr
  | cons c cs =>
   simp only[ae]at hr;cases k:uN H a with
   |mk b1 r =>
   cases l:lQ H as with
   |mk t q =>
   simp only[lQ,k,l,aN]at h;obtain⟨h1,rfl⟩:=h;subst h1;simp only[aq]at i;simp only[AV.aV,aq]at g;simp only[ae];exact⟨N2 HE hH k i.1 g.1 hr.1,EY HE hH l i.2 g.2 hr.2⟩
theorem N3{P:Program}{f:FuncId}{args a:List AV}{H:List af}{b:Bool}{v:AV}(i:dE P f a v)(k:lQ H args=(b,a))(l:b=true)(h:AV.aV a=true)
  (hf:uP v=true):c9 P f args (ai H) v (ai H):=by
 intro E cargs hH HE g;refine(i [] (E.bare E.w) cargs rfl (N0 HE) (EY HE hH k l h g)).mono ?_;rintro _ w' ⟨c,q,H',rfl,⟨rfl,rfl⟩,u,r',g1,g2,g3⟩;have d:Ext E.w w':=⟨g3.size,fun x t=>g3.same x t (uT x),g3.env⟩
 refine⟨c,q,ai H,rfl,⟨rfl,rfl⟩,E.loc,E.X.r,NZ hf g1,?_,?_⟩
 ·rw[←hH]; exact HE.ext d
 ·rw[←hH]; exact Env.fK d
section sound
variable {P:Program} {τ:al}
theorem y8{ops:Array Oper}{o:Oper}{s:aj}{v:AV}(hw:bz ops s.fr o=some true)(a:b8 τ.pf o.op=.pure)
  (h:fO P s.eval o.op=some v∨∃ f args,ga s.eval o.op=some (f,args)∧dY P f=true∧dE P f args v):Yields P τ.pf ops o s.den v (ai s.H):=by
 unfold Yields;rw[show s.den.fr=s.fr from rfl,hw];simp only[a,aj.jA];exact⟨rfl,h⟩
theorem np{ops:Array Oper}{o:Oper}{s:aj}{v:AV}{H':List ab}(hw:bz ops s.fr o=some true)(a:b8 τ.pf o.op=.write)
  (h:cw P s.eval (ai s.H) o.op=some (v,H')∨∃ f args,ga s.eval o.op=some (f,args)∧dY P f=true∧c9 P f args (ai s.H) v H'):Yields P τ.pf ops o s.den v H':=by
 unfold Yields;rw[show s.den.fr=s.fr from rfl,hw];simp only[a,aj.jA];exact .inl h
/-! ### a b operation leaves alone -/
theorem fC{H:List af}{id A:Nat}{o:af}(h:A≠id):(H.set id o)[A]? = H[A]? := aJ (Ne.symm h)
theorem iA{H:List af}{A:Nat}{o:af}(h:A<H.length):(H++[o])[A]? = H[A]? := cn h
theorem EZ{P:Program}{t:TypeId}{x v:AV}{H H':List af}{b:Bool}{A:Nat}(h:oO P t x v H=some (b,H'))(d:ev x≠some A):H'[A]? = H[A]? := by
 unfold oO at h;split at h
 case h_2=>cases h
 rename_i n i cs id ad w row col k g;have a:A≠id:=fun e=>d (by rw[e]; rfl);split at h
 case isFalse=>cases h
 split at h
 ·split at h
  ·cases h; exact fC a
  ·cases h
 ·split at h
  ·split at h
   ·cases h; exact fC a
   ·cases h
  ·cases h
 ·cases h
theorem N4{P:Program}{t xt:TypeId}{s x v:AV}{H H':List af}{b:Bool}{A:Nat}(h:qE P t xt s x H=some (b,v,H'))(a:A<H.length)(d:ev s≠some A):H'[A]? = H[A]? := by
 unfold qE at h;split at h
 case h_2=>cases h
 split at h
 case h_2=>cases h
 split at h
 case isFalse=>cases h
 split at h
 ·split at h
  ·split at h
   ·cases h; exact iA a
   ·cases h
  ·cases h
 ·split at h
  ·split at h
   ·cases h; exact iA a
   ·cases h
  ·cases h
 ·split at h
  ·split at h
   ·split at h
    ·cases h; exact fC fun e=>d (by rw[e]; rfl)
    ·cases h
   ·cases h
  ·cases h
 ·cases h
theorem N5{P:Program}{t xt:TypeId}{s x v:AV}{H H':List af}{b:Bool}{A:Nat}(h:qO P t xt s x H=some (b,v,H'))(a:A<H.length):H'[A]? = H[A]? := by
 unfold qO at h;split at h
 case h_2=>cases h
 split at h
 case h_2=>cases h
 split at h
 case h_2=>cases h
 split at h
 case h_2=>cases h
 split at h
 ·cases h; exact iA a
 ·cases h
theorem N6{P:Program}{t:TypeId}{x:AV}{H H':List af}{b:Bool}{A:Nat}(h:qN P t x H=some (b,H'))(a:ev x≠some A):H'[A]? = H[A]? := by
 unfold qN at h;split at h
 case h_2=>cases h
 split at h
 case h_2=>cases h
 split at h
 case h_2=>cases h
 split at h
 ·cases h; exact fC fun e=>a (by rw[e]; rfl)
 ·cases h
theorem E7{P:Program}{t:TypeId}{m k v:AV}{H H':List af}{b:Bool}{A:Nat}(h:oR P t m k v H=some (b,H'))(a:ev m≠some A):H'[A]? = H[A]? := by
 unfold oR at h;split at h
 case h_2=>cases h
 split at h
 case h_2=>cases h
 split at h
 case h_2=>cases h
 split at h
 ·cases h; exact fC fun e=>a (by rw[e]; rfl)
 ·cases h
theorem N7{P:Program}{t:TypeId}{m k v:AV}{H H':List af}{b:Bool}{A:Nat}(h:qI P t m k v H=some (b,H'))(a:ev m≠some A)(d:ev v≠some A):H'[A]? = H[A]? := by
 unfold qI at h;split at h
 case h_2=>cases h
 split at h
 case h_2=>cases h
 split at h
 case h_2=>cases h
 split at h
 ·cases h
  rw[fC fun e=>d (by rw[e]; rfl)];exact fC fun e=>a (by rw[e]; rfl)
 ·cases h
theorem N8{P:Program}{t:TypeId}{m k v:AV}{H H':List af}{b:Bool}{A:Nat}(h:qP P t m k v H=some (b,H'))(a:ev m≠some A):H'[A]? = H[A]? := by
 unfold qP at h;split at h
 case h_2=>cases h
 split at h
 case h_2=>cases h
 split at h
 case h_2=>cases h
 split at h
 ·cases h
  exact fC fun e=>a (by rw[e]; rfl)
 ·cases h
theorem N9{P:Program}{t:TypeId}{m k v:AV}{H H':List af}{b:Bool}{A:Nat}(h:qQ P t m k H=some (b,v,H'))(a:ev m≠some A):H'[A]? = H[A]? := by
 unfold qQ at h;split at h
 case h_2=>cases h
 split at h
 case h_2=>cases h
 split at h
 case h_2=>cases h
 split at h
 ·cases h
  exact fC fun e=>a (by rw[e]; rfl)
 ·cases h
theorem N_{m s v:AV}{H H':List af}{b:Bool}{A:Nat}(h:qR m s v H=some (b,H'))(a:ev m≠some A)(d:ev v≠some A):H'[A]? = H[A]? := by
 unfold qR at h;split at h
 case h_2=>cases h
 split at h
 case h_2=>cases h
 split at h
 ·cases h
  rw[fC fun e=>d (by rw[e]; rfl)];exact fC fun e=>a (by rw[e]; rfl)
 ·cases h
theorem N'{P:Program}{t:TypeId}{m k v:AV}{H H':List af}{b:Bool}{A:Nat}(h:qH P t m k H=some (b,v,H'))(a:A<H.length)(d:ev m≠some A):H'[A]? = H[A]? := by
 unfold qH at h;split at h
 case h_2=>cases h
 split at h
 case h_2=>cases h
 split at h
 case h_2=>cases h
 split at h
 ·cases h
  rw[iA (by simpa using a)];exact fC fun e=>d (by rw[e]; rfl)
 ·cases h
theorem Oa{m s v:AV}{H H':List af}{b:Bool}{A:Nat}(h:qK m s v H=some (b,H'))(a:ev m≠some A)(d:ev v≠some A):H'[A]? = H[A]? := by
 unfold qK at h;split at h
 case h_2=>cases h
 split at h
 case h_2=>cases h
 split at h
 ·cases h
  rw[fC fun e=>d (by rw[e]; rfl)];exact fC fun e=>a (by rw[e]; rfl)
 ·cases h
theorem Ob{P:Program}{t:TypeId}{m k v:AV}{H H':List af}{b:Bool}{A:Nat}(h:qJ P t m k H=some (b,v,H'))(a:A<H.length)(d:ev m≠some A):H'[A]? = H[A]? := by
 unfold qJ at h;split at h
 case h_2=>cases h
 split at h
 case h_2=>cases h
 split at h
 case h_2=>cases h
 split at h
 ·cases h
  rw[iA (by simpa using a)];exact fC fun e=>d (by rw[e]; rfl)
 ·cases h
theorem Oc{P:Program}{t:TypeId}{m k:AV}{H H':List af}{b:Bool}{A:Nat}(h:qM P t m k H=some (b,H'))(a:ev m≠some A):H'[A]? = H[A]? := by
 unfold qM at h;split at h
 case h_2=>cases h
 split at h
 case h_2=>cases h
 split at h
 ·cases h; exact fC fun e=>a (by rw[e]; rfl)
 ·cases h
theorem Od{P:Program}{t:TypeId}{l c v:AV}{H H':List af}{b:Bool}{A:Nat}(h:qF P t l c H=some (b,v,H'))(a:A<H.length):H'[A]? = H[A]? := by
 unfold qF at h;split at h
 case h_2=>cases h
 split at h
 case h_2=>cases h
 split at h
 case h_2=>cases h
 split at h
 case h_2=>cases h
 split at h
 ·cases h; exact iA a
 ·cases h
theorem Oe{P:Program}{t:TypeId}{n:Nat}{parts:List (Nat × AV)}{v:AV}{H H':List af}{b:Bool}{A:Nat}(h:qG P t n parts H=some (b,v,H'))(a:A<H.length):H'[A]? = H[A]? := by
 unfold qG at h;split at h
 case h_2=>cases h
 split at h
 case h_2=>cases h
 split at h
 case h_2=>cases h
 split at h
 case h_2=>cases h
 split at h
 case h_2=>cases h
 split at h
 ·cases h; exact iA a
 ·cases h
theorem E8{P:Program}{r:Operand→AV}{H H':List af}{o:Op}{v:AV}{b:Bool}{A:Nat}(h:oT P r H o=some (b,v,H'))(d:A<H.length)(B:A∉o.operands.toList.filterMap fun x=>ev (r x)):H'[A]? = H[A]? := by
 have no:∀ x∈o.operands.toList,ev (r x)≠some A:=fun x g e=>B (Ck.2 ⟨x,g,e⟩);cases o<;>simp only[oT]at h<;>try cases h
 case alloc t =>
  split at h
  ·split at h
   ·cases h; exact iA d
   ·cases h
  ·split at h
   ·cases h; exact iA d
   ·cases h
 case box t x =>
  split at h
  ·cases h; exact iA d
  ·cases h
 case store t a x =>
  split at h
  ·rename_i i H1 hs
   cases h;exact EZ hs (no a (by simp[dU]))
  ·cases h
 case makeSlice t l c=>exact Od h d
 case buildSlice t n ps=>exact Oe h d
 case range t x =>
  split at h
  ·cases h; exact iA d
  ·cases h
 case next it isString =>
  cases isString with
  |false=>cases h
  | true =>
   simp only[]at h;split at h
   ·rename_i id k g
    split at h
    ·split at h
     ·cases h; exact fC fun e=>no it (by simp[dU]) (by rw[g,e]; rfl)
     ·cases h; rfl
    ·cases h
   ·cases h
 case makeMap t res =>
  cases res with
  |some _=>cases h
  | none =>
   simp only[]at h;split at h
   ·split at h
    ·cases h; exact iA d
    ·split at h
     ·cases h; exact iA d
     ·cases h
    ·cases h
   ·cases h
 case mapUpdate t m k x =>
  split at h
  ·rename_i i H1 hs
   cases h;exact E7 hs (no m (by simp[dU]))
  ·split at h
   ·rename_i i H1 hs
    cases h;exact N7 hs (no m (by simp[dU])) (no x (by simp[dU]))
   ·split at h
    ·rename_i i H1 hs
     cases h;exact N8 hs (no m (by simp[dU]))
    ·cases h
 case lookup t m k ok =>
  cases ok with
  |true=>cases h
  |false=>exact N' h d (no m (by simp[dU]))
 case mapEntry t m k =>
  split at h
  ·rename_i y D
   cases h;exact Ob D d (no m (by simp[dU]))
  ·exact N9 h (no m (by simp[dU]))
 case entryStore t m s x =>
  split at h
  ·rename_i i H1 hs
   cases h;exact Oa hs (no m (by simp[dU])) (no x (by simp[dU]))
  ·split at h
   ·rename_i i H1 hs
    cases h;exact N_ hs (no m (by simp[dU])) (no x (by simp[dU]))
   ·cases h
 case insert t m k x =>
  split at h
  ·rename_i i H1 hs
   cases h;exact E7 hs (no m (by simp[dU]))
  ·cases h
 case call c =>
  have na:∀ x∈c.args.toList,ev (r x)≠some A:=fun x g=>no x (by
   simp only[dU,Call.operands];simp at g⊢;exact .inr g)
  split at h
  ·split at h
   ·rename_i s x t xt q w
    have I:=na s (by rw[q]; simp);split at h
    ·exact N5 h d
    ·exact N4 h d I
   ·cases h
  ·split at h
   ·rename_i x t q w
    have u:=na x (by rw[q]; simp);split at h
    ·rename_i hs; cases h; exact N6 hs u
    ·cases h
   ·cases h
  ·split at h
   ·rename_i x k t _ q w
    have u:=na x (by rw[q]; simp);split at h
    ·rename_i hs; cases h; exact Oc hs u
    ·cases h
   ·cases h
  ·cases h
theorem Of{P:Program}{r:Operand→AV}{H H':List af}{o:Op}{b:Bool}{A:Nat}(h:qV P r H o=some (b,H'))(d:A∉o.operands.toList.filterMap fun x=>ev (r x)):H'[A]? = H[A]? := by
 have no:∀ x∈o.operands.toList,ev (r x)≠some A:=fun x g e=>d (Ck.2 ⟨x,g,e⟩);unfold qV at h;split at h
 case h_2=>cases h
 rename_i t a x;split at h
 case h_2=>cases h
 rename_i b0 v1 H1 hf;split at h
 case h_2=>cases h
 rename_i b1 H2 hs;simp only[aK,aN]at h;obtain⟨_,rfl⟩:=h;rw[EZ hs (no a (by simp[dU]))];unfold yX at hf;split at hf
 case h_2=>cases hf
 rename_i w id ad off n i;split at hf
 case h_2=>cases hf
 split at hf
 case isFalse=>cases hf
 simp only[aK,aN]at hf;obtain⟨_,_,rfl⟩:=hf;refine fC fun e=>no x (by simp[dU]) ?_;rw[i,e];rfl
theorem uU(r:ao P τ){ops:Array Oper}{o:Oper}{s:aj}{k:AV→List af→Tree}{Q:bt→aj→Prop}(hw:bz ops s.fr o=some true)
  (h:(lR P τ o s k).holds Q):∃ v H',Yields P τ.pf ops o s.den v (ai H')∧(b8 τ.pf o.op=.write→∀ A,A∉iz τ s.eval s.H o.op→A<s.H.length→H'[A]? = s.H[A]?)∧(k v H').holds Q:=by
 unfold lR at h;split at h
 ·rename_i c a b l
  split at h
  ·rename_i t B
   have B:=ET B;refine⟨bif t then s.eval a else s.eval b,s.H,y8 hw (by rw[l]; rfl) (.inl (by rw[l]; simp only[fO,B])),fun _ _ _ _=>rfl,?_⟩;simp only[Tree.holds]at h;cases t with
   |true=>exact h.1 rfl
   |false=>exact h.2 rfl
  ·exact h.elim
 ·rename_i t a l
  split at h
  ·rename_i b v u
   simp only[Tree.holds]at h;refine⟨v,s.H,?_,fun _ _ _ _=>rfl,h.2⟩;unfold Yields;rw[show s.den.fr=s.fr from rfl,hw];simp only[l,b8,aj.jA];exact⟨rfl,by simp only[dF]; exact Nr u h.1⟩
  ·exact h.elim
 ·rename_i t m x ok l
  have J:iz τ s.eval s.H o.op=o.op.operands.toList.filterMap fun x=>ev (s.eval x):=by
   have w:ga s.eval o.op=none:=by rw[l]; rfl
   simp only[iz,w]
  split at h
  ·rename_i b v u
   split at h
   ·rename_i g
    simp only[Tree.holds]at h;refine⟨v,s.H,?_,fun _ _ _ _=>rfl,h.2⟩;unfold Yields;rw[show s.den.fr=s.fr from rfl,hw];simp only[g,aj.jA];rw[l];exact⟨rfl,by
     have e:=Er u;rw[show ai s.H=s.den.H from rfl]at e;simp only[dF,e]⟩
   ·rename_i g
    simp only[Tree.holds]at h;refine⟨v,s.H,np hw g (.inl ?_),fun _ _ _ _=>rfl,h.2⟩;rw[l];simp only[cw,Er u]
   ·exact h.elim
  ·split at h
   ·rename_i g
    split at h
    ·rename_i b v H' d
     simp only[Tree.holds]at h;exact⟨v,H',np hw g (.inl (EK d h.1)),fun _ A i q=>E8 d q (by rw[J]at i; exact i),h.2⟩
    ·exact h.elim
   ·rename_i g
    split at h
    ·rename_i b v u
     simp only[Tree.holds]at h;obtain⟨N,O⟩:=NG u h.1;refine⟨v,s.H,?_,fun _ _ _ _=>rfl,h.2⟩;unfold Yields;rw[show s.den.fr=s.fr from rfl,hw];simp only[g,aj.jA];rw[l];exact⟨rfl,by simp only[dF]; rw[show eR P t (s.eval m) (s.eval x) ok s.den.H=none from N]; exact O⟩
    ·exact h.elim
   ·exact h.elim
 ·split at h
  ·rename_i g
   split at h
   ·rename_i v d
    refine⟨v,s.H,?_,fun _ _ _ _=>rfl,h⟩;unfold Yields;rw[show s.den.fr=s.fr from rfl,hw];simp only[g,aj.jA];exact⟨rfl,NU d⟩
   ·exact h.elim
  ·rename_i g
   split at h
   ·rename_i f args hf
    split at h
    ·rename_i b v d
     simp only[Tree.holds]at h;obtain⟨g1,g2⟩:=r.T f args b v d h.1;exact⟨v,s.H,y8 hw g (.inr ⟨f,args,hf,g1,g2⟩),fun _ _ _ _=>rfl,h.2⟩
    ·exact h.elim
   ·split at h
    ·rename_i b v d
     simp only[Tree.holds]at h;exact⟨v,s.H,y8 hw g (.inl (NT d h.1)),fun _ _ _ _=>rfl,h.2⟩
    ·exact h.elim
  ·rename_i g
   split at h
   ·rename_i f args hf
    split at h
    ·rename_i b v H' d
     simp only[Tree.holds]at h;obtain⟨g1,g2⟩:=r.W f args s.H b v H' d h.1;exact⟨v,H',np hw g (.inr ⟨f,args,hf,g1,g2⟩),fun _ A i q=>r.C f args s.H b v H' d A (by simpa only[iz,hf]using i) q,h.2⟩
    ·split at h
     ·rename_i t hi
      obtain⟨g1,v,H',g2,g3,g4⟩:=r.I f args s.H t hi _ (Tree.uL h);exact⟨v,H',np hw g (.inr ⟨f,args,hf,g1,g2⟩),fun _ A i q=>g3 A (by simpa only[iz,hf]using i) q,g4⟩
     ·split at h
      ·rename_i b v d
       simp only[Tree.holds]at h;obtain⟨g1,g2⟩:=r.T f args b v d h.1;exact⟨v,s.H,np hw g (.inr ⟨f,args,hf,g1,g2 _⟩),fun _ _ _ _=>rfl,h.2⟩
      ·cases D : lQ s.H args with
       |mk R M =>
       rw[D]at h;simp only[]at h;split at h
       ·rename_i b v d
        split at h
        ·rename_i y
         simp only[aq]at y;simp only[Tree.holds,aq]at h;obtain⟨g1,g2⟩:=r.T f M b v d h.1.2;exact⟨v,s.H,np hw g (.inr ⟨f,args,hf,g1,N3 g2 D h.1.1 y.2 y.1⟩),fun _ _ _ _=>rfl,h.2⟩
        ·exact h.elim
       ·exact h.elim
   ·rename_i w
    split at h
    ·rename_i b v H' d
     simp only[Tree.holds]at h;exact⟨v,H',np hw g (.inl (EK d h.1)),fun _ A i q=>E8 d q (by simpa only[iz,w]using i),h.2⟩
    ·split at h
     ·rename_i b H' d
      simp only[Tree.holds]at h;refine⟨.undef,H',?_,fun _ A i q=>Of d (by simpa only[iz,w]using i),h.2⟩;unfold Yields;rw[show s.den.fr=s.fr from rfl,hw];simp only[g,aj.jA];exact .inr (.inr (NV d h.1))
     ·exact h.elim
theorem E9{ops:Array Oper}{s:aj}{o:Oper}{t:Tmp}{b want:Bool}(h:lP ops s.fr o=.test t b want) :
  s.fr[t]? = some (.lit (.bool b))∧bz ops s.fr o=some (b==want):=by
 unfold lP at h;unfold bz;cases a:o.guard with
 |none=>rw[a]at h; cases h
 | some g =>
  obtain⟨j,w⟩:=g;rw[a]at h;simp only[]at h⊢;split at h
  ·rename_i t' i
   split at h
   ·rename_i k d
    cases h;exact⟨d,by rw[i]; simp only[d]⟩
   ·cases h
   ·cases h
  ·cases h
theorem y9{ops:Array Oper}{s:aj}{o:Oper}(h:lP ops s.fr o=.no):bz ops s.fr o=some false:=by
 unfold lP at h;unfold bz;cases a:o.guard with
 |none=>rw[a]at h; cases h
 | some b =>
  obtain⟨j,w⟩:=b;rw[a]at h;simp only[]at h⊢;split at h
  ·rename_i t' d
   split at h
   ·cases h
   ·rename_i g
    rw[d];simp only[g]
   ·cases h
  ·cases h
theorem E_{ops:Array Oper}{s:aj}{o:Oper}(h:lP ops s.fr o=.yes):bz ops s.fr o=some true:=by
 unfold lP at h;unfold bz;cases a:o.guard with
 |none=>rfl
 | some b =>
  obtain⟨j,w⟩:=b;rw[a]at h;simp only[]at h;split at h
  ·split at h<;>cases h
  ·cases h
theorem uV{s:aj}{t:Tmp}{b:Bool} (h:s.fr[t]? = some (.lit (.bool b))):s.slot t b=s:=by
 unfold aj.slot;rw[jW h]
theorem Og(g:ao P τ){ops:Array Oper}{o:Oper}{s:aj}{k:aj→Tree}{Q:bt→aj→Prop}(h:(yY P τ ops o s k).holds Q) :
  ∃ v H',Yields P τ.pf ops o s.den v (ai H')∧(k (s.put o.dst v H')).holds Q:=by
 have skip:bz ops s.fr o=some false→Yields P τ.pf ops o s.den (.tuple []) (ai s.H):=by
  intro hw;unfold Yields;rw[show s.den.fr=s.fr from rfl,hw];exact⟨rfl,rfl⟩
 unfold yY at h;split at h
 ·exact h.elim
 ·rename_i hw
  exact⟨_,_,skip (y9 hw),h⟩
 ·rename_i hw
  obtain⟨v,H',g1,_,g2⟩:=uU g (E_ hw) h;exact⟨v,H',g1,g2⟩
 ·rename_i t b want hw
  obtain⟨h1,d⟩:=E9 hw;simp only[Tree.holds]at h;cases b with
  | true =>
   have a:=h.1 rfl;rw[uV h1]at a;cases want with
   | true =>
    obtain⟨v,H',g1,_,g2⟩:=uU g d a;exact⟨v,H',g1,g2⟩
   |false=>exact⟨_,_,skip d,a⟩
  | false =>
   have a:=h.2 rfl;rw[uV h1]at a;cases want with
   |true=>exact⟨_,_,skip d,a⟩
   | false =>
    obtain⟨v,H',g1,_,g2⟩:=uU g d a;exact⟨v,H',g1,g2⟩
theorem q_(a:ao P τ){ops:Array Oper}{Q:bt→aj→Prop}:∀{l:List Oper} {s:aj} {k:aj→Tree},(kT P τ ops l s k).holds Q→∃ s',eT P τ.pf ops l s.den s'.den∧(k s').holds Q
 | [],s,k,h=>⟨s,rfl,h⟩
 | o::l,s,k,h=>by
  obtain⟨v,H',h1,b⟩:=Og a h;obtain⟨s',d,g⟩:=q_ a b;exact⟨s',⟨v,ai H',h1,d⟩,g⟩
def Acc.le(a b:Acc):Prop:=(∀ x∈a.R,x∈b.R)∧∀ x∈a.W,x∈b.W
def Acc.ok(ops:Array Oper)(j:Nat)(a:Acc):Prop:=(∀ x∈a.R,x.1<j)∧(∀ x∈a.W,x.1<j)∧lJ ops a.R a.W
theorem y_{ids:List Nat}{i:Nat}(h:qW ids i=true):i∉ids:=by
 intro hm;have:ids.any (ah i)=true:=List.any_eq_true.2 ⟨i,hm,by simp⟩;simp[qW,this]at h
theorem Oh{ops:Array Oper}{j id:Nat}{a b:Acc}(t:a.ok ops j)(h:yZ ops j id a=some b):b.ok ops (j+1)∧a.le b∧(j,id)∈b.R:=by
 unfold yZ at h;split at h
 ·rename_i g
  cases h;simp only[cC,xf,aq,fJ]at g;obtain⟨h1,k,l⟩:=t;refine⟨⟨fun x d=>?_,fun x d=>tw (k x d),fun i q hi e he=>?_,l.2⟩,⟨fun x d=>da _ d,fun x d=>d⟩,cW⟩
  ·rcases bN.1 d with rfl | d
   ·exact Lg _
   ·exact tw (h1 x d)
  ·rcases bN.1 hi with u | hi
   ·cases u
    have v:=k e he;refine⟨fun r=>absurd r (by omega),fun _ hw=>?_⟩;rcases g e he with h|h
    ·rw[hw]at h; cases h
    ·exact⟨y_ h.1,h.2⟩
   ·exact l.1 i q hi e he
 ·cases h
theorem Fa{ops:Array Oper}{j n:Nat}{T:List Nat}{a b:Acc}(D:a.ok ops j)(h:uQ ops j T n a=some b):b.ok ops (j+1)∧a.le b∧(j,T,n)∈b.W:=by
 unfold uQ at h;split at h
 ·rename_i y
  split at h
  case h_2=>cases h
  rename_i t;cases h;simp only[cC,xf,aq,fJ]at y t;obtain⟨h1,v,w⟩:=D;refine⟨⟨fun x k=>tw (h1 x k),fun x k=>?_,fun i u hi e he=>?_,fun e he e' d g l id hid=>?_,fun e he e' d g l id hid=>?_⟩,⟨fun x k=>k,fun x k=>da _ k⟩,cW⟩
  ·rcases bN.1 k with rfl | k
   ·exact Lg _
   ·exact tw (v x k)
  ·rcases bN.1 he with r | he
   ·subst r
    have g:=h1 (i,u) hi;refine⟨fun _ hw=>?_,fun A=>absurd A (by simp only at A g; omega)⟩;rcases y (i,u) hi with h|h
    ·simp only at hw h; rw[hw]at h; cases h
    ·exact⟨y_ h.1,h.2⟩
   ·exact w.1 i u hi e he
  ·rcases bN.1 d with r | d
   ·subst r
    rcases bN.1 he with q|he
    ·subst q
     exact absurd g (n5 _)
    ·rcases t e he with h | h
     ·simp only at l h
      rw[l]at h;cases h
     ·have B := h.1 id hid
      exact⟨y_ B.1,B.2⟩
   ·rcases bN.1 he with q | he
    ·subst q
     have I:=v e' d;exact absurd g (by simp only; omega)
    ·exact w.2.1 e he e' d g l id hid
  ·rcases bN.1 d with r | d
   ·subst r
    rcases bN.1 he with q|he
    ·subst q
     exact absurd g (n5 _)
    ·rcases t e he with h | h
     ·simp only at l h
      rw[l]at h;cases h
     ·exact h.2 id hid
   ·rcases bN.1 he with q | he
    ·subst q
     have I:=v e' d;exact absurd g (by simp only; omega)
    ·exact w.2.2 e he e' d g l id hid
 ·cases h
theorem Acc.ra{ops:Array Oper}{j:Nat}{a:Acc}(h:a.ok ops j):a.ok ops (j+1):=⟨fun x b=>tw (h.1 x b),fun x b=>tw (h.2.1 x b),h.2.2⟩
theorem Acc.le_refl(a:Acc):a.le a:=⟨fun _ h=>h,fun _ h=>h⟩
theorem Acc.le_trans{a b c:Acc}(h:a.le b)(h':b.le c):a.le c:=⟨fun x d=>h'.1 x (h.1 x d),fun x d=>h'.2 x (h.2 x d)⟩
def Acc.only(j:Nat)(a b:Acc):Prop:=∀ x∈b.W,x.1<j→x∈a.W
theorem Oi{ops:Array Oper}{j:Nat}{o:Oper}{s:aj}{a b:Acc}(i:a.ok ops j)(h:y4 τ ops j o s a=some b) :
  b.ok ops (j+1)∧a.le b∧(b8 τ.pf o.op=.read→∀ id,ju s.eval o.op=some id→(j,id)∈b.R)∧(b8 τ.pf o.op=.write→(j,iz τ s.eval s.H o.op,s.H.length)∈b.W):=by
 unfold y4 at h;split at h
 ·rename_i d
  cases h;exact⟨Acc.ra i,a.le_refl,(fun h=>by rw[d]at h; cases h),(fun h=>by rw[d]at h; cases h)⟩
 ·rename_i d
  split at h
  ·rename_i id hid
   obtain⟨g1,g2,g3⟩:=Oh i h;refine⟨g1,g2,fun _ k g=>?_,(fun h=>by rw[d]at h; cases h)⟩;rw[hid]at g;cases g;exact g3
  ·rename_i hid
   cases h;refine⟨Acc.ra i,a.le_refl,fun _ k g=>?_,(fun h=>by rw[d]at h; cases h)⟩;rw[hid]at g;cases g
 ·rename_i d
  obtain⟨g1,g2,g3⟩:=Fa i h;exact⟨g1,g2,(fun h=>by rw[d]at h; cases h),fun _=>g3⟩
theorem Fb{ops:Array Oper}{j:Nat}{o:Oper}{s:aj}{v:AV}{H':List af}{b c:Acc}(h:b.le c)(hr:b8 τ.pf o.op=.read→∀ id,ju s.eval o.op=some id→(j,id)∈b.R)
  (hw:b8 τ.pf o.op=.write→(j,iz τ s.eval s.H o.op,s.H.length)∈b.W) (hk:b8 τ.pf o.op=.write→∀ A,A∉iz τ s.eval s.H o.op→A<s.H.length→H'[A]? = s.H[A]?)
  (i:iU o.op=true→lI ops=true→b8 τ.pf o.op=.write→bz ops s.den.fr o=some true→∀ σ,uB c.W j s.den.H σ→Yields P τ.pf ops o ⟨s.den.fr,kQ σ s.den.H⟩ v (kQ σ (ai H'))) :
  (d:(kO ops&&dn o.op)=false)→Step P τ.pf ops c.R c.W j o s.den v (ai H'):=by
 intro d;refine⟨fun a A k=>?_,fun a _ id hid=>h.1 _ (hr a id (by rw[←aj.jA]; exact hid)),fun h1 g _=>(by rw[h1,g]at d; cases d),i⟩;have:=k _ (h.2 _ (hw a)) rfl;have g:=hk a A this.1 this.2;show (ai H')[A]? = (ai s.H)[A]?
 simp only[ai,b7,g]
theorem step_skip{ops:Array Oper}{j:Nat}{o:Oper}{s:aj}{c:Acc}(hw:bz ops s.fr o=some false):Step P τ.pf ops c.R c.W j o s.den (.tuple []) (ai s.H) :=
 ⟨fun _ _ _=>rfl,fun _ h=>(by rw[show s.den.fr=s.fr from rfl,hw]at h; cases h),fun _ _ _=>⟨rfl,fun _ h=>(h rfl).elim⟩,fun _ _ _ h=>(by rw[show s.den.fr=s.fr from rfl,hw]at h; cases h)⟩
theorem Fc(b:ao P τ){f:FuncId}{args:List AV}{v:AV}(d:τ.N f=true):∀(σ:List (Nat × ab)) (H H':List af),τ.W f args H=some (true,v,H')→(∀ p∈σ,p.1<H.length∧p.1∉τ.C f args H) →
  ∃ H2 a,ai H2=kQ σ (ai H)∧ai a=kQ σ (ai H')∧τ.W f args H2=some (true,v,a)
 | [],H,H',h,_=>⟨H,H',rfl,rfl,h⟩
 | p::σ,H,H',h,g=>by
  obtain⟨i,a2⟩:=g p cW;obtain⟨h1,k⟩:=b.F.2 f d args H true v H' h p.1 (.raw p.2) i a2;obtain⟨H2,a,l,r,t⟩:=Fc b d σ _ _ h1 fun q u=>by
   obtain⟨b1,w⟩:=g q (da _ u);rw[k];exact⟨by simpa using b1,w⟩
  refine⟨H2,a,?_,?_,t⟩
  ·rw [l, cI]
   rfl
  ·rw [r, cI]
   rfl
theorem Oj{o:Oper}{s:aj}{k:AV→List af→Tree}{f:FuncId}{args:List AV}{b:Bool}{v:AV}{H':List af}(a:iU o.op=true)(g:b8 τ.pf o.op=.write)(d:ga s.eval o.op=some (f,args))(i:τ.W f args s.H=some (b,v,H')) :
  lR P τ o s k=.side b (k v H'):=by
 unfold iU at a;split at a
 ·rename_i c h
  unfold lR;rw[h]at g d⊢;simp only[g,d,i]
 ·cases a
theorem Fe{z:List Value}:∀{H:List af} {i j:Nat} {ks:List Kd} {g:List G},nl z H i=some (j,ks,g)→i≤j∧H[j-i]? = some (.vec ks 0 [])∧oV ks z=some g
 | [],_,_,_,_,h=>by cases h
 | o::H,i,j,ks,g,h=>by
  have next:nl z H (i+1)=some (j,ks,g)→i≤j∧(o::H)[j-i]? = some (.vec ks 0 [])∧oV ks z=some g:=by
   intro h;obtain⟨h1,a,b⟩:=Fe h;refine⟨by omega,?_,b⟩;rw[show j-i=(j-(i+1))+1 from by omega];simpa using a
  unfold nl at h;split at h
  ·cases ‹_=_›
  ·rename_i k rows' H' l e
   cases e;split at h
   ·rename_i q d
    split at h
    ·cases h
     exact⟨aB _,by simp,d⟩
    ·exact next h
   ·exact next h
  ·rename_i e
   cases e;exact next h
theorem Ff:∀{H:List af} {i j:Nat},qX H i=some j→i≤j∧H[j-i]? = some (.raw .c6)
 | [],_,_,h=>by cases h
 | o::H,i,j,h=>by
  have next:qX H (i+1)=some j→i≤j∧(o::H)[j-i]? = some (.raw .c6):=by
   intro h;obtain⟨h1,a⟩:=Ff h;refine⟨by omega,?_⟩;rw[show j-i=(j-(i+1))+1 from by omega];simpa using a
  unfold qX at h;split at h
  ·cases ‹_=_›
  ·rename_i e
   cases e;cases h;exact⟨aB _,by simp⟩
  ·rename_i e
   cases e;exact next h
theorem Ol{op:Op}{H H':List af}{id:Nat}{v:AV}(h:y5 P op H=some (id,v,H')) :
  ((∃ t m,op=.alloc t∧lD P t id m (ai H)=some (v,ai H'))∨∃ t,op=.makeMap t none∧mP id (ai H)=some (v,ai H'))∧H'.length=H.length∧∀ A,A≠id→H'[A]? = H[A]? := by
 unfold y5 at h;split at h
 ·rename_i t
  split at h
  ·rename_i z d
   split at h
   ·rename_i i ks g hf
    cases h;obtain⟨_,a,l⟩:=Fe hf;rw[fm]at a;have e:=EM l;refine⟨.inl ⟨t,mZ ks,rfl,?_⟩,by simp,fun A b=>aJ (Ne.symm b)⟩;have hk:ks.length=z.length:=by
     have:=congrArg Le e;simpa[oa,tY]using this
    rw[D0 (mZ ks) d (k:=ks.length) (by rw[aU a]; rfl) hk,cI,←e];rfl
   ·cases h
  ·cases h
 ·rename_i t
  split at h
  ·rename_i K V _
   split at h
   ·rename_i i hf
    cases h;obtain⟨_,a⟩:=Ff hf;rw[fm]at a;refine⟨.inr ⟨t,rfl,?_⟩,by simp,fun A b=>aJ (Ne.symm b)⟩;rw[Dx (by rw[aU a]; rfl),cI];rfl
   ·cases h
  ·cases h
 ·cases h
theorem za(l:ao P τ){ops:Array Oper}{j:Nat}{o:Oper}{s:aj}{a:Acc}{k:aj→Acc→Tree}{Q:bt→aj→Prop}(hw:bz ops s.fr o=some true)(ha:a.ok ops j)(h:(qY P τ ops j o s a k).holds Q) :
  ∃ v H' b,Yields P τ.pf ops o s.den v (ai H')∧b.ok ops (j+1)∧a.le b∧(∀ c,b.le c→Step P τ.pf ops c.R c.W j o s.den v (ai H'))∧(k (s.put o.dst v H') b).holds Q:=by
 unfold qY at h;split at h
 ·rename_i d
  simp only[aq]at d;split at h
  ·rename_i id v H' Yh
   split at h
   ·rename_i b B
    obtain⟨Yg,hlen,U⟩:=Ol Yh;obtain⟨g1,g2,g3⟩:=Fa ha B;refine⟨v,H',b,?_,g1,g2,fun c g=>⟨fun _ A D=>?_,fun hr=>(by rw[kP d.2]at hr; cases hr),fun _ _ _=>⟨?_,fun q Yi=>?_⟩,fun Y=>(by rw[j0 d.2]at Y; cases Y)⟩,h⟩
    ·unfold Yields
     rw[show s.den.fr=s.fr from rfl,hw];simp only[kP d.2];rcases Yg with⟨t,m,y,I⟩|⟨t,y,I⟩
     ·exact .inr (.inl (.inl ⟨t,id,m,y,I⟩))
     ·exact .inr (.inl (.inr ⟨t,id,y,I⟩))
    ·have := (D _ (g.2 _ g3) rfl).1
     show (ai H')[A]? = (ai s.H)[A]?
     simp only[ai,b7,U A (by simpa using this)]
    ·show (ai H').length = (ai s.H).length
     simp only[dA,hlen]
    ·refine ⟨_, g.2 _ g3, rfl, ?_⟩
     have e:q=id:=n4 fun e=>Yi (by
      show (ai H')[q]? = (ai s.H)[q]?
      simp only[ai,b7,U q e])
     rw[e];exact List.mem_singleton.2 rfl
   ·exact h.elim
  ·exact h.elim
 ·rename_i d
  split at h
  ·exact h.elim
  rename_i Yc;split at h
  ·rename_i b B
   obtain⟨g1,g2,g3,g4⟩:=Oi ha B;by_cases i:(lI ops&&iU o.op)=true∧b8 τ.pf o.op=.write
   ·obtain ⟨i, r⟩ := i
    have V:=i;simp only[aq]at V;have hf:y6 τ o s=true:=by
     rw[i]at Yc;simpa using Yc
    unfold y6 at hf;rw[r]at hf;simp only[]at hf;split at hf
    case h_2=>cases hf
    rename_i f args w;split at hf
    case h_2=>cases hf
    rename_i hN;obtain⟨⟨b0,v,H'⟩,u⟩:=Option.isSome_iff_exists.1 hf;rw[Oj V.2 r w u]at h;simp only[Tree.holds]at h;obtain⟨rfl,h⟩:=h;obtain⟨Yd,Ye⟩:=l.W f args s.H true v H' u rfl;have X:iz τ s.eval s.H o.op=τ.C f args s.H:=by
     unfold iz;rw[w]
    have Yf:∀ H2,ga (St.eval ⟨s.den.fr,H2⟩) o.op=some (f,args):=fun H2=>by
     have e:St.eval ⟨s.den.fr,H2⟩=s.eval:=by funext x; cases x<;>rfl
     rw[e];exact w
    have yl:∀ H2 J:List ab,c9 P f args H2 v J→Yields P τ.pf ops o ⟨s.den.fr,H2⟩ v J:=fun H2 J hx=>by
     unfold Yields;rw[show (St.mk s.den.fr H2).fr=s.fr from rfl,hw];simp only[r];exact .inl (.inr ⟨f,args,Yf H2,Yd,hx⟩)
    refine⟨v,H',b,yl _ _ Ye,g1,g2,fun c g=>Fb g g3 g4 (fun _ A D Yj=>?_) (fun _ _ _ _ σ Yl=>?_) (by simpa using d),h⟩
    ·exact l.C f args s.H true v H' u A (by rw[←X]; exact D) Yj
    ·obtain ⟨H2,Yk,M,N,O⟩:=Fc l hN σ s.H H' u (fun p hp=>by
      obtain⟨hk,_⟩:=Yl p hp;obtain⟨k1,k2⟩:=hk _ (g.2 _ (g4 r)) rfl;rw[X]at k1;exact⟨k2,k1⟩)
     rw[←N,show kQ σ s.den.H=ai H2 from M.symm];exact yl _ _ (l.W f args H2 true v Yk O rfl).2
   ·obtain ⟨v, H', M, N, O⟩ := uU l hw h
    exact⟨v,H',b,M,g1,g2,fun c g=>Fb g g3 g4 N (fun h1 h2 h3=>absurd ⟨by rw[h1,h2]; rfl,h3⟩ i) (by simpa using d),O⟩
  ·exact h.elim
theorem Om(l:ao P τ){ops:Array Oper}{j:Nat}{o:Oper}{s:aj}{a:Acc}{k:aj→Acc→Tree}{Q:bt→aj→Prop}(g:a.ok ops j)(h:(y7 P τ ops j o s a k).holds Q) :
  ∃ v H' b,Yields P τ.pf ops o s.den v (ai H')∧b.ok ops (j+1)∧a.le b∧(∀ c,b.le c→Step P τ.pf ops c.R c.W j o s.den v (ai H'))∧(k (s.put o.dst v H') b).holds Q:=by
 have skip:bz ops s.fr o=some false→Yields P τ.pf ops o s.den (.tuple []) (ai s.H):=by
  intro hw;unfold Yields;rw[show s.den.fr=s.fr from rfl,hw];exact⟨rfl,rfl⟩
 unfold y7 at h;split at h
 ·exact h.elim
 ·rename_i hw
  exact⟨_,_,a,skip (y9 hw),Acc.ra g,a.le_refl,fun _ _=>step_skip (y9 hw),h⟩
 ·rename_i hw
  exact za l (E_ hw) g h
 ·rename_i t b want hw
  obtain⟨h1,i⟩:=E9 hw;simp only[Tree.holds]at h;cases b with
  | true =>
   have d:=h.1 rfl;rw[uV h1]at d;cases want with
   |true=>exact za l i g d
   |false=>exact⟨_,_,a,skip i,Acc.ra g,a.le_refl,fun _ _=>step_skip i,d⟩
  | false =>
   have d:=h.2 rfl;rw[uV h1]at d;cases want with
   |true=>exact⟨_,_,a,skip i,Acc.ra g,a.le_refl,fun _ _=>step_skip i,d⟩
   |false=>exact za l i g d
theorem zb(g:ao P τ){ops:Array Oper}{Q:bt→aj→Prop}:∀{l:List Oper} {j:Nat} {s:aj} {a:Acc} {k:aj→Tree},a.ok ops j→(lS P τ ops l j s a k).holds Q →
  ∃ s' b,lJ ops b.R b.W∧a.le b∧mY P τ.pf ops b.R b.W l j s.den s'.den∧(k s').holds Q
 | [],j,s,a,k,d,h=>⟨s,a,d.2.2,a.le_refl,rfl,h⟩
 | o::l,j,s,a,k,d,h=>by
  obtain⟨v,H',b,g1,g2,g3,g4,g5⟩:=Om g d h;obtain⟨s',c,q,i,r,t⟩:=zb g g2 g5;exact⟨s',c,q,Acc.le_trans g3 i,⟨v,ai H',g1,g4 c i,r⟩,t⟩
theorem On{m id:Nat}{ops:Array Oper}{s s':aj}{b:Acc}(hm:P.follows .mixedOrders=true)(a:jx τ.pf ops=true)(d:lJ ops b.R b.W)(h:mY P τ.pf ops b.R b.W ops.toList 0 s.den s'.den) :
  cq P m (.region id ops true) s.den .normal s'.den:=fun ro _ _ _ hs=>No hm a d hs h (fun _ _ g=>⟨rfl,g.toM⟩) ro
theorem rb{K:bt→aj→Tree}{Q:bt→aj→Prop}:∀{t:Tree},(t.bind K).holds Q→t.holds fun x s=>(K x s).holds Q
 |.fail,h=>h
 |.done _ _,h=>h
 |.ask _ _ _,h=>⟨fun a=>rb (h.1 a),fun a=>rb (h.2 a)⟩
 |.side _ _,h=>⟨h.1,rb h.2⟩
theorem Fg{m:Nat}{c:Code}{Q:bt→aj→Prop}{body:aj→(bt→aj→Tree)→Tree}
  (b:∀ s K,(body s K).holds Q→∃ x s',cq P m c s.den x s'.den∧(K x s').holds Q):∀(n:Nat) (s:aj) (K:bt→aj→Tree),(uR body n s K).holds Q →
  ∃ x s',iT P m c s.den x s'.den∧(K x s').holds Q
 |0,_,_,h=>h.elim
 | n+1,s,K,h=>by
  simp only[uR]at h;obtain⟨x,s1,h1,a⟩:=b _ _ h;cases x with
  | normal =>
   obtain⟨y,s2,d,g⟩:=Fg b n s1 K a;exact⟨y,s2,.next h1 d,g⟩
  |exit i=>exact⟨_,s1,.stop h1 (by simp),a⟩
  |ret=>exact⟨_,s1,.stop h1 (by simp),a⟩
theorem fD(hm:P.follows .mixedOrders=true)(l:ao P τ){m:Nat}{L:LT}{Q:bt→aj→Prop}:∀(c:Code) (s:aj) (K:bt→aj→Tree),
  ay P m L c→(dc P τ L c s K).holds Q→∃ x s',cq P m c s.den x s'.den∧(K x s').holds Q
 |.skip,s,K,_,h=>⟨_,_,MY,h⟩
 | .region id ops draw,s,K,k,h=>by
  simp only[dc]at h;split at h
  ·rename_i u
   split at h
   ·rename_i J
    simp only[Tree.holds]at h;have I:draw=true:=by
     cases draw with
     |true=>rfl
     |false=>simp at u
    subst I;obtain⟨s',b,h1,_,d,q⟩:=zb l (a:=⟨[],[]⟩) ⟨by simp,by simp,⟨fun i id hi=>(nomatch hi),fun e he=>(nomatch he),fun e he=>(nomatch he)⟩⟩ h.2;exact⟨_,_,oL (k.2.1 id s h.1) (On hm J h1 d),q⟩
   ·exact h.elim
  ·rename_i D
   simp only[Tree.holds]at h;obtain⟨s',h1,d⟩:=q_ l h.2;refine⟨_,_,oL (k.2.1 id s h.1) (M1 hm (fun u=>?_) h1),d⟩;rw[u]at D;simpa using D
 | .seq a b,s,K,k,h=>by
  simp only[dc]at h;have v:ay P m L a:=k.sub (fun p g=>by simp only[bk]; exact bQ.2 (.inl g)) (fun p g=>by simp only[bl]; exact bQ.2 (.inl g));have w:ay P m L b:=k.sub (fun p g=>by simp only[bk]; exact bQ.2 (.inr g)) (fun p g=>by simp only[bl]; exact bQ.2 (.inr (bQ.2 (.inr g))));obtain⟨x,s1,h1,d⟩:=fD hm l a s _ v h;cases x with
  | normal =>
   simp only[EN]at d;split at d
   ·rename_i t r
    unfold ER at r;split at r
    ·rename_i i hi
     obtain⟨y,s2,q,B⟩:=k.2.2 i b (by simp only[bl,hi]; exact bQ.2 (.inr (bQ.2 (.inl (cW))))) s1 t r _ (rb d);exact⟨y,s2,uw h1 q,B⟩
    ·cases r
   ·obtain ⟨y, s2, q, B⟩ := fD hm l b s1 K w d
    exact⟨y,s2,uw h1 q,B⟩
  |exit id=>exact⟨_,_,D6 h1 (by simp),d⟩
  |ret=>exact⟨_,_,D6 h1 (by simp),d⟩
 | .cond c a b,s,K,k,h=>by
  simp only[dc]at h;have v:ay P m L a:=k.sub (fun p g=>by simp only[bk]; exact bQ.2 (.inl g)) (fun p g=>by simp only[bl]; exact bQ.2 (.inl g));have w:ay P m L b:=k.sub (fun p g=>by simp only[bk]; exact bQ.2 (.inr g)) (fun p g=>by simp only[bl]; exact bQ.2 (.inr g));split at h
  ·rename_i t M
   have A:=ET M;rw[←aj.jA]at A;simp only[Tree.holds]at h;cases t with
   | true =>
    obtain⟨x,s1,h1,d⟩:=fD hm l a s K v (h.1 rfl);exact⟨x,s1,D7 A (by simpa using h1),d⟩
   | false =>
    obtain⟨x,s1,h1,d⟩:=fD hm l b s K w (h.2 rfl);exact⟨x,s1,D7 A (by simpa using h1),d⟩
  ·exact h.elim
 | .block id c,s,K,k,h=>by
  simp only[dc]at h;obtain⟨x,s1,h1,d⟩:=fD hm l c s _ (k.sub (fun p g=>by simpa only[bk]using g) (fun p g=>by simpa only[bl]using g)) h;refine⟨_,s1,D8 h1,?_⟩;cases x with
  |normal=>exact d
  | exit i =>
   simp only[EO]at d;simp only[bt.inBlock];split
   ·rename_i e; rw[if_pos e]at d; exact d
   ·rename_i e; rw[if_neg e]at d; exact d
  |ret=>exact d
 | .loop c,s,K,k,h=>by
  simp only[dc]at h;split at h
  ·rename_i i hi
   split at h
   ·rename_i t N
    obtain⟨x,s',h1,d⟩:=k.1 i c (by simp only[bk,hi]; exact cW) s t N _ (rb h);exact⟨x,s',D9 h1,d⟩
   ·obtain ⟨x, s', h1, d⟩ := Fg (fun s1 O R => fD hm l c s1 O (k.sub (fun p g => by simp only [bk, hi]; exact da _ g) (fun p g => by simpa only [bl] using g)) R) 400 s K h
    exact⟨x,s',D9 h1,d⟩
  ·exact h.elim
 |.exit id,s,K,_,h=>⟨_,_,M0,h⟩
 |.ret,s,K,_,h=>⟨_,_,MZ,h⟩
 |.rangeFunc ..,_,_,_,h=>by simp[dc,Tree.holds]at h
 |.scope _,_,_,_,h=>by simp[dc,Tree.holds]at h
 |.label _,_,_,_,h=>by simp[dc,Tree.holds]at h
 |.goto _,_,_,_,h=>by simp[dc,Tree.holds]at h
 |.refuse _,_,_,_,h=>by simp[dc,Tree.holds]at h
end sound
end Go.AL

namespace Go.AL
open Go
variable [Dr]
inductive gU where
 |fail
 |ret (v:AV) (H:List af)
 |ask (b:Bool) (t e:gU)
 |side (b:Bool) (t:gU)
def gU.holds(Q:AV→List af→Prop):gU→Prop
 |.fail=>False
 |.ret v H=>Q v H
 |.ask b t e=>(b=true→t.holds Q)∧(b=false→e.holds Q)
 |.side b t=>b=true∧t.holds Q
def gU.two:gU→Option (AV × List af)
 |.fail=>none
 |.ret v H=>some (v,H)
 |.ask b t e=>bif b then t.two else e.two
 |.side b t=>bif b then t.two else none
def gU.val:gU→Option AV
 |.fail=>none
 |.ret v _=>some v
 |.ask b t e=>bif b then t.val else e.val
 |.side b t=>bif b then t.val else none
theorem uW:∀{t:gU} {v:AV},t.val=some v→t.holds fun u _=>u=v
 |.fail,_,h=>by cases h
 |.ret u H,_,h=>by simp only[gU.val,aK]at h; exact h
 | .ask b t e,v,h=>by
  cases b with
  |true=>exact⟨fun _=>uW (t:=t) (v:=v) h,fun h=>by cases h⟩
  |false=>exact⟨fun h=>(nomatch h),fun _=>uW (t:=e) (v:=v) h⟩
 | .side b t,v,h=>by
  cases b with
  |true=>exact And.intro rfl (uW (t:=t) (v:=v) h)
  |false=>cases h
def zd(H:List af):Option (List Kd)→AV→Option (Bool × AV)
 |none,a=>some (true,a)
 | some ks,a=>match a with
  |.nils | .lit (.slice none 0 0)=>some (true,.listF ks [])
  |.listF b rows=>if Kd.fy ks b then some (true,.listF ks rows) else none
  | .list w rows=>match j5 ks rows with
   |some gs=>if w=ks.length then some (true,.listF ks gs) else none
   |none=>none
  | .vec w id ad off n=>match H[id]? with
   |some (.vec b v rows)=>if ad=v∧b.length=w∧off=0∧Kd.fy ks b=true then some (ah n rows.length,.listF ks rows) else none
   |_=>none
  |_=>none
def jC(H:List af):List (Option (List Kd))→List AV→Option (Bool × List AV)
 |_,[]=>some (true,[])
 | [],a::as=>match jC H [] as with
  |some (b,d)=>some (b,a::d)
  |none=>none
 | c::cs,a::as=>match zd H c a,jC H cs as with
  |some (b,g),some (h,d)=>some (b&&h,g::d)
  |_,_=>none
theorem Oo{E:Env}(HE:ak E){H:List af}(hH:E.H=ai H){k:Option (List Kd)}{a d:AV}{b:Bool}{c:Value}(h:zd H k a=some (b,d))(l:b=true)(i:d.closed=true)(hr:rel E a c) :
  rel (E.bare E.w) d c:=by
 unfold zd at h;split at h
 ·cases h; exact cZ (lT E) _ i hr
 ·rename_i ks
  split at h
  ·cases h
   simp only[rel,db,G.rows]at hr⊢;obtain⟨base,rfl⟩:=hr;exact⟨base,0,rfl,aB _,.inl trivial⟩
  ·cases h
   simp only[rel,db,G.rows]at hr⊢;subst hr;exact⟨none,0,rfl,aB _,.inl trivial⟩
  ·split at h
   ·rename_i hs
    cases h;rw[Kd.gE hs];exact cZ (lT E) _ rfl hr
   ·cases h
  ·split at h
   ·rename_i gs q
    split at h
    ·rename_i hw
     cases h;rw[gM,nc q];subst hw;exact cZ (lT E) _ rfl hr
    ·cases h
   ·cases h
  ·split at h
   ·rename_i hid
    split at h
    ·rename_i r
     obtain⟨rfl,t,rfl,g⟩:=r;simp only[aK,aN]at h;obtain⟨h1,rfl⟩:=h;subst l;have g:=Kd.gE g;subst g;exact EV HE hH hid t (aR h1) hr
    ·cases h
   ·cases h
  ·cases h
theorem ze{E:Env}(HE:ak E){H:List af}(hH:E.H=ai H):∀{ks:List (Option (List Kd))} {as g:List AV} {b:Bool} {cs:List Value},jC H ks as=some (b,g)→b=true →
  AV.aV g=true→ae E as cs→ae (E.bare E.w) g cs
 | ks,[],g,b,cs,h,_,_,hr=>by
  cases ks<;>simp only[jC]at h<;>cases h<;>(cases cs with
   |nil=>simp[ae]
   |cons _ _=>simp[ae]at hr)
 | [],a::as,g,b,cs,h,i,d,hr=>by
  cases cs with
  |nil=>simp[ae]at hr
  | cons c cs =>
   simp only[jC]at h;simp only[ae]at hr;split at h
   ·rename_i b1 l h1
    cases h;simp only[AV.aV,aq]at d;simp only[ae];exact⟨cZ (lT E) _ d.1 hr.1,ze HE hH h1 i d.2 hr.2⟩
   ·cases h
 | k::ks,a::as,g,b,cs,h,i,d,hr=>by
  cases cs with
  |nil=>simp[ae]at hr
  | cons c cs =>
   simp only[jC]at h;simp only[ae]at hr;split at h
   ·rename_i b0 a0 b1 l h0 h1
    simp only[aK,aN]at h;obtain⟨q,rfl⟩:=h;subst q;simp only[aq]at i;simp only[AV.aV,aq]at d;simp only[ae];exact⟨Oo HE hH h0 i.1 d.1 hr.1,ze HE hH h1 i.2 d.2 hr.2⟩
   ·cases h
def Tree.toR(P:Program)(rs:List ResultVar) (ks:List (Option (List Kd))):Tree→gU
 |.fail=>.fail
 | .done x s=>match x with
  |.exit _=>.fail
  | _=>match gb P s.den rs with
   | some vs=>match jC s.H ks vs with
    |some (b,a)=>.side b (.ret (cH a) s.H)
    |none=>.fail
   |none=>.fail
 |.ask b t e=>.ask b (t.toR P rs ks) (e.toR P rs ks)
 |.side b t=>.side b (t.toR P rs ks)
theorem toR_holds{P:Program}{rs:List ResultVar}{ks:List (Option (List Kd))}{Q:AV→List af→Prop}:∀{t:Tree},(t.toR P rs ks).holds Q →
  t.holds fun x s=>(x=.normal∨x=.ret)∧∃ vs a,gb P s.den rs=some vs∧jC s.H ks vs=some (true,a)∧Q (cH a) s.H
 |.fail,h=>h
 | .done x s,h=>by
  have key:∀ y,(y=bt.normal∨y=bt.ret)→(match gb P s.den rs with
   | some vs=>match jC s.H ks vs with
    |some (b,a)=>gU.side b (.ret (cH a) s.H)
    |none=>.fail
   |none=>.fail).holds Q→(y=.normal∨y=.ret)∧∃ vs a,gb P s.den rs=some vs∧jC s.H ks vs=some (true,a)∧Q (cH a) s.H:=by
   intro y g h;split at h
   ·rename_i vs k
    split at h
    ·rename_i b a l
     simp only[gU.holds]at h;obtain⟨rfl,h⟩:=h;exact⟨g,vs,a,k,l,h⟩
    ·exact h.elim
   ·exact h.elim
  simp only[Tree.toR]at h;simp only[Tree.holds];cases x with
  |exit i=>exact h.elim
  |normal=>exact key _ (.inl rfl) h
  |ret=>exact key _ (.inr rfl) h
 |.ask _ _ _,h=>⟨fun d=>toR_holds (h.1 d),fun d=>toR_holds (h.2 d)⟩
 |.side _ _,h=>⟨h.1,toR_holds h.2⟩
def uX(P:Program)(τ:al)(L:LT)(fn:Func) (ks:List (Option (List Kd))) (args:List AV) (H:List af):gU :=
 match fn.body with
 |some c=>(dc P τ L c ⟨gQ args fn.ntmps,H⟩ .done).toR P fn.results.toList ks
 |none=>.fail
theorem Fh{E:Env}{vs:List AV}{us:List Value}(h:ae E vs us):rel E (cH vs) (if h:us.toArray.size=1 then us.toArray[0] else .tuple us.toArray):=by
 cases us with
 | nil =>
  cases vs with
  |nil=>simp[cH,rel,ae]
  |cons _ _=>simp[ae]at h
 | cons u us =>
  cases us with
  | nil =>
   cases vs with
   |nil=>simp[ae]at h
   | cons v vs =>
    cases vs with
    |nil=>simp only[ae]at h; simpa[cH]using h.1
    |cons _ _=>simp[ae]at h
  | cons a us =>
   cases vs with
   |nil=>simp[ae]at h
   | cons v vs =>
    cases vs with
    |nil=>simp[ae]at h
    | cons v2 vs =>
     simp only[cH,rel];exact⟨(u::a::us).toArray,by simp,h⟩
theorem Oq{P:Program}{f:FuncId}{fn:Func}{c:Code}{args:List AV}{x:bt}{s':aj}{ks:List (Option (List Kd))}{vs d:List AV}
  (hf:P.funcs[f]? = some fn) (a:fn.body=some c) (hs:cq P 0 c ⟨gQ args fn.ntmps,[]⟩ x s'.den) (g:x=.normal∨x=.ret) (hr:gb P s'.den fn.results.toList=some vs)
  (hc:jC s'.H ks vs=some (true,d)) (ha:AV.aV args=true) (B:AV.aV d=true):dE P f args (cH d):=by
 intro H E cargs hH HE I
 let E0:Env:={ w:=E.w,H:=[],loc:=[],X:=(E.X.or E.own).re cY }
 have J:∀ b,¬ E0.own b:=by rintro b (⟨id,c,hid⟩|⟨l,k,c,hk⟩); simp[E0]at hid; simp[E0,cY]at hk
 have O:E.bh E0:=⟨fun b a=>⟨⟨a.1,J b,fun g=>g.elim a.2.2 a.2.1⟩,rfl⟩⟩
 have A:ak E0:=by
  refine⟨rfl,?_,?_,?_,?_,HE.dX.bh O,fun l k l' k' b m n hk=>by simp[E0,cY]at hk,fun i b m l k n hi=>by simp[E0]at hi,fun l k b m hk=>by simp[E0,cY]at hk,fun i j o o' l hi=>by simp[E0]at hi,fun l _ k q hk=>by simp[E0,cY]at hk⟩
  ·intro i j b m n hi; simp[E0]at hi
  ·intro i b m hi; simp[E0]at hi
  ·rintro b (g | D)
   ·exact HE.X b g
   ·exact(HE.tJ D).1
  ·intro i o hi; simp[E0]at hi
 refine yt hf a ?_;have N:=oM A;have R:=kN N _ (lv O args ha I);have U:br ⟨gQ args fn.ntmps,[]⟩ { E0 with X:=⟨E0.X.x,fun _=>False,E0.X.r⟩ } { tmps:=cargs++Array.replicate (fn.ntmps-cargs.size) undef,defers:=[] }:=by
  refine⟨rfl,?_,mI _ _,A.bY N⟩;simp only[gQ,Array.toList_append,Array.toList_replicate];refine iQ R ?_;have:=fb I;have e:args.length=cargs.size:=by simpa using this
  rw[e];have:=qw (E:={ E0 with X:=⟨E0.X.x,fun _=>False,E0.X.r⟩ }) (cu (fn.ntmps-cargs.size) undef);simpa using this
 refine wpIn_mono (hs none (yp _) { E0 with X:=⟨E0.X.x,fun _=>False,E0.X.r⟩ } _ U) fun e a1 w0 ⟨h3,V,X',u,y⟩=>?_;refine⟨by subst h3; rcases g with rfl|rfl; exact .inl rfl; exact .inr rfl,X',u.defers,fun t k1 k2 k3=>?_⟩;obtain⟨u,y⟩:=yu A u y k1 k2 k3;obtain⟨us,g1,g2⟩:=uy u fn.results.toList vs hr;have W:(results fn a1.tmps).run P t=.ok (if h:us.toArray.size=1 then us.toArray[0] else .tuple us.toArray) t:=by
  rw[uz];simp only[Sem.run_bind];rw[Array.mapM_eq_mapM_toList,Sem.run_map,g1];rfl
 have g3:=ze u.heap rfl hc rfl B g2;have g4:=Fh g3;have M:Ext E.w t:=⟨y.size,fun b a=>y.same b a (J b),y.env⟩
 have Y:(cH d).closed=true:=by
  cases d with
  |nil=>rfl
  | cons v vs =>
   cases vs with
   |nil=>simpa[cH,AV.aV]using B
   |cons v2 vs=>simpa only[cH,AV.closed]using B
 have g5:rel { E with w:=t } (cH d) (if h:us.toArray.size=1 then us.toArray[0] else .tuple us.toArray) :=
  cZ (E:=({ w:=t,H:=ai s'.H,loc:=V,X:=E0.X.re X'.r }:Env).bare t) (E':={ E with w:=t }) ⟨fun b a=>⟨⟨a.1,fun D=>a.2.2 (Or.inr D),fun g=>a.2.2 (Or.inl g)⟩,rfl⟩⟩ _ Y g4
 refine⟨_,W,_,cH d,H,rfl,⟨rfl,rfl⟩,E.loc,E.X.r,?_,?_,?_⟩
 ·rw[←hH]; exact g5
 ·rw[←hH]; exact HE.ext M
 ·rw[←hH]; exact Env.fK M
theorem Ot{vs:List AV}{v:AV}(h:cH vs=v)(a:v.closed=true):AV.aV vs=true:=by
 subst h;cases vs with
 |nil=>rfl
 | cons v vs =>
  cases vs with
  |nil=>simpa[cH,AV.aV]using a
  |cons v2 vs=>simpa only[cH,AV.closed]using a
theorem fR{P:Program}{τ:al}{L:LT}(hm:P.follows .mixedOrders=true)(d:ao P τ){f:FuncId}{fn:Func} (ks:List (Option (List Kd))) {args:List AV} {v:AV}
  (g:∀ c,fn.body=some c→ay P 0 L c)
  (hf:P.funcs[f]? = some fn) (i:AV.aV args=true) (k:v.closed=true) (h:(uX P τ L fn ks args []).val=some v):dE P f args v:=by
 have h:=uW h;unfold uX at h;split at h
 ·rename_i c a
  obtain⟨x,s',h1,l,vs,t,q,r,b⟩:=fD hm d c _ _ (g c a) (toR_holds h);rw[←b];exact Oq hf a h1 l q r i (Ot b k)
 ·exact h.elim
end Go.AL

namespace Go.AL
open Go
variable [Dr]
def Fi(ms:List Nat):al:={ pf:=fun g=>ms.any fun t=>ah g (t+1000000),T:=fun _ _=>none,W:=fun _ _ _=>none,C:=fun _ _ _=>[],U:=fun _=>false }
theorem Ou(P:Program)(ms:List Nat):ao P (Fi ms):=⟨fun _ _ _ _ h=>(nomatch h),fun _ _ _ _ _ _ h=>(nomatch h),fun _ _ _ _ _ _ h=>(nomatch h),fun _ _ _ _ h=>(nomatch h),fun _ _ _ _=>⟨rfl,rfl⟩,fun _ h=>(nomatch h)⟩
def al.add(τ:al)(f:FuncId)(c:List AV→Option (Bool × AV)):al where
 pf g:=match ah g f with
  |true=>true
  |false=>τ.pf g
 T g args:=match ah g f with
  |true=>c args
  |false=>τ.T g args
 W:=τ.W
 C:=τ.C
 I:=τ.I
 N:=τ.N
 U:=τ.U
theorem ao.add{P:Program}{τ:al}(h:ao P τ){f:FuncId}{c:List AV→Option (Bool × AV)}(i:dY P f=true)(k:∀ args b v,c args=some (b,v)→b=true→dE P f args v) :
  ao P (τ.add f c):=by
 refine⟨fun g args b v a d=>?_,h.W,h.C,h.I,h.F⟩;simp only[al.add]at a;split at a
 ·rename_i e
  have e:=aR e;subst e;exact⟨i,k args b v a d⟩
 ·exact h.T g args b v a d
def aF:LT:=⟨fun _ _=>none,fun _ s=>(true,s),fun _ _=>none⟩
theorem aT(P:Program)(m:Nat)(c:Code):ay P m aF c:=⟨fun _ _ _ _ _ h=>(nomatch h),fun _ _ _=>a7.refl _,fun _ _ _ _ _ h=>(nomatch h)⟩
def al.inline(P:Program)(τ:al)(f:FuncId)(fn:Func) (ks:List (Option (List Kd))):al:=τ.add f fun args =>
 match (uX P τ aF fn ks args []).val with
 | some v=>match AV.aV args&&v.closed with
  |true=>some (true,v)
  |false=>none
 |none=>none
theorem ao.inline{P:Program}{τ:al}(h:ao P τ)(hm:P.follows .mixedOrders=true){f:FuncId}{fn:Func}(hf:P.funcs[f]? = some fn)(g:dY P f=true) (ks:List (Option (List Kd))) :
  ao P (τ.inline P f fn ks):=h.add g fun args b v a _=>by
 split at a
 ·rename_i u hu
  split at a
  ·rename_i d
   simp only[aq]at d;cases a;exact fR hm h ks (fun _ _=>aT _ _ _) hf d.1 d.2 hu
  ·cases a
 ·cases a
abbrev aS(s:ByteArray):AV:=.lit (.string s)
end Go.AL

namespace Go.AL
open Go
variable [Dr]
def rf(slot:Nat)(ks:List Kd)(s:aj):aj:=⟨s.fr.set slot (.vec ks.length s.H.length 0 0 0),s.H++[.vec ks 0 []]⟩
def isNil:AV→Bool
 |.nils | .lit (.slice none 0 0)=>true
 |_=>false
theorem Fj{E:Env}{a:AV}{c:Value}(h:isNil a=true)(hr:rel E a c):∃ base,c=.slice base 0 0:=by
 unfold isNil at h;split at h
 ·simpa only[rel]using hr
 ·simp only[rel]at hr; exact⟨none,hr⟩
 ·cases h
theorem Fk{m:Nat}{slot:Nat}{ks:List Kd}{s:aj}(h:isNil (s.fr.getD slot .undef)=true):a7 m s.den (rf slot ks s).den:=fun E a hs=>by
 have hH:E.H=ai s.H:=hs.H;have hlen:E.H.length=s.H.length:=by rw[hH,dA]
 have hle:E.le (E.push E.w (.vec ks.length 0 []) none):=Env.il hs.heap.len (Ext.refl _) (fun b n h=>by cases h);have l:aD (E.push E.w (.vec ks.length 0 []) none) E.H.length (.vec ks.length 0 []):=by
  simp only[aD,Env.push];refine .inl ⟨?_,trivial⟩;rw[gI (by rw[hs.heap.len]; exact aB _),hs.heap.len,mE];rfl
 have q:ak (E.push E.w (.vec ks.length 0 []) none):=ak.push hs.heap (Ext.refl _) (fun b n h=>by cases h) l;have g:(rf slot ks s).den.H=E.H++[.vec ks.length 0 []]:=by
  rw[hH];simp[rf,aj.den,ai,af.den]
 refine⟨E.loc++[none],E.X,?_,?_⟩
 ·rw [g]
  refine⟨g.symm,?_,hs.defers,q⟩;have h':=cR hle _ hs.fr;have t:∀(fr:List AV) (cs:List Value) (i:Nat),ae E fr cs→isNil (fr.getD i .undef)=true→ae (E.push E.w (.vec ks.length 0 []) none) fr cs →
    ae (E.push E.w (.vec ks.length 0 []) none) (fr.set i (.vec ks.length s.H.length 0 0 0)) cs:=by
   intro fr
   induction fr with
   |nil=>intro cs i h0 h1 d; exact d
   | cons b fr u =>
    intro cs i h0 h1 d;cases cs with
    |nil=>simp[ae]at h0
    | cons c cs =>
     simp only[ae]at h0 d;cases i with
     | zero =>
      simp only[List.set_cons_zero,ae];refine⟨?_,d.2⟩;obtain⟨base,rfl⟩:=Fj (by simpa using h1) h0.1;have y:(E.push E.w (.vec ks.length 0 []) none).H[s.H.length]? = some (.vec ks.length 0 []):=by
       simp only[Env.push];rw[gI (by omega),hlen,mE];rfl
      have r:(E.push E.w (.vec ks.length 0 []) none).loc[s.H.length]? = some none:=by
       simp only[Env.push];rw[gI (by rw[hs.heap.len]; omega),hs.heap.len,hlen,mE];rfl
      simp only[rel];refine⟨⟨base,0,rfl,aB _,fun h=>absurd h (n5 _)⟩,⟨_,y,rfl,fun v h=>fI _⟩,fun _=>⟨fun _=>⟨trivial,trivial,base,rfl⟩,fun b m k=>?_⟩⟩;rw[r]at k;cases k
     | succ i =>
      simp only[List.set_cons_succ,ae];exact⟨d.1,u cs i h0.2 (by simpa using h1) d.2⟩
  exact t s.fr _ slot hs.fr h h'
 ·rw [g]
  exact hle.toM
def cU(fn:Func)(k:Nat):Code:=match fn.body with
 | some c=>match (bk c).find? fun p=>ah p.1 k with
  |some p=>p.2
  |none=>.skip
 |none=>.skip
theorem uY{P:Program}{f:FuncId}{vs:List Value}{u:Value}(h:∀ w,Calls P f vs.toArray w fun e w'=>e=.returned u∧Ext w w'):dE P f (vs.map .lit) (.lit u):=by
 intro H E cargs hH HE b;have e:cargs=vs.toArray:=by
  have:∀(vs us:List Value),ae E (vs.map AV.lit) us→us=vs:=by
   intro vs
   induction vs with
   | nil=>intro us h; cases us with
    |nil=>rfl
    |cons _ _=>simp[ae]at h
   | cons v vs d =>
    intro us h;cases us with
    |nil=>simp[ae]at h
    | cons u us =>
     simp only[dg,ae,rel]at h;rw[h.1,d us h.2]
  have:=this vs cargs.toList b;rw[←this]
 rw[e];refine(h E.w).mono ?_;rintro _ w' ⟨rfl,a⟩;refine⟨u,.lit u,H,rfl,⟨rfl,rfl⟩,E.loc,E.X.r,by simp[rel],?_,?_⟩
 ·rw[←hH]; exact HE.ext a
 ·rw[←hH]; exact Env.fK a
end Go.AL

namespace Go.AL
open Go
variable [Dr]
def kU(ks:List Kd):AV→Option (List (List G))
 |.nils | .lit (.slice none 0 0)=>some []
 |.emptyS _=>some []
 |.listF a rows=>if Kd.fy ks a then some rows else none
 | .list w rows=>match j5 ks rows with
  |some gs=>if w=ks.length then some gs else none
  |none=>none
 |_=>none
def zf(ks:List Kd):AV→Option (List G)
 |.agg cells=>eU ks cells
 |_=>none
theorem Fl{E:Env}{ks:List Kd}{a:AV}{rows:List (List G)}{c:Value}(h:kU ks a=some rows)(hr:rel E a c):rel E (.listF ks rows) c:=by
 unfold kU at h;split at h
 ·cases h
  simp only[rel,db,G.rows]at hr⊢;obtain⟨base,rfl⟩:=hr;exact⟨base,0,rfl,aB _,.inl trivial⟩
 ·cases h
  simp only[rel,db,G.rows]at hr⊢;subst hr;exact⟨none,0,rfl,aB _,.inl trivial⟩
 ·cases h
  simp only[rel,db,G.rows]at hr⊢;obtain⟨base,cap,rfl,_⟩:=hr;exact⟨base,cap,rfl,fI _,.inl trivial⟩
 ·split at h
  ·rename_i hs
   cases h;rw[Kd.gE hs];exact hr
  ·cases h
 ·split at h
  ·rename_i gs b
   split at h
   ·rename_i hw
    cases h;rw[gM,nc b];subst hw;exact hr
   ·cases h
  ·cases h
 ·cases h
theorem Fm{ks:List Kd}{a:AV}{r:List G}(h:zf ks a=some r):a=.agg (ax ks r):=by
 unfold zf at h;split at h
 ·rw[iV h]
 ·cases h
end Go.AL

namespace Go.AL
open Go
variable [Dr]
structure bx where
 ids:List Nat
 sh:List Nat
 base:Nat
def bx.at(e:bx)(j:Nat):Nat:=match e.ids[j]? with
 |some i=>i
 |none=>e.base+(j-e.ids.length)
def bx.up(e:bx)(j:Nat):Nat:=e.sh.getD j 0
mutual
def AV.bK(e:bx):AV→AV
 |.agg cs=>.agg (AV.iB e cs)
 |.tuple cs=>.tuple (AV.iB e cs)
 |.clo f cs=>.clo f (AV.iB e cs)
 |.ptr id ad k row col=>.ptr (e.at id) (ad+e.up id) k row col
 |.vec k id ad off n=>.vec k (e.at id) (ad+e.up id) off n
 |.map id=>.map (e.at id)
 |.sub ..=>.undef
 |a=>a
def AV.iB(e:bx):List AV→List AV
 | []=>[]
 |a::as=>a.bK e::AV.iB e as
end
def ab.bK(e:bx)(j:Nat):ab→ab
 |.box cells=>.box (AV.iB e cells)
 |.vec k v rows=>.vec k (v+e.up j) rows
 |o=>o
theorem Fo(e:bx):∀(as:List AV),(AV.iB e as).length=as.length
 | []=>rfl
 |_::as=>by simp[AV.iB,Fo e as]
mutual
def AV.bq:AV→Bool
 |.agg cs | .tuple cs | .clo _ cs=>AV.bS cs
 |.list .. | .listF .. | .cptr _=>false
 |_=>true
def AV.bS:List AV→Bool
 | []=>true
 |a::as=>a.bq&&AV.bS as
end
structure nq (S:Bool) (e:bx) (E E':Env):Prop where
 ok:S=false→∀ b,E.gy b→E'.gy b∧E'.w.heap[b]? = E.w.heap[b]?
 past:∀ j ad,E.past j ad→E'.past (e.at j) (ad+e.up j)
 live:∀ j ad,E.past j ad→E'.live (e.at j) (ad+e.up j)→E.live j ad∧E'.loc[e.at j]? = E.loc[j]?
theorem nq.bh{e:bx}{E E':Env}(h:nq false e E E'):E.bh E':=⟨h.ok rfl⟩
mutual
theorem zg{S:Bool}{e:bx}{E E':Env}(h:nq S e E E'):∀(a:AV) {c:Value},(S=true→a.bq=true)→rel E a c→rel E' (a.bK e) c
 |.undef,_,_,_=>by simp[AV.bK,rel]
 |.lit v,c,_,hr=>by simpa only[AV.bK,rel]using hr
 |.nils,c,_,hr=>by simpa only[AV.bK,rel]using hr
 | .list k rows,c,d,hr=>by
  cases S with
  |true=>exact absurd (d rfl) (by simp[AV.bq])
  |false=>exact cZ h.bh (.list k rows) rfl hr
 | .listF ks rows,c,d,hr=>by
  cases S with
  |true=>exact absurd (d rfl) (by simp[AV.bq])
  |false=>exact cZ h.bh (.listF ks rows) rfl hr
 | .cptr cells,c,d,hr=>by
  cases S with
  |true=>exact absurd (d rfl) (by simp[AV.bq])
  |false=>exact cZ h.bh (.cptr cells) rfl hr
 |.ifc,c,_,hr=>by simpa only[AV.bK,rel]using hr
 |.emptyS n,c,_,hr=>by simpa only[AV.bK,rel]using hr
 |.sub ..,c,_,_=>by simp only[AV.bK,rel]
 | .agg cells,c,d,hr=>by
  simp only[rel]at hr;simp only[AV.bK,rel];obtain⟨cs,i,h1,b⟩:=hr;exact⟨cs,i,h1,uZ h cells (fun e=>by simpa only[AV.bq]using d e) b⟩
 | .tuple cells,c,d,hr=>by
  simp only[rel]at hr;simp only[AV.bK,rel];obtain⟨cs,i,b⟩:=hr;exact⟨cs,i,uZ h cells (fun e=>by simpa only[AV.bq]using d e) b⟩
 | .clo f cells,c,d,hr=>by
  simp only[rel]at hr;simp only[AV.bK,rel];obtain⟨cs,i,b⟩:=hr;exact⟨cs,i,uZ h cells (fun e=>by simpa only[AV.bq]using d e) b⟩
 | .ptr id ad k row col,c,_,hr=>by
  simp only[rel]at hr;simp only[AV.bK,rel];obtain⟨h1,b,l⟩:=hr;refine⟨h1,h.past _ _ b,fun g=>?_⟩;obtain⟨g1,g2⟩:=h.live _ _ b g;rw[g2];exact l g1
 | .vec k id ad off n,c,_,hr=>by
  simp only[rel]at hr;simp only[AV.bK,rel];obtain⟨h1,b,l⟩:=hr;refine⟨h1,h.past _ _ b,fun g=>?_⟩;obtain⟨g1,g2⟩:=h.live _ _ b g;rw[g2];exact l g1
 | .map id,c,_,hr=>by
  simp only[rel]at hr;simp only[AV.bK,rel];obtain⟨h1,b,l⟩:=hr;have t:=h.past _ _ b;refine⟨h1,?_,fun g=>?_⟩
  ·obtain ⟨o, q, r⟩ := t
   exact⟨o,q,r.1,fun v y=>fI _⟩
  ·have hu:e.up id=0:=by
    obtain⟨o,q,r⟩:=t;obtain⟨o2,u,w⟩:=g;rw[q]at u;cases u;have:=r.2 0 w;omega
   obtain⟨g1,g2⟩:=h.live _ _ b (by rw[hu]; exact g);rw[g2];exact l g1
theorem uZ{S:Bool}{e:bx}{E E':Env}(h:nq S e E E'):∀(as:List AV) {vs:List Value},(S=true→AV.bS as=true)→ae E as vs→ae E' (AV.iB e as) vs
 | [],[],_,_=>by simp[AV.iB,ae]
 | [],_::_,_,hr=>by simp[ae]at hr
 |_::_,[],_,hr=>by simp[ae]at hr
 | a::as,v::vs,b,hr=>by
  simp only[AV.bS,aq]at b;simp only[ae]at hr;simp only[AV.iB,ae];exact⟨zg h a (fun e=>(b e).1) hr.1,uZ h as (fun e=>(b e).2) hr.2⟩
end
structure KeepIn (e:bx) (E E':Env):Prop where
 ok:∀ b,E.gy b→E'.gy b∧E'.w.heap[b]? = E.w.heap[b]?
 w:E'.w=E.w
 loc:∀ j,j<e.ids.length→E'.loc[j]? = E.loc[e.at j]?
 gV:∀(j:Nat) o l,E'.H[j]? = some o→o.label=some l→E'.X.r l=E.X.r l
theorem KeepIn.bh{e:bx}{E E':Env}(h:KeepIn e E E'):E.bh E':=⟨h.ok⟩
structure u9 (e:bx) (lU:List Nat) (E E':Env):Prop extends KeepIn e E E' where
 Ov:∀ i,i∈lU→∀ b n,E.loc[i]? = some (some (b,n))→E'.gy b
def dq{α:Type}:List α→List Nat→List α→List α
 |l,i::is,x::xs=>dq (l.set i x) is xs
 |l,_,_=>l
theorem lV{α:Type}:∀(is:List Nat) (l xs:List α),(dq l is xs).length=l.length
 | [],_,_=>by simp[dq]
 |_::_,_,[]=>by simp[dq]
 |i::is,l,x::xs=>by simp[dq,lV is]
theorem u_{α:Type}:∀(is:List Nat) (l xs:List α) (n:Nat),n∉is→(dq l is xs)[n]? = l[n]?
 | [],_,_,_,_=>by simp[dq]
 |_::_,_,[],_,_=>by simp[dq]
 | i::is,l,x::xs,n,h=>by
  simp only[bN,not_or]at h;simp only[dq];rw[u_ is _ xs n h.2,aJ (Ne.symm h.1)]
theorem Fp{α:Type}:∀(is:List Nat) (l xs:List α) (j i:Nat) (x:α),is.Nodup→is[j]? = some i→xs[j]? = some x→i<l.length→(dq l is xs)[i]? = some x
 | [],_,_,_,_,_,_,h,_,_=>by simp at h
 |_::_,_,[],_,_,_,_,_,h,_=>by simp at h
 | k::is,l,y::xs,0,i,x,b,h1,a,d=>by
  simp at h1 a;subst h1; subst a;simp only[dq];have:k∉is:=(gJ.1 b).1;rw[u_ is _ xs k this,List.getElem?_set_self d]
 | k::is,l,y::xs,j+1,i,x,b,h1,a,d=>by
  simp only[dq];exact Fp is _ xs j i x (gJ.1 b).2 (by simpa using h1) (by simpa using a) (by simpa using d)
def ab.va(e:bx)(j:Nat):ab→Bool
 |.dead=>true
 |.vec _ _ _=>true
 |_=>ah (e.up j) 0
def iX(e:bx):Nat→List ab→List ab
 |_,[]=>[]
 |j,o::os=>o.bK e j::iX e (j+1) os
def iY(e:bx):Nat→List ab→Bool
 |_,[]=>true
 |j,o::os=>o.va e j&&iY e (j+1) os
theorem zh(e:bx):∀(j:Nat) (os:List ab),(iX e j os).length=os.length
 |_,[]=>rfl
 |j,_::os=>by simp[iX,zh e (j+1) os]
theorem Fq(e:bx):∀(j:Nat) (os:List ab) (i:Nat),(iX e j os)[i]? = (os[i]?).map (ab.bK e (j+i))
 |_,[],i=>by simp[iX]
 |j,o::os,0=>by simp[iX]
 | j,o::os,i+1=>by
  simp only[iX,List.getElem?_cons_succ,Fq e (j+1) os i];rw[show j+1+i=j+(i+1) from by omega]
theorem Fs{e:bx}:∀{j:Nat} {os:List ab} {i:Nat} {o:ab},iY e j os=true→os[i]? = some o→o.va e (j+i)=true
 |_,[],i,_,_,h=>by simp at h
 | j,_::os,0,o,h,hi=>by
  simp only[iY,aq]at h;simp at hi;subst hi;exact h.1
 | j,_::os,i+1,o,h,hi=>by
  simp only[iY,aq]at h;have:=Fs h.2 (by simpa using hi)
  rwa [show j+1+i=j+(i+1) from by omega]at this
theorem rh{e:bx}{j:Nat}{o:ab}(h:o.va e j=true)(v:Nat):(o.bK e j).aw = some v↔∃ u,o.aw = some u∧v=u+e.up j:=by
 cases o with
 |dead=>simp[ab.bK,ab.aw]
 |c6=>simp[ab.bK,ab.aw]
 |vec k u rows=>simp[ab.bK,ab.aw,eq_comm]
 | box cells =>
  have:=aR h;simp[ab.bK,ab.aw,this,eq_comm]
 | map es cl =>
  have:=aR h;simp[ab.bK,ab.aw,this,eq_comm]
 | iter s p =>
  have:=aR h;simp[ab.bK,ab.aw,this,eq_comm]
 | dC l T B s =>
  have:=aR h;simp[ab.bK,ab.aw,this,eq_comm]
 | aM l k es cl =>
  have:=aR h;simp[ab.bK,ab.aw,this,eq_comm]
 | mm l es ms cl =>
  have:=aR h;simp[ab.bK,ab.aw,this,eq_comm]
theorem Ft(e:bx)(j:Nat)(o:ab):(o.bK e j).born=o.born:=by cases o<;>rfl
theorem Fu(e:bx)(j:Nat)(o:ab):(o.bK e j).label=o.label:=by cases o<;>rfl
theorem Ow(e:bx)(j:Nat)(o:ab):(o.bK e j).cF=o.cF:=by cases o<;>rfl
def ab.bq:ab→Bool
 |.box cells=>AV.bS cells
 |.vec _ _ rows=>rows.all fun r=>AV.bS r
 |.map es _=>es.all fun x=>x.1.bq&&x.2.1.bq
 | .aM _ _ es _=>es.all fun x=>x.1.bq&&(match x.2.1 with
  |some rows=>rows.all fun r=>AV.bS r
  |none=>true)
 |.mm _ es ms _=>(es.all fun x=>x.1.bq)&&ms.all fun m=>m.1.all fun x=>x.1.bq&&x.2.1.bq
 |_=>true
theorem Fv{S:Bool}{e:bx}{E E':Env}(h:nq S e E E'){b:Nat}(g:E'.w.heap[b]? = E.w.heap[b]?):∀(as:List AV) {o:Nat},(S=true→AV.bS as=true)→bO E as b o→bO E' (AV.iB e as) b o
 | [],_,_,_=>by simp[AV.iB,bO]
 | a::as,o,d,hr=>by
  simp only[AV.bS,aq]at d;simp only[bO]at hr;simp only[AV.iB,bO];obtain⟨⟨v,h1,i,k⟩,l⟩:=hr;exact⟨⟨v,by rw[World.ob g]; exact h1,i,zg h a (fun e=>(d e).1) k⟩,Fv h g as (fun e=>(d e).2) l⟩
mutual
theorem vc{E E':Env}:∀(a:AV) {c:Value},a.closed=true→a.bq=true→rel E a c→rel E' a c
 |.undef,_,_,_,_=>by simp[rel]
 |.lit v,c,_,_,hr=>by simpa only[rel]using hr
 |.nils,c,_,_,hr=>by simpa only[rel]using hr
 |.ifc,c,_,_,hr=>by simpa only[rel]using hr
 |.emptyS n,c,_,_,hr=>by simpa only[rel]using hr
 |.list ..,_,_,h,_ | .listF ..,_,_,h,_ | .cptr _,_,_,h,_=>by simp[AV.bq]at h
 |.ptr ..,_,h,_,_ | .vec ..,_,h,_,_ | .map _,_,h,_,_=>by simp[AV.closed]at h
 | .agg cells,c,b,hs,hr=>by
  simp only[rel]at hr⊢;obtain⟨cs,e,h1,d⟩:=hr;exact⟨cs,e,h1,vd cells (by simpa only[AV.closed]using b) (by simpa only[AV.bq]using hs) d⟩
 | .tuple cells,c,b,hs,hr=>by
  simp only[rel]at hr⊢;obtain⟨cs,e,d⟩:=hr;exact⟨cs,e,vd cells (by simpa only[AV.closed]using b) (by simpa only[AV.bq]using hs) d⟩
 | .clo f cells,c,b,hs,hr=>by
  simp only[rel]at hr⊢;obtain⟨cs,e,d⟩:=hr;exact⟨cs,e,vd cells (by simpa only[AV.closed]using b) (by simpa only[AV.bq]using hs) d⟩
theorem vd{E E':Env}:∀(as:List AV) {vs:List Value},AV.aV as=true→AV.bS as=true→ae E as vs→ae E' as vs
 | [],[],_,_,_=>by simp[ae]
 | [],_::_,_,_,hr=>by simp[ae]at hr
 |_::_,[],_,_,hr=>by simp[ae]at hr
 | a::as,v::vs,b,hs,hr=>by
  simp only[AV.aV,AV.bS,aq]at b hs;simp only[ae]at hr⊢;exact⟨vc a b.1 hs.1 hr.1,vd as b.2 hs.2 hr.2⟩
end
theorem Fw{E E':Env}{b:Nat}(g:E'.w.heap[b]? = E.w.heap[b]?):∀(as:List AV) {o:Nat},AV.aV as=true→AV.bS as=true→bO E as b o→bO E' as b o
 | [],_,_,_,_=>by simp[bO]
 | a::as,o,d,hs,hr=>by
  simp only[AV.aV,AV.bS,aq]at d hs;simp only[bO]at hr⊢;obtain⟨⟨v,h1,h,i⟩,k⟩:=hr;exact⟨⟨v,by rw[World.ob g]; exact h1,h,vc a d.1 hs.1 i⟩,Fw g as d.2 hs.2 k⟩
theorem zi{E E':Env}{b k:Nat}(a:E'.w.heap[b]? = E.w.heap[b]?):∀(rs:List (List AV)) {o:Nat},dW rs→(rs.all fun r=>AV.bS r)=true→bU E k rs b o→bU E' k rs b o
 | [],_,_,_,_=>by simp[bU]
 | r::rs,o,d,hs,hr=>by
  simp only[ls,aq]at hs;simp only[bU]at hr⊢;exact⟨hr.1,Fw a r (d r cW) hs.1 hr.2.1,zi a rs (fun x g=>d x (da _ g)) hs.2 hr.2.2⟩
theorem rj{E E':Env}:∀{es:List (AV × AV × Nat)} {ms:List MapEntry},(es.all fun x=>x.1.bq&&x.2.1.bq)=true→ba E es ms→ba E' es ms
 | [],[],_,_=>by simp[ba]
 | (k,v,n)::es,e::ms,hs,hr=>by
  simp only[ls,aq]at hs;simp only[ba]at hr⊢;obtain⟨h1,d,g,a,b,h⟩:=hr;exact⟨vc k a hs.1.1 h1,vc v b hs.1.2 d,g,a,b,rj hs.2 h⟩
 | [],_::_,_,hr=>by simp[ba]at hr
 |_::_,[],_,hr=>by simp[ba]at hr
theorem gF{E E':Env}(h:E.bh E'):∀{es:List (AV × AV × Nat)} {ms:List MapEntry},ba E es ms→ba E' es ms
 | [],[],_=>by simp[ba]
 | (k,v,n)::es,e::ms,hr=>by
  simp only[ba]at hr⊢;obtain⟨h1,d,g,a,b,i⟩:=hr;exact⟨cZ h k a h1,cZ h v b d,g,a,b,gF h i⟩
 | [],_::_,hr=>by simp[ba]at hr
 |_::_,[],hr=>by simp[ba]at hr
theorem Ox{S:Bool}{e:bx}{E E':Env}(h:nq S e E E'){j:Nat}{o:ab}(N:S=true→o.bq=true)(u:E'.loc[e.at j]? = E.loc[j]?) (A:∀ b n,E.loc[j]? = some (some (b,n))→E'.w.heap[b]? = E.w.heap[b]?)
  (O:∀ l,o.label=some l→E'.X.r l=E.X.r l∧∀(h g m:Nat),(E.X.r l)[h]? = some (some (some (g,m)))→E'.w.heap[g]? = E.w.heap[g]?)
  (I:aD E j o):aD E' (e.at j) (o.bK e j):=by
 cases o with
 |dead=>simp only[ab.bK,aD]at *; rw[u]; exact I
 |c6=>simp only[ab.bK,aD]at *; rw[u]; exact I
 | box cells =>
  simp only[ab.bK,aD]at *;obtain⟨b,n,h1,a,d⟩:=I;exact⟨b,n,by rw[u,h1],by rw[Fo]; exact oe (A b n h1) a,Fv h (A b n h1) cells (fun e=>by simpa only[ab.bq]using N e) d⟩
 | vec k ad rows =>
  simp only[ab.bK,aD]at *;rcases I with⟨h1,a⟩|⟨b,m,h1,a,d,D,t⟩
  ·exact .inl ⟨by rw[u,h1],a⟩
  ·refine .inr ⟨b, m, by rw [u, h1], oe (A b m h1) a, d, D, ?_⟩
   cases S with
   |true=>exact zi (A b m h1) rows D (by simpa only[ab.bq]using N rfl) t
   |false=>exact jk h.bh rows D (A b m h1) t
 | map es clock =>
  simp only[ab.bK,aD]at *;obtain⟨b,n,ms,h1,a,d⟩:=I;refine⟨b,n,ms,by rw[u,h1],by rw[A b n h1,a],?_⟩;cases S with
  |true=>exact rj (by simpa only[ab.bq]using N rfl) d
  |false=>exact gF h.bh d
 | iter s pos =>
  simp only[ab.bK,aD]at *;obtain⟨b,n,h1,a⟩:=I;exact⟨b,n,by rw[u,h1],by rw[A b n h1,a]⟩
 | dC l T B s =>
  simp only[ab.bK,aD]at *;obtain⟨b,n,p,v,k,q,h1,a,d,D,t,h6⟩:=I;obtain⟨g1,g2⟩:=O l rfl;exact⟨b,n,p,v,k,q,by rw[u,h1],by rw[A b n h1,a],d,by rw[g1,D],by rw[g1]; exact t,xr (fun g m e=>g2 k g m (by rw[D,e])) h6⟩
 | aM l k es clock =>
  simp only[ab.bK,aD]at *;obtain⟨b,n,ms,h1,a,d,D⟩:=I;obtain⟨g1,g2⟩:=O l rfl;have M:S=true→∀ x∈es,x.1.bq=true∧∀ rows,x.2.1=some rows→(rows.all fun r=>AV.bS r)=true:=fun e x J=>by
   have t:=cC.1 (by simpa only[ab.bq]using N e) x J;simp only[aq]at t;exact⟨t.1,fun rows hr=>by rw[hr]at t; exact t.2⟩
  refine⟨b,n,ms,by rw[u,h1],by rw[A b n h1,a],?_,p9 (fun h g m hk=>⟨by rw[g1]; exact hk,g2 h g m hk⟩) (fun i x rows hi J b U V hr=>?_) D⟩
  ·cases S with
   | true =>
    refine rj (cC.2 fun x J=>?_) d;obtain⟨y,R,rfl⟩:=dJ.1 J;simp[(M rfl y R).1,AV.bq]
   |false=>exact gF h.bh d
  ·cases S with
   |true=>exact zi U rows V ((M rfl x (dK hi)).2 rows J) hr
   |false=>exact jk h.bh rows V U hr
 | mm l es ms clock =>
  simp only[ab.bK,aD]at *;obtain⟨b,n,Y,h1,a,d,D⟩:=I;obtain⟨g1,g2⟩:=O l rfl;have M:S=true→(es.all fun x=>x.1.bq)=true∧∀ m∈ms,(m.1.all fun x=>x.1.bq&&x.2.1.bq)=true:=fun e=>by
   have t:=N e;simp only[ab.bq,aq]at t;exact⟨t.1,cC.1 t.2⟩
  refine⟨b,n,Y,by rw[u,h1],by rw[A b n h1,a],?_,xw g1 g2 (fun m hm q W=>?_) D⟩
  ·cases S with
   | true =>
    refine rj (cC.2 fun x J=>?_) d;obtain⟨y,R,rfl⟩:=dJ.1 J;simp[cC.1 (M rfl).1 y R,AV.bq]
   |false=>exact gF h.bh d
  ·cases S with
   |true=>exact rj ((M rfl).2 m hm) W
   |false=>exact gF h.bh W
def lW(e:bx)(H H1:List ab):List ab:=dq H e.ids (iX e 0 H1)++(iX e 0 H1).drop e.ids.length
theorem fE{e:bx}{j:Nat}(h:j<e.ids.length):e.ids[j]? = some (e.at j):=by
 simp[bx.at,h]
theorem oW{e:bx}{j:Nat}(h:e.ids.length≤j):e.at j=e.base+(j-e.ids.length):=by
 simp[bx.at,List.getElem?_eq_none h]
theorem Fx{α:Type}{e:bx}{H xs:List α}(d:e.ids.Nodup)(a:∀ j,j<e.ids.length→e.at j<H.length)(g:e.base=H.length)(i:e.ids.length≤xs.length)(j:Nat) :
  (dq H e.ids xs++xs.drop e.ids.length)[e.at j]? = xs[j]? := by
 rcases gr j e.ids.length with h|h
 ·rw [cn (by rw [lV]; exact a j h)]
  have b:j<xs.length:=cM h i;rw[Fp e.ids H xs j (e.at j) xs[j] d (fE h) (bC b) (a j h),bC b]
 ·rw [oW h, g, gI (by rw [lV]; omega), lV, nP]
  congr 1;omega
theorem zk{α:Type}{e:bx}{H xs:List α}{i:Nat}(hi:i∉e.ids)(a:i<H.length):(dq H e.ids xs++xs.drop e.ids.length)[i]? = H[i]? := by
 rw[cn (by rw[lV]; exact a),u_ e.ids H xs i hi]
theorem lX{α:Type}{e:bx}{H xs:List α}{i:Nat}{x:α}(g:e.base=H.length)(h:(dq H e.ids xs++xs.drop e.ids.length)[i]? = some x) :
  (i∉e.ids∧i<H.length∧H[i]? = some x)∨∃ j,i=e.at j:=by
 by_cases hm:i∈e.ids
 ·right
  obtain⟨j,b,rfl⟩:=pM hm;refine⟨j,?_⟩;have:=fE b;rw[bC b]at this;exact(fa this)
 ·rcases gr i H.length with a | d
  ·left
   exact⟨hm,a,by rw[zk hm a]at h; exact h⟩
  ·right
   refine⟨e.ids.length+(i-H.length),?_⟩;rw[oW (by omega)];omega
theorem frame(S:Bool)(lU:List Nat){P:Program}{f:FuncId}{args:List AV}{H0 H1 H:List ab}{v:AV}{e:bx}(hc:c9 P f args H0 v H1)(hk:e.ids.length=H0.length)(hb:e.base=H.length)(hn:e.ids.Nodup)
  (YE:∀ j o,H0[j]? = some o→∃ o',H[e.at j]? = some o'∧o.born=true∧∀ v,o'.aw = some v↔∃ u,o.aw = some u∧v=u+e.up j)
  (YT:∀ E E0,E.H=H→ak E→u9 e lU E E0→E0.H=H0→∀ j o,H0[j]? = some o→aD E0 j o) (YX:iY e 0 H1=true) (Y4:H0.length≤H1.length) (YN:S=false→lU=[])
  (YY:S=true→v.bq=true) (YZ:S=true→(H1.all ab.bq)=true) (YU:∀ i,i∈lU→i∉e.ids)
  (hlab:∀(j:Nat) o o',H0[j]? = some o→H[e.at j]? = some o'→o'.label=o.label) (YO:∀(j:Nat) o l,H1[j]? = some o→o.label=some l→∃ o0,H0[j]? = some o0∧o0.label=some l)
  (YP:∀(j:Nat) o o',H0[j]? = some o→H[e.at j]? = some o'→o'.cF=o.cF) {args0:List AV}
  (YL:∀ E E0 cs,E.H=H→ak E→u9 e lU E E0→E0.H=H0→ae E args0 cs→ae E0 args cs) :
  c9 P f args0 H (v.bK e) (lW e H H1):=by
 intro E cargs I HE YQ;have Ym:E.loc.length=H.length:=by rw[HE.len,I]
 have YB:∀ j,j<e.ids.length→e.at j<H.length:=fun j A=>by
  have Yi:j<H0.length:=by omega
  obtain⟨o',h1,_⟩:=YE j H0[j] (bC Yi);exact az h1
 have Yt:∀ j,j<e.ids.length→e.at j∈e.ids:=fun j A=>dK (fE A)
 let pl:Nat→Prop:=fun l=>∃(j:Nat) (o:ab),H0[j]? = some o∧o.label=some l
 have:DecidablePred pl:=fun l=>X8 (pl l)
 let r0:Nat→List (Option (Option (Nat × Nat))):=fun l=>if pl l then E.X.r l else []
 have Yq:∀ l,pl l→r0 l=E.X.r l:=fun l h=>if_pos h;have Yg:∀ l (h:Nat) q,(r0 l)[h]? = some q→pl l∧(E.X.r l)[h]? = some q:=fun l h q U=>by
  by_cases y:pl l
  ·rw[Yq l y]at U; exact⟨y,U⟩
  ·rw[show r0 l=[] from if_neg y]at U; simp at U
 let X0:XS:=⟨fun b=>E.X b∨(∃ i c,i∉e.ids∧i∉lU∧E.loc[i]? = some (some (b,c)))∨∃(l h m:Nat),¬ pl l∧(E.X.r l)[h]? = some (some (some (b,m))),E.X.z,r0⟩
 let Yd:List (Option (Nat × Nat)):=e.ids.map fun i=>E.loc.getD i none
 let E0:Env:={ w:=E.w,H:=H0,loc:=Yd,X:=X0 }
 have Yj:∀ j,j<e.ids.length→Yd[j]? = E.loc[e.at j]? := fun j A=>by
  simp only[Yd,b7,fE A,eZ];have:e.at j<E.loc.length:=by rw[Ym]; exact YB j A
  rw[cD,bC this];rfl
 have Yn:Yd.length=e.ids.length:=by simp[Yd]
 have YR:∀ j ad,E.past (e.at j) ad→j<e.ids.length:=by
  rintro j ad ⟨o,N,_⟩;rcases gr j e.ids.length with h|h
  ·exact h
  ·have := az N
   rw[I,oW h,hb]at this;omega
 have Ye:∀ j,j<e.ids.length→∃ o o',H0[j]? = some o∧E.H[e.at j]? = some o'∧o.born=true∧∀ v,o'.aw = some v↔∃ u,o.aw = some u∧v=u+e.up j:=fun j A=>by
  have Yi:j<H0.length:=by omega
  obtain⟨o',h1,d⟩:=YE j H0[j] (bC Yi);exact⟨H0[j],o',bC Yi,by rw[I]; exact h1,d⟩
 have Yy:∀ b,E0.own b→E.own b:=by
  rintro b (⟨id,c,hid⟩|⟨l,k,c,D⟩)
  case inr=>exact .inr ⟨l,k,c,(Yg l k _ D).2⟩
  have B:=az hid;rw[show E0.loc=Yd from rfl]at hid B;rw[Yn]at B;rw[Yj id B]at hid;exact .inl ⟨_,c,hid⟩
 have YK:KeepIn e E E0:=by
  refine⟨fun b Yc=>⟨⟨Yc.1,fun N=>Yc.2.1 (Yy b N),?_⟩,rfl⟩,rfl,Yj,fun j o l h1 d=>Yq l ⟨j,o,h1,d⟩⟩;rintro(J|⟨i,c,_,_,hi⟩|⟨l,k,c,_,D⟩)
  ·exact Yc.2.2 J
  ·exact Yc.2.1 (.inl ⟨i,c,hi⟩)
  ·exact Yc.2.1 (.inr ⟨l,k,c,D⟩)
 have YV:∀ j ad,E.past (e.at j) (ad+e.up j)→E0.past j ad:=fun j ad y=>by
  obtain⟨o,oo,h1,d,M,h3⟩:=Ye j (YR j _ y);obtain⟨o',h4,h5⟩:=y;rw[d]at h4;cases h4;refine⟨o,h1,M,fun v V=>?_⟩;have:=h5.2 (v+e.up j) ((h3 _).2 ⟨v,V,rfl⟩);omega
 have Yo:∀ i b n,i∉e.ids→E.loc[i]? = some (some (b,n))→¬ E0.own b:=by
  rintro i b n hi M (⟨id,c',hid⟩|⟨l,k,c,D⟩)
  case inr=>exact HE.cd _ _ _ _ _ _ M (Yg l k _ D).2
  have B:=az hid;rw[show E0.loc=Yd from rfl]at hid B;rw[Yn]at B;rw[Yj id B]at hid;have:=HE.inj _ _ _ _ _ M hid;exact hi (this▸Yt id B)
 have YF:u9 e lU E E0:=by
  refine⟨YK,fun i hi b n M=>⟨(HE.lt _ _ _ M).1,Yo i b n (YU i hi) M,?_⟩⟩;rintro(J|⟨O,c,_,d,Y⟩|⟨l,k,c,_,D⟩)
  ·exact(HE.lt _ _ _ M).2 J
  ·have := HE.inj _ _ _ _ _ Y M
   exact d (this▸hi)
  ·exact HE.cd _ _ _ _ _ _ M D
 have Y0:ak E0:=by
  have conv:∀{j:Nat} {x:Option (Nat × Nat)},Yd[j]? = some x→j<e.ids.length∧E.loc[e.at j]? = some x:=by
   intro j x J;have B:=az J;rw[Yn]at B;exact⟨B,by rw[←Yj j B]; exact J⟩
  refine⟨by rw[show E0.loc=Yd from rfl,Yn,hk],?_,?_,?_,?_,HE.dX.bh YK.bh,fun l k l' k' b m n h1 d=>HE.dD l k l' k' b m n (Yg l k _ h1).2 (Yg l' k' _ d).2,fun i b m l k n hi d=>HE.cd _ b m l k n (conv hi).2 (Yg l k _ d).2,?_,?_,?_⟩
  ·intro i j b m n hi A
   obtain⟨i1,i2⟩:=conv hi
   obtain⟨W,j2⟩:=conv A
   have:=HE.inj _ _ _ _ _ i2 j2;exact(xc i1 hn).1 (by rw[fE i1,fE W,this])
  ·intro i b m hi
   obtain⟨i1,i2⟩:=conv hi
   refine⟨(HE.lt _ _ _ i2).1,?_⟩;rintro(J|⟨O,c,Y1,_,Y⟩|⟨l,k,c,_,D⟩)
   ·exact(HE.lt _ _ _ i2).2 J
   ·have := HE.inj _ _ _ _ _ Y i2
    exact Y1 (this▸Yt i i1)
   ·exact HE.cd _ _ _ _ _ _ i2 D
  ·rintro b (J | ⟨O, c, _, _, Y⟩ | ⟨l, k, c, _, D⟩)
   ·exact HE.X b J
   ·exact(HE.lt _ _ _ Y).1
   ·exact(HE.bR _ _ _ _ D).1
  ·intro j o N
   have A:j<e.ids.length:=by rw[hk]; exact az N
   exact YT E E0 I HE YF rfl j o N
  ·intro l k b m h1
   obtain⟨y,d⟩:=Yg l k _ h1;refine⟨(HE.bR _ _ _ _ d).1,?_⟩;rintro(J|⟨O,c,_,_,Y⟩|⟨l',k',c,YC,D⟩)
   ·exact(HE.bR _ _ _ _ d).2 J
   ·exact HE.cd _ _ _ _ _ _ Y d
   ·exact YC ((HE.dD _ _ _ _ _ _ _ d D).1▸y)
  ·intro i j o o' l hi A h1 d
   have i1:i<e.ids.length:=by rw[hk]; exact az hi
   have W:j<e.ids.length:=by rw[hk]; exact az A
   obtain⟨_,oi,R,a2,_⟩:=Ye i i1;obtain⟨_,oj,b1,b2,_⟩:=Ye j W;have ei:=hlab i o oi hi (by rw[←I]; exact a2);have ej:=hlab j o' oj A (by rw[←I]; exact b2);have:=HE.uniq _ _ _ _ l a2 b2 (by rw[ei,h1]) (by rw[ej,d]);exact(xc i1 hn).1 (by rw[fE i1,fE W,this])
  ·intro l Yv k q U
   obtain⟨⟨j,o,h1,d⟩,_⟩:=Yg l k _ U;exact Yv j o h1 d
 refine(hc E0 cargs rfl Y0 (YL E E0 _ I HE YF rfl YQ)).mono ?_;rintro _ w' ⟨c,v',H',rfl,⟨rfl,rfl⟩,Yk,r1,g1,g2,g3⟩
 let r':Nat→List (Option (Option (Nat × Nat))):=fun l=>if pl l then r1 l else E.X.r l
 have rp:∀ l,pl l→r' l=r1 l:=fun l h=>if_pos h;have rn:∀ l,¬ pl l→r' l=E.X.r l:=fun l h=>if_neg h;have YG:e.ids.length≤H'.length:=by omega
 have YD:Yk.length=H'.length:=g2.len;have Yl:e.base=E.loc.length:=by rw[Ym]; exact hb
 have Y5:e.base=E.H.length:=by rw[I]; exact hb
 let Yz:List (Option (Nat × Nat)):=dq E.loc e.ids Yk++Yk.drop e.ids.length
 let E1:Env:={ w:=w',H:=H',loc:=Yk,X:=X0.re r1 }
 let E':Env:={ w:=w',H:=lW e H H',loc:=Yz,X:=E.X.re r' }
 have Yf:∀ j,E'.H[e.at j]? = (H'[j]?).map (ab.bK e j):=fun j=>by
  have:=Fx (e:=e) (H:=H) (xs:=iX e 0 H') hn YB hb (by rw[zh]; exact YG) j;rw[Fq,dL]at this;exact this
 have fF:∀ j,E'.loc[e.at j]? = Yk[j]? := fun j =>
  Fx (e:=e) (H:=E.loc) (xs:=Yk) hn (fun j A=>by rw[Ym]; exact YB j A) Yl (by rw[YD]; exact YG) j
 have Yu:∀ i,i∉e.ids→i<H.length→E'.H[i]? = E.H[i]? := fun i hi B=>by
  rw[I];exact zk (e:=e) hi B
 have YH:∀ i,i∉e.ids→i<H.length→E'.loc[i]? = E.loc[i]? := fun i hi B=>zk (e:=e) hi (by rw[Ym]; exact B);have Yp:∀(j:Nat) (o:ab),H'[j]? = some o→o.va e j=true:=fun j o N=>by
  have:=Fs YX N
  rwa [dL]at this
 have YI:∀ b,E'.own b→E1.own b∨(∃ i c,i∉e.ids∧E.loc[i]? = some (some (b,c)))∨∃(l h m:Nat),¬ pl l∧(E.X.r l)[h]? = some (some (some (b,m))):=by
  rintro b (⟨i,c,hi⟩|⟨l,k,c,D⟩)
  ·rcases lX (e := e) Yl hi with ⟨h1, _, h3⟩ | ⟨j, rfl⟩
   ·exact .inr (.inl ⟨i,c,h1,h3⟩)
   ·rw [fF j] at hi
    exact .inl (.inl ⟨j,c,hi⟩)
  ·have D : (r' l)[k]? = some (some (some (b, c))) := D
   by_cases y:pl l
   ·rw [rp l y] at D
    exact .inl (.inr ⟨l,k,c,D⟩)
   ·rw [rn l y] at D
    exact .inr (.inr ⟨l,k,c,y,D⟩)
 have YJ:nq S e E1 E':=by
  refine⟨fun hS b Yc=>⟨⟨Yc.1,fun N=>?_,fun J=>Yc.2.2 (Or.inl J)⟩,rfl⟩,fun j ad y=>?_,fun j ad y hl=>?_⟩
  ·rcases YI b N with h | ⟨i, c, h1, d⟩ | h
   ·exact Yc.2.1 h
   ·exact Yc.2.2 (Or.inr (.inl ⟨i,c,h1,by rw[YN hS]; exact List.not_mem_nil,d⟩))
   ·exact Yc.2.2 (Or.inr (.inr h))
  ·obtain ⟨o, h1, d⟩ := y
   refine⟨o.bK e j,by rw[Yf j,show H'[j]? = some o from h1]; rfl,by rw[Ft]; exact d.1,fun v V=>?_⟩;obtain⟨u,q1,rfl⟩:=(rh (Yp j o h1) v).1 V;have:=d.2 u q1;omega
  ·obtain ⟨o', h1, d⟩ := hl
   rw[Yf j]at h1;obtain⟨o,h3,rfl⟩:=df.1 h1;obtain⟨u,q1,q2⟩:=(rh (Yp j o h3) _).1 d;have:u=ad:=by omega
   subst this;exact⟨⟨o,h3,q1⟩,fF j⟩
 have hle:E.le E':=by
  refine⟨fun i ad y=>?_,g3.size,fun b B N=>g3.same b B (fun h=>N (Yy b h)),fun b B N h'=>?_,fun i ad y hl=>?_,⟨rfl,rfl⟩,fun l k D=>?_,g3.env,fun i l o h1 d V=>?_⟩
  rotate_right
  ·by_cases hi : i ∈ e.ids
   ·obtain ⟨j, A, rfl⟩ := pM hi
    have Yh:e.ids[j]=e.at j:=by
     have:=fE A;rw[bC A]at this;exact fa this
    rw[Yh]at h1 V⊢;obtain⟨o0,oo,k1,k2,M,k3⟩:=Ye j A;have em:o.cF=o0.cF:=YP j o0 o k1 (by rw[←I]; exact h1);have Y2:o0.label=some l:=ab.jh (by rw[←em]; exact d);have y:pl l:=⟨j,o0,k1,Y2⟩
    obtain⟨o',w1,w2⟩:=V;rw[Yf j]at w1;obtain⟨o1,r3,rfl⟩:=df.1 w1;obtain⟨u,q1,q2⟩:=(rh (Yp j o1 r3) _).1 w2;have hu:u=0:=by omega
    subst hu;obtain⟨⟨t,ht⟩,o2,s1,s2⟩:=g3.grow j l o0 k1 (by rw[←em]; exact d) ⟨o1,r3,q1⟩;have Y3:r1 l=E.X.r l++t:=by
     rw[←Yq l y];exact ht
    refine⟨⟨t,by rw[show E'.X.r l=r' l from rfl,rp l y]; exact Y3⟩,o2.bK e j,?_,by rw[Ow]; exact s2⟩;rw[Yf j,show H'[j]? = some o2 from s1];rfl
   ·have B := az h1
    rw[I]at B;have YC:¬ pl l:=by
     rintro⟨j,o0,R,a2⟩;have W:j<e.ids.length:=by rw[hk]; exact az R
     obtain⟨_,oj,b1,b2,_⟩:=Ye j W;have h3:=HE.uniq _ _ _ _ l h1 b2 (ab.jh d) (by rw[hlab j o0 oj R (by rw[←I]; exact b2),a2]);exact hi (h3▸Yt j W)
    exact⟨⟨[],by rw[List.append_nil,show E'.X.r l=r' l from rfl,rn l YC]⟩,o,by rw[Yu i hi B]; exact h1,d⟩
  ·by_cases hi : i ∈ e.ids
   ·obtain ⟨j, A, rfl⟩ := pM hi
    have Yh:e.ids[j]=e.at j:=by
     have:=fE A;rw[bC A]at this;exact fa this
    rw[Yh]at y⊢;obtain⟨o0,oo,h1,d,M,h3⟩:=Ye j A;obtain⟨o,h4,h5⟩:=y;rw[d]at h4;cases h4;have Yr:j<H'.length:=by omega
    have YW:H'[j].born=true:=by
     have p0:E0.past j 0:=⟨o0,h1,M,fun v _=>fI v⟩
     obtain⟨o2,r1,r2⟩:=g3.past j _ p0;rw[show E1.H=H' from rfl,bC Yr]at r1;cases r1;exact r2.1
    refine⟨H'[j].bK e j,by rw[Yf j,bC Yr]; rfl,by rw[Ft]; exact YW,fun v V=>?_⟩;obtain⟨u,q1,rfl⟩:=(rh (Yp j _ (bC Yr)) v).1 V;cases hz:o0.aw with
    | none =>
     have p0:E0.past j (u+1):=⟨o0,h1,M,fun v V=>by rw[hz]at V; cases V⟩
     obtain⟨o2,r1,r2⟩:=g3.past j _ p0;rw[show E1.H=H' from rfl,bC Yr]at r1;cases r1;have:=r2.2 u q1;omega
    | some u0 =>
     have p0:E0.past j u0:=⟨o0,h1,M,fun v V=>by rw[hz]at V; cases V; exact aB _⟩
     obtain⟨o2,r1,r2⟩:=g3.past j _ p0;rw[show E1.H=H' from rfl,bC Yr]at r1;cases r1;have:=r2.2 u q1;have:=h5.2 (u0+e.up j) ((h3 _).2 ⟨u0,hz,rfl⟩);omega
   ·obtain ⟨o, h1, d⟩ := y
    have B:=az h1;rw[I]at B;exact⟨o,by rw[Yu i hi B]; exact h1,d⟩
  ·rcases YI b h' with h | ⟨i, c, _, d⟩ | ⟨l, k, c, _, d⟩
   ·exact g3.own b B (fun h=>N (Yy b h)) h
   ·exact N (.inl ⟨i,c,d⟩)
   ·exact N (.inr ⟨l,k,c,d⟩)
  ·have B:i<H.length:=by
    obtain⟨o,h1,_⟩:=y;have:=az h1
    rwa [I]at this
   by_cases hi:i∈e.ids
   ·obtain ⟨j, A, rfl⟩ := pM hi
    have Yh:e.ids[j]=e.at j:=by
     have:=fE A;rw[bC A]at this;exact fa this
    rw[Yh]at y hl⊢;obtain⟨o',r1,r2⟩:=hl;rw[Yf j]at r1;obtain⟨o1,r3,rfl⟩:=df.1 r1;obtain⟨u,q1,rfl⟩:=(rh (Yp j o1 r3) _).1 r2;have p0:=YV j u y;obtain⟨⟨o0,s1,s2⟩,s3⟩:=g3.live j u p0 ⟨o1,r3,q1⟩;obtain⟨Y6,oo,h1,d,M,h3⟩:=Ye j A;rw[show E0.H=H0 from rfl,h1]at s1;cases s1;refine⟨⟨_,d,(h3 _).2 ⟨u,s2,rfl⟩⟩,?_⟩;rw[fF j,←Yj j A];exact s3
   ·obtain ⟨o', r1, r2⟩ := hl
    rw[Yu i hi B]at r1;exact⟨⟨o',r1,r2⟩,YH i hi B⟩
  ·by_cases y : pl l
   ·have := g3.rl l k (by show k < (r0 l).length; rw [Yq l y]; exact D)
    rw[show E0.X.r l=r0 l from rfl,Yq l y]at this;rw[show E'.X.r l=r' l from rfl,rp l y];exact this
   ·rw [show E'.X.r l = r' l from rfl, rn l y]
    exact⟨D,fun _ U=>U⟩
 have YA:∀(j:Nat) o l,H'[j]? = some o→o.label=some l→pl l:=fun j o l h1 d=>by
  obtain⟨o0,R,a2⟩:=YO j o l h1 d;exact⟨j,o0,R,a2⟩
 have YS:∀(j:Nat) o l,H0[j]? = some o→o.label=some l→∃ o',E.H[e.at j]? = some o'∧o'.label=some l∧e.at j∈e.ids:=fun j o l h1 d=>by
  have W:j<e.ids.length:=by rw[hk]; exact az h1
  obtain⟨_,oj,b1,b2,_⟩:=Ye j W;exact⟨oj,b2,by rw[hlab j o oj h1 (by rw[←I]; exact b2),d],Yt j W⟩
 have Yx:∀(i:Nat) o l,i∉e.ids→E.H[i]? = some o→o.label=some l→¬ pl l:=fun i o l hi h1 d ⟨j,o0,R,a2⟩=>by
  obtain⟨o',b1,b2,b3⟩:=YS j o0 l R a2;have:=HE.uniq _ _ _ _ l h1 b1 d b2;exact hi (this▸b3)
 have YM:∀(l k b m:Nat),¬ pl l→(E.X.r l)[k]? = some (some (some (b,m)))→¬ E0.own b:=by
  rintro l k b m y h1 (⟨id,c',hid⟩|⟨l',k',c,D⟩)
  ·have B := az hid
   rw[show E0.loc=Yd from rfl]at hid B;rw[Yn]at B;rw[Yj id B]at hid;exact HE.cd _ _ _ _ _ _ hid h1
  ·obtain ⟨q1, q2⟩ := Yg l' k' _ D
   exact y ((HE.dD _ _ _ _ _ _ _ h1 q2).1▸q1)
 refine⟨c,_,_,rfl,⟨rfl,rfl⟩,Yz,r',zg YJ v' YY g1,?_,hle⟩;refine⟨?_,?_,?_,fun b J=>cM (HE.X b J) g3.size,?_,HE.dX.bh hle.toC,?_,?_,?_,?_,?_⟩
 ·simp only[Yz,lW,gu,lV,List.length_drop,zh,Ym,YD]
 ·intro i j b m n hi A
  rcases lX (e:=e) Yl hi with⟨i1,_,i3⟩|⟨O,rfl⟩<;>rcases lX (e:=e) Yl A with⟨W,_,j3⟩|⟨j',rfl⟩
  ·exact HE.inj _ _ _ _ _ i3 j3
  ·rw [fF j'] at A
   exact(g3.own b (HE.lt _ _ _ i3).1 (Yo i b m i1 i3) (.inl ⟨j',n,A⟩)).elim
  ·rw [fF O] at hi
   exact(g3.own b (HE.lt _ _ _ j3).1 (Yo j b n W j3) (.inl ⟨O,m,hi⟩)).elim
  ·rw [fF O] at hi
   rw[fF j']at A;rw[g2.inj _ _ _ _ _ hi A]
 ·intro i b m hi
  rcases lX (e:=e) Yl hi with⟨i1,_,i3⟩|⟨O,rfl⟩
  ·exact⟨cM (HE.lt _ _ _ i3).1 g3.size,(HE.lt _ _ _ i3).2⟩
  ·rw [fF O] at hi
   exact⟨(g2.lt _ _ _ hi).1,fun J=>(g2.lt _ _ _ hi).2 (Or.inl J)⟩
 ·intro i o hi
  have Y:=hi;unfold lW at Y;rcases lX (e:=e) hb Y with⟨i1,i2,i3⟩|⟨j,rfl⟩
  ·refine iN (E := E) (fun a _ hr => bA hle a hr) (YH i i1 i2) (fun b n M => ?_) (fun l hl => ?_) (HE.obj i o (by rw [I]; exact i3))
   ·exact g3.same b (HE.lt _ _ _ M).1 (Yo i b n i1 M)
   ·have y := Yx i o l i1 (by rw [I]; exact i3) hl
    exact⟨rn l y,fun k g m h1=>g3.same g (HE.bR _ _ _ _ h1).1 (YM l k g m y h1)⟩
  ·have h1 := Yf j
   rw[show E'.H=lW e H H' from rfl,hi]at h1;obtain⟨o1,d,rfl⟩:=df.1 h1.symm;exact Ox YJ (fun e=>cC.1 (YZ e) o1 (dK d)) (fF j) (fun _ _ _=>rfl) (fun l hl=>⟨rp l (YA j o1 l d hl),fun _ _ _ _=>rfl⟩) (g2.obj j o1 d)
 ·intro l k l' k' b m n h1 d
  have h1:(r' l)[k]? = some (some (some (b,m))):=h1;have d:(r' l')[k']? = some (some (some (b,n))):=d;by_cases y:pl l<;>by_cases Ys:pl l'
  ·rw [rp l y] at h1
   rw[rp l' Ys]at d;exact g2.dD l k l' k' b m n h1 d
  ·rw [rp l y] at h1
   rw[rn l' Ys]at d;exact((g2.bR l k b m h1).2 (.inr (.inr ⟨l',k',n,Ys,d⟩))).elim
  ·rw [rn l y] at h1
   rw[rp l' Ys]at d;exact((g2.bR l' k' b n d).2 (.inr (.inr ⟨l,k,m,y,h1⟩))).elim
  ·rw [rn l y] at h1
   rw[rn l' Ys]at d;exact HE.dD l k l' k' b m n h1 d
 ·intro i b m l k n hi h1
  have h1:(r' l)[k]? = some (some (some (b,n))):=h1;rcases lX (e:=e) Yl hi with⟨i1,_,i3⟩|⟨O,rfl⟩
  ·by_cases y : pl l
   ·rw [rp l y] at h1
    exact g3.own b (HE.lt _ _ _ i3).1 (Yo i b m i1 i3) (.inr ⟨l,k,n,h1⟩)
   ·rw [rn l y] at h1
    exact HE.cd _ _ _ _ _ _ i3 h1
  ·rw [fF O] at hi
   by_cases y:pl l
   ·rw [rp l y] at h1
    exact g2.cd _ _ _ _ _ _ hi h1
   ·rw [rn l y] at h1
    exact(g2.lt _ _ _ hi).2 (.inr (.inr ⟨l,k,n,y,h1⟩))
 ·intro l k b m h1
  have h1:(r' l)[k]? = some (some (some (b,m))):=h1;by_cases y:pl l
  ·rw [rp l y] at h1
   exact⟨(g2.bR _ _ _ _ h1).1,fun J=>(g2.bR _ _ _ _ h1).2 (.inl J)⟩
  ·rw [rn l y] at h1
   exact⟨cM (HE.bR _ _ _ _ h1).1 g3.size,(HE.bR _ _ _ _ h1).2⟩
 ·have Yw:∀ (j:Nat) o,E'.H[e.at j]? = some o→∃ o1,H'[j]? = some o1∧o.label=o1.label:=fun j o h=>by
   rw[Yf j]at h;obtain⟨o1,d,rfl⟩:=df.1 h;exact⟨o1,d,Fu e j o1⟩
  intro i j o o' l hi A h1 d;have Y:=hi;have Yi:=A;unfold lW at Y Yi;rcases lX (e:=e) hb Y with⟨i1,i2,i3⟩|⟨O,rfl⟩<;>rcases lX (e:=e) hb Yi with⟨W,j2,j3⟩|⟨j',rfl⟩
  ·exact HE.uniq i j o o' l (by rw[I]; exact i3) (by rw[I]; exact j3) h1 d
  ·obtain ⟨o1, R, a2⟩ := Yw j' o' A
   exact(Yx i o l i1 (by rw[I]; exact i3) h1 (YA j' o1 l R (by rw[←a2,d]))).elim
  ·obtain ⟨o1, R, a2⟩ := Yw O o hi
   exact(Yx j o' l W (by rw[I]; exact j3) d (YA O o1 l R (by rw[←a2,h1]))).elim
  ·obtain ⟨o1, R, a2⟩ := Yw O o hi
   obtain⟨o2,b1,b2⟩:=Yw j' o' A;rw[g2.uniq O j' o1 o2 l R b1 (by rw[←a2,h1]) (by rw[←b2,d])]
 ·intro l Yv k q U
  have U:(r' l)[k]? = some (some q):=U;by_cases y:pl l
  ·rw [rp l y] at U
   refine g2.fc l (fun j o h1 d=>?_) k q U;refine Yv (e.at j) (o.bK e j) ?_ (by rw[Fu,d]);rw[Yf j,show H'[j]? = some o from h1];rfl
  ·rw [rn l y] at U
   refine HE.fc l (fun i o h1 d=>?_) k q U;have B:=az h1;rw[I]at B;by_cases hi:i∈e.ids
   ·obtain ⟨j, A, rfl⟩ := pM hi
    have Yh:e.ids[j]=e.at j:=by
     have:=fE A;rw[bC A]at this;exact fa this
    rw[Yh]at h1;obtain⟨o0,oo,R,a2,_⟩:=Ye j A;rw[h1]at a2;cases a2;exact y ⟨j,o0,R,by rw[←hlab j o0 o R (by rw[←I]; exact h1),d]⟩
   ·exact Yv i o (by rw[Yu i hi B]; exact h1) d
end Go.AL
