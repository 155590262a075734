/-
 What is proved here: owned objects of data,and what operations do to them,with what must hold so that they do it. No program in sight; no condition.
-/
import Derived.Test.YtnijefkndkgebaaGreatDoorMB
import Derived.Eval
import Derived.KernelRfl
set_option linter.all false
open Bool renaming and_eq_true→az,false_eq_true→kY,not_eq_true'→mQ,or_eq_true→wv,eq_iff_iff→lY
open ByteArray renaming empty→vZ
open Decidable renaming byContradiction→AI
open Function renaming comp→HD
open Go.Op renaming operands→eY
open Go.Utf8 renaming decode→mO
open Go.Value.slice renaming injEq→jD
open List renaming getElem?_append_left→cM,length_map→dO,mem_map→dp,getElem?_map→ch,mem_filterMap→G',getElem_of_mem→ot,getElem?_eq_getElem→bL,mem_of_getElem?→eX,getElem?_append_right→il,getElem?_set_ne→aT,all_eq_true→cQ,getD_eq_getElem?_getD→ct,getElem?_drop→p6,mem_cons→bY,map_cons→dx,take_append_drop→sR,length_append→fH,mem_append→cU,replicate→bN,all_cons→lU,mem_cons_self→cY,mem_cons_of_mem→di,take_of_length_le→SN,map_append→ke,findIdx?_cons→Hr,nodup_cons→lW,getElem?_inj→AF,map_set→sX,headD_cons→wz,length_nil→lZ,map_nil→sY,length→HF
open Nat renaming le_refl→aD,lt_of_lt_of_le→dw,zero_le→eC,lt_or_ge→jb,zero_add→cT,sub_zero→fU,beq→ad,eq_of_beq_eq_true→bu,sub_self→mP,ble→dA,blt→ft,ble_eq→AJ,blt_eq→kg,le_of_ble_eq_true→s7,mul_one→ah0,lt_succ_of_lt→wA,lt_succ_self→ah1,lt_irrefl→qe
open Option renaming map_eq_some_iff→dV,isSome_none→Hk,map_some→eM,map_none→wx,isSome_some→HB,map_map→HC
open Option.some renaming injEq→aY,inj→gl
open Prod.mk renaming injEq→bh
namespace Go.AL
open Go
variable [Dr]
def aw:Int→Bool
 |.ofNat _=>true
 |.negSucc _=>false
def a_:Int→Int→Bool
 |.ofNat x,.ofNat y=>dA x y
 |.ofNat _,.negSucc _=>false
 |.negSucc _,.ofNat _=>true
 |.negSucc x,.negSucc y=>dA y x
def ai:Int→Int→Bool
 |.ofNat x,.ofNat y=>ft x y
 |.ofNat _,.negSucc _=>false
 |.negSucc _,.ofNat _=>true
 |.negSucc x,.negSucc y=>ft y x
def aq(n:Int):Bool:=a_ (-9223372036854775808) n&&a_ n 9223372036854775807
theorem jO(n:Int):aw n=decide (0≤n):=by
 cases n with
 |ofNat x=>simp[aw]
 |negSucc x=>simp[aw]
theorem fu(a b:Int):a_ a b=decide (a≤b):=by
 rw[lY];cases a<;>cases b<;>simp[a_,AJ]<;>(try omega)
theorem dS(a b:Int):ai a b=decide (a<b):=by
 rw[lY];cases a<;>cases b<;>simp[ai,kg]<;>(try omega)
theorem kF{n:Int}:aq n=true ↔ -9223372036854775808≤n∧n≤9223372036854775807:=by
 simp[aq,fu]
def g0(r:List G):G:=r.headD default
def gi:List G→Nat→G
 |r,0=>r.headD default
 |r,i+1=>gi r.tail i
def G.row(g:G):List G:=g.rows.headD []
def oW:Kd→G→G→Bool
 |.int _,a,b=>a.int==b.int
 |.str,a,b=>a.str.toList==b.str.toList
 |.bool,a,b=>a.bool==b.bool
 |.list _,_,_=>false
def ba:List Kd→List G→List G→Bool
 | [],_,_=>true
 |k::ks,r,s=>oW k (r.headD default) (s.headD default)&&ba ks r.tail s.tail
inductive Ct where
 |one (k:Kd)
 |agg (ks:List Kd)
 deriving Inhabited
def Ct.ks:Ct→List Kd
 |.one k=>[k]
 |.agg ks=>ks
def Ct.av:Ct→List G→AV
 |.one k,r=>iq k (r.headD default)
 |.agg ks,r=>.agg (aJ ks r)
theorem Ct.tL(k:Ct)(r:List G):(k.av r).closed=true:=by
 cases k with
 |one k=>cases k<;>rfl
 |agg ks=>simp only[Ct.av,AV.closed,fI]
inductive aj where
 |raw (o:ab)
 |vec (ks:List Kd) (af:Nat) (rows:List (List G))
 |map (K V:Ct) (rows:List (List G)) (clock:Nat)
 |aI (l:Nat) (K:Ct) (ks:List Kd) (rows:List (List G)) (clock:Nat)
 |mm (l:Nat) (K KI VI:Ct) (rows mem:List (List G)) (clock:Nat)
def dj(K V:Ct)(rows:List (List G)):List (AV × AV × Nat):=rows.map fun r=>(K.av (gi r 0).row,V.av (gi r 1).row,(gi r 2).int.toNat)
def jP(r:List G):List (List G):=((gi r 1).row.headD default).rows
def jk(K:Ct)(ks:List Kd)(r:List G):AV × Option (List (List AV)) × Nat:=(K.av (gi r 0).row,(bif (gi r 3).bool then some ((jP r).map (aJ ks)) else none),(gi r 2).int.toNat)
def f_(K:Ct)(ks:List Kd)(rows:List (List G)):List (AV × Option (List (List AV)) × Nat):=rows.map (jk K ks)
def oX(r:List G):Option Nat:=bif a_ 0 (gi r 1).int then some (gi r 1).int.toNat else none
def g_(K:Ct)(rows:List (List G)):List (AV × Option Nat × Nat):=rows.map fun r=>(K.av (gi r 0).row,oX r,(gi r 2).int.toNat)
def nm(KI VI:Ct)(mem:List (List G)):List (List (AV × AV × Nat) × Nat):=mem.map fun m=>(dj KI VI (gi m 0).rows,(gi m 1).int.toNat)
def aj.den:aj→ab
 |.raw o=>o
 |.aI l K ks rows clock=>.aI l ks.length (f_ K ks rows) clock
 |.map K V rows clock=>.map (dj K V rows) clock
 |.mm l K KI VI rows mem clock=>.mm l (g_ K rows) (nm KI VI mem) clock
 |.vec ks af rows=>.vec ks.length af (rows.map (aJ ks))
def ao(H:List aj):List ab:=H.map aj.den
structure ar where
 fr:List AV
 H:List aj
def ar.den(s:ar):St:=⟨s.fr,ao s.H⟩
def ar.eval(s:ar)(o:Operand):AV:=St.eval ⟨s.fr,[]⟩ o
def ar.put(s:ar)(dst:Option Tmp)(v:AV)(H':List aj):ar:=⟨iL s.fr dst v,H'⟩
theorem ar.kG(s:ar):s.den.eval=s.eval:=by
 funext o
 cases o<;>rfl
theorem bl{H:List aj}{id:Nat}{o:aj}(h:H[id]? = some o):(ao H)[id]? = some o.den:=by simp[ao,h]
theorem dh(H:List aj)(id:Nat)(o:aj):ao (H.set id o)=(ao H).set id o.den:=by simp[ao,sX]
theorem gL(H:List aj)(o:aj):ao (H++[o])=ao H++[o.den]:=by simp[ao]
theorem eD(H:List aj):(ao H).length=H.length:=by simp[ao]
mutual
def Kd.same:Kd→Kd→Bool
 |.int k,.int k'=>decide (k=k')
 |.str,.str=>true
 |.bool,.bool=>true
 |.list ks,.list d=>Kd.gr ks d
 |_,_=>false
def Kd.gr:List Kd→List Kd→Bool
 | [],[]=>true
 |k::ks,k'::d=>k.same k'&&Kd.gr ks d
 |_,_=>false
end
mutual
theorem Kd.jl:∀{k k':Kd},k.same k'=true→k=k'
 |.int k,.int k',h=>by simp[Kd.same]at h; rw[h]
 |.str,.str,_=>rfl
 |.bool,.bool,_=>rfl
 |.list ks,.list d,h=>by simp only[Kd.same]at h; rw[Kd.iz h]
 |.int _,.str,h | .int _,.bool,h | .int _,.list _,h | .str,.int _,h | .str,.bool,h | .str,.list _,h=>by simp[Kd.same]at h
 |.bool,.int _,h | .bool,.str,h | .bool,.list _,h | .list _,.int _,h | .list _,.str,h | .list _,.bool,h=>by simp[Kd.same]at h
theorem Kd.iz:∀{k k':List Kd},Kd.gr k k'=true→k=k'
 | [],[],_=>rfl
 |k::ks,k'::d,h=>by simp only[Kd.gr,az]at h; rw[Kd.jl h.1,Kd.iz h.2]
 | [],_::_,h|_::_,[],h=>by simp[Kd.gr]at h
end
def Ct.same:Ct→Ct→Bool
 |.one k,.one k'=>k.same k'
 |.agg ks,.agg d=>Kd.gr ks d
 |_,_=>false
theorem Ct.jl{K d:Ct}(h:K.same d=true):K=d:=by
 cases K<;>cases d<;>simp only[Ct.same]at h
 ·rw[Kd.jl h]
 ·cases h
 ·cases h
 ·rw[Kd.iz h]
def tM:Kd→AV→Option G
 |.int k,.lit (.int k' n)=>if k=k' then some (.i n) else none
 |.str,.lit (.string s)=>some (.s s)
 |.bool,.lit (.bool b)=>some (.t b)
 |.list ks,.listF d rows=>if Kd.gr ks d then some (.l rows) else none
 |_,_=>none
def fO:List Kd→List AV→Option (List G)
 | [],[]=>some []
 | k::ks,a::as=>match tM k a,fO ks as with
  |some g,some gs=>some (g::gs)
  |_,_=>none
 |_,_=>none
def bz(ks:List Kd):List (List AV)→Option (List (List G))
 | []=>some []
 | r::rs=>match fO ks r,bz ks rs with
  |some g,some gs=>some (g::gs)
  |_,_=>none
theorem BZ{k:Kd}{a:AV}{g:G}(h:tM k a=some g):iq k g=a:=by
 unfold tM at h;split at h
 ·split at h
  ·rename_i e; cases h; subst e; rfl
  ·cases h
 ·cases h; rfl
 ·cases h; rfl
 ·split at h
  ·rename_i e; cases h; rw[Kd.iz e]; rfl
  ·cases h
 ·cases h
theorem jQ:∀{ks:List Kd} {as:List AV} {gs:List G},fO ks as=some gs→aJ ks gs=as
 | [],[],_,h=>by simp[fO]at h; subst h; rfl
 | k::ks,a::as,gs,h=>by
  simp only[fO]at h;split at h
  ·rename_i g q h1 d
   cases h;simp[aJ,BZ h1,jQ d]
  ·cases h
 | [],_::_,_,h|_::_,[],_,h=>by simp[fO]at h
theorem Jr:∀{ks:List Kd} {as:List AV} {gs:List G},fO ks as=some gs→gs.length=ks.length∧as.length=ks.length
 | [],[],_,h=>by simp[fO]at h; subst h; exact⟨rfl,rfl⟩
 | k::ks,a::as,gs,h=>by
  simp only[fO]at h;split at h
  ·rename_i g q h1 d
   cases h;have:=Jr d;simp[this.1,this.2]
  ·cases h
 | [],_::_,_,h|_::_,[],_,h=>by simp[fO]at h
theorem oY{ks:List Kd}:∀{rs:List (List AV)} {gs:List (List G)},bz ks rs=some gs→gs.map (aJ ks)=rs
 | [],_,h=>by simp[bz]at h; subst h; rfl
 | r::rs,gs,h=>by
  simp only[bz]at h;split at h
  ·rename_i g k h1 d
   cases h;simp[jQ h1,oY d]
  ·cases h
def tN:AV→Option Kd
 |.lit (.int k _)=>some (.int k)
 |.lit (.string _)=>some .str
 |.lit (.bool _)=>some .bool
 |.listF ks _=>some (.list ks)
 |_=>none
def oZ:List AV→Option (List Kd)
 | []=>some []
 | a::as=>match tN a,oZ as with
  |some k,some ks=>some (k::ks)
  |_,_=>none
def np:List Kd→List G→List G
 | [],_=>[]
 |_::ks,r=>r.headD default::np ks r.tail
theorem B0:∀(ks:List Kd) (r:List G),(np ks r).length=ks.length
 | [],_=>rfl
 |_::ks,r=>by simp[np,B0 ks]
def a7(ks:List Kd)(r:List G)(col:Nat)(gs:List G):List G:=(np ks r).take col++gs++(np ks r).drop (col+gs.length)
theorem Js:∀(ks:List Kd) (r:List G) (n:Nat),(aJ ks r).take n=aJ (ks.take n) r
 | [],_,n=>by simp[aJ]
 |_::_,_,0=>by simp[aJ]
 |k::ks,r,n+1=>by simp[aJ,Js ks]
theorem Jt:∀(ks:List Kd) (r:List G) (n:Nat),(aJ ks r).drop n=aJ (ks.drop n) (r.drop n)
 | [],_,n=>by simp[aJ]
 |_::_,_,0=>by simp
 |k::ks,r,n+1=>by simp[aJ,Jt ks]
theorem B1:∀(ks d:List Kd) (r r':List G),r.length=ks.length→aJ (ks++d) (r++r')=aJ ks r++aJ d r'
 | [],d,r,r',h=>by
  have:r=[]:=List.length_eq_zero_iff.1 h;subst this;simp[aJ]
 | k::ks,d,r,r',h=>by
  cases r with
  |nil=>simp at h
  |cons x r=>simp[aJ,B1 ks d r r' (by simpa using h)]
theorem B2:∀(ks:List Kd) (r:List G),aJ ks (np ks r)=aJ ks r
 | [],_=>rfl
 |k::ks,r=>by simp[aJ,np,B2 ks]
theorem U8{ks:List Kd}{r gs:List G}{cs:List AV}{col:Nat} (h:fO ((ks.drop col).take cs.length) cs=some gs) (u:col+cs.length≤ks.length) :
  aJ ks (a7 ks r col gs)=putCells (aJ ks r) cs col:=by
 obtain⟨h1,v⟩:=Jr h;have hlen:((ks.drop col).take cs.length).length=cs.length:=by simp; omega
 have g:gs.length=cs.length:=by omega
 have hk:ks=(ks.take col++(ks.drop col).take cs.length)++ks.drop (col+cs.length):=by
  rw[List.append_assoc,←List.drop_drop,sR,sR]
 unfold a7 putCells;have d:=B0 ks r
 conv=>lhs; arg 1; rw[hk]
 rw[B1 _ _ _ _ (by simp[d,g]; omega),B1 _ _ _ _ (by simp[d]),jQ h,g];congr 1
 ·congr 1
  rw[←B2 ks r,Js];have:∀(ks:List Kd) (r:List G) (n:Nat),ks.length≤n→aJ ks (r.take n)=aJ ks r:=by
   intro ks
   induction ks with
   |nil=>intros; rfl
   | cons k ks q =>
    intro r n d;cases n with
    |zero=>simp at d
    | succ n =>
     cases r with
     |nil=>rfl
     |cons x r=>simp[aJ,q r n (by simpa using d)]
  exact this _ _ _ (by simp; omega)
 ·conv => rhs; rw [← B2 ks r]
  rw[Jt]
end Go.AL

namespace Go.AL
open Go
variable [Dr]
theorem B3{ks:List Kd}{rows:List (List G)}{row:Nat}(h:row<rows.length):(rows.map (aJ ks))[row]? = some (aJ ks (rows.getD row [])):=by
 rw[ch,ct,bL h];rfl
def B4(P:Program)(t:TypeId)(x:AV)(H:List aj):Option (Bool × AV) :=
 match x with
 | .ptr id af w row col=>match H[id]? with
  | some (.vec ks v rows)=>match eP P t with
   | some (n,agg)=>if af=v∧ks.length=w then (match gH agg n ((aJ ks (rows.getD row [])).drop col) with
     |some u=>some (decide (row<rows.length),u)
     |none=>none) else none
   |none=>none
  | some (.raw (.box cells))=>match eP P t with
   | some (n,agg)=>if af=0∧row=0 then (match gH agg n (cells.drop col) with
     |some u=>some (true,u)
     |none=>none) else none
   |none=>none
  |_=>none
 | .cptr cells=>match eP P t with
  | some (n,agg)=>match gH agg n cells with
   |some u=>some (true,u)
   |none=>none
  |none=>none
 |_=>none
theorem U9{P:Program}{t:TypeId}{x:AV}{H:List aj}{b:Bool}{u:AV}(h:B4 P t x H=some (b,u))(hb:b=true):gR P t x (ao H)=some u:=by
 unfold B4 at h;unfold gR;split at h
 ·rename_i id af w row col
  split at h
  ·rename_i ks v rows hid
   split at h
   case h_2=>cases h
   rename_i n agg d;split at h
   case isFalse=>cases h
   rename_i k;split at h
   case h_2=>cases h
   rename_i q g;simp only[aY,bh]at h;obtain⟨h1,rfl⟩:=h;subst hb;simp only[decide_eq_true_eq]at h1;rw[d];simp only[bl hid,aj.den];rw[if_pos ⟨k.1,k.2⟩,B3 h1];exact g
  ·rename_i cells hid
   split at h
   case h_2=>cases h
   rename_i n agg d;split at h
   case isFalse=>cases h
   rename_i k;split at h
   case h_2=>cases h
   rename_i q g;cases h;rw[d];simp only[bl hid,aj.den];rw[if_pos k];exact g
  ·cases h
 ·rename_i cells
  split at h
  case h_2=>cases h
  rename_i n agg d;split at h
  case h_2=>cases h
  rename_i q g;cases h;rw[d];exact g
 ·cases h
def qP(P:Program)(t:TypeId)(x v:AV)(H:List aj):Option (Bool × List aj) :=
 match eP P t,oJ v,x with
 | some (n,_),some cs,.ptr id af w row col =>
  if cs.length=n then
   match H[id]? with
   |some (.raw (.box cells))=>if af=0∧row=0∧col+n≤cells.length then some (true,H.set id (.raw (.box (putCells cells cs col)))) else none
   | some (.vec ks u rows) =>
    if af=u∧ks.length=w∧col+cs.length≤ks.length then
     match fO ((ks.drop col).take cs.length) cs with
     |some gs=>some (decide (row<rows.length),H.set id (.vec ks u (rows.set row (a7 ks (rows.getD row []) col gs))))
     |none=>none
    else none
   |_=>none
  else none
 |_,_,_=>none
theorem Ju{P:Program}{t:TypeId}{x v:AV}{H H':List aj}{b:Bool}(h:qP P t x v H=some (b,H'))(hb:b=true):qz P t x v (ao H)=some (ao H'):=by
 unfold qP at h;unfold qz;split at h
 case h_2=>cases h
 rename_i n J cs id af w row col y k;rw[y,k];simp only[];split at h
 case isFalse=>cases h
 rename_i B;rw[if_pos B];split at h
 ·rename_i cells hid
  split at h
  case isFalse=>cases h
  rename_i d;cases h;simp only[bl hid,aj.den];rw[if_pos d,dh];rfl
 ·rename_i ks u rows hid
  split at h
  case isFalse=>cases h
  rename_i d;obtain⟨c1,c2,I⟩:=d;split at h
  case h_2=>cases h
  rename_i gs g;simp only[aY,bh]at h;obtain⟨h1,rfl⟩:=h;subst hb;simp only[decide_eq_true_eq]at h1;simp only[bl hid,aj.den];have q:AV.bq cs=true:=by rw[←jQ g]; exact fI _ _
  rw[if_pos ⟨c1,c2,q⟩,B3 h1];simp only[qg];rw[if_pos (by omega),dh];simp only[aj.den,sX];rw[U8 g I]
 ·cases h
def tO(sz:Nat)(x:AV)(H:List aj)(want:Option (List Kd)):Option (Bool × List Kd × List (List G)) :=
 match x with
 | .nils | .lit (.slice none 0 0)=>match want with
  |some ks=>some (true,ks,[])
  |none=>none
 | .emptyS _=>match want with
  |some ks=>some (true,ks,[])
  |none=>none
 |.listF ks rows=>if ks.length=sz then some (true,ks,rows) else none
 | .list w rows=>match (match want with | some ks=>some ks | none=>oZ (rows.headD [])) with
  | some ks=>match bz ks rows with
   |some gs=>if w=sz then some (true,ks,gs) else none
   |none=>none
  |none=>none
 | .vec w id af off n=>match H[id]? with
  |some (.vec ks v rows)=>if w=sz∧ks.length=w∧v=af∧off=0 then some (ad n rows.length,ks,rows) else none
  |_=>none
 |.lit (.string s)=>if sz=1 then some (true,[.int .u8],s.data.toList.map fun b=>[.i b.toNat]) else none
 |_=>none
theorem Jv{sz:Nat}{x:AV}{H:List aj}{want:Option (List Kd)}{b:Bool}{ks:List Kd}{rows:List (List G)}(h:tO sz x H want=some (b,ks,rows))(hb:b=true) :
  kB sz x (ao H)=some (rows.map (aJ ks)):=by
 unfold tO at h;split at h
 ·split at h
  ·cases h; rfl
  ·cases h
 ·split at h
  ·cases h; rfl
  ·cases h
 ·split at h
  ·cases h; rfl
  ·cases h
 ·split at h
  ·rename_i hw; cases h; simp only[kB]; rw[if_pos hw]
  ·cases h
 ·split at h
  ·split at h
   ·rename_i gs d
    split at h
    ·rename_i hw; cases h; simp only[kB]; rw[if_pos hw,oY d]
    ·cases h
   ·cases h
  ·cases h
 ·rename_i w id af off n
  split at h
  ·rename_i u v rows' hid
   split at h
   ·rename_i g
    obtain⟨c1,c2,k,rfl⟩:=g;simp only[aY,bh]at h;obtain⟨h1,rfl,rfl⟩:=h;subst hb;have h1:=bu h1;simp only[kB,bl hid,aj.den];rw[if_pos ⟨c1,c2,k,by simp; omega⟩];simp only[List.drop_zero];rw[SN (by simp; omega)]
   ·cases h
  ·cases h
 ·rename_i s
  split at h
  ·rename_i q
   cases h;simp only[kB];rw[if_pos q];simp[aJ,iq,G.int]
  ·cases h
 ·cases h
def B5:SK→Bool
 |.slice _ _ _ | .str=>true
 |_=>false
theorem B6{P:Program}{t xt:TypeId}{s x:AV}{H:List ab}{e sz d:Nat}{z:List Value}{new:List (List AV)}(hk:cn P t=.slice e sz d)(h:ef P e=some z)
  (g : B5 (cn P xt) = true) (q : kB sz x H = some new) (u : z.length = sz ∧ new.length ≤ 1048576 ∧ d ≤ 1048576) : qx P t xt s x H =
   match s with
    |.nils | .lit (.slice none 0 0)=>some (.vec sz H.length 0 0 new.length,H++[.vec sz 0 new])
    | .vec w id af off n=>match H[id]? with
     | some (.vec k v rows) =>
      if k=w∧w=sz∧v=af∧off=0∧n=rows.length∧rows.length+new.length≤1048576 then
       some (.vec w id (af+1) 0 (n+new.length),H.set id (.vec k (af+1) (rows++new)))
      else none
     |_=>none
    |_=>none:=by
 unfold qx;simp only[hk,h,q];cases y:cn P xt<;>simp only[y,B5]at g⊢<;>first
  |(cases g; done)
  |(rw[if_pos u]; rfl)
def xA(sz:Nat)(x:AV)(H:List aj)(z:List Value):Option (Bool × List Kd × List (List G)) :=
 match x with
 |.emptyS _=>tO sz x H (oZ (z.map .lit))
 |_=>tO sz x H none
theorem U_{sz:Nat}{x:AV}{H:List aj}{z:List Value}{b:Bool}{ks:List Kd}{rows:List (List G)}(h:xA sz x H z=some (b,ks,rows))(hb:b=true) :
  kB sz x (ao H)=some (rows.map (aJ ks)):=by
 unfold xA at h;split at h<;>exact Jv h hb
def tP(P:Program)(t xt:TypeId)(s x:AV)(H:List aj):Option (Bool × AV × List aj) :=
 match cn P t with
 | .slice e sz d =>
  match ef P e,B5 (cn P xt)with
  | some z,true =>
   if z.length=sz∧d≤1048576 then
    match s with
    | .nils | .lit (.slice none 0 0)=>match xA sz x H z with
     |some (b,ks,new)=>if ks.length=sz then some (b&&decide (new.length≤1048576),.vec sz H.length 0 0 new.length,H++[.vec ks 0 new]) else none
     |none=>none
    | .vec w id af off n=>match H[id]? with
     | some (.vec ks v rows)=>match tO sz x H (some ks) with
      | some (b,g,new) =>
       if ks.length=w∧w=sz∧v=af∧off=0∧Kd.gr ks g=true then
        some (b&&(ad n rows.length&&decide (rows.length+new.length≤1048576)),.vec w id (af+1) 0 (rows++new).length,H.set id (.vec ks (af+1) (rows++new)))
       else none
      |none=>none
     |_=>none
    |_=>none
   else none
  |_,_=>none
 |_=>none
theorem U'{P:Program}{t xt:TypeId}{s x v:AV}{H H':List aj}{b:Bool}(h:tP P t xt s x H=some (b,v,H'))(hb:b=true) :
  qx P t xt s x (ao H)=some (v,ao H'):=by
 unfold tP at h;split at h
 case h_2=>cases h
 rename_i e sz V hk;split at h
 case h_2=>cases h
 rename_i z q k;split at h
 case isFalse=>cases h
 rename_i I;obtain⟨c1,c2⟩:=I;have fresh:∀{b1:Bool} {ks:List Kd} {new:List (List G)},xA sz x H z=some (b1,ks,new) →
   (if ks.length=sz then some (b1&&decide (new.length≤1048576),AV.vec sz H.length 0 0 new.length,H++[aj.vec ks 0 new]) else none)=some (b,v,H') →
   ∃ rows,kB sz x (ao H)=some rows∧rows.length≤1048576∧v=.vec sz (ao H).length 0 0 rows.length∧ao H'=ao H++[.vec sz 0 rows]:=by
  intro b1 ks new d h;split at h
  case isFalse=>cases h
  rename_i B;simp only[aY,bh]at h;obtain⟨h1,rfl,rfl⟩:=h;subst hb;simp only[az,decide_eq_true_eq]at h1;refine⟨_,U_ d h1.1,by simpa using h1.2,by simp[eD],?_⟩;rw[gL,aj.den,B]
 split at h
 ·split at h
  case h_2=>cases h
  rename_i b1 ks new d;obtain⟨rows,g1,g2,g3,g4⟩:=fresh d h;rw[B6 hk q k g1 ⟨c1,g2,c2⟩,g3,g4]
 ·split at h
  case h_2=>cases h
  rename_i b1 ks new d;obtain⟨rows,g1,g2,g3,g4⟩:=fresh d h;rw[B6 hk q k g1 ⟨c1,g2,c2⟩,g3,g4];rfl
 ·rename_i w id af off n
  split at h
  case h_2=>cases h
  rename_i ks vv rows hid;split at h
  case h_2=>cases h
  rename_i b1 W new d;split at h
  case isFalse=>cases h
  rename_i J;obtain⟨y,M,N,O,u⟩:=J;have u:=Kd.iz u;subst u;simp only[aY,bh]at h;obtain⟨h1,rfl,rfl⟩:=h;subst hb;simp only[az,decide_eq_true_eq]at h1;obtain⟨h1,g,U⟩:=h1;have g:=bu g;rw[B6 hk q k (Jv d h1) ⟨c1,by simp; omega,c2⟩];simp only[dO,bl hid,aj.den];rw[if_pos ⟨y,M,N,O,g,U⟩,dh];simp only[aj.den,ke,fH,g,y]
 ·cases h
def nq(len:Nat)(lo hi:Option AV):Option (Bool × Nat × Nat) :=
 match lo,hi with
 |none,none=>some (true,0,len)
 |some (.lit (.int _ l)),none=>some (aw l&&a_ l (len:Int),l.toNat,len)
 |none,some (.lit (.int _ h))=>some (aw h&&a_ h (len:Int),0,h.toNat)
 |some (.lit (.int _ l)),some (.lit (.int _ h))=>some (aw l&&(a_ l h&&a_ h (len:Int)),l.toNat,h.toNat)
 |_,_=>none
theorem xB{len:Nat}{lo hi:Option AV}{b:Bool}{l h:Nat}(d:nq len lo hi=some (b,l,h))(hb:b=true):fX len lo hi=some (l,h):=by
 unfold nq at d;split at d
 ·cases d; simp[fX]
 ·rename_i l'
  simp only[aY,bh]at d;obtain⟨h1,rfl,rfl⟩:=d;subst hb;simp only[jO,fu,az,decide_eq_true_eq]at h1;simp[fX,jI,h1.1,h1.2]
 ·rename_i h'
  simp only[aY,bh]at d;obtain⟨h1,rfl,rfl⟩:=d;subst hb;simp only[jO,fu,az,decide_eq_true_eq]at h1;simp[fX,jI,h1.1,h1.2]
 ·rename_i l' _ h'
  simp only[aY,bh]at d;obtain⟨h1,rfl,rfl⟩:=d;subst hb;simp only[jO,fu,az,decide_eq_true_eq]at h1;simp[fX,jI,h1.1,h1.2.1,h1.2.2]
 ·cases d
def qQ(rows:List (List G))(lo hi:Option AV)(l h:Nat):List (List G) :=
 match lo,hi with
 |none,none=>rows
 |some _,none=>rows.drop l
 |none,some _=>rows.take h
 |some _,some _=>(rows.drop l).take (h-l)
theorem Jw{rows:List (List G)}{lo hi:Option AV}{b:Bool}{l h:Nat}(d:nq rows.length lo hi=some (b,l,h)):qQ rows lo hi l h=(rows.drop l).take (h-l):=by
 unfold nq at d;split at d
 ·cases d; simp[qQ]
 ·simp only [aY, bh] at d
  obtain⟨h1,rfl,rfl⟩:=d;simp only[qQ];rw[SN (by simp)]
 ·simp only [aY, bh] at d
  obtain⟨h1,rfl,rfl⟩:=d;simp[qQ]
 ·rfl
 ·cases d
def B7(P:Program)(t:TypeId)(x:AV)(lo hi mx:Option AV):Option (Bool × AV) :=
 match mx with
 | some _=>match kz P t x lo hi mx with
  |some v=>some (true,v)
  |none=>none
 | none=>match cn P t,x with
  | .str,.lit (.string s)=>match nq s.size lo hi with
   |some (b,l,h)=>some (b,.lit (.string (s.extract l h)))
   |none=>none
  | .slice _ sz _,.listF ks rows=>match nq rows.length lo hi with
   |some (b,l,h)=>if ks.length=sz then some (b,.listF ks (qQ rows lo hi l h)) else none
   |none=>none
  | .slice _ sz _,.vec w id af off n=>match nq n lo hi with
   |some (b,l,h)=>if w=sz then some (b,.vec w id af (off+l) (h-l)) else none
   |none=>none
  | .slice _ sz _,.list w rows=>match w,qp rows with
   | 1,some gs=>match nq gs.length lo hi with
    |some (b,l,h)=>if 1=sz then some (b,.listF [.str] (qQ gs lo hi l h)) else none
    |none=>none
   | _,_=>match kz P t x lo hi none with
    |some v=>some (true,v)
    |none=>none
  | _,_=>match kz P t x lo hi none with
   |some v=>some (true,v)
   |none=>none
theorem Va{P:Program}{t:TypeId}{x v:AV}{lo hi mx:Option AV}{b:Bool}(h:B7 P t x lo hi mx=some (b,v))(hb:b=true):kz P t x lo hi mx=some v:=by
 unfold B7 at h;split at h
 ·split at h
  ·rename_i u hu; cases h; exact hu
  ·cases h
 ·split at h
  ·rename_i s hk
   split at h
   case h_2=>cases h
   rename_i k l q d;simp only[aY,bh]at h;obtain⟨h1,rfl⟩:=h;subst h1;simp[kz,hk,xB d hb]
  ·rename_i e sz y ks rows hk
   split at h
   case h_2=>cases h
   rename_i k l q d;split at h
   case isFalse=>cases h
   rename_i g;simp only[aY,bh]at h;obtain⟨h1,rfl⟩:=h;subst h1;simp[kz,hk,xB d hb,g,Jw d]
  ·rename_i e sz y w id af off n hk
   split at h
   case h_2=>cases h
   rename_i k l q d;split at h
   case isFalse=>cases h
   rename_i g;simp only[aY,bh]at h;obtain⟨h1,rfl⟩:=h;subst h1;simp[kz,hk,xB d hb,g]
  ·rename_i e sz y w rows hk
   split at h
   ·rename_i gs B
    split at h
    case h_2=>cases h
    rename_i k l q d;split at h
    case isFalse=>cases h
    rename_i g;simp only[aY,bh]at h;obtain⟨h1,rfl⟩:=h;subst h1;subst g;have I:rows.length=gs.length:=by rw[←A5 B,dO]
    simp[kz,hk,I,xB d hb,Jw d,wU,B]
   ·split at h
    ·rename_i u hu; cases h; exact hu
    ·cases h
  ·split at h
   ·rename_i u hu; cases h; exact hu
   ·cases h
def tQ(P:Program)(t:TypeId)(l c:AV)(H:List aj):Option (Bool × AV × List aj) :=
 match cn P t,l,c with
 | .slice e sz d,.lit (.int _ l),.lit (.int _ c) =>
  match ef P e with
  | some z=>match oZ (w_ P e z) with
   | some ks=>match fO ks (w_ P e z) with
    | some gs=>if z.length=sz∧0<sz∧d≤1048576∧ks.length=sz then
      some (aw l&&(a_ l c&&a_ c 1048576),.vec sz H.length 0 0 l.toNat,H++[.vec ks 0 (bN l.toNat gs)]) else none
    |none=>none
   |none=>none
  |none=>none
 |_,_,_=>none
theorem Vb{P:Program}{t:TypeId}{l c v:AV}{H H':List aj}{b:Bool}(h:tQ P t l c H=some (b,v,H'))(hb:b=true) :
  tk P t l c (ao H)=some (v,ao H'):=by
 unfold tQ at h;unfold tk;split at h
 case h_2=>cases h
 rename_i e sz y _ l _ c hk;rw[hk];simp only[];split at h
 case h_2=>cases h
 rename_i z g;split at h
 case h_2=>cases h
 rename_i ks B;split at h
 case h_2=>cases h
 rename_i gs d;split at h
 case isFalse=>cases h
 rename_i k;obtain⟨c1,c2,q,u⟩:=k;simp only[aY,bh]at h;obtain⟨h1,rfl,rfl⟩:=h;subst hb;simp only[jO,fu,az,decide_eq_true_eq]at h1;rw[g];simp only[];rw[if_pos ⟨c1,c2,h1.1,h1.2.1,h1.2.2,q⟩,gL,eD,aj.den,u,List.map_replicate,jQ d]
def tR(P:Program)(t:TypeId)(n:Nat)(parts:List (Nat × AV))(H:List aj):Option (Bool × AV × List aj) :=
 match cn P t with
 | .slice e _ _=>match ef P e with
  | some z=>match oZ (z.map .lit) with
   | some ks=>match qA P t n parts with
    | some (.list sz rows)=>match bz ks rows with
     |some gs=>if ks.length=sz then some (true,.vec sz H.length 0 0 gs.length,H++[.vec ks 0 gs]) else none
     |none=>none
    |_=>none
   |none=>none
  |none=>none
 |_=>none
theorem Vc{P:Program}{t:TypeId}{n:Nat}{parts:List (Nat × AV)}{v:AV}{H H':List aj}{b:Bool}(h:tR P t n parts H=some (b,v,H')) :
  tx P t n parts (ao H)=some (v,ao H'):=by
 unfold tR at h;split at h
 case h_2=>cases h
 split at h
 case h_2=>cases h
 split at h
 case h_2=>cases h
 rename_i ks k;split at h
 case h_2=>cases h
 rename_i sz rows hb;split at h
 case h_2=>cases h
 rename_i gs d;split at h
 case isFalse=>cases h
 rename_i g;cases h;unfold tx;rw[hb];have e:=oY d;simp only[];rw[gL,eD,aj.den,g,e,←e,dO]
/-! ### Maps -/
def Ct.read:Ct→AV→Option (List G)
 | .one k,a=>match tM k a with
  |some g=>some [g]
  |none=>none
 |.agg ks,.agg cells=>fO ks cells
 |_,_=>none
theorem Ct.jR{K:Ct}{a:AV}{r:List G}(h:K.read a=some r):K.av r=a:=by
 unfold Ct.read at h;split at h
 ·split at h
  ·rename_i g d
   cases h;exact BZ d
  ·cases h
 ·simp only[Ct.av,jQ h]
 ·cases h
def nr(P:Program)(t:TypeId):Option (Ct × List G) :=
 match P.info? t with
 | some i=>match i.zero with
  | some (.agg cs)=>match cs.toList.all du,oZ (cs.toList.map .lit) with
   | true,some ks=>match fO ks (cs.toList.map .lit) with
    |some gs=>some (.agg ks,gs)
    |none=>none
   |_,_=>none
  | some v=>match tN (.lit v) with
   | some k=>match tM k (.lit v) with
    |some g=>some (.one k,[g])
    |none=>none
   | none=>match gJ P t,Bp P t with
    |some (.lit (.slice none 0 0)),some ks=>some (.one (.list ks),[.l []])
    |_,_=>none
  |none=>none
 |none=>none
theorem Vd{P:Program}{t:TypeId}{v:AV}(h:gJ P t=some v)(d:v=.lit (.slice none 0 0)→False):mg P t=some v:=by
 unfold mg;rw[h];split
 ·rename_i e _
  cases e;exact(d rfl).elim
 ·rename_i e _
  cases e;rfl
 ·rename_i e
  cases e
theorem Jx{P:Program}{t:TypeId}{V:Ct}{z:List G}(h:nr P t=some (V,z)):mg P t=some (V.av z):=by
 unfold nr at h;have q:∀ v,gJ P t=some v→(v=.lit (.slice none 0 0)→False)→mg P t=some v:=fun v h B=>Vd h B;split at h
 case h_2=>cases h
 rename_i i hi;split at h
 ·rename_i cs d
  split at h
  ·rename_i ks h1 u
   split at h
   ·rename_i gs I
    cases h;refine q _ ?_ fun e=>by cases e
    unfold gJ;rw[hi];simp only[];rw[d];simp only[AV.qm,h1,if_true,Ct.av,jQ I]
   ·cases h
  ·cases h
 ·rename_i v y d
  split at h
  ·rename_i k hk
   split at h
   ·rename_i g J
    cases h;have e:=BZ J;simp only[Ct.av,wz,e];refine q _ ?_ fun e=>by
     simp only[AV.lit.injEq]at e;subst e;simp[tN]at hk
    unfold gJ;rw[hi];simp only[];rw[d];simp only[];unfold AV.qm;split
    ·rename_i cs; exact(y cs rfl).elim
    ·simp[tN]at hk
    ·rfl
   ·cases h
  ·split at h
   ·rename_i ks h1 u
    cases h;unfold mg;rw[h1,u];rfl
   ·cases h
 ·cases h
def xC:SK→Kd→Bool
 |.int k,.int k'=>decide (k=k')
 |.str,.str=>true
 |.bool,.bool=>true
 |_,_=>false
def jm:List SK→List Kd→Bool
 | [],[]=>true
 |a::as,b::d=>xC a b&&jm as d
 |_,_=>false
def gu(P:Program)(d:TypeId)(K:Ct):Bool :=
 match flatK P l8 d with
 | some g=>jm g K.ks&&(match K with
  |.one _ => !l7 (P.underlying d)
  |.agg _=>l7 (P.underlying d))
 |none=>false
def nt:Kd→G→Value
 |.int k,g=>.int k g.int
 |.str,g=>.string g.str
 |.bool,g=>.bool g.bool
 |.list _,_=>.bool false
def dm:List Kd→List G→List Value
 | [],_=>[]
 |k::ks,r=>nt k (r.headD default)::dm ks r.tail
theorem Jy:∀{d:List SK} {ks:List Kd} (r:List G),jm d ks=true→l6 (aJ ks r)=some (dm ks r)∧cC d (dm ks r)=true
  | [],[],_,_=>⟨rfl,rfl⟩
  | a::as,k::ks,r,h=>by
    simp only[jm,az]at h;obtain⟨h1,g⟩:=Jy r.tail h.2;have hk:=h.1;cases k<;>cases a<;>simp only[xC]at hk<;>first
      |(cases hk; done)
      | (simp only [aJ, iq, l6, h1, dm, nt, cC, g, Bool.and_true]
         simp_all[kindOk])
  | [],_::_,_,h|_::_,[],_,h=>by simp[jm]at h
theorem xD:∀{d:List SK} {ks:List Kd} (r s:List G),jm d ks=true→dy (dm ks r) (dm ks s)=ba ks r s
 | [],[],_,_,_=>rfl
 | a::as,k::ks,r,s,h=>by
  simp only[jm,az]at h;have g:=xD r.tail s.tail h.2;have hk:=h.1;simp only[dm,dy,ba,g];cases k<;>cases a<;>simp only[xC]at hk<;>first
   |(cases hk; done)
   |rfl
 | [],_::_,_,_,h|_::_,[],_,_,h=>by simp[jm]at h
theorem jn{P:Program}{g:TypeId}{K:Ct}(h:gu P g K=true)(r:List G):gS P g (K.av r)=some (dm K.ks r):=by
 unfold gu at h;split at h
 case h_2=>cases h
 rename_i q u;simp only[az]at h;obtain⟨h1,d⟩:=h;obtain⟨g1,g2⟩:=Jy r h1;unfold gS;rw[u];simp only[];cases K with
 | one k =>
  simp only[mQ]at d;simp only[Ct.ks,dm]at g2⊢;have e:iq k (r.headD default)=.lit (nt k (r.headD default)):=by
   simp only[Ct.ks]at h1;cases q with
   |nil=>simp[jm]at h1
   | cons a as =>
    simp only[jm,az]at h1;have hk:=h1.1;cases k<;>cases a<;>simp only[xC]at hk<;>first
     |(cases hk; done)
     |rfl
  simp only[Ct.av,e,g2,d,and_self,if_true]
 | agg ks =>
  simp only[Ct.av,Ct.ks]at g1 g2⊢;simp only[g1,g2,d,and_self,if_true]
def bX(ks:List Kd)(key:List G):List (List G)→Nat→Option (Nat × List G)
 | [],_=>none
 |r::rs,i=>bif ba ks key (gi r 0).row then some (i,r) else bX ks key rs (i+1)
def dT(ks:List Kd)(rows:List (List G))(key:List G):Bool:=(bX ks key rows 0).isSome
def aB(ks:List Kd)(rows:List (List G))(key z:List G):List G:=match bX ks key rows 0 with
 |some (_,r)=>(gi r 1).row
 |none=>z
def aL(ks:List Kd)(rows:List (List G))(key val:List G)(clock:Nat):List (List G):=match bX ks key rows 0 with
 |some (i,r)=>rows.set i [.l [key],.l [val],.i (gi r 2).int]
 |none=>rows++[[.l [key],.l [val],.i clock]]
def bE(ks:List Kd)(rows:List (List G))(key:List G)(clock:Nat):Nat:=bif dT ks rows key then clock else clock+1
def Jz(ks:List Kd)(rows:List (List G))(key:List G):List (List G):=match bX ks key rows 0 with
 |some (i,_)=>rows.eraseIdx i
 |none=>rows
theorem qR{P:Program}{g:TypeId}{K V:Ct}(h:gu P g K=true)(key:List G):∀(rows:List (List G)) (i:Nat),er P g (dm K.ks key) (dj K V rows) i =
  some ((bX K.ks key rows i).map fun p=>(p.1,V.av (gi p.2 1).row))
 | [],i=>rfl
 | r::rs,i=>by
  have q:=qR (V:=V) h key rs (i+1);have k:∃ d,jm d K.ks=true:=by
   unfold gu at h;split at h
   ·simp only[az]at h; exact⟨_,h.1⟩
   ·cases h
  obtain⟨d,u⟩:=k;simp only[dj,dx,er,jn h,xD _ _ u,bX];cases ba K.ks key (gi r 0).row with
  |true=>rfl
  |false=>exact q
theorem o9{ks:List Kd}{key:List G}:∀{rows:List (List G)} {i j:Nat} {r:List G},bX ks key rows i=some (j,r)→i≤j∧rows[j-i]? = some r
 | [],_,_,_,h=>by simp[bX]at h
 | x::rs,i,j,r,h=>by
  simp only[bX]at h;cases d:ba ks key (gi x 0).row with
  | true =>
   rw[d]at h;cases h;exact⟨aD _,by simp⟩
  | false =>
   rw[d]at h;obtain⟨h1,g⟩:=o9 h;refine⟨by omega,?_⟩;rw[show j-i=(j-(i+1))+1 from by omega];simpa using g
def B8(P:Program)(t:TypeId)(m k:AV)(ok:Bool)(H:List aj):Option (Bool × AV) :=
 match c8 P t,m with
 | some (d,g),.map id=>match H[id]? with
  | some (.map K V rows _)=>match K.read k,nr P g with
   | some key,some (h,z)=>match gu P d K&&V.same h with
    | true=>some (true,match ok with
      |true=>.tuple [V.av (aB K.ks rows key z),.lit (.bool (dT K.ks rows key))]
      |false=>V.av (aB K.ks rows key z))
    |false=>none
   |_,_=>none
  |_=>none
 |_,_=>none
theorem JA{P:Program}{t:TypeId}{m k v:AV}{ok b:Bool}{H:List aj}(h:B8 P t m k ok H=some (b,v)):fK P t m k ok (ao H)=some v:=by
 unfold B8 at h;unfold fK;split at h
 case h_2=>cases h
 rename_i u y id g;rw[g];simp only[];split at h
 case h_2=>cases h
 rename_i K V rows cl hid;rw[bl hid];simp only[aj.den];split at h
 case h_2=>cases h
 rename_i key B z hk q;split at h
 case h_2=>cases h
 rename_i d;simp only[az]at d;have e:=Ct.jl d.2;subst e;rw[←Ct.jR hk,jn d.1,Jx q];simp only[qR d.1];cases h;unfold aB dT;cases bX K.ks key rows 0 with
 |none=>cases ok<;>rfl
 |some p=>cases ok<;>rfl
def qS(P:Program)(t:TypeId)(m k v:AV)(H:List aj):Option (Bool × List aj) :=
 match c8 P t,m with
 | some (d,_),.map id=>match H[id]? with
  | some (.map K V rows cl)=>match K.read k,V.read v with
   | some key,some val=>match gu P d K with
    |true=>some (true,H.set id (.map K V (aL K.ks rows key val cl) (bE K.ks rows key cl)))
    |false=>none
   |_,_=>none
  |_=>none
 |_,_=>none
def cw(ks:List Kd)(rows:List (List G))(key:List G):List (List G):=match bX ks key rows 0 with
 |some (_,r)=>jP r
 |none=>[]
def eu(ks:List Kd)(rows:List (List G))(key:List G):Bool:=match bX ks key rows 0 with
 |some (_,r)=>(gi r 3).bool
 |none=>true
def gv(ks:List Kd)(rows:List (List G))(key:List G):List (List G):=match bX ks key rows 0 with
 |some (i,r)=>rows.set i [gi r 0,gi r 1,gi r 2,.t false]
 |none=>rows
def kH(ks:List Kd)(rows:List (List G))(key:List G)(val:List (List G))(clock:Nat):List (List G):=match bX ks key rows 0 with
 |some (i,r)=>rows.set i [.l [key],.l [[.l val]],.i (gi r 2).int,.t true]
 |none=>rows++[[.l [key],.l [[.l val]],.i clock,.t true]]
def tS(P:Program)(t:TypeId)(m k:AV)(H:List aj):Option (Bool × AV × List aj) :=
 match c8 P t,m with
 | some (g,d),.map id=>match H[id]? with
  | some (.aI l K ks rows cl)=>match K.read k,xg P d,gJ P d with
   | some key,some w',some (.lit (.slice none 0 0))=>match ad w' ks.length&&gu P g K with
    |true=>some (eu K.ks rows key,.vec ks.length H.length 0 0 (cw K.ks rows key).length,H.set id (.aI l K ks (gv K.ks rows key) cl)++[.vec ks 0 (cw K.ks rows key)])
    |false=>none
   |_,_,_=>none
  |_=>none
 |_,_=>none
def tT(P:Program)(t:TypeId)(m k v:AV)(H:List aj):Option (Bool × List aj) :=
 match c8 P t,m,v with
 | some (h,_),.map id,.vec w j af off n=>match H[id]?,H[j]? with
  | some (.aI l K ks rows cl),some (.vec g d rws)=>match K.read k with
   | some key=>match gu P h K&&(Kd.gr ks g&&(ad w ks.length&&(ad af d&&ad off 0))) with
    |true=>some (ad n rws.length,(H.set id (.aI l K ks (kH K.ks rows key rws cl) (bE K.ks rows key cl))).set j (.raw .dead))
    |false=>none
   |none=>none
  |_,_=>none
 |_,_,_=>none
def lr(ks:List Kd)(rows:List (List G))(key:List G)(clock:Nat):Nat:=match bX ks key rows 0 with
 |some (_,r)=>(gi r 2).int.toNat
 |none=>clock
def ls(ks:List Kd)(rows:List (List G))(key:List G)(clock:Nat):List (List G):=match bX ks key rows 0 with
 |some (i,r)=>rows.set i [.l [key],gi r 1,gi r 2,.t false]
 |none=>rows++[[.l [key],.l [[.l []]],.i clock,.t false]]
def tU(P:Program)(t:TypeId)(m k:AV)(H:List aj):Option (Bool × AV × List aj) :=
 match c8 P t,m with
 | some (g,d),.map id=>match H[id]? with
  | some (.aI l K ks rows cl)=>match K.read k,xg P d,gJ P d with
   | some key,some w',some (.lit (.slice none 0 0))=>match ad w' ks.length&&gu P g K with
    | true=>some (eu K.ks rows key,.tuple [.vec ks.length H.length 0 0 (cw K.ks rows key).length,.lit (.int .i64 (lr K.ks rows key cl:Nat))],
      H.set id (.aI l K ks (ls K.ks rows key cl) (bE K.ks rows key cl))++[.vec ks 0 (cw K.ks rows key)])
    |false=>none
   |_,_,_=>none
  |_=>none
 |_,_=>none
def fa(st:Int):List (List G)→Nat→Option (Nat × List G)
 | [],_=>none
 |r::rs,i=>bif ((gi r 2).int.toNat:Int)==st then some (i,r) else fa st rs (i+1)
def qT(rows:List (List G))(st:Int)(val:List (List G)):List (List G):=match fa st rows 0 with
 |some (i,r)=>rows.set i [gi r 0,.l [[.l val]],gi r 2,.t true]
 |none=>rows
def qU(rows:List (List G))(st:Int):Bool:=(fa st rows 0).isSome
def tV(m s v:AV)(H:List aj):Option (Bool × List aj) :=
 match m,s,v with
 | .map id,.lit (.int .i64 st),.vec w j af off n=>match H[id]?,H[j]? with
  | some (.aI l K ks rows cl),some (.vec g d rws)=>match Kd.gr ks g&&(ad w ks.length&&(ad af d&&ad off 0)) with
   |true=>some (qU rows st&&ad n rws.length,(H.set id (.aI l K ks (qT rows st rws) cl)).set j (.raw .dead))
   |false=>none
  |_,_=>none
 |_,_,_=>none
theorem xE{P:Program}{g:TypeId}{K:Ct}{ks:List Kd}(h:gu P g K=true)(key:List G):∀(rows:List (List G)) (i:Nat),er P g (dm K.ks key) (cF (f_ K ks rows)) i =
  some ((bX K.ks key rows i).map fun p=>(p.1,AV.undef))
 | [],i=>rfl
 | r::rs,i=>by
  have q:=xE (ks:=ks) h key rs (i+1);have k:∃ d,jm d K.ks=true:=by
   unfold gu at h;split at h
   ·simp only[az]at h; exact⟨_,h.1⟩
   ·cases h
  obtain⟨d,u⟩:=k;simp only[f_,cF,jk,dx,er,jn h,xD _ _ u,bX];cases ba K.ks key (gi r 0).row with
  |true=>rfl
  |false=>exact q
theorem tW{K:Ct}{ks:List Kd}{rows:List (List G)}{i:Nat}{r:List G}(h:rows[i]? = some r):(f_ K ks rows)[i]? = some (jk K ks r):=by
 unfold f_;rw[ch,h];rfl
theorem xF(K:Ct)(ks:List Kd)(rows:List (List G))(i:Nat)(r:List G):f_ K ks (rows.set i r)=(f_ K ks rows).set i (jk K ks r):=by
 simp[f_,sX]
theorem Ve{P:Program}{t:TypeId}{m k v:AV}{b:Bool}{H H':List aj}(h:tS P t m k H=some (b,v,H'))(hb:b=true):tz P t m k (ao H)=some (v,ao H')∧fK P t m k false (ao H)=none:=by
 unfold tS at h;unfold tz fK;split at h
 case h_2=>cases h
 rename_i N O id J;rw[J];simp only[];split at h
 case h_2=>cases h
 rename_i l K ks rows cl hid;rw[bl hid];simp only[aj.den];split at h
 case h_2=>cases h
 rename_i key w' hk hw M;split at h
 case h_2=>cases h
 rename_i u;simp only[az]at u;obtain⟨g,q⟩:=u;have e:=bu g;simp only[aY,bh]at h;obtain⟨d,rfl,rfl⟩:=h;rw[hb]at d;rw[←Ct.jR hk,jn q,hw,M];simp only[g,xE q,and_true];unfold eu at d;unfold cw gv;cases y:bX K.ks key rows 0 with
 | none =>
  simp only[wx,gL,dh,aj.den,eD,lZ,sY]
 | some p =>
  obtain⟨i,r⟩:=p;rw[y]at d;simp only[]at d;obtain⟨_,B⟩:=o9 y;rw[fU]at B;have I:nh (f_ K ks rows) i=some (K.av (gi r 0).row,(jP r).map (aJ ks),(gi r 2).int.toNat):=by
   unfold nh;rw[tW B];simp only[jk,d,cond_true]
  simp only[eM,I,gL,dh,aj.den,eD,dO,xF];rfl
theorem Vf{P:Program}{t:TypeId}{m k v:AV}{b:Bool}{H H':List aj}(h:tT P t m k v H=some (b,H'))(hb:b=true):oP P t m k v (ao H)=some (ao H')∧ln P t m k v (ao H)=none:=by
 unfold tT at h;unfold oP ln;split at h
 case h_2=>cases h
 rename_i kt et id w j af off n M;rw[M];simp only[];split at h
 case h_2=>cases h
 rename_i l K ks rows cl ks2 ver' rws hid N;rw[bl hid,bl N];simp only[aj.den];split at h
 case h_2=>cases h
 rename_i key hk;split at h
 case h_2=>cases h
 rename_i q;simp only[az]at q;obtain⟨g,y,B,I,J⟩:=q;have O:=Kd.iz y;subst O;have U:=bu B;have V:=bu I;have W:=bu J;subst U V W;simp only[aY,bh]at h;obtain⟨d,rfl⟩:=h;rw[hb]at d;have d:=bu d;subst d;rw[←Ct.jR hk,jn g];simp only[Ct.tL,dO,and_self,if_true,xE g,and_true];unfold kH bE dT;cases hf:bX K.ks key rows 0 with
 | none =>
  simp only[wx,dh,aj.den,Hk,cond_false];simp[f_,jk,jP,gi,G.row,G.rows,G.int,G.bool]
 | some p =>
  obtain⟨i,r⟩:=p;obtain⟨_,u⟩:=o9 hf;rw[fU]at u;simp only[eM,Bw (tW u),dh,aj.den,xF,HB,cond_true];simp[jk,jP,gi,G.row,G.rows,G.int,G.bool]
theorem Vg{P:Program}{t:TypeId}{m k v:AV}{b:Bool}{H H':List aj}(h:tU P t m k H=some (b,v,H'))(hb:b=true):gV P t m k (ao H)=some (v,ao H'):=by
 unfold tU at h;unfold gV;split at h
 case h_2=>cases h
 rename_i N O id J;rw[J];simp only[];split at h
 case h_2=>cases h
 rename_i l K ks rows cl hid;rw[bl hid];simp only[aj.den];split at h
 case h_2=>cases h
 rename_i key w' hk hw M;split at h
 case h_2=>cases h
 rename_i q;simp only[az]at q;obtain⟨B,g⟩:=q;simp only[aY,bh]at h;obtain⟨d,rfl,rfl⟩:=h;rw[hb]at d;rw[←Ct.jR hk,jn g,hw,M];simp only[B,Ct.tL,Bool.and_self,xE g];unfold eu at d;unfold cw ls lr bE dT;cases u:bX K.ks key rows 0 with
 | none =>
  simp only[wx,gL,dh,aj.den,eD,lZ,sY,Hk,cond_false,goInt];simp[f_,jk,jP,gi,G.row,G.rows,G.int,G.bool]
 | some p =>
  obtain⟨i,r⟩:=p;rw[u]at d;simp only[]at d;obtain⟨_,y⟩:=o9 u;rw[fU]at y;have I:nh (f_ K ks rows) i=some (K.av (gi r 0).row,(jP r).map (aJ ks),(gi r 2).int.toNat):=by
   unfold nh;rw[tW y];simp only[jk,d,cond_true]
  simp only[eM,I,gL,dh,aj.den,eD,dO,xF,HB,cond_true,goInt];rfl
theorem B9{st:Int}:∀{rows:List (List G)} {i j:Nat} {r:List G},fa st rows i=some (j,r)→i≤j∧rows[j-i]? = some r
 | [],_,_,_,h=>by simp[fa]at h
 | x::rs,i,j,r,h=>by
  simp only[fa]at h;cases d:((gi x 2).int.toNat:Int)==st with
  | true =>
   rw[d]at h;cases h;simp
  | false =>
   rw[d]at h;obtain⟨h1,g⟩:=B9 h;refine⟨by omega,?_⟩;rw[show j-i=(j-(i+1))+1 from by omega];simpa using g
theorem JB{K:Ct}{ks:List Kd}{st:Int}:∀{rows:List (List G)} {i:Nat},(fa st rows i).map (·.1)=(oQ (f_ K ks rows) st).map (·+i)
 | [],_=>rfl
 | x::rs,i=>by
  have d:=JB (K:=K) (ks:=ks) (st:=st) (rows:=rs) (i:=i+1);unfold oQ at d⊢;simp only[fa,f_,dx,Hr,jk]at d⊢;cases g:((gi x 2).int.toNat:Int)==st with
  |true=>simp
  | false =>
   simp only[cond_false,d,kY,if_false,HC];congr 1
   funext n
   simp only[HD];omega
theorem Vh{m s v:AV}{b:Bool}{H H':List aj}(h:tV m s v H=some (b,H'))(hb:b=true):jK m s v (ao H)=some (ao H'):=by
 unfold tV at h;unfold jK;split at h
 case h_2=>cases h
 rename_i id st w j af off n;split at h
 case h_2=>cases h
 rename_i l K ks rows cl ks2 ver' rws hid U;simp only[];rw[bl hid,bl U];simp only[aj.den];split at h
 case h_2=>cases h
 rename_i u;simp only[az]at u;obtain⟨J,M,N,O⟩:=u;have V:=Kd.iz J;subst V;have W:=bu M;have e4:=bu N;have e5:=bu O;subst W e4 e5;simp only[aY,bh]at h;obtain⟨k,rfl⟩:=h;rw[hb]at k;simp only[az]at k;obtain⟨d,g⟩:=k;have g:=bu g;subst g;simp only[dO,and_self,if_true];unfold qU at d;unfold qT;cases q:fa st rows 0 with
 |none=>rw[q]at d; cases d
 | some p =>
  obtain⟨i,r⟩:=p;obtain⟨_,B⟩:=B9 q;rw[fU]at B;have hi:oQ (f_ K ks rows) st=some i:=by
   have:=JB (K:=K) (ks:=ks) (st:=st) (rows:=rows) (i:=0);rw[q]at this;cases I:oQ (f_ K ks rows) st with
   |none=>rw[I]at this; cases this
   |some y=>rw[I]at this; simp at this; rw[this]
  rw[hi];simp only[tW B,jk,dh,aj.den,xF];simp[jP,gi,G.row,G.rows,G.bool]
theorem JD(K V:Ct)(rows:List (List G))(i:Nat)(r:List G):dj K V (rows.set i r)=(dj K V rows).set i (K.av (gi r 0).row,V.av (gi r 1).row,(gi r 2).int.toNat):=by
 simp[dj,sX]
theorem JE{α:Type}{l:List α}{i:Nat}{x:α}(f:α→α)(h:l[i]? = some x):l.modify i f=l.set i (f x):=by
 apply List.ext_getElem?;intro j;rw[List.getElem?_modify,List.getElem?_set];by_cases e:i=j
 ·subst e
  rw[if_pos rfl,if_pos (aK h),h];simp
 ·rw [if_neg e]
  simp[e]
theorem JF{P:Program}{t:TypeId}{m k v:AV}{b:Bool}{H H':List aj}(h:qS P t m k v H=some (b,H')):ln P t m k v (ao H)=some (ao H'):=by
 unfold qS at h;unfold ln;split at h
 case h_2=>cases h
 rename_i I J id u;rw[u];simp only[];split at h
 case h_2=>cases h
 rename_i K V rows cl hid;rw[bl hid];simp only[aj.den];split at h
 case h_2=>cases h
 rename_i key val hk y;split at h
 case h_2=>cases h
 rename_i d;cases h;rw[←Ct.jR hk,←Ct.jR y,jn d];simp only[Ct.tL,and_self,if_true,qR d,dh,aj.den];unfold aL bE dT;cases B:bX K.ks key rows 0 with
 |none=>simp[dj,gi,G.row,G.rows,G.int]
 | some p =>
  obtain⟨_,g⟩:=o9 (r:=p.2) (j:=p.1) B;rw[fU]at g;have q:(dj K V rows)[p.1]? = some (K.av (gi p.2 0).row,V.av (gi p.2 1).row,(gi p.2 2).int.toNat):=by simp[dj,g]
  simp only[eM,JE _ q,JD,HB,cond_true];simp[gi,G.row,G.rows,G.int]
def tX(P:Program)(t:TypeId)(m k:AV)(H:List aj):Option (Bool × List aj) :=
 match c8 P t,m with
 | some (d,_),.map id=>match H[id]? with
  | some (.map K V rows cl)=>match K.read k,gu P d K with
   |some key,true=>some (true,H.set id (.map K V (Jz K.ks rows key) cl))
   |_,_=>none
  |_=>none
 |_,_=>none
theorem JG{α β:Type}(f:α→β):∀(l:List α) (i:Nat),(l.map f).eraseIdx i=(l.eraseIdx i).map f
 | [],_=>by simp
 |_::_,0=>by simp
 |_::l,i+1=>by simp[JG f l i]
theorem Vi{P:Program}{t:TypeId}{m k:AV}{b:Bool}{H H':List aj}(h:tX P t m k H=some (b,H')):tv P t m k (ao H)=some (ao H'):=by
 unfold tX at h;unfold tv;split at h
 case h_2=>cases h
 rename_i q u id g;rw[g];simp only[];split at h
 case h_2=>cases h
 rename_i K V rows cl hid;rw[bl hid];simp only[aj.den];split at h
 case h_2=>cases h
 rename_i key hk d;cases h;rw[←Ct.jR hk,jn d];simp only[qR d,dh,aj.den];unfold Jz;cases v:bX K.ks key rows 0 with
 |none=>rfl
 |some p=>simp only[eM,dj,JG]
def tY(P:Program)(t:TypeId)(x:AV)(H:List aj):Option (Bool × List aj) :=
 match cn P t,x with
 | .slice e sz _,.vec w id af off n=>match ef P e,H[id]? with
  | some z,some (.vec ks v rows)=>match fO ks (z.map .lit) with
   | some d=>if ks.length=w∧w=sz∧v=af∧z.length=sz∧0<sz then
     some (dA (off+n) rows.length,H.set id (.vec ks v (rows.take off++bN n d++rows.drop (off+n)))) else none
   |none=>none
  |_,_=>none
 |_,_=>none
theorem Vj{P:Program}{t:TypeId}{x:AV}{b:Bool}{H H':List aj}(h:tY P t x H=some (b,H'))(hb:b=true):tw P t x (ao H)=some (ao H'):=by
 unfold tY at h;unfold tw;split at h
 case h_2=>cases h
 rename_i e sz y w id af off n hk;rw[hk];simp only[];split at h
 case h_2=>cases h
 rename_i z ks v rows k hid;rw[k,bl hid];simp only[aj.den];split at h
 case h_2=>cases h
 rename_i B g;split at h
 case isFalse=>cases h
 rename_i q;obtain⟨rfl,rfl,rfl,h1,u⟩:=q;simp only[aY,bh]at h;obtain⟨d,rfl⟩:=h;subst hb;have d:=s7 d;simp only[h1,u,dO,d,and_self,if_true,dh,aj.den,aY];rw[←jQ g];simp[List.map_take,List.map_drop]
def tZ(P:Program)(t xt:TypeId)(s x:AV)(H:List aj):Option (Bool × AV × List aj) :=
 match cn P t,cn P xt,s,x with
 | .slice e sz d,.int _,.lit (.slice none 0 0),.lit (.int _ n)=>match ef P e with
  | some z=>match oZ (z.map .lit) with
   | some ks=>match fO ks (z.map .lit) with
    | some g=>if z.length=sz∧0<sz∧d≤1048576∧ks.length=sz then
      some (ai 0 n&&a_ n 1048576,.vec sz H.length 0 0 n.toNat,H++[.vec ks 0 (bN n.toNat g)]) else none
    |none=>none
   |none=>none
  |none=>none
 |_,_,_,_=>none
theorem Vk{P:Program}{t xt:TypeId}{s x v:AV}{b:Bool}{H H':List aj}(h:tZ P t xt s x H=some (b,v,H'))(hb:b=true):oO P t xt s x (ao H)=some (v,ao H'):=by
 unfold tZ at h;unfold oO;split at h
 case h_2=>cases h
 rename_i e sz M k k' n hk g;rw[hk,g];simp only[];split at h
 case h_2=>cases h
 rename_i z u;rw[u];simp only[];split at h
 case h_2=>cases h
 rename_i ks N;split at h
 case h_2=>cases h
 rename_i O q;split at h
 case isFalse=>cases h
 rename_i y;obtain⟨h1,B,I,J⟩:=y;simp only[aY,bh]at h;obtain⟨d,rfl,rfl⟩:=h;subst hb;simp only[dS,fu,az,decide_eq_true_eq]at d;simp only[h1,B,I,d.1,d.2,and_self,if_true,gL,aj.den,eD,J,aY,bh,true_and];rw[←jQ q];simp
def fv(ks:List Kd)(rows:List (List G))(key:List G):Option Nat:=match bX ks key rows 0 with
 |some (_,r)=>oX r
 |none=>none
def kI(mem:List (List G)):Option Nat→Bool
 |some i=>ft i mem.length
 |none=>false
def gx(mem:List (List G)):Option Nat→List G
 |some i=>mem.getD i []
 |none=>[]
def qV(mem:List (List G))(j:Option Nat)(ks:List Kd)(key val:List G):List (List G):=match j with
 |some i=>mem.set i [.l (aL ks (gi (gx mem j) 0).rows key val (gi (gx mem j) 1).int.toNat),.i (bE ks (gi (gx mem j) 0).rows key (gi (gx mem j) 1).int.toNat:Nat)]
 |none=>mem
def qW(rows:List (List G))(st:Int):Bool:=match fa st rows 0 with
 |some (_,r) => !a_ 0 (gi r 1).int
 |none=>false
def qX(rows:List (List G))(st:Int)(n:Nat):List (List G):=match fa st rows 0 with
 |some (i,r)=>rows.set i [gi r 0,.i n,gi r 2]
 |none=>rows
theorem B_{P:Program}{g:TypeId}{K:Ct}(h:gu P g K=true)(key:List G):∀(rows:List (List G)) (i:Nat),er P g (dm K.ks key) (fh (g_ K rows)) i =
  some ((bX K.ks key rows i).map fun p=>(p.1,AV.undef))
 | [],i=>rfl
 | r::rs,i=>by
  have q:=B_ h key rs (i+1);have k:∃ d,jm d K.ks=true:=by
   unfold gu at h;split at h
   ·simp only[az]at h; exact⟨_,h.1⟩
   ·cases h
  obtain⟨d,u⟩:=k;simp only[g_,fh,dx,er,jn h,xD _ _ u,bX];cases ba K.ks key (gi r 0).row with
  |true=>rfl
  |false=>exact q
theorem JH{K:Ct}{rows:List (List G)}{i:Nat}{r:List G}(h:rows[i]? = some r):(g_ K rows)[i]? = some (K.av (gi r 0).row,oX r,(gi r 2).int.toNat):=by
 unfold g_;rw[ch,h];rfl
theorem JI{KI VI:Ct}{mem:List (List G)}{i:Nat}(h:i<mem.length):(nm KI VI mem)[i]? = some (dj KI VI (gi (mem.getD i []) 0).rows,(gi (mem.getD i []) 1).int.toNat):=by
 unfold nm;rw[ch,ct,bL h];rfl
def Ca(P:Program)(t:TypeId)(m k:AV)(ok:Bool)(H:List aj):Option (Bool × AV) :=
 match c8 P t,m with
 | some (d,g),.sub id l j=>match H[id]? with
  | some (.mm l' _ KI VI _ mem _)=>match KI.read k,nr P g with
   | some key,some (h,z)=>match ad l l'&&(gu P d KI&&VI.same h) with
    | true=>some (kI mem j,match ok with
      |true=>.tuple [VI.av (aB KI.ks (gi (gx mem j) 0).rows key z),.lit (.bool (dT KI.ks (gi (gx mem j) 0).rows key))]
      |false=>VI.av (aB KI.ks (gi (gx mem j) 0).rows key z))
    |false=>none
   |_,_=>none
  |_=>none
 | some (d,g),.map id=>match H[id]?,ok with
  | some (.mm l K _ _ rows _ _),false=>match K.read k,gJ P g with
   | some key,some (.lit (.map none))=>match gu P d K with
    |true=>some (true,.sub id l (fv K.ks rows key))
    |false=>none
   |_,_=>none
  |_,_=>none
 |_,_=>none
theorem Vl{P:Program}{t:TypeId}{m k v:AV}{ok b:Bool}{H:List aj}(h:Ca P t m k ok H=some (b,v))(hb:b=true):fK P t m k ok (ao H)=none∧ji P t m k ok (ao H)=some v:=by
 unfold Ca at h;unfold ji fK;split at h
 ·rename_i B I id l j g
  rw[g];refine⟨rfl,?_⟩;split at h
  case h_2=>cases h
  rename_i l' K KI VI rows mem cl hid;split at h
  case h_2=>cases h
  rename_i key O z hk q;split at h
  case h_2=>cases h
  rename_i d;simp only[az]at d;obtain⟨J,d,M⟩:=d;have e:=Ct.jl M;subst e;simp only[aY,bh]at h;obtain⟨hi,rfl⟩:=h;rw[hb]at hi;cases j with
  |none=>cases hi
  | some i =>
   have y:i<mem.length:=by simpa[kI]using hi
   simp only[qC,g];rw[bl hid];simp only[aj.den,J,JI y,gx];rw[←Ct.jR hk,jn d,Jx q];simp only[qR d];unfold aB dT;cases bX KI.ks key (gi (mem.getD i []) 0).rows 0 with
   |none=>cases ok<;>rfl
   |some p=>cases ok<;>rfl
 ·rename_i B I id g
  rw[g];split at h
  case h_2=>cases h
  rename_i l K KI VI rows mem cl hid;split at h
  case h_2=>cases h
  rename_i key hk q;split at h
  case h_2=>cases h
  rename_i d;simp only[oR,g];rw[bl hid];simp only[aj.den];refine⟨trivial,?_⟩;rw[←Ct.jR hk,jn d,q];simp only[B_ d];cases h;unfold fv;cases N:bX K.ks key rows 0 with
  |none=>rfl
  | some p =>
   obtain⟨i,r⟩:=p;obtain⟨_,u⟩:=o9 N;rw[fU]at u;simp only[eM,JH u]
 ·cases h
def t_(P:Program)(t:TypeId)(m k v:AV)(H:List aj):Option (Bool × List aj) :=
 match c8 P t,m with
 | some (d,_),.sub id l j=>match H[id]? with
  | some (.mm l' K KI VI rows mem cl)=>match KI.read k,VI.read v with
   | some key,some val=>match ad l l'&&gu P d KI with
    |true=>some (kI mem j,H.set id (.mm l' K KI VI rows (qV mem j KI.ks key val) cl))
    |false=>none
   |_,_=>none
  |_=>none
 |_,_=>none
theorem Vm(KI VI:Ct)(mem:List (List G))(i:Nat)(r:List G):nm KI VI (mem.set i r)=(nm KI VI mem).set i (dj KI VI (gi r 0).rows,(gi r 1).int.toNat):=by
 simp[nm,sX]
theorem Vn(K:Ct)(rows:List (List G))(i:Nat)(r:List G):g_ K (rows.set i r)=(g_ K rows).set i (K.av (gi r 0).row,oX r,(gi r 2).int.toNat):=by
 simp[g_,sX]
theorem Vo{P:Program}{t:TypeId}{m k v:AV}{b:Bool}{H H':List aj}(h:t_ P t m k v H=some (b,H'))(hb:b=true) :
  tC P t m k v (ao H)=some (ao H')∧ln P t m k v (ao H)=none∧oP P t m k v (ao H)=none:=by
 unfold t_ at h;unfold tC ln oP;split at h
 case h_2=>cases h
 rename_i O U id l j J;rw[J];refine⟨?_,rfl,rfl⟩;split at h
 case h_2=>cases h
 rename_i l' K KI VI rows mem cl hid;split at h
 case h_2=>cases h
 rename_i key val hk M;split at h
 case h_2=>cases h
 rename_i d;simp only[az]at d;obtain⟨g,d⟩:=d;have e:=bu g;subst e;simp only[aY,bh]at h;obtain⟨hi,rfl⟩:=h;rw[hb]at hi;cases j with
 |none=>cases hi
 | some i =>
  have B:i<mem.length:=by simpa[kI]using hi
  simp only[];rw[bl hid];simp only[aj.den,JI B,g];rw[←Ct.jR hk,←Ct.jR M,jn d];simp only[Ct.tL,and_self,if_true,qR d,dh,aj.den,qV,gx,Vm];generalize mem.getD i []=m0;have q:∀(X:List (List G)) (n:Nat),(gi [G.l X,G.i n] 0).rows=X:=fun _ _=>rfl;have u:∀(X:List (List G)) (n:Nat),(gi [G.l X,G.i n] 1).int.toNat=n:=fun _ _=>rfl;unfold aL bE dT;cases N:bX KI.ks key (gi m0 0).rows 0 with
  | none =>
   simp only[wx,Hk,cond_false,q,u];rw[show dj KI VI ((gi m0 0).rows++[[.l [key],.l [val],.i (gi m0 1).int.toNat]])=dj KI VI (gi m0 0).rows++[(KI.av key,VI.av val,(gi m0 1).int.toNat)] from by
    simp only[dj,ke,dx,sY];rfl]
  | some p =>
   obtain⟨_,y⟩:=o9 (r:=p.2) (j:=p.1) N;rw[fU]at y;have I:(dj KI VI (gi m0 0).rows)[p.1]? = some (KI.av (gi p.2 0).row,VI.av (gi p.2 1).row,(gi p.2 2).int.toNat):=by simp[dj,y]
   simp only[eM,JE _ I,HB,cond_true,q,u,JD];rfl
def ua(P:Program)(t:TypeId)(m k:AV)(H:List aj):Option (Bool × AV × List aj) :=
 match c8 P t,m with
 | some (d,g),.map id=>match H[id]? with
  | some (.mm l K KI VI rows mem cl)=>match K.read k,gJ P g with
   | some key,some (.lit (.map none))=>match gu P d K with
    |true=>some (!dT K.ks rows key,.tuple [.sub id l none,.lit (.int .i64 (cl:Nat))],H.set id (.mm l K KI VI (rows++[[.l [key],.i (-1),.i cl]]) mem (cl+1)))
    |false=>none
   |_,_=>none
  |_=>none
 |_,_=>none
theorem Vp{P:Program}{t:TypeId}{m k v:AV}{b:Bool}{H H':List aj}(h:ua P t m k H=some (b,v,H'))(hb:b=true) :
  iK P t m k (ao H)=some (v,ao H')∧gV P t m k (ao H)=none:=by
 unfold ua at h;unfold iK gV;split at h
 case h_2=>cases h
 rename_i B I id q;rw[q];split at h
 case h_2=>cases h
 rename_i l K KI VI rows mem cl hid;simp only[];rw[bl hid];simp only[aj.den];split at h
 case h_2=>cases h
 rename_i key hk u;split at h
 case h_2=>cases h
 rename_i g;simp only[aY,bh]at h;obtain⟨d,rfl,rfl⟩:=h;rw[hb]at d;rw[←Ct.jR hk,jn g,u];simp only[Ct.tL,B_ g,and_true];unfold dT at d;cases y:bX K.ks key rows 0 with
 |some p=>rw[y]at d; cases d
 | none =>
  simp only[wx,dh,aj.den];rw[show g_ K (rows++[[.l [key],.i (-1),.i cl]])=g_ K rows++[(K.av key,none,cl)] from by
   simp only[g_,ke,dx,sY];rfl]
  rfl
theorem JJ{K:Ct}{st:Int}:∀{rows:List (List G)} {i:Nat},(fa st rows i).map (·.1)=(oS (g_ K rows) st).map (·+i)
 | [],_=>rfl
 | x::rs,i=>by
  have d:=JJ (K:=K) (st:=st) (rows:=rs) (i:=i+1);unfold oS at d⊢;simp only[fa,g_,dx,Hr]at d⊢;cases g:((gi x 2).int.toNat:Int)==st with
  |true=>simp
  | false =>
   simp only[cond_false,d,kY,if_false,HC];congr 1
   funext n
   simp only[HD];omega
def ub(m s v:AV)(H:List aj):Option (Bool × List aj) :=
 match m,s,v with
 | .map id,.lit (.int .i64 st),.map j=>match H[id]?,H[j]? with
  | some (.mm l K KI VI rows mem cl),some (.map h k d g)=>match KI.same h&&VI.same k with
   |true=>some (qW rows st,(H.set id (.mm l K KI VI (qX rows st mem.length) (mem++[[.l d,.i g]]) cl)).set j (.raw .dead))
   |false=>none
  |_,_=>none
 |_,_,_=>none
theorem Vq{m s v:AV}{b:Bool}{H H':List aj}(h:ub m s v H=some (b,H'))(hb:b=true) :
  kC m s v (ao H)=some (ao H')∧jK m s v (ao H)=none:=by
 unfold ub at h;unfold kC jK;split at h
 case h_2=>cases h
 rename_i id st j;split at h
 case h_2=>cases h
 rename_i l K KI VI rows mem cl U V N O hid B;refine⟨?_,rfl⟩;simp only[];rw[bl hid,bl B];simp only[aj.den];split at h
 case h_2=>cases h
 rename_i k;simp only[az]at k;have I:=Ct.jl k.1;have J:=Ct.jl k.2;subst I J;simp only[aY,bh]at h;obtain⟨d,rfl⟩:=h;rw[hb]at d;unfold qW at d;unfold qX;cases g:fa st rows 0 with
 |none=>rw[g]at d; cases d
 | some p =>
  obtain⟨i,r⟩:=p;rw[g]at d;obtain⟨_,q⟩:=B9 g;rw[fU]at q;have hi:oS (g_ K rows) st=some i:=by
   have:=JJ (K:=K) (st:=st) (rows:=rows) (i:=0);rw[g]at this;cases u:oS (g_ K rows) st with
   |none=>rw[u]at this; cases this
   |some y=>rw[u]at this; simp at this; rw[this]
  have hm:oX r=none:=by
   unfold oX;cases M:a_ 0 (gi r 1).int with
   |true=>simp[M]at d
   |false=>rfl
  rw[hi];simp only[JH q,hm,dh,aj.den,Vn];simp[oX,nm,gi,G.row,G.rows,G.int,a_,show ∀ n,dA 0 n=true from fun n=>Nat.ble_eq_true_of_le (eC n)]
def qY(P:Program)(r:Operand→AV)(H:List aj):Op→Option (Bool × AV × List aj)
 | .alloc t=>match w7 P t with
  |some e=>if ma (ao H) 0=true then some (true,.ptr H.length 0 0 0 0,H++[.raw (.eF 0 t e vZ)]) else none
  | none=>match ef P t with
   |some z=>some (true,.ptr H.length 0 0 0 0,H++[.raw (.box (z.map .lit))])
   |none=>none
 | .box _ x=>match oJ (r x) with
  |some cs=>some (true,.ptr H.length 0 0 0 0,H++[.raw (.box cs)])
  |none=>none
 | .store t a x=>match qP P t (r a) (r x) H with
  |some (b,H')=>some (b,.undef,H')
  |none=>none
 |.makeSlice t l c=>tQ P t (r l) (r c) H
 |.buildSlice t n parts=>tR P t n (parts.toList.map fun p=>(p.1,r p.2)) H
 | .range t x=>match cn P t,r x with
  |.str,.lit (.string s)=>some (true,.ptr H.length 0 0 0 0,H++[.raw (.iter s 0)])
  |_,_=>none
 | .next it true=>match r it with
  | .ptr id 0 _ 0 0=>match H[id]? with
   | some (.raw (.iter s pos))=>if pos<s.size then some (true,.tuple [.lit (.bool true),.lit (goInt pos),.lit (.int .i32 (mO s pos).1)],H.set id (.raw (.iter s (pos+(mO s pos).2))))
     else some (true,.tuple [.lit (.bool false)],H)
   |_=>none
  |_=>none
 | .makeMap t none=>match c8 P t with
  | some (g,d)=>match nr P g,nr P d with
   |some (K,_),some (V,_)=>some (true,.map H.length,H++[.map K V [] 0])
   | some (K,_),none=>match c8 P d with
    |some _=>some (true,.map H.length,H++[.map K K [] 0])
    |none=>none
   |_,_=>none
  |none=>none
 | .mapUpdate t m k v=>match qS P t (r m) (r k) (r v) H with
  |some (b,H')=>some (b,.undef,H')
  | none=>match tT P t (r m) (r k) (r v) H with
   |some (b,H')=>some (b,.undef,H')
   | none=>match t_ P t (r m) (r k) (r v) H with
    |some (b,H')=>some (b,.undef,H')
    |none=>none
 |.lookup t m k false=>tS P t (r m) (r k) H
 | .mapEntry t m k=>match tU P t (r m) (r k) H with
  |some y=>some y
  |none=>ua P t (r m) (r k) H
 | .entryStore _ m s x=>match tV (r m) (r s) (r x) H with
  |some (b,H')=>some (b,.undef,H')
  | none=>match ub (r m) (r s) (r x) H with
   |some (b,H')=>some (b,.undef,H')
   |none=>none
 | .insert t m k v=>match qS P t (r m) (r k) (r v) H with
  |some (b,H')=>some (b,.undef,H')
  |none=>none
 | .call c=>match c.callee with
  | .builtin .append=>match c.args.toList,c.argTypes.toList with
   | [s,x],[t,xt]=>match cn P xt with
    |.int _=>tZ P t xt (r s) (r x) H
    |_=>tP P t xt (r s) (r x) H
   |_,_=>none
  | .builtin .clear=>match c.args.toList,c.argTypes.toList with
   | [x],[t]=>match tY P t (r x) H with
    |some (b,H')=>some (b,.tuple [],H')
    |none=>none
   |_,_=>none
  | .builtin .delete=>match c.args.toList,c.argTypes.toList with
   | [x,k],t::_=>match tX P t (r x) (r k) H with
    |some (b,H')=>some (b,.tuple [],H')
    |none=>none
   |_,_=>none
  |_=>none
 |_=>none
theorem Vr{P:Program}{t xt:TypeId}{s x:AV}{H:List ab}(h:∀ k,cn P xt≠.int k):oO P t xt s x H=none:=by
 unfold oO;split
 ·rename_i hk
  exact(h _ hk).elim
 ·rfl
theorem JK{P:Program}{r:Operand→AV}{H H':List aj}{o:Op}{v:AV}{b:Bool}(h:qY P r H o=some (b,v,H'))(hb:b=true):cZ P r (ao H) o=some (v,ao H'):=by
 cases o<;>simp only[qY]at h<;>try cases h
 case alloc t =>
  split at h
  ·rename_i e he
   split at h
   ·rename_i N
    cases h;simp only[cZ,oL,he,N,if_true,eD,gL,aj.den]
   ·cases h
  ·rename_i he
   split at h
   ·rename_i z I; cases h; simp only[cZ,oL,he,I,eD,gL,aj.den]
   ·cases h
 case box t x =>
  split at h
  ·rename_i z I; cases h; simp only[cZ,w9,I,eD,gL,aj.den]
  ·cases h
 case store t a x =>
  split at h
  ·rename_i g H1 d; cases h; simp only[cZ,Ju d hb]
  ·cases h
 case makeSlice t l c=>simp only[cZ]; exact Vb h hb
 case buildSlice t n ps=>simp only[cZ]; exact Vc h
 case range t x =>
  split at h
  ·rename_i s hk J
   cases h;simp only[cZ,xa,hk,J,eD,gL,aj.den]
  ·cases h
 case next it isString =>
  cases isString with
  |false=>cases h
  | true =>
   simp only[]at h;split at h
   ·rename_i id k J
    split at h
    ·rename_i s pos hid
     simp only[cZ,xb,J,bl hid,aj.den];split at h
     ·rename_i B
      cases h;rw[if_pos B,dh];rfl
     ·rename_i B
      cases h;rw[if_neg B]
    ·cases h
   ·cases h
 case makeMap t res =>
  cases res with
  |some _=>cases h
  | none =>
   simp only[]at h;split at h
   ·split at h
    ·cases h
     simp only[cZ,eD,gL,aj.den];rfl
    ·split at h
     ·cases h
      simp only[cZ,eD,gL,aj.den];rfl
     ·cases h
    ·cases h
   ·cases h
 case mapUpdate t m k x =>
  split at h
  ·rename_i g H1 d
   cases h;simp only[cZ,JF d]
  ·split at h
   ·rename_i g H1 d
    cases h;obtain⟨g1,g2⟩:=Vf d hb;simp only[cZ,g1,g2]
   ·split at h
    ·rename_i g H1 d
     cases h;obtain⟨g1,g2,g3⟩:=Vo d hb;simp only[cZ,g1,g2,g3]
    ·cases h
 case lookup t m k ok =>
  cases ok with
  |true=>cases h
  | false =>
   obtain⟨g1,g2⟩:=Ve h hb;simp only[cZ,g1,g2]
 case mapEntry t m k =>
  split at h
  ·rename_i y O
   cases h;simp only[cZ,Vg O hb]
  ·obtain ⟨g1, g2⟩ := Vp h hb
   simp only[cZ,g1,g2]
 case entryStore t m s x =>
  split at h
  ·rename_i g H1 d
   cases h;simp only[cZ,Vh d hb]
  ·split at h
   ·rename_i g H1 d
    cases h;obtain⟨g1,g2⟩:=Vq d hb;simp only[cZ,g1,g2]
   ·cases h
 case insert t m k x =>
  split at h
  ·rename_i g H1 d
   cases h;simp only[cZ,JF d]
  ·cases h
 case call c =>
  simp only[cZ,xk];split at h
  ·rename_i q
   rw[q];split at h
   ·rename_i h1 u
    simp only[h1,u];split at h
    ·rw[Vk h hb]
    ·rename_i M
     rw[Vr M];exact U' h hb
   ·cases h
  ·rename_i q
   rw[q];split at h
   ·rename_i h1 u
    simp only[h1,u];split at h
    ·rename_i d
     cases h;rw[Vj d hb]
    ·cases h
   ·cases h
  ·rename_i q
   rw[q];split at h
   ·rename_i h1 u
    simp only[h1,u];split at h
    ·rename_i d
     cases h;rw[Vi d]
    ·cases h
   ·cases h
  ·cases h
end Go.AL

namespace Go.AL
open Go
variable [Dr]
def qZ(n:Int):Option (Bool × AV):=some (aq n,.lit (.int .i64 n))
def Cb(P:Program)(op:BinOp)(t:TypeId)(d:Bool)(x y:AV):Option (Bool × AV) :=
 match op,x,y with
 |.add,.lit (.int .i64 a),.lit (.int .i64 b)=>qZ (a+b)
 |.sub,.lit (.int .i64 a),.lit (.int .i64 b)=>qZ (a-b)
 |.mul,.lit (.int .i64 a),.lit (.int .i64 b)=>qZ (a*b)
 |.quo,.lit (.int .i64 a),.lit (.int .i64 b)=>some (!(b==0)&&aq (a.tdiv b),.lit (.int .i64 (a.tdiv b)))
 |.rem,.lit (.int .i64 a),.lit (.int .i64 b)=>some (!(b==0),.lit (.int .i64 (a.tmod b)))
 |.add,.lit (.string a),.lit (.string b)=>some (dA (a.size+b.size) 9223372036854775807,.lit (.string (a++b)))
 |.lss,.lit (.int k a),.lit (.int k' b)=>if k=k' then some (true,.lit (.bool (ai a b))) else none
 |.leq,.lit (.int k a),.lit (.int k' b)=>if k=k' then some (true,.lit (.bool (a_ a b))) else none
 |.gtr,.lit (.int k a),.lit (.int k' b)=>if k=k' then some (true,.lit (.bool (ai b a))) else none
 |.geq,.lit (.int k a),.lit (.int k' b)=>if k=k' then some (true,.lit (.bool (a_ b a))) else none
 |.and,.lit (.int k a),.lit (.int k' b)=>if k=k' then some (true,.lit (.int k (HV k a b))) else none
 |.or,.lit (.int k a),.lit (.int k' b)=>if k=k' then some (true,.lit (.int k (HW k a b))) else none
 |.xor,.lit (.int k a),.lit (.int k' b)=>if k=k' then some (true,.lit (.int k (HX k a b))) else none
 |.shl,.lit (.int k a),.lit (.int _ b)=>some (aw b,.lit (.int k (A2 k a b)))
 |.shr,.lit (.int k a),.lit (.int _ b)=>some (aw b,.lit (.int k (dY k a b)))
 | op,.listF ks rows,.lit (.slice none 0 0)=>match P.underlying t,jh op false with
  |some (.slice _),some v=>some (ft 0 rows.length,v)
  |_,_=>none
 | op,.vec w id af off m,.lit (.slice none 0 0)=>match P.underlying t,jh op false with
  |some (.slice _),some v=>some (ft 0 m,v)
  |_,_=>none
 | _,_,_=>match gp P op t d x y with
  |some v=>some (true,v)
  |none=>none
def Cc(m sz:Nat)(cells:List AV):Option (Kd × List (List G)) :=
 match tN (cells.headD .undef)with
 | some k=>match bz [k] (cells.map fun c=>[c]) with
  |some rows=>if sz=1∧m=cells.length then some (k,rows) else none
  |none=>none
 |none=>none
theorem Vs{m sz:Nat}{cells:List AV}{k:Kd}{rows:List (List G)}(h:Cc m sz cells=some (k,rows)){j:Nat}(g:j<m) :
  aJ [k] (rows.getD j [])=(cells.drop (j*sz)).take sz:=by
 unfold Cc at h;split at h
 ·split at h
  ·rename_i rows' q
   split at h
   ·rename_i u
    obtain⟨rfl,rfl⟩:=u;cases h;have e:=oY q;have v:rows.length=cells.length:=by have:=congrArg HF e; simpa using this
    have d:(rows.map (aJ [k]))[j]? = (cells.map fun c=>[c])[j]? := by rw[e]
    rw[B3 (by omega),ch,bL g]at d;simp only[eM,aY]at d;rw[d,ah0,List.drop_eq_getElem_cons g,List.take_succ_cons,List.take_zero]
   ·cases h
  ·cases h
 ·cases h
def Cd(k:SK)(x i:AV):Option (Bool × AV) :=
 match k,x,i with
 |.slice _ sz _,.listF ks rows,.lit (.int _ j)=>if ks.length=sz then some (aw j&&ai j (rows.length:Int),.cptr (aJ ks (rows.getD j.toNat []))) else none
 |.slice _ sz _,.vec w id af off m,.lit (.int _ j)=>if w=sz then some (aw j&&ai j (m:Int),.ptr id af w (off+j.toNat) 0) else none
 | .array m _ sz _,.cptr cells,.lit (.int d j)=>match Cc m sz cells with
  |some (g,rows)=>some (aw j&&ai j (m:Int),.cptr (aJ [g] (rows.getD j.toNat [])))
  | none=>match ku k (.cptr cells) (.lit (.int d j)) with
   |some v=>some (true,v)
   |none=>none
 | _,_,_=>match ku k x i with
  |some v=>some (true,v)
  |none=>none
def uc:List AV→Option (List Int)
 | []=>some []
 | .lit (.int .i64 n)::l=>match uc l with
  |some q=>some (n::q)
  |none=>none
 |_=>none
theorem JL:∀{cells:List AV} {l:List Int},uc cells=some l→∀ i,i<l.length→cells[i]? = some (.lit (.int .i64 (l.getD i 0)))
 | [],l,h,i,hi=>by
  simp only[uc,aY]at h;subst h;simp at hi
 | c::cells,l,h,i,hi=>by
  unfold uc at h;split at h
  ·rename_i he
   cases he
  ·rename_i n l' he
   cases he;split at h
   ·rename_i q d
    cases h;cases i with
    |zero=>rfl
    | succ i =>
     simp only[List.length_cons]at hi;have:=JL d i (by omega);simpa using this
   ·cases h
  ·cases h
def Ce(k:SK)(x i:AV):Option (Bool × AV) :=
 match k,x,i with
 |.str,.lit (.string s),.lit (.int _ j)=>some (aw j&&ai j (s.size:Int),.lit (.int .u8 ((s.data.toList.getD j.toNat 0).toNat)))
 | .array m _ 1 false,.agg cells,.lit (.int _ j)=>match uc cells with
  |some l=>bif dA m l.length then some (aw j&&ai j (m:Int),.lit (.int .i64 (l.getD j.toNat 0))) else none
  | none=>match nf k x i with
   |some v=>some (true,v)
   |none=>none
 | _,_,_=>match nf k x i with
  |some v=>some (true,v)
  |none=>none
def Cf(op:UnOp)(x:AV):Option (Bool × AV) :=
 match op,x with
 |.neg,.lit (.int .i64 n)=>some (aq (0-n),.lit (.int .i64 (0-n)))
 | _,_=>match qv op x with
  |some v=>some (true,v)
  |none=>none
def Cg(P:Program)(s d:TypeId)(x:AV):Option (Bool × AV) :=
 match P.underlying s,cn P d,x with
 |some _,.int .i64,.lit (.int _ n)=>some (aq n,.lit (.int .i64 n))
 | _,_,_=>match qw P s d x with
  |some v=>some (true,v)
  |none=>none
def Ch(P:Program)(r:Operand→AV)(o:Op):Option (Bool × AV) :=
 match o with
 |.indexAddr t x i=>Cd (cn P t) (r x) (r i)
 |.index t x i=>Ce (cn P t) (r x) (r i)
 |.binOp op t x y _=>Cb P op t (lp x||lp y) (r x) (r y)
 |.slice t x lo hi mx=>B7 P t (r x) (lo.map r) (hi.map r) (mx.map r)
 |.unOp op _ x=>Cf op (r x)
 |.convert s d x=>Cg P s d (r x)
 | o=>match gK P r o with
  |some v=>some (true,v)
  |none=>none
theorem nu{x:Option AV}{b:Bool}{v:AV} (h:(match x with|some v=>some (true,v)|none=>none)=some (b,v)):x=some v:=by
 split at h
 ·cases h; rfl
 ·cases h
theorem o_{n:Int}(h:aq n=true):IntKind.i64.wrap n=n:=by
 rw[kF]at h;simp[IntKind.wrap,IntKind.bits,IntKind.signed];omega
theorem Vt{P:Program}{op:BinOp}{t:TypeId}{q:Bool}{x y v:AV}{b:Bool}(h:Cb P op t q x y=some (b,v))(hb:b=true):gp P op t q x y=some v:=by
  unfold Cb at h;split at h
  · simp only [qZ, aY, bh] at h
    obtain⟨h1,rfl⟩:=h;subst hb;simp[gp,gQ,lf,o_ h1]
  · simp only [qZ, aY, bh] at h
    obtain⟨h1,rfl⟩:=h;subst hb;simp[gp,gQ,lf,o_ h1]
  · simp only [qZ, aY, bh] at h
    obtain⟨h1,rfl⟩:=h;subst hb;simp[gp,gQ,lf,o_ h1]
  · simp only [aY, bh] at h
    obtain⟨h1,rfl⟩:=h;subst hb;simp only[az,mQ,beq_eq_false_iff_ne]at h1;simp[gp,gQ,lf,h1.1,o_ h1.2]
  · simp only [aY, bh] at h
    obtain⟨h1,rfl⟩:=h;subst hb;simp only[mQ,beq_eq_false_iff_ne]at h1;simp[gp,gQ,lf,h1]
  · simp only [aY, bh] at h
    obtain⟨h1,rfl⟩:=h;subst hb;have g:=s7 h1;have d:∀ k:Nat,k≤9223372036854775807→¬ ((k:Int)>IntKind.i64.max):=fun k hk=>by
      show ¬ ((k:Int)>(9223372036854775807:Int))
      omega
    simp only[gp,gQ,A3,if_neg (d _ g)]
  all_goals first
    |exact nu h
    | (split at h
       case isFalse=>cases h
       rename_i hk;subst hk;cases h;simp[gp,gQ,lf,dS,fu])
    | (simp only [aY, bh] at h
       obtain⟨h1,rfl⟩:=h;subst hb;simp only[jO,decide_eq_true_eq]at h1;simp only[gp,gQ,if_neg (Int.not_lt.2 h1)])
    | (split at h
       · rename_i h1 g
         simp only[aY,bh]at h;obtain⟨d,rfl⟩:=h;subst hb;simp only[kg]at d;simp only[gp,h1,if_pos d,g]
       · cases h)
theorem Vu{k:SK}{x i v:AV}{b:Bool}(h:Cd k x i=some (b,v))(hb:b=true):ku k x i=some v:=by
 unfold Cd at h;split at h
 ·split at h
  ·rename_i hw
   simp only[aY,bh]at h;obtain⟨h1,rfl⟩:=h;subst hb;simp only[jO,dS,az,decide_eq_true_eq]at h1;simp[ku,hw,h1.1,h1.2]
  ·cases h
 ·split at h
  ·rename_i hw
   simp only[aY,bh]at h;obtain⟨h1,rfl⟩:=h;subst hb;simp only[jO,dS,az,decide_eq_true_eq]at h1;simp[ku,hw,h1.1,h1.2]
  ·cases h
 ·split at h
  ·rename_i g rows d
   simp only[aY,bh]at h;obtain⟨h1,rfl⟩:=h;subst hb;simp only[jO,dS,az,decide_eq_true_eq]at h1;rw[Vs d (by omega)];simp[ku,h1.1,h1.2]
  ·exact nu h
 ·exact nu h
theorem Vv{k:SK}{x i v:AV}{b:Bool}(h:Ce k x i=some (b,v))(hb:b=true):nf k x i=some v:=by
 unfold Ce at h;split at h
 ·rename_i s g j
  simp only[aY,bh]at h;obtain⟨h1,rfl⟩:=h;subst hb;simp only[jO,dS,az,decide_eq_true_eq]at h1;have d:j.toNat<s.size:=by omega
  have e:s[j.toNat]? = some (s.data.toList.getD j.toNat 0):=by
   have q:j.toNat<s.data.toList.length:=by simpa using d
   rw[ct,bL q];simp only[getElem?,decidableGetElem?,d,dite_true,Option.getD_some];rfl
  simp only[nf,h1.1,h1.2,and_self,if_true,e]
 ·rename_i m e cells g j
  split at h
  ·rename_i l u
   cases hm:dA m l.length with
   |false=>rw[hm]at h; cases h
   | true =>
    rw[hm]at h;simp only[cond_true,aY,bh]at h;obtain⟨h1,rfl⟩:=h;subst hb;rw[AJ]at hm;simp only[jO,dS,az,decide_eq_true_eq]at h1;have y:=JL u j.toNat (by omega);simp only[nf,h1.1,h1.2,and_self,if_true,gH,kY,if_false,ah0,p6,Nat.add_zero,y]
  ·exact nu h
 ·exact nu h
theorem Vw{op:UnOp}{x v:AV}{b:Bool}(h:Cf op x=some (b,v))(hb:b=true):qv op x=some v:=by
 unfold Cf at h;split at h
 ·simp only [aY, bh] at h
  obtain⟨h1,rfl⟩:=h;subst hb;simp only[qv,o_ h1]
 ·exact nu h
theorem Vx{P:Program}{s d:TypeId}{x v:AV}{b:Bool}(h:Cg P s d x=some (b,v))(hb:b=true):qw P s d x=some v:=by
 unfold Cg at h;split at h
 ·rename_i g k
  simp only[aY,bh]at h;obtain⟨h1,rfl⟩:=h;subst hb;simp only[qw,g,k,o_ h1]
 ·exact nu h
theorem Vy{P:Program}{r:Operand→AV}{o:Op}{b:Bool}{v:AV}(h:Ch P r o=some (b,v))(hb:b=true):gK P r o=some v:=by
 cases o<;>simp only[Ch]at h<;>try exact nu h
 case binOp=>simp only[gK]; exact Vt h hb
 case indexAddr=>simp only[gK]; exact Vu h hb
 case index=>simp only[gK]; exact Vv h hb
 case slice=>simp only[gK]; exact Va h hb
 case unOp=>simp only[gK]; exact Vw h hb
 case convert=>simp only[gK]; exact Vx h hb
inductive Tree where
 |fail
 |done (x:bV) (s:ar)
 |ask (b:Bool) (t e:Tree)
 |side (b:Bool) (t:Tree)
def Tree.holds(Q:bV→ar→Prop):Tree→Prop
 |.fail=>False
 |.done x s=>Q x s
 |.ask b t e=>(b=true→t.holds Q)∧(b=false→e.holds Q)
 |.side b t=>b=true∧t.holds Q
structure ak where
 pf:FuncId→Bool
 T:FuncId→List AV→Option (Bool × AV)
 W:FuncId→List AV→List aj→Option (Bool × AV × List aj)
 C:FuncId→List AV→List aj→List Nat
 I:FuncId→List AV→List aj→Option Tree:=fun _ _ _=>none
 N:FuncId→Bool:=fun _=>false
 U:FuncId→Bool:=fun _=>true
structure al (P:Program) (τ:ak):Prop where
 T:∀ f args b v,τ.T f args=some (b,v)→b=true→e_ P f=true∧cJ P f args v
 W:∀ f args H b v H',τ.W f args H=some (b,v,H')→b=true→e_ P f=true∧dC P f args (ao H) v (ao H')
 C:∀ f args H b v H',τ.W f args H=some (b,v,H')→∀ A,A∉τ.C f args H→A<H.length→H'[A]? = H[A]?
 I:∀ f args H t,τ.I f args H=some t→∀ Q:bV→ar→Prop,t.holds Q→e_ P f=true∧∃ v H',dC P f args (ao H) v (ao H')∧(∀ A,A∉τ.C f args H→A<H.length→H'[A]? = H[A]?)∧Q .normal ⟨[v],H'⟩
 F:(∀ f,τ.U f=false→∀ args H,τ.W f args H=none∧τ.C f args H=[])∧∀ f,τ.N f=true→∀ args H b v H',τ.W f args H=some (b,v,H')→∀ id o,id<H.length→id∉τ.C f args H →
  τ.W f args (H.set id o)=some (b,v,H'.set id o)∧τ.C f args (H.set id o)=τ.C f args H
def Tree.ud(k:AV→List aj→Tree):Tree→Tree
 |.fail=>.fail
 |.done _ s=>k (s.fr.headD .undef) s.H
 |.ask b t e=>.ask b (t.ud k) (e.ud k)
 |.side b t=>.side b (t.ud k)
theorem Tree.xG{k:AV→List aj→Tree}{Q:bV→ar→Prop}:∀{t:Tree},(t.ud k).holds Q→t.holds fun _ s=>(k (s.fr.headD .undef) s.H).holds Q
 |.fail,h=>h
 |.done _ _,h=>h
 |.ask _ t e,h=>⟨fun hb=>xG (t:=t) (h.1 hb),fun hb=>xG (t:=e) (h.2 hb)⟩
 |.side _ t,h=>⟨h.1,xG (t:=t) h.2⟩
inductive Want where
 |bad|yes|no
 |test (t:Tmp) (b:Bool) (want:Bool)
def nv(ops:Array Oper)(fr:List AV)(o:Oper):Want :=
 match o.guard with
 |none=>.yes
 | some (j,want)=>match (ops[j]?).bind (·.dst) with
  | some t=>match fr[t]? with
   |some (.lit (.bool b))=>.test t b want
   |some (.tuple [])=>.no
   |_=>.bad
  |none=>.bad
def xH:AV→Option Bool
 |.lit (.bool b)=>some b
 |_=>none
def ue(H:List aj):AV→Bool × AV
 | .vec w id af off n=>match H[id]? with
  |some (.vec ks v rows)=>if af=v∧ks.length=w∧off=0 then (ad n rows.length,.listF ks rows) else (true,.vec w id af off n)
  |_=>(true,.vec w id af off n)
 | .ptr id af k row col=>match H[id]? with
  |some (.raw (.box cells))=>if af=0∧row=0∧col=0∧AV.bq cells=true then (true,.cptr cells) else (true,.ptr id af k row col)
  |_=>(true,.ptr id af k row col)
 |a=>(true,a)
def pb(H:List aj):List AV→Bool × List AV
 | []=>(true,[])
 | a::as=>match ue H a,pb H as with
  |(b,g),(h,d)=>(b&&h,g::d)
def xI(H:List aj):AV→Bool × AV
 | .clo f caps=>match pb H caps with
  |(b,d)=>(b,.clo f d)
 |a=>ue H a
def nw(H:List aj):List AV→Bool × List AV
 | []=>(true,[])
 | a::as=>match xI H a,nw H as with
  |(b,g),(h,d)=>(b&&h,g::d)
def xJ:List AV→Bool
 | []=>true
 |.lit _::as=>xJ as
 |_::_=>false
def xK:AV→Bool
 |.lit _=>true
 |.tuple vs=>xJ vs
 |_=>false
def Ci(P:Program)(r:Operand→AV)(H:List aj)(o:Op):Option AV :=
 match o with
 | .call c=>match c.callee,c.args.toList,c.argTypes.toList with
  | .builtin .len,[a],[t]=>match c8 P t,r a with
   | some _,.map id=>match H[id]? with
    |some (.map _ _ rows _)=>some (.lit (.int .i64 rows.length))
    |_=>none
   |_,_=>none
  |_,_,_=>none
 |_=>none
theorem Vz{P:Program}{r:Operand→AV}{H:List aj}{o:Op}{v:AV}(h:Ci P r H o=some v):eH P r (ao H) o=some v:=by
 unfold Ci at h;split at h
 ·rename_i c
  simp only[eH];split at h
  ·rename_i a t d ha g
   unfold nk;rw[d,ha,g];simp only[];split at h
   ·rename_i p id k hm
    rw[k,hm];simp only[];split at h
    ·rename_i K V rows cl hid
     cases h;rw[bl hid];simp[aj.den,dj]
    ·cases h
   ·cases h
  ·cases h
 ·cases h
def Cj(v:AV)(H:List aj):Option (Bool × AV × List aj) :=
 match v with
 | .vec w id af off n=>match H[id]? with
  |some (.vec ks u rows)=>if af=u∧off=0∧w=ks.length then some (ad n rows.length,.listF ks rows,H.set id (.raw .dead)) else none
  |_=>none
 |_=>none
def uf(P:Program)(r:Operand→AV)(H:List aj):Op→Option (Bool × List aj)
 | .store t a x=>match Cj (r x) H with
  | some (b0,v1,H1)=>match qP P t (r a) v1 H1 with
   |some (b1,H')=>some (b0&&b1,H')
   |none=>none
  |none=>none
 |_=>none
theorem VA{P:Program}{r:Operand→AV}{H H':List aj}{o:Op}{b:Bool}(h:uf P r H o=some (b,H'))(hb:b=true):qE P r (ao H) .undef (ao H') o:=by
 unfold uf at h;split at h
 case h_2=>cases h
 rename_i t a x;split at h
 case h_2=>cases h
 rename_i b0 v1 H1 d;split at h
 case h_2=>cases h
 rename_i b1 H2 k;simp only[aY,bh]at h;obtain⟨h1,rfl⟩:=h;subst hb;simp only[az]at h1;unfold Cj at d;split at d
 case h_2=>cases d
 rename_i w id af off n q;split at d
 case h_2=>cases d
 rename_i ks u rows hid;split at d
 case isFalse=>cases d
 rename_i v;obtain⟨rfl,rfl,rfl⟩:=v;simp only[aY,bh]at d;obtain⟨g,rfl,rfl⟩:=d;rw[h1.1]at g;have g:=bu g;subst g;refine⟨.listF ks rows,(ao H).set id .dead,⟨id,af,ks,rows,q,?_,rfl,rfl⟩,?_,rfl⟩
 ·rw [bl hid]
  rfl
 ·have := Ju k h1.2
  rw[dh]at this;exact this
def ny(P:Program)(τ:ak)(o:Oper)(s:ar)(k:AV→List aj→Tree):Tree :=
 match o.op with
 | .pick c a b=>match xH (s.eval c) with
  |some t=>.ask t (k (s.eval a) s.H) (k (s.eval b) s.H)
  |none=>.fail
 | .load t a=>match B4 P t (s.eval a) s.H with
  |some (b,v)=>.side b (k v s.H)
  |none=>.fail
 | .lookup t m x ok=>match B8 P t (s.eval m) (s.eval x) ok s.H with
  | some (b,v)=>match cK τ.pf o.op,ok with
   |.read,_=>.side b (k v s.H)
   |.write,false=>.side b (k v s.H)
   |_,_=>.fail
  | none=>match cK τ.pf o.op with
   | .write=>match qY P s.eval s.H o.op with
    |some (b,v,H')=>.side b (k v H')
    |none=>.fail
   | .read=>match Ca P t (s.eval m) (s.eval x) ok s.H with
    |some (b,v)=>.side b (k v s.H)
    |none=>.fail
   |.pure=>.fail
 | _=>match cK τ.pf o.op with
  | .read=>match Ci P s.eval s.H o.op with
   |some v=>k v s.H
   |none=>.fail
  | .pure=>match gW s.eval o.op with
   | some (f,args)=>match τ.T f args with
    |some (b,v)=>.side b (k v s.H)
    |none=>.fail
   | none=>match Ch P s.eval o.op with
    |some (b,v)=>.side b (k v s.H)
    |none=>.fail
  | .write=>match gW s.eval o.op with
   | some (f,args)=>match τ.W f args s.H with
    |some (b,v,H')=>.side b (k v H')
    | none=>match τ.I f args s.H with
     |some t=>t.ud k
     | none=>match τ.T f args with
      |some (b,v)=>.side b (k v s.H)
      | none=>match nw s.H args with
       | (g,d)=>match τ.T f d with
        | some (b,v)=>match xK v&&AV.bq d with
         |true=>.side (g&&b) (k v s.H)
         |false=>.fail
        |none=>.fail
   | none=>match qY P s.eval s.H o.op with
    |some (b,v,H')=>.side b (k v H')
    | none=>match uf P s.eval s.H o.op with
     |some (b,H')=>.side b (k .undef H')
     |none=>.fail
def ar.slot(s:ar)(t:Tmp)(b:Bool):ar:=⟨s.fr.set t (.lit (.bool b)),s.H⟩
def Ck(P:Program)(τ:ak)(ops:Array Oper)(o:Oper)(s:ar)(k:ar→Tree):Tree :=
 match nv ops s.fr o with
 |.bad=>.fail
 |.no=>k (s.put o.dst (.tuple []) s.H)
 |.yes=>ny P τ o s fun v H'=>k (s.put o.dst v H')
 | .test t b want=>.ask b
   (match want with
    |true=>ny P τ o (s.slot t true) fun v H'=>k ((s.slot t true).put o.dst v H')
    |false=>k ((s.slot t true).put o.dst (.tuple []) s.H))
   (match want with
    |true=>k ((s.slot t false).put o.dst (.tuple []) s.H)
    |false=>ny P τ o (s.slot t false) fun v H'=>k ((s.slot t false).put o.dst v H'))
def lu(P:Program)(τ:ak)(ops:Array Oper):List Oper→ar→(ar→Tree)→Tree
 | [],s,k=>k s
 |o::rest,s,k=>Ck P τ ops o s fun s1=>lu P τ ops rest s1 k
def fk:AV→Option Nat
 |.ptr id _ _ _ _=>some id
 |.vec _ id _ _ _=>some id
 |.map id=>some id
 |.sub id _ _=>some id
 |_=>none
def jo(τ:ak)(r:Operand→AV)(H:List aj)(op:Op):List Nat :=
 match gW r op with
 |some (f,args)=>τ.C f args H
 |none=>op.operands.toList.filterMap fun x=>fk (r x)
structure Acc where
 R:iN
 W:gY
def ug(ids:List Nat)(i:Nat):Bool := !ids.any (ad i)
def Cl(ops:Array Oper)(j id:Nat)(acc:Acc):Option Acc :=
 match acc.W.all fun e=>waits ops ops.size j e.1||(ug e.2.1 id&&ft id e.2.2)with
 |true=>some ⟨(j,id)::acc.R,acc.W⟩
 |false=>none
def xL(ops:Array Oper)(j:Nat)(T:List Nat)(n:Nat)(acc:Acc):Option Acc :=
 match acc.R.all fun e=>waits ops ops.size j e.1||(ug T e.2&&ft e.2 n)with
 | true=>match acc.W.all fun e=>waits ops ops.size j e.1||((T.all fun id=>ug e.2.1 id&&ft id e.2.2)&&e.2.1.all fun id=>ft id n) with
  |true=>some ⟨acc.R,(j,T,n)::acc.W⟩
  |false=>none
 |false=>none
def Cm(τ:ak)(ops:Array Oper)(j:Nat)(o:Oper)(s:ar)(acc:Acc):Option Acc :=
 match cK τ.pf o.op with
 |.pure=>some acc
 | .read=>match kD s.eval o.op with
  |some id=>Cl ops j id acc
  |none=>some acc
 |.write=>xL ops j (jo τ s.eval s.H o.op) s.H.length acc
def gZ:Kd→Value→Option G
 |.int k,.int k' n=>if k=k' then some (.i n) else none
 |.str,.string s=>some (.s s)
 |.bool,.bool b=>some (.t b)
 |.list _,.slice none 0 0=>some (.l [])
 |_,_=>none
def q_:List Kd→List Value→Option (List G)
 | [],[]=>some []
 | k::ks,v::z=>match gZ k v,q_ ks z with
  |some g,some gs=>some (g::gs)
  |_,_=>none
 |_,_=>none
def mK:Kd→Option (List Kd)
 |.list ks=>some ks
 |_=>none
def mZ:List Kd→List (Option (List Kd)):=List.map mK
theorem VB{k:Kd}{v:Value}{g:G}(h:gZ k v=some g):iq k g=zc (mK k) v:=by
 cases k with
 | int k =>
  cases v with
  | int k' n =>
   simp only[gZ]at h;by_cases e:k=k'
   ·rw [if_pos e] at h
    cases h;subst e;rfl
   ·rw [if_neg e] at h
    cases h
  |_=>cases h
 |str=>cases v<;>first|(cases h; rfl)|cases h
 |bool=>cases v<;>first|(cases h; rfl)|cases h
 | list ks =>
  cases v with
  |slice b n c=>cases b<;>cases n<;>cases c<;>first|(cases h; rfl)|cases h
  |_=>cases h
theorem JM:∀{ks:List Kd} {z:List Value} {g:List G},q_ ks z=some g→aJ ks g=dR (mZ ks) z
 | [],[],g,h=>by cases h; rfl
 | [],_::_,g,h=>by cases h
 |_::_,[],g,h=>by cases h
 | k::ks,v::z,g,h=>by
  simp only[q_]at h;split at h
  ·rename_i g0 gs h1 d
   cases h;have q:=JM d;simp only[aJ,wz,List.tail_cons,q,VB h1];rfl
  ·cases h
def pc(z:List Value):List aj→Nat→Option (Nat × List Kd × List G)
 | [],_=>none
 | .vec ks 0 rows::H,i=>match q_ ks z with
  | some g=>match rows with
   | []=>some (i,ks,g)
   |_::_=>pc z H (i+1)
  |none=>pc z H (i+1)
 |_::H,i=>pc z H (i+1)
def uh:List aj→Nat→Option Nat
 | [],_=>none
 |.raw .dP::_,i=>some i
 |_::H,i=>uh H (i+1)
def VC(P:Program)(t:TypeId):Option (Ct × Ct) :=
 match c8 P t with
 | some (g,d)=>match nr P g,nr P d with
  |some (K,_),some (V,_)=>some (K,V)
  | some (K,_),none=>match c8 P d with
   |some _=>some (K,K)
   |none=>none
  |_,_=>none
 |none=>none
def Cn(P:Program)(op:Op)(H:List aj):Option (Nat × AV × List aj) :=
 match op with
 | .alloc t=>match ef P t with
  | some z=>match pc z H 0 with
   |some (id,ks,g)=>some (id,.ptr id 1 ks.length 0 0,H.set id (.vec ks 1 [g]))
   |none=>none
  |none=>none
 | .makeMap t none=>match VC P t with
  | some (K,V)=>match uh H 0 with
   |some id=>some (id,.map id,H.set id (.map K V [] 0))
   |none=>none
  |none=>none
 |_=>none
def Co(τ:ak)(o:Oper)(s:ar):Bool:=match cK τ.pf o.op with
 | .write=>match gW s.eval o.op with
  | some (f,args)=>match τ.N f with
   |true=>(τ.W f args s.H).isSome
   |false=>false
  |none=>false
 |_=>true
def ui(P:Program)(τ:ak)(ops:Array Oper)(j:Nat)(o:Oper)(s:ar)(acc:Acc)(k:ar→Acc→Tree):Tree :=
 match mn ops&&eh o.op with
 | true=>match Cn P o.op s.H with
  | some (id,v,H')=>match xL ops j [id] s.H.length acc with
   |some d=>k (s.put o.dst v H') d
   |none=>.fail
  |none=>.fail
 | false=>match nl ops&&jN o.op && !Co τ o s with
  |true=>.fail
  | false=>match Cm τ ops j o s acc with
   |some d=>ny P τ o s fun v H'=>k (s.put o.dst v H') d
   |none=>.fail
def Cp(P:Program)(τ:ak)(ops:Array Oper)(j:Nat)(o:Oper)(s:ar)(acc:Acc)(k:ar→Acc→Tree):Tree :=
 match nv ops s.fr o with
 |.bad=>.fail
 |.no=>k (s.put o.dst (.tuple []) s.H) acc
 |.yes=>ui P τ ops j o s acc k
 | .test t b want=>.ask b
   (match want with
    |true=>ui P τ ops j o (s.slot t true) acc k
    |false=>k ((s.slot t true).put o.dst (.tuple []) s.H) acc)
   (match want with
    |true=>k ((s.slot t false).put o.dst (.tuple []) s.H) acc
    |false=>ui P τ ops j o (s.slot t false) acc k)
def Cq(P:Program)(τ:ak)(ops:Array Oper):List Oper→Nat→ar→Acc→(ar→Tree)→Tree
 | [],_,s,_,k=>k s
 |o::rest,j,s,acc,k=>Cp P τ ops j o s acc fun s1 d=>Cq P τ ops rest (j+1) s1 d k
def JN(k:ar→Tree)(K:bV→ar→Tree):bV→ar→Tree
 |.normal,s=>k s
 |x,s=>K x s
def JO(id:Nat)(K:bV→ar→Tree):bV→ar→Tree
 |.exit i,s=>if i=id then K .normal s else K (.exit i) s
 |x,s=>K x s
def Tree.bind(K:bV→ar→Tree):Tree→Tree
 |.fail=>.fail
 |.done x s=>K x s
 |.ask b t e=>.ask b (t.bind K) (e.bind K)
 |.side b t=>.side b (t.bind K)
def kJ:Code→Option Nat
 |.region id _ _=>some id
 | .seq a b=>match kJ a with
  |some i=>some i
  |none=>kJ b
 |.block _ c=>kJ c
 | .cond _ a b=>match kJ a with
  |some i=>some i
  |none=>kJ b
 |.loop c=>kJ c
 |_=>none
def pd:Code→Nat
 | .seq a b=>match kJ a with
  |some _=>pd a
  |none=>pd b
 |.block _ c=>pd c
 | .cond _ a b=>match kJ a with
  |some _=>pd a
  |none=>pd b
 |.loop c=>pd c+1
 |_=>0
def JP(c:Code):Option Nat:=match kJ c with
 |some i=>some (i+1000*pd c)
 |none=>none
def bO:Code→List (Nat × Code)
 |.seq a b=>bO a++bO b
 |.cond _ a b=>bO a++bO b
 |.block _ c=>bO c
 | .loop c=>match JP c with
  |some k=>(k,c)::bO c
  |none=>bO c
 |_=>[]
def VD(k:ar→Tree)(K:bV→ar→Tree):bV→ar→Tree
 |.normal,s=>k s
 |.exit i,s=>K (.exit i) s
 |.ret,s=>K .ret s
def xM(body:ar→(bV→ar→Tree)→Tree):Nat→ar→(bV→ar→Tree)→Tree
 |0,_,_=>.fail
 |n+1,s,K=>body s (VD (fun s'=>xM body n s' K) K)
def bJ:Code→List (Nat × Code)
 | .seq a b=>bJ a++((match kJ b with
  |some k=>[(k,b)]
  |none=>[])++bJ b)
 |.cond _ a b=>bJ a++bJ b
 |.block _ c=>bJ c
 |.loop c=>bJ c
 |_=>[]
structure LT where
 loops:Nat→ar→Option Tree
 pre:Nat→ar→Bool × ar
 uj:Nat→ar→Option Tree
def JQ(L:LT)(k:Option Nat)(s:ar):Option Tree :=
 match k with
 |some i=>L.uj i s
 |none=>none
def en(P:Program)(τ:ak)(L:LT):Code→ar→(bV→ar→Tree)→Tree
 |.skip,s,K=>K .normal s
 | .region id ops draw,s,K=>match draw && !qF τ.pf ops with
  | true=>match qN τ.pf ops with
   |true=>.side (L.pre id s).1 (Cq P τ ops ops.toList 0 (L.pre id s).2 ⟨[],[]⟩ (K .normal))
   |false=>.fail
  |false=>.side (L.pre id s).1 (lu P τ ops ops.toList (L.pre id s).2 (K .normal))
 | .seq a b,s,K=>en P τ L a s (JN (fun s1=>match JQ L (kJ b) s1 with
  |some t=>t.bind K
  |none=>en P τ L b s1 K) K)
 | .cond c a b,s,K=>match xH (s.eval c) with
  |some t=>.ask t (en P τ L a s K) (en P τ L b s K)
  |none=>.fail
 |.block id c,s,K=>en P τ L c s (JO id K)
 | .loop c,s,K=>match JP c with
  | some i=>match L.loops i s with
   |some t=>t.bind K
   |none=>xM (fun s1 d=>en P τ L c s1 d) 400 s K
  |none=>.fail
 |.exit id,s,K=>K (.exit id) s
 |.ret,s,K=>K .ret s
 |_,_,_=>.fail
def JR(P:Program)(m:Nat)(c:Code)(s:ar)(t:Tree):Prop:=∀ Q:bV→ar→Prop,t.holds Q→∃ x s',jM P m c s.den x s'.den∧Q x s'
def xN(P:Program)(m:Nat)(c:Code)(s:ar)(t:Tree):Prop:=∀ Q:bV→ar→Prop,t.holds Q→∃ x s',c5 P m c s.den x s'.den∧Q x s'
def ax(P:Program)(m:Nat)(L:LT)(c:Code):Prop:=(∀ k d,(k,d)∈bO c→∀ s t,L.loops k s=some t→JR P m d s t)∧(∀ id s,(L.pre id s).1=true→bx m s.den (L.pre id s).2.den) ∧
 ∀ k d,(k,d)∈bJ c→∀ s t,L.uj k s=some t→xN P m d s t
theorem ax.sub{P:Program}{m:Nat}{L:LT}{c g:Code}(h:ax P m L c)(h1:∀ p,p∈bO g→p∈bO c)(q:∀ p,p∈bJ g→p∈bJ c):ax P m L g :=
 ⟨fun k d hk=>h.1 k d (h1 _ hk),h.2.1,fun k d hk=>h.2.2 k d (q _ hk)⟩
theorem JS{a:AV}{b:Bool}(h:xH a=some b):a=.lit (.bool b):=by
 unfold xH at h;split at h
 ·cases h; rfl
 ·cases h
theorem JT{E E':Env}:∀{vs:List AV} {us:List Value},xJ vs=true→ah E vs us→ah E' vs us
 | [],[],_,_=>by simp[ah]
 | [],_::_,_,h=>by simp[ah]at h
 | a::vs,us,d,h=>by
  unfold xJ at d;split at d
  ·rename_i heq; cases heq
  ·rename_i heq
   cases heq;cases us with
   |nil=>simp[ah]at h
   | cons u us =>
    simp only[ah,rel]at h⊢;exact⟨h.1,JT d h.2⟩
  ·cases d
theorem VE{E E':Env}{v:AV}{u:Value}(d:xK v=true)(h:rel E v u):rel E' v u:=by
 unfold xK at d;split at d
 ·simpa only[rel]using h
 ·simp only [rel] at h ⊢
  obtain⟨cs,e,g⟩:=h;exact⟨cs,e,JT d g⟩
 ·cases d
def Env.bare(E:Env)(w:World):Env:={ w:=w,H:=[],loc:=[],X:=E.X.re dJ }
theorem xO{E:Env}{w:World}(b:Nat):¬ (E.bare w).own b:=by rintro(⟨id,c,h⟩|⟨l,k,c,h⟩); simp[Env.bare]at h; simp[Env.bare,dJ]at h
theorem nz(E:Env):E.bI (E.bare E.w):=⟨fun b hb=>⟨⟨hb.1,xO b,hb.2.2⟩,rfl⟩⟩
theorem VF{E:Env}(HE:au E):au (E.bare E.w):=by
 refine⟨rfl,?_,?_,HE.X,?_,HE.e9.bI (nz E),fun l k l' k' b m n hk=>by simp[Env.bare,dJ]at hk,fun i b m l k n hi=>by simp[Env.bare]at hi,fun l k b m hk=>by simp[Env.bare,dJ]at hk,fun i j o o' l hi=>by simp[Env.bare]at hi,fun l _ k q hk=>by simp[Env.bare,dJ]at hk⟩
 ·intro i j b m n hi; simp[Env.bare]at hi
 ·intro i b m hi; simp[Env.bare]at hi
 ·intro i o hi; simp[Env.bare]at hi
theorem JU{E:Env}(HE:au E){H:List aj}(hH:E.H=ao H){id af n w:Nat}{ks:List Kd}{rows:List (List G)}{c:Value}
  (hid:H[id]? = some (.vec ks af rows)) (hw:ks.length=w) (v:n=rows.length) (d:rel E (.vec w id af 0 n) c):rel (E.bare E.w) (.listF ks rows) c:=by
 subst hw v;have h:E.H[id]? = some (.vec ks.length af (rows.map (aJ ks))):=by rw[hH]; exact bl hid
 have ho:=HE.obj id _ h;rw[iH];simp only[rel]at d⊢;obtain⟨⟨base,cap,rfl,u,_⟩,_,y⟩:=d;obtain⟨M,B⟩:=y ⟨_,h,rfl⟩;have k:eZ (rows.map (aJ ks)):=by
  intro r d;obtain⟨g,_,rfl⟩:=dp.1 d;exact fI ks g
 refine⟨k,base,cap,by simp,by simpa using u,?_⟩;simp only[aO]at ho;rcases ho with⟨h1,q⟩|⟨b,m,h1,q,I,_,J⟩
 ·exact .inl q
 ·obtain ⟨g1, o, g2, g3⟩ := B b m h1
  by_cases hm:rows=[]
  ·subst hm; exact .inl rfl
  ·right
   have:0<rows.length:=by cases rows with|nil=>exact(hm rfl).elim|cons _ _=>simp
   simp at I;have ho:=g2 (by omega);simp at ho;subst ho;simp only[jD]at g3;refine⟨b,0,g3.1,⟨(HE.lt id b m h1).1,xO b,(HE.lt id b m h1).2⟩,?_⟩;exact km (nz E) _ k rfl J
theorem VG{E:Env}(HE:au E){H:List aj}(hH:E.H=ao H){id k:Nat}{cells:List AV}{c:Value} (hid:H[id]? = some (.raw (.box cells))) (g:AV.bq cells=true)
  (h:rel E (.ptr id 0 k 0 0) c):rel (E.bare E.w) (.cptr cells) c:=by
 have d:E.H[id]? = some (.box cells):=by rw[hH]; exact bl hid
 have ho:=HE.obj id _ d;simp only[aO]at ho;obtain⟨b,n,h1,v,q⟩:=ho;simp only[rel]at h⊢;obtain⟨_,_,u⟩:=h;obtain⟨y,B,g1,g2⟩:=u ⟨_,d,rfl⟩;rw[h1]at g1;simp only[aY,bh]at g1;obtain⟨rfl,rfl⟩:=g1;refine⟨g,b,0,by rw[g2]; simp,⟨(HE.lt id b n h1).1,xO b,(HE.lt id b n h1).2⟩,?_⟩;exact qi (nz E) cells g rfl q
theorem JV{E:Env}(HE:au E){H:List aj}(hH:E.H=ao H){a g:AV}{b:Bool}{c:Value}(h:ue H a=(b,g))(hb:b=true)(d:g.closed=true)(q:rel E a c):rel (E.bare E.w) g c:=by
 unfold ue at h;split at h
 ·split at h
  ·rename_i w id af off n ks v rows hid
   split at h
   ·rename_i u
    obtain⟨rfl,y,rfl⟩:=u;simp only[bh]at h;obtain⟨h1,rfl⟩:=h;subst hb;exact JU HE hH hid y (bu h1) q
   ·cases h; simp[AV.closed]at d
  ·cases h; simp[AV.closed]at d
 ·split at h
  ·rename_i id af k row col _ cells hid
   split at h
   ·rename_i u
    obtain⟨rfl,rfl,rfl,B⟩:=u;cases h;exact VG HE hH hid B q
   ·cases h; simp[AV.closed]at d
  ·cases h; simp[AV.closed]at d
 ·cases h
  exact dK (nz E) _ d q
theorem JW{E:Env}(HE:au E){H:List aj}(hH:E.H=ao H):∀{as g:List AV} {b:Bool} {cs:List Value},pb H as=(b,g)→b=true→AV.bq g=true→ah E as cs →
  ah (E.bare E.w) g cs
 | [],g,b,cs,h,_,_,d=>by
  simp only[pb]at h;cases h;cases cs with
  |nil=>simp[ah]
  |cons _ _=>simp[ah]at d
 | a::as,g,b,cs,h,hb,k,d=>by
  cases cs with
  |nil=>simp[ah]at d
  | cons c cs =>
   simp only[ah]at d;cases q:ue H a with
   |mk b1 y =>
   cases u:pb H as with
   |mk B v =>
   simp only[pb,q,u,bh]at h;obtain⟨h1,rfl⟩:=h;subst h1;simp only[az]at hb;simp only[AV.bq,az]at k;simp only[ah];exact⟨JV HE hH q hb.1 k.1 d.1,JW HE hH u hb.2 k.2 d.2⟩
theorem VH{E:Env}(HE:au E){H:List aj}(hH:E.H=ao H){a d:AV}{b:Bool}{c:Value}(h:xI H a=(b,d))(hb:b=true)(k:d.closed=true)(g:rel E a c):rel (E.bare E.w) d c:=by
 unfold xI at h;split at h
 ·rename_i f caps
  cases q:pb H caps with
  |mk b1 v =>
  rw[q]at h;cases h;simp only[rel]at g⊢;obtain⟨cs,e,u⟩:=g;exact⟨cs,e,JW HE hH q hb (by simpa only[AV.closed]using k) u⟩
 ·exact JV HE hH h hb k g
theorem JX{E:Env}(HE:au E){H:List aj}(hH:E.H=ao H):∀{as g:List AV} {b:Bool} {cs:List Value},nw H as=(b,g)→b=true→AV.bq g=true→ah E as cs →
  ah (E.bare E.w) g cs
 | [],g,b,cs,h,_,_,d=>by
  simp only[nw]at h;cases h;cases cs with
  |nil=>simp[ah]
  |cons _ _=>simp[ah]at d
 | a::as,g,b,cs,h,hb,k,d=>by
  cases cs with
  |nil=>simp[ah]at d
  | cons c cs =>
   simp only[ah]at d;cases q:xI H a with
   |mk b1 y =>
   cases u:nw H as with
   |mk B v =>
   simp only[nw,q,u,bh]at h;obtain⟨h1,rfl⟩:=h;subst h1;simp only[az]at hb;simp only[AV.bq,az]at k;simp only[ah];exact⟨VH HE hH q hb.1 k.1 d.1,JX HE hH u hb.2 k.2 d.2⟩
theorem VJ{P:Program}{f:FuncId}{args d:List AV}{H:List aj}{b:Bool}{v:AV}(q:cJ P f d v)(u:nw H args=(b,d))(hb:b=true)(k:AV.bq d=true)
  (y:xK v=true):dC P f args (ao H) v (ao H):=by
 intro E cargs hH HE h;refine(q [] (E.bare E.w) cargs rfl (VF HE) (JX HE hH u hb k h)).mono ?_;rintro _ w' ⟨c,B,H',rfl,⟨rfl,rfl⟩,J,r',g1,g2,g3⟩;have g:Ext E.w w':=⟨g3.size,fun x I=>g3.same x I (xO x),g3.env⟩
 refine⟨c,B,ao H,rfl,⟨rfl,rfl⟩,E.loc,E.X.r,VE y g1,?_,?_⟩
 ·rw[←hH]; exact HE.ext g
 ·rw[←hH]; exact Env.iI g
section sound
variable {P:Program} {τ:ak}
theorem Cr{ops:Array Oper}{o:Oper}{s:ar}{v:AV}(hw:bR ops s.fr o=some true)(d:cK τ.pf o.op=.pure)
  (h:gK P s.eval o.op=some v∨∃ f args,gW s.eval o.op=some (f,args)∧e_ P f=true∧cJ P f args v):Yields P τ.pf ops o s.den v (ao s.H):=by
 unfold Yields;rw[show s.den.fr=s.fr from rfl,hw];simp only[d,ar.kG];exact⟨rfl,h⟩
theorem pe{ops:Array Oper}{o:Oper}{s:ar}{v:AV}{H':List ab}(hw:bR ops s.fr o=some true)(d:cK τ.pf o.op=.write)
  (h:cZ P s.eval (ao s.H) o.op=some (v,H')∨∃ f args,gW s.eval o.op=some (f,args)∧e_ P f=true∧dC P f args (ao s.H) v H'):Yields P τ.pf ops o s.den v H':=by
 unfold Yields;rw[show s.den.fr=s.fr from rfl,hw];simp only[d,ar.kG];exact .inl h
/-! ### d g operation leaves alone -/
theorem gy{H:List aj}{id A:Nat}{o:aj}(h:A≠id):(H.set id o)[A]? = H[A]? := aT (Ne.symm h)
theorem jq{H:List aj}{A:Nat}{o:aj}(h:A<H.length):(H++[o])[A]? = H[A]? := cM h
theorem JY{P:Program}{t:TypeId}{x v:AV}{H H':List aj}{b:Bool}{A:Nat}(h:qP P t x v H=some (b,H'))(g:fk x≠some A):H'[A]? = H[A]? := by
 unfold qP at h;split at h
 case h_2=>cases h
 rename_i n q cs id af w row col u k;have d:A≠id:=fun e=>g (by rw[e]; rfl);split at h
 case isFalse=>cases h
 split at h
 ·split at h
  ·cases h; exact gy d
  ·cases h
 ·split at h
  ·split at h
   ·cases h; exact gy d
   ·cases h
  ·cases h
 ·cases h
theorem VK{P:Program}{t xt:TypeId}{s x v:AV}{H H':List aj}{b:Bool}{A:Nat}(h:tP P t xt s x H=some (b,v,H'))(d:A<H.length)(g:fk s≠some A):H'[A]? = H[A]? := by
 unfold tP at h;split at h
 case h_2=>cases h
 split at h
 case h_2=>cases h
 split at h
 case isFalse=>cases h
 split at h
 ·split at h
  ·split at h
   ·cases h; exact jq d
   ·cases h
  ·cases h
 ·split at h
  ·split at h
   ·cases h; exact jq d
   ·cases h
  ·cases h
 ·split at h
  ·split at h
   ·split at h
    ·cases h; exact gy fun e=>g (by rw[e]; rfl)
    ·cases h
   ·cases h
  ·cases h
 ·cases h
theorem VL{P:Program}{t xt:TypeId}{s x v:AV}{H H':List aj}{b:Bool}{A:Nat}(h:tZ P t xt s x H=some (b,v,H'))(d:A<H.length):H'[A]? = H[A]? := by
 unfold tZ at h;split at h
 case h_2=>cases h
 split at h
 case h_2=>cases h
 split at h
 case h_2=>cases h
 split at h
 case h_2=>cases h
 split at h
 ·cases h; exact jq d
 ·cases h
theorem VM{P:Program}{t:TypeId}{x:AV}{H H':List aj}{b:Bool}{A:Nat}(h:tY P t x H=some (b,H'))(d:fk x≠some A):H'[A]? = H[A]? := by
 unfold tY at h;split at h
 case h_2=>cases h
 split at h
 case h_2=>cases h
 split at h
 case h_2=>cases h
 split at h
 ·cases h; exact gy fun e=>d (by rw[e]; rfl)
 ·cases h
theorem JZ{P:Program}{t:TypeId}{m k v:AV}{H H':List aj}{b:Bool}{A:Nat}(h:qS P t m k v H=some (b,H'))(d:fk m≠some A):H'[A]? = H[A]? := by
 unfold qS at h;split at h
 case h_2=>cases h
 split at h
 case h_2=>cases h
 split at h
 case h_2=>cases h
 split at h
 ·cases h; exact gy fun e=>d (by rw[e]; rfl)
 ·cases h
theorem VN{P:Program}{t:TypeId}{m k v:AV}{H H':List aj}{b:Bool}{A:Nat}(h:tT P t m k v H=some (b,H'))(d:fk m≠some A)(g:fk v≠some A):H'[A]? = H[A]? := by
 unfold tT at h;split at h
 case h_2=>cases h
 split at h
 case h_2=>cases h
 split at h
 case h_2=>cases h
 split at h
 ·cases h
  rw[gy fun e=>g (by rw[e]; rfl)];exact gy fun e=>d (by rw[e]; rfl)
 ·cases h
theorem VO{P:Program}{t:TypeId}{m k v:AV}{H H':List aj}{b:Bool}{A:Nat}(h:t_ P t m k v H=some (b,H'))(d:fk m≠some A):H'[A]? = H[A]? := by
 unfold t_ at h;split at h
 case h_2=>cases h
 split at h
 case h_2=>cases h
 split at h
 case h_2=>cases h
 split at h
 ·cases h
  exact gy fun e=>d (by rw[e]; rfl)
 ·cases h
theorem VP{P:Program}{t:TypeId}{m k v:AV}{H H':List aj}{b:Bool}{A:Nat}(h:ua P t m k H=some (b,v,H'))(d:fk m≠some A):H'[A]? = H[A]? := by
 unfold ua at h;split at h
 case h_2=>cases h
 split at h
 case h_2=>cases h
 split at h
 case h_2=>cases h
 split at h
 ·cases h
  exact gy fun e=>d (by rw[e]; rfl)
 ·cases h
theorem VQ{m s v:AV}{H H':List aj}{b:Bool}{A:Nat}(h:ub m s v H=some (b,H'))(d:fk m≠some A)(g:fk v≠some A):H'[A]? = H[A]? := by
 unfold ub at h;split at h
 case h_2=>cases h
 split at h
 case h_2=>cases h
 split at h
 ·cases h
  rw[gy fun e=>g (by rw[e]; rfl)];exact gy fun e=>d (by rw[e]; rfl)
 ·cases h
theorem VR{P:Program}{t:TypeId}{m k v:AV}{H H':List aj}{b:Bool}{A:Nat}(h:tS P t m k H=some (b,v,H'))(d:A<H.length)(g:fk m≠some A):H'[A]? = H[A]? := by
 unfold tS at h;split at h
 case h_2=>cases h
 split at h
 case h_2=>cases h
 split at h
 case h_2=>cases h
 split at h
 ·cases h
  rw[jq (by simpa using d)];exact gy fun e=>g (by rw[e]; rfl)
 ·cases h
theorem VS{m s v:AV}{H H':List aj}{b:Bool}{A:Nat}(h:tV m s v H=some (b,H'))(d:fk m≠some A)(g:fk v≠some A):H'[A]? = H[A]? := by
 unfold tV at h;split at h
 case h_2=>cases h
 split at h
 case h_2=>cases h
 split at h
 ·cases h
  rw[gy fun e=>g (by rw[e]; rfl)];exact gy fun e=>d (by rw[e]; rfl)
 ·cases h
theorem VT{P:Program}{t:TypeId}{m k v:AV}{H H':List aj}{b:Bool}{A:Nat}(h:tU P t m k H=some (b,v,H'))(d:A<H.length)(g:fk m≠some A):H'[A]? = H[A]? := by
 unfold tU at h;split at h
 case h_2=>cases h
 split at h
 case h_2=>cases h
 split at h
 case h_2=>cases h
 split at h
 ·cases h
  rw[jq (by simpa using d)];exact gy fun e=>g (by rw[e]; rfl)
 ·cases h
theorem VU{P:Program}{t:TypeId}{m k:AV}{H H':List aj}{b:Bool}{A:Nat}(h:tX P t m k H=some (b,H'))(d:fk m≠some A):H'[A]? = H[A]? := by
 unfold tX at h;split at h
 case h_2=>cases h
 split at h
 case h_2=>cases h
 split at h
 ·cases h; exact gy fun e=>d (by rw[e]; rfl)
 ·cases h
theorem VV{P:Program}{t:TypeId}{l c v:AV}{H H':List aj}{b:Bool}{A:Nat}(h:tQ P t l c H=some (b,v,H'))(d:A<H.length):H'[A]? = H[A]? := by
 unfold tQ at h;split at h
 case h_2=>cases h
 split at h
 case h_2=>cases h
 split at h
 case h_2=>cases h
 split at h
 case h_2=>cases h
 split at h
 ·cases h; exact jq d
 ·cases h
theorem VW{P:Program}{t:TypeId}{n:Nat}{parts:List (Nat × AV)}{v:AV}{H H':List aj}{b:Bool}{A:Nat}(h:tR P t n parts H=some (b,v,H'))(d:A<H.length):H'[A]? = H[A]? := by
 unfold tR at h;split at h
 case h_2=>cases h
 split at h
 case h_2=>cases h
 split at h
 case h_2=>cases h
 split at h
 case h_2=>cases h
 split at h
 case h_2=>cases h
 split at h
 ·cases h; exact jq d
 ·cases h
theorem J0{P:Program}{r:Operand→AV}{H H':List aj}{o:Op}{v:AV}{b:Bool}{A:Nat}(h:qY P r H o=some (b,v,H'))(g:A<H.length)(M:A∉o.operands.toList.filterMap fun x=>fk (r x)):H'[A]? = H[A]? := by
 have no:∀ x∈o.operands.toList,fk (r x)≠some A:=fun x q e=>M (G'.2 ⟨x,q,e⟩);cases o<;>simp only[qY]at h<;>try cases h
 case alloc t =>
  split at h
  ·split at h
   ·cases h; exact jq g
   ·cases h
  ·split at h
   ·cases h; exact jq g
   ·cases h
 case box t x =>
  split at h
  ·cases h; exact jq g
  ·cases h
 case store t a x =>
  split at h
  ·rename_i u H1 d
   cases h;exact JY d (no a (by simp[eY]))
  ·cases h
 case makeSlice t l c=>exact VV h g
 case buildSlice t n ps=>exact VW h g
 case range t x =>
  split at h
  ·cases h; exact jq g
  ·cases h
 case next it isString =>
  cases isString with
  |false=>cases h
  | true =>
   simp only[]at h;split at h
   ·rename_i id k q
    split at h
    ·split at h
     ·cases h; exact gy fun e=>no it (by simp[eY]) (by rw[q,e]; rfl)
     ·cases h; rfl
    ·cases h
   ·cases h
 case makeMap t res =>
  cases res with
  |some _=>cases h
  | none =>
   simp only[]at h;split at h
   ·split at h
    ·cases h; exact jq g
    ·split at h
     ·cases h; exact jq g
     ·cases h
    ·cases h
   ·cases h
 case mapUpdate t m k x =>
  split at h
  ·rename_i u H1 d
   cases h;exact JZ d (no m (by simp[eY]))
  ·split at h
   ·rename_i u H1 d
    cases h;exact VN d (no m (by simp[eY])) (no x (by simp[eY]))
   ·split at h
    ·rename_i u H1 d
     cases h;exact VO d (no m (by simp[eY]))
    ·cases h
 case lookup t m k ok =>
  cases ok with
  |true=>cases h
  |false=>exact VR h g (no m (by simp[eY]))
 case mapEntry t m k =>
  split at h
  ·rename_i y N
   cases h;exact VT N g (no m (by simp[eY]))
  ·exact VP h (no m (by simp[eY]))
 case entryStore t m s x =>
  split at h
  ·rename_i u H1 d
   cases h;exact VS d (no m (by simp[eY])) (no x (by simp[eY]))
  ·split at h
   ·rename_i u H1 d
    cases h;exact VQ d (no m (by simp[eY])) (no x (by simp[eY]))
   ·cases h
 case insert t m k x =>
  split at h
  ·rename_i u H1 d
   cases h;exact JZ d (no m (by simp[eY]))
  ·cases h
 case call c =>
  have na:∀ x∈c.args.toList,fk (r x)≠some A:=fun x q=>no x (by
   simp only[eY,Call.operands];simp at q⊢;exact .inr q)
  split at h
  ·split at h
   ·rename_i s x t xt B J
    have O:=na s (by rw[B]; simp);split at h
    ·exact VL h g
    ·exact VK h g O
   ·cases h
  ·split at h
   ·rename_i x t B J
    have I:=na x (by rw[B]; simp);split at h
    ·rename_i d; cases h; exact VM d I
    ·cases h
   ·cases h
  ·split at h
   ·rename_i x k t _ B J
    have I:=na x (by rw[B]; simp);split at h
    ·rename_i d; cases h; exact VU d I
    ·cases h
   ·cases h
  ·cases h
theorem VX{P:Program}{r:Operand→AV}{H H':List aj}{o:Op}{b:Bool}{A:Nat}(h:uf P r H o=some (b,H'))(g:A∉o.operands.toList.filterMap fun x=>fk (r x)):H'[A]? = H[A]? := by
 have no:∀ x∈o.operands.toList,fk (r x)≠some A:=fun x k e=>g (G'.2 ⟨x,k,e⟩);unfold uf at h;split at h
 case h_2=>cases h
 rename_i t a x;split at h
 case h_2=>cases h
 rename_i b0 v1 H1 d;split at h
 case h_2=>cases h
 rename_i b1 H2 q;simp only[aY,bh]at h;obtain⟨_,rfl⟩:=h;rw[JY q (no a (by simp[eY]))];unfold Cj at d;split at d
 case h_2=>cases d
 rename_i w id af off n u;split at d
 case h_2=>cases d
 split at d
 case isFalse=>cases d
 simp only[aY,bh]at d;obtain⟨_,_,rfl⟩:=d;refine gy fun e=>no x (by simp[eY]) ?_;rw[u,e];rfl
theorem xP(B:al P τ){ops:Array Oper}{o:Oper}{s:ar}{k:AV→List aj→Tree}{Q:bV→ar→Prop}(hw:bR ops s.fr o=some true)
  (h:(ny P τ o s k).holds Q):∃ v H',Yields P τ.pf ops o s.den v (ao H')∧(cK τ.pf o.op=.write→∀ A,A∉jo τ s.eval s.H o.op→A<s.H.length→H'[A]? = s.H[A]?)∧(k v H').holds Q:=by
 unfold ny at h;split at h
 ·rename_i c a b ho
  split at h
  ·rename_i t hb
   have hb:=JS hb;refine⟨bif t then s.eval a else s.eval b,s.H,Cr hw (by rw[ho]; rfl) (.inl (by rw[ho]; simp only[gK,hb])),fun _ _ _ _=>rfl,?_⟩;simp only[Tree.holds]at h;cases t with
   |true=>exact h.1 rfl
   |false=>exact h.2 rfl
  ·exact h.elim
 ·rename_i t a ho
  split at h
  ·rename_i b v J
   simp only[Tree.holds]at h;refine⟨v,s.H,?_,fun _ _ _ _=>rfl,h.2⟩;unfold Yields;rw[show s.den.fr=s.fr from rfl,hw];simp only[ho,cK,ar.kG];exact⟨rfl,by simp only[eH]; exact U9 J h.1⟩
  ·exact h.elim
 ·rename_i t m x ok ho
  have U:jo τ s.eval s.H o.op=o.op.operands.toList.filterMap fun x=>fk (s.eval x):=by
   have M:gW s.eval o.op=none:=by rw[ho]; rfl
   simp only[jo,M]
  split at h
  ·rename_i b v J
   split at h
   ·rename_i g
    simp only[Tree.holds]at h;refine⟨v,s.H,?_,fun _ _ _ _=>rfl,h.2⟩;unfold Yields;rw[show s.den.fr=s.fr from rfl,hw];simp only[g,ar.kG];rw[ho];exact⟨rfl,by
     have e:=JA J;rw[show ao s.H=s.den.H from rfl]at e;simp only[eH,e]⟩
   ·rename_i g
    simp only[Tree.holds]at h;refine⟨v,s.H,pe hw g (.inl ?_),fun _ _ _ _=>rfl,h.2⟩;rw[ho];simp only[cZ,JA J]
   ·exact h.elim
  ·split at h
   ·rename_i g
    split at h
    ·rename_i b v H' d
     simp only[Tree.holds]at h;exact⟨v,H',pe hw g (.inl (JK d h.1)),fun _ A q u=>J0 d u (by rw[U]at q; exact q),h.2⟩
    ·exact h.elim
   ·rename_i g
    split at h
    ·rename_i b v J
     simp only[Tree.holds]at h;obtain⟨q1,q2⟩:=Vl J h.1;refine⟨v,s.H,?_,fun _ _ _ _=>rfl,h.2⟩;unfold Yields;rw[show s.den.fr=s.fr from rfl,hw];simp only[g,ar.kG];rw[ho];exact⟨rfl,by simp only[eH]; rw[show fK P t (s.eval m) (s.eval x) ok s.den.H=none from q1]; exact q2⟩
    ·exact h.elim
   ·exact h.elim
 ·split at h
  ·rename_i g
   split at h
   ·rename_i v d
    refine⟨v,s.H,?_,fun _ _ _ _=>rfl,h⟩;unfold Yields;rw[show s.den.fr=s.fr from rfl,hw];simp only[g,ar.kG];exact⟨rfl,Vz d⟩
   ·exact h.elim
  ·rename_i g
   split at h
   ·rename_i f args y
    split at h
    ·rename_i b v d
     simp only[Tree.holds]at h;obtain⟨g1,g2⟩:=B.T f args b v d h.1;exact⟨v,s.H,Cr hw g (.inr ⟨f,args,y,g1,g2⟩),fun _ _ _ _=>rfl,h.2⟩
    ·exact h.elim
   ·split at h
    ·rename_i b v d
     simp only[Tree.holds]at h;exact⟨v,s.H,Cr hw g (.inl (Vy d h.1)),fun _ _ _ _=>rfl,h.2⟩
    ·exact h.elim
  ·rename_i g
   split at h
   ·rename_i f args y
    split at h
    ·rename_i b v H' d
     simp only[Tree.holds]at h;obtain⟨g1,g2⟩:=B.W f args s.H b v H' d h.1;exact⟨v,H',pe hw g (.inr ⟨f,args,y,g1,g2⟩),fun _ A q u=>B.C f args s.H b v H' d A (by simpa only[jo,y]using q) u,h.2⟩
    ·split at h
     ·rename_i t hi
      obtain⟨g1,v,H',g2,g3,g4⟩:=B.I f args s.H t hi _ (Tree.xG h);exact⟨v,H',pe hw g (.inr ⟨f,args,y,g1,g2⟩),fun _ A q u=>g3 A (by simpa only[jo,y]using q) u,g4⟩
     ·split at h
      ·rename_i b v d
       simp only[Tree.holds]at h;obtain⟨g1,g2⟩:=B.T f args b v d h.1;exact⟨v,s.H,pe hw g (.inr ⟨f,args,y,g1,g2 _⟩),fun _ _ _ _=>rfl,h.2⟩
      ·cases O : nw s.H args with
       |mk vb V =>
       rw[O]at h;simp only[]at h;split at h
       ·rename_i b v d
        split at h
        ·rename_i N
         simp only[az]at N;simp only[Tree.holds,az]at h;obtain⟨g1,g2⟩:=B.T f V b v d h.1.2;exact⟨v,s.H,pe hw g (.inr ⟨f,args,y,g1,VJ g2 O h.1.1 N.2 N.1⟩),fun _ _ _ _=>rfl,h.2⟩
        ·exact h.elim
       ·exact h.elim
   ·rename_i M
    split at h
    ·rename_i b v H' d
     simp only[Tree.holds]at h;exact⟨v,H',pe hw g (.inl (JK d h.1)),fun _ A q u=>J0 d u (by simpa only[jo,M]using q),h.2⟩
    ·split at h
     ·rename_i b H' d
      simp only[Tree.holds]at h;refine⟨.undef,H',?_,fun _ A q u=>VX d (by simpa only[jo,M]using q),h.2⟩;unfold Yields;rw[show s.den.fr=s.fr from rfl,hw];simp only[g,ar.kG];exact .inr (.inr (VA d h.1))
     ·exact h.elim
theorem J1{ops:Array Oper}{s:ar}{o:Oper}{t:Tmp}{b want:Bool}(h:nv ops s.fr o=.test t b want) :
  s.fr[t]? = some (.lit (.bool b))∧bR ops s.fr o=some (b==want):=by
 unfold nv at h;unfold bR;cases d:o.guard with
 |none=>rw[d]at h; cases h
 | some g =>
  obtain⟨j,w⟩:=g;rw[d]at h;simp only[]at h⊢;split at h
  ·rename_i t' k
   split at h
   ·rename_i q hb
    cases h;exact⟨hb,by rw[k]; simp only[hb]⟩
   ·cases h
   ·cases h
  ·cases h
theorem Cs{ops:Array Oper}{s:ar}{o:Oper}(h:nv ops s.fr o=.no):bR ops s.fr o=some false:=by
 unfold nv at h;unfold bR;cases d:o.guard with
 |none=>rw[d]at h; cases h
 | some g =>
  obtain⟨j,w⟩:=g;rw[d]at h;simp only[]at h⊢;split at h
  ·rename_i t' k
   split at h
   ·cases h
   ·rename_i hb
    rw[k];simp only[hb]
   ·cases h
  ·cases h
theorem J2{ops:Array Oper}{s:ar}{o:Oper}(h:nv ops s.fr o=.yes):bR ops s.fr o=some true:=by
 unfold nv at h;unfold bR;cases d:o.guard with
 |none=>rfl
 | some g =>
  obtain⟨j,w⟩:=g;rw[d]at h;simp only[]at h;split at h
  ·split at h<;>cases h
  ·cases h
theorem xQ{s:ar}{t:Tmp}{b:Bool} (h:s.fr[t]? = some (.lit (.bool b))):s.slot t b=s:=by
 unfold ar.slot;rw[ll h]
theorem VY(q:al P τ){ops:Array Oper}{o:Oper}{s:ar}{k:ar→Tree}{Q:bV→ar→Prop}(h:(Ck P τ ops o s k).holds Q) :
  ∃ v H',Yields P τ.pf ops o s.den v (ao H')∧(k (s.put o.dst v H')).holds Q:=by
 have skip:bR ops s.fr o=some false→Yields P τ.pf ops o s.den (.tuple []) (ao s.H):=by
  intro hw;unfold Yields;rw[show s.den.fr=s.fr from rfl,hw];exact⟨rfl,rfl⟩
 unfold Ck at h;split at h
 ·exact h.elim
 ·rename_i hw
  exact⟨_,_,skip (Cs hw),h⟩
 ·rename_i hw
  obtain⟨v,H',g1,_,g2⟩:=xP q (J2 hw) h;exact⟨v,H',g1,g2⟩
 ·rename_i t b want hw
  obtain⟨h1,g⟩:=J1 hw;simp only[Tree.holds]at h;cases b with
  | true =>
   have d:=h.1 rfl;rw[xQ h1]at d;cases want with
   | true =>
    obtain⟨v,H',g1,_,g2⟩:=xP q g d;exact⟨v,H',g1,g2⟩
   |false=>exact⟨_,_,skip g,d⟩
  | false =>
   have d:=h.2 rfl;rw[xQ h1]at d;cases want with
   |true=>exact⟨_,_,skip g,d⟩
   | false =>
    obtain⟨v,H',g1,_,g2⟩:=xP q g d;exact⟨v,H',g1,g2⟩
theorem xR(d:al P τ){ops:Array Oper}{Q:bV→ar→Prop}:∀{l:List Oper} {s:ar} {k:ar→Tree},(lu P τ ops l s k).holds Q→∃ s',fM P τ.pf ops l s.den s'.den∧(k s').holds Q
 | [],s,k,h=>⟨s,rfl,h⟩
 | o::l,s,k,h=>by
  obtain⟨v,H',h1,g⟩:=VY d h;obtain⟨s',q,u⟩:=xR d g;exact⟨s',⟨v,ao H',h1,q⟩,u⟩
def Acc.le(a b:Acc):Prop:=(∀ x∈a.R,x∈b.R)∧∀ x∈a.W,x∈b.W
def Acc.ok(ops:Array Oper)(j:Nat)(a:Acc):Prop:=(∀ x∈a.R,x.1<j)∧(∀ x∈a.W,x.1<j)∧qO ops a.R a.W
theorem Cu{ids:List Nat}{i:Nat}(h:ug ids i=true):i∉ids:=by
 intro hm;have:ids.any (ad i)=true:=List.any_eq_true.2 ⟨i,hm,by simp⟩;simp[ug,this]at h
theorem VZ{ops:Array Oper}{j id:Nat}{a b:Acc}(ha:a.ok ops j)(h:Cl ops j id a=some b):b.ok ops (j+1)∧a.le b∧(j,id)∈b.R:=by
 unfold Cl at h;split at h
 ·rename_i g
  cases h;simp only[cQ,wv,az,kg]at g;obtain⟨h1,k,q⟩:=ha;refine⟨⟨fun x d=>?_,fun x d=>wA (k x d),fun i u hi e he=>?_,q.2⟩,⟨fun x d=>di _ d,fun x d=>d⟩,cY⟩
  ·rcases bY.1 d with rfl | d
   ·exact ah1 _
   ·exact wA (h1 x d)
  ·rcases bY.1 hi with y | hi
   ·cases y
    have B:=k e he;refine⟨fun v=>absurd v (by omega),fun _ hw=>?_⟩;rcases g e he with h|h
    ·rw[hw]at h; cases h
    ·exact⟨Cu h.1,h.2⟩
   ·exact q.1 i u hi e he
 ·cases h
theorem J3{ops:Array Oper}{j n:Nat}{T:List Nat}{a b:Acc}(ha:a.ok ops j)(h:xL ops j T n a=some b):b.ok ops (j+1)∧a.le b∧(j,T,n)∈b.W:=by
 unfold xL at h;split at h
 ·rename_i M
  split at h
  case h_2=>cases h
  rename_i y;cases h;simp only[cQ,wv,az,kg]at M y;obtain⟨h1,I,J⟩:=ha;refine⟨⟨fun x k=>wA (h1 x k),fun x k=>?_,fun i B hi e he=>?_,fun e he e' d g q id hid=>?_,fun e he e' d g q id hid=>?_⟩,⟨fun x k=>k,fun x k=>di _ k⟩,cY⟩
  ·rcases bY.1 k with rfl | k
   ·exact ah1 _
   ·exact wA (I x k)
  ·rcases bY.1 he with v | he
   ·subst v
    have g:=h1 (i,B) hi;refine⟨fun _ hw=>?_,fun N=>absurd N (by simp only at N g; omega)⟩;rcases M (i,B) hi with h|h
    ·simp only at hw h; rw[hw]at h; cases h
    ·exact⟨Cu h.1,h.2⟩
   ·exact J.1 i B hi e he
  ·rcases bY.1 d with v | d
   ·subst v
    rcases bY.1 he with u|he
    ·subst u
     exact absurd g (qe _)
    ·rcases y e he with h | h
     ·simp only at q h
      rw[q]at h;cases h
     ·have O := h.1 id hid
      exact⟨Cu O.1,O.2⟩
   ·rcases bY.1 he with u | he
    ·subst u
     have U:=I e' d;exact absurd g (by simp only; omega)
    ·exact J.2.1 e he e' d g q id hid
  ·rcases bY.1 d with v | d
   ·subst v
    rcases bY.1 he with u|he
    ·subst u
     exact absurd g (qe _)
    ·rcases y e he with h | h
     ·simp only at q h
      rw[q]at h;cases h
     ·exact h.2 id hid
   ·rcases bY.1 he with u | he
    ·subst u
     have U:=I e' d;exact absurd g (by simp only; omega)
    ·exact J.2.2 e he e' d g q id hid
 ·cases h
theorem Acc.uk{ops:Array Oper}{j:Nat}{a:Acc}(h:a.ok ops j):a.ok ops (j+1):=⟨fun x d=>wA (h.1 x d),fun x d=>wA (h.2.1 x d),h.2.2⟩
theorem Acc.le_refl(a:Acc):a.le a:=⟨fun _ h=>h,fun _ h=>h⟩
theorem Acc.le_trans{a b c:Acc}(h:a.le b)(h':b.le c):a.le c:=⟨fun x d=>h'.1 x (h.1 x d),fun x d=>h'.2 x (h.2 x d)⟩
def Acc.only(j:Nat)(a b:Acc):Prop:=∀ x∈b.W,x.1<j→x∈a.W
theorem V3{ops:Array Oper}{j:Nat}{o:Oper}{s:ar}{a b:Acc}(ha:a.ok ops j)(h:Cm τ ops j o s a=some b) :
  b.ok ops (j+1)∧a.le b∧(cK τ.pf o.op=.read→∀ id,kD s.eval o.op=some id→(j,id)∈b.R)∧(cK τ.pf o.op=.write→(j,jo τ s.eval s.H o.op,s.H.length)∈b.W):=by
 unfold Cm at h;split at h
 ·rename_i d
  cases h;exact⟨Acc.uk ha,a.le_refl,(fun h=>by rw[d]at h; cases h),(fun h=>by rw[d]at h; cases h)⟩
 ·rename_i d
  split at h
  ·rename_i id hid
   obtain⟨g1,g2,g3⟩:=VZ ha h;refine⟨g1,g2,fun _ k g=>?_,(fun h=>by rw[d]at h; cases h)⟩;rw[hid]at g;cases g;exact g3
  ·rename_i hid
   cases h;refine⟨Acc.uk ha,a.le_refl,fun _ k g=>?_,(fun h=>by rw[d]at h; cases h)⟩;rw[hid]at g;cases g
 ·rename_i d
  obtain⟨g1,g2,g3⟩:=J3 ha h;exact⟨g1,g2,(fun h=>by rw[d]at h; cases h),fun _=>g3⟩
theorem J4{ops:Array Oper}{j:Nat}{o:Oper}{s:ar}{v:AV}{H':List aj}{b c:Acc}(k:b.le c)(u:cK τ.pf o.op=.read→∀ id,kD s.eval o.op=some id→(j,id)∈b.R)
  (hw:cK τ.pf o.op=.write→(j,jo τ s.eval s.H o.op,s.H.length)∈b.W) (hk:cK τ.pf o.op=.write→∀ A,A∉jo τ s.eval s.H o.op→A<s.H.length→H'[A]? = s.H[A]?)
  (q:jN o.op=true→nl ops=true→cK τ.pf o.op=.write→bR ops s.den.fr o=some true→∀ σ,xz c.W j s.den.H σ→Yields P τ.pf ops o ⟨s.den.fr,mq σ s.den.H⟩ v (mq σ (ao H'))) :
  (g:(mn ops&&eh o.op)=false)→Step P τ.pf ops c.R c.W j o s.den v (ao H'):=by
 intro g;refine⟨fun d A y=>?_,fun d _ id hid=>k.1 _ (u d id (by rw[←ar.kG]; exact hid)),fun h1 h _=>(by rw[h1,h]at g; cases g),q⟩;have:=y _ (k.2 _ (hw d)) rfl;have h:=hk d A this.1 this.2;show (ao H')[A]? = (ao s.H)[A]?
 simp only[ao,ch,h]
theorem step_skip{ops:Array Oper}{j:Nat}{o:Oper}{s:ar}{c:Acc}(hw:bR ops s.fr o=some false):Step P τ.pf ops c.R c.W j o s.den (.tuple []) (ao s.H) :=
 ⟨fun _ _ _=>rfl,fun _ h=>(by rw[show s.den.fr=s.fr from rfl,hw]at h; cases h),fun _ _ _=>⟨rfl,fun _ h=>(h rfl).elim⟩,fun _ _ _ h=>(by rw[show s.den.fr=s.fr from rfl,hw]at h; cases h)⟩
theorem J5(g:al P τ){f:FuncId}{args:List AV}{v:AV}(k:τ.N f=true):∀(σ:List (Nat × ab)) (H H':List aj),τ.W f args H=some (true,v,H')→(∀ p∈σ,p.1<H.length∧p.1∉τ.C f args H) →
  ∃ H2 d,ao H2=mq σ (ao H)∧ao d=mq σ (ao H')∧τ.W f args H2=some (true,v,d)
 | [],H,H',h,_=>⟨H,H',rfl,rfl,h⟩
 | p::σ,H,H',h,u=>by
  obtain⟨y,a2⟩:=u p cY;obtain⟨h1,B⟩:=g.F.2 f k args H true v H' h p.1 (.raw p.2) y a2;obtain⟨H2,d,I,J,M⟩:=J5 g k σ _ _ h1 fun q O=>by
   obtain⟨b1,U⟩:=u q (di _ O);rw[B];exact⟨by simpa using b1,U⟩
  refine⟨H2,d,?_,?_,M⟩
  ·rw [I, dh]
   rfl
  ·rw [J, dh]
   rfl
theorem V4{o:Oper}{s:ar}{k:AV→List aj→Tree}{f:FuncId}{args:List AV}{b:Bool}{v:AV}{H':List aj}(d:jN o.op=true)(h:cK τ.pf o.op=.write)(g:gW s.eval o.op=some (f,args))(u:τ.W f args s.H=some (b,v,H')) :
  ny P τ o s k=.side b (k v H'):=by
 unfold jN at d;split at d
 ·rename_i c q
  unfold ny;rw[q]at h g⊢;simp only[h,g,u]
 ·cases d
theorem J6{z:List Value}:∀{H:List aj} {i j:Nat} {ks:List Kd} {g:List G},pc z H i=some (j,ks,g)→i≤j∧H[j-i]? = some (.vec ks 0 [])∧q_ ks z=some g
 | [],_,_,_,_,h=>by cases h
 | o::H,i,j,ks,g,h=>by
  have next:pc z H (i+1)=some (j,ks,g)→i≤j∧(o::H)[j-i]? = some (.vec ks 0 [])∧q_ ks z=some g:=by
   intro h;obtain⟨h1,d,k⟩:=J6 h;refine⟨by omega,?_,k⟩;rw[show j-i=(j-(i+1))+1 from by omega];simpa using d
  unfold pc at h;split at h
  ·cases ‹_=_›
  ·rename_i u rows' H' v e
   cases e;split at h
   ·rename_i y q
    split at h
    ·cases h
     exact⟨aD _,by simp,q⟩
    ·exact next h
   ·exact next h
  ·rename_i e
   cases e;exact next h
theorem J7:∀{H:List aj} {i j:Nat},uh H i=some j→i≤j∧H[j-i]? = some (.raw .dP)
 | [],_,_,h=>by cases h
 | o::H,i,j,h=>by
  have next:uh H (i+1)=some j→i≤j∧(o::H)[j-i]? = some (.raw .dP):=by
   intro h;obtain⟨h1,d⟩:=J7 h;refine⟨by omega,?_⟩;rw[show j-i=(j-(i+1))+1 from by omega];simpa using d
  unfold uh at h;split at h
  ·cases ‹_=_›
  ·rename_i e
   cases e;cases h;exact⟨aD _,by simp⟩
  ·rename_i e
   cases e;exact next h
theorem V5{op:Op}{H H':List aj}{id:Nat}{v:AV}(h:Cn P op H=some (id,v,H')) :
  ((∃ t m,op=.alloc t∧ng P t id m (ao H)=some (v,ao H'))∨∃ t,op=.makeMap t none∧oN id (ao H)=some (v,ao H'))∧H'.length=H.length∧∀ A,A≠id→H'[A]? = H[A]? := by
 unfold Cn at h;split at h
 ·rename_i t
  split at h
  ·rename_i z y
   split at h
   ·rename_i i ks g q
    cases h;obtain⟨_,d,B⟩:=J6 q;rw[fU]at d;have e:=JM B;refine⟨.inl ⟨t,mZ ks,rfl,?_⟩,by simp,fun A u=>aT (Ne.symm u)⟩;have hk:ks.length=z.length:=by
     have:=congrArg HF e;simpa[qg,w8]using this
    rw[I' (mZ ks) y (k:=ks.length) (by rw[bl d]; rfl) hk,dh,←e];rfl
   ·cases h
  ·cases h
 ·rename_i t
  split at h
  ·rename_i K V _
   split at h
   ·rename_i i q
    cases h;obtain⟨_,d⟩:=J7 q;rw[fU]at d;refine⟨.inr ⟨t,rfl,?_⟩,by simp,fun A u=>aT (Ne.symm u)⟩;rw[IF (by rw[bl d]; rfl),dh];rfl
   ·cases h
  ·cases h
 ·cases h
theorem Cv(y:al P τ){ops:Array Oper}{j:Nat}{o:Oper}{s:ar}{a:Acc}{k:ar→Acc→Tree}{Q:bV→ar→Prop}(hw:bR ops s.fr o=some true)(ha:a.ok ops j)(h:(ui P τ ops j o s a k).holds Q) :
  ∃ v H' b,Yields P τ.pf ops o s.den v (ao H')∧b.ok ops (j+1)∧a.le b∧(∀ c,b.le c→Step P τ.pf ops c.R c.W j o s.den v (ao H'))∧(k (s.put o.dst v H') b).holds Q:=by
 unfold ui at h;split at h
 ·rename_i g
  simp only[az]at g;split at h
  ·rename_i id v H' hal
   split at h
   ·rename_i b hb
    obtain⟨hnew,hlen,hkeep⟩:=V5 hal;obtain⟨g1,g2,g3⟩:=J3 ha hb;refine⟨v,H',b,?_,g1,g2,fun c q=>⟨fun _ A O=>?_,fun hr=>(by rw[mo g.2]at hr; cases hr),fun _ _ _=>⟨?_,fun B hne=>?_⟩,fun hcv=>(by rw[lq g.2]at hcv; cases hcv)⟩,h⟩
    ·unfold Yields
     rw[show s.den.fr=s.fr from rfl,hw];simp only[mo g.2];rcases hnew with⟨t,m,N,U⟩|⟨t,N,U⟩
     ·exact .inr (.inl (.inl ⟨t,id,m,N,U⟩))
     ·exact .inr (.inl (.inr ⟨t,id,N,U⟩))
    ·have := (O _ (q.2 _ g3) rfl).1
     show (ao H')[A]? = (ao s.H)[A]?
     simp only[ao,ch,hkeep A (by simpa using this)]
    ·show (ao H').length = (ao s.H).length
     simp only[eD,hlen]
    ·refine ⟨_, q.2 _ g3, rfl, ?_⟩
     have e:B=id:=AI fun e=>hne (by
      show (ao H')[B]? = (ao s.H)[B]?
      simp only[ao,ch,hkeep B e])
     rw[e];exact List.mem_singleton.2 rfl
   ·exact h.elim
  ·exact h.elim
 ·rename_i g
  split at h
  ·exact h.elim
  rename_i hfc;split at h
  ·rename_i b hb
   obtain⟨g1,g2,g3,g4⟩:=V3 ha hb;by_cases u:(nl ops&&jN o.op)=true∧cK τ.pf o.op=.write
   ·obtain ⟨u, I⟩ := u
    have hca2:=u;simp only[az]at hca2;have d:Co τ o s=true:=by
     rw[u]at hfc;simpa using hfc
    unfold Co at d;rw[I]at d;simp only[]at d;split at d
    case h_2=>cases d
    rename_i f args M;split at d
    case h_2=>cases d
    rename_i hN;obtain⟨⟨b0,v,H'⟩,J⟩:=Option.isSome_iff_exists.1 d;rw[V4 hca2.2 I M J]at h;simp only[Tree.holds]at h;obtain⟨rfl,h⟩:=h;obtain⟨hbody,hcall⟩:=y.W f args s.H true v H' J rfl;have htch:jo τ s.eval s.H o.op=τ.C f args s.H:=by
     unfold jo;rw[M]
    have hcal':∀ H2,gW (St.eval ⟨s.den.fr,H2⟩) o.op=some (f,args):=fun H2=>by
     have e:St.eval ⟨s.den.fr,H2⟩=s.eval:=by funext x; cases x<;>rfl
     rw[e];exact M
    have yl:∀ H2 V:List ab,dC P f args H2 v V→Yields P τ.pf ops o ⟨s.den.fr,H2⟩ v V:=fun H2 V hx=>by
     unfold Yields;rw[show (St.mk s.den.fr H2).fr=s.fr from rfl,hw];simp only[I];exact .inl (.inr ⟨f,args,hcal' H2,hbody,hx⟩)
    refine⟨v,H',b,yl _ _ hcall,g1,g2,fun c q=>J4 q g3 g4 (fun _ A O hlt=>?_) (fun _ _ _ _ σ hσ=>?_) (by simpa using g),h⟩
    ·exact y.C f args s.H true v H' J A (by rw[←htch]; exact O) hlt
    ·obtain ⟨H2,H2',q1,q2,q3⟩:=J5 y hN σ s.H H' J (fun p hp=>by
      obtain⟨hk,_⟩:=hσ p hp;obtain⟨k1,k2⟩:=hk _ (q.2 _ (g4 I)) rfl;rw[htch]at k1;exact⟨k2,k1⟩)
     rw[←q2,show mq σ s.den.H=ao H2 from q1.symm];exact yl _ _ (y.W f args H2 true v H2' q3 rfl).2
   ·obtain ⟨v, H', q1, q2, q3⟩ := xP y hw h
    exact⟨v,H',b,q1,g1,g2,fun c q=>J4 q g3 g4 q2 (fun h1 h2 h3=>absurd ⟨by rw[h1,h2]; rfl,h3⟩ u) (by simpa using g),q3⟩
  ·exact h.elim
theorem V6(q:al P τ){ops:Array Oper}{j:Nat}{o:Oper}{s:ar}{a:Acc}{k:ar→Acc→Tree}{Q:bV→ar→Prop}(ha:a.ok ops j)(h:(Cp P τ ops j o s a k).holds Q) :
  ∃ v H' b,Yields P τ.pf ops o s.den v (ao H')∧b.ok ops (j+1)∧a.le b∧(∀ c,b.le c→Step P τ.pf ops c.R c.W j o s.den v (ao H'))∧(k (s.put o.dst v H') b).holds Q:=by
 have skip:bR ops s.fr o=some false→Yields P τ.pf ops o s.den (.tuple []) (ao s.H):=by
  intro hw;unfold Yields;rw[show s.den.fr=s.fr from rfl,hw];exact⟨rfl,rfl⟩
 unfold Cp at h;split at h
 ·exact h.elim
 ·rename_i hw
  exact⟨_,_,a,skip (Cs hw),Acc.uk ha,a.le_refl,fun _ _=>step_skip (Cs hw),h⟩
 ·rename_i hw
  exact Cv q (J2 hw) ha h
 ·rename_i t b want hw
  obtain⟨h1,g⟩:=J1 hw;simp only[Tree.holds]at h;cases b with
  | true =>
   have d:=h.1 rfl;rw[xQ h1]at d;cases want with
   |true=>exact Cv q g ha d
   |false=>exact⟨_,_,a,skip g,Acc.uk ha,a.le_refl,fun _ _=>step_skip g,d⟩
  | false =>
   have d:=h.2 rfl;rw[xQ h1]at d;cases want with
   |true=>exact⟨_,_,a,skip g,Acc.uk ha,a.le_refl,fun _ _=>step_skip g,d⟩
   |false=>exact Cv q g ha d
theorem J8(d:al P τ){ops:Array Oper}{Q:bV→ar→Prop}:∀{l:List Oper} {j:Nat} {s:ar} {a:Acc} {k:ar→Tree},a.ok ops j→(Cq P τ ops l j s a k).holds Q →
  ∃ s' b,qO ops b.R b.W∧a.le b∧qM P τ.pf ops b.R b.W l j s.den s'.den∧(k s').holds Q
 | [],j,s,a,k,ha,h=>⟨s,a,ha.2.2,a.le_refl,rfl,h⟩
 | o::l,j,s,a,k,ha,h=>by
  obtain⟨v,H',b,g1,g2,g3,g4,g5⟩:=V6 d ha h;obtain⟨s',c,q,g,u,y⟩:=J8 d g2 g5;exact⟨s',c,q,Acc.le_trans g3 g,⟨v,ao H',g1,g4 c g,u⟩,y⟩
theorem V7{m id:Nat}{ops:Array Oper}{s s':ar}{b:Acc}(hm:P.follows .mixedOrders=true)(d:qN τ.pf ops=true)(g:qO ops b.R b.W)(h:qM P τ.pf ops b.R b.W ops.toList 0 s.den s'.den) :
  c5 P m (.region id ops true) s.den .normal s'.den:=fun ro _ _ _ k=>U7 hm d g k h (fun _ _ q=>⟨rfl,q.toM⟩) ro
theorem um{K:bV→ar→Tree}{Q:bV→ar→Prop}:∀{t:Tree},(t.bind K).holds Q→t.holds fun x s=>(K x s).holds Q
 |.fail,h=>h
 |.done _ _,h=>h
 |.ask _ _ _,h=>⟨fun hb=>um (h.1 hb),fun hb=>um (h.2 hb)⟩
 |.side _ _,h=>⟨h.1,um h.2⟩
theorem J9{m:Nat}{c:Code}{Q:bV→ar→Prop}{body:ar→(bV→ar→Tree)→Tree}
  (hb:∀ s K,(body s K).holds Q→∃ x s',c5 P m c s.den x s'.den∧(K x s').holds Q):∀(n:Nat) (s:ar) (K:bV→ar→Tree),(xM body n s K).holds Q →
  ∃ x s',jM P m c s.den x s'.den∧(K x s').holds Q
 |0,_,_,h=>h.elim
 | n+1,s,K,h=>by
  simp only[xM]at h;obtain⟨x,s1,h1,d⟩:=hb _ _ h;cases x with
  | normal =>
   obtain⟨y,s2,g,k⟩:=J9 hb n s1 K d;exact⟨y,s2,.next h1 g,k⟩
  |exit i=>exact⟨_,s1,.stop h1 (by simp),d⟩
  |ret=>exact⟨_,s1,.stop h1 (by simp),d⟩
theorem gM(hm:P.follows .mixedOrders=true)(q:al P τ){m:Nat}{L:LT}{Q:bV→ar→Prop}:∀(c:Code) (s:ar) (K:bV→ar→Tree),
  ax P m L c→(en P τ L c s K).holds Q→∃ x s',c5 P m c s.den x s'.den∧(K x s').holds Q
 |.skip,s,K,_,h=>⟨_,_,UG,h⟩
 | .region id ops draw,s,K,k,h=>by
  simp only[en]at h;split at h
  ·rename_i B
   split at h
   ·rename_i V
    simp only[Tree.holds]at h;have U:draw=true:=by
     cases draw with
     |true=>rfl
     |false=>simp at B
    subst U;obtain⟨s',b,h1,_,d,u⟩:=J8 q (a:=⟨[],[]⟩) ⟨by simp,by simp,⟨fun i id hi=>(nomatch hi),fun e he=>(nomatch he),fun e he=>(nomatch he)⟩⟩ h.2;exact⟨_,_,qI (k.2.1 id s h.1) (V7 hm V h1 d),u⟩
   ·exact h.elim
  ·rename_i O
   simp only[Tree.holds]at h;obtain⟨s',h1,d⟩:=xR q h.2;refine⟨_,_,qI (k.2.1 id s h.1) (UJ hm (fun B=>?_) h1),d⟩;rw[B]at O;simpa using O
 | .seq a b,s,K,k,h=>by
  simp only[en]at h;have I:ax P m L a:=k.sub (fun p g=>by simp only[bO]; exact cU.2 (.inl g)) (fun p g=>by simp only[bJ]; exact cU.2 (.inl g));have J:ax P m L b:=k.sub (fun p g=>by simp only[bO]; exact cU.2 (.inr g)) (fun p g=>by simp only[bJ]; exact cU.2 (.inr (cU.2 (.inr g))));obtain⟨x,s1,h1,d⟩:=gM hm q a s _ I h;cases x with
  | normal =>
   simp only[JN]at d;split at d
   ·rename_i t v
    unfold JQ at v;split at v
    ·rename_i i hi
     obtain⟨y,s2,u,N⟩:=k.2.2 i b (by simp only[bJ,hi]; exact cU.2 (.inr (cU.2 (.inl (cY))))) s1 t v _ (um d);exact⟨y,s2,xr h1 u,N⟩
    ·cases v
   ·obtain ⟨y, s2, u, N⟩ := gM hm q b s1 K J d
    exact⟨y,s2,xr h1 u,N⟩
  |exit id=>exact⟨_,_,Jf h1 (by simp),d⟩
  |ret=>exact⟨_,_,Jf h1 (by simp),d⟩
 | .cond c a b,s,K,k,h=>by
  simp only[en]at h;have I:ax P m L a:=k.sub (fun p g=>by simp only[bO]; exact cU.2 (.inl g)) (fun p g=>by simp only[bJ]; exact cU.2 (.inl g));have J:ax P m L b:=k.sub (fun p g=>by simp only[bO]; exact cU.2 (.inr g)) (fun p g=>by simp only[bJ]; exact cU.2 (.inr g));split at h
  ·rename_i t hb
   have M:=JS hb;rw[←ar.kG]at M;simp only[Tree.holds]at h;cases t with
   | true =>
    obtain⟨x,s1,h1,d⟩:=gM hm q a s K I (h.1 rfl);exact⟨x,s1,Jg M (by simpa using h1),d⟩
   | false =>
    obtain⟨x,s1,h1,d⟩:=gM hm q b s K J (h.2 rfl);exact⟨x,s1,Jg M (by simpa using h1),d⟩
  ·exact h.elim
 | .block id c,s,K,k,h=>by
  simp only[en]at h;obtain⟨x,s1,h1,d⟩:=gM hm q c s _ (k.sub (fun p g=>by simpa only[bO]using g) (fun p g=>by simpa only[bJ]using g)) h;refine⟨_,s1,Jh h1,?_⟩;cases x with
  |normal=>exact d
  | exit i =>
   simp only[JO]at d;simp only[bV.inBlock];split
   ·rename_i e; rw[if_pos e]at d; exact d
   ·rename_i e; rw[if_neg e]at d; exact d
  |ret=>exact d
 | .loop c,s,K,k,h=>by
  simp only[en]at h;split at h
  ·rename_i i hi
   split at h
   ·rename_i t W
    obtain⟨x,s',h1,d⟩:=k.1 i c (by simp only[bO,hi]; exact cY) s t W _ (um h);exact⟨x,s',Ji h1,d⟩
   ·obtain ⟨x, s', h1, d⟩ := J9 (fun s1 K1 hh => gM hm q c s1 K1 (k.sub (fun p g => by simp only [bO, hi]; exact di _ g) (fun p g => by simpa only [bJ] using g)) hh) 400 s K h
    exact⟨x,s',Ji h1,d⟩
  ·exact h.elim
 |.exit id,s,K,_,h=>⟨_,_,UI,h⟩
 |.ret,s,K,_,h=>⟨_,_,UH,h⟩
 |.rangeFunc ..,_,_,_,h=>by simp[en,Tree.holds]at h
 |.scope _,_,_,_,h=>by simp[en,Tree.holds]at h
 |.label _,_,_,_,h=>by simp[en,Tree.holds]at h
 |.goto _,_,_,_,h=>by simp[en,Tree.holds]at h
 |.refuse _,_,_,_,h=>by simp[en,Tree.holds]at h
end sound
end Go.AL

namespace Go.AL
open Go
variable [Dr]
inductive iP where
 |fail
 |ret (v:AV) (H:List aj)
 |ask (b:Bool) (t e:iP)
 |side (b:Bool) (t:iP)
def iP.holds(Q:AV→List aj→Prop):iP→Prop
 |.fail=>False
 |.ret v H=>Q v H
 |.ask b t e=>(b=true→t.holds Q)∧(b=false→e.holds Q)
 |.side b t=>b=true∧t.holds Q
def iP.two:iP→Option (AV × List aj)
 |.fail=>none
 |.ret v H=>some (v,H)
 |.ask b t e=>bif b then t.two else e.two
 |.side b t=>bif b then t.two else none
def iP.val:iP→Option AV
 |.fail=>none
 |.ret v _=>some v
 |.ask b t e=>bif b then t.val else e.val
 |.side b t=>bif b then t.val else none
theorem xS:∀{t:iP} {v:AV},t.val=some v→t.holds fun u _=>u=v
 |.fail,_,h=>by cases h
 |.ret u H,_,h=>by simp only[iP.val,aY]at h; exact h
 | .ask b t e,v,h=>by
  cases b with
  |true=>exact⟨fun _=>xS (t:=t) (v:=v) h,fun h=>by cases h⟩
  |false=>exact⟨fun h=>(nomatch h),fun _=>xS (t:=e) (v:=v) h⟩
 | .side b t,v,h=>by
  cases b with
  |true=>exact And.intro rfl (xS (t:=t) (v:=v) h)
  |false=>cases h
def Cw(H:List aj):Option (List Kd)→AV→Option (Bool × AV)
 |none,a=>some (true,a)
 | some ks,a=>match a with
  |.nils | .lit (.slice none 0 0)=>some (true,.listF ks [])
  |.listF d rows=>if Kd.gr ks d then some (true,.listF ks rows) else none
  | .list w rows=>match bz ks rows with
   |some gs=>if w=ks.length then some (true,.listF ks gs) else none
   |none=>none
  | .vec w id af off n=>match H[id]? with
   |some (.vec d v rows)=>if af=v∧d.length=w∧off=0∧Kd.gr ks d=true then some (ad n rows.length,.listF ks rows) else none
   |_=>none
  |_=>none
def kK(H:List aj):List (Option (List Kd))→List AV→Option (Bool × List AV)
 |_,[]=>some (true,[])
 | [],a::as=>match kK H [] as with
  |some (b,d)=>some (b,a::d)
  |none=>none
 | c::cs,a::as=>match Cw H c a,kK H cs as with
  |some (b,g),some (h,d)=>some (b&&h,g::d)
  |_,_=>none
theorem V8{E:Env}(HE:au E){H:List aj}(hH:E.H=ao H){k:Option (List Kd)}{a g:AV}{b:Bool}{c:Value}(h:Cw H k a=some (b,g))(hb:b=true)(u:g.closed=true)(d:rel E a c) :
  rel (E.bare E.w) g c:=by
 unfold Cw at h;split at h
 ·cases h; exact dK (nz E) _ u d
 ·rename_i ks
  split at h
  ·cases h
   simp only[rel,dX,G.rows]at d⊢;obtain⟨base,rfl⟩:=d;exact⟨base,0,rfl,aD _,.inl trivial⟩
  ·cases h
   simp only[rel,dX,G.rows]at d⊢;subst d;exact⟨none,0,rfl,aD _,.inl trivial⟩
  ·split at h
   ·rename_i v
    cases h;rw[Kd.iz v];exact dK (nz E) _ rfl d
   ·cases h
  ·split at h
   ·rename_i gs y
    split at h
    ·rename_i hw
     cases h;rw[iH,oY y];subst hw;exact dK (nz E) _ rfl d
    ·cases h
   ·cases h
  ·split at h
   ·rename_i hid
    split at h
    ·rename_i B
     obtain⟨rfl,I,rfl,q⟩:=B;simp only[aY,bh]at h;obtain⟨h1,rfl⟩:=h;subst hb;have q:=Kd.iz q;subst q;exact JU HE hH hid I (bu h1) d
    ·cases h
   ·cases h
  ·cases h
theorem Cx{E:Env}(HE:au E){H:List aj}(hH:E.H=ao H):∀{ks:List (Option (List Kd))} {as q:List AV} {b:Bool} {cs:List Value},kK H ks as=some (b,q)→b=true →
  AV.bq q=true→ah E as cs→ah (E.bare E.w) q cs
 | ks,[],q,b,cs,h,_,_,d=>by
  cases ks<;>simp only[kK]at h<;>cases h<;>(cases cs with
   |nil=>simp[ah]
   |cons _ _=>simp[ah]at d)
 | [],a::as,q,b,cs,h,hb,g,d=>by
  cases cs with
  |nil=>simp[ah]at d
  | cons c cs =>
   simp only[kK]at h;simp only[ah]at d;split at h
   ·rename_i b1 u h1
    cases h;simp only[AV.bq,az]at g;simp only[ah];exact⟨dK (nz E) _ g.1 d.1,Cx HE hH h1 hb g.2 d.2⟩
   ·cases h
 | k::ks,a::as,q,b,cs,h,hb,g,d=>by
  cases cs with
  |nil=>simp[ah]at d
  | cons c cs =>
   simp only[kK]at h;simp only[ah]at d;split at h
   ·rename_i b0 a0 b1 u h0 h1
    simp only[aY,bh]at h;obtain⟨v,rfl⟩:=h;subst v;simp only[az]at hb;simp only[AV.bq,az]at g;simp only[ah];exact⟨V8 HE hH h0 hb.1 g.1 d.1,Cx HE hH h1 hb.2 g.2 d.2⟩
   ·cases h
def Tree.toR(P:Program)(rs:List ResultVar) (ks:List (Option (List Kd))):Tree→iP
 |.fail=>.fail
 | .done x s=>match x with
  |.exit _=>.fail
  | _=>match gX P s.den rs with
   | some vs=>match kK s.H ks vs with
    |some (b,d)=>.side b (.ret (df d) s.H)
    |none=>.fail
   |none=>.fail
 |.ask b t e=>.ask b (t.toR P rs ks) (e.toR P rs ks)
 |.side b t=>.side b (t.toR P rs ks)
theorem toR_holds{P:Program}{rs:List ResultVar}{ks:List (Option (List Kd))}{Q:AV→List aj→Prop}:∀{t:Tree},(t.toR P rs ks).holds Q →
  t.holds fun x s=>(x=.normal∨x=.ret)∧∃ vs d,gX P s.den rs=some vs∧kK s.H ks vs=some (true,d)∧Q (df d) s.H
 |.fail,h=>h
 | .done x s,h=>by
  have key:∀ y,(y=bV.normal∨y=bV.ret)→(match gX P s.den rs with
   | some vs=>match kK s.H ks vs with
    |some (b,d)=>iP.side b (.ret (df d) s.H)
    |none=>.fail
   |none=>.fail).holds Q→(y=.normal∨y=.ret)∧∃ vs d,gX P s.den rs=some vs∧kK s.H ks vs=some (true,d)∧Q (df d) s.H:=by
   intro y g h;split at h
   ·rename_i vs k
    split at h
    ·rename_i b d q
     simp only[iP.holds]at h;obtain⟨rfl,h⟩:=h;exact⟨g,vs,d,k,q,h⟩
    ·exact h.elim
   ·exact h.elim
  simp only[Tree.toR]at h;simp only[Tree.holds];cases x with
  |exit i=>exact h.elim
  |normal=>exact key _ (.inl rfl) h
  |ret=>exact key _ (.inr rfl) h
 |.ask _ _ _,h=>⟨fun hb=>toR_holds (h.1 hb),fun hb=>toR_holds (h.2 hb)⟩
 |.side _ _,h=>⟨h.1,toR_holds h.2⟩
def xT(P:Program)(τ:ak)(L:LT)(fn:Func) (ks:List (Option (List Kd))) (args:List AV) (H:List aj):iP :=
 match fn.body with
 |some c=>(en P τ L c ⟨iM args fn.ntmps,H⟩ .done).toR P fn.results.toList ks
 |none=>.fail
theorem J_{E:Env}{vs:List AV}{us:List Value}(h:ah E vs us):rel E (df vs) (if h:us.toArray.size=1 then us.toArray[0] else .tuple us.toArray):=by
 cases us with
 | nil =>
  cases vs with
  |nil=>simp[df,rel,ah]
  |cons _ _=>simp[ah]at h
 | cons u us =>
  cases us with
  | nil =>
   cases vs with
   |nil=>simp[ah]at h
   | cons v vs =>
    cases vs with
    |nil=>simp only[ah]at h; simpa[df]using h.1
    |cons _ _=>simp[ah]at h
  | cons d us =>
   cases vs with
   |nil=>simp[ah]at h
   | cons v vs =>
    cases vs with
    |nil=>simp[ah]at h
    | cons v2 vs =>
     simp only[df,rel];exact⟨(u::d::us).toArray,by simp,h⟩
theorem V9{P:Program}{f:FuncId}{fn:Func}{c:Code}{args:List AV}{x:bV}{s':ar}{ks:List (Option (List Kd))}{vs d:List AV}
  (hf:P.funcs[f]? = some fn) (hb:fn.body=some c) (hs:c5 P 0 c ⟨iM args fn.ntmps,[]⟩ x s'.den) (g:x=.normal∨x=.ret) (hr:gX P s'.den fn.results.toList=some vs)
  (hc:kK s'.H ks vs=some (true,d)) (ha:AV.bq args=true) (J:AV.bq d=true):cJ P f args (df d):=by
 intro H E cargs hH HE M
 let E0:Env:={ w:=E.w,H:=[],loc:=[],X:=(E.X.or E.own).re dJ }
 have N:∀ b,¬ E0.own b:=by rintro b (⟨id,c,hid⟩|⟨l,k,c,hk⟩); simp[E0]at hid; simp[E0,dJ]at hk
 have hC:E.bI E0:=⟨fun b hb=>⟨⟨hb.1,N b,fun g=>g.elim hb.2.2 hb.2.1⟩,rfl⟩⟩
 have I:au E0:=by
  refine⟨rfl,?_,?_,?_,?_,HE.e9.bI hC,fun l k l' k' b m n hk=>by simp[E0,dJ]at hk,fun i b m l k n hi=>by simp[E0]at hi,fun l k b m hk=>by simp[E0,dJ]at hk,fun i j o o' l hi=>by simp[E0]at hi,fun l _ k q hk=>by simp[E0,dJ]at hk⟩
  ·intro i j b m n hi; simp[E0]at hi
  ·intro i b m hi; simp[E0]at hi
  ·rintro b (g | ho)
   ·exact HE.X b g
   ·exact(HE.wN ho).1
  ·intro i o hi; simp[E0]at hi
 refine BQ hf hb ?_;have U:=qK I;have V:=ml U _ (mV hC args ha M);have W:bQ ⟨iM args fn.ntmps,[]⟩ { E0 with X:=⟨E0.X.x,fun _=>False,E0.X.r⟩ } { tmps:=cargs++Array.replicate (fn.ntmps-cargs.size) undef,defers:=[] }:=by
  refine⟨rfl,?_,oH _ _,I.cG U⟩;simp only[iM,Array.toList_append,Array.toList_replicate];refine jJ V ?_;have:=fV M;have e:args.length=cargs.size:=by simpa using this
  rw[e];have:=tG (E:={ E0 with X:=⟨E0.X.x,fun _=>False,E0.X.r⟩ }) (bN (fn.ntmps-cargs.size) undef);simpa using this
 refine wpIn_mono (hs none (BN _) { E0 with X:=⟨E0.X.x,fun _=>False,E0.X.r⟩ } _ W) fun e a1 w0 ⟨h3,loc',X',y,B⟩=>?_;refine⟨by subst h3; rcases g with rfl|rfl; exact .inl rfl; exact .inr rfl,X',y.defers,fun u k1 k2 k3=>?_⟩;obtain⟨y,B⟩:=BR I y B k1 k2 k3;obtain⟨us,g1,g2⟩:=xv y fn.results.toList vs hr;have hres:(results fn a1.tmps).run P u=.ok (if h:us.toArray.size=1 then us.toArray[0] else .tuple us.toArray) u:=by
  rw[xw];simp only[Sem.run_bind];rw[Array.mapM_eq_mapM_toList,Sem.run_map,g1];rfl
 have g3:=Cx y.heap rfl hc rfl J g2;have g4:=J_ g3;have O:Ext E.w u:=⟨B.size,fun b hb=>B.same b hb (N b),B.env⟩
 have hcl:(df d).closed=true:=by
  cases d with
  |nil=>rfl
  | cons v vs =>
   cases vs with
   |nil=>simpa[df,AV.bq]using J
   |cons v2 vs=>simpa only[df,AV.closed]using J
 have g5:rel { E with w:=u } (df d) (if h:us.toArray.size=1 then us.toArray[0] else .tuple us.toArray) :=
  dK (E:=({ w:=u,H:=ao s'.H,loc:=loc',X:=E0.X.re X'.r }:Env).bare u) (E':={ E with w:=u }) ⟨fun b hb=>⟨⟨hb.1,fun ho=>hb.2.2 (Or.inr ho),fun g=>hb.2.2 (Or.inl g)⟩,rfl⟩⟩ _ hcl g4
 refine⟨_,hres,_,df d,H,rfl,⟨rfl,rfl⟩,E.loc,E.X.r,?_,?_,?_⟩
 ·rw[←hH]; exact g5
 ·rw[←hH]; exact HE.ext O
 ·rw[←hH]; exact Env.iI O
theorem V_{vs:List AV}{v:AV}(h:df vs=v)(d:v.closed=true):AV.bq vs=true:=by
 subst h;cases vs with
 |nil=>rfl
 | cons v vs =>
  cases vs with
  |nil=>simpa[df,AV.bq]using d
  |cons v2 vs=>simpa only[df,AV.closed]using d
theorem dz{P:Program}{τ:ak}{L:LT}(hm:P.follows .mixedOrders=true)(g:al P τ){f:FuncId}{fn:Func} (ks:List (Option (List Kd))) {args:List AV} {v:AV}
  (k:∀ c,fn.body=some c→ax P 0 L c)
  (q:P.funcs[f]? = some fn) (ha:AV.bq args=true) (u:v.closed=true) (h:(xT P τ L fn ks args []).val=some v):cJ P f args v:=by
 have h:=xS h;unfold xT at h;split at h
 ·rename_i c hb
  obtain⟨x,s',h1,y,vs,J,B,I,d⟩:=gM hm g c _ _ (k c hb) (toR_holds h);rw[←d];exact V9 q hb h1 y B I ha (V_ d u)
 ·exact h.elim
end Go.AL

namespace Go.AL
open Go
variable [Dr]
def J'(ms:List Nat):ak:={ pf:=fun g=>ms.any fun t=>ad g (t+1000000),T:=fun _ _=>none,W:=fun _ _ _=>none,C:=fun _ _ _=>[],U:=fun _=>false }
theorem Wa(P:Program)(ms:List Nat):al P (J' ms):=⟨fun _ _ _ _ h=>(nomatch h),fun _ _ _ _ _ _ h=>(nomatch h),fun _ _ _ _ _ _ h=>(nomatch h),fun _ _ _ _ h=>(nomatch h),fun _ _ _ _=>⟨rfl,rfl⟩,fun _ h=>(nomatch h)⟩
def ak.add(τ:ak)(f:FuncId)(c:List AV→Option (Bool × AV)):ak where
 pf g:=match ad g f with
  |true=>true
  |false=>τ.pf g
 T g args:=match ad g f with
  |true=>c args
  |false=>τ.T g args
 W:=τ.W
 C:=τ.C
 I:=τ.I
 N:=τ.N
 U:=τ.U
theorem al.add{P:Program}{τ:ak}(h:al P τ){f:FuncId}{c:List AV→Option (Bool × AV)}(hb:e_ P f=true)(q:∀ args b v,c args=some (b,v)→b=true→cJ P f args v) :
  al P (τ.add f c):=by
 refine⟨fun g args b v d k=>?_,h.W,h.C,h.I,h.F⟩;simp only[ak.add]at d;split at d
 ·rename_i e
  have e:=bu e;subst e;exact⟨hb,q args b v d k⟩
 ·exact h.T g args b v d k
def ay:LT:=⟨fun _ _=>none,fun _ s=>(true,s),fun _ _=>none⟩
theorem aM(P:Program)(m:Nat)(c:Code):ax P m ay c:=⟨fun _ _ _ _ _ h=>(nomatch h),fun _ _ _=>bx.refl _,fun _ _ _ _ _ h=>(nomatch h)⟩
def ak.inline(P:Program)(τ:ak)(f:FuncId)(fn:Func) (ks:List (Option (List Kd))):ak:=τ.add f fun args =>
 match (xT P τ ay fn ks args []).val with
 | some v=>match AV.bq args&&v.closed with
  |true=>some (true,v)
  |false=>none
 |none=>none
theorem al.inline{P:Program}{τ:ak}(h:al P τ)(hm:P.follows .mixedOrders=true){f:FuncId}{fn:Func}(k:P.funcs[f]? = some fn)(hb:e_ P f=true) (ks:List (Option (List Kd))) :
  al P (τ.inline P f fn ks):=h.add hb fun args b v d _=>by
 split at d
 ·rename_i u hu
  split at d
  ·rename_i g
   simp only[az]at g;cases d;exact dz hm h ks (fun _ _=>aM _ _ _) k g.1 g.2 hu
  ·cases d
 ·cases d
abbrev aS(s:ByteArray):AV:=.lit (.string s)
end Go.AL

namespace Go.AL
open Go
variable [Dr]
def uo(slot:Nat)(ks:List Kd)(s:ar):ar:=⟨s.fr.set slot (.vec ks.length s.H.length 0 0 0),s.H++[.vec ks 0 []]⟩
def isNil:AV→Bool
 |.nils | .lit (.slice none 0 0)=>true
 |_=>false
theorem Ka{E:Env}{a:AV}{c:Value}(h:isNil a=true)(d:rel E a c):∃ base,c=.slice base 0 0:=by
 unfold isNil at h;split at h
 ·simpa only[rel]using d
 ·simp only[rel]at d; exact⟨none,d⟩
 ·cases h
theorem Kb{m:Nat}{slot:Nat}{ks:List Kd}{s:ar}(h:isNil (s.fr.getD slot .undef)=true):bx m s.den (uo slot ks s).den:=fun E a d=>by
 have hH:E.H=ao s.H:=d.H;have hlen:E.H.length=s.H.length:=by rw[hH,eD]
 have hle:E.le (E.push E.w (.vec ks.length 0 []) none):=Env.jf d.heap.len (Ext.refl _) (fun b n h=>by cases h);have q:aO (E.push E.w (.vec ks.length 0 []) none) E.H.length (.vec ks.length 0 []):=by
  simp only[aO,Env.push];refine .inl ⟨?_,trivial⟩;rw[il (by rw[d.heap.len]; exact aD _),d.heap.len,mP];rfl
 have u:au (E.push E.w (.vec ks.length 0 []) none):=au.push d.heap (Ext.refl _) (fun b n h=>by cases h) q;have k:(uo slot ks s).den.H=E.H++[.vec ks.length 0 []]:=by
  rw[hH];simp[uo,ar.den,ao,aj.den]
 refine⟨E.loc++[none],E.X,?_,?_⟩
 ·rw [k]
  refine⟨k.symm,?_,d.defers,u⟩;have h':=dB hle _ d.fr;have B:∀(fr:List AV) (cs:List Value) (i:Nat),ah E fr cs→isNil (fr.getD i .undef)=true→ah (E.push E.w (.vec ks.length 0 []) none) fr cs →
    ah (E.push E.w (.vec ks.length 0 []) none) (fr.set i (.vec ks.length s.H.length 0 0 0)) cs:=by
   intro fr
   induction fr with
   |nil=>intro cs i h0 h1 g; exact g
   | cons b fr I =>
    intro cs i h0 h1 g;cases cs with
    |nil=>simp[ah]at h0
    | cons c cs =>
     simp only[ah]at h0 g;cases i with
     | zero =>
      simp only[List.set_cons_zero,ah];refine⟨?_,g.2⟩;obtain⟨base,rfl⟩:=Ka (by simpa using h1) h0.1;have J:(E.push E.w (.vec ks.length 0 []) none).H[s.H.length]? = some (.vec ks.length 0 []):=by
       simp only[Env.push];rw[il (by omega),hlen,mP];rfl
      have y:(E.push E.w (.vec ks.length 0 []) none).loc[s.H.length]? = some none:=by
       simp only[Env.push];rw[il (by rw[d.heap.len]; omega),d.heap.len,hlen,mP];rfl
      simp only[rel];refine⟨⟨base,0,rfl,aD _,fun h=>absurd h (qe _)⟩,⟨_,J,rfl,fun v h=>eC _⟩,fun _=>⟨fun _=>⟨trivial,trivial,base,rfl⟩,fun b m hb=>?_⟩⟩;rw[y]at hb;cases hb
     | succ i =>
      simp only[List.set_cons_succ,ah];exact⟨g.1,I cs i h0.2 (by simpa using h1) g.2⟩
  exact B s.fr _ slot d.fr h h'
 ·rw [k]
  exact hle.toM
def cf(fn:Func)(k:Nat):Code:=match fn.body with
 | some c=>match (bO c).find? fun p=>ad p.1 k with
  |some p=>p.2
  |none=>.skip
 |none=>.skip
theorem uq{P:Program}{f:FuncId}{vs:List Value}{u:Value}(h:∀ w,Calls P f vs.toArray w fun e w'=>e=.returned u∧Ext w w'):cJ P f (vs.map .lit) (.lit u):=by
 intro H E cargs hH HE g;have e:cargs=vs.toArray:=by
  have:∀(vs us:List Value),ah E (vs.map AV.lit) us→us=vs:=by
   intro vs
   induction vs with
   | nil=>intro us h; cases us with
    |nil=>rfl
    |cons _ _=>simp[ah]at h
   | cons v vs k =>
    intro us h;cases us with
    |nil=>simp[ah]at h
    | cons u us =>
     simp only[dx,ah,rel]at h;rw[h.1,k us h.2]
  have:=this vs cargs.toList g;rw[←this]
 rw[e];refine(h E.w).mono ?_;rintro _ w' ⟨rfl,d⟩;refine⟨u,.lit u,H,rfl,⟨rfl,rfl⟩,E.loc,E.X.r,by simp[rel],?_,?_⟩
 ·rw[←hH]; exact HE.ext d
 ·rw[←hH]; exact Env.iI d
end Go.AL

namespace Go.AL
open Go
variable [Dr]
def mr(ks:List Kd):AV→Option (List (List G))
 |.nils | .lit (.slice none 0 0)=>some []
 |.emptyS _=>some []
 |.listF d rows=>if Kd.gr ks d then some rows else none
 | .list w rows=>match bz ks rows with
  |some gs=>if w=ks.length then some gs else none
  |none=>none
 |_=>none
def Cy(ks:List Kd):AV→Option (List G)
 |.agg cells=>fO ks cells
 |_=>none
theorem Kc{E:Env}{ks:List Kd}{a:AV}{rows:List (List G)}{c:Value}(h:mr ks a=some rows)(d:rel E a c):rel E (.listF ks rows) c:=by
 unfold mr at h;split at h
 ·cases h
  simp only[rel,dX,G.rows]at d⊢;obtain⟨base,rfl⟩:=d;exact⟨base,0,rfl,aD _,.inl trivial⟩
 ·cases h
  simp only[rel,dX,G.rows]at d⊢;subst d;exact⟨none,0,rfl,aD _,.inl trivial⟩
 ·cases h
  simp only[rel,dX,G.rows]at d⊢;obtain⟨base,cap,rfl,_⟩:=d;exact⟨base,cap,rfl,eC _,.inl trivial⟩
 ·split at h
  ·rename_i g
   cases h;rw[Kd.iz g];exact d
  ·cases h
 ·split at h
  ·rename_i gs k
   split at h
   ·rename_i hw
    cases h;rw[iH,oY k];subst hw;exact d
   ·cases h
  ·cases h
 ·cases h
theorem Ke{ks:List Kd}{a:AV}{r:List G}(h:Cy ks a=some r):a=.agg (aJ ks r):=by
 unfold Cy at h;split at h
 ·rw[jQ h]
 ·cases h
end Go.AL

namespace Go.AL
open Go
variable [Dr]
structure bP where
 ids:List Nat
 sh:List Nat
 base:Nat
def bP.at(e:bP)(j:Nat):Nat:=match e.ids[j]? with
 |some i=>i
 |none=>e.base+(j-e.ids.length)
def bP.up(e:bP)(j:Nat):Nat:=e.sh.getD j 0
mutual
def AV.cq(e:bP):AV→AV
 |.agg cs=>.agg (AV.jr e cs)
 |.tuple cs=>.tuple (AV.jr e cs)
 |.clo f cs=>.clo f (AV.jr e cs)
 |.ptr id af k row col=>.ptr (e.at id) (af+e.up id) k row col
 |.vec k id af off n=>.vec k (e.at id) (af+e.up id) off n
 |.map id=>.map (e.at id)
 |.sub ..=>.undef
 |a=>a
def AV.jr(e:bP):List AV→List AV
 | []=>[]
 |a::as=>a.cq e::AV.jr e as
end
def ab.cq(e:bP)(j:Nat):ab→ab
 |.box cells=>.box (AV.jr e cells)
 |.vec k v rows=>.vec k (v+e.up j) rows
 |o=>o
theorem Kf(e:bP):∀(as:List AV),(AV.jr e as).length=as.length
 | []=>rfl
 |_::as=>by simp[AV.jr,Kf e as]
mutual
def AV.bK:AV→Bool
 |.agg cs | .tuple cs | .clo _ cs=>AV.cA cs
 |.list .. | .listF .. | .cptr _=>false
 |_=>true
def AV.cA:List AV→Bool
 | []=>true
 |a::as=>a.bK&&AV.cA as
end
structure pg (S:Bool) (e:bP) (E E':Env):Prop where
 ok:S=false→∀ b,E.ir b→E'.ir b∧E'.w.heap[b]? = E.w.heap[b]?
 past:∀ j af,E.past j af→E'.past (e.at j) (af+e.up j)
 live:∀ j af,E.past j af→E'.live (e.at j) (af+e.up j)→E.live j af∧E'.loc[e.at j]? = E.loc[j]?
theorem pg.bI{e:bP}{E E':Env}(h:pg false e E E'):E.bI E':=⟨h.ok rfl⟩
mutual
theorem Cz{S:Bool}{e:bP}{E E':Env}(h:pg S e E E'):∀(a:AV) {c:Value},(S=true→a.bK=true)→rel E a c→rel E' (a.cq e) c
 |.undef,_,_,_=>by simp[AV.cq,rel]
 |.lit v,c,_,d=>by simpa only[AV.cq,rel]using d
 |.nils,c,_,d=>by simpa only[AV.cq,rel]using d
 | .list k rows,c,q,d=>by
  cases S with
  |true=>exact absurd (q rfl) (by simp[AV.bK])
  |false=>exact dK h.bI (.list k rows) rfl d
 | .listF ks rows,c,q,d=>by
  cases S with
  |true=>exact absurd (q rfl) (by simp[AV.bK])
  |false=>exact dK h.bI (.listF ks rows) rfl d
 | .cptr cells,c,q,d=>by
  cases S with
  |true=>exact absurd (q rfl) (by simp[AV.bK])
  |false=>exact dK h.bI (.cptr cells) rfl d
 |.ifc,c,_,d=>by simpa only[AV.cq,rel]using d
 |.emptyS n,c,_,d=>by simpa only[AV.cq,rel]using d
 |.sub ..,c,_,_=>by simp only[AV.cq,rel]
 | .agg cells,c,q,d=>by
  simp only[rel]at d;simp only[AV.cq,rel];obtain⟨cs,y,h1,g⟩:=d;exact⟨cs,y,h1,xU h cells (fun e=>by simpa only[AV.bK]using q e) g⟩
 | .tuple cells,c,q,d=>by
  simp only[rel]at d;simp only[AV.cq,rel];obtain⟨cs,y,g⟩:=d;exact⟨cs,y,xU h cells (fun e=>by simpa only[AV.bK]using q e) g⟩
 | .clo f cells,c,q,d=>by
  simp only[rel]at d;simp only[AV.cq,rel];obtain⟨cs,y,g⟩:=d;exact⟨cs,y,xU h cells (fun e=>by simpa only[AV.bK]using q e) g⟩
 | .ptr id af k row col,c,_,d=>by
  simp only[rel]at d;simp only[AV.cq,rel];obtain⟨h1,g,B⟩:=d;refine⟨h1,h.past _ _ g,fun u=>?_⟩;obtain⟨g1,g2⟩:=h.live _ _ g u;rw[g2];exact B g1
 | .vec k id af off n,c,_,d=>by
  simp only[rel]at d;simp only[AV.cq,rel];obtain⟨h1,g,B⟩:=d;refine⟨h1,h.past _ _ g,fun u=>?_⟩;obtain⟨g1,g2⟩:=h.live _ _ g u;rw[g2];exact B g1
 | .map id,c,_,d=>by
  simp only[rel]at d;simp only[AV.cq,rel];obtain⟨h1,g,B⟩:=d;have M:=h.past _ _ g;refine⟨h1,?_,fun u=>?_⟩
  ·obtain ⟨o, I, J⟩ := M
   exact⟨o,I,J.1,fun v U=>eC _⟩
  ·have hu:e.up id=0:=by
    obtain⟨o,I,J⟩:=M;obtain⟨o2,N,O⟩:=u;rw[I]at N;cases N;have:=J.2 0 O;omega
   obtain⟨g1,g2⟩:=h.live _ _ g (by rw[hu]; exact u);rw[g2];exact B g1
theorem xU{S:Bool}{e:bP}{E E':Env}(h:pg S e E E'):∀(as:List AV) {vs:List Value},(S=true→AV.cA as=true)→ah E as vs→ah E' (AV.jr e as) vs
 | [],[],_,_=>by simp[AV.jr,ah]
 | [],_::_,_,d=>by simp[ah]at d
 |_::_,[],_,d=>by simp[ah]at d
 | a::as,v::vs,g,d=>by
  simp only[AV.cA,az]at g;simp only[ah]at d;simp only[AV.jr,ah];exact⟨Cz h a (fun e=>(g e).1) d.1,xU h as (fun e=>(g e).2) d.2⟩
end
structure KeepIn (e:bP) (E E':Env):Prop where
 ok:∀ b,E.ir b→E'.ir b∧E'.w.heap[b]? = E.w.heap[b]?
 w:E'.w=E.w
 loc:∀ j,j<e.ids.length→E'.loc[j]? = E.loc[e.at j]?
 iQ:∀(j:Nat) o l,E'.H[j]? = some o→o.label=some l→E'.X.r l=E.X.r l
theorem KeepIn.bI{e:bP}{E E':Env}(h:KeepIn e E E'):E.bI E':=⟨h.ok⟩
structure xV (e:bP) (nA:List Nat) (E E':Env):Prop extends KeepIn e E E' where
 Wb:∀ i,i∈nA→∀ b n,E.loc[i]? = some (some (b,n))→E'.ir b
def eo{α:Type}:List α→List Nat→List α→List α
 |l,i::is,x::xs=>eo (l.set i x) is xs
 |l,_,_=>l
theorem nB{α:Type}:∀(is:List Nat) (l xs:List α),(eo l is xs).length=l.length
 | [],_,_=>by simp[eo]
 |_::_,_,[]=>by simp[eo]
 |i::is,l,x::xs=>by simp[eo,nB is]
theorem xW{α:Type}:∀(is:List Nat) (l xs:List α) (n:Nat),n∉is→(eo l is xs)[n]? = l[n]?
 | [],_,_,_,_=>by simp[eo]
 |_::_,_,[],_,_=>by simp[eo]
 | i::is,l,x::xs,n,h=>by
  simp only[bY,not_or]at h;simp only[eo];rw[xW is _ xs n h.2,aT (Ne.symm h.1)]
theorem Kg{α:Type}:∀(is:List Nat) (l xs:List α) (j i:Nat) (x:α),is.Nodup→is[j]? = some i→xs[j]? = some x→i<l.length→(eo l is xs)[i]? = some x
 | [],_,_,_,_,_,_,h,_,_=>by simp at h
 |_::_,_,[],_,_,_,_,_,h,_=>by simp at h
 | k::is,l,y::xs,0,i,x,g,h1,d,q=>by
  simp at h1 d;subst h1; subst d;simp only[eo];have:k∉is:=(lW.1 g).1;rw[xW is _ xs k this,List.getElem?_set_self q]
 | k::is,l,y::xs,j+1,i,x,g,h1,d,q=>by
  simp only[eo];exact Kg is _ xs j i x (lW.1 g).2 (by simpa using h1) (by simpa using d) (by simpa using q)
def ab.xX(e:bP)(j:Nat):ab→Bool
 |.dead=>true
 |.vec _ _ _=>true
 |_=>ad (e.up j) 0
def jS(e:bP):Nat→List ab→List ab
 |_,[]=>[]
 |j,o::os=>o.cq e j::jS e (j+1) os
def jT(e:bP):Nat→List ab→Bool
 |_,[]=>true
 |j,o::os=>o.xX e j&&jT e (j+1) os
theorem CA(e:bP):∀(j:Nat) (os:List ab),(jS e j os).length=os.length
 |_,[]=>rfl
 |j,_::os=>by simp[jS,CA e (j+1) os]
theorem Kh(e:bP):∀(j:Nat) (os:List ab) (i:Nat),(jS e j os)[i]? = (os[i]?).map (ab.cq e (j+i))
 |_,[],i=>by simp[jS]
 |j,o::os,0=>by simp[jS]
 | j,o::os,i+1=>by
  simp only[jS,List.getElem?_cons_succ,Kh e (j+1) os i];rw[show j+1+i=j+(i+1) from by omega]
theorem Ki{e:bP}:∀{j:Nat} {os:List ab} {i:Nat} {o:ab},jT e j os=true→os[i]? = some o→o.xX e (j+i)=true
 |_,[],i,_,_,h=>by simp at h
 | j,_::os,0,o,h,hi=>by
  simp only[jT,az]at h;simp at hi;subst hi;exact h.1
 | j,_::os,i+1,o,h,hi=>by
  simp only[jT,az]at h;have:=Ki h.2 (by simpa using hi)
  rwa [show j+1+i=j+(i+1) from by omega]at this
theorem ur{e:bP}{j:Nat}{o:ab}(h:o.xX e j=true)(v:Nat):(o.cq e j).aG = some v↔∃ u,o.aG = some u∧v=u+e.up j:=by
 cases o with
 |dead=>simp[ab.cq,ab.aG]
 |dP=>simp[ab.cq,ab.aG]
 |vec k u rows=>simp[ab.cq,ab.aG,eq_comm]
 | box cells =>
  have:=bu h;simp[ab.cq,ab.aG,this,eq_comm]
 | map es cl =>
  have:=bu h;simp[ab.cq,ab.aG,this,eq_comm]
 | iter s p =>
  have:=bu h;simp[ab.cq,ab.aG,this,eq_comm]
 | eF l T B s =>
  have:=bu h;simp[ab.cq,ab.aG,this,eq_comm]
 | aI l k es cl =>
  have:=bu h;simp[ab.cq,ab.aG,this,eq_comm]
 | mm l es ms cl =>
  have:=bu h;simp[ab.cq,ab.aG,this,eq_comm]
theorem Kj(e:bP)(j:Nat)(o:ab):(o.cq e j).born=o.born:=by cases o<;>rfl
theorem Kk(e:bP)(j:Nat)(o:ab):(o.cq e j).label=o.label:=by cases o<;>rfl
theorem Wc(e:bP)(j:Nat)(o:ab):(o.cq e j).db=o.db:=by cases o<;>rfl
def ab.bK:ab→Bool
 |.box cells=>AV.cA cells
 |.vec _ _ rows=>rows.all fun r=>AV.cA r
 |.map es _=>es.all fun x=>x.1.bK&&x.2.1.bK
 | .aI _ _ es _=>es.all fun x=>x.1.bK&&(match x.2.1 with
  |some rows=>rows.all fun r=>AV.cA r
  |none=>true)
 |.mm _ es ms _=>(es.all fun x=>x.1.bK)&&ms.all fun m=>m.1.all fun x=>x.1.bK&&x.2.1.bK
 |_=>true
theorem Kl{S:Bool}{e:bP}{E E':Env}(h:pg S e E E'){b:Nat}(hb:E'.w.heap[b]? = E.w.heap[b]?):∀(as:List AV) {o:Nat},(S=true→AV.cA as=true)→cu E as b o→cu E' (AV.jr e as) b o
 | [],_,_,_=>by simp[AV.jr,cu]
 | a::as,o,d,g=>by
  simp only[AV.cA,az]at d;simp only[cu]at g;simp only[AV.jr,cu];obtain⟨⟨v,h1,k,q⟩,u⟩:=g;exact⟨⟨v,by rw[World.qh hb]; exact h1,k,Cz h a (fun e=>(d e).1) q⟩,Kl h hb as (fun e=>(d e).2) u⟩
mutual
theorem xY{E E':Env}:∀(a:AV) {c:Value},a.closed=true→a.bK=true→rel E a c→rel E' a c
 |.undef,_,_,_,_=>by simp[rel]
 |.lit v,c,_,_,d=>by simpa only[rel]using d
 |.nils,c,_,_,d=>by simpa only[rel]using d
 |.ifc,c,_,_,d=>by simpa only[rel]using d
 |.emptyS n,c,_,_,d=>by simpa only[rel]using d
 |.list ..,_,_,h,_ | .listF ..,_,_,h,_ | .cptr _,_,_,h,_=>by simp[AV.bK]at h
 |.ptr ..,_,h,_,_ | .vec ..,_,h,_,_ | .map _,_,h,_,_=>by simp[AV.closed]at h
 | .agg cells,c,g,k,d=>by
  simp only[rel]at d⊢;obtain⟨cs,e,h1,q⟩:=d;exact⟨cs,e,h1,xZ cells (by simpa only[AV.closed]using g) (by simpa only[AV.bK]using k) q⟩
 | .tuple cells,c,g,k,d=>by
  simp only[rel]at d⊢;obtain⟨cs,e,q⟩:=d;exact⟨cs,e,xZ cells (by simpa only[AV.closed]using g) (by simpa only[AV.bK]using k) q⟩
 | .clo f cells,c,g,k,d=>by
  simp only[rel]at d⊢;obtain⟨cs,e,q⟩:=d;exact⟨cs,e,xZ cells (by simpa only[AV.closed]using g) (by simpa only[AV.bK]using k) q⟩
theorem xZ{E E':Env}:∀(as:List AV) {vs:List Value},AV.bq as=true→AV.cA as=true→ah E as vs→ah E' as vs
 | [],[],_,_,_=>by simp[ah]
 | [],_::_,_,_,d=>by simp[ah]at d
 |_::_,[],_,_,d=>by simp[ah]at d
 | a::as,v::vs,g,h,d=>by
  simp only[AV.bq,AV.cA,az]at g h;simp only[ah]at d⊢;exact⟨xY a g.1 h.1 d.1,xZ as g.2 h.2 d.2⟩
end
theorem Km{E E':Env}{b:Nat}(hb:E'.w.heap[b]? = E.w.heap[b]?):∀(as:List AV) {o:Nat},AV.bq as=true→AV.cA as=true→cu E as b o→cu E' as b o
 | [],_,_,_,_=>by simp[cu]
 | a::as,o,d,g,h=>by
  simp only[AV.bq,AV.cA,az]at d g;simp only[cu]at h⊢;obtain⟨⟨v,h1,k,q⟩,u⟩:=h;exact⟨⟨v,by rw[World.qh hb]; exact h1,k,xY a d.1 g.1 q⟩,Km hb as d.2 g.2 u⟩
theorem CB{E E':Env}{b k:Nat}(hb:E'.w.heap[b]? = E.w.heap[b]?):∀(rs:List (List AV)) {o:Nat},eZ rs→(rs.all fun r=>AV.cA r)=true→cB E k rs b o→cB E' k rs b o
 | [],_,_,_,_=>by simp[cB]
 | r::rs,o,h,g,d=>by
  simp only[lU,az]at g;simp only[cB]at d⊢;exact⟨d.1,Km hb r (h r cY) g.1 d.2.1,CB hb rs (fun x q=>h x (di _ q)) g.2 d.2.2⟩
theorem uu{E E':Env}:∀{es:List (AV × AV × Nat)} {ms:List MapEntry},(es.all fun x=>x.1.bK&&x.2.1.bK)=true→bD E es ms→bD E' es ms
 | [],[],_,_=>by simp[bD]
 | (k,v,n)::es,e::ms,g,d=>by
  simp only[lU,az]at g;simp only[bD]at d⊢;obtain⟨h1,u,y,h,q,B⟩:=d;exact⟨xY k h g.1.1 h1,xY v q g.1.2 u,y,h,q,uu g.2 B⟩
 | [],_::_,_,d=>by simp[bD]at d
 |_::_,[],_,d=>by simp[bD]at d
theorem iA{E E':Env}(h:E.bI E'):∀{es:List (AV × AV × Nat)} {ms:List MapEntry},bD E es ms→bD E' es ms
 | [],[],_=>by simp[bD]
 | (k,v,n)::es,e::ms,d=>by
  simp only[bD]at d⊢;obtain⟨h1,u,y,g,q,B⟩:=d;exact⟨dK h k g h1,dK h v q u,y,g,q,iA h B⟩
 | [],_::_,d=>by simp[bD]at d
 |_::_,[],d=>by simp[bD]at d
theorem Wd{S:Bool}{e:bP}{E E':Env}(h:pg S e E E'){j:Nat}{o:ab}(U:S=true→o.bK=true)(J:E'.loc[e.at j]? = E.loc[j]?) (hb:∀ b n,E.loc[j]? = some (some (b,n))→E'.w.heap[b]? = E.w.heap[b]?)
  (W:∀ l,o.label=some l→E'.X.r l=E.X.r l∧∀(h g m:Nat),(E.X.r l)[h]? = some (some (some (g,m)))→E'.w.heap[g]? = E.w.heap[g]?)
  (ho:aO E j o):aO E' (e.at j) (o.cq e j):=by
 cases o with
 |dead=>simp only[ab.cq,aO]at *; rw[J]; exact ho
 |dP=>simp only[ab.cq,aO]at *; rw[J]; exact ho
 | box cells =>
  simp only[ab.cq,aO]at *;obtain⟨b,n,h1,d,u⟩:=ho;exact⟨b,n,by rw[J,h1],by rw[Kf]; exact qj (hb b n h1) d,Kl h (hb b n h1) cells (fun e=>by simpa only[ab.bK]using U e) u⟩
 | vec k af rows =>
  simp only[ab.cq,aO]at *;rcases ho with⟨h1,d⟩|⟨b,m,h1,d,u,M,I⟩
  ·exact .inl ⟨by rw[J,h1],d⟩
  ·refine .inr ⟨b, m, by rw [J, h1], qj (hb b m h1) d, u, M, ?_⟩
   cases S with
   |true=>exact CB (hb b m h1) rows M (by simpa only[ab.bK]using U rfl) I
   |false=>exact km h.bI rows M (hb b m h1) I
 | map es clock =>
  simp only[ab.cq,aO]at *;obtain⟨b,n,ms,h1,d,u⟩:=ho;refine⟨b,n,ms,by rw[J,h1],by rw[hb b n h1,d],?_⟩;cases S with
  |true=>exact uu (by simpa only[ab.bK]using U rfl) u
  |false=>exact iA h.bI u
 | iter s pos =>
  simp only[ab.cq,aO]at *;obtain⟨b,n,h1,d⟩:=ho;exact⟨b,n,by rw[J,h1],by rw[hb b n h1,d]⟩
 | eF l T B s =>
  simp only[ab.cq,aO]at *;obtain⟨b,n,p,v,k,q,h1,d,u,M,I,h6⟩:=ho;obtain⟨g1,g2⟩:=W l rfl;exact⟨b,n,p,v,k,q,by rw[J,h1],by rw[hb b n h1,d],u,by rw[g1,M],by rw[g1]; exact I,AU (fun g m e=>g2 k g m (by rw[M,e])) h6⟩
 | aI l k es clock =>
  simp only[ab.cq,aO]at *;obtain⟨b,n,ms,h1,d,u,M⟩:=ho;obtain⟨g1,g2⟩:=W l rfl;have O:S=true→∀ x∈es,x.1.bK=true∧∀ rows,x.2.1=some rows→(rows.all fun r=>AV.cA r)=true:=fun e x N=>by
   have I:=cQ.1 (by simpa only[ab.bK]using U e) x N;simp only[az]at I;exact⟨I.1,fun rows V=>by rw[V]at I; exact I.2⟩
  refine⟨b,n,ms,by rw[J,h1],by rw[hb b n h1,d],?_,ta (fun h g m hk=>⟨by rw[g1]; exact hk,g2 h g m hk⟩) (fun i x rows hi N b hb2 hc V=>?_) M⟩
  ·cases S with
   | true =>
    refine uu (cQ.2 fun x N=>?_) u;obtain⟨y,hy,rfl⟩:=dp.1 N;simp[(O rfl y hy).1,AV.bK]
   |false=>exact iA h.bI u
  ·cases S with
   |true=>exact CB hb2 rows hc ((O rfl x (eX hi)).2 rows N) V
   |false=>exact km h.bI rows hc hb2 V
 | mm l es ms clock =>
  simp only[ab.cq,aO]at *;obtain⟨b,n,mes,h1,d,u,M⟩:=ho;obtain⟨g1,g2⟩:=W l rfl;have O:S=true→(es.all fun x=>x.1.bK)=true∧∀ m∈ms,(m.1.all fun x=>x.1.bK&&x.2.1.bK)=true:=fun e=>by
   have I:=U e;simp only[ab.bK,az]at I;exact⟨I.1,cQ.1 I.2⟩
  refine⟨b,n,mes,by rw[J,h1],by rw[hb b n h1,d],?_,AY g1 g2 (fun m hm q hq=>?_) M⟩
  ·cases S with
   | true =>
    refine uu (cQ.2 fun x N=>?_) u;obtain⟨y,hy,rfl⟩:=dp.1 N;simp[cQ.1 (O rfl).1 y hy,AV.bK]
   |false=>exact iA h.bI u
  ·cases S with
   |true=>exact uu ((O rfl).2 m hm) hq
   |false=>exact iA h.bI hq
def nC(e:bP)(H H1:List ab):List ab:=eo H e.ids (jS e 0 H1)++(jS e 0 H1).drop e.ids.length
theorem gz{e:bP}{j:Nat}(h:j<e.ids.length):e.ids[j]? = some (e.at j):=by
 simp[bP.at,h]
theorem rf{e:bP}{j:Nat}(h:e.ids.length≤j):e.at j=e.base+(j-e.ids.length):=by
 simp[bP.at,List.getElem?_eq_none h]
theorem Kn{α:Type}{e:bP}{H xs:List α}(k:e.ids.Nodup)(d:∀ j,j<e.ids.length→e.at j<H.length)(hb:e.base=H.length)(q:e.ids.length≤xs.length)(j:Nat) :
  (eo H e.ids xs++xs.drop e.ids.length)[e.at j]? = xs[j]? := by
 rcases jb j e.ids.length with h|h
 ·rw [cM (by rw [nB]; exact d j h)]
  have g:j<xs.length:=dw h q;rw[Kg e.ids H xs j (e.at j) xs[j] k (gz h) (bL g) (d j h),bL g]
 ·rw [rf h, hb, il (by rw [nB]; omega), nB, p6]
  congr 1;omega
theorem CC{α:Type}{e:bP}{H xs:List α}{i:Nat}(hi:i∉e.ids)(d:i<H.length):(eo H e.ids xs++xs.drop e.ids.length)[i]? = H[i]? := by
 rw[cM (by rw[nB]; exact d),xW e.ids H xs i hi]
theorem nD{α:Type}{e:bP}{H xs:List α}{i:Nat}{x:α}(hb:e.base=H.length)(h:(eo H e.ids xs++xs.drop e.ids.length)[i]? = some x) :
  (i∉e.ids∧i<H.length∧H[i]? = some x)∨∃ j,i=e.at j:=by
 by_cases hm:i∈e.ids
 ·right
  obtain⟨j,g,rfl⟩:=ot hm;refine⟨j,?_⟩;have:=gz g;rw[bL g]at this;exact(gl this)
 ·rcases jb i H.length with d | k
  ·left
   exact⟨hm,d,by rw[CC hm d]at h; exact h⟩
  ·right
   refine⟨e.ids.length+(i-H.length),?_⟩;rw[rf (by omega)];omega
theorem frame(S:Bool)(nA:List Nat){P:Program}{f:FuncId}{args:List AV}{H0 H1 H:List ab}{v:AV}{e:bP}(hc:dC P f args H0 v H1)(hk:e.ids.length=H0.length)(hb:e.base=H.length)(hn:e.ids.Nodup)
  (hver:∀ j o,H0[j]? = some o→∃ o',H[e.at j]? = some o'∧o.born=true∧∀ v,o'.aG = some v↔∃ u,o.aG = some u∧v=u+e.up j)
  (hobj:∀ E E0,E.H=H→au E→xV e nA E E0→E0.H=H0→∀ j o,H0[j]? = some o→aO E0 j o) (hu1:jT e 0 H1=true) (hl1:H0.length≤H1.length) (hlent:S=false→nA=[])
  (hSv:S=true→v.bK=true) (hSo:S=true→(H1.all ab.bK)=true) (hdis:∀ i,i∈nA→i∉e.ids)
  (hlab:∀(j:Nat) o o',H0[j]? = some o→H[e.at j]? = some o'→o'.label=o.label) (hlab1:∀(j:Nat) o l,H1[j]? = some o→o.label=some l→∃ o0,H0[j]? = some o0∧o0.label=some l)
  (hlabm:∀(j:Nat) o o',H0[j]? = some o→H[e.at j]? = some o'→o'.db=o.db) {args0:List AV}
  (hargs0:∀ E E0 cs,E.H=H→au E→xV e nA E E0→E0.H=H0→ah E args0 cs→ah E0 args cs) :
  dC P f args0 H (v.cq e) (nC e H H1):=by
 intro E cargs M HE hargs;have hElen:E.loc.length=H.length:=by rw[HE.len,M]
 have hat:∀ j,j<e.ids.length→e.at j<H.length:=fun j B=>by
  have hj':j<H0.length:=by omega
  obtain⟨o',h1,_⟩:=hver j H0[j] (bL hj');exact aK h1
 have hmem:∀ j,j<e.ids.length→e.at j∈e.ids:=fun j B=>eX (gz B)
 let pl:Nat→Prop:=fun l=>∃(j:Nat) (o:ab),H0[j]? = some o∧o.label=some l
 have:DecidablePred pl:=fun l=>Classical.propDecidable (pl l)
 let r0:Nat→List (Option (Option (Nat × Nat))):=fun l=>if pl l then E.X.r l else []
 have r0p:∀ l,pl l→r0 l=E.X.r l:=fun l h=>if_pos h;have r0n:∀ l (h:Nat) q,(r0 l)[h]? = some q→pl l∧(E.X.r l)[h]? = some q:=fun l h q W=>by
  by_cases y:pl l
  ·rw[r0p l y]at W; exact⟨y,W⟩
  ·rw[show r0 l=[] from if_neg y]at W; simp at W
 let X0:XS:=⟨fun b=>E.X b∨(∃ i c,i∉e.ids∧i∉nA∧E.loc[i]? = some (some (b,c)))∨∃(l h m:Nat),¬ pl l∧(E.X.r l)[h]? = some (some (some (b,m))),E.X.z,r0⟩
 let loc0:List (Option (Nat × Nat)):=e.ids.map fun i=>E.loc.getD i none
 let E0:Env:={ w:=E.w,H:=H0,loc:=loc0,X:=X0 }
 have hloc0:∀ j,j<e.ids.length→loc0[j]? = E.loc[e.at j]? := fun j B=>by
  simp only[loc0,ch,gz B,eM];have:e.at j<E.loc.length:=by rw[hElen]; exact hat j B
  rw[ct,bL this];rfl
 have hlen0:loc0.length=e.ids.length:=by simp[loc0]
 have hpast:∀ j af,E.past (e.at j) af→j<e.ids.length:=by
  rintro j af ⟨o,ho,_⟩;rcases jb j e.ids.length with h|h
  ·exact h
  ·have := aK ho
   rw[M,rf h,hb]at this;omega
 have hobj0:∀ j,j<e.ids.length→∃ o o',H0[j]? = some o∧E.H[e.at j]? = some o'∧o.born=true∧∀ v,o'.aG = some v↔∃ u,o.aG = some u∧v=u+e.up j:=fun j B=>by
  have hj':j<H0.length:=by omega
  obtain⟨o',h1,d⟩:=hver j H0[j] (bL hj');exact⟨H0[j],o',bL hj',by rw[M]; exact h1,d⟩
 have hown0:∀ b,E0.own b→E.own b:=by
  rintro b (⟨id,c,hid⟩|⟨l,k,c,J⟩)
  case inr=>exact .inr ⟨l,k,c,(r0n l k _ J).2⟩
  have I:=aK hid;rw[show E0.loc=loc0 from rfl]at hid I;rw[hlen0]at I;rw[hloc0 id I]at hid;exact .inl ⟨_,c,hid⟩
 have hin:KeepIn e E E0:=by
  refine⟨fun b hbk=>⟨⟨hbk.1,fun ho=>hbk.2.1 (hown0 b ho),?_⟩,rfl⟩,rfl,hloc0,fun j o l h1 d=>r0p l ⟨j,o,h1,d⟩⟩;rintro(N|⟨i,c,_,_,hi⟩|⟨l,k,c,_,J⟩)
  ·exact hbk.2.2 N
  ·exact hbk.2.1 (.inl ⟨i,c,hi⟩)
  ·exact hbk.2.1 (.inr ⟨l,k,c,J⟩)
 have hpin:∀ j af,E.past (e.at j) (af+e.up j)→E0.past j af:=fun j af y=>by
  obtain⟨o,oo,h1,d,O,h3⟩:=hobj0 j (hpast j _ y);obtain⟨o',h4,h5⟩:=y;rw[d]at h4;cases h4;refine⟨o,h1,O,fun v hv=>?_⟩;have:=h5.2 (v+e.up j) ((h3 _).2 ⟨v,hv,rfl⟩);omega
 have hout0:∀ i b n,i∉e.ids→E.loc[i]? = some (some (b,n))→¬ E0.own b:=by
  rintro i b n hi O (⟨id,c',hid⟩|⟨l,k,c,J⟩)
  case inr=>exact HE.cR _ _ _ _ _ _ O (r0n l k _ J).2
  have I:=aK hid;rw[show E0.loc=loc0 from rfl]at hid I;rw[hlen0]at I;rw[hloc0 id I]at hid;have:=HE.inj _ _ _ _ _ O hid;exact hi (this▸hmem id I)
 have hlin:xV e nA E E0:=by
  refine⟨hin,fun i hi b n O=>⟨(HE.lt _ _ _ O).1,hout0 i b n (hdis i hi) O,?_⟩⟩;rintro(N|⟨U,c,_,d,hi'⟩|⟨l,k,c,_,J⟩)
  ·exact(HE.lt _ _ _ O).2 N
  ·have := HE.inj _ _ _ _ _ hi' O
   exact d (this▸hi)
  ·exact HE.cR _ _ _ _ _ _ O J
 have HE0:au E0:=by
  have conv:∀{j:Nat} {x:Option (Nat × Nat)},loc0[j]? = some x→j<e.ids.length∧E.loc[e.at j]? = some x:=by
   intro j x N;have I:=aK N;rw[hlen0]at I;exact⟨I,by rw[←hloc0 j I]; exact N⟩
  refine⟨by rw[show E0.loc=loc0 from rfl,hlen0,hk],?_,?_,?_,?_,HE.e9.bI hin.bI,fun l k l' k' b m n h1 d=>HE.eG l k l' k' b m n (r0n l k _ h1).2 (r0n l' k' _ d).2,fun i b m l k n hi d=>HE.cR _ b m l k n (conv hi).2 (r0n l k _ d).2,?_,?_,?_⟩
  ·intro i j b m n hi B
   obtain⟨i1,i2⟩:=conv hi
   obtain⟨j1,j2⟩:=conv B
   have:=HE.inj _ _ _ _ _ i2 j2;exact(AF i1 hn).1 (by rw[gz i1,gz j1,this])
  ·intro i b m hi
   obtain⟨i1,i2⟩:=conv hi
   refine⟨(HE.lt _ _ _ i2).1,?_⟩;rintro(N|⟨U,c,hni,_,hi'⟩|⟨l,k,c,_,J⟩)
   ·exact(HE.lt _ _ _ i2).2 N
   ·have := HE.inj _ _ _ _ _ hi' i2
    exact hni (this▸hmem i i1)
   ·exact HE.cR _ _ _ _ _ _ i2 J
  ·rintro b (N | ⟨U, c, _, _, hi'⟩ | ⟨l, k, c, _, J⟩)
   ·exact HE.X b N
   ·exact(HE.lt _ _ _ hi').1
   ·exact(HE.cz _ _ _ _ J).1
  ·intro j o ho
   have B:j<e.ids.length:=by rw[hk]; exact aK ho
   exact hobj E E0 M HE hlin rfl j o ho
  ·intro l k b m h1
   obtain⟨y,d⟩:=r0n l k _ h1;refine⟨(HE.cz _ _ _ _ d).1,?_⟩;rintro(N|⟨U,c,_,_,hi'⟩|⟨l',k',c,hnp,J⟩)
   ·exact(HE.cz _ _ _ _ d).2 N
   ·exact HE.cR _ _ _ _ _ _ hi' d
   ·exact hnp ((HE.eG _ _ _ _ _ _ _ d J).1▸y)
  ·intro i j o o' l hi B h1 d
   have i1:i<e.ids.length:=by rw[hk]; exact aK hi
   have j1:j<e.ids.length:=by rw[hk]; exact aK B
   obtain⟨_,oi,V,a2,_⟩:=hobj0 i i1;obtain⟨_,oj,b1,b2,_⟩:=hobj0 j j1;have ei:=hlab i o oi hi (by rw[←M]; exact a2);have ej:=hlab j o' oj B (by rw[←M]; exact b2);have:=HE.uniq _ _ _ _ l a2 b2 (by rw[ei,h1]) (by rw[ej,d]);exact(AF i1 hn).1 (by rw[gz i1,gz j1,this])
  ·intro l hnl k q W
   obtain⟨⟨j,o,h1,d⟩,_⟩:=r0n l k _ W;exact hnl j o h1 d
 refine(hc E0 cargs rfl HE0 (hargs0 E E0 _ M HE hlin rfl hargs)).mono ?_;rintro _ w' ⟨c,v',H',rfl,⟨rfl,rfl⟩,loc1,r1,g1,g2,g3⟩
 let r':Nat→List (Option (Option (Nat × Nat))):=fun l=>if pl l then r1 l else E.X.r l
 have rp:∀ l,pl l→r' l=r1 l:=fun l h=>if_pos h;have rn:∀ l,¬ pl l→r' l=E.X.r l:=fun l h=>if_neg h;have hl1':e.ids.length≤H'.length:=by omega
 have hlen1:loc1.length=H'.length:=g2.len;have hbL:e.base=E.loc.length:=by rw[hElen]; exact hb
 have hbE:e.base=E.H.length:=by rw[M]; exact hb
 let loc':List (Option (Nat × Nat)):=eo E.loc e.ids loc1++loc1.drop e.ids.length
 let E1:Env:={ w:=w',H:=H',loc:=loc1,X:=X0.re r1 }
 let E':Env:={ w:=w',H:=nC e H H',loc:=loc',X:=E.X.re r' }
 have Hin:∀ j,E'.H[e.at j]? = (H'[j]?).map (ab.cq e j):=fun j=>by
  have:=Kn (e:=e) (H:=H) (xs:=jS e 0 H') hn hat hb (by rw[CA]; exact hl1') j;rw[Kh,cT]at this;exact this
 have eS:∀ j,E'.loc[e.at j]? = loc1[j]? := fun j =>
  Kn (e:=e) (H:=E.loc) (xs:=loc1) hn (fun j B=>by rw[hElen]; exact hat j B) hbL (by rw[hlen1]; exact hl1') j
 have Hout:∀ i,i∉e.ids→i<H.length→E'.H[i]? = E.H[i]? := fun i hi I=>by
  rw[M];exact CC (e:=e) hi I
 have Lout:∀ i,i∉e.ids→i<H.length→E'.loc[i]? = E.loc[i]? := fun i hi I=>CC (e:=e) hi (by rw[hElen]; exact I);have hu1':∀(j:Nat) (o:ab),H'[j]? = some o→o.xX e j=true:=fun j o ho=>by
  have:=Ki hu1 ho
  rwa [cT]at this
 have own':∀ b,E'.own b→E1.own b∨(∃ i c,i∉e.ids∧E.loc[i]? = some (some (b,c)))∨∃(l h m:Nat),¬ pl l∧(E.X.r l)[h]? = some (some (some (b,m))):=by
  rintro b (⟨i,c,hi⟩|⟨l,k,c,J⟩)
  ·rcases nD (e := e) hbL hi with ⟨h1, _, h3⟩ | ⟨j, rfl⟩
   ·exact .inr (.inl ⟨i,c,h1,h3⟩)
   ·rw [eS j] at hi
    exact .inl (.inl ⟨j,c,hi⟩)
  ·have J : (r' l)[k]? = some (some (some (b, c))) := J
   by_cases y:pl l
   ·rw [rp l y] at J
    exact .inl (.inr ⟨l,k,c,J⟩)
   ·rw [rn l y] at J
    exact .inr (.inr ⟨l,k,c,y,J⟩)
 have hout:pg S e E1 E':=by
  refine⟨fun hS b hbk=>⟨⟨hbk.1,fun ho=>?_,fun N=>hbk.2.2 (Or.inl N)⟩,rfl⟩,fun j af y=>?_,fun j af y hl=>?_⟩
  ·rcases own' b ho with h | ⟨i, c, h1, d⟩ | h
   ·exact hbk.2.1 h
   ·exact hbk.2.2 (Or.inr (.inl ⟨i,c,h1,by rw[hlent hS]; exact List.not_mem_nil,d⟩))
   ·exact hbk.2.2 (Or.inr (.inr h))
  ·obtain ⟨o, h1, d⟩ := y
   refine⟨o.cq e j,by rw[Hin j,show H'[j]? = some o from h1]; rfl,by rw[Kj]; exact d.1,fun v hv=>?_⟩;obtain⟨u,q1,rfl⟩:=(ur (hu1' j o h1) v).1 hv;have:=d.2 u q1;omega
  ·obtain ⟨o', h1, d⟩ := hl
   rw[Hin j]at h1;obtain⟨o,h3,rfl⟩:=dV.1 h1;obtain⟨u,q1,q2⟩:=(ur (hu1' j o h3) _).1 d;have:u=af:=by omega
   subst this;exact⟨⟨o,h3,q1⟩,eS j⟩
 have hle:E.le E':=by
  refine⟨fun i af y=>?_,g3.size,fun b I ho=>g3.same b I (fun h=>ho (hown0 b h)),fun b I ho h'=>?_,fun i af y hl=>?_,⟨rfl,rfl⟩,fun l k J=>?_,g3.env,fun i l o h1 d hv=>?_⟩
  rotate_right
  ·by_cases hi : i ∈ e.ids
   ·obtain ⟨j, B, rfl⟩ := ot hi
    have hat':e.ids[j]=e.at j:=by
     have:=gz B;rw[bL B]at this;exact gl this
    rw[hat']at h1 hv⊢;obtain⟨o0,oo,k1,k2,O,k3⟩:=hobj0 j B;have em:o.db=o0.db:=hlabm j o0 o k1 (by rw[←M]; exact h1);have hl0:o0.label=some l:=ab.kh (by rw[←em]; exact d);have y:pl l:=⟨j,o0,k1,hl0⟩
    obtain⟨o',w1,w2⟩:=hv;rw[Hin j]at w1;obtain⟨o1,r3,rfl⟩:=dV.1 w1;obtain⟨u,q1,q2⟩:=(ur (hu1' j o1 r3) _).1 w2;have hu:u=0:=by omega
    subst hu;obtain⟨⟨t,ht⟩,o2,s1,s2⟩:=g3.grow j l o0 k1 (by rw[←em]; exact d) ⟨o1,r3,q1⟩;have ht':r1 l=E.X.r l++t:=by
     rw[←r0p l y];exact ht
    refine⟨⟨t,by rw[show E'.X.r l=r' l from rfl,rp l y]; exact ht'⟩,o2.cq e j,?_,by rw[Wc]; exact s2⟩;rw[Hin j,show H'[j]? = some o2 from s1];rfl
   ·have I := aK h1
    rw[M]at I;have hnp:¬ pl l:=by
     rintro⟨j,o0,V,a2⟩;have j1:j<e.ids.length:=by rw[hk]; exact aK V
     obtain⟨_,oj,b1,b2,_⟩:=hobj0 j j1;have h3:=HE.uniq _ _ _ _ l h1 b2 (ab.kh d) (by rw[hlab j o0 oj V (by rw[←M]; exact b2),a2]);exact hi (h3▸hmem j j1)
    exact⟨⟨[],by rw[List.append_nil,show E'.X.r l=r' l from rfl,rn l hnp]⟩,o,by rw[Hout i hi I]; exact h1,d⟩
  ·by_cases hi : i ∈ e.ids
   ·obtain ⟨j, B, rfl⟩ := ot hi
    have hat':e.ids[j]=e.at j:=by
     have:=gz B;rw[bL B]at this;exact gl this
    rw[hat']at y⊢;obtain⟨o0,oo,h1,d,O,h3⟩:=hobj0 j B;obtain⟨o,h4,h5⟩:=y;rw[d]at h4;cases h4;have hj1:j<H'.length:=by omega
    have hbn':H'[j].born=true:=by
     have p0:E0.past j 0:=⟨o0,h1,O,fun v _=>eC v⟩
     obtain⟨o2,r1,r2⟩:=g3.past j _ p0;rw[show E1.H=H' from rfl,bL hj1]at r1;cases r1;exact r2.1
    refine⟨H'[j].cq e j,by rw[Hin j,bL hj1]; rfl,by rw[Kj]; exact hbn',fun v hv=>?_⟩;obtain⟨u,q1,rfl⟩:=(ur (hu1' j _ (bL hj1)) v).1 hv;cases hz:o0.aG with
    | none =>
     have p0:E0.past j (u+1):=⟨o0,h1,O,fun v hv=>by rw[hz]at hv; cases hv⟩
     obtain⟨o2,r1,r2⟩:=g3.past j _ p0;rw[show E1.H=H' from rfl,bL hj1]at r1;cases r1;have:=r2.2 u q1;omega
    | some u0 =>
     have p0:E0.past j u0:=⟨o0,h1,O,fun v hv=>by rw[hz]at hv; cases hv; exact aD _⟩
     obtain⟨o2,r1,r2⟩:=g3.past j _ p0;rw[show E1.H=H' from rfl,bL hj1]at r1;cases r1;have:=r2.2 u q1;have:=h5.2 (u0+e.up j) ((h3 _).2 ⟨u0,hz,rfl⟩);omega
   ·obtain ⟨o, h1, d⟩ := y
    have I:=aK h1;rw[M]at I;exact⟨o,by rw[Hout i hi I]; exact h1,d⟩
  ·rcases own' b h' with h | ⟨i, c, _, d⟩ | ⟨l, k, c, _, d⟩
   ·exact g3.own b I (fun h=>ho (hown0 b h)) h
   ·exact ho (.inl ⟨i,c,d⟩)
   ·exact ho (.inr ⟨l,k,c,d⟩)
  ·have I:i<H.length:=by
    obtain⟨o,h1,_⟩:=y;have:=aK h1
    rwa [M]at this
   by_cases hi:i∈e.ids
   ·obtain ⟨j, B, rfl⟩ := ot hi
    have hat':e.ids[j]=e.at j:=by
     have:=gz B;rw[bL B]at this;exact gl this
    rw[hat']at y hl⊢;obtain⟨o',r1,r2⟩:=hl;rw[Hin j]at r1;obtain⟨o1,r3,rfl⟩:=dV.1 r1;obtain⟨u,q1,rfl⟩:=(ur (hu1' j o1 r3) _).1 r2;have p0:=hpin j u y;obtain⟨⟨o0,s1,s2⟩,s3⟩:=g3.live j u p0 ⟨o1,r3,q1⟩;obtain⟨o0',oo,h1,d,O,h3⟩:=hobj0 j B;rw[show E0.H=H0 from rfl,h1]at s1;cases s1;refine⟨⟨_,d,(h3 _).2 ⟨u,s2,rfl⟩⟩,?_⟩;rw[eS j,←hloc0 j B];exact s3
   ·obtain ⟨o', r1, r2⟩ := hl
    rw[Hout i hi I]at r1;exact⟨⟨o',r1,r2⟩,Lout i hi I⟩
  ·by_cases y : pl l
   ·have := g3.rl l k (by show k < (r0 l).length; rw [r0p l y]; exact J)
    rw[show E0.X.r l=r0 l from rfl,r0p l y]at this;rw[show E'.X.r l=r' l from rfl,rp l y];exact this
   ·rw [show E'.X.r l = r' l from rfl, rn l y]
    exact⟨J,fun _ W=>W⟩
 have lab':∀(j:Nat) o l,H'[j]? = some o→o.label=some l→pl l:=fun j o l h1 d=>by
  obtain⟨o0,V,a2⟩:=hlab1 j o l h1 d;exact⟨j,o0,V,a2⟩
 have labIn:∀(j:Nat) o l,H0[j]? = some o→o.label=some l→∃ o',E.H[e.at j]? = some o'∧o'.label=some l∧e.at j∈e.ids:=fun j o l h1 d=>by
  have j1:j<e.ids.length:=by rw[hk]; exact aK h1
  obtain⟨_,oj,b1,b2,_⟩:=hobj0 j j1;exact⟨oj,b2,by rw[hlab j o oj h1 (by rw[←M]; exact b2),d],hmem j j1⟩
 have labOut:∀(i:Nat) o l,i∉e.ids→E.H[i]? = some o→o.label=some l→¬ pl l:=fun i o l hi h1 d ⟨j,o0,V,a2⟩=>by
  obtain⟨o',b1,b2,b3⟩:=labIn j o0 l V a2;have:=HE.uniq _ _ _ _ l h1 b1 d b2;exact hi (this▸b3)
 have satOut:∀(l k b m:Nat),¬ pl l→(E.X.r l)[k]? = some (some (some (b,m)))→¬ E0.own b:=by
  rintro l k b m y h1 (⟨id,c',hid⟩|⟨l',k',c,J⟩)
  ·have I := aK hid
   rw[show E0.loc=loc0 from rfl]at hid I;rw[hlen0]at I;rw[hloc0 id I]at hid;exact HE.cR _ _ _ _ _ _ hid h1
  ·obtain ⟨q1, q2⟩ := r0n l' k' _ J
   exact y ((HE.eG _ _ _ _ _ _ _ h1 q2).1▸q1)
 refine⟨c,_,_,rfl,⟨rfl,rfl⟩,loc',r',Cz hout v' hSv g1,?_,hle⟩;refine⟨?_,?_,?_,fun b N=>dw (HE.X b N) g3.size,?_,HE.e9.bI hle.toC,?_,?_,?_,?_,?_⟩
 ·simp only[loc',nC,fH,nB,List.length_drop,CA,hElen,hlen1]
 ·intro i j b m n hi B
  rcases nD (e:=e) hbL hi with⟨i1,_,i3⟩|⟨U,rfl⟩<;>rcases nD (e:=e) hbL B with⟨j1,_,j3⟩|⟨j',rfl⟩
  ·exact HE.inj _ _ _ _ _ i3 j3
  ·rw [eS j'] at B
   exact(g3.own b (HE.lt _ _ _ i3).1 (hout0 i b m i1 i3) (.inl ⟨j',n,B⟩)).elim
  ·rw [eS U] at hi
   exact(g3.own b (HE.lt _ _ _ j3).1 (hout0 j b n j1 j3) (.inl ⟨U,m,hi⟩)).elim
  ·rw [eS U] at hi
   rw[eS j']at B;rw[g2.inj _ _ _ _ _ hi B]
 ·intro i b m hi
  rcases nD (e:=e) hbL hi with⟨i1,_,i3⟩|⟨U,rfl⟩
  ·exact⟨dw (HE.lt _ _ _ i3).1 g3.size,(HE.lt _ _ _ i3).2⟩
  ·rw [eS U] at hi
   exact⟨(g2.lt _ _ _ hi).1,fun N=>(g2.lt _ _ _ hi).2 (Or.inl N)⟩
 ·intro i o hi
  have hi':=hi;unfold nC at hi';rcases nD (e:=e) hb hi' with⟨i1,i2,i3⟩|⟨j,rfl⟩
  ·refine jG (E := E) (fun a _ hr => bT hle a hr) (Lout i i1 i2) (fun b n O => ?_) (fun l hl => ?_) (HE.obj i o (by rw [M]; exact i3))
   ·exact g3.same b (HE.lt _ _ _ O).1 (hout0 i b n i1 O)
   ·have y := labOut i o l i1 (by rw [M]; exact i3) hl
    exact⟨rn l y,fun k g m h1=>g3.same g (HE.cz _ _ _ _ h1).1 (satOut l k g m y h1)⟩
  ·have h1 := Hin j
   rw[show E'.H=nC e H H' from rfl,hi]at h1;obtain⟨o1,d,rfl⟩:=dV.1 h1.symm;exact Wd hout (fun e=>cQ.1 (hSo e) o1 (eX d)) (eS j) (fun _ _ _=>rfl) (fun l hl=>⟨rp l (lab' j o1 l d hl),fun _ _ _ _=>rfl⟩) (g2.obj j o1 d)
 ·intro l k l' k' b m n h1 d
  have h1:(r' l)[k]? = some (some (some (b,m))):=h1;have d:(r' l')[k']? = some (some (some (b,n))):=d;by_cases y:pl l<;>by_cases hp':pl l'
  ·rw [rp l y] at h1
   rw[rp l' hp']at d;exact g2.eG l k l' k' b m n h1 d
  ·rw [rp l y] at h1
   rw[rn l' hp']at d;exact((g2.cz l k b m h1).2 (.inr (.inr ⟨l',k',n,hp',d⟩))).elim
  ·rw [rn l y] at h1
   rw[rp l' hp']at d;exact((g2.cz l' k' b n d).2 (.inr (.inr ⟨l,k,m,y,h1⟩))).elim
  ·rw [rn l y] at h1
   rw[rn l' hp']at d;exact HE.eG l k l' k' b m n h1 d
 ·intro i b m l k n hi h1
  have h1:(r' l)[k]? = some (some (some (b,n))):=h1;rcases nD (e:=e) hbL hi with⟨i1,_,i3⟩|⟨U,rfl⟩
  ·by_cases y : pl l
   ·rw [rp l y] at h1
    exact g3.own b (HE.lt _ _ _ i3).1 (hout0 i b m i1 i3) (.inr ⟨l,k,n,h1⟩)
   ·rw [rn l y] at h1
    exact HE.cR _ _ _ _ _ _ i3 h1
  ·rw [eS U] at hi
   by_cases y:pl l
   ·rw [rp l y] at h1
    exact g2.cR _ _ _ _ _ _ hi h1
   ·rw [rn l y] at h1
    exact(g2.lt _ _ _ hi).2 (.inr (.inr ⟨l,k,n,y,h1⟩))
 ·intro l k b m h1
  have h1:(r' l)[k]? = some (some (some (b,m))):=h1;by_cases y:pl l
  ·rw [rp l y] at h1
   exact⟨(g2.cz _ _ _ _ h1).1,fun N=>(g2.cz _ _ _ _ h1).2 (.inl N)⟩
  ·rw [rn l y] at h1
   exact⟨dw (HE.cz _ _ _ _ h1).1 g3.size,(HE.cz _ _ _ _ h1).2⟩
 ·have inn:∀ (j:Nat) o,E'.H[e.at j]? = some o→∃ o1,H'[j]? = some o1∧o.label=o1.label:=fun j o h=>by
   rw[Hin j]at h;obtain⟨o1,d,rfl⟩:=dV.1 h;exact⟨o1,d,Kk e j o1⟩
  intro i j o o' l hi B h1 d;have hi':=hi;have hj':=B;unfold nC at hi' hj';rcases nD (e:=e) hb hi' with⟨i1,i2,i3⟩|⟨U,rfl⟩<;>rcases nD (e:=e) hb hj' with⟨j1,j2,j3⟩|⟨j',rfl⟩
  ·exact HE.uniq i j o o' l (by rw[M]; exact i3) (by rw[M]; exact j3) h1 d
  ·obtain ⟨o1, V, a2⟩ := inn j' o' B
   exact(labOut i o l i1 (by rw[M]; exact i3) h1 (lab' j' o1 l V (by rw[←a2,d]))).elim
  ·obtain ⟨o1, V, a2⟩ := inn U o hi
   exact(labOut j o' l j1 (by rw[M]; exact j3) d (lab' U o1 l V (by rw[←a2,h1]))).elim
  ·obtain ⟨o1, V, a2⟩ := inn U o hi
   obtain⟨o2,b1,b2⟩:=inn j' o' B;rw[g2.uniq U j' o1 o2 l V b1 (by rw[←a2,h1]) (by rw[←b2,d])]
 ·intro l hnl k q W
  have W:(r' l)[k]? = some (some q):=W;by_cases y:pl l
  ·rw [rp l y] at W
   refine g2.fW l (fun j o h1 d=>?_) k q W;refine hnl (e.at j) (o.cq e j) ?_ (by rw[Kk,d]);rw[Hin j,show H'[j]? = some o from h1];rfl
  ·rw [rn l y] at W
   refine HE.fW l (fun i o h1 d=>?_) k q W;have I:=aK h1;rw[M]at I;by_cases hi:i∈e.ids
   ·obtain ⟨j, B, rfl⟩ := ot hi
    have hat':e.ids[j]=e.at j:=by
     have:=gz B;rw[bL B]at this;exact gl this
    rw[hat']at h1;obtain⟨o0,oo,V,a2,_⟩:=hobj0 j B;rw[h1]at a2;cases a2;exact y ⟨j,o0,V,by rw[←hlab j o0 o V (by rw[←M]; exact h1),d]⟩
   ·exact hnl i o (by rw[Hout i hi I]; exact h1) d
end Go.AL
