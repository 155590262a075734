/-
 What is proved here: owned objects of data,and what operations do to them,with what must hold so that they do it. No program in sight; no condition.
-/
import Derived.Test.YtnijefkndkgebaaGreatDoorMB
import Derived.Eval
import Derived.KernelRfl
set_option linter.all false
open Bool renaming and_eq_true→aB,false_eq_true→kK,not_eq_true'→mE,or_eq_true→vO,eq_iff_iff→mH
open ByteArray renaming empty→vA
open Decidable renaming byContradiction→zY
open Function renaming comp→GZ
open Go.Op renaming operands→eO
open Go.Utf8 renaming decode→mC
open Go.Value.slice renaming injEq→jv
open List renaming getElem?_append_left→cK,length_map→dE,mem_map→dF,getElem?_map→bZ,mem_filterMap→Gt,getElem_of_mem→n3,getElem?_eq_getElem→bI,mem_of_getElem?→eM,getElem?_append_right→ia,getElem?_set_ne→aT,all_eq_true→cO,getD_eq_getElem?_getD→ch,getElem?_drop→pG,mem_cons→bV,map_cons→dq,take_append_drop→sw,length_append→fi,mem_append→cS,replicate→bM,all_cons→lF,mem_cons_self→db,mem_cons_of_mem→df,take_of_length_le→RB,map_append→j6,findIdx?_cons→GM,nodup_cons→lI,getElem?_inj→zV,map_set→sE,headD_cons→vQ,length_nil→lK,map_nil→sF,length→G0
open Nat renaming le_refl→aG,lt_of_lt_of_le→dj,zero_le→ef,lt_or_ge→iV,zero_add→cP,sub_zero→fS,beq→ad,eq_of_beq_eq_true→bt,sub_self→mD,ble→dH,blt→fj,ble_eq→z6,blt_eq→j8,le_of_ble_eq_true→sH,mul_one→agH,lt_succ_of_lt→vR,lt_succ_self→agI,lt_irrefl→pQ
open Option renaming map_eq_some_iff→dM,isSome_none→GC,map_some→eF,map_none→vP,isSome_some→GX,map_map→GY
open Option.some renaming injEq→aZ,inj→fW
open Prod.mk renaming injEq→be
namespace Go.AL
open Go
variable [Dr]
def az:Int→Bool
 |.ofNat _=>true
 |.negSucc _=>false
def a8:Int→Int→Bool
 |.ofNat x,.ofNat y=>dH x y
 |.ofNat _,.negSucc _=>false
 |.negSucc _,.ofNat _=>true
 |.negSucc x,.negSucc y=>dH y x
def al:Int→Int→Bool
 |.ofNat x,.ofNat y=>fj x y
 |.ofNat _,.negSucc _=>false
 |.negSucc _,.ofNat _=>true
 |.negSucc x,.negSucc y=>fj y x
def aq(n:Int):Bool:=a8 (-9223372036854775808) n&&a8 n 9223372036854775807
theorem jH(n:Int):az n=decide (0≤n):=by
 cases n with
 |ofNat x=>simp[az]
 |negSucc x=>simp[az]
theorem eT(a b:Int):a8 a b=decide (a≤b):=by
 rw[mH];cases a<;>cases b<;>simp[a8,z6]<;>(try omega)
theorem dV(a b:Int):al a b=decide (a<b):=by
 rw[mH];cases a<;>cases b<;>simp[al,j8]<;>(try omega)
theorem kq{n:Int}:aq n=true ↔ -9223372036854775808≤n∧n≤9223372036854775807:=by
 simp[aq,eT]
def g0(r:List G):G:=r.headD default
def gi:List G→Nat→G
 |r,0=>r.headD default
 |r,i+1=>gi r.tail i
def G.row(g:G):List G:=g.rows.headD []
def oI:Kd→G→G→Bool
 |.int _,a,b=>a.int==b.int
 |.str,a,b=>a.str.toList==b.str.toList
 |.bool,a,b=>a.bool==b.bool
 |.list _,_,_=>false
def a_:List Kd→List G→List G→Bool
 | [],_,_=>true
 |k::ks,r,s=>oI k (r.headD default) (s.headD default)&&a_ ks r.tail s.tail
inductive Ct where
 |one (k:Kd)
 |agg (ks:List Kd)
 deriving Inhabited
def Ct.ks:Ct→List Kd
 |.one k=>[k]
 |.agg ks=>ks
def Ct.av:Ct→List G→AV
 |.one k,r=>ic k (r.headD default)
 |.agg ks,r=>.agg (aJ ks r)
theorem Ct.th(k:Ct)(r:List G):(k.av r).closed=true:=by
 cases k with
 |one k=>cases k<;>rfl
 |agg ks=>simp only[Ct.av,AV.closed,fy]
inductive ai where
 |raw (o:ab)
 |vec (ks:List Kd) (ae:Nat) (rows:List (List G))
 |map (K V:Ct) (rows:List (List G)) (clock:Nat)
 |aH (l:Nat) (K:Ct) (ks:List Kd) (rows:List (List G)) (clock:Nat)
 |mm (l:Nat) (K KI VI:Ct) (rows mem:List (List G)) (clock:Nat)
def c9(K V:Ct)(rows:List (List G)):List (AV × AV × Nat):=rows.map fun r=>(K.av (gi r 0).row,V.av (gi r 1).row,(gi r 2).int.toNat)
def jI(r:List G):List (List G):=((gi r 1).row.headD default).rows
def jb(K:Ct)(ks:List Kd)(r:List G):AV × Option (List (List AV)) × Nat:=(K.av (gi r 0).row,(bif (gi r 3).bool then some ((jI r).map (aJ ks)) else none),(gi r 2).int.toNat)
def fN(K:Ct)(ks:List Kd)(rows:List (List G)):List (AV × Option (List (List AV)) × Nat):=rows.map (jb K ks)
def oJ(r:List G):Option Nat:=bif a8 0 (gi r 1).int then some (gi r 1).int.toNat else none
def gS(K:Ct)(rows:List (List G)):List (AV × Option Nat × Nat):=rows.map fun r=>(K.av (gi r 0).row,oJ r,(gi r 2).int.toNat)
def mV(KI VI:Ct)(mem:List (List G)):List (List (AV × AV × Nat) × Nat):=mem.map fun m=>(c9 KI VI (gi m 0).rows,(gi m 1).int.toNat)
def ai.den:ai→ab
 |.raw o=>o
 |.aH l K ks rows clock=>.aH l ks.length (fN K ks rows) clock
 |.map K V rows clock=>.map (c9 K V rows) clock
 |.mm l K KI VI rows mem clock=>.mm l (gS K rows) (mV KI VI mem) clock
 |.vec ks ae rows=>.vec ks.length ae (rows.map (aJ ks))
def ao(H:List ai):List ab:=H.map ai.den
structure ar where
 fr:List AV
 H:List ai
def ar.den(s:ar):St:=⟨s.fr,ao s.H⟩
def ar.eval(s:ar)(o:Operand):AV:=St.eval ⟨s.fr,[]⟩ o
def ar.put(s:ar)(dst:Option Tmp)(v:AV)(H':List ai):ar:=⟨iG s.fr dst v,H'⟩
theorem ar.kr(s:ar):s.den.eval=s.eval:=by
 funext o
 cases o<;>rfl
theorem bk{H:List ai}{id:Nat}{o:ai}(h:H[id]? = some o):(ao H)[id]? = some o.den:=by simp[ao,h]
theorem c7(H:List ai)(id:Nat)(o:ai):ao (H.set id o)=(ao H).set id o.den:=by simp[ao,sE]
theorem gB(H:List ai)(o:ai):ao (H++[o])=ao H++[o.den]:=by simp[ao]
theorem eg(H:List ai):(ao H).length=H.length:=by simp[ao]
mutual
def Kd.same:Kd→Kd→Bool
 |.int k,.int k'=>decide (k=k')
 |.str,.str=>true
 |.bool,.bool=>true
 |.list ks,.list d=>Kd.f_ ks d
 |_,_=>false
def Kd.f_:List Kd→List Kd→Bool
 | [],[]=>true
 |k::ks,k'::d=>k.same k'&&Kd.f_ ks d
 |_,_=>false
end
mutual
theorem Kd.jd:∀{k k':Kd},k.same k'=true→k=k'
 |.int k,.int k',h=>by simp[Kd.same]at h; rw[h]
 |.str,.str,_=>rfl
 |.bool,.bool,_=>rfl
 |.list ks,.list d,h=>by simp only[Kd.same]at h; rw[Kd.ir h]
 |.int _,.str,h | .int _,.bool,h | .int _,.list _,h | .str,.int _,h | .str,.bool,h | .str,.list _,h=>by simp[Kd.same]at h
 |.bool,.int _,h | .bool,.str,h | .bool,.list _,h | .list _,.int _,h | .list _,.str,h | .list _,.bool,h=>by simp[Kd.same]at h
theorem Kd.ir:∀{k k':List Kd},Kd.f_ k k'=true→k=k'
 | [],[],_=>rfl
 |k::ks,k'::d,h=>by simp only[Kd.f_,aB]at h; rw[Kd.jd h.1,Kd.ir h.2]
 | [],_::_,h|_::_,[],h=>by simp[Kd.f_]at h
end
def Ct.same:Ct→Ct→Bool
 |.one k,.one k'=>k.same k'
 |.agg ks,.agg d=>Kd.f_ ks d
 |_,_=>false
theorem Ct.jd{K d:Ct}(h:K.same d=true):K=d:=by
 cases K<;>cases d<;>simp only[Ct.same]at h
 ·rw[Kd.jd h]
 ·cases h
 ·cases h
 ·rw[Kd.ir h]
def tk:Kd→AV→Option G
 |.int k,.lit (.int k' n)=>if k=k' then some (.i n) else none
 |.str,.lit (.string s)=>some (.s s)
 |.bool,.lit (.bool b)=>some (.t b)
 |.list ks,.listF d rows=>if Kd.f_ ks d then some (.l rows) else none
 |_,_=>none
def fF:List Kd→List AV→Option (List G)
 | [],[]=>some []
 | k::ks,a::as=>match tk k a,fF ks as with
  |some g,some gs=>some (g::gs)
  |_,_=>none
 |_,_=>none
def bx(ks:List Kd):List (List AV)→Option (List (List G))
 | []=>some []
 | r::rs=>match fF ks r,bx ks rs with
  |some g,some gs=>some (g::gs)
  |_,_=>none
theorem Bt{k:Kd}{a:AV}{g:G}(h:tk k a=some g):ic k g=a:=by
 unfold tk at h;split at h
 ·split at h
  ·rename_i e; cases h; subst e; rfl
  ·cases h
 ·cases h; rfl
 ·cases h; rfl
 ·split at h
  ·rename_i e; cases h; rw[Kd.ir e]; rfl
  ·cases h
 ·cases h
theorem jJ:∀{ks:List Kd} {as:List AV} {gs:List G},fF ks as=some gs→aJ ks gs=as
 | [],[],_,h=>by simp[fF]at h; subst h; rfl
 | k::ks,a::as,gs,h=>by
  simp only[fF]at h;split at h
  ·rename_i g q h1 d
   cases h;simp[aJ,Bt h1,jJ d]
  ·cases h
 | [],_::_,_,h|_::_,[],_,h=>by simp[fF]at h
theorem IP:∀{ks:List Kd} {as:List AV} {gs:List G},fF ks as=some gs→gs.length=ks.length∧as.length=ks.length
 | [],[],_,h=>by simp[fF]at h; subst h; exact⟨rfl,rfl⟩
 | k::ks,a::as,gs,h=>by
  simp only[fF]at h;split at h
  ·rename_i g q h1 d
   cases h;have:=IP d;simp[this.1,this.2]
  ·cases h
 | [],_::_,_,h|_::_,[],_,h=>by simp[fF]at h
theorem oK{ks:List Kd}:∀{rs:List (List AV)} {gs:List (List G)},bx ks rs=some gs→gs.map (aJ ks)=rs
 | [],_,h=>by simp[bx]at h; subst h; rfl
 | r::rs,gs,h=>by
  simp only[bx]at h;split at h
  ·rename_i g k h1 d
   cases h;simp[jJ h1,oK d]
  ·cases h
def tn:AV→Option Kd
 |.lit (.int k _)=>some (.int k)
 |.lit (.string _)=>some .str
 |.lit (.bool _)=>some .bool
 |.listF ks _=>some (.list ks)
 |_=>none
def oL:List AV→Option (List Kd)
 | []=>some []
 | a::as=>match tn a,oL as with
  |some k,some ks=>some (k::ks)
  |_,_=>none
def mW:List Kd→List G→List G
 | [],_=>[]
 |_::ks,r=>r.headD default::mW ks r.tail
theorem Bu:∀(ks:List Kd) (r:List G),(mW ks r).length=ks.length
 | [],_=>rfl
 |_::ks,r=>by simp[mW,Bu ks]
def bg(ks:List Kd)(r:List G)(col:Nat)(gs:List G):List G:=(mW ks r).take col++gs++(mW ks r).drop (col+gs.length)
theorem IQ:∀(ks:List Kd) (r:List G) (n:Nat),(aJ ks r).take n=aJ (ks.take n) r
 | [],_,n=>by simp[aJ]
 |_::_,_,0=>by simp[aJ]
 |k::ks,r,n+1=>by simp[aJ,IQ ks]
theorem IS:∀(ks:List Kd) (r:List G) (n:Nat),(aJ ks r).drop n=aJ (ks.drop n) (r.drop n)
 | [],_,n=>by simp[aJ]
 |_::_,_,0=>by simp
 |k::ks,r,n+1=>by simp[aJ,IS ks]
theorem Bv:∀(ks d:List Kd) (r r':List G),r.length=ks.length→aJ (ks++d) (r++r')=aJ ks r++aJ d r'
 | [],d,r,r',h=>by
  have:r=[]:=List.length_eq_zero_iff.1 h;subst this;simp[aJ]
 | k::ks,d,r,r',h=>by
  cases r with
  |nil=>simp at h
  |cons x r=>simp[aJ,Bv ks d r r' (by simpa using h)]
theorem Bw:∀(ks:List Kd) (r:List G),aJ ks (mW ks r)=aJ ks r
 | [],_=>rfl
 |k::ks,r=>by simp[aJ,mW,Bw ks]
theorem TZ{ks:List Kd}{r gs:List G}{cs:List AV}{col:Nat} (h:fF ((ks.drop col).take cs.length) cs=some gs) (u:col+cs.length≤ks.length) :
  aJ ks (bg ks r col gs)=putCells (aJ ks r) cs col:=by
 obtain⟨h1,v⟩:=IP h;have hlen:((ks.drop col).take cs.length).length=cs.length:=by simp; omega
 have g:gs.length=cs.length:=by omega
 have hk:ks=(ks.take col++(ks.drop col).take cs.length)++ks.drop (col+cs.length):=by
  rw[List.append_assoc,←List.drop_drop,sw,sw]
 unfold bg putCells;have d:=Bu ks r
 conv=>lhs; arg 1; rw[hk]
 rw[Bv _ _ _ _ (by simp[d,g]; omega),Bv _ _ _ _ (by simp[d]),jJ h,g];congr 1
 ·congr 1
  rw[←Bw ks r,IQ];have:∀(ks:List Kd) (r:List G) (n:Nat),ks.length≤n→aJ ks (r.take n)=aJ ks r:=by
   intro ks
   induction ks with
   |nil=>intros; rfl
   | cons k ks q =>
    intro r n d;cases n with
    |zero=>simp at d
    | succ n =>
     cases r with
     |nil=>rfl
     |cons x r=>simp[aJ,q r n (by simpa using d)]
  exact this _ _ _ (by simp; omega)
 ·conv => rhs; rw [← Bw ks r]
  rw[IS]
end Go.AL

namespace Go.AL
open Go
variable [Dr]
theorem Bx{ks:List Kd}{rows:List (List G)}{row:Nat}(h:row<rows.length):(rows.map (aJ ks))[row]? = some (aJ ks (rows.getD row [])):=by
 rw[bZ,ch,bI h];rfl
def By(P:Program)(t:TypeId)(x:AV)(H:List ai):Option (Bool × AV) :=
 match x with
 | .ptr id ae w row col=>match H[id]? with
  | some (.vec ks v rows)=>match eG P t with
   | some (n,agg)=>if ae=v∧ks.length=w then (match gx agg n ((aJ ks (rows.getD row [])).drop col) with
     |some u=>some (decide (row<rows.length),u)
     |none=>none) else none
   |none=>none
  | some (.raw (.box cells))=>match eG P t with
   | some (n,agg)=>if ae=0∧row=0 then (match gx agg n (cells.drop col) with
     |some u=>some (true,u)
     |none=>none) else none
   |none=>none
  |_=>none
 | .cptr cells=>match eG P t with
  | some (n,agg)=>match gx agg n cells with
   |some u=>some (true,u)
   |none=>none
  |none=>none
 |_=>none
theorem T0{P:Program}{t:TypeId}{x:AV}{H:List ai}{b:Bool}{u:AV}(h:By P t x H=some (b,u))(hb:b=true):gK P t x (ao H)=some u:=by
 unfold By at h;unfold gK;split at h
 ·rename_i id ae w row col
  split at h
  ·rename_i ks v rows hid
   split at h
   case h_2=>cases h
   rename_i n agg d;split at h
   case isFalse=>cases h
   rename_i k;split at h
   case h_2=>cases h
   rename_i q g;simp only[aZ,be]at h;obtain⟨h1,rfl⟩:=h;subst hb;simp only[decide_eq_true_eq]at h1;rw[d];simp only[bk hid,ai.den];rw[if_pos ⟨k.1,k.2⟩,Bx h1];exact g
  ·rename_i cells hid
   split at h
   case h_2=>cases h
   rename_i n agg d;split at h
   case isFalse=>cases h
   rename_i k;split at h
   case h_2=>cases h
   rename_i q g;cases h;rw[d];simp only[bk hid,ai.den];rw[if_pos k];exact g
  ·cases h
 ·rename_i cells
  split at h
  case h_2=>cases h
  rename_i n agg d;split at h
  case h_2=>cases h
  rename_i q g;cases h;rw[d];exact g
 ·cases h
def qw(P:Program)(t:TypeId)(x v:AV)(H:List ai):Option (Bool × List ai) :=
 match eG P t,ot v,x with
 | some (n,_),some cs,.ptr id ae w row col =>
  if cs.length=n then
   match H[id]? with
   |some (.raw (.box cells))=>if ae=0∧row=0∧col+n≤cells.length then some (true,H.set id (.raw (.box (putCells cells cs col)))) else none
   | some (.vec ks u rows) =>
    if ae=u∧ks.length=w∧col+cs.length≤ks.length then
     match fF ((ks.drop col).take cs.length) cs with
     |some gs=>some (decide (row<rows.length),H.set id (.vec ks u (rows.set row (bg ks (rows.getD row []) col gs))))
     |none=>none
    else none
   |_=>none
  else none
 |_,_,_=>none
theorem IT{P:Program}{t:TypeId}{x v:AV}{H H':List ai}{b:Bool}(h:qw P t x v H=some (b,H'))(hb:b=true):qe P t x v (ao H)=some (ao H'):=by
 unfold qw at h;unfold qe;split at h
 case h_2=>cases h
 rename_i n J cs id ae w row col y k;rw[y,k];simp only[];split at h
 case isFalse=>cases h
 rename_i B;rw[if_pos B];split at h
 ·rename_i cells hid
  split at h
  case isFalse=>cases h
  rename_i d;cases h;simp only[bk hid,ai.den];rw[if_pos d,c7];rfl
 ·rename_i ks u rows hid
  split at h
  case isFalse=>cases h
  rename_i d;obtain⟨c1,c2,I⟩:=d;split at h
  case h_2=>cases h
  rename_i gs g;simp only[aZ,be]at h;obtain⟨h1,rfl⟩:=h;subst hb;simp only[decide_eq_true_eq]at h1;simp only[bk hid,ai.den];have q:AV.bq cs=true:=by rw[←jJ g]; exact fy _ _
  rw[if_pos ⟨c1,c2,q⟩,Bx h1];simp only[pS];rw[if_pos (by omega),c7];simp only[ai.den,sE];rw[TZ g I]
 ·cases h
def tq(sz:Nat)(x:AV)(H:List ai)(want:Option (List Kd)):Option (Bool × List Kd × List (List G)) :=
 match x with
 | .nils | .lit (.slice none 0 0)=>match want with
  |some ks=>some (true,ks,[])
  |none=>none
 | .emptyS _=>match want with
  |some ks=>some (true,ks,[])
  |none=>none
 |.listF ks rows=>if ks.length=sz then some (true,ks,rows) else none
 | .list w rows=>match (match want with | some ks=>some ks | none=>oL (rows.headD [])) with
  | some ks=>match bx ks rows with
   |some gs=>if w=sz then some (true,ks,gs) else none
   |none=>none
  |none=>none
 | .vec w id ae off n=>match H[id]? with
  |some (.vec ks v rows)=>if w=sz∧ks.length=w∧v=ae∧off=0 then some (ad n rows.length,ks,rows) else none
  |_=>none
 |.lit (.string s)=>if sz=1 then some (true,[.int .u8],s.data.toList.map fun b=>[.i b.toNat]) else none
 |_=>none
theorem IU{sz:Nat}{x:AV}{H:List ai}{want:Option (List Kd)}{b:Bool}{ks:List Kd}{rows:List (List G)}(h:tq sz x H want=some (b,ks,rows))(hb:b=true) :
  kl sz x (ao H)=some (rows.map (aJ ks)):=by
 unfold tq at h;split at h
 ·split at h
  ·cases h; rfl
  ·cases h
 ·split at h
  ·cases h; rfl
  ·cases h
 ·split at h
  ·cases h; rfl
  ·cases h
 ·split at h
  ·rename_i hw; cases h; simp only[kl]; rw[if_pos hw]
  ·cases h
 ·split at h
  ·split at h
   ·rename_i gs d
    split at h
    ·rename_i hw; cases h; simp only[kl]; rw[if_pos hw,oK d]
    ·cases h
   ·cases h
  ·cases h
 ·rename_i w id ae off n
  split at h
  ·rename_i u v rows' hid
   split at h
   ·rename_i g
    obtain⟨c1,c2,k,rfl⟩:=g;simp only[aZ,be]at h;obtain⟨h1,rfl,rfl⟩:=h;subst hb;have h1:=bt h1;simp only[kl,bk hid,ai.den];rw[if_pos ⟨c1,c2,k,by simp; omega⟩];simp only[List.drop_zero];rw[RB (by simp; omega)]
   ·cases h
  ·cases h
 ·rename_i s
  split at h
  ·rename_i q
   cases h;simp only[kl];rw[if_pos q];simp[aJ,ic,G.int]
  ·cases h
 ·cases h
def Bz:SK→Bool
 |.slice _ _ _ | .str=>true
 |_=>false
theorem BA{P:Program}{t xt:TypeId}{s x:AV}{H:List ab}{e sz d:Nat}{z:List Value}{new:List (List AV)}(hk:b_ P t=.slice e sz d)(h:dS P e=some z)
  (g : Bz (b_ P xt) = true) (q : kl sz x H = some new) (u : z.length = sz ∧ new.length ≤ 1048576 ∧ d ≤ 1048576) : qc P t xt s x H =
   match s with
    |.nils | .lit (.slice none 0 0)=>some (.vec sz H.length 0 0 new.length,H++[.vec sz 0 new])
    | .vec w id ae off n=>match H[id]? with
     | some (.vec k v rows) =>
      if k=w∧w=sz∧v=ae∧off=0∧n=rows.length∧rows.length+new.length≤1048576 then
       some (.vec w id (ae+1) 0 (n+new.length),H.set id (.vec k (ae+1) (rows++new)))
      else none
     |_=>none
    |_=>none:=by
 unfold qc;simp only[hk,h,q];cases y:b_ P xt<;>simp only[y,Bz]at g⊢<;>first
  |(cases g; done)
  |(rw[if_pos u]; rfl)
def w6(sz:Nat)(x:AV)(H:List ai)(z:List Value):Option (Bool × List Kd × List (List G)) :=
 match x with
 |.emptyS _=>tq sz x H (oL (z.map .lit))
 |_=>tq sz x H none
theorem T3{sz:Nat}{x:AV}{H:List ai}{z:List Value}{b:Bool}{ks:List Kd}{rows:List (List G)}(h:w6 sz x H z=some (b,ks,rows))(hb:b=true) :
  kl sz x (ao H)=some (rows.map (aJ ks)):=by
 unfold w6 at h;split at h<;>exact IU h hb
def tu(P:Program)(t xt:TypeId)(s x:AV)(H:List ai):Option (Bool × AV × List ai) :=
 match b_ P t with
 | .slice e sz d =>
  match dS P e,Bz (b_ P xt)with
  | some z,true =>
   if z.length=sz∧d≤1048576 then
    match s with
    | .nils | .lit (.slice none 0 0)=>match w6 sz x H z with
     |some (b,ks,new)=>if ks.length=sz then some (b&&decide (new.length≤1048576),.vec sz H.length 0 0 new.length,H++[.vec ks 0 new]) else none
     |none=>none
    | .vec w id ae off n=>match H[id]? with
     | some (.vec ks v rows)=>match tq sz x H (some ks) with
      | some (b,g,new) =>
       if ks.length=w∧w=sz∧v=ae∧off=0∧Kd.f_ ks g=true then
        some (b&&(ad n rows.length&&decide (rows.length+new.length≤1048576)),.vec w id (ae+1) 0 (rows++new).length,H.set id (.vec ks (ae+1) (rows++new)))
       else none
      |none=>none
     |_=>none
    |_=>none
   else none
  |_,_=>none
 |_=>none
theorem T4{P:Program}{t xt:TypeId}{s x v:AV}{H H':List ai}{b:Bool}(h:tu P t xt s x H=some (b,v,H'))(hb:b=true) :
  qc P t xt s x (ao H)=some (v,ao H'):=by
 unfold tu at h;split at h
 case h_2=>cases h
 rename_i e sz V hk;split at h
 case h_2=>cases h
 rename_i z q k;split at h
 case isFalse=>cases h
 rename_i I;obtain⟨c1,c2⟩:=I;have fresh:∀{b1:Bool} {ks:List Kd} {new:List (List G)},w6 sz x H z=some (b1,ks,new) →
   (if ks.length=sz then some (b1&&decide (new.length≤1048576),AV.vec sz H.length 0 0 new.length,H++[ai.vec ks 0 new]) else none)=some (b,v,H') →
   ∃ rows,kl sz x (ao H)=some rows∧rows.length≤1048576∧v=.vec sz (ao H).length 0 0 rows.length∧ao H'=ao H++[.vec sz 0 rows]:=by
  intro b1 ks new d h;split at h
  case isFalse=>cases h
  rename_i B;simp only[aZ,be]at h;obtain⟨h1,rfl,rfl⟩:=h;subst hb;simp only[aB,decide_eq_true_eq]at h1;refine⟨_,T3 d h1.1,by simpa using h1.2,by simp[eg],?_⟩;rw[gB,ai.den,B]
 split at h
 ·split at h
  case h_2=>cases h
  rename_i b1 ks new d;obtain⟨rows,g1,g2,g3,g4⟩:=fresh d h;rw[BA hk q k g1 ⟨c1,g2,c2⟩,g3,g4]
 ·split at h
  case h_2=>cases h
  rename_i b1 ks new d;obtain⟨rows,g1,g2,g3,g4⟩:=fresh d h;rw[BA hk q k g1 ⟨c1,g2,c2⟩,g3,g4];rfl
 ·rename_i w id ae off n
  split at h
  case h_2=>cases h
  rename_i ks vv rows hid;split at h
  case h_2=>cases h
  rename_i b1 W new d;split at h
  case isFalse=>cases h
  rename_i J;obtain⟨y,M,N,O,u⟩:=J;have u:=Kd.ir u;subst u;simp only[aZ,be]at h;obtain⟨h1,rfl,rfl⟩:=h;subst hb;simp only[aB,decide_eq_true_eq]at h1;obtain⟨h1,g,U⟩:=h1;have g:=bt g;rw[BA hk q k (IU d h1) ⟨c1,by simp; omega,c2⟩];simp only[dE,bk hid,ai.den];rw[if_pos ⟨y,M,N,O,g,U⟩,c7];simp only[ai.den,j6,fi,g,y]
 ·cases h
def mX(len:Nat)(lo hi:Option AV):Option (Bool × Nat × Nat) :=
 match lo,hi with
 |none,none=>some (true,0,len)
 |some (.lit (.int _ l)),none=>some (az l&&a8 l (len:Int),l.toNat,len)
 |none,some (.lit (.int _ h))=>some (az h&&a8 h (len:Int),0,h.toNat)
 |some (.lit (.int _ l)),some (.lit (.int _ h))=>some (az l&&(a8 l h&&a8 h (len:Int)),l.toNat,h.toNat)
 |_,_=>none
theorem w7{len:Nat}{lo hi:Option AV}{b:Bool}{l h:Nat}(d:mX len lo hi=some (b,l,h))(hb:b=true):fK len lo hi=some (l,h):=by
 unfold mX at d;split at d
 ·cases d; simp[fK]
 ·rename_i l'
  simp only[aZ,be]at d;obtain⟨h1,rfl,rfl⟩:=d;subst hb;simp only[jH,eT,aB,decide_eq_true_eq]at h1;simp[fK,jB,h1.1,h1.2]
 ·rename_i h'
  simp only[aZ,be]at d;obtain⟨h1,rfl,rfl⟩:=d;subst hb;simp only[jH,eT,aB,decide_eq_true_eq]at h1;simp[fK,jB,h1.1,h1.2]
 ·rename_i l' _ h'
  simp only[aZ,be]at d;obtain⟨h1,rfl,rfl⟩:=d;subst hb;simp only[jH,eT,aB,decide_eq_true_eq]at h1;simp[fK,jB,h1.1,h1.2.1,h1.2.2]
 ·cases d
def qx(rows:List (List G))(lo hi:Option AV)(l h:Nat):List (List G) :=
 match lo,hi with
 |none,none=>rows
 |some _,none=>rows.drop l
 |none,some _=>rows.take h
 |some _,some _=>(rows.drop l).take (h-l)
theorem IV{rows:List (List G)}{lo hi:Option AV}{b:Bool}{l h:Nat}(d:mX rows.length lo hi=some (b,l,h)):qx rows lo hi l h=(rows.drop l).take (h-l):=by
 unfold mX at d;split at d
 ·cases d; simp[qx]
 ·simp only [aZ, be] at d
  obtain⟨h1,rfl,rfl⟩:=d;simp only[qx];rw[RB (by simp)]
 ·simp only [aZ, be] at d
  obtain⟨h1,rfl,rfl⟩:=d;simp[qx]
 ·rfl
 ·cases d
def BB(P:Program)(t:TypeId)(x:AV)(lo hi mx:Option AV):Option (Bool × AV) :=
 match mx with
 | some _=>match kh P t x lo hi mx with
  |some v=>some (true,v)
  |none=>none
 | none=>match b_ P t,x with
  | .str,.lit (.string s)=>match mX s.size lo hi with
   |some (b,l,h)=>some (b,.lit (.string (s.extract l h)))
   |none=>none
  | .slice _ sz _,.listF ks rows=>match mX rows.length lo hi with
   |some (b,l,h)=>if ks.length=sz then some (b,.listF ks (qx rows lo hi l h)) else none
   |none=>none
  | .slice _ sz _,.vec w id ae off n=>match mX n lo hi with
   |some (b,l,h)=>if w=sz then some (b,.vec w id ae (off+l) (h-l)) else none
   |none=>none
  | .slice _ sz _,.list w rows=>match w,p7 rows with
   | 1,some gs=>match mX gs.length lo hi with
    |some (b,l,h)=>if 1=sz then some (b,.listF [.str] (qx gs lo hi l h)) else none
    |none=>none
   | _,_=>match kh P t x lo hi none with
    |some v=>some (true,v)
    |none=>none
  | _,_=>match kh P t x lo hi none with
   |some v=>some (true,v)
   |none=>none
theorem T5{P:Program}{t:TypeId}{x v:AV}{lo hi mx:Option AV}{b:Bool}(h:BB P t x lo hi mx=some (b,v))(hb:b=true):kh P t x lo hi mx=some v:=by
 unfold BB at h;split at h
 ·split at h
  ·rename_i u hu; cases h; exact hu
  ·cases h
 ·split at h
  ·rename_i s hk
   split at h
   case h_2=>cases h
   rename_i k l q d;simp only[aZ,be]at h;obtain⟨h1,rfl⟩:=h;subst h1;simp[kh,hk,w7 d hb]
  ·rename_i e sz y ks rows hk
   split at h
   case h_2=>cases h
   rename_i k l q d;split at h
   case isFalse=>cases h
   rename_i g;simp only[aZ,be]at h;obtain⟨h1,rfl⟩:=h;subst h1;simp[kh,hk,w7 d hb,g,IV d]
  ·rename_i e sz y w id ae off n hk
   split at h
   case h_2=>cases h
   rename_i k l q d;split at h
   case isFalse=>cases h
   rename_i g;simp only[aZ,be]at h;obtain⟨h1,rfl⟩:=h;subst h1;simp[kh,hk,w7 d hb,g]
  ·rename_i e sz y w rows hk
   split at h
   ·rename_i gs B
    split at h
    case h_2=>cases h
    rename_i k l q d;split at h
    case isFalse=>cases h
    rename_i g;simp only[aZ,be]at h;obtain⟨h1,rfl⟩:=h;subst h1;subst g;have I:rows.length=gs.length:=by rw[←Aw B,dE]
    simp[kh,hk,I,w7 d hb,IV d,wo,B]
   ·split at h
    ·rename_i u hu; cases h; exact hu
    ·cases h
  ·split at h
   ·rename_i u hu; cases h; exact hu
   ·cases h
def tv(P:Program)(t:TypeId)(l c:AV)(H:List ai):Option (Bool × AV × List ai) :=
 match b_ P t,l,c with
 | .slice e sz d,.lit (.int _ l),.lit (.int _ c) =>
  match dS P e with
  | some z=>match oL (wE P e z) with
   | some ks=>match fF ks (wE P e z) with
    | some gs=>if z.length=sz∧0<sz∧d≤1048576∧ks.length=sz then
      some (az l&&(a8 l c&&a8 c 1048576),.vec sz H.length 0 0 l.toNat,H++[.vec ks 0 (bM l.toNat gs)]) else none
    |none=>none
   |none=>none
  |none=>none
 |_,_,_=>none
theorem T6{P:Program}{t:TypeId}{l c v:AV}{H H':List ai}{b:Bool}(h:tv P t l c H=some (b,v,H'))(hb:b=true) :
  sV P t l c (ao H)=some (v,ao H'):=by
 unfold tv at h;unfold sV;split at h
 case h_2=>cases h
 rename_i e sz y _ l _ c hk;rw[hk];simp only[];split at h
 case h_2=>cases h
 rename_i z g;split at h
 case h_2=>cases h
 rename_i ks B;split at h
 case h_2=>cases h
 rename_i gs d;split at h
 case isFalse=>cases h
 rename_i k;obtain⟨c1,c2,q,u⟩:=k;simp only[aZ,be]at h;obtain⟨h1,rfl,rfl⟩:=h;subst hb;simp only[jH,eT,aB,decide_eq_true_eq]at h1;rw[g];simp only[];rw[if_pos ⟨c1,c2,h1.1,h1.2.1,h1.2.2,q⟩,gB,eg,ai.den,u,List.map_replicate,jJ d]
def tw(P:Program)(t:TypeId)(n:Nat)(parts:List (Nat × AV))(H:List ai):Option (Bool × AV × List ai) :=
 match b_ P t with
 | .slice e _ _=>match dS P e with
  | some z=>match oL (z.map .lit) with
   | some ks=>match qf P t n parts with
    | some (.list sz rows)=>match bx ks rows with
     |some gs=>if ks.length=sz then some (true,.vec sz H.length 0 0 gs.length,H++[.vec ks 0 gs]) else none
     |none=>none
    |_=>none
   |none=>none
  |none=>none
 |_=>none
theorem T7{P:Program}{t:TypeId}{n:Nat}{parts:List (Nat × AV)}{v:AV}{H H':List ai}{b:Bool}(h:tw P t n parts H=some (b,v,H')) :
  s8 P t n parts (ao H)=some (v,ao H'):=by
 unfold tw at h;split at h
 case h_2=>cases h
 split at h
 case h_2=>cases h
 split at h
 case h_2=>cases h
 rename_i ks k;split at h
 case h_2=>cases h
 rename_i sz rows hb;split at h
 case h_2=>cases h
 rename_i gs d;split at h
 case isFalse=>cases h
 rename_i g;cases h;unfold s8;rw[hb];have e:=oK d;simp only[];rw[gB,eg,ai.den,g,e,←e,dE]
/-! ### Maps -/
def Ct.read:Ct→AV→Option (List G)
 | .one k,a=>match tk k a with
  |some g=>some [g]
  |none=>none
 |.agg ks,.agg cells=>fF ks cells
 |_,_=>none
theorem Ct.jK{K:Ct}{a:AV}{r:List G}(h:K.read a=some r):K.av r=a:=by
 unfold Ct.read at h;split at h
 ·split at h
  ·rename_i g d
   cases h;exact Bt d
  ·cases h
 ·simp only[Ct.av,jJ h]
 ·cases h
def mY(P:Program)(t:TypeId):Option (Ct × List G) :=
 match P.info? t with
 | some i=>match i.zero with
  | some (.agg cs)=>match cs.toList.all dh,oL (cs.toList.map .lit) with
   | true,some ks=>match fF ks (cs.toList.map .lit) with
    |some gs=>some (.agg ks,gs)
    |none=>none
   |_,_=>none
  | some v=>match tn (.lit v) with
   | some k=>match tk k (.lit v) with
    |some g=>some (.one k,[g])
    |none=>none
   | none=>match gz P t,AU P t with
    |some (.lit (.slice none 0 0)),some ks=>some (.one (.list ks),[.l []])
    |_,_=>none
  |none=>none
 |none=>none
theorem T8{P:Program}{t:TypeId}{v:AV}(h:gz P t=some v)(d:v=.lit (.slice none 0 0)→False):lV P t=some v:=by
 unfold lV;rw[h];split
 ·rename_i e _
  cases e;exact(d rfl).elim
 ·rename_i e _
  cases e;rfl
 ·rename_i e
  cases e
theorem IW{P:Program}{t:TypeId}{V:Ct}{z:List G}(h:mY P t=some (V,z)):lV P t=some (V.av z):=by
 unfold mY at h;have q:∀ v,gz P t=some v→(v=.lit (.slice none 0 0)→False)→lV P t=some v:=fun v h B=>T8 h B;split at h
 case h_2=>cases h
 rename_i i hi;split at h
 ·rename_i cs d
  split at h
  ·rename_i ks h1 u
   split at h
   ·rename_i gs I
    cases h;refine q _ ?_ fun e=>by cases e
    unfold gz;rw[hi];simp only[];rw[d];simp only[AV.pY,h1,if_true,Ct.av,jJ I]
   ·cases h
  ·cases h
 ·rename_i v y d
  split at h
  ·rename_i k hk
   split at h
   ·rename_i g J
    cases h;have e:=Bt J;simp only[Ct.av,vQ,e];refine q _ ?_ fun e=>by
     simp only[AV.lit.injEq]at e;subst e;simp[tn]at hk
    unfold gz;rw[hi];simp only[];rw[d];simp only[];unfold AV.pY;split
    ·rename_i cs; exact(y cs rfl).elim
    ·simp[tn]at hk
    ·rfl
   ·cases h
  ·split at h
   ·rename_i ks h1 u
    cases h;unfold lV;rw[h1,u];rfl
   ·cases h
 ·cases h
def w8:SK→Kd→Bool
 |.int k,.int k'=>decide (k=k')
 |.str,.str=>true
 |.bool,.bool=>true
 |_,_=>false
def je:List SK→List Kd→Bool
 | [],[]=>true
 |a::as,b::d=>w8 a b&&je as d
 |_,_=>false
def ga(P:Program)(d:TypeId)(K:Ct):Bool :=
 match flatK P lP d with
 | some g=>je g K.ks&&(match K with
  |.one _ => !lO (P.underlying d)
  |.agg _=>lO (P.underlying d))
 |none=>false
def m_:Kd→G→Value
 |.int k,g=>.int k g.int
 |.str,g=>.string g.str
 |.bool,g=>.bool g.bool
 |.list _,_=>.bool false
def c_:List Kd→List G→List Value
 | [],_=>[]
 |k::ks,r=>m_ k (r.headD default)::c_ ks r.tail
theorem IX:∀{d:List SK} {ks:List Kd} (r:List G),je d ks=true→lN (aJ ks r)=some (c_ ks r)∧cA d (c_ ks r)=true
  | [],[],_,_=>⟨rfl,rfl⟩
  | a::as,k::ks,r,h=>by
    simp only[je,aB]at h;obtain⟨h1,g⟩:=IX r.tail h.2;have hk:=h.1;cases k<;>cases a<;>simp only[w8]at hk<;>first
      |(cases hk; done)
      | (simp only [aJ, ic, lN, h1, c_, m_, cA, g, Bool.and_true]
         simp_all[kindOk])
  | [],_::_,_,h|_::_,[],_,h=>by simp[je]at h
theorem w9:∀{d:List SK} {ks:List Kd} (r s:List G),je d ks=true→dm (c_ ks r) (c_ ks s)=a_ ks r s
 | [],[],_,_,_=>rfl
 | a::as,k::ks,r,s,h=>by
  simp only[je,aB]at h;have g:=w9 r.tail s.tail h.2;have hk:=h.1;simp only[c_,dm,a_,g];cases k<;>cases a<;>simp only[w8]at hk<;>first
   |(cases hk; done)
   |rfl
 | [],_::_,_,_,h|_::_,[],_,_,h=>by simp[je]at h
theorem jf{P:Program}{g:TypeId}{K:Ct}(h:ga P g K=true)(r:List G):gL P g (K.av r)=some (c_ K.ks r):=by
 unfold ga at h;split at h
 case h_2=>cases h
 rename_i q u;simp only[aB]at h;obtain⟨h1,d⟩:=h;obtain⟨g1,g2⟩:=IX r h1;unfold gL;rw[u];simp only[];cases K with
 | one k =>
  simp only[mE]at d;simp only[Ct.ks,c_]at g2⊢;have e:ic k (r.headD default)=.lit (m_ k (r.headD default)):=by
   simp only[Ct.ks]at h1;cases q with
   |nil=>simp[je]at h1
   | cons a as =>
    simp only[je,aB]at h1;have hk:=h1.1;cases k<;>cases a<;>simp only[w8]at hk<;>first
     |(cases hk; done)
     |rfl
  simp only[Ct.av,e,g2,d,and_self,if_true]
 | agg ks =>
  simp only[Ct.av,Ct.ks]at g1 g2⊢;simp only[g1,g2,d,and_self,if_true]
def bT(ks:List Kd)(key:List G):List (List G)→Nat→Option (Nat × List G)
 | [],_=>none
 |r::rs,i=>bif a_ ks key (gi r 0).row then some (i,r) else bT ks key rs (i+1)
def dL(ks:List Kd)(rows:List (List G))(key:List G):Bool:=(bT ks key rows 0).isSome
def aA(ks:List Kd)(rows:List (List G))(key z:List G):List G:=match bT ks key rows 0 with
 |some (_,r)=>(gi r 1).row
 |none=>z
def aL(ks:List Kd)(rows:List (List G))(key val:List G)(clock:Nat):List (List G):=match bT ks key rows 0 with
 |some (i,r)=>rows.set i [.l [key],.l [val],.i (gi r 2).int]
 |none=>rows++[[.l [key],.l [val],.i clock]]
def bD(ks:List Kd)(rows:List (List G))(key:List G)(clock:Nat):Nat:=bif dL ks rows key then clock else clock+1
def IY(ks:List Kd)(rows:List (List G))(key:List G):List (List G):=match bT ks key rows 0 with
 |some (i,_)=>rows.eraseIdx i
 |none=>rows
theorem qy{P:Program}{g:TypeId}{K V:Ct}(h:ga P g K=true)(key:List G):∀(rows:List (List G)) (i:Nat),dZ P g (c_ K.ks key) (c9 K V rows) i =
  some ((bT K.ks key rows i).map fun p=>(p.1,V.av (gi p.2 1).row))
 | [],i=>rfl
 | r::rs,i=>by
  have q:=qy (V:=V) h key rs (i+1);have k:∃ d,je d K.ks=true:=by
   unfold ga at h;split at h
   ·simp only[aB]at h; exact⟨_,h.1⟩
   ·cases h
  obtain⟨d,u⟩:=k;simp only[c9,dq,dZ,jf h,w9 _ _ u,bT];cases a_ K.ks key (gi r 0).row with
  |true=>rfl
  |false=>exact q
theorem oM{ks:List Kd}{key:List G}:∀{rows:List (List G)} {i j:Nat} {r:List G},bT ks key rows i=some (j,r)→i≤j∧rows[j-i]? = some r
 | [],_,_,_,h=>by simp[bT]at h
 | x::rs,i,j,r,h=>by
  simp only[bT]at h;cases d:a_ ks key (gi x 0).row with
  | true =>
   rw[d]at h;cases h;exact⟨aG _,by simp⟩
  | false =>
   rw[d]at h;obtain⟨h1,g⟩:=oM h;refine⟨by omega,?_⟩;rw[show j-i=(j-(i+1))+1 from by omega];simpa using g
def BC(P:Program)(t:TypeId)(m k:AV)(ok:Bool)(H:List ai):Option (Bool × AV) :=
 match cW P t,m with
 | some (d,g),.map id=>match H[id]? with
  | some (.map K V rows _)=>match K.read k,mY P g with
   | some key,some (h,z)=>match ga P d K&&V.same h with
    | true=>some (true,match ok with
      |true=>.tuple [V.av (aA K.ks rows key z),.lit (.bool (dL K.ks rows key))]
      |false=>V.av (aA K.ks rows key z))
    |false=>none
   |_,_=>none
  |_=>none
 |_,_=>none
theorem IZ{P:Program}{t:TypeId}{m k v:AV}{ok b:Bool}{H:List ai}(h:BC P t m k ok H=some (b,v)):fB P t m k ok (ao H)=some v:=by
 unfold BC at h;unfold fB;split at h
 case h_2=>cases h
 rename_i u y id g;rw[g];simp only[];split at h
 case h_2=>cases h
 rename_i K V rows cl hid;rw[bk hid];simp only[ai.den];split at h
 case h_2=>cases h
 rename_i key B z hk q;split at h
 case h_2=>cases h
 rename_i d;simp only[aB]at d;have e:=Ct.jd d.2;subst e;rw[←Ct.jK hk,jf d.1,IW q];simp only[qy d.1];cases h;unfold aA dL;cases bT K.ks key rows 0 with
 |none=>cases ok<;>rfl
 |some p=>cases ok<;>rfl
def qz(P:Program)(t:TypeId)(m k v:AV)(H:List ai):Option (Bool × List ai) :=
 match cW P t,m with
 | some (d,_),.map id=>match H[id]? with
  | some (.map K V rows cl)=>match K.read k,V.read v with
   | some key,some val=>match ga P d K with
    |true=>some (true,H.set id (.map K V (aL K.ks rows key val cl) (bD K.ks rows key cl)))
    |false=>none
   |_,_=>none
  |_=>none
 |_,_=>none
def cq(ks:List Kd)(rows:List (List G))(key:List G):List (List G):=match bT ks key rows 0 with
 |some (_,r)=>jI r
 |none=>[]
def d_(ks:List Kd)(rows:List (List G))(key:List G):Bool:=match bT ks key rows 0 with
 |some (_,r)=>(gi r 3).bool
 |none=>true
def gb(ks:List Kd)(rows:List (List G))(key:List G):List (List G):=match bT ks key rows 0 with
 |some (i,r)=>rows.set i [gi r 0,gi r 1,gi r 2,.t false]
 |none=>rows
def ku(ks:List Kd)(rows:List (List G))(key:List G)(val:List (List G))(clock:Nat):List (List G):=match bT ks key rows 0 with
 |some (i,r)=>rows.set i [.l [key],.l [[.l val]],.i (gi r 2).int,.t true]
 |none=>rows++[[.l [key],.l [[.l val]],.i clock,.t true]]
def tx(P:Program)(t:TypeId)(m k:AV)(H:List ai):Option (Bool × AV × List ai) :=
 match cW P t,m with
 | some (g,d),.map id=>match H[id]? with
  | some (.aH l K ks rows cl)=>match K.read k,wM P d,gz P d with
   | some key,some w',some (.lit (.slice none 0 0))=>match ad w' ks.length&&ga P g K with
    |true=>some (d_ K.ks rows key,.vec ks.length H.length 0 0 (cq K.ks rows key).length,H.set id (.aH l K ks (gb K.ks rows key) cl)++[.vec ks 0 (cq K.ks rows key)])
    |false=>none
   |_,_,_=>none
  |_=>none
 |_,_=>none
def tz(P:Program)(t:TypeId)(m k v:AV)(H:List ai):Option (Bool × List ai) :=
 match cW P t,m,v with
 | some (h,_),.map id,.vec w j ae off n=>match H[id]?,H[j]? with
  | some (.aH l K ks rows cl),some (.vec g d rws)=>match K.read k with
   | some key=>match ga P h K&&(Kd.f_ ks g&&(ad w ks.length&&(ad ae d&&ad off 0))) with
    |true=>some (ad n rws.length,(H.set id (.aH l K ks (ku K.ks rows key rws cl) (bD K.ks rows key cl))).set j (.raw .dead))
    |false=>none
   |none=>none
  |_,_=>none
 |_,_,_=>none
def kY(ks:List Kd)(rows:List (List G))(key:List G)(clock:Nat):Nat:=match bT ks key rows 0 with
 |some (_,r)=>(gi r 2).int.toNat
 |none=>clock
def kZ(ks:List Kd)(rows:List (List G))(key:List G)(clock:Nat):List (List G):=match bT ks key rows 0 with
 |some (i,r)=>rows.set i [.l [key],gi r 1,gi r 2,.t false]
 |none=>rows++[[.l [key],.l [[.l []]],.i clock,.t false]]
def tA(P:Program)(t:TypeId)(m k:AV)(H:List ai):Option (Bool × AV × List ai) :=
 match cW P t,m with
 | some (g,d),.map id=>match H[id]? with
  | some (.aH l K ks rows cl)=>match K.read k,wM P d,gz P d with
   | some key,some w',some (.lit (.slice none 0 0))=>match ad w' ks.length&&ga P g K with
    | true=>some (d_ K.ks rows key,.tuple [.vec ks.length H.length 0 0 (cq K.ks rows key).length,.lit (.int .i64 (kY K.ks rows key cl:Nat))],
      H.set id (.aH l K ks (kZ K.ks rows key cl) (bD K.ks rows key cl))++[.vec ks 0 (cq K.ks rows key)])
    |false=>none
   |_,_,_=>none
  |_=>none
 |_,_=>none
def eU(st:Int):List (List G)→Nat→Option (Nat × List G)
 | [],_=>none
 |r::rs,i=>bif ((gi r 2).int.toNat:Int)==st then some (i,r) else eU st rs (i+1)
def qA(rows:List (List G))(st:Int)(val:List (List G)):List (List G):=match eU st rows 0 with
 |some (i,r)=>rows.set i [gi r 0,.l [[.l val]],gi r 2,.t true]
 |none=>rows
def qB(rows:List (List G))(st:Int):Bool:=(eU st rows 0).isSome
def tC(m s v:AV)(H:List ai):Option (Bool × List ai) :=
 match m,s,v with
 | .map id,.lit (.int .i64 st),.vec w j ae off n=>match H[id]?,H[j]? with
  | some (.aH l K ks rows cl),some (.vec g d rws)=>match Kd.f_ ks g&&(ad w ks.length&&(ad ae d&&ad off 0)) with
   |true=>some (qB rows st&&ad n rws.length,(H.set id (.aH l K ks (qA rows st rws) cl)).set j (.raw .dead))
   |false=>none
  |_,_=>none
 |_,_,_=>none
theorem w_{P:Program}{g:TypeId}{K:Ct}{ks:List Kd}(h:ga P g K=true)(key:List G):∀(rows:List (List G)) (i:Nat),dZ P g (c_ K.ks key) (cC (fN K ks rows)) i =
  some ((bT K.ks key rows i).map fun p=>(p.1,AV.undef))
 | [],i=>rfl
 | r::rs,i=>by
  have q:=w_ (ks:=ks) h key rs (i+1);have k:∃ d,je d K.ks=true:=by
   unfold ga at h;split at h
   ·simp only[aB]at h; exact⟨_,h.1⟩
   ·cases h
  obtain⟨d,u⟩:=k;simp only[fN,cC,jb,dq,dZ,jf h,w9 _ _ u,bT];cases a_ K.ks key (gi r 0).row with
  |true=>rfl
  |false=>exact q
theorem tD{K:Ct}{ks:List Kd}{rows:List (List G)}{i:Nat}{r:List G}(h:rows[i]? = some r):(fN K ks rows)[i]? = some (jb K ks r):=by
 unfold fN;rw[bZ,h];rfl
theorem xa(K:Ct)(ks:List Kd)(rows:List (List G))(i:Nat)(r:List G):fN K ks (rows.set i r)=(fN K ks rows).set i (jb K ks r):=by
 simp[fN,sE]
theorem T9{P:Program}{t:TypeId}{m k v:AV}{b:Bool}{H H':List ai}(h:tx P t m k H=some (b,v,H'))(hb:b=true):s9 P t m k (ao H)=some (v,ao H')∧fB P t m k false (ao H)=none:=by
 unfold tx at h;unfold s9 fB;split at h
 case h_2=>cases h
 rename_i N O id J;rw[J];simp only[];split at h
 case h_2=>cases h
 rename_i l K ks rows cl hid;rw[bk hid];simp only[ai.den];split at h
 case h_2=>cases h
 rename_i key w' hk hw M;split at h
 case h_2=>cases h
 rename_i u;simp only[aB]at u;obtain⟨g,q⟩:=u;have e:=bt g;simp only[aZ,be]at h;obtain⟨d,rfl,rfl⟩:=h;rw[hb]at d;rw[←Ct.jK hk,jf q,hw,M];simp only[g,w_ q,and_true];unfold d_ at d;unfold cq gb;cases y:bT K.ks key rows 0 with
 | none =>
  simp only[vP,gB,c7,ai.den,eg,lK,sF]
 | some p =>
  obtain⟨i,r⟩:=p;rw[y]at d;simp only[]at d;obtain⟨_,B⟩:=oM y;rw[fS]at B;have I:mS (fN K ks rows) i=some (K.av (gi r 0).row,(jI r).map (aJ ks),(gi r 2).int.toNat):=by
   unfold mS;rw[tD B];simp only[jb,d,cond_true]
  simp only[eF,I,gB,c7,ai.den,eg,dE,xa];rfl
theorem T_{P:Program}{t:TypeId}{m k v:AV}{b:Bool}{H H':List ai}(h:tz P t m k v H=some (b,H'))(hb:b=true):oB P t m k v (ao H)=some (ao H')∧kV P t m k v (ao H)=none:=by
 unfold tz at h;unfold oB kV;split at h
 case h_2=>cases h
 rename_i kt et id w j ae off n M;rw[M];simp only[];split at h
 case h_2=>cases h
 rename_i l K ks rows cl ks2 ver' rws hid N;rw[bk hid,bk N];simp only[ai.den];split at h
 case h_2=>cases h
 rename_i key hk;split at h
 case h_2=>cases h
 rename_i q;simp only[aB]at q;obtain⟨g,y,B,I,J⟩:=q;have O:=Kd.ir y;subst O;have U:=bt B;have V:=bt I;have W:=bt J;subst U V W;simp only[aZ,be]at h;obtain⟨d,rfl⟩:=h;rw[hb]at d;have d:=bt d;subst d;rw[←Ct.jK hk,jf g];simp only[Ct.th,dE,and_self,if_true,w_ g,and_true];unfold ku bD dL;cases hf:bT K.ks key rows 0 with
 | none =>
  simp only[vP,c7,ai.den,GC,cond_false];simp[fN,jb,jI,gi,G.row,G.rows,G.int,G.bool]
 | some p =>
  obtain⟨i,r⟩:=p;obtain⟨_,u⟩:=oM hf;rw[fS]at u;simp only[eF,A2 (tD u),c7,ai.den,xa,GX,cond_true];simp[jb,jI,gi,G.row,G.rows,G.int,G.bool]
theorem Ua{P:Program}{t:TypeId}{m k v:AV}{b:Bool}{H H':List ai}(h:tA P t m k H=some (b,v,H'))(hb:b=true):gO P t m k (ao H)=some (v,ao H'):=by
 unfold tA at h;unfold gO;split at h
 case h_2=>cases h
 rename_i N O id J;rw[J];simp only[];split at h
 case h_2=>cases h
 rename_i l K ks rows cl hid;rw[bk hid];simp only[ai.den];split at h
 case h_2=>cases h
 rename_i key w' hk hw M;split at h
 case h_2=>cases h
 rename_i q;simp only[aB]at q;obtain⟨B,g⟩:=q;simp only[aZ,be]at h;obtain⟨d,rfl,rfl⟩:=h;rw[hb]at d;rw[←Ct.jK hk,jf g,hw,M];simp only[B,Ct.th,Bool.and_self,w_ g];unfold d_ at d;unfold cq kZ kY bD dL;cases u:bT K.ks key rows 0 with
 | none =>
  simp only[vP,gB,c7,ai.den,eg,lK,sF,GC,cond_false,goInt];simp[fN,jb,jI,gi,G.row,G.rows,G.int,G.bool]
 | some p =>
  obtain⟨i,r⟩:=p;rw[u]at d;simp only[]at d;obtain⟨_,y⟩:=oM u;rw[fS]at y;have I:mS (fN K ks rows) i=some (K.av (gi r 0).row,(jI r).map (aJ ks),(gi r 2).int.toNat):=by
   unfold mS;rw[tD y];simp only[jb,d,cond_true]
  simp only[eF,I,gB,c7,ai.den,eg,dE,xa,GX,cond_true,goInt];rfl
theorem BD{st:Int}:∀{rows:List (List G)} {i j:Nat} {r:List G},eU st rows i=some (j,r)→i≤j∧rows[j-i]? = some r
 | [],_,_,_,h=>by simp[eU]at h
 | x::rs,i,j,r,h=>by
  simp only[eU]at h;cases d:((gi x 2).int.toNat:Int)==st with
  | true =>
   rw[d]at h;cases h;simp
  | false =>
   rw[d]at h;obtain⟨h1,g⟩:=BD h;refine⟨by omega,?_⟩;rw[show j-i=(j-(i+1))+1 from by omega];simpa using g
theorem I0{K:Ct}{ks:List Kd}{st:Int}:∀{rows:List (List G)} {i:Nat},(eU st rows i).map (·.1)=(oC (fN K ks rows) st).map (·+i)
 | [],_=>rfl
 | x::rs,i=>by
  have d:=I0 (K:=K) (ks:=ks) (st:=st) (rows:=rs) (i:=i+1);unfold oC at d⊢;simp only[eU,fN,dq,GM,jb]at d⊢;cases g:((gi x 2).int.toNat:Int)==st with
  |true=>simp
  | false =>
   simp only[cond_false,d,kK,if_false,GY];congr 1
   funext n
   simp only[GZ];omega
theorem Ub{m s v:AV}{b:Bool}{H H':List ai}(h:tC m s v H=some (b,H'))(hb:b=true):jD m s v (ao H)=some (ao H'):=by
 unfold tC at h;unfold jD;split at h
 case h_2=>cases h
 rename_i id st w j ae off n;split at h
 case h_2=>cases h
 rename_i l K ks rows cl ks2 ver' rws hid U;simp only[];rw[bk hid,bk U];simp only[ai.den];split at h
 case h_2=>cases h
 rename_i u;simp only[aB]at u;obtain⟨J,M,N,O⟩:=u;have V:=Kd.ir J;subst V;have W:=bt M;have e4:=bt N;have e5:=bt O;subst W e4 e5;simp only[aZ,be]at h;obtain⟨k,rfl⟩:=h;rw[hb]at k;simp only[aB]at k;obtain⟨d,g⟩:=k;have g:=bt g;subst g;simp only[dE,and_self,if_true];unfold qB at d;unfold qA;cases q:eU st rows 0 with
 |none=>rw[q]at d; cases d
 | some p =>
  obtain⟨i,r⟩:=p;obtain⟨_,B⟩:=BD q;rw[fS]at B;have hi:oC (fN K ks rows) st=some i:=by
   have:=I0 (K:=K) (ks:=ks) (st:=st) (rows:=rows) (i:=0);rw[q]at this;cases I:oC (fN K ks rows) st with
   |none=>rw[I]at this; cases this
   |some y=>rw[I]at this; simp at this; rw[this]
  rw[hi];simp only[tD B,jb,c7,ai.den,xa];simp[jI,gi,G.row,G.rows,G.bool]
theorem I1(K V:Ct)(rows:List (List G))(i:Nat)(r:List G):c9 K V (rows.set i r)=(c9 K V rows).set i (K.av (gi r 0).row,V.av (gi r 1).row,(gi r 2).int.toNat):=by
 simp[c9,sE]
theorem I2{α:Type}{l:List α}{i:Nat}{x:α}(f:α→α)(h:l[i]? = some x):l.modify i f=l.set i (f x):=by
 apply List.ext_getElem?;intro j;rw[List.getElem?_modify,List.getElem?_set];by_cases e:i=j
 ·subst e
  rw[if_pos rfl,if_pos (aK h),h];simp
 ·rw [if_neg e]
  simp[e]
theorem I3{P:Program}{t:TypeId}{m k v:AV}{b:Bool}{H H':List ai}(h:qz P t m k v H=some (b,H')):kV P t m k v (ao H)=some (ao H'):=by
 unfold qz at h;unfold kV;split at h
 case h_2=>cases h
 rename_i I J id u;rw[u];simp only[];split at h
 case h_2=>cases h
 rename_i K V rows cl hid;rw[bk hid];simp only[ai.den];split at h
 case h_2=>cases h
 rename_i key val hk y;split at h
 case h_2=>cases h
 rename_i d;cases h;rw[←Ct.jK hk,←Ct.jK y,jf d];simp only[Ct.th,and_self,if_true,qy d,c7,ai.den];unfold aL bD dL;cases B:bT K.ks key rows 0 with
 |none=>simp[c9,gi,G.row,G.rows,G.int]
 | some p =>
  obtain⟨_,g⟩:=oM (r:=p.2) (j:=p.1) B;rw[fS]at g;have q:(c9 K V rows)[p.1]? = some (K.av (gi p.2 0).row,V.av (gi p.2 1).row,(gi p.2 2).int.toNat):=by simp[c9,g]
  simp only[eF,I2 _ q,I1,GX,cond_true];simp[gi,G.row,G.rows,G.int]
def tF(P:Program)(t:TypeId)(m k:AV)(H:List ai):Option (Bool × List ai) :=
 match cW P t,m with
 | some (d,_),.map id=>match H[id]? with
  | some (.map K V rows cl)=>match K.read k,ga P d K with
   |some key,true=>some (true,H.set id (.map K V (IY K.ks rows key) cl))
   |_,_=>none
  |_=>none
 |_,_=>none
theorem I4{α β:Type}(f:α→β):∀(l:List α) (i:Nat),(l.map f).eraseIdx i=(l.eraseIdx i).map f
 | [],_=>by simp
 |_::_,0=>by simp
 |_::l,i+1=>by simp[I4 f l i]
theorem Uc{P:Program}{t:TypeId}{m k:AV}{b:Bool}{H H':List ai}(h:tF P t m k H=some (b,H')):sZ P t m k (ao H)=some (ao H'):=by
 unfold tF at h;unfold sZ;split at h
 case h_2=>cases h
 rename_i q u id g;rw[g];simp only[];split at h
 case h_2=>cases h
 rename_i K V rows cl hid;rw[bk hid];simp only[ai.den];split at h
 case h_2=>cases h
 rename_i key hk d;cases h;rw[←Ct.jK hk,jf d];simp only[qy d,c7,ai.den];unfold IY;cases v:bT K.ks key rows 0 with
 |none=>rfl
 |some p=>simp only[eF,c9,I4]
def tG(P:Program)(t:TypeId)(x:AV)(H:List ai):Option (Bool × List ai) :=
 match b_ P t,x with
 | .slice e sz _,.vec w id ae off n=>match dS P e,H[id]? with
  | some z,some (.vec ks v rows)=>match fF ks (z.map .lit) with
   | some d=>if ks.length=w∧w=sz∧v=ae∧z.length=sz∧0<sz then
     some (dH (off+n) rows.length,H.set id (.vec ks v (rows.take off++bM n d++rows.drop (off+n)))) else none
   |none=>none
  |_,_=>none
 |_,_=>none
theorem Ud{P:Program}{t:TypeId}{x:AV}{b:Bool}{H H':List ai}(h:tG P t x H=some (b,H'))(hb:b=true):s7 P t x (ao H)=some (ao H'):=by
 unfold tG at h;unfold s7;split at h
 case h_2=>cases h
 rename_i e sz y w id ae off n hk;rw[hk];simp only[];split at h
 case h_2=>cases h
 rename_i z ks v rows k hid;rw[k,bk hid];simp only[ai.den];split at h
 case h_2=>cases h
 rename_i B g;split at h
 case isFalse=>cases h
 rename_i q;obtain⟨rfl,rfl,rfl,h1,u⟩:=q;simp only[aZ,be]at h;obtain⟨d,rfl⟩:=h;subst hb;have d:=sH d;simp only[h1,u,dE,d,and_self,if_true,c7,ai.den,aZ];rw[←jJ g];simp[List.map_take,List.map_drop]
def tH(P:Program)(t xt:TypeId)(s x:AV)(H:List ai):Option (Bool × AV × List ai) :=
 match b_ P t,b_ P xt,s,x with
 | .slice e sz d,.int _,.lit (.slice none 0 0),.lit (.int _ n)=>match dS P e with
  | some z=>match oL (z.map .lit) with
   | some ks=>match fF ks (z.map .lit) with
    | some g=>if z.length=sz∧0<sz∧d≤1048576∧ks.length=sz then
      some (al 0 n&&a8 n 1048576,.vec sz H.length 0 0 n.toNat,H++[.vec ks 0 (bM n.toNat g)]) else none
    |none=>none
   |none=>none
  |none=>none
 |_,_,_,_=>none
theorem Ue{P:Program}{t xt:TypeId}{s x v:AV}{b:Bool}{H H':List ai}(h:tH P t xt s x H=some (b,v,H'))(hb:b=true):oA P t xt s x (ao H)=some (v,ao H'):=by
 unfold tH at h;unfold oA;split at h
 case h_2=>cases h
 rename_i e sz M k k' n hk g;rw[hk,g];simp only[];split at h
 case h_2=>cases h
 rename_i z u;rw[u];simp only[];split at h
 case h_2=>cases h
 rename_i ks N;split at h
 case h_2=>cases h
 rename_i O q;split at h
 case isFalse=>cases h
 rename_i y;obtain⟨h1,B,I,J⟩:=y;simp only[aZ,be]at h;obtain⟨d,rfl,rfl⟩:=h;subst hb;simp only[dV,eT,aB,decide_eq_true_eq]at d;simp only[h1,B,I,d.1,d.2,and_self,if_true,gB,ai.den,eg,J,aZ,be,true_and];rw[←jJ q];simp
def fk(ks:List Kd)(rows:List (List G))(key:List G):Option Nat:=match bT ks key rows 0 with
 |some (_,r)=>oJ r
 |none=>none
def kz(mem:List (List G)):Option Nat→Bool
 |some i=>fj i mem.length
 |none=>false
def gd(mem:List (List G)):Option Nat→List G
 |some i=>mem.getD i []
 |none=>[]
def qC(mem:List (List G))(j:Option Nat)(ks:List Kd)(key val:List G):List (List G):=match j with
 |some i=>mem.set i [.l (aL ks (gi (gd mem j) 0).rows key val (gi (gd mem j) 1).int.toNat),.i (bD ks (gi (gd mem j) 0).rows key (gi (gd mem j) 1).int.toNat:Nat)]
 |none=>mem
def qD(rows:List (List G))(st:Int):Bool:=match eU st rows 0 with
 |some (_,r) => !a8 0 (gi r 1).int
 |none=>false
def qE(rows:List (List G))(st:Int)(n:Nat):List (List G):=match eU st rows 0 with
 |some (i,r)=>rows.set i [gi r 0,.i n,gi r 2]
 |none=>rows
theorem BE{P:Program}{g:TypeId}{K:Ct}(h:ga P g K=true)(key:List G):∀(rows:List (List G)) (i:Nat),dZ P g (c_ K.ks key) (e9 (gS K rows)) i =
  some ((bT K.ks key rows i).map fun p=>(p.1,AV.undef))
 | [],i=>rfl
 | r::rs,i=>by
  have q:=BE h key rs (i+1);have k:∃ d,je d K.ks=true:=by
   unfold ga at h;split at h
   ·simp only[aB]at h; exact⟨_,h.1⟩
   ·cases h
  obtain⟨d,u⟩:=k;simp only[gS,e9,dq,dZ,jf h,w9 _ _ u,bT];cases a_ K.ks key (gi r 0).row with
  |true=>rfl
  |false=>exact q
theorem I5{K:Ct}{rows:List (List G)}{i:Nat}{r:List G}(h:rows[i]? = some r):(gS K rows)[i]? = some (K.av (gi r 0).row,oJ r,(gi r 2).int.toNat):=by
 unfold gS;rw[bZ,h];rfl
theorem I6{KI VI:Ct}{mem:List (List G)}{i:Nat}(h:i<mem.length):(mV KI VI mem)[i]? = some (c9 KI VI (gi (mem.getD i []) 0).rows,(gi (mem.getD i []) 1).int.toNat):=by
 unfold mV;rw[bZ,ch,bI h];rfl
def BF(P:Program)(t:TypeId)(m k:AV)(ok:Bool)(H:List ai):Option (Bool × AV) :=
 match cW P t,m with
 | some (d,g),.sub id l j=>match H[id]? with
  | some (.mm l' _ KI VI _ mem _)=>match KI.read k,mY P g with
   | some key,some (h,z)=>match ad l l'&&(ga P d KI&&VI.same h) with
    | true=>some (kz mem j,match ok with
      |true=>.tuple [VI.av (aA KI.ks (gi (gd mem j) 0).rows key z),.lit (.bool (dL KI.ks (gi (gd mem j) 0).rows key))]
      |false=>VI.av (aA KI.ks (gi (gd mem j) 0).rows key z))
    |false=>none
   |_,_=>none
  |_=>none
 | some (d,g),.map id=>match H[id]?,ok with
  | some (.mm l K _ _ rows _ _),false=>match K.read k,gz P g with
   | some key,some (.lit (.map none))=>match ga P d K with
    |true=>some (true,.sub id l (fk K.ks rows key))
    |false=>none
   |_,_=>none
  |_,_=>none
 |_,_=>none
theorem Uf{P:Program}{t:TypeId}{m k v:AV}{ok b:Bool}{H:List ai}(h:BF P t m k ok H=some (b,v))(hb:b=true):fB P t m k ok (ao H)=none∧ja P t m k ok (ao H)=some v:=by
 unfold BF at h;unfold ja fB;split at h
 ·rename_i B I id l j g
  rw[g];refine⟨rfl,?_⟩;split at h
  case h_2=>cases h
  rename_i l' K KI VI rows mem cl hid;split at h
  case h_2=>cases h
  rename_i key O z hk q;split at h
  case h_2=>cases h
  rename_i d;simp only[aB]at d;obtain⟨J,d,M⟩:=d;have e:=Ct.jd M;subst e;simp only[aZ,be]at h;obtain⟨hi,rfl⟩:=h;rw[hb]at hi;cases j with
  |none=>cases hi
  | some i =>
   have y:i<mem.length:=by simpa[kz]using hi
   simp only[qh,g];rw[bk hid];simp only[ai.den,J,I6 y,gd];rw[←Ct.jK hk,jf d,IW q];simp only[qy d];unfold aA dL;cases bT KI.ks key (gi (mem.getD i []) 0).rows 0 with
   |none=>cases ok<;>rfl
   |some p=>cases ok<;>rfl
 ·rename_i B I id g
  rw[g];split at h
  case h_2=>cases h
  rename_i l K KI VI rows mem cl hid;split at h
  case h_2=>cases h
  rename_i key hk q;split at h
  case h_2=>cases h
  rename_i d;simp only[oD,g];rw[bk hid];simp only[ai.den];refine⟨trivial,?_⟩;rw[←Ct.jK hk,jf d,q];simp only[BE d];cases h;unfold fk;cases N:bT K.ks key rows 0 with
  |none=>rfl
  | some p =>
   obtain⟨i,r⟩:=p;obtain⟨_,u⟩:=oM N;rw[fS]at u;simp only[eF,I5 u]
 ·cases h
def tJ(P:Program)(t:TypeId)(m k v:AV)(H:List ai):Option (Bool × List ai) :=
 match cW P t,m with
 | some (d,_),.sub id l j=>match H[id]? with
  | some (.mm l' K KI VI rows mem cl)=>match KI.read k,VI.read v with
   | some key,some val=>match ad l l'&&ga P d KI with
    |true=>some (kz mem j,H.set id (.mm l' K KI VI rows (qC mem j KI.ks key val) cl))
    |false=>none
   |_,_=>none
  |_=>none
 |_,_=>none
theorem Ug(KI VI:Ct)(mem:List (List G))(i:Nat)(r:List G):mV KI VI (mem.set i r)=(mV KI VI mem).set i (c9 KI VI (gi r 0).rows,(gi r 1).int.toNat):=by
 simp[mV,sE]
theorem Uh(K:Ct)(rows:List (List G))(i:Nat)(r:List G):gS K (rows.set i r)=(gS K rows).set i (K.av (gi r 0).row,oJ r,(gi r 2).int.toNat):=by
 simp[gS,sE]
theorem Ui{P:Program}{t:TypeId}{m k v:AV}{b:Bool}{H H':List ai}(h:tJ P t m k v H=some (b,H'))(hb:b=true) :
  ta P t m k v (ao H)=some (ao H')∧kV P t m k v (ao H)=none∧oB P t m k v (ao H)=none:=by
 unfold tJ at h;unfold ta kV oB;split at h
 case h_2=>cases h
 rename_i O U id l j J;rw[J];refine⟨?_,rfl,rfl⟩;split at h
 case h_2=>cases h
 rename_i l' K KI VI rows mem cl hid;split at h
 case h_2=>cases h
 rename_i key val hk M;split at h
 case h_2=>cases h
 rename_i d;simp only[aB]at d;obtain⟨g,d⟩:=d;have e:=bt g;subst e;simp only[aZ,be]at h;obtain⟨hi,rfl⟩:=h;rw[hb]at hi;cases j with
 |none=>cases hi
 | some i =>
  have B:i<mem.length:=by simpa[kz]using hi
  simp only[];rw[bk hid];simp only[ai.den,I6 B,g];rw[←Ct.jK hk,←Ct.jK M,jf d];simp only[Ct.th,and_self,if_true,qy d,c7,ai.den,qC,gd,Ug];generalize mem.getD i []=m0;have q:∀(X:List (List G)) (n:Nat),(gi [G.l X,G.i n] 0).rows=X:=fun _ _=>rfl;have u:∀(X:List (List G)) (n:Nat),(gi [G.l X,G.i n] 1).int.toNat=n:=fun _ _=>rfl;unfold aL bD dL;cases N:bT KI.ks key (gi m0 0).rows 0 with
  | none =>
   simp only[vP,GC,cond_false,q,u];rw[show c9 KI VI ((gi m0 0).rows++[[.l [key],.l [val],.i (gi m0 1).int.toNat]])=c9 KI VI (gi m0 0).rows++[(KI.av key,VI.av val,(gi m0 1).int.toNat)] from by
    simp only[c9,j6,dq,sF];rfl]
  | some p =>
   obtain⟨_,y⟩:=oM (r:=p.2) (j:=p.1) N;rw[fS]at y;have I:(c9 KI VI (gi m0 0).rows)[p.1]? = some (KI.av (gi p.2 0).row,VI.av (gi p.2 1).row,(gi p.2 2).int.toNat):=by simp[c9,y]
   simp only[eF,I2 _ I,GX,cond_true,q,u,I1];rfl
def tK(P:Program)(t:TypeId)(m k:AV)(H:List ai):Option (Bool × AV × List ai) :=
 match cW P t,m with
 | some (d,g),.map id=>match H[id]? with
  | some (.mm l K KI VI rows mem cl)=>match K.read k,gz P g with
   | some key,some (.lit (.map none))=>match ga P d K with
    |true=>some (!dL K.ks rows key,.tuple [.sub id l none,.lit (.int .i64 (cl:Nat))],H.set id (.mm l K KI VI (rows++[[.l [key],.i (-1),.i cl]]) mem (cl+1)))
    |false=>none
   |_,_=>none
  |_=>none
 |_,_=>none
theorem Uj{P:Program}{t:TypeId}{m k v:AV}{b:Bool}{H H':List ai}(h:tK P t m k H=some (b,v,H'))(hb:b=true) :
  iF P t m k (ao H)=some (v,ao H')∧gO P t m k (ao H)=none:=by
 unfold tK at h;unfold iF gO;split at h
 case h_2=>cases h
 rename_i B I id q;rw[q];split at h
 case h_2=>cases h
 rename_i l K KI VI rows mem cl hid;simp only[];rw[bk hid];simp only[ai.den];split at h
 case h_2=>cases h
 rename_i key hk u;split at h
 case h_2=>cases h
 rename_i g;simp only[aZ,be]at h;obtain⟨d,rfl,rfl⟩:=h;rw[hb]at d;rw[←Ct.jK hk,jf g,u];simp only[Ct.th,BE g,and_true];unfold dL at d;cases y:bT K.ks key rows 0 with
 |some p=>rw[y]at d; cases d
 | none =>
  simp only[vP,c7,ai.den];rw[show gS K (rows++[[.l [key],.i (-1),.i cl]])=gS K rows++[(K.av key,none,cl)] from by
   simp only[gS,j6,dq,sF];rfl]
  rfl
theorem I7{K:Ct}{st:Int}:∀{rows:List (List G)} {i:Nat},(eU st rows i).map (·.1)=(oE (gS K rows) st).map (·+i)
 | [],_=>rfl
 | x::rs,i=>by
  have d:=I7 (K:=K) (st:=st) (rows:=rs) (i:=i+1);unfold oE at d⊢;simp only[eU,gS,dq,GM]at d⊢;cases g:((gi x 2).int.toNat:Int)==st with
  |true=>simp
  | false =>
   simp only[cond_false,d,kK,if_false,GY];congr 1
   funext n
   simp only[GZ];omega
def tL(m s v:AV)(H:List ai):Option (Bool × List ai) :=
 match m,s,v with
 | .map id,.lit (.int .i64 st),.map j=>match H[id]?,H[j]? with
  | some (.mm l K KI VI rows mem cl),some (.map h k d g)=>match KI.same h&&VI.same k with
   |true=>some (qD rows st,(H.set id (.mm l K KI VI (qE rows st mem.length) (mem++[[.l d,.i g]]) cl)).set j (.raw .dead))
   |false=>none
  |_,_=>none
 |_,_,_=>none
theorem Uk{m s v:AV}{b:Bool}{H H':List ai}(h:tL m s v H=some (b,H'))(hb:b=true) :
  km m s v (ao H)=some (ao H')∧jD m s v (ao H)=none:=by
 unfold tL at h;unfold km jD;split at h
 case h_2=>cases h
 rename_i id st j;split at h
 case h_2=>cases h
 rename_i l K KI VI rows mem cl U V N O hid B;refine⟨?_,rfl⟩;simp only[];rw[bk hid,bk B];simp only[ai.den];split at h
 case h_2=>cases h
 rename_i k;simp only[aB]at k;have I:=Ct.jd k.1;have J:=Ct.jd k.2;subst I J;simp only[aZ,be]at h;obtain⟨d,rfl⟩:=h;rw[hb]at d;unfold qD at d;unfold qE;cases g:eU st rows 0 with
 |none=>rw[g]at d; cases d
 | some p =>
  obtain⟨i,r⟩:=p;rw[g]at d;obtain⟨_,q⟩:=BD g;rw[fS]at q;have hi:oE (gS K rows) st=some i:=by
   have:=I7 (K:=K) (st:=st) (rows:=rows) (i:=0);rw[g]at this;cases u:oE (gS K rows) st with
   |none=>rw[u]at this; cases this
   |some y=>rw[u]at this; simp at this; rw[this]
  have hm:oJ r=none:=by
   unfold oJ;cases M:a8 0 (gi r 1).int with
   |true=>simp[M]at d
   |false=>rfl
  rw[hi];simp only[I5 q,hm,c7,ai.den,Uh];simp[oJ,mV,gi,G.row,G.rows,G.int,a8,show ∀ n,dH 0 n=true from fun n=>Nat.ble_eq_true_of_le (ef n)]
def qF(P:Program)(r:Operand→AV)(H:List ai):Op→Option (Bool × AV × List ai)
 | .alloc t=>match wB P t with
  |some e=>if lS (ao H) 0=true then some (true,.ptr H.length 0 0 0 0,H++[.raw (.er 0 t e vA)]) else none
  | none=>match dS P t with
   |some z=>some (true,.ptr H.length 0 0 0 0,H++[.raw (.box (z.map .lit))])
   |none=>none
 | .box _ x=>match ot (r x) with
  |some cs=>some (true,.ptr H.length 0 0 0 0,H++[.raw (.box cs)])
  |none=>none
 | .store t a x=>match qw P t (r a) (r x) H with
  |some (b,H')=>some (b,.undef,H')
  |none=>none
 |.makeSlice t l c=>tv P t (r l) (r c) H
 |.buildSlice t n parts=>tw P t n (parts.toList.map fun p=>(p.1,r p.2)) H
 | .range t x=>match b_ P t,r x with
  |.str,.lit (.string s)=>some (true,.ptr H.length 0 0 0 0,H++[.raw (.iter s 0)])
  |_,_=>none
 | .next it true=>match r it with
  | .ptr id 0 _ 0 0=>match H[id]? with
   | some (.raw (.iter s pos))=>if pos<s.size then some (true,.tuple [.lit (.bool true),.lit (goInt pos),.lit (.int .i32 (mC s pos).1)],H.set id (.raw (.iter s (pos+(mC s pos).2))))
     else some (true,.tuple [.lit (.bool false)],H)
   |_=>none
  |_=>none
 | .makeMap t none=>match cW P t with
  | some (g,d)=>match mY P g,mY P d with
   |some (K,_),some (V,_)=>some (true,.map H.length,H++[.map K V [] 0])
   | some (K,_),none=>match cW P d with
    |some _=>some (true,.map H.length,H++[.map K K [] 0])
    |none=>none
   |_,_=>none
  |none=>none
 | .mapUpdate t m k v=>match qz P t (r m) (r k) (r v) H with
  |some (b,H')=>some (b,.undef,H')
  | none=>match tz P t (r m) (r k) (r v) H with
   |some (b,H')=>some (b,.undef,H')
   | none=>match tJ P t (r m) (r k) (r v) H with
    |some (b,H')=>some (b,.undef,H')
    |none=>none
 |.lookup t m k false=>tx P t (r m) (r k) H
 | .mapEntry t m k=>match tA P t (r m) (r k) H with
  |some y=>some y
  |none=>tK P t (r m) (r k) H
 | .entryStore _ m s x=>match tC (r m) (r s) (r x) H with
  |some (b,H')=>some (b,.undef,H')
  | none=>match tL (r m) (r s) (r x) H with
   |some (b,H')=>some (b,.undef,H')
   |none=>none
 | .insert t m k v=>match qz P t (r m) (r k) (r v) H with
  |some (b,H')=>some (b,.undef,H')
  |none=>none
 | .call c=>match c.callee with
  | .builtin .append=>match c.args.toList,c.argTypes.toList with
   | [s,x],[t,xt]=>match b_ P xt with
    |.int _=>tH P t xt (r s) (r x) H
    |_=>tu P t xt (r s) (r x) H
   |_,_=>none
  | .builtin .clear=>match c.args.toList,c.argTypes.toList with
   | [x],[t]=>match tG P t (r x) H with
    |some (b,H')=>some (b,.tuple [],H')
    |none=>none
   |_,_=>none
  | .builtin .delete=>match c.args.toList,c.argTypes.toList with
   | [x,k],t::_=>match tF P t (r x) (r k) H with
    |some (b,H')=>some (b,.tuple [],H')
    |none=>none
   |_,_=>none
  |_=>none
 |_=>none
theorem Ul{P:Program}{t xt:TypeId}{s x:AV}{H:List ab}(h:∀ k,b_ P xt≠.int k):oA P t xt s x H=none:=by
 unfold oA;split
 ·rename_i hk
  exact(h _ hk).elim
 ·rfl
theorem I8{P:Program}{r:Operand→AV}{H H':List ai}{o:Op}{v:AV}{b:Bool}(h:qF P r H o=some (b,v,H'))(hb:b=true):cT P r (ao H) o=some (v,ao H'):=by
 cases o<;>simp only[qF]at h<;>try cases h
 case alloc t =>
  split at h
  ·rename_i e he
   split at h
   ·rename_i N
    cases h;simp only[cT,ox,he,N,if_true,eg,gB,ai.den]
   ·cases h
  ·rename_i he
   split at h
   ·rename_i z I; cases h; simp only[cT,ox,he,I,eg,gB,ai.den]
   ·cases h
 case box t x =>
  split at h
  ·rename_i z I; cases h; simp only[cT,wD,I,eg,gB,ai.den]
  ·cases h
 case store t a x =>
  split at h
  ·rename_i g H1 d; cases h; simp only[cT,IT d hb]
  ·cases h
 case makeSlice t l c=>simp only[cT]; exact T6 h hb
 case buildSlice t n ps=>simp only[cT]; exact T7 h
 case range t x =>
  split at h
  ·rename_i s hk J
   cases h;simp only[cT,wF,hk,J,eg,gB,ai.den]
  ·cases h
 case next it isString =>
  cases isString with
  |false=>cases h
  | true =>
   simp only[]at h;split at h
   ·rename_i id k J
    split at h
    ·rename_i s pos hid
     simp only[cT,wG,J,bk hid,ai.den];split at h
     ·rename_i B
      cases h;rw[if_pos B,c7];rfl
     ·rename_i B
      cases h;rw[if_neg B]
    ·cases h
   ·cases h
 case makeMap t res =>
  cases res with
  |some _=>cases h
  | none =>
   simp only[]at h;split at h
   ·split at h
    ·cases h
     simp only[cT,eg,gB,ai.den];rfl
    ·split at h
     ·cases h
      simp only[cT,eg,gB,ai.den];rfl
     ·cases h
    ·cases h
   ·cases h
 case mapUpdate t m k x =>
  split at h
  ·rename_i g H1 d
   cases h;simp only[cT,I3 d]
  ·split at h
   ·rename_i g H1 d
    cases h;obtain⟨g1,g2⟩:=T_ d hb;simp only[cT,g1,g2]
   ·split at h
    ·rename_i g H1 d
     cases h;obtain⟨g1,g2,g3⟩:=Ui d hb;simp only[cT,g1,g2,g3]
    ·cases h
 case lookup t m k ok =>
  cases ok with
  |true=>cases h
  | false =>
   obtain⟨g1,g2⟩:=T9 h hb;simp only[cT,g1,g2]
 case mapEntry t m k =>
  split at h
  ·rename_i y O
   cases h;simp only[cT,Ua O hb]
  ·obtain ⟨g1, g2⟩ := Uj h hb
   simp only[cT,g1,g2]
 case entryStore t m s x =>
  split at h
  ·rename_i g H1 d
   cases h;simp only[cT,Ub d hb]
  ·split at h
   ·rename_i g H1 d
    cases h;obtain⟨g1,g2⟩:=Uk d hb;simp only[cT,g1,g2]
   ·cases h
 case insert t m k x =>
  split at h
  ·rename_i g H1 d
   cases h;simp only[cT,I3 d]
  ·cases h
 case call c =>
  simp only[cT,wO];split at h
  ·rename_i q
   rw[q];split at h
   ·rename_i h1 u
    simp only[h1,u];split at h
    ·rw[Ue h hb]
    ·rename_i M
     rw[Ul M];exact T4 h hb
   ·cases h
  ·rename_i q
   rw[q];split at h
   ·rename_i h1 u
    simp only[h1,u];split at h
    ·rename_i d
     cases h;rw[Ud d hb]
    ·cases h
   ·cases h
  ·rename_i q
   rw[q];split at h
   ·rename_i h1 u
    simp only[h1,u];split at h
    ·rename_i d
     cases h;rw[Uc d]
    ·cases h
   ·cases h
  ·cases h
end Go.AL

namespace Go.AL
open Go
variable [Dr]
def qG(n:Int):Option (Bool × AV):=some (aq n,.lit (.int .i64 n))
def BG(P:Program)(op:BinOp)(t:TypeId)(d:Bool)(x y:AV):Option (Bool × AV) :=
 match op,x,y with
 |.add,.lit (.int .i64 a),.lit (.int .i64 b)=>qG (a+b)
 |.sub,.lit (.int .i64 a),.lit (.int .i64 b)=>qG (a-b)
 |.mul,.lit (.int .i64 a),.lit (.int .i64 b)=>qG (a*b)
 |.quo,.lit (.int .i64 a),.lit (.int .i64 b)=>some (!(b==0)&&aq (a.tdiv b),.lit (.int .i64 (a.tdiv b)))
 |.rem,.lit (.int .i64 a),.lit (.int .i64 b)=>some (!(b==0),.lit (.int .i64 (a.tmod b)))
 |.add,.lit (.string a),.lit (.string b)=>some (dH (a.size+b.size) 9223372036854775807,.lit (.string (a++b)))
 |.lss,.lit (.int k a),.lit (.int k' b)=>if k=k' then some (true,.lit (.bool (al a b))) else none
 |.leq,.lit (.int k a),.lit (.int k' b)=>if k=k' then some (true,.lit (.bool (a8 a b))) else none
 |.gtr,.lit (.int k a),.lit (.int k' b)=>if k=k' then some (true,.lit (.bool (al b a))) else none
 |.geq,.lit (.int k a),.lit (.int k' b)=>if k=k' then some (true,.lit (.bool (a8 b a))) else none
 |.and,.lit (.int k a),.lit (.int k' b)=>if k=k' then some (true,.lit (.int k (Hf k a b))) else none
 |.or,.lit (.int k a),.lit (.int k' b)=>if k=k' then some (true,.lit (.int k (Hg k a b))) else none
 |.xor,.lit (.int k a),.lit (.int k' b)=>if k=k' then some (true,.lit (.int k (Hh k a b))) else none
 |.shl,.lit (.int k a),.lit (.int _ b)=>some (az b,.lit (.int k (As k a b)))
 |.shr,.lit (.int k a),.lit (.int _ b)=>some (az b,.lit (.int k (dP k a b)))
 | op,.listF ks rows,.lit (.slice none 0 0)=>match P.underlying t,i_ op false with
  |some (.slice _),some v=>some (fj 0 rows.length,v)
  |_,_=>none
 | op,.vec w id ae off m,.lit (.slice none 0 0)=>match P.underlying t,i_ op false with
  |some (.slice _),some v=>some (fj 0 m,v)
  |_,_=>none
 | _,_,_=>match fY P op t d x y with
  |some v=>some (true,v)
  |none=>none
def BH(m sz:Nat)(cells:List AV):Option (Kd × List (List G)) :=
 match tn (cells.headD .undef)with
 | some k=>match bx [k] (cells.map fun c=>[c]) with
  |some rows=>if sz=1∧m=cells.length then some (k,rows) else none
  |none=>none
 |none=>none
theorem Um{m sz:Nat}{cells:List AV}{k:Kd}{rows:List (List G)}(h:BH m sz cells=some (k,rows)){j:Nat}(g:j<m) :
  aJ [k] (rows.getD j [])=(cells.drop (j*sz)).take sz:=by
 unfold BH at h;split at h
 ·split at h
  ·rename_i rows' q
   split at h
   ·rename_i u
    obtain⟨rfl,rfl⟩:=u;cases h;have e:=oK q;have v:rows.length=cells.length:=by have:=congrArg G0 e; simpa using this
    have d:(rows.map (aJ [k]))[j]? = (cells.map fun c=>[c])[j]? := by rw[e]
    rw[Bx (by omega),bZ,bI g]at d;simp only[eF,aZ]at d;rw[d,agH,List.drop_eq_getElem_cons g,List.take_succ_cons,List.take_zero]
   ·cases h
  ·cases h
 ·cases h
def BI(k:SK)(x i:AV):Option (Bool × AV) :=
 match k,x,i with
 |.slice _ sz _,.listF ks rows,.lit (.int _ j)=>if ks.length=sz then some (az j&&al j (rows.length:Int),.cptr (aJ ks (rows.getD j.toNat []))) else none
 |.slice _ sz _,.vec w id ae off m,.lit (.int _ j)=>if w=sz then some (az j&&al j (m:Int),.ptr id ae w (off+j.toNat) 0) else none
 | .array m _ sz _,.cptr cells,.lit (.int d j)=>match BH m sz cells with
  |some (g,rows)=>some (az j&&al j (m:Int),.cptr (aJ [g] (rows.getD j.toNat [])))
  | none=>match kg k (.cptr cells) (.lit (.int d j)) with
   |some v=>some (true,v)
   |none=>none
 | _,_,_=>match kg k x i with
  |some v=>some (true,v)
  |none=>none
def tM:List AV→Option (List Int)
 | []=>some []
 | .lit (.int .i64 n)::l=>match tM l with
  |some q=>some (n::q)
  |none=>none
 |_=>none
theorem I9:∀{cells:List AV} {l:List Int},tM cells=some l→∀ i,i<l.length→cells[i]? = some (.lit (.int .i64 (l.getD i 0)))
 | [],l,h,i,hi=>by
  simp only[tM,aZ]at h;subst h;simp at hi
 | c::cells,l,h,i,hi=>by
  unfold tM at h;split at h
  ·rename_i he
   cases he
  ·rename_i n l' he
   cases he;split at h
   ·rename_i q d
    cases h;cases i with
    |zero=>rfl
    | succ i =>
     simp only[List.length_cons]at hi;have:=I9 d i (by omega);simpa using this
   ·cases h
  ·cases h
def BJ(k:SK)(x i:AV):Option (Bool × AV) :=
 match k,x,i with
 |.str,.lit (.string s),.lit (.int _ j)=>some (az j&&al j (s.size:Int),.lit (.int .u8 ((s.data.toList.getD j.toNat 0).toNat)))
 | .array m _ 1 false,.agg cells,.lit (.int _ j)=>match tM cells with
  |some l=>bif dH m l.length then some (az j&&al j (m:Int),.lit (.int .i64 (l.getD j.toNat 0))) else none
  | none=>match mQ k x i with
   |some v=>some (true,v)
   |none=>none
 | _,_,_=>match mQ k x i with
  |some v=>some (true,v)
  |none=>none
def BK(op:UnOp)(x:AV):Option (Bool × AV) :=
 match op,x with
 |.neg,.lit (.int .i64 n)=>some (aq (0-n),.lit (.int .i64 (0-n)))
 | _,_=>match qa op x with
  |some v=>some (true,v)
  |none=>none
def BL(P:Program)(s d:TypeId)(x:AV):Option (Bool × AV) :=
 match P.underlying s,b_ P d,x with
 |some _,.int .i64,.lit (.int _ n)=>some (aq n,.lit (.int .i64 n))
 | _,_,_=>match qb P s d x with
  |some v=>some (true,v)
  |none=>none
def BM(P:Program)(r:Operand→AV)(o:Op):Option (Bool × AV) :=
 match o with
 |.indexAddr t x i=>BI (b_ P t) (r x) (r i)
 |.index t x i=>BJ (b_ P t) (r x) (r i)
 |.binOp op t x y _=>BG P op t (kW x||kW y) (r x) (r y)
 |.slice t x lo hi mx=>BB P t (r x) (lo.map r) (hi.map r) (mx.map r)
 |.unOp op _ x=>BK op (r x)
 |.convert s d x=>BL P s d (r x)
 | o=>match gA P r o with
  |some v=>some (true,v)
  |none=>none
theorem nc{x:Option AV}{b:Bool}{v:AV} (h:(match x with|some v=>some (true,v)|none=>none)=some (b,v)):x=some v:=by
 split at h
 ·cases h; rfl
 ·cases h
theorem oN{n:Int}(h:aq n=true):IntKind.i64.wrap n=n:=by
 rw[kq]at h;simp[IntKind.wrap,IntKind.bits,IntKind.signed];omega
theorem Un{P:Program}{op:BinOp}{t:TypeId}{q:Bool}{x y v:AV}{b:Bool}(h:BG P op t q x y=some (b,v))(hb:b=true):fY P op t q x y=some v:=by
  unfold BG at h;split at h
  · simp only [qG, aZ, be] at h
    obtain⟨h1,rfl⟩:=h;subst hb;simp[fY,gJ,kP,oN h1]
  · simp only [qG, aZ, be] at h
    obtain⟨h1,rfl⟩:=h;subst hb;simp[fY,gJ,kP,oN h1]
  · simp only [qG, aZ, be] at h
    obtain⟨h1,rfl⟩:=h;subst hb;simp[fY,gJ,kP,oN h1]
  · simp only [aZ, be] at h
    obtain⟨h1,rfl⟩:=h;subst hb;simp only[aB,mE,beq_eq_false_iff_ne]at h1;simp[fY,gJ,kP,h1.1,oN h1.2]
  · simp only [aZ, be] at h
    obtain⟨h1,rfl⟩:=h;subst hb;simp only[mE,beq_eq_false_iff_ne]at h1;simp[fY,gJ,kP,h1]
  · simp only [aZ, be] at h
    obtain⟨h1,rfl⟩:=h;subst hb;have g:=sH h1;have d:∀ k:Nat,k≤9223372036854775807→¬ ((k:Int)>IntKind.i64.max):=fun k hk=>by
      show ¬ ((k:Int)>(9223372036854775807:Int))
      omega
    simp only[fY,gJ,Au,if_neg (d _ g)]
  all_goals first
    |exact nc h
    | (split at h
       case isFalse=>cases h
       rename_i hk;subst hk;cases h;simp[fY,gJ,kP,dV,eT])
    | (simp only [aZ, be] at h
       obtain⟨h1,rfl⟩:=h;subst hb;simp only[jH,decide_eq_true_eq]at h1;simp only[fY,gJ,if_neg (Int.not_lt.2 h1)])
    | (split at h
       · rename_i h1 g
         simp only[aZ,be]at h;obtain⟨d,rfl⟩:=h;subst hb;simp only[j8]at d;simp only[fY,h1,if_pos d,g]
       · cases h)
theorem Uo{k:SK}{x i v:AV}{b:Bool}(h:BI k x i=some (b,v))(hb:b=true):kg k x i=some v:=by
 unfold BI at h;split at h
 ·split at h
  ·rename_i hw
   simp only[aZ,be]at h;obtain⟨h1,rfl⟩:=h;subst hb;simp only[jH,dV,aB,decide_eq_true_eq]at h1;simp[kg,hw,h1.1,h1.2]
  ·cases h
 ·split at h
  ·rename_i hw
   simp only[aZ,be]at h;obtain⟨h1,rfl⟩:=h;subst hb;simp only[jH,dV,aB,decide_eq_true_eq]at h1;simp[kg,hw,h1.1,h1.2]
  ·cases h
 ·split at h
  ·rename_i g rows d
   simp only[aZ,be]at h;obtain⟨h1,rfl⟩:=h;subst hb;simp only[jH,dV,aB,decide_eq_true_eq]at h1;rw[Um d (by omega)];simp[kg,h1.1,h1.2]
  ·exact nc h
 ·exact nc h
theorem Up{k:SK}{x i v:AV}{b:Bool}(h:BJ k x i=some (b,v))(hb:b=true):mQ k x i=some v:=by
 unfold BJ at h;split at h
 ·rename_i s g j
  simp only[aZ,be]at h;obtain⟨h1,rfl⟩:=h;subst hb;simp only[jH,dV,aB,decide_eq_true_eq]at h1;have d:j.toNat<s.size:=by omega
  have e:s[j.toNat]? = some (s.data.toList.getD j.toNat 0):=by
   have q:j.toNat<s.data.toList.length:=by simpa using d
   rw[ch,bI q];simp only[getElem?,decidableGetElem?,d,dite_true,Option.getD_some];rfl
  simp only[mQ,h1.1,h1.2,and_self,if_true,e]
 ·rename_i m e cells g j
  split at h
  ·rename_i l u
   cases hm:dH m l.length with
   |false=>rw[hm]at h; cases h
   | true =>
    rw[hm]at h;simp only[cond_true,aZ,be]at h;obtain⟨h1,rfl⟩:=h;subst hb;rw[z6]at hm;simp only[jH,dV,aB,decide_eq_true_eq]at h1;have y:=I9 u j.toNat (by omega);simp only[mQ,h1.1,h1.2,and_self,if_true,gx,kK,if_false,agH,pG,Nat.add_zero,y]
  ·exact nc h
 ·exact nc h
theorem Uq{op:UnOp}{x v:AV}{b:Bool}(h:BK op x=some (b,v))(hb:b=true):qa op x=some v:=by
 unfold BK at h;split at h
 ·simp only [aZ, be] at h
  obtain⟨h1,rfl⟩:=h;subst hb;simp only[qa,oN h1]
 ·exact nc h
theorem Ur{P:Program}{s d:TypeId}{x v:AV}{b:Bool}(h:BL P s d x=some (b,v))(hb:b=true):qb P s d x=some v:=by
 unfold BL at h;split at h
 ·rename_i g k
  simp only[aZ,be]at h;obtain⟨h1,rfl⟩:=h;subst hb;simp only[qb,g,k,oN h1]
 ·exact nc h
theorem Us{P:Program}{r:Operand→AV}{o:Op}{b:Bool}{v:AV}(h:BM P r o=some (b,v))(hb:b=true):gA P r o=some v:=by
 cases o<;>simp only[BM]at h<;>try exact nc h
 case binOp=>simp only[gA]; exact Un h hb
 case indexAddr=>simp only[gA]; exact Uo h hb
 case index=>simp only[gA]; exact Up h hb
 case slice=>simp only[gA]; exact T5 h hb
 case unOp=>simp only[gA]; exact Uq h hb
 case convert=>simp only[gA]; exact Ur h hb
inductive Tree where
 |fail
 |done (x:bS) (s:ar)
 |ask (b:Bool) (t e:Tree)
 |side (b:Bool) (t:Tree)
def Tree.holds(Q:bS→ar→Prop):Tree→Prop
 |.fail=>False
 |.done x s=>Q x s
 |.ask b t e=>(b=true→t.holds Q)∧(b=false→e.holds Q)
 |.side b t=>b=true∧t.holds Q
structure aj where
 pf:FuncId→Bool
 T:FuncId→List AV→Option (Bool × AV)
 W:FuncId→List AV→List ai→Option (Bool × AV × List ai)
 C:FuncId→List AV→List ai→List Nat
 I:FuncId→List AV→List ai→Option Tree:=fun _ _ _=>none
 N:FuncId→Bool:=fun _=>false
 U:FuncId→Bool:=fun _=>true
structure ak (P:Program) (τ:aj):Prop where
 T:∀ f args b v,τ.T f args=some (b,v)→b=true→eS P f=true∧cH P f args v
 W:∀ f args H b v H',τ.W f args H=some (b,v,H')→b=true→eS P f=true∧dv P f args (ao H) v (ao H')
 C:∀ f args H b v H',τ.W f args H=some (b,v,H')→∀ A,A∉τ.C f args H→A<H.length→H'[A]? = H[A]?
 I:∀ f args H t,τ.I f args H=some t→∀ Q:bS→ar→Prop,t.holds Q→eS P f=true∧∃ v H',dv P f args (ao H) v (ao H')∧(∀ A,A∉τ.C f args H→A<H.length→H'[A]? = H[A]?)∧Q .normal ⟨[v],H'⟩
 F:(∀ f,τ.U f=false→∀ args H,τ.W f args H=none∧τ.C f args H=[])∧∀ f,τ.N f=true→∀ args H b v H',τ.W f args H=some (b,v,H')→∀ id o,id<H.length→id∉τ.C f args H →
  τ.W f args (H.set id o)=some (b,v,H'.set id o)∧τ.C f args (H.set id o)=τ.C f args H
def Tree.tN(k:AV→List ai→Tree):Tree→Tree
 |.fail=>.fail
 |.done _ s=>k (s.fr.headD .undef) s.H
 |.ask b t e=>.ask b (t.tN k) (e.tN k)
 |.side b t=>.side b (t.tN k)
theorem Tree.xb{k:AV→List ai→Tree}{Q:bS→ar→Prop}:∀{t:Tree},(t.tN k).holds Q→t.holds fun _ s=>(k (s.fr.headD .undef) s.H).holds Q
 |.fail,h=>h
 |.done _ _,h=>h
 |.ask _ t e,h=>⟨fun hb=>xb (t:=t) (h.1 hb),fun hb=>xb (t:=e) (h.2 hb)⟩
 |.side _ t,h=>⟨h.1,xb (t:=t) h.2⟩
inductive Want where
 |bad|yes|no
 |test (t:Tmp) (b:Bool) (want:Bool)
def nf(ops:Array Oper)(fr:List AV)(o:Oper):Want :=
 match o.guard with
 |none=>.yes
 | some (j,want)=>match (ops[j]?).bind (·.dst) with
  | some t=>match fr[t]? with
   |some (.lit (.bool b))=>.test t b want
   |some (.tuple [])=>.no
   |_=>.bad
  |none=>.bad
def xc:AV→Option Bool
 |.lit (.bool b)=>some b
 |_=>none
def tO(H:List ai):AV→Bool × AV
 | .vec w id ae off n=>match H[id]? with
  |some (.vec ks v rows)=>if ae=v∧ks.length=w∧off=0 then (ad n rows.length,.listF ks rows) else (true,.vec w id ae off n)
  |_=>(true,.vec w id ae off n)
 | .ptr id ae k row col=>match H[id]? with
  |some (.raw (.box cells))=>if ae=0∧row=0∧col=0∧AV.bq cells=true then (true,.cptr cells) else (true,.ptr id ae k row col)
  |_=>(true,.ptr id ae k row col)
 |a=>(true,a)
def oO(H:List ai):List AV→Bool × List AV
 | []=>(true,[])
 | a::as=>match tO H a,oO H as with
  |(b,g),(h,d)=>(b&&h,g::d)
def xd(H:List ai):AV→Bool × AV
 | .clo f caps=>match oO H caps with
  |(b,d)=>(b,.clo f d)
 |a=>tO H a
def ng(H:List ai):List AV→Bool × List AV
 | []=>(true,[])
 | a::as=>match xd H a,ng H as with
  |(b,g),(h,d)=>(b&&h,g::d)
def xe:List AV→Bool
 | []=>true
 |.lit _::as=>xe as
 |_::_=>false
def xf:AV→Bool
 |.lit _=>true
 |.tuple vs=>xe vs
 |_=>false
def BN(P:Program)(r:Operand→AV)(H:List ai)(o:Op):Option AV :=
 match o with
 | .call c=>match c.callee,c.args.toList,c.argTypes.toList with
  | .builtin .len,[a],[t]=>match cW P t,r a with
   | some _,.map id=>match H[id]? with
    |some (.map _ _ rows _)=>some (.lit (.int .i64 rows.length))
    |_=>none
   |_,_=>none
  |_,_,_=>none
 |_=>none
theorem Ut{P:Program}{r:Operand→AV}{H:List ai}{o:Op}{v:AV}(h:BN P r H o=some v):ev P r (ao H) o=some v:=by
 unfold BN at h;split at h
 ·rename_i c
  simp only[ev];split at h
  ·rename_i a t d ha g
   unfold mT;rw[d,ha,g];simp only[];split at h
   ·rename_i p id k hm
    rw[k,hm];simp only[];split at h
    ·rename_i K V rows cl hid
     cases h;rw[bk hid];simp[ai.den,c9]
    ·cases h
   ·cases h
  ·cases h
 ·cases h
def BO(v:AV)(H:List ai):Option (Bool × AV × List ai) :=
 match v with
 | .vec w id ae off n=>match H[id]? with
  |some (.vec ks u rows)=>if ae=u∧off=0∧w=ks.length then some (ad n rows.length,.listF ks rows,H.set id (.raw .dead)) else none
  |_=>none
 |_=>none
def tP(P:Program)(r:Operand→AV)(H:List ai):Op→Option (Bool × List ai)
 | .store t a x=>match BO (r x) H with
  | some (b0,v1,H1)=>match qw P t (r a) v1 H1 with
   |some (b1,H')=>some (b0&&b1,H')
   |none=>none
  |none=>none
 |_=>none
theorem Uu{P:Program}{r:Operand→AV}{H H':List ai}{o:Op}{b:Bool}(h:tP P r H o=some (b,H'))(hb:b=true):qj P r (ao H) .undef (ao H') o:=by
 unfold tP at h;split at h
 case h_2=>cases h
 rename_i t a x;split at h
 case h_2=>cases h
 rename_i b0 v1 H1 d;split at h
 case h_2=>cases h
 rename_i b1 H2 k;simp only[aZ,be]at h;obtain⟨h1,rfl⟩:=h;subst hb;simp only[aB]at h1;unfold BO at d;split at d
 case h_2=>cases d
 rename_i w id ae off n q;split at d
 case h_2=>cases d
 rename_i ks u rows hid;split at d
 case isFalse=>cases d
 rename_i v;obtain⟨rfl,rfl,rfl⟩:=v;simp only[aZ,be]at d;obtain⟨g,rfl,rfl⟩:=d;rw[h1.1]at g;have g:=bt g;subst g;refine⟨.listF ks rows,(ao H).set id .dead,⟨id,ae,ks,rows,q,?_,rfl,rfl⟩,?_,rfl⟩
 ·rw [bk hid]
  rfl
 ·have := IT k h1.2
  rw[c7]at this;exact this
def nh(P:Program)(τ:aj)(o:Oper)(s:ar)(k:AV→List ai→Tree):Tree :=
 match o.op with
 | .pick c a b=>match xc (s.eval c) with
  |some t=>.ask t (k (s.eval a) s.H) (k (s.eval b) s.H)
  |none=>.fail
 | .load t a=>match By P t (s.eval a) s.H with
  |some (b,v)=>.side b (k v s.H)
  |none=>.fail
 | .lookup t m x ok=>match BC P t (s.eval m) (s.eval x) ok s.H with
  | some (b,v)=>match cI τ.pf o.op,ok with
   |.read,_=>.side b (k v s.H)
   |.write,false=>.side b (k v s.H)
   |_,_=>.fail
  | none=>match cI τ.pf o.op with
   | .write=>match qF P s.eval s.H o.op with
    |some (b,v,H')=>.side b (k v H')
    |none=>.fail
   | .read=>match BF P t (s.eval m) (s.eval x) ok s.H with
    |some (b,v)=>.side b (k v s.H)
    |none=>.fail
   |.pure=>.fail
 | _=>match cI τ.pf o.op with
  | .read=>match BN P s.eval s.H o.op with
   |some v=>k v s.H
   |none=>.fail
  | .pure=>match gP s.eval o.op with
   | some (f,args)=>match τ.T f args with
    |some (b,v)=>.side b (k v s.H)
    |none=>.fail
   | none=>match BM P s.eval o.op with
    |some (b,v)=>.side b (k v s.H)
    |none=>.fail
  | .write=>match gP s.eval o.op with
   | some (f,args)=>match τ.W f args s.H with
    |some (b,v,H')=>.side b (k v H')
    | none=>match τ.I f args s.H with
     |some t=>t.tN k
     | none=>match τ.T f args with
      |some (b,v)=>.side b (k v s.H)
      | none=>match ng s.H args with
       | (g,d)=>match τ.T f d with
        | some (b,v)=>match xf v&&AV.bq d with
         |true=>.side (g&&b) (k v s.H)
         |false=>.fail
        |none=>.fail
   | none=>match qF P s.eval s.H o.op with
    |some (b,v,H')=>.side b (k v H')
    | none=>match tP P s.eval s.H o.op with
     |some (b,H')=>.side b (k .undef H')
     |none=>.fail
def ar.slot(s:ar)(t:Tmp)(b:Bool):ar:=⟨s.fr.set t (.lit (.bool b)),s.H⟩
def BP(P:Program)(τ:aj)(ops:Array Oper)(o:Oper)(s:ar)(k:ar→Tree):Tree :=
 match nf ops s.fr o with
 |.bad=>.fail
 |.no=>k (s.put o.dst (.tuple []) s.H)
 |.yes=>nh P τ o s fun v H'=>k (s.put o.dst v H')
 | .test t b want=>.ask b
   (match want with
    |true=>nh P τ o (s.slot t true) fun v H'=>k ((s.slot t true).put o.dst v H')
    |false=>k ((s.slot t true).put o.dst (.tuple []) s.H))
   (match want with
    |true=>k ((s.slot t false).put o.dst (.tuple []) s.H)
    |false=>nh P τ o (s.slot t false) fun v H'=>k ((s.slot t false).put o.dst v H'))
def k0(P:Program)(τ:aj)(ops:Array Oper):List Oper→ar→(ar→Tree)→Tree
 | [],s,k=>k s
 |o::rest,s,k=>BP P τ ops o s fun s1=>k0 P τ ops rest s1 k
def fb:AV→Option Nat
 |.ptr id _ _ _ _=>some id
 |.vec _ id _ _ _=>some id
 |.map id=>some id
 |.sub id _ _=>some id
 |_=>none
def jg(τ:aj)(r:Operand→AV)(H:List ai)(op:Op):List Nat :=
 match gP r op with
 |some (f,args)=>τ.C f args H
 |none=>op.operands.toList.filterMap fun x=>fb (r x)
structure Acc where
 R:iI
 W:gR
def tQ(ids:List Nat)(i:Nat):Bool := !ids.any (ad i)
def BQ(ops:Array Oper)(j id:Nat)(acc:Acc):Option Acc :=
 match acc.W.all fun e=>waits ops ops.size j e.1||(tQ e.2.1 id&&fj id e.2.2)with
 |true=>some ⟨(j,id)::acc.R,acc.W⟩
 |false=>none
def xg(ops:Array Oper)(j:Nat)(T:List Nat)(n:Nat)(acc:Acc):Option Acc :=
 match acc.R.all fun e=>waits ops ops.size j e.1||(tQ T e.2&&fj e.2 n)with
 | true=>match acc.W.all fun e=>waits ops ops.size j e.1||((T.all fun id=>tQ e.2.1 id&&fj id e.2.2)&&e.2.1.all fun id=>fj id n) with
  |true=>some ⟨acc.R,(j,T,n)::acc.W⟩
  |false=>none
 |false=>none
def BR(τ:aj)(ops:Array Oper)(j:Nat)(o:Oper)(s:ar)(acc:Acc):Option Acc :=
 match cI τ.pf o.op with
 |.pure=>some acc
 | .read=>match kn s.eval o.op with
  |some id=>BQ ops j id acc
  |none=>some acc
 |.write=>xg ops j (jg τ s.eval s.H o.op) s.H.length acc
def gZ:Kd→Value→Option G
 |.int k,.int k' n=>if k=k' then some (.i n) else none
 |.str,.string s=>some (.s s)
 |.bool,.bool b=>some (.t b)
 |.list _,.slice none 0 0=>some (.l [])
 |_,_=>none
def qH:List Kd→List Value→Option (List G)
 | [],[]=>some []
 | k::ks,v::z=>match gZ k v,qH ks z with
  |some g,some gs=>some (g::gs)
  |_,_=>none
 |_,_=>none
def mK:Kd→Option (List Kd)
 |.list ks=>some ks
 |_=>none
def mZ:List Kd→List (Option (List Kd)):=List.map mK
theorem Uv{k:Kd}{v:Value}{g:G}(h:gZ k v=some g):ic k g=zc (mK k) v:=by
 cases k with
 | int k =>
  cases v with
  | int k' n =>
   simp only[gZ]at h;by_cases e:k=k'
   ·rw [if_pos e] at h
    cases h;subst e;rfl
   ·rw [if_neg e] at h
    cases h
  |_=>cases h
 |str=>cases v<;>first|(cases h; rfl)|cases h
 |bool=>cases v<;>first|(cases h; rfl)|cases h
 | list ks =>
  cases v with
  |slice b n c=>cases b<;>cases n<;>cases c<;>first|(cases h; rfl)|cases h
  |_=>cases h
theorem I_:∀{ks:List Kd} {z:List Value} {g:List G},qH ks z=some g→aJ ks g=dK (mZ ks) z
 | [],[],g,h=>by cases h; rfl
 | [],_::_,g,h=>by cases h
 |_::_,[],g,h=>by cases h
 | k::ks,v::z,g,h=>by
  simp only[qH]at h;split at h
  ·rename_i g0 gs h1 d
   cases h;have q:=I_ d;simp only[aJ,vQ,List.tail_cons,q,Uv h1];rfl
  ·cases h
def oP(z:List Value):List ai→Nat→Option (Nat × List Kd × List G)
 | [],_=>none
 | .vec ks 0 rows::H,i=>match qH ks z with
  | some g=>match rows with
   | []=>some (i,ks,g)
   |_::_=>oP z H (i+1)
  |none=>oP z H (i+1)
 |_::H,i=>oP z H (i+1)
def tR:List ai→Nat→Option Nat
 | [],_=>none
 |.raw .dI::_,i=>some i
 |_::H,i=>tR H (i+1)
def Uw(P:Program)(t:TypeId):Option (Ct × Ct) :=
 match cW P t with
 | some (g,d)=>match mY P g,mY P d with
  |some (K,_),some (V,_)=>some (K,V)
  | some (K,_),none=>match cW P d with
   |some _=>some (K,K)
   |none=>none
  |_,_=>none
 |none=>none
def BS(P:Program)(op:Op)(H:List ai):Option (Nat × AV × List ai) :=
 match op with
 | .alloc t=>match dS P t with
  | some z=>match oP z H 0 with
   |some (id,ks,g)=>some (id,.ptr id 1 ks.length 0 0,H.set id (.vec ks 1 [g]))
   |none=>none
  |none=>none
 | .makeMap t none=>match Uw P t with
  | some (K,V)=>match tR H 0 with
   |some id=>some (id,.map id,H.set id (.map K V [] 0))
   |none=>none
  |none=>none
 |_=>none
def BT(τ:aj)(o:Oper)(s:ar):Bool:=match cI τ.pf o.op with
 | .write=>match gP s.eval o.op with
  | some (f,args)=>match τ.N f with
   |true=>(τ.W f args s.H).isSome
   |false=>false
  |none=>false
 |_=>true
def tS(P:Program)(τ:aj)(ops:Array Oper)(j:Nat)(o:Oper)(s:ar)(acc:Acc)(k:ar→Acc→Tree):Tree :=
 match lY ops&&dU o.op with
 | true=>match BS P o.op s.H with
  | some (id,v,H')=>match xg ops j [id] s.H.length acc with
   |some d=>k (s.put o.dst v H') d
   |none=>.fail
  |none=>.fail
 | false=>match mU ops&&jG o.op && !BT τ o s with
  |true=>.fail
  | false=>match BR τ ops j o s acc with
   |some d=>nh P τ o s fun v H'=>k (s.put o.dst v H') d
   |none=>.fail
def BU(P:Program)(τ:aj)(ops:Array Oper)(j:Nat)(o:Oper)(s:ar)(acc:Acc)(k:ar→Acc→Tree):Tree :=
 match nf ops s.fr o with
 |.bad=>.fail
 |.no=>k (s.put o.dst (.tuple []) s.H) acc
 |.yes=>tS P τ ops j o s acc k
 | .test t b want=>.ask b
   (match want with
    |true=>tS P τ ops j o (s.slot t true) acc k
    |false=>k ((s.slot t true).put o.dst (.tuple []) s.H) acc)
   (match want with
    |true=>k ((s.slot t false).put o.dst (.tuple []) s.H) acc
    |false=>tS P τ ops j o (s.slot t false) acc k)
def BV(P:Program)(τ:aj)(ops:Array Oper):List Oper→Nat→ar→Acc→(ar→Tree)→Tree
 | [],_,s,_,k=>k s
 |o::rest,j,s,acc,k=>BU P τ ops j o s acc fun s1 d=>BV P τ ops rest (j+1) s1 d k
def I'(k:ar→Tree)(K:bS→ar→Tree):bS→ar→Tree
 |.normal,s=>k s
 |x,s=>K x s
def Ja(id:Nat)(K:bS→ar→Tree):bS→ar→Tree
 |.exit i,s=>if i=id then K .normal s else K (.exit i) s
 |x,s=>K x s
def Tree.bind(K:bS→ar→Tree):Tree→Tree
 |.fail=>.fail
 |.done x s=>K x s
 |.ask b t e=>.ask b (t.bind K) (e.bind K)
 |.side b t=>.side b (t.bind K)
def kA:Code→Option Nat
 |.region id _ _=>some id
 | .seq a b=>match kA a with
  |some i=>some i
  |none=>kA b
 |.block _ c=>kA c
 | .cond _ a b=>match kA a with
  |some i=>some i
  |none=>kA b
 |.loop c=>kA c
 |_=>none
def oQ:Code→Nat
 | .seq a b=>match kA a with
  |some _=>oQ a
  |none=>oQ b
 |.block _ c=>oQ c
 | .cond _ a b=>match kA a with
  |some _=>oQ a
  |none=>oQ b
 |.loop c=>oQ c+1
 |_=>0
def Jb(c:Code):Option Nat:=match kA c with
 |some i=>some (i+1000*oQ c)
 |none=>none
def bK:Code→List (Nat × Code)
 |.seq a b=>bK a++bK b
 |.cond _ a b=>bK a++bK b
 |.block _ c=>bK c
 | .loop c=>match Jb c with
  |some k=>(k,c)::bK c
  |none=>bK c
 |_=>[]
def Ux(k:ar→Tree)(K:bS→ar→Tree):bS→ar→Tree
 |.normal,s=>k s
 |.exit i,s=>K (.exit i) s
 |.ret,s=>K .ret s
def xh(body:ar→(bS→ar→Tree)→Tree):Nat→ar→(bS→ar→Tree)→Tree
 |0,_,_=>.fail
 |n+1,s,K=>body s (Ux (fun s'=>xh body n s' K) K)
def bG:Code→List (Nat × Code)
 | .seq a b=>bG a++((match kA b with
  |some k=>[(k,b)]
  |none=>[])++bG b)
 |.cond _ a b=>bG a++bG b
 |.block _ c=>bG c
 |.loop c=>bG c
 |_=>[]
structure LT where
 loops:Nat→ar→Option Tree
 pre:Nat→ar→Bool × ar
 tT:Nat→ar→Option Tree
def Jc(L:LT)(k:Option Nat)(s:ar):Option Tree :=
 match k with
 |some i=>L.tT i s
 |none=>none
def dW(P:Program)(τ:aj)(L:LT):Code→ar→(bS→ar→Tree)→Tree
 |.skip,s,K=>K .normal s
 | .region id ops draw,s,K=>match draw && !qk τ.pf ops with
  | true=>match qu τ.pf ops with
   |true=>.side (L.pre id s).1 (BV P τ ops ops.toList 0 (L.pre id s).2 ⟨[],[]⟩ (K .normal))
   |false=>.fail
  |false=>.side (L.pre id s).1 (k0 P τ ops ops.toList (L.pre id s).2 (K .normal))
 | .seq a b,s,K=>dW P τ L a s (I' (fun s1=>match Jc L (kA b) s1 with
  |some t=>t.bind K
  |none=>dW P τ L b s1 K) K)
 | .cond c a b,s,K=>match xc (s.eval c) with
  |some t=>.ask t (dW P τ L a s K) (dW P τ L b s K)
  |none=>.fail
 |.block id c,s,K=>dW P τ L c s (Ja id K)
 | .loop c,s,K=>match Jb c with
  | some i=>match L.loops i s with
   |some t=>t.bind K
   |none=>xh (fun s1 d=>dW P τ L c s1 d) 400 s K
  |none=>.fail
 |.exit id,s,K=>K (.exit id) s
 |.ret,s,K=>K .ret s
 |_,_,_=>.fail
def Jd(P:Program)(m:Nat)(c:Code)(s:ar)(t:Tree):Prop:=∀ Q:bS→ar→Prop,t.holds Q→∃ x s',jF P m c s.den x s'.den∧Q x s'
def xk(P:Program)(m:Nat)(c:Code)(s:ar)(t:Tree):Prop:=∀ Q:bS→ar→Prop,t.holds Q→∃ x s',cU P m c s.den x s'.den∧Q x s'
def ax(P:Program)(m:Nat)(L:LT)(c:Code):Prop:=(∀ k d,(k,d)∈bK c→∀ s t,L.loops k s=some t→Jd P m d s t)∧(∀ id s,(L.pre id s).1=true→bu m s.den (L.pre id s).2.den) ∧
 ∀ k d,(k,d)∈bG c→∀ s t,L.tT k s=some t→xk P m d s t
theorem ax.sub{P:Program}{m:Nat}{L:LT}{c g:Code}(h:ax P m L c)(h1:∀ p,p∈bK g→p∈bK c)(q:∀ p,p∈bG g→p∈bG c):ax P m L g :=
 ⟨fun k d hk=>h.1 k d (h1 _ hk),h.2.1,fun k d hk=>h.2.2 k d (q _ hk)⟩
theorem Je{a:AV}{b:Bool}(h:xc a=some b):a=.lit (.bool b):=by
 unfold xc at h;split at h
 ·cases h; rfl
 ·cases h
theorem Jf{E E':Env}:∀{vs:List AV} {us:List Value},xe vs=true→af E vs us→af E' vs us
 | [],[],_,_=>by simp[af]
 | [],_::_,_,h=>by simp[af]at h
 | a::vs,us,d,h=>by
  unfold xe at d;split at d
  ·rename_i heq; cases heq
  ·rename_i heq
   cases heq;cases us with
   |nil=>simp[af]at h
   | cons u us =>
    simp only[af,rel]at h⊢;exact⟨h.1,Jf d h.2⟩
  ·cases d
theorem Uy{E E':Env}{v:AV}{u:Value}(d:xf v=true)(h:rel E v u):rel E' v u:=by
 unfold xf at d;split at d
 ·simpa only[rel]using h
 ·simp only [rel] at h ⊢
  obtain⟨cs,e,g⟩:=h;exact⟨cs,e,Jf d g⟩
 ·cases d
def Env.bare(E:Env)(w:World):Env:={ w:=w,H:=[],loc:=[],X:=E.X.re dA }
theorem xl{E:Env}{w:World}(b:Nat):¬ (E.bare w).own b:=by rintro(⟨id,c,h⟩|⟨l,k,c,h⟩); simp[Env.bare]at h; simp[Env.bare,dA]at h
theorem nk(E:Env):E.bF (E.bare E.w):=⟨fun b hb=>⟨⟨hb.1,xl b,hb.2.2⟩,rfl⟩⟩
theorem Uz{E:Env}(HE:au E):au (E.bare E.w):=by
 refine⟨rfl,?_,?_,HE.X,?_,HE.eR.bF (nk E),fun l k l' k' b m n hk=>by simp[Env.bare,dA]at hk,fun i b m l k n hi=>by simp[Env.bare]at hi,fun l k b m hk=>by simp[Env.bare,dA]at hk,fun i j o o' l hi=>by simp[Env.bare]at hi,fun l _ k q hk=>by simp[Env.bare,dA]at hk⟩
 ·intro i j b m n hi; simp[Env.bare]at hi
 ·intro i b m hi; simp[Env.bare]at hi
 ·intro i o hi; simp[Env.bare]at hi
theorem Jg{E:Env}(HE:au E){H:List ai}(hH:E.H=ao H){id ae n w:Nat}{ks:List Kd}{rows:List (List G)}{c:Value}
  (hid:H[id]? = some (.vec ks ae rows)) (hw:ks.length=w) (v:n=rows.length) (d:rel E (.vec w id ae 0 n) c):rel (E.bare E.w) (.listF ks rows) c:=by
 subst hw v;have h:E.H[id]? = some (.vec ks.length ae (rows.map (aJ ks))):=by rw[hH]; exact bk hid
 have ho:=HE.obj id _ h;rw[iC];simp only[rel]at d⊢;obtain⟨⟨base,cap,rfl,u,_⟩,_,y⟩:=d;obtain⟨M,B⟩:=y ⟨_,h,rfl⟩;have k:eQ (rows.map (aJ ks)):=by
  intro r d;obtain⟨g,_,rfl⟩:=dF.1 d;exact fy ks g
 refine⟨k,base,cap,by simp,by simpa using u,?_⟩;simp only[aN]at ho;rcases ho with⟨h1,q⟩|⟨b,m,h1,q,I,_,J⟩
 ·exact .inl q
 ·obtain ⟨g1, o, g2, g3⟩ := B b m h1
  by_cases hm:rows=[]
  ·subst hm; exact .inl rfl
  ·right
   have:0<rows.length:=by cases rows with|nil=>exact(hm rfl).elim|cons _ _=>simp
   simp at I;have ho:=g2 (by omega);simp at ho;subst ho;simp only[jv]at g3;refine⟨b,0,g3.1,⟨(HE.lt id b m h1).1,xl b,(HE.lt id b m h1).2⟩,?_⟩;exact ka (nk E) _ k rfl J
theorem UA{E:Env}(HE:au E){H:List ai}(hH:E.H=ao H){id k:Nat}{cells:List AV}{c:Value} (hid:H[id]? = some (.raw (.box cells))) (g:AV.bq cells=true)
  (h:rel E (.ptr id 0 k 0 0) c):rel (E.bare E.w) (.cptr cells) c:=by
 have d:E.H[id]? = some (.box cells):=by rw[hH]; exact bk hid
 have ho:=HE.obj id _ d;simp only[aN]at ho;obtain⟨b,n,h1,v,q⟩:=ho;simp only[rel]at h⊢;obtain⟨_,_,u⟩:=h;obtain⟨y,B,g1,g2⟩:=u ⟨_,d,rfl⟩;rw[h1]at g1;simp only[aZ,be]at g1;obtain⟨rfl,rfl⟩:=g1;refine⟨g,b,0,by rw[g2]; simp,⟨(HE.lt id b n h1).1,xl b,(HE.lt id b n h1).2⟩,?_⟩;exact pU (nk E) cells g rfl q
theorem Jh{E:Env}(HE:au E){H:List ai}(hH:E.H=ao H){a g:AV}{b:Bool}{c:Value}(h:tO H a=(b,g))(hb:b=true)(d:g.closed=true)(q:rel E a c):rel (E.bare E.w) g c:=by
 unfold tO at h;split at h
 ·split at h
  ·rename_i w id ae off n ks v rows hid
   split at h
   ·rename_i u
    obtain⟨rfl,y,rfl⟩:=u;simp only[be]at h;obtain⟨h1,rfl⟩:=h;subst hb;exact Jg HE hH hid y (bt h1) q
   ·cases h; simp[AV.closed]at d
  ·cases h; simp[AV.closed]at d
 ·split at h
  ·rename_i id ae k row col _ cells hid
   split at h
   ·rename_i u
    obtain⟨rfl,rfl,rfl,B⟩:=u;cases h;exact UA HE hH hid B q
   ·cases h; simp[AV.closed]at d
  ·cases h; simp[AV.closed]at d
 ·cases h
  exact dB (nk E) _ d q
theorem Ji{E:Env}(HE:au E){H:List ai}(hH:E.H=ao H):∀{as g:List AV} {b:Bool} {cs:List Value},oO H as=(b,g)→b=true→AV.bq g=true→af E as cs →
  af (E.bare E.w) g cs
 | [],g,b,cs,h,_,_,d=>by
  simp only[oO]at h;cases h;cases cs with
  |nil=>simp[af]
  |cons _ _=>simp[af]at d
 | a::as,g,b,cs,h,hb,k,d=>by
  cases cs with
  |nil=>simp[af]at d
  | cons c cs =>
   simp only[af]at d;cases q:tO H a with
   |mk b1 y =>
   cases u:oO H as with
   |mk B v =>
   simp only[oO,q,u,be]at h;obtain⟨h1,rfl⟩:=h;subst h1;simp only[aB]at hb;simp only[AV.bq,aB]at k;simp only[af];exact⟨Jh HE hH q hb.1 k.1 d.1,Ji HE hH u hb.2 k.2 d.2⟩
theorem UB{E:Env}(HE:au E){H:List ai}(hH:E.H=ao H){a d:AV}{b:Bool}{c:Value}(h:xd H a=(b,d))(hb:b=true)(k:d.closed=true)(g:rel E a c):rel (E.bare E.w) d c:=by
 unfold xd at h;split at h
 ·rename_i f caps
  cases q:oO H caps with
  |mk b1 v =>
  rw[q]at h;cases h;simp only[rel]at g⊢;obtain⟨cs,e,u⟩:=g;exact⟨cs,e,Ji HE hH q hb (by simpa only[AV.closed]using k) u⟩
 ·exact Jh HE hH h hb k g
theorem Jj{E:Env}(HE:au E){H:List ai}(hH:E.H=ao H):∀{as g:List AV} {b:Bool} {cs:List Value},ng H as=(b,g)→b=true→AV.bq g=true→af E as cs →
  af (E.bare E.w) g cs
 | [],g,b,cs,h,_,_,d=>by
  simp only[ng]at h;cases h;cases cs with
  |nil=>simp[af]
  |cons _ _=>simp[af]at d
 | a::as,g,b,cs,h,hb,k,d=>by
  cases cs with
  |nil=>simp[af]at d
  | cons c cs =>
   simp only[af]at d;cases q:xd H a with
   |mk b1 y =>
   cases u:ng H as with
   |mk B v =>
   simp only[ng,q,u,be]at h;obtain⟨h1,rfl⟩:=h;subst h1;simp only[aB]at hb;simp only[AV.bq,aB]at k;simp only[af];exact⟨UB HE hH q hb.1 k.1 d.1,Jj HE hH u hb.2 k.2 d.2⟩
theorem UC{P:Program}{f:FuncId}{args d:List AV}{H:List ai}{b:Bool}{v:AV}(q:cH P f d v)(u:ng H args=(b,d))(hb:b=true)(k:AV.bq d=true)
  (y:xf v=true):dv P f args (ao H) v (ao H):=by
 intro E cargs hH HE h;refine(q [] (E.bare E.w) cargs rfl (Uz HE) (Jj HE hH u hb k h)).mono ?_;rintro _ w' ⟨c,B,H',rfl,⟨rfl,rfl⟩,J,r',g1,g2,g3⟩;have g:Ext E.w w':=⟨g3.size,fun x I=>g3.same x I (xl x),g3.env⟩
 refine⟨c,B,ao H,rfl,⟨rfl,rfl⟩,E.loc,E.X.r,Uy y g1,?_,?_⟩
 ·rw[←hH]; exact HE.ext g
 ·rw[←hH]; exact Env.iD g
section sound
variable {P:Program} {τ:aj}
theorem BW{ops:Array Oper}{o:Oper}{s:ar}{v:AV}(hw:bO ops s.fr o=some true)(d:cI τ.pf o.op=.pure)
  (h:gA P s.eval o.op=some v∨∃ f args,gP s.eval o.op=some (f,args)∧eS P f=true∧cH P f args v):Yields P τ.pf ops o s.den v (ao s.H):=by
 unfold Yields;rw[show s.den.fr=s.fr from rfl,hw];simp only[d,ar.kr];exact⟨rfl,h⟩
theorem oR{ops:Array Oper}{o:Oper}{s:ar}{v:AV}{H':List ab}(hw:bO ops s.fr o=some true)(d:cI τ.pf o.op=.write)
  (h:cT P s.eval (ao s.H) o.op=some (v,H')∨∃ f args,gP s.eval o.op=some (f,args)∧eS P f=true∧dv P f args (ao s.H) v H'):Yields P τ.pf ops o s.den v H':=by
 unfold Yields;rw[show s.den.fr=s.fr from rfl,hw];simp only[d,ar.kr];exact .inl h
/-! ### d g operation leaves alone -/
theorem gf{H:List ai}{id A:Nat}{o:ai}(h:A≠id):(H.set id o)[A]? = H[A]? := aT (Ne.symm h)
theorem jh{H:List ai}{A:Nat}{o:ai}(h:A<H.length):(H++[o])[A]? = H[A]? := cK h
theorem Jk{P:Program}{t:TypeId}{x v:AV}{H H':List ai}{b:Bool}{A:Nat}(h:qw P t x v H=some (b,H'))(g:fb x≠some A):H'[A]? = H[A]? := by
 unfold qw at h;split at h
 case h_2=>cases h
 rename_i n q cs id ae w row col u k;have d:A≠id:=fun e=>g (by rw[e]; rfl);split at h
 case isFalse=>cases h
 split at h
 ·split at h
  ·cases h; exact gf d
  ·cases h
 ·split at h
  ·split at h
   ·cases h; exact gf d
   ·cases h
  ·cases h
 ·cases h
theorem UD{P:Program}{t xt:TypeId}{s x v:AV}{H H':List ai}{b:Bool}{A:Nat}(h:tu P t xt s x H=some (b,v,H'))(d:A<H.length)(g:fb s≠some A):H'[A]? = H[A]? := by
 unfold tu at h;split at h
 case h_2=>cases h
 split at h
 case h_2=>cases h
 split at h
 case isFalse=>cases h
 split at h
 ·split at h
  ·split at h
   ·cases h; exact jh d
   ·cases h
  ·cases h
 ·split at h
  ·split at h
   ·cases h; exact jh d
   ·cases h
  ·cases h
 ·split at h
  ·split at h
   ·split at h
    ·cases h; exact gf fun e=>g (by rw[e]; rfl)
    ·cases h
   ·cases h
  ·cases h
 ·cases h
theorem UE{P:Program}{t xt:TypeId}{s x v:AV}{H H':List ai}{b:Bool}{A:Nat}(h:tH P t xt s x H=some (b,v,H'))(d:A<H.length):H'[A]? = H[A]? := by
 unfold tH at h;split at h
 case h_2=>cases h
 split at h
 case h_2=>cases h
 split at h
 case h_2=>cases h
 split at h
 case h_2=>cases h
 split at h
 ·cases h; exact jh d
 ·cases h
theorem UF{P:Program}{t:TypeId}{x:AV}{H H':List ai}{b:Bool}{A:Nat}(h:tG P t x H=some (b,H'))(d:fb x≠some A):H'[A]? = H[A]? := by
 unfold tG at h;split at h
 case h_2=>cases h
 split at h
 case h_2=>cases h
 split at h
 case h_2=>cases h
 split at h
 ·cases h; exact gf fun e=>d (by rw[e]; rfl)
 ·cases h
theorem Jl{P:Program}{t:TypeId}{m k v:AV}{H H':List ai}{b:Bool}{A:Nat}(h:qz P t m k v H=some (b,H'))(d:fb m≠some A):H'[A]? = H[A]? := by
 unfold qz at h;split at h
 case h_2=>cases h
 split at h
 case h_2=>cases h
 split at h
 case h_2=>cases h
 split at h
 ·cases h; exact gf fun e=>d (by rw[e]; rfl)
 ·cases h
theorem UG{P:Program}{t:TypeId}{m k v:AV}{H H':List ai}{b:Bool}{A:Nat}(h:tz P t m k v H=some (b,H'))(d:fb m≠some A)(g:fb v≠some A):H'[A]? = H[A]? := by
 unfold tz at h;split at h
 case h_2=>cases h
 split at h
 case h_2=>cases h
 split at h
 case h_2=>cases h
 split at h
 ·cases h
  rw[gf fun e=>g (by rw[e]; rfl)];exact gf fun e=>d (by rw[e]; rfl)
 ·cases h
theorem UH{P:Program}{t:TypeId}{m k v:AV}{H H':List ai}{b:Bool}{A:Nat}(h:tJ P t m k v H=some (b,H'))(d:fb m≠some A):H'[A]? = H[A]? := by
 unfold tJ at h;split at h
 case h_2=>cases h
 split at h
 case h_2=>cases h
 split at h
 case h_2=>cases h
 split at h
 ·cases h
  exact gf fun e=>d (by rw[e]; rfl)
 ·cases h
theorem UI{P:Program}{t:TypeId}{m k v:AV}{H H':List ai}{b:Bool}{A:Nat}(h:tK P t m k H=some (b,v,H'))(d:fb m≠some A):H'[A]? = H[A]? := by
 unfold tK at h;split at h
 case h_2=>cases h
 split at h
 case h_2=>cases h
 split at h
 case h_2=>cases h
 split at h
 ·cases h
  exact gf fun e=>d (by rw[e]; rfl)
 ·cases h
theorem UJ{m s v:AV}{H H':List ai}{b:Bool}{A:Nat}(h:tL m s v H=some (b,H'))(d:fb m≠some A)(g:fb v≠some A):H'[A]? = H[A]? := by
 unfold tL at h;split at h
 case h_2=>cases h
 split at h
 case h_2=>cases h
 split at h
 ·cases h
  rw[gf fun e=>g (by rw[e]; rfl)];exact gf fun e=>d (by rw[e]; rfl)
 ·cases h
theorem UK{P:Program}{t:TypeId}{m k v:AV}{H H':List ai}{b:Bool}{A:Nat}(h:tx P t m k H=some (b,v,H'))(d:A<H.length)(g:fb m≠some A):H'[A]? = H[A]? := by
 unfold tx at h;split at h
 case h_2=>cases h
 split at h
 case h_2=>cases h
 split at h
 case h_2=>cases h
 split at h
 ·cases h
  rw[jh (by simpa using d)];exact gf fun e=>g (by rw[e]; rfl)
 ·cases h
theorem UL{m s v:AV}{H H':List ai}{b:Bool}{A:Nat}(h:tC m s v H=some (b,H'))(d:fb m≠some A)(g:fb v≠some A):H'[A]? = H[A]? := by
 unfold tC at h;split at h
 case h_2=>cases h
 split at h
 case h_2=>cases h
 split at h
 ·cases h
  rw[gf fun e=>g (by rw[e]; rfl)];exact gf fun e=>d (by rw[e]; rfl)
 ·cases h
theorem UM{P:Program}{t:TypeId}{m k v:AV}{H H':List ai}{b:Bool}{A:Nat}(h:tA P t m k H=some (b,v,H'))(d:A<H.length)(g:fb m≠some A):H'[A]? = H[A]? := by
 unfold tA at h;split at h
 case h_2=>cases h
 split at h
 case h_2=>cases h
 split at h
 case h_2=>cases h
 split at h
 ·cases h
  rw[jh (by simpa using d)];exact gf fun e=>g (by rw[e]; rfl)
 ·cases h
theorem UN{P:Program}{t:TypeId}{m k:AV}{H H':List ai}{b:Bool}{A:Nat}(h:tF P t m k H=some (b,H'))(d:fb m≠some A):H'[A]? = H[A]? := by
 unfold tF at h;split at h
 case h_2=>cases h
 split at h
 case h_2=>cases h
 split at h
 ·cases h; exact gf fun e=>d (by rw[e]; rfl)
 ·cases h
theorem UO{P:Program}{t:TypeId}{l c v:AV}{H H':List ai}{b:Bool}{A:Nat}(h:tv P t l c H=some (b,v,H'))(d:A<H.length):H'[A]? = H[A]? := by
 unfold tv at h;split at h
 case h_2=>cases h
 split at h
 case h_2=>cases h
 split at h
 case h_2=>cases h
 split at h
 case h_2=>cases h
 split at h
 ·cases h; exact jh d
 ·cases h
theorem UP{P:Program}{t:TypeId}{n:Nat}{parts:List (Nat × AV)}{v:AV}{H H':List ai}{b:Bool}{A:Nat}(h:tw P t n parts H=some (b,v,H'))(d:A<H.length):H'[A]? = H[A]? := by
 unfold tw at h;split at h
 case h_2=>cases h
 split at h
 case h_2=>cases h
 split at h
 case h_2=>cases h
 split at h
 case h_2=>cases h
 split at h
 case h_2=>cases h
 split at h
 ·cases h; exact jh d
 ·cases h
theorem Jm{P:Program}{r:Operand→AV}{H H':List ai}{o:Op}{v:AV}{b:Bool}{A:Nat}(h:qF P r H o=some (b,v,H'))(g:A<H.length)(M:A∉o.operands.toList.filterMap fun x=>fb (r x)):H'[A]? = H[A]? := by
 have no:∀ x∈o.operands.toList,fb (r x)≠some A:=fun x q e=>M (Gt.2 ⟨x,q,e⟩);cases o<;>simp only[qF]at h<;>try cases h
 case alloc t =>
  split at h
  ·split at h
   ·cases h; exact jh g
   ·cases h
  ·split at h
   ·cases h; exact jh g
   ·cases h
 case box t x =>
  split at h
  ·cases h; exact jh g
  ·cases h
 case store t a x =>
  split at h
  ·rename_i u H1 d
   cases h;exact Jk d (no a (by simp[eO]))
  ·cases h
 case makeSlice t l c=>exact UO h g
 case buildSlice t n ps=>exact UP h g
 case range t x =>
  split at h
  ·cases h; exact jh g
  ·cases h
 case next it isString =>
  cases isString with
  |false=>cases h
  | true =>
   simp only[]at h;split at h
   ·rename_i id k q
    split at h
    ·split at h
     ·cases h; exact gf fun e=>no it (by simp[eO]) (by rw[q,e]; rfl)
     ·cases h; rfl
    ·cases h
   ·cases h
 case makeMap t res =>
  cases res with
  |some _=>cases h
  | none =>
   simp only[]at h;split at h
   ·split at h
    ·cases h; exact jh g
    ·split at h
     ·cases h; exact jh g
     ·cases h
    ·cases h
   ·cases h
 case mapUpdate t m k x =>
  split at h
  ·rename_i u H1 d
   cases h;exact Jl d (no m (by simp[eO]))
  ·split at h
   ·rename_i u H1 d
    cases h;exact UG d (no m (by simp[eO])) (no x (by simp[eO]))
   ·split at h
    ·rename_i u H1 d
     cases h;exact UH d (no m (by simp[eO]))
    ·cases h
 case lookup t m k ok =>
  cases ok with
  |true=>cases h
  |false=>exact UK h g (no m (by simp[eO]))
 case mapEntry t m k =>
  split at h
  ·rename_i y N
   cases h;exact UM N g (no m (by simp[eO]))
  ·exact UI h (no m (by simp[eO]))
 case entryStore t m s x =>
  split at h
  ·rename_i u H1 d
   cases h;exact UL d (no m (by simp[eO])) (no x (by simp[eO]))
  ·split at h
   ·rename_i u H1 d
    cases h;exact UJ d (no m (by simp[eO])) (no x (by simp[eO]))
   ·cases h
 case insert t m k x =>
  split at h
  ·rename_i u H1 d
   cases h;exact Jl d (no m (by simp[eO]))
  ·cases h
 case call c =>
  have na:∀ x∈c.args.toList,fb (r x)≠some A:=fun x q=>no x (by
   simp only[eO,Call.operands];simp at q⊢;exact .inr q)
  split at h
  ·split at h
   ·rename_i s x t xt B J
    have O:=na s (by rw[B]; simp);split at h
    ·exact UE h g
    ·exact UD h g O
   ·cases h
  ·split at h
   ·rename_i x t B J
    have I:=na x (by rw[B]; simp);split at h
    ·rename_i d; cases h; exact UF d I
    ·cases h
   ·cases h
  ·split at h
   ·rename_i x k t _ B J
    have I:=na x (by rw[B]; simp);split at h
    ·rename_i d; cases h; exact UN d I
    ·cases h
   ·cases h
  ·cases h
theorem UQ{P:Program}{r:Operand→AV}{H H':List ai}{o:Op}{b:Bool}{A:Nat}(h:tP P r H o=some (b,H'))(g:A∉o.operands.toList.filterMap fun x=>fb (r x)):H'[A]? = H[A]? := by
 have no:∀ x∈o.operands.toList,fb (r x)≠some A:=fun x k e=>g (Gt.2 ⟨x,k,e⟩);unfold tP at h;split at h
 case h_2=>cases h
 rename_i t a x;split at h
 case h_2=>cases h
 rename_i b0 v1 H1 d;split at h
 case h_2=>cases h
 rename_i b1 H2 q;simp only[aZ,be]at h;obtain⟨_,rfl⟩:=h;rw[Jk q (no a (by simp[eO]))];unfold BO at d;split at d
 case h_2=>cases d
 rename_i w id ae off n u;split at d
 case h_2=>cases d
 split at d
 case isFalse=>cases d
 simp only[aZ,be]at d;obtain⟨_,_,rfl⟩:=d;refine gf fun e=>no x (by simp[eO]) ?_;rw[u,e];rfl
theorem xm(B:ak P τ){ops:Array Oper}{o:Oper}{s:ar}{k:AV→List ai→Tree}{Q:bS→ar→Prop}(hw:bO ops s.fr o=some true)
  (h:(nh P τ o s k).holds Q):∃ v H',Yields P τ.pf ops o s.den v (ao H')∧(cI τ.pf o.op=.write→∀ A,A∉jg τ s.eval s.H o.op→A<s.H.length→H'[A]? = s.H[A]?)∧(k v H').holds Q:=by
 unfold nh at h;split at h
 ·rename_i c a b ho
  split at h
  ·rename_i t hb
   have hb:=Je hb;refine⟨bif t then s.eval a else s.eval b,s.H,BW hw (by rw[ho]; rfl) (.inl (by rw[ho]; simp only[gA,hb])),fun _ _ _ _=>rfl,?_⟩;simp only[Tree.holds]at h;cases t with
   |true=>exact h.1 rfl
   |false=>exact h.2 rfl
  ·exact h.elim
 ·rename_i t a ho
  split at h
  ·rename_i b v J
   simp only[Tree.holds]at h;refine⟨v,s.H,?_,fun _ _ _ _=>rfl,h.2⟩;unfold Yields;rw[show s.den.fr=s.fr from rfl,hw];simp only[ho,cI,ar.kr];exact⟨rfl,by simp only[ev]; exact T0 J h.1⟩
  ·exact h.elim
 ·rename_i t m x ok ho
  have U:jg τ s.eval s.H o.op=o.op.operands.toList.filterMap fun x=>fb (s.eval x):=by
   have M:gP s.eval o.op=none:=by rw[ho]; rfl
   simp only[jg,M]
  split at h
  ·rename_i b v J
   split at h
   ·rename_i g
    simp only[Tree.holds]at h;refine⟨v,s.H,?_,fun _ _ _ _=>rfl,h.2⟩;unfold Yields;rw[show s.den.fr=s.fr from rfl,hw];simp only[g,ar.kr];rw[ho];exact⟨rfl,by
     have e:=IZ J;rw[show ao s.H=s.den.H from rfl]at e;simp only[ev,e]⟩
   ·rename_i g
    simp only[Tree.holds]at h;refine⟨v,s.H,oR hw g (.inl ?_),fun _ _ _ _=>rfl,h.2⟩;rw[ho];simp only[cT,IZ J]
   ·exact h.elim
  ·split at h
   ·rename_i g
    split at h
    ·rename_i b v H' d
     simp only[Tree.holds]at h;exact⟨v,H',oR hw g (.inl (I8 d h.1)),fun _ A q u=>Jm d u (by rw[U]at q; exact q),h.2⟩
    ·exact h.elim
   ·rename_i g
    split at h
    ·rename_i b v J
     simp only[Tree.holds]at h;obtain⟨q1,q2⟩:=Uf J h.1;refine⟨v,s.H,?_,fun _ _ _ _=>rfl,h.2⟩;unfold Yields;rw[show s.den.fr=s.fr from rfl,hw];simp only[g,ar.kr];rw[ho];exact⟨rfl,by simp only[ev]; rw[show fB P t (s.eval m) (s.eval x) ok s.den.H=none from q1]; exact q2⟩
    ·exact h.elim
   ·exact h.elim
 ·split at h
  ·rename_i g
   split at h
   ·rename_i v d
    refine⟨v,s.H,?_,fun _ _ _ _=>rfl,h⟩;unfold Yields;rw[show s.den.fr=s.fr from rfl,hw];simp only[g,ar.kr];exact⟨rfl,Ut d⟩
   ·exact h.elim
  ·rename_i g
   split at h
   ·rename_i f args y
    split at h
    ·rename_i b v d
     simp only[Tree.holds]at h;obtain⟨g1,g2⟩:=B.T f args b v d h.1;exact⟨v,s.H,BW hw g (.inr ⟨f,args,y,g1,g2⟩),fun _ _ _ _=>rfl,h.2⟩
    ·exact h.elim
   ·split at h
    ·rename_i b v d
     simp only[Tree.holds]at h;exact⟨v,s.H,BW hw g (.inl (Us d h.1)),fun _ _ _ _=>rfl,h.2⟩
    ·exact h.elim
  ·rename_i g
   split at h
   ·rename_i f args y
    split at h
    ·rename_i b v H' d
     simp only[Tree.holds]at h;obtain⟨g1,g2⟩:=B.W f args s.H b v H' d h.1;exact⟨v,H',oR hw g (.inr ⟨f,args,y,g1,g2⟩),fun _ A q u=>B.C f args s.H b v H' d A (by simpa only[jg,y]using q) u,h.2⟩
    ·split at h
     ·rename_i t hi
      obtain⟨g1,v,H',g2,g3,g4⟩:=B.I f args s.H t hi _ (Tree.xb h);exact⟨v,H',oR hw g (.inr ⟨f,args,y,g1,g2⟩),fun _ A q u=>g3 A (by simpa only[jg,y]using q) u,g4⟩
     ·split at h
      ·rename_i b v d
       simp only[Tree.holds]at h;obtain⟨g1,g2⟩:=B.T f args b v d h.1;exact⟨v,s.H,oR hw g (.inr ⟨f,args,y,g1,g2 _⟩),fun _ _ _ _=>rfl,h.2⟩
      ·cases O : ng s.H args with
       |mk vb V =>
       rw[O]at h;simp only[]at h;split at h
       ·rename_i b v d
        split at h
        ·rename_i N
         simp only[aB]at N;simp only[Tree.holds,aB]at h;obtain⟨g1,g2⟩:=B.T f V b v d h.1.2;exact⟨v,s.H,oR hw g (.inr ⟨f,args,y,g1,UC g2 O h.1.1 N.2 N.1⟩),fun _ _ _ _=>rfl,h.2⟩
        ·exact h.elim
       ·exact h.elim
   ·rename_i M
    split at h
    ·rename_i b v H' d
     simp only[Tree.holds]at h;exact⟨v,H',oR hw g (.inl (I8 d h.1)),fun _ A q u=>Jm d u (by simpa only[jg,M]using q),h.2⟩
    ·split at h
     ·rename_i b H' d
      simp only[Tree.holds]at h;refine⟨.undef,H',?_,fun _ A q u=>UQ d (by simpa only[jg,M]using q),h.2⟩;unfold Yields;rw[show s.den.fr=s.fr from rfl,hw];simp only[g,ar.kr];exact .inr (.inr (Uu d h.1))
     ·exact h.elim
theorem Jn{ops:Array Oper}{s:ar}{o:Oper}{t:Tmp}{b want:Bool}(h:nf ops s.fr o=.test t b want) :
  s.fr[t]? = some (.lit (.bool b))∧bO ops s.fr o=some (b==want):=by
 unfold nf at h;unfold bO;cases d:o.guard with
 |none=>rw[d]at h; cases h
 | some g =>
  obtain⟨j,w⟩:=g;rw[d]at h;simp only[]at h⊢;split at h
  ·rename_i t' k
   split at h
   ·rename_i q hb
    cases h;exact⟨hb,by rw[k]; simp only[hb]⟩
   ·cases h
   ·cases h
  ·cases h
theorem BX{ops:Array Oper}{s:ar}{o:Oper}(h:nf ops s.fr o=.no):bO ops s.fr o=some false:=by
 unfold nf at h;unfold bO;cases d:o.guard with
 |none=>rw[d]at h; cases h
 | some g =>
  obtain⟨j,w⟩:=g;rw[d]at h;simp only[]at h⊢;split at h
  ·rename_i t' k
   split at h
   ·cases h
   ·rename_i hb
    rw[k];simp only[hb]
   ·cases h
  ·cases h
theorem Jo{ops:Array Oper}{s:ar}{o:Oper}(h:nf ops s.fr o=.yes):bO ops s.fr o=some true:=by
 unfold nf at h;unfold bO;cases d:o.guard with
 |none=>rfl
 | some g =>
  obtain⟨j,w⟩:=g;rw[d]at h;simp only[]at h;split at h
  ·split at h<;>cases h
  ·cases h
theorem xn{s:ar}{t:Tmp}{b:Bool} (h:s.fr[t]? = some (.lit (.bool b))):s.slot t b=s:=by
 unfold ar.slot;rw[kU h]
theorem UR(q:ak P τ){ops:Array Oper}{o:Oper}{s:ar}{k:ar→Tree}{Q:bS→ar→Prop}(h:(BP P τ ops o s k).holds Q) :
  ∃ v H',Yields P τ.pf ops o s.den v (ao H')∧(k (s.put o.dst v H')).holds Q:=by
 have skip:bO ops s.fr o=some false→Yields P τ.pf ops o s.den (.tuple []) (ao s.H):=by
  intro hw;unfold Yields;rw[show s.den.fr=s.fr from rfl,hw];exact⟨rfl,rfl⟩
 unfold BP at h;split at h
 ·exact h.elim
 ·rename_i hw
  exact⟨_,_,skip (BX hw),h⟩
 ·rename_i hw
  obtain⟨v,H',g1,_,g2⟩:=xm q (Jo hw) h;exact⟨v,H',g1,g2⟩
 ·rename_i t b want hw
  obtain⟨h1,g⟩:=Jn hw;simp only[Tree.holds]at h;cases b with
  | true =>
   have d:=h.1 rfl;rw[xn h1]at d;cases want with
   | true =>
    obtain⟨v,H',g1,_,g2⟩:=xm q g d;exact⟨v,H',g1,g2⟩
   |false=>exact⟨_,_,skip g,d⟩
  | false =>
   have d:=h.2 rfl;rw[xn h1]at d;cases want with
   |true=>exact⟨_,_,skip g,d⟩
   | false =>
    obtain⟨v,H',g1,_,g2⟩:=xm q g d;exact⟨v,H',g1,g2⟩
theorem xo(d:ak P τ){ops:Array Oper}{Q:bS→ar→Prop}:∀{l:List Oper} {s:ar} {k:ar→Tree},(k0 P τ ops l s k).holds Q→∃ s',fD P τ.pf ops l s.den s'.den∧(k s').holds Q
 | [],s,k,h=>⟨s,rfl,h⟩
 | o::l,s,k,h=>by
  obtain⟨v,H',h1,g⟩:=UR d h;obtain⟨s',q,u⟩:=xo d g;exact⟨s',⟨v,ao H',h1,q⟩,u⟩
def Acc.le(a b:Acc):Prop:=(∀ x∈a.R,x∈b.R)∧∀ x∈a.W,x∈b.W
def Acc.ok(ops:Array Oper)(j:Nat)(a:Acc):Prop:=(∀ x∈a.R,x.1<j)∧(∀ x∈a.W,x.1<j)∧qv ops a.R a.W
theorem BY{ids:List Nat}{i:Nat}(h:tQ ids i=true):i∉ids:=by
 intro hm;have:ids.any (ad i)=true:=List.any_eq_true.2 ⟨i,hm,by simp⟩;simp[tQ,this]at h
theorem US{ops:Array Oper}{j id:Nat}{a b:Acc}(ha:a.ok ops j)(h:BQ ops j id a=some b):b.ok ops (j+1)∧a.le b∧(j,id)∈b.R:=by
 unfold BQ at h;split at h
 ·rename_i g
  cases h;simp only[cO,vO,aB,j8]at g;obtain⟨h1,k,q⟩:=ha;refine⟨⟨fun x d=>?_,fun x d=>vR (k x d),fun i u hi e he=>?_,q.2⟩,⟨fun x d=>df _ d,fun x d=>d⟩,db⟩
  ·rcases bV.1 d with rfl | d
   ·exact agI _
   ·exact vR (h1 x d)
  ·rcases bV.1 hi with y | hi
   ·cases y
    have B:=k e he;refine⟨fun v=>absurd v (by omega),fun _ hw=>?_⟩;rcases g e he with h|h
    ·rw[hw]at h; cases h
    ·exact⟨BY h.1,h.2⟩
   ·exact q.1 i u hi e he
 ·cases h
theorem Jp{ops:Array Oper}{j n:Nat}{T:List Nat}{a b:Acc}(ha:a.ok ops j)(h:xg ops j T n a=some b):b.ok ops (j+1)∧a.le b∧(j,T,n)∈b.W:=by
 unfold xg at h;split at h
 ·rename_i M
  split at h
  case h_2=>cases h
  rename_i y;cases h;simp only[cO,vO,aB,j8]at M y;obtain⟨h1,I,J⟩:=ha;refine⟨⟨fun x k=>vR (h1 x k),fun x k=>?_,fun i B hi e he=>?_,fun e he e' d g q id hid=>?_,fun e he e' d g q id hid=>?_⟩,⟨fun x k=>k,fun x k=>df _ k⟩,db⟩
  ·rcases bV.1 k with rfl | k
   ·exact agI _
   ·exact vR (I x k)
  ·rcases bV.1 he with v | he
   ·subst v
    have g:=h1 (i,B) hi;refine⟨fun _ hw=>?_,fun N=>absurd N (by simp only at N g; omega)⟩;rcases M (i,B) hi with h|h
    ·simp only at hw h; rw[hw]at h; cases h
    ·exact⟨BY h.1,h.2⟩
   ·exact J.1 i B hi e he
  ·rcases bV.1 d with v | d
   ·subst v
    rcases bV.1 he with u|he
    ·subst u
     exact absurd g (pQ _)
    ·rcases y e he with h | h
     ·simp only at q h
      rw[q]at h;cases h
     ·have O := h.1 id hid
      exact⟨BY O.1,O.2⟩
   ·rcases bV.1 he with u | he
    ·subst u
     have U:=I e' d;exact absurd g (by simp only; omega)
    ·exact J.2.1 e he e' d g q id hid
  ·rcases bV.1 d with v | d
   ·subst v
    rcases bV.1 he with u|he
    ·subst u
     exact absurd g (pQ _)
    ·rcases y e he with h | h
     ·simp only at q h
      rw[q]at h;cases h
     ·exact h.2 id hid
   ·rcases bV.1 he with u | he
    ·subst u
     have U:=I e' d;exact absurd g (by simp only; omega)
    ·exact J.2.2 e he e' d g q id hid
 ·cases h
theorem Acc.tU{ops:Array Oper}{j:Nat}{a:Acc}(h:a.ok ops j):a.ok ops (j+1):=⟨fun x d=>vR (h.1 x d),fun x d=>vR (h.2.1 x d),h.2.2⟩
theorem Acc.le_refl(a:Acc):a.le a:=⟨fun _ h=>h,fun _ h=>h⟩
theorem Acc.le_trans{a b c:Acc}(h:a.le b)(h':b.le c):a.le c:=⟨fun x d=>h'.1 x (h.1 x d),fun x d=>h'.2 x (h.2 x d)⟩
def Acc.only(j:Nat)(a b:Acc):Prop:=∀ x∈b.W,x.1<j→x∈a.W
theorem UT{ops:Array Oper}{j:Nat}{o:Oper}{s:ar}{a b:Acc}(ha:a.ok ops j)(h:BR τ ops j o s a=some b) :
  b.ok ops (j+1)∧a.le b∧(cI τ.pf o.op=.read→∀ id,kn s.eval o.op=some id→(j,id)∈b.R)∧(cI τ.pf o.op=.write→(j,jg τ s.eval s.H o.op,s.H.length)∈b.W):=by
 unfold BR at h;split at h
 ·rename_i d
  cases h;exact⟨Acc.tU ha,a.le_refl,(fun h=>by rw[d]at h; cases h),(fun h=>by rw[d]at h; cases h)⟩
 ·rename_i d
  split at h
  ·rename_i id hid
   obtain⟨g1,g2,g3⟩:=US ha h;refine⟨g1,g2,fun _ k g=>?_,(fun h=>by rw[d]at h; cases h)⟩;rw[hid]at g;cases g;exact g3
  ·rename_i hid
   cases h;refine⟨Acc.tU ha,a.le_refl,fun _ k g=>?_,(fun h=>by rw[d]at h; cases h)⟩;rw[hid]at g;cases g
 ·rename_i d
  obtain⟨g1,g2,g3⟩:=Jp ha h;exact⟨g1,g2,(fun h=>by rw[d]at h; cases h),fun _=>g3⟩
theorem Jq{ops:Array Oper}{j:Nat}{o:Oper}{s:ar}{v:AV}{H':List ai}{b c:Acc}(k:b.le c)(u:cI τ.pf o.op=.read→∀ id,kn s.eval o.op=some id→(j,id)∈b.R)
  (hw:cI τ.pf o.op=.write→(j,jg τ s.eval s.H o.op,s.H.length)∈b.W) (hk:cI τ.pf o.op=.write→∀ A,A∉jg τ s.eval s.H o.op→A<s.H.length→H'[A]? = s.H[A]?)
  (q:jG o.op=true→mU ops=true→cI τ.pf o.op=.write→bO ops s.den.fr o=some true→∀ σ,w5 c.W j s.den.H σ→Yields P τ.pf ops o ⟨s.den.fr,l4 σ s.den.H⟩ v (l4 σ (ao H'))) :
  (g:(lY ops&&dU o.op)=false)→Step P τ.pf ops c.R c.W j o s.den v (ao H'):=by
 intro g;refine⟨fun d A y=>?_,fun d _ id hid=>k.1 _ (u d id (by rw[←ar.kr]; exact hid)),fun h1 h _=>(by rw[h1,h]at g; cases g),q⟩;have:=y _ (k.2 _ (hw d)) rfl;have h:=hk d A this.1 this.2;show (ao H')[A]? = (ao s.H)[A]?
 simp only[ao,bZ,h]
theorem step_skip{ops:Array Oper}{j:Nat}{o:Oper}{s:ar}{c:Acc}(hw:bO ops s.fr o=some false):Step P τ.pf ops c.R c.W j o s.den (.tuple []) (ao s.H) :=
 ⟨fun _ _ _=>rfl,fun _ h=>(by rw[show s.den.fr=s.fr from rfl,hw]at h; cases h),fun _ _ _=>⟨rfl,fun _ h=>(h rfl).elim⟩,fun _ _ _ h=>(by rw[show s.den.fr=s.fr from rfl,hw]at h; cases h)⟩
theorem Jr(g:ak P τ){f:FuncId}{args:List AV}{v:AV}(k:τ.N f=true):∀(σ:List (Nat × ab)) (H H':List ai),τ.W f args H=some (true,v,H')→(∀ p∈σ,p.1<H.length∧p.1∉τ.C f args H) →
  ∃ H2 d,ao H2=l4 σ (ao H)∧ao d=l4 σ (ao H')∧τ.W f args H2=some (true,v,d)
 | [],H,H',h,_=>⟨H,H',rfl,rfl,h⟩
 | p::σ,H,H',h,u=>by
  obtain⟨y,a2⟩:=u p db;obtain⟨h1,B⟩:=g.F.2 f k args H true v H' h p.1 (.raw p.2) y a2;obtain⟨H2,d,I,J,M⟩:=Jr g k σ _ _ h1 fun q O=>by
   obtain⟨b1,U⟩:=u q (df _ O);rw[B];exact⟨by simpa using b1,U⟩
  refine⟨H2,d,?_,?_,M⟩
  ·rw [I, c7]
   rfl
  ·rw [J, c7]
   rfl
theorem UU{o:Oper}{s:ar}{k:AV→List ai→Tree}{f:FuncId}{args:List AV}{b:Bool}{v:AV}{H':List ai}(d:jG o.op=true)(h:cI τ.pf o.op=.write)(g:gP s.eval o.op=some (f,args))(u:τ.W f args s.H=some (b,v,H')) :
  nh P τ o s k=.side b (k v H'):=by
 unfold jG at d;split at d
 ·rename_i c q
  unfold nh;rw[q]at h g⊢;simp only[h,g,u]
 ·cases d
theorem Js{z:List Value}:∀{H:List ai} {i j:Nat} {ks:List Kd} {g:List G},oP z H i=some (j,ks,g)→i≤j∧H[j-i]? = some (.vec ks 0 [])∧qH ks z=some g
 | [],_,_,_,_,h=>by cases h
 | o::H,i,j,ks,g,h=>by
  have next:oP z H (i+1)=some (j,ks,g)→i≤j∧(o::H)[j-i]? = some (.vec ks 0 [])∧qH ks z=some g:=by
   intro h;obtain⟨h1,d,k⟩:=Js h;refine⟨by omega,?_,k⟩;rw[show j-i=(j-(i+1))+1 from by omega];simpa using d
  unfold oP at h;split at h
  ·cases ‹_=_›
  ·rename_i u rows' H' v e
   cases e;split at h
   ·rename_i y q
    split at h
    ·cases h
     exact⟨aG _,by simp,q⟩
    ·exact next h
   ·exact next h
  ·rename_i e
   cases e;exact next h
theorem Jt:∀{H:List ai} {i j:Nat},tR H i=some j→i≤j∧H[j-i]? = some (.raw .dI)
 | [],_,_,h=>by cases h
 | o::H,i,j,h=>by
  have next:tR H (i+1)=some j→i≤j∧(o::H)[j-i]? = some (.raw .dI):=by
   intro h;obtain⟨h1,d⟩:=Jt h;refine⟨by omega,?_⟩;rw[show j-i=(j-(i+1))+1 from by omega];simpa using d
  unfold tR at h;split at h
  ·cases ‹_=_›
  ·rename_i e
   cases e;cases h;exact⟨aG _,by simp⟩
  ·rename_i e
   cases e;exact next h
theorem UW{op:Op}{H H':List ai}{id:Nat}{v:AV}(h:BS P op H=some (id,v,H')) :
  ((∃ t m,op=.alloc t∧mR P t id m (ao H)=some (v,ao H'))∨∃ t,op=.makeMap t none∧oz id (ao H)=some (v,ao H'))∧H'.length=H.length∧∀ A,A≠id→H'[A]? = H[A]? := by
 unfold BS at h;split at h
 ·rename_i t
  split at h
  ·rename_i z y
   split at h
   ·rename_i i ks g q
    cases h;obtain⟨_,d,B⟩:=Js q;rw[fS]at d;have e:=I_ B;refine⟨.inl ⟨t,mZ ks,rfl,?_⟩,by simp,fun A u=>aT (Ne.symm u)⟩;have hk:ks.length=z.length:=by
     have:=congrArg G0 e;simpa[pS,wC]using this
    rw[Iw (mZ ks) y (k:=ks.length) (by rw[bk d]; rfl) hk,c7,←e];rfl
   ·cases h
  ·cases h
 ·rename_i t
  split at h
  ·rename_i K V _
   split at h
   ·rename_i i q
    cases h;obtain⟨_,d⟩:=Jt q;rw[fS]at d;refine⟨.inr ⟨t,rfl,?_⟩,by simp,fun A u=>aT (Ne.symm u)⟩;rw[HW (by rw[bk d]; rfl),c7];rfl
   ·cases h
  ·cases h
 ·cases h
theorem BZ(y:ak P τ){ops:Array Oper}{j:Nat}{o:Oper}{s:ar}{a:Acc}{k:ar→Acc→Tree}{Q:bS→ar→Prop}(hw:bO ops s.fr o=some true)(ha:a.ok ops j)(h:(tS P τ ops j o s a k).holds Q) :
  ∃ v H' b,Yields P τ.pf ops o s.den v (ao H')∧b.ok ops (j+1)∧a.le b∧(∀ c,b.le c→Step P τ.pf ops c.R c.W j o s.den v (ao H'))∧(k (s.put o.dst v H') b).holds Q:=by
 unfold tS at h;split at h
 ·rename_i g
  simp only[aB]at g;split at h
  ·rename_i id v H' hal
   split at h
   ·rename_i b hb
    obtain⟨hnew,hlen,hkeep⟩:=UW hal;obtain⟨g1,g2,g3⟩:=Jp ha hb;refine⟨v,H',b,?_,g1,g2,fun c q=>⟨fun _ A O=>?_,fun hr=>(by rw[lZ g.2]at hr; cases hr),fun _ _ _=>⟨?_,fun B hne=>?_⟩,fun hcv=>(by rw[kX g.2]at hcv; cases hcv)⟩,h⟩
    ·unfold Yields
     rw[show s.den.fr=s.fr from rfl,hw];simp only[lZ g.2];rcases hnew with⟨t,m,N,U⟩|⟨t,N,U⟩
     ·exact .inr (.inl (.inl ⟨t,id,m,N,U⟩))
     ·exact .inr (.inl (.inr ⟨t,id,N,U⟩))
    ·have := (O _ (q.2 _ g3) rfl).1
     show (ao H')[A]? = (ao s.H)[A]?
     simp only[ao,bZ,hkeep A (by simpa using this)]
    ·show (ao H').length = (ao s.H).length
     simp only[eg,hlen]
    ·refine ⟨_, q.2 _ g3, rfl, ?_⟩
     have e:B=id:=zY fun e=>hne (by
      show (ao H')[B]? = (ao s.H)[B]?
      simp only[ao,bZ,hkeep B e])
     rw[e];exact List.mem_singleton.2 rfl
   ·exact h.elim
  ·exact h.elim
 ·rename_i g
  split at h
  ·exact h.elim
  rename_i hfc;split at h
  ·rename_i b hb
   obtain⟨g1,g2,g3,g4⟩:=UT ha hb;by_cases u:(mU ops&&jG o.op)=true∧cI τ.pf o.op=.write
   ·obtain ⟨u, I⟩ := u
    have hca2:=u;simp only[aB]at hca2;have d:BT τ o s=true:=by
     rw[u]at hfc;simpa using hfc
    unfold BT at d;rw[I]at d;simp only[]at d;split at d
    case h_2=>cases d
    rename_i f args M;split at d
    case h_2=>cases d
    rename_i hN;obtain⟨⟨b0,v,H'⟩,J⟩:=Option.isSome_iff_exists.1 d;rw[UU hca2.2 I M J]at h;simp only[Tree.holds]at h;obtain⟨rfl,h⟩:=h;obtain⟨hbody,hcall⟩:=y.W f args s.H true v H' J rfl;have htch:jg τ s.eval s.H o.op=τ.C f args s.H:=by
     unfold jg;rw[M]
    have hcal':∀ H2,gP (St.eval ⟨s.den.fr,H2⟩) o.op=some (f,args):=fun H2=>by
     have e:St.eval ⟨s.den.fr,H2⟩=s.eval:=by funext x; cases x<;>rfl
     rw[e];exact M
    have yl:∀ H2 V:List ab,dv P f args H2 v V→Yields P τ.pf ops o ⟨s.den.fr,H2⟩ v V:=fun H2 V hx=>by
     unfold Yields;rw[show (St.mk s.den.fr H2).fr=s.fr from rfl,hw];simp only[I];exact .inl (.inr ⟨f,args,hcal' H2,hbody,hx⟩)
    refine⟨v,H',b,yl _ _ hcall,g1,g2,fun c q=>Jq q g3 g4 (fun _ A O hlt=>?_) (fun _ _ _ _ σ hσ=>?_) (by simpa using g),h⟩
    ·exact y.C f args s.H true v H' J A (by rw[←htch]; exact O) hlt
    ·obtain ⟨H2,H2',q1,q2,q3⟩:=Jr y hN σ s.H H' J (fun p hp=>by
      obtain⟨hk,_⟩:=hσ p hp;obtain⟨k1,k2⟩:=hk _ (q.2 _ (g4 I)) rfl;rw[htch]at k1;exact⟨k2,k1⟩)
     rw[←q2,show l4 σ s.den.H=ao H2 from q1.symm];exact yl _ _ (y.W f args H2 true v H2' q3 rfl).2
   ·obtain ⟨v, H', q1, q2, q3⟩ := xm y hw h
    exact⟨v,H',b,q1,g1,g2,fun c q=>Jq q g3 g4 q2 (fun h1 h2 h3=>absurd ⟨by rw[h1,h2]; rfl,h3⟩ u) (by simpa using g),q3⟩
  ·exact h.elim
theorem UX(q:ak P τ){ops:Array Oper}{j:Nat}{o:Oper}{s:ar}{a:Acc}{k:ar→Acc→Tree}{Q:bS→ar→Prop}(ha:a.ok ops j)(h:(BU P τ ops j o s a k).holds Q) :
  ∃ v H' b,Yields P τ.pf ops o s.den v (ao H')∧b.ok ops (j+1)∧a.le b∧(∀ c,b.le c→Step P τ.pf ops c.R c.W j o s.den v (ao H'))∧(k (s.put o.dst v H') b).holds Q:=by
 have skip:bO ops s.fr o=some false→Yields P τ.pf ops o s.den (.tuple []) (ao s.H):=by
  intro hw;unfold Yields;rw[show s.den.fr=s.fr from rfl,hw];exact⟨rfl,rfl⟩
 unfold BU at h;split at h
 ·exact h.elim
 ·rename_i hw
  exact⟨_,_,a,skip (BX hw),Acc.tU ha,a.le_refl,fun _ _=>step_skip (BX hw),h⟩
 ·rename_i hw
  exact BZ q (Jo hw) ha h
 ·rename_i t b want hw
  obtain⟨h1,g⟩:=Jn hw;simp only[Tree.holds]at h;cases b with
  | true =>
   have d:=h.1 rfl;rw[xn h1]at d;cases want with
   |true=>exact BZ q g ha d
   |false=>exact⟨_,_,a,skip g,Acc.tU ha,a.le_refl,fun _ _=>step_skip g,d⟩
  | false =>
   have d:=h.2 rfl;rw[xn h1]at d;cases want with
   |true=>exact⟨_,_,a,skip g,Acc.tU ha,a.le_refl,fun _ _=>step_skip g,d⟩
   |false=>exact BZ q g ha d
theorem Ju(d:ak P τ){ops:Array Oper}{Q:bS→ar→Prop}:∀{l:List Oper} {j:Nat} {s:ar} {a:Acc} {k:ar→Tree},a.ok ops j→(BV P τ ops l j s a k).holds Q →
  ∃ s' b,qv ops b.R b.W∧a.le b∧qt P τ.pf ops b.R b.W l j s.den s'.den∧(k s').holds Q
 | [],j,s,a,k,ha,h=>⟨s,a,ha.2.2,a.le_refl,rfl,h⟩
 | o::l,j,s,a,k,ha,h=>by
  obtain⟨v,H',b,g1,g2,g3,g4,g5⟩:=UX d ha h;obtain⟨s',c,q,g,u,y⟩:=Ju d g2 g5;exact⟨s',c,q,Acc.le_trans g3 g,⟨v,ao H',g1,g4 c g,u⟩,y⟩
theorem UY{m id:Nat}{ops:Array Oper}{s s':ar}{b:Acc}(hm:P.follows .mixedOrders=true)(d:qu τ.pf ops=true)(g:qv ops b.R b.W)(h:qt P τ.pf ops b.R b.W ops.toList 0 s.den s'.den) :
  cU P m (.region id ops true) s.den .normal s'.den:=fun ro _ _ _ k=>TY hm d g k h (fun _ _ q=>⟨rfl,q.toM⟩) ro
theorem tV{K:bS→ar→Tree}{Q:bS→ar→Prop}:∀{t:Tree},(t.bind K).holds Q→t.holds fun x s=>(K x s).holds Q
 |.fail,h=>h
 |.done _ _,h=>h
 |.ask _ _ _,h=>⟨fun hb=>tV (h.1 hb),fun hb=>tV (h.2 hb)⟩
 |.side _ _,h=>⟨h.1,tV h.2⟩
theorem Jv{m:Nat}{c:Code}{Q:bS→ar→Prop}{body:ar→(bS→ar→Tree)→Tree}
  (hb:∀ s K,(body s K).holds Q→∃ x s',cU P m c s.den x s'.den∧(K x s').holds Q):∀(n:Nat) (s:ar) (K:bS→ar→Tree),(xh body n s K).holds Q →
  ∃ x s',jF P m c s.den x s'.den∧(K x s').holds Q
 |0,_,_,h=>h.elim
 | n+1,s,K,h=>by
  simp only[xh]at h;obtain⟨x,s1,h1,d⟩:=hb _ _ h;cases x with
  | normal =>
   obtain⟨y,s2,g,k⟩:=Jv hb n s1 K d;exact⟨y,s2,.next h1 g,k⟩
  |exit i=>exact⟨_,s1,.stop h1 (by simp),d⟩
  |ret=>exact⟨_,s1,.stop h1 (by simp),d⟩
theorem gC(hm:P.follows .mixedOrders=true)(q:ak P τ){m:Nat}{L:LT}{Q:bS→ar→Prop}:∀(c:Code) (s:ar) (K:bS→ar→Tree),
  ax P m L c→(dW P τ L c s K).holds Q→∃ x s',cU P m c s.den x s'.den∧(K x s').holds Q
 |.skip,s,K,_,h=>⟨_,_,Ty,h⟩
 | .region id ops draw,s,K,k,h=>by
  simp only[dW]at h;split at h
  ·rename_i B
   split at h
   ·rename_i V
    simp only[Tree.holds]at h;have U:draw=true:=by
     cases draw with
     |true=>rfl
     |false=>simp at B
    subst U;obtain⟨s',b,h1,_,d,u⟩:=Ju q (a:=⟨[],[]⟩) ⟨by simp,by simp,⟨fun i id hi=>(nomatch hi),fun e he=>(nomatch he),fun e he=>(nomatch he)⟩⟩ h.2;exact⟨_,_,qn (k.2.1 id s h.1) (UY hm V h1 d),u⟩
   ·exact h.elim
  ·rename_i O
   simp only[Tree.holds]at h;obtain⟨s',h1,d⟩:=xo q h.2;refine⟨_,_,qn (k.2.1 id s h.1) (TB hm (fun B=>?_) h1),d⟩;rw[B]at O;simpa using O
 | .seq a b,s,K,k,h=>by
  simp only[dW]at h;have I:ax P m L a:=k.sub (fun p g=>by simp only[bK]; exact cS.2 (.inl g)) (fun p g=>by simp only[bG]; exact cS.2 (.inl g));have J:ax P m L b:=k.sub (fun p g=>by simp only[bK]; exact cS.2 (.inr g)) (fun p g=>by simp only[bG]; exact cS.2 (.inr (cS.2 (.inr g))));obtain⟨x,s1,h1,d⟩:=gC hm q a s _ I h;cases x with
  | normal =>
   simp only[I']at d;split at d
   ·rename_i t v
    unfold Jc at v;split at v
    ·rename_i i hi
     obtain⟨y,s2,u,N⟩:=k.2.2 i b (by simp only[bG,hi]; exact cS.2 (.inr (cS.2 (.inl (db))))) s1 t v _ (tV d);exact⟨y,s2,wV h1 u,N⟩
    ·cases v
   ·obtain ⟨y, s2, u, N⟩ := gC hm q b s1 K J d
    exact⟨y,s2,wV h1 u,N⟩
  |exit id=>exact⟨_,_,IC h1 (by simp),d⟩
  |ret=>exact⟨_,_,IC h1 (by simp),d⟩
 | .cond c a b,s,K,k,h=>by
  simp only[dW]at h;have I:ax P m L a:=k.sub (fun p g=>by simp only[bK]; exact cS.2 (.inl g)) (fun p g=>by simp only[bG]; exact cS.2 (.inl g));have J:ax P m L b:=k.sub (fun p g=>by simp only[bK]; exact cS.2 (.inr g)) (fun p g=>by simp only[bG]; exact cS.2 (.inr g));split at h
  ·rename_i t hb
   have M:=Je hb;rw[←ar.kr]at M;simp only[Tree.holds]at h;cases t with
   | true =>
    obtain⟨x,s1,h1,d⟩:=gC hm q a s K I (h.1 rfl);exact⟨x,s1,ID M (by simpa using h1),d⟩
   | false =>
    obtain⟨x,s1,h1,d⟩:=gC hm q b s K J (h.2 rfl);exact⟨x,s1,ID M (by simpa using h1),d⟩
  ·exact h.elim
 | .block id c,s,K,k,h=>by
  simp only[dW]at h;obtain⟨x,s1,h1,d⟩:=gC hm q c s _ (k.sub (fun p g=>by simpa only[bK]using g) (fun p g=>by simpa only[bG]using g)) h;refine⟨_,s1,IE h1,?_⟩;cases x with
  |normal=>exact d
  | exit i =>
   simp only[Ja]at d;simp only[bS.inBlock];split
   ·rename_i e; rw[if_pos e]at d; exact d
   ·rename_i e; rw[if_neg e]at d; exact d
  |ret=>exact d
 | .loop c,s,K,k,h=>by
  simp only[dW]at h;split at h
  ·rename_i i hi
   split at h
   ·rename_i t W
    obtain⟨x,s',h1,d⟩:=k.1 i c (by simp only[bK,hi]; exact db) s t W _ (tV h);exact⟨x,s',IF h1,d⟩
   ·obtain ⟨x, s', h1, d⟩ := Jv (fun s1 K1 hh => gC hm q c s1 K1 (k.sub (fun p g => by simp only [bK, hi]; exact df _ g) (fun p g => by simpa only [bG] using g)) hh) 400 s K h
    exact⟨x,s',IF h1,d⟩
  ·exact h.elim
 |.exit id,s,K,_,h=>⟨_,_,TA,h⟩
 |.ret,s,K,_,h=>⟨_,_,Tz,h⟩
 |.rangeFunc ..,_,_,_,h=>by simp[dW,Tree.holds]at h
 |.scope _,_,_,_,h=>by simp[dW,Tree.holds]at h
 |.label _,_,_,_,h=>by simp[dW,Tree.holds]at h
 |.goto _,_,_,_,h=>by simp[dW,Tree.holds]at h
 |.refuse _,_,_,_,h=>by simp[dW,Tree.holds]at h
end sound
end Go.AL

namespace Go.AL
open Go
variable [Dr]
inductive iK where
 |fail
 |ret (v:AV) (H:List ai)
 |ask (b:Bool) (t e:iK)
 |side (b:Bool) (t:iK)
def iK.holds(Q:AV→List ai→Prop):iK→Prop
 |.fail=>False
 |.ret v H=>Q v H
 |.ask b t e=>(b=true→t.holds Q)∧(b=false→e.holds Q)
 |.side b t=>b=true∧t.holds Q
def iK.two:iK→Option (AV × List ai)
 |.fail=>none
 |.ret v H=>some (v,H)
 |.ask b t e=>bif b then t.two else e.two
 |.side b t=>bif b then t.two else none
def iK.val:iK→Option AV
 |.fail=>none
 |.ret v _=>some v
 |.ask b t e=>bif b then t.val else e.val
 |.side b t=>bif b then t.val else none
theorem xp:∀{t:iK} {v:AV},t.val=some v→t.holds fun u _=>u=v
 |.fail,_,h=>by cases h
 |.ret u H,_,h=>by simp only[iK.val,aZ]at h; exact h
 | .ask b t e,v,h=>by
  cases b with
  |true=>exact⟨fun _=>xp (t:=t) (v:=v) h,fun h=>by cases h⟩
  |false=>exact⟨fun h=>(nomatch h),fun _=>xp (t:=e) (v:=v) h⟩
 | .side b t,v,h=>by
  cases b with
  |true=>exact And.intro rfl (xp (t:=t) (v:=v) h)
  |false=>cases h
def B0(H:List ai):Option (List Kd)→AV→Option (Bool × AV)
 |none,a=>some (true,a)
 | some ks,a=>match a with
  |.nils | .lit (.slice none 0 0)=>some (true,.listF ks [])
  |.listF d rows=>if Kd.f_ ks d then some (true,.listF ks rows) else none
  | .list w rows=>match bx ks rows with
   |some gs=>if w=ks.length then some (true,.listF ks gs) else none
   |none=>none
  | .vec w id ae off n=>match H[id]? with
   |some (.vec d v rows)=>if ae=v∧d.length=w∧off=0∧Kd.f_ ks d=true then some (ad n rows.length,.listF ks rows) else none
   |_=>none
  |_=>none
def kB(H:List ai):List (Option (List Kd))→List AV→Option (Bool × List AV)
 |_,[]=>some (true,[])
 | [],a::as=>match kB H [] as with
  |some (b,d)=>some (b,a::d)
  |none=>none
 | c::cs,a::as=>match B0 H c a,kB H cs as with
  |some (b,g),some (h,d)=>some (b&&h,g::d)
  |_,_=>none
theorem UZ{E:Env}(HE:au E){H:List ai}(hH:E.H=ao H){k:Option (List Kd)}{a g:AV}{b:Bool}{c:Value}(h:B0 H k a=some (b,g))(hb:b=true)(u:g.closed=true)(d:rel E a c) :
  rel (E.bare E.w) g c:=by
 unfold B0 at h;split at h
 ·cases h; exact dB (nk E) _ u d
 ·rename_i ks
  split at h
  ·cases h
   simp only[rel,dO,G.rows]at d⊢;obtain⟨base,rfl⟩:=d;exact⟨base,0,rfl,aG _,.inl trivial⟩
  ·cases h
   simp only[rel,dO,G.rows]at d⊢;subst d;exact⟨none,0,rfl,aG _,.inl trivial⟩
  ·split at h
   ·rename_i v
    cases h;rw[Kd.ir v];exact dB (nk E) _ rfl d
   ·cases h
  ·split at h
   ·rename_i gs y
    split at h
    ·rename_i hw
     cases h;rw[iC,oK y];subst hw;exact dB (nk E) _ rfl d
    ·cases h
   ·cases h
  ·split at h
   ·rename_i hid
    split at h
    ·rename_i B
     obtain⟨rfl,I,rfl,q⟩:=B;simp only[aZ,be]at h;obtain⟨h1,rfl⟩:=h;subst hb;have q:=Kd.ir q;subst q;exact Jg HE hH hid I (bt h1) d
    ·cases h
   ·cases h
  ·cases h
theorem B1{E:Env}(HE:au E){H:List ai}(hH:E.H=ao H):∀{ks:List (Option (List Kd))} {as q:List AV} {b:Bool} {cs:List Value},kB H ks as=some (b,q)→b=true →
  AV.bq q=true→af E as cs→af (E.bare E.w) q cs
 | ks,[],q,b,cs,h,_,_,d=>by
  cases ks<;>simp only[kB]at h<;>cases h<;>(cases cs with
   |nil=>simp[af]
   |cons _ _=>simp[af]at d)
 | [],a::as,q,b,cs,h,hb,g,d=>by
  cases cs with
  |nil=>simp[af]at d
  | cons c cs =>
   simp only[kB]at h;simp only[af]at d;split at h
   ·rename_i b1 u h1
    cases h;simp only[AV.bq,aB]at g;simp only[af];exact⟨dB (nk E) _ g.1 d.1,B1 HE hH h1 hb g.2 d.2⟩
   ·cases h
 | k::ks,a::as,q,b,cs,h,hb,g,d=>by
  cases cs with
  |nil=>simp[af]at d
  | cons c cs =>
   simp only[kB]at h;simp only[af]at d;split at h
   ·rename_i b0 a0 b1 u h0 h1
    simp only[aZ,be]at h;obtain⟨v,rfl⟩:=h;subst v;simp only[aB]at hb;simp only[AV.bq,aB]at g;simp only[af];exact⟨UZ HE hH h0 hb.1 g.1 d.1,B1 HE hH h1 hb.2 g.2 d.2⟩
   ·cases h
def Tree.toR(P:Program)(rs:List ResultVar) (ks:List (Option (List Kd))):Tree→iK
 |.fail=>.fail
 | .done x s=>match x with
  |.exit _=>.fail
  | _=>match gQ P s.den rs with
   | some vs=>match kB s.H ks vs with
    |some (b,d)=>.side b (.ret (c6 d) s.H)
    |none=>.fail
   |none=>.fail
 |.ask b t e=>.ask b (t.toR P rs ks) (e.toR P rs ks)
 |.side b t=>.side b (t.toR P rs ks)
theorem toR_holds{P:Program}{rs:List ResultVar}{ks:List (Option (List Kd))}{Q:AV→List ai→Prop}:∀{t:Tree},(t.toR P rs ks).holds Q →
  t.holds fun x s=>(x=.normal∨x=.ret)∧∃ vs d,gQ P s.den rs=some vs∧kB s.H ks vs=some (true,d)∧Q (c6 d) s.H
 |.fail,h=>h
 | .done x s,h=>by
  have key:∀ y,(y=bS.normal∨y=bS.ret)→(match gQ P s.den rs with
   | some vs=>match kB s.H ks vs with
    |some (b,d)=>iK.side b (.ret (c6 d) s.H)
    |none=>.fail
   |none=>.fail).holds Q→(y=.normal∨y=.ret)∧∃ vs d,gQ P s.den rs=some vs∧kB s.H ks vs=some (true,d)∧Q (c6 d) s.H:=by
   intro y g h;split at h
   ·rename_i vs k
    split at h
    ·rename_i b d q
     simp only[iK.holds]at h;obtain⟨rfl,h⟩:=h;exact⟨g,vs,d,k,q,h⟩
    ·exact h.elim
   ·exact h.elim
  simp only[Tree.toR]at h;simp only[Tree.holds];cases x with
  |exit i=>exact h.elim
  |normal=>exact key _ (.inl rfl) h
  |ret=>exact key _ (.inr rfl) h
 |.ask _ _ _,h=>⟨fun hb=>toR_holds (h.1 hb),fun hb=>toR_holds (h.2 hb)⟩
 |.side _ _,h=>⟨h.1,toR_holds h.2⟩
def xq(P:Program)(τ:aj)(L:LT)(fn:Func) (ks:List (Option (List Kd))) (args:List AV) (H:List ai):iK :=
 match fn.body with
 |some c=>(dW P τ L c ⟨iH args fn.ntmps,H⟩ .done).toR P fn.results.toList ks
 |none=>.fail
theorem Jw{E:Env}{vs:List AV}{us:List Value}(h:af E vs us):rel E (c6 vs) (if h:us.toArray.size=1 then us.toArray[0] else .tuple us.toArray):=by
 cases us with
 | nil =>
  cases vs with
  |nil=>simp[c6,rel,af]
  |cons _ _=>simp[af]at h
 | cons u us =>
  cases us with
  | nil =>
   cases vs with
   |nil=>simp[af]at h
   | cons v vs =>
    cases vs with
    |nil=>simp only[af]at h; simpa[c6]using h.1
    |cons _ _=>simp[af]at h
  | cons d us =>
   cases vs with
   |nil=>simp[af]at h
   | cons v vs =>
    cases vs with
    |nil=>simp[af]at h
    | cons v2 vs =>
     simp only[c6,rel];exact⟨(u::d::us).toArray,by simp,h⟩
theorem U0{P:Program}{f:FuncId}{fn:Func}{c:Code}{args:List AV}{x:bS}{s':ar}{ks:List (Option (List Kd))}{vs d:List AV}
  (hf:P.funcs[f]? = some fn) (hb:fn.body=some c) (hs:cU P 0 c ⟨iH args fn.ntmps,[]⟩ x s'.den) (g:x=.normal∨x=.ret) (hr:gQ P s'.den fn.results.toList=some vs)
  (hc:kB s'.H ks vs=some (true,d)) (ha:AV.bq args=true) (J:AV.bq d=true):cH P f args (c6 d):=by
 intro H E cargs hH HE M
 let E0:Env:={ w:=E.w,H:=[],loc:=[],X:=(E.X.or E.own).re dA }
 have N:∀ b,¬ E0.own b:=by rintro b (⟨id,c,hid⟩|⟨l,k,c,hk⟩); simp[E0]at hid; simp[E0,dA]at hk
 have hC:E.bF E0:=⟨fun b hb=>⟨⟨hb.1,N b,fun g=>g.elim hb.2.2 hb.2.1⟩,rfl⟩⟩
 have I:au E0:=by
  refine⟨rfl,?_,?_,?_,?_,HE.eR.bF hC,fun l k l' k' b m n hk=>by simp[E0,dA]at hk,fun i b m l k n hi=>by simp[E0]at hi,fun l k b m hk=>by simp[E0,dA]at hk,fun i j o o' l hi=>by simp[E0]at hi,fun l _ k q hk=>by simp[E0,dA]at hk⟩
  ·intro i j b m n hi; simp[E0]at hi
  ·intro i b m hi; simp[E0]at hi
  ·rintro b (g | ho)
   ·exact HE.X b g
   ·exact(HE.wa ho).1
  ·intro i o hi; simp[E0]at hi
 refine Bk hf hb ?_;have U:=qp I;have V:=lX U _ (mJ hC args ha M);have W:bN ⟨iH args fn.ntmps,[]⟩ { E0 with X:=⟨E0.X.x,fun _=>False,E0.X.r⟩ } { tmps:=cargs++Array.replicate (fn.ntmps-cargs.size) undef,defers:=[] }:=by
  refine⟨rfl,?_,om _ _,I.cD U⟩;simp only[iH,Array.toList_append,Array.toList_replicate];refine jC V ?_;have:=fI M;have e:args.length=cargs.size:=by simpa using this
  rw[e];have:=td (E:={ E0 with X:=⟨E0.X.x,fun _=>False,E0.X.r⟩ }) (bM (fn.ntmps-cargs.size) undef);simpa using this
 refine wpIn_mono (hs none (Bh _) { E0 with X:=⟨E0.X.x,fun _=>False,E0.X.r⟩ } _ W) fun e a1 w0 ⟨h3,loc',X',y,B⟩=>?_;refine⟨by subst h3; rcases g with rfl|rfl; exact .inl rfl; exact .inr rfl,X',y.defers,fun u k1 k2 k3=>?_⟩;obtain⟨y,B⟩:=Bl I y B k1 k2 k3;obtain⟨us,g1,g2⟩:=wX y fn.results.toList vs hr;have hres:(results fn a1.tmps).run P u=.ok (if h:us.toArray.size=1 then us.toArray[0] else .tuple us.toArray) u:=by
  rw[wY];simp only[Sem.run_bind];rw[Array.mapM_eq_mapM_toList,Sem.run_map,g1];rfl
 have g3:=B1 y.heap rfl hc rfl J g2;have g4:=Jw g3;have O:Ext E.w u:=⟨B.size,fun b hb=>B.same b hb (N b),B.env⟩
 have hcl:(c6 d).closed=true:=by
  cases d with
  |nil=>rfl
  | cons v vs =>
   cases vs with
   |nil=>simpa[c6,AV.bq]using J
   |cons v2 vs=>simpa only[c6,AV.closed]using J
 have g5:rel { E with w:=u } (c6 d) (if h:us.toArray.size=1 then us.toArray[0] else .tuple us.toArray) :=
  dB (E:=({ w:=u,H:=ao s'.H,loc:=loc',X:=E0.X.re X'.r }:Env).bare u) (E':={ E with w:=u }) ⟨fun b hb=>⟨⟨hb.1,fun ho=>hb.2.2 (Or.inr ho),fun g=>hb.2.2 (Or.inl g)⟩,rfl⟩⟩ _ hcl g4
 refine⟨_,hres,_,c6 d,H,rfl,⟨rfl,rfl⟩,E.loc,E.X.r,?_,?_,?_⟩
 ·rw[←hH]; exact g5
 ·rw[←hH]; exact HE.ext O
 ·rw[←hH]; exact Env.iD O
theorem U1{vs:List AV}{v:AV}(h:c6 vs=v)(d:v.closed=true):AV.bq vs=true:=by
 subst h;cases vs with
 |nil=>rfl
 | cons v vs =>
  cases vs with
  |nil=>simpa[c6,AV.bq]using d
  |cons v2 vs=>simpa only[c6,AV.closed]using d
theorem dn{P:Program}{τ:aj}{L:LT}(hm:P.follows .mixedOrders=true)(g:ak P τ){f:FuncId}{fn:Func} (ks:List (Option (List Kd))) {args:List AV} {v:AV}
  (k:∀ c,fn.body=some c→ax P 0 L c)
  (q:P.funcs[f]? = some fn) (ha:AV.bq args=true) (u:v.closed=true) (h:(xq P τ L fn ks args []).val=some v):cH P f args v:=by
 have h:=xp h;unfold xq at h;split at h
 ·rename_i c hb
  obtain⟨x,s',h1,y,vs,J,B,I,d⟩:=gC hm g c _ _ (k c hb) (toR_holds h);rw[←d];exact U0 q hb h1 y B I ha (U1 d u)
 ·exact h.elim
end Go.AL

namespace Go.AL
open Go
variable [Dr]
def Jx(ms:List Nat):aj:={ pf:=fun g=>ms.any fun t=>ad g (t+1000000),T:=fun _ _=>none,W:=fun _ _ _=>none,C:=fun _ _ _=>[],U:=fun _=>false }
theorem U2(P:Program)(ms:List Nat):ak P (Jx ms):=⟨fun _ _ _ _ h=>(nomatch h),fun _ _ _ _ _ _ h=>(nomatch h),fun _ _ _ _ _ _ h=>(nomatch h),fun _ _ _ _ h=>(nomatch h),fun _ _ _ _=>⟨rfl,rfl⟩,fun _ h=>(nomatch h)⟩
def aj.add(τ:aj)(f:FuncId)(c:List AV→Option (Bool × AV)):aj where
 pf g:=match ad g f with
  |true=>true
  |false=>τ.pf g
 T g args:=match ad g f with
  |true=>c args
  |false=>τ.T g args
 W:=τ.W
 C:=τ.C
 I:=τ.I
 N:=τ.N
 U:=τ.U
theorem ak.add{P:Program}{τ:aj}(h:ak P τ){f:FuncId}{c:List AV→Option (Bool × AV)}(hb:eS P f=true)(q:∀ args b v,c args=some (b,v)→b=true→cH P f args v) :
  ak P (τ.add f c):=by
 refine⟨fun g args b v d k=>?_,h.W,h.C,h.I,h.F⟩;simp only[aj.add]at d;split at d
 ·rename_i e
  have e:=bt e;subst e;exact⟨hb,q args b v d k⟩
 ·exact h.T g args b v d k
def ay:LT:=⟨fun _ _=>none,fun _ s=>(true,s),fun _ _=>none⟩
theorem aM(P:Program)(m:Nat)(c:Code):ax P m ay c:=⟨fun _ _ _ _ _ h=>(nomatch h),fun _ _ _=>bu.refl _,fun _ _ _ _ _ h=>(nomatch h)⟩
def aj.inline(P:Program)(τ:aj)(f:FuncId)(fn:Func) (ks:List (Option (List Kd))):aj:=τ.add f fun args =>
 match (xq P τ ay fn ks args []).val with
 | some v=>match AV.bq args&&v.closed with
  |true=>some (true,v)
  |false=>none
 |none=>none
theorem ak.inline{P:Program}{τ:aj}(h:ak P τ)(hm:P.follows .mixedOrders=true){f:FuncId}{fn:Func}(k:P.funcs[f]? = some fn)(hb:eS P f=true) (ks:List (Option (List Kd))) :
  ak P (τ.inline P f fn ks):=h.add hb fun args b v d _=>by
 split at d
 ·rename_i u hu
  split at d
  ·rename_i g
   simp only[aB]at g;cases d;exact dn hm h ks (fun _ _=>aM _ _ _) k g.1 g.2 hu
  ·cases d
 ·cases d
abbrev aS(s:ByteArray):AV:=.lit (.string s)
end Go.AL

namespace Go.AL
open Go
variable [Dr]
def tW(slot:Nat)(ks:List Kd)(s:ar):ar:=⟨s.fr.set slot (.vec ks.length s.H.length 0 0 0),s.H++[.vec ks 0 []]⟩
def isNil:AV→Bool
 |.nils | .lit (.slice none 0 0)=>true
 |_=>false
theorem Jy{E:Env}{a:AV}{c:Value}(h:isNil a=true)(d:rel E a c):∃ base,c=.slice base 0 0:=by
 unfold isNil at h;split at h
 ·simpa only[rel]using d
 ·simp only[rel]at d; exact⟨none,d⟩
 ·cases h
theorem Jz{m:Nat}{slot:Nat}{ks:List Kd}{s:ar}(h:isNil (s.fr.getD slot .undef)=true):bu m s.den (tW slot ks s).den:=fun E a d=>by
 have hH:E.H=ao s.H:=d.H;have hlen:E.H.length=s.H.length:=by rw[hH,eg]
 have hle:E.le (E.push E.w (.vec ks.length 0 []) none):=Env.iY d.heap.len (Ext.refl _) (fun b n h=>by cases h);have q:aN (E.push E.w (.vec ks.length 0 []) none) E.H.length (.vec ks.length 0 []):=by
  simp only[aN,Env.push];refine .inl ⟨?_,trivial⟩;rw[ia (by rw[d.heap.len]; exact aG _),d.heap.len,mD];rfl
 have u:au (E.push E.w (.vec ks.length 0 []) none):=au.push d.heap (Ext.refl _) (fun b n h=>by cases h) q;have k:(tW slot ks s).den.H=E.H++[.vec ks.length 0 []]:=by
  rw[hH];simp[tW,ar.den,ao,ai.den]
 refine⟨E.loc++[none],E.X,?_,?_⟩
 ·rw [k]
  refine⟨k.symm,?_,d.defers,u⟩;have h':=du hle _ d.fr;have B:∀(fr:List AV) (cs:List Value) (i:Nat),af E fr cs→isNil (fr.getD i .undef)=true→af (E.push E.w (.vec ks.length 0 []) none) fr cs →
    af (E.push E.w (.vec ks.length 0 []) none) (fr.set i (.vec ks.length s.H.length 0 0 0)) cs:=by
   intro fr
   induction fr with
   |nil=>intro cs i h0 h1 g; exact g
   | cons b fr I =>
    intro cs i h0 h1 g;cases cs with
    |nil=>simp[af]at h0
    | cons c cs =>
     simp only[af]at h0 g;cases i with
     | zero =>
      simp only[List.set_cons_zero,af];refine⟨?_,g.2⟩;obtain⟨base,rfl⟩:=Jy (by simpa using h1) h0.1;have J:(E.push E.w (.vec ks.length 0 []) none).H[s.H.length]? = some (.vec ks.length 0 []):=by
       simp only[Env.push];rw[ia (by omega),hlen,mD];rfl
      have y:(E.push E.w (.vec ks.length 0 []) none).loc[s.H.length]? = some none:=by
       simp only[Env.push];rw[ia (by rw[d.heap.len]; omega),d.heap.len,hlen,mD];rfl
      simp only[rel];refine⟨⟨base,0,rfl,aG _,fun h=>absurd h (pQ _)⟩,⟨_,J,rfl,fun v h=>ef _⟩,fun _=>⟨fun _=>⟨trivial,trivial,base,rfl⟩,fun b m hb=>?_⟩⟩;rw[y]at hb;cases hb
     | succ i =>
      simp only[List.set_cons_succ,af];exact⟨g.1,I cs i h0.2 (by simpa using h1) g.2⟩
  exact B s.fr _ slot d.fr h h'
 ·rw [k]
  exact hle.toM
def cw(fn:Func)(k:Nat):Code:=match fn.body with
 | some c=>match (bK c).find? fun p=>ad p.1 k with
  |some p=>p.2
  |none=>.skip
 |none=>.skip
theorem tX{P:Program}{f:FuncId}{vs:List Value}{u:Value}(h:∀ w,Calls P f vs.toArray w fun e w'=>e=.returned u∧Ext w w'):cH P f (vs.map .lit) (.lit u):=by
 intro H E cargs hH HE g;have e:cargs=vs.toArray:=by
  have:∀(vs us:List Value),af E (vs.map AV.lit) us→us=vs:=by
   intro vs
   induction vs with
   | nil=>intro us h; cases us with
    |nil=>rfl
    |cons _ _=>simp[af]at h
   | cons v vs k =>
    intro us h;cases us with
    |nil=>simp[af]at h
    | cons u us =>
     simp only[dq,af,rel]at h;rw[h.1,k us h.2]
  have:=this vs cargs.toList g;rw[←this]
 rw[e];refine(h E.w).mono ?_;rintro _ w' ⟨rfl,d⟩;refine⟨u,.lit u,H,rfl,⟨rfl,rfl⟩,E.loc,E.X.r,by simp[rel],?_,?_⟩
 ·rw[←hH]; exact HE.ext d
 ·rw[←hH]; exact Env.iD d
end Go.AL

namespace Go.AL
open Go
variable [Dr]
def l5(ks:List Kd):AV→Option (List (List G))
 |.nils | .lit (.slice none 0 0)=>some []
 |.emptyS _=>some []
 |.listF d rows=>if Kd.f_ ks d then some rows else none
 | .list w rows=>match bx ks rows with
  |some gs=>if w=ks.length then some gs else none
  |none=>none
 |_=>none
def B2(ks:List Kd):AV→Option (List G)
 |.agg cells=>fF ks cells
 |_=>none
theorem JA{E:Env}{ks:List Kd}{a:AV}{rows:List (List G)}{c:Value}(h:l5 ks a=some rows)(d:rel E a c):rel E (.listF ks rows) c:=by
 unfold l5 at h;split at h
 ·cases h
  simp only[rel,dO,G.rows]at d⊢;obtain⟨base,rfl⟩:=d;exact⟨base,0,rfl,aG _,.inl trivial⟩
 ·cases h
  simp only[rel,dO,G.rows]at d⊢;subst d;exact⟨none,0,rfl,aG _,.inl trivial⟩
 ·cases h
  simp only[rel,dO,G.rows]at d⊢;obtain⟨base,cap,rfl,_⟩:=d;exact⟨base,cap,rfl,ef _,.inl trivial⟩
 ·split at h
  ·rename_i g
   cases h;rw[Kd.ir g];exact d
  ·cases h
 ·split at h
  ·rename_i gs k
   split at h
   ·rename_i hw
    cases h;rw[iC,oK k];subst hw;exact d
   ·cases h
  ·cases h
 ·cases h
theorem JB{ks:List Kd}{a:AV}{r:List G}(h:B2 ks a=some r):a=.agg (aJ ks r):=by
 unfold B2 at h;split at h
 ·rw[jJ h]
 ·cases h
end Go.AL

namespace Go.AL
open Go
variable [Dr]
structure bL where
 ids:List Nat
 sh:List Nat
 base:Nat
def bL.at(e:bL)(j:Nat):Nat:=match e.ids[j]? with
 |some i=>i
 |none=>e.base+(j-e.ids.length)
def bL.up(e:bL)(j:Nat):Nat:=e.sh.getD j 0
mutual
def AV.cd(e:bL):AV→AV
 |.agg cs=>.agg (AV.ji e cs)
 |.tuple cs=>.tuple (AV.ji e cs)
 |.clo f cs=>.clo f (AV.ji e cs)
 |.ptr id ae k row col=>.ptr (e.at id) (ae+e.up id) k row col
 |.vec k id ae off n=>.vec k (e.at id) (ae+e.up id) off n
 |.map id=>.map (e.at id)
 |.sub ..=>.undef
 |a=>a
def AV.ji(e:bL):List AV→List AV
 | []=>[]
 |a::as=>a.cd e::AV.ji e as
end
def ab.cd(e:bL)(j:Nat):ab→ab
 |.box cells=>.box (AV.ji e cells)
 |.vec k v rows=>.vec k (v+e.up j) rows
 |o=>o
theorem JD(e:bL):∀(as:List AV),(AV.ji e as).length=as.length
 | []=>rfl
 |_::as=>by simp[AV.ji,JD e as]
mutual
def AV.bH:AV→Bool
 |.agg cs | .tuple cs | .clo _ cs=>AV.cy cs
 |.list .. | .listF .. | .cptr _=>false
 |_=>true
def AV.cy:List AV→Bool
 | []=>true
 |a::as=>a.bH&&AV.cy as
end
structure oS (S:Bool) (e:bL) (E E':Env):Prop where
 ok:S=false→∀ b,E.ig b→E'.ig b∧E'.w.heap[b]? = E.w.heap[b]?
 past:∀ j ae,E.past j ae→E'.past (e.at j) (ae+e.up j)
 live:∀ j ae,E.past j ae→E'.live (e.at j) (ae+e.up j)→E.live j ae∧E'.loc[e.at j]? = E.loc[j]?
theorem oS.bF{e:bL}{E E':Env}(h:oS false e E E'):E.bF E':=⟨h.ok rfl⟩
mutual
theorem B3{S:Bool}{e:bL}{E E':Env}(h:oS S e E E'):∀(a:AV) {c:Value},(S=true→a.bH=true)→rel E a c→rel E' (a.cd e) c
 |.undef,_,_,_=>by simp[AV.cd,rel]
 |.lit v,c,_,d=>by simpa only[AV.cd,rel]using d
 |.nils,c,_,d=>by simpa only[AV.cd,rel]using d
 | .list k rows,c,q,d=>by
  cases S with
  |true=>exact absurd (q rfl) (by simp[AV.bH])
  |false=>exact dB h.bF (.list k rows) rfl d
 | .listF ks rows,c,q,d=>by
  cases S with
  |true=>exact absurd (q rfl) (by simp[AV.bH])
  |false=>exact dB h.bF (.listF ks rows) rfl d
 | .cptr cells,c,q,d=>by
  cases S with
  |true=>exact absurd (q rfl) (by simp[AV.bH])
  |false=>exact dB h.bF (.cptr cells) rfl d
 |.ifc,c,_,d=>by simpa only[AV.cd,rel]using d
 |.emptyS n,c,_,d=>by simpa only[AV.cd,rel]using d
 |.sub ..,c,_,_=>by simp only[AV.cd,rel]
 | .agg cells,c,q,d=>by
  simp only[rel]at d;simp only[AV.cd,rel];obtain⟨cs,y,h1,g⟩:=d;exact⟨cs,y,h1,xr h cells (fun e=>by simpa only[AV.bH]using q e) g⟩
 | .tuple cells,c,q,d=>by
  simp only[rel]at d;simp only[AV.cd,rel];obtain⟨cs,y,g⟩:=d;exact⟨cs,y,xr h cells (fun e=>by simpa only[AV.bH]using q e) g⟩
 | .clo f cells,c,q,d=>by
  simp only[rel]at d;simp only[AV.cd,rel];obtain⟨cs,y,g⟩:=d;exact⟨cs,y,xr h cells (fun e=>by simpa only[AV.bH]using q e) g⟩
 | .ptr id ae k row col,c,_,d=>by
  simp only[rel]at d;simp only[AV.cd,rel];obtain⟨h1,g,B⟩:=d;refine⟨h1,h.past _ _ g,fun u=>?_⟩;obtain⟨g1,g2⟩:=h.live _ _ g u;rw[g2];exact B g1
 | .vec k id ae off n,c,_,d=>by
  simp only[rel]at d;simp only[AV.cd,rel];obtain⟨h1,g,B⟩:=d;refine⟨h1,h.past _ _ g,fun u=>?_⟩;obtain⟨g1,g2⟩:=h.live _ _ g u;rw[g2];exact B g1
 | .map id,c,_,d=>by
  simp only[rel]at d;simp only[AV.cd,rel];obtain⟨h1,g,B⟩:=d;have M:=h.past _ _ g;refine⟨h1,?_,fun u=>?_⟩
  ·obtain ⟨o, I, J⟩ := M
   exact⟨o,I,J.1,fun v U=>ef _⟩
  ·have hu:e.up id=0:=by
    obtain⟨o,I,J⟩:=M;obtain⟨o2,N,O⟩:=u;rw[I]at N;cases N;have:=J.2 0 O;omega
   obtain⟨g1,g2⟩:=h.live _ _ g (by rw[hu]; exact u);rw[g2];exact B g1
theorem xr{S:Bool}{e:bL}{E E':Env}(h:oS S e E E'):∀(as:List AV) {vs:List Value},(S=true→AV.cy as=true)→af E as vs→af E' (AV.ji e as) vs
 | [],[],_,_=>by simp[AV.ji,af]
 | [],_::_,_,d=>by simp[af]at d
 |_::_,[],_,d=>by simp[af]at d
 | a::as,v::vs,g,d=>by
  simp only[AV.cy,aB]at g;simp only[af]at d;simp only[AV.ji,af];exact⟨B3 h a (fun e=>(g e).1) d.1,xr h as (fun e=>(g e).2) d.2⟩
end
structure KeepIn (e:bL) (E E':Env):Prop where
 ok:∀ b,E.ig b→E'.ig b∧E'.w.heap[b]? = E.w.heap[b]?
 w:E'.w=E.w
 loc:∀ j,j<e.ids.length→E'.loc[j]? = E.loc[e.at j]?
 iL:∀(j:Nat) o l,E'.H[j]? = some o→o.label=some l→E'.X.r l=E.X.r l
theorem KeepIn.bF{e:bL}{E E':Env}(h:KeepIn e E E'):E.bF E':=⟨h.ok⟩
structure xu (e:bL) (nl:List Nat) (E E':Env):Prop extends KeepIn e E E' where
 U3:∀ i,i∈nl→∀ b n,E.loc[i]? = some (some (b,n))→E'.ig b
def dX{α:Type}:List α→List Nat→List α→List α
 |l,i::is,x::xs=>dX (l.set i x) is xs
 |l,_,_=>l
theorem nm{α:Type}:∀(is:List Nat) (l xs:List α),(dX l is xs).length=l.length
 | [],_,_=>by simp[dX]
 |_::_,_,[]=>by simp[dX]
 |i::is,l,x::xs=>by simp[dX,nm is]
theorem xv{α:Type}:∀(is:List Nat) (l xs:List α) (n:Nat),n∉is→(dX l is xs)[n]? = l[n]?
 | [],_,_,_,_=>by simp[dX]
 |_::_,_,[],_,_=>by simp[dX]
 | i::is,l,x::xs,n,h=>by
  simp only[bV,not_or]at h;simp only[dX];rw[xv is _ xs n h.2,aT (Ne.symm h.1)]
theorem JE{α:Type}:∀(is:List Nat) (l xs:List α) (j i:Nat) (x:α),is.Nodup→is[j]? = some i→xs[j]? = some x→i<l.length→(dX l is xs)[i]? = some x
 | [],_,_,_,_,_,_,h,_,_=>by simp at h
 |_::_,_,[],_,_,_,_,_,h,_=>by simp at h
 | k::is,l,y::xs,0,i,x,g,h1,d,q=>by
  simp at h1 d;subst h1; subst d;simp only[dX];have:k∉is:=(lI.1 g).1;rw[xv is _ xs k this,List.getElem?_set_self q]
 | k::is,l,y::xs,j+1,i,x,g,h1,d,q=>by
  simp only[dX];exact JE is _ xs j i x (lI.1 g).2 (by simpa using h1) (by simpa using d) (by simpa using q)
def ab.xw(e:bL)(j:Nat):ab→Bool
 |.dead=>true
 |.vec _ _ _=>true
 |_=>ad (e.up j) 0
def jL(e:bL):Nat→List ab→List ab
 |_,[]=>[]
 |j,o::os=>o.cd e j::jL e (j+1) os
def jM(e:bL):Nat→List ab→Bool
 |_,[]=>true
 |j,o::os=>o.xw e j&&jM e (j+1) os
theorem B4(e:bL):∀(j:Nat) (os:List ab),(jL e j os).length=os.length
 |_,[]=>rfl
 |j,_::os=>by simp[jL,B4 e (j+1) os]
theorem JF(e:bL):∀(j:Nat) (os:List ab) (i:Nat),(jL e j os)[i]? = (os[i]?).map (ab.cd e (j+i))
 |_,[],i=>by simp[jL]
 |j,o::os,0=>by simp[jL]
 | j,o::os,i+1=>by
  simp only[jL,List.getElem?_cons_succ,JF e (j+1) os i];rw[show j+1+i=j+(i+1) from by omega]
theorem JG{e:bL}:∀{j:Nat} {os:List ab} {i:Nat} {o:ab},jM e j os=true→os[i]? = some o→o.xw e (j+i)=true
 |_,[],i,_,_,h=>by simp at h
 | j,_::os,0,o,h,hi=>by
  simp only[jM,aB]at h;simp at hi;subst hi;exact h.1
 | j,_::os,i+1,o,h,hi=>by
  simp only[jM,aB]at h;have:=JG h.2 (by simpa using hi)
  rwa [show j+1+i=j+(i+1) from by omega]at this
theorem tY{e:bL}{j:Nat}{o:ab}(h:o.xw e j=true)(v:Nat):(o.cd e j).aF = some v↔∃ u,o.aF = some u∧v=u+e.up j:=by
 cases o with
 |dead=>simp[ab.cd,ab.aF]
 |dI=>simp[ab.cd,ab.aF]
 |vec k u rows=>simp[ab.cd,ab.aF,eq_comm]
 | box cells =>
  have:=bt h;simp[ab.cd,ab.aF,this,eq_comm]
 | map es cl =>
  have:=bt h;simp[ab.cd,ab.aF,this,eq_comm]
 | iter s p =>
  have:=bt h;simp[ab.cd,ab.aF,this,eq_comm]
 | er l T B s =>
  have:=bt h;simp[ab.cd,ab.aF,this,eq_comm]
 | aH l k es cl =>
  have:=bt h;simp[ab.cd,ab.aF,this,eq_comm]
 | mm l es ms cl =>
  have:=bt h;simp[ab.cd,ab.aF,this,eq_comm]
theorem JH(e:bL)(j:Nat)(o:ab):(o.cd e j).born=o.born:=by cases o<;>rfl
theorem JI(e:bL)(j:Nat)(o:ab):(o.cd e j).label=o.label:=by cases o<;>rfl
theorem U4(e:bL)(j:Nat)(o:ab):(o.cd e j).cZ=o.cZ:=by cases o<;>rfl
def ab.bH:ab→Bool
 |.box cells=>AV.cy cells
 |.vec _ _ rows=>rows.all fun r=>AV.cy r
 |.map es _=>es.all fun x=>x.1.bH&&x.2.1.bH
 | .aH _ _ es _=>es.all fun x=>x.1.bH&&(match x.2.1 with
  |some rows=>rows.all fun r=>AV.cy r
  |none=>true)
 |.mm _ es ms _=>(es.all fun x=>x.1.bH)&&ms.all fun m=>m.1.all fun x=>x.1.bH&&x.2.1.bH
 |_=>true
theorem JJ{S:Bool}{e:bL}{E E':Env}(h:oS S e E E'){b:Nat}(hb:E'.w.heap[b]? = E.w.heap[b]?):∀(as:List AV) {o:Nat},(S=true→AV.cy as=true)→cn E as b o→cn E' (AV.ji e as) b o
 | [],_,_,_=>by simp[AV.ji,cn]
 | a::as,o,d,g=>by
  simp only[AV.cy,aB]at d;simp only[cn]at g;simp only[AV.ji,cn];obtain⟨⟨v,h1,k,q⟩,u⟩:=g;exact⟨⟨v,by rw[World.pT hb]; exact h1,k,B3 h a (fun e=>(d e).1) q⟩,JJ h hb as (fun e=>(d e).2) u⟩
mutual
theorem xy{E E':Env}:∀(a:AV) {c:Value},a.closed=true→a.bH=true→rel E a c→rel E' a c
 |.undef,_,_,_,_=>by simp[rel]
 |.lit v,c,_,_,d=>by simpa only[rel]using d
 |.nils,c,_,_,d=>by simpa only[rel]using d
 |.ifc,c,_,_,d=>by simpa only[rel]using d
 |.emptyS n,c,_,_,d=>by simpa only[rel]using d
 |.list ..,_,_,h,_ | .listF ..,_,_,h,_ | .cptr _,_,_,h,_=>by simp[AV.bH]at h
 |.ptr ..,_,h,_,_ | .vec ..,_,h,_,_ | .map _,_,h,_,_=>by simp[AV.closed]at h
 | .agg cells,c,g,k,d=>by
  simp only[rel]at d⊢;obtain⟨cs,e,h1,q⟩:=d;exact⟨cs,e,h1,xz cells (by simpa only[AV.closed]using g) (by simpa only[AV.bH]using k) q⟩
 | .tuple cells,c,g,k,d=>by
  simp only[rel]at d⊢;obtain⟨cs,e,q⟩:=d;exact⟨cs,e,xz cells (by simpa only[AV.closed]using g) (by simpa only[AV.bH]using k) q⟩
 | .clo f cells,c,g,k,d=>by
  simp only[rel]at d⊢;obtain⟨cs,e,q⟩:=d;exact⟨cs,e,xz cells (by simpa only[AV.closed]using g) (by simpa only[AV.bH]using k) q⟩
theorem xz{E E':Env}:∀(as:List AV) {vs:List Value},AV.bq as=true→AV.cy as=true→af E as vs→af E' as vs
 | [],[],_,_,_=>by simp[af]
 | [],_::_,_,_,d=>by simp[af]at d
 |_::_,[],_,_,d=>by simp[af]at d
 | a::as,v::vs,g,h,d=>by
  simp only[AV.bq,AV.cy,aB]at g h;simp only[af]at d⊢;exact⟨xy a g.1 h.1 d.1,xz as g.2 h.2 d.2⟩
end
theorem JK{E E':Env}{b:Nat}(hb:E'.w.heap[b]? = E.w.heap[b]?):∀(as:List AV) {o:Nat},AV.bq as=true→AV.cy as=true→cn E as b o→cn E' as b o
 | [],_,_,_,_=>by simp[cn]
 | a::as,o,d,g,h=>by
  simp only[AV.bq,AV.cy,aB]at d g;simp only[cn]at h⊢;obtain⟨⟨v,h1,k,q⟩,u⟩:=h;exact⟨⟨v,by rw[World.pT hb]; exact h1,k,xy a d.1 g.1 q⟩,JK hb as d.2 g.2 u⟩
theorem B5{E E':Env}{b k:Nat}(hb:E'.w.heap[b]? = E.w.heap[b]?):∀(rs:List (List AV)) {o:Nat},eQ rs→(rs.all fun r=>AV.cy r)=true→cz E k rs b o→cz E' k rs b o
 | [],_,_,_,_=>by simp[cz]
 | r::rs,o,h,g,d=>by
  simp only[lF,aB]at g;simp only[cz]at d⊢;exact⟨d.1,JK hb r (h r db) g.1 d.2.1,B5 hb rs (fun x q=>h x (df _ q)) g.2 d.2.2⟩
theorem tZ{E E':Env}:∀{es:List (AV × AV × Nat)} {ms:List MapEntry},(es.all fun x=>x.1.bH&&x.2.1.bH)=true→bC E es ms→bC E' es ms
 | [],[],_,_=>by simp[bC]
 | (k,v,n)::es,e::ms,g,d=>by
  simp only[lF,aB]at g;simp only[bC]at d⊢;obtain⟨h1,u,y,h,q,B⟩:=d;exact⟨xy k h g.1.1 h1,xy v q g.1.2 u,y,h,q,tZ g.2 B⟩
 | [],_::_,_,d=>by simp[bC]at d
 |_::_,[],_,d=>by simp[bC]at d
theorem iu{E E':Env}(h:E.bF E'):∀{es:List (AV × AV × Nat)} {ms:List MapEntry},bC E es ms→bC E' es ms
 | [],[],_=>by simp[bC]
 | (k,v,n)::es,e::ms,d=>by
  simp only[bC]at d⊢;obtain⟨h1,u,y,g,q,B⟩:=d;exact⟨dB h k g h1,dB h v q u,y,g,q,iu h B⟩
 | [],_::_,d=>by simp[bC]at d
 |_::_,[],d=>by simp[bC]at d
theorem U5{S:Bool}{e:bL}{E E':Env}(h:oS S e E E'){j:Nat}{o:ab}(U:S=true→o.bH=true)(J:E'.loc[e.at j]? = E.loc[j]?) (hb:∀ b n,E.loc[j]? = some (some (b,n))→E'.w.heap[b]? = E.w.heap[b]?)
  (W:∀ l,o.label=some l→E'.X.r l=E.X.r l∧∀(h g m:Nat),(E.X.r l)[h]? = some (some (some (g,m)))→E'.w.heap[g]? = E.w.heap[g]?)
  (ho:aN E j o):aN E' (e.at j) (o.cd e j):=by
 cases o with
 |dead=>simp only[ab.cd,aN]at *; rw[J]; exact ho
 |dI=>simp only[ab.cd,aN]at *; rw[J]; exact ho
 | box cells =>
  simp only[ab.cd,aN]at *;obtain⟨b,n,h1,d,u⟩:=ho;exact⟨b,n,by rw[J,h1],by rw[JD]; exact pV (hb b n h1) d,JJ h (hb b n h1) cells (fun e=>by simpa only[ab.bH]using U e) u⟩
 | vec k ae rows =>
  simp only[ab.cd,aN]at *;rcases ho with⟨h1,d⟩|⟨b,m,h1,d,u,M,I⟩
  ·exact .inl ⟨by rw[J,h1],d⟩
  ·refine .inr ⟨b, m, by rw [J, h1], pV (hb b m h1) d, u, M, ?_⟩
   cases S with
   |true=>exact B5 (hb b m h1) rows M (by simpa only[ab.bH]using U rfl) I
   |false=>exact ka h.bF rows M (hb b m h1) I
 | map es clock =>
  simp only[ab.cd,aN]at *;obtain⟨b,n,ms,h1,d,u⟩:=ho;refine⟨b,n,ms,by rw[J,h1],by rw[hb b n h1,d],?_⟩;cases S with
  |true=>exact tZ (by simpa only[ab.bH]using U rfl) u
  |false=>exact iu h.bF u
 | iter s pos =>
  simp only[ab.cd,aN]at *;obtain⟨b,n,h1,d⟩:=ho;exact⟨b,n,by rw[J,h1],by rw[hb b n h1,d]⟩
 | er l T B s =>
  simp only[ab.cd,aN]at *;obtain⟨b,n,p,v,k,q,h1,d,u,M,I,h6⟩:=ho;obtain⟨g1,g2⟩:=W l rfl;exact⟨b,n,p,v,k,q,by rw[J,h1],by rw[hb b n h1,d],u,by rw[g1,M],by rw[g1]; exact I,Al (fun g m e=>g2 k g m (by rw[M,e])) h6⟩
 | aH l k es clock =>
  simp only[ab.cd,aN]at *;obtain⟨b,n,ms,h1,d,u,M⟩:=ho;obtain⟨g1,g2⟩:=W l rfl;have O:S=true→∀ x∈es,x.1.bH=true∧∀ rows,x.2.1=some rows→(rows.all fun r=>AV.cy r)=true:=fun e x N=>by
   have I:=cO.1 (by simpa only[ab.bH]using U e) x N;simp only[aB]at I;exact⟨I.1,fun rows V=>by rw[V]at I; exact I.2⟩
  refine⟨b,n,ms,by rw[J,h1],by rw[hb b n h1,d],?_,sN (fun h g m hk=>⟨by rw[g1]; exact hk,g2 h g m hk⟩) (fun i x rows hi N b hb2 hc V=>?_) M⟩
  ·cases S with
   | true =>
    refine tZ (cO.2 fun x N=>?_) u;obtain⟨y,hy,rfl⟩:=dF.1 N;simp[(O rfl y hy).1,AV.bH]
   |false=>exact iu h.bF u
  ·cases S with
   |true=>exact B5 hb2 rows hc ((O rfl x (eM hi)).2 rows N) V
   |false=>exact ka h.bF rows hc hb2 V
 | mm l es ms clock =>
  simp only[ab.cd,aN]at *;obtain⟨b,n,mes,h1,d,u,M⟩:=ho;obtain⟨g1,g2⟩:=W l rfl;have O:S=true→(es.all fun x=>x.1.bH)=true∧∀ m∈ms,(m.1.all fun x=>x.1.bH&&x.2.1.bH)=true:=fun e=>by
   have I:=U e;simp only[ab.bH,aB]at I;exact⟨I.1,cO.1 I.2⟩
  refine⟨b,n,mes,by rw[J,h1],by rw[hb b n h1,d],?_,Ao g1 g2 (fun m hm q hq=>?_) M⟩
  ·cases S with
   | true =>
    refine tZ (cO.2 fun x N=>?_) u;obtain⟨y,hy,rfl⟩:=dF.1 N;simp[cO.1 (O rfl).1 y hy,AV.bH]
   |false=>exact iu h.bF u
  ·cases S with
   |true=>exact tZ ((O rfl).2 m hm) hq
   |false=>exact iu h.bF hq
def np(e:bL)(H H1:List ab):List ab:=dX H e.ids (jL e 0 H1)++(jL e 0 H1).drop e.ids.length
theorem gg{e:bL}{j:Nat}(h:j<e.ids.length):e.ids[j]? = some (e.at j):=by
 simp[bL.at,h]
theorem qI{e:bL}{j:Nat}(h:e.ids.length≤j):e.at j=e.base+(j-e.ids.length):=by
 simp[bL.at,List.getElem?_eq_none h]
theorem JL{α:Type}{e:bL}{H xs:List α}(k:e.ids.Nodup)(d:∀ j,j<e.ids.length→e.at j<H.length)(hb:e.base=H.length)(q:e.ids.length≤xs.length)(j:Nat) :
  (dX H e.ids xs++xs.drop e.ids.length)[e.at j]? = xs[j]? := by
 rcases iV j e.ids.length with h|h
 ·rw [cK (by rw [nm]; exact d j h)]
  have g:j<xs.length:=dj h q;rw[JE e.ids H xs j (e.at j) xs[j] k (gg h) (bI g) (d j h),bI g]
 ·rw [qI h, hb, ia (by rw [nm]; omega), nm, pG]
  congr 1;omega
theorem B6{α:Type}{e:bL}{H xs:List α}{i:Nat}(hi:i∉e.ids)(d:i<H.length):(dX H e.ids xs++xs.drop e.ids.length)[i]? = H[i]? := by
 rw[cK (by rw[nm]; exact d),xv e.ids H xs i hi]
theorem nq{α:Type}{e:bL}{H xs:List α}{i:Nat}{x:α}(hb:e.base=H.length)(h:(dX H e.ids xs++xs.drop e.ids.length)[i]? = some x) :
  (i∉e.ids∧i<H.length∧H[i]? = some x)∨∃ j,i=e.at j:=by
 by_cases hm:i∈e.ids
 ·right
  obtain⟨j,g,rfl⟩:=n3 hm;refine⟨j,?_⟩;have:=gg g;rw[bI g]at this;exact(fW this)
 ·rcases iV i H.length with d | k
  ·left
   exact⟨hm,d,by rw[B6 hm d]at h; exact h⟩
  ·right
   refine⟨e.ids.length+(i-H.length),?_⟩;rw[qI (by omega)];omega
theorem frame(S:Bool)(nl:List Nat){P:Program}{f:FuncId}{args:List AV}{H0 H1 H:List ab}{v:AV}{e:bL}(hc:dv P f args H0 v H1)(hk:e.ids.length=H0.length)(hb:e.base=H.length)(hn:e.ids.Nodup)
  (hver:∀ j o,H0[j]? = some o→∃ o',H[e.at j]? = some o'∧o.born=true∧∀ v,o'.aF = some v↔∃ u,o.aF = some u∧v=u+e.up j)
  (hobj:∀ E E0,E.H=H→au E→xu e nl E E0→E0.H=H0→∀ j o,H0[j]? = some o→aN E0 j o) (hu1:jM e 0 H1=true) (hl1:H0.length≤H1.length) (hlent:S=false→nl=[])
  (hSv:S=true→v.bH=true) (hSo:S=true→(H1.all ab.bH)=true) (hdis:∀ i,i∈nl→i∉e.ids)
  (hlab:∀(j:Nat) o o',H0[j]? = some o→H[e.at j]? = some o'→o'.label=o.label) (hlab1:∀(j:Nat) o l,H1[j]? = some o→o.label=some l→∃ o0,H0[j]? = some o0∧o0.label=some l)
  (hlabm:∀(j:Nat) o o',H0[j]? = some o→H[e.at j]? = some o'→o'.cZ=o.cZ) {args0:List AV}
  (hargs0:∀ E E0 cs,E.H=H→au E→xu e nl E E0→E0.H=H0→af E args0 cs→af E0 args cs) :
  dv P f args0 H (v.cd e) (np e H H1):=by
 intro E cargs M HE hargs;have hElen:E.loc.length=H.length:=by rw[HE.len,M]
 have hat:∀ j,j<e.ids.length→e.at j<H.length:=fun j B=>by
  have hj':j<H0.length:=by omega
  obtain⟨o',h1,_⟩:=hver j H0[j] (bI hj');exact aK h1
 have hmem:∀ j,j<e.ids.length→e.at j∈e.ids:=fun j B=>eM (gg B)
 let pl:Nat→Prop:=fun l=>∃(j:Nat) (o:ab),H0[j]? = some o∧o.label=some l
 have:DecidablePred pl:=fun l=>Classical.propDecidable (pl l)
 let r0:Nat→List (Option (Option (Nat × Nat))):=fun l=>if pl l then E.X.r l else []
 have r0p:∀ l,pl l→r0 l=E.X.r l:=fun l h=>if_pos h;have r0n:∀ l (h:Nat) q,(r0 l)[h]? = some q→pl l∧(E.X.r l)[h]? = some q:=fun l h q W=>by
  by_cases y:pl l
  ·rw[r0p l y]at W; exact⟨y,W⟩
  ·rw[show r0 l=[] from if_neg y]at W; simp at W
 let X0:XS:=⟨fun b=>E.X b∨(∃ i c,i∉e.ids∧i∉nl∧E.loc[i]? = some (some (b,c)))∨∃(l h m:Nat),¬ pl l∧(E.X.r l)[h]? = some (some (some (b,m))),E.X.z,r0⟩
 let loc0:List (Option (Nat × Nat)):=e.ids.map fun i=>E.loc.getD i none
 let E0:Env:={ w:=E.w,H:=H0,loc:=loc0,X:=X0 }
 have hloc0:∀ j,j<e.ids.length→loc0[j]? = E.loc[e.at j]? := fun j B=>by
  simp only[loc0,bZ,gg B,eF];have:e.at j<E.loc.length:=by rw[hElen]; exact hat j B
  rw[ch,bI this];rfl
 have hlen0:loc0.length=e.ids.length:=by simp[loc0]
 have hpast:∀ j ae,E.past (e.at j) ae→j<e.ids.length:=by
  rintro j ae ⟨o,ho,_⟩;rcases iV j e.ids.length with h|h
  ·exact h
  ·have := aK ho
   rw[M,qI h,hb]at this;omega
 have hobj0:∀ j,j<e.ids.length→∃ o o',H0[j]? = some o∧E.H[e.at j]? = some o'∧o.born=true∧∀ v,o'.aF = some v↔∃ u,o.aF = some u∧v=u+e.up j:=fun j B=>by
  have hj':j<H0.length:=by omega
  obtain⟨o',h1,d⟩:=hver j H0[j] (bI hj');exact⟨H0[j],o',bI hj',by rw[M]; exact h1,d⟩
 have hown0:∀ b,E0.own b→E.own b:=by
  rintro b (⟨id,c,hid⟩|⟨l,k,c,J⟩)
  case inr=>exact .inr ⟨l,k,c,(r0n l k _ J).2⟩
  have I:=aK hid;rw[show E0.loc=loc0 from rfl]at hid I;rw[hlen0]at I;rw[hloc0 id I]at hid;exact .inl ⟨_,c,hid⟩
 have hin:KeepIn e E E0:=by
  refine⟨fun b hbk=>⟨⟨hbk.1,fun ho=>hbk.2.1 (hown0 b ho),?_⟩,rfl⟩,rfl,hloc0,fun j o l h1 d=>r0p l ⟨j,o,h1,d⟩⟩;rintro(N|⟨i,c,_,_,hi⟩|⟨l,k,c,_,J⟩)
  ·exact hbk.2.2 N
  ·exact hbk.2.1 (.inl ⟨i,c,hi⟩)
  ·exact hbk.2.1 (.inr ⟨l,k,c,J⟩)
 have hpin:∀ j ae,E.past (e.at j) (ae+e.up j)→E0.past j ae:=fun j ae y=>by
  obtain⟨o,oo,h1,d,O,h3⟩:=hobj0 j (hpast j _ y);obtain⟨o',h4,h5⟩:=y;rw[d]at h4;cases h4;refine⟨o,h1,O,fun v hv=>?_⟩;have:=h5.2 (v+e.up j) ((h3 _).2 ⟨v,hv,rfl⟩);omega
 have hout0:∀ i b n,i∉e.ids→E.loc[i]? = some (some (b,n))→¬ E0.own b:=by
  rintro i b n hi O (⟨id,c',hid⟩|⟨l,k,c,J⟩)
  case inr=>exact HE.cN _ _ _ _ _ _ O (r0n l k _ J).2
  have I:=aK hid;rw[show E0.loc=loc0 from rfl]at hid I;rw[hlen0]at I;rw[hloc0 id I]at hid;have:=HE.inj _ _ _ _ _ O hid;exact hi (this▸hmem id I)
 have hlin:xu e nl E E0:=by
  refine⟨hin,fun i hi b n O=>⟨(HE.lt _ _ _ O).1,hout0 i b n (hdis i hi) O,?_⟩⟩;rintro(N|⟨U,c,_,d,hi'⟩|⟨l,k,c,_,J⟩)
  ·exact(HE.lt _ _ _ O).2 N
  ·have := HE.inj _ _ _ _ _ hi' O
   exact d (this▸hi)
  ·exact HE.cN _ _ _ _ _ _ O J
 have HE0:au E0:=by
  have conv:∀{j:Nat} {x:Option (Nat × Nat)},loc0[j]? = some x→j<e.ids.length∧E.loc[e.at j]? = some x:=by
   intro j x N;have I:=aK N;rw[hlen0]at I;exact⟨I,by rw[←hloc0 j I]; exact N⟩
  refine⟨by rw[show E0.loc=loc0 from rfl,hlen0,hk],?_,?_,?_,?_,HE.eR.bF hin.bF,fun l k l' k' b m n h1 d=>HE.eu l k l' k' b m n (r0n l k _ h1).2 (r0n l' k' _ d).2,fun i b m l k n hi d=>HE.cN _ b m l k n (conv hi).2 (r0n l k _ d).2,?_,?_,?_⟩
  ·intro i j b m n hi B
   obtain⟨i1,i2⟩:=conv hi
   obtain⟨j1,j2⟩:=conv B
   have:=HE.inj _ _ _ _ _ i2 j2;exact(zV i1 hn).1 (by rw[gg i1,gg j1,this])
  ·intro i b m hi
   obtain⟨i1,i2⟩:=conv hi
   refine⟨(HE.lt _ _ _ i2).1,?_⟩;rintro(N|⟨U,c,hni,_,hi'⟩|⟨l,k,c,_,J⟩)
   ·exact(HE.lt _ _ _ i2).2 N
   ·have := HE.inj _ _ _ _ _ hi' i2
    exact hni (this▸hmem i i1)
   ·exact HE.cN _ _ _ _ _ _ i2 J
  ·rintro b (N | ⟨U, c, _, _, hi'⟩ | ⟨l, k, c, _, J⟩)
   ·exact HE.X b N
   ·exact(HE.lt _ _ _ hi').1
   ·exact(HE.cu _ _ _ _ J).1
  ·intro j o ho
   have B:j<e.ids.length:=by rw[hk]; exact aK ho
   exact hobj E E0 M HE hlin rfl j o ho
  ·intro l k b m h1
   obtain⟨y,d⟩:=r0n l k _ h1;refine⟨(HE.cu _ _ _ _ d).1,?_⟩;rintro(N|⟨U,c,_,_,hi'⟩|⟨l',k',c,hnp,J⟩)
   ·exact(HE.cu _ _ _ _ d).2 N
   ·exact HE.cN _ _ _ _ _ _ hi' d
   ·exact hnp ((HE.eu _ _ _ _ _ _ _ d J).1▸y)
  ·intro i j o o' l hi B h1 d
   have i1:i<e.ids.length:=by rw[hk]; exact aK hi
   have j1:j<e.ids.length:=by rw[hk]; exact aK B
   obtain⟨_,oi,V,a2,_⟩:=hobj0 i i1;obtain⟨_,oj,b1,b2,_⟩:=hobj0 j j1;have ei:=hlab i o oi hi (by rw[←M]; exact a2);have ej:=hlab j o' oj B (by rw[←M]; exact b2);have:=HE.uniq _ _ _ _ l a2 b2 (by rw[ei,h1]) (by rw[ej,d]);exact(zV i1 hn).1 (by rw[gg i1,gg j1,this])
  ·intro l hnl k q W
   obtain⟨⟨j,o,h1,d⟩,_⟩:=r0n l k _ W;exact hnl j o h1 d
 refine(hc E0 cargs rfl HE0 (hargs0 E E0 _ M HE hlin rfl hargs)).mono ?_;rintro _ w' ⟨c,v',H',rfl,⟨rfl,rfl⟩,loc1,r1,g1,g2,g3⟩
 let r':Nat→List (Option (Option (Nat × Nat))):=fun l=>if pl l then r1 l else E.X.r l
 have rp:∀ l,pl l→r' l=r1 l:=fun l h=>if_pos h;have rn:∀ l,¬ pl l→r' l=E.X.r l:=fun l h=>if_neg h;have hl1':e.ids.length≤H'.length:=by omega
 have hlen1:loc1.length=H'.length:=g2.len;have hbL:e.base=E.loc.length:=by rw[hElen]; exact hb
 have hbE:e.base=E.H.length:=by rw[M]; exact hb
 let loc':List (Option (Nat × Nat)):=dX E.loc e.ids loc1++loc1.drop e.ids.length
 let E1:Env:={ w:=w',H:=H',loc:=loc1,X:=X0.re r1 }
 let E':Env:={ w:=w',H:=np e H H',loc:=loc',X:=E.X.re r' }
 have Hin:∀ j,E'.H[e.at j]? = (H'[j]?).map (ab.cd e j):=fun j=>by
  have:=JL (e:=e) (H:=H) (xs:=jL e 0 H') hn hat hb (by rw[B4]; exact hl1') j;rw[JF,cP]at this;exact this
 have eV:∀ j,E'.loc[e.at j]? = loc1[j]? := fun j =>
  JL (e:=e) (H:=E.loc) (xs:=loc1) hn (fun j B=>by rw[hElen]; exact hat j B) hbL (by rw[hlen1]; exact hl1') j
 have Hout:∀ i,i∉e.ids→i<H.length→E'.H[i]? = E.H[i]? := fun i hi I=>by
  rw[M];exact B6 (e:=e) hi I
 have Lout:∀ i,i∉e.ids→i<H.length→E'.loc[i]? = E.loc[i]? := fun i hi I=>B6 (e:=e) hi (by rw[hElen]; exact I);have hu1':∀(j:Nat) (o:ab),H'[j]? = some o→o.xw e j=true:=fun j o ho=>by
  have:=JG hu1 ho
  rwa [cP]at this
 have own':∀ b,E'.own b→E1.own b∨(∃ i c,i∉e.ids∧E.loc[i]? = some (some (b,c)))∨∃(l h m:Nat),¬ pl l∧(E.X.r l)[h]? = some (some (some (b,m))):=by
  rintro b (⟨i,c,hi⟩|⟨l,k,c,J⟩)
  ·rcases nq (e := e) hbL hi with ⟨h1, _, h3⟩ | ⟨j, rfl⟩
   ·exact .inr (.inl ⟨i,c,h1,h3⟩)
   ·rw [eV j] at hi
    exact .inl (.inl ⟨j,c,hi⟩)
  ·have J : (r' l)[k]? = some (some (some (b, c))) := J
   by_cases y:pl l
   ·rw [rp l y] at J
    exact .inl (.inr ⟨l,k,c,J⟩)
   ·rw [rn l y] at J
    exact .inr (.inr ⟨l,k,c,y,J⟩)
 have hout:oS S e E1 E':=by
  refine⟨fun hS b hbk=>⟨⟨hbk.1,fun ho=>?_,fun N=>hbk.2.2 (Or.inl N)⟩,rfl⟩,fun j ae y=>?_,fun j ae y hl=>?_⟩
  ·rcases own' b ho with h | ⟨i, c, h1, d⟩ | h
   ·exact hbk.2.1 h
   ·exact hbk.2.2 (Or.inr (.inl ⟨i,c,h1,by rw[hlent hS]; exact List.not_mem_nil,d⟩))
   ·exact hbk.2.2 (Or.inr (.inr h))
  ·obtain ⟨o, h1, d⟩ := y
   refine⟨o.cd e j,by rw[Hin j,show H'[j]? = some o from h1]; rfl,by rw[JH]; exact d.1,fun v hv=>?_⟩;obtain⟨u,q1,rfl⟩:=(tY (hu1' j o h1) v).1 hv;have:=d.2 u q1;omega
  ·obtain ⟨o', h1, d⟩ := hl
   rw[Hin j]at h1;obtain⟨o,h3,rfl⟩:=dM.1 h1;obtain⟨u,q1,q2⟩:=(tY (hu1' j o h3) _).1 d;have:u=ae:=by omega
   subst this;exact⟨⟨o,h3,q1⟩,eV j⟩
 have hle:E.le E':=by
  refine⟨fun i ae y=>?_,g3.size,fun b I ho=>g3.same b I (fun h=>ho (hown0 b h)),fun b I ho h'=>?_,fun i ae y hl=>?_,⟨rfl,rfl⟩,fun l k J=>?_,g3.env,fun i l o h1 d hv=>?_⟩
  rotate_right
  ·by_cases hi : i ∈ e.ids
   ·obtain ⟨j, B, rfl⟩ := n3 hi
    have hat':e.ids[j]=e.at j:=by
     have:=gg B;rw[bI B]at this;exact fW this
    rw[hat']at h1 hv⊢;obtain⟨o0,oo,k1,k2,O,k3⟩:=hobj0 j B;have em:o.cZ=o0.cZ:=hlabm j o0 o k1 (by rw[←M]; exact h1);have hl0:o0.label=some l:=ab.j9 (by rw[←em]; exact d);have y:pl l:=⟨j,o0,k1,hl0⟩
    obtain⟨o',w1,w2⟩:=hv;rw[Hin j]at w1;obtain⟨o1,r3,rfl⟩:=dM.1 w1;obtain⟨u,q1,q2⟩:=(tY (hu1' j o1 r3) _).1 w2;have hu:u=0:=by omega
    subst hu;obtain⟨⟨t,ht⟩,o2,s1,s2⟩:=g3.grow j l o0 k1 (by rw[←em]; exact d) ⟨o1,r3,q1⟩;have ht':r1 l=E.X.r l++t:=by
     rw[←r0p l y];exact ht
    refine⟨⟨t,by rw[show E'.X.r l=r' l from rfl,rp l y]; exact ht'⟩,o2.cd e j,?_,by rw[U4]; exact s2⟩;rw[Hin j,show H'[j]? = some o2 from s1];rfl
   ·have I := aK h1
    rw[M]at I;have hnp:¬ pl l:=by
     rintro⟨j,o0,V,a2⟩;have j1:j<e.ids.length:=by rw[hk]; exact aK V
     obtain⟨_,oj,b1,b2,_⟩:=hobj0 j j1;have h3:=HE.uniq _ _ _ _ l h1 b2 (ab.j9 d) (by rw[hlab j o0 oj V (by rw[←M]; exact b2),a2]);exact hi (h3▸hmem j j1)
    exact⟨⟨[],by rw[List.append_nil,show E'.X.r l=r' l from rfl,rn l hnp]⟩,o,by rw[Hout i hi I]; exact h1,d⟩
  ·by_cases hi : i ∈ e.ids
   ·obtain ⟨j, B, rfl⟩ := n3 hi
    have hat':e.ids[j]=e.at j:=by
     have:=gg B;rw[bI B]at this;exact fW this
    rw[hat']at y⊢;obtain⟨o0,oo,h1,d,O,h3⟩:=hobj0 j B;obtain⟨o,h4,h5⟩:=y;rw[d]at h4;cases h4;have hj1:j<H'.length:=by omega
    have hbn':H'[j].born=true:=by
     have p0:E0.past j 0:=⟨o0,h1,O,fun v _=>ef v⟩
     obtain⟨o2,r1,r2⟩:=g3.past j _ p0;rw[show E1.H=H' from rfl,bI hj1]at r1;cases r1;exact r2.1
    refine⟨H'[j].cd e j,by rw[Hin j,bI hj1]; rfl,by rw[JH]; exact hbn',fun v hv=>?_⟩;obtain⟨u,q1,rfl⟩:=(tY (hu1' j _ (bI hj1)) v).1 hv;cases hz:o0.aF with
    | none =>
     have p0:E0.past j (u+1):=⟨o0,h1,O,fun v hv=>by rw[hz]at hv; cases hv⟩
     obtain⟨o2,r1,r2⟩:=g3.past j _ p0;rw[show E1.H=H' from rfl,bI hj1]at r1;cases r1;have:=r2.2 u q1;omega
    | some u0 =>
     have p0:E0.past j u0:=⟨o0,h1,O,fun v hv=>by rw[hz]at hv; cases hv; exact aG _⟩
     obtain⟨o2,r1,r2⟩:=g3.past j _ p0;rw[show E1.H=H' from rfl,bI hj1]at r1;cases r1;have:=r2.2 u q1;have:=h5.2 (u0+e.up j) ((h3 _).2 ⟨u0,hz,rfl⟩);omega
   ·obtain ⟨o, h1, d⟩ := y
    have I:=aK h1;rw[M]at I;exact⟨o,by rw[Hout i hi I]; exact h1,d⟩
  ·rcases own' b h' with h | ⟨i, c, _, d⟩ | ⟨l, k, c, _, d⟩
   ·exact g3.own b I (fun h=>ho (hown0 b h)) h
   ·exact ho (.inl ⟨i,c,d⟩)
   ·exact ho (.inr ⟨l,k,c,d⟩)
  ·have I:i<H.length:=by
    obtain⟨o,h1,_⟩:=y;have:=aK h1
    rwa [M]at this
   by_cases hi:i∈e.ids
   ·obtain ⟨j, B, rfl⟩ := n3 hi
    have hat':e.ids[j]=e.at j:=by
     have:=gg B;rw[bI B]at this;exact fW this
    rw[hat']at y hl⊢;obtain⟨o',r1,r2⟩:=hl;rw[Hin j]at r1;obtain⟨o1,r3,rfl⟩:=dM.1 r1;obtain⟨u,q1,rfl⟩:=(tY (hu1' j o1 r3) _).1 r2;have p0:=hpin j u y;obtain⟨⟨o0,s1,s2⟩,s3⟩:=g3.live j u p0 ⟨o1,r3,q1⟩;obtain⟨o0',oo,h1,d,O,h3⟩:=hobj0 j B;rw[show E0.H=H0 from rfl,h1]at s1;cases s1;refine⟨⟨_,d,(h3 _).2 ⟨u,s2,rfl⟩⟩,?_⟩;rw[eV j,←hloc0 j B];exact s3
   ·obtain ⟨o', r1, r2⟩ := hl
    rw[Hout i hi I]at r1;exact⟨⟨o',r1,r2⟩,Lout i hi I⟩
  ·by_cases y : pl l
   ·have := g3.rl l k (by show k < (r0 l).length; rw [r0p l y]; exact J)
    rw[show E0.X.r l=r0 l from rfl,r0p l y]at this;rw[show E'.X.r l=r' l from rfl,rp l y];exact this
   ·rw [show E'.X.r l = r' l from rfl, rn l y]
    exact⟨J,fun _ W=>W⟩
 have lab':∀(j:Nat) o l,H'[j]? = some o→o.label=some l→pl l:=fun j o l h1 d=>by
  obtain⟨o0,V,a2⟩:=hlab1 j o l h1 d;exact⟨j,o0,V,a2⟩
 have labIn:∀(j:Nat) o l,H0[j]? = some o→o.label=some l→∃ o',E.H[e.at j]? = some o'∧o'.label=some l∧e.at j∈e.ids:=fun j o l h1 d=>by
  have j1:j<e.ids.length:=by rw[hk]; exact aK h1
  obtain⟨_,oj,b1,b2,_⟩:=hobj0 j j1;exact⟨oj,b2,by rw[hlab j o oj h1 (by rw[←M]; exact b2),d],hmem j j1⟩
 have labOut:∀(i:Nat) o l,i∉e.ids→E.H[i]? = some o→o.label=some l→¬ pl l:=fun i o l hi h1 d ⟨j,o0,V,a2⟩=>by
  obtain⟨o',b1,b2,b3⟩:=labIn j o0 l V a2;have:=HE.uniq _ _ _ _ l h1 b1 d b2;exact hi (this▸b3)
 have satOut:∀(l k b m:Nat),¬ pl l→(E.X.r l)[k]? = some (some (some (b,m)))→¬ E0.own b:=by
  rintro l k b m y h1 (⟨id,c',hid⟩|⟨l',k',c,J⟩)
  ·have I := aK hid
   rw[show E0.loc=loc0 from rfl]at hid I;rw[hlen0]at I;rw[hloc0 id I]at hid;exact HE.cN _ _ _ _ _ _ hid h1
  ·obtain ⟨q1, q2⟩ := r0n l' k' _ J
   exact y ((HE.eu _ _ _ _ _ _ _ h1 q2).1▸q1)
 refine⟨c,_,_,rfl,⟨rfl,rfl⟩,loc',r',B3 hout v' hSv g1,?_,hle⟩;refine⟨?_,?_,?_,fun b N=>dj (HE.X b N) g3.size,?_,HE.eR.bF hle.toC,?_,?_,?_,?_,?_⟩
 ·simp only[loc',np,fi,nm,List.length_drop,B4,hElen,hlen1]
 ·intro i j b m n hi B
  rcases nq (e:=e) hbL hi with⟨i1,_,i3⟩|⟨U,rfl⟩<;>rcases nq (e:=e) hbL B with⟨j1,_,j3⟩|⟨j',rfl⟩
  ·exact HE.inj _ _ _ _ _ i3 j3
  ·rw [eV j'] at B
   exact(g3.own b (HE.lt _ _ _ i3).1 (hout0 i b m i1 i3) (.inl ⟨j',n,B⟩)).elim
  ·rw [eV U] at hi
   exact(g3.own b (HE.lt _ _ _ j3).1 (hout0 j b n j1 j3) (.inl ⟨U,m,hi⟩)).elim
  ·rw [eV U] at hi
   rw[eV j']at B;rw[g2.inj _ _ _ _ _ hi B]
 ·intro i b m hi
  rcases nq (e:=e) hbL hi with⟨i1,_,i3⟩|⟨U,rfl⟩
  ·exact⟨dj (HE.lt _ _ _ i3).1 g3.size,(HE.lt _ _ _ i3).2⟩
  ·rw [eV U] at hi
   exact⟨(g2.lt _ _ _ hi).1,fun N=>(g2.lt _ _ _ hi).2 (Or.inl N)⟩
 ·intro i o hi
  have hi':=hi;unfold np at hi';rcases nq (e:=e) hb hi' with⟨i1,i2,i3⟩|⟨j,rfl⟩
  ·refine jz (E := E) (fun a _ hr => bP hle a hr) (Lout i i1 i2) (fun b n O => ?_) (fun l hl => ?_) (HE.obj i o (by rw [M]; exact i3))
   ·exact g3.same b (HE.lt _ _ _ O).1 (hout0 i b n i1 O)
   ·have y := labOut i o l i1 (by rw [M]; exact i3) hl
    exact⟨rn l y,fun k g m h1=>g3.same g (HE.cu _ _ _ _ h1).1 (satOut l k g m y h1)⟩
  ·have h1 := Hin j
   rw[show E'.H=np e H H' from rfl,hi]at h1;obtain⟨o1,d,rfl⟩:=dM.1 h1.symm;exact U5 hout (fun e=>cO.1 (hSo e) o1 (eM d)) (eV j) (fun _ _ _=>rfl) (fun l hl=>⟨rp l (lab' j o1 l d hl),fun _ _ _ _=>rfl⟩) (g2.obj j o1 d)
 ·intro l k l' k' b m n h1 d
  have h1:(r' l)[k]? = some (some (some (b,m))):=h1;have d:(r' l')[k']? = some (some (some (b,n))):=d;by_cases y:pl l<;>by_cases hp':pl l'
  ·rw [rp l y] at h1
   rw[rp l' hp']at d;exact g2.eu l k l' k' b m n h1 d
  ·rw [rp l y] at h1
   rw[rn l' hp']at d;exact((g2.cu l k b m h1).2 (.inr (.inr ⟨l',k',n,hp',d⟩))).elim
  ·rw [rn l y] at h1
   rw[rp l' hp']at d;exact((g2.cu l' k' b n d).2 (.inr (.inr ⟨l,k,m,y,h1⟩))).elim
  ·rw [rn l y] at h1
   rw[rn l' hp']at d;exact HE.eu l k l' k' b m n h1 d
 ·intro i b m l k n hi h1
  have h1:(r' l)[k]? = some (some (some (b,n))):=h1;rcases nq (e:=e) hbL hi with⟨i1,_,i3⟩|⟨U,rfl⟩
  ·by_cases y : pl l
   ·rw [rp l y] at h1
    exact g3.own b (HE.lt _ _ _ i3).1 (hout0 i b m i1 i3) (.inr ⟨l,k,n,h1⟩)
   ·rw [rn l y] at h1
    exact HE.cN _ _ _ _ _ _ i3 h1
  ·rw [eV U] at hi
   by_cases y:pl l
   ·rw [rp l y] at h1
    exact g2.cN _ _ _ _ _ _ hi h1
   ·rw [rn l y] at h1
    exact(g2.lt _ _ _ hi).2 (.inr (.inr ⟨l,k,n,y,h1⟩))
 ·intro l k b m h1
  have h1:(r' l)[k]? = some (some (some (b,m))):=h1;by_cases y:pl l
  ·rw [rp l y] at h1
   exact⟨(g2.cu _ _ _ _ h1).1,fun N=>(g2.cu _ _ _ _ h1).2 (.inl N)⟩
  ·rw [rn l y] at h1
   exact⟨dj (HE.cu _ _ _ _ h1).1 g3.size,(HE.cu _ _ _ _ h1).2⟩
 ·have inn:∀ (j:Nat) o,E'.H[e.at j]? = some o→∃ o1,H'[j]? = some o1∧o.label=o1.label:=fun j o h=>by
   rw[Hin j]at h;obtain⟨o1,d,rfl⟩:=dM.1 h;exact⟨o1,d,JI e j o1⟩
  intro i j o o' l hi B h1 d;have hi':=hi;have hj':=B;unfold np at hi' hj';rcases nq (e:=e) hb hi' with⟨i1,i2,i3⟩|⟨U,rfl⟩<;>rcases nq (e:=e) hb hj' with⟨j1,j2,j3⟩|⟨j',rfl⟩
  ·exact HE.uniq i j o o' l (by rw[M]; exact i3) (by rw[M]; exact j3) h1 d
  ·obtain ⟨o1, V, a2⟩ := inn j' o' B
   exact(labOut i o l i1 (by rw[M]; exact i3) h1 (lab' j' o1 l V (by rw[←a2,d]))).elim
  ·obtain ⟨o1, V, a2⟩ := inn U o hi
   exact(labOut j o' l j1 (by rw[M]; exact j3) d (lab' U o1 l V (by rw[←a2,h1]))).elim
  ·obtain ⟨o1, V, a2⟩ := inn U o hi
   obtain⟨o2,b1,b2⟩:=inn j' o' B;rw[g2.uniq U j' o1 o2 l V b1 (by rw[←a2,h1]) (by rw[←b2,d])]
 ·intro l hnl k q W
  have W:(r' l)[k]? = some (some q):=W;by_cases y:pl l
  ·rw [rp l y] at W
   refine g2.fJ l (fun j o h1 d=>?_) k q W;refine hnl (e.at j) (o.cd e j) ?_ (by rw[JI,d]);rw[Hin j,show H'[j]? = some o from h1];rfl
  ·rw [rn l y] at W
   refine HE.fJ l (fun i o h1 d=>?_) k q W;have I:=aK h1;rw[M]at I;by_cases hi:i∈e.ids
   ·obtain ⟨j, B, rfl⟩ := n3 hi
    have hat':e.ids[j]=e.at j:=by
     have:=gg B;rw[bI B]at this;exact fW this
    rw[hat']at h1;obtain⟨o0,oo,V,a2,_⟩:=hobj0 j B;rw[h1]at a2;cases a2;exact y ⟨j,o0,V,by rw[←hlab j o0 o V (by rw[←M]; exact h1),d]⟩
   ·exact hnl i o (by rw[Hout i hi I]; exact h1) d
end Go.AL
