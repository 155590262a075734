/-
 What is proved here: owned objects of data,and what operations do to them,with what must hold so that they do it. No program in sight; no condition.
-/
import Derived.Test.YtgglclbdiagpoaaGreatDoorMB
import Derived.Eval
import Derived.KernelRfl
set_option linter.all false
open Bool renaming and_eq_true→ar,false_eq_true→lD,not_eq_true'→pq,or_eq_true→BS,eq_iff_iff→gj
open ByteArray renaming empty→tS
open Decidable renaming byContradiction→xE
open Function renaming comp→IY
open Go.Op renaming operands→fe
open Go.Utf8 renaming decode→nH
open Go.Value.slice renaming injEq→j0
open List renaming getElem?_append_left→cQ,length_map→dv,mem_map→di,getElem?_map→bR,mem_filterMap→IA,getElem_of_mem→ny,getElem?_eq_getElem→bd,mem_of_getElem?→fa,getElem?_append_right→jv,getElem?_set_ne→aV,all_eq_true→bO,getD_eq_getElem?_getD→b_,getElem?_drop→qK,mem_cons→bS,map_cons→cY,take_append_drop→qN,length_append→dV,mem_append→cG,replicate→bU,all_cons→iG,mem_cons_self→cH,mem_cons_of_mem→cI,take_of_length_le→Sw,map_append→iI,findIdx?_cons→IQ,nodup_cons→nL,getElem?_inj→BR,map_set→tZ,headD_cons→mv,length_nil→pA,map_nil→kV,length→SE
open Nat renaming le_refl→aH,lt_of_lt_of_le→dy,zero_le→dB,lt_or_ge→h_,zero_add→cR,sub_zero→gC,beq→af,eq_of_beq_eq_true→br,sub_self→nK,ble→bI,blt→cJ,ble_eq→cK,blt_eq→dM,le_of_ble_eq_true→ua,mul_one→IZ,lt_succ_of_lt→xG,lt_succ_self→ahT,lt_irrefl→ub
open Option renaming map_eq_some_iff→dR,isSome_none→IJ,map_some→dL,map_none→xD,isSome_some→IW,map_map→IX
open Option.some renaming injEq→aX,inj→gh
open Prod.mk renaming injEq→a8
namespace Go.AL
open Go
variable [Dr]
def aI:Int→Bool
 |.ofNat _=>true
 |.negSucc _=>false
def aG:Int→Int→Bool
 |.ofNat x,.ofNat y=>bI x y
 |.ofNat _,.negSucc _=>false
 |.negSucc _,.ofNat _=>true
 |.negSucc x,.negSucc y=>bI y x
def ak:Int→Int→Bool
 |.ofNat x,.ofNat y=>cJ x y
 |.ofNat _,.negSucc _=>false
 |.negSucc _,.ofNat _=>true
 |.negSucc x,.negSucc y=>cJ y x
def ay(n:Int):Bool:=aG (-9223372036854775808) n&&aG n 9223372036854775807
theorem eY(n:Int):aI n=decide (0≤n):=by
 cases n with
 |ofNat x=>simp[aI]
 |negSucc x=>simp[aI]
theorem bx(a b:Int):aG a b=decide (a≤b):=by
 rw[gj];cases a<;>cases b<;>simp[aG,cK]<;>(try omega)
theorem aZ(a b:Int):ak a b=decide (a<b):=by
 rw[gj];cases a<;>cases b<;>simp[ak,dM]<;>(try omega)
theorem eG{n:Int}:ay n=true ↔ -9223372036854775808≤n∧n≤9223372036854775807:=by
 simp[ay,bx]
def g0(r:List G):G:=r.headD default
def gi:List G→Nat→G
 |r,0=>r.headD default
 |r,i+1=>gi r.tail i
def G.row(g:G):List G:=g.rows.headD []
def n3:Kd→G→G→Bool
 |.int _,a,b=>a.int==b.int
 |.str,a,b=>a.str.toList==b.str.toList
 |.bool,a,b=>a.bool==b.bool
 |.list _,_,_=>false
def bL:List Kd→List G→List G→Bool
 | [],_,_=>true
 |k::ks,r,s=>n3 k (r.headD default) (s.headD default)&&bL ks r.tail s.tail
inductive Ct where
 |one (k:Kd)
 |agg (ks:List Kd)
 deriving Inhabited
def Ct.ks:Ct→List Kd
 |.one k=>[k]
 |.agg ks=>ks
def Ct.av:Ct→List G→AV
 |.one k,r=>ic k (r.headD default)
 |.agg ks,r=>.agg (aK ks r)
theorem Ct.uI(k:Ct)(r:List G):(k.av r).closed=true:=by
 cases k with
 |one k=>cases k<;>rfl
 |agg ks=>simp only[Ct.av,AV.closed,fW]
inductive ah where
 |raw (o:ab)
 |vec (ks:List Kd) (ad:Nat) (rows:List (List G))
 |map (K V:Ct) (rows:List (List G)) (clock:Nat)
 |aY (l:Nat) (K:Ct) (ks:List Kd) (rows:List (List G)) (clock:Nat)
 |mm (l:Nat) (K KI VI:Ct) (rows mem:List (List G)) (clock:Nat)
def dH(K V:Ct)(rows:List (List G)):List (AV × AV × Nat):=rows.map fun r=>(K.av (gi r 0).row,V.av (gi r 1).row,(gi r 2).int.toNat)
def lg(r:List G):List (List G):=((gi r 1).row.headD default).rows
def jK(K:Ct)(ks:List Kd)(r:List G):AV × Option (List (List AV)) × Nat:=(K.av (gi r 0).row,(bif (gi r 3).bool then some ((lg r).map (aK ks)) else none),(gi r 2).int.toNat)
def gu(K:Ct)(ks:List Kd)(rows:List (List G)):List (AV × Option (List (List AV)) × Nat):=rows.map (jK K ks)
def pT(r:List G):Option Nat:=bif aG 0 (gi r 1).int then some (gi r 1).int.toNat else none
def iy(K:Ct)(rows:List (List G)):List (AV × Option Nat × Nat):=rows.map fun r=>(K.av (gi r 0).row,pT r,(gi r 2).int.toNat)
def n4(KI VI:Ct)(mem:List (List G)):List (List (AV × AV × Nat) × Nat):=mem.map fun m=>(dH KI VI (gi m 0).rows,(gi m 1).int.toNat)
def ah.den:ah→ab
 |.raw o=>o
 |.aY l K ks rows clock=>.aY l ks.length (gu K ks rows) clock
 |.map K V rows clock=>.map (dH K V rows) clock
 |.mm l K KI VI rows mem clock=>.mm l (iy K rows) (n4 KI VI mem) clock
 |.vec ks ad rows=>.vec ks.length ad (rows.map (aK ks))
def ai(H:List ah):List ab:=H.map ah.den
structure al where
 fr:List AV
 H:List ah
def al.den(s:al):St:=⟨s.fr,ai s.H⟩
def al.eval(s:al)(o:Operand):AV:=St.eval ⟨s.fr,[]⟩ o
def al.put(s:al)(dst:Option Tmp)(v:AV)(H':List ah):al:=⟨jJ s.fr dst v,H'⟩
theorem al.lR(s:al):s.den.eval=s.eval:=by
 funext o
 cases o<;>rfl
theorem bf{H:List ah}{id:Nat}{o:ah}(h:H[id]? = some o):(ai H)[id]? = some o.den:=by simp[ai,h]
theorem dj(H:List ah)(id:Nat)(o:ah):ai (H.set id o)=(ai H).set id o.den:=by simp[ai,tZ]
theorem hG(H:List ah)(o:ah):ai (H++[o])=ai H++[o.den]:=by simp[ai]
theorem eH(H:List ah):(ai H).length=H.length:=by simp[ai]
mutual
def Kd.same:Kd→Kd→Bool
 |.int k,.int k'=>decide (k=k')
 |.str,.str=>true
 |.bool,.bool=>true
 |.list ks,.list d=>Kd.iz ks d
 |_,_=>false
def Kd.iz:List Kd→List Kd→Bool
 | [],[]=>true
 |k::ks,k'::d=>k.same k'&&Kd.iz ks d
 |_,_=>false
end
mutual
theorem Kd.jL:∀{k k':Kd},k.same k'=true→k=k'
 |.int k,.int k',h=>by simp[Kd.same]at h; rw[h]
 |.str,.str,_=>rfl
 |.bool,.bool,_=>rfl
 |.list ks,.list d,h=>by simp only[Kd.same]at h; rw[Kd.jM h]
 |.int _,.str,h | .int _,.bool,h | .int _,.list _,h | .str,.int _,h | .str,.bool,h | .str,.list _,h=>by simp[Kd.same]at h
 |.bool,.int _,h | .bool,.str,h | .bool,.list _,h | .list _,.int _,h | .list _,.str,h | .list _,.bool,h=>by simp[Kd.same]at h
theorem Kd.jM:∀{k k':List Kd},Kd.iz k k'=true→k=k'
 | [],[],_=>rfl
 |k::ks,k'::d,h=>by simp only[Kd.iz,ar]at h; rw[Kd.jL h.1,Kd.jM h.2]
 | [],_::_,h|_::_,[],h=>by simp[Kd.iz]at h
end
def Ct.same:Ct→Ct→Bool
 |.one k,.one k'=>k.same k'
 |.agg ks,.agg d=>Kd.iz ks d
 |_,_=>false
theorem Ct.jL{K d:Ct}(h:K.same d=true):K=d:=by
 cases K<;>cases d<;>simp only[Ct.same]at h
 ·rw[Kd.jL h]
 ·cases h
 ·cases h
 ·rw[Kd.jM h]
def uJ:Kd→AV→Option G
 |.int k,.lit (.int k' n)=>if k=k' then some (.i n) else none
 |.str,.lit (.string s)=>some (.s s)
 |.bool,.lit (.bool b)=>some (.t b)
 |.list ks,.listF d rows=>if Kd.iz ks d then some (.l rows) else none
 |_,_=>none
def f_:List Kd→List AV→Option (List G)
 | [],[]=>some []
 | k::ks,a::as=>match uJ k a,f_ ks as with
  |some g,some gs=>some (g::gs)
  |_,_=>none
 |_,_=>none
def bg(ks:List Kd):List (List AV)→Option (List (List G))
 | []=>some []
 | r::rs=>match f_ ks r,bg ks rs with
  |some g,some gs=>some (g::gs)
  |_,_=>none
theorem C8{k:Kd}{a:AV}{g:G}(h:uJ k a=some g):ic k g=a:=by
 unfold uJ at h;split at h
 ·split at h
  ·rename_i e; cases h; subst e; rfl
  ·cases h
 ·cases h; rfl
 ·cases h; rfl
 ·split at h
  ·rename_i e; cases h; rw[Kd.jM e]; rfl
  ·cases h
 ·cases h
theorem ki:∀{ks:List Kd} {as:List AV} {gs:List G},f_ ks as=some gs→aK ks gs=as
 | [],[],_,h=>by simp[f_]at h; subst h; rfl
 | k::ks,a::as,gs,h=>by
  simp only[f_]at h;split at h
  ·rename_i g q h1 d
   cases h;simp[aK,C8 h1,ki d]
  ·cases h
 | [],_::_,_,h|_::_,[],_,h=>by simp[f_]at h
theorem KM:∀{ks:List Kd} {as:List AV} {gs:List G},f_ ks as=some gs→gs.length=ks.length∧as.length=ks.length
 | [],[],_,h=>by simp[f_]at h; subst h; exact⟨rfl,rfl⟩
 | k::ks,a::as,gs,h=>by
  simp only[f_]at h;split at h
  ·rename_i g q h1 d
   cases h;have:=KM d;simp[this.1,this.2]
  ·cases h
 | [],_::_,_,h|_::_,[],_,h=>by simp[f_]at h
theorem rS{ks:List Kd}:∀{rs:List (List AV)} {gs:List (List G)},bg ks rs=some gs→gs.map (aK ks)=rs
 | [],_,h=>by simp[bg]at h; subst h; rfl
 | r::rs,gs,h=>by
  simp only[bg]at h;split at h
  ·rename_i g k h1 d
   cases h;simp[ki h1,rS d]
  ·cases h
def uK:AV→Option Kd
 |.lit (.int k _)=>some (.int k)
 |.lit (.string _)=>some .str
 |.lit (.bool _)=>some .bool
 |.listF ks _=>some (.list ks)
 |_=>none
def pU:List AV→Option (List Kd)
 | []=>some []
 | a::as=>match uK a,pU as with
  |some k,some ks=>some (k::ks)
  |_,_=>none
def n5:List Kd→List G→List G
 | [],_=>[]
 |_::ks,r=>r.headD default::n5 ks r.tail
theorem KN:∀(ks:List Kd) (r:List G),(n5 ks r).length=ks.length
 | [],_=>rfl
 |_::ks,r=>by simp[n5,KN ks]
def a7(ks:List Kd)(r:List G)(col:Nat)(gs:List G):List G:=(n5 ks r).take col++gs++(n5 ks r).drop (col+gs.length)
theorem KO:∀(ks:List Kd) (r:List G) (n:Nat),(aK ks r).take n=aK (ks.take n) r
 | [],_,n=>by simp[aK]
 |_::_,_,0=>by simp[aK]
 |k::ks,r,n+1=>by simp[aK,KO ks]
theorem KP:∀(ks:List Kd) (r:List G) (n:Nat),(aK ks r).drop n=aK (ks.drop n) (r.drop n)
 | [],_,n=>by simp[aK]
 |_::_,_,0=>by simp
 |k::ks,r,n+1=>by simp[aK,KP ks]
theorem C9:∀(ks d:List Kd) (r r':List G),r.length=ks.length→aK (ks++d) (r++r')=aK ks r++aK d r'
 | [],d,r,r',h=>by
  have:r=[]:=List.length_eq_zero_iff.1 h;subst this;simp[aK]
 | k::ks,d,r,r',h=>by
  cases r with
  |nil=>simp at h
  |cons x r=>simp[aK,C9 ks d r r' (by simpa using h)]
theorem C_:∀(ks:List Kd) (r:List G),aK ks (n5 ks r)=aK ks r
 | [],_=>rfl
 |k::ks,r=>by simp[aK,n5,C_ ks]
theorem Vb{ks:List Kd}{r gs:List G}{cs:List AV}{col:Nat} (h:f_ ((ks.drop col).take cs.length) cs=some gs) (t:col+cs.length≤ks.length) :
  aK ks (a7 ks r col gs)=putCells (aK ks r) cs col:=by
 obtain⟨h1,u⟩:=KM h;have hlen:((ks.drop col).take cs.length).length=cs.length:=by simp; omega
 have g:gs.length=cs.length:=by omega
 have hk:ks=(ks.take col++(ks.drop col).take cs.length)++ks.drop (col+cs.length):=by
  rw[List.append_assoc,←List.drop_drop,qN,qN]
 unfold a7 putCells;have d:=KN ks r
 conv=>lhs; arg 1; rw[hk]
 rw[C9 _ _ _ _ (by simp[d,g]; omega),C9 _ _ _ _ (by simp[d]),ki h,g];congr 1
 ·congr 1
  rw[←C_ ks r,KO];have:∀(ks:List Kd) (r:List G) (n:Nat),ks.length≤n→aK ks (r.take n)=aK ks r:=by
   intro ks
   induction ks with
   |nil=>intros; rfl
   | cons k ks q =>
    intro r n d;cases n with
    |zero=>simp at d
    | succ n =>
     cases r with
     |nil=>rfl
     |cons x r=>simp[aK,q r n (by simpa using d)]
  exact this _ _ _ (by simp; omega)
 ·conv => rhs; rw [← C_ ks r]
  rw[KP]
end Go.AL

namespace Go.AL
open Go
variable [Dr]
theorem C'{ks:List Kd}{rows:List (List G)}{row:Nat}(h:row<rows.length):(rows.map (aK ks))[row]? = some (aK ks (rows.getD row [])):=by
 rw[bR,b_,bd h];rfl
def Da(P:Program)(t:TypeId)(x:AV)(H:List ah):Option (Bool × AV) :=
 match x with
 | .ptr id ad w row col=>match H[id]? with
  | some (.vec ks v rows)=>match gG P t with
   | some (n,agg)=>if ad=v∧ks.length=w then (match jF agg n ((aK ks (rows.getD row [])).drop col) with
     |some u=>some (decide (row<rows.length),u)
     |none=>none) else none
   |none=>none
  | some (.raw (.box cells))=>match gG P t with
   | some (n,agg)=>if ad=0∧row=0 then (match jF agg n (cells.drop col) with
     |some u=>some (true,u)
     |none=>none) else none
   |none=>none
  |_=>none
 | .cptr cells=>match gG P t with
  | some (n,agg)=>match jF agg n cells with
   |some u=>some (true,u)
   |none=>none
  |none=>none
 |_=>none
theorem Vc{P:Program}{t:TypeId}{x:AV}{H:List ah}{b:Bool}{u:AV}(h:Da P t x H=some (b,u))(hb:b=true):j9 P t x (ai H)=some u:=by
 unfold Da at h;unfold j9;split at h
 ·rename_i id ad w row col
  split at h
  ·rename_i ks v rows hid
   split at h
   case h_2=>cases h
   rename_i n agg d;split at h
   case isFalse=>cases h
   rename_i k;split at h
   case h_2=>cases h
   rename_i q g;simp only[aX,a8]at h;obtain⟨h1,rfl⟩:=h;subst hb;simp only[decide_eq_true_eq]at h1;rw[d];simp only[bf hid,ah.den];rw[if_pos ⟨k.1,k.2⟩,C' h1];exact g
  ·rename_i cells hid
   split at h
   case h_2=>cases h
   rename_i n agg d;split at h
   case isFalse=>cases h
   rename_i k;split at h
   case h_2=>cases h
   rename_i q g;cases h;rw[d];simp only[bf hid,ah.den];rw[if_pos k];exact g
  ·cases h
 ·rename_i cells
  split at h
  case h_2=>cases h
  rename_i n agg d;split at h
  case h_2=>cases h
  rename_i q g;cases h;rw[d];exact g
 ·cases h
def rT(P:Program)(t:TypeId)(x v:AV)(H:List ah):Option (Bool × List ah) :=
 match gG P t,pH v,x with
 | some (n,_),some cs,.ptr id ad w row col =>
  if cs.length=n then
   match H[id]? with
   |some (.raw (.box cells))=>if ad=0∧row=0∧col+n≤cells.length then some (true,H.set id (.raw (.box (putCells cells cs col)))) else none
   | some (.vec ks u rows) =>
    if ad=u∧ks.length=w∧col+cs.length≤ks.length then
     match f_ ((ks.drop col).take cs.length) cs with
     |some gs=>some (decide (row<rows.length),H.set id (.vec ks u (rows.set row (a7 ks (rows.getD row []) col gs))))
     |none=>none
    else none
   |_=>none
  else none
 |_,_,_=>none
theorem KQ{P:Program}{t:TypeId}{x v:AV}{H H':List ah}{b:Bool}(h:rT P t x v H=some (b,H'))(hb:b=true):rA P t x v (ai H)=some (ai H'):=by
 unfold rT at h;unfold rA;split at h
 case h_2=>cases h
 rename_i n B cs id ad w row col y k;rw[y,k];simp only[];split at h
 case isFalse=>cases h
 rename_i z;rw[if_pos z];split at h
 ·rename_i cells hid
  split at h
  case isFalse=>cases h
  rename_i d;cases h;simp only[bf hid,ah.den];rw[if_pos d,dj];rfl
 ·rename_i ks u rows hid
  split at h
  case isFalse=>cases h
  rename_i d;obtain⟨c1,c2,c3⟩:=d;split at h
  case h_2=>cases h
  rename_i gs g;simp only[aX,a8]at h;obtain⟨h1,rfl⟩:=h;subst hb;simp only[decide_eq_true_eq]at h1;simp only[bf hid,ah.den];have q:AV.bu cs=true:=by rw[←ki g]; exact fW _ _
  rw[if_pos ⟨c1,c2,q⟩,C' h1];simp only[qX];rw[if_pos (by omega),dj];simp only[ah.den,tZ];rw[Vb g c3]
 ·cases h
def uL(sz:Nat)(x:AV)(H:List ah)(want:Option (List Kd)):Option (Bool × List Kd × List (List G)) :=
 match x with
 | .nils | .lit (.slice none 0 0)=>match want with
  |some ks=>some (true,ks,[])
  |none=>none
 | .emptyS _=>match want with
  |some ks=>some (true,ks,[])
  |none=>none
 |.listF ks rows=>if ks.length=sz then some (true,ks,rows) else none
 | .list w rows=>match (match want with | some ks=>some ks | none=>pU (rows.headD [])) with
  | some ks=>match bg ks rows with
   |some gs=>if w=sz then some (true,ks,gs) else none
   |none=>none
  |none=>none
 | .vec w id ad off n=>match H[id]? with
  |some (.vec ks v rows)=>if w=sz∧ks.length=w∧v=ad∧off=0 then some (af n rows.length,ks,rows) else none
  |_=>none
 |.lit (.string s)=>if sz=1 then some (true,[.int .u8],s.data.toList.map fun b=>[.i b.toNat]) else none
 |_=>none
theorem KR{sz:Nat}{x:AV}{H:List ah}{want:Option (List Kd)}{b:Bool}{ks:List Kd}{rows:List (List G)}(h:uL sz x H want=some (b,ks,rows))(hb:b=true) :
  k_ sz x (ai H)=some (rows.map (aK ks)):=by
 unfold uL at h;split at h
 ·split at h
  ·cases h; rfl
  ·cases h
 ·split at h
  ·cases h; rfl
  ·cases h
 ·split at h
  ·cases h; rfl
  ·cases h
 ·split at h
  ·rename_i hw; cases h; simp only[k_]; rw[if_pos hw]
  ·cases h
 ·split at h
  ·split at h
   ·rename_i gs d
    split at h
    ·rename_i hw; cases h; simp only[k_]; rw[if_pos hw,rS d]
    ·cases h
   ·cases h
  ·cases h
 ·rename_i w id ad off n
  split at h
  ·rename_i q v rows' hid
   split at h
   ·rename_i g
    obtain⟨c1,c2,c3,rfl⟩:=g;simp only[aX,a8]at h;obtain⟨h1,rfl,rfl⟩:=h;subst hb;have h1:=br h1;simp only[k_,bf hid,ah.den];rw[if_pos ⟨c1,c2,c3,by simp; omega⟩];simp only[List.drop_zero];rw[Sw (by simp; omega)]
   ·cases h
  ·cases h
 ·rename_i s
  split at h
  ·rename_i k
   cases h;simp only[k_];rw[if_pos k];simp[aK,ic,G.int]
  ·cases h
 ·cases h
def Db:SK→Bool
 |.slice _ _ _ | .str=>true
 |_=>false
theorem Dc{P:Program}{t xt:TypeId}{s x:AV}{H:List ab}{e sz d:Nat}{z:List Value}{new:List (List AV)}(hk:cr P t=.slice e sz d)(h:dZ P e=some z)
  (g : Db (cr P xt) = true) (q : k_ sz x H = some new) (u : z.length = sz ∧ new.length ≤ 1048576 ∧ d ≤ 1048576) : ry P t xt s x H =
   match s with
    |.nils | .lit (.slice none 0 0)=>some (.vec sz H.length 0 0 new.length,H++[.vec sz 0 new])
    | .vec w id ad off n=>match H[id]? with
     | some (.vec k v rows) =>
      if k=w∧w=sz∧v=ad∧off=0∧n=rows.length∧rows.length+new.length≤1048576 then
       some (.vec w id (ad+1) 0 (n+new.length),H.set id (.vec k (ad+1) (rows++new)))
      else none
     |_=>none
    |_=>none:=by
 unfold ry;simp only[hk,h,q];cases y:cr P xt<;>simp only[y,Db]at g⊢<;>first
  |(cases g; done)
  |(rw[if_pos u]; rfl)
def yA(sz:Nat)(x:AV)(H:List ah)(z:List Value):Option (Bool × List Kd × List (List G)) :=
 match x with
 |.emptyS _=>uL sz x H (pU (z.map .lit))
 |_=>uL sz x H none
theorem Vd{sz:Nat}{x:AV}{H:List ah}{z:List Value}{b:Bool}{ks:List Kd}{rows:List (List G)}(h:yA sz x H z=some (b,ks,rows))(hb:b=true) :
  k_ sz x (ai H)=some (rows.map (aK ks)):=by
 unfold yA at h;split at h<;>exact KR h hb
def uM(P:Program)(t xt:TypeId)(s x:AV)(H:List ah):Option (Bool × AV × List ah) :=
 match cr P t with
 | .slice e sz d =>
  match dZ P e,Db (cr P xt)with
  | some z,true =>
   if z.length=sz∧d≤1048576 then
    match s with
    | .nils | .lit (.slice none 0 0)=>match yA sz x H z with
     |some (b,ks,new)=>if ks.length=sz then some (b&&decide (new.length≤1048576),.vec sz H.length 0 0 new.length,H++[.vec ks 0 new]) else none
     |none=>none
    | .vec w id ad off n=>match H[id]? with
     | some (.vec ks v rows)=>match uL sz x H (some ks) with
      | some (b,g,new) =>
       if ks.length=w∧w=sz∧v=ad∧off=0∧Kd.iz ks g=true then
        some (b&&(af n rows.length&&decide (rows.length+new.length≤1048576)),.vec w id (ad+1) 0 (rows++new).length,H.set id (.vec ks (ad+1) (rows++new)))
       else none
      |none=>none
     |_=>none
    |_=>none
   else none
  |_,_=>none
 |_=>none
theorem Ve{P:Program}{t xt:TypeId}{s x v:AV}{H H':List ah}{b:Bool}(h:uM P t xt s x H=some (b,v,H'))(hb:b=true) :
  ry P t xt s x (ai H)=some (v,ai H'):=by
 unfold uM at h;split at h
 case h_2=>cases h
 rename_i e sz U hk;split at h
 case h_2=>cases h
 rename_i z q k;split at h
 case isFalse=>cases h
 rename_i I;obtain⟨c1,c2⟩:=I;have fresh:∀{b1:Bool} {ks:List Kd} {new:List (List G)},yA sz x H z=some (b1,ks,new) →
   (if ks.length=sz then some (b1&&decide (new.length≤1048576),AV.vec sz H.length 0 0 new.length,H++[ah.vec ks 0 new]) else none)=some (b,v,H') →
   ∃ rows,k_ sz x (ai H)=some rows∧rows.length≤1048576∧v=.vec sz (ai H).length 0 0 rows.length∧ai H'=ai H++[.vec sz 0 rows]:=by
  intro b1 ks new d h;split at h
  case isFalse=>cases h
  rename_i B;simp only[aX,a8]at h;obtain⟨h1,rfl,rfl⟩:=h;subst hb;simp only[ar,decide_eq_true_eq]at h1;refine⟨_,Vd d h1.1,by simpa using h1.2,by simp[eH],?_⟩;rw[hG,ah.den,B]
 split at h
 ·split at h
  case h_2=>cases h
  rename_i b1 ks new d;obtain⟨rows,g1,g2,g3,g4⟩:=fresh d h;rw[Dc hk q k g1 ⟨c1,g2,c2⟩,g3,g4]
 ·split at h
  case h_2=>cases h
  rename_i b1 ks new d;obtain⟨rows,g1,g2,g3,g4⟩:=fresh d h;rw[Dc hk q k g1 ⟨c1,g2,c2⟩,g3,g4];rfl
 ·rename_i w id ad off n
  split at h
  case h_2=>cases h
  rename_i ks W rows hid;split at h
  case h_2=>cases h
  rename_i b1 V new d;split at h
  case isFalse=>cases h
  rename_i J;obtain⟨y,M,N,O,u⟩:=J;have u:=Kd.jM u;subst u;simp only[aX,a8]at h;obtain⟨h1,rfl,rfl⟩:=h;subst hb;simp only[ar,decide_eq_true_eq]at h1;obtain⟨h1,g,R⟩:=h1;have g:=br g;rw[Dc hk q k (KR d h1) ⟨c1,by simp; omega,c2⟩];simp only[dv,bf hid,ah.den];rw[if_pos ⟨y,M,N,O,g,R⟩,dj];simp only[ah.den,iI,dV,g,y]
 ·cases h
def n9(len:Nat)(lo hi:Option AV):Option (Bool × Nat × Nat) :=
 match lo,hi with
 |none,none=>some (true,0,len)
 |some (.lit (.int _ l)),none=>some (aI l&&aG l (len:Int),l.toNat,len)
 |none,some (.lit (.int _ h))=>some (aI h&&aG h (len:Int),0,h.toNat)
 |some (.lit (.int _ l)),some (.lit (.int _ h))=>some (aI l&&(aG l h&&aG h (len:Int)),l.toNat,h.toNat)
 |_,_=>none
theorem yB{len:Nat}{lo hi:Option AV}{b:Bool}{l h:Nat}(d:n9 len lo hi=some (b,l,h))(hb:b=true):gp len lo hi=some (l,h):=by
 unfold n9 at d;split at d
 ·cases d; simp[gp]
 ·rename_i l'
  simp only[aX,a8]at d;obtain⟨h1,rfl,rfl⟩:=d;subst hb;simp only[eY,bx,ar,decide_eq_true_eq]at h1;simp[gp,j_,h1.1,h1.2]
 ·rename_i h'
  simp only[aX,a8]at d;obtain⟨h1,rfl,rfl⟩:=d;subst hb;simp only[eY,bx,ar,decide_eq_true_eq]at h1;simp[gp,j_,h1.1,h1.2]
 ·rename_i l' _ h'
  simp only[aX,a8]at d;obtain⟨h1,rfl,rfl⟩:=d;subst hb;simp only[eY,bx,ar,decide_eq_true_eq]at h1;simp[gp,j_,h1.1,h1.2.1,h1.2.2]
 ·cases d
def rU(rows:List (List G))(lo hi:Option AV)(l h:Nat):List (List G) :=
 match lo,hi with
 |none,none=>rows
 |some _,none=>rows.drop l
 |none,some _=>rows.take h
 |some _,some _=>(rows.drop l).take (h-l)
theorem KS{rows:List (List G)}{lo hi:Option AV}{b:Bool}{l h:Nat}(d:n9 rows.length lo hi=some (b,l,h)):rU rows lo hi l h=(rows.drop l).take (h-l):=by
 unfold n9 at d;split at d
 ·cases d; simp[rU]
 ·simp only [aX, a8] at d
  obtain⟨h1,rfl,rfl⟩:=d;simp only[rU];rw[Sw (by simp)]
 ·simp only [aX, a8] at d
  obtain⟨h1,rfl,rfl⟩:=d;simp[rU]
 ·rfl
 ·cases d
def Dd(P:Program)(t:TypeId)(x:AV)(lo hi mx:Option AV):Option (Bool × AV) :=
 match mx with
 | some _=>match k8 P t x lo hi mx with
  |some v=>some (true,v)
  |none=>none
 | none=>match cr P t,x with
  | .str,.lit (.string s)=>match n9 s.size lo hi with
   |some (b,l,h)=>some (b,.lit (.string (s.extract l h)))
   |none=>none
  | .slice _ sz _,.listF ks rows=>match n9 rows.length lo hi with
   |some (b,l,h)=>if ks.length=sz then some (b,.listF ks (rU rows lo hi l h)) else none
   |none=>none
  | .slice _ sz _,.vec w id ad off n=>match n9 n lo hi with
   |some (b,l,h)=>if w=sz then some (b,.vec w id ad (off+l) (h-l)) else none
   |none=>none
  | .slice _ sz _,.list w rows=>match w,rj rows with
   | 1,some gs=>match n9 gs.length lo hi with
    |some (b,l,h)=>if 1=sz then some (b,.listF [.str] (rU gs lo hi l h)) else none
    |none=>none
   | _,_=>match k8 P t x lo hi none with
    |some v=>some (true,v)
    |none=>none
  | _,_=>match k8 P t x lo hi none with
   |some v=>some (true,v)
   |none=>none
theorem Vf{P:Program}{t:TypeId}{x v:AV}{lo hi mx:Option AV}{b:Bool}(h:Dd P t x lo hi mx=some (b,v))(hb:b=true):k8 P t x lo hi mx=some v:=by
 unfold Dd at h;split at h
 ·split at h
  ·rename_i u hu; cases h; exact hu
  ·cases h
 ·split at h
  ·rename_i s hk
   split at h
   case h_2=>cases h
   rename_i k l q d;simp only[aX,a8]at h;obtain⟨h1,rfl⟩:=h;subst h1;simp[k8,hk,yB d hb]
  ·rename_i e sz y ks rows hk
   split at h
   case h_2=>cases h
   rename_i k l q d;split at h
   case isFalse=>cases h
   rename_i g;simp only[aX,a8]at h;obtain⟨h1,rfl⟩:=h;subst h1;simp[k8,hk,yB d hb,g,KS d]
  ·rename_i e sz y w id ad off n hk
   split at h
   case h_2=>cases h
   rename_i k l q d;split at h
   case isFalse=>cases h
   rename_i g;simp only[aX,a8]at h;obtain⟨h1,rfl⟩:=h;subst h1;simp[k8,hk,yB d hb,g]
  ·rename_i e sz y w rows hk
   split at h
   ·rename_i gs z
    split at h
    case h_2=>cases h
    rename_i k l q d;split at h
    case isFalse=>cases h
    rename_i g;simp only[aX,a8]at h;obtain⟨h1,rfl⟩:=h;subst h1;subst g;have B:rows.length=gs.length:=by rw[←Ce z,dv]
    simp[k8,hk,B,yB d hb,KS d,x5,z]
   ·split at h
    ·rename_i u hu; cases h; exact hu
    ·cases h
  ·split at h
   ·rename_i u hu; cases h; exact hu
   ·cases h
def uN(P:Program)(t:TypeId)(l c:AV)(H:List ah):Option (Bool × AV × List ah) :=
 match cr P t,l,c with
 | .slice e sz d,.lit (.int _ l),.lit (.int _ c) =>
  match dZ P e with
  | some z=>match pU (yf P e z) with
   | some ks=>match f_ ks (yf P e z) with
    | some gs=>if z.length=sz∧0<sz∧d≤1048576∧ks.length=sz then
      some (aI l&&(aG l c&&aG c 1048576),.vec sz H.length 0 0 l.toNat,H++[.vec ks 0 (bU l.toNat gs)]) else none
    |none=>none
   |none=>none
  |none=>none
 |_,_,_=>none
theorem Vg{P:Program}{t:TypeId}{l c v:AV}{H H':List ah}{b:Bool}(h:uN P t l c H=some (b,v,H'))(hb:b=true) :
  uv P t l c (ai H)=some (v,ai H'):=by
 unfold uN at h;unfold uv;split at h
 case h_2=>cases h
 rename_i e sz u _ l _ c hk;rw[hk];simp only[];split at h
 case h_2=>cases h
 rename_i z g;split at h
 case h_2=>cases h
 rename_i ks y;split at h
 case h_2=>cases h
 rename_i gs d;split at h
 case isFalse=>cases h
 rename_i k;obtain⟨c1,c2,c3,q⟩:=k;simp only[aX,a8]at h;obtain⟨h1,rfl,rfl⟩:=h;subst hb;simp only[eY,bx,ar,decide_eq_true_eq]at h1;rw[g];simp only[];rw[if_pos ⟨c1,c2,h1.1,h1.2.1,h1.2.2,c3⟩,hG,eH,ah.den,q,List.map_replicate,ki d]
def uO(P:Program)(t:TypeId)(n:Nat)(parts:List (Nat × AV))(H:List ah):Option (Bool × AV × List ah) :=
 match cr P t with
 | .slice e _ _=>match dZ P e with
  | some z=>match pU (z.map .lit) with
   | some ks=>match rB P t n parts with
    | some (.list sz rows)=>match bg ks rows with
     |some gs=>if ks.length=sz then some (true,.vec sz H.length 0 0 gs.length,H++[.vec ks 0 gs]) else none
     |none=>none
    |_=>none
   |none=>none
  |none=>none
 |_=>none
theorem Vh{P:Program}{t:TypeId}{n:Nat}{parts:List (Nat × AV)}{v:AV}{H H':List ah}{b:Bool}(h:uO P t n parts H=some (b,v,H')) :
  uB P t n parts (ai H)=some (v,ai H'):=by
 unfold uO at h;split at h
 case h_2=>cases h
 split at h
 case h_2=>cases h
 split at h
 case h_2=>cases h
 rename_i ks k;split at h
 case h_2=>cases h
 rename_i sz rows hb;split at h
 case h_2=>cases h
 rename_i gs d;split at h
 case isFalse=>cases h
 rename_i g;cases h;unfold uB;rw[hb];have e:=rS d;simp only[];rw[hG,eH,ah.den,g,e,←e,dv]
/-! ### Maps -/
def Ct.read:Ct→AV→Option (List G)
 | .one k,a=>match uJ k a with
  |some g=>some [g]
  |none=>none
 |.agg ks,.agg cells=>f_ ks cells
 |_,_=>none
theorem Ct.kl{K:Ct}{a:AV}{r:List G}(h:K.read a=some r):K.av r=a:=by
 unfold Ct.read at h;split at h
 ·split at h
  ·rename_i g d
   cases h;exact C8 d
  ·cases h
 ·simp only[Ct.av,ki h]
 ·cases h
def n_(P:Program)(t:TypeId):Option (Ct × List G) :=
 match P.info? t with
 | some i=>match i.zero with
  | some (.agg cs)=>match cs.toList.all dw,pU (cs.toList.map .lit) with
   | true,some ks=>match f_ ks (cs.toList.map .lit) with
    |some gs=>some (.agg ks,gs)
    |none=>none
   |_,_=>none
  | some v=>match uK (.lit v) with
   | some k=>match uJ k (.lit v) with
    |some g=>some (.one k,[g])
    |none=>none
   | none=>match gY P t,CB P t with
    |some (.lit (.slice none 0 0)),some ks=>some (.one (.list ks),[.l []])
    |_,_=>none
  |none=>none
 |none=>none
theorem Vi{P:Program}{t:TypeId}{v:AV}(h:gY P t=some v)(d:v=.lit (.slice none 0 0)→False):mQ P t=some v:=by
 unfold mQ;rw[h];split
 ·rename_i e _
  cases e;exact(d rfl).elim
 ·rename_i e _
  cases e;rfl
 ·rename_i e
  cases e
theorem KT{P:Program}{t:TypeId}{V:Ct}{z:List G}(h:n_ P t=some (V,z)):mQ P t=some (V.av z):=by
 unfold n_ at h;have q:∀ v,gY P t=some v→(v=.lit (.slice none 0 0)→False)→mQ P t=some v:=fun v h B=>Vi h B;split at h
 case h_2=>cases h
 rename_i i hi;split at h
 ·rename_i cs d
  split at h
  ·rename_i ks h1 u
   split at h
   ·rename_i gs I
    cases h;refine q _ ?_ fun e=>by cases e
    unfold gY;rw[hi];simp only[];rw[d];simp only[AV.rb,h1,if_true,Ct.av,ki I]
   ·cases h
  ·cases h
 ·rename_i v y d
  split at h
  ·rename_i k hk
   split at h
   ·rename_i g J
    cases h;have e:=C8 J;simp only[Ct.av,mv,e];refine q _ ?_ fun e=>by
     simp only[AV.lit.injEq]at e;subst e;simp[uK]at hk
    unfold gY;rw[hi];simp only[];rw[d];simp only[];unfold AV.rb;split
    ·rename_i cs; exact(y cs rfl).elim
    ·simp[uK]at hk
    ·rfl
   ·cases h
  ·split at h
   ·rename_i ks h1 u
    cases h;unfold mQ;rw[h1,u];rfl
   ·cases h
 ·cases h
def yC:SK→Kd→Bool
 |.int k,.int k'=>decide (k=k')
 |.str,.str=>true
 |.bool,.bool=>true
 |_,_=>false
def jN:List SK→List Kd→Bool
 | [],[]=>true
 |a::as,b::d=>yC a b&&jN as d
 |_,_=>false
def gJ(P:Program)(d:TypeId)(K:Ct):Bool :=
 match flatK P mI d with
 | some g=>jN g K.ks&&(match K with
  |.one _ => !mH (P.underlying d)
  |.agg _=>mH (P.underlying d))
 |none=>false
def oa:Kd→G→Value
 |.int k,g=>.int k g.int
 |.str,g=>.string g.str
 |.bool,g=>.bool g.bool
 |.list _,_=>.bool false
def dm:List Kd→List G→List Value
 | [],_=>[]
 |k::ks,r=>oa k (r.headD default)::dm ks r.tail
theorem KU:∀{d:List SK} {ks:List Kd} (r:List G),jN d ks=true→mG (aK ks r)=some (dm ks r)∧cA d (dm ks r)=true
  | [],[],_,_=>⟨rfl,rfl⟩
  | a::as,k::ks,r,h=>by
    simp only[jN,ar]at h;obtain⟨h1,g⟩:=KU r.tail h.2;have hk:=h.1;cases k<;>cases a<;>simp only[yC]at hk<;>first
      |(cases hk; done)
      | (simp only [aK, ic, mG, h1, dm, oa, cA, g, Bool.and_true]
         simp_all[kindOk])
  | [],_::_,_,h|_::_,[],_,h=>by simp[jN]at h
theorem yD:∀{d:List SK} {ks:List Kd} (r s:List G),jN d ks=true→dz (dm ks r) (dm ks s)=bL ks r s
 | [],[],_,_,_=>rfl
 | a::as,k::ks,r,s,h=>by
  simp only[jN,ar]at h;have g:=yD r.tail s.tail h.2;have hk:=h.1;simp only[dm,dz,bL,g];cases k<;>cases a<;>simp only[yC]at hk<;>first
   |(cases hk; done)
   |rfl
 | [],_::_,_,_,h|_::_,[],_,_,h=>by simp[jN]at h
theorem jO{P:Program}{g:TypeId}{K:Ct}(h:gJ P g K=true)(r:List G):il P g (K.av r)=some (dm K.ks r):=by
 unfold gJ at h;split at h
 case h_2=>cases h
 rename_i q t;simp only[ar]at h;obtain⟨h1,d⟩:=h;obtain⟨g1,g2⟩:=KU r h1;unfold il;rw[t];simp only[];cases K with
 | one k =>
  simp only[pq]at d;simp only[Ct.ks,dm]at g2⊢;have e:ic k (r.headD default)=.lit (oa k (r.headD default)):=by
   simp only[Ct.ks]at h1;cases q with
   |nil=>simp[jN]at h1
   | cons a as =>
    simp only[jN,ar]at h1;have hk:=h1.1;cases k<;>cases a<;>simp only[yC]at hk<;>first
     |(cases hk; done)
     |rfl
  simp only[Ct.av,e,g2,d,and_self,if_true]
 | agg ks =>
  simp only[Ct.av,Ct.ks]at g1 g2⊢;simp only[g1,g2,d,and_self,if_true]
def ch(ks:List Kd)(key:List G):List (List G)→Nat→Option (Nat × List G)
 | [],_=>none
 |r::rs,i=>bif bL ks key (gi r 0).row then some (i,r) else ch ks key rs (i+1)
def dP(ks:List Kd)(rows:List (List G))(key:List G):Bool:=(ch ks key rows 0).isSome
def dI(ks:List Kd)(rows:List (List G))(key z:List G):List G:=match ch ks key rows 0 with
 |some (_,r)=>(gi r 1).row
 |none=>z
def gv(ks:List Kd)(rows:List (List G))(key val:List G)(clock:Nat):List (List G):=match ch ks key rows 0 with
 |some (i,r)=>rows.set i [.l [key],.l [val],.i (gi r 2).int]
 |none=>rows++[[.l [key],.l [val],.i clock]]
def gx(ks:List Kd)(rows:List (List G))(key:List G)(clock:Nat):Nat:=bif dP ks rows key then clock else clock+1
def KV(ks:List Kd)(rows:List (List G))(key:List G):List (List G):=match ch ks key rows 0 with
 |some (i,_)=>rows.eraseIdx i
 |none=>rows
theorem rV{P:Program}{g:TypeId}{K V:Ct}(h:gJ P g K=true)(key:List G):∀(rows:List (List G)) (i:Nat),ew P g (dm K.ks key) (dH K V rows) i =
  some ((ch K.ks key rows i).map fun p=>(p.1,V.av (gi p.2 1).row))
 | [],i=>rfl
 | r::rs,i=>by
  have q:=rV (V:=V) h key rs (i+1);have k:∃ d,jN d K.ks=true:=by
   unfold gJ at h;split at h
   ·simp only[ar]at h; exact⟨_,h.1⟩
   ·cases h
  obtain⟨d,t⟩:=k;simp only[dH,cY,ew,jO h,yD _ _ t,ch];cases bL K.ks key (gi r 0).row with
  |true=>rfl
  |false=>exact q
theorem pV{ks:List Kd}{key:List G}:∀{rows:List (List G)} {i j:Nat} {r:List G},ch ks key rows i=some (j,r)→i≤j∧rows[j-i]? = some r
 | [],_,_,_,h=>by simp[ch]at h
 | x::rs,i,j,r,h=>by
  simp only[ch]at h;cases d:bL ks key (gi x 0).row with
  | true =>
   rw[d]at h;cases h;exact⟨aH _,by simp⟩
  | false =>
   rw[d]at h;obtain⟨h1,g⟩:=pV h;refine⟨by omega,?_⟩;rw[show j-i=(j-(i+1))+1 from by omega];simpa using g
def De(P:Program)(t:TypeId)(m k:AV)(ok:Bool)(H:List ah):Option (Bool × AV) :=
 match cZ P t,m with
 | some (d,g),.map id=>match H[id]? with
  | some (.map K V rows _)=>match K.read k,n_ P g with
   | some key,some (h,z)=>match gJ P d K&&V.same h with
    | true=>some (true,match ok with
      |true=>.tuple [V.av (dI K.ks rows key z),.lit (.bool (dP K.ks rows key))]
      |false=>V.av (dI K.ks rows key z))
    |false=>none
   |_,_=>none
  |_=>none
 |_,_=>none
theorem KW{P:Program}{t:TypeId}{m k v:AV}{ok b:Bool}{H:List ah}(h:De P t m k ok H=some (b,v)):fY P t m k ok (ai H)=some v:=by
 unfold De at h;unfold fY;split at h
 case h_2=>cases h
 rename_i u y id g;rw[g];simp only[];split at h
 case h_2=>cases h
 rename_i K V rows cl hid;rw[bf hid];simp only[ah.den];split at h
 case h_2=>cases h
 rename_i key B z hk q;split at h
 case h_2=>cases h
 rename_i d;simp only[ar]at d;have e:=Ct.jL d.2;subst e;rw[←Ct.kl hk,jO d.1,KT q];simp only[rV d.1];cases h;unfold dI dP;cases ch K.ks key rows 0 with
 |none=>cases ok<;>rfl
 |some p=>cases ok<;>rfl
def rW(P:Program)(t:TypeId)(m k v:AV)(H:List ah):Option (Bool × List ah) :=
 match cZ P t,m with
 | some (d,_),.map id=>match H[id]? with
  | some (.map K V rows cl)=>match K.read k,V.read v with
   | some key,some val=>match gJ P d K with
    |true=>some (true,H.set id (.map K V (gv K.ks rows key val cl) (gx K.ks rows key cl)))
    |false=>none
   |_,_=>none
  |_=>none
 |_,_=>none
def gK(ks:List Kd)(rows:List (List G))(key:List G):List (List G):=match ch ks key rows 0 with
 |some (_,r)=>lg r
 |none=>[]
def ob(ks:List Kd)(rows:List (List G))(key:List G):Bool:=match ch ks key rows 0 with
 |some (_,r)=>(gi r 3).bool
 |none=>true
def KX(ks:List Kd)(rows:List (List G))(key:List G):List (List G):=match ch ks key rows 0 with
 |some (i,r)=>rows.set i [gi r 0,gi r 1,gi r 2,.t false]
 |none=>rows
def KY(ks:List Kd)(rows:List (List G))(key:List G)(val:List (List G))(clock:Nat):List (List G):=match ch ks key rows 0 with
 |some (i,r)=>rows.set i [.l [key],.l [[.l val]],.i (gi r 2).int,.t true]
 |none=>rows++[[.l [key],.l [[.l val]],.i clock,.t true]]
def uP(P:Program)(t:TypeId)(m k:AV)(H:List ah):Option (Bool × AV × List ah) :=
 match cZ P t,m with
 | some (g,d),.map id=>match H[id]? with
  | some (.aY l K ks rows cl)=>match K.read k,yp P d,gY P d with
   | some key,some w',some (.lit (.slice none 0 0))=>match af w' ks.length&&gJ P g K with
    |true=>some (ob K.ks rows key,.vec ks.length H.length 0 0 (gK K.ks rows key).length,H.set id (.aY l K ks (KX K.ks rows key) cl)++[.vec ks 0 (gK K.ks rows key)])
    |false=>none
   |_,_,_=>none
  |_=>none
 |_,_=>none
def uQ(P:Program)(t:TypeId)(m k v:AV)(H:List ah):Option (Bool × List ah) :=
 match cZ P t,m,v with
 | some (h,_),.map id,.vec w j ad off n=>match H[id]?,H[j]? with
  | some (.aY l K ks rows cl),some (.vec g d rws)=>match K.read k with
   | some key=>match gJ P h K&&(Kd.iz ks g&&(af w ks.length&&(af ad d&&af off 0))) with
    |true=>some (af n rws.length,(H.set id (.aY l K ks (KY K.ks rows key rws cl) (gx K.ks rows key cl))).set j (.raw .dead))
    |false=>none
   |none=>none
  |_,_=>none
 |_,_,_=>none
def lS(ks:List Kd)(rows:List (List G))(key:List G)(clock:Nat):Nat:=match ch ks key rows 0 with
 |some (_,r)=>(gi r 2).int.toNat
 |none=>clock
def lT(ks:List Kd)(rows:List (List G))(key:List G)(clock:Nat):List (List G):=match ch ks key rows 0 with
 |some (i,r)=>rows.set i [.l [key],gi r 1,gi r 2,.t false]
 |none=>rows++[[.l [key],.l [[.l []]],.i clock,.t false]]
def uR(P:Program)(t:TypeId)(m k:AV)(H:List ah):Option (Bool × AV × List ah) :=
 match cZ P t,m with
 | some (g,d),.map id=>match H[id]? with
  | some (.aY l K ks rows cl)=>match K.read k,yp P d,gY P d with
   | some key,some w',some (.lit (.slice none 0 0))=>match af w' ks.length&&gJ P g K with
    | true=>some (ob K.ks rows key,.tuple [.vec ks.length H.length 0 0 (gK K.ks rows key).length,.lit (.int .i64 (lS K.ks rows key cl:Nat))],
      H.set id (.aY l K ks (lT K.ks rows key cl) (gx K.ks rows key cl))++[.vec ks 0 (gK K.ks rows key)])
    |false=>none
   |_,_,_=>none
  |_=>none
 |_,_=>none
def fi(st:Int):List (List G)→Nat→Option (Nat × List G)
 | [],_=>none
 |r::rs,i=>bif ((gi r 2).int.toNat:Int)==st then some (i,r) else fi st rs (i+1)
def rX(rows:List (List G))(st:Int)(val:List (List G)):List (List G):=match fi st rows 0 with
 |some (i,r)=>rows.set i [gi r 0,.l [[.l val]],gi r 2,.t true]
 |none=>rows
def rY(rows:List (List G))(st:Int):Bool:=(fi st rows 0).isSome
def uS(m s v:AV)(H:List ah):Option (Bool × List ah) :=
 match m,s,v with
 | .map id,.lit (.int .i64 st),.vec w j ad off n=>match H[id]?,H[j]? with
  | some (.aY l K ks rows cl),some (.vec g d rws)=>match Kd.iz ks g&&(af w ks.length&&(af ad d&&af off 0)) with
   |true=>some (rY rows st&&af n rws.length,(H.set id (.aY l K ks (rX rows st rws) cl)).set j (.raw .dead))
   |false=>none
  |_,_=>none
 |_,_,_=>none
theorem yE{P:Program}{g:TypeId}{K:Ct}{ks:List Kd}(h:gJ P g K=true)(key:List G):∀(rows:List (List G)) (i:Nat),ew P g (dm K.ks key) (cC (gu K ks rows)) i =
  some ((ch K.ks key rows i).map fun p=>(p.1,AV.undef))
 | [],i=>rfl
 | r::rs,i=>by
  have q:=yE (ks:=ks) h key rs (i+1);have k:∃ d,jN d K.ks=true:=by
   unfold gJ at h;split at h
   ·simp only[ar]at h; exact⟨_,h.1⟩
   ·cases h
  obtain⟨d,t⟩:=k;simp only[gu,cC,jK,cY,ew,jO h,yD _ _ t,ch];cases bL K.ks key (gi r 0).row with
  |true=>rfl
  |false=>exact q
theorem uT{K:Ct}{ks:List Kd}{rows:List (List G)}{i:Nat}{r:List G}(h:rows[i]? = some r):(gu K ks rows)[i]? = some (jK K ks r):=by
 unfold gu;rw[bR,h];rfl
theorem yF(K:Ct)(ks:List Kd)(rows:List (List G))(i:Nat)(r:List G):gu K ks (rows.set i r)=(gu K ks rows).set i (jK K ks r):=by
 simp[gu,tZ]
theorem Vj{P:Program}{t:TypeId}{m k v:AV}{b:Bool}{H H':List ah}(h:uP P t m k H=some (b,v,H'))(hb:b=true):uC P t m k (ai H)=some (v,ai H')∧fY P t m k false (ai H)=none:=by
 unfold uP at h;unfold uC fY;split at h
 case h_2=>cases h
 rename_i M N id I;rw[I];simp only[];split at h
 case h_2=>cases h
 rename_i l K ks rows cl hid;rw[bf hid];simp only[ah.den];split at h
 case h_2=>cases h
 rename_i key w' hk hw J;split at h
 case h_2=>cases h
 rename_i u;simp only[ar]at u;obtain⟨g,q⟩:=u;have e:=br g;simp only[aX,a8]at h;obtain⟨d,rfl,rfl⟩:=h;rw[hb]at d;rw[←Ct.kl hk,jO q,hw,J];simp only[g,yE q,and_true];unfold ob at d;unfold gK KX;cases y:ch K.ks key rows 0 with
 | none =>
  simp only[xD,hG,dj,ah.den,eH,pA,kV]
 | some p =>
  obtain⟨i,r⟩:=p;rw[y]at d;simp only[]at d;obtain⟨_,z⟩:=pV y;rw[gC]at z;have B:nV (gu K ks rows) i=some (K.av (gi r 0).row,(lg r).map (aK ks),(gi r 2).int.toNat):=by
   unfold nV;rw[uT z];simp only[jK,d,cond_true]
  simp only[dL,B,hG,dj,ah.den,eH,dv,yF];rfl
theorem Vk{P:Program}{t:TypeId}{m k v:AV}{b:Bool}{H H':List ah}(h:uQ P t m k v H=some (b,H'))(hb:b=true):pM P t m k v (ai H)=some (ai H')∧lP P t m k v (ai H)=none:=by
 unfold uQ at h;unfold pM lP;split at h
 case h_2=>cases h
 rename_i kt et id w j ad off n J;rw[J];simp only[];split at h
 case h_2=>cases h
 rename_i l K ks rows cl ks2 W rws hid M;rw[bf hid,bf M];simp only[ah.den];split at h
 case h_2=>cases h
 rename_i key hk;split at h
 case h_2=>cases h
 rename_i q;simp only[ar]at q;obtain⟨g,y,z,B,I⟩:=q;have N:=Kd.jM y;subst N;have O:=br z;have R:=br B;have U:=br I;subst O R U;simp only[aX,a8]at h;obtain⟨d,rfl⟩:=h;rw[hb]at d;have d:=br d;subst d;rw[←Ct.kl hk,jO g];simp only[Ct.uI,dv,and_self,if_true,yE g,and_true];unfold KY gx dP;cases V:ch K.ks key rows 0 with
 | none =>
  simp only[xD,dj,ah.den,IJ,cond_false];simp[gu,jK,lg,gi,G.row,G.rows,G.int,G.bool]
 | some p =>
  obtain⟨i,r⟩:=p;obtain⟨_,u⟩:=pV V;rw[gC]at u;simp only[dL,CI (uT u),dj,ah.den,yF,IW,cond_true];simp[jK,lg,gi,G.row,G.rows,G.int,G.bool]
theorem Vl{P:Program}{t:TypeId}{m k v:AV}{b:Bool}{H H':List ah}(h:uR P t m k H=some (b,v,H'))(hb:b=true):ir P t m k (ai H)=some (v,ai H'):=by
 unfold uR at h;unfold ir;split at h
 case h_2=>cases h
 rename_i M N id I;rw[I];simp only[];split at h
 case h_2=>cases h
 rename_i l K ks rows cl hid;rw[bf hid];simp only[ah.den];split at h
 case h_2=>cases h
 rename_i key w' hk hw J;split at h
 case h_2=>cases h
 rename_i q;simp only[ar]at q;obtain⟨z,g⟩:=q;simp only[aX,a8]at h;obtain⟨d,rfl,rfl⟩:=h;rw[hb]at d;rw[←Ct.kl hk,jO g,hw,J];simp only[z,Ct.uI,Bool.and_self,yE g];unfold ob at d;unfold gK lT lS gx dP;cases u:ch K.ks key rows 0 with
 | none =>
  simp only[xD,hG,dj,ah.den,eH,pA,kV,IJ,cond_false,goInt];simp[gu,jK,lg,gi,G.row,G.rows,G.int,G.bool]
 | some p =>
  obtain⟨i,r⟩:=p;rw[u]at d;simp only[]at d;obtain⟨_,y⟩:=pV u;rw[gC]at y;have B:nV (gu K ks rows) i=some (K.av (gi r 0).row,(lg r).map (aK ks),(gi r 2).int.toNat):=by
   unfold nV;rw[uT y];simp only[jK,d,cond_true]
  simp only[dL,B,hG,dj,ah.den,eH,dv,yF,IW,cond_true,goInt];rfl
theorem Df{st:Int}:∀{rows:List (List G)} {i j:Nat} {r:List G},fi st rows i=some (j,r)→i≤j∧rows[j-i]? = some r
 | [],_,_,_,h=>by simp[fi]at h
 | x::rs,i,j,r,h=>by
  simp only[fi]at h;cases d:((gi x 2).int.toNat:Int)==st with
  | true =>
   rw[d]at h;cases h;simp
  | false =>
   rw[d]at h;obtain⟨h1,g⟩:=Df h;refine⟨by omega,?_⟩;rw[show j-i=(j-(i+1))+1 from by omega];simpa using g
theorem KZ{K:Ct}{ks:List Kd}{st:Int}:∀{rows:List (List G)} {i:Nat},(fi st rows i).map (·.1)=(pN (gu K ks rows) st).map (·+i)
 | [],_=>rfl
 | x::rs,i=>by
  have d:=KZ (K:=K) (ks:=ks) (st:=st) (rows:=rs) (i:=i+1);unfold pN at d⊢;simp only[fi,gu,cY,IQ,jK]at d⊢;cases g:((gi x 2).int.toNat:Int)==st with
  |true=>simp
  | false =>
   simp only[cond_false,d,lD,if_false,IX];congr 1
   funext n
   simp only[IY];omega
theorem Vm{m s v:AV}{b:Bool}{H H':List ah}(h:uS m s v H=some (b,H'))(hb:b=true):ka m s v (ai H)=some (ai H'):=by
 unfold uS at h;unfold ka;split at h
 case h_2=>cases h
 rename_i id st w j ad off n;split at h
 case h_2=>cases h
 rename_i l K ks rows cl ks2 W rws hid N;simp only[];rw[bf hid,bf N];simp only[ah.den];split at h
 case h_2=>cases h
 rename_i t;simp only[ar]at t;obtain⟨B,I,J,M⟩:=t;have O:=Kd.jM B;subst O;have R:=br I;have U:=br J;have V:=br M;subst R U V;simp only[aX,a8]at h;obtain⟨k,rfl⟩:=h;rw[hb]at k;simp only[ar]at k;obtain⟨d,g⟩:=k;have g:=br g;subst g;simp only[dv,and_self,if_true];unfold rY at d;unfold rX;cases q:fi st rows 0 with
 |none=>rw[q]at d; cases d
 | some p =>
  obtain⟨i,r⟩:=p;obtain⟨_,u⟩:=Df q;rw[gC]at u;have hi:pN (gu K ks rows) st=some i:=by
   have:=KZ (K:=K) (ks:=ks) (st:=st) (rows:=rows) (i:=0);rw[q]at this;cases z:pN (gu K ks rows) st with
   |none=>rw[z]at this; cases this
   |some y=>rw[z]at this; simp at this; rw[this]
  rw[hi];simp only[uT u,jK,dj,ah.den,yF];simp[lg,gi,G.row,G.rows,G.bool]
theorem K3(K V:Ct)(rows:List (List G))(i:Nat)(r:List G):dH K V (rows.set i r)=(dH K V rows).set i (K.av (gi r 0).row,V.av (gi r 1).row,(gi r 2).int.toNat):=by
 simp[dH,tZ]
theorem K4{α:Type}{l:List α}{i:Nat}{x:α}(f:α→α)(h:l[i]? = some x):l.modify i f=l.set i (f x):=by
 apply List.ext_getElem?;intro j;rw[List.getElem?_modify,List.getElem?_set];by_cases e:i=j
 ·subst e
  rw[if_pos rfl,if_pos (aL h),h];simp
 ·rw [if_neg e]
  simp[e]
theorem K5{P:Program}{t:TypeId}{m k v:AV}{b:Bool}{H H':List ah}(h:rW P t m k v H=some (b,H')):lP P t m k v (ai H)=some (ai H'):=by
 unfold rW at h;unfold lP;split at h
 case h_2=>cases h
 rename_i B I id u;rw[u];simp only[];split at h
 case h_2=>cases h
 rename_i K V rows cl hid;rw[bf hid];simp only[ah.den];split at h
 case h_2=>cases h
 rename_i key val hk y;split at h
 case h_2=>cases h
 rename_i d;cases h;rw[←Ct.kl hk,←Ct.kl y,jO d];simp only[Ct.uI,and_self,if_true,rV d,dj,ah.den];unfold gv gx dP;cases z:ch K.ks key rows 0 with
 |none=>simp[dH,gi,G.row,G.rows,G.int]
 | some p =>
  obtain⟨_,g⟩:=pV (r:=p.2) (j:=p.1) z;rw[gC]at g;have q:(dH K V rows)[p.1]? = some (K.av (gi p.2 0).row,V.av (gi p.2 1).row,(gi p.2 2).int.toNat):=by simp[dH,g]
  simp only[dL,K4 _ q,K3,IW,cond_true];simp[gi,G.row,G.rows,G.int]
def uU(P:Program)(t:TypeId)(m k:AV)(H:List ah):Option (Bool × List ah) :=
 match cZ P t,m with
 | some (d,_),.map id=>match H[id]? with
  | some (.map K V rows cl)=>match K.read k,gJ P d K with
   |some key,true=>some (true,H.set id (.map K V (KV K.ks rows key) cl))
   |_,_=>none
  |_=>none
 |_,_=>none
theorem K6{α β:Type}(f:α→β):∀(l:List α) (i:Nat),(l.map f).eraseIdx i=(l.eraseIdx i).map f
 | [],_=>by simp
 |_::_,0=>by simp
 |_::l,i+1=>by simp[K6 f l i]
theorem Vn{P:Program}{t:TypeId}{m k:AV}{b:Bool}{H H':List ah}(h:uU P t m k H=some (b,H')):uz P t m k (ai H)=some (ai H'):=by
 unfold uU at h;unfold uz;split at h
 case h_2=>cases h
 rename_i q u id g;rw[g];simp only[];split at h
 case h_2=>cases h
 rename_i K V rows cl hid;rw[bf hid];simp only[ah.den];split at h
 case h_2=>cases h
 rename_i key hk d;cases h;rw[←Ct.kl hk,jO d];simp only[rV d,dj,ah.den];unfold KV;cases v:ch K.ks key rows 0 with
 |none=>rfl
 |some p=>simp only[dL,dH,K6]
def uV(P:Program)(t:TypeId)(x:AV)(H:List ah):Option (Bool × List ah) :=
 match cr P t,x with
 | .slice e sz _,.vec w id ad off n=>match dZ P e,H[id]? with
  | some z,some (.vec ks v rows)=>match f_ ks (z.map .lit) with
   | some d=>if ks.length=w∧w=sz∧v=ad∧z.length=sz∧0<sz then
     some (bI (off+n) rows.length,H.set id (.vec ks v (rows.take off++bU n d++rows.drop (off+n)))) else none
   |none=>none
  |_,_=>none
 |_,_=>none
theorem Vo{P:Program}{t:TypeId}{x:AV}{b:Bool}{H H':List ah}(h:uV P t x H=some (b,H'))(hb:b=true):uA P t x (ai H)=some (ai H'):=by
 unfold uV at h;unfold uA;split at h
 case h_2=>cases h
 rename_i e sz y w id ad off n hk;rw[hk];simp only[];split at h
 case h_2=>cases h
 rename_i z ks v rows k hid;rw[k,bf hid];simp only[ah.den];split at h
 case h_2=>cases h
 rename_i B g;split at h
 case isFalse=>cases h
 rename_i q;obtain⟨rfl,rfl,rfl,h1,u⟩:=q;simp only[aX,a8]at h;obtain⟨d,rfl⟩:=h;subst hb;have d:=ua d;simp only[h1,u,dv,d,and_self,if_true,dj,ah.den,aX];rw[←ki g];simp[List.map_take,List.map_drop]
def uW(P:Program)(t xt:TypeId)(s x:AV)(H:List ah):Option (Bool × AV × List ah) :=
 match cr P t,cr P xt,s,x with
 | .slice e sz d,.int _,.lit (.slice none 0 0),.lit (.int _ n)=>match dZ P e with
  | some z=>match pU (z.map .lit) with
   | some ks=>match f_ ks (z.map .lit) with
    | some g=>if z.length=sz∧0<sz∧d≤1048576∧ks.length=sz then
      some (ak 0 n&&aG n 1048576,.vec sz H.length 0 0 n.toNat,H++[.vec ks 0 (bU n.toNat g)]) else none
    |none=>none
   |none=>none
  |none=>none
 |_,_,_,_=>none
theorem Vp{P:Program}{t xt:TypeId}{s x v:AV}{b:Bool}{H H':List ah}(h:uW P t xt s x H=some (b,v,H'))(hb:b=true):pL P t xt s x (ai H)=some (v,ai H'):=by
 unfold uW at h;unfold pL;split at h
 case h_2=>cases h
 rename_i e sz M k k' n hk g;rw[hk,g];simp only[];split at h
 case h_2=>cases h
 rename_i z u;rw[u];simp only[];split at h
 case h_2=>cases h
 rename_i ks N;split at h
 case h_2=>cases h
 rename_i O q;split at h
 case isFalse=>cases h
 rename_i y;obtain⟨h1,B,I,J⟩:=y;simp only[aX,a8]at h;obtain⟨d,rfl,rfl⟩:=h;subst hb;simp only[aZ,bx,ar,decide_eq_true_eq]at d;simp only[h1,B,I,d.1,d.2,and_self,if_true,hG,ah.den,eH,J,aX,a8,true_and];rw[←ki q];simp
def fK(ks:List Kd)(rows:List (List G))(key:List G):Option Nat:=match ch ks key rows 0 with
 |some (_,r)=>pT r
 |none=>none
def lh(mem:List (List G)):Option Nat→Bool
 |some i=>cJ i mem.length
 |none=>false
def gL(mem:List (List G)):Option Nat→List G
 |some i=>mem.getD i []
 |none=>[]
def rZ(mem:List (List G))(j:Option Nat)(ks:List Kd)(key val:List G):List (List G):=match j with
 |some i=>mem.set i [.l (gv ks (gi (gL mem j) 0).rows key val (gi (gL mem j) 1).int.toNat),.i (gx ks (gi (gL mem j) 0).rows key (gi (gL mem j) 1).int.toNat:Nat)]
 |none=>mem
def r7(rows:List (List G))(st:Int):Bool:=match fi st rows 0 with
 |some (_,r) => !aG 0 (gi r 1).int
 |none=>false
def r8(rows:List (List G))(st:Int)(n:Nat):List (List G):=match fi st rows 0 with
 |some (i,r)=>rows.set i [gi r 0,.i n,gi r 2]
 |none=>rows
theorem Dg{P:Program}{g:TypeId}{K:Ct}(h:gJ P g K=true)(key:List G):∀(rows:List (List G)) (i:Nat),ew P g (dm K.ks key) (fq (iy K rows)) i =
  some ((ch K.ks key rows i).map fun p=>(p.1,AV.undef))
 | [],i=>rfl
 | r::rs,i=>by
  have q:=Dg h key rs (i+1);have k:∃ d,jN d K.ks=true:=by
   unfold gJ at h;split at h
   ·simp only[ar]at h; exact⟨_,h.1⟩
   ·cases h
  obtain⟨d,t⟩:=k;simp only[iy,fq,cY,ew,jO h,yD _ _ t,ch];cases bL K.ks key (gi r 0).row with
  |true=>rfl
  |false=>exact q
theorem K7{K:Ct}{rows:List (List G)}{i:Nat}{r:List G}(h:rows[i]? = some r):(iy K rows)[i]? = some (K.av (gi r 0).row,pT r,(gi r 2).int.toNat):=by
 unfold iy;rw[bR,h];rfl
theorem K8{KI VI:Ct}{mem:List (List G)}{i:Nat}(h:i<mem.length):(n4 KI VI mem)[i]? = some (dH KI VI (gi (mem.getD i []) 0).rows,(gi (mem.getD i []) 1).int.toNat):=by
 unfold n4;rw[bR,b_,bd h];rfl
def Dh(P:Program)(t:TypeId)(m k:AV)(ok:Bool)(H:List ah):Option (Bool × AV) :=
 match cZ P t,m with
 | some (d,g),.sub id l j=>match H[id]? with
  | some (.mm l' _ KI VI _ mem _)=>match KI.read k,n_ P g with
   | some key,some (h,z)=>match af l l'&&(gJ P d KI&&VI.same h) with
    | true=>some (lh mem j,match ok with
      |true=>.tuple [VI.av (dI KI.ks (gi (gL mem j) 0).rows key z),.lit (.bool (dP KI.ks (gi (gL mem j) 0).rows key))]
      |false=>VI.av (dI KI.ks (gi (gL mem j) 0).rows key z))
    |false=>none
   |_,_=>none
  |_=>none
 | some (d,g),.map id=>match H[id]?,ok with
  | some (.mm l K _ _ rows _ _),false=>match K.read k,gY P g with
   | some key,some (.lit (.map none))=>match gJ P d K with
    |true=>some (true,.sub id l (fK K.ks rows key))
    |false=>none
   |_,_=>none
  |_,_=>none
 |_,_=>none
theorem Vq{P:Program}{t:TypeId}{m k v:AV}{ok b:Bool}{H:List ah}(h:Dh P t m k ok H=some (b,v))(hb:b=true):fY P t m k ok (ai H)=none∧jH P t m k ok (ai H)=some v:=by
 unfold Dh at h;unfold jH fY;split at h
 ·rename_i B I id l j g
  rw[g];refine⟨rfl,?_⟩;split at h
  case h_2=>cases h
  rename_i l' K KI VI rows mem cl hid;split at h
  case h_2=>cases h
  rename_i key O z hk q;split at h
  case h_2=>cases h
  rename_i d;simp only[ar]at d;obtain⟨J,d,M⟩:=d;have e:=Ct.jL M;subst e;simp only[aX,a8]at h;obtain⟨hi,rfl⟩:=h;rw[hb]at hi;cases j with
  |none=>cases hi
  | some i =>
   have y:i<mem.length:=by simpa[lh]using hi
   simp only[rE,g];rw[bf hid];simp only[ah.den,J,K8 y,gL];rw[←Ct.kl hk,jO d,KT q];simp only[rV d];unfold dI dP;cases ch KI.ks key (gi (mem.getD i []) 0).rows 0 with
   |none=>cases ok<;>rfl
   |some p=>cases ok<;>rfl
 ·rename_i B I id g
  rw[g];split at h
  case h_2=>cases h
  rename_i l K KI VI rows mem cl hid;split at h
  case h_2=>cases h
  rename_i key hk q;split at h
  case h_2=>cases h
  rename_i d;simp only[pO,g];rw[bf hid];simp only[ah.den];refine⟨trivial,?_⟩;rw[←Ct.kl hk,jO d,q];simp only[Dg d];cases h;unfold fK;cases N:ch K.ks key rows 0 with
  |none=>rfl
  | some p =>
   obtain⟨i,r⟩:=p;obtain⟨_,u⟩:=pV N;rw[gC]at u;simp only[dL,K7 u]
 ·cases h
def uX(P:Program)(t:TypeId)(m k v:AV)(H:List ah):Option (Bool × List ah) :=
 match cZ P t,m with
 | some (d,_),.sub id l j=>match H[id]? with
  | some (.mm l' K KI VI rows mem cl)=>match KI.read k,VI.read v with
   | some key,some val=>match af l l'&&gJ P d KI with
    |true=>some (lh mem j,H.set id (.mm l' K KI VI rows (rZ mem j KI.ks key val) cl))
    |false=>none
   |_,_=>none
  |_=>none
 |_,_=>none
theorem Vr(KI VI:Ct)(mem:List (List G))(i:Nat)(r:List G):n4 KI VI (mem.set i r)=(n4 KI VI mem).set i (dH KI VI (gi r 0).rows,(gi r 1).int.toNat):=by
 simp[n4,tZ]
theorem Vs(K:Ct)(rows:List (List G))(i:Nat)(r:List G):iy K (rows.set i r)=(iy K rows).set i (K.av (gi r 0).row,pT r,(gi r 2).int.toNat):=by
 simp[iy,tZ]
theorem Vt{P:Program}{t:TypeId}{m k v:AV}{b:Bool}{H H':List ah}(h:uX P t m k v H=some (b,H'))(hb:b=true) :
  uE P t m k v (ai H)=some (ai H')∧lP P t m k v (ai H)=none∧pM P t m k v (ai H)=none:=by
 unfold uX at h;unfold uE lP pM;split at h
 case h_2=>cases h
 rename_i N O id l j I;rw[I];refine⟨?_,rfl,rfl⟩;split at h
 case h_2=>cases h
 rename_i l' K KI VI rows mem cl hid;split at h
 case h_2=>cases h
 rename_i key val hk J;split at h
 case h_2=>cases h
 rename_i d;simp only[ar]at d;obtain⟨g,d⟩:=d;have e:=br g;subst e;simp only[aX,a8]at h;obtain⟨hi,rfl⟩:=h;rw[hb]at hi;cases j with
 |none=>cases hi
 | some i =>
  have z:i<mem.length:=by simpa[lh]using hi
  simp only[];rw[bf hid];simp only[ah.den,K8 z,g];rw[←Ct.kl hk,←Ct.kl J,jO d];simp only[Ct.uI,and_self,if_true,rV d,dj,ah.den,rZ,gL,Vr];generalize mem.getD i []=m0;have q:∀(X:List (List G)) (n:Nat),(gi [G.l X,G.i n] 0).rows=X:=fun _ _=>rfl;have u:∀(X:List (List G)) (n:Nat),(gi [G.l X,G.i n] 1).int.toNat=n:=fun _ _=>rfl;unfold gv gx dP;cases M:ch KI.ks key (gi m0 0).rows 0 with
  | none =>
   simp only[xD,IJ,cond_false,q,u];rw[show dH KI VI ((gi m0 0).rows++[[.l [key],.l [val],.i (gi m0 1).int.toNat]])=dH KI VI (gi m0 0).rows++[(KI.av key,VI.av val,(gi m0 1).int.toNat)] from by
    simp only[dH,iI,cY,kV];rfl]
  | some p =>
   obtain⟨_,y⟩:=pV (r:=p.2) (j:=p.1) M;rw[gC]at y;have B:(dH KI VI (gi m0 0).rows)[p.1]? = some (KI.av (gi p.2 0).row,VI.av (gi p.2 1).row,(gi p.2 2).int.toNat):=by simp[dH,y]
   simp only[dL,K4 _ B,IW,cond_true,q,u,K3];rfl
def uY(P:Program)(t:TypeId)(m k:AV)(H:List ah):Option (Bool × AV × List ah) :=
 match cZ P t,m with
 | some (d,g),.map id=>match H[id]? with
  | some (.mm l K KI VI rows mem cl)=>match K.read k,gY P g with
   | some key,some (.lit (.map none))=>match gJ P d K with
    |true=>some (!dP K.ks rows key,.tuple [.sub id l none,.lit (.int .i64 (cl:Nat))],H.set id (.mm l K KI VI (rows++[[.l [key],.i (-1),.i cl]]) mem (cl+1)))
    |false=>none
   |_,_=>none
  |_=>none
 |_,_=>none
theorem Vu{P:Program}{t:TypeId}{m k v:AV}{b:Bool}{H H':List ah}(h:uY P t m k H=some (b,v,H'))(hb:b=true) :
  jg P t m k (ai H)=some (v,ai H')∧ir P t m k (ai H)=none:=by
 unfold uY at h;unfold jg ir;split at h
 case h_2=>cases h
 rename_i z B id q;rw[q];split at h
 case h_2=>cases h
 rename_i l K KI VI rows mem cl hid;simp only[];rw[bf hid];simp only[ah.den];split at h
 case h_2=>cases h
 rename_i key hk u;split at h
 case h_2=>cases h
 rename_i g;simp only[aX,a8]at h;obtain⟨d,rfl,rfl⟩:=h;rw[hb]at d;rw[←Ct.kl hk,jO g,u];simp only[Ct.uI,Dg g,and_true];unfold dP at d;cases y:ch K.ks key rows 0 with
 |some p=>rw[y]at d; cases d
 | none =>
  simp only[xD,dj,ah.den];rw[show iy K (rows++[[.l [key],.i (-1),.i cl]])=iy K rows++[(K.av key,none,cl)] from by
   simp only[iy,iI,cY,kV];rfl]
  rfl
theorem K9{K:Ct}{st:Int}:∀{rows:List (List G)} {i:Nat},(fi st rows i).map (·.1)=(pP (iy K rows) st).map (·+i)
 | [],_=>rfl
 | x::rs,i=>by
  have d:=K9 (K:=K) (st:=st) (rows:=rs) (i:=i+1);unfold pP at d⊢;simp only[fi,iy,cY,IQ]at d⊢;cases g:((gi x 2).int.toNat:Int)==st with
  |true=>simp
  | false =>
   simp only[cond_false,d,lD,if_false,IX];congr 1
   funext n
   simp only[IY];omega
def uZ(m s v:AV)(H:List ah):Option (Bool × List ah) :=
 match m,s,v with
 | .map id,.lit (.int .i64 st),.map j=>match H[id]?,H[j]? with
  | some (.mm l K KI VI rows mem cl),some (.map h k d g)=>match KI.same h&&VI.same k with
   |true=>some (r7 rows st,(H.set id (.mm l K KI VI (r8 rows st mem.length) (mem++[[.l d,.i g]]) cl)).set j (.raw .dead))
   |false=>none
  |_,_=>none
 |_,_,_=>none
theorem Vv{m s v:AV}{b:Bool}{H H':List ah}(h:uZ m s v H=some (b,H'))(hb:b=true) :
  la m s v (ai H)=some (ai H')∧ka m s v (ai H)=none:=by
 unfold uZ at h;unfold la ka;split at h
 case h_2=>cases h
 rename_i id st j;split at h
 case h_2=>cases h
 rename_i l K KI VI rows mem cl N O J M hid u;refine⟨?_,rfl⟩;simp only[];rw[bf hid,bf u];simp only[ah.den];split at h
 case h_2=>cases h
 rename_i k;simp only[ar]at k;have z:=Ct.jL k.1;have B:=Ct.jL k.2;subst z B;simp only[aX,a8]at h;obtain⟨d,rfl⟩:=h;rw[hb]at d;unfold r7 at d;unfold r8;cases g:fi st rows 0 with
 |none=>rw[g]at d; cases d
 | some p =>
  obtain⟨i,r⟩:=p;rw[g]at d;obtain⟨_,q⟩:=Df g;rw[gC]at q;have hi:pP (iy K rows) st=some i:=by
   have:=K9 (K:=K) (st:=st) (rows:=rows) (i:=0);rw[g]at this;cases t:pP (iy K rows) st with
   |none=>rw[t]at this; cases this
   |some y=>rw[t]at this; simp at this; rw[this]
  have hm:pT r=none:=by
   unfold pT;cases I:aG 0 (gi r 1).int with
   |true=>simp[I]at d
   |false=>rfl
  rw[hi];simp only[K7 q,hm,dj,ah.den,Vs];simp[pT,n4,gi,G.row,G.rows,G.int,aG,show ∀ n,bI 0 n=true from fun n=>Nat.ble_eq_true_of_le (dB n)]
def r9(P:Program)(r:Operand→AV)(H:List ah):Op→Option (Bool × AV × List ah)
 | .alloc t=>match yc P t with
  |some e=>if mN (ai H) 0=true then some (true,.ptr H.length 0 0 0 0,H++[.raw (.bJ 0 t e tS)]) else none
  | none=>match dZ P t with
   |some z=>some (true,.ptr H.length 0 0 0 0,H++[.raw (.box (z.map .lit))])
   |none=>none
 | .box _ x=>match pH (r x) with
  |some cs=>some (true,.ptr H.length 0 0 0 0,H++[.raw (.box cs)])
  |none=>none
 | .store t a x=>match rT P t (r a) (r x) H with
  |some (b,H')=>some (b,.undef,H')
  |none=>none
 |.makeSlice t l c=>uN P t (r l) (r c) H
 |.buildSlice t n parts=>uO P t n (parts.toList.map fun p=>(p.1,r p.2)) H
 | .range t x=>match cr P t,r x with
  |.str,.lit (.string s)=>some (true,.ptr H.length 0 0 0 0,H++[.raw (.iter s 0)])
  |_,_=>none
 | .next it true=>match r it with
  | .ptr id 0 _ 0 0=>match H[id]? with
   | some (.raw (.iter s pos))=>if pos<s.size then some (true,.tuple [.lit (.bool true),.lit (goInt pos),.lit (.int .i32 (nH s pos).1)],H.set id (.raw (.iter s (pos+(nH s pos).2))))
     else some (true,.tuple [.lit (.bool false)],H)
   |_=>none
  |_=>none
 | .makeMap t none=>match cZ P t with
  | some (g,d)=>match n_ P g,n_ P d with
   |some (K,_),some (V,_)=>some (true,.map H.length,H++[.map K V [] 0])
   | some (K,_),none=>match cZ P d with
    |some _=>some (true,.map H.length,H++[.map K K [] 0])
    |none=>none
   |_,_=>none
  |none=>none
 | .mapUpdate t m k v=>match rW P t (r m) (r k) (r v) H with
  |some (b,H')=>some (b,.undef,H')
  | none=>match uQ P t (r m) (r k) (r v) H with
   |some (b,H')=>some (b,.undef,H')
   | none=>match uX P t (r m) (r k) (r v) H with
    |some (b,H')=>some (b,.undef,H')
    |none=>none
 |.lookup t m k false=>uP P t (r m) (r k) H
 | .mapEntry t m k=>match uR P t (r m) (r k) H with
  |some y=>some y
  |none=>uY P t (r m) (r k) H
 | .entryStore _ m s x=>match uS (r m) (r s) (r x) H with
  |some (b,H')=>some (b,.undef,H')
  | none=>match uZ (r m) (r s) (r x) H with
   |some (b,H')=>some (b,.undef,H')
   |none=>none
 | .insert t m k v=>match rW P t (r m) (r k) (r v) H with
  |some (b,H')=>some (b,.undef,H')
  |none=>none
 | .call c=>match c.callee with
  | .builtin .append=>match c.args.toList,c.argTypes.toList with
   | [s,x],[t,xt]=>match cr P xt with
    |.int _=>uW P t xt (r s) (r x) H
    |_=>uM P t xt (r s) (r x) H
   |_,_=>none
  | .builtin .clear=>match c.args.toList,c.argTypes.toList with
   | [x],[t]=>match uV P t (r x) H with
    |some (b,H')=>some (b,.tuple [],H')
    |none=>none
   |_,_=>none
  | .builtin .delete=>match c.args.toList,c.argTypes.toList with
   | [x,k],t::_=>match uU P t (r x) (r k) H with
    |some (b,H')=>some (b,.tuple [],H')
    |none=>none
   |_,_=>none
  |_=>none
 |_=>none
theorem Vw{P:Program}{t xt:TypeId}{s x:AV}{H:List ab}(h:∀ k,cr P xt≠.int k):pL P t xt s x H=none:=by
 unfold pL;split
 ·rename_i hk
  exact(h _ hk).elim
 ·rfl
theorem K_{P:Program}{r:Operand→AV}{H H':List ah}{o:Op}{v:AV}{b:Bool}(h:r9 P r H o=some (b,v,H'))(hb:b=true):cW P r (ai H) o=some (v,ai H'):=by
 cases o<;>simp only[r9]at h<;>try cases h
 case alloc t =>
  split at h
  ·rename_i e he
   split at h
   ·rename_i N
    cases h;simp only[cW,pJ,he,N,if_true,eH,hG,ah.den]
   ·cases h
  ·rename_i he
   split at h
   ·rename_i z I; cases h; simp only[cW,pJ,he,I,eH,hG,ah.den]
   ·cases h
 case box t x =>
  split at h
  ·rename_i z I; cases h; simp only[cW,ye,I,eH,hG,ah.den]
  ·cases h
 case store t a x =>
  split at h
  ·rename_i g H1 d; cases h; simp only[cW,KQ d hb]
  ·cases h
 case makeSlice t l c=>simp only[cW]; exact Vg h hb
 case buildSlice t n ps=>simp only[cW]; exact Vh h
 case range t x =>
  split at h
  ·rename_i s hk J
   cases h;simp only[cW,yg,hk,J,eH,hG,ah.den]
  ·cases h
 case next it isString =>
  cases isString with
  |false=>cases h
  | true =>
   simp only[]at h;split at h
   ·rename_i id k J
    split at h
    ·rename_i s pos hid
     simp only[cW,yh,J,bf hid,ah.den];split at h
     ·rename_i B
      cases h;rw[if_pos B,dj];rfl
     ·rename_i B
      cases h;rw[if_neg B]
    ·cases h
   ·cases h
 case makeMap t res =>
  cases res with
  |some _=>cases h
  | none =>
   simp only[]at h;split at h
   ·split at h
    ·cases h
     simp only[cW,eH,hG,ah.den];rfl
    ·split at h
     ·cases h
      simp only[cW,eH,hG,ah.den];rfl
     ·cases h
    ·cases h
   ·cases h
 case mapUpdate t m k x =>
  split at h
  ·rename_i g H1 d
   cases h;simp only[cW,K5 d]
  ·split at h
   ·rename_i g H1 d
    cases h;obtain⟨g1,g2⟩:=Vk d hb;simp only[cW,g1,g2]
   ·split at h
    ·rename_i g H1 d
     cases h;obtain⟨g1,g2,g3⟩:=Vt d hb;simp only[cW,g1,g2,g3]
    ·cases h
 case lookup t m k ok =>
  cases ok with
  |true=>cases h
  | false =>
   obtain⟨g1,g2⟩:=Vj h hb;simp only[cW,g1,g2]
 case mapEntry t m k =>
  split at h
  ·rename_i y O
   cases h;simp only[cW,Vl O hb]
  ·obtain ⟨g1, g2⟩ := Vu h hb
   simp only[cW,g1,g2]
 case entryStore t m s x =>
  split at h
  ·rename_i g H1 d
   cases h;simp only[cW,Vm d hb]
  ·split at h
   ·rename_i g H1 d
    cases h;obtain⟨g1,g2⟩:=Vv d hb;simp only[cW,g1,g2]
   ·cases h
 case insert t m k x =>
  split at h
  ·rename_i g H1 d
   cases h;simp only[cW,K5 d]
  ·cases h
 case call c =>
  simp only[cW,yr];split at h
  ·rename_i q
   rw[q];split at h
   ·rename_i h1 u
    simp only[h1,u];split at h
    ·rw[Vp h hb]
    ·rename_i M
     rw[Vw M];exact Ve h hb
   ·cases h
  ·rename_i q
   rw[q];split at h
   ·rename_i h1 u
    simp only[h1,u];split at h
    ·rename_i d
     cases h;rw[Vo d hb]
    ·cases h
   ·cases h
  ·rename_i q
   rw[q];split at h
   ·rename_i h1 u
    simp only[h1,u];split at h
    ·rename_i d
     cases h;rw[Vn d]
    ·cases h
   ·cases h
  ·cases h
end Go.AL

namespace Go.AL
open Go
variable [Dr]
def r_(n:Int):Option (Bool × AV):=some (ay n,.lit (.int .i64 n))
def Di(P:Program)(op:BinOp)(t:TypeId)(d:Bool)(x y:AV):Option (Bool × AV) :=
 match op,x,y with
 |.add,.lit (.int .i64 a),.lit (.int .i64 b)=>r_ (a+b)
 |.sub,.lit (.int .i64 a),.lit (.int .i64 b)=>r_ (a-b)
 |.mul,.lit (.int .i64 a),.lit (.int .i64 b)=>r_ (a*b)
 |.quo,.lit (.int .i64 a),.lit (.int .i64 b)=>some (!(b==0)&&ay (a.tdiv b),.lit (.int .i64 (a.tdiv b)))
 |.rem,.lit (.int .i64 a),.lit (.int .i64 b)=>some (!(b==0),.lit (.int .i64 (a.tmod b)))
 |.add,.lit (.string a),.lit (.string b)=>some (bI (a.size+b.size) 9223372036854775807,.lit (.string (a++b)))
 |.lss,.lit (.int k a),.lit (.int k' b)=>if k=k' then some (true,.lit (.bool (ak a b))) else none
 |.leq,.lit (.int k a),.lit (.int k' b)=>if k=k' then some (true,.lit (.bool (aG a b))) else none
 |.gtr,.lit (.int k a),.lit (.int k' b)=>if k=k' then some (true,.lit (.bool (ak b a))) else none
 |.geq,.lit (.int k a),.lit (.int k' b)=>if k=k' then some (true,.lit (.bool (aG b a))) else none
 |.and,.lit (.int k a),.lit (.int k' b)=>if k=k' then some (true,.lit (.int k (Ca k a b))) else none
 |.or,.lit (.int k a),.lit (.int k' b)=>if k=k' then some (true,.lit (.int k (Jg k a b))) else none
 |.xor,.lit (.int k a),.lit (.int k' b)=>if k=k' then some (true,.lit (.int k (Jh k a b))) else none
 |.shl,.lit (.int k a),.lit (.int _ b)=>some (aI b,.lit (.int k (Cb k a b)))
 |.shr,.lit (.int k a),.lit (.int _ b)=>some (aI b,.lit (.int k (j7 k a b)))
 | op,.listF ks rows,.lit (.slice none 0 0)=>match P.underlying t,jG op false with
  |some (.slice _),some v=>some (cJ 0 rows.length,v)
  |_,_=>none
 | op,.vec w id ad off m,.lit (.slice none 0 0)=>match P.underlying t,jG op false with
  |some (.slice _),some v=>some (cJ 0 m,v)
  |_,_=>none
 | _,_,_=>match jf P op t d x y with
  |some v=>some (true,v)
  |none=>none
def Dj(m sz:Nat)(cells:List AV):Option (Kd × List (List G)) :=
 match uK (cells.headD .undef)with
 | some k=>match bg [k] (cells.map fun c=>[c]) with
  |some rows=>if sz=1∧m=cells.length then some (k,rows) else none
  |none=>none
 |none=>none
theorem Vx{m sz:Nat}{cells:List AV}{k:Kd}{rows:List (List G)}(h:Dj m sz cells=some (k,rows)){j:Nat}(g:j<m) :
  aK [k] (rows.getD j [])=(cells.drop (j*sz)).take sz:=by
 unfold Dj at h;split at h
 ·split at h
  ·rename_i rows' q
   split at h
   ·rename_i t
    obtain⟨rfl,rfl⟩:=t;cases h;have e:=rS q;have u:rows.length=cells.length:=by have:=congrArg SE e; simpa using this
    have d:(rows.map (aK [k]))[j]? = (cells.map fun c=>[c])[j]? := by rw[e]
    rw[C' (by omega),bR,bd g]at d;simp only[dL,aX]at d;rw[d,IZ,List.drop_eq_getElem_cons g,List.take_succ_cons,List.take_zero]
   ·cases h
  ·cases h
 ·cases h
def Dk(k:SK)(x i:AV):Option (Bool × AV) :=
 match k,x,i with
 |.slice _ sz _,.listF ks rows,.lit (.int _ j)=>if ks.length=sz then some (aI j&&ak j (rows.length:Int),.cptr (aK ks (rows.getD j.toNat []))) else none
 |.slice _ sz _,.vec w id ad off m,.lit (.int _ j)=>if w=sz then some (aI j&&ak j (m:Int),.ptr id ad w (off+j.toNat) 0) else none
 | .array m _ sz _,.cptr cells,.lit (.int d j)=>match Dj m sz cells with
  |some (g,rows)=>some (aI j&&ak j (m:Int),.cptr (aK [g] (rows.getD j.toNat [])))
  | none=>match lJ k (.cptr cells) (.lit (.int d j)) with
   |some v=>some (true,v)
   |none=>none
 | _,_,_=>match lJ k x i with
  |some v=>some (true,v)
  |none=>none
def u1:List AV→Option (List Int)
 | []=>some []
 | .lit (.int .i64 n)::l=>match u1 l with
  |some q=>some (n::q)
  |none=>none
 |_=>none
theorem La:∀{cells:List AV} {l:List Int},u1 cells=some l→∀ i,i<l.length→cells[i]? = some (.lit (.int .i64 (l.getD i 0)))
 | [],l,h,i,hi=>by
  simp only[u1,aX]at h;subst h;simp at hi
 | c::cells,l,h,i,hi=>by
  unfold u1 at h;split at h
  ·rename_i he
   cases he
  ·rename_i n l' he
   cases he;split at h
   ·rename_i q d
    cases h;cases i with
    |zero=>rfl
    | succ i =>
     simp only[List.length_cons]at hi;have:=La d i (by omega);simpa using this
   ·cases h
  ·cases h
def Dl(k:SK)(x i:AV):Option (Bool × AV) :=
 match k,x,i with
 |.str,.lit (.string s),.lit (.int _ j)=>some (aI j&&ak j (s.size:Int),.lit (.int .u8 ((s.data.toList.getD j.toNat 0).toNat)))
 | .array m _ 1 false,.agg cells,.lit (.int _ j)=>match u1 cells with
  |some l=>bif bI m l.length then some (aI j&&ak j (m:Int),.lit (.int .i64 (l.getD j.toNat 0))) else none
  | none=>match nT k x i with
   |some v=>some (true,v)
   |none=>none
 | _,_,_=>match nT k x i with
  |some v=>some (true,v)
  |none=>none
def Dm(op:UnOp)(x:AV):Option (Bool × AV) :=
 match op,x with
 |.neg,.lit (.int .i64 n)=>some (ay (0-n),.lit (.int .i64 (0-n)))
 | _,_=>match rr op x with
  |some v=>some (true,v)
  |none=>none
def Dn(P:Program)(s d:TypeId)(x:AV):Option (Bool × AV) :=
 match P.underlying s,cr P d,x with
 |some _,.int .i64,.lit (.int _ n)=>some (ay n,.lit (.int .i64 n))
 | _,_,_=>match ru P s d x with
  |some v=>some (true,v)
  |none=>none
def Dp(P:Program)(r:Operand→AV)(o:Op):Option (Bool × AV) :=
 match o with
 |.indexAddr t x i=>Dk (cr P t) (r x) (r i)
 |.index t x i=>Dl (cr P t) (r x) (r i)
 |.binOp op t x y _=>Di P op t (yq x||yq y) (r x) (r y)
 |.slice t x lo hi mx=>Dd P t (r x) (lo.map r) (hi.map r) (mx.map r)
 |.unOp op _ x=>Dm op (r x)
 |.convert s d x=>Dn P s d (r x)
 | o=>match iu P r o with
  |some v=>some (true,v)
  |none=>none
theorem oc{x:Option AV}{b:Bool}{v:AV} (h:(match x with|some v=>some (true,v)|none=>none)=some (b,v)):x=some v:=by
 split at h
 ·cases h; rfl
 ·cases h
theorem sa{n:Int}(h:ay n=true):IntKind.i64.wrap n=n:=by
 rw[eG]at h;simp[IntKind.wrap,IntKind.bits,IntKind.signed];omega
theorem Vy{P:Program}{op:BinOp}{t:TypeId}{q:Bool}{x y v:AV}{b:Bool}(h:Di P op t q x y=some (b,v))(hb:b=true):jf P op t q x y=some v:=by
  unfold Di at h;split at h
  · simp only [r_, aX, a8] at h
    obtain⟨h1,rfl⟩:=h;subst hb;simp[jf,je,nP,sa h1]
  · simp only [r_, aX, a8] at h
    obtain⟨h1,rfl⟩:=h;subst hb;simp[jf,je,nP,sa h1]
  · simp only [r_, aX, a8] at h
    obtain⟨h1,rfl⟩:=h;subst hb;simp[jf,je,nP,sa h1]
  · simp only [aX, a8] at h
    obtain⟨h1,rfl⟩:=h;subst hb;simp only[ar,pq,beq_eq_false_iff_ne]at h1;simp[jf,je,nP,h1.1,sa h1.2]
  · simp only [aX, a8] at h
    obtain⟨h1,rfl⟩:=h;subst hb;simp only[pq,beq_eq_false_iff_ne]at h1;simp[jf,je,nP,h1]
  · simp only [aX, a8] at h
    obtain⟨h1,rfl⟩:=h;subst hb;have g:=ua h1;have d:∀ k:Nat,k≤9223372036854775807→¬ ((k:Int)>IntKind.i64.max):=fun k hk=>by
      show ¬ ((k:Int)>(9223372036854775807:Int))
      omega
    simp only[jf,je,Cc,if_neg (d _ g)]
  all_goals first
    |exact oc h
    | (split at h
       case isFalse=>cases h
       rename_i hk;subst hk;cases h;simp[jf,je,nP,aZ,bx])
    | (simp only [aX, a8] at h
       obtain⟨h1,rfl⟩:=h;subst hb;simp only[eY,decide_eq_true_eq]at h1;simp only[jf,je,if_neg (Int.not_lt.2 h1)])
    | (split at h
       · rename_i h1 g
         simp only[aX,a8]at h;obtain⟨d,rfl⟩:=h;subst hb;simp only[dM]at d;simp only[jf,h1,if_pos d,g]
       · cases h)
theorem Vz{k:SK}{x i v:AV}{b:Bool}(h:Dk k x i=some (b,v))(hb:b=true):lJ k x i=some v:=by
 unfold Dk at h;split at h
 ·split at h
  ·rename_i hw
   simp only[aX,a8]at h;obtain⟨h1,rfl⟩:=h;subst hb;simp only[eY,aZ,ar,decide_eq_true_eq]at h1;simp[lJ,hw,h1.1,h1.2]
  ·cases h
 ·split at h
  ·rename_i hw
   simp only[aX,a8]at h;obtain⟨h1,rfl⟩:=h;subst hb;simp only[eY,aZ,ar,decide_eq_true_eq]at h1;simp[lJ,hw,h1.1,h1.2]
  ·cases h
 ·split at h
  ·rename_i g rows d
   simp only[aX,a8]at h;obtain⟨h1,rfl⟩:=h;subst hb;simp only[eY,aZ,ar,decide_eq_true_eq]at h1;rw[Vx d (by omega)];simp[lJ,h1.1,h1.2]
  ·exact oc h
 ·exact oc h
theorem VA{k:SK}{x i v:AV}{b:Bool}(h:Dl k x i=some (b,v))(hb:b=true):nT k x i=some v:=by
 unfold Dl at h;split at h
 ·rename_i s g j
  simp only[aX,a8]at h;obtain⟨h1,rfl⟩:=h;subst hb;simp only[eY,aZ,ar,decide_eq_true_eq]at h1;have d:j.toNat<s.size:=by omega
  have e:s[j.toNat]? = some (s.data.toList.getD j.toNat 0):=by
   have q:j.toNat<s.data.toList.length:=by simpa using d
   rw[b_,bd q];simp only[getElem?,decidableGetElem?,d,dite_true,Option.getD_some];rfl
  simp only[nT,h1.1,h1.2,and_self,if_true,e]
 ·rename_i m e cells g j
  split at h
  ·rename_i l t
   cases hm:bI m l.length with
   |false=>rw[hm]at h; cases h
   | true =>
    rw[hm]at h;simp only[cond_true,aX,a8]at h;obtain⟨h1,rfl⟩:=h;subst hb;rw[cK]at hm;simp only[eY,aZ,ar,decide_eq_true_eq]at h1;have u:=La t j.toNat (by omega);simp only[nT,h1.1,h1.2,and_self,if_true,jF,lD,if_false,IZ,qK,Nat.add_zero,u]
  ·exact oc h
 ·exact oc h
theorem VB{op:UnOp}{x v:AV}{b:Bool}(h:Dm op x=some (b,v))(hb:b=true):rr op x=some v:=by
 unfold Dm at h;split at h
 ·simp only [aX, a8] at h
  obtain⟨h1,rfl⟩:=h;subst hb;simp only[rr,sa h1]
 ·exact oc h
theorem VC{P:Program}{s d:TypeId}{x v:AV}{b:Bool}(h:Dn P s d x=some (b,v))(hb:b=true):ru P s d x=some v:=by
 unfold Dn at h;split at h
 ·rename_i g k
  simp only[aX,a8]at h;obtain⟨h1,rfl⟩:=h;subst hb;simp only[ru,g,k,sa h1]
 ·exact oc h
theorem VD{P:Program}{r:Operand→AV}{o:Op}{b:Bool}{v:AV}(h:Dp P r o=some (b,v))(hb:b=true):iu P r o=some v:=by
 cases o<;>simp only[Dp]at h<;>try exact oc h
 case binOp=>simp only[iu]; exact Vy h hb
 case indexAddr=>simp only[iu]; exact Vz h hb
 case index=>simp only[iu]; exact VA h hb
 case slice=>simp only[iu]; exact Vf h hb
 case unOp=>simp only[iu]; exact VB h hb
 case convert=>simp only[iu]; exact VC h hb
inductive Tree where
 |fail
 |done (x:bW) (s:al)
 |ask (b:Bool) (t e:Tree)
 |side (b:Bool) (t:Tree)
def Tree.holds(Q:bW→al→Prop):Tree→Prop
 |.fail=>False
 |.done x s=>Q x s
 |.ask b t e=>(b=true→t.holds Q)∧(b=false→e.holds Q)
 |.side b t=>b=true∧t.holds Q
structure au where
 pf:FuncId→Bool
 T:FuncId→List AV→Option (Bool × AV)
 W:FuncId→List AV→List ah→Option (Bool × AV × List ah)
 C:FuncId→List AV→List ah→List Nat
 I:FuncId→List AV→List ah→Option Tree:=fun _ _ _=>none
 N:FuncId→Bool:=fun _=>false
 U:FuncId→Bool:=fun _=>true
structure aw (P:Program) (τ:au):Prop where
 T:∀ f args b v,τ.T f args=some (b,v)→b=true→iv P f=true∧mR P f args v
 W:∀ f args H b v H',τ.W f args H=some (b,v,H')→b=true→iv P f=true∧cq P f args (ai H) v (ai H')
 C:∀ f args H b v H',τ.W f args H=some (b,v,H')→∀ A,A∉τ.C f args H→A<H.length→H'[A]? = H[A]?
 I:∀ f args H t,τ.I f args H=some t→∀ Q:bW→al→Prop,t.holds Q→iv P f=true∧∃ v H',cq P f args (ai H) v (ai H')∧(∀ A,A∉τ.C f args H→A<H.length→H'[A]? = H[A]?)∧Q .normal ⟨[v],H'⟩
 F:(∀ f,τ.U f=false→∀ args H,τ.W f args H=none∧τ.C f args H=[])∧∀ f,τ.N f=true→∀ args H b v H',τ.W f args H=some (b,v,H')→∀ id o,id<H.length→id∉τ.C f args H →
  τ.W f args (H.set id o)=some (b,v,H'.set id o)∧τ.C f args (H.set id o)=τ.C f args H
def Tree.u6(k:AV→List ah→Tree):Tree→Tree
 |.fail=>.fail
 |.done _ s=>k (s.fr.headD .undef) s.H
 |.ask b t e=>.ask b (t.u6 k) (e.u6 k)
 |.side b t=>.side b (t.u6 k)
theorem Tree.yG{k:AV→List ah→Tree}{Q:bW→al→Prop}:∀{t:Tree},(t.u6 k).holds Q→t.holds fun _ s=>(k (s.fr.headD .undef) s.H).holds Q
 |.fail,h=>h
 |.done _ _,h=>h
 |.ask _ t e,h=>⟨fun hb=>yG (t:=t) (h.1 hb),fun hb=>yG (t:=e) (h.2 hb)⟩
 |.side _ t,h=>⟨h.1,yG (t:=t) h.2⟩
inductive Want where
 |bad|yes|no
 |test (t:Tmp) (b:Bool) (want:Bool)
def od(ops:Array Oper)(fr:List AV)(o:Oper):Want :=
 match o.guard with
 |none=>.yes
 | some (j,want)=>match (ops[j]?).bind (·.dst) with
  | some t=>match fr[t]? with
   |some (.lit (.bool b))=>.test t b want
   |some (.tuple [])=>.no
   |_=>.bad
  |none=>.bad
def yH:AV→Option Bool
 |.lit (.bool b)=>some b
 |_=>none
def u7(H:List ah):AV→Bool × AV
 | .vec w id ad off n=>match H[id]? with
  |some (.vec ks v rows)=>if ad=v∧ks.length=w∧off=0 then (af n rows.length,.listF ks rows) else (true,.vec w id ad off n)
  |_=>(true,.vec w id ad off n)
 | .ptr id ad k row col=>match H[id]? with
  |some (.raw (.box cells))=>if ad=0∧row=0∧col=0∧AV.bu cells=true then (true,.cptr cells) else (true,.ptr id ad k row col)
  |_=>(true,.ptr id ad k row col)
 |a=>(true,a)
def pW(H:List ah):List AV→Bool × List AV
 | []=>(true,[])
 | a::as=>match u7 H a,pW H as with
  |(b,g),(h,d)=>(b&&h,g::d)
def yI(H:List ah):AV→Bool × AV
 | .clo f caps=>match pW H caps with
  |(b,d)=>(b,.clo f d)
 |a=>u7 H a
def oe(H:List ah):List AV→Bool × List AV
 | []=>(true,[])
 | a::as=>match yI H a,oe H as with
  |(b,g),(h,d)=>(b&&h,g::d)
def yJ:List AV→Bool
 | []=>true
 |.lit _::as=>yJ as
 |_::_=>false
def yK:AV→Bool
 |.lit _=>true
 |.tuple vs=>yJ vs
 |_=>false
def Dq(P:Program)(r:Operand→AV)(H:List ah)(o:Op):Option AV :=
 match o with
 | .call c=>match c.callee,c.args.toList,c.argTypes.toList with
  | .builtin .len,[a],[t]=>match cZ P t,r a with
   | some _,.map id=>match H[id]? with
    |some (.map _ _ rows _)=>some (.lit (.int .i64 rows.length))
    |_=>none
   |_,_=>none
  |_,_,_=>none
 |_=>none
theorem VE{P:Program}{r:Operand→AV}{H:List ah}{o:Op}{v:AV}(h:Dq P r H o=some v):eV P r (ai H) o=some v:=by
 unfold Dq at h;split at h
 ·rename_i c
  simp only[eV];split at h
  ·rename_i a t d ha g
   unfold nW;rw[d,ha,g];simp only[];split at h
   ·rename_i p id k hm
    rw[k,hm];simp only[];split at h
    ·rename_i K V rows cl hid
     cases h;rw[bf hid];simp[ah.den,dH]
    ·cases h
   ·cases h
  ·cases h
 ·cases h
def Ds(v:AV)(H:List ah):Option (Bool × AV × List ah) :=
 match v with
 | .vec w id ad off n=>match H[id]? with
  |some (.vec ks u rows)=>if ad=u∧off=0∧w=ks.length then some (af n rows.length,.listF ks rows,H.set id (.raw .dead)) else none
  |_=>none
 |_=>none
def u_(P:Program)(r:Operand→AV)(H:List ah):Op→Option (Bool × List ah)
 | .store t a x=>match Ds (r x) H with
  | some (b0,v1,H1)=>match rT P t (r a) v1 H1 with
   |some (b1,H')=>some (b0&&b1,H')
   |none=>none
  |none=>none
 |_=>none
theorem VF{P:Program}{r:Operand→AV}{H H':List ah}{o:Op}{b:Bool}(h:u_ P r H o=some (b,H'))(hb:b=true):rG P r (ai H) .undef (ai H') o:=by
 unfold u_ at h;split at h
 case h_2=>cases h
 rename_i t a x;split at h
 case h_2=>cases h
 rename_i b0 v1 H1 d;split at h
 case h_2=>cases h
 rename_i b1 H2 k;simp only[aX,a8]at h;obtain⟨h1,rfl⟩:=h;subst hb;simp only[ar]at h1;unfold Ds at d;split at d
 case h_2=>cases d
 rename_i w id ad off n q;split at d
 case h_2=>cases d
 rename_i ks u rows hid;split at d
 case isFalse=>cases d
 rename_i v;obtain⟨rfl,rfl,rfl⟩:=v;simp only[aX,a8]at d;obtain⟨g,rfl,rfl⟩:=d;rw[h1.1]at g;have g:=br g;subst g;refine⟨.listF ks rows,(ai H).set id .dead,⟨id,ad,ks,rows,q,?_,rfl,rfl⟩,?_,rfl⟩
 ·rw [bf hid]
  rfl
 ·have := KQ k h1.2
  rw[dj]at this;exact this
def og(P:Program)(τ:au)(o:Oper)(s:al)(k:AV→List ah→Tree):Tree :=
 match o.op with
 | .pick c a b=>match yH (s.eval c) with
  |some t=>.ask t (k (s.eval a) s.H) (k (s.eval b) s.H)
  |none=>.fail
 | .load t a=>match Da P t (s.eval a) s.H with
  |some (b,v)=>.side b (k v s.H)
  |none=>.fail
 | .lookup t m x ok=>match De P t (s.eval m) (s.eval x) ok s.H with
  | some (b,v)=>match cO τ.pf o.op,ok with
   |.read,_=>.side b (k v s.H)
   |.write,false=>.side b (k v s.H)
   |_,_=>.fail
  | none=>match cO τ.pf o.op with
   | .write=>match r9 P s.eval s.H o.op with
    |some (b,v,H')=>.side b (k v H')
    |none=>.fail
   | .read=>match Dh P t (s.eval m) (s.eval x) ok s.H with
    |some (b,v)=>.side b (k v s.H)
    |none=>.fail
   |.pure=>.fail
 | _=>match cO τ.pf o.op with
  | .read=>match Dq P s.eval s.H o.op with
   |some v=>k v s.H
   |none=>.fail
  | .pure=>match iw s.eval o.op with
   | some (f,args)=>match τ.T f args with
    |some (b,v)=>.side b (k v s.H)
    |none=>.fail
   | none=>match Dp P s.eval o.op with
    |some (b,v)=>.side b (k v s.H)
    |none=>.fail
  | .write=>match iw s.eval o.op with
   | some (f,args)=>match τ.W f args s.H with
    |some (b,v,H')=>.side b (k v H')
    | none=>match τ.I f args s.H with
     |some t=>t.u6 k
     | none=>match τ.T f args with
      |some (b,v)=>.side b (k v s.H)
      | none=>match oe s.H args with
       | (g,d)=>match τ.T f d with
        | some (b,v)=>match yK v&&AV.bu d with
         |true=>.side (g&&b) (k v s.H)
         |false=>.fail
        |none=>.fail
   | none=>match r9 P s.eval s.H o.op with
    |some (b,v,H')=>.side b (k v H')
    | none=>match u_ P s.eval s.H o.op with
     |some (b,H')=>.side b (k .undef H')
     |none=>.fail
def al.slot(s:al)(t:Tmp)(b:Bool):al:=⟨s.fr.set t (.lit (.bool b)),s.H⟩
def Dt(P:Program)(τ:au)(ops:Array Oper)(o:Oper)(s:al)(k:al→Tree):Tree :=
 match od ops s.fr o with
 |.bad=>.fail
 |.no=>k (s.put o.dst (.tuple []) s.H)
 |.yes=>og P τ o s fun v H'=>k (s.put o.dst v H')
 | .test t b want=>.ask b
   (match want with
    |true=>og P τ o (s.slot t true) fun v H'=>k ((s.slot t true).put o.dst v H')
    |false=>k ((s.slot t true).put o.dst (.tuple []) s.H))
   (match want with
    |true=>k ((s.slot t false).put o.dst (.tuple []) s.H)
    |false=>og P τ o (s.slot t false) fun v H'=>k ((s.slot t false).put o.dst v H'))
def oh(P:Program)(τ:au)(ops:Array Oper):List Oper→al→(al→Tree)→Tree
 | [],s,k=>k s
 |o::rest,s,k=>Dt P τ ops o s fun s1=>oh P τ ops rest s1 k
def fv:AV→Option Nat
 |.ptr id _ _ _ _=>some id
 |.vec _ id _ _ _=>some id
 |.map id=>some id
 |.sub id _ _=>some id
 |_=>none
def jP(τ:au)(r:Operand→AV)(H:List ah)(op:Op):List Nat :=
 match iw r op with
 |some (f,args)=>τ.C f args H
 |none=>op.operands.toList.filterMap fun x=>fv (r x)
structure Acc where
 R:ji
 W:ix
def va(ids:List Nat)(i:Nat):Bool := !ids.any (af i)
def Du(ops:Array Oper)(j id:Nat)(acc:Acc):Option Acc :=
 match acc.W.all fun e=>waits ops ops.size j e.1||(va e.2.1 id&&cJ id e.2.2)with
 |true=>some ⟨(j,id)::acc.R,acc.W⟩
 |false=>none
def yL(ops:Array Oper)(j:Nat)(T:List Nat)(n:Nat)(acc:Acc):Option Acc :=
 match acc.R.all fun e=>waits ops ops.size j e.1||(va T e.2&&cJ e.2 n)with
 | true=>match acc.W.all fun e=>waits ops ops.size j e.1||((T.all fun id=>va e.2.1 id&&cJ id e.2.2)&&e.2.1.all fun id=>cJ id n) with
  |true=>some ⟨acc.R,(j,T,n)::acc.W⟩
  |false=>none
 |false=>none
def Dv(τ:au)(ops:Array Oper)(j:Nat)(o:Oper)(s:al)(acc:Acc):Option Acc :=
 match cO τ.pf o.op with
 |.pure=>some acc
 | .read=>match lb s.eval o.op with
  |some id=>Du ops j id acc
  |none=>some acc
 |.write=>yL ops j (jP τ s.eval s.H o.op) s.H.length acc
def gZ:Kd→Value→Option G
 |.int k,.int k' n=>if k=k' then some (.i n) else none
 |.str,.string s=>some (.s s)
 |.bool,.bool b=>some (.t b)
 |.list _,.slice none 0 0=>some (.l [])
 |_,_=>none
def sb:List Kd→List Value→Option (List G)
 | [],[]=>some []
 | k::ks,v::z=>match gZ k v,sb ks z with
  |some g,some gs=>some (g::gs)
  |_,_=>none
 |_,_=>none
def mK:Kd→Option (List Kd)
 |.list ks=>some ks
 |_=>none
def mZ:List Kd→List (Option (List Kd)):=List.map mK
theorem VG{k:Kd}{v:Value}{g:G}(h:gZ k v=some g):ic k g=zc (mK k) v:=by
 cases k with
 | int k =>
  cases v with
  | int k' n =>
   simp only[gZ]at h;by_cases e:k=k'
   ·rw [if_pos e] at h
    cases h;subst e;rfl
   ·rw [if_neg e] at h
    cases h
  |_=>cases h
 |str=>cases v<;>first|(cases h; rfl)|cases h
 |bool=>cases v<;>first|(cases h; rfl)|cases h
 | list ks =>
  cases v with
  |slice b n c=>cases b<;>cases n<;>cases c<;>first|(cases h; rfl)|cases h
  |_=>cases h
theorem Lb:∀{ks:List Kd} {z:List Value} {g:List G},sb ks z=some g→aK ks g=dO (mZ ks) z
 | [],[],g,h=>by cases h; rfl
 | [],_::_,g,h=>by cases h
 |_::_,[],g,h=>by cases h
 | k::ks,v::z,g,h=>by
  simp only[sb]at h;split at h
  ·rename_i g0 gs h1 d
   cases h;have q:=Lb d;simp only[aK,mv,List.tail_cons,q,VG h1];rfl
  ·cases h
def pX(z:List Value):List ah→Nat→Option (Nat × List Kd × List G)
 | [],_=>none
 | .vec ks 0 rows::H,i=>match sb ks z with
  | some g=>match rows with
   | []=>some (i,ks,g)
   |_::_=>pX z H (i+1)
  |none=>pX z H (i+1)
 |_::H,i=>pX z H (i+1)
def vc:List ah→Nat→Option Nat
 | [],_=>none
 |.raw .dX::_,i=>some i
 |_::H,i=>vc H (i+1)
def VH(P:Program)(t:TypeId):Option (Ct × Ct) :=
 match cZ P t with
 | some (g,d)=>match n_ P g,n_ P d with
  |some (K,_),some (V,_)=>some (K,V)
  | some (K,_),none=>match cZ P d with
   |some _=>some (K,K)
   |none=>none
  |_,_=>none
 |none=>none
def Dw(P:Program)(op:Op)(H:List ah):Option (Nat × AV × List ah) :=
 match op with
 | .alloc t=>match dZ P t with
  | some z=>match pX z H 0 with
   |some (id,ks,g)=>some (id,.ptr id 1 ks.length 0 0,H.set id (.vec ks 1 [g]))
   |none=>none
  |none=>none
 | .makeMap t none=>match VH P t with
  | some (K,V)=>match vc H 0 with
   |some id=>some (id,.map id,H.set id (.map K V [] 0))
   |none=>none
  |none=>none
 |_=>none
def Dx(τ:au)(o:Oper)(s:al):Bool:=match cO τ.pf o.op with
 | .write=>match iw s.eval o.op with
  | some (f,args)=>match τ.N f with
   |true=>(τ.W f args s.H).isSome
   |false=>false
  |none=>false
 |_=>true
def vd(P:Program)(τ:au)(ops:Array Oper)(j:Nat)(o:Oper)(s:al)(acc:Acc)(k:al→Acc→Tree):Tree :=
 match mT ops&&d_ o.op with
 | true=>match Dw P o.op s.H with
  | some (id,v,H')=>match yL ops j [id] s.H.length acc with
   |some d=>k (s.put o.dst v H') d
   |none=>.fail
  |none=>.fail
 | false=>match nZ ops&&kh o.op && !Dx τ o s with
  |true=>.fail
  | false=>match Dv τ ops j o s acc with
   |some d=>og P τ o s fun v H'=>k (s.put o.dst v H') d
   |none=>.fail
def Dy(P:Program)(τ:au)(ops:Array Oper)(j:Nat)(o:Oper)(s:al)(acc:Acc)(k:al→Acc→Tree):Tree :=
 match od ops s.fr o with
 |.bad=>.fail
 |.no=>k (s.put o.dst (.tuple []) s.H) acc
 |.yes=>vd P τ ops j o s acc k
 | .test t b want=>.ask b
   (match want with
    |true=>vd P τ ops j o (s.slot t true) acc k
    |false=>k ((s.slot t true).put o.dst (.tuple []) s.H) acc)
   (match want with
    |true=>k ((s.slot t false).put o.dst (.tuple []) s.H) acc
    |false=>vd P τ ops j o (s.slot t false) acc k)
def Dz(P:Program)(τ:au)(ops:Array Oper):List Oper→Nat→al→Acc→(al→Tree)→Tree
 | [],_,s,_,k=>k s
 |o::rest,j,s,acc,k=>Dy P τ ops j o s acc fun s1 d=>Dz P τ ops rest (j+1) s1 d k
def Lc(k:al→Tree)(K:bW→al→Tree):bW→al→Tree
 |.normal,s=>k s
 |x,s=>K x s
def Ld(id:Nat)(K:bW→al→Tree):bW→al→Tree
 |.exit i,s=>if i=id then K .normal s else K (.exit i) s
 |x,s=>K x s
def Tree.bind(K:bW→al→Tree):Tree→Tree
 |.fail=>.fail
 |.done x s=>K x s
 |.ask b t e=>.ask b (t.bind K) (e.bind K)
 |.side b t=>.side b (t.bind K)
def lj:Code→Option Nat
 |.region id _ _=>some id
 | .seq a b=>match lj a with
  |some i=>some i
  |none=>lj b
 |.block _ c=>lj c
 | .cond _ a b=>match lj a with
  |some i=>some i
  |none=>lj b
 |.loop c=>lj c
 |_=>none
def pY:Code→Nat
 | .seq a b=>match lj a with
  |some _=>pY a
  |none=>pY b
 |.block _ c=>pY c
 | .cond _ a b=>match lj a with
  |some _=>pY a
  |none=>pY b
 |.loop c=>pY c+1
 |_=>0
def Le(c:Code):Option Nat:=match lj c with
 |some i=>some (i+1000*pY c)
 |none=>none
def bE:Code→List (Nat × Code)
 |.seq a b=>bE a++bE b
 |.cond _ a b=>bE a++bE b
 |.block _ c=>bE c
 | .loop c=>match Le c with
  |some k=>(k,c)::bE c
  |none=>bE c
 |_=>[]
def VJ(k:al→Tree)(K:bW→al→Tree):bW→al→Tree
 |.normal,s=>k s
 |.exit i,s=>K (.exit i) s
 |.ret,s=>K .ret s
def yM(body:al→(bW→al→Tree)→Tree):Nat→al→(bW→al→Tree)→Tree
 |0,_,_=>.fail
 |n+1,s,K=>body s (VJ (fun s'=>yM body n s' K) K)
def bG:Code→List (Nat × Code)
 | .seq a b=>bG a++((match lj b with
  |some k=>[(k,b)]
  |none=>[])++bG b)
 |.cond _ a b=>bG a++bG b
 |.block _ c=>bG c
 |.loop c=>bG c
 |_=>[]
structure LT where
 loops:Nat→al→Option Tree
 pre:Nat→al→Bool × al
 ve:Nat→al→Option Tree
def Lf(L:LT)(k:Option Nat)(s:al):Option Tree :=
 match k with
 |some i=>L.ve i s
 |none=>none
def fL(P:Program)(τ:au)(L:LT):Code→al→(bW→al→Tree)→Tree
 |.skip,s,K=>K .normal s
 | .region id ops draw,s,K=>match draw && !rH τ.pf ops with
  | true=>match rQ τ.pf ops with
   |true=>.side (L.pre id s).1 (Dz P τ ops ops.toList 0 (L.pre id s).2 ⟨[],[]⟩ (K .normal))
   |false=>.fail
  |false=>.side (L.pre id s).1 (oh P τ ops ops.toList (L.pre id s).2 (K .normal))
 | .seq a b,s,K=>fL P τ L a s (Lc (fun s1=>match Lf L (lj b) s1 with
  |some t=>t.bind K
  |none=>fL P τ L b s1 K) K)
 | .cond c a b,s,K=>match yH (s.eval c) with
  |some t=>.ask t (fL P τ L a s K) (fL P τ L b s K)
  |none=>.fail
 |.block id c,s,K=>fL P τ L c s (Ld id K)
 | .loop c,s,K=>match Le c with
  | some i=>match L.loops i s with
   |some t=>t.bind K
   |none=>yM (fun s1 d=>fL P τ L c s1 d) 400 s K
  |none=>.fail
 |.exit id,s,K=>K (.exit id) s
 |.ret,s,K=>K .ret s
 |_,_,_=>.fail
def Lg(P:Program)(m:Nat)(c:Code)(s:al)(t:Tree):Prop:=∀ Q:bW→al→Prop,t.holds Q→∃ x s',kf P m c s.den x s'.den∧Q x s'
def DA(P:Program)(m:Nat)(c:Code)(s:al)(t:Tree):Prop:=∀ Q:bW→al→Prop,t.holds Q→∃ x s',dA P m c s.den x s'.den∧Q x s'
def aJ(P:Program)(m:Nat)(L:LT)(c:Code):Prop:=(∀ k d,(k,d)∈bE c→∀ s t,L.loops k s=some t→Lg P m d s t)∧(∀ id s,(L.pre id s).1=true→bq m s.den (L.pre id s).2.den) ∧
 ∀ k d,(k,d)∈bG c→∀ s t,L.ve k s=some t→DA P m d s t
theorem aJ.sub{P:Program}{m:Nat}{L:LT}{c g:Code}(h:aJ P m L c)(h1:∀ p,p∈bE g→p∈bE c)(q:∀ p,p∈bG g→p∈bG c):aJ P m L g :=
 ⟨fun k d hk=>h.1 k d (h1 _ hk),h.2.1,fun k d hk=>h.2.2 k d (q _ hk)⟩
theorem Lh{a:AV}{b:Bool}(h:yH a=some b):a=.lit (.bool b):=by
 unfold yH at h;split at h
 ·cases h; rfl
 ·cases h
theorem Li{E E':Env}:∀{vs:List AV} {us:List Value},yJ vs=true→ae E vs us→ae E' vs us
 | [],[],_,_=>by simp[ae]
 | [],_::_,_,h=>by simp[ae]at h
 | a::vs,us,d,h=>by
  unfold yJ at d;split at d
  ·rename_i heq; cases heq
  ·rename_i heq
   cases heq;cases us with
   |nil=>simp[ae]at h
   | cons u us =>
    simp only[ae,rel]at h⊢;exact⟨h.1,Li d h.2⟩
  ·cases d
theorem VK{E E':Env}{v:AV}{u:Value}(d:yK v=true)(h:rel E v u):rel E' v u:=by
 unfold yK at d;split at d
 ·simpa only[rel]using h
 ·simp only [rel] at h ⊢
  obtain⟨cs,e,g⟩:=h;exact⟨cs,e,Li d g⟩
 ·cases d
def Env.bare(E:Env)(w:World):Env:={ w:=w,H:=[],loc:=[],X:=E.X.re eD }
theorem yN{E:Env}{w:World}(b:Nat):¬ (E.bare w).own b:=by rintro(⟨id,c,h⟩|⟨l,k,c,h⟩); simp[Env.bare]at h; simp[Env.bare,eD]at h
theorem yO(E:Env):E.bD (E.bare E.w):=⟨fun b hb=>⟨⟨hb.1,yN b,hb.2.2⟩,rfl⟩⟩
theorem VL{E:Env}(HE:aq E):aq (E.bare E.w):=by
 refine⟨rfl,?_,?_,HE.X,?_,HE.fh.bD (yO E),fun l k l' k' b m n hk=>by simp[Env.bare,eD]at hk,fun i b m l k n hi=>by simp[Env.bare]at hi,fun l k b m hk=>by simp[Env.bare,eD]at hk,fun i j o o' l hi=>by simp[Env.bare]at hi,fun l _ k q hk=>by simp[Env.bare,eD]at hk⟩
 ·intro i j b m n hi; simp[Env.bare]at hi
 ·intro i b m hi; simp[Env.bare]at hi
 ·intro i o hi; simp[Env.bare]at hi
theorem VM{E:Env}(HE:aq E){H:List ah}(hH:E.H=ai H){id ad n w:Nat}{ks:List Kd}{rows:List (List G)}{c:Value}
  (hid:H[id]? = some (.vec ks ad rows)) (hw:ks.length=w) (u:n=rows.length) (d:rel E (.vec w id ad 0 n) c):rel (E.bare E.w) (.listF ks rows) c:=by
 subst hw u;have h:E.H[id]? = some (.vec ks.length ad (rows.map (aK ks))):=by rw[hH]; exact bf hid
 have ho:=HE.obj id _ h;rw[jC];simp only[rel]at d⊢;obtain⟨⟨base,cap,rfl,t,_⟩,_,v⟩:=d;obtain⟨I,y⟩:=v ⟨_,h,rfl⟩;have k:ff (rows.map (aK ks)):=by
  intro r d;obtain⟨g,_,rfl⟩:=di.1 d;exact fW ks g
 refine⟨k,base,cap,by simp,by simpa using t,?_⟩;simp only[aR]at ho;rcases ho with⟨h1,q⟩|⟨b,m,h1,q,z,_,B⟩
 ·exact .inl q
 ·obtain ⟨g1, o, g2, g3⟩ := y b m h1
  by_cases hm:rows=[]
  ·subst hm; exact .inl rfl
  ·right
   have:0<rows.length:=by cases rows with|nil=>exact(hm rfl).elim|cons _ _=>simp
   simp at z;have ho:=g2 (by omega);simp at ho;subst ho;simp only[j0]at g3;refine⟨b,0,g3.1,⟨(HE.lt id b m h1).1,yN b,(HE.lt id b m h1).2⟩,?_⟩;exact kY (yO E) _ k rfl B
theorem VN{E:Env}(HE:aq E){H:List ah}(hH:E.H=ai H){id k:Nat}{cells:List AV}{c:Value} (hid:H[id]? = some (.raw (.box cells))) (g:AV.bu cells=true)
  (h:rel E (.ptr id 0 k 0 0) c):rel (E.bare E.w) (.cptr cells) c:=by
 have d:E.H[id]? = some (.box cells):=by rw[hH]; exact bf hid
 have ho:=HE.obj id _ d;simp only[aR]at ho;obtain⟨b,n,h1,u,q⟩:=ho;simp only[rel]at h⊢;obtain⟨_,_,t⟩:=h;obtain⟨v,y,g1,g2⟩:=t ⟨_,d,rfl⟩;rw[h1]at g1;simp only[aX,a8]at g1;obtain⟨rfl,rfl⟩:=g1;refine⟨g,b,0,by rw[g2]; simp,⟨(HE.lt id b n h1).1,yN b,(HE.lt id b n h1).2⟩,?_⟩;exact q9 (yO E) cells g rfl q
theorem Lj{E:Env}(HE:aq E){H:List ah}(hH:E.H=ai H){a g:AV}{b:Bool}{c:Value}(h:u7 H a=(b,g))(hb:b=true)(d:g.closed=true)(q:rel E a c):rel (E.bare E.w) g c:=by
 unfold u7 at h;split at h
 ·split at h
  ·rename_i w id ad off n ks v rows hid
   split at h
   ·rename_i t
    obtain⟨rfl,u,rfl⟩:=t;simp only[a8]at h;obtain⟨h1,rfl⟩:=h;subst hb;exact VM HE hH hid u (br h1) q
   ·cases h; simp[AV.closed]at d
  ·cases h; simp[AV.closed]at d
 ·split at h
  ·rename_i id ad k row col _ cells hid
   split at h
   ·rename_i t
    obtain⟨rfl,rfl,rfl,y⟩:=t;cases h;exact VN HE hH hid y q
   ·cases h; simp[AV.closed]at d
  ·cases h; simp[AV.closed]at d
 ·cases h
  exact fg (yO E) _ d q
theorem Lk{E:Env}(HE:aq E){H:List ah}(hH:E.H=ai H):∀{as g:List AV} {b:Bool} {cs:List Value},pW H as=(b,g)→b=true→AV.bu g=true→ae E as cs →
  ae (E.bare E.w) g cs
 | [],g,b,cs,h,_,_,d=>by
  simp only[pW]at h;cases h;cases cs with
  |nil=>simp[ae]
  |cons _ _=>simp[ae]at d
 | a::as,g,b,cs,h,hb,k,d=>by
  cases cs with
  |nil=>simp[ae]at d
  | cons c cs =>
   simp only[ae]at d;cases q:u7 H a with
   |mk b1 v =>
   cases t:pW H as with
   |mk y u =>
   simp only[pW,q,t,a8]at h;obtain⟨h1,rfl⟩:=h;subst h1;simp only[ar]at hb;simp only[AV.bu,ar]at k;simp only[ae];exact⟨Lj HE hH q hb.1 k.1 d.1,Lk HE hH t hb.2 k.2 d.2⟩
theorem VO{E:Env}(HE:aq E){H:List ah}(hH:E.H=ai H){a d:AV}{b:Bool}{c:Value}(h:yI H a=(b,d))(hb:b=true)(k:d.closed=true)(g:rel E a c):rel (E.bare E.w) d c:=by
 unfold yI at h;split at h
 ·rename_i f caps
  cases q:pW H caps with
  |mk b1 u =>
  rw[q]at h;cases h;simp only[rel]at g⊢;obtain⟨cs,e,t⟩:=g;exact⟨cs,e,Lk HE hH q hb (by simpa only[AV.closed]using k) t⟩
 ·exact Lj HE hH h hb k g
theorem Ll{E:Env}(HE:aq E){H:List ah}(hH:E.H=ai H):∀{as g:List AV} {b:Bool} {cs:List Value},oe H as=(b,g)→b=true→AV.bu g=true→ae E as cs →
  ae (E.bare E.w) g cs
 | [],g,b,cs,h,_,_,d=>by
  simp only[oe]at h;cases h;cases cs with
  |nil=>simp[ae]
  |cons _ _=>simp[ae]at d
 | a::as,g,b,cs,h,hb,k,d=>by
  cases cs with
  |nil=>simp[ae]at d
  | cons c cs =>
   simp only[ae]at d;cases q:yI H a with
   |mk b1 v =>
   cases t:oe H as with
   |mk y u =>
   simp only[oe,q,t,a8]at h;obtain⟨h1,rfl⟩:=h;subst h1;simp only[ar]at hb;simp only[AV.bu,ar]at k;simp only[ae];exact⟨VO HE hH q hb.1 k.1 d.1,Ll HE hH t hb.2 k.2 d.2⟩
theorem VP{P:Program}{f:FuncId}{args d:List AV}{H:List ah}{b:Bool}{v:AV}(q:mR P f d v)(t:oe H args=(b,d))(hb:b=true)(k:AV.bu d=true)
  (u:yK v=true):cq P f args (ai H) v (ai H):=by
 intro E cargs hH HE h;refine(q [] (E.bare E.w) cargs rfl (VL HE) (Ll HE hH t hb k h)).mono ?_;rintro _ w' ⟨c,y,H',rfl,⟨rfl,rfl⟩,B,r',g1,g2,g3⟩;have g:Ext E.w w':=⟨g3.size,fun x z=>g3.same x z (yN x),g3.env⟩
 refine⟨c,y,ai H,rfl,⟨rfl,rfl⟩,E.loc,E.X.r,VK u g1,?_,?_⟩
 ·rw[←hH]; exact HE.ext g
 ·rw[←hH]; exact Env.gl g
section sound
variable {P:Program} {τ:au}
theorem DB{ops:Array Oper}{o:Oper}{s:al}{v:AV}(hw:bM ops s.fr o=some true)(d:cO τ.pf o.op=.pure)
  (h:iu P s.eval o.op=some v∨∃ f args,iw s.eval o.op=some (f,args)∧iv P f=true∧mR P f args v):Yields P τ.pf ops o s.den v (ai s.H):=by
 unfold Yields;rw[show s.den.fr=s.fr from rfl,hw];simp only[d,al.lR];exact⟨rfl,h⟩
theorem pZ{ops:Array Oper}{o:Oper}{s:al}{v:AV}{H':List ab}(hw:bM ops s.fr o=some true)(d:cO τ.pf o.op=.write)
  (h:cW P s.eval (ai s.H) o.op=some (v,H')∨∃ f args,iw s.eval o.op=some (f,args)∧iv P f=true∧cq P f args (ai s.H) v H'):Yields P τ.pf ops o s.den v H':=by
 unfold Yields;rw[show s.den.fr=s.fr from rfl,hw];simp only[d,al.lR];exact .inl h
/-! ### d g operation leaves alone -/
theorem gM{H:List ah}{id A:Nat}{o:ah}(h:A≠id):(H.set id o)[A]? = H[A]? := aV (Ne.symm h)
theorem jQ{H:List ah}{A:Nat}{o:ah}(h:A<H.length):(H++[o])[A]? = H[A]? := cQ h
theorem Lm{P:Program}{t:TypeId}{x v:AV}{H H':List ah}{b:Bool}{A:Nat}(h:rT P t x v H=some (b,H'))(g:fv x≠some A):H'[A]? = H[A]? := by
 unfold rT at h;split at h
 case h_2=>cases h
 rename_i n q cs id ad w row col u k;have d:A≠id:=fun e=>g (by rw[e]; rfl);split at h
 case isFalse=>cases h
 split at h
 ·split at h
  ·cases h; exact gM d
  ·cases h
 ·split at h
  ·split at h
   ·cases h; exact gM d
   ·cases h
  ·cases h
 ·cases h
theorem VQ{P:Program}{t xt:TypeId}{s x v:AV}{H H':List ah}{b:Bool}{A:Nat}(h:uM P t xt s x H=some (b,v,H'))(d:A<H.length)(g:fv s≠some A):H'[A]? = H[A]? := by
 unfold uM at h;split at h
 case h_2=>cases h
 split at h
 case h_2=>cases h
 split at h
 case isFalse=>cases h
 split at h
 ·split at h
  ·split at h
   ·cases h; exact jQ d
   ·cases h
  ·cases h
 ·split at h
  ·split at h
   ·cases h; exact jQ d
   ·cases h
  ·cases h
 ·split at h
  ·split at h
   ·split at h
    ·cases h; exact gM fun e=>g (by rw[e]; rfl)
    ·cases h
   ·cases h
  ·cases h
 ·cases h
theorem VR{P:Program}{t xt:TypeId}{s x v:AV}{H H':List ah}{b:Bool}{A:Nat}(h:uW P t xt s x H=some (b,v,H'))(d:A<H.length):H'[A]? = H[A]? := by
 unfold uW at h;split at h
 case h_2=>cases h
 split at h
 case h_2=>cases h
 split at h
 case h_2=>cases h
 split at h
 case h_2=>cases h
 split at h
 ·cases h; exact jQ d
 ·cases h
theorem VS{P:Program}{t:TypeId}{x:AV}{H H':List ah}{b:Bool}{A:Nat}(h:uV P t x H=some (b,H'))(d:fv x≠some A):H'[A]? = H[A]? := by
 unfold uV at h;split at h
 case h_2=>cases h
 split at h
 case h_2=>cases h
 split at h
 case h_2=>cases h
 split at h
 ·cases h; exact gM fun e=>d (by rw[e]; rfl)
 ·cases h
theorem Ln{P:Program}{t:TypeId}{m k v:AV}{H H':List ah}{b:Bool}{A:Nat}(h:rW P t m k v H=some (b,H'))(d:fv m≠some A):H'[A]? = H[A]? := by
 unfold rW at h;split at h
 case h_2=>cases h
 split at h
 case h_2=>cases h
 split at h
 case h_2=>cases h
 split at h
 ·cases h; exact gM fun e=>d (by rw[e]; rfl)
 ·cases h
theorem VT{P:Program}{t:TypeId}{m k v:AV}{H H':List ah}{b:Bool}{A:Nat}(h:uQ P t m k v H=some (b,H'))(d:fv m≠some A)(g:fv v≠some A):H'[A]? = H[A]? := by
 unfold uQ at h;split at h
 case h_2=>cases h
 split at h
 case h_2=>cases h
 split at h
 case h_2=>cases h
 split at h
 ·cases h
  rw[gM fun e=>g (by rw[e]; rfl)];exact gM fun e=>d (by rw[e]; rfl)
 ·cases h
theorem VU{P:Program}{t:TypeId}{m k v:AV}{H H':List ah}{b:Bool}{A:Nat}(h:uX P t m k v H=some (b,H'))(d:fv m≠some A):H'[A]? = H[A]? := by
 unfold uX at h;split at h
 case h_2=>cases h
 split at h
 case h_2=>cases h
 split at h
 case h_2=>cases h
 split at h
 ·cases h
  exact gM fun e=>d (by rw[e]; rfl)
 ·cases h
theorem VV{P:Program}{t:TypeId}{m k v:AV}{H H':List ah}{b:Bool}{A:Nat}(h:uY P t m k H=some (b,v,H'))(d:fv m≠some A):H'[A]? = H[A]? := by
 unfold uY at h;split at h
 case h_2=>cases h
 split at h
 case h_2=>cases h
 split at h
 case h_2=>cases h
 split at h
 ·cases h
  exact gM fun e=>d (by rw[e]; rfl)
 ·cases h
theorem VW{m s v:AV}{H H':List ah}{b:Bool}{A:Nat}(h:uZ m s v H=some (b,H'))(d:fv m≠some A)(g:fv v≠some A):H'[A]? = H[A]? := by
 unfold uZ at h;split at h
 case h_2=>cases h
 split at h
 case h_2=>cases h
 split at h
 ·cases h
  rw[gM fun e=>g (by rw[e]; rfl)];exact gM fun e=>d (by rw[e]; rfl)
 ·cases h
theorem VX{P:Program}{t:TypeId}{m k v:AV}{H H':List ah}{b:Bool}{A:Nat}(h:uP P t m k H=some (b,v,H'))(d:A<H.length)(g:fv m≠some A):H'[A]? = H[A]? := by
 unfold uP at h;split at h
 case h_2=>cases h
 split at h
 case h_2=>cases h
 split at h
 case h_2=>cases h
 split at h
 ·cases h
  rw[jQ (by simpa using d)];exact gM fun e=>g (by rw[e]; rfl)
 ·cases h
theorem VY{m s v:AV}{H H':List ah}{b:Bool}{A:Nat}(h:uS m s v H=some (b,H'))(d:fv m≠some A)(g:fv v≠some A):H'[A]? = H[A]? := by
 unfold uS at h;split at h
 case h_2=>cases h
 split at h
 case h_2=>cases h
 split at h
 ·cases h
  rw[gM fun e=>g (by rw[e]; rfl)];exact gM fun e=>d (by rw[e]; rfl)
 ·cases h
theorem VZ{P:Program}{t:TypeId}{m k v:AV}{H H':List ah}{b:Bool}{A:Nat}(h:uR P t m k H=some (b,v,H'))(d:A<H.length)(g:fv m≠some A):H'[A]? = H[A]? := by
 unfold uR at h;split at h
 case h_2=>cases h
 split at h
 case h_2=>cases h
 split at h
 case h_2=>cases h
 split at h
 ·cases h
  rw[jQ (by simpa using d)];exact gM fun e=>g (by rw[e]; rfl)
 ·cases h
theorem V3{P:Program}{t:TypeId}{m k:AV}{H H':List ah}{b:Bool}{A:Nat}(h:uU P t m k H=some (b,H'))(d:fv m≠some A):H'[A]? = H[A]? := by
 unfold uU at h;split at h
 case h_2=>cases h
 split at h
 case h_2=>cases h
 split at h
 ·cases h; exact gM fun e=>d (by rw[e]; rfl)
 ·cases h
theorem V4{P:Program}{t:TypeId}{l c v:AV}{H H':List ah}{b:Bool}{A:Nat}(h:uN P t l c H=some (b,v,H'))(d:A<H.length):H'[A]? = H[A]? := by
 unfold uN at h;split at h
 case h_2=>cases h
 split at h
 case h_2=>cases h
 split at h
 case h_2=>cases h
 split at h
 case h_2=>cases h
 split at h
 ·cases h; exact jQ d
 ·cases h
theorem V5{P:Program}{t:TypeId}{n:Nat}{parts:List (Nat × AV)}{v:AV}{H H':List ah}{b:Bool}{A:Nat}(h:uO P t n parts H=some (b,v,H'))(d:A<H.length):H'[A]? = H[A]? := by
 unfold uO at h;split at h
 case h_2=>cases h
 split at h
 case h_2=>cases h
 split at h
 case h_2=>cases h
 split at h
 case h_2=>cases h
 split at h
 case h_2=>cases h
 split at h
 ·cases h; exact jQ d
 ·cases h
theorem Lo{P:Program}{r:Operand→AV}{H H':List ah}{o:Op}{v:AV}{b:Bool}{A:Nat}(h:r9 P r H o=some (b,v,H'))(g:A<H.length)(J:A∉o.operands.toList.filterMap fun x=>fv (r x)):H'[A]? = H[A]? := by
 have no:∀ x∈o.operands.toList,fv (r x)≠some A:=fun x q e=>J (IA.2 ⟨x,q,e⟩);cases o<;>simp only[r9]at h<;>try cases h
 case alloc t =>
  split at h
  ·split at h
   ·cases h; exact jQ g
   ·cases h
  ·split at h
   ·cases h; exact jQ g
   ·cases h
 case box t x =>
  split at h
  ·cases h; exact jQ g
  ·cases h
 case store t a x =>
  split at h
  ·rename_i u H1 d
   cases h;exact Lm d (no a (by simp[fe]))
  ·cases h
 case makeSlice t l c=>exact V4 h g
 case buildSlice t n ps=>exact V5 h g
 case range t x =>
  split at h
  ·cases h; exact jQ g
  ·cases h
 case next it isString =>
  cases isString with
  |false=>cases h
  | true =>
   simp only[]at h;split at h
   ·rename_i id k q
    split at h
    ·split at h
     ·cases h; exact gM fun e=>no it (by simp[fe]) (by rw[q,e]; rfl)
     ·cases h; rfl
    ·cases h
   ·cases h
 case makeMap t res =>
  cases res with
  |some _=>cases h
  | none =>
   simp only[]at h;split at h
   ·split at h
    ·cases h; exact jQ g
    ·split at h
     ·cases h; exact jQ g
     ·cases h
    ·cases h
   ·cases h
 case mapUpdate t m k x =>
  split at h
  ·rename_i u H1 d
   cases h;exact Ln d (no m (by simp[fe]))
  ·split at h
   ·rename_i u H1 d
    cases h;exact VT d (no m (by simp[fe])) (no x (by simp[fe]))
   ·split at h
    ·rename_i u H1 d
     cases h;exact VU d (no m (by simp[fe]))
    ·cases h
 case lookup t m k ok =>
  cases ok with
  |true=>cases h
  |false=>exact VX h g (no m (by simp[fe]))
 case mapEntry t m k =>
  split at h
  ·rename_i y M
   cases h;exact VZ M g (no m (by simp[fe]))
  ·exact VV h (no m (by simp[fe]))
 case entryStore t m s x =>
  split at h
  ·rename_i u H1 d
   cases h;exact VY d (no m (by simp[fe])) (no x (by simp[fe]))
  ·split at h
   ·rename_i u H1 d
    cases h;exact VW d (no m (by simp[fe])) (no x (by simp[fe]))
   ·cases h
 case insert t m k x =>
  split at h
  ·rename_i u H1 d
   cases h;exact Ln d (no m (by simp[fe]))
  ·cases h
 case call c =>
  have na:∀ x∈c.args.toList,fv (r x)≠some A:=fun x q=>no x (by
   simp only[fe,Call.operands];simp at q⊢;exact .inr q)
  split at h
  ·split at h
   ·rename_i s x t xt z I
    have N:=na s (by rw[z]; simp);split at h
    ·exact VR h g
    ·exact VQ h g N
   ·cases h
  ·split at h
   ·rename_i x t z I
    have B:=na x (by rw[z]; simp);split at h
    ·rename_i d; cases h; exact VS d B
    ·cases h
   ·cases h
  ·split at h
   ·rename_i x k t _ z I
    have B:=na x (by rw[z]; simp);split at h
    ·rename_i d; cases h; exact V3 d B
    ·cases h
   ·cases h
  ·cases h
theorem V6{P:Program}{r:Operand→AV}{H H':List ah}{o:Op}{b:Bool}{A:Nat}(h:u_ P r H o=some (b,H'))(g:A∉o.operands.toList.filterMap fun x=>fv (r x)):H'[A]? = H[A]? := by
 have no:∀ x∈o.operands.toList,fv (r x)≠some A:=fun x k e=>g (IA.2 ⟨x,k,e⟩);unfold u_ at h;split at h
 case h_2=>cases h
 rename_i t a x;split at h
 case h_2=>cases h
 rename_i b0 v1 H1 d;split at h
 case h_2=>cases h
 rename_i b1 H2 q;simp only[aX,a8]at h;obtain⟨_,rfl⟩:=h;rw[Lm q (no a (by simp[fe]))];unfold Ds at d;split at d
 case h_2=>cases d
 rename_i w id ad off n u;split at d
 case h_2=>cases d
 split at d
 case isFalse=>cases d
 simp only[aX,a8]at d;obtain⟨_,_,rfl⟩:=d;refine gM fun e=>no x (by simp[fe]) ?_;rw[u,e];rfl
theorem yP(z:aw P τ){ops:Array Oper}{o:Oper}{s:al}{k:AV→List ah→Tree}{Q:bW→al→Prop}(hw:bM ops s.fr o=some true)
  (h:(og P τ o s k).holds Q):∃ v H',Yields P τ.pf ops o s.den v (ai H')∧(cO τ.pf o.op=.write→∀ A,A∉jP τ s.eval s.H o.op→A<s.H.length→H'[A]? = s.H[A]?)∧(k v H').holds Q:=by
 unfold og at h;split at h
 ·rename_i c a b ho
  split at h
  ·rename_i t hb
   have hb:=Lh hb;refine⟨bif t then s.eval a else s.eval b,s.H,DB hw (by rw[ho]; rfl) (.inl (by rw[ho]; simp only[iu,hb])),fun _ _ _ _=>rfl,?_⟩;simp only[Tree.holds]at h;cases t with
   |true=>exact h.1 rfl
   |false=>exact h.2 rfl
  ·exact h.elim
 ·rename_i t a ho
  split at h
  ·rename_i b v B
   simp only[Tree.holds]at h;refine⟨v,s.H,?_,fun _ _ _ _=>rfl,h.2⟩;unfold Yields;rw[show s.den.fr=s.fr from rfl,hw];simp only[ho,cO,al.lR];exact⟨rfl,by simp only[eV]; exact Vc B h.1⟩
  ·exact h.elim
 ·rename_i t m x ok ho
  have O:jP τ s.eval s.H o.op=o.op.operands.toList.filterMap fun x=>fv (s.eval x):=by
   have J:iw s.eval o.op=none:=by rw[ho]; rfl
   simp only[jP,J]
  split at h
  ·rename_i b v B
   split at h
   ·rename_i g
    simp only[Tree.holds]at h;refine⟨v,s.H,?_,fun _ _ _ _=>rfl,h.2⟩;unfold Yields;rw[show s.den.fr=s.fr from rfl,hw];simp only[g,al.lR];rw[ho];exact⟨rfl,by
     have e:=KW B;rw[show ai s.H=s.den.H from rfl]at e;simp only[eV,e]⟩
   ·rename_i g
    simp only[Tree.holds]at h;refine⟨v,s.H,pZ hw g (.inl ?_),fun _ _ _ _=>rfl,h.2⟩;rw[ho];simp only[cW,KW B]
   ·exact h.elim
  ·split at h
   ·rename_i g
    split at h
    ·rename_i b v H' d
     simp only[Tree.holds]at h;exact⟨v,H',pZ hw g (.inl (K_ d h.1)),fun _ A q u=>Lo d u (by rw[O]at q; exact q),h.2⟩
    ·exact h.elim
   ·rename_i g
    split at h
    ·rename_i b v B
     simp only[Tree.holds]at h;obtain⟨U,V⟩:=Vq B h.1;refine⟨v,s.H,?_,fun _ _ _ _=>rfl,h.2⟩;unfold Yields;rw[show s.den.fr=s.fr from rfl,hw];simp only[g,al.lR];rw[ho];exact⟨rfl,by simp only[eV]; rw[show fY P t (s.eval m) (s.eval x) ok s.den.H=none from U]; exact V⟩
    ·exact h.elim
   ·exact h.elim
 ·split at h
  ·rename_i g
   split at h
   ·rename_i v d
    refine⟨v,s.H,?_,fun _ _ _ _=>rfl,h⟩;unfold Yields;rw[show s.den.fr=s.fr from rfl,hw];simp only[g,al.lR];exact⟨rfl,VE d⟩
   ·exact h.elim
  ·rename_i g
   split at h
   ·rename_i f args y
    split at h
    ·rename_i b v d
     simp only[Tree.holds]at h;obtain⟨g1,g2⟩:=z.T f args b v d h.1;exact⟨v,s.H,DB hw g (.inr ⟨f,args,y,g1,g2⟩),fun _ _ _ _=>rfl,h.2⟩
    ·exact h.elim
   ·split at h
    ·rename_i b v d
     simp only[Tree.holds]at h;exact⟨v,s.H,DB hw g (.inl (VD d h.1)),fun _ _ _ _=>rfl,h.2⟩
    ·exact h.elim
  ·rename_i g
   split at h
   ·rename_i f args y
    split at h
    ·rename_i b v H' d
     simp only[Tree.holds]at h;obtain⟨g1,g2⟩:=z.W f args s.H b v H' d h.1;exact⟨v,H',pZ hw g (.inr ⟨f,args,y,g1,g2⟩),fun _ A q u=>z.C f args s.H b v H' d A (by simpa only[jP,y]using q) u,h.2⟩
    ·split at h
     ·rename_i t hi
      obtain⟨g1,v,H',g2,g3,g4⟩:=z.I f args s.H t hi _ (Tree.yG h);exact⟨v,H',pZ hw g (.inr ⟨f,args,y,g1,g2⟩),fun _ A q u=>g3 A (by simpa only[jP,y]using q) u,g4⟩
     ·split at h
      ·rename_i b v d
       simp only[Tree.holds]at h;obtain⟨g1,g2⟩:=z.T f args b v d h.1;exact⟨v,s.H,pZ hw g (.inr ⟨f,args,y,g1,g2 _⟩),fun _ _ _ _=>rfl,h.2⟩
      ·cases N : oe s.H args with
       |mk vb R =>
       rw[N]at h;simp only[]at h;split at h
       ·rename_i b v d
        split at h
        ·rename_i M
         simp only[ar]at M;simp only[Tree.holds,ar]at h;obtain⟨g1,g2⟩:=z.T f R b v d h.1.2;exact⟨v,s.H,pZ hw g (.inr ⟨f,args,y,g1,VP g2 N h.1.1 M.2 M.1⟩),fun _ _ _ _=>rfl,h.2⟩
        ·exact h.elim
       ·exact h.elim
   ·rename_i J
    split at h
    ·rename_i b v H' d
     simp only[Tree.holds]at h;exact⟨v,H',pZ hw g (.inl (K_ d h.1)),fun _ A q u=>Lo d u (by simpa only[jP,J]using q),h.2⟩
    ·split at h
     ·rename_i b H' d
      simp only[Tree.holds]at h;refine⟨.undef,H',?_,fun _ A q u=>V6 d (by simpa only[jP,J]using q),h.2⟩;unfold Yields;rw[show s.den.fr=s.fr from rfl,hw];simp only[g,al.lR];exact .inr (.inr (VF d h.1))
     ·exact h.elim
theorem Lp{ops:Array Oper}{s:al}{o:Oper}{t:Tmp}{b want:Bool}(h:od ops s.fr o=.test t b want) :
  s.fr[t]? = some (.lit (.bool b))∧bM ops s.fr o=some (b==want):=by
 unfold od at h;unfold bM;cases d:o.guard with
 |none=>rw[d]at h; cases h
 | some g =>
  obtain⟨j,w⟩:=g;rw[d]at h;simp only[]at h⊢;split at h
  ·rename_i t' k
   split at h
   ·rename_i q hb
    cases h;exact⟨hb,by rw[k]; simp only[hb]⟩
   ·cases h
   ·cases h
  ·cases h
theorem DC{ops:Array Oper}{s:al}{o:Oper}(h:od ops s.fr o=.no):bM ops s.fr o=some false:=by
 unfold od at h;unfold bM;cases d:o.guard with
 |none=>rw[d]at h; cases h
 | some g =>
  obtain⟨j,w⟩:=g;rw[d]at h;simp only[]at h⊢;split at h
  ·rename_i t' k
   split at h
   ·cases h
   ·rename_i hb
    rw[k];simp only[hb]
   ·cases h
  ·cases h
theorem Lq{ops:Array Oper}{s:al}{o:Oper}(h:od ops s.fr o=.yes):bM ops s.fr o=some true:=by
 unfold od at h;unfold bM;cases d:o.guard with
 |none=>rfl
 | some g =>
  obtain⟨j,w⟩:=g;rw[d]at h;simp only[]at h;split at h
  ·split at h<;>cases h
  ·cases h
theorem yQ{s:al}{t:Tmp}{b:Bool} (h:s.fr[t]? = some (.lit (.bool b))):s.slot t b=s:=by
 unfold al.slot;rw[lO h]
theorem V7(q:aw P τ){ops:Array Oper}{o:Oper}{s:al}{k:al→Tree}{Q:bW→al→Prop}(h:(Dt P τ ops o s k).holds Q) :
  ∃ v H',Yields P τ.pf ops o s.den v (ai H')∧(k (s.put o.dst v H')).holds Q:=by
 have skip:bM ops s.fr o=some false→Yields P τ.pf ops o s.den (.tuple []) (ai s.H):=by
  intro hw;unfold Yields;rw[show s.den.fr=s.fr from rfl,hw];exact⟨rfl,rfl⟩
 unfold Dt at h;split at h
 ·exact h.elim
 ·rename_i hw
  exact⟨_,_,skip (DC hw),h⟩
 ·rename_i hw
  obtain⟨v,H',g1,_,g2⟩:=yP q (Lq hw) h;exact⟨v,H',g1,g2⟩
 ·rename_i t b want hw
  obtain⟨h1,g⟩:=Lp hw;simp only[Tree.holds]at h;cases b with
  | true =>
   have d:=h.1 rfl;rw[yQ h1]at d;cases want with
   | true =>
    obtain⟨v,H',g1,_,g2⟩:=yP q g d;exact⟨v,H',g1,g2⟩
   |false=>exact⟨_,_,skip g,d⟩
  | false =>
   have d:=h.2 rfl;rw[yQ h1]at d;cases want with
   |true=>exact⟨_,_,skip g,d⟩
   | false =>
    obtain⟨v,H',g1,_,g2⟩:=yP q g d;exact⟨v,H',g1,g2⟩
theorem yR(d:aw P τ){ops:Array Oper}{Q:bW→al→Prop}:∀{l:List Oper} {s:al} {k:al→Tree},(oh P τ ops l s k).holds Q→∃ s',jh P τ.pf ops l s.den s'.den∧(k s').holds Q
 | [],s,k,h=>⟨s,rfl,h⟩
 | o::l,s,k,h=>by
  obtain⟨v,H',h1,g⟩:=V7 d h;obtain⟨s',q,t⟩:=yR d g;exact⟨s',⟨v,ai H',h1,q⟩,t⟩
def Acc.le(a b:Acc):Prop:=(∀ x∈a.R,x∈b.R)∧∀ x∈a.W,x∈b.W
def Acc.ok(ops:Array Oper)(j:Nat)(a:Acc):Prop:=(∀ x∈a.R,x.1<j)∧(∀ x∈a.W,x.1<j)∧rR ops a.R a.W
theorem DD{ids:List Nat}{i:Nat}(h:va ids i=true):i∉ids:=by
 intro hm;have:ids.any (af i)=true:=List.any_eq_true.2 ⟨i,hm,by simp⟩;simp[va,this]at h
theorem V8{ops:Array Oper}{j id:Nat}{a b:Acc}(ha:a.ok ops j)(h:Du ops j id a=some b):b.ok ops (j+1)∧a.le b∧(j,id)∈b.R:=by
 unfold Du at h;split at h
 ·rename_i g
  cases h;simp only[bO,BS,ar,dM]at g;obtain⟨h1,k,q⟩:=ha;refine⟨⟨fun x d=>?_,fun x d=>xG (k x d),fun i t hi e he=>?_,q.2⟩,⟨fun x d=>cI _ d,fun x d=>d⟩,cH⟩
  ·rcases bS.1 d with rfl | d
   ·exact ahT _
   ·exact xG (h1 x d)
  ·rcases bS.1 hi with v | hi
   ·cases v
    have y:=k e he;refine⟨fun u=>absurd u (by omega),fun _ hw=>?_⟩;rcases g e he with h|h
    ·rw[hw]at h; cases h
    ·exact⟨DD h.1,h.2⟩
   ·exact q.1 i t hi e he
 ·cases h
theorem Lr{ops:Array Oper}{j n:Nat}{T:List Nat}{a b:Acc}(ha:a.ok ops j)(h:yL ops j T n a=some b):b.ok ops (j+1)∧a.le b∧(j,T,n)∈b.W:=by
 unfold yL at h;split at h
 ·rename_i I
  split at h
  case h_2=>cases h
  rename_i v;cases h;simp only[bO,BS,ar,dM]at I v;obtain⟨h1,z,B⟩:=ha;refine⟨⟨fun x k=>xG (h1 x k),fun x k=>?_,fun i y hi e he=>?_,fun e he e' d g q id hid=>?_,fun e he e' d g q id hid=>?_⟩,⟨fun x k=>k,fun x k=>cI _ k⟩,cH⟩
  ·rcases bS.1 k with rfl | k
   ·exact ahT _
   ·exact xG (z x k)
  ·rcases bS.1 he with u | he
   ·subst u
    have g:=h1 (i,y) hi;refine⟨fun _ hw=>?_,fun J=>absurd J (by simp only at J g; omega)⟩;rcases I (i,y) hi with h|h
    ·simp only at hw h; rw[hw]at h; cases h
    ·exact⟨DD h.1,h.2⟩
   ·exact B.1 i y hi e he
  ·rcases bS.1 d with u | d
   ·subst u
    rcases bS.1 he with t|he
    ·subst t
     exact absurd g (ub _)
    ·rcases v e he with h | h
     ·simp only at q h
      rw[q]at h;cases h
     ·have M := h.1 id hid
      exact⟨DD M.1,M.2⟩
   ·rcases bS.1 he with t | he
    ·subst t
     have N:=z e' d;exact absurd g (by simp only; omega)
    ·exact B.2.1 e he e' d g q id hid
  ·rcases bS.1 d with u | d
   ·subst u
    rcases bS.1 he with t|he
    ·subst t
     exact absurd g (ub _)
    ·rcases v e he with h | h
     ·simp only at q h
      rw[q]at h;cases h
     ·exact h.2 id hid
   ·rcases bS.1 he with t | he
    ·subst t
     have N:=z e' d;exact absurd g (by simp only; omega)
    ·exact B.2.2 e he e' d g q id hid
 ·cases h
theorem Acc.vf{ops:Array Oper}{j:Nat}{a:Acc}(h:a.ok ops j):a.ok ops (j+1):=⟨fun x d=>xG (h.1 x d),fun x d=>xG (h.2.1 x d),h.2.2⟩
theorem Acc.le_refl(a:Acc):a.le a:=⟨fun _ h=>h,fun _ h=>h⟩
theorem Acc.le_trans{a b c:Acc}(h:a.le b)(h':b.le c):a.le c:=⟨fun x d=>h'.1 x (h.1 x d),fun x d=>h'.2 x (h.2 x d)⟩
def Acc.only(j:Nat)(a b:Acc):Prop:=∀ x∈b.W,x.1<j→x∈a.W
theorem V9{ops:Array Oper}{j:Nat}{o:Oper}{s:al}{a b:Acc}(ha:a.ok ops j)(h:Dv τ ops j o s a=some b) :
  b.ok ops (j+1)∧a.le b∧(cO τ.pf o.op=.read→∀ id,lb s.eval o.op=some id→(j,id)∈b.R)∧(cO τ.pf o.op=.write→(j,jP τ s.eval s.H o.op,s.H.length)∈b.W):=by
 unfold Dv at h;split at h
 ·rename_i d
  cases h;exact⟨Acc.vf ha,a.le_refl,(fun h=>by rw[d]at h; cases h),(fun h=>by rw[d]at h; cases h)⟩
 ·rename_i d
  split at h
  ·rename_i id hid
   obtain⟨g1,g2,g3⟩:=V8 ha h;refine⟨g1,g2,fun _ k g=>?_,(fun h=>by rw[d]at h; cases h)⟩;rw[hid]at g;cases g;exact g3
  ·rename_i hid
   cases h;refine⟨Acc.vf ha,a.le_refl,fun _ k g=>?_,(fun h=>by rw[d]at h; cases h)⟩;rw[hid]at g;cases g
 ·rename_i d
  obtain⟨g1,g2,g3⟩:=Lr ha h;exact⟨g1,g2,(fun h=>by rw[d]at h; cases h),fun _=>g3⟩
theorem Ls{ops:Array Oper}{j:Nat}{o:Oper}{s:al}{v:AV}{H':List ah}{b c:Acc}(k:b.le c)(t:cO τ.pf o.op=.read→∀ id,lb s.eval o.op=some id→(j,id)∈b.R)
  (hw:cO τ.pf o.op=.write→(j,jP τ s.eval s.H o.op,s.H.length)∈b.W) (hk:cO τ.pf o.op=.write→∀ A,A∉jP τ s.eval s.H o.op→A<s.H.length→H'[A]? = s.H[A]?)
  (q:kh o.op=true→nZ ops=true→cO τ.pf o.op=.write→bM ops s.den.fr o=some true→∀ σ,yz c.W j s.den.H σ→Yields P τ.pf ops o ⟨s.den.fr,mV σ s.den.H⟩ v (mV σ (ai H'))) :
  (g:(mT ops&&d_ o.op)=false)→Step P τ.pf ops c.R c.W j o s.den v (ai H'):=by
 intro g;refine⟨fun d A u=>?_,fun d _ id hid=>k.1 _ (t d id (by rw[←al.lR]; exact hid)),fun h1 h _=>(by rw[h1,h]at g; cases g),q⟩;have:=u _ (k.2 _ (hw d)) rfl;have h:=hk d A this.1 this.2;show (ai H')[A]? = (ai s.H)[A]?
 simp only[ai,bR,h]
theorem step_skip{ops:Array Oper}{j:Nat}{o:Oper}{s:al}{c:Acc}(hw:bM ops s.fr o=some false):Step P τ.pf ops c.R c.W j o s.den (.tuple []) (ai s.H) :=
 ⟨fun _ _ _=>rfl,fun _ h=>(by rw[show s.den.fr=s.fr from rfl,hw]at h; cases h),fun _ _ _=>⟨rfl,fun _ h=>(h rfl).elim⟩,fun _ _ _ h=>(by rw[show s.den.fr=s.fr from rfl,hw]at h; cases h)⟩
theorem Lt(g:aw P τ){f:FuncId}{args:List AV}{v:AV}(k:τ.N f=true):∀(σ:List (Nat × ab)) (H H':List ah),τ.W f args H=some (true,v,H')→(∀ p∈σ,p.1<H.length∧p.1∉τ.C f args H) →
  ∃ H2 d,ai H2=mV σ (ai H)∧ai d=mV σ (ai H')∧τ.W f args H2=some (true,v,d)
 | [],H,H',h,_=>⟨H,H',rfl,rfl,h⟩
 | p::σ,H,H',h,t=>by
  obtain⟨u,a2⟩:=t p cH;obtain⟨h1,y⟩:=g.F.2 f k args H true v H' h p.1 (.raw p.2) u a2;obtain⟨H2,d,z,B,I⟩:=Lt g k σ _ _ h1 fun q J=>by
   obtain⟨b1,M⟩:=t q (cI _ J);rw[y];exact⟨by simpa using b1,M⟩
  refine⟨H2,d,?_,?_,I⟩
  ·rw [z, dj]
   rfl
  ·rw [B, dj]
   rfl
theorem V_{o:Oper}{s:al}{k:AV→List ah→Tree}{f:FuncId}{args:List AV}{b:Bool}{v:AV}{H':List ah}(d:kh o.op=true)(h:cO τ.pf o.op=.write)(g:iw s.eval o.op=some (f,args))(t:τ.W f args s.H=some (b,v,H')) :
  og P τ o s k=.side b (k v H'):=by
 unfold kh at d;split at d
 ·rename_i c q
  unfold og;rw[q]at h g⊢;simp only[h,g,t]
 ·cases d
theorem Lu{z:List Value}:∀{H:List ah} {i j:Nat} {ks:List Kd} {g:List G},pX z H i=some (j,ks,g)→i≤j∧H[j-i]? = some (.vec ks 0 [])∧sb ks z=some g
 | [],_,_,_,_,h=>by cases h
 | o::H,i,j,ks,g,h=>by
  have next:pX z H (i+1)=some (j,ks,g)→i≤j∧(o::H)[j-i]? = some (.vec ks 0 [])∧sb ks z=some g:=by
   intro h;obtain⟨h1,d,k⟩:=Lu h;refine⟨by omega,?_,k⟩;rw[show j-i=(j-(i+1))+1 from by omega];simpa using d
  unfold pX at h;split at h
  ·cases ‹_=_›
  ·rename_i t rows' H' u e
   cases e;split at h
   ·rename_i v q
    split at h
    ·cases h
     exact⟨aH _,by simp,q⟩
    ·exact next h
   ·exact next h
  ·rename_i e
   cases e;exact next h
theorem Lv:∀{H:List ah} {i j:Nat},vc H i=some j→i≤j∧H[j-i]? = some (.raw .dX)
 | [],_,_,h=>by cases h
 | o::H,i,j,h=>by
  have next:vc H (i+1)=some j→i≤j∧(o::H)[j-i]? = some (.raw .dX):=by
   intro h;obtain⟨h1,d⟩:=Lv h;refine⟨by omega,?_⟩;rw[show j-i=(j-(i+1))+1 from by omega];simpa using d
  unfold vc at h;split at h
  ·cases ‹_=_›
  ·rename_i e
   cases e;cases h;exact⟨aH _,by simp⟩
  ·rename_i e
   cases e;exact next h
theorem Wa{op:Op}{H H':List ah}{id:Nat}{v:AV}(h:Dw P op H=some (id,v,H')) :
  ((∃ t m,op=.alloc t∧nU P t id m (ai H)=some (v,ai H'))∨∃ t,op=.makeMap t none∧pK id (ai H)=some (v,ai H'))∧H'.length=H.length∧∀ A,A≠id→H'[A]? = H[A]? := by
 unfold Dw at h;split at h
 ·rename_i t
  split at h
  ·rename_i z y
   split at h
   ·rename_i i ks g q
    cases h;obtain⟨_,d,B⟩:=Lu q;rw[gC]at d;have e:=Lb B;refine⟨.inl ⟨t,mZ ks,rfl,?_⟩,by simp,fun A u=>aV (Ne.symm u)⟩;have hk:ks.length=z.length:=by
     have:=congrArg SE e;simpa[qX,yd]using this
    rw[Kp (mZ ks) y (k:=ks.length) (by rw[bf d]; rfl) hk,dj,←e];rfl
   ·cases h
  ·cases h
 ·rename_i t
  split at h
  ·rename_i K V _
   split at h
   ·rename_i i q
    cases h;obtain⟨_,d⟩:=Lv q;rw[gC]at d;refine⟨.inr ⟨t,rfl,?_⟩,by simp,fun A u=>aV (Ne.symm u)⟩;rw[JU (by rw[bf d]; rfl),dj];rfl
   ·cases h
  ·cases h
 ·cases h
theorem DE(y:aw P τ){ops:Array Oper}{j:Nat}{o:Oper}{s:al}{a:Acc}{k:al→Acc→Tree}{Q:bW→al→Prop}(hw:bM ops s.fr o=some true)(ha:a.ok ops j)(h:(vd P τ ops j o s a k).holds Q) :
  ∃ v H' b,Yields P τ.pf ops o s.den v (ai H')∧b.ok ops (j+1)∧a.le b∧(∀ c,b.le c→Step P τ.pf ops c.R c.W j o s.den v (ai H'))∧(k (s.put o.dst v H') b).holds Q:=by
 unfold vd at h;split at h
 ·rename_i g
  simp only[ar]at g;split at h
  ·rename_i id v H' hal
   split at h
   ·rename_i b hb
    obtain⟨hnew,hlen,hkeep⟩:=Wa hal;obtain⟨g1,g2,g3⟩:=Lr ha hb;refine⟨v,H',b,?_,g1,g2,fun c q=>⟨fun _ A N=>?_,fun hr=>(by rw[mU g.2]at hr; cases hr),fun _ _ _=>⟨?_,fun z hne=>?_⟩,fun hcv=>(by rw[lQ g.2]at hcv; cases hcv)⟩,h⟩
    ·unfold Yields
     rw[show s.den.fr=s.fr from rfl,hw];simp only[mU g.2];rcases hnew with⟨t,m,M,O⟩|⟨t,M,O⟩
     ·exact .inr (.inl (.inl ⟨t,id,m,M,O⟩))
     ·exact .inr (.inl (.inr ⟨t,id,M,O⟩))
    ·have := (N _ (q.2 _ g3) rfl).1
     show (ai H')[A]? = (ai s.H)[A]?
     simp only[ai,bR,hkeep A (by simpa using this)]
    ·show (ai H').length = (ai s.H).length
     simp only[eH,hlen]
    ·refine ⟨_, q.2 _ g3, rfl, ?_⟩
     have e:z=id:=xE fun e=>hne (by
      show (ai H')[z]? = (ai s.H)[z]?
      simp only[ai,bR,hkeep z e])
     rw[e];exact List.mem_singleton.2 rfl
   ·exact h.elim
  ·exact h.elim
 ·rename_i g
  split at h
  ·exact h.elim
  rename_i hfc;split at h
  ·rename_i b hb
   obtain⟨g1,g2,g3,g4⟩:=V9 ha hb;by_cases u:(nZ ops&&kh o.op)=true∧cO τ.pf o.op=.write
   ·obtain ⟨u, B⟩ := u
    have hca2:=u;simp only[ar]at hca2;have d:Dx τ o s=true:=by
     rw[u]at hfc;simpa using hfc
    unfold Dx at d;rw[B]at d;simp only[]at d;split at d
    case h_2=>cases d
    rename_i f args J;split at d
    case h_2=>cases d
    rename_i hN;obtain⟨⟨b0,v,H'⟩,I⟩:=Option.isSome_iff_exists.1 d;rw[V_ hca2.2 B J I]at h;simp only[Tree.holds]at h;obtain⟨rfl,h⟩:=h;obtain⟨hbody,hcall⟩:=y.W f args s.H true v H' I rfl;have htch:jP τ s.eval s.H o.op=τ.C f args s.H:=by
     unfold jP;rw[J]
    have hcal':∀ H2,iw (St.eval ⟨s.den.fr,H2⟩) o.op=some (f,args):=fun H2=>by
     have e:St.eval ⟨s.den.fr,H2⟩=s.eval:=by funext x; cases x<;>rfl
     rw[e];exact J
    have yl:∀ H2 U:List ab,cq P f args H2 v U→Yields P τ.pf ops o ⟨s.den.fr,H2⟩ v U:=fun H2 U hx=>by
     unfold Yields;rw[show (St.mk s.den.fr H2).fr=s.fr from rfl,hw];simp only[B];exact .inl (.inr ⟨f,args,hcal' H2,hbody,hx⟩)
    refine⟨v,H',b,yl _ _ hcall,g1,g2,fun c q=>Ls q g3 g4 (fun _ A N hlt=>?_) (fun _ _ _ _ σ hσ=>?_) (by simpa using g),h⟩
    ·exact y.C f args s.H true v H' I A (by rw[←htch]; exact N) hlt
    ·obtain ⟨H2,H2',V,q2,q3⟩:=Lt y hN σ s.H H' I (fun p hp=>by
      obtain⟨hk,_⟩:=hσ p hp;obtain⟨k1,k2⟩:=hk _ (q.2 _ (g4 B)) rfl;rw[htch]at k1;exact⟨k2,k1⟩)
     rw[←q2,show mV σ s.den.H=ai H2 from V.symm];exact yl _ _ (y.W f args H2 true v H2' q3 rfl).2
   ·obtain ⟨v, H', V, q2, q3⟩ := yP y hw h
    exact⟨v,H',b,V,g1,g2,fun c q=>Ls q g3 g4 q2 (fun h1 h2 h3=>absurd ⟨by rw[h1,h2]; rfl,h3⟩ u) (by simpa using g),q3⟩
  ·exact h.elim
theorem Wb(q:aw P τ){ops:Array Oper}{j:Nat}{o:Oper}{s:al}{a:Acc}{k:al→Acc→Tree}{Q:bW→al→Prop}(ha:a.ok ops j)(h:(Dy P τ ops j o s a k).holds Q) :
  ∃ v H' b,Yields P τ.pf ops o s.den v (ai H')∧b.ok ops (j+1)∧a.le b∧(∀ c,b.le c→Step P τ.pf ops c.R c.W j o s.den v (ai H'))∧(k (s.put o.dst v H') b).holds Q:=by
 have skip:bM ops s.fr o=some false→Yields P τ.pf ops o s.den (.tuple []) (ai s.H):=by
  intro hw;unfold Yields;rw[show s.den.fr=s.fr from rfl,hw];exact⟨rfl,rfl⟩
 unfold Dy at h;split at h
 ·exact h.elim
 ·rename_i hw
  exact⟨_,_,a,skip (DC hw),Acc.vf ha,a.le_refl,fun _ _=>step_skip (DC hw),h⟩
 ·rename_i hw
  exact DE q (Lq hw) ha h
 ·rename_i t b want hw
  obtain⟨h1,g⟩:=Lp hw;simp only[Tree.holds]at h;cases b with
  | true =>
   have d:=h.1 rfl;rw[yQ h1]at d;cases want with
   |true=>exact DE q g ha d
   |false=>exact⟨_,_,a,skip g,Acc.vf ha,a.le_refl,fun _ _=>step_skip g,d⟩
  | false =>
   have d:=h.2 rfl;rw[yQ h1]at d;cases want with
   |true=>exact⟨_,_,a,skip g,Acc.vf ha,a.le_refl,fun _ _=>step_skip g,d⟩
   |false=>exact DE q g ha d
theorem Lw(d:aw P τ){ops:Array Oper}{Q:bW→al→Prop}:∀{l:List Oper} {j:Nat} {s:al} {a:Acc} {k:al→Tree},a.ok ops j→(Dz P τ ops l j s a k).holds Q →
  ∃ s' b,rR ops b.R b.W∧a.le b∧rP P τ.pf ops b.R b.W l j s.den s'.den∧(k s').holds Q
 | [],j,s,a,k,ha,h=>⟨s,a,ha.2.2,a.le_refl,rfl,h⟩
 | o::l,j,s,a,k,ha,h=>by
  obtain⟨v,H',b,g1,g2,g3,g4,g5⟩:=Wb d ha h;obtain⟨s',c,q,g,t,u⟩:=Lw d g2 g5;exact⟨s',c,q,Acc.le_trans g3 g,⟨v,ai H',g1,g4 c g,t⟩,u⟩
theorem Wc{m id:Nat}{ops:Array Oper}{s s':al}{b:Acc}(hm:P.follows .mixedOrders=true)(d:rQ τ.pf ops=true)(g:rR ops b.R b.W)(h:rP P τ.pf ops b.R b.W ops.toList 0 s.den s'.den) :
  dA P m (.region id ops true) s.den .normal s'.den:=fun ro _ _ _ k=>Va hm d g k h (fun _ _ q=>⟨rfl,q.toM⟩) ro
theorem vg{K:bW→al→Tree}{Q:bW→al→Prop}:∀{t:Tree},(t.bind K).holds Q→t.holds fun x s=>(K x s).holds Q
 |.fail,h=>h
 |.done _ _,h=>h
 |.ask _ _ _,h=>⟨fun hb=>vg (h.1 hb),fun hb=>vg (h.2 hb)⟩
 |.side _ _,h=>⟨h.1,vg h.2⟩
theorem Lx{m:Nat}{c:Code}{Q:bW→al→Prop}{body:al→(bW→al→Tree)→Tree}
  (hb:∀ s K,(body s K).holds Q→∃ x s',dA P m c s.den x s'.den∧(K x s').holds Q):∀(n:Nat) (s:al) (K:bW→al→Tree),(yM body n s K).holds Q →
  ∃ x s',kf P m c s.den x s'.den∧(K x s').holds Q
 |0,_,_,h=>h.elim
 | n+1,s,K,h=>by
  simp only[yM]at h;obtain⟨x,s1,h1,d⟩:=hb _ _ h;cases x with
  | normal =>
   obtain⟨y,s2,g,k⟩:=Lx hb n s1 K d;exact⟨y,s2,.next h1 g,k⟩
  |exit i=>exact⟨_,s1,.stop h1 (by simp),d⟩
  |ret=>exact⟨_,s1,.stop h1 (by simp),d⟩
theorem lk(hm:P.follows .mixedOrders=true)(q:aw P τ){m:Nat}{L:LT}{Q:bW→al→Prop}:∀(c:Code) (s:al) (K:bW→al→Tree),
  aJ P m L c→(fL P τ L c s K).holds Q→∃ x s',dA P m c s.den x s'.den∧(K x s').holds Q
 |.skip,s,K,_,h=>⟨_,_,UI,h⟩
 | .region id ops draw,s,K,k,h=>by
  simp only[fL]at h;split at h
  ·rename_i z
   split at h
   ·rename_i R
    simp only[Tree.holds]at h;have O:draw=true:=by
     cases draw with
     |true=>rfl
     |false=>simp at z
    subst O;obtain⟨s',b,h1,_,d,u⟩:=Lw q (a:=⟨[],[]⟩) ⟨by simp,by simp,⟨fun i id hi=>(nomatch hi),fun e he=>(nomatch he),fun e he=>(nomatch he)⟩⟩ h.2;exact⟨_,_,rK (k.2.1 id s h.1) (Wc hm R h1 d),u⟩
   ·exact h.elim
  ·rename_i N
   simp only[Tree.holds]at h;obtain⟨s',h1,d⟩:=yR q h.2;refine⟨_,_,rK (k.2.1 id s h.1) (UL hm (fun z=>?_) h1),d⟩;rw[z]at N;simpa using N
 | .seq a b,s,K,k,h=>by
  simp only[fL]at h;have B:aJ P m L a:=k.sub (fun p g=>by simp only[bE]; exact cG.2 (.inl g)) (fun p g=>by simp only[bG]; exact cG.2 (.inl g));have I:aJ P m L b:=k.sub (fun p g=>by simp only[bE]; exact cG.2 (.inr g)) (fun p g=>by simp only[bG]; exact cG.2 (.inr (cG.2 (.inr g))));obtain⟨x,s1,h1,d⟩:=lk hm q a s _ B h;cases x with
  | normal =>
   simp only[Lc]at d;split at d
   ·rename_i t v
    unfold Lf at v;split at v
    ·rename_i i hi
     obtain⟨y,s2,u,M⟩:=k.2.2 i b (by simp only[bG,hi]; exact cG.2 (.inr (cG.2 (.inl (cH))))) s1 t v _ (vg d);exact⟨y,s2,Kw h1 u,M⟩
    ·cases v
   ·obtain ⟨y, s2, u, M⟩ := lk hm q b s1 K I d
    exact⟨y,s2,Kw h1 u,M⟩
  |exit id=>exact⟨_,_,Kx h1 (by simp),d⟩
  |ret=>exact⟨_,_,Kx h1 (by simp),d⟩
 | .cond c a b,s,K,k,h=>by
  simp only[fL]at h;have B:aJ P m L a:=k.sub (fun p g=>by simp only[bE]; exact cG.2 (.inl g)) (fun p g=>by simp only[bG]; exact cG.2 (.inl g));have I:aJ P m L b:=k.sub (fun p g=>by simp only[bE]; exact cG.2 (.inr g)) (fun p g=>by simp only[bG]; exact cG.2 (.inr g));split at h
  ·rename_i t hb
   have J:=Lh hb;rw[←al.lR]at J;simp only[Tree.holds]at h;cases t with
   | true =>
    obtain⟨x,s1,h1,d⟩:=lk hm q a s K B (h.1 rfl);exact⟨x,s1,Ky J (by simpa using h1),d⟩
   | false =>
    obtain⟨x,s1,h1,d⟩:=lk hm q b s K I (h.2 rfl);exact⟨x,s1,Ky J (by simpa using h1),d⟩
  ·exact h.elim
 | .block id c,s,K,k,h=>by
  simp only[fL]at h;obtain⟨x,s1,h1,d⟩:=lk hm q c s _ (k.sub (fun p g=>by simpa only[bE]using g) (fun p g=>by simpa only[bG]using g)) h;refine⟨_,s1,UM h1,?_⟩;cases x with
  |normal=>exact d
  | exit i =>
   simp only[Ld]at d;simp only[bW.inBlock];split
   ·rename_i e; rw[if_pos e]at d; exact d
   ·rename_i e; rw[if_neg e]at d; exact d
  |ret=>exact d
 | .loop c,s,K,k,h=>by
  simp only[fL]at h;split at h
  ·rename_i i hi
   split at h
   ·rename_i t U
    obtain⟨x,s',h1,d⟩:=k.1 i c (by simp only[bE,hi]; exact cH) s t U _ (vg h);exact⟨x,s',Kz h1,d⟩
   ·obtain ⟨x, s', h1, d⟩ := Lx (fun s1 V W => lk hm q c s1 V (k.sub (fun p g => by simp only [bE, hi]; exact cI _ g) (fun p g => by simpa only [bG] using g)) W) 400 s K h
    exact⟨x,s',Kz h1,d⟩
  ·exact h.elim
 |.exit id,s,K,_,h=>⟨_,_,UK,h⟩
 |.ret,s,K,_,h=>⟨_,_,UJ,h⟩
 |.rangeFunc ..,_,_,_,h=>by simp[fL,Tree.holds]at h
 |.scope _,_,_,_,h=>by simp[fL,Tree.holds]at h
 |.label _,_,_,_,h=>by simp[fL,Tree.holds]at h
 |.goto _,_,_,_,h=>by simp[fL,Tree.holds]at h
 |.refuse _,_,_,_,h=>by simp[fL,Tree.holds]at h
end sound
end Go.AL

namespace Go.AL
open Go
variable [Dr]
inductive om where
 |fail
 |ret (v:AV) (H:List ah)
 |ask (b:Bool) (t e:om)
 |side (b:Bool) (t:om)
def om.holds(Q:AV→List ah→Prop):om→Prop
 |.fail=>False
 |.ret v H=>Q v H
 |.ask b t e=>(b=true→t.holds Q)∧(b=false→e.holds Q)
 |.side b t=>b=true∧t.holds Q
def om.two:om→Option (AV × List ah)
 |.fail=>none
 |.ret v H=>some (v,H)
 |.ask b t e=>bif b then t.two else e.two
 |.side b t=>bif b then t.two else none
def om.val:om→Option AV
 |.fail=>none
 |.ret v _=>some v
 |.ask b t e=>bif b then t.val else e.val
 |.side b t=>bif b then t.val else none
theorem Wd{E:Env}{vs:List AV}{us:List Value}(h:ae E vs us):rel E (df vs) (if h:us.toArray.size=1 then us.toArray[0] else .tuple us.toArray):=by
 cases us with
 | nil =>
  cases vs with
  |nil=>simp[df,rel,ae]
  |cons _ _=>simp[ae]at h
 | cons u us =>
  cases us with
  | nil =>
   cases vs with
   |nil=>simp[ae]at h
   | cons v vs =>
    cases vs with
    |nil=>simp only[ae]at h; simpa[df]using h.1
    |cons _ _=>simp[ae]at h
  | cons d us =>
   cases vs with
   |nil=>simp[ae]at h
   | cons v vs =>
    cases vs with
    |nil=>simp[ae]at h
    | cons v2 vs =>
     simp only[df,rel];exact⟨(u::d::us).toArray,by simp,h⟩
end Go.AL

namespace Go.AL
open Go
variable [Dr]
def Ly(ms:List Nat):au:={ pf:=fun g=>ms.any fun t=>af g (t+1000000),T:=fun _ _=>none,W:=fun _ _ _=>none,C:=fun _ _ _=>[],U:=fun _=>false }
theorem We(P:Program)(ms:List Nat):aw P (Ly ms):=⟨fun _ _ _ _ h=>(nomatch h),fun _ _ _ _ _ _ h=>(nomatch h),fun _ _ _ _ _ _ h=>(nomatch h),fun _ _ _ _ h=>(nomatch h),fun _ _ _ _=>⟨rfl,rfl⟩,fun _ h=>(nomatch h)⟩
def au.add(τ:au)(f:FuncId)(c:List AV→Option (Bool × AV)):au where
 pf g:=match af g f with
  |true=>true
  |false=>τ.pf g
 T g args:=match af g f with
  |true=>c args
  |false=>τ.T g args
 W:=τ.W
 C:=τ.C
 I:=τ.I
 N:=τ.N
 U:=τ.U
theorem aw.add{P:Program}{τ:au}(h:aw P τ){f:FuncId}{c:List AV→Option (Bool × AV)}(hb:iv P f=true)(q:∀ args b v,c args=some (b,v)→b=true→mR P f args v) :
  aw P (τ.add f c):=by
 refine⟨fun g args b v d k=>?_,h.W,h.C,h.I,h.F⟩;simp only[au.add]at d;split at d
 ·rename_i e
  have e:=br e;subst e;exact⟨hb,q args b v d k⟩
 ·exact h.T g args b v d k
def az:LT:=⟨fun _ _=>none,fun _ s=>(true,s),fun _ _=>none⟩
theorem aT(P:Program)(m:Nat)(c:Code):aJ P m az c:=⟨fun _ _ _ _ _ h=>(nomatch h),fun _ _ _=>bq.refl _,fun _ _ _ _ _ h=>(nomatch h)⟩
abbrev aB(b:Bool):AV:=.lit (.bool b)
end Go.AL

namespace Go.AL
open Go
variable [Dr]
def vh(slot:Nat)(ks:List Kd)(s:al):al:=⟨s.fr.set slot (.vec ks.length s.H.length 0 0 0),s.H++[.vec ks 0 []]⟩
def isNil:AV→Bool
 |.nils | .lit (.slice none 0 0)=>true
 |_=>false
theorem Lz{E:Env}{a:AV}{c:Value}(h:isNil a=true)(d:rel E a c):∃ base,c=.slice base 0 0:=by
 unfold isNil at h;split at h
 ·simpa only[rel]using d
 ·simp only[rel]at d; exact⟨none,d⟩
 ·cases h
theorem LA{m:Nat}{slot:Nat}{ks:List Kd}{s:al}(h:isNil (s.fr.getD slot .undef)=true):bq m s.den (vh slot ks s).den:=fun E a d=>by
 have hH:E.H=ai s.H:=d.H;have hlen:E.H.length=s.H.length:=by rw[hH,eH]
 have hle:E.le (E.push E.w (.vec ks.length 0 []) none):=Env.jD d.heap.len (Ext.refl _) (fun b n h=>by cases h);have q:aR (E.push E.w (.vec ks.length 0 []) none) E.H.length (.vec ks.length 0 []):=by
  simp only[aR,Env.push];refine .inl ⟨?_,trivial⟩;rw[jv (by rw[d.heap.len]; exact aH _),d.heap.len,nK];rfl
 have t:aq (E.push E.w (.vec ks.length 0 []) none):=aq.push d.heap (Ext.refl _) (fun b n h=>by cases h) q;have k:(vh slot ks s).den.H=E.H++[.vec ks.length 0 []]:=by
  rw[hH];simp[vh,al.den,ai,ah.den]
 refine⟨E.loc++[none],E.X,?_,?_⟩
 ·rw [k]
  refine⟨k.symm,?_,d.defers,t⟩;have h':=dN hle _ d.fr;have y:∀(fr:List AV) (cs:List Value) (i:Nat),ae E fr cs→isNil (fr.getD i .undef)=true→ae (E.push E.w (.vec ks.length 0 []) none) fr cs →
    ae (E.push E.w (.vec ks.length 0 []) none) (fr.set i (.vec ks.length s.H.length 0 0 0)) cs:=by
   intro fr
   induction fr with
   |nil=>intro cs i h0 h1 g; exact g
   | cons b fr z =>
    intro cs i h0 h1 g;cases cs with
    |nil=>simp[ae]at h0
    | cons c cs =>
     simp only[ae]at h0 g;cases i with
     | zero =>
      simp only[List.set_cons_zero,ae];refine⟨?_,g.2⟩;obtain⟨base,rfl⟩:=Lz (by simpa using h1) h0.1;have B:(E.push E.w (.vec ks.length 0 []) none).H[s.H.length]? = some (.vec ks.length 0 []):=by
       simp only[Env.push];rw[jv (by omega),hlen,nK];rfl
      have u:(E.push E.w (.vec ks.length 0 []) none).loc[s.H.length]? = some none:=by
       simp only[Env.push];rw[jv (by rw[d.heap.len]; omega),d.heap.len,hlen,nK];rfl
      simp only[rel];refine⟨⟨base,0,rfl,aH _,fun h=>absurd h (ub _)⟩,⟨_,B,rfl,fun v h=>dB _⟩,fun _=>⟨fun _=>⟨trivial,trivial,base,rfl⟩,fun b m hb=>?_⟩⟩;rw[u]at hb;cases hb
     | succ i =>
      simp only[List.set_cons_succ,ae];exact⟨g.1,z cs i h0.2 (by simpa using h1) g.2⟩
  exact y s.fr _ slot d.fr h h'
 ·rw [k]
  exact hle.toM
def cS(fn:Func)(k:Nat):Code:=match fn.body with
 | some c=>match (bE c).find? fun p=>af p.1 k with
  |some p=>p.2
  |none=>.skip
 |none=>.skip
theorem yS{P:Program}{f:FuncId}{vs:List Value}{u:Value}(h:∀ w,Calls P f vs.toArray w fun e w'=>e=.returned u∧Ext w w'):mR P f (vs.map .lit) (.lit u):=by
 intro H E cargs hH HE g;have e:cargs=vs.toArray:=by
  have:∀(vs us:List Value),ae E (vs.map AV.lit) us→us=vs:=by
   intro vs
   induction vs with
   | nil=>intro us h; cases us with
    |nil=>rfl
    |cons _ _=>simp[ae]at h
   | cons v vs k =>
    intro us h;cases us with
    |nil=>simp[ae]at h
    | cons u us =>
     simp only[cY,ae,rel]at h;rw[h.1,k us h.2]
  have:=this vs cargs.toList g;rw[←this]
 rw[e];refine(h E.w).mono ?_;rintro _ w' ⟨rfl,d⟩;refine⟨u,.lit u,H,rfl,⟨rfl,rfl⟩,E.loc,E.X.r,by simp[rel],?_,?_⟩
 ·rw[←hH]; exact HE.ext d
 ·rw[←hH]; exact Env.gl d
end Go.AL

namespace Go.AL
open Go
variable [Dr]
def mW(ks:List Kd):AV→Option (List (List G))
 |.nils | .lit (.slice none 0 0)=>some []
 |.emptyS _=>some []
 |.listF d rows=>if Kd.iz ks d then some rows else none
 | .list w rows=>match bg ks rows with
  |some gs=>if w=ks.length then some gs else none
  |none=>none
 |_=>none
def DF(ks:List Kd):AV→Option (List G)
 |.agg cells=>f_ ks cells
 |_=>none
theorem LB{E:Env}{ks:List Kd}{a:AV}{rows:List (List G)}{c:Value}(h:mW ks a=some rows)(d:rel E a c):rel E (.listF ks rows) c:=by
 unfold mW at h;split at h
 ·cases h
  simp only[rel,dG,G.rows]at d⊢;obtain⟨base,rfl⟩:=d;exact⟨base,0,rfl,aH _,.inl trivial⟩
 ·cases h
  simp only[rel,dG,G.rows]at d⊢;subst d;exact⟨none,0,rfl,aH _,.inl trivial⟩
 ·cases h
  simp only[rel,dG,G.rows]at d⊢;obtain⟨base,cap,rfl,_⟩:=d;exact⟨base,cap,rfl,dB _,.inl trivial⟩
 ·split at h
  ·rename_i g
   cases h;rw[Kd.jM g];exact d
  ·cases h
 ·split at h
  ·rename_i gs k
   split at h
   ·rename_i hw
    cases h;rw[jC,rS k];subst hw;exact d
   ·cases h
  ·cases h
 ·cases h
theorem LC{ks:List Kd}{a:AV}{r:List G}(h:DF ks a=some r):a=.agg (aK ks r):=by
 unfold DF at h;split at h
 ·rw[ki h]
 ·cases h
end Go.AL

namespace Go.AL
open Go
variable [Dr]
structure bF where
 ids:List Nat
 sh:List Nat
 base:Nat
def bF.at(e:bF)(j:Nat):Nat:=match e.ids[j]? with
 |some i=>i
 |none=>e.base+(j-e.ids.length)
def bF.up(e:bF)(j:Nat):Nat:=e.sh.getD j 0
mutual
def AV.bY(e:bF):AV→AV
 |.agg cs=>.agg (AV.jR e cs)
 |.tuple cs=>.tuple (AV.jR e cs)
 |.clo f cs=>.clo f (AV.jR e cs)
 |.ptr id ad k row col=>.ptr (e.at id) (ad+e.up id) k row col
 |.vec k id ad off n=>.vec k (e.at id) (ad+e.up id) off n
 |.map id=>.map (e.at id)
 |.sub ..=>.undef
 |a=>a
def AV.jR(e:bF):List AV→List AV
 | []=>[]
 |a::as=>a.bY e::AV.jR e as
end
def ab.bY(e:bF)(j:Nat):ab→ab
 |.box cells=>.box (AV.jR e cells)
 |.vec k v rows=>.vec k (v+e.up j) rows
 |o=>o
theorem LD(e:bF):∀(as:List AV),(AV.jR e as).length=as.length
 | []=>rfl
 |_::as=>by simp[AV.jR,LD e as]
mutual
def AV.bA:AV→Bool
 |.agg cs | .tuple cs | .clo _ cs=>AV.cy cs
 |.list .. | .listF .. | .cptr _=>false
 |_=>true
def AV.cy:List AV→Bool
 | []=>true
 |a::as=>a.bA&&AV.cy as
end
structure p6 (S:Bool) (e:bF) (E E':Env):Prop where
 ok:S=false→∀ b,E.ig b→E'.ig b∧E'.w.heap[b]? = E.w.heap[b]?
 past:∀ j ad,E.past j ad→E'.past (e.at j) (ad+e.up j)
 live:∀ j ad,E.past j ad→E'.live (e.at j) (ad+e.up j)→E.live j ad∧E'.loc[e.at j]? = E.loc[j]?
theorem p6.bD{e:bF}{E E':Env}(h:p6 false e E E'):E.bD E':=⟨h.ok rfl⟩
mutual
theorem DG{S:Bool}{e:bF}{E E':Env}(h:p6 S e E E'):∀(a:AV) {c:Value},(S=true→a.bA=true)→rel E a c→rel E' (a.bY e) c
 |.undef,_,_,_=>by simp[AV.bY,rel]
 |.lit v,c,_,d=>by simpa only[AV.bY,rel]using d
 |.nils,c,_,d=>by simpa only[AV.bY,rel]using d
 | .list k rows,c,q,d=>by
  cases S with
  |true=>exact absurd (q rfl) (by simp[AV.bA])
  |false=>exact fg h.bD (.list k rows) rfl d
 | .listF ks rows,c,q,d=>by
  cases S with
  |true=>exact absurd (q rfl) (by simp[AV.bA])
  |false=>exact fg h.bD (.listF ks rows) rfl d
 | .cptr cells,c,q,d=>by
  cases S with
  |true=>exact absurd (q rfl) (by simp[AV.bA])
  |false=>exact fg h.bD (.cptr cells) rfl d
 |.ifc,c,_,d=>by simpa only[AV.bY,rel]using d
 |.emptyS n,c,_,d=>by simpa only[AV.bY,rel]using d
 |.sub ..,c,_,_=>by simp only[AV.bY,rel]
 | .agg cells,c,q,d=>by
  simp only[rel]at d;simp only[AV.bY,rel];obtain⟨cs,u,h1,g⟩:=d;exact⟨cs,u,h1,yT h cells (fun e=>by simpa only[AV.bA]using q e) g⟩
 | .tuple cells,c,q,d=>by
  simp only[rel]at d;simp only[AV.bY,rel];obtain⟨cs,u,g⟩:=d;exact⟨cs,u,yT h cells (fun e=>by simpa only[AV.bA]using q e) g⟩
 | .clo f cells,c,q,d=>by
  simp only[rel]at d;simp only[AV.bY,rel];obtain⟨cs,u,g⟩:=d;exact⟨cs,u,yT h cells (fun e=>by simpa only[AV.bA]using q e) g⟩
 | .ptr id ad k row col,c,_,d=>by
  simp only[rel]at d;simp only[AV.bY,rel];obtain⟨h1,g,y⟩:=d;refine⟨h1,h.past _ _ g,fun t=>?_⟩;obtain⟨g1,g2⟩:=h.live _ _ g t;rw[g2];exact y g1
 | .vec k id ad off n,c,_,d=>by
  simp only[rel]at d;simp only[AV.bY,rel];obtain⟨h1,g,y⟩:=d;refine⟨h1,h.past _ _ g,fun t=>?_⟩;obtain⟨g1,g2⟩:=h.live _ _ g t;rw[g2];exact y g1
 | .map id,c,_,d=>by
  simp only[rel]at d;simp only[AV.bY,rel];obtain⟨h1,g,y⟩:=d;have I:=h.past _ _ g;refine⟨h1,?_,fun t=>?_⟩
  ·obtain ⟨o, z, B⟩ := I
   exact⟨o,z,B.1,fun v N=>dB _⟩
  ·have hu:e.up id=0:=by
    obtain⟨o,z,B⟩:=I;obtain⟨o2,J,M⟩:=t;rw[z]at J;cases J;have:=B.2 0 M;omega
   obtain⟨g1,g2⟩:=h.live _ _ g (by rw[hu]; exact t);rw[g2];exact y g1
theorem yT{S:Bool}{e:bF}{E E':Env}(h:p6 S e E E'):∀(as:List AV) {vs:List Value},(S=true→AV.cy as=true)→ae E as vs→ae E' (AV.jR e as) vs
 | [],[],_,_=>by simp[AV.jR,ae]
 | [],_::_,_,d=>by simp[ae]at d
 |_::_,[],_,d=>by simp[ae]at d
 | a::as,v::vs,g,d=>by
  simp only[AV.cy,ar]at g;simp only[ae]at d;simp only[AV.jR,ae];exact⟨DG h a (fun e=>(g e).1) d.1,yT h as (fun e=>(g e).2) d.2⟩
end
structure KeepIn (e:bF) (E E':Env):Prop where
 ok:∀ b,E.ig b→E'.ig b∧E'.w.heap[b]? = E.w.heap[b]?
 w:E'.w=E.w
 loc:∀ j,j<e.ids.length→E'.loc[j]? = E.loc[e.at j]?
 jl:∀(j:Nat) o l,E'.H[j]? = some o→o.label=some l→E'.X.r l=E.X.r l
theorem KeepIn.bD{e:bF}{E E':Env}(h:KeepIn e E E'):E.bD E':=⟨h.ok⟩
structure yU (e:bF) (oq:List Nat) (E E':Env):Prop extends KeepIn e E E' where
 Wf:∀ i,i∈oq→∀ b n,E.loc[i]? = some (some (b,n))→E'.ig b
def eb{α:Type}:List α→List Nat→List α→List α
 |l,i::is,x::xs=>eb (l.set i x) is xs
 |l,_,_=>l
theorem ot{α:Type}:∀(is:List Nat) (l xs:List α),(eb l is xs).length=l.length
 | [],_,_=>by simp[eb]
 |_::_,_,[]=>by simp[eb]
 |i::is,l,x::xs=>by simp[eb,ot is]
theorem yV{α:Type}:∀(is:List Nat) (l xs:List α) (n:Nat),n∉is→(eb l is xs)[n]? = l[n]?
 | [],_,_,_,_=>by simp[eb]
 |_::_,_,[],_,_=>by simp[eb]
 | i::is,l,x::xs,n,h=>by
  simp only[bS,not_or]at h;simp only[eb];rw[yV is _ xs n h.2,aV (Ne.symm h.1)]
theorem LF{α:Type}:∀(is:List Nat) (l xs:List α) (j i:Nat) (x:α),is.Nodup→is[j]? = some i→xs[j]? = some x→i<l.length→(eb l is xs)[i]? = some x
 | [],_,_,_,_,_,_,h,_,_=>by simp at h
 |_::_,_,[],_,_,_,_,_,h,_=>by simp at h
 | k::is,l,y::xs,0,i,x,g,h1,d,q=>by
  simp at h1 d;subst h1; subst d;simp only[eb];have:k∉is:=(nL.1 g).1;rw[yV is _ xs k this,List.getElem?_set_self q]
 | k::is,l,y::xs,j+1,i,x,g,h1,d,q=>by
  simp only[eb];exact LF is _ xs j i x (nL.1 g).2 (by simpa using h1) (by simpa using d) (by simpa using q)
def ab.yW(e:bF)(j:Nat):ab→Bool
 |.dead=>true
 |.vec _ _ _=>true
 |_=>af (e.up j) 0
def km(e:bF):Nat→List ab→List ab
 |_,[]=>[]
 |j,o::os=>o.bY e j::km e (j+1) os
def kn(e:bF):Nat→List ab→Bool
 |_,[]=>true
 |j,o::os=>o.yW e j&&kn e (j+1) os
theorem DH(e:bF):∀(j:Nat) (os:List ab),(km e j os).length=os.length
 |_,[]=>rfl
 |j,_::os=>by simp[km,DH e (j+1) os]
theorem LG(e:bF):∀(j:Nat) (os:List ab) (i:Nat),(km e j os)[i]? = (os[i]?).map (ab.bY e (j+i))
 |_,[],i=>by simp[km]
 |j,o::os,0=>by simp[km]
 | j,o::os,i+1=>by
  simp only[km,List.getElem?_cons_succ,LG e (j+1) os i];rw[show j+1+i=j+(i+1) from by omega]
theorem LH{e:bF}:∀{j:Nat} {os:List ab} {i:Nat} {o:ab},kn e j os=true→os[i]? = some o→o.yW e (j+i)=true
 |_,[],i,_,_,h=>by simp at h
 | j,_::os,0,o,h,hi=>by
  simp only[kn,ar]at h;simp at hi;subst hi;exact h.1
 | j,_::os,i+1,o,h,hi=>by
  simp only[kn,ar]at h;have:=LH h.2 (by simpa using hi)
  rwa [show j+1+i=j+(i+1) from by omega]at this
theorem vj{e:bF}{j:Nat}{o:ab}(h:o.yW e j=true)(v:Nat):(o.bY e j).aF = some v↔∃ u,o.aF = some u∧v=u+e.up j:=by
 cases o with
 |dead=>simp[ab.bY,ab.aF]
 |dX=>simp[ab.bY,ab.aF]
 |vec k u rows=>simp[ab.bY,ab.aF,eq_comm]
 | box cells =>
  have:=br h;simp[ab.bY,ab.aF,this,eq_comm]
 | map es cl =>
  have:=br h;simp[ab.bY,ab.aF,this,eq_comm]
 | iter s p =>
  have:=br h;simp[ab.bY,ab.aF,this,eq_comm]
 | bJ l T B s =>
  have:=br h;simp[ab.bY,ab.aF,this,eq_comm]
 | aY l k es cl =>
  have:=br h;simp[ab.bY,ab.aF,this,eq_comm]
 | mm l es ms cl =>
  have:=br h;simp[ab.bY,ab.aF,this,eq_comm]
theorem LI(e:bF)(j:Nat)(o:ab):(o.bY e j).born=o.born:=by cases o<;>rfl
theorem LJ(e:bF)(j:Nat)(o:ab):(o.bY e j).label=o.label:=by cases o<;>rfl
theorem Wg(e:bF)(j:Nat)(o:ab):(o.bY e j).db=o.db:=by cases o<;>rfl
def ab.bA:ab→Bool
 |.box cells=>AV.cy cells
 |.vec _ _ rows=>rows.all fun r=>AV.cy r
 |.map es _=>es.all fun x=>x.1.bA&&x.2.1.bA
 | .aY _ _ es _=>es.all fun x=>x.1.bA&&(match x.2.1 with
  |some rows=>rows.all fun r=>AV.cy r
  |none=>true)
 |.mm _ es ms _=>(es.all fun x=>x.1.bA)&&ms.all fun m=>m.1.all fun x=>x.1.bA&&x.2.1.bA
 |_=>true
theorem LK{S:Bool}{e:bF}{E E':Env}(h:p6 S e E E'){b:Nat}(hb:E'.w.heap[b]? = E.w.heap[b]?):∀(as:List AV) {o:Nat},(S=true→AV.cy as=true)→cf E as b o→cf E' (AV.jR e as) b o
 | [],_,_,_=>by simp[AV.jR,cf]
 | a::as,o,d,g=>by
  simp only[AV.cy,ar]at d;simp only[cf]at g;simp only[AV.jR,cf];obtain⟨⟨v,h1,k,q⟩,t⟩:=g;exact⟨⟨v,by rw[World.qZ hb]; exact h1,k,DG h a (fun e=>(d e).1) q⟩,LK h hb as (fun e=>(d e).2) t⟩
mutual
theorem yX{E E':Env}:∀(a:AV) {c:Value},a.closed=true→a.bA=true→rel E a c→rel E' a c
 |.undef,_,_,_,_=>by simp[rel]
 |.lit v,c,_,_,d=>by simpa only[rel]using d
 |.nils,c,_,_,d=>by simpa only[rel]using d
 |.ifc,c,_,_,d=>by simpa only[rel]using d
 |.emptyS n,c,_,_,d=>by simpa only[rel]using d
 |.list ..,_,_,h,_ | .listF ..,_,_,h,_ | .cptr _,_,_,h,_=>by simp[AV.bA]at h
 |.ptr ..,_,h,_,_ | .vec ..,_,h,_,_ | .map _,_,h,_,_=>by simp[AV.closed]at h
 | .agg cells,c,g,k,d=>by
  simp only[rel]at d⊢;obtain⟨cs,e,h1,q⟩:=d;exact⟨cs,e,h1,yY cells (by simpa only[AV.closed]using g) (by simpa only[AV.bA]using k) q⟩
 | .tuple cells,c,g,k,d=>by
  simp only[rel]at d⊢;obtain⟨cs,e,q⟩:=d;exact⟨cs,e,yY cells (by simpa only[AV.closed]using g) (by simpa only[AV.bA]using k) q⟩
 | .clo f cells,c,g,k,d=>by
  simp only[rel]at d⊢;obtain⟨cs,e,q⟩:=d;exact⟨cs,e,yY cells (by simpa only[AV.closed]using g) (by simpa only[AV.bA]using k) q⟩
theorem yY{E E':Env}:∀(as:List AV) {vs:List Value},AV.bu as=true→AV.cy as=true→ae E as vs→ae E' as vs
 | [],[],_,_,_=>by simp[ae]
 | [],_::_,_,_,d=>by simp[ae]at d
 |_::_,[],_,_,d=>by simp[ae]at d
 | a::as,v::vs,g,h,d=>by
  simp only[AV.bu,AV.cy,ar]at g h;simp only[ae]at d⊢;exact⟨yX a g.1 h.1 d.1,yY as g.2 h.2 d.2⟩
end
theorem LL{E E':Env}{b:Nat}(hb:E'.w.heap[b]? = E.w.heap[b]?):∀(as:List AV) {o:Nat},AV.bu as=true→AV.cy as=true→cf E as b o→cf E' as b o
 | [],_,_,_,_=>by simp[cf]
 | a::as,o,d,g,h=>by
  simp only[AV.bu,AV.cy,ar]at d g;simp only[cf]at h⊢;obtain⟨⟨v,h1,k,q⟩,t⟩:=h;exact⟨⟨v,by rw[World.qZ hb]; exact h1,k,yX a d.1 g.1 q⟩,LL hb as d.2 g.2 t⟩
theorem DI{E E':Env}{b k:Nat}(hb:E'.w.heap[b]? = E.w.heap[b]?):∀(rs:List (List AV)) {o:Nat},ff rs→(rs.all fun r=>AV.cy r)=true→cz E k rs b o→cz E' k rs b o
 | [],_,_,_,_=>by simp[cz]
 | r::rs,o,h,g,d=>by
  simp only[iG,ar]at g;simp only[cz]at d⊢;exact⟨d.1,LL hb r (h r cH) g.1 d.2.1,DI hb rs (fun x q=>h x (cI _ q)) g.2 d.2.2⟩
theorem vk{E E':Env}:∀{es:List (AV × AV × Nat)} {ms:List MapEntry},(es.all fun x=>x.1.bA&&x.2.1.bA)=true→bo E es ms→bo E' es ms
 | [],[],_,_=>by simp[bo]
 | (k,v,n)::es,e::ms,g,d=>by
  simp only[iG,ar]at g;simp only[bo]at d⊢;obtain⟨h1,t,u,h,q,y⟩:=d;exact⟨yX k h g.1.1 h1,yX v q g.1.2 t,u,h,q,vk g.2 y⟩
 | [],_::_,_,d=>by simp[bo]at d
 |_::_,[],_,d=>by simp[bo]at d
theorem jm{E E':Env}(h:E.bD E'):∀{es:List (AV × AV × Nat)} {ms:List MapEntry},bo E es ms→bo E' es ms
 | [],[],_=>by simp[bo]
 | (k,v,n)::es,e::ms,d=>by
  simp only[bo]at d⊢;obtain⟨h1,t,u,g,q,y⟩:=d;exact⟨fg h k g h1,fg h v q t,u,g,q,jm h y⟩
 | [],_::_,d=>by simp[bo]at d
 |_::_,[],d=>by simp[bo]at d
theorem Wh{S:Bool}{e:bF}{E E':Env}(h:p6 S e E E'){j:Nat}{o:ab}(N:S=true→o.bA=true)(z:E'.loc[e.at j]? = E.loc[j]?) (hb:∀ b n,E.loc[j]? = some (some (b,n))→E'.w.heap[b]? = E.w.heap[b]?)
  (R:∀ l,o.label=some l→E'.X.r l=E.X.r l∧∀(h g m:Nat),(E.X.r l)[h]? = some (some (some (g,m)))→E'.w.heap[g]? = E.w.heap[g]?)
  (ho:aR E j o):aR E' (e.at j) (o.bY e j):=by
 cases o with
 |dead=>simp only[ab.bY,aR]at *; rw[z]; exact ho
 |dX=>simp only[ab.bY,aR]at *; rw[z]; exact ho
 | box cells =>
  simp only[ab.bY,aR]at *;obtain⟨b,n,h1,d,t⟩:=ho;exact⟨b,n,by rw[z,h1],by rw[LD]; exact q_ (hb b n h1) d,LK h (hb b n h1) cells (fun e=>by simpa only[ab.bA]using N e) t⟩
 | vec k ad rows =>
  simp only[ab.bY,aR]at *;rcases ho with⟨h1,d⟩|⟨b,m,h1,d,t,I,u⟩
  ·exact .inl ⟨by rw[z,h1],d⟩
  ·refine .inr ⟨b, m, by rw [z, h1], q_ (hb b m h1) d, t, I, ?_⟩
   cases S with
   |true=>exact DI (hb b m h1) rows I (by simpa only[ab.bA]using N rfl) u
   |false=>exact kY h.bD rows I (hb b m h1) u
 | map es clock =>
  simp only[ab.bY,aR]at *;obtain⟨b,n,ms,h1,d,t⟩:=ho;refine⟨b,n,ms,by rw[z,h1],by rw[hb b n h1,d],?_⟩;cases S with
  |true=>exact vk (by simpa only[ab.bA]using N rfl) t
  |false=>exact jm h.bD t
 | iter s pos =>
  simp only[ab.bY,aR]at *;obtain⟨b,n,h1,d⟩:=ho;exact⟨b,n,by rw[z,h1],by rw[hb b n h1,d]⟩
 | bJ l T B s =>
  simp only[ab.bY,aR]at *;obtain⟨b,n,p,v,k,q,h1,d,t,I,u,h6⟩:=ho;obtain⟨g1,g2⟩:=R l rfl;exact⟨b,n,p,v,k,q,by rw[z,h1],by rw[hb b n h1,d],t,by rw[g1,I],by rw[g1]; exact u,B3 (fun g m e=>g2 k g m (by rw[I,e])) h6⟩
 | aY l k es clock =>
  simp only[ab.bY,aR]at *;obtain⟨b,n,ms,h1,d,t,I⟩:=ho;obtain⟨g1,g2⟩:=R l rfl;have M:S=true→∀ x∈es,x.1.bA=true∧∀ rows,x.2.1=some rows→(rows.all fun r=>AV.cy r)=true:=fun e x J=>by
   have u:=bO.1 (by simpa only[ab.bA]using N e) x J;simp only[ar]at u;exact⟨u.1,fun rows O=>by rw[O]at u; exact u.2⟩
  refine⟨b,n,ms,by rw[z,h1],by rw[hb b n h1,d],?_,uh (fun h g m hk=>⟨by rw[g1]; exact hk,g2 h g m hk⟩) (fun i x rows hi J b V W O=>?_) I⟩
  ·cases S with
   | true =>
    refine vk (bO.2 fun x J=>?_) t;obtain⟨y,U,rfl⟩:=di.1 J;simp[(M rfl y U).1,AV.bA]
   |false=>exact jm h.bD t
  ·cases S with
   |true=>exact DI V rows W ((M rfl x (fa hi)).2 rows J) O
   |false=>exact kY h.bD rows W V O
 | mm l es ms clock =>
  simp only[ab.bY,aR]at *;obtain⟨b,n,mes,h1,d,t,I⟩:=ho;obtain⟨g1,g2⟩:=R l rfl;have M:S=true→(es.all fun x=>x.1.bA)=true∧∀ m∈ms,(m.1.all fun x=>x.1.bA&&x.2.1.bA)=true:=fun e=>by
   have u:=N e;simp only[ab.bA,ar]at u;exact⟨u.1,bO.1 u.2⟩
  refine⟨b,n,mes,by rw[z,h1],by rw[hb b n h1,d],?_,B6 g1 g2 (fun m hm q hq=>?_) I⟩
  ·cases S with
   | true =>
    refine vk (bO.2 fun x J=>?_) t;obtain⟨y,U,rfl⟩:=di.1 J;simp[bO.1 (M rfl).1 y U,AV.bA]
   |false=>exact jm h.bD t
  ·cases S with
   |true=>exact vk ((M rfl).2 m hm) hq
   |false=>exact jm h.bD hq
def ow(e:bF)(H H1:List ab):List ab:=eb H e.ids (km e 0 H1)++(km e 0 H1).drop e.ids.length
theorem gN{e:bF}{j:Nat}(h:j<e.ids.length):e.ids[j]? = some (e.at j):=by
 simp[bF.at,h]
theorem sc{e:bF}{j:Nat}(h:e.ids.length≤j):e.at j=e.base+(j-e.ids.length):=by
 simp[bF.at,List.getElem?_eq_none h]
theorem LM{α:Type}{e:bF}{H xs:List α}(k:e.ids.Nodup)(d:∀ j,j<e.ids.length→e.at j<H.length)(hb:e.base=H.length)(q:e.ids.length≤xs.length)(j:Nat) :
  (eb H e.ids xs++xs.drop e.ids.length)[e.at j]? = xs[j]? := by
 rcases h_ j e.ids.length with h|h
 ·rw [cQ (by rw [ot]; exact d j h)]
  have g:j<xs.length:=dy h q;rw[LF e.ids H xs j (e.at j) xs[j] k (gN h) (bd g) (d j h),bd g]
 ·rw [sc h, hb, jv (by rw [ot]; omega), ot, qK]
  congr 1;omega
theorem DJ{α:Type}{e:bF}{H xs:List α}{i:Nat}(hi:i∉e.ids)(d:i<H.length):(eb H e.ids xs++xs.drop e.ids.length)[i]? = H[i]? := by
 rw[cQ (by rw[ot]; exact d),yV e.ids H xs i hi]
theorem ox{α:Type}{e:bF}{H xs:List α}{i:Nat}{x:α}(hb:e.base=H.length)(h:(eb H e.ids xs++xs.drop e.ids.length)[i]? = some x) :
  (i∉e.ids∧i<H.length∧H[i]? = some x)∨∃ j,i=e.at j:=by
 by_cases hm:i∈e.ids
 ·right
  obtain⟨j,g,rfl⟩:=ny hm;refine⟨j,?_⟩;have:=gN g;rw[bd g]at this;exact(gh this)
 ·rcases h_ i H.length with d | k
  ·left
   exact⟨hm,d,by rw[DJ hm d]at h; exact h⟩
  ·right
   refine⟨e.ids.length+(i-H.length),?_⟩;rw[sc (by omega)];omega
theorem frame(S:Bool)(oq:List Nat){P:Program}{f:FuncId}{args:List AV}{H0 H1 H:List ab}{v:AV}{e:bF}(hc:cq P f args H0 v H1)(hk:e.ids.length=H0.length)(hb:e.base=H.length)(hn:e.ids.Nodup)
  (hver:∀ j o,H0[j]? = some o→∃ o',H[e.at j]? = some o'∧o.born=true∧∀ v,o'.aF = some v↔∃ u,o.aF = some u∧v=u+e.up j)
  (hobj:∀ E E0,E.H=H→aq E→yU e oq E E0→E0.H=H0→∀ j o,H0[j]? = some o→aR E0 j o) (hu1:kn e 0 H1=true) (hl1:H0.length≤H1.length) (hlent:S=false→oq=[])
  (hSv:S=true→v.bA=true) (hSo:S=true→(H1.all ab.bA)=true) (hdis:∀ i,i∈oq→i∉e.ids)
  (hlab:∀(j:Nat) o o',H0[j]? = some o→H[e.at j]? = some o'→o'.label=o.label) (hlab1:∀(j:Nat) o l,H1[j]? = some o→o.label=some l→∃ o0,H0[j]? = some o0∧o0.label=some l)
  (hlabm:∀(j:Nat) o o',H0[j]? = some o→H[e.at j]? = some o'→o'.db=o.db) {args0:List AV}
  (hargs0:∀ E E0 cs,E.H=H→aq E→yU e oq E E0→E0.H=H0→ae E args0 cs→ae E0 args cs) :
  cq P f args0 H (v.bY e) (ow e H H1):=by
 intro E cargs M HE hargs;have hElen:E.loc.length=H.length:=by rw[HE.len,M]
 have hat:∀ j,j<e.ids.length→e.at j<H.length:=fun j B=>by
  have hj':j<H0.length:=by omega
  obtain⟨o',h1,_⟩:=hver j H0[j] (bd hj');exact aL h1
 have hmem:∀ j,j<e.ids.length→e.at j∈e.ids:=fun j B=>fa (gN B)
 let pl:Nat→Prop:=fun l=>∃(j:Nat) (o:ab),H0[j]? = some o∧o.label=some l
 have:DecidablePred pl:=fun l=>Classical.propDecidable (pl l)
 let r0:Nat→List (Option (Option (Nat × Nat))):=fun l=>if pl l then E.X.r l else []
 have r0p:∀ l,pl l→r0 l=E.X.r l:=fun l h=>if_pos h;have r0n:∀ l (h:Nat) q,(r0 l)[h]? = some q→pl l∧(E.X.r l)[h]? = some q:=fun l h q V=>by
  by_cases y:pl l
  ·rw[r0p l y]at V; exact⟨y,V⟩
  ·rw[show r0 l=[] from if_neg y]at V; simp at V
 let X0:XS:=⟨fun b=>E.X b∨(∃ i c,i∉e.ids∧i∉oq∧E.loc[i]? = some (some (b,c)))∨∃(l h m:Nat),¬ pl l∧(E.X.r l)[h]? = some (some (some (b,m))),E.X.z,r0⟩
 let loc0:List (Option (Nat × Nat)):=e.ids.map fun i=>E.loc.getD i none
 let E0:Env:={ w:=E.w,H:=H0,loc:=loc0,X:=X0 }
 have hloc0:∀ j,j<e.ids.length→loc0[j]? = E.loc[e.at j]? := fun j B=>by
  simp only[loc0,bR,gN B,dL];have:e.at j<E.loc.length:=by rw[hElen]; exact hat j B
  rw[b_,bd this];rfl
 have hlen0:loc0.length=e.ids.length:=by simp[loc0]
 have hpast:∀ j ad,E.past (e.at j) ad→j<e.ids.length:=by
  rintro j ad ⟨o,ho,_⟩;rcases h_ j e.ids.length with h|h
  ·exact h
  ·have := aL ho
   rw[M,sc h,hb]at this;omega
 have hobj0:∀ j,j<e.ids.length→∃ o o',H0[j]? = some o∧E.H[e.at j]? = some o'∧o.born=true∧∀ v,o'.aF = some v↔∃ u,o.aF = some u∧v=u+e.up j:=fun j B=>by
  have hj':j<H0.length:=by omega
  obtain⟨o',h1,d⟩:=hver j H0[j] (bd hj');exact⟨H0[j],o',bd hj',by rw[M]; exact h1,d⟩
 have hown0:∀ b,E0.own b→E.own b:=by
  rintro b (⟨id,c,hid⟩|⟨l,k,c,J⟩)
  case inr=>exact .inr ⟨l,k,c,(r0n l k _ J).2⟩
  have I:=aL hid;rw[show E0.loc=loc0 from rfl]at hid I;rw[hlen0]at I;rw[hloc0 id I]at hid;exact .inl ⟨_,c,hid⟩
 have hin:KeepIn e E E0:=by
  refine⟨fun b hbk=>⟨⟨hbk.1,fun ho=>hbk.2.1 (hown0 b ho),?_⟩,rfl⟩,rfl,hloc0,fun j o l h1 d=>r0p l ⟨j,o,h1,d⟩⟩;rintro(N|⟨i,c,_,_,hi⟩|⟨l,k,c,_,J⟩)
  ·exact hbk.2.2 N
  ·exact hbk.2.1 (.inl ⟨i,c,hi⟩)
  ·exact hbk.2.1 (.inr ⟨l,k,c,J⟩)
 have hpin:∀ j ad,E.past (e.at j) (ad+e.up j)→E0.past j ad:=fun j ad y=>by
  obtain⟨o,oo,h1,d,O,h3⟩:=hobj0 j (hpast j _ y);obtain⟨o',h4,h5⟩:=y;rw[d]at h4;cases h4;refine⟨o,h1,O,fun v W=>?_⟩;have:=h5.2 (v+e.up j) ((h3 _).2 ⟨v,W,rfl⟩);omega
 have hout0:∀ i b n,i∉e.ids→E.loc[i]? = some (some (b,n))→¬ E0.own b:=by
  rintro i b n hi O (⟨id,c',hid⟩|⟨l,k,c,J⟩)
  case inr=>exact HE.cN _ _ _ _ _ _ O (r0n l k _ J).2
  have I:=aL hid;rw[show E0.loc=loc0 from rfl]at hid I;rw[hlen0]at I;rw[hloc0 id I]at hid;have:=HE.inj _ _ _ _ _ O hid;exact hi (this▸hmem id I)
 have hlin:yU e oq E E0:=by
  refine⟨hin,fun i hi b n O=>⟨(HE.lt _ _ _ O).1,hout0 i b n (hdis i hi) O,?_⟩⟩;rintro(N|⟨R,c,_,d,hi'⟩|⟨l,k,c,_,J⟩)
  ·exact(HE.lt _ _ _ O).2 N
  ·have := HE.inj _ _ _ _ _ hi' O
   exact d (this▸hi)
  ·exact HE.cN _ _ _ _ _ _ O J
 have HE0:aq E0:=by
  have conv:∀{j:Nat} {x:Option (Nat × Nat)},loc0[j]? = some x→j<e.ids.length∧E.loc[e.at j]? = some x:=by
   intro j x N;have I:=aL N;rw[hlen0]at I;exact⟨I,by rw[←hloc0 j I]; exact N⟩
  refine⟨by rw[show E0.loc=loc0 from rfl,hlen0,hk],?_,?_,?_,?_,HE.fh.bD hin.bD,fun l k l' k' b m n h1 d=>HE.eS l k l' k' b m n (r0n l k _ h1).2 (r0n l' k' _ d).2,fun i b m l k n hi d=>HE.cN _ b m l k n (conv hi).2 (r0n l k _ d).2,?_,?_,?_⟩
  ·intro i j b m n hi B
   obtain⟨i1,i2⟩:=conv hi
   obtain⟨j1,j2⟩:=conv B
   have:=HE.inj _ _ _ _ _ i2 j2;exact(BR i1 hn).1 (by rw[gN i1,gN j1,this])
  ·intro i b m hi
   obtain⟨i1,i2⟩:=conv hi
   refine⟨(HE.lt _ _ _ i2).1,?_⟩;rintro(N|⟨R,c,hni,_,hi'⟩|⟨l,k,c,_,J⟩)
   ·exact(HE.lt _ _ _ i2).2 N
   ·have := HE.inj _ _ _ _ _ hi' i2
    exact hni (this▸hmem i i1)
   ·exact HE.cN _ _ _ _ _ _ i2 J
  ·rintro b (N | ⟨R, c, _, _, hi'⟩ | ⟨l, k, c, _, J⟩)
   ·exact HE.X b N
   ·exact(HE.lt _ _ _ hi').1
   ·exact(HE.cn _ _ _ _ J).1
  ·intro j o ho
   have B:j<e.ids.length:=by rw[hk]; exact aL ho
   exact hobj E E0 M HE hlin rfl j o ho
  ·intro l k b m h1
   obtain⟨y,d⟩:=r0n l k _ h1;refine⟨(HE.cn _ _ _ _ d).1,?_⟩;rintro(N|⟨R,c,_,_,hi'⟩|⟨l',k',c,hnp,J⟩)
   ·exact(HE.cn _ _ _ _ d).2 N
   ·exact HE.cN _ _ _ _ _ _ hi' d
   ·exact hnp ((HE.eS _ _ _ _ _ _ _ d J).1▸y)
  ·intro i j o o' l hi B h1 d
   have i1:i<e.ids.length:=by rw[hk]; exact aL hi
   have j1:j<e.ids.length:=by rw[hk]; exact aL B
   obtain⟨_,oi,U,a2,_⟩:=hobj0 i i1;obtain⟨_,oj,b1,b2,_⟩:=hobj0 j j1;have ei:=hlab i o oi hi (by rw[←M]; exact a2);have ej:=hlab j o' oj B (by rw[←M]; exact b2);have:=HE.uniq _ _ _ _ l a2 b2 (by rw[ei,h1]) (by rw[ej,d]);exact(BR i1 hn).1 (by rw[gN i1,gN j1,this])
  ·intro l hnl k q V
   obtain⟨⟨j,o,h1,d⟩,_⟩:=r0n l k _ V;exact hnl j o h1 d
 refine(hc E0 cargs rfl HE0 (hargs0 E E0 _ M HE hlin rfl hargs)).mono ?_;rintro _ w' ⟨c,v',H',rfl,⟨rfl,rfl⟩,loc1,r1,g1,g2,g3⟩
 let r':Nat→List (Option (Option (Nat × Nat))):=fun l=>if pl l then r1 l else E.X.r l
 have rp:∀ l,pl l→r' l=r1 l:=fun l h=>if_pos h;have rn:∀ l,¬ pl l→r' l=E.X.r l:=fun l h=>if_neg h;have hl1':e.ids.length≤H'.length:=by omega
 have hlen1:loc1.length=H'.length:=g2.len;have hbL:e.base=E.loc.length:=by rw[hElen]; exact hb
 have hbE:e.base=E.H.length:=by rw[M]; exact hb
 let loc':List (Option (Nat × Nat)):=eb E.loc e.ids loc1++loc1.drop e.ids.length
 let E1:Env:={ w:=w',H:=H',loc:=loc1,X:=X0.re r1 }
 let E':Env:={ w:=w',H:=ow e H H',loc:=loc',X:=E.X.re r' }
 have Hin:∀ j,E'.H[e.at j]? = (H'[j]?).map (ab.bY e j):=fun j=>by
  have:=LM (e:=e) (H:=H) (xs:=km e 0 H') hn hat hb (by rw[DH]; exact hl1') j;rw[LG,cR]at this;exact this
 have fj:∀ j,E'.loc[e.at j]? = loc1[j]? := fun j =>
  LM (e:=e) (H:=E.loc) (xs:=loc1) hn (fun j B=>by rw[hElen]; exact hat j B) hbL (by rw[hlen1]; exact hl1') j
 have Hout:∀ i,i∉e.ids→i<H.length→E'.H[i]? = E.H[i]? := fun i hi I=>by
  rw[M];exact DJ (e:=e) hi I
 have Lout:∀ i,i∉e.ids→i<H.length→E'.loc[i]? = E.loc[i]? := fun i hi I=>DJ (e:=e) hi (by rw[hElen]; exact I);have hu1':∀(j:Nat) (o:ab),H'[j]? = some o→o.yW e j=true:=fun j o ho=>by
  have:=LH hu1 ho
  rwa [cR]at this
 have own':∀ b,E'.own b→E1.own b∨(∃ i c,i∉e.ids∧E.loc[i]? = some (some (b,c)))∨∃(l h m:Nat),¬ pl l∧(E.X.r l)[h]? = some (some (some (b,m))):=by
  rintro b (⟨i,c,hi⟩|⟨l,k,c,J⟩)
  ·rcases ox (e := e) hbL hi with ⟨h1, _, h3⟩ | ⟨j, rfl⟩
   ·exact .inr (.inl ⟨i,c,h1,h3⟩)
   ·rw [fj j] at hi
    exact .inl (.inl ⟨j,c,hi⟩)
  ·have J : (r' l)[k]? = some (some (some (b, c))) := J
   by_cases y:pl l
   ·rw [rp l y] at J
    exact .inl (.inr ⟨l,k,c,J⟩)
   ·rw [rn l y] at J
    exact .inr (.inr ⟨l,k,c,y,J⟩)
 have hout:p6 S e E1 E':=by
  refine⟨fun hS b hbk=>⟨⟨hbk.1,fun ho=>?_,fun N=>hbk.2.2 (Or.inl N)⟩,rfl⟩,fun j ad y=>?_,fun j ad y hl=>?_⟩
  ·rcases own' b ho with h | ⟨i, c, h1, d⟩ | h
   ·exact hbk.2.1 h
   ·exact hbk.2.2 (Or.inr (.inl ⟨i,c,h1,by rw[hlent hS]; exact List.not_mem_nil,d⟩))
   ·exact hbk.2.2 (Or.inr (.inr h))
  ·obtain ⟨o, h1, d⟩ := y
   refine⟨o.bY e j,by rw[Hin j,show H'[j]? = some o from h1]; rfl,by rw[LI]; exact d.1,fun v W=>?_⟩;obtain⟨u,q1,rfl⟩:=(vj (hu1' j o h1) v).1 W;have:=d.2 u q1;omega
  ·obtain ⟨o', h1, d⟩ := hl
   rw[Hin j]at h1;obtain⟨o,h3,rfl⟩:=dR.1 h1;obtain⟨u,q1,q2⟩:=(vj (hu1' j o h3) _).1 d;have:u=ad:=by omega
   subst this;exact⟨⟨o,h3,q1⟩,fj j⟩
 have hle:E.le E':=by
  refine⟨fun i ad y=>?_,g3.size,fun b I ho=>g3.same b I (fun h=>ho (hown0 b h)),fun b I ho h'=>?_,fun i ad y hl=>?_,⟨rfl,rfl⟩,fun l k J=>?_,g3.env,fun i l o h1 d W=>?_⟩
  rotate_right
  ·by_cases hi : i ∈ e.ids
   ·obtain ⟨j, B, rfl⟩ := ny hi
    have hat':e.ids[j]=e.at j:=by
     have:=gN B;rw[bd B]at this;exact gh this
    rw[hat']at h1 W⊢;obtain⟨o0,oo,k1,k2,O,k3⟩:=hobj0 j B;have em:o.db=o0.db:=hlabm j o0 o k1 (by rw[←M]; exact h1);have hl0:o0.label=some l:=ab.kX (by rw[←em]; exact d);have y:pl l:=⟨j,o0,k1,hl0⟩
    obtain⟨o',w1,w2⟩:=W;rw[Hin j]at w1;obtain⟨o1,r3,rfl⟩:=dR.1 w1;obtain⟨u,q1,q2⟩:=(vj (hu1' j o1 r3) _).1 w2;have hu:u=0:=by omega
    subst hu;obtain⟨⟨t,ht⟩,o2,s1,s2⟩:=g3.grow j l o0 k1 (by rw[←em]; exact d) ⟨o1,r3,q1⟩;have ht':r1 l=E.X.r l++t:=by
     rw[←r0p l y];exact ht
    refine⟨⟨t,by rw[show E'.X.r l=r' l from rfl,rp l y]; exact ht'⟩,o2.bY e j,?_,by rw[Wg]; exact s2⟩;rw[Hin j,show H'[j]? = some o2 from s1];rfl
   ·have I := aL h1
    rw[M]at I;have hnp:¬ pl l:=by
     rintro⟨j,o0,U,a2⟩;have j1:j<e.ids.length:=by rw[hk]; exact aL U
     obtain⟨_,oj,b1,b2,_⟩:=hobj0 j j1;have h3:=HE.uniq _ _ _ _ l h1 b2 (ab.kX d) (by rw[hlab j o0 oj U (by rw[←M]; exact b2),a2]);exact hi (h3▸hmem j j1)
    exact⟨⟨[],by rw[List.append_nil,show E'.X.r l=r' l from rfl,rn l hnp]⟩,o,by rw[Hout i hi I]; exact h1,d⟩
  ·by_cases hi : i ∈ e.ids
   ·obtain ⟨j, B, rfl⟩ := ny hi
    have hat':e.ids[j]=e.at j:=by
     have:=gN B;rw[bd B]at this;exact gh this
    rw[hat']at y⊢;obtain⟨o0,oo,h1,d,O,h3⟩:=hobj0 j B;obtain⟨o,h4,h5⟩:=y;rw[d]at h4;cases h4;have hj1:j<H'.length:=by omega
    have hbn':H'[j].born=true:=by
     have p0:E0.past j 0:=⟨o0,h1,O,fun v _=>dB v⟩
     obtain⟨o2,r1,r2⟩:=g3.past j _ p0;rw[show E1.H=H' from rfl,bd hj1]at r1;cases r1;exact r2.1
    refine⟨H'[j].bY e j,by rw[Hin j,bd hj1]; rfl,by rw[LI]; exact hbn',fun v W=>?_⟩;obtain⟨u,q1,rfl⟩:=(vj (hu1' j _ (bd hj1)) v).1 W;cases hz:o0.aF with
    | none =>
     have p0:E0.past j (u+1):=⟨o0,h1,O,fun v W=>by rw[hz]at W; cases W⟩
     obtain⟨o2,r1,r2⟩:=g3.past j _ p0;rw[show E1.H=H' from rfl,bd hj1]at r1;cases r1;have:=r2.2 u q1;omega
    | some u0 =>
     have p0:E0.past j u0:=⟨o0,h1,O,fun v W=>by rw[hz]at W; cases W; exact aH _⟩
     obtain⟨o2,r1,r2⟩:=g3.past j _ p0;rw[show E1.H=H' from rfl,bd hj1]at r1;cases r1;have:=r2.2 u q1;have:=h5.2 (u0+e.up j) ((h3 _).2 ⟨u0,hz,rfl⟩);omega
   ·obtain ⟨o, h1, d⟩ := y
    have I:=aL h1;rw[M]at I;exact⟨o,by rw[Hout i hi I]; exact h1,d⟩
  ·rcases own' b h' with h | ⟨i, c, _, d⟩ | ⟨l, k, c, _, d⟩
   ·exact g3.own b I (fun h=>ho (hown0 b h)) h
   ·exact ho (.inl ⟨i,c,d⟩)
   ·exact ho (.inr ⟨l,k,c,d⟩)
  ·have I:i<H.length:=by
    obtain⟨o,h1,_⟩:=y;have:=aL h1
    rwa [M]at this
   by_cases hi:i∈e.ids
   ·obtain ⟨j, B, rfl⟩ := ny hi
    have hat':e.ids[j]=e.at j:=by
     have:=gN B;rw[bd B]at this;exact gh this
    rw[hat']at y hl⊢;obtain⟨o',r1,r2⟩:=hl;rw[Hin j]at r1;obtain⟨o1,r3,rfl⟩:=dR.1 r1;obtain⟨u,q1,rfl⟩:=(vj (hu1' j o1 r3) _).1 r2;have p0:=hpin j u y;obtain⟨⟨o0,s1,s2⟩,s3⟩:=g3.live j u p0 ⟨o1,r3,q1⟩;obtain⟨o0',oo,h1,d,O,h3⟩:=hobj0 j B;rw[show E0.H=H0 from rfl,h1]at s1;cases s1;refine⟨⟨_,d,(h3 _).2 ⟨u,s2,rfl⟩⟩,?_⟩;rw[fj j,←hloc0 j B];exact s3
   ·obtain ⟨o', r1, r2⟩ := hl
    rw[Hout i hi I]at r1;exact⟨⟨o',r1,r2⟩,Lout i hi I⟩
  ·by_cases y : pl l
   ·have := g3.rl l k (by show k < (r0 l).length; rw [r0p l y]; exact J)
    rw[show E0.X.r l=r0 l from rfl,r0p l y]at this;rw[show E'.X.r l=r' l from rfl,rp l y];exact this
   ·rw [show E'.X.r l = r' l from rfl, rn l y]
    exact⟨J,fun _ V=>V⟩
 have lab':∀(j:Nat) o l,H'[j]? = some o→o.label=some l→pl l:=fun j o l h1 d=>by
  obtain⟨o0,U,a2⟩:=hlab1 j o l h1 d;exact⟨j,o0,U,a2⟩
 have labIn:∀(j:Nat) o l,H0[j]? = some o→o.label=some l→∃ o',E.H[e.at j]? = some o'∧o'.label=some l∧e.at j∈e.ids:=fun j o l h1 d=>by
  have j1:j<e.ids.length:=by rw[hk]; exact aL h1
  obtain⟨_,oj,b1,b2,_⟩:=hobj0 j j1;exact⟨oj,b2,by rw[hlab j o oj h1 (by rw[←M]; exact b2),d],hmem j j1⟩
 have labOut:∀(i:Nat) o l,i∉e.ids→E.H[i]? = some o→o.label=some l→¬ pl l:=fun i o l hi h1 d ⟨j,o0,U,a2⟩=>by
  obtain⟨o',b1,b2,b3⟩:=labIn j o0 l U a2;have:=HE.uniq _ _ _ _ l h1 b1 d b2;exact hi (this▸b3)
 have satOut:∀(l k b m:Nat),¬ pl l→(E.X.r l)[k]? = some (some (some (b,m)))→¬ E0.own b:=by
  rintro l k b m y h1 (⟨id,c',hid⟩|⟨l',k',c,J⟩)
  ·have I := aL hid
   rw[show E0.loc=loc0 from rfl]at hid I;rw[hlen0]at I;rw[hloc0 id I]at hid;exact HE.cN _ _ _ _ _ _ hid h1
  ·obtain ⟨q1, q2⟩ := r0n l' k' _ J
   exact y ((HE.eS _ _ _ _ _ _ _ h1 q2).1▸q1)
 refine⟨c,_,_,rfl,⟨rfl,rfl⟩,loc',r',DG hout v' hSv g1,?_,hle⟩;refine⟨?_,?_,?_,fun b N=>dy (HE.X b N) g3.size,?_,HE.fh.bD hle.toC,?_,?_,?_,?_,?_⟩
 ·simp only[loc',ow,dV,ot,List.length_drop,DH,hElen,hlen1]
 ·intro i j b m n hi B
  rcases ox (e:=e) hbL hi with⟨i1,_,i3⟩|⟨R,rfl⟩<;>rcases ox (e:=e) hbL B with⟨j1,_,j3⟩|⟨j',rfl⟩
  ·exact HE.inj _ _ _ _ _ i3 j3
  ·rw [fj j'] at B
   exact(g3.own b (HE.lt _ _ _ i3).1 (hout0 i b m i1 i3) (.inl ⟨j',n,B⟩)).elim
  ·rw [fj R] at hi
   exact(g3.own b (HE.lt _ _ _ j3).1 (hout0 j b n j1 j3) (.inl ⟨R,m,hi⟩)).elim
  ·rw [fj R] at hi
   rw[fj j']at B;rw[g2.inj _ _ _ _ _ hi B]
 ·intro i b m hi
  rcases ox (e:=e) hbL hi with⟨i1,_,i3⟩|⟨R,rfl⟩
  ·exact⟨dy (HE.lt _ _ _ i3).1 g3.size,(HE.lt _ _ _ i3).2⟩
  ·rw [fj R] at hi
   exact⟨(g2.lt _ _ _ hi).1,fun N=>(g2.lt _ _ _ hi).2 (Or.inl N)⟩
 ·intro i o hi
  have hi':=hi;unfold ow at hi';rcases ox (e:=e) hb hi' with⟨i1,i2,i3⟩|⟨j,rfl⟩
  ·refine j6 (E := E) (fun a _ hr => bK hle a hr) (Lout i i1 i2) (fun b n O => ?_) (fun l hl => ?_) (HE.obj i o (by rw [M]; exact i3))
   ·exact g3.same b (HE.lt _ _ _ O).1 (hout0 i b n i1 O)
   ·have y := labOut i o l i1 (by rw [M]; exact i3) hl
    exact⟨rn l y,fun k g m h1=>g3.same g (HE.cn _ _ _ _ h1).1 (satOut l k g m y h1)⟩
  ·have h1 := Hin j
   rw[show E'.H=ow e H H' from rfl,hi]at h1;obtain⟨o1,d,rfl⟩:=dR.1 h1.symm;exact Wh hout (fun e=>bO.1 (hSo e) o1 (fa d)) (fj j) (fun _ _ _=>rfl) (fun l hl=>⟨rp l (lab' j o1 l d hl),fun _ _ _ _=>rfl⟩) (g2.obj j o1 d)
 ·intro l k l' k' b m n h1 d
  have h1:(r' l)[k]? = some (some (some (b,m))):=h1;have d:(r' l')[k']? = some (some (some (b,n))):=d;by_cases y:pl l<;>by_cases hp':pl l'
  ·rw [rp l y] at h1
   rw[rp l' hp']at d;exact g2.eS l k l' k' b m n h1 d
  ·rw [rp l y] at h1
   rw[rn l' hp']at d;exact((g2.cn l k b m h1).2 (.inr (.inr ⟨l',k',n,hp',d⟩))).elim
  ·rw [rn l y] at h1
   rw[rp l' hp']at d;exact((g2.cn l' k' b n d).2 (.inr (.inr ⟨l,k,m,y,h1⟩))).elim
  ·rw [rn l y] at h1
   rw[rn l' hp']at d;exact HE.eS l k l' k' b m n h1 d
 ·intro i b m l k n hi h1
  have h1:(r' l)[k]? = some (some (some (b,n))):=h1;rcases ox (e:=e) hbL hi with⟨i1,_,i3⟩|⟨R,rfl⟩
  ·by_cases y : pl l
   ·rw [rp l y] at h1
    exact g3.own b (HE.lt _ _ _ i3).1 (hout0 i b m i1 i3) (.inr ⟨l,k,n,h1⟩)
   ·rw [rn l y] at h1
    exact HE.cN _ _ _ _ _ _ i3 h1
  ·rw [fj R] at hi
   by_cases y:pl l
   ·rw [rp l y] at h1
    exact g2.cN _ _ _ _ _ _ hi h1
   ·rw [rn l y] at h1
    exact(g2.lt _ _ _ hi).2 (.inr (.inr ⟨l,k,n,y,h1⟩))
 ·intro l k b m h1
  have h1:(r' l)[k]? = some (some (some (b,m))):=h1;by_cases y:pl l
  ·rw [rp l y] at h1
   exact⟨(g2.cn _ _ _ _ h1).1,fun N=>(g2.cn _ _ _ _ h1).2 (.inl N)⟩
  ·rw [rn l y] at h1
   exact⟨dy (HE.cn _ _ _ _ h1).1 g3.size,(HE.cn _ _ _ _ h1).2⟩
 ·have inn:∀ (j:Nat) o,E'.H[e.at j]? = some o→∃ o1,H'[j]? = some o1∧o.label=o1.label:=fun j o h=>by
   rw[Hin j]at h;obtain⟨o1,d,rfl⟩:=dR.1 h;exact⟨o1,d,LJ e j o1⟩
  intro i j o o' l hi B h1 d;have hi':=hi;have hj':=B;unfold ow at hi' hj';rcases ox (e:=e) hb hi' with⟨i1,i2,i3⟩|⟨R,rfl⟩<;>rcases ox (e:=e) hb hj' with⟨j1,j2,j3⟩|⟨j',rfl⟩
  ·exact HE.uniq i j o o' l (by rw[M]; exact i3) (by rw[M]; exact j3) h1 d
  ·obtain ⟨o1, U, a2⟩ := inn j' o' B
   exact(labOut i o l i1 (by rw[M]; exact i3) h1 (lab' j' o1 l U (by rw[←a2,d]))).elim
  ·obtain ⟨o1, U, a2⟩ := inn R o hi
   exact(labOut j o' l j1 (by rw[M]; exact j3) d (lab' R o1 l U (by rw[←a2,h1]))).elim
  ·obtain ⟨o1, U, a2⟩ := inn R o hi
   obtain⟨o2,b1,b2⟩:=inn j' o' B;rw[g2.uniq R j' o1 o2 l U b1 (by rw[←a2,h1]) (by rw[←b2,d])]
 ·intro l hnl k q V
  have V:(r' l)[k]? = some (some q):=V;by_cases y:pl l
  ·rw [rp l y] at V
   refine g2.gk l (fun j o h1 d=>?_) k q V;refine hnl (e.at j) (o.bY e j) ?_ (by rw[LJ,d]);rw[Hin j,show H'[j]? = some o from h1];rfl
  ·rw [rn l y] at V
   refine HE.gk l (fun i o h1 d=>?_) k q V;have I:=aL h1;rw[M]at I;by_cases hi:i∈e.ids
   ·obtain ⟨j, B, rfl⟩ := ny hi
    have hat':e.ids[j]=e.at j:=by
     have:=gN B;rw[bd B]at this;exact gh this
    rw[hat']at h1;obtain⟨o0,oo,U,a2,_⟩:=hobj0 j B;rw[h1]at a2;cases a2;exact y ⟨j,o0,U,by rw[←hlab j o0 o U (by rw[←M]; exact h1),d]⟩
   ·exact hnl i o (by rw[Hout i hi I]; exact h1) d
end Go.AL
