/-
 What is proved here: owned objects of data,and what operations do to them,with what must hold so that they do it. No program in sight; no condition.
-/
import Derived.Test.YtopnkdaoanlaiaaGreatDoorMB
import Derived.Eval
import Derived.KernelRfl
set_option linter.all false
open Bool renaming and_eq_true→aw,false_eq_true→mU,not_eq_true'→jD,or_eq_true→lW,eq_iff_iff→j7
open ByteArray renaming empty→x4
open Decidable renaming byContradiction→IY
open Go.Op renaming operands→f_
open Go.Utf8 renaming decode→og
open Go.Value.slice renaming injEq→j0
open List renaming length_map→bF,mem_map→bR,getElem?_map→cq,getElem?_append_left→dz,getElem?_append_right→gx,getElem?_set_ne→bH,all_eq_true→dX,getElem?_eq_getElem→bE,getD_eq_getElem?_getD→cH,getElem?_drop→rY,mem_cons→bI,mem_of_getElem?→fK,map_cons→dA,take_append_drop→uK,length_append→fD,mem_append→bV,replicate→cI,all_cons→m_,mem_cons_self→cZ,mem_cons_of_mem→cU,take_of_length_le→Tb,mem_filterMap→Th,nodup_cons→jG,map_set→Cu,headD_cons→oq,length_nil→kY,map_nil→sa,length→uS,getElem_of_mem→yj,getElem?_inj→I0
open Nat renaming le_refl→aI,lt_of_lt_of_le→dN,lt_or_ge→jZ,zero_add→dO,sub_zero→jC,beq→ab,zero_le→j5,eq_of_beq_eq_true→bt,sub_self→r9,ble→cR,blt→eE,ble_eq→yi,blt_eq→gB,le_of_ble_eq_true→j9,mul_one→IZ,lt_succ_of_lt→lZ,lt_succ_self→Cv,lt_irrefl→Cw
open Option renaming map_eq_some_iff→ft,isSome_none→S3,map_some→iZ,map_none→Tj,isSome_some→Tk
open Option.some renaming injEq→aT,inj→ow
open Prod.mk renaming injEq→aZ
namespace Go.AL
open Go
variable [Dr]
def bD:Int→Bool
 |.ofNat _=>true
 |.negSucc _=>false
def bM:Int→Int→Bool
 |.ofNat x,.ofNat y=>cR x y
 |.ofNat _,.negSucc _=>false
 |.negSucc _,.ofNat _=>true
 |.negSucc x,.negSucc y=>cR y x
def aB:Int→Int→Bool
 |.ofNat x,.ofNat y=>eE x y
 |.ofNat _,.negSucc _=>false
 |.negSucc _,.ofNat _=>true
 |.negSucc x,.negSucc y=>eE y x
def az(n:Int):Bool:=bM (-9223372036854775808) n&&bM n 9223372036854775807
theorem ls(n:Int):bD n=decide (0≤n):=by
 cases n with
 |ofNat x=>simp[bD]
 |negSucc x=>simp[bD]
theorem er(a b:Int):bM a b=decide (a≤b):=by
 rw[j7];cases a<;>cases b<;>simp[bM,yi]<;>(try omega)
theorem dT(a b:Int):aB a b=decide (a<b):=by
 rw[j7];cases a<;>cases b<;>simp[aB,gB]<;>(try omega)
theorem Kn{n:Int}:az n=true ↔ -9223372036854775808≤n∧n≤9223372036854775807:=by
 simp[az,er]
def g0(r:List G):G:=r.headD default
def gi:List G→Nat→G
 |r,0=>r.headD default
 |r,i+1=>gi r.tail i
def G.row(g:G):List G:=g.rows.headD []
def lu:Kd→G→G→Bool
 |.int _,a,b=>a.int==b.int
 |.str,a,b=>a.str.toList==b.str.toList
 |.bool,a,b=>a.bool==b.bool
 |.list _,_,_=>false
def aF:List Kd→List G→List G→Bool
 | [],_,_=>true
 |k::ks,r,s=>lu k (r.headD default) (s.headD default)&&aF ks r.tail s.tail
inductive Ct where
 |one (k:Kd)
 |agg (ks:List Kd)
 deriving Inhabited
def Ct.ks:Ct→List Kd
 |.one k=>[k]
 |.agg ks=>ks
def Ct.av:Ct→List G→AV
 |.one k,r=>ib k (r.headD default)
 |.agg ks,r=>.agg (aD ks r)
theorem Ct.zd(k:Ct)(r:List G):(k.av r).closed=true:=by
 cases k with
 |one k=>cases k<;>rfl
 |agg ks=>simp only[Ct.av,AV.closed,fL]
inductive ak where
 |raw (o:af)
 |vec (ks:List Kd) (ae:Nat) (rows:List (List G))
 |map (K V:Ct) (rows:List (List G)) (clock:Nat)
 |a7 (l:Nat) (K:Ct) (ks:List Kd) (rows:List (List G)) (clock:Nat)
def cN(K V:Ct)(rows:List (List G)):List (AV × AV × Nat):=rows.map fun r=>(K.av (gi r 0).row,V.av (gi r 1).row,(gi r 2).int.toNat)
def lv(r:List G):List (List G):=((gi r 1).row.headD default).rows
def jL(K:Ct)(ks:List Kd)(r:List G):AV × Option (List (List AV)) × Nat:=(K.av (gi r 0).row,(bif (gi r 3).bool then some ((lv r).map (aD ks)) else none),(gi r 2).int.toNat)
def gj(K:Ct)(ks:List Kd)(rows:List (List G)):List (AV × Option (List (List AV)) × Nat):=rows.map (jL K ks)
def ak.den:ak→af
 |.raw o=>o
 |.a7 l K ks rows clock=>.a7 l ks.length (gj K ks rows) clock
 |.map K V rows clock=>.map (cN K V rows) clock
 |.vec ks ae rows=>.vec ks.length ae (rows.map (aD ks))
def aj(H:List ak):List af:=H.map ak.den
structure al where
 fr:List AV
 H:List ak
def al.den(s:al):St:=⟨s.fr,aj s.H⟩
def al.eval(s:al)(o:Operand):AV:=St.eval ⟨s.fr,[]⟩ o
def al.put(s:al)(dst:Option Tmp)(v:AV)(H':List ak):al:=⟨je s.fr dst v,H'⟩
theorem al.nv(s:al):s.den.eval=s.eval:=by
 funext o
 cases o<;>rfl
theorem bl{H:List ak}{id:Nat}{o:ak}(h:H[id]? = some o):(aj H)[id]? = some o.den:=by simp[aj,h]
theorem eu(H:List ak)(id:Nat)(o:ak):aj (H.set id o)=(aj H).set id o.den:=by simp[aj,Cu]
theorem im(H:List ak)(o:ak):aj (H++[o])=aj H++[o.den]:=by simp[aj]
theorem dU(H:List ak):(aj H).length=H.length:=by simp[aj]
mutual
def Kd.same:Kd→Kd→Bool
 |.int k,.int k'=>decide (k=k')
 |.str,.str=>true
 |.bool,.bool=>true
 |.list ks,.list d=>Kd.gF ks d
 |_,_=>false
def Kd.gF:List Kd→List Kd→Bool
 | [],[]=>true
 |k::ks,k'::d=>k.same k'&&Kd.gF ks d
 |_,_=>false
end
mutual
theorem Kd.qw:∀{k k':Kd},k.same k'=true→k=k'
 |.int k,.int k',h=>by simp[Kd.same]at h; rw[h]
 |.str,.str,_=>rfl
 |.bool,.bool,_=>rfl
 |.list ks,.list d,h=>by simp only[Kd.same]at h; rw[Kd.iO h]
 |.int _,.str,h | .int _,.bool,h | .int _,.list _,h | .str,.int _,h | .str,.bool,h | .str,.list _,h=>by simp[Kd.same]at h
 |.bool,.int _,h | .bool,.str,h | .bool,.list _,h | .list _,.int _,h | .list _,.str,h | .list _,.bool,h=>by simp[Kd.same]at h
theorem Kd.iO:∀{k k':List Kd},Kd.gF k k'=true→k=k'
 | [],[],_=>rfl
 |k::ks,k'::d,h=>by simp only[Kd.gF,aw]at h; rw[Kd.qw h.1,Kd.iO h.2]
 | [],_::_,h|_::_,[],h=>by simp[Kd.gF]at h
end
def Ct.same:Ct→Ct→Bool
 |.one k,.one k'=>k.same k'
 |.agg ks,.agg d=>Kd.gF ks d
 |_,_=>false
theorem Ct.qw{K d:Ct}(h:K.same d=true):K=d:=by
 cases K<;>cases d<;>simp only[Ct.same]at h
 ·rw[Kd.qw h]
 ·cases h
 ·cases h
 ·rw[Kd.iO h]
def vu:Kd→AV→Option G
 |.int k,.lit (.int k' n)=>if k=k' then some (.i n) else none
 |.str,.lit (.string s)=>some (.s s)
 |.bool,.lit (.bool b)=>some (.t b)
 |.list ks,.listF d rows=>if Kd.gF ks d then some (.l rows) else none
 |_,_=>none
def fQ:List Kd→List AV→Option (List G)
 | [],[]=>some []
 | k::ks,a::as=>match vu k a,fQ ks as with
  |some g,some gs=>some (g::gs)
  |_,_=>none
 |_,_=>none
def nw(ks:List Kd):List (List AV)→Option (List (List G))
 | []=>some []
 | r::rs=>match fQ ks r,nw ks rs with
  |some g,some gs=>some (g::gs)
  |_,_=>none
theorem DI{k:Kd}{a:AV}{g:G}(h:vu k a=some g):ib k g=a:=by
 unfold vu at h;split at h
 ·split at h
  ·rename_i e; cases h; subst e; rfl
  ·cases h
 ·cases h; rfl
 ·cases h; rfl
 ·split at h
  ·rename_i e; cases h; rw[Kd.iO e]; rfl
  ·cases h
 ·cases h
theorem kp:∀{ks:List Kd} {as:List AV} {gs:List G},fQ ks as=some gs→aD ks gs=as
 | [],[],_,h=>by simp[fQ]at h; subst h; rfl
 | k::ks,a::as,gs,h=>by
  simp only[fQ]at h;split at h
  ·rename_i g q h1 d
   cases h;simp[aD,DI h1,kp d]
  ·cases h
 | [],_::_,_,h|_::_,[],_,h=>by simp[fQ]at h
theorem Ko:∀{ks:List Kd} {as:List AV} {gs:List G},fQ ks as=some gs→gs.length=ks.length∧as.length=ks.length
 | [],[],_,h=>by simp[fQ]at h; subst h; exact⟨rfl,rfl⟩
 | k::ks,a::as,gs,h=>by
  simp only[fQ]at h;split at h
  ·rename_i g q h1 d
   cases h;have:=Ko d;simp[this.1,this.2]
  ·cases h
 | [],_::_,_,h|_::_,[],_,h=>by simp[fQ]at h
theorem sZ{ks:List Kd}:∀{rs:List (List AV)} {gs:List (List G)},nw ks rs=some gs→gs.map (aD ks)=rs
 | [],_,h=>by simp[nw]at h; subst h; rfl
 | r::rs,gs,h=>by
  simp only[nw]at h;split at h
  ·rename_i g k h1 d
   cases h;simp[kp h1,sZ d]
  ·cases h
def vw:AV→Option Kd
 |.lit (.int k _)=>some (.int k)
 |.lit (.string _)=>some .str
 |.lit (.bool _)=>some .bool
 |.listF ks _=>some (.list ks)
 |_=>none
def qx:List AV→Option (List Kd)
 | []=>some []
 | a::as=>match vw a,qx as with
  |some k,some ks=>some (k::ks)
  |_,_=>none
def qy:List Kd→List G→List G
 | [],_=>[]
 |_::ks,r=>r.headD default::qy ks r.tail
theorem DJ:∀(ks:List Kd) (r:List G),(qy ks r).length=ks.length
 | [],_=>rfl
 |_::ks,r=>by simp[qy,DJ ks]
def fh(ks:List Kd)(r:List G)(col:Nat)(gs:List G):List G:=(qy ks r).take col++gs++(qy ks r).drop (col+gs.length)
theorem Kp:∀(ks:List Kd) (r:List G) (n:Nat),(aD ks r).take n=aD (ks.take n) r
 | [],_,n=>by simp[aD]
 |_::_,_,0=>by simp[aD]
 |k::ks,r,n+1=>by simp[aD,Kp ks]
theorem Kq:∀(ks:List Kd) (r:List G) (n:Nat),(aD ks r).drop n=aD (ks.drop n) (r.drop n)
 | [],_,n=>by simp[aD]
 |_::_,_,0=>by simp
 |k::ks,r,n+1=>by simp[aD,Kq ks]
theorem DK:∀(ks d:List Kd) (r r':List G),r.length=ks.length→aD (ks++d) (r++r')=aD ks r++aD d r'
 | [],d,r,r',h=>by
  have:r=[]:=List.length_eq_zero_iff.1 h;subst this;simp[aD]
 | k::ks,d,r,r',h=>by
  cases r with
  |nil=>simp at h
  |cons x r=>simp[aD,DK ks d r r' (by simpa using h)]
theorem DL:∀(ks:List Kd) (r:List G),aD ks (qy ks r)=aD ks r
 | [],_=>rfl
 |k::ks,r=>by simp[aD,qy,DL ks]
theorem Vi{ks:List Kd}{r gs:List G}{cs:List AV}{col:Nat} (h:fQ ((ks.drop col).take cs.length) cs=some gs) (hc:col+cs.length≤ks.length) :
  aD ks (fh ks r col gs)=putCells (aD ks r) cs col:=by
 obtain⟨h1,q⟩:=Ko h;have hlen:((ks.drop col).take cs.length).length=cs.length:=by simp; omega
 have d:gs.length=cs.length:=by omega
 have hk:ks=(ks.take col++(ks.drop col).take cs.length)++ks.drop (col+cs.length):=by
  rw[List.append_assoc,←List.drop_drop,uK,uK]
 unfold fh putCells;have hn:=DJ ks r
 conv=>lhs; arg 1; rw[hk]
 rw[DK _ _ _ _ (by simp[hn,d]; omega),DK _ _ _ _ (by simp[hn]),kp h,d];congr 1
 ·congr 1
  rw[←DL ks r,Kp];have:∀(ks:List Kd) (r:List G) (n:Nat),ks.length≤n→aD ks (r.take n)=aD ks r:=by
   intro ks
   induction ks with
   |nil=>intros; rfl
   | cons k ks g =>
    intro r n hn;cases n with
    |zero=>simp at hn
    | succ n =>
     cases r with
     |nil=>rfl
     |cons x r=>simp[aD,g r n (by simpa using hn)]
  exact this _ _ _ (by simp; omega)
 ·conv => rhs; rw [← DL ks r]
  rw[Kq]
end Go.AL

namespace Go.AL
open Go
variable [Dr]
theorem DM{ks:List Kd}{rows:List (List G)}{row:Nat}(h:row<rows.length):(rows.map (aD ks))[row]? = some (aD ks (rows.getD row [])):=by
 rw[cq,cH,bE h];rfl
def DN(P:Program)(t:TypeId)(x:AV)(H:List ak):Option (Bool × AV) :=
 match x with
 | .ptr id ae w row col=>match H[id]? with
  | some (.vec ks v rows)=>match eo P t with
   | some (n,agg)=>if ae=v∧ks.length=w then (match fM agg n ((aD ks (rows.getD row [])).drop col) with
     |some u=>some (decide (row<rows.length),u)
     |none=>none) else none
   |none=>none
  | some (.raw (.box cells))=>match eo P t with
   | some (n,agg)=>if ae=0∧row=0 then (match fM agg n (cells.drop col) with
     |some u=>some (true,u)
     |none=>none) else none
   |none=>none
  |_=>none
 | .cptr cells=>match eo P t with
  | some (n,agg)=>match fM agg n cells with
   |some u=>some (true,u)
   |none=>none
  |none=>none
 |_=>none
theorem Vj{P:Program}{t:TypeId}{x:AV}{H:List ak}{b:Bool}{u:AV}(h:DN P t x H=some (b,u))(q:b=true):fN P t x (aj H)=some u:=by
 unfold DN at h;unfold fN;split at h
 ·rename_i id ae w row col
  split at h
  ·rename_i ks v rows hid
   split at h
   case h_2=>cases h
   rename_i n agg d;split at h
   case isFalse=>cases h
   rename_i hc;split at h
   case h_2=>cases h
   rename_i k g;simp only[aT,aZ]at h;obtain⟨h1,rfl⟩:=h;subst q;simp only[decide_eq_true_eq]at h1;rw[d];simp only[bl hid,ak.den];rw[if_pos ⟨hc.1,hc.2⟩,DM h1];exact g
  ·rename_i cells hid
   split at h
   case h_2=>cases h
   rename_i n agg d;split at h
   case isFalse=>cases h
   rename_i hc;split at h
   case h_2=>cases h
   rename_i k g;cases h;rw[d];simp only[bl hid,ak.den];rw[if_pos hc];exact g
  ·cases h
 ·rename_i cells
  split at h
  case h_2=>cases h
  rename_i n agg d;split at h
  case h_2=>cases h
  rename_i k g;cases h;rw[d];exact g
 ·cases h
def s7(P:Program)(t:TypeId)(x v:AV)(H:List ak):Option (Bool × List ak) :=
 match eo P t,qi v,x with
 | some (n,_),some cs,.ptr id ae w row col =>
  if cs.length=n then
   match H[id]? with
   |some (.raw (.box cells))=>if ae=0∧row=0∧col+n≤cells.length then some (true,H.set id (.raw (.box (putCells cells cs col)))) else none
   | some (.vec ks u rows) =>
    if ae=u∧ks.length=w∧col+cs.length≤ks.length then
     match fQ ((ks.drop col).take cs.length) cs with
     |some gs=>some (decide (row<rows.length),H.set id (.vec ks u (rows.set row (fh ks (rows.getD row []) col gs))))
     |none=>none
    else none
   |_=>none
  else none
 |_,_,_=>none
theorem Kr{P:Program}{t:TypeId}{x v:AV}{H H':List ak}{b:Bool}(h:s7 P t x v H=some (b,H'))(q:b=true):sG P t x v (aj H)=some (aj H'):=by
 unfold s7 at h;unfold sG;split at h
 case h_2=>cases h
 rename_i n F cs id ae w row col A g;rw[A,g];simp only[];split at h
 case isFalse=>cases h
 rename_i hn;rw[if_pos hn];split at h
 ·rename_i cells hid
  split at h
  case isFalse=>cases h
  rename_i hc;cases h;simp only[bl hid,ak.den];rw[if_pos hc,eu];rfl
 ·rename_i ks u rows hid
  split at h
  case isFalse=>cases h
  rename_i hc;obtain⟨c1,c2,B⟩:=hc;split at h
  case h_2=>cases h
  rename_i gs d;simp only[aT,aZ]at h;obtain⟨h1,rfl⟩:=h;subst q;simp only[decide_eq_true_eq]at h1;simp only[bl hid,ak.den];have k:AV.bf cs=true:=by rw[←kp d]; exact fL _ _
  rw[if_pos ⟨c1,c2,k⟩,DM h1];simp only[qf];rw[if_pos (by omega),eu];simp only[ak.den,Cu];rw[Vi d B]
 ·cases h
def vz(sz:Nat)(x:AV)(H:List ak)(want:Option (List Kd)):Option (Bool × List Kd × List (List G)) :=
 match x with
 | .nils | .lit (.slice none 0 0)=>match want with
  |some ks=>some (true,ks,[])
  |none=>none
 | .emptyS _=>match want with
  |some ks=>some (true,ks,[])
  |none=>none
 |.listF ks rows=>if ks.length=sz then some (true,ks,rows) else none
 | .list w rows=>match (match want with | some ks=>some ks | none=>qx (rows.headD [])) with
  | some ks=>match nw ks rows with
   |some gs=>if w=sz then some (true,ks,gs) else none
   |none=>none
  |none=>none
 | .vec w id ae off n=>match H[id]? with
  |some (.vec ks v rows)=>if w=sz∧ks.length=w∧v=ae∧off=0 then some (ab n rows.length,ks,rows) else none
  |_=>none
 |.lit (.string s)=>if sz=1 then some (true,[.int .u8],s.data.toList.map fun b=>[.i b.toNat]) else none
 |_=>none
theorem Ks{sz:Nat}{x:AV}{H:List ak}{want:Option (List Kd)}{b:Bool}{ks:List Kd}{rows:List (List G)}(h:vz sz x H want=some (b,ks,rows))(d:b=true) :
  lh sz x (aj H)=some (rows.map (aD ks)):=by
 unfold vz at h;split at h
 ·split at h
  ·cases h; rfl
  ·cases h
 ·split at h
  ·cases h; rfl
  ·cases h
 ·split at h
  ·cases h; rfl
  ·cases h
 ·split at h
  ·rename_i hw; cases h; simp only[lh]; rw[if_pos hw]
  ·cases h
 ·split at h
  ·split at h
   ·rename_i gs g
    split at h
    ·rename_i hw; cases h; simp only[lh]; rw[if_pos hw,sZ g]
    ·cases h
   ·cases h
  ·cases h
 ·rename_i w id ae off n
  split at h
  ·rename_i A v rows' hid
   split at h
   ·rename_i hc
    obtain⟨c1,c2,k,rfl⟩:=hc;simp only[aT,aZ]at h;obtain⟨h1,rfl,rfl⟩:=h;subst d;have h1:=bt h1;simp only[lh,bl hid,ak.den];rw[if_pos ⟨c1,c2,k,by simp; omega⟩];simp only[List.drop_zero];rw[Tb (by simp; omega)]
   ·cases h
  ·cases h
 ·rename_i s
  split at h
  ·rename_i q
   cases h;simp only[lh];rw[if_pos q];simp[aD,ib,G.int]
  ·cases h
 ·cases h
def DO:SK→Bool
 |.slice _ _ _ | .str=>true
 |_=>false
theorem DP{P:Program}{t xt:TypeId}{s x:AV}{H:List af}{e sz bK:Nat}{z:List Value}{new:List (List AV)}(hk:bY P t=.slice e sz bK)(g:eF P e=some z)
  (d : DO (bY P xt) = true) (hr : lh sz x H = some new) (hc : z.length = sz ∧ new.length ≤ 1048576 ∧ bK ≤ 1048576) : sE P t xt s x H =
   match s with
    |.nils | .lit (.slice none 0 0)=>some (.vec sz H.length 0 0 new.length,H++[.vec sz 0 new])
    | .vec w id ae off n=>match H[id]? with
     | some (.vec k v rows) =>
      if k=w∧w=sz∧v=ae∧off=0∧n=rows.length∧rows.length+new.length≤1048576 then
       some (.vec w id (ae+1) 0 (n+new.length),H.set id (.vec k (ae+1) (rows++new)))
      else none
     |_=>none
    |_=>none:=by
 unfold sE;simp only[hk,g,hr];cases q:bY P xt<;>simp only[q,DO]at d⊢<;>first
  |(cases d; done)
  |(rw[if_pos hc]; rfl)
def ze(sz:Nat)(x:AV)(H:List ak)(z:List Value):Option (Bool × List Kd × List (List G)) :=
 match x with
 |.emptyS _=>vz sz x H (qx (z.map .lit))
 |_=>vz sz x H none
theorem Vk{sz:Nat}{x:AV}{H:List ak}{z:List Value}{b:Bool}{ks:List Kd}{rows:List (List G)}(h:ze sz x H z=some (b,ks,rows))(d:b=true) :
  lh sz x (aj H)=some (rows.map (aD ks)):=by
 unfold ze at h;split at h<;>exact Ks h d
def vA(P:Program)(t xt:TypeId)(s x:AV)(H:List ak):Option (Bool × AV × List ak) :=
 match bY P t with
 | .slice e sz bK =>
  match eF P e,DO (bY P xt)with
  | some z,true =>
   if z.length=sz∧bK≤1048576 then
    match s with
    | .nils | .lit (.slice none 0 0)=>match ze sz x H z with
     |some (b,ks,new)=>if ks.length=sz then some (b&&decide (new.length≤1048576),.vec sz H.length 0 0 new.length,H++[.vec ks 0 new]) else none
     |none=>none
    | .vec w id ae off n=>match H[id]? with
     | some (.vec ks v rows)=>match vz sz x H (some ks) with
      | some (b,d,new) =>
       if ks.length=w∧w=sz∧v=ae∧off=0∧Kd.gF ks d=true then
        some (b&&(ab n rows.length&&decide (rows.length+new.length≤1048576)),.vec w id (ae+1) 0 (rows++new).length,H.set id (.vec ks (ae+1) (rows++new)))
       else none
      |none=>none
     |_=>none
    |_=>none
   else none
  |_,_=>none
 |_=>none
theorem Vl{P:Program}{t xt:TypeId}{s x v:AV}{H H':List ak}{b:Bool}(h:vA P t xt s x H=some (b,v,H'))(B:b=true) :
  sE P t xt s x (aj H)=some (v,aj H'):=by
 unfold vA at h;split at h
 case h_2=>cases h
 rename_i e sz bK hk;split at h
 case h_2=>cases h
 rename_i z q k;split at h
 case isFalse=>cases h
 rename_i hc;obtain⟨c1,c2⟩:=hc;have fresh:∀{b1:Bool} {ks:List Kd} {new:List (List G)},ze sz x H z=some (b1,ks,new) →
   (if ks.length=sz then some (b1&&decide (new.length≤1048576),AV.vec sz H.length 0 0 new.length,H++[ak.vec ks 0 new]) else none)=some (b,v,H') →
   ∃ rows,lh sz x (aj H)=some rows∧rows.length≤1048576∧v=.vec sz (aj H).length 0 0 rows.length∧aj H'=aj H++[.vec sz 0 rows]:=by
  intro b1 ks new d h;split at h
  case isFalse=>cases h
  rename_i I;simp only[aT,aZ]at h;obtain⟨h1,rfl,rfl⟩:=h;subst B;simp only[aw,decide_eq_true_eq]at h1;refine⟨_,Vk d h1.1,by simpa using h1.2,by simp[dU],?_⟩;rw[im,ak.den,I]
 split at h
 ·split at h
  case h_2=>cases h
  rename_i b1 ks new d;obtain⟨rows,g1,g2,g3,g4⟩:=fresh d h;rw[DP hk q k g1 ⟨c1,g2,c2⟩,g3,g4]
 ·split at h
  case h_2=>cases h
  rename_i b1 ks new d;obtain⟨rows,g1,g2,g3,g4⟩:=fresh d h;rw[DP hk q k g1 ⟨c1,g2,c2⟩,g3,g4];rfl
 ·rename_i w id ae off n
  split at h
  case h_2=>cases h
  rename_i ks W rows hid;split at h
  case h_2=>cases h
  rename_i b1 U new d;split at h
  case isFalse=>cases h
  rename_i J;obtain⟨F,M,N,O,A⟩:=J;have A:=Kd.iO A;subst A;simp only[aT,aZ]at h;obtain⟨h1,rfl,rfl⟩:=h;subst B;simp only[aw,decide_eq_true_eq]at h1;obtain⟨h1,g,R⟩:=h1;have g:=bt g;rw[DP hk q k (Ks d h1) ⟨c1,by simp; omega,c2⟩];simp only[bF,bl hid,ak.den];rw[if_pos ⟨F,M,N,O,g,R⟩,eu];simp only[ak.den,List.map_append,fD,g,F]
 ·cases h
def oR(len:Nat)(lo hi:Option AV):Option (Bool × Nat × Nat) :=
 match lo,hi with
 |none,none=>some (true,0,len)
 |some (.lit (.int _ l)),none=>some (bD l&&bM l (len:Int),l.toNat,len)
 |none,some (.lit (.int _ h))=>some (bD h&&bM h (len:Int),0,h.toNat)
 |some (.lit (.int _ l)),some (.lit (.int _ h))=>some (bD l&&(bM l h&&bM h (len:Int)),l.toNat,h.toNat)
 |_,_=>none
theorem zf{len:Nat}{lo hi:Option AV}{b:Bool}{l h:Nat}(d:oR len lo hi=some (b,l,h))(g:b=true):gf len lo hi=some (l,h):=by
 unfold oR at d;split at d
 ·cases d; simp[gf]
 ·rename_i l'
  simp only[aT,aZ]at d;obtain⟨h1,rfl,rfl⟩:=d;subst g;simp only[ls,er,aw,decide_eq_true_eq]at h1;simp[gf,kg,h1.1,h1.2]
 ·rename_i h'
  simp only[aT,aZ]at d;obtain⟨h1,rfl,rfl⟩:=d;subst g;simp only[ls,er,aw,decide_eq_true_eq]at h1;simp[gf,kg,h1.1,h1.2]
 ·rename_i l' _ h'
  simp only[aT,aZ]at d;obtain⟨h1,rfl,rfl⟩:=d;subst g;simp only[ls,er,aw,decide_eq_true_eq]at h1;simp[gf,kg,h1.1,h1.2.1,h1.2.2]
 ·cases d
def s8(rows:List (List G))(lo hi:Option AV)(l h:Nat):List (List G) :=
 match lo,hi with
 |none,none=>rows
 |some _,none=>rows.drop l
 |none,some _=>rows.take h
 |some _,some _=>(rows.drop l).take (h-l)
theorem Kt{rows:List (List G)}{lo hi:Option AV}{b:Bool}{l h:Nat}(d:oR rows.length lo hi=some (b,l,h)):s8 rows lo hi l h=(rows.drop l).take (h-l):=by
 unfold oR at d;split at d
 ·cases d; simp[s8]
 ·simp only [aT, aZ] at d
  obtain⟨h1,rfl,rfl⟩:=d;simp only[s8];rw[Tb (by simp)]
 ·simp only [aT, aZ] at d
  obtain⟨h1,rfl,rfl⟩:=d;simp[s8]
 ·rfl
 ·cases d
def DQ(P:Program)(t:TypeId)(x:AV)(lo hi mx:Option AV):Option (Bool × AV) :=
 match mx with
 | some _=>match lf P t x lo hi mx with
  |some v=>some (true,v)
  |none=>none
 | none=>match bY P t,x with
  | .str,.lit (.string s)=>match oR s.size lo hi with
   |some (b,l,h)=>some (b,.lit (.string (s.extract l h)))
   |none=>none
  | .slice _ sz _,.listF ks rows=>match oR rows.length lo hi with
   |some (b,l,h)=>if ks.length=sz then some (b,.listF ks (s8 rows lo hi l h)) else none
   |none=>none
  | .slice _ sz _,.vec w id ae off n=>match oR n lo hi with
   |some (b,l,h)=>if w=sz then some (b,.vec w id ae (off+l) (h-l)) else none
   |none=>none
  | .slice _ sz _,.list w rows=>match w,sw rows with
   | 1,some gs=>match oR gs.length lo hi with
    |some (b,l,h)=>if 1=sz then some (b,.listF [.str] (s8 gs lo hi l h)) else none
    |none=>none
   | _,_=>match lf P t x lo hi none with
    |some v=>some (true,v)
    |none=>none
  | _,_=>match lf P t x lo hi none with
   |some v=>some (true,v)
   |none=>none
theorem Vm{P:Program}{t:TypeId}{x v:AV}{lo hi mx:Option AV}{b:Bool}(h:DQ P t x lo hi mx=some (b,v))(k:b=true):lf P t x lo hi mx=some v:=by
 unfold DQ at h;split at h
 ·split at h
  ·rename_i u hu; cases h; exact hu
  ·cases h
 ·split at h
  ·rename_i s hk
   split at h
   case h_2=>cases h
   rename_i q l A d;simp only[aT,aZ]at h;obtain⟨h1,rfl⟩:=h;subst h1;simp[lf,hk,zf d k]
  ·rename_i e sz bK ks rows hk
   split at h
   case h_2=>cases h
   rename_i q l A d;split at h
   case isFalse=>cases h
   rename_i g;simp only[aT,aZ]at h;obtain⟨h1,rfl⟩:=h;subst h1;simp[lf,hk,zf d k,g,Kt d]
  ·rename_i e sz bK w id ae off n hk
   split at h
   case h_2=>cases h
   rename_i q l A d;split at h
   case isFalse=>cases h
   rename_i g;simp only[aT,aZ]at h;obtain⟨h1,rfl⟩:=h;subst h1;simp[lf,hk,zf d k,g]
  ·rename_i e sz bK w rows hk
   split at h
   ·rename_i gs B
    split at h
    case h_2=>cases h
    rename_i q l A d;split at h
    case isFalse=>cases h
    rename_i g;simp only[aT,aZ]at h;obtain⟨h1,rfl⟩:=h;subst h1;subst g;have F:rows.length=gs.length:=by rw[←CO B,bF]
    simp[lf,hk,F,zf d k,Kt d,yC,B]
   ·split at h
    ·rename_i u hu; cases h; exact hu
    ·cases h
  ·split at h
   ·rename_i u hu; cases h; exact hu
   ·cases h
def vB(P:Program)(t:TypeId)(l c:AV)(H:List ak):Option (Bool × AV × List ak) :=
 match bY P t,l,c with
 | .slice e sz bK,.lit (.int _ l),.lit (.int _ c) =>
  match eF P e with
  | some z=>match qx (yN P e z) with
   | some ks=>match fQ ks (yN P e z) with
    | some gs=>if z.length=sz∧0<sz∧bK≤1048576∧ks.length=sz then
      some (bD l&&(bM l c&&bM c 1048576),.vec sz H.length 0 0 l.toNat,H++[.vec ks 0 (cI l.toNat gs)]) else none
    |none=>none
   |none=>none
  |none=>none
 |_,_,_=>none
theorem Vn{P:Program}{t:TypeId}{l c v:AV}{H H':List ak}{b:Bool}(h:vB P t l c H=some (b,v,H'))(g:b=true) :
  vc P t l c (aj H)=some (v,aj H'):=by
 unfold vB at h;unfold vc;split at h
 case h_2=>cases h
 rename_i e sz bK _ l _ c hk;rw[hk];simp only[];split at h
 case h_2=>cases h
 rename_i z k;split at h
 case h_2=>cases h
 rename_i ks B;split at h
 case h_2=>cases h
 rename_i gs d;split at h
 case isFalse=>cases h
 rename_i hc;obtain⟨c1,c2,q,A⟩:=hc;simp only[aT,aZ]at h;obtain⟨h1,rfl,rfl⟩:=h;subst g;simp only[ls,er,aw,decide_eq_true_eq]at h1;rw[k];simp only[];rw[if_pos ⟨c1,c2,h1.1,h1.2.1,h1.2.2,q⟩,im,dU,ak.den,A,List.map_replicate,kp d]
def vC(P:Program)(t:TypeId)(n:Nat)(parts:List (Nat × AV))(H:List ak):Option (Bool × AV × List ak) :=
 match bY P t with
 | .slice e _ _=>match eF P e with
  | some z=>match qx (z.map .lit) with
   | some ks=>match sI P t n parts with
    | some (.list sz rows)=>match nw ks rows with
     |some gs=>if ks.length=sz then some (true,.vec sz H.length 0 0 gs.length,H++[.vec ks 0 gs]) else none
     |none=>none
    |_=>none
   |none=>none
  |none=>none
 |_=>none
theorem Vo{P:Program}{t:TypeId}{n:Nat}{parts:List (Nat × AV)}{v:AV}{H H':List ak}{b:Bool}(h:vC P t n parts H=some (b,v,H')) :
  vh P t n parts (aj H)=some (v,aj H'):=by
 unfold vC at h;split at h
 case h_2=>cases h
 split at h
 case h_2=>cases h
 split at h
 case h_2=>cases h
 rename_i ks k;split at h
 case h_2=>cases h
 rename_i sz rows g;split at h
 case h_2=>cases h
 rename_i gs d;split at h
 case isFalse=>cases h
 rename_i hc;cases h;unfold vh;rw[g];have e:=sZ d;simp only[];rw[im,dU,ak.den,hc,e,←e,bF]
def Ct.read:Ct→AV→Option (List G)
 | .one k,a=>match vu k a with
  |some g=>some [g]
  |none=>none
 |.agg ks,.agg cells=>fQ ks cells
 |_,_=>none
theorem Ct.qz{K:Ct}{a:AV}{r:List G}(h:K.read a=some r):K.av r=a:=by
 unfold Ct.read at h;split at h
 ·split at h
  ·rename_i g d
   cases h;exact DI d
  ·cases h
 ·simp only[Ct.av,kp h]
 ·cases h
def vD(P:Program)(t:TypeId):Option (Ct × List G) :=
 match P.info? t with
 | some i=>match i.zero with
  | some (.agg cs)=>match cs.toList.all dB,qx (cs.toList.map .lit) with
   | true,some ks=>match fQ ks (cs.toList.map .lit) with
    |some gs=>some (.agg ks,gs)
    |none=>none
   |_,_=>none
  | some v=>match vw (.lit v) with
   | some k=>match vu k (.lit v) with
    |some g=>some (.one k,[g])
    |none=>none
   | none=>match jK P t,C' P t with
    |some (.lit (.slice none 0 0)),some ks=>some (.one (.list ks),[.l []])
    |_,_=>none
  |none=>none
 |none=>none
theorem Vp{P:Program}{t:TypeId}{v:AV}(h:jK P t=some v)(hn:v=.lit (.slice none 0 0)→False):oK P t=some v:=by
 unfold oK;rw[h];split
 ·rename_i e _
  cases e;exact(hn rfl).elim
 ·rename_i e _
  cases e;rfl
 ·rename_i e
  cases e
theorem Vq{P:Program}{t:TypeId}{V:Ct}{z:List G}(h:vD P t=some (V,z)):oK P t=some (V.av z):=by
 unfold vD at h;have q:∀ v,jK P t=some v→(v=.lit (.slice none 0 0)→False)→oK P t=some v:=fun v h hn=>Vp h hn;split at h
 case h_2=>cases h
 rename_i i hi;split at h
 ·rename_i cs d
  split at h
  ·rename_i ks h1 A
   split at h
   ·rename_i gs F
    cases h;refine q _ ?_ fun e=>by cases e
    unfold jK;rw[hi];simp only[];rw[d];simp only[AV.sq,h1,if_true,Ct.av,kp F]
   ·cases h
  ·cases h
 ·rename_i v B d
  split at h
  ·rename_i k hk
   split at h
   ·rename_i g I
    cases h;have e:=DI I;simp only[Ct.av,oq,e];refine q _ ?_ fun e=>by
     simp only[AV.lit.injEq]at e;subst e;simp[vw]at hk
    unfold jK;rw[hi];simp only[];rw[d];simp only[];unfold AV.sq;split
    ·rename_i cs; exact(B cs rfl).elim
    ·simp[vw]at hk
    ·rfl
   ·cases h
  ·split at h
   ·rename_i ks h1 A
    cases h;unfold oK;rw[h1,A];rfl
   ·cases h
 ·cases h
def zg:SK→Kd→Bool
 |.int k,.int k'=>decide (k=k')
 |.str,.str=>true
 |.bool,.bool=>true
 |_,_=>false
def kq:List SK→List Kd→Bool
 | [],[]=>true
 |a::as,b::d=>zg a b&&kq as d
 |_,_=>false
def kr(P:Program)(d:TypeId)(K:Ct):Bool :=
 match flatK P nl d with
 | some g=>kq g K.ks&&(match K with
  |.one _ => !nk (P.underlying d)
  |.agg _=>nk (P.underlying d))
 |none=>false
def oS:Kd→G→Value
 |.int k,g=>.int k g.int
 |.str,g=>.string g.str
 |.bool,g=>.bool g.bool
 |.list _,_=>.bool false
def du:List Kd→List G→List Value
 | [],_=>[]
 |k::ks,r=>oS k (r.headD default)::du ks r.tail
theorem Ku:∀{d:List SK} {ks:List Kd} (r:List G),kq d ks=true→nj (aD ks r)=some (du ks r)∧cM d (du ks r)=true
  | [],[],_,_=>⟨rfl,rfl⟩
  | a::as,k::ks,r,h=>by
    simp only[kq,aw]at h;obtain⟨h1,g⟩:=Ku r.tail h.2;have hk:=h.1;cases k<;>cases a<;>simp only[zg]at hk<;>first
      |(cases hk; done)
      | (simp only [aD, ib, nj, h1, du, oS, cM, g, Bool.and_true]
         simp_all[kindOk])
  | [],_::_,_,h|_::_,[],_,h=>by simp[kq]at h
theorem DR:∀{d:List SK} {ks:List Kd} (r s:List G),kq d ks=true→dJ (du ks r) (du ks s)=aF ks r s
 | [],[],_,_,_=>rfl
 | a::as,k::ks,r,s,h=>by
  simp only[kq,aw]at h;have g:=DR r.tail s.tail h.2;have hk:=h.1;simp only[du,dJ,aF,g];cases k<;>cases a<;>simp only[zg]at hk<;>first
   |(cases hk; done)
   |rfl
 | [],_::_,_,_,h|_::_,[],_,_,h=>by simp[kq]at h
theorem oT{P:Program}{g:TypeId}{K:Ct}(h:kr P g K=true)(r:List G):kl P g (K.av r)=some (du K.ks r):=by
 unfold kr at h;split at h
 case h_2=>cases h
 rename_i q A;simp only[aw]at h;obtain⟨h1,d⟩:=h;obtain⟨g1,g2⟩:=Ku r h1;unfold kl;rw[A];simp only[];cases K with
 | one k =>
  simp only[jD]at d;simp only[Ct.ks,du]at g2⊢;have e:ib k (r.headD default)=.lit (oS k (r.headD default)):=by
   simp only[Ct.ks]at h1;cases q with
   |nil=>simp[kq]at h1
   | cons a as =>
    simp only[kq,aw]at h1;have hk:=h1.1;cases k<;>cases a<;>simp only[zg]at hk<;>first
     |(cases hk; done)
     |rfl
  simp only[Ct.av,e,g2,d,and_self,if_true]
 | agg ks =>
  simp only[Ct.av,Ct.ks]at g1 g2⊢;simp only[g1,g2,d,and_self,if_true]
def dy(ks:List Kd)(key:List G):List (List G)→Nat→Option (Nat × List G)
 | [],_=>none
 |r::rs,i=>bif aF ks key (gi r 0).row then some (i,r) else dy ks key rs (i+1)
def bg(ks:List Kd)(rows:List (List G))(key:List G):Bool:=(dy ks key rows 0).isSome
def ch(ks:List Kd)(rows:List (List G))(key z:List G):List G:=match dy ks key rows 0 with
 |some (_,r)=>(gi r 1).row
 |none=>z
def cu(ks:List Kd)(rows:List (List G))(key val:List G)(clock:Nat):List (List G):=match dy ks key rows 0 with
 |some (i,r)=>rows.set i [.l [key],.l [val],.i (gi r 2).int]
 |none=>rows++[[.l [key],.l [val],.i clock]]
def dF(ks:List Kd)(rows:List (List G))(key:List G)(clock:Nat):Nat:=bif bg ks rows key then clock else clock+1
def jg(ks:List Kd)(rows:List (List G))(key:List G):List (List G):=match dy ks key rows 0 with
 |some (i,_)=>rows.eraseIdx i
 |none=>rows
theorem zh{P:Program}{g:TypeId}{K V:Ct}(h:kr P g K=true)(key:List G):∀(rows:List (List G)) (i:Nat),fE P g (du K.ks key) (cN K V rows) i =
  some ((dy K.ks key rows i).map fun p=>(p.1,V.av (gi p.2 1).row))
 | [],i=>rfl
 | r::rs,i=>by
  have q:=zh (V:=V) h key rs (i+1);have k:∃ d,kq d K.ks=true:=by
   unfold kr at h;split at h
   ·simp only[aw]at h; exact⟨_,h.1⟩
   ·cases h
  obtain⟨d,A⟩:=k;simp only[cN,dA,fE,oT h,DR _ _ A,dy];cases aF K.ks key (gi r 0).row with
  |true=>rfl
  |false=>exact q
theorem vE{ks:List Kd}{key:List G}:∀{rows:List (List G)} {i j:Nat} {r:List G},dy ks key rows i=some (j,r)→i≤j∧rows[j-i]? = some r
 | [],_,_,_,h=>by simp[dy]at h
 | x::rs,i,j,r,h=>by
  simp only[dy]at h;cases d:aF ks key (gi x 0).row with
  | true =>
   rw[d]at h;cases h;exact⟨aI _,by simp⟩
  | false =>
   rw[d]at h;obtain⟨h1,g⟩:=vE h;refine⟨by omega,?_⟩;rw[show j-i=(j-(i+1))+1 from by omega];simpa using g
def DS(P:Program)(t:TypeId)(m k:AV)(ok:Bool)(H:List ak):Option (Bool × AV) :=
 match fe P t,m with
 | some (d,g),.map id=>match H[id]? with
  | some (.map K V rows _)=>match K.read k,vD P g with
   | some key,some (q,z)=>match kr P d K&&V.same q with
    | true=>some (true,match ok with
      |true=>.tuple [V.av (ch K.ks rows key z),.lit (.bool (bg K.ks rows key))]
      |false=>V.av (ch K.ks rows key z))
    |false=>none
   |_,_=>none
  |_=>none
 |_,_=>none
theorem Kv{P:Program}{t:TypeId}{m k v:AV}{ok b:Bool}{H:List ak}(h:DS P t m k ok H=some (b,v)):ln P t m k ok (aj H)=some v:=by
 unfold DS at h;unfold ln;split at h
 case h_2=>cases h
 rename_i q A id d;rw[d];simp only[];split at h
 case h_2=>cases h
 rename_i K V rows cl hid;rw[bl hid];simp only[ak.den];split at h
 case h_2=>cases h
 rename_i key B z hk g;split at h
 case h_2=>cases h
 rename_i hc;simp only[aw]at hc;have e:=Ct.qw hc.2;subst e;rw[←Ct.qz hk,oT hc.1,Vq g];simp only[zh hc.1];cases h;unfold ch bg;cases dy K.ks key rows 0 with
 |none=>cases ok<;>rfl
 |some p=>cases ok<;>rfl
def s9(P:Program)(t:TypeId)(m k v:AV)(H:List ak):Option (Bool × List ak) :=
 match fe P t,m with
 | some (d,_),.map id=>match H[id]? with
  | some (.map K V rows cl)=>match K.read k,V.read v with
   | some key,some val=>match kr P d K with
    |true=>some (true,H.set id (.map K V (cu K.ks rows key val cl) (dF K.ks rows key cl)))
    |false=>none
   |_,_=>none
  |_=>none
 |_,_=>none
def oU(ks:List Kd)(rows:List (List G))(key:List G):List (List G):=match dy ks key rows 0 with
 |some (_,r)=>lv r
 |none=>[]
def qA(ks:List Kd)(rows:List (List G))(key:List G):Bool:=match dy ks key rows 0 with
 |some (_,r)=>(gi r 3).bool
 |none=>true
def Kw(ks:List Kd)(rows:List (List G))(key:List G):List (List G):=match dy ks key rows 0 with
 |some (i,r)=>rows.set i [gi r 0,gi r 1,gi r 2,.t false]
 |none=>rows
def Kx(ks:List Kd)(rows:List (List G))(key:List G)(val:List (List G))(clock:Nat):List (List G):=match dy ks key rows 0 with
 |some (i,r)=>rows.set i [.l [key],.l [[.l val]],.i (gi r 2).int,.t true]
 |none=>rows++[[.l [key],.l [[.l val]],.i clock,.t true]]
def vF(P:Program)(t:TypeId)(m k:AV)(H:List ak):Option (Bool × AV × List ak) :=
 match fe P t,m with
 | some (g,d),.map id=>match H[id]? with
  | some (.a7 l K ks rows cl)=>match K.read k,yV P d,jK P d with
   | some key,some w',some (.lit (.slice none 0 0))=>match ab w' ks.length&&kr P g K with
    |true=>some (qA K.ks rows key,.vec ks.length H.length 0 0 (oU K.ks rows key).length,H.set id (.a7 l K ks (Kw K.ks rows key) cl)++[.vec ks 0 (oU K.ks rows key)])
    |false=>none
   |_,_,_=>none
  |_=>none
 |_,_=>none
def vG(P:Program)(t:TypeId)(m k v:AV)(H:List ak):Option (Bool × List ak) :=
 match fe P t,m,v with
 | some (q,_),.map id,.vec w j ae off n=>match H[id]?,H[j]? with
  | some (.a7 l K ks rows cl),some (.vec g d rws)=>match K.read k with
   | some key=>match kr P q K&&(Kd.gF ks g&&(ab w ks.length&&(ab ae d&&ab off 0))) with
    |true=>some (ab n rws.length,(H.set id (.a7 l K ks (Kx K.ks rows key rws cl) (dF K.ks rows key cl))).set j (.raw .dead))
    |false=>none
   |none=>none
  |_,_=>none
 |_,_,_=>none
def Ky(ks:List Kd)(rows:List (List G))(key:List G)(clock:Nat):Nat:=match dy ks key rows 0 with
 |some (_,r)=>(gi r 2).int.toNat
 |none=>clock
def Kz(ks:List Kd)(rows:List (List G))(key:List G)(clock:Nat):List (List G):=match dy ks key rows 0 with
 |some (i,r)=>rows.set i [.l [key],gi r 1,gi r 2,.t false]
 |none=>rows++[[.l [key],.l [[.l []]],.i clock,.t false]]
def vH(P:Program)(t:TypeId)(m k:AV)(H:List ak):Option (Bool × AV × List ak) :=
 match fe P t,m with
 | some (g,d),.map id=>match H[id]? with
  | some (.a7 l K ks rows cl)=>match K.read k,yV P d,jK P d with
   | some key,some w',some (.lit (.slice none 0 0))=>match ab w' ks.length&&kr P g K with
    | true=>some (qA K.ks rows key,.tuple [.vec ks.length H.length 0 0 (oU K.ks rows key).length,.lit (.int .i64 (Ky K.ks rows key cl:Nat))],
      H.set id (.a7 l K ks (Kz K.ks rows key cl) (dF K.ks rows key cl))++[.vec ks 0 (oU K.ks rows key)])
    |false=>none
   |_,_,_=>none
  |_=>none
 |_,_=>none
def ny(st:Int):List (List G)→Nat→Option (Nat × List G)
 | [],_=>none
 |r::rs,i=>bif ((gi r 2).int.toNat:Int)==st then some (i,r) else ny st rs (i+1)
def KA(rows:List (List G))(st:Int)(val:List (List G)):List (List G):=match ny st rows 0 with
 |some (i,r)=>rows.set i [gi r 0,.l [[.l val]],gi r 2,.t true]
 |none=>rows
def KB(rows:List (List G))(st:Int):Bool:=(ny st rows 0).isSome
def vI(m s v:AV)(H:List ak):Option (Bool × List ak) :=
 match m,s,v with
 | .map id,.lit (.int .i64 st),.vec w j ae off n=>match H[id]?,H[j]? with
  | some (.a7 l K ks rows cl),some (.vec g d rws)=>match Kd.gF ks g&&(ab w ks.length&&(ab ae d&&ab off 0)) with
   |true=>some (KB rows st&&ab n rws.length,(H.set id (.a7 l K ks (KA rows st rws) cl)).set j (.raw .dead))
   |false=>none
  |_,_=>none
 |_,_,_=>none
theorem zk{P:Program}{g:TypeId}{K:Ct}{ks:List Kd}(h:kr P g K=true)(key:List G):∀(rows:List (List G)) (i:Nat),fE P g (du K.ks key) (cO (gj K ks rows)) i =
  some ((dy K.ks key rows i).map fun p=>(p.1,AV.undef))
 | [],i=>rfl
 | r::rs,i=>by
  have q:=zk (ks:=ks) h key rs (i+1);have k:∃ d,kq d K.ks=true:=by
   unfold kr at h;split at h
   ·simp only[aw]at h; exact⟨_,h.1⟩
   ·cases h
  obtain⟨d,A⟩:=k;simp only[gj,cO,jL,dA,fE,oT h,DR _ _ A,dy];cases aF K.ks key (gi r 0).row with
  |true=>rfl
  |false=>exact q
theorem vJ{K:Ct}{ks:List Kd}{rows:List (List G)}{i:Nat}{r:List G}(h:rows[i]? = some r):(gj K ks rows)[i]? = some (jL K ks r):=by
 unfold gj;rw[cq,h];rfl
theorem zl(K:Ct)(ks:List Kd)(rows:List (List G))(i:Nat)(r:List G):gj K ks (rows.set i r)=(gj K ks rows).set i (jL K ks r):=by
 simp[gj,Cu]
theorem Vr{P:Program}{t:TypeId}{m k v:AV}{b:Bool}{H H':List ak}(h:vF P t m k H=some (b,v,H'))(I:b=true):vj P t m k (aj H)=some (v,aj H')∧ln P t m k false (aj H)=none:=by
 unfold vF at h;unfold vj ln;split at h
 case h_2=>cases h
 rename_i N O id J;rw[J];simp only[];split at h
 case h_2=>cases h
 rename_i l K ks rows cl hid;rw[bl hid];simp only[ak.den];split at h
 case h_2=>cases h
 rename_i key w' hk hw M;split at h
 case h_2=>cases h
 rename_i hc;simp only[aw]at hc;obtain⟨g,q⟩:=hc;have e:=bt g;simp only[aT,aZ]at h;obtain⟨d,rfl,rfl⟩:=h;rw[I]at d;rw[←Ct.qz hk,oT q,hw,M];simp only[g,zk q,and_true];unfold qA at d;unfold oU Kw;cases A:dy K.ks key rows 0 with
 | none =>
  simp only[Tj,im,eu,ak.den,dU,kY,sa]
 | some p =>
  obtain⟨i,r⟩:=p;rw[A]at d;simp only[]at d;obtain⟨_,B⟩:=vE A;rw[jC]at B;have F:oN (gj K ks rows) i=some (K.av (gi r 0).row,(lv r).map (aD ks),(gi r 2).int.toNat):=by
   unfold oN;rw[vJ B];simp only[jL,d,cond_true]
  simp only[iZ,F,im,eu,ak.den,dU,bF,zl];rfl
theorem Vs{P:Program}{t:TypeId}{m k v:AV}{b:Bool}{H H':List ak}(h:vG P t m k v H=some (b,H'))(J:b=true):vk P t m k v (aj H)=some (aj H')∧oL P t m k v (aj H)=none:=by
 unfold vG at h;unfold vk oL;split at h
 case h_2=>cases h
 rename_i kt et id w j ae off n M;rw[M];simp only[];split at h
 case h_2=>cases h
 rename_i l K ks rows cl ks2 ver' rws hid N;rw[bl hid,bl N];simp only[ak.den];split at h
 case h_2=>cases h
 rename_i key hk;split at h
 case h_2=>cases h
 rename_i hc;simp only[aw]at hc;obtain⟨g,A,B,F,I⟩:=hc;have O:=Kd.iO A;subst O;have R:=bt B;have U:=bt F;have W:=bt I;subst R U W;simp only[aT,aZ]at h;obtain⟨d,rfl⟩:=h;rw[J]at d;have d:=bt d;subst d;rw[←Ct.qz hk,oT g];simp only[Ct.zd,bF,and_self,if_true,zk g,and_true];unfold Kx dF bg;cases Y:dy K.ks key rows 0 with
 | none =>
  simp only[Tj,eu,ak.den,S3,cond_false];simp[gj,jL,lv,gi,G.row,G.rows,G.int,G.bool]
 | some p =>
  obtain⟨i,r⟩:=p;obtain⟨_,q⟩:=vE Y;rw[jC]at q;simp only[iZ,Dg (vJ q),eu,ak.den,zl,Tk,cond_true];simp[jL,lv,gi,G.row,G.rows,G.int,G.bool]
theorem Vt{P:Program}{t:TypeId}{m k v:AV}{b:Bool}{H H':List ak}(h:vH P t m k H=some (b,v,H'))(I:b=true):vm P t m k (aj H)=some (v,aj H'):=by
 unfold vH at h;unfold vm;split at h
 case h_2=>cases h
 rename_i N O id J;rw[J];simp only[];split at h
 case h_2=>cases h
 rename_i l K ks rows cl hid;rw[bl hid];simp only[ak.den];split at h
 case h_2=>cases h
 rename_i key w' hk hw M;split at h
 case h_2=>cases h
 rename_i hc;simp only[aw]at hc;obtain⟨B,g⟩:=hc;simp only[aT,aZ]at h;obtain⟨d,rfl,rfl⟩:=h;rw[I]at d;rw[←Ct.qz hk,oT g,hw,M];simp only[B,Ct.zd,Bool.and_self,zk g];unfold qA at d;unfold oU Kz Ky dF bg;cases q:dy K.ks key rows 0 with
 | none =>
  simp only[Tj,im,eu,ak.den,dU,kY,sa,S3,cond_false,goInt];simp[gj,jL,lv,gi,G.row,G.rows,G.int,G.bool]
 | some p =>
  obtain⟨i,r⟩:=p;rw[q]at d;simp only[]at d;obtain⟨_,A⟩:=vE q;rw[jC]at A;have F:oN (gj K ks rows) i=some (K.av (gi r 0).row,(lv r).map (aD ks),(gi r 2).int.toNat):=by
   unfold oN;rw[vJ A];simp only[jL,d,cond_true]
  simp only[iZ,F,im,eu,ak.den,dU,bF,zl,Tk,cond_true,goInt];rfl
theorem KC{st:Int}:∀{rows:List (List G)} {i j:Nat} {r:List G},ny st rows i=some (j,r)→i≤j∧rows[j-i]? = some r
 | [],_,_,_,h=>by simp[ny]at h
 | x::rs,i,j,r,h=>by
  simp only[ny]at h;cases d:((gi x 2).int.toNat:Int)==st with
  | true =>
   rw[d]at h;cases h;simp
  | false =>
   rw[d]at h;obtain⟨h1,g⟩:=KC h;refine⟨by omega,?_⟩;rw[show j-i=(j-(i+1))+1 from by omega];simpa using g
theorem KD{K:Ct}{ks:List Kd}{st:Int}:∀{rows:List (List G)} {i:Nat},(ny st rows i).map (·.1)=(qm (gj K ks rows) st).map (·+i)
 | [],_=>rfl
 | x::rs,i=>by
  have d:=KD (K:=K) (ks:=ks) (st:=st) (rows:=rs) (i:=i+1);unfold qm at d⊢;simp only[ny,gj,dA,List.findIdx?_cons,jL]at d⊢;cases g:((gi x 2).int.toNat:Int)==st with
  |true=>simp
  | false =>
   simp only[cond_false,d,mU,if_false,Option.map_map];congr 1
   funext n
   simp only[Function.comp];omega
theorem Vu{m s v:AV}{b:Bool}{H H':List ak}(h:vI m s v H=some (b,H'))(N:b=true):vn m s v (aj H)=some (aj H'):=by
 unfold vI at h;unfold vn;split at h
 case h_2=>cases h
 rename_i id st w j ae off n;split at h
 case h_2=>cases h
 rename_i l K ks rows cl ks2 ver' rws hid O;simp only[];rw[bl hid,bl O];simp only[ak.den];split at h
 case h_2=>cases h
 rename_i hc;simp only[aw]at hc;obtain⟨F,I,J,M⟩:=hc;have R:=Kd.iO F;subst R;have U:=bt I;have W:=bt J;have Y:=bt M;subst U W Y;simp only[aT,aZ]at h;obtain⟨k,rfl⟩:=h;rw[N]at k;simp only[aw]at k;obtain⟨d,g⟩:=k;have g:=bt g;subst g;simp only[bF,and_self,if_true];unfold KB at d;unfold KA;cases q:ny st rows 0 with
 |none=>rw[q]at d; cases d
 | some p =>
  obtain⟨i,r⟩:=p;obtain⟨_,A⟩:=KC q;rw[jC]at A;have hi:qm (gj K ks rows) st=some i:=by
   have:=KD (K:=K) (ks:=ks) (st:=st) (rows:=rows) (i:=0);rw[q]at this;cases B:qm (gj K ks rows) st with
   |none=>rw[B]at this; cases this
   |some y=>rw[B]at this; simp at this; rw[this]
  rw[hi];simp only[vJ A,jL,eu,ak.den,zl];simp[lv,gi,G.row,G.rows,G.bool]
theorem Vv(K V:Ct)(rows:List (List G))(i:Nat)(r:List G):cN K V (rows.set i r)=(cN K V rows).set i (K.av (gi r 0).row,V.av (gi r 1).row,(gi r 2).int.toNat):=by
 simp[cN,Cu]
theorem Vw{α:Type}{l:List α}{i:Nat}{x:α}(f:α→α)(h:l[i]? = some x):l.modify i f=l.set i (f x):=by
 apply List.ext_getElem?;intro j;rw[List.getElem?_modify,List.getElem?_set];by_cases e:i=j
 ·subst e
  rw[if_pos rfl,if_pos (aJ h),h];simp
 ·rw [if_neg e]
  simp[e]
theorem KE{P:Program}{t:TypeId}{m k v:AV}{b:Bool}{H H':List ak}(h:s9 P t m k v H=some (b,H')):oL P t m k v (aj H)=some (aj H'):=by
 unfold s9 at h;unfold oL;split at h
 case h_2=>cases h
 rename_i F I id q;rw[q];simp only[];split at h
 case h_2=>cases h
 rename_i K V rows cl hid;rw[bl hid];simp only[ak.den];split at h
 case h_2=>cases h
 rename_i key val hk A;split at h
 case h_2=>cases h
 rename_i hc;cases h;rw[←Ct.qz hk,←Ct.qz A,oT hc];simp only[Ct.zd,and_self,if_true,zh hc,eu,ak.den];unfold cu dF bg;cases B:dy K.ks key rows 0 with
 |none=>simp[cN,gi,G.row,G.rows,G.int]
 | some p =>
  obtain⟨_,d⟩:=vE (r:=p.2) (j:=p.1) B;rw[jC]at d;have g:(cN K V rows)[p.1]? = some (K.av (gi p.2 0).row,V.av (gi p.2 1).row,(gi p.2 2).int.toNat):=by simp[cN,d]
  simp only[iZ,Vw _ g,Vv,Tk,cond_true];simp[gi,G.row,G.rows,G.int]
def vK(P:Program)(t:TypeId)(m k:AV)(H:List ak):Option (Bool × List ak) :=
 match fe P t,m with
 | some (d,_),.map id=>match H[id]? with
  | some (.map K V rows cl)=>match K.read k,kr P d K with
   |some key,true=>some (true,H.set id (.map K V (jg K.ks rows key) cl))
   |_,_=>none
  |_=>none
 |_,_=>none
theorem KF{α β:Type}(f:α→β):∀(l:List α) (i:Nat),(l.map f).eraseIdx i=(l.eraseIdx i).map f
 | [],_=>by simp
 |_::_,0=>by simp
 |_::l,i+1=>by simp[KF f l i]
theorem Vx{P:Program}{t:TypeId}{m k:AV}{b:Bool}{H H':List ak}(h:vK P t m k H=some (b,H')):vf P t m k (aj H)=some (aj H'):=by
 unfold vK at h;unfold vf;split at h
 case h_2=>cases h
 rename_i g q id d;rw[d];simp only[];split at h
 case h_2=>cases h
 rename_i K V rows cl hid;rw[bl hid];simp only[ak.den];split at h
 case h_2=>cases h
 rename_i key hk hc;cases h;rw[←Ct.qz hk,oT hc];simp only[zh hc,eu,ak.den];unfold jg;cases A:dy K.ks key rows 0 with
 |none=>rfl
 |some p=>simp only[iZ,cN,KF]
def vL(P:Program)(t:TypeId)(x:AV)(H:List ak):Option (Bool × List ak) :=
 match bY P t,x with
 | .slice e sz _,.vec w id ae off n=>match eF P e,H[id]? with
  | some z,some (.vec ks v rows)=>match fQ ks (z.map .lit) with
   | some d=>if ks.length=w∧w=sz∧v=ae∧z.length=sz∧0<sz then
     some (cR (off+n) rows.length,H.set id (.vec ks v (rows.take off++cI n d++rows.drop (off+n)))) else none
   |none=>none
  |_,_=>none
 |_,_=>none
theorem Vy{P:Program}{t:TypeId}{x:AV}{b:Bool}{H H':List ak}(h:vL P t x H=some (b,H'))(k:b=true):vg P t x (aj H)=some (aj H'):=by
 unfold vL at h;unfold vg;split at h
 case h_2=>cases h
 rename_i e sz bK w id ae off n hk;rw[hk];simp only[];split at h
 case h_2=>cases h
 rename_i z ks v rows q hid;rw[q,bl hid];simp only[ak.den];split at h
 case h_2=>cases h
 rename_i B g;split at h
 case isFalse=>cases h
 rename_i hc;obtain⟨rfl,rfl,rfl,h1,A⟩:=hc;simp only[aT,aZ]at h;obtain⟨d,rfl⟩:=h;subst k;have d:=j9 d;simp only[h1,A,bF,d,and_self,if_true,eu,ak.den,aT];rw[←kp g];simp[List.map_take,List.map_drop]
def vM(P:Program)(t xt:TypeId)(s x:AV)(H:List ak):Option (Bool × AV × List ak) :=
 match bY P t,bY P xt,s,x with
 | .slice e sz bK,.int _,.lit (.slice none 0 0),.lit (.int _ n)=>match eF P e with
  | some z=>match qx (z.map .lit) with
   | some ks=>match fQ ks (z.map .lit) with
    | some d=>if z.length=sz∧0<sz∧bK≤1048576∧ks.length=sz then
      some (aB 0 n&&bM n 1048576,.vec sz H.length 0 0 n.toNat,H++[.vec ks 0 (cI n.toNat d)]) else none
    |none=>none
   |none=>none
  |none=>none
 |_,_,_,_=>none
theorem Vz{P:Program}{t xt:TypeId}{s x v:AV}{b:Bool}{H H':List ak}(h:vM P t xt s x H=some (b,v,H'))(A:b=true):ql P t xt s x (aj H)=some (v,aj H'):=by
 unfold vM at h;unfold ql;split at h
 case h_2=>cases h
 rename_i e sz bK k k' n hk g;rw[hk,g];simp only[];split at h
 case h_2=>cases h
 rename_i z B;rw[B];simp only[];split at h
 case h_2=>cases h
 rename_i ks M;split at h
 case h_2=>cases h
 rename_i N q;split at h
 case isFalse=>cases h
 rename_i hc;obtain⟨h1,F,I,J⟩:=hc;simp only[aT,aZ]at h;obtain⟨d,rfl,rfl⟩:=h;subst A;simp only[dT,er,aw,decide_eq_true_eq]at d;simp only[h1,F,I,d.1,d.2,and_self,if_true,im,ak.den,dU,J,aT,aZ,true_and];rw[←kp q];simp
def s_(P:Program)(r:Operand→AV)(H:List ak):Op→Option (Bool × AV × List ak)
 | .alloc t=>match yK P t with
  |some e=>if sH (aj H) 0=true then some (true,.ptr H.length 0 0 0 0,H++[.raw (.eQ 0 t e x4)]) else none
  | none=>match eF P t with
   |some z=>some (true,.ptr H.length 0 0 0 0,H++[.raw (.box (z.map .lit))])
   |none=>none
 | .box _ x=>match qi (r x) with
  |some cs=>some (true,.ptr H.length 0 0 0 0,H++[.raw (.box cs)])
  |none=>none
 | .store t a x=>match s7 P t (r a) (r x) H with
  |some (b,H')=>some (b,.undef,H')
  |none=>none
 |.makeSlice t l c=>vB P t (r l) (r c) H
 |.buildSlice t n parts=>vC P t n (parts.toList.map fun p=>(p.1,r p.2)) H
 | .range t x=>match bY P t,r x with
  |.str,.lit (.string s)=>some (true,.ptr H.length 0 0 0 0,H++[.raw (.iter s 0)])
  |_,_=>none
 | .next it true=>match r it with
  | .ptr id 0 _ 0 0=>match H[id]? with
   | some (.raw (.iter s pos))=>if pos<s.size then some (true,.tuple [.lit (.bool true),.lit (goInt pos),.lit (.int .i32 (og s pos).1)],H.set id (.raw (.iter s (pos+(og s pos).2))))
     else some (true,.tuple [.lit (.bool false)],H)
   |_=>none
  |_=>none
 | .makeMap t none=>match fe P t with
  | some (d,g)=>match vD P d,vD P g with
   |some (K,_),some (V,_)=>some (true,.map H.length,H++[.map K V [] 0])
   |_,_=>none
  |none=>none
 | .mapUpdate t m k v=>match s9 P t (r m) (r k) (r v) H with
  |some (b,H')=>some (b,.undef,H')
  | none=>match vG P t (r m) (r k) (r v) H with
   |some (b,H')=>some (b,.undef,H')
   |none=>none
 |.lookup t m k false=>vF P t (r m) (r k) H
 |.mapEntry t m k=>vH P t (r m) (r k) H
 | .entryStore _ m s x=>match vI (r m) (r s) (r x) H with
  |some (b,H')=>some (b,.undef,H')
  |none=>none
 | .insert t m k v=>match s9 P t (r m) (r k) (r v) H with
  |some (b,H')=>some (b,.undef,H')
  |none=>none
 | .call c=>match c.callee with
  | .builtin .append=>match c.args.toList,c.argTypes.toList with
   | [s,x],[t,xt]=>match bY P xt with
    |.int _=>vM P t xt (r s) (r x) H
    |_=>vA P t xt (r s) (r x) H
   |_,_=>none
  | .builtin .clear=>match c.args.toList,c.argTypes.toList with
   | [x],[t]=>match vL P t (r x) H with
    |some (b,H')=>some (b,.tuple [],H')
    |none=>none
   |_,_=>none
  | .builtin .delete=>match c.args.toList,c.argTypes.toList with
   | [x,k],t::_=>match vK P t (r x) (r k) H with
    |some (b,H')=>some (b,.tuple [],H')
    |none=>none
   |_,_=>none
  |_=>none
 |_=>none
theorem VA{P:Program}{t xt:TypeId}{s x:AV}{H:List af}(h:∀ k,bY P xt≠.int k):ql P t xt s x H=none:=by
 unfold ql;split
 ·rename_i hk
  exact(h _ hk).elim
 ·rfl
theorem KG{P:Program}{r:Operand→AV}{H H':List ak}{o:Op}{v:AV}{b:Bool}(h:s_ P r H o=some (b,v,H'))(g:b=true):eH P r (aj H) o=some (v,aj H'):=by
 cases o<;>simp only[s_]at h<;>try cases h
 case alloc t =>
  split at h
  ·rename_i e he
   split at h
   ·rename_i hn
    cases h;simp only[eH,qk,he,hn,if_true,dU,im,ak.den]
   ·cases h
  ·rename_i he
   split at h
   ·rename_i z F; cases h; simp only[eH,qk,he,F,dU,im,ak.den]
   ·cases h
 case box t x =>
  split at h
  ·rename_i z F; cases h; simp only[eH,yM,F,dU,im,ak.den]
  ·cases h
 case store t a x =>
  split at h
  ·rename_i A H1 d; cases h; simp only[eH,Kr d g]
  ·cases h
 case makeSlice t l c=>simp only[eH]; exact Vn h g
 case buildSlice t n ps=>simp only[eH]; exact Vo h
 case range t x =>
  split at h
  ·rename_i s hk I
   cases h;simp only[eH,yO,hk,I,dU,im,ak.den]
  ·cases h
 case next it isString =>
  cases isString with
  |false=>cases h
  | true =>
   simp only[]at h;split at h
   ·rename_i id k I
    split at h
    ·rename_i s pos hid
     simp only[eH,yP,I,bl hid,ak.den];split at h
     ·rename_i B
      cases h;rw[if_pos B,eu];rfl
     ·rename_i B
      cases h;rw[if_neg B]
    ·cases h
   ·cases h
 case makeMap t res =>
  cases res with
  |some _=>cases h
  | none =>
   simp only[]at h;split at h
   ·split at h
    ·cases h
     simp only[eH,dU,im,ak.den];rfl
    ·cases h
   ·cases h
 case mapUpdate t m k x =>
  split at h
  ·rename_i A H1 d
   cases h;simp only[eH,KE d]
  ·split at h
   ·rename_i A H1 d
    cases h;obtain⟨g1,g2⟩:=Vs d g;simp only[eH,g1,g2]
   ·cases h
 case lookup t m k ok =>
  cases ok with
  |true=>cases h
  | false =>
   obtain⟨g1,g2⟩:=Vr h g;simp only[eH,g1,g2]
 case mapEntry t m k=>simp only[eH,Vt h g]
 case entryStore t m s x =>
  split at h
  ·rename_i A H1 d
   cases h;simp only[eH,Vu d g]
  ·cases h
 case insert t m k x =>
  split at h
  ·rename_i A H1 d
   cases h;simp only[eH,KE d]
  ·cases h
 case call c =>
  simp only[eH,yX];split at h
  ·rename_i hc
   rw[hc];split at h
   ·rename_i h1 q
    simp only[h1,q];split at h
    ·rw[Vz h g]
    ·rename_i J
     rw[VA J];exact Vl h g
   ·cases h
  ·rename_i hc
   rw[hc];split at h
   ·rename_i h1 q
    simp only[h1,q];split at h
    ·rename_i d
     cases h;rw[Vy d g]
    ·cases h
   ·cases h
  ·rename_i hc
   rw[hc];split at h
   ·rename_i h1 q
    simp only[h1,q];split at h
    ·rename_i d
     cases h;rw[Vx d]
    ·cases h
   ·cases h
  ·cases h
end Go.AL

namespace Go.AL
open Go
variable [Dr]
def ta(n:Int):Option (Bool × AV):=some (az n,.lit (.int .i64 n))
def DT(P:Program)(op:BinOp)(t:TypeId)(d:Bool)(x y:AV):Option (Bool × AV) :=
 match op,x,y with
 |.add,.lit (.int .i64 a),.lit (.int .i64 b)=>ta (a+b)
 |.sub,.lit (.int .i64 a),.lit (.int .i64 b)=>ta (a-b)
 |.mul,.lit (.int .i64 a),.lit (.int .i64 b)=>ta (a*b)
 |.quo,.lit (.int .i64 a),.lit (.int .i64 b)=>some (!(b==0)&&az (a.tdiv b),.lit (.int .i64 (a.tdiv b)))
 |.rem,.lit (.int .i64 a),.lit (.int .i64 b)=>some (!(b==0),.lit (.int .i64 (a.tmod b)))
 |.add,.lit (.string a),.lit (.string b)=>some (cR (a.size+b.size) 9223372036854775807,.lit (.string (a++b)))
 |.lss,.lit (.int k a),.lit (.int k' b)=>if k=k' then some (true,.lit (.bool (aB a b))) else none
 |.leq,.lit (.int k a),.lit (.int k' b)=>if k=k' then some (true,.lit (.bool (bM a b))) else none
 |.gtr,.lit (.int k a),.lit (.int k' b)=>if k=k' then some (true,.lit (.bool (aB b a))) else none
 |.geq,.lit (.int k a),.lit (.int k' b)=>if k=k' then some (true,.lit (.bool (bM b a))) else none
 |.and,.lit (.int k a),.lit (.int k' b)=>if k=k' then some (true,.lit (.int k (Jh k a b))) else none
 |.or,.lit (.int k a),.lit (.int k' b)=>if k=k' then some (true,.lit (.int k (Ji k a b))) else none
 |.xor,.lit (.int k a),.lit (.int k' b)=>if k=k' then some (true,.lit (.int k (Jj k a b))) else none
 |.shl,.lit (.int k a),.lit (.int _ b)=>some (bD b,.lit (.int k (CL k a b)))
 |.shr,.lit (.int k a),.lit (.int _ b)=>some (bD b,.lit (.int k (l8 k a b)))
 | op,.listF ks rows,.lit (.slice none 0 0)=>match P.underlying t,kh op false with
  |some (.slice _),some v=>some (eE 0 rows.length,v)
  |_,_=>none
 | op,.vec w id ae off m,.lit (.slice none 0 0)=>match P.underlying t,kh op false with
  |some (.slice _),some v=>some (eE 0 m,v)
  |_,_=>none
 | _,_,_=>match gD P op t d x y with
  |some v=>some (true,v)
  |none=>none
def DU(m sz:Nat)(cells:List AV):Option (Kd × List (List G)) :=
 match vw (cells.headD .undef)with
 | some k=>match nw [k] (cells.map fun c=>[c]) with
  |some rows=>if sz=1∧m=cells.length then some (k,rows) else none
  |none=>none
 |none=>none
theorem VB{m sz:Nat}{cells:List AV}{k:Kd}{rows:List (List G)}(h:DU m sz cells=some (k,rows)){j:Nat}(g:j<m) :
  aD [k] (rows.getD j [])=(cells.drop (j*sz)).take sz:=by
 unfold DU at h;split at h
 ·split at h
  ·rename_i rows' q
   split at h
   ·rename_i hc
    obtain⟨rfl,rfl⟩:=hc;cases h;have e:=sZ q;have A:rows.length=cells.length:=by have:=congrArg uS e; simpa using this
    have d:(rows.map (aD [k]))[j]? = (cells.map fun c=>[c])[j]? := by rw[e]
    rw[DM (by omega),cq,bE g]at d;simp only[iZ,aT]at d;rw[d,IZ,List.drop_eq_getElem_cons g,List.take_succ_cons,List.take_zero]
   ·cases h
  ·cases h
 ·cases h
def DV(k:SK)(x i:AV):Option (Bool × AV) :=
 match k,x,i with
 |.slice _ sz _,.listF ks rows,.lit (.int _ j)=>if ks.length=sz then some (bD j&&aB j (rows.length:Int),.cptr (aD ks (rows.getD j.toNat []))) else none
 |.slice _ sz _,.vec w id ae off m,.lit (.int _ j)=>if w=sz then some (bD j&&aB j (m:Int),.ptr id ae w (off+j.toNat) 0) else none
 | .array m _ sz _,.cptr cells,.lit (.int d j)=>match DU m sz cells with
  |some (kd,rows)=>some (bD j&&aB j (m:Int),.cptr (aD [kd] (rows.getD j.toNat [])))
  | none=>match ka k (.cptr cells) (.lit (.int d j)) with
   |some v=>some (true,v)
   |none=>none
 | _,_,_=>match ka k x i with
  |some v=>some (true,v)
  |none=>none
def vN:List AV→Option (List Int)
 | []=>some []
 | .lit (.int .i64 n)::l=>match vN l with
  |some q=>some (n::q)
  |none=>none
 |_=>none
theorem KH:∀{cells:List AV} {l:List Int},vN cells=some l→∀ i,i<l.length→cells[i]? = some (.lit (.int .i64 (l.getD i 0)))
 | [],l,h,i,hi=>by
  simp only[vN,aT]at h;subst h;simp at hi
 | c::cells,l,h,i,hi=>by
  unfold vN at h;split at h
  ·rename_i he
   cases he
  ·rename_i n l' he
   cases he;split at h
   ·rename_i q d
    cases h;cases i with
    |zero=>rfl
    | succ i =>
     simp only[List.length_cons]at hi;have:=KH d i (by omega);simpa using this
   ·cases h
  ·cases h
def DW(k:SK)(x i:AV):Option (Bool × AV) :=
 match k,x,i with
 |.str,.lit (.string s),.lit (.int _ j)=>some (bD j&&aB j (s.size:Int),.lit (.int .u8 ((s.data.toList.getD j.toNat 0).toNat)))
 | .array m _ 1 false,.agg cells,.lit (.int _ j)=>match vN cells with
  |some l=>bif cR m l.length then some (bD j&&aB j (m:Int),.lit (.int .i64 (l.getD j.toNat 0))) else none
  | none=>match oH k x i with
   |some v=>some (true,v)
   |none=>none
 | _,_,_=>match oH k x i with
  |some v=>some (true,v)
  |none=>none
def DX(op:UnOp)(x:AV):Option (Bool × AV) :=
 match op,x with
 |.neg,.lit (.int .i64 n)=>some (az (0-n),.lit (.int .i64 (0-n)))
 | _,_=>match sC op x with
  |some v=>some (true,v)
  |none=>none
def DY(P:Program)(s d:TypeId)(x:AV):Option (Bool × AV) :=
 match P.underlying s,bY P d,x with
 |some _,.int .i64,.lit (.int _ n)=>some (az n,.lit (.int .i64 n))
 | _,_,_=>match sD P s d x with
  |some v=>some (true,v)
  |none=>none
def DZ(P:Program)(r:Operand→AV)(o:Op):Option (Bool × AV) :=
 match o with
 |.indexAddr t x i=>DV (bY P t) (r x) (r i)
 |.index t x i=>DW (bY P t) (r x) (r i)
 |.binOp op t x y _=>DT P op t (mg x||mg y) (r x) (r y)
 |.slice t x lo hi mx=>DQ P t (r x) (lo.map r) (hi.map r) (mx.map r)
 |.unOp op _ x=>DX op (r x)
 |.convert s d x=>DY P s d (r x)
 | o=>match gU P r o with
  |some v=>some (true,v)
  |none=>none
theorem oV{x:Option AV}{b:Bool}{v:AV} (h:(match x with|some v=>some (true,v)|none=>none)=some (b,v)):x=some v:=by
 split at h
 ·cases h; rfl
 ·cases h
theorem qB{n:Int}(h:az n=true):IntKind.i64.wrap n=n:=by
 rw[Kn]at h;simp[IntKind.wrap,IntKind.bits,IntKind.signed];omega
theorem VC{P:Program}{op:BinOp}{t:TypeId}{A:Bool}{x y v:AV}{b:Bool}(h:DT P op t A x y=some (b,v))(d:b=true):gD P op t A x y=some v:=by
  unfold DT at h;split at h
  · simp only [ta, aT, aZ] at h
    obtain⟨h1,rfl⟩:=h;subst d;simp[gD,ij,l9,qB h1]
  · simp only [ta, aT, aZ] at h
    obtain⟨h1,rfl⟩:=h;subst d;simp[gD,ij,l9,qB h1]
  · simp only [ta, aT, aZ] at h
    obtain⟨h1,rfl⟩:=h;subst d;simp[gD,ij,l9,qB h1]
  · simp only [aT, aZ] at h
    obtain⟨h1,rfl⟩:=h;subst d;simp only[aw,jD,beq_eq_false_iff_ne]at h1;simp[gD,ij,l9,h1.1,qB h1.2]
  · simp only [aT, aZ] at h
    obtain⟨h1,rfl⟩:=h;subst d;simp only[jD,beq_eq_false_iff_ne]at h1;simp[gD,ij,l9,h1]
  · simp only [aT, aZ] at h
    obtain⟨h1,rfl⟩:=h;subst d;have q:=j9 h1;have g:∀ k:Nat,k≤9223372036854775807→¬ ((k:Int)>IntKind.i64.max):=fun k hk=>by
      show ¬ ((k:Int)>(9223372036854775807:Int))
      omega
    simp only[gD,ij,CM,if_neg (g _ q)]
  all_goals first
    |exact oV h
    | (split at h
       case isFalse=>cases h
       rename_i hk;subst hk;cases h;simp[gD,ij,l9,dT,er])
    | (simp only [aT, aZ] at h
       obtain⟨h1,rfl⟩:=h;subst d;simp only[ls,decide_eq_true_eq]at h1;simp only[gD,ij,if_neg (Int.not_lt.2 h1)])
    | (split at h
       · rename_i h1 q
         simp only[aT,aZ]at h;obtain⟨g,rfl⟩:=h;subst d;simp only[gB]at g;simp only[gD,h1,if_pos g,q]
       · cases h)
theorem VD{k:SK}{x i v:AV}{b:Bool}(h:DV k x i=some (b,v))(d:b=true):ka k x i=some v:=by
 unfold DV at h;split at h
 ·split at h
  ·rename_i hw
   simp only[aT,aZ]at h;obtain⟨h1,rfl⟩:=h;subst d;simp only[ls,dT,aw,decide_eq_true_eq]at h1;simp[ka,hw,h1.1,h1.2]
  ·cases h
 ·split at h
  ·rename_i hw
   simp only[aT,aZ]at h;obtain⟨h1,rfl⟩:=h;subst d;simp only[ls,dT,aw,decide_eq_true_eq]at h1;simp[ka,hw,h1.1,h1.2]
  ·cases h
 ·split at h
  ·rename_i kd rows hc
   simp only[aT,aZ]at h;obtain⟨h1,rfl⟩:=h;subst d;simp only[ls,dT,aw,decide_eq_true_eq]at h1;rw[VB hc (by omega)];simp[ka,h1.1,h1.2]
  ·exact oV h
 ·exact oV h
theorem VE{k:SK}{x i v:AV}{b:Bool}(h:DW k x i=some (b,v))(g:b=true):oH k x i=some v:=by
 unfold DW at h;split at h
 ·rename_i s q j
  simp only[aT,aZ]at h;obtain⟨h1,rfl⟩:=h;subst g;simp only[ls,dT,aw,decide_eq_true_eq]at h1;have d:j.toNat<s.size:=by omega
  have e:s[j.toNat]? = some (s.data.toList.getD j.toNat 0):=by
   have A:j.toNat<s.data.toList.length:=by simpa using d
   rw[cH,bE A];simp only[getElem?,decidableGetElem?,d,dite_true,Option.getD_some];rfl
  simp only[oH,h1.1,h1.2,and_self,if_true,e]
 ·rename_i m e cells q j
  split at h
  ·rename_i l B
   cases hm:cR m l.length with
   |false=>rw[hm]at h; cases h
   | true =>
    rw[hm]at h;simp only[cond_true,aT,aZ]at h;obtain⟨h1,rfl⟩:=h;subst g;rw[yi]at hm;simp only[ls,dT,aw,decide_eq_true_eq]at h1;have F:=KH B j.toNat (by omega);simp only[oH,h1.1,h1.2,and_self,if_true,fM,mU,if_false,IZ,rY,Nat.add_zero,F]
  ·exact oV h
 ·exact oV h
theorem VF{op:UnOp}{x v:AV}{b:Bool}(h:DX op x=some (b,v))(d:b=true):sC op x=some v:=by
 unfold DX at h;split at h
 ·simp only [aT, aZ] at h
  obtain⟨h1,rfl⟩:=h;subst d;simp only[sC,qB h1]
 ·exact oV h
theorem VG{P:Program}{s d:TypeId}{x v:AV}{b:Bool}(h:DY P s d x=some (b,v))(g:b=true):sD P s d x=some v:=by
 unfold DY at h;split at h
 ·rename_i k q
  simp only[aT,aZ]at h;obtain⟨h1,rfl⟩:=h;subst g;simp only[sD,k,q,qB h1]
 ·exact oV h
theorem VH{P:Program}{r:Operand→AV}{o:Op}{b:Bool}{v:AV}(h:DZ P r o=some (b,v))(d:b=true):gU P r o=some v:=by
 cases o<;>simp only[DZ]at h<;>try exact oV h
 case binOp=>simp only[gU]; exact VC h d
 case indexAddr=>simp only[gU]; exact VD h d
 case index=>simp only[gU]; exact VE h d
 case slice=>simp only[gU]; exact Vm h d
 case unOp=>simp only[gU]; exact VF h d
 case convert=>simp only[gU]; exact VG h d
inductive Tree where
 |fail
 |done (x:bk) (s:al)
 |ask (b:Bool) (t e:Tree)
 |side (b:Bool) (t:Tree)
def Tree.holds(Q:bk→al→Prop):Tree→Prop
 |.fail=>False
 |.done x s=>Q x s
 |.ask b t e=>(b=true→t.holds Q)∧(b=false→e.holds Q)
 |.side b t=>b=true∧t.holds Q
structure ah where
 pf:FuncId→Bool
 T:FuncId→List AV→Option (Bool × AV)
 W:FuncId→List AV→List ak→Option (Bool × AV × List ak)
 C:FuncId→List AV→List ak→List Nat
 I:FuncId→List AV→List ak→Option Tree:=fun _ _ _=>none
 N:FuncId→Bool:=fun _=>false
 U:FuncId→Bool:=fun _=>true
structure ai (P:Program) (τ:ah):Prop where
 T:∀ f args b v,τ.T f args=some (b,v)→b=true→dE P f=true∧cV P f args v
 W:∀ f args H b v H',τ.W f args H=some (b,v,H')→b=true→dE P f=true∧cg P f args (aj H) v (aj H')
 C:∀ f args H b v H',τ.W f args H=some (b,v,H')→∀ A,A∉τ.C f args H→A<H.length→H'[A]? = H[A]?
 I:∀ f args H t,τ.I f args H=some t→∀ Q:bk→al→Prop,t.holds Q→dE P f=true∧∃ v H',cg P f args (aj H) v (aj H')∧(∀ A,A∉τ.C f args H→A<H.length→H'[A]? = H[A]?)∧Q .normal ⟨[v],H'⟩
 F:(∀ f,τ.U f=false→∀ args H,τ.W f args H=none∧τ.C f args H=[])∧∀ f,τ.N f=true→∀ args H b v H',τ.W f args H=some (b,v,H')→∀ id o,id<H.length→id∉τ.C f args H →
  τ.W f args (H.set id o)=some (b,v,H'.set id o)∧τ.C f args (H.set id o)=τ.C f args H
def Tree.vO(k:AV→List ak→Tree):Tree→Tree
 |.fail=>.fail
 |.done _ s=>k (s.fr.headD .undef) s.H
 |.ask b t e=>.ask b (t.vO k) (e.vO k)
 |.side b t=>.side b (t.vO k)
theorem Tree.zm{k:AV→List ak→Tree}{Q:bk→al→Prop}:∀{t:Tree},(t.vO k).holds Q→t.holds fun _ s=>(k (s.fr.headD .undef) s.H).holds Q
 |.fail,h=>h
 |.done _ _,h=>h
 |.ask _ t e,h=>⟨fun d=>zm (t:=t) (h.1 d),fun d=>zm (t:=e) (h.2 d)⟩
 |.side _ t,h=>⟨h.1,zm (t:=t) h.2⟩
inductive Want where
 |bad|yes|no
 |test (t:Tmp) (b:Bool) (want:Bool)
def oW(ops:Array Oper)(fr:List AV)(o:Oper):Want :=
 match o.guard with
 |none=>.yes
 | some (j,want)=>match (ops[j]?).bind (·.dst) with
  | some t=>match fr[t]? with
   |some (.lit (.bool b))=>.test t b want
   |some (.tuple [])=>.no
   |_=>.bad
  |none=>.bad
def zn:AV→Option Bool
 |.lit (.bool b)=>some b
 |_=>none
def vP(H:List ak):AV→Bool × AV
 | .vec w id ae off n=>match H[id]? with
  |some (.vec ks v rows)=>if ae=v∧ks.length=w∧off=0 then (ab n rows.length,.listF ks rows) else (true,.vec w id ae off n)
  |_=>(true,.vec w id ae off n)
 | .ptr id ae k row col=>match H[id]? with
  |some (.raw (.box cells))=>if ae=0∧row=0∧col=0∧AV.bf cells=true then (true,.cptr cells) else (true,.ptr id ae k row col)
  |_=>(true,.ptr id ae k row col)
 |a=>(true,a)
def qC(H:List ak):List AV→Bool × List AV
 | []=>(true,[])
 | a::as=>match vP H a,qC H as with
  |(b,g),(k,d)=>(b&&k,g::d)
def zo(H:List ak):AV→Bool × AV
 | .clo f caps=>match qC H caps with
  |(b,d)=>(b,.clo f d)
 |a=>vP H a
def oX(H:List ak):List AV→Bool × List AV
 | []=>(true,[])
 | a::as=>match zo H a,oX H as with
  |(b,g),(k,d)=>(b&&k,g::d)
def zp:List AV→Bool
 | []=>true
 |.lit _::as=>zp as
 |_::_=>false
def zq:AV→Bool
 |.lit _=>true
 |.tuple vs=>zp vs
 |_=>false
def D0(P:Program)(r:Operand→AV)(H:List ak)(o:Op):Option AV :=
 match o with
 | .call c=>match c.callee,c.args.toList,c.argTypes.toList with
  | .builtin .len,[a],[t]=>match fe P t,r a with
   | some _,.map id=>match H[id]? with
    |some (.map _ _ rows _)=>some (.lit (.int .i64 rows.length))
    |_=>none
   |_,_=>none
  |_,_,_=>none
 |_=>none
theorem VI{P:Program}{r:Operand→AV}{H:List ak}{o:Op}{v:AV}(h:D0 P r H o=some v):eV P r (aj H) o=some v:=by
 unfold D0 at h;split at h
 ·rename_i c
  simp only[eV];split at h
  ·rename_i a t hc d g
   unfold oO;rw[hc,d,g];simp only[];split at h
   ·rename_i p id k hm
    rw[k,hm];simp only[];split at h
    ·rename_i K V rows cl hid
     cases h;rw[bl hid];simp[ak.den,cN]
    ·cases h
   ·cases h
  ·cases h
 ·cases h
def D1(v:AV)(H:List ak):Option (Bool × AV × List ak) :=
 match v with
 | .vec w id ae off n=>match H[id]? with
  |some (.vec ks u rows)=>if ae=u∧off=0∧w=ks.length then some (ab n rows.length,.listF ks rows,H.set id (.raw .dead)) else none
  |_=>none
 |_=>none
def vQ(P:Program)(r:Operand→AV)(H:List ak):Op→Option (Bool × List ak)
 | .store t a x=>match D1 (r x) H with
  | some (b0,v1,H1)=>match s7 P t (r a) v1 H1 with
   |some (b1,H')=>some (b0&&b1,H')
   |none=>none
  |none=>none
 |_=>none
theorem VJ{P:Program}{r:Operand→AV}{H H':List ak}{o:Op}{b:Bool}(h:vQ P r H o=some (b,H'))(g:b=true):sN P r (aj H) .undef (aj H') o:=by
 unfold vQ at h;split at h
 case h_2=>cases h
 rename_i t a x;split at h
 case h_2=>cases h
 rename_i b0 v1 H1 d;split at h
 case h_2=>cases h
 rename_i b1 A k;simp only[aT,aZ]at h;obtain⟨h1,rfl⟩:=h;subst g;simp only[aw]at h1;unfold D1 at d;split at d
 case h_2=>cases d
 rename_i w id ae off n q;split at d
 case h_2=>cases d
 rename_i ks u rows hid;split at d
 case isFalse=>cases d
 rename_i hc;obtain⟨rfl,rfl,rfl⟩:=hc;simp only[aT,aZ]at d;obtain⟨hn,rfl,rfl⟩:=d;rw[h1.1]at hn;have hn:=bt hn;subst hn;refine⟨.listF ks rows,(aj H).set id .dead,⟨id,ae,ks,rows,q,?_,rfl,rfl⟩,?_,rfl⟩
 ·rw [bl hid]
  rfl
 ·have := Kr k h1.2
  rw[eu]at this;exact this
def oY(P:Program)(τ:ah)(o:Oper)(s:al)(k:AV→List ak→Tree):Tree :=
 match o.op with
 | .pick c a b=>match zn (s.eval c) with
  |some t=>.ask t (k (s.eval a) s.H) (k (s.eval b) s.H)
  |none=>.fail
 | .load t a=>match DN P t (s.eval a) s.H with
  |some (b,v)=>.side b (k v s.H)
  |none=>.fail
 | .lookup t m x ok=>match DS P t (s.eval m) (s.eval x) ok s.H with
  | some (b,v)=>match cW τ.pf o.op,ok with
   |.read,_=>.side b (k v s.H)
   |.write,false=>.side b (k v s.H)
   |_,_=>.fail
  | none=>match cW τ.pf o.op with
   | .write=>match s_ P s.eval s.H o.op with
    |some (b,v,H')=>.side b (k v H')
    |none=>.fail
   |_=>.fail
 | _=>match cW τ.pf o.op with
  | .read=>match D0 P s.eval s.H o.op with
   |some v=>k v s.H
   |none=>.fail
  | .pure=>match eU s.eval o.op with
   | some (f,args)=>match τ.T f args with
    |some (b,v)=>.side b (k v s.H)
    |none=>.fail
   | none=>match DZ P s.eval o.op with
    |some (b,v)=>.side b (k v s.H)
    |none=>.fail
  | .write=>match eU s.eval o.op with
   | some (f,args)=>match τ.W f args s.H with
    |some (b,v,H')=>.side b (k v H')
    | none=>match τ.I f args s.H with
     |some t=>t.vO k
     | none=>match τ.T f args with
      |some (b,v)=>.side b (k v s.H)
      | none=>match oX s.H args with
       | (g,d)=>match τ.T f d with
        | some (b,v)=>match zq v&&AV.bf d with
         |true=>.side (g&&b) (k v s.H)
         |false=>.fail
        |none=>.fail
   | none=>match s_ P s.eval s.H o.op with
    |some (b,v,H')=>.side b (k v H')
    | none=>match vQ P s.eval s.H o.op with
     |some (b,H')=>.side b (k .undef H')
     |none=>.fail
def al.slot(s:al)(t:Tmp)(b:Bool):al:=⟨s.fr.set t (.lit (.bool b)),s.H⟩
def D2(P:Program)(τ:ah)(ops:Array Oper)(o:Oper)(s:al)(k:al→Tree):Tree :=
 match oW ops s.fr o with
 |.bad=>.fail
 |.no=>k (s.put o.dst (.tuple []) s.H)
 |.yes=>oY P τ o s fun v H'=>k (s.put o.dst v H')
 | .test t b want=>.ask b
   (match want with
    |true=>oY P τ o (s.slot t true) fun v H'=>k ((s.slot t true).put o.dst v H')
    |false=>k ((s.slot t true).put o.dst (.tuple []) s.H))
   (match want with
    |true=>k ((s.slot t false).put o.dst (.tuple []) s.H)
    |false=>oY P τ o (s.slot t false) fun v H'=>k ((s.slot t false).put o.dst v H'))
def ef(P:Program)(τ:ah)(ops:Array Oper):List Oper→al→(al→Tree)→Tree
 | [],s,k=>k s
 |o::rest,s,k=>D2 P τ ops o s fun s1=>ef P τ ops rest s1 k
def gG:AV→Option Nat
 |.ptr id _ _ _ _=>some id
 |.vec _ id _ _ _=>some id
 |.map id=>some id
 |_=>none
def jM(τ:ah)(r:Operand→AV)(H:List ak)(op:Op):List Nat :=
 match eU r op with
 |some (f,args)=>τ.C f args H
 |none=>op.operands.toList.filterMap fun x=>gG (r x)
structure Acc where
 R:jf
 W:il
def vR(ids:List Nat)(i:Nat):Bool := !ids.any (ab i)
def D3(ops:Array Oper)(j id:Nat)(acc:Acc):Option Acc :=
 match acc.W.all fun e=>waits ops ops.size j e.1||(vR e.2.1 id&&eE id e.2.2)with
 |true=>some ⟨(j,id)::acc.R,acc.W⟩
 |false=>none
def zt(ops:Array Oper)(j:Nat)(T:List Nat)(n:Nat)(acc:Acc):Option Acc :=
 match acc.R.all fun e=>waits ops ops.size j e.1||(vR T e.2&&eE e.2 n)with
 | true=>match acc.W.all fun e=>waits ops ops.size j e.1||T.all fun id=>vR e.2.1 id&&eE id e.2.2 with
  |true=>some ⟨acc.R,(j,T,n)::acc.W⟩
  |false=>none
 |false=>none
def D4(τ:ah)(ops:Array Oper)(j:Nat)(o:Oper)(s:al)(acc:Acc):Option Acc :=
 match cW τ.pf o.op with
 |.pure=>some acc
 | .read=>match lq s.eval o.op with
  |some id=>D3 ops j id acc
  |none=>some acc
 |.write=>zt ops j (jM τ s.eval s.H o.op) s.H.length acc
def gZ:Kd→Value→Option G
 |.int k,.int k' n=>if k=k' then some (.i n) else none
 |.str,.string s=>some (.s s)
 |.bool,.bool b=>some (.t b)
 |.list _,.slice none 0 0=>some (.l [])
 |_,_=>none
def tb:List Kd→List Value→Option (List G)
 | [],[]=>some []
 | k::ks,v::z=>match gZ k v,tb ks z with
  |some g,some gs=>some (g::gs)
  |_,_=>none
 |_,_=>none
def mK:Kd→Option (List Kd)
 |.list ks=>some ks
 |_=>none
def mZ:List Kd→List (Option (List Kd)):=List.map mK
theorem VK{k:Kd}{v:Value}{g:G}(h:gZ k v=some g):ib k g=zc (mK k) v:=by
 cases k with
 | int k =>
  cases v with
  | int k' n =>
   simp only[gZ]at h;by_cases e:k=k'
   ·rw [if_pos e] at h
    cases h;subst e;rfl
   ·rw [if_neg e] at h
    cases h
  |_=>cases h
 |str=>cases v<;>first|(cases h; rfl)|cases h
 |bool=>cases v<;>first|(cases h; rfl)|cases h
 | list ks =>
  cases v with
  |slice b n c=>cases b<;>cases n<;>cases c<;>first|(cases h; rfl)|cases h
  |_=>cases h
theorem KI:∀{ks:List Kd} {z:List Value} {g:List G},tb ks z=some g→aD ks g=dD (mZ ks) z
 | [],[],g,h=>by cases h; rfl
 | [],_::_,g,h=>by cases h
 |_::_,[],g,h=>by cases h
 | k::ks,v::z,g,h=>by
  simp only[tb]at h;split at h
  ·rename_i g0 gs h1 d
   cases h;have q:=KI d;simp only[aD,oq,List.tail_cons,q,VK h1];rfl
  ·cases h
def qD(z:List Value):List ak→Nat→Option (Nat × List Kd × List G)
 | [],_=>none
 | .vec ks 0 rows::H,i=>match tb ks z with
  | some g=>match rows with
   | []=>some (i,ks,g)
   |_::_=>qD z H (i+1)
  |none=>qD z H (i+1)
 |_::H,i=>qD z H (i+1)
def D5(P:Program)(op:Op)(H:List ak):Option (Nat × AV × List ak) :=
 match op with
 | .alloc t=>match eF P t with
  | some z=>match qD z H 0 with
   |some (id,ks,g)=>some (id,.ptr id 1 ks.length 0 0,H.set id (.vec ks 1 [g]))
   |none=>none
  |none=>none
 |_=>none
def D6(τ:ah)(o:Oper)(s:al):Bool:=match cW τ.pf o.op with
 | .write=>match eU s.eval o.op with
  | some (f,args)=>match τ.N f with
   |true=>(τ.W f args s.H).isSome
   |false=>false
  |none=>false
 |_=>true
def vS(P:Program)(τ:ah)(ops:Array Oper)(j:Nat)(o:Oper)(s:al)(acc:Acc)(k:al→Acc→Tree):Tree :=
 match qu ops&&ep o.op with
 | true=>match D5 P o.op s.H with
  | some (id,v,H')=>match zt ops j [id] s.H.length acc with
   |some d=>k (s.put o.dst v H') d
   |none=>.fail
  |none=>.fail
 | false=>match oP ops&&lr o.op && !D6 τ o s with
  |true=>.fail
  | false=>match D4 τ ops j o s acc with
   |some d=>oY P τ o s fun v H'=>k (s.put o.dst v H') d
   |none=>.fail
def D7(P:Program)(τ:ah)(ops:Array Oper)(j:Nat)(o:Oper)(s:al)(acc:Acc)(k:al→Acc→Tree):Tree :=
 match oW ops s.fr o with
 |.bad=>.fail
 |.no=>k (s.put o.dst (.tuple []) s.H) acc
 |.yes=>vS P τ ops j o s acc k
 | .test t b want=>.ask b
   (match want with
    |true=>vS P τ ops j o (s.slot t true) acc k
    |false=>k ((s.slot t true).put o.dst (.tuple []) s.H) acc)
   (match want with
    |true=>k ((s.slot t false).put o.dst (.tuple []) s.H) acc
    |false=>vS P τ ops j o (s.slot t false) acc k)
def D8(P:Program)(τ:ah)(ops:Array Oper):List Oper→Nat→al→Acc→(al→Tree)→Tree
 | [],_,s,_,k=>k s
 |o::rest,j,s,acc,k=>D7 P τ ops j o s acc fun s1 d=>D8 P τ ops rest (j+1) s1 d k
def KJ(k:al→Tree)(K:bk→al→Tree):bk→al→Tree
 |.normal,s=>k s
 |x,s=>K x s
def KK(id:Nat)(K:bk→al→Tree):bk→al→Tree
 |.exit i,s=>if i=id then K .normal s else K (.exit i) s
 |x,s=>K x s
def Tree.bind(K:bk→al→Tree):Tree→Tree
 |.fail=>.fail
 |.done x s=>K x s
 |.ask b t e=>.ask b (t.bind K) (e.bind K)
 |.side b t=>.side b (t.bind K)
def lx:Code→Option Nat
 |.region id _ _=>some id
 | .seq a b=>match lx a with
  |some i=>some i
  |none=>lx b
 |.block _ c=>lx c
 | .cond _ a b=>match lx a with
  |some i=>some i
  |none=>lx b
 |.loop c=>lx c
 |_=>none
def qE:Code→Nat
 | .seq a b=>match lx a with
  |some _=>qE a
  |none=>qE b
 |.block _ c=>qE c
 | .cond _ a b=>match lx a with
  |some _=>qE a
  |none=>qE b
 |.loop c=>qE c+1
 |_=>0
def KL(c:Code):Option Nat:=match lx c with
 |some i=>some (i+1000*qE c)
 |none=>none
def bC:Code→List (Nat × Code)
 |.seq a b=>bC a++bC b
 |.cond _ a b=>bC a++bC b
 |.block _ c=>bC c
 | .loop c=>match KL c with
  |some k=>(k,c)::bC c
  |none=>bC c
 |_=>[]
def VL(k:al→Tree)(K:bk→al→Tree):bk→al→Tree
 |.normal,s=>k s
 |.exit i,s=>K (.exit i) s
 |.ret,s=>K .ret s
def zu(body:al→(bk→al→Tree)→Tree):Nat→al→(bk→al→Tree)→Tree
 |0,_,_=>.fail
 |n+1,s,K=>body s (VL (fun s'=>zu body n s' K) K)
def bA:Code→List (Nat × Code)
 | .seq a b=>bA a++((match lx b with
  |some k=>[(k,b)]
  |none=>[])++bA b)
 |.cond _ a b=>bA a++bA b
 |.block _ c=>bA c
 |.loop c=>bA c
 |_=>[]
structure LT where
 loops:Nat→al→Option Tree
 pre:Nat→al→Bool × al
 vT:Nat→al→Option Tree
def KM(L:LT)(k:Option Nat)(s:al):Option Tree :=
 match k with
 |some i=>L.vT i s
 |none=>none
def bQ(P:Program)(τ:ah)(L:LT):Code→al→(bk→al→Tree)→Tree
 |.skip,s,K=>K .normal s
 | .region id ops draw,s,K=>match draw && !sO τ.pf ops with
  | true=>match sX τ.pf ops with
   |true=>.side (L.pre id s).1 (D8 P τ ops ops.toList 0 (L.pre id s).2 ⟨[],[]⟩ (K .normal))
   |false=>.fail
  |false=>.side (L.pre id s).1 (ef P τ ops ops.toList (L.pre id s).2 (K .normal))
 | .seq a b,s,K=>bQ P τ L a s (KJ (fun s1=>match KM L (lx b) s1 with
  |some t=>t.bind K
  |none=>bQ P τ L b s1 K) K)
 | .cond c a b,s,K=>match zn (s.eval c) with
  |some t=>.ask t (bQ P τ L a s K) (bQ P τ L b s K)
  |none=>.fail
 |.block id c,s,K=>bQ P τ L c s (KK id K)
 | .loop c,s,K=>match KL c with
  | some i=>match L.loops i s with
   |some t=>t.bind K
   |none=>zu (fun s1 d=>bQ P τ L c s1 d) 400 s K
  |none=>.fail
 |.exit id,s,K=>K (.exit id) s
 |.ret,s,K=>K .ret s
 |_,_,_=>.fail
def KN(P:Program)(m:Nat)(c:Code)(s:al)(t:Tree):Prop:=∀ Q:bk→al→Prop,t.holds Q→∃ x s',kn P m c s.den x s'.den∧Q x s'
def zw(P:Program)(m:Nat)(c:Code)(s:al)(t:Tree):Prop:=∀ Q:bk→al→Prop,t.holds Q→∃ x s',bU P m c s.den x s'.den∧Q x s'
def ay(P:Program)(m:Nat)(L:LT)(c:Code):Prop:=(∀ k d,(k,d)∈bC c→∀ s t,L.loops k s=some t→KN P m d s t)∧(∀ id s,(L.pre id s).1=true→bL m s.den (L.pre id s).2.den) ∧
 ∀ k d,(k,d)∈bA c→∀ s t,L.vT k s=some t→zw P m d s t
theorem ay.sub{P:Program}{m:Nat}{L:LT}{c g:Code}(h:ay P m L c)(h1:∀ p,p∈bC g→p∈bC c)(q:∀ p,p∈bA g→p∈bA c):ay P m L g :=
 ⟨fun k d hk=>h.1 k d (h1 _ hk),h.2.1,fun k d hk=>h.2.2 k d (q _ hk)⟩
theorem KO{a:AV}{b:Bool}(h:zn a=some b):a=.lit (.bool b):=by
 unfold zn at h;split at h
 ·cases h; rfl
 ·cases h
theorem KP{E E':Env}:∀{vs:List AV} {us:List Value},zp vs=true→ad E vs us→ad E' vs us
 | [],[],_,_=>by simp[ad]
 | [],_::_,_,h=>by simp[ad]at h
 | a::vs,us,d,h=>by
  unfold zp at d;split at d
  ·rename_i heq; cases heq
  ·rename_i heq
   cases heq;cases us with
   |nil=>simp[ad]at h
   | cons u us =>
    simp only[ad,rel]at h⊢;exact⟨h.1,KP d h.2⟩
  ·cases d
theorem VM{E E':Env}{v:AV}{u:Value}(d:zq v=true)(h:rel E v u):rel E' v u:=by
 unfold zq at d;split at d
 ·simpa only[rel]using h
 ·simp only [rel] at h ⊢
  obtain⟨cs,e,g⟩:=h;exact⟨cs,e,KP d g⟩
 ·cases d
def Env.bare(E:Env)(w:World):Env:={ w:=w,H:=[],loc:=[],X:=E.X.re dP }
theorem zx{E:Env}{w:World}(b:Nat):¬ (E.bare w).own b:=by rintro(⟨id,c,h⟩|⟨l,k,c,h⟩); simp[Env.bare]at h; simp[Env.bare,dP]at h
theorem oZ(E:Env):E.bG (E.bare E.w):=⟨fun b d=>⟨⟨d.1,zx b,d.2.2⟩,rfl⟩⟩
theorem VN{E:Env}(HE:ar E):ar (E.bare E.w):=by
 refine⟨rfl,?_,?_,HE.X,?_,HE.fb.bG (oZ E),fun l k l' k' b m n hk=>by simp[Env.bare,dP]at hk,fun i b m l k n hi=>by simp[Env.bare]at hi,fun l k b m hk=>by simp[Env.bare,dP]at hk,fun i j o o' l hi=>by simp[Env.bare]at hi,fun l _ k q hk=>by simp[Env.bare,dP]at hk⟩
 ·intro i j b m n hi; simp[Env.bare]at hi
 ·intro i b m hi; simp[Env.bare]at hi
 ·intro i o hi; simp[Env.bare]at hi
theorem KQ{E:Env}(HE:ar E){H:List ak}(hH:E.H=aj H){id ae n w:Nat}{ks:List Kd}{rows:List (List G)}{c:Value}
  (hid:H[id]? = some (.vec ks ae rows)) (hw:ks.length=w) (hn:n=rows.length) (hr:rel E (.vec w id ae 0 n) c):rel (E.bare E.w) (.listF ks rows) c:=by
 subst hw hn;have k:E.H[id]? = some (.vec ks.length ae (rows.map (aD ks))):=by rw[hH]; exact bl hid
 have d:=HE.obj id _ k;rw[jI];simp only[rel]at hr⊢;obtain⟨⟨base,cap,rfl,B,_⟩,_,F⟩:=hr;obtain⟨N,I⟩:=F ⟨_,k,rfl⟩;have q:fa (rows.map (aD ks)):=by
  intro r hr;obtain⟨g,_,rfl⟩:=bR.1 hr;exact fL ks g
 refine⟨q,base,cap,by simp,by simpa using B,?_⟩;simp only[aO]at d;rcases d with⟨h1,A⟩|⟨b,m,h1,A,J,_,M⟩
 ·exact .inl A
 ·obtain ⟨g1, o, g2, g3⟩ := I b m h1
  by_cases hm:rows=[]
  ·subst hm; exact .inl rfl
  ·right
   have:0<rows.length:=by cases rows with|nil=>exact(hm rfl).elim|cons _ _=>simp
   simp at J;have d:=g2 (by omega);simp at d;subst d;simp only[j0]at g3;refine⟨b,0,g3.1,⟨(HE.lt id b m h1).1,zx b,(HE.lt id b m h1).2⟩,?_⟩;exact k8 (oZ E) _ q rfl M
theorem VO{E:Env}(HE:ar E){H:List ak}(hH:E.H=aj H){id k:Nat}{cells:List AV}{c:Value} (hid:H[id]? = some (.raw (.box cells))) (g:AV.bf cells=true)
  (hr:rel E (.ptr id 0 k 0 0) c):rel (E.bare E.w) (.cptr cells) c:=by
 have d:E.H[id]? = some (.box cells):=by rw[hH]; exact bl hid
 have q:=HE.obj id _ d;simp only[aO]at q;obtain⟨b,n,h1,F,A⟩:=q;simp only[rel]at hr⊢;obtain⟨_,_,B⟩:=hr;obtain⟨I,J,g1,g2⟩:=B ⟨_,d,rfl⟩;rw[h1]at g1;simp only[aT,aZ]at g1;obtain⟨rfl,rfl⟩:=g1;refine⟨g,b,0,by rw[g2]; simp,⟨(HE.lt id b n h1).1,zx b,(HE.lt id b n h1).2⟩,?_⟩;exact sg (oZ E) cells g rfl A
theorem KR{E:Env}(HE:ar E){H:List ak}(hH:E.H=aj H){a g:AV}{b:Bool}{c:Value}(h:vP H a=(b,g))(q:b=true)(d:g.closed=true)(hr:rel E a c):rel (E.bare E.w) g c:=by
 unfold vP at h;split at h
 ·split at h
  ·rename_i w id ae off n ks v rows hid
   split at h
   ·rename_i hc
    obtain⟨rfl,A,rfl⟩:=hc;simp only[aZ]at h;obtain⟨h1,rfl⟩:=h;subst q;exact KQ HE hH hid A (bt h1) hr
   ·cases h; simp[AV.closed]at d
  ·cases h; simp[AV.closed]at d
 ·split at h
  ·rename_i id ae k row col _ cells hid
   split at h
   ·rename_i hc
    obtain⟨rfl,rfl,rfl,B⟩:=hc;cases h;exact VO HE hH hid B hr
   ·cases h; simp[AV.closed]at d
  ·cases h; simp[AV.closed]at d
 ·cases h
  exact dI (oZ E) _ d hr
theorem KS{E:Env}(HE:ar E){H:List ak}(hH:E.H=aj H):∀{as d:List AV} {b:Bool} {cs:List Value},qC H as=(b,d)→b=true→AV.bf d=true→ad E as cs →
  ad (E.bare E.w) d cs
 | [],d,b,cs,h,_,_,hr=>by
  simp only[qC]at h;cases h;cases cs with
  |nil=>simp[ad]
  |cons _ _=>simp[ad]at hr
 | a::as,d,b,cs,h,k,g,hr=>by
  cases cs with
  |nil=>simp[ad]at hr
  | cons c cs =>
   simp only[ad]at hr;cases q:vP H a with
   |mk b1 F =>
   cases A:qC H as with
   |mk I B =>
   simp only[qC,q,A,aZ]at h;obtain⟨h1,rfl⟩:=h;subst h1;simp only[aw]at k;simp only[AV.bf,aw]at g;simp only[ad];exact⟨KR HE hH q k.1 g.1 hr.1,KS HE hH A k.2 g.2 hr.2⟩
theorem VP{E:Env}(HE:ar E){H:List ak}(hH:E.H=aj H){a d:AV}{b:Bool}{c:Value}(h:zo H a=(b,d))(k:b=true)(g:d.closed=true)(hr:rel E a c):rel (E.bare E.w) d c:=by
 unfold zo at h;split at h
 ·rename_i f caps
  cases q:qC H caps with
  |mk b1 B =>
  rw[q]at h;cases h;simp only[rel]at hr⊢;obtain⟨cs,e,A⟩:=hr;exact⟨cs,e,KS HE hH q k (by simpa only[AV.closed]using g) A⟩
 ·exact KR HE hH h k g hr
theorem KT{E:Env}(HE:ar E){H:List ak}(hH:E.H=aj H):∀{as d:List AV} {b:Bool} {cs:List Value},oX H as=(b,d)→b=true→AV.bf d=true→ad E as cs →
  ad (E.bare E.w) d cs
 | [],d,b,cs,h,_,_,hr=>by
  simp only[oX]at h;cases h;cases cs with
  |nil=>simp[ad]
  |cons _ _=>simp[ad]at hr
 | a::as,d,b,cs,h,k,g,hr=>by
  cases cs with
  |nil=>simp[ad]at hr
  | cons c cs =>
   simp only[ad]at hr;cases q:zo H a with
   |mk b1 F =>
   cases A:oX H as with
   |mk I B =>
   simp only[oX,q,A,aZ]at h;obtain⟨h1,rfl⟩:=h;subst h1;simp only[aw]at k;simp only[AV.bf,aw]at g;simp only[ad];exact⟨VP HE hH q k.1 g.1 hr.1,KT HE hH A k.2 g.2 hr.2⟩
theorem VQ{P:Program}{f:FuncId}{args d:List AV}{H:List ak}{b:Bool}{v:AV}(A:cV P f d v)(B:oX H args=(b,d))(F:b=true)(q:AV.bf d=true)
  (I:zq v=true):cg P f args (aj H) v (aj H):=by
 intro E cargs hH HE k;refine(A [] (E.bare E.w) cargs rfl (VN HE) (KT HE hH B F q k)).mono ?_;rintro _ w' ⟨c,J,H',rfl,⟨rfl,rfl⟩,N,r',g1,g2,g3⟩;have g:Ext E.w w':=⟨g3.size,fun x M=>g3.same x M (zx x),g3.env⟩
 refine⟨c,J,aj H,rfl,⟨rfl,rfl⟩,E.loc,E.X.r,VM I g1,?_,?_⟩
 ·rw[←hH]; exact HE.ext g
 ·rw[←hH]; exact Env.gd g
section sound
variable {P:Program} {τ:ah}
theorem D9{ops:Array Oper}{o:Oper}{s:al}{v:AV}(hw:bT ops s.fr o=some true)(hc:cW τ.pf o.op=.pure)
  (h:gU P s.eval o.op=some v∨∃ f args,eU s.eval o.op=some (f,args)∧dE P f=true∧cV P f args v):Yields P τ.pf ops o s.den v (aj s.H):=by
 unfold Yields;rw[show s.den.fr=s.fr from rfl,hw];simp only[hc,al.nv];exact⟨rfl,h⟩
theorem qF{ops:Array Oper}{o:Oper}{s:al}{v:AV}{H':List af}(hw:bT ops s.fr o=some true)(hc:cW τ.pf o.op=.write)
  (h:eH P s.eval (aj s.H) o.op=some (v,H')∨∃ f args,eU s.eval o.op=some (f,args)∧dE P f=true∧cg P f args (aj s.H) v H'):Yields P τ.pf ops o s.den v H':=by
 unfold Yields;rw[show s.den.fr=s.fr from rfl,hw];simp only[hc,al.nv];exact .inl h
theorem jh{H:List ak}{id A:Nat}{o:ak}(h:A≠id):(H.set id o)[A]? = H[A]? := bH (Ne.symm h)
theorem ku{H:List ak}{A:Nat}{o:ak}(h:A<H.length):(H++[o])[A]? = H[A]? := dz h
theorem KU{P:Program}{t:TypeId}{x v:AV}{H H':List ak}{b:Bool}{A:Nat}(h:s7 P t x v H=some (b,H'))(g:gG x≠some A):H'[A]? = H[A]? := by
 unfold s7 at h;split at h
 case h_2=>cases h
 rename_i n q cs id ae w row col B k;have d:A≠id:=fun e=>g (by rw[e]; rfl);split at h
 case isFalse=>cases h
 split at h
 ·split at h
  ·cases h; exact jh d
  ·cases h
 ·split at h
  ·split at h
   ·cases h; exact jh d
   ·cases h
  ·cases h
 ·cases h
theorem VR{P:Program}{t xt:TypeId}{s x v:AV}{H H':List ak}{b:Bool}{A:Nat}(h:vA P t xt s x H=some (b,v,H'))(d:A<H.length)(g:gG s≠some A):H'[A]? = H[A]? := by
 unfold vA at h;split at h
 case h_2=>cases h
 split at h
 case h_2=>cases h
 split at h
 case isFalse=>cases h
 split at h
 ·split at h
  ·split at h
   ·cases h; exact ku d
   ·cases h
  ·cases h
 ·split at h
  ·split at h
   ·cases h; exact ku d
   ·cases h
  ·cases h
 ·split at h
  ·split at h
   ·split at h
    ·cases h; exact jh fun e=>g (by rw[e]; rfl)
    ·cases h
   ·cases h
  ·cases h
 ·cases h
theorem VS{P:Program}{t xt:TypeId}{s x v:AV}{H H':List ak}{b:Bool}{A:Nat}(h:vM P t xt s x H=some (b,v,H'))(d:A<H.length):H'[A]? = H[A]? := by
 unfold vM at h;split at h
 case h_2=>cases h
 split at h
 case h_2=>cases h
 split at h
 case h_2=>cases h
 split at h
 case h_2=>cases h
 split at h
 ·cases h; exact ku d
 ·cases h
theorem VT{P:Program}{t:TypeId}{x:AV}{H H':List ak}{b:Bool}{A:Nat}(h:vL P t x H=some (b,H'))(d:gG x≠some A):H'[A]? = H[A]? := by
 unfold vL at h;split at h
 case h_2=>cases h
 split at h
 case h_2=>cases h
 split at h
 case h_2=>cases h
 split at h
 ·cases h; exact jh fun e=>d (by rw[e]; rfl)
 ·cases h
theorem KV{P:Program}{t:TypeId}{m k v:AV}{H H':List ak}{b:Bool}{A:Nat}(h:s9 P t m k v H=some (b,H'))(d:gG m≠some A):H'[A]? = H[A]? := by
 unfold s9 at h;split at h
 case h_2=>cases h
 split at h
 case h_2=>cases h
 split at h
 case h_2=>cases h
 split at h
 ·cases h; exact jh fun e=>d (by rw[e]; rfl)
 ·cases h
theorem VU{P:Program}{t:TypeId}{m k v:AV}{H H':List ak}{b:Bool}{A:Nat}(h:vG P t m k v H=some (b,H'))(d:gG m≠some A)(g:gG v≠some A):H'[A]? = H[A]? := by
 unfold vG at h;split at h
 case h_2=>cases h
 split at h
 case h_2=>cases h
 split at h
 case h_2=>cases h
 split at h
 ·cases h
  rw[jh fun e=>g (by rw[e]; rfl)];exact jh fun e=>d (by rw[e]; rfl)
 ·cases h
theorem VV{P:Program}{t:TypeId}{m k v:AV}{H H':List ak}{b:Bool}{A:Nat}(h:vF P t m k H=some (b,v,H'))(d:A<H.length)(g:gG m≠some A):H'[A]? = H[A]? := by
 unfold vF at h;split at h
 case h_2=>cases h
 split at h
 case h_2=>cases h
 split at h
 case h_2=>cases h
 split at h
 ·cases h
  rw[ku (by simpa using d)];exact jh fun e=>g (by rw[e]; rfl)
 ·cases h
theorem VW{m s v:AV}{H H':List ak}{b:Bool}{A:Nat}(h:vI m s v H=some (b,H'))(d:gG m≠some A)(g:gG v≠some A):H'[A]? = H[A]? := by
 unfold vI at h;split at h
 case h_2=>cases h
 split at h
 case h_2=>cases h
 split at h
 ·cases h
  rw[jh fun e=>g (by rw[e]; rfl)];exact jh fun e=>d (by rw[e]; rfl)
 ·cases h
theorem VX{P:Program}{t:TypeId}{m k v:AV}{H H':List ak}{b:Bool}{A:Nat}(h:vH P t m k H=some (b,v,H'))(d:A<H.length)(g:gG m≠some A):H'[A]? = H[A]? := by
 unfold vH at h;split at h
 case h_2=>cases h
 split at h
 case h_2=>cases h
 split at h
 case h_2=>cases h
 split at h
 ·cases h
  rw[ku (by simpa using d)];exact jh fun e=>g (by rw[e]; rfl)
 ·cases h
theorem VY{P:Program}{t:TypeId}{m k:AV}{H H':List ak}{b:Bool}{A:Nat}(h:vK P t m k H=some (b,H'))(d:gG m≠some A):H'[A]? = H[A]? := by
 unfold vK at h;split at h
 case h_2=>cases h
 split at h
 case h_2=>cases h
 split at h
 ·cases h; exact jh fun e=>d (by rw[e]; rfl)
 ·cases h
theorem VZ{P:Program}{t:TypeId}{l c v:AV}{H H':List ak}{b:Bool}{A:Nat}(h:vB P t l c H=some (b,v,H'))(d:A<H.length):H'[A]? = H[A]? := by
 unfold vB at h;split at h
 case h_2=>cases h
 split at h
 case h_2=>cases h
 split at h
 case h_2=>cases h
 split at h
 case h_2=>cases h
 split at h
 ·cases h; exact ku d
 ·cases h
theorem V0{P:Program}{t:TypeId}{n:Nat}{parts:List (Nat × AV)}{v:AV}{H H':List ak}{b:Bool}{A:Nat}(h:vC P t n parts H=some (b,v,H'))(d:A<H.length):H'[A]? = H[A]? := by
 unfold vC at h;split at h
 case h_2=>cases h
 split at h
 case h_2=>cases h
 split at h
 case h_2=>cases h
 split at h
 case h_2=>cases h
 split at h
 case h_2=>cases h
 split at h
 ·cases h; exact ku d
 ·cases h
theorem KW{P:Program}{r:Operand→AV}{H H':List ak}{o:Op}{v:AV}{b:Bool}{A:Nat}(h:s_ P r H o=some (b,v,H'))(g:A<H.length)(J:A∉o.operands.toList.filterMap fun x=>gG (r x)):H'[A]? = H[A]? := by
 have no:∀ x∈o.operands.toList,gG (r x)≠some A:=fun x q e=>J (Th.2 ⟨x,q,e⟩);cases o<;>simp only[s_]at h<;>try cases h
 case alloc t =>
  split at h
  ·split at h
   ·cases h; exact ku g
   ·cases h
  ·split at h
   ·cases h; exact ku g
   ·cases h
 case box t x =>
  split at h
  ·cases h; exact ku g
  ·cases h
 case store t a x =>
  split at h
  ·rename_i F H1 d
   cases h;exact KU d (no a (by simp[f_]))
  ·cases h
 case makeSlice t l c=>exact VZ h g
 case buildSlice t n ps=>exact V0 h g
 case range t x =>
  split at h
  ·cases h; exact ku g
  ·cases h
 case next it isString =>
  cases isString with
  |false=>cases h
  | true =>
   simp only[]at h;split at h
   ·rename_i id k q
    split at h
    ·split at h
     ·cases h; exact jh fun e=>no it (by simp[f_]) (by rw[q,e]; rfl)
     ·cases h; rfl
    ·cases h
   ·cases h
 case makeMap t res =>
  cases res with
  |some _=>cases h
  | none =>
   simp only[]at h;split at h
   ·split at h
    ·cases h; exact ku g
    ·cases h
   ·cases h
 case mapUpdate t m k x =>
  split at h
  ·rename_i F H1 d
   cases h;exact KV d (no m (by simp[f_]))
  ·split at h
   ·rename_i F H1 d
    cases h;exact VU d (no m (by simp[f_])) (no x (by simp[f_]))
   ·cases h
 case lookup t m k ok =>
  cases ok with
  |true=>cases h
  |false=>exact VV h g (no m (by simp[f_]))
 case mapEntry t m k=>exact VX h g (no m (by simp[f_]))
 case entryStore t m s x =>
  split at h
  ·rename_i F H1 d
   cases h;exact VW d (no m (by simp[f_])) (no x (by simp[f_]))
  ·cases h
 case insert t m k x =>
  split at h
  ·rename_i F H1 d
   cases h;exact KV d (no m (by simp[f_]))
  ·cases h
 case call c =>
  have na:∀ x∈c.args.toList,gG (r x)≠some A:=fun x q=>no x (by
   simp only[f_,Call.operands];simp at q⊢;exact .inr q)
  split at h
  ·split at h
   ·rename_i s x t xt B I
    have M:=na s (by rw[B]; simp);split at h
    ·exact VS h g
    ·exact VR h g M
   ·cases h
  ·split at h
   ·rename_i x t B I
    have nx:=na x (by rw[B]; simp);split at h
    ·rename_i d; cases h; exact VT d nx
    ·cases h
   ·cases h
  ·split at h
   ·rename_i x k t _ B I
    have nx:=na x (by rw[B]; simp);split at h
    ·rename_i d; cases h; exact VY d nx
    ·cases h
   ·cases h
  ·cases h
theorem V2{P:Program}{r:Operand→AV}{H H':List ak}{o:Op}{b:Bool}{A:Nat}(h:vQ P r H o=some (b,H'))(g:A∉o.operands.toList.filterMap fun x=>gG (r x)):H'[A]? = H[A]? := by
 have no:∀ x∈o.operands.toList,gG (r x)≠some A:=fun x k e=>g (Th.2 ⟨x,k,e⟩);unfold vQ at h;split at h
 case h_2=>cases h
 rename_i t a x;split at h
 case h_2=>cases h
 rename_i b0 v1 H1 d;split at h
 case h_2=>cases h
 rename_i b1 F q;simp only[aT,aZ]at h;obtain⟨_,rfl⟩:=h;rw[KU q (no a (by simp[f_]))];unfold D1 at d;split at d
 case h_2=>cases d
 rename_i w id ae off n B;split at d
 case h_2=>cases d
 split at d
 case isFalse=>cases d
 simp only[aT,aZ]at d;obtain⟨_,_,rfl⟩:=d;refine jh fun e=>no x (by simp[f_]) ?_;rw[B,e];rfl
theorem zy(J:ai P τ){ops:Array Oper}{o:Oper}{s:al}{k:AV→List ak→Tree}{Q:bk→al→Prop}(hw:bT ops s.fr o=some true)
  (h:(oY P τ o s k).holds Q):∃ v H',Yields P τ.pf ops o s.den v (aj H')∧(cW τ.pf o.op=.write→∀ A,A∉jM τ s.eval s.H o.op→A<s.H.length→H'[A]? = s.H[A]?)∧(k v H').holds Q:=by
 unfold oY at h;split at h
 ·rename_i c a b B
  split at h
  ·rename_i t R
   have R:=KO R;refine⟨bif t then s.eval a else s.eval b,s.H,D9 hw (by rw[B]; rfl) (.inl (by rw[B]; simp only[gU,R])),fun _ _ _ _=>rfl,?_⟩;simp only[Tree.holds]at h;cases t with
   |true=>exact h.1 rfl
   |false=>exact h.2 rfl
  ·exact h.elim
 ·rename_i t a B
  split at h
  ·rename_i b v N
   simp only[Tree.holds]at h;refine⟨v,s.H,?_,fun _ _ _ _=>rfl,h.2⟩;unfold Yields;rw[show s.den.fr=s.fr from rfl,hw];simp only[B,cW,al.nv];exact⟨rfl,by simp only[eV]; exact Vj N h.1⟩
  ·exact h.elim
 ·rename_i t m x ok B
  have Y:jM τ s.eval s.H o.op=o.op.operands.toList.filterMap fun x=>gG (s.eval x):=by
   have M:eU s.eval o.op=none:=by rw[B]; rfl
   simp only[jM,M]
  split at h
  ·rename_i b v N
   split at h
   ·rename_i hc
    simp only[Tree.holds]at h;refine⟨v,s.H,?_,fun _ _ _ _=>rfl,h.2⟩;unfold Yields;rw[show s.den.fr=s.fr from rfl,hw];simp only[hc,al.nv];rw[B];exact⟨rfl,by simp only[eV]; exact Kv N⟩
   ·rename_i hc
    simp only[Tree.holds]at h;refine⟨v,s.H,qF hw hc (.inl ?_),fun _ _ _ _=>rfl,h.2⟩;rw[B];simp only[eH,Kv N]
   ·exact h.elim
  ·split at h
   ·rename_i hc
    split at h
    ·rename_i b v H' d
     simp only[Tree.holds]at h;exact⟨v,H',qF hw hc (.inl (KG d h.1)),fun _ A g q=>KW d q (by rw[Y]at g; exact g),h.2⟩
    ·exact h.elim
   ·exact h.elim
 ·split at h
  ·rename_i hc
   split at h
   ·rename_i v d
    refine⟨v,s.H,?_,fun _ _ _ _=>rfl,h⟩;unfold Yields;rw[show s.den.fr=s.fr from rfl,hw];simp only[hc,al.nv];exact⟨rfl,VI d⟩
   ·exact h.elim
  ·rename_i hc
   split at h
   ·rename_i f args F
    split at h
    ·rename_i b v d
     simp only[Tree.holds]at h;obtain⟨g1,g2⟩:=J.T f args b v d h.1;exact⟨v,s.H,D9 hw hc (.inr ⟨f,args,F,g1,g2⟩),fun _ _ _ _=>rfl,h.2⟩
    ·exact h.elim
   ·split at h
    ·rename_i b v d
     simp only[Tree.holds]at h;exact⟨v,s.H,D9 hw hc (.inl (VH d h.1)),fun _ _ _ _=>rfl,h.2⟩
    ·exact h.elim
  ·rename_i hc
   split at h
   ·rename_i f args F
    split at h
    ·rename_i b v H' d
     simp only[Tree.holds]at h;obtain⟨g1,g2⟩:=J.W f args s.H b v H' d h.1;exact⟨v,H',qF hw hc (.inr ⟨f,args,F,g1,g2⟩),fun _ A g q=>J.C f args s.H b v H' d A (by simpa only[jM,F]using g) q,h.2⟩
    ·split at h
     ·rename_i t hi
      obtain⟨g1,v,H',g2,g3,g4⟩:=J.I f args s.H t hi _ (Tree.zm h);exact⟨v,H',qF hw hc (.inr ⟨f,args,F,g1,g2⟩),fun _ A g q=>g3 A (by simpa only[jM,F]using g) q,g4⟩
     ·split at h
      ·rename_i b v d
       simp only[Tree.holds]at h;obtain⟨g1,g2⟩:=J.T f args b v d h.1;exact⟨v,s.H,qF hw hc (.inr ⟨f,args,F,g1,g2 _⟩),fun _ _ _ _=>rfl,h.2⟩
      ·cases U : oX s.H args with
       |mk vb args' =>
       rw[U]at h;simp only[]at h;split at h
       ·rename_i b v d
        split at h
        ·rename_i O
         simp only[aw]at O;simp only[Tree.holds,aw]at h;obtain⟨g1,g2⟩:=J.T f args' b v d h.1.2;exact⟨v,s.H,qF hw hc (.inr ⟨f,args,F,g1,VQ g2 U h.1.1 O.2 O.1⟩),fun _ _ _ _=>rfl,h.2⟩
        ·exact h.elim
       ·exact h.elim
   ·rename_i M
    split at h
    ·rename_i b v H' d
     simp only[Tree.holds]at h;exact⟨v,H',qF hw hc (.inl (KG d h.1)),fun _ A g q=>KW d q (by simpa only[jM,M]using g),h.2⟩
    ·split at h
     ·rename_i b H' d
      simp only[Tree.holds]at h;refine⟨.undef,H',?_,fun _ A g q=>V2 d (by simpa only[jM,M]using g),h.2⟩;unfold Yields;rw[show s.den.fr=s.fr from rfl,hw];simp only[hc,al.nv];exact .inr (.inr (VJ d h.1))
     ·exact h.elim
theorem KX{ops:Array Oper}{s:al}{o:Oper}{t:Tmp}{b want:Bool}(h:oW ops s.fr o=.test t b want) :
  s.fr[t]? = some (.lit (.bool b))∧bT ops s.fr o=some (b==want):=by
 unfold oW at h;unfold bT;cases d:o.guard with
 |none=>rw[d]at h; cases h
 | some k =>
  obtain⟨j,w⟩:=k;rw[d]at h;simp only[]at h⊢;split at h
  ·rename_i t' q
   split at h
   ·rename_i A g
    cases h;exact⟨g,by rw[q]; simp only[g]⟩
   ·cases h
   ·cases h
  ·cases h
theorem D_{ops:Array Oper}{s:al}{o:Oper}(h:oW ops s.fr o=.no):bT ops s.fr o=some false:=by
 unfold oW at h;unfold bT;cases d:o.guard with
 |none=>rw[d]at h; cases h
 | some g =>
  obtain⟨j,w⟩:=g;rw[d]at h;simp only[]at h⊢;split at h
  ·rename_i t' k
   split at h
   ·cases h
   ·rename_i q
    rw[k];simp only[q]
   ·cases h
  ·cases h
theorem KY{ops:Array Oper}{s:al}{o:Oper}(h:oW ops s.fr o=.yes):bT ops s.fr o=some true:=by
 unfold oW at h;unfold bT;cases d:o.guard with
 |none=>rfl
 | some g =>
  obtain⟨j,w⟩:=g;rw[d]at h;simp only[]at h;split at h
  ·split at h<;>cases h
  ·cases h
theorem zA{s:al}{t:Tmp}{b:Bool} (h:s.fr[t]? = some (.lit (.bool b))):s.slot t b=s:=by
 unfold al.slot;rw[mf h]
theorem V3(q:ai P τ){ops:Array Oper}{o:Oper}{s:al}{k:al→Tree}{Q:bk→al→Prop}(h:(D2 P τ ops o s k).holds Q) :
  ∃ v H',Yields P τ.pf ops o s.den v (aj H')∧(k (s.put o.dst v H')).holds Q:=by
 have skip:bT ops s.fr o=some false→Yields P τ.pf ops o s.den (.tuple []) (aj s.H):=by
  intro hw;unfold Yields;rw[show s.den.fr=s.fr from rfl,hw];exact⟨rfl,rfl⟩
 unfold D2 at h;split at h
 ·exact h.elim
 ·rename_i hw
  exact⟨_,_,skip (D_ hw),h⟩
 ·rename_i hw
  obtain⟨v,H',g1,_,g2⟩:=zy q (KY hw) h;exact⟨v,H',g1,g2⟩
 ·rename_i t b want hw
  obtain⟨h1,g⟩:=KX hw;simp only[Tree.holds]at h;cases b with
  | true =>
   have d:=h.1 rfl;rw[zA h1]at d;cases want with
   | true =>
    obtain⟨v,H',g1,_,g2⟩:=zy q g d;exact⟨v,H',g1,g2⟩
   |false=>exact⟨_,_,skip g,d⟩
  | false =>
   have d:=h.2 rfl;rw[zA h1]at d;cases want with
   |true=>exact⟨_,_,skip g,d⟩
   | false =>
    obtain⟨v,H',g1,_,g2⟩:=zy q g d;exact⟨v,H',g1,g2⟩
theorem o9(d:ai P τ){ops:Array Oper}{Q:bk→al→Prop}:∀{l:List Oper} {s:al} {k:al→Tree},(ef P τ ops l s k).holds Q→∃ s',eO P τ.pf ops l s.den s'.den∧(k s').holds Q
 | [],s,k,h=>⟨s,rfl,h⟩
 | o::l,s,k,h=>by
  obtain⟨v,H',h1,g⟩:=V3 d h;obtain⟨s',q,A⟩:=o9 d g;exact⟨s',⟨v,aj H',h1,q⟩,A⟩
def Acc.le(a b:Acc):Prop:=(∀ x∈a.R,x∈b.R)∧∀ x∈a.W,x∈b.W
def Acc.ok(ops:Array Oper)(j:Nat)(a:Acc):Prop:=(∀ x∈a.R,x.1<j)∧(∀ x∈a.W,x.1<j)∧sY ops a.R a.W
theorem Ea{ids:List Nat}{i:Nat}(h:vR ids i=true):i∉ids:=by
 intro hm;have:ids.any (ab i)=true:=List.any_eq_true.2 ⟨i,hm,by simp⟩;simp[vR,this]at h
theorem V4{ops:Array Oper}{j id:Nat}{a b:Acc}(F:a.ok ops j)(h:D3 ops j id a=some b):b.ok ops (j+1)∧a.le b∧(j,id)∈b.R:=by
 unfold D3 at h;split at h
 ·rename_i g
  cases h;simp only[dX,lW,aw,gB]at g;obtain⟨h1,k,q⟩:=F;refine⟨⟨fun x d=>?_,fun x d=>lZ (k x d),fun i A hi e he=>?_,q.2⟩,⟨fun x d=>cU _ d,fun x d=>d⟩,cZ⟩
  ·rcases bI.1 d with rfl | d
   ·exact Cv _
   ·exact lZ (h1 x d)
  ·rcases bI.1 hi with I | hi
   ·cases I
    have J:=k e he;refine⟨fun B=>absurd B (by omega),fun _ hw=>?_⟩;rcases g e he with h|h
    ·rw[hw]at h; cases h
    ·exact⟨Ea h.1,h.2⟩
   ·exact q.1 i A hi e he
 ·cases h
theorem KZ{ops:Array Oper}{j n:Nat}{T:List Nat}{a b:Acc}(U:a.ok ops j)(h:zt ops j T n a=some b):b.ok ops (j+1)∧a.le b∧(j,T,n)∈b.W:=by
 unfold zt at h;split at h
 ·rename_i J
  split at h
  case h_2=>cases h
  rename_i I;cases h;simp only[dX,lW,aw,gB]at J I;obtain⟨h1,N,O⟩:=U;refine⟨⟨fun x d=>lZ (h1 x d),fun x d=>?_,fun i q hi e he=>?_,fun e he e' k g A id hid=>?_⟩,⟨fun x d=>d,fun x d=>cU _ d⟩,cZ⟩
  ·rcases bI.1 d with rfl | d
   ·exact Cv _
   ·exact lZ (N x d)
  ·rcases bI.1 he with B | he
   ·subst B
    have g:=h1 (i,q) hi;refine⟨fun _ hw=>?_,fun M=>absurd M (by simp only at M g; omega)⟩;rcases J (i,q) hi with h|h
    ·simp only at hw h; rw[hw]at h; cases h
    ·exact⟨Ea h.1,h.2⟩
   ·exact O.1 i q hi e he
  ·rcases bI.1 k with B | k
   ·subst B
    rcases bI.1 he with F|he
    ·subst F
     exact absurd g (Cw _)
    ·rcases I e he with h | h
     ·simp only at A h
      rw[A]at h;cases h
     ·have R := h id hid
      exact⟨Ea R.1,R.2⟩
   ·rcases bI.1 he with F | he
    ·subst F
     have Y:=N e' k;exact absurd g (by simp only; omega)
    ·exact O.2 e he e' k g A id hid
 ·cases h
theorem Acc.vU{ops:Array Oper}{j:Nat}{a:Acc}(h:a.ok ops j):a.ok ops (j+1):=⟨fun x d=>lZ (h.1 x d),fun x d=>lZ (h.2.1 x d),h.2.2⟩
theorem Acc.le_refl(a:Acc):a.le a:=⟨fun _ h=>h,fun _ h=>h⟩
theorem Acc.le_trans{a b c:Acc}(h:a.le b)(h':b.le c):a.le c:=⟨fun x d=>h'.1 x (h.1 x d),fun x d=>h'.2 x (h.2 x d)⟩
def Acc.only(j:Nat)(a b:Acc):Prop:=∀ x∈b.W,x.1<j→x∈a.W
theorem V5{ops:Array Oper}{j:Nat}{o:Oper}{s:al}{a b:Acc}(g:a.ok ops j)(h:D4 τ ops j o s a=some b) :
  b.ok ops (j+1)∧a.le b∧(cW τ.pf o.op=.read→∀ id,lq s.eval o.op=some id→(j,id)∈b.R)∧(cW τ.pf o.op=.write→(j,jM τ s.eval s.H o.op,s.H.length)∈b.W):=by
 unfold D4 at h;split at h
 ·rename_i hc
  cases h;exact⟨Acc.vU g,a.le_refl,(fun h=>by rw[hc]at h; cases h),(fun h=>by rw[hc]at h; cases h)⟩
 ·rename_i hc
  split at h
  ·rename_i id hid
   obtain⟨g1,g2,g3⟩:=V4 g h;refine⟨g1,g2,fun _ k d=>?_,(fun h=>by rw[hc]at h; cases h)⟩;rw[hid]at d;cases d;exact g3
  ·rename_i hid
   cases h;refine⟨Acc.vU g,a.le_refl,fun _ k d=>?_,(fun h=>by rw[hc]at h; cases h)⟩;rw[hid]at d;cases d
 ·rename_i hc
  obtain⟨g1,g2,g3⟩:=KZ g h;exact⟨g1,g2,(fun h=>by rw[hc]at h; cases h),fun _=>g3⟩
theorem K2{ops:Array Oper}{j:Nat}{o:Oper}{s:al}{v:AV}{H':List ak}{b c:Acc}(k:b.le c)(hr:cW τ.pf o.op=.read→∀ id,lq s.eval o.op=some id→(j,id)∈b.R)
  (hw:cW τ.pf o.op=.write→(j,jM τ s.eval s.H o.op,s.H.length)∈b.W) (hk:cW τ.pf o.op=.write→∀ A,A∉jM τ s.eval s.H o.op→A<s.H.length→H'[A]? = s.H[A]?)
  (q:lr o.op=true→oP ops=true→cW τ.pf o.op=.write→bT ops s.den.fr o=some true→∀ σ,zb c.W j s.den.H σ→Yields P τ.pf ops o ⟨s.den.fr,nu σ s.den.H⟩ v (nu σ (aj H'))) :
  (d:(qu ops&&ep o.op)=false)→Step P τ.pf ops c.R c.W j o s.den v (aj H'):=by
 intro d;refine⟨fun hc A B=>?_,fun hc _ id hid=>k.1 _ (hr hc id (by rw[←al.nv]; exact hid)),fun h1 g _=>(by rw[h1,g]at d; cases d),q⟩;have:=B _ (k.2 _ (hw hc)) rfl;have g:=hk hc A this.1 this.2;show (aj H')[A]? = (aj s.H)[A]?
 simp only[aj,cq,g]
theorem step_skip{ops:Array Oper}{j:Nat}{o:Oper}{s:al}{c:Acc}(hw:bT ops s.fr o=some false):Step P τ.pf ops c.R c.W j o s.den (.tuple []) (aj s.H) :=
 ⟨fun _ _ _=>rfl,fun _ h=>(by rw[show s.den.fr=s.fr from rfl,hw]at h; cases h),fun _ _ _=>⟨rfl,fun _ h=>(h rfl).elim⟩,fun _ _ _ h=>(by rw[show s.den.fr=s.fr from rfl,hw]at h; cases h)⟩
theorem K3(k:ai P τ){f:FuncId}{args:List AV}{v:AV}(A:τ.N f=true):∀(σ:List (Nat × af)) (H H':List ak),τ.W f args H=some (true,v,H')→(∀ p∈σ,p.1<H.length∧p.1∉τ.C f args H) →
  ∃ g d,aj g=nu σ (aj H)∧aj d=nu σ (aj H')∧τ.W f args g=some (true,v,d)
 | [],H,H',h,_=>⟨H,H',rfl,rfl,h⟩
 | p::σ,H,H',h,B=>by
  obtain⟨I,a2⟩:=B p cZ;obtain⟨h1,J⟩:=k.F.2 f A args H true v H' h p.1 (.raw p.2) I a2;obtain⟨g,d,M,O,R⟩:=K3 k A σ _ _ h1 fun q U=>by
   obtain⟨b1,Y⟩:=B q (cU _ U);rw[J];exact⟨by simpa using b1,Y⟩
  refine⟨g,d,?_,?_,R⟩
  ·rw [M, eu]
   rfl
  ·rw [O, eu]
   rfl
theorem V6{o:Oper}{s:al}{k:AV→List ak→Tree}{f:FuncId}{args:List AV}{b:Bool}{v:AV}{H':List ak}(d:lr o.op=true)(hc:cW τ.pf o.op=.write)(g:eU s.eval o.op=some (f,args))(A:τ.W f args s.H=some (b,v,H')) :
  oY P τ o s k=.side b (k v H'):=by
 unfold lr at d;split at d
 ·rename_i c q
  unfold oY;rw[q]at hc g⊢;simp only[hc,g,A]
 ·cases d
theorem K4{z:List Value}:∀{H:List ak} {i j:Nat} {ks:List Kd} {g:List G},qD z H i=some (j,ks,g)→i≤j∧H[j-i]? = some (.vec ks 0 [])∧tb ks z=some g
 | [],_,_,_,_,h=>by cases h
 | o::H,i,j,ks,g,h=>by
  have next:qD z H (i+1)=some (j,ks,g)→i≤j∧(o::H)[j-i]? = some (.vec ks 0 [])∧tb ks z=some g:=by
   intro h;obtain⟨h1,d,k⟩:=K4 h;refine⟨by omega,?_,k⟩;rw[show j-i=(j-(i+1))+1 from by omega];simpa using d
  unfold qD at h;split at h
  ·cases ‹_=_›
  ·rename_i A rows' H' B e
   cases e;split at h
   ·rename_i F q
    split at h
    ·cases h
     exact⟨aI _,by simp,q⟩
    ·exact next h
   ·exact next h
  ·rename_i e
   cases e;exact next h
theorem V7{op:Op}{H H':List ak}{id:Nat}{v:AV}(h:D5 P op H=some (id,v,H')) :
  (∃ t m,op=.alloc t∧oJ P t id m (aj H)=some (v,aj H'))∧H'.length=H.length∧∀ A,A≠id→H'[A]? = H[A]? := by
 unfold D5 at h;split at h
 ·rename_i t
  split at h
  ·rename_i z q
   split at h
   ·rename_i i ks g B
    cases h;obtain⟨_,d,F⟩:=K4 B;rw[jC]at d;have e:=KI F;refine⟨⟨t,mZ ks,rfl,?_⟩,by simp,fun A I=>bH (Ne.symm I)⟩;have hk:ks.length=z.length:=by
     have:=congrArg uS e;simpa[qf,yL]using this
    rw[J9 (mZ ks) q (k:=ks.length) (by rw[bl d]; rfl) hk,eu,←e];rfl
   ·cases h
  ·cases h
 ·cases h
theorem Eb(F:ai P τ){ops:Array Oper}{j:Nat}{o:Oper}{s:al}{a:Acc}{k:al→Acc→Tree}{Q:bk→al→Prop}(hw:bT ops s.fr o=some true)(ha:a.ok ops j)(h:(vS P τ ops j o s a k).holds Q) :
  ∃ v H' b,Yields P τ.pf ops o s.den v (aj H')∧b.ok ops (j+1)∧a.le b∧(∀ c,b.le c→Step P τ.pf ops c.R c.W j o s.den v (aj H'))∧(k (s.put o.dst v H') b).holds Q:=by
 unfold vS at h;split at h
 ·rename_i q
  simp only[aw]at q;split at h
  ·rename_i id v H' hal
   split at h
   ·rename_i b O
    obtain⟨⟨t,m,hop,hv⟩,hlen,hkeep⟩:=V7 hal;obtain⟨g1,g2,g3⟩:=KZ ha O;refine⟨v,H',b,?_,g1,g2,fun c hc=>⟨fun _ A U=>?_,fun hr=>(by rw[qv q.2]at hr; cases hr),fun _ _ _=>⟨?_,fun I hne=>?_⟩,fun hcv=>(by rw[oQ q.2]at hcv; cases hcv)⟩,h⟩
    ·unfold Yields
     rw[show s.den.fr=s.fr from rfl,hw];simp only[qv q.2];exact .inr (.inl ⟨t,id,m,hop,hv⟩)
    ·have := (U _ (hc.2 _ g3) rfl).1
     show (aj H')[A]? = (aj s.H)[A]?
     simp only[aj,cq,hkeep A (by simpa using this)]
    ·show (aj H').length = (aj s.H).length
     simp only[dU,hlen]
    ·refine ⟨_, hc.2 _ g3, rfl, ?_⟩
     have e:I=id:=IY fun e=>hne (by
      show (aj H')[I]? = (aj s.H)[I]?
      simp only[aj,cq,hkeep I e])
     rw[e];exact List.mem_singleton.2 rfl
   ·exact h.elim
  ·exact h.elim
 ·rename_i q
  split at h
  ·exact h.elim
  rename_i hfc;split at h
  ·rename_i b O
   obtain⟨g1,g2,g3,g4⟩:=V5 ha O;by_cases B:(oP ops&&lr o.op)=true∧cW τ.pf o.op=.write
   ·obtain ⟨B, J⟩ := B
    have hca2:=B;simp only[aw]at hca2;have g:D6 τ o s=true:=by
     rw[B]at hfc;simpa using hfc
    unfold D6 at g;rw[J]at g;simp only[]at g;split at g
    case h_2=>cases g
    rename_i f args N;split at g
    case h_2=>cases g
    rename_i hN;obtain⟨⟨b0,v,H'⟩,M⟩:=Option.isSome_iff_exists.1 g;rw[V6 hca2.2 J N M]at h;simp only[Tree.holds]at h;obtain⟨rfl,h⟩:=h;obtain⟨hbody,hcall⟩:=F.W f args s.H true v H' M rfl;have htch:jM τ s.eval s.H o.op=τ.C f args s.H:=by
     unfold jM;rw[N]
    have hcal':∀ d,eU (St.eval ⟨s.den.fr,d⟩) o.op=some (f,args):=fun d=>by
     have e:St.eval ⟨s.den.fr,d⟩=s.eval:=by funext x; cases x<;>rfl
     rw[e];exact N
    have yl:∀ d Y:List af,cg P f args d v Y→Yields P τ.pf ops o ⟨s.den.fr,d⟩ v Y:=fun d Y hx=>by
     unfold Yields;rw[show (St.mk s.den.fr d).fr=s.fr from rfl,hw];simp only[J];exact .inl (.inr ⟨f,args,hcal' d,hbody,hx⟩)
    refine⟨v,H',b,yl _ _ hcall,g1,g2,fun c hc=>K2 hc g3 g4 (fun _ A U hlt=>?_) (fun _ _ _ _ σ hσ=>?_) (by simpa using q),h⟩
    ·exact F.C f args s.H true v H' M A (by rw[←htch]; exact U) hlt
    ·obtain ⟨d,H2',q1,q2,q3⟩:=K3 F hN σ s.H H' M (fun p hp=>by
      obtain⟨hk,_⟩:=hσ p hp;obtain⟨k1,k2⟩:=hk _ (hc.2 _ (g4 J)) rfl;rw[htch]at k1;exact⟨k2,k1⟩)
     rw[←q2,show nu σ s.den.H=aj d from q1.symm];exact yl _ _ (F.W f args d true v H2' q3 rfl).2
   ·obtain ⟨v, H', q1, q2, q3⟩ := zy F hw h
    exact⟨v,H',b,q1,g1,g2,fun c hc=>K2 hc g3 g4 q2 (fun h1 h2 h3=>absurd ⟨by rw[h1,h2]; rfl,h3⟩ B) (by simpa using q),q3⟩
  ·exact h.elim
theorem V8(A:ai P τ){ops:Array Oper}{j:Nat}{o:Oper}{s:al}{a:Acc}{k:al→Acc→Tree}{Q:bk→al→Prop}(g:a.ok ops j)(h:(D7 P τ ops j o s a k).holds Q) :
  ∃ v H' b,Yields P τ.pf ops o s.den v (aj H')∧b.ok ops (j+1)∧a.le b∧(∀ c,b.le c→Step P τ.pf ops c.R c.W j o s.den v (aj H'))∧(k (s.put o.dst v H') b).holds Q:=by
 have skip:bT ops s.fr o=some false→Yields P τ.pf ops o s.den (.tuple []) (aj s.H):=by
  intro hw;unfold Yields;rw[show s.den.fr=s.fr from rfl,hw];exact⟨rfl,rfl⟩
 unfold D7 at h;split at h
 ·exact h.elim
 ·rename_i hw
  exact⟨_,_,a,skip (D_ hw),Acc.vU g,a.le_refl,fun _ _=>step_skip (D_ hw),h⟩
 ·rename_i hw
  exact Eb A (KY hw) g h
 ·rename_i t b want hw
  obtain⟨h1,q⟩:=KX hw;simp only[Tree.holds]at h;cases b with
  | true =>
   have d:=h.1 rfl;rw[zA h1]at d;cases want with
   |true=>exact Eb A q g d
   |false=>exact⟨_,_,a,skip q,Acc.vU g,a.le_refl,fun _ _=>step_skip q,d⟩
  | false =>
   have d:=h.2 rfl;rw[zA h1]at d;cases want with
   |true=>exact⟨_,_,a,skip q,Acc.vU g,a.le_refl,fun _ _=>step_skip q,d⟩
   |false=>exact Eb A q g d
theorem K5(g:ai P τ){ops:Array Oper}{Q:bk→al→Prop}:∀{l:List Oper} {j:Nat} {s:al} {a:Acc} {k:al→Tree},a.ok ops j→(D8 P τ ops l j s a k).holds Q →
  ∃ s' b,sY ops b.R b.W∧a.le b∧sW P τ.pf ops b.R b.W l j s.den s'.den∧(k s').holds Q
 | [],j,s,a,k,d,h=>⟨s,a,d.2.2,a.le_refl,rfl,h⟩
 | o::l,j,s,a,k,d,h=>by
  obtain⟨v,H',b,g1,g2,g3,g4,g5⟩:=V8 g d h;obtain⟨s',c,A,q,B,F⟩:=K5 g g2 g5;exact⟨s',c,A,Acc.le_trans g3 q,⟨v,aj H',g1,g4 c q,B⟩,F⟩
theorem V9{m id:Nat}{ops:Array Oper}{s s':al}{b:Acc}(hm:P.follows .mixedOrders=true)(d:sX τ.pf ops=true)(g:sY ops b.R b.W)(h:sW P τ.pf ops b.R b.W ops.toList 0 s.den s'.den) :
  bU P m (.region id ops true) s.den .normal s'.den:=fun ro _ _ _ k=>Vh hm d g k h (fun _ _ hc=>⟨rfl,hc.toM⟩) ro
theorem vV{K:bk→al→Tree}{Q:bk→al→Prop}:∀{t:Tree},(t.bind K).holds Q→t.holds fun x s=>(K x s).holds Q
 |.fail,h=>h
 |.done _ _,h=>h
 |.ask _ _ _,h=>⟨fun d=>vV (h.1 d),fun d=>vV (h.2 d)⟩
 |.side _ _,h=>⟨h.1,vV h.2⟩
theorem K6{m:Nat}{c:Code}{Q:bk→al→Prop}{body:al→(bk→al→Tree)→Tree}
  (g:∀ s K,(body s K).holds Q→∃ x s',bU P m c s.den x s'.den∧(K x s').holds Q):∀(n:Nat) (s:al) (K:bk→al→Tree),(zu body n s K).holds Q →
  ∃ x s',kn P m c s.den x s'.den∧(K x s').holds Q
 |0,_,_,h=>h.elim
 | n+1,s,K,h=>by
  simp only[zu]at h;obtain⟨x,s1,h1,d⟩:=g _ _ h;cases x with
  | normal =>
   obtain⟨y,s2,k,q⟩:=K6 g n s1 K d;exact⟨y,s2,.next h1 k,q⟩
  |exit i=>exact⟨_,s1,.stop h1 (by simp),d⟩
  |ret=>exact⟨_,s1,.stop h1 (by simp),d⟩
theorem dK(hm:P.follows .mixedOrders=true)(q:ai P τ){m:Nat}{L:LT}{Q:bk→al→Prop}:∀(c:Code) (s:al) (K:bk→al→Tree),
  ay P m L c→(bQ P τ L c s K).holds Q→∃ x s',bU P m c s.den x s'.den∧(K x s').holds Q
 |.skip,s,K,_,h=>⟨_,_,U6,h⟩
 | .region id ops draw,s,K,k,h=>by
  simp only[bQ]at h;split at h
  ·rename_i F
   split at h
   ·rename_i U
    simp only[Tree.holds]at h;have R:draw=true:=by
     cases draw with
     |true=>rfl
     |false=>simp at F
    subst R;obtain⟨s',b,h1,_,d,A⟩:=K5 q (a:=⟨[],[]⟩) ⟨by simp,by simp,⟨fun i id hi=>(nomatch hi),fun e he=>(nomatch he)⟩⟩ h.2;exact⟨_,_,sR (k.2.1 id s h.1) (V9 hm U h1 d),A⟩
   ·exact h.elim
  ·rename_i O
   simp only[Tree.holds]at h;obtain⟨s',h1,d⟩:=o9 q h.2;refine⟨_,_,sR (k.2.1 id s h.1) (U9 hm (fun F=>?_) h1),d⟩;rw[F]at O;simpa using O
 | .seq a b,s,K,k,h=>by
  simp only[bQ]at h;have I:ay P m L a:=k.sub (fun p g=>by simp only[bC]; exact bV.2 (.inl g)) (fun p g=>by simp only[bA]; exact bV.2 (.inl g));have J:ay P m L b:=k.sub (fun p g=>by simp only[bC]; exact bV.2 (.inr g)) (fun p g=>by simp only[bA]; exact bV.2 (.inr (bV.2 (.inr g))));obtain⟨x,s1,h1,d⟩:=dK hm q a s _ I h;cases x with
  | normal =>
   simp only[KJ]at d;split at d
   ·rename_i t B
    unfold KM at B;split at B
    ·rename_i i hi
     obtain⟨y,s2,A,N⟩:=k.2.2 i b (by simp only[bA,hi]; exact bV.2 (.inr (bV.2 (.inl (cZ))))) s1 t B _ (vV d);exact⟨y,s2,sS h1 A,N⟩
    ·cases B
   ·obtain ⟨y, s2, A, N⟩ := dK hm q b s1 K J d
    exact⟨y,s2,sS h1 A,N⟩
  |exit id=>exact⟨_,_,Ke h1 (by simp),d⟩
  |ret=>exact⟨_,_,Ke h1 (by simp),d⟩
 | .cond c a b,s,K,k,h=>by
  simp only[bQ]at h;have I:ay P m L a:=k.sub (fun p g=>by simp only[bC]; exact bV.2 (.inl g)) (fun p g=>by simp only[bA]; exact bV.2 (.inl g));have J:ay P m L b:=k.sub (fun p g=>by simp only[bC]; exact bV.2 (.inr g)) (fun p g=>by simp only[bA]; exact bV.2 (.inr g));split at h
  ·rename_i t W
   have M:=KO W;rw[←al.nv]at M;simp only[Tree.holds]at h;cases t with
   | true =>
    obtain⟨x,s1,h1,d⟩:=dK hm q a s K I (h.1 rfl);exact⟨x,s1,Kf M (by simpa using h1),d⟩
   | false =>
    obtain⟨x,s1,h1,d⟩:=dK hm q b s K J (h.2 rfl);exact⟨x,s1,Kf M (by simpa using h1),d⟩
  ·exact h.elim
 | .block id c,s,K,k,h=>by
  simp only[bQ]at h;obtain⟨x,s1,h1,d⟩:=dK hm q c s _ (k.sub (fun p g=>by simpa only[bC]using g) (fun p g=>by simpa only[bA]using g)) h;refine⟨_,s1,DA h1,?_⟩;cases x with
  |normal=>exact d
  | exit i =>
   simp only[KK]at d;simp only[bk.inBlock];split
   ·rename_i e; rw[if_pos e]at d; exact d
   ·rename_i e; rw[if_neg e]at d; exact d
  |ret=>exact d
 | .loop c,s,K,k,h=>by
  simp only[bQ]at h;split at h
  ·rename_i i hi
   split at h
   ·rename_i t Y
    obtain⟨x,s',h1,d⟩:=k.1 i c (by simp only[bC,hi]; exact cZ) s t Y _ (vV h);exact⟨x,s',Kg h1,d⟩
   ·obtain ⟨x, s', h1, d⟩ := K6 (fun s1 K1 hh => dK hm q c s1 K1 (k.sub (fun p g => by simp only [bC, hi]; exact cU _ g) (fun p g => by simpa only [bA] using g)) hh) 400 s K h
    exact⟨x,s',Kg h1,d⟩
  ·exact h.elim
 |.exit id,s,K,_,h=>⟨_,_,U8,h⟩
 |.ret,s,K,_,h=>⟨_,_,U7,h⟩
 |.rangeFunc ..,_,_,_,h=>by simp[bQ,Tree.holds]at h
 |.scope _,_,_,_,h=>by simp[bQ,Tree.holds]at h
 |.label _,_,_,_,h=>by simp[bQ,Tree.holds]at h
 |.goto _,_,_,_,h=>by simp[bQ,Tree.holds]at h
 |.refuse _,_,_,_,h=>by simp[bQ,Tree.holds]at h
end sound
end Go.AL

namespace Go.AL
open Go
variable [Dr]
inductive jj where
 |fail
 |ret (v:AV) (H:List ak)
 |ask (b:Bool) (t e:jj)
 |side (b:Bool) (t:jj)
def jj.holds(Q:AV→List ak→Prop):jj→Prop
 |.fail=>False
 |.ret v H=>Q v H
 |.ask b t e=>(b=true→t.holds Q)∧(b=false→e.holds Q)
 |.side b t=>b=true∧t.holds Q
def jj.two:jj→Option (AV × List ak)
 |.fail=>none
 |.ret v H=>some (v,H)
 |.ask b t e=>bif b then t.two else e.two
 |.side b t=>bif b then t.two else none
def jj.val:jj→Option AV
 |.fail=>none
 |.ret v _=>some v
 |.ask b t e=>bif b then t.val else e.val
 |.side b t=>bif b then t.val else none
theorem zB:∀{t:jj} {v:AV},t.val=some v→t.holds fun u _=>u=v
 |.fail,_,h=>by cases h
 |.ret u H,_,h=>by simp only[jj.val,aT]at h; exact h
 | .ask b t e,v,h=>by
  cases b with
  |true=>exact⟨fun _=>zB (t:=t) (v:=v) h,fun h=>by cases h⟩
  |false=>exact⟨fun h=>(nomatch h),fun _=>zB (t:=e) (v:=v) h⟩
 | .side b t,v,h=>by
  cases b with
  |true=>exact And.intro rfl (zB (t:=t) (v:=v) h)
  |false=>cases h
def Ec(H:List ak):Option (List Kd)→AV→Option (Bool × AV)
 |none,a=>some (true,a)
 | some ks,a=>match a with
  |.nils | .lit (.slice none 0 0)=>some (true,.listF ks [])
  |.listF d rows=>if Kd.gF ks d then some (true,.listF ks rows) else none
  | .list w rows=>match nw ks rows with
   |some gs=>if w=ks.length then some (true,.listF ks gs) else none
   |none=>none
  | .vec w id ae off n=>match H[id]? with
   |some (.vec d v rows)=>if ae=v∧d.length=w∧off=0∧Kd.gF ks d=true then some (ab n rows.length,.listF ks rows) else none
   |_=>none
  |_=>none
def ly(H:List ak):List (Option (List Kd))→List AV→Option (Bool × List AV)
 |_,[]=>some (true,[])
 | [],a::as=>match ly H [] as with
  |some (b,d)=>some (b,a::d)
  |none=>none
 | c::cs,a::as=>match Ec H c a,ly H cs as with
  |some (b,g),some (k,d)=>some (b&&k,g::d)
  |_,_=>none
theorem V_{E:Env}(HE:ar E){H:List ak}(hH:E.H=aj H){k:Option (List Kd)}{a d:AV}{b:Bool}{c:Value}(h:Ec H k a=some (b,d))(A:b=true)(q:d.closed=true)(hr:rel E a c) :
  rel (E.bare E.w) d c:=by
 unfold Ec at h;split at h
 ·cases h; exact dI (oZ E) _ q hr
 ·rename_i ks
  split at h
  ·cases h
   simp only[rel,dC,G.rows]at hr⊢;obtain⟨base,rfl⟩:=hr;exact⟨base,0,rfl,aI _,.inl trivial⟩
  ·cases h
   simp only[rel,dC,G.rows]at hr⊢;subst hr;exact⟨none,0,rfl,aI _,.inl trivial⟩
  ·split at h
   ·rename_i B
    cases h;rw[Kd.iO B];exact dI (oZ E) _ rfl hr
   ·cases h
  ·split at h
   ·rename_i gs F
    split at h
    ·rename_i hw
     cases h;rw[jI,sZ F];subst hw;exact dI (oZ E) _ rfl hr
    ·cases h
   ·cases h
  ·split at h
   ·rename_i hid
    split at h
    ·rename_i hc
     obtain⟨rfl,I,rfl,g⟩:=hc;simp only[aT,aZ]at h;obtain⟨h1,rfl⟩:=h;subst A;have g:=Kd.iO g;subst g;exact KQ HE hH hid I (bt h1) hr
    ·cases h
   ·cases h
  ·cases h
theorem Ed{E:Env}(HE:ar E){H:List ak}(hH:E.H=aj H):∀{ks:List (Option (List Kd))} {as g:List AV} {b:Bool} {cs:List Value},ly H ks as=some (b,g)→b=true →
  AV.bf g=true→ad E as cs→ad (E.bare E.w) g cs
 | ks,[],g,b,cs,h,_,_,hr=>by
  cases ks<;>simp only[ly]at h<;>cases h<;>(cases cs with
   |nil=>simp[ad]
   |cons _ _=>simp[ad]at hr)
 | [],a::as,g,b,cs,h,q,d,hr=>by
  cases cs with
  |nil=>simp[ad]at hr
  | cons c cs =>
   simp only[ly]at h;simp only[ad]at hr;split at h
   ·rename_i b1 A h1
    cases h;simp only[AV.bf,aw]at d;simp only[ad];exact⟨dI (oZ E) _ d.1 hr.1,Ed HE hH h1 q d.2 hr.2⟩
   ·cases h
 | k::ks,a::as,g,b,cs,h,q,d,hr=>by
  cases cs with
  |nil=>simp[ad]at hr
  | cons c cs =>
   simp only[ly]at h;simp only[ad]at hr;split at h
   ·rename_i b0 a0 b1 A h0 h1
    simp only[aT,aZ]at h;obtain⟨B,rfl⟩:=h;subst B;simp only[aw]at q;simp only[AV.bf,aw]at d;simp only[ad];exact⟨V_ HE hH h0 q.1 d.1 hr.1,Ed HE hH h1 q.2 d.2 hr.2⟩
   ·cases h
def Tree.toR(P:Program)(rs:List ResultVar) (ks:List (Option (List Kd))):Tree→jj
 |.fail=>.fail
 | .done x s=>match x with
  |.exit _=>.fail
  | _=>match fP P s.den rs with
   | some vs=>match ly s.H ks vs with
    |some (b,d)=>.side b (.ret (ct d) s.H)
    |none=>.fail
   |none=>.fail
 |.ask b t e=>.ask b (t.toR P rs ks) (e.toR P rs ks)
 |.side b t=>.side b (t.toR P rs ks)
theorem toR_holds{P:Program}{rs:List ResultVar}{ks:List (Option (List Kd))}{Q:AV→List ak→Prop}:∀{t:Tree},(t.toR P rs ks).holds Q →
  t.holds fun x s=>(x=.normal∨x=.ret)∧∃ vs d,fP P s.den rs=some vs∧ly s.H ks vs=some (true,d)∧Q (ct d) s.H
 |.fail,h=>h
 | .done x s,h=>by
  have key:∀ y,(y=bk.normal∨y=bk.ret)→(match fP P s.den rs with
   | some vs=>match ly s.H ks vs with
    |some (b,d)=>jj.side b (.ret (ct d) s.H)
    |none=>.fail
   |none=>.fail).holds Q→(y=.normal∨y=.ret)∧∃ vs d,fP P s.den rs=some vs∧ly s.H ks vs=some (true,d)∧Q (ct d) s.H:=by
   intro y k h;split at h
   ·rename_i vs q
    split at h
    ·rename_i b d hc
     simp only[jj.holds]at h;obtain⟨rfl,h⟩:=h;exact⟨k,vs,d,q,hc,h⟩
    ·exact h.elim
   ·exact h.elim
  simp only[Tree.toR]at h;simp only[Tree.holds];cases x with
  |exit i=>exact h.elim
  |normal=>exact key _ (.inl rfl) h
  |ret=>exact key _ (.inr rfl) h
 |.ask _ _ _,h=>⟨fun g=>toR_holds (h.1 g),fun g=>toR_holds (h.2 g)⟩
 |.side _ _,h=>⟨h.1,toR_holds h.2⟩
def zC(P:Program)(τ:ah)(L:LT)(fn:Func) (ks:List (Option (List Kd))) (args:List AV) (H:List ak):jj :=
 match fn.body with
 |some c=>(bQ P τ L c ⟨dY args fn.ntmps,H⟩ .done).toR P fn.results.toList ks
 |none=>.fail
theorem Ee{E:Env}{vs:List AV}{us:List Value}(h:ad E vs us):rel E (ct vs) (if h:us.toArray.size=1 then us.toArray[0] else .tuple us.toArray):=by
 cases us with
 | nil =>
  cases vs with
  |nil=>simp[ct,rel,ad]
  |cons _ _=>simp[ad]at h
 | cons u us =>
  cases us with
  | nil =>
   cases vs with
   |nil=>simp[ad]at h
   | cons v vs =>
    cases vs with
    |nil=>simp only[ad]at h; simpa[ct]using h.1
    |cons _ _=>simp[ad]at h
  | cons u2 us =>
   cases vs with
   |nil=>simp[ad]at h
   | cons v vs =>
    cases vs with
    |nil=>simp[ad]at h
    | cons v2 vs =>
     simp only[ct,rel];exact⟨(u::u2::us).toArray,by simp,h⟩
theorem Wa{P:Program}{f:FuncId}{fn:Func}{c:Code}{args:List AV}{x:bk}{s':al}{ks:List (Option (List Kd))}{vs g:List AV}
  (hf:P.funcs[f]? = some fn) (d:fn.body=some c) (hs:bU P 0 c ⟨dY args fn.ntmps,[]⟩ x s'.den) (A:x=.normal∨x=.ret) (hr:fP P s'.den fn.results.toList=some vs)
  (hc:ly s'.H ks vs=some (true,g)) (ha:AV.bf args=true) (M:AV.bf g=true):cV P f args (ct g):=by
 intro H E cargs hH HE O
 let E0:Env:={ w:=E.w,H:=[],loc:=[],X:=(E.X.or E.own).re dP }
 have R:∀ b,¬ E0.own b:=by rintro b (⟨id,c,hid⟩|⟨l,k,c,hk⟩); simp[E0]at hid; simp[E0,dP]at hk
 have hC:E.bG E0:=⟨fun b d=>⟨⟨d.1,R b,fun A=>A.elim d.2.2 d.2.1⟩,rfl⟩⟩
 have J:ar E0:=by
  refine⟨rfl,?_,?_,?_,?_,HE.fb.bG hC,fun l k l' k' b m n hk=>by simp[E0,dP]at hk,fun i b m l k n hi=>by simp[E0]at hi,fun l k b m hk=>by simp[E0,dP]at hk,fun i j o o' l hi=>by simp[E0]at hi,fun l _ k q hk=>by simp[E0,dP]at hk⟩
  ·intro i j b m n hi; simp[E0]at hi
  ·intro i b m hi; simp[E0]at hi
  ·rintro b (A | N)
   ·exact HE.X b A
   ·exact(HE.uU N).1
  ·intro i o hi; simp[E0]at hi
 refine y9 hf d ?_;have W:=mn J;have Y:=ml W _ (oB hC args ha O);have hrel:bj ⟨dY args fn.ntmps,[]⟩ { E0 with X:=⟨E0.X.x,fun _=>False,E0.X.r⟩ } { tmps:=cargs++Array.replicate (fn.ntmps-cargs.size) undef,defers:=[] }:=by
  refine⟨rfl,?_,lb _ _,J.cP W⟩;simp only[dY,Array.toList_append,Array.toList_replicate];refine jd Y ?_;have:=fv O;have e:args.length=cargs.size:=by simpa using this
  rw[e];have:=qt (E:={ E0 with X:=⟨E0.X.x,fun _=>False,E0.X.r⟩ }) (cI (fn.ntmps-cargs.size) undef);simpa using this
 refine wpIn_mono (hs none (y7 _) { E0 with X:=⟨E0.X.x,fun _=>False,E0.X.r⟩ } _ hrel) fun e a1 w0 ⟨h3,loc',X',F,I⟩=>?_;refine⟨by subst h3; rcases A with rfl|rfl; exact .inl rfl; exact .inr rfl,X',F.defers,fun B k1 k2 k3=>?_⟩;obtain⟨F,I⟩:=y_ J F I k1 k2 k3;obtain⟨us,g1,g2⟩:=vq F fn.results.toList vs hr;have hres:(results fn a1.tmps).run P B=.ok (if h:us.toArray.size=1 then us.toArray[0] else .tuple us.toArray) B:=by
  rw[sU];simp only[Sem.run_bind];rw[Array.mapM_eq_mapM_toList,Sem.run_map,g1];rfl
 have g3:=Ed F.heap rfl hc rfl M g2;have g4:=Ee g3;have U:Ext E.w B:=⟨I.size,fun b d=>I.same b d (R b),I.env⟩
 have hcl:(ct g).closed=true:=by
  cases g with
  |nil=>rfl
  | cons v vs =>
   cases vs with
   |nil=>simpa[ct,AV.bf]using M
   |cons v2 vs=>simpa only[ct,AV.closed]using M
 have g5:rel { E with w:=B } (ct g) (if h:us.toArray.size=1 then us.toArray[0] else .tuple us.toArray) :=
  dI (E:=({ w:=B,H:=aj s'.H,loc:=loc',X:=E0.X.re X'.r }:Env).bare B) (E':={ E with w:=B }) ⟨fun b d=>⟨⟨d.1,fun N=>d.2.2 (Or.inr N),fun A=>d.2.2 (Or.inl A)⟩,rfl⟩⟩ _ hcl g4
 refine⟨_,hres,_,ct g,H,rfl,⟨rfl,rfl⟩,E.loc,E.X.r,?_,?_,?_⟩
 ·rw[←hH]; exact g5
 ·rw[←hH]; exact HE.ext U
 ·rw[←hH]; exact Env.gd U
theorem Wb{vs:List AV}{v:AV}(h:ct vs=v)(d:v.closed=true):AV.bf vs=true:=by
 subst h;cases vs with
 |nil=>rfl
 | cons v vs =>
  cases vs with
  |nil=>simpa[ct,AV.bf]using d
  |cons v2 vs=>simpa only[ct,AV.closed]using d
theorem dV{P:Program}{τ:ah}{L:LT}(hm:P.follows .mixedOrders=true)(k:ai P τ){f:FuncId}{fn:Func} (ks:List (Option (List Kd))) {args:List AV} {v:AV}
  (q:∀ c,fn.body=some c→ay P 0 L c)
  (A:P.funcs[f]? = some fn) (B:AV.bf args=true) (F:v.closed=true) (h:(zC P τ L fn ks args []).val=some v):cV P f args v:=by
 have h:=zB h;unfold zC at h;split at h
 ·rename_i c d
  obtain⟨x,s',h1,I,vs,N,J,M,g⟩:=dK hm k c _ _ (q c d) (toR_holds h);rw[←g];exact Wa A d h1 I J M B (Wb g F)
 ·exact h.elim
end Go.AL

namespace Go.AL
open Go
variable [Dr]
def K7(ms:List Nat):ah:={ pf:=fun g=>ms.any fun t=>ab g (t+1000000),T:=fun _ _=>none,W:=fun _ _ _=>none,C:=fun _ _ _=>[],U:=fun _=>false }
theorem Wc(P:Program)(ms:List Nat):ai P (K7 ms):=⟨fun _ _ _ _ h=>(nomatch h),fun _ _ _ _ _ _ h=>(nomatch h),fun _ _ _ _ _ _ h=>(nomatch h),fun _ _ _ _ h=>(nomatch h),fun _ _ _ _=>⟨rfl,rfl⟩,fun _ h=>(nomatch h)⟩
def ah.add(τ:ah)(f:FuncId)(c:List AV→Option (Bool × AV)):ah where
 pf g:=match ab g f with
  |true=>true
  |false=>τ.pf g
 T g args:=match ab g f with
  |true=>c args
  |false=>τ.T g args
 W:=τ.W
 C:=τ.C
 I:=τ.I
 N:=τ.N
 U:=τ.U
theorem ai.add{P:Program}{τ:ah}(h:ai P τ){f:FuncId}{c:List AV→Option (Bool × AV)}(q:dE P f=true)(hc:∀ args b v,c args=some (b,v)→b=true→cV P f args v) :
  ai P (τ.add f c):=by
 refine⟨fun g args b v d k=>?_,h.W,h.C,h.I,h.F⟩;simp only[ah.add]at d;split at d
 ·rename_i e
  have e:=bt e;subst e;exact⟨q,hc args b v d k⟩
 ·exact h.T g args b v d k
def au:LT:=⟨fun _ _=>none,fun _ s=>(true,s),fun _ _=>none⟩
theorem aG(P:Program)(m:Nat)(c:Code):ay P m au c:=⟨fun _ _ _ _ _ h=>(nomatch h),fun _ _ _=>bL.refl _,fun _ _ _ _ _ h=>(nomatch h)⟩
def ah.inline(P:Program)(τ:ah)(f:FuncId)(fn:Func) (ks:List (Option (List Kd))):ah:=τ.add f fun args =>
 match (zC P τ au fn ks args []).val with
 | some v=>match AV.bf args&&v.closed with
  |true=>some (true,v)
  |false=>none
 |none=>none
theorem ai.inline{P:Program}{τ:ah}(h:ai P τ)(hm:P.follows .mixedOrders=true){f:FuncId}{fn:Func}(g:P.funcs[f]? = some fn)(k:dE P f=true) (ks:List (Option (List Kd))) :
  ai P (τ.inline P f fn ks):=h.add k fun args b v hc _=>by
 split at hc
 ·rename_i u hu
  split at hc
  ·rename_i d
   simp only[aw]at d;cases hc;exact dV hm h ks (fun _ _=>aG _ _ _) g d.1 d.2 hu
  ·cases hc
 ·cases hc
abbrev aS(s:ByteArray):AV:=.lit (.string s)
end Go.AL

namespace Go.AL
open Go
variable [Dr]
def vW(slot:Nat)(ks:List Kd)(s:al):al:=⟨s.fr.set slot (.vec ks.length s.H.length 0 0 0),s.H++[.vec ks 0 []]⟩
def isNil:AV→Bool
 |.nils | .lit (.slice none 0 0)=>true
 |_=>false
theorem K8{E:Env}{a:AV}{c:Value}(h:isNil a=true)(hr:rel E a c):∃ base,c=.slice base 0 0:=by
 unfold isNil at h;split at h
 ·simpa only[rel]using hr
 ·simp only[rel]at hr; exact⟨none,hr⟩
 ·cases h
theorem K9{m:Nat}{slot:Nat}{ks:List Kd}{s:al}(h:isNil (s.fr.getD slot .undef)=true):bL m s.den (vW slot ks s).den:=fun E a d=>by
 have hH:E.H=aj s.H:=d.H;have hlen:E.H.length=s.H.length:=by rw[hH,dU]
 have hle:E.le (E.push E.w (.vec ks.length 0 []) none):=Env.jJ d.heap.len (Ext.refl _) (fun b n h=>by cases h);have A:aO (E.push E.w (.vec ks.length 0 []) none) E.H.length (.vec ks.length 0 []):=by
  simp only[aO,Env.push];refine .inl ⟨?_,trivial⟩;rw[gx (by rw[d.heap.len]; exact aI _),d.heap.len,r9];rfl
 have B:ar (E.push E.w (.vec ks.length 0 []) none):=ar.push d.heap (Ext.refl _) (fun b n h=>by cases h) A;have k:(vW slot ks s).den.H=E.H++[.vec ks.length 0 []]:=by
  rw[hH];simp[vW,al.den,aj,ak.den]
 refine⟨E.loc++[none],E.X,?_,?_⟩
 ·rw [k]
  refine⟨k.symm,?_,d.defers,B⟩;have h':=eM hle _ d.fr;have I:∀(fr:List AV) (cs:List Value) (i:Nat),ad E fr cs→isNil (fr.getD i .undef)=true→ad (E.push E.w (.vec ks.length 0 []) none) fr cs →
    ad (E.push E.w (.vec ks.length 0 []) none) (fr.set i (.vec ks.length s.H.length 0 0 0)) cs:=by
   intro fr
   induction fr with
   |nil=>intro cs i h0 h1 g; exact g
   | cons b fr J =>
    intro cs i h0 h1 g;cases cs with
    |nil=>simp[ad]at h0
    | cons c cs =>
     simp only[ad]at h0 g;cases i with
     | zero =>
      simp only[List.set_cons_zero,ad];refine⟨?_,g.2⟩;obtain⟨base,rfl⟩:=K8 (by simpa using h1) h0.1;have M:(E.push E.w (.vec ks.length 0 []) none).H[s.H.length]? = some (.vec ks.length 0 []):=by
       simp only[Env.push];rw[gx (by omega),hlen,r9];rfl
      have F:(E.push E.w (.vec ks.length 0 []) none).loc[s.H.length]? = some none:=by
       simp only[Env.push];rw[gx (by rw[d.heap.len]; omega),d.heap.len,hlen,r9];rfl
      simp only[rel];refine⟨⟨base,0,rfl,aI _,fun h=>absurd h (Cw _)⟩,⟨_,M,fun v h=>j5 _⟩,fun _=>⟨fun _=>⟨trivial,trivial,base,rfl⟩,fun b m q=>?_⟩⟩;rw[F]at q;cases q
     | succ i =>
      simp only[List.set_cons_succ,ad];exact⟨g.1,J cs i h0.2 (by simpa using h1) g.2⟩
  exact I s.fr _ slot d.fr h h'
 ·rw [k]
  exact hle.toM
def c9(fn:Func)(k:Nat):Code:=match fn.body with
 | some c=>match (bC c).find? fun p=>ab p.1 k with
  |some p=>p.2
  |none=>.skip
 |none=>.skip
theorem zF{P:Program}{f:FuncId}{vs:List Value}{u:Value}(h:∀ w,Calls P f vs.toArray w fun e w'=>e=.returned u∧Ext w w'):cV P f (vs.map .lit) (.lit u):=by
 intro H E cargs hH HE g;have e:cargs=vs.toArray:=by
  have:∀(vs us:List Value),ad E (vs.map AV.lit) us→us=vs:=by
   intro vs
   induction vs with
   | nil=>intro us h; cases us with
    |nil=>rfl
    |cons _ _=>simp[ad]at h
   | cons v vs k =>
    intro us h;cases us with
    |nil=>simp[ad]at h
    | cons u us =>
     simp only[dA,ad,rel]at h;rw[h.1,k us h.2]
  have:=this vs cargs.toList g;rw[←this]
 rw[e];refine(h E.w).mono ?_;rintro _ w' ⟨rfl,d⟩;refine⟨u,.lit u,H,rfl,⟨rfl,rfl⟩,E.loc,E.X.r,by simp[rel],?_,?_⟩
 ·rw[←hH]; exact HE.ext d
 ·rw[←hH]; exact Env.gd d
end Go.AL

namespace Go.AL
open Go
variable [Dr]
def nz(ks:List Kd):AV→Option (List (List G))
 |.nils | .lit (.slice none 0 0)=>some []
 |.emptyS _=>some []
 |.listF d rows=>if Kd.gF ks d then some rows else none
 | .list w rows=>match nw ks rows with
  |some gs=>if w=ks.length then some gs else none
  |none=>none
 |_=>none
def Ef(ks:List Kd):AV→Option (List G)
 |.agg cells=>fQ ks cells
 |_=>none
theorem K_{E:Env}{ks:List Kd}{a:AV}{rows:List (List G)}{c:Value}(h:nz ks a=some rows)(hr:rel E a c):rel E (.listF ks rows) c:=by
 unfold nz at h;split at h
 ·cases h
  simp only[rel,dC,G.rows]at hr⊢;obtain⟨base,rfl⟩:=hr;exact⟨base,0,rfl,aI _,.inl trivial⟩
 ·cases h
  simp only[rel,dC,G.rows]at hr⊢;subst hr;exact⟨none,0,rfl,aI _,.inl trivial⟩
 ·cases h
  simp only[rel,dC,G.rows]at hr⊢;obtain⟨base,cap,rfl,_⟩:=hr;exact⟨base,cap,rfl,j5 _,.inl trivial⟩
 ·split at h
  ·rename_i d
   cases h;rw[Kd.iO d];exact hr
  ·cases h
 ·split at h
  ·rename_i gs g
   split at h
   ·rename_i hw
    cases h;rw[jI,sZ g];subst hw;exact hr
   ·cases h
  ·cases h
 ·cases h
theorem La{ks:List Kd}{a:AV}{r:List G}(h:Ef ks a=some r):a=.agg (aD ks r):=by
 unfold Ef at h;split at h
 ·rw[kp h]
 ·cases h
end Go.AL

namespace Go.AL
open Go
variable [Dr]
structure bJ where
 ids:List Nat
 sh:List Nat
 base:Nat
def bJ.at(e:bJ)(j:Nat):Nat:=match e.ids[j]? with
 |some i=>i
 |none=>e.base+(j-e.ids.length)
def bJ.up(e:bJ)(j:Nat):Nat:=e.sh.getD j 0
mutual
def AV.cF(e:bJ):AV→AV
 |.agg cs=>.agg (AV.jN e cs)
 |.tuple cs=>.tuple (AV.jN e cs)
 |.clo f cs=>.clo f (AV.jN e cs)
 |.ptr id ae k row col=>.ptr (e.at id) (ae+e.up id) k row col
 |.vec k id ae off n=>.vec k (e.at id) (ae+e.up id) off n
 |.map id=>.map (e.at id)
 |a=>a
def AV.jN(e:bJ):List AV→List AV
 | []=>[]
 |a::as=>a.cF e::AV.jN e as
end
def af.cF(e:bJ)(j:Nat):af→af
 |.box cells=>.box (AV.jN e cells)
 |.vec k v rows=>.vec k (v+e.up j) rows
 |o=>o
theorem Lb(e:bJ):∀(as:List AV),(AV.jN e as).length=as.length
 | []=>rfl
 |_::as=>by simp[AV.jN,Lb e as]
mutual
def AV.bW:AV→Bool
 |.agg cs | .tuple cs | .clo _ cs=>AV.cw cs
 |.list .. | .listF .. | .cptr _=>false
 |_=>true
def AV.cw:List AV→Bool
 | []=>true
 |a::as=>a.bW&&AV.cw as
end
structure qG (S:Bool) (e:bJ) (E E':Env):Prop where
 ok:S=false→∀ b,E.ic b→E'.ic b∧E'.w.heap[b]? = E.w.heap[b]?
 past:∀ j ae,E.past j ae→E'.past (e.at j) (ae+e.up j)
 live:∀ j ae,E.past j ae→E'.live (e.at j) (ae+e.up j)→E.live j ae∧E'.loc[e.at j]? = E.loc[j]?
theorem qG.bG{e:bJ}{E E':Env}(h:qG false e E E'):E.bG E':=⟨h.ok rfl⟩
mutual
theorem Eg{S:Bool}{e:bJ}{E E':Env}(h:qG S e E E'):∀(a:AV) {c:Value},(S=true→a.bW=true)→rel E a c→rel E' (a.cF e) c
 |.undef,_,_,_=>by simp[AV.cF,rel]
 |.lit v,c,_,hr=>by simpa only[AV.cF,rel]using hr
 |.nils,c,_,hr=>by simpa only[AV.cF,rel]using hr
 | .list k rows,c,g,hr=>by
  cases S with
  |true=>exact absurd (g rfl) (by simp[AV.bW])
  |false=>exact dI h.bG (.list k rows) rfl hr
 | .listF ks rows,c,g,hr=>by
  cases S with
  |true=>exact absurd (g rfl) (by simp[AV.bW])
  |false=>exact dI h.bG (.listF ks rows) rfl hr
 | .cptr cells,c,g,hr=>by
  cases S with
  |true=>exact absurd (g rfl) (by simp[AV.bW])
  |false=>exact dI h.bG (.cptr cells) rfl hr
 |.ifc,c,_,hr=>by simpa only[AV.cF,rel]using hr
 |.emptyS n,c,_,hr=>by simpa only[AV.cF,rel]using hr
 | .agg cells,c,g,hr=>by
  simp only[rel]at hr;simp only[AV.cF,rel];obtain⟨cs,A,h1,d⟩:=hr;exact⟨cs,A,h1,zG h cells (fun e=>by simpa only[AV.bW]using g e) d⟩
 | .tuple cells,c,g,hr=>by
  simp only[rel]at hr;simp only[AV.cF,rel];obtain⟨cs,A,d⟩:=hr;exact⟨cs,A,zG h cells (fun e=>by simpa only[AV.bW]using g e) d⟩
 | .clo f cells,c,g,hr=>by
  simp only[rel]at hr;simp only[AV.cF,rel];obtain⟨cs,A,d⟩:=hr;exact⟨cs,A,zG h cells (fun e=>by simpa only[AV.bW]using g e) d⟩
 | .ptr id ae k row col,c,_,hr=>by
  simp only[rel]at hr;simp only[AV.cF,rel];obtain⟨h1,d,B⟩:=hr;refine⟨h1,h.past _ _ d,fun q=>?_⟩;obtain⟨g1,g2⟩:=h.live _ _ d q;rw[g2];exact B g1
 | .vec k id ae off n,c,_,hr=>by
  simp only[rel]at hr;simp only[AV.cF,rel];obtain⟨h1,d,B⟩:=hr;refine⟨h1,h.past _ _ d,fun q=>?_⟩;obtain⟨g1,g2⟩:=h.live _ _ d q;rw[g2];exact B g1
 | .map id,c,_,hr=>by
  simp only[rel]at hr;simp only[AV.cF,rel];obtain⟨h1,d,B⟩:=hr;have I:=h.past _ _ d;refine⟨h1,?_,fun q=>?_⟩
  ·obtain ⟨o, F, J⟩ := I
   exact⟨o,F,fun v O=>j5 _⟩
  ·have hu:e.up id=0:=by
    obtain⟨o,F,J⟩:=I;obtain⟨o2,M,N⟩:=q;rw[F]at M;cases M;have:=J 0 N;omega
   obtain⟨g1,g2⟩:=h.live _ _ d (by rw[hu]; exact q);rw[g2];exact B g1
theorem zG{S:Bool}{e:bJ}{E E':Env}(h:qG S e E E'):∀(as:List AV) {vs:List Value},(S=true→AV.cw as=true)→ad E as vs→ad E' (AV.jN e as) vs
 | [],[],_,_=>by simp[AV.jN,ad]
 | [],_::_,_,hr=>by simp[ad]at hr
 |_::_,[],_,hr=>by simp[ad]at hr
 | a::as,v::vs,d,hr=>by
  simp only[AV.cw,aw]at d;simp only[ad]at hr;simp only[AV.jN,ad];exact⟨Eg h a (fun e=>(d e).1) hr.1,zG h as (fun e=>(d e).2) hr.2⟩
end
structure KeepIn (e:bJ) (E E':Env):Prop where
 ok:∀ b,E.ic b→E'.ic b∧E'.w.heap[b]? = E.w.heap[b]?
 w:E'.w=E.w
 loc:∀ j,j<e.ids.length→E'.loc[j]? = E.loc[e.at j]?
 jk:∀(j:Nat) o l,E'.H[j]? = some o→o.label=some l→E'.X.r l=E.X.r l
theorem KeepIn.bG{e:bJ}{E E':Env}(h:KeepIn e E E'):E.bG E':=⟨h.ok⟩
structure qH (e:bJ) (jl:List Nat) (E E':Env):Prop extends KeepIn e E E' where
 Lc:∀ i,i∈jl→∀ b n,E.loc[i]? = some (some (b,n))→E'.ic b
def ev{α:Type}:List α→List Nat→List α→List α
 |l,i::is,x::xs=>ev (l.set i x) is xs
 |l,_,_=>l
theorem o_{α:Type}:∀(is:List Nat) (l xs:List α),(ev l is xs).length=l.length
 | [],_,_=>by simp[ev]
 |_::_,_,[]=>by simp[ev]
 |i::is,l,x::xs=>by simp[ev,o_ is]
theorem zH{α:Type}:∀(is:List Nat) (l xs:List α) (n:Nat),n∉is→(ev l is xs)[n]? = l[n]?
 | [],_,_,_,_=>by simp[ev]
 |_::_,_,[],_,_=>by simp[ev]
 | i::is,l,x::xs,n,h=>by
  simp only[bI,not_or]at h;simp only[ev];rw[zH is _ xs n h.2,bH (Ne.symm h.1)]
theorem Ld{α:Type}:∀(is:List Nat) (l xs:List α) (j i:Nat) (x:α),is.Nodup→is[j]? = some i→xs[j]? = some x→i<l.length→(ev l is xs)[i]? = some x
 | [],_,_,_,_,_,_,h,_,_=>by simp at h
 |_::_,_,[],_,_,_,_,_,h,_=>by simp at h
 | k::is,l,y::xs,0,i,x,hn,h1,d,g=>by
  simp at h1 d;subst h1; subst d;simp only[ev];have:k∉is:=(jG.1 hn).1;rw[zH is _ xs k this,List.getElem?_set_self g]
 | k::is,l,y::xs,j+1,i,x,hn,h1,d,g=>by
  simp only[ev];exact Ld is _ xs j i x (jG.1 hn).2 (by simpa using h1) (by simpa using d) (by simpa using g)
def af.zI(e:bJ)(j:Nat):af→Bool
 |.dead=>true
 |.vec _ _ _=>true
 |_=>ab (e.up j) 0
def kz(e:bJ):Nat→List af→List af
 |_,[]=>[]
 |j,o::os=>o.cF e j::kz e (j+1) os
def jO(e:bJ):Nat→List af→Bool
 |_,[]=>true
 |j,o::os=>o.zI e j&&jO e (j+1) os
theorem Eh(e:bJ):∀(j:Nat) (os:List af),(kz e j os).length=os.length
 |_,[]=>rfl
 |j,_::os=>by simp[kz,Eh e (j+1) os]
theorem Le(e:bJ):∀(j:Nat) (os:List af) (i:Nat),(kz e j os)[i]? = (os[i]?).map (af.cF e (j+i))
 |_,[],i=>by simp[kz]
 |j,o::os,0=>by simp[kz]
 | j,o::os,i+1=>by
  simp only[kz,List.getElem?_cons_succ,Le e (j+1) os i];rw[show j+1+i=j+(i+1) from by omega]
theorem Lf{e:bJ}:∀{j:Nat} {os:List af} {i:Nat} {o:af},jO e j os=true→os[i]? = some o→o.zI e (j+i)=true
 |_,[],i,_,_,h=>by simp at h
 | j,_::os,0,o,h,hi=>by
  simp only[jO,aw]at h;simp at hi;subst hi;exact h.1
 | j,_::os,i+1,o,h,hi=>by
  simp only[jO,aw]at h;have:=Lf h.2 (by simpa using hi)
  rwa [show j+1+i=j+(i+1) from by omega]at this
theorem zJ{e:bJ}{j:Nat}{o:af}(h:o.zI e j=true)(v:Nat):(o.cF e j).aH = some v↔∃ u,o.aH = some u∧v=u+e.up j:=by
 cases o with
 |dead=>simp[af.cF,af.aH]
 |vec k u rows=>simp[af.cF,af.aH,eq_comm]
 | box cells =>
  have:=bt h;simp[af.cF,af.aH,this,eq_comm]
 | map es cl =>
  have:=bt h;simp[af.cF,af.aH,this,eq_comm]
 | iter s p =>
  have:=bt h;simp[af.cF,af.aH,this,eq_comm]
 | eQ l T B s =>
  have:=bt h;simp[af.cF,af.aH,this,eq_comm]
 | a7 l k es cl =>
  have:=bt h;simp[af.cF,af.aH,this,eq_comm]
theorem Lh(e:bJ)(j:Nat)(o:af):(o.cF e j).label=o.label:=by cases o<;>rfl
def af.bW:af→Bool
 |.box cells=>AV.cw cells
 |.vec _ _ rows=>rows.all fun r=>AV.cw r
 |.map es _=>es.all fun x=>x.1.bW&&x.2.1.bW
 | .a7 _ _ es _=>es.all fun x=>x.1.bW&&(match x.2.1 with
  |some rows=>rows.all fun r=>AV.cw r
  |none=>true)
 |_=>true
theorem Li{S:Bool}{e:bJ}{E E':Env}(h:qG S e E E'){b:Nat}(g:E'.w.heap[b]? = E.w.heap[b]?):∀(as:List AV) {o:Nat},(S=true→AV.cw as=true)→ca E as b o→ca E' (AV.jN e as) b o
 | [],_,_,_=>by simp[AV.jN,ca]
 | a::as,o,d,hr=>by
  simp only[AV.cw,aw]at d;simp only[ca]at hr;simp only[AV.jN,ca];obtain⟨⟨v,h1,k,q⟩,A⟩:=hr;exact⟨⟨v,by rw[World.sf g]; exact h1,k,Eg h a (fun e=>(d e).1) q⟩,Li h g as (fun e=>(d e).2) A⟩
mutual
theorem zK{E E':Env}:∀(a:AV) {c:Value},a.closed=true→a.bW=true→rel E a c→rel E' a c
 |.undef,_,_,_,_=>by simp[rel]
 |.lit v,c,_,_,hr=>by simpa only[rel]using hr
 |.nils,c,_,_,hr=>by simpa only[rel]using hr
 |.ifc,c,_,_,hr=>by simpa only[rel]using hr
 |.emptyS n,c,_,_,hr=>by simpa only[rel]using hr
 |.list ..,_,_,h,_ | .listF ..,_,_,h,_ | .cptr _,_,_,h,_=>by simp[AV.bW]at h
 |.ptr ..,_,h,_,_ | .vec ..,_,h,_,_ | .map _,_,h,_,_=>by simp[AV.closed]at h
 | .agg cells,c,hc,d,hr=>by
  simp only[rel]at hr⊢;obtain⟨cs,e,h1,g⟩:=hr;exact⟨cs,e,h1,zL cells (by simpa only[AV.closed]using hc) (by simpa only[AV.bW]using d) g⟩
 | .tuple cells,c,hc,d,hr=>by
  simp only[rel]at hr⊢;obtain⟨cs,e,g⟩:=hr;exact⟨cs,e,zL cells (by simpa only[AV.closed]using hc) (by simpa only[AV.bW]using d) g⟩
 | .clo f cells,c,hc,d,hr=>by
  simp only[rel]at hr⊢;obtain⟨cs,e,g⟩:=hr;exact⟨cs,e,zL cells (by simpa only[AV.closed]using hc) (by simpa only[AV.bW]using d) g⟩
theorem zL{E E':Env}:∀(as:List AV) {vs:List Value},AV.bf as=true→AV.cw as=true→ad E as vs→ad E' as vs
 | [],[],_,_,_=>by simp[ad]
 | [],_::_,_,_,hr=>by simp[ad]at hr
 |_::_,[],_,_,hr=>by simp[ad]at hr
 | a::as,v::vs,hc,d,hr=>by
  simp only[AV.bf,AV.cw,aw]at hc d;simp only[ad]at hr⊢;exact⟨zK a hc.1 d.1 hr.1,zL as hc.2 d.2 hr.2⟩
end
theorem Lj{E E':Env}{b:Nat}(g:E'.w.heap[b]? = E.w.heap[b]?):∀(as:List AV) {o:Nat},AV.bf as=true→AV.cw as=true→ca E as b o→ca E' as b o
 | [],_,_,_,_=>by simp[ca]
 | a::as,o,hc,d,hr=>by
  simp only[AV.bf,AV.cw,aw]at hc d;simp only[ca]at hr⊢;obtain⟨⟨v,h1,k,q⟩,A⟩:=hr;exact⟨⟨v,by rw[World.sf g]; exact h1,k,zK a hc.1 d.1 q⟩,Lj g as hc.2 d.2 A⟩
theorem Ei{E E':Env}{b k:Nat}(g:E'.w.heap[b]? = E.w.heap[b]?):∀(rs:List (List AV)) {o:Nat},fa rs→(rs.all fun r=>AV.cw r)=true→cL E k rs b o→cL E' k rs b o
 | [],_,_,_,_=>by simp[cL]
 | r::rs,o,hc,d,hr=>by
  simp only[m_,aw]at d;simp only[cL]at hr⊢;exact⟨hr.1,Lj g r (hc r cZ) d.1 hr.2.1,Ei g rs (fun x q=>hc x (cU _ q)) d.2 hr.2.2⟩
theorem Ej{E E':Env}:∀{es:List (AV × AV × Nat)} {ms:List MapEntry},(es.all fun x=>x.1.bW&&x.2.1.bW)=true→bP E es ms→bP E' es ms
 | [],[],_,_=>by simp[bP]
 | (k,v,n)::es,e::ms,d,hr=>by
  simp only[m_,aw]at d;simp only[bP]at hr⊢;obtain⟨h1,A,B,g,q,F⟩:=hr;exact⟨zK k g d.1.1 h1,zK v q d.1.2 A,B,g,q,Ej d.2 F⟩
 | [],_::_,_,hr=>by simp[bP]at hr
 |_::_,[],_,hr=>by simp[bP]at hr
theorem tc{E E':Env}(h:E.bG E'):∀{es:List (AV × AV × Nat)} {ms:List MapEntry},bP E es ms→bP E' es ms
 | [],[],_=>by simp[bP]
 | (k,v,n)::es,e::ms,hr=>by
  simp only[bP]at hr⊢;obtain⟨h1,q,A,d,g,B⟩:=hr;exact⟨dI h k d h1,dI h v g q,A,d,g,tc h B⟩
 | [],_::_,hr=>by simp[bP]at hr
 |_::_,[],hr=>by simp[bP]at hr
theorem Wd{S:Bool}{e:bJ}{E E':Env}(h:qG S e E E'){j:Nat}{o:af}(R:S=true→o.bW=true)(J:E'.loc[e.at j]? = E.loc[j]?) (F:∀ b n,E.loc[j]? = some (some (b,n))→E'.w.heap[b]? = E.w.heap[b]?)
  (Y:∀ l,o.label=some l→E'.X.r l=E.X.r l∧∀(h g m:Nat),(E.X.r l)[h]? = some (some (some (g,m)))→E'.w.heap[g]? = E.w.heap[g]?)
  (N:aO E j o):aO E' (e.at j) (o.cF e j):=by
 cases o with
 |dead=>simp only[af.cF,aO]at *; rw[J]; exact N
 | box cells =>
  simp only[af.cF,aO]at *;obtain⟨b,n,h1,d,A⟩:=N;exact⟨b,n,by rw[J,h1],by rw[Lb]; exact sk (F b n h1) d,Li h (F b n h1) cells (fun e=>by simpa only[af.bW]using R e) A⟩
 | vec k ae rows =>
  simp only[af.cF,aO]at *;rcases N with⟨h1,d⟩|⟨b,m,h1,d,A,M,I⟩
  ·exact .inl ⟨by rw[J,h1],d⟩
  ·refine .inr ⟨b, m, by rw [J, h1], sk (F b m h1) d, A, M, ?_⟩
   cases S with
   |true=>exact Ei (F b m h1) rows M (by simpa only[af.bW]using R rfl) I
   |false=>exact k8 h.bG rows M (F b m h1) I
 | map es clock =>
  simp only[af.cF,aO]at *;obtain⟨b,n,ms,h1,d,A⟩:=N;refine⟨b,n,ms,by rw[J,h1],by rw[F b n h1,d],?_⟩;cases S with
  |true=>exact Ej (by simpa only[af.bW]using R rfl) A
  |false=>exact tc h.bG A
 | iter s pos =>
  simp only[af.cF,aO]at *;obtain⟨b,n,h1,d⟩:=N;exact⟨b,n,by rw[J,h1],by rw[F b n h1,d]⟩
 | eQ l T B s =>
  simp only[af.cF,aO]at *;obtain⟨b,n,p,v,k,q,h1,d,A,M,I,h6⟩:=N;obtain⟨g1,g2⟩:=Y l rfl;exact⟨b,n,p,v,k,q,by rw[J,h1],by rw[F b n h1,d],A,by rw[g1,M],by rw[g1]; exact I,CG (fun g m e=>g2 k g m (by rw[M,e])) h6⟩
 | a7 l k es clock =>
  simp only[af.cF,aO]at *;obtain⟨b,n,ms,h1,d,A,M⟩:=N;obtain⟨g1,g2⟩:=Y l rfl;have U:S=true→∀ x∈es,x.1.bW=true∧∀ rows,x.2.1=some rows→(rows.all fun r=>AV.cw r)=true:=fun e x O=>by
   have I:=dX.1 (by simpa only[af.bW]using R e) x O;simp only[aw]at I;exact⟨I.1,fun rows hr=>by rw[hr]at I; exact I.2⟩
  refine⟨b,n,ms,by rw[J,h1],by rw[F b n h1,d],?_,uT (fun h g m hk=>⟨by rw[g1]; exact hk,g2 h g m hk⟩) (fun i x rows hi O b W hc hr=>?_) M⟩
  ·cases S with
   | true =>
    refine Ej (dX.2 fun x O=>?_) A;obtain⟨y,hy,rfl⟩:=bR.1 O;simp[(U rfl y hy).1,AV.bW]
   |false=>exact tc h.bG A
  ·cases S with
   |true=>exact Ei W rows hc ((U rfl x (fK hi)).2 rows O) hr
   |false=>exact k8 h.bG rows hc W hr
def mo(e:bJ)(H H1:List af):List af:=ev H e.ids (kz e 0 H1)++(kz e 0 H1).drop e.ids.length
theorem gk{e:bJ}{j:Nat}(h:j<e.ids.length):e.ids[j]? = some (e.at j):=by
 simp[bJ.at,h]
theorem qI{e:bJ}{j:Nat}(h:e.ids.length≤j):e.at j=e.base+(j-e.ids.length):=by
 simp[bJ.at,List.getElem?_eq_none h]
theorem Lk{α:Type}{e:bJ}{H xs:List α}(hn:e.ids.Nodup)(d:∀ j,j<e.ids.length→e.at j<H.length)(k:e.base=H.length)(q:e.ids.length≤xs.length)(j:Nat) :
  (ev H e.ids xs++xs.drop e.ids.length)[e.at j]? = xs[j]? := by
 rcases jZ j e.ids.length with h|h
 ·rw [dz (by rw [o_]; exact d j h)]
  have g:j<xs.length:=dN h q;rw[Ld e.ids H xs j (e.at j) xs[j] hn (gk h) (bE g) (d j h),bE g]
 ·rw [qI h, k, gx (by rw [o_]; omega), o_, rY]
  congr 1;omega
theorem Ek{α:Type}{e:bJ}{H xs:List α}{i:Nat}(hi:i∉e.ids)(d:i<H.length):(ev H e.ids xs++xs.drop e.ids.length)[i]? = H[i]? := by
 rw[dz (by rw[o_]; exact d),zH e.ids H xs i hi]
theorem pc{α:Type}{e:bJ}{H xs:List α}{i:Nat}{x:α}(q:e.base=H.length)(h:(ev H e.ids xs++xs.drop e.ids.length)[i]? = some x) :
  (i∉e.ids∧i<H.length∧H[i]? = some x)∨∃ j,i=e.at j:=by
 by_cases hm:i∈e.ids
 ·right
  obtain⟨j,g,rfl⟩:=yj hm;refine⟨j,?_⟩;have:=gk g;rw[bE g]at this;exact(ow this)
 ·rcases jZ i H.length with d | k
  ·left
   exact⟨hm,d,by rw[Ek hm d]at h; exact h⟩
  ·right
   refine⟨e.ids.length+(i-H.length),?_⟩;rw[qI (by omega)];omega
theorem Ll(S:Bool)(jl:List Nat){P:Program}{f:FuncId}{args:List AV}{H0 H:List af}{α:Type}{Ps:α→Prop}{Vf:α→AV}{Hf:α→List af}{e:bJ}(hc:ff P f args H0 fun v H'=>∃ p,Ps p∧v=Vf p∧H'=Hf p)(hk:e.ids.length=H0.length)(hb:e.base=H.length)(hn:e.ids.Nodup)
  (hver:∀ j o,H0[j]? = some o→∃ o',H[e.at j]? = some o'∧∀ v,o'.aH = some v↔∃ u,o.aH = some u∧v=u+e.up j)
  (hobj:∀ E E0,E.H=H→ar E→qH e jl E E0→E0.H=H0→∀ j o,H0[j]? = some o→aO E0 j o) (hu1:∀ p,Ps p→jO e 0 (Hf p)=true) (hl1:∀ p,Ps p→H0.length≤(Hf p).length) (hlent:S=false→jl=[])
  (hSv:S=true→∀ p,Ps p→(Vf p).bW=true) (hSo:S=true→∀ p,Ps p→((Hf p).all af.bW)=true) (hdis:∀ i,i∈jl→i∉e.ids)
  (hlab:∀(j:Nat) o o',H0[j]? = some o→H[e.at j]? = some o'→o'.label=o.label) (hlab1:∀ p,Ps p→∀(j:Nat) o l,(Hf p)[j]? = some o→o.label=some l→∃ o0,H0[j]? = some o0∧o0.label=some l) {args0:List AV}
  (hargs0:∀ E E0 cs,E.H=H→ar E→qH e jl E E0→E0.H=H0→ad E args0 cs→ad E0 args cs) :
  ff P f args0 H fun v H'=>∃ p,Ps p∧v=(Vf p).cF e∧H'=mo e H (Hf p):=by
 intro E cargs J HE hargs;have hElen:E.loc.length=H.length:=by rw[HE.len,J]
 have hat:∀ j,j<e.ids.length→e.at j<H.length:=fun j B=>by
  have hj':j<H0.length:=by omega
  obtain⟨o',h1,_⟩:=hver j H0[j] (bE hj');exact aJ h1
 have hmem:∀ j,j<e.ids.length→e.at j∈e.ids:=fun j B=>fK (gk B)
 let pl:Nat→Prop:=fun l=>∃(j:Nat) (o:af),H0[j]? = some o∧o.label=some l
 have:DecidablePred pl:=fun l=>Classical.propDecidable (pl l)
 let r0:Nat→List (Option (Option (Nat × Nat))):=fun l=>if pl l then E.X.r l else []
 have r0p:∀ l,pl l→r0 l=E.X.r l:=fun l h=>if_pos h;have r0n:∀ l (h:Nat) q,(r0 l)[h]? = some q→pl l∧(E.X.r l)[h]? = some q:=fun l h q R=>by
  by_cases A:pl l
  ·rw[r0p l A]at R; exact⟨A,R⟩
  ·rw[show r0 l=[] from if_neg A]at R; simp at R
 let X0:XS:=⟨fun b=>E.X b∨(∃ i c,i∉e.ids∧i∉jl∧E.loc[i]? = some (some (b,c)))∨∃(l h m:Nat),¬ pl l∧(E.X.r l)[h]? = some (some (some (b,m))),E.X.z,r0⟩
 let loc0:List (Option (Nat × Nat)):=e.ids.map fun i=>E.loc.getD i none
 let E0:Env:={ w:=E.w,H:=H0,loc:=loc0,X:=X0 }
 have hloc0:∀ j,j<e.ids.length→loc0[j]? = E.loc[e.at j]? := fun j B=>by
  simp only[loc0,cq,gk B,iZ];have:e.at j<E.loc.length:=by rw[hElen]; exact hat j B
  rw[cH,bE this];rfl
 have hlen0:loc0.length=e.ids.length:=by simp[loc0]
 have hpast:∀ j ae,E.past (e.at j) ae→j<e.ids.length:=by
  rintro j ae ⟨o,N,_⟩;rcases jZ j e.ids.length with h|h
  ·exact h
  ·have := aJ N
   rw[J,qI h,hb]at this;omega
 have hobj0:∀ j,j<e.ids.length→∃ o o',H0[j]? = some o∧E.H[e.at j]? = some o'∧∀ v,o'.aH = some v↔∃ u,o.aH = some u∧v=u+e.up j:=fun j B=>by
  have hj':j<H0.length:=by omega
  obtain⟨o',h1,d⟩:=hver j H0[j] (bE hj');exact⟨H0[j],o',bE hj',by rw[J]; exact h1,d⟩
 have hown0:∀ b,E0.own b→E.own b:=by
  rintro b (⟨id,c,hid⟩|⟨l,k,c,I⟩)
  case inr=>exact .inr ⟨l,k,c,(r0n l k _ I).2⟩
  have F:=aJ hid;rw[show E0.loc=loc0 from rfl]at hid F;rw[hlen0]at F;rw[hloc0 id F]at hid;exact .inl ⟨_,c,hid⟩
 have hin:KeepIn e E E0:=by
  refine⟨fun b Y=>⟨⟨Y.1,fun N=>Y.2.1 (hown0 b N),?_⟩,rfl⟩,rfl,hloc0,fun j o l h1 d=>r0p l ⟨j,o,h1,d⟩⟩;rintro(M|⟨i,c,_,_,hi⟩|⟨l,k,c,_,I⟩)
  ·exact Y.2.2 M
  ·exact Y.2.1 (.inl ⟨i,c,hi⟩)
  ·exact Y.2.1 (.inr ⟨l,k,c,I⟩)
 have hpin:∀ j ae,E.past (e.at j) (ae+e.up j)→E0.past j ae:=fun j ae A=>by
  obtain⟨o,oo,h1,d,h3⟩:=hobj0 j (hpast j _ A);obtain⟨o',h4,h5⟩:=A;rw[d]at h4;cases h4;refine⟨o,h1,fun v hv=>?_⟩;have:=h5 (v+e.up j) ((h3 _).2 ⟨v,hv,rfl⟩);omega
 have hout0:∀ i b n,i∉e.ids→E.loc[i]? = some (some (b,n))→¬ E0.own b:=by
  rintro i b n hi hbn (⟨id,c',hid⟩|⟨l,k,c,I⟩)
  case inr=>exact HE.dj _ _ _ _ _ _ hbn (r0n l k _ I).2
  have F:=aJ hid;rw[show E0.loc=loc0 from rfl]at hid F;rw[hlen0]at F;rw[hloc0 id F]at hid;have:=HE.inj _ _ _ _ _ hbn hid;exact hi (this▸hmem id F)
 have hlin:qH e jl E E0:=by
  refine⟨hin,fun i hi b n hbn=>⟨(HE.lt _ _ _ hbn).1,hout0 i b n (hdis i hi) hbn,?_⟩⟩;rintro(M|⟨O,c,_,d,U⟩|⟨l,k,c,_,I⟩)
  ·exact(HE.lt _ _ _ hbn).2 M
  ·have := HE.inj _ _ _ _ _ U hbn
   exact d (this▸hi)
  ·exact HE.dj _ _ _ _ _ _ hbn I
 have HE0:ar E0:=by
  have conv:∀{j:Nat} {x:Option (Nat × Nat)},loc0[j]? = some x→j<e.ids.length∧E.loc[e.at j]? = some x:=by
   intro j x M;have F:=aJ M;rw[hlen0]at F;exact⟨F,by rw[←hloc0 j F]; exact M⟩
  refine⟨by rw[show E0.loc=loc0 from rfl,hlen0,hk],?_,?_,?_,?_,HE.fb.bG hin.bG,fun l k l' k' b m n h1 d=>HE.fc l k l' k' b m n (r0n l k _ h1).2 (r0n l' k' _ d).2,fun i b m l k n hi d=>HE.dj _ b m l k n (conv hi).2 (r0n l k _ d).2,?_,?_,?_⟩
  ·intro i j b m n hi B
   obtain⟨i1,i2⟩:=conv hi
   obtain⟨j1,j2⟩:=conv B
   have:=HE.inj _ _ _ _ _ i2 j2;exact(I0 i1 hn).1 (by rw[gk i1,gk j1,this])
  ·intro i b m hi
   obtain⟨i1,i2⟩:=conv hi
   refine⟨(HE.lt _ _ _ i2).1,?_⟩;rintro(M|⟨O,c,hni,_,U⟩|⟨l,k,c,_,I⟩)
   ·exact(HE.lt _ _ _ i2).2 M
   ·have := HE.inj _ _ _ _ _ U i2
    exact hni (this▸hmem i i1)
   ·exact HE.dj _ _ _ _ _ _ i2 I
  ·rintro b (M | ⟨O, c, _, _, U⟩ | ⟨l, k, c, _, I⟩)
   ·exact HE.X b M
   ·exact(HE.lt _ _ _ U).1
   ·exact(HE.cD _ _ _ _ I).1
  ·intro j o N
   have B:j<e.ids.length:=by rw[hk]; exact aJ N
   exact hobj E E0 J HE hlin rfl j o N
  ·intro l k b m h1
   obtain⟨A,d⟩:=r0n l k _ h1;refine⟨(HE.cD _ _ _ _ d).1,?_⟩;rintro(M|⟨O,c,_,_,U⟩|⟨l',k',c,hnp,I⟩)
   ·exact(HE.cD _ _ _ _ d).2 M
   ·exact HE.dj _ _ _ _ _ _ U d
   ·exact hnp ((HE.fc _ _ _ _ _ _ _ d I).1▸A)
  ·intro i j o o' l hi B h1 d
   have i1:i<e.ids.length:=by rw[hk]; exact aJ hi
   have j1:j<e.ids.length:=by rw[hk]; exact aJ B
   obtain⟨_,oi,W,a2,_⟩:=hobj0 i i1;obtain⟨_,oj,b1,b2,_⟩:=hobj0 j j1;have ei:=hlab i o oi hi (by rw[←J]; exact a2);have ej:=hlab j o' oj B (by rw[←J]; exact b2);have:=HE.uniq _ _ _ _ l a2 b2 (by rw[ei,h1]) (by rw[ej,d]);exact(I0 i1 hn).1 (by rw[gk i1,gk j1,this])
  ·intro l hnl k q R
   obtain⟨⟨j,o,h1,d⟩,_⟩:=r0n l k _ R;exact hnl j o h1 d
 refine(hc E0 cargs rfl HE0 (hargs0 E E0 _ J HE hlin rfl hargs)).mono ?_;rintro _ w' ⟨c,v',H',rfl,⟨p,A,hv',hH'⟩,loc1,r1,g1,g2,g3⟩;have hu1:jO e 0 H'=true:=by rw[hH']; exact hu1 p A
 have hl1:H0.length≤H'.length:=by rw[hH']; exact hl1 p A
 have hSv:S=true→v'.bW=true:=fun h=>by rw[hv']; exact hSv h p A
 have hSo:S=true→(H'.all af.bW)=true:=fun h=>by rw[hH']; exact hSo h p A
 have hlab1:∀(j:Nat) o l,H'[j]? = some o→o.label=some l→∃ o0,H0[j]? = some o0∧o0.label=some l:=by rw[hH']; exact hlab1 p A
 let r':Nat→List (Option (Option (Nat × Nat))):=fun l=>if pl l then r1 l else E.X.r l
 have rp:∀ l,pl l→r' l=r1 l:=fun l h=>if_pos h;have rn:∀ l,¬ pl l→r' l=E.X.r l:=fun l h=>if_neg h;have hl1':e.ids.length≤H'.length:=by omega
 have hlen1:loc1.length=H'.length:=g2.len;have bu:e.base=E.loc.length:=by rw[hElen]; exact hb
 have hbE:e.base=E.H.length:=by rw[J]; exact hb
 let loc':List (Option (Nat × Nat)):=ev E.loc e.ids loc1++loc1.drop e.ids.length
 let E1:Env:={ w:=w',H:=H',loc:=loc1,X:=X0.re r1 }
 let E':Env:={ w:=w',H:=mo e H H',loc:=loc',X:=E.X.re r' }
 have Hin:∀ j,E'.H[e.at j]? = (H'[j]?).map (af.cF e j):=fun j=>by
  have:=Lk (e:=e) (H:=H) (xs:=kz e 0 H') hn hat hb (by rw[Eh]; exact hl1') j;rw[Le,dO]at this;exact this
 have fi:∀ j,E'.loc[e.at j]? = loc1[j]? := fun j =>
  Lk (e:=e) (H:=E.loc) (xs:=loc1) hn (fun j B=>by rw[hElen]; exact hat j B) bu (by rw[hlen1]; exact hl1') j
 have Hout:∀ i,i∉e.ids→i<H.length→E'.H[i]? = E.H[i]? := fun i hi F=>by
  rw[J];exact Ek (e:=e) hi F
 have Lout:∀ i,i∉e.ids→i<H.length→E'.loc[i]? = E.loc[i]? := fun i hi F=>Ek (e:=e) hi (by rw[hElen]; exact F);have hu1':∀(j:Nat) (o:af),H'[j]? = some o→o.zI e j=true:=fun j o N=>by
  have:=Lf hu1 N
  rwa [dO]at this
 have own':∀ b,E'.own b→E1.own b∨(∃ i c,i∉e.ids∧E.loc[i]? = some (some (b,c)))∨∃(l h m:Nat),¬ pl l∧(E.X.r l)[h]? = some (some (some (b,m))):=by
  rintro b (⟨i,c,hi⟩|⟨l,k,c,I⟩)
  ·rcases pc (e := e) bu hi with ⟨h1, _, h3⟩ | ⟨j, rfl⟩
   ·exact .inr (.inl ⟨i,c,h1,h3⟩)
   ·rw [fi j] at hi
    exact .inl (.inl ⟨j,c,hi⟩)
  ·have I : (r' l)[k]? = some (some (some (b, c))) := I
   by_cases A:pl l
   ·rw [rp l A] at I
    exact .inl (.inr ⟨l,k,c,I⟩)
   ·rw [rn l A] at I
    exact .inr (.inr ⟨l,k,c,A,I⟩)
 have hout:qG S e E1 E':=by
  refine⟨fun hS b Y=>⟨⟨Y.1,fun N=>?_,fun M=>Y.2.2 (Or.inl M)⟩,rfl⟩,fun j ae A=>?_,fun j ae A hl=>?_⟩
  ·rcases own' b N with h | ⟨i, c, h1, d⟩ | h
   ·exact Y.2.1 h
   ·exact Y.2.2 (Or.inr (.inl ⟨i,c,h1,by rw[hlent hS]; exact List.not_mem_nil,d⟩))
   ·exact Y.2.2 (Or.inr (.inr h))
  ·obtain ⟨o, h1, d⟩ := A
   refine⟨o.cF e j,by rw[Hin j,show H'[j]? = some o from h1]; rfl,fun v hv=>?_⟩;obtain⟨u,q1,rfl⟩:=(zJ (hu1' j o h1) v).1 hv;have:=d u q1;omega
  ·obtain ⟨o', h1, d⟩ := hl
   rw[Hin j]at h1;obtain⟨o,h3,rfl⟩:=ft.1 h1;obtain⟨u,q1,q2⟩:=(zJ (hu1' j o h3) _).1 d;have:u=ae:=by omega
   subst this;exact⟨⟨o,h3,q1⟩,fi j⟩
 have hle:E.le E':=by
  refine⟨fun i ae A=>?_,g3.size,fun b F N=>g3.same b F (fun h=>N (hown0 b h)),fun b F N h'=>?_,fun i ae A hl=>?_,⟨rfl,rfl⟩,fun l k I=>?_,g3.env⟩
  ·by_cases hi : i ∈ e.ids
   ·obtain ⟨j, B, rfl⟩ := yj hi
    have hat':e.ids[j]=e.at j:=by
     have:=gk B;rw[bE B]at this;exact ow this
    rw[hat']at A⊢;obtain⟨o0,oo,h1,d,h3⟩:=hobj0 j B;obtain⟨o,h4,h5⟩:=A;rw[d]at h4;cases h4;have hj1:j<H'.length:=by omega
    refine⟨H'[j].cF e j,by rw[Hin j,bE hj1]; rfl,fun v hv=>?_⟩;obtain⟨u,q1,rfl⟩:=(zJ (hu1' j _ (bE hj1)) v).1 hv;cases hz:o0.aH with
    | none =>
     have p0:E0.past j (u+1):=⟨o0,h1,fun v hv=>by rw[hz]at hv; cases hv⟩
     obtain⟨o2,r1,r2⟩:=g3.past j _ p0;rw[show E1.H=H' from rfl,bE hj1]at r1;cases r1;have:=r2 u q1;omega
    | some u0 =>
     have p0:E0.past j u0:=⟨o0,h1,fun v hv=>by rw[hz]at hv; cases hv; exact aI _⟩
     obtain⟨o2,r1,r2⟩:=g3.past j _ p0;rw[show E1.H=H' from rfl,bE hj1]at r1;cases r1;have:=r2 u q1;have:=h5 (u0+e.up j) ((h3 _).2 ⟨u0,hz,rfl⟩);omega
   ·obtain ⟨o, h1, d⟩ := A
    have F:=aJ h1;rw[J]at F;exact⟨o,by rw[Hout i hi F]; exact h1,d⟩
  ·rcases own' b h' with h | ⟨i, c, _, d⟩ | ⟨l, k, c, _, d⟩
   ·exact g3.own b F (fun h=>N (hown0 b h)) h
   ·exact N (.inl ⟨i,c,d⟩)
   ·exact N (.inr ⟨l,k,c,d⟩)
  ·have F:i<H.length:=by
    obtain⟨o,h1,_⟩:=A;have:=aJ h1
    rwa [J]at this
   by_cases hi:i∈e.ids
   ·obtain ⟨j, B, rfl⟩ := yj hi
    have hat':e.ids[j]=e.at j:=by
     have:=gk B;rw[bE B]at this;exact ow this
    rw[hat']at A hl⊢;obtain⟨o',r1,r2⟩:=hl;rw[Hin j]at r1;obtain⟨o1,r3,rfl⟩:=ft.1 r1;obtain⟨u,q1,rfl⟩:=(zJ (hu1' j o1 r3) _).1 r2;have p0:=hpin j u A;obtain⟨⟨o0,s1,s2⟩,s3⟩:=g3.live j u p0 ⟨o1,r3,q1⟩;obtain⟨o0',oo,h1,d,h3⟩:=hobj0 j B;rw[show E0.H=H0 from rfl,h1]at s1;cases s1;refine⟨⟨_,d,(h3 _).2 ⟨u,s2,rfl⟩⟩,?_⟩;rw[fi j,←hloc0 j B];exact s3
   ·obtain ⟨o', r1, r2⟩ := hl
    rw[Hout i hi F]at r1;exact⟨⟨o',r1,r2⟩,Lout i hi F⟩
  ·by_cases A : pl l
   ·have := g3.rl l k (by show k < (r0 l).length; rw [r0p l A]; exact I)
    rw[show E0.X.r l=r0 l from rfl,r0p l A]at this;rw[show E'.X.r l=r' l from rfl,rp l A];exact this
   ·rw [show E'.X.r l = r' l from rfl, rn l A]
    exact⟨I,fun _ R=>R⟩
 have lab':∀(j:Nat) o l,H'[j]? = some o→o.label=some l→pl l:=fun j o l h1 d=>by
  obtain⟨o0,W,a2⟩:=hlab1 j o l h1 d;exact⟨j,o0,W,a2⟩
 have labIn:∀(j:Nat) o l,H0[j]? = some o→o.label=some l→∃ o',E.H[e.at j]? = some o'∧o'.label=some l∧e.at j∈e.ids:=fun j o l h1 d=>by
  have j1:j<e.ids.length:=by rw[hk]; exact aJ h1
  obtain⟨_,oj,b1,b2,_⟩:=hobj0 j j1;exact⟨oj,b2,by rw[hlab j o oj h1 (by rw[←J]; exact b2),d],hmem j j1⟩
 have labOut:∀(i:Nat) o l,i∉e.ids→E.H[i]? = some o→o.label=some l→¬ pl l:=fun i o l hi h1 d ⟨j,o0,W,a2⟩=>by
  obtain⟨o',b1,b2,b3⟩:=labIn j o0 l W a2;have:=HE.uniq _ _ _ _ l h1 b1 d b2;exact hi (this▸b3)
 have satOut:∀(l k b m:Nat),¬ pl l→(E.X.r l)[k]? = some (some (some (b,m)))→¬ E0.own b:=by
  rintro l k b m A h1 (⟨id,c',hid⟩|⟨l',k',c,I⟩)
  ·have F := aJ hid
   rw[show E0.loc=loc0 from rfl]at hid F;rw[hlen0]at F;rw[hloc0 id F]at hid;exact HE.dj _ _ _ _ _ _ hid h1
  ·obtain ⟨q1, q2⟩ := r0n l' k' _ I
   exact A ((HE.fc _ _ _ _ _ _ _ h1 q2).1▸q1)
 refine⟨c,v'.cF e,mo e H H',rfl,⟨p,A,by rw[hv'],by rw[hH']⟩,loc',r',Eg hout v' hSv g1,?_,hle⟩;refine⟨?_,?_,?_,fun b M=>dN (HE.X b M) g3.size,?_,HE.fb.bG hle.toC,?_,?_,?_,?_,?_⟩
 ·simp only[loc',mo,fD,o_,List.length_drop,Eh,hElen,hlen1]
 ·intro i j b m n hi B
  rcases pc (e:=e) bu hi with⟨i1,_,i3⟩|⟨O,rfl⟩<;>rcases pc (e:=e) bu B with⟨j1,_,j3⟩|⟨j',rfl⟩
  ·exact HE.inj _ _ _ _ _ i3 j3
  ·rw [fi j'] at B
   exact(g3.own b (HE.lt _ _ _ i3).1 (hout0 i b m i1 i3) (.inl ⟨j',n,B⟩)).elim
  ·rw [fi O] at hi
   exact(g3.own b (HE.lt _ _ _ j3).1 (hout0 j b n j1 j3) (.inl ⟨O,m,hi⟩)).elim
  ·rw [fi O] at hi
   rw[fi j']at B;rw[g2.inj _ _ _ _ _ hi B]
 ·intro i b m hi
  rcases pc (e:=e) bu hi with⟨i1,_,i3⟩|⟨O,rfl⟩
  ·exact⟨dN (HE.lt _ _ _ i3).1 g3.size,(HE.lt _ _ _ i3).2⟩
  ·rw [fi O] at hi
   exact⟨(g2.lt _ _ _ hi).1,fun M=>(g2.lt _ _ _ hi).2 (Or.inl M)⟩
 ·intro i o hi
  have U:=hi;unfold mo at U;rcases pc (e:=e) hb U with⟨i1,i2,i3⟩|⟨j,rfl⟩
  ·refine k_ (E := E) (fun a _ hr => cC hle a hr) (Lout i i1 i2) (fun b n hbn => ?_) (fun l hl => ?_) (HE.obj i o (by rw [J]; exact i3))
   ·exact g3.same b (HE.lt _ _ _ hbn).1 (hout0 i b n i1 hbn)
   ·have A := labOut i o l i1 (by rw [J]; exact i3) hl
    exact⟨rn l A,fun k g m h1=>g3.same g (HE.cD _ _ _ _ h1).1 (satOut l k g m A h1)⟩
  ·have h1 := Hin j
   rw[show E'.H=mo e H H' from rfl,hi]at h1;obtain⟨o1,d,rfl⟩:=ft.1 h1.symm;exact Wd hout (fun e=>dX.1 (hSo e) o1 (fK d)) (fi j) (fun _ _ _=>rfl) (fun l hl=>⟨rp l (lab' j o1 l d hl),fun _ _ _ _=>rfl⟩) (g2.obj j o1 d)
 ·intro l k l' k' b m n h1 d
  have h1:(r' l)[k]? = some (some (some (b,m))):=h1;have d:(r' l')[k']? = some (some (some (b,n))):=d;by_cases A:pl l<;>by_cases hp':pl l'
  ·rw [rp l A] at h1
   rw[rp l' hp']at d;exact g2.fc l k l' k' b m n h1 d
  ·rw [rp l A] at h1
   rw[rn l' hp']at d;exact((g2.cD l k b m h1).2 (.inr (.inr ⟨l',k',n,hp',d⟩))).elim
  ·rw [rn l A] at h1
   rw[rp l' hp']at d;exact((g2.cD l' k' b n d).2 (.inr (.inr ⟨l,k,m,A,h1⟩))).elim
  ·rw [rn l A] at h1
   rw[rn l' hp']at d;exact HE.fc l k l' k' b m n h1 d
 ·intro i b m l k n hi h1
  have h1:(r' l)[k]? = some (some (some (b,n))):=h1;rcases pc (e:=e) bu hi with⟨i1,_,i3⟩|⟨O,rfl⟩
  ·by_cases A : pl l
   ·rw [rp l A] at h1
    exact g3.own b (HE.lt _ _ _ i3).1 (hout0 i b m i1 i3) (.inr ⟨l,k,n,h1⟩)
   ·rw [rn l A] at h1
    exact HE.dj _ _ _ _ _ _ i3 h1
  ·rw [fi O] at hi
   by_cases A:pl l
   ·rw [rp l A] at h1
    exact g2.dj _ _ _ _ _ _ hi h1
   ·rw [rn l A] at h1
    exact(g2.lt _ _ _ hi).2 (.inr (.inr ⟨l,k,n,A,h1⟩))
 ·intro l k b m h1
  have h1:(r' l)[k]? = some (some (some (b,m))):=h1;by_cases A:pl l
  ·rw [rp l A] at h1
   exact⟨(g2.cD _ _ _ _ h1).1,fun M=>(g2.cD _ _ _ _ h1).2 (.inl M)⟩
  ·rw [rn l A] at h1
   exact⟨dN (HE.cD _ _ _ _ h1).1 g3.size,(HE.cD _ _ _ _ h1).2⟩
 ·have inn:∀ (j:Nat) o,E'.H[e.at j]? = some o→∃ o1,H'[j]? = some o1∧o.label=o1.label:=fun j o h=>by
   rw[Hin j]at h;obtain⟨o1,d,rfl⟩:=ft.1 h;exact⟨o1,d,Lh e j o1⟩
  intro i j o o' l hi B h1 d;have U:=hi;have hj':=B;unfold mo at U hj';rcases pc (e:=e) hb U with⟨i1,i2,i3⟩|⟨O,rfl⟩<;>rcases pc (e:=e) hb hj' with⟨j1,j2,j3⟩|⟨j',rfl⟩
  ·exact HE.uniq i j o o' l (by rw[J]; exact i3) (by rw[J]; exact j3) h1 d
  ·obtain ⟨o1, W, a2⟩ := inn j' o' B
   exact(labOut i o l i1 (by rw[J]; exact i3) h1 (lab' j' o1 l W (by rw[←a2,d]))).elim
  ·obtain ⟨o1, W, a2⟩ := inn O o hi
   exact(labOut j o' l j1 (by rw[J]; exact j3) d (lab' O o1 l W (by rw[←a2,h1]))).elim
  ·obtain ⟨o1, W, a2⟩ := inn O o hi
   obtain⟨o2,b1,b2⟩:=inn j' o' B;rw[g2.uniq O j' o1 o2 l W b1 (by rw[←a2,h1]) (by rw[←b2,d])]
 ·intro l hnl k q R
  have R:(r' l)[k]? = some (some q):=R;by_cases A:pl l
  ·rw [rp l A] at R
   refine g2.gT l (fun j o h1 d=>?_) k q R;refine hnl (e.at j) (o.cF e j) ?_ (by rw[Lh,d]);rw[Hin j,show H'[j]? = some o from h1];rfl
  ·rw [rn l A] at R
   refine HE.gT l (fun i o h1 d=>?_) k q R;have F:=aJ h1;rw[J]at F;by_cases hi:i∈e.ids
   ·obtain ⟨j, B, rfl⟩ := yj hi
    have hat':e.ids[j]=e.at j:=by
     have:=gk B;rw[bE B]at this;exact ow this
    rw[hat']at h1;obtain⟨o0,oo,W,a2,_⟩:=hobj0 j B;rw[h1]at a2;cases a2;exact A ⟨j,o0,W,by rw[←hlab j o0 o W (by rw[←J]; exact h1),d]⟩
   ·exact hnl i o (by rw[Hout i hi F]; exact h1) d
theorem frame(S:Bool)(jl:List Nat){P:Program}{f:FuncId}{args:List AV}{H0 H1 H:List af}{v:AV}{e:bJ}(hc:cg P f args H0 v H1)(hk:e.ids.length=H0.length)(N:e.base=H.length)(hn:e.ids.Nodup)
  (q:∀ j o,H0[j]? = some o→∃ o',H[e.at j]? = some o'∧∀ v,o'.aH = some v↔∃ u,o.aH = some u∧v=u+e.up j)
  (A:∀ E E0,E.H=H→ar E→qH e jl E E0→E0.H=H0→∀ j o,H0[j]? = some o→aO E0 j o) (F:jO e 0 H1=true) (I:H0.length≤H1.length) (g:S=false→jl=[])
  (J:S=true→v.bW=true) (M:S=true→(H1.all af.bW)=true) (B:∀ i,i∈jl→i∉e.ids)
  (hlab:∀(j:Nat) o o',H0[j]? = some o→H[e.at j]? = some o'→o'.label=o.label) (k:∀(j:Nat) o l,H1[j]? = some o→o.label=some l→∃ o0,H0[j]? = some o0∧o0.label=some l) {args0:List AV}
  (d:∀ E E0 cs,E.H=H→ar E→qH e jl E E0→E0.H=H0→ad E args0 cs→ad E0 args cs) :
  cg P f args0 H (v.cF e) (mo e H H1) :=
 ff.mono (Ll (α:=Unit) (Ps:=fun _=>True) (Vf:=fun _=>v) (Hf:=fun _=>H1) S jl (ff.mono hc fun O H' h=>⟨(),trivial,h.1,h.2⟩) hk N hn q A (fun _ _=>F) (fun _ _=>I) g (fun h _ _=>J h) (fun h _ _=>M h) B hlab (fun _ _=>k) d) fun O H' ⟨_,_,h1,R⟩=>⟨h1,R⟩
end Go.AL
